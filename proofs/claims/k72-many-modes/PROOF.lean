import PyProof.Rows.All
import Wide.All
import OpenK.AllK
import Wide.FinOn
import HandS.ForMost
import HandS.Defaults
import HandS.Star
import HandS.HeadHook4
import HandS.IsInst
import HandS.Deep
import HandS.FStr
import HandS.Conv
import HandS.More
import HandS.TupAny
import HandS.Zip
import HandS.RaiseMore
import PyProof.Rows.StrMeet
import HandS.Style
import HandS.NoneIn
import HandS.Property
import HandS.DictComp
import PyProof.InstNe
import KE.GoesMore
import KE.GoesEnum
import PyProof.EnumMake
import KE.GoesNew
import KE.KUnpackStar
import KE.KWithOwn
import HandS.ClsMeth
import HandS.HeadNt
import PyProof.EqAt
import PyProof.EqKinds
import PyProof.TupleCall
import HandS.Base
import HandS.Call
import HandS.List
import HandS.OwnEq
import KE.KStateDown
import Lean
import HandS.Head0
import HandS.Head1
import HandS.Head2
import HandS.HeadEnd
import PyProof.StrLawsTight
import PyProof.StrLawsChain
import PySem.Challenge.RW_brimrest_k72_whole_plans_of_many_modes
set_option Elab.async false
set_option linter.all false
set_option maxRecDepth 100000
set_option maxHeartbeats 0
namespace HF
open PySem PySem.Spec PyProof.Rows L2
def isCB (K : PySem.W.Frag) (c : Str) : Bool := decide (PySem.W.findIn K (.ref (He.ga K c)) "__class__" = some (some (.builtin "object.__class__"))) && (decide (PySem.W.specialIn K (.builtin "object.__class__") "__get__" = some (some (.builtin "getset_descriptor.__get__"))) && (decide (PySem.W.takesIn K (.builtin "object.__class__") = some true) && decide (PySem.W.mroIn K (He.ga K c) (.type "object") = some true)))
def wfA (K : PySem.W.Frag) (c m : Str) : Addr := He5.wf K (He.ga K c) "staticmethod" m
def refF (o : Obj) : List Addr := match o.data with
  | .func fd => He.refV fd.code ++ (He.refV fd.defaults ++ He.refV fd.kwdefaults)
  | .cls cd => [cd.ns]
  | .fields vs => (match o.cls with
    | .type n => if n == "staticmethod" || n == "property" then vs.toList.flatMap He.refV else []
    | _ => [])
  | _ => []
def refE (o : Obj) : List Addr := match o.data with
  | .dict es _ => es.toList.flatMap fun e => He.refV e.val
  | _ => []
def stepF (g : Addr → Option Obj) (as : List Addr) : List Addr := as.flatMap fun a => match g a with
  | some o => refF o
  | none => []
def stepE (g : Addr → Option Obj) (as : List Addr) : List Addr := as.flatMap fun a => match g a with
  | some o => refE o
  | none => []
def asW5 (g : Addr → Option Obj) (l0 l1 l2 l3 l4 : List Addr) : List Addr := l0 ++ (l1 ++ (l2 ++ (l3 ++ (l4 ++ stepF g l4))))
def asW4 (g : Addr → Option Obj) (l0 l1 l2 l3 : List Addr) : List Addr := asW5 g l0 l1 l2 l3 (stepF g l3)
def asW3 (g : Addr → Option Obj) (l0 l1 l2 : List Addr) : List Addr := asW4 g l0 l1 l2 (stepE g l2)
def asW2 (g : Addr → Option Obj) (l0 l1 : List Addr) : List Addr := asW3 g l0 l1 (stepF g l1)
def asW (g : Addr → Option Obj) : List Addr := asW2 g [mainGlobals, PySem.cStatics] (stepE g [mainGlobals])
inductive Fx where
  | kt (x : Str) (ss : List Str)
  | isc (c : Str)
  | kit (a b : Str) (v : Bool)
  | ne (c : Str)
  | sf (c : Str)
  | stm (c m : Str)
  | bm (c m : Str)
def Fx.ok (K : PySem.W.Frag) : Fx → Bool
  | .kt x ss => He.tupB K x (ss.map He.Dv.str)
  | .isc c => isCB K c
  | .kit a b v => decide (PySem.W.kitOne K (.ref (He.ga K a)) (.ref (He.ga K b)) = some v)
  | .ne c => decide (PySem.W.findIn K (.ref (He.ga K c)) "__ne__" = some (some (.builtin "object.__ne__"))) && decide (PySem.W.mroIn K (He.ga K c) (.type "object") = some true)
  | .sf c => PySem.W.selfFirst K (He.ga K c)
  | .stm c m => (PySem.W.readsIn K (He.ga K c) (.type "type") && decide (PySem.W.specialIn K (.ref (He.ga K c)) "__getattribute__" = some (some (.builtin "type.__getattribute__")))) && (He5.wrapB K (He.ga K c) "staticmethod" "staticmethod.__get__" m && PySem.W.keepIn K (.ref (wfA K c m)))
  | .bm c m => (decide (PySem.W.specialIn K (.ref (He.fAd K (c, some m))) "__get__" = some (some (.builtin "function.__get__"))) && decide (PySem.W.takesIn K (.ref (He.fAd K (c, some m))) = some false)) && (!PySem.W.copiedNames.contains m && PySem.W.fnIn K (He.fAd K (c, some m)))
def fnWA (K : PySem.W.Frag) (a : Addr) : He.FnW := match K.lookup a with
  | some ⟨_, _, .func fd, _⟩ => some (fd.name, fd.qualname, fd.params, fd.body, fd.scope, fd.globals, fd.closure, fd.builtins)
  | _ => none
def okA (K : PySem.W.Frag) (a : Addr) (d : He.DefD) : Bool := PySem.W.keepIn K (.ref a) && (match K.lookup a with
  | some ⟨_, _, .func fd, _⟩ => PySem.W.codeIn K fd.code d.qual && (He.dflB K fd.defaults (d.dvs K) && He.kwdB K fd.kwdefaults (d.kws K))
  | _ => false)
abbrev Def1 := He.DefD × Bool
def adW (K : PySem.W.Frag) (d : Def1) : Addr := if d.2 then wfA K d.1.at_.1 (d.1.at_.2.getD "") else He.fAd K d.1.at_
abbrev AlW : Type := Bool × List He.FnW
def obsK (fa : List He.Fa) (fx : List Fx) (fn : List Def1) (K : PySem.W.Frag) : AlW := (((fa.all fun f => f.ok K) && (fx.all fun f => f.ok K)) && fn.all fun d => okA K (adW K d) d.1, fn.map fun d => fnWA K (adW K d))
def valW (fn : List Def1) : AlW := (true, fn.map fun d => d.1.val)
def obsW (fa : List He.Fa) (fx : List Fx) (fn : List Def1) (g : Addr → Option Obj) : AlW := obsK fa fx fn (He.frG g (asW g))
def SaysW (fa : List He.Fa) (fx : List Fx) (fn : List Def1) (K : PySem.W.Frag) : Prop := obsK fa fx fn K = valW fn
def hookW (fa : List He.Fa) (fx : List Fx) (fn : List Def1) : PySem.W.Hook where
  α := AlW
  obs := fun s => obsW fa fx fn s.heap.get?
  val := fun _ => valW fn
  says := fun _ h => ∃ K : PySem.W.Frag, K.In h ∧ SaysW fa fx fn K
  of := fun _ _ e => ⟨_, He.frG_in, e⟩
  keeps := fun _ _ _ ⟨K, hK, c⟩ k => ⟨K, PySem.W.Frag.In.keeps hK k, c⟩
theorem obsW_eq {fa : List He.Fa} {fx : List Fx} {fn : List Def1} {g : Addr → Option Obj} {s : Shared} (h : ∀ a, g a = s.heap.get? a) : obsW fa fx fn g = (hookW fa fx fn).obs s := by
  have e : g = s.heap.get? := funext h
  rw [e]
  rfl
end HF
namespace PF
open PySem PySem.Spec PyProof.Rows L2 HF
def top (i : Nat) : Stmt := PySem.Challenge.pw_brimrest_k72_whole_plans_of_many_modes.main.body.getD i (.Pass ⟨0, 0, 0, 0⟩)
def inC (s : Stmt) (j : Nat) : Stmt := match s with
  | .ClassDef _ _ _ b _ _ _ _ _ _ _ => b.getD j (.Pass ⟨0, 0, 0, 0⟩)
  | _ => .Pass ⟨0, 0, 0, 0⟩
abbrev s__law_start : Stmt := top 64
def d__law_start : He.DefD := ⟨("_law_start", none), "_law_start", "_law_start", defArgs s__law_start, defBody s__law_start, defScope s__law_start, [], []⟩
abbrev s__law_pull : Stmt := top 65
def d__law_pull : He.DefD := ⟨("_law_pull", none), "_law_pull", "_law_pull", defArgs s__law_pull, defBody s__law_pull, defScope s__law_pull, [], []⟩
abbrev s__law_pick : Stmt := top 66
def d__law_pick : He.DefD := ⟨("_law_pick", none), "_law_pick", "_law_pick", defArgs s__law_pick, defBody s__law_pick, defScope s__law_pick, [], []⟩
abbrev s__law_names_drawn : Stmt := top 67
def d__law_names_drawn : He.DefD := ⟨("_law_names_drawn", none), "_law_names_drawn", "_law_names_drawn", defArgs s__law_names_drawn, defBody s__law_names_drawn, defScope s__law_names_drawn, [], []⟩
abbrev s__law_close : Stmt := top 68
def d__law_close : He.DefD := ⟨("_law_close", none), "_law_close", "_law_close", defArgs s__law_close, defBody s__law_close, defScope s__law_close, [], []⟩
abbrev s__law_mixed : Stmt := top 69
def d__law_mixed : He.DefD := ⟨("_law_mixed", none), "_law_mixed", "_law_mixed", defArgs s__law_mixed, defBody s__law_mixed, defScope s__law_mixed, [], []⟩
abbrev s_is_number : Stmt := top 27
def d_is_number : He.DefD := ⟨("is_number", none), "is_number", "is_number", defArgs s_is_number, defBody s_is_number, defScope s_is_number, [], []⟩
abbrev s_Mode_followers : Stmt := inC (top 29) 3
def d_Mode_followers : He.DefD := ⟨("Mode", some "followers"), "followers", "Mode.followers", defArgs s_Mode_followers, defBody s_Mode_followers, defScope s_Mode_followers, [], []⟩
abbrev s_Plan___init__ : Stmt := inC (top 34) 3
def d_Plan___init__ : He.DefD := ⟨("Plan", some "__init__"), "__init__", "Plan.__init__", defArgs s_Plan___init__, defBody s_Plan___init__, defScope s_Plan___init__, [], [("start", .non)]⟩
abbrev s__law_plan_of : Stmt := top 70
def d__law_plan_of : He.DefD := ⟨("_law_plan_of", none), "_law_plan_of", "_law_plan_of", defArgs s__law_plan_of, defBody s__law_plan_of, defScope s__law_plan_of, [], []⟩
abbrev s_is_name : Stmt := top 26
def d_is_name : He.DefD := ⟨("is_name", none), "is_name", "is_name", defArgs s_is_name, defBody s_is_name, defScope s_is_name, [], []⟩
abbrev s_Mode___init__ : Stmt := inC (top 29) 1
def d_Mode___init__ : He.DefD := ⟨("Mode", some "__init__"), "__init__", "Mode.__init__", defArgs s_Mode___init__, defBody s_Mode___init__, defScope s_Mode___init__, [], [("under", (.int 0)), ("over", (.int 0))]⟩
abbrev s__law_mode_made : Stmt := top 71
def d__law_mode_made : He.DefD := ⟨("_law_mode_made", none), "_law_mode_made", "_law_mode_made", defArgs s__law_mode_made, defBody s__law_mode_made, defScope s__law_mode_made, [], []⟩
abbrev s__law_many_mode : Stmt := top 72
def d__law_many_mode : He.DefD := ⟨("_law_many_mode", none), "_law_many_mode", "_law_many_mode", defArgs s__law_many_mode, defBody s__law_many_mode, defScope s__law_many_mode, [], []⟩
abbrev s__law_same : Stmt := top 73
def d__law_same : He.DefD := ⟨("_law_same", none), "_law_same", "_law_same", defArgs s__law_same, defBody s__law_same, defScope s__law_same, [], []⟩
abbrev s_Plan_mode : Stmt := inC (top 34) 5
def d_Plan_mode : He.DefD := ⟨("Plan", some "mode"), "mode", "Plan.mode", defArgs s_Plan_mode, defBody s_Plan_mode, defScope s_Plan_mode, [], []⟩
abbrev s_mode_line : Stmt := top 48
def d_mode_line : He.DefD := ⟨("mode_line", none), "mode_line", "mode_line", defArgs s_mode_line, defBody s_mode_line, defScope s_mode_line, [], []⟩
abbrev s_Plan_names : Stmt := inC (top 34) 4
def d_Plan_names : He.DefD := ⟨("Plan", some "names"), "names", "Plan.names", defArgs s_Plan_names, defBody s_Plan_names, defScope s_Plan_names, [], []⟩
abbrev s_plan_text : Stmt := top 49
def d_plan_text : He.DefD := ⟨("plan_text", none), "plan_text", "plan_text", defArgs s_plan_text, defBody s_plan_text, defScope s_plan_text, [], []⟩
abbrev s__law_mode_line : Stmt := top 74
def d__law_mode_line : He.DefD := ⟨("_law_mode_line", none), "_law_mode_line", "_law_mode_line", defArgs s__law_mode_line, defBody s__law_mode_line, defScope s__law_mode_line, [], []⟩
abbrev s__law_plan_text : Stmt := top 75
def d__law_plan_text : He.DefD := ⟨("_law_plan_text", none), "_law_plan_text", "_law_plan_text", defArgs s__law_plan_text, defBody s__law_plan_text, defScope s__law_plan_text, [], []⟩
abbrev s_lines_of : Stmt := top 47
def d_lines_of : He.DefD := ⟨("lines_of", none), "lines_of", "lines_of", defArgs s_lines_of, defBody s_lines_of, defScope s_lines_of, [], []⟩
abbrev s_read_number : Stmt := top 45
def d_read_number : He.DefD := ⟨("read_number", none), "read_number", "read_number", defArgs s_read_number, defBody s_read_number, defScope s_read_number, [], []⟩
abbrev s_read_numbers : Stmt := top 46
def d_read_numbers : He.DefD := ⟨("read_numbers", none), "read_numbers", "read_numbers", defArgs s_read_numbers, defBody s_read_numbers, defScope s_read_numbers, [], []⟩
abbrev s_Mode_idle : Stmt := inC (top 29) 2
def d_Mode_idle : He.DefD := ⟨("Mode", some "idle"), "idle", "Mode.idle", defArgs s_Mode_idle, defBody s_Mode_idle, defScope s_Mode_idle, [], []⟩
abbrev s_store_in : Stmt := top 51
def d_store_in : He.DefD := ⟨("store_in", none), "store_in", "store_in", defArgs s_store_in, defBody s_store_in, defScope s_store_in, [], []⟩
abbrev s_mode_in : Stmt := top 50
def d_mode_in : He.DefD := ⟨("mode_in", none), "mode_in", "mode_in", defArgs s_mode_in, defBody s_mode_in, defScope s_mode_in, [], []⟩
abbrev s_read_plan : Stmt := top 52
def d_read_plan : He.DefD := ⟨("read_plan", none), "read_plan", "read_plan", defArgs s_read_plan, defBody s_read_plan, defScope s_read_plan, [], []⟩
abbrev s_Mode_parts : Stmt := inC (top 29) 7
def d_Mode_parts : He.DefD := ⟨("Mode", some "parts"), "parts", "Mode.parts", defArgs s_Mode_parts, defBody s_Mode_parts, defScope s_Mode_parts, [], []⟩
abbrev s_Mode___eq__ : Stmt := inC (top 29) 9
def d_Mode___eq__ : He.DefD := ⟨("Mode", some "__eq__"), "__eq__", "Mode.__eq__", defArgs s_Mode___eq__, defBody s_Mode___eq__, defScope s_Mode___eq__, [], []⟩
abbrev s_Plan___eq__ : Stmt := inC (top 34) 15
def d_Plan___eq__ : He.DefD := ⟨("Plan", some "__eq__"), "__eq__", "Plan.__eq__", defArgs s_Plan___eq__, defBody s_Plan___eq__, defScope s_Plan___eq__, [], []⟩
abbrev s__law_fixes_drawn : Stmt := top 76
def d__law_fixes_drawn : He.DefD := ⟨("_law_fixes_drawn", none), "_law_fixes_drawn", "_law_fixes_drawn", defArgs s__law_fixes_drawn, defBody s__law_fixes_drawn, defScope s__law_fixes_drawn, [], []⟩
abbrev s_is_correction : Stmt := top 40
def d_is_correction : He.DefD := ⟨("is_correction", none), "is_correction", "is_correction", defArgs s_is_correction, defBody s_is_correction, defScope s_is_correction, [], []⟩
abbrev s_key_of : Stmt := top 41
def d_key_of : He.DefD := ⟨("key_of", none), "key_of", "key_of", defArgs s_key_of, defBody s_key_of, defScope s_key_of, [], []⟩
abbrev s_Gauge___init__ : Stmt := inC (top 42) 1
def d_Gauge___init__ : He.DefD := ⟨("Gauge", some "__init__"), "__init__", "Gauge.__init__", defArgs s_Gauge___init__, defBody s_Gauge___init__, defScope s_Gauge___init__, [], []⟩
abbrev s_Gauge___add__ : Stmt := inC (top 42) 10
def d_Gauge___add__ : He.DefD := ⟨("Gauge", some "__add__"), "__add__", "Gauge.__add__", defArgs s_Gauge___add__, defBody s_Gauge___add__, defScope s_Gauge___add__, [], []⟩
abbrev s__law_gauge_made : Stmt := top 77
def d__law_gauge_made : He.DefD := ⟨("_law_gauge_made", none), "_law_gauge_made", "_law_gauge_made", defArgs s__law_gauge_made, defBody s__law_gauge_made, defScope s__law_gauge_made, [], []⟩
abbrev s__law_start_place : Stmt := top 78
def d__law_start_place : He.DefD := ⟨("_law_start_place", none), "_law_start_place", "_law_start_place", defArgs s__law_start_place, defBody s__law_start_place, defScope s__law_start_place, [], []⟩
abbrev s__law_row_of : Stmt := top 79
def d__law_row_of : He.DefD := ⟨("_law_row_of", none), "_law_row_of", "_law_row_of", defArgs s__law_row_of, defBody s__law_row_of, defScope s__law_row_of, [], []⟩
abbrev s__law_entered : Stmt := top 80
def d__law_entered : He.DefD := ⟨("_law_entered", none), "_law_entered", "_law_entered", defArgs s__law_entered, defBody s__law_entered, defScope s__law_entered, [], []⟩
abbrev s__law_ticks : Stmt := top 81
def d__law_ticks : He.DefD := ⟨("_law_ticks", none), "_law_ticks", "_law_ticks", defArgs s__law_ticks, defBody s__law_ticks, defScope s__law_ticks, [], []⟩
abbrev s__law_rest_at : Stmt := top 82
def d__law_rest_at : He.DefD := ⟨("_law_rest_at", none), "_law_rest_at", "_law_rest_at", defArgs s__law_rest_at, defBody s__law_rest_at, defScope s__law_rest_at, [], []⟩
abbrev s__law_tick_drawn : Stmt := top 83
def d__law_tick_drawn : He.DefD := ⟨("_law_tick_drawn", none), "_law_tick_drawn", "_law_tick_drawn", defArgs s__law_tick_drawn, defBody s__law_tick_drawn, defScope s__law_tick_drawn, [], []⟩
abbrev s__law_is_number : Stmt := top 84
def d__law_is_number : He.DefD := ⟨("_law_is_number", none), "_law_is_number", "_law_is_number", defArgs s__law_is_number, defBody s__law_is_number, defScope s__law_is_number, [], []⟩
abbrev s__law_acts : Stmt := top 85
def d__law_acts : He.DefD := ⟨("_law_acts", none), "_law_acts", "_law_acts", defArgs s__law_acts, defBody s__law_acts, defScope s__law_acts, [], []⟩
abbrev s__law_tried_tick : Stmt := top 86
def d__law_tried_tick : He.DefD := ⟨("_law_tried_tick", none), "_law_tried_tick", "_law_tried_tick", defArgs s__law_tried_tick, defBody s__law_tried_tick, defScope s__law_tried_tick, [], []⟩
abbrev s__law_use_drawn : Stmt := top 87
def d__law_use_drawn : He.DefD := ⟨("_law_use_drawn", none), "_law_use_drawn", "_law_use_drawn", defArgs s__law_use_drawn, defBody s__law_use_drawn, defScope s__law_use_drawn, [], []⟩
abbrev s_Gauge_modes : Stmt := inC (top 42) 4
def d_Gauge_modes : He.DefD := ⟨("Gauge", some "modes"), "modes", "Gauge.modes", defArgs s_Gauge_modes, defBody s_Gauge_modes, defScope s_Gauge_modes, [], []⟩
abbrev s_Gauge_check : Stmt := inC (top 42) 7
def d_Gauge_check : He.DefD := ⟨("Gauge", some "check"), "check", "Gauge.check", defArgs s_Gauge_check, defBody s_Gauge_check, defScope s_Gauge_check, [], []⟩
abbrev s_Plan_start_place : Stmt := inC (top 34) 8
def d_Plan_start_place : He.DefD := ⟨("Plan", some "start_place"), "start_place", "Plan.start_place", defArgs s_Plan_start_place, defBody s_Plan_start_place, defScope s_Plan_start_place, [], []⟩
abbrev s_Store___init__ : Stmt := inC (top 56) 0
def d_Store___init__ : He.DefD := ⟨("Store", some "__init__"), "__init__", "Store.__init__", defArgs s_Store___init__, defBody s_Store___init__, defScope s_Store___init__, [], []⟩
abbrev s_is_tick : Stmt := top 54
def d_is_tick : He.DefD := ⟨("is_tick", none), "is_tick", "is_tick", defArgs s_is_tick, defBody s_is_tick, defScope s_is_tick, [], []⟩
abbrev s_Playing___init__ : Stmt := inC (top 55) 0
def d_Playing___init__ : He.DefD := ⟨("Playing", some "__init__"), "__init__", "Playing.__init__", defArgs s_Playing___init__, defBody s_Playing___init__, defScope s_Playing___init__, [], []⟩
abbrev s_Plan___contains__ : Stmt := inC (top 34) 14
def d_Plan___contains__ : He.DefD := ⟨("Plan", some "__contains__"), "__contains__", "Plan.__contains__", defArgs s_Plan___contains__, defBody s_Plan___contains__, defScope s_Plan___contains__, [], []⟩
abbrev s_Plan_is_place : Stmt := inC (top 34) 6
def d_Plan_is_place : He.DefD := ⟨("Plan", some "is_place"), "is_place", "Plan.is_place", defArgs s_Plan_is_place, defBody s_Plan_is_place, defScope s_Plan_is_place, [], []⟩
abbrev s_Plan_check_place : Stmt := inC (top 34) 7
def d_Plan_check_place : He.DefD := ⟨("Plan", some "check_place"), "check_place", "Plan.check_place", defArgs s_Plan_check_place, defBody s_Plan_check_place, defScope s_Plan_check_place, [], []⟩
abbrev s_Mode___contains__ : Stmt := inC (top 29) 8
def d_Mode___contains__ : He.DefD := ⟨("Mode", some "__contains__"), "__contains__", "Mode.__contains__", defArgs s_Mode___contains__, defBody s_Mode___contains__, defScope s_Mode___contains__, [], []⟩
abbrev s_Plan_entered : Stmt := inC (top 34) 9
def d_Plan_entered : He.DefD := ⟨("Plan", some "entered"), "entered", "Plan.entered", defArgs s_Plan_entered, defBody s_Plan_entered, defScope s_Plan_entered, [], []⟩
abbrev s_Plan_moved : Stmt := inC (top 34) 10
def d_Plan_moved : He.DefD := ⟨("Plan", some "moved"), "moved", "Plan.moved", defArgs s_Plan_moved, defBody s_Plan_moved, defScope s_Plan_moved, [], []⟩
abbrev s_Gauge_rest : Stmt := inC (top 42) 5
def d_Gauge_rest : He.DefD := ⟨("Gauge", some "rest"), "rest", "Gauge.rest", defArgs s_Gauge_rest, defBody s_Gauge_rest, defScope s_Gauge_rest, [], []⟩
abbrev s_Gauge_rest_at : Stmt := inC (top 42) 8
def d_Gauge_rest_at : He.DefD := ⟨("Gauge", some "rest_at"), "rest_at", "Gauge.rest_at", defArgs s_Gauge_rest_at, defBody s_Gauge_rest_at, defScope s_Gauge_rest_at, [], []⟩
abbrev s_corrected : Stmt := top 57
def d_corrected : He.DefD := ⟨("corrected", none), "corrected", "corrected", defArgs s_corrected, defBody s_corrected, defScope s_corrected, [], []⟩
abbrev s_Gauge_has : Stmt := inC (top 42) 6
def d_Gauge_has : He.DefD := ⟨("Gauge", some "has"), "has", "Gauge.has", defArgs s_Gauge_has, defBody s_Gauge_has, defScope s_Gauge_has, [], []⟩
abbrev s_Gauge_acting : Stmt := inC (top 42) 9
def d_Gauge_acting : He.DefD := ⟨("Gauge", some "acting"), "acting", "Gauge.acting", defArgs s_Gauge_acting, defBody s_Gauge_acting, defScope s_Gauge_acting, [], []⟩
abbrev s_Store_after : Stmt := inC (top 56) 8
def d_Store_after : He.DefD := ⟨("Store", some "after"), "after", "Store.after", defArgs s_Store_after, defBody s_Store_after, defScope s_Store_after, [], []⟩
abbrev s_Playing___enter__ : Stmt := inC (top 55) 1
def d_Playing___enter__ : He.DefD := ⟨("Playing", some "__enter__"), "__enter__", "Playing.__enter__", defArgs s_Playing___enter__, defBody s_Playing___enter__, defScope s_Playing___enter__, [], []⟩
abbrev s_Playing___exit__ : Stmt := inC (top 55) 2
def d_Playing___exit__ : He.DefD := ⟨("Playing", some "__exit__"), "__exit__", "Playing.__exit__", defArgs s_Playing___exit__, defBody s_Playing___exit__, defScope s_Playing___exit__, [], []⟩
abbrev s_Store_play : Stmt := inC (top 56) 10
def d_Store_play : He.DefD := ⟨("Store", some "play"), "play", "Store.play", defArgs s_Store_play, defBody s_Store_play, defScope s_Store_play, [], []⟩
abbrev s_Store_pairs : Stmt := inC (top 56) 16
def d_Store_pairs : He.DefD := ⟨("Store", some "pairs"), "pairs", "Store.pairs", defArgs s_Store_pairs, defBody s_Store_pairs, defScope s_Store_pairs, [], []⟩
abbrev s_played : Stmt := top 59
def d_played : He.DefD := ⟨("played", none), "played", "played", defArgs s_played, defBody s_played, defScope s_played, [], []⟩
abbrev s_Mode_flows : Stmt := inC (top 29) 4
def d_Mode_flows : He.DefD := ⟨("Mode", some "flows"), "flows", "Mode.flows", defArgs s_Mode_flows, defBody s_Mode_flows, defScope s_Mode_flows, [], []⟩
abbrev s_Plan_ticks_from : Stmt := inC (top 34) 11
def d_Plan_ticks_from : He.DefD := ⟨("Plan", some "ticks_from"), "ticks_from", "Plan.ticks_from", defArgs s_Plan_ticks_from, defBody s_Plan_ticks_from, defScope s_Plan_ticks_from, [], []⟩
abbrev s__law_width_behind : Stmt := top 88
def d__law_width_behind : He.DefD := ⟨("_law_width_behind", none), "_law_width_behind", "_law_width_behind", defArgs s__law_width_behind, defBody s__law_width_behind, defScope s__law_width_behind, [], []⟩
abbrev s_check_pairs : Stmt := top 35
def d_check_pairs : He.DefD := ⟨("check_pairs", none), "check_pairs", "check_pairs", defArgs s_check_pairs, defBody s_check_pairs, defScope s_check_pairs, [], []⟩
abbrev s_Plan_ended : Stmt := inC (top 34) 13
def d_Plan_ended : He.DefD := ⟨("Plan", some "ended"), "ended", "Plan.ended", defArgs s_Plan_ended, defBody s_Plan_ended, defScope s_Plan_ended, [], []⟩
abbrev s_check_side : Stmt := top 28
def d_check_side : He.DefD := ⟨("check_side", none), "check_side", "check_side", defArgs s_check_side, defBody s_check_side, defScope s_check_side, [], []⟩
abbrev s_Mode_error_on : Stmt := inC (top 29) 5
def d_Mode_error_on : He.DefD := ⟨("Mode", some "error_on"), "error_on", "Mode.error_on", defArgs s_Mode_error_on, defBody s_Mode_error_on, defScope s_Mode_error_on, [], []⟩
abbrev s_width_after : Stmt := top 61
def d_width_after : He.DefD := ⟨("width_after", none), "width_after", "width_after", defArgs s_width_after, defBody s_width_after, defScope s_width_after, [], []⟩
abbrev s_widths_along : Stmt := top 62
def d_widths_along : He.DefD := ⟨("widths_along", none), "widths_along", "widths_along", defArgs s_widths_along, defBody s_widths_along, defScope s_widths_along, [], []⟩
abbrev s__law_track_of : Stmt := top 89
def d__law_track_of : He.DefD := ⟨("_law_track_of", none), "_law_track_of", "_law_track_of", defArgs s__law_track_of, defBody s__law_track_of, defScope s__law_track_of, [], []⟩
abbrev s_law : Stmt := top 90
def d_law : He.DefD := ⟨("law", none), "law", "law", defArgs s_law, defBody s_law, defScope s_law, [], []⟩
def fa : List He.Fa := [.free "int", .free "list", .glo "_law_start", .free "len", .free "abs", .glo "_law_pull", .glo "_law_pick", .free "range", .glo "_law_names_drawn", .glo "_law_close", .glo "_law_mixed", .free "min", .free "isinstance", .free "bool", .int "MOST_SIZE_plans" 24, .glo "is_number", .int "MOST_MODES" 6, .free "enumerate", .glo "Mode", .cls "Mode", .meth "Mode" "followers", .mkr "Plan", .glo "Plan", .free "str", .int "MOST_NAME" 8, .str "LETTERS" "abcdefghijklmnopqrstuvwxyz", .free "all", .glo "is_name", .int "MOST_FLOW" 9, .mkr "Mode", .glo "_law_mode_made", .glo "_law_many_mode", .glo "_law_plan_of", .glo "_law_same", .free "zip", .free "tuple", .cls "Plan", .meth "Plan" "mode", .glo "mode_line", .meth "Plan" "names", .glo "plan_text", .glo "_law_mode_line", .glo "_law_plan_text", .glo "lines_of", .int "MOST_DIGITS" 30, .glo "read_number", .glo "read_numbers", .glo "store_in", .glo "mode_in", .glo "read_plan", .meth "Mode" "parts", .meth "Mode" "__eq__", .meth "Plan" "__eq__", .glo "_law_fixes_drawn", .glo "MARKS", .glo "RESTS", .int "MOST_RUN_plans" 4, .glo "is_correction", .int "MOST_CORRECTIONS" 8, .glo "key_of", .free "sorted", .mkr "Gauge", .glo "Gauge", .meth "Gauge" "__add__", .glo "_law_gauge_made", .glo "_law_start_place", .glo "_law_row_of", .free "max", .glo "_law_entered", .glo "_law_ticks", .glo "_law_rest_at", .glo "_law_tick_drawn", .glo "_law_is_number", .glo "_law_acts", .glo "_law_tried_tick", .glo "_law_use_drawn", .cls "Gauge", .meth "Gauge" "modes", .meth "Gauge" "check", .meth "Plan" "start_place", .mkr "Store", .glo "Store", .glo "is_tick", .mkr "Playing", .glo "Playing", .meth "Plan" "__contains__", .meth "Plan" "is_place", .meth "Plan" "check_place", .meth "Mode" "__contains__", .meth "Plan" "entered", .meth "Plan" "moved", .meth "Gauge" "rest", .meth "Gauge" "rest_at", .glo "corrected", .meth "Gauge" "has", .meth "Gauge" "acting", .cls "Store", .meth "Store" "after", .meth "Playing" "__enter__", .meth "Playing" "__exit__", .meth "Store" "play", .meth "Store" "pairs", .glo "played", .meth "Mode" "flows", .meth "Plan" "ticks_from", .glo "_law_width_behind", .glo "check_pairs", .meth "Plan" "ended", .glo "SIDES", .glo "check_side", .meth "Mode" "error_on", .glo "width_after", .glo "_law_track_of", .glo "widths_along", .glo "law", .noat "Mode" "name", .noat "Mode" "next_names", .noat "Plan" "size", .noat "Plan" "start", .noat "Plan" "table", .noat "Mode" "low", .noat "Mode" "high", .noat "Mode" "under", .noat "Mode" "over", .noat "Gauge" "own_corrections", .noat "Gauge" "marks", .noat "Gauge" "rests", .noat "Store" "own_plan", .noat "Store" "own_gauge", .noat "Store" "moments", .noat "Store" "done", .noat "Store" "undone", .noat "Store" "working", .cls "Playing", .noat "Playing" "target"]
def fx : List Fx := [.isc "Mode", .kit "Mode" "Mode" true, .stm "Mode" "idle", .isc "Plan", .kit "Plan" "Plan" true, .ne "Plan", .kt "MARKS" ["full", "empty"], .kt "RESTS" ["set", "narrow"], .sf "Gauge", .bm "Store" "play", .kt "SIDES" ["under", "over"]]
def fn : List Def1 := [(d__law_start, false), (d__law_pull, false), (d__law_pick, false), (d__law_names_drawn, false), (d__law_close, false), (d__law_mixed, false), (d_is_number, false), (d_Mode_followers, false), (d_Plan___init__, false), (d__law_plan_of, false), (d_is_name, false), (d_Mode___init__, false), (d__law_mode_made, false), (d__law_many_mode, false), (d__law_same, false), (d_Plan_mode, false), (d_mode_line, false), (d_Plan_names, false), (d_plan_text, false), (d__law_mode_line, false), (d__law_plan_text, false), (d_lines_of, false), (d_read_number, false), (d_read_numbers, false), (d_Mode_idle, true), (d_store_in, false), (d_mode_in, false), (d_read_plan, false), (d_Mode_parts, false), (d_Mode___eq__, false), (d_Plan___eq__, false), (d__law_fixes_drawn, false), (d_is_correction, false), (d_key_of, false), (d_Gauge___init__, false), (d_Gauge___add__, false), (d__law_gauge_made, false), (d__law_start_place, false), (d__law_row_of, false), (d__law_entered, false), (d__law_ticks, false), (d__law_rest_at, false), (d__law_tick_drawn, false), (d__law_is_number, false), (d__law_acts, false), (d__law_tried_tick, false), (d__law_use_drawn, false), (d_Gauge_modes, false), (d_Gauge_check, false), (d_Plan_start_place, false), (d_Store___init__, false), (d_is_tick, false), (d_Playing___init__, false), (d_Plan___contains__, false), (d_Plan_is_place, false), (d_Plan_check_place, false), (d_Mode___contains__, false), (d_Plan_entered, false), (d_Plan_moved, false), (d_Gauge_rest, false), (d_Gauge_rest_at, false), (d_corrected, false), (d_Gauge_has, false), (d_Gauge_acting, false), (d_Store_after, false), (d_Playing___enter__, false), (d_Playing___exit__, false), (d_Store_play, false), (d_Store_pairs, false), (d_played, false), (d_Mode_flows, false), (d_Plan_ticks_from, false), (d__law_width_behind, false), (d_check_pairs, false), (d_Plan_ended, false), (d_check_side, false), (d_Mode_error_on, false), (d_width_after, false), (d_widths_along, false), (d__law_track_of, false), (d_law, false)]
end PF
namespace PF
open PySem PySem.W PySem.Calls PyProof.Rows L2 HF
def names0 : List PySem.Str := [("_wall" : PySem.Str), ("BrimError" : PySem.Str), ("Missing" : PySem.Str), ("InvalidName" : PySem.Str), ("InvalidFlow" : PySem.Str), ("InvalidSlip" : PySem.Str), ("InvalidSize" : PySem.Str), ("InvalidCount" : PySem.Str), ("InvalidMode" : PySem.Str), ("InvalidAmount" : PySem.Str), ("InvalidCorrection" : PySem.Str), ("InvalidIndex" : PySem.Str), ("InvalidPlace" : PySem.Str), ("InvalidLook" : PySem.Str), ("InvalidTick" : PySem.Str), ("InvalidSide" : PySem.Str), ("InvalidLine" : PySem.Str), ("DuplicateName" : PySem.Str), ("NotNext" : PySem.Str), ("UnknownMode" : PySem.Str), ("MOST_FLOW" : PySem.Str), ("MOST_NAME" : PySem.Str), ("SIDES" : PySem.Str), ("LETTERS" : PySem.Str), ("is_name" : PySem.Str), ("is_number" : PySem.Str), ("check_side" : PySem.Str), ("Mode" : PySem.Str), ("MOST_MODES" : PySem.Str), ("MOST_SIZE_plans" : PySem.Str)]
def names1 : List PySem.Str := [("MOST_RUN_plans" : PySem.Str), ("Plan" : PySem.Str), ("check_pairs" : PySem.Str), ("MOST_CORRECTIONS" : PySem.Str), ("MARKS" : PySem.Str), ("RESTS" : PySem.Str), ("is_correction" : PySem.Str), ("key_of" : PySem.Str), ("Gauge" : PySem.Str), ("MOST_DIGITS" : PySem.Str), ("read_number" : PySem.Str), ("read_numbers" : PySem.Str), ("lines_of" : PySem.Str), ("mode_line" : PySem.Str), ("plan_text" : PySem.Str), ("mode_in" : PySem.Str), ("store_in" : PySem.Str), ("read_plan" : PySem.Str), ("is_tick" : PySem.Str), ("Playing" : PySem.Str), ("Store" : PySem.Str), ("corrected" : PySem.Str), ("played" : PySem.Str), ("width_after" : PySem.Str), ("widths_along" : PySem.Str), ("_law_start" : PySem.Str), ("_law_pull" : PySem.Str), ("_law_pick" : PySem.Str), ("_law_names_drawn" : PySem.Str), ("_law_close" : PySem.Str)]
def names2 : List PySem.Str := [("_law_mixed" : PySem.Str), ("_law_plan_of" : PySem.Str), ("_law_mode_made" : PySem.Str), ("_law_many_mode" : PySem.Str), ("_law_same" : PySem.Str), ("_law_mode_line" : PySem.Str), ("_law_plan_text" : PySem.Str), ("_law_fixes_drawn" : PySem.Str), ("_law_gauge_made" : PySem.Str), ("_law_start_place" : PySem.Str), ("_law_row_of" : PySem.Str), ("_law_entered" : PySem.Str), ("_law_ticks" : PySem.Str), ("_law_rest_at" : PySem.Str), ("_law_tick_drawn" : PySem.Str), ("_law_is_number" : PySem.Str), ("_law_acts" : PySem.Str), ("_law_tried_tick" : PySem.Str), ("_law_use_drawn" : PySem.Str), ("_law_width_behind" : PySem.Str), ("_law_track_of" : PySem.Str)]
def names : List PySem.Str := names0 ++ names1 ++ names2
abbrev R : OpenRow := OpenLaw.row PySem.Challenge.rw_brimrest_k72_whole_plans_of_many_modes
abbrev hk : Hook := hookW fa fx fn
def ob (s : SharedT) : AlW := obsW fa fx fn (HandSHeadRun.getT s)
theorem ob_eq (s : SharedT) : ob s = hk.obs s.abs := obsW_eq (HandSHeadRun.getT_eq s)
theorem run (w : World) : HandSHeadRun.RunEq R (view R.prog [90]) hk ob 20000 names w := by
  intro os
  kernel_rfl
end PF
set_option Elab.async false
set_option linter.all false
set_option maxRecDepth 100000
set_option maxHeartbeats 1000000
/-! HF: functional readings over HandS. Own work. -/
namespace HF
open PySem PySem.Spec PyProof.Rows L2
inductive D where
  | non | bl (b : Bool) | int (i : Int) | str (s : Str)
  | tup (xs : List D)
  | kt (xs : List D)
  | kl (xs : List D)
  | fl (xs : List D)
  | fz (xs : List D)
  | ob (c : Str) (ks : List Str) (vs : List D)
  | dk (ks : List Key) (vs : List D)
  | dt (ks : List (List Key)) (vs : List D)
  | loc (n : Nat)
  deriving Inhabited
inductive O where
  | lst (xs : List D)
  | dk (ks : List Key) (vs : List D)
  | dt (ks : List (List Key)) (vs : List D)
  | ins (c : Str) (ks : List Str) (vs : List D)
  | lk (o : O)
  | gone
  deriving Inhabited
abbrev Rho := List (Option Addr)
def In (r : Rho) (a : Addr) : Prop := ∃ i : Nat, r[i]? = some (some a)
def Tr (Av : Addr → Prop) (r : Rho) (a : Addr) : Prop := Av a ∨ In r a
def KL (K : PySem.W.Frag) (a : Addr) (xs : List V) : Prop := ∃ (o : Obj) (its : Array Value) (n : Nat), K.lookup a = some o ∧ o.cls = .type "list" ∧ o.dict = none ∧ o.data = .seq its n ∧ its.size ≤ sizeLine ∧ Vals xs its.toList
theorem KL.sq {K : PySem.W.Frag} {H : Hp} {a : Addr} {xs : List V} (h : KL K a xs) : SqL K H a xs := .inr h
section
variable (K : PySem.W.Frag) (T : Addr → Prop) (H : Hp) (r : Rho)
mutual
inductive RD : D → V → Prop
  | non : RD .non .non
  | bl (b : Bool) : RD (.bl b) (.bl b)
  | int (i : Int) : RD (.int i) (.int i)
  | str (s : Str) : RD (.str s) (.str s)
  | tup {a : Addr} {vs : List V} {xs : List D} : H a = some (.tup vs) → RDs xs vs → RD (.tup xs) (.ref a)
  | kt {a : Addr} {vs : List V} {xs : List D} : SqT K H a vs → RDs xs vs → RD (.kt xs) (.ref a)
  | kl {a : Addr} {vs : List V} {xs : List D} : KL K a vs → RDs xs vs → RD (.kl xs) (.ref a)
  | fl {a : Addr} {vs : List V} {xs : List D} : H a = some (.lst vs) → ¬ T a → RDs xs vs → RD (.fl xs) (.ref a)
  | fz {a : Addr} {vs : List V} {xs : List D} : Rd H a (.lst vs) → ¬ T a → RDs xs vs → RD (.fz xs) (.ref a)
  | ob {a dx : Addr} {c : Str} {fs : List (Str × V)} {ks : List Str} {xs : List D} : H a = some (.ins (He.ga K c) dx fs) → ¬ T a → fs.map (·.1) = ks → RDs xs (fs.map (·.2)) → RD (.ob c ks xs) (.ref a)
  | dk {a : Addr} {kvs : List (Key × V)} {ks : List Key} {xs : List D} : Rd H a (.dK kvs) → ¬ T a → kvs.map (·.1) = ks → RDs xs (kvs.map (·.2)) → RD (.dk ks xs) (.ref a)
  | dt {a : Addr} {kvs : List (List Key × V)} {ks : List (List Key)} {xs : List D} : Rd H a (.dT kvs) → ¬ T a → kvs.map (·.1) = ks → RDs xs (kvs.map (·.2)) → RD (.dt ks xs) (.ref a)
  | loc {n : Nat} {v : V} : n < r.length → (∀ a, r[n]? = some (some a) → v = .ref a) → RD (.loc n) v
inductive RDs : List D → List V → Prop
  | nil : RDs [] []
  | cons {d : D} {v : V} {ds : List D} {vs : List V} : RD d v → RDs ds vs → RDs (d :: ds) (v :: vs)
end
def ROH : O → HO → Prop
  | .lst xs, u => ∃ vs, u = .lst vs ∧ RDs K T H r xs vs
  | .dk ks xs, u => ∃ kvs : List (Key × V), u = .dK kvs ∧ kvs.map (·.1) = ks ∧ RDs K T H r xs (kvs.map (·.2))
  | .dt ks xs, u => ∃ kvs : List (List Key × V), u = .dT kvs ∧ kvs.map (·.1) = ks ∧ RDs K T H r xs (kvs.map (·.2))
  | .ins c ks xs, u => ∃ dx fs, u = .ins (He.ga K c) dx fs ∧ fs.map (·.1) = ks ∧ RDs K T H r xs (fs.map (·.2))
  | .lk o, u => ∃ od u', u = .frz od u' ∧ ROH o u'
  | .gone, _ => False
end
structure Rep (K : PySem.W.Frag) (Av : Addr → Prop) (r : Rho) (h : List O) (H : Hp) : Prop where
  len : r.length = h.length
  inj : ∀ (i j : Nat) (a : Addr), r[i]? = some (some a) → r[j]? = some (some a) → i = j
  nav : ∀ a, In r a → ¬ Av a
  dom : ∀ a, Av a → ∃ o, H a = some o
  obs : ∀ (i : Nat) (a : Addr) (o : O), r[i]? = some (some a) → h[i]? = some o → ∃ u, H a = some u ∧ ROH K (Tr Av r) H r o u
  drop : ∀ (i : Nat), r[i]? = some none → h[i]? = some .gone
structure Ext (r : Rho) (H : Hp) (r' : Rho) (H' : Hp) : Prop where
  len : r.length ≤ r'.length
  pre : ∀ (i : Nat) (a : Addr), i < r.length → r'[i]? = some (some a) → r[i]? = some (some a)
  new : ∀ (i : Nat) (a : Addr), r.length ≤ i → r'[i]? = some (some a) → H a = none
  keep : ∀ (a : Addr) (o : HO), H a = some o → ¬ In r a → H' a = some o
  stay : ∀ (a : Addr) (o : HO), H a = some o → ∃ o', H' a = some o'
theorem getOpt {α : Type} {l : List α} {i : Nat} {x : α} (h : l[i]? = some x) : i < l.length := (List.getElem?_eq_some_iff.mp h).1
theorem Ext.refl (r : Rho) (H : Hp) : Ext r H r H := ⟨Nat.le_refl _, fun _ _ _ e => e, fun i a h e => absurd (getOpt e) (by omega), fun _ _ e _ => e, fun a o e => ⟨o, e⟩⟩
theorem Ext.back {r r' : Rho} {H H' : Hp} (e : Ext r H r' H') {a : Addr} (h : In r' a) : In r a ∨ H a = none := by
  obtain ⟨i, hi⟩ := h
  rcases Nat.lt_or_ge i r.length with q | q
  · exact .inl ⟨i, e.pre i a q hi⟩
  · exact .inr (e.new i a q hi)
theorem Ext.trans {r r1 r2 : Rho} {H H1 H2 : Hp} (e : Ext r H r1 H1) (f : Ext r1 H1 r2 H2) : Ext r H r2 H2 where
  len := Nat.le_trans e.len f.len
  pre := fun i a h q => e.pre i a h (f.pre i a (Nat.lt_of_lt_of_le h e.len) q)
  new := fun i a h q => by
    rcases Nat.lt_or_ge i r1.length with z | z
    · exact e.new i a h (f.pre i a z q)
    · have n1 := f.new i a z q
      cases hq : H a with
      | none => rfl
      | some o =>
        obtain ⟨o', ho'⟩ := e.stay a o hq
        rw [n1] at ho'
        cases ho'
  keep := fun a o h n => f.keep a o (e.keep a o h n) fun q => by
    rcases e.back q with z | z
    · exact n z
    · rw [h] at z
      cases z
  stay := fun a o h => by
    obtain ⟨o1, h1⟩ := e.stay a o h
    exact f.stay a o1 h1
section
variable {K : PySem.W.Frag} {Av : Addr → Prop} {H H' : Hp} {r r' : Rho} {h h' : List O}
theorem Rep.nofrz (R : Rep K Av r h H) {a : Addr} (hi : In r a) {xs : List V} (q : H a = some (.tup xs)) : False := by
  obtain ⟨i, hi⟩ := hi
  have hl : i < h.length := by rw [← R.len]; exact getOpt hi
  obtain ⟨u, hu, ho⟩ := R.obs i a h[i] hi (List.getElem?_eq_getElem hl)
  rw [q] at hu
  cases hu
  generalize h[i] = o at ho
  cases o with
  | lst xs => obtain ⟨_, e, _⟩ := ho; cases e
  | dk ks xs => obtain ⟨_, e, _⟩ := ho; cases e
  | dt ks xs => obtain ⟨_, e, _⟩ := ho; cases e
  | ins c ks xs => obtain ⟨_, _, e, _⟩ := ho; cases e
  | lk o => obtain ⟨_, _, e, _⟩ := ho; cases e
  | gone => exact ho
theorem roh_notup {T : Addr → Prop} : ∀ (o : O) (u : HO) (xs : List V), ROH K T H r o u → u ≠ .tup xs
  | .lst _, u, xs, ho, e => by obtain ⟨_, e2, _⟩ := ho; rw [e] at e2; cases e2
  | .dk _ _, u, xs, ho, e => by obtain ⟨_, e2, _⟩ := ho; rw [e] at e2; cases e2
  | .dt _ _, u, xs, ho, e => by obtain ⟨_, e2, _⟩ := ho; rw [e] at e2; cases e2
  | .ins _ _ _, u, xs, ho, e => by obtain ⟨_, _, e2, _⟩ := ho; rw [e] at e2; cases e2
  | .lk _, u, xs, ho, e => by obtain ⟨_, _, e2, _⟩ := ho; rw [e] at e2; cases e2
  | .gone, u, xs, ho, e => ho
theorem Rep.notup (R : Rep K Av r h H) {a : Addr} (hi : In r a) {xs : List V} (q : Rd H a (.tup xs)) : False := by
  obtain ⟨i, hi⟩ := hi
  have hl : i < h.length := by rw [← R.len]; exact getOpt hi
  obtain ⟨u, hu, ho⟩ := R.obs i a h[i] hi (List.getElem?_eq_getElem hl)
  rcases q with q | ⟨od, q⟩
  · rw [q] at hu
    cases hu
    exact roh_notup _ _ xs ho rfl
  · rw [q] at hu
    cases hu
    generalize h[i] = o at ho
    cases o with
    | lst xs => obtain ⟨_, e, _⟩ := ho; cases e
    | dk ks xs => obtain ⟨_, e, _⟩ := ho; cases e
    | dt ks xs => obtain ⟨_, e, _⟩ := ho; cases e
    | ins c ks xs => obtain ⟨_, _, e, _⟩ := ho; cases e
    | lk o =>
      obtain ⟨_, _, e, ho⟩ := ho
      cases e
      exact roh_notup _ _ xs ho rfl
    | gone => exact ho
theorem rd_keep (e : Ext r H r' H') {a : Addr} {u : HO} (n : ¬ In r a) (q : Rd H a u) : Rd H' a u := by
  rcases q with q | ⟨od, q⟩
  · exact .inl (e.keep a _ q n)
  · exact .inr ⟨od, e.keep a _ q n⟩
theorem rd_some {a : Addr} {u : HO} (q : Rd H a u) : ∃ o, H a = some o := by
  rcases q with q | ⟨od, q⟩ <;> exact ⟨_, q⟩
theorem tr_mono (e : Ext r H r' H') {a : Addr} (n : ¬ Tr Av r a) (q : ∃ o, H a = some o) : ¬ Tr Av r' a := fun t => by
  rcases t with t | t
  · exact n (.inl t)
  · rcases e.back t with z | z
    · exact n (.inr z)
    · obtain ⟨o, q⟩ := q
      rw [q] at z
      cases z
mutual
theorem RD.mono (R : Rep K Av r h H) (e : Ext r H r' H') : ∀ (d : D) (v : V), RD K (Tr Av r) H r d v → RD K (Tr Av r') H' r' d v
  | _, _, .non => .non
  | _, _, .bl b => .bl b
  | _, _, .int i => .int i
  | _, _, .str s => .str s
  | _, _, .tup q ds => .tup (e.keep _ _ q fun hi => R.notup hi (.inl q)) (RDs.mono R e _ _ ds)
  | _, _, .kt q ds => .kt (by
      rcases q with q | q
      · exact .inl (rd_keep e (fun hi => R.notup hi q) q)
      · exact .inr q) (RDs.mono R e _ _ ds)
  | _, _, .kl q ds => .kl q (RDs.mono R e _ _ ds)
  | _, _, .fl q n ds => .fl (e.keep _ _ q fun hi => n (.inr hi)) (tr_mono e n ⟨_, q⟩) (RDs.mono R e _ _ ds)
  | _, _, .fz q n ds => .fz (rd_keep e (fun hi => n (.inr hi)) q) (tr_mono e n (rd_some q)) (RDs.mono R e _ _ ds)
  | _, _, .ob q n k ds => .ob (e.keep _ _ q fun hi => n (.inr hi)) (tr_mono e n ⟨_, q⟩) k (RDs.mono R e _ _ ds)
  | _, _, .dk q n k ds => .dk (rd_keep e (fun hi => n (.inr hi)) q) (tr_mono e n (rd_some q)) k (RDs.mono R e _ _ ds)
  | _, _, .dt q n k ds => .dt (rd_keep e (fun hi => n (.inr hi)) q) (tr_mono e n (rd_some q)) k (RDs.mono R e _ _ ds)
  | _, _, .loc l q => .loc (Nat.lt_of_lt_of_le l e.len) fun a z => q a (e.pre _ a l z)
theorem RDs.mono (R : Rep K Av r h H) (e : Ext r H r' H') : ∀ (ds : List D) (vs : List V), RDs K (Tr Av r) H r ds vs → RDs K (Tr Av r') H' r' ds vs
  | _, _, .nil => .nil
  | _, _, .cons d ds => .cons (RD.mono R e _ _ d) (RDs.mono R e _ _ ds)
end
end
/-! ### slots -/
abbrev Sl := List (Option D)
structure RSl (K : PySem.W.Frag) (T : Addr → Prop) (H : Hp) (r : Rho) (sl : Sl) (σ : L2.St) : Prop where
  len : sl.length = σ.length
  at_ : ∀ (i : Nat) (d : D), sl[i]? = some (some d) → ∃ v, σ[i]? = some (some v) ∧ RD K T H r d v
section
variable {K : PySem.W.Frag} {Av : Addr → Prop} {H H' : Hp} {r r' : Rho} {h h' : List O} {sl : Sl} {σ : L2.St}
theorem RSl.mono (R : Rep K Av r h H) (e : Ext r H r' H') (q : RSl K (Tr Av r) H r sl σ) : RSl K (Tr Av r') H' r' sl σ :=
  ⟨q.len, fun i d hd => by
    obtain ⟨v, hv, rd⟩ := q.at_ i d hd
    exact ⟨v, hv, RD.mono R e _ _ rd⟩⟩
theorem RSl.set {T : Addr → Prop} (q : RSl K T H r sl σ) (i : Nat) {d : D} {v : V} (rd : RD K T H r d v) : RSl K T H r (sl.set i (some d)) (σ.set i (some v)) :=
  ⟨by simp [q.len], fun j d' hd => by
    by_cases hj : j = i
    · subst hj
      have hl : j < sl.length := by
        have := getOpt hd
        simpa using this
      rw [List.getElem?_set_self hl] at hd
      cases hd
      exact ⟨v, by rw [List.getElem?_set_self (by rw [← q.len]; exact hl)], rd⟩
    · rw [List.getElem?_set_ne (Ne.symm hj)] at hd
      obtain ⟨v', hv, rd'⟩ := q.at_ j d' hd
      exact ⟨v', by rw [List.getElem?_set_ne (Ne.symm hj)]; exact hv, rd'⟩⟩
end
/-! ### readings -/
abbrev FE := Sl → List O → Option (D × List O)
abbrev FT := Sl → List O → Option (Bool × List O)
abbrev FA := Sl → List O → Option (List D × List O)
inductive Fl where
  | nx | bk | ct
  | rt (d : D)
abbrev FS := Sl → List O → Option (Fl × Sl × List O)
section
variable (K : PySem.W.Frag) (Av : Addr → Prop)
def tF (m : FE) : TE := fun σ H Q => ∃ r sl h d h', Rep K Av r h H ∧ RSl K (Tr Av r) H r sl σ ∧ m sl h = some (d, h') ∧
  ∀ r' v H', Ext r H r' H' → Rep K Av r' h' H' → RD K (Tr Av r') H' r' d v → Q v H'
def tFT (m : FT) : TT := fun σ H Q => ∃ r sl h b h', Rep K Av r h H ∧ RSl K (Tr Av r) H r sl σ ∧ m sl h = some (b, h') ∧
  ∀ r' H', Ext r H r' H' → Rep K Av r' h' H' → Q b H'
def tFA (m : FA) : TA := fun σ H Q => ∃ r sl h ds h', Rep K Av r h H ∧ RSl K (Tr Av r) H r sl σ ∧ m sl h = some (ds, h') ∧
  ∀ r' vs H', Ext r H r' H' → Rep K Av r' h' H' → RDs K (Tr Av r') H' r' ds vs → Q vs H'
def After (Dn : Ends) (r' : Rho) (σ' : L2.St) (H' : Hp) : Fl → Prop
  | .nx => Dn.nx σ' H'
  | .bk => Dn.bk σ' H'
  | .ct => Dn.ct σ' H'
  | .rt d => ∀ v, RD K (Tr Av r') H' r' d v → Dn.rt v H'
def tFS (m : FS) : TS := fun Dn σ H => ∃ r sl h f sl' h', Rep K Av r h H ∧ RSl K (Tr Av r) H r sl σ ∧ m sl h = some (f, sl', h') ∧
  ∀ r' σ' H', Ext r H r' H' → Rep K Av r' h' H' → RSl K (Tr Av r') H' r' sl' σ' → After K Av Dn r' σ' H' f
end
end HF
set_option Elab.async false
set_option linter.all false
set_option maxRecDepth 100000
set_option maxHeartbeats 1000000
namespace HF
open PySem PySem.Spec PyProof.Rows L2
theorem PE.imp {X : Cx} {e : Expr} {t t' : TE} (h : PE X e t) (i : ∀ σ H Q, t' σ H Q → t σ H Q) : PE X e t' := ⟨fun pins s σ H Q I q => h.run pins s σ H Q I (i σ H Q q)⟩
theorem PT.imp {X : Cx} {e : Expr} {t t' : TT} (h : PT X e t) (i : ∀ σ H Q, t' σ H Q → t σ H Q) : PT X e t' := ⟨fun pins s σ H Q I q => h.run pins s σ H Q I (i σ H Q q)⟩
theorem PW.imp {X : Cx} {e : Expr} {t t' : TT} (h : PW X e t) (i : ∀ σ H Q, t' σ H Q → t σ H Q) : PW X e t' := ⟨fun wh pins s σ H Q I q => h.run wh pins s σ H Q I (i σ H Q q)⟩
theorem PA.imp {X : Cx} {e : List Expr} {t t' : TA} (h : PA X e t) (i : ∀ σ H Q, t' σ H Q → t σ H Q) : PA X e t' := ⟨fun pos pins s σ H Q I q => h.run pos pins s σ H Q I (i σ H Q q)⟩
theorem PS.imp {X : Cx} {e : Stmt} {t t' : TS} (h : PS X e t) (i : ∀ Dn σ H, t' Dn σ H → t Dn σ H) : PS X e t' := ⟨fun pins s σ H Dn I q => h.run pins s σ H Dn I (i Dn σ H q)⟩
theorem PSs.imp {X : Cx} {e : List Stmt} {t t' : TS} (h : PSs X e t) (i : ∀ Dn σ H, t' Dn σ H → t Dn σ H) : PSs X e t' := ⟨fun pins s σ H Dn I q => h.run pins s σ H Dn I (i Dn σ H q)⟩
section
variable {K : PySem.W.Frag} {Av : Addr → Prop} {H : Hp} {r : Rho} {h h' : List O} {sl : Sl} {σ : L2.St}
theorem tF_go {m : FE} {d : D} {C : VK} (R : Rep K Av r h H) (S : RSl K (Tr Av r) H r sl σ) (e : m sl h = some (d, h'))
    (k : ∀ r' v H', Ext r H r' H' → Rep K Av r' h' H' → RSl K (Tr Av r') H' r' sl σ → RD K (Tr Av r') H' r' d v → C v H') : tF K Av m σ H C :=
  ⟨r, sl, h, d, h', R, S, e, fun r' v H' x R' rd => k r' v H' x R' (S.mono R x) rd⟩
theorem tFT_go {m : FT} {b : Bool} {C : Bool → Hp → Prop} (R : Rep K Av r h H) (S : RSl K (Tr Av r) H r sl σ) (e : m sl h = some (b, h'))
    (k : ∀ r' H', Ext r H r' H' → Rep K Av r' h' H' → RSl K (Tr Av r') H' r' sl σ → C b H') : tFT K Av m σ H C :=
  ⟨r, sl, h, b, h', R, S, e, fun r' H' x R' => k r' H' x R' (S.mono R x)⟩
theorem tFA_go {m : FA} {ds : List D} {C : List V → Hp → Prop} (R : Rep K Av r h H) (S : RSl K (Tr Av r) H r sl σ) (e : m sl h = some (ds, h'))
    (k : ∀ r' vs H', Ext r H r' H' → Rep K Av r' h' H' → RSl K (Tr Av r') H' r' sl σ → RDs K (Tr Av r') H' r' ds vs → C vs H') : tFA K Av m σ H C :=
  ⟨r, sl, h, ds, h', R, S, e, fun r' vs H' x R' rd => k r' vs H' x R' (S.mono R x) rd⟩
end
/-! ### constants, names -/
def m_c (d : D) : FE := fun _ h => some (d, h)
def m_v (i : Nat) : FE := fun sl h => match sl[i]? with
  | some (some d) => some (d, h)
  | _ => none
section
variable {X : Cx} {Av : Addr → Prop} {pos : Pos} {j : Nat}
theorem fe_const {e : Expr} {v : V} {d : D} (h : PE X e (tC v)) (hd : ∀ T H r, RD X.K T H r d v) : PE X e (tF X.K Av (m_c d)) :=
  PE.imp h fun σ H Q ⟨r, sl, h, d', h', R, S, e, k⟩ => by
    cases e
    exact k r v H (Ext.refl _ _) R (hd _ _ _)
theorem fe_int {i : Int} : PE X (.Constant (.int i) j pos) (tF X.K Av (m_c (.int i))) := fe_const pe_int fun _ _ _ => .int i
theorem fe_bl {b : Bool} : PE X (.Constant (.bool b) j pos) (tF X.K Av (m_c (.bl b))) := fe_const pe_bl fun _ _ _ => .bl b
theorem fe_str {x : Str} : PE X (.Constant (.str x) j pos) (tF X.K Av (m_c (.str x))) := fe_const pe_str fun _ _ _ => .str x
theorem fe_non : PE X (.Constant .none j pos) (tF X.K Av (m_c .non)) := fe_const pe_non fun _ _ _ => .non
theorem fe_glob {x : Str} {v : V} {u : Value} {d : D} (hg : Gl X x) (hm : X.mg x = some u) (r : RelV v u) (hr : ∀ T H r, RD X.K T H r d v) (hd : (x == ("__debug__" : Str)) = false := by decide) : PE X (.Name x pos) (tF X.K Av (m_c d)) :=
  fe_const (pe_glob hg hm r hd) hr
theorem fe_v {i : Nat} {x : Str} (hN : X.N[i]? = some x) (hv : Vis X.env.scope x) (hd : (x == ("__debug__" : Str)) = false := by decide) (hcd : (x == ("__classdict__" : Str)) = false := by decide) : PE X (.Name x pos) (tF X.K Av (m_v i)) :=
  PE.imp (pe_var hN hv hd hcd) fun σ H Q ⟨r, sl, h, d, h', R, S, e, k⟩ => by
    unfold m_v at e
    split at e
    · rename_i d' hd'
      cases e
      obtain ⟨v, hv, rd⟩ := S.at_ _ _ hd'
      exact ⟨v, hv, k r v H (Ext.refl _ _) R rd⟩
    · cases e
end
/-! ### operators -/
abbrev F2 := D → D → List O → Option (D × List O)
def m_bin (f : F2) (ma mb : FE) : FE := fun sl h => (ma sl h).bind fun p => (mb sl p.2).bind fun q => f p.1 q.1 q.2
def OpF (K : PySem.W.Frag) (Av : Addr → Prop) (f : F2) (rr : R2) : Prop := ∀ (r : Rho) (h h' : List O) (H : Hp) (x y d : D) (vx vy : V) (Q : VK), Rep K Av r h H → RD K (Tr Av r) H r x vx → RD K (Tr Av r) H r y vy →
  f x y h = some (d, h') → (∀ r' v H', Ext r H r' H' → Rep K Av r' h' H' → RD K (Tr Av r') H' r' d v → Q v H') → rr vx vy H Q
def m_t (m : FE) : FT := fun sl h => match m sl h with
  | some (.bl b, h') => some (b, h')
  | _ => none
theorem m_t_some {m : FE} {sl : Sl} {h h' : List O} {b : Bool} (e : m_t m sl h = some (b, h')) : m sl h = some (.bl b, h') := by
  unfold m_t at e
  split at e
  · rename_i q
    cases e
    exact q
  · cases e
theorem rd_bl {K : PySem.W.Frag} {T : Addr → Prop} {H : Hp} {r : Rho} {b : Bool} {v : V} (h : RD K T H r (.bl b) v) : v = .bl b := by
  cases h
  rfl
section
variable {X : Cx} {Av : Addr → Prop} {pos : Pos} {a b : Expr} {ma mb : FE} {f : F2} {rr : R2}
theorem tF_bin {K : PySem.W.Frag} (hf : OpF K Av f rr) {σ : L2.St} {H : Hp} {Q : VK} (q : tF K Av (m_bin f ma mb) σ H Q) : tOp rr (tF K Av ma) (tF K Av mb) σ H Q := by
  obtain ⟨r, sl, h, d, h', R, S, e, k⟩ := q
  obtain ⟨⟨d1, h1⟩, e1, e⟩ := Option.bind_eq_some_iff.mp e
  obtain ⟨⟨d2, h2⟩, e2, e⟩ := Option.bind_eq_some_iff.mp e
  refine tF_go R S e1 fun r1 v1 H1 x1 R1 S1 q1 => tF_go R1 S1 e2 fun r2 v2 H2 x2 R2 S2 q2 => ?_
  exact hf r2 h2 h' H2 d1 d2 d v1 v2 Q R2 (RD.mono R1 x2 _ _ q1) q2 e fun r3 v H3 x3 R3 q3 => k r3 v H3 ((x1.trans x2).trans x3) R3 q3
theorem fe_bin {op : Operator} (ho : OpR X (binaryOp op) rr) (hf : OpF X.K Av f rr) (ha : PE X a (tF X.K Av ma)) (hb : PE X b (tF X.K Av mb)) : PE X (.BinOp a op b pos) (tF X.K Av (m_bin f ma mb)) :=
  PE.imp (pe_op ho ha hb) fun _ _ _ => tF_bin hf
theorem fe_cmp {op : CmpOp} (ho : OpR X (compareOp op) rr) (hf : OpF X.K Av f rr) (ha : PE X a (tF X.K Av ma)) (hb : PE X b (tF X.K Av mb)) (hm : behindInMarks op b = false) : PE X (.Compare a [op] [b] pos) (tF X.K Av (m_bin f ma mb)) :=
  PE.imp (pe_cmpR ho ha hb hm) fun _ _ _ => tF_bin hf
theorem tF_test {K : PySem.W.Frag} {m : FE} {t : TE} (ht : ∀ σ H Q, tF K Av m σ H Q → t σ H Q) {σ : L2.St} {H : Hp} {Q : Bool → Hp → Prop} (q : tFT K Av (m_t m) σ H Q) : tTest t σ H Q := by
  obtain ⟨r, sl, h, c, h', R, S, e, k⟩ := q
  refine ht _ _ _ (tF_go R S (m_t_some e) fun r1 v1 H1 x1 R1 S1 q1 => ⟨c, rd_bl q1, k r1 H1 x1 R1⟩)
theorem ft_cmp {op : CmpOp} (ho : OpR X (compareOp op) rr) (hf : OpF X.K Av f rr) (ha : PE X a (tF X.K Av ma)) (hb : PE X b (tF X.K Av mb)) (hm : behindInMarks op b = false) : PT X (.Compare a [op] [b] pos) (tFT X.K Av (m_t (m_bin f ma mb))) :=
  PT.imp (pt_cmpR ho ha hb hm) fun _ _ _ => tF_test fun _ _ _ => tF_bin hf
theorem ft_val {e : Expr} {m : FE} (h : PE X e (tF X.K Av m)) (he : ∀ whole, isTrue e X.env whole = (do let v ← whole; standAt e.pos; holding [v] (truthy v)) := by intro _; rfl) : PT X e (tFT X.K Av (m_t m)) :=
  PT.imp (pt_val h he) fun _ _ _ q => by
    obtain ⟨r, sl, h, c, h', R, S, e, k⟩ := q
    exact tF_go R S (m_t_some e) fun r1 v1 H1 x1 R1 S1 q1 => ⟨c, rd_bl q1, k r1 H1 x1 R1⟩
/-! and, or, not -/
variable {ta tb : FT} {rest : List Expr}
def t_and (ta tb : FT) : FT := fun sl h => (ta sl h).bind fun p => if p.1 = true then tb sl p.2 else some (false, p.2)
def t_or (ta tb : FT) : FT := fun sl h => (ta sl h).bind fun p => if p.1 = true then some (true, p.2) else tb sl p.2
def t_not (ta : FT) : FT := fun sl h => (ta sl h).bind fun p => some (!p.1, p.2)
theorem ft_not (ha : PT X a (tFT X.K Av ta)) : PT X (.UnaryOp .Not a pos) (tFT X.K Av (t_not ta)) :=
  PT.imp (pt_not ha) fun σ H Q q => by
    obtain ⟨r, sl, h, c, h', R, S, e, k⟩ := q
    obtain ⟨⟨b1, h1⟩, e1, e⟩ := Option.bind_eq_some_iff.mp e
    cases e
    exact tFT_go R S e1 fun r1 H1 x1 R1 S1 => k r1 H1 x1 R1
theorem fw_and1 (ha : PT X a (tFT X.K Av ta)) : PW X (.BoolOp .And [a] pos) (tFT X.K Av ta) := pw_and1 ha
theorem fw_or1 (ha : PT X a (tFT X.K Av ta)) : PW X (.BoolOp .Or [a] pos) (tFT X.K Av ta) := pw_or1 ha
theorem fw_and (ha : PT X a (tFT X.K Av ta)) (hb : PW X (.BoolOp .And (b :: rest) pos) (tFT X.K Av tb)) : PW X (.BoolOp .And (a :: b :: rest) pos) (tFT X.K Av (t_and ta tb)) :=
  PW.imp (pw_and ha hb) fun σ H Q q => by
    obtain ⟨r, sl, h, c, h', R, S, e, k⟩ := q
    obtain ⟨⟨b1, h1⟩, e1, e⟩ := Option.bind_eq_some_iff.mp e
    refine tFT_go R S e1 fun r1 H1 x1 R1 S1 => ?_
    cases b1 with
    | true =>
      have e' : tb sl h1 = some (c, h') := e
      exact tFT_go R1 S1 e' fun r2 H2 x2 R2 S2 => k r2 H2 (x1.trans x2) R2
    | false =>
      cases e
      exact k r1 H1 x1 R1
theorem fw_or (ha : PT X a (tFT X.K Av ta)) (hb : PW X (.BoolOp .Or (b :: rest) pos) (tFT X.K Av tb)) : PW X (.BoolOp .Or (a :: b :: rest) pos) (tFT X.K Av (t_or ta tb)) :=
  PW.imp (pw_or ha hb) fun σ H Q q => by
    obtain ⟨r, sl, h, c, h', R, S, e, k⟩ := q
    obtain ⟨⟨b1, h1⟩, e1, e⟩ := Option.bind_eq_some_iff.mp e
    refine tFT_go R S e1 fun r1 H1 x1 R1 S1 => ?_
    cases b1 with
    | true =>
      cases e
      exact k r1 H1 x1 R1
    | false =>
      have e' : tb sl h1 = some (c, h') := e
      exact tFT_go R1 S1 e' fun r2 H2 x2 R2 S2 => k r2 H2 (x1.trans x2) R2
theorem ft_bool {e : Expr} (h : PW X e (tFT X.K Av ta)) : PT X e (tFT X.K Av ta) := h.pt
/-! .. as values -/
def m_and (ma mb : FE) : FE := fun sl h => (ma sl h).bind fun p => match p.1 with
  | .bl true => mb sl p.2
  | .bl false => some (.bl false, p.2)
  | _ => none
def m_or (ma mb : FE) : FE := fun sl h => (ma sl h).bind fun p => match p.1 with
  | .bl false => mb sl p.2
  | .bl true => some (.bl true, p.2)
  | _ => none
def m_not (ma : FE) : FE := fun sl h => (ma sl h).bind fun p => match p.1 with
  | .bl b => some (.bl (!b), p.2)
  | _ => none
theorem fe_one {op : BoolOp} (ha : PE X a (tF X.K Av ma)) : PE X (.BoolOp op [a] pos) (tF X.K Av ma) := pe_one ha
theorem fe_and (ha : PE X a (tF X.K Av ma)) (hb : PE X (.BoolOp .And (b :: rest) pos) (tF X.K Av mb)) : PE X (.BoolOp .And (a :: b :: rest) pos) (tF X.K Av (m_and ma mb)) :=
  PE.imp (pe_and ha hb) fun σ H Q q => by
    obtain ⟨r, sl, h, d, h', R, S, e, k⟩ := q
    obtain ⟨⟨d1, h1⟩, e1, e⟩ := Option.bind_eq_some_iff.mp e
    refine tF_go R S e1 fun r1 v1 H1 x1 R1 S1 q1 => ?_
    dsimp only at e
    split at e
    · refine ⟨true, rd_bl q1, ?_⟩
      exact tF_go R1 S1 e fun r2 v H2 x2 R2 S2 q2 => k r2 v H2 (x1.trans x2) R2 q2
    · cases e
      exact ⟨false, rd_bl q1, k r1 _ H1 x1 R1 (.bl false)⟩
    · cases e
theorem fe_or (ha : PE X a (tF X.K Av ma)) (hb : PE X (.BoolOp .Or (b :: rest) pos) (tF X.K Av mb)) : PE X (.BoolOp .Or (a :: b :: rest) pos) (tF X.K Av (m_or ma mb)) :=
  PE.imp (pe_or ha hb) fun σ H Q q => by
    obtain ⟨r, sl, h, d, h', R, S, e, k⟩ := q
    obtain ⟨⟨d1, h1⟩, e1, e⟩ := Option.bind_eq_some_iff.mp e
    refine tF_go R S e1 fun r1 v1 H1 x1 R1 S1 q1 => ?_
    dsimp only at e
    split at e
    · refine ⟨false, rd_bl q1, ?_⟩
      exact tF_go R1 S1 e fun r2 v H2 x2 R2 S2 q2 => k r2 v H2 (x1.trans x2) R2 q2
    · cases e
      exact ⟨true, rd_bl q1, k r1 _ H1 x1 R1 (.bl true)⟩
    · cases e
theorem fe_not (ha : PE X a (tF X.K Av ma)) : PE X (.UnaryOp .Not a pos) (tF X.K Av (m_not ma)) :=
  PE.imp (pe_not ha) fun σ H Q q => by
    obtain ⟨r, sl, h, d, h', R, S, e, k⟩ := q
    obtain ⟨⟨d1, h1⟩, e1, e⟩ := Option.bind_eq_some_iff.mp e
    refine tF_go R S e1 fun r1 v1 H1 x1 R1 S1 q1 => ?_
    dsimp only at e
    split at e
    · cases e
      exact ⟨_, rd_bl q1, k r1 _ H1 x1 R1 (.bl _)⟩
    · cases e
def m_if (tc : FT) (ma mb : FE) : FE := fun sl h => (tc sl h).bind fun p => if p.1 = true then ma sl p.2 else mb sl p.2
theorem fe_if {c : Expr} {tc : FT} (hc : PT X c (tFT X.K Av tc)) (ha : PE X a (tF X.K Av ma)) (hb : PE X b (tF X.K Av mb)) : PE X (.IfExp c a b pos) (tF X.K Av (m_if tc ma mb)) :=
  PE.imp (pe_ifExp hc ha hb) fun σ H Q q => by
    obtain ⟨r, sl, h, d, h', R, S, e, k⟩ := q
    obtain ⟨⟨b1, h1⟩, e1, e⟩ := Option.bind_eq_some_iff.mp e
    refine tFT_go R S e1 fun r1 H1 x1 R1 S1 => ?_
    cases b1 with
    | true =>
      have e' : ma sl h1 = some (d, h') := e
      exact tF_go R1 S1 e' fun r2 v H2 x2 R2 S2 q2 => k r2 v H2 (x1.trans x2) R2 q2
    | false =>
      have e' : mb sl h1 = some (d, h') := e
      exact tF_go R1 S1 e' fun r2 v H2 x2 R2 S2 q2 => k r2 v H2 (x1.trans x2) R2 q2
end
/-! ### argument lists, displays -/
def a_nil : FA := fun _ h => some ([], h)
def a_cons (m : FE) (ms : FA) : FA := fun sl h => (m sl h).bind fun p => (ms sl p.2).bind fun q => some (p.1 :: q.1, q.2)
section
variable {X : Cx} {Av : Addr → Prop} {pos : Pos} {e : Expr} {es : List Expr} {m : FE} {ms : FA}
theorem fa_nil : PA X [] (tFA X.K Av a_nil) := PA.imp pa_nil fun σ H Q q => by
  obtain ⟨r, sl, h, ds, h', R, S, e, k⟩ := q
  cases e
  exact k r _ H (Ext.refl _ _) R .nil
theorem fa_cons (ha : PE X e (tF X.K Av m)) (hr : PA X es (tFA X.K Av ms)) (hs : starEach (e :: es) X.env = (false, eval e X.env) :: starEach es X.env := by rfl) : PA X (e :: es) (tFA X.K Av (a_cons m ms)) :=
  PA.imp (pa_cons ha hr hs) fun σ H Q q => by
    obtain ⟨r, sl, h, ds, h', R, S, e, k⟩ := q
    obtain ⟨⟨d1, h1⟩, e1, e⟩ := Option.bind_eq_some_iff.mp e
    obtain ⟨⟨d2, h2⟩, e2, e⟩ := Option.bind_eq_some_iff.mp e
    cases e
    refine tF_go R S e1 fun r1 v1 H1 x1 R1 S1 q1 => tFA_go R1 S1 e2 fun r2 vs H2 x2 R2 S2 q2 => ?_
    exact k r2 _ H2 (x1.trans x2) R2 (.cons (RD.mono R1 x2 _ _ q1) q2)
end
theorem RDs.length {K : PySem.W.Frag} {T : Addr → Prop} {H : Hp} {r : Rho} : ∀ {ds : List D} {vs : List V}, RDs K T H r ds vs → ds.length = vs.length
  | _, _, .nil => rfl
  | _, _, .cons _ t => congrArg (· + 1) (RDs.length t)
/-! a new object that is not tracked -/
section
variable {K : PySem.W.Frag} {Av : Addr → Prop} {H : Hp} {r : Rho} {h : List O} {p : Addr} {u : HO}
theorem in_some (R : Rep K Av r h H) {a : Addr} (i : In r a) : ∃ o, H a = some o := by
  obtain ⟨i, hi⟩ := i
  have hl : i < h.length := by rw [← R.len]; exact getOpt hi
  obtain ⟨u, hu, _⟩ := R.obs i a h[i] hi (List.getElem?_eq_getElem hl)
  exact ⟨u, hu⟩
theorem tr_some (R : Rep K Av r h H) {a : Addr} (t : Tr Av r a) : ∃ o, H a = some o := t.elim (R.dom a) (in_some R)
theorem Ext.new1 (hp : H p = none) : Ext r H r (upd H p u) := ⟨Nat.le_refl _, fun _ _ _ e => e, fun i a hl e => absurd (getOpt e) (by omega), fun a o e _ => by rw [upd_ne (ne_of_none e hp)]; exact e, fun a o e => ⟨o, by rw [upd_ne (ne_of_none e hp)]; exact e⟩⟩
theorem RD.up (R : Rep K Av r h H) (hp : H p = none) {d : D} {v : V} (q : RD K (Tr Av r) H r d v) : RD K (Tr Av r) (upd H p u) r d v := RD.mono R (Ext.new1 hp) _ _ q
theorem RDs.up (R : Rep K Av r h H) (hp : H p = none) {d : List D} {v : List V} (q : RDs K (Tr Av r) H r d v) : RDs K (Tr Av r) (upd H p u) r d v := RDs.mono R (Ext.new1 hp) _ _ q
theorem roh_mono {H' : Hp} {r' : Rho} (R : Rep K Av r h H) (x : Ext r H r' H') : ∀ (o : O) (w : HO), ROH K (Tr Av r) H r o w → ROH K (Tr Av r') H' r' o w
  | .lst _, _, ⟨vs, e, q⟩ => ⟨vs, e, RDs.mono R x _ _ q⟩
  | .dk _ _, _, ⟨kvs, e, ek, q⟩ => ⟨kvs, e, ek, RDs.mono R x _ _ q⟩
  | .dt _ _, _, ⟨kvs, e, ek, q⟩ => ⟨kvs, e, ek, RDs.mono R x _ _ q⟩
  | .ins _ _ _, _, ⟨dx, fs, e, ek, q⟩ => ⟨dx, fs, e, ek, RDs.mono R x _ _ q⟩
  | .lk o, _, ⟨od, u', e, q⟩ => ⟨od, u', e, roh_mono R x o u' q⟩
  | .gone, _, q => q
theorem Rep.new1 (R : Rep K Av r h H) (hp : H p = none) : Rep K Av r h (upd H p u) where
  len := R.len
  inj := R.inj
  nav := R.nav
  dom := fun a q => by
    obtain ⟨o, e⟩ := R.dom a q
    exact ⟨o, by rw [upd_ne (ne_of_none e hp)]; exact e⟩
  obs := fun i a o e1 e2 => by
    obtain ⟨w, hw, ho⟩ := R.obs i a o e1 e2
    exact ⟨w, by rw [upd_ne (ne_of_none hw hp)]; exact hw, roh_mono R (Ext.new1 hp) o w ho⟩
  drop := R.drop
theorem new_tr (R : Rep K Av r h H) (hp : H p = none) : ¬ Tr Av r p := fun t => by
  obtain ⟨o, e⟩ := tr_some R t
  rw [hp] at e
  cases e
theorem rd_tup (R : Rep K Av r h H) (hp : H p = none) {xs : List D} {vs : List V} (q : RDs K (Tr Av r) H r xs vs) : RD K (Tr Av r) (upd H p (.tup vs)) r (.tup xs) (.ref p) := .tup upd_same (RDs.up R hp q)
theorem rd_fl (R : Rep K Av r h H) (hp : H p = none) {xs : List D} {vs : List V} (q : RDs K (Tr Av r) H r xs vs) : RD K (Tr Av r) (upd H p (.lst vs)) r (.fl xs) (.ref p) := .fl upd_same (new_tr R hp) (RDs.up R hp q)
end
def szOk (n : Nat) : Bool := decide (n ≤ 100000)
theorem szOk_le {n : Nat} (h : szOk n = true) : n ≤ sizeLine := Nat.le_trans (of_decide_eq_true h) (by decide)
theorem szOk_lt {n : Nat} (h : szOk n = true) : n < sizeLine := Nat.lt_of_le_of_lt (of_decide_eq_true h) (by decide)
def m_tup (ms : FA) : FE := fun sl h => (ms sl h).bind fun p => if szOk p.1.length then some (.tup p.1, p.2) else none
def m_fl (ms : FA) : FE := fun sl h => (ms sl h).bind fun p => if szOk p.1.length then some (.fl p.1, p.2) else none
section
variable {X : Cx} {Av : Addr → Prop} {pos : Pos} {es : List Expr} {ms : FA} {x1 : Nat}
theorem fe_tup (ha : PA X es (tFA X.K Av ms)) : PE X (.Tuple es x1 pos) (tF X.K Av (m_tup ms)) :=
  PE.imp (pe_tup ha) fun σ H Q q => by
    obtain ⟨r, sl, h, d, h', R, S, e, k⟩ := q
    obtain ⟨⟨ds, h1⟩, e1, e⟩ := Option.bind_eq_some_iff.mp e
    refine tFA_go R S e1 fun r1 vs H1 y1 R1 S1 q1 => ?_
    dsimp only at e
    split at e
    · rename_i hz
      cases e
      exact ⟨by rw [← q1.length]; exact szOk_le hz, fun p hp => k r1 _ _ (y1.trans (Ext.new1 hp)) (R1.new1 hp) (rd_tup R1 hp q1)⟩
    · cases e
theorem fe_fl (ha : PA X es (tFA X.K Av ms)) : PE X (.List es pos) (tF X.K Av (m_fl ms)) :=
  PE.imp (pe_lst ha) fun σ H Q q => by
    obtain ⟨r, sl, h, d, h', R, S, e, k⟩ := q
    obtain ⟨⟨ds, h1⟩, e1, e⟩ := Option.bind_eq_some_iff.mp e
    refine tFA_go R S e1 fun r1 vs H1 y1 R1 S1 q1 => ?_
    dsimp only at e
    split at e
    · rename_i hz
      cases e
      exact ⟨by rw [← q1.length]; exact szOk_le hz, fun p hp => k r1 _ _ (y1.trans (Ext.new1 hp)) (R1.new1 hp) (rd_fl R1 hp q1)⟩
    · cases e
end
end HF
set_option Elab.async false
set_option linter.all false
set_option maxRecDepth 100000
set_option maxHeartbeats 1000000
namespace HF
open PySem PySem.Spec PyProof.Rows L2
/-! ### tracked objects: made, changed, frozen -/
section
variable {K : PySem.W.Frag} {Av : Addr → Prop} {H : Hp} {r : Rho} {h : List O} {p : Addr} {u : HO} {o : O}
theorem getApp {α : Type} {l : List α} {x : α} {i : Nat} {y : α} (e : (l ++ [x])[i]? = some y) : l[i]? = some y ∨ (i = l.length ∧ y = x) := by
  rcases Nat.lt_or_ge i l.length with q | q
  · rw [List.getElem?_append_left q] at e
    exact .inl e
  · rw [List.getElem?_append_right q] at e
    have hi : i - l.length = 0 := by
      have := getOpt e
      simp at this
      omega
    rw [hi] at e
    simp at e
    exact .inr ⟨by omega, e.symm⟩
theorem ext_push (hp : H p = none) : Ext r H (r ++ [some p]) (upd H p u) where
  len := by simp
  pre := fun i a hi e => by rw [List.getElem?_append_left hi] at e; exact e
  new := fun i a hi e => by
    rcases getApp e with q | ⟨_, q⟩
    · exact absurd (getOpt q) (by omega)
    · cases q; exact hp
  keep := fun a o e _ => by rw [upd_ne (ne_of_none e hp)]; exact e
  stay := fun a o e => ⟨o, by rw [upd_ne (ne_of_none e hp)]; exact e⟩
theorem Rep.push (R : Rep K Av r h H) (hp : H p = none) (ho : ROH K (Tr Av (r ++ [some p])) (upd H p u) (r ++ [some p]) o u) : Rep K Av (r ++ [some p]) (h ++ [o]) (upd H p u) where
  len := by simp [R.len]
  inj := fun i j a e1 e2 => by
    rcases getApp e1 with q1 | ⟨l1, q1⟩ <;> rcases getApp e2 with q2 | ⟨l2, q2⟩
    · exact R.inj i j a q1 q2
    · cases q2
      obtain ⟨o, z⟩ := in_some R ⟨i, q1⟩
      rw [hp] at z
      cases z
    · cases q1
      obtain ⟨o, z⟩ := in_some R ⟨j, q2⟩
      rw [hp] at z
      cases z
    · omega
  nav := fun a ⟨i, e⟩ av => by
    rcases getApp e with q | ⟨_, q⟩
    · exact R.nav a ⟨i, q⟩ av
    · cases q
      obtain ⟨o, z⟩ := R.dom _ av
      rw [hp] at z
      cases z
  dom := fun a q => by
    obtain ⟨o, e⟩ := R.dom a q
    exact ⟨o, by rw [upd_ne (ne_of_none e hp)]; exact e⟩
  obs := fun i a o' e1 e2 => by
    rcases getApp e1 with q1 | ⟨l1, q1⟩
    · have hi : i < h.length := by rw [← R.len]; exact getOpt q1
      rw [List.getElem?_append_left hi] at e2
      obtain ⟨w, hw, hr⟩ := R.obs i a o' q1 e2
      exact ⟨w, by rw [upd_ne (ne_of_none hw hp)]; exact hw, roh_mono R (ext_push hp) o' w hr⟩
    · cases q1
      rw [l1, R.len, List.getElem?_append_right (Nat.le_refl _)] at e2
      simp at e2
      subst e2
      exact ⟨u, upd_same, ho⟩
  drop := fun i e => by
    rcases getApp e with q | ⟨_, q⟩
    · have hi : i < h.length := by rw [← R.len]; exact getOpt q
      rw [List.getElem?_append_left hi]
      exact R.drop i q
    · cases q
theorem ext_set {i : Nat} {a : Addr} (R : Rep K Av r h H) (hi : r[i]? = some (some a)) : Ext r H r (upd H a u) where
  len := Nat.le_refl _
  pre := fun _ _ _ e => e
  new := fun i a hl e => absurd (getOpt e) (by omega)
  keep := fun b o e n => by
    rw [upd_ne]
    · exact e
    · intro q
      subst q
      exact n ⟨i, hi⟩
  stay := fun b o e => by
    by_cases q : b = a
    · subst q
      exact ⟨u, upd_same⟩
    · exact ⟨o, by rw [upd_ne q]; exact e⟩
theorem Rep.set (R : Rep K Av r h H) {i : Nat} {a : Addr} (hi : r[i]? = some (some a)) (ho : ROH K (Tr Av r) (upd H a u) r o u) : Rep K Av r (h.set i o) (upd H a u) where
  len := by simp [R.len]
  inj := R.inj
  nav := R.nav
  dom := fun b q => by
    obtain ⟨o, e⟩ := R.dom b q
    exact (ext_set (u := u) R hi).stay b o e
  obs := fun j b o' e1 e2 => by
    by_cases q : j = i
    · subst q
      rw [hi] at e1
      cases e1
      have hl : j < h.length := by rw [← R.len]; exact getOpt hi
      rw [List.getElem?_set_self hl] at e2
      cases e2
      exact ⟨u, upd_same, ho⟩
    · rw [List.getElem?_set_ne (Ne.symm q)] at e2
      obtain ⟨w, hw, hr⟩ := R.obs j b o' e1 e2
      have nb : b ≠ a := fun z => q (R.inj j i a (z ▸ e1) hi)
      exact ⟨w, by rw [upd_ne nb]; exact hw, roh_mono R (ext_set R hi) o' w hr⟩
  drop := fun j e => by
    by_cases q : j = i
    · subst q
      rw [hi] at e
      cases e
    · rw [List.getElem?_set_ne (Ne.symm q)]
      exact R.drop j e
theorem Rep.at_ (R : Rep K Av r h H) {i : Nat} {o : O} {v : V} (q : RD K (Tr Av r) H r (.loc i) v) (e : h[i]? = some o) (ng : o ≠ .gone) : ∃ a u, r[i]? = some (some a) ∧ v = .ref a ∧ H a = some u ∧ ROH K (Tr Av r) H r o u := by
  cases q with
  | loc l z =>
    have hl : r[i]? = some r[i] := List.getElem?_eq_getElem l
    cases hr : r[i] with
    | none =>
      rw [hr] at hl
      rw [R.drop i hl] at e
      cases e
      exact absurd rfl ng
    | some a =>
      rw [hr] at hl
      obtain ⟨u, hu, ho⟩ := R.obs i a o hl e
      exact ⟨a, u, hl, z a hl, hu, ho⟩
/-! freezing -/
theorem ext_drop {i : Nat} : Ext r H (r.set i none) H where
  len := by simp
  pre := fun j a hj e => by
    by_cases q : j = i
    · subst q
      rw [List.getElem?_set_self hj] at e
      cases e
    · rw [List.getElem?_set_ne (Ne.symm q)] at e
      exact e
  new := fun j a hl e => by
    have := getOpt e
    simp at this
    omega
  keep := fun a o e _ => e
  stay := fun a o e => ⟨o, e⟩
theorem in_drop {i : Nat} {a : Addr} (q : In (r.set i none) a) : In r a := by
  obtain ⟨j, e⟩ := q
  exact ⟨j, (ext_drop (H := fun _ => none) (r := r) (i := i)).pre j a (by have := getOpt e; simpa using this) e⟩
theorem Rep.drop1 (R : Rep K Av r h H) (i : Nat) : Rep K Av (r.set i none) (h.set i .gone) H where
  len := by simp [R.len]
  inj := fun j k a e1 e2 => R.inj j k a (ext_drop (H := H).pre j a (by have := getOpt e1; simpa using this) e1) (ext_drop (H := H).pre k a (by have := getOpt e2; simpa using this) e2)
  nav := fun a q => R.nav a (in_drop q)
  dom := R.dom
  obs := fun j a o e1 e2 => by
    by_cases q : j = i
    · subst q
      rw [List.getElem?_set_self (by have := getOpt e1; simpa using this)] at e1
      cases e1
    · rw [List.getElem?_set_ne (Ne.symm q)] at e1 e2
      obtain ⟨u, hu, ho⟩ := R.obs j a o e1 e2
      exact ⟨u, hu, roh_mono R ext_drop o u ho⟩
  drop := fun j e => by
    by_cases q : j = i
    · subst q
      have hl : j < r.length := by have := getOpt e; simpa using this
      rw [List.getElem?_set_self (by rw [← R.len]; exact hl)]
    · rw [List.getElem?_set_ne (Ne.symm q)] at e ⊢
      exact R.drop j e
theorem notin_drop (R : Rep K Av r h H) {i : Nat} {a : Addr} (hi : r[i]? = some (some a)) : ¬ Tr Av (r.set i none) a := fun t => by
  rcases t with t | ⟨j, e⟩
  · exact R.nav a ⟨i, hi⟩ t
  · have e' := ext_drop (H := H).pre j a (by have := getOpt e; simpa using this) e
    have q := R.inj j i a e' hi
    subst q
    rw [List.getElem?_set_self (getOpt e')] at e
    cases e
end
def mapS (f : D → List O → Option (D × List O)) : List D → List O → Option (List D × List O)
  | [], h => some ([], h)
  | x :: xs, h => (f x h).bind fun p => (mapS f xs p.2).bind fun q => some (p.1 :: q.1, q.2)
def frz : Nat → D → List O → Option (D × List O)
  | 0, _, _ => none
  | n + 1, .loc i, h => match h[i]? with
    | some (.lst xs) => (mapS (frz n) xs (h.set i .gone)).bind fun p => some (.fl p.1, p.2)
    | some (.ins c ks xs) => (mapS (frz n) xs (h.set i .gone)).bind fun p => some (.ob c ks p.1, p.2)
    | some (.dk ks xs) => (mapS (frz n) xs (h.set i .gone)).bind fun p => some (.dk ks p.1, p.2)
    | some (.dt ks xs) => (mapS (frz n) xs (h.set i .gone)).bind fun p => some (.dt ks p.1, p.2)
    | _ => none
  | n + 1, .tup xs, h => (mapS (frz n) xs h).bind fun p => some (.tup p.1, p.2)
  | _ + 1, d, h => some (d, h)
section
variable {K : PySem.W.Frag} {Av : Addr → Prop} {H : Hp}
def FrzOk (K : PySem.W.Frag) (Av : Addr → Prop) (H : Hp) (f : D → List O → Option (D × List O)) : Prop := ∀ (d d' : D) (v : V) (r : Rho) (h h' : List O), f d h = some (d', h') → Rep K Av r h H → RD K (Tr Av r) H r d v →
  ∃ r', Ext r H r' H ∧ Rep K Av r' h' H ∧ RD K (Tr Av r') H r' d' v
theorem mapS_ok {f : D → List O → Option (D × List O)} (hf : FrzOk K Av H f) : ∀ (ds ds' : List D) (vs : List V) (r : Rho) (h h' : List O), mapS f ds h = some (ds', h') → Rep K Av r h H → RDs K (Tr Av r) H r ds vs →
    ∃ r', Ext r H r' H ∧ Rep K Av r' h' H ∧ RDs K (Tr Av r') H r' ds' vs
  | [], _, _, r, h, h', e, R, .nil => by
    cases e
    exact ⟨r, Ext.refl _ _, R, .nil⟩
  | d :: ds, _, _, r, h, h', e, R, .cons q qs => by
    obtain ⟨⟨d1, h1⟩, e1, e⟩ := Option.bind_eq_some_iff.mp e
    obtain ⟨⟨d2, h2⟩, e2, e⟩ := Option.bind_eq_some_iff.mp e
    cases e
    obtain ⟨r1, x1, R1, q1⟩ := hf _ _ _ _ _ _ e1 R q
    obtain ⟨r2, x2, R2, q2⟩ := mapS_ok hf ds d2 _ r1 h1 _ e2 R1 (RDs.mono R x1 _ _ qs)
    exact ⟨r2, x1.trans x2, R2, .cons (RD.mono R1 x2 _ _ q1) q2⟩
theorem rds_keys {α : Type} {fs : List (α × V)} {ks : List α} (e : fs.map (·.1) = ks) : fs.map (·.1) = ks := e
theorem frz_ok : ∀ n : Nat, FrzOk K Av H (frz n)
  | 0 => fun d d' v r hh hh' e => by cases e
  | n + 1 => fun d d' v r h h' e R q => by
    have ih := mapS_ok (frz_ok n)
    cases d with
    | loc i =>
      unfold frz at e
      split at e
      · rename_i xs hi
        obtain ⟨a, u, ha, hv, hu, ho⟩ := R.at_ q hi (by intro z; cases z)
        obtain ⟨vs, eu, qs⟩ := ho
        subst eu hv
        obtain ⟨⟨d1, h1⟩, e1, e⟩ := Option.bind_eq_some_iff.mp e
        cases e
        obtain ⟨r1, x1, R1, q1⟩ := ih _ _ _ _ _ _ e1 (R.drop1 i) (RDs.mono R ext_drop _ _ qs)
        exact ⟨r1, ext_drop.trans x1, R1, .fl hu (tr_mono x1 (notin_drop R ha) ⟨_, hu⟩) q1⟩
      · rename_i c ks xs hi
        obtain ⟨a, u, ha, hv, hu, ho⟩ := R.at_ q hi (by intro z; cases z)
        obtain ⟨dx, fs, eu, ek, qs⟩ := ho
        subst eu hv
        obtain ⟨⟨d1, h1⟩, e1, e⟩ := Option.bind_eq_some_iff.mp e
        cases e
        obtain ⟨r1, x1, R1, q1⟩ := ih _ _ _ _ _ _ e1 (R.drop1 i) (RDs.mono R ext_drop _ _ qs)
        exact ⟨r1, ext_drop.trans x1, R1, .ob hu (tr_mono x1 (notin_drop R ha) ⟨_, hu⟩) ek q1⟩
      · rename_i ks xs hi
        obtain ⟨a, u, ha, hv, hu, ho⟩ := R.at_ q hi (by intro z; cases z)
        obtain ⟨kvs, eu, ek, qs⟩ := ho
        subst eu hv
        obtain ⟨⟨d1, h1⟩, e1, e⟩ := Option.bind_eq_some_iff.mp e
        cases e
        obtain ⟨r1, x1, R1, q1⟩ := ih _ _ _ _ _ _ e1 (R.drop1 i) (RDs.mono R ext_drop _ _ qs)
        exact ⟨r1, ext_drop.trans x1, R1, .dk (.inl hu) (tr_mono x1 (notin_drop R ha) ⟨_, hu⟩) ek q1⟩
      · rename_i ks xs hi
        obtain ⟨a, u, ha, hv, hu, ho⟩ := R.at_ q hi (by intro z; cases z)
        obtain ⟨kvs, eu, ek, qs⟩ := ho
        subst eu hv
        obtain ⟨⟨d1, h1⟩, e1, e⟩ := Option.bind_eq_some_iff.mp e
        cases e
        obtain ⟨r1, x1, R1, q1⟩ := ih _ _ _ _ _ _ e1 (R.drop1 i) (RDs.mono R ext_drop _ _ qs)
        exact ⟨r1, ext_drop.trans x1, R1, .dt (.inl hu) (tr_mono x1 (notin_drop R ha) ⟨_, hu⟩) ek q1⟩
      · cases e
    | tup xs =>
      obtain ⟨⟨d1, h1⟩, e1, e⟩ := Option.bind_eq_some_iff.mp (show (mapS (frz n) xs h).bind (fun p => some (.tup p.1, p.2)) = some (d', h') from e)
      cases e
      cases q with
      | tup sq qs =>
        obtain ⟨r1, x1, R1, q1⟩ := ih _ _ _ _ _ _ e1 R qs
        exact ⟨r1, x1, R1, .tup (x1.keep _ _ sq fun hi => R.notup hi (.inl sq)) q1⟩
    | non => cases e; exact ⟨r, Ext.refl _ _, R, q⟩
    | bl b => cases e; exact ⟨r, Ext.refl _ _, R, q⟩
    | int b => cases e; exact ⟨r, Ext.refl _ _, R, q⟩
    | str b => cases e; exact ⟨r, Ext.refl _ _, R, q⟩
    | kt b => cases e; exact ⟨r, Ext.refl _ _, R, q⟩
    | kl b => cases e; exact ⟨r, Ext.refl _ _, R, q⟩
    | fl b => cases e; exact ⟨r, Ext.refl _ _, R, q⟩
    | fz b => cases e; exact ⟨r, Ext.refl _ _, R, q⟩
    | ob b c d => cases e; exact ⟨r, Ext.refl _ _, R, q⟩
    | dk b c => cases e; exact ⟨r, Ext.refl _ _, R, q⟩
    | dt b c => cases e; exact ⟨r, Ext.refl _ _, R, q⟩
end
def m_frz (m : FE) : FE := fun sl h => (m sl h).bind fun p => frz 8 p.1 p.2
def m_tl (ms : FA) : FE := fun sl h => (ms sl h).bind fun p => if szOk p.1.length then some (.loc p.2.length, p.2 ++ [.lst p.1]) else none
section
variable {X : Cx} {Av : Addr → Prop} {pos : Pos} {e : Expr} {es : List Expr} {m : FE} {ms : FA}
theorem fe_frz (he : PE X e (tF X.K Av m)) : PE X e (tF X.K Av (m_frz m)) := PE.imp he fun σ H Q q => by
  obtain ⟨r, sl, h, d, h', R, S, e, k⟩ := q
  obtain ⟨⟨d1, h1⟩, e1, e⟩ := Option.bind_eq_some_iff.mp e
  refine tF_go R S e1 fun r1 v H1 x1 R1 S1 q1 => ?_
  obtain ⟨r2, x2, R2, q2⟩ := frz_ok 8 _ _ _ _ _ _ e R1 q1
  exact k r2 v H1 (x1.trans x2) R2 q2
theorem fe_tl (ha : PA X es (tFA X.K Av ms)) : PE X (.List es pos) (tF X.K Av (m_tl ms)) :=
  PE.imp (pe_lst ha) fun σ H Q q => by
    obtain ⟨r, sl, h, d, h', R, S, e, k⟩ := q
    obtain ⟨⟨ds, h1⟩, e1, e⟩ := Option.bind_eq_some_iff.mp e
    refine tFA_go R S e1 fun r1 vs H1 y1 R1 S1 q1 => ?_
    dsimp only at e
    split at e
    · rename_i hz
      cases e
      refine ⟨by rw [← q1.length]; exact szOk_le hz, fun p hp => k (r1 ++ [some p]) _ _ (y1.trans (ext_push hp)) (R1.push hp ⟨vs, rfl, RDs.mono R1 (ext_push hp) _ _ q1⟩) ?_⟩
      exact .loc (by simp [R1.len]) fun a ea => by
        rw [← R1.len, List.getElem?_append_right (Nat.le_refl _)] at ea
        simp at ea
        rw [ea]
    · cases e
end
/-! ### statements -/
def s_nil : FS := fun sl h => some (.nx, sl, h)
def s_seq (a b : FS) : FS := fun sl h => (a sl h).bind fun p => match p.1 with
  | .nx => b p.2.1 p.2.2
  | f => some (f, p.2)
def s_never : FS := fun _ _ => none
section
variable {K : PySem.W.Frag} {Av : Addr → Prop} {H : Hp} {r : Rho} {h h' : List O} {sl sl' : Sl} {σ : L2.St}
theorem tFS_go {m : FS} {f : Fl} {Dn : Ends} (R : Rep K Av r h H) (S : RSl K (Tr Av r) H r sl σ) (e : m sl h = some (f, sl', h'))
    (k : ∀ r' σ' H', Ext r H r' H' → Rep K Av r' h' H' → RSl K (Tr Av r') H' r' sl' σ' → After K Av Dn r' σ' H' f) : tFS K Av m Dn σ H :=
  ⟨r, sl, h, f, sl', h', R, S, e, k⟩
end
section
variable {X : Cx} {Av : Addr → Prop} {pos : Pos} {st : Stmt} {rest : List Stmt} {a b : FS} {e : Expr} {m : FE} {tc : FT}
theorem fs_nil : PSs X [] (tFS X.K Av s_nil) := PSs.imp pss_nil fun Dn σ H q => by
  obtain ⟨r, sl, h, f, sl', h', R, S, e, k⟩ := q
  cases e
  exact k r σ H (Ext.refl _ _) R S
theorem fs_cons (h1 : PS X st (tFS X.K Av a)) (h2 : PSs X rest (tFS X.K Av b)) : PSs X (st :: rest) (tFS X.K Av (s_seq a b)) := PSs.imp (pss_cons h1 h2) fun Dn σ H q => by
  obtain ⟨r, sl, h, f, sl', h', R, S, e, k⟩ := q
  obtain ⟨⟨f1, sl1, h1⟩, e1, e⟩ := Option.bind_eq_some_iff.mp e
  refine tFS_go R S e1 fun r1 σ1 H1 x1 R1 S1 => ?_
  dsimp only at e
  cases f1 with
  | nx => exact tFS_go R1 S1 e fun r2 σ2 H2 x2 R2 S2 => k r2 σ2 H2 (x1.trans x2) R2 S2
  | bk => cases e; exact k r1 σ1 H1 x1 R1 S1
  | ct => cases e; exact k r1 σ1 H1 x1 R1 S1
  | rt d => cases e; exact k r1 σ1 H1 x1 R1 S1
theorem fs_one (h1 : PS X st (tFS X.K Av a)) : PSs X [st] (tFS X.K Av a) := pss_one h1
theorem fs_never : PS X st (tFS X.K Av s_never) := PS.imp ps_never fun Dn σ H q => by
  obtain ⟨r, sl, h, f, sl', h', R, S, e, k⟩ := q
  cases e
theorem fss_never : PSs X rest (tFS X.K Av s_never) := PSs.imp pss_never fun Dn σ H q => by
  obtain ⟨r, sl, h, f, sl', h', R, S, e, k⟩ := q
  cases e
theorem fs_pass : PS X (.Pass pos) (tFS X.K Av s_nil) := PS.imp ps_pass fun Dn σ H q => by
  obtain ⟨r, sl, h, f, sl', h', R, S, e, k⟩ := q
  cases e
  exact k r σ H (Ext.refl _ _) R S
def s_brk : FS := fun sl h => some (.bk, sl, h)
def s_cont : FS := fun sl h => some (.ct, sl, h)
theorem fs_brk : PS X (.Break pos) (tFS X.K Av s_brk) := PS.imp ps_break fun Dn σ H q => by
  obtain ⟨r, sl, h, f, sl', h', R, S, e, k⟩ := q
  cases e
  exact k r σ H (Ext.refl _ _) R S
theorem fs_cont : PS X (.Continue pos) (tFS X.K Av s_cont) := PS.imp ps_continue fun Dn σ H q => by
  obtain ⟨r, sl, h, f, sl', h', R, S, e, k⟩ := q
  cases e
  exact k r σ H (Ext.refl _ _) R S
def s_ex (m : FE) : FS := fun sl h => (m sl h).bind fun p => some (.nx, sl, p.2)
theorem fs_ex (he : PE X e (tF X.K Av m)) (hs : swapsWith e none pos.line X.env = pure false := by rfl) : PS X (.Expr e pos) (tFS X.K Av (s_ex m)) := PS.imp (ps_expr he hs) fun Dn σ H q => by
  obtain ⟨r, sl, h, f, sl', h', R, S, e, k⟩ := q
  obtain ⟨⟨d1, h1⟩, e1, e⟩ := Option.bind_eq_some_iff.mp e
  cases e
  exact tF_go R S e1 fun r1 v H1 x1 R1 S1 q1 => k r1 σ H1 x1 R1 S1
def s_ret (m : FE) : FS := fun sl h => (m sl h).bind fun p => some (.rt p.1, sl, p.2)
theorem fs_ret (he : PE X e (tF X.K Av m)) : PS X (.Return (some e) pos) (tFS X.K Av (s_ret m)) := PS.imp (ps_ret he) fun Dn σ H q => by
  obtain ⟨r, sl, h, f, sl', h', R, S, e, k⟩ := q
  obtain ⟨⟨d1, h1⟩, e1, e⟩ := Option.bind_eq_some_iff.mp e
  cases e
  exact tF_go R S e1 fun r1 v H1 x1 R1 S1 q1 => k r1 σ H1 x1 R1 S1 v q1
def s_retN : FS := fun sl h => some (.rt .non, sl, h)
theorem fs_retN : PS X (.Return none pos) (tFS X.K Av s_retN) := PS.imp ps_retN fun Dn σ H q => by
  obtain ⟨r, sl, h, f, sl', h', R, S, e, k⟩ := q
  cases e
  exact k r σ H (Ext.refl _ _) R S .non .non
def s_if (tc : FT) (a b : FS) : FS := fun sl h => (tc sl h).bind fun p => if p.1 = true then a sl p.2 else b sl p.2
theorem fs_if {c : Expr} {as bs : List Stmt} (hc : PT X c (tFT X.K Av tc)) (ha : PSs X as (tFS X.K Av a)) (hb : PSs X bs (tFS X.K Av b)) : PS X (.If c as bs pos) (tFS X.K Av (s_if tc a b)) := PS.imp (ps_if hc ha hb) fun Dn σ H q => by
  obtain ⟨r, sl, h, f, sl', h', R, S, e, k⟩ := q
  obtain ⟨⟨b1, h1⟩, e1, e⟩ := Option.bind_eq_some_iff.mp e
  refine tFT_go R S e1 fun r1 H1 x1 R1 S1 => ?_
  cases b1 with
  | true =>
    have e' : a sl h1 = some (f, sl', h') := e
    exact tFS_go R1 S1 e' fun r2 σ2 H2 x2 R2 S2 => k r2 σ2 H2 (x1.trans x2) R2 S2
  | false =>
    have e' : b sl h1 = some (f, sl', h') := e
    exact tFS_go R1 S1 e' fun r2 σ2 H2 x2 R2 S2 => k r2 σ2 H2 (x1.trans x2) R2 S2
def s_set (i : Nat) (m : FE) : FS := fun sl h => (m sl h).bind fun p => some (.nx, sl.set i (some p.1), p.2)
theorem fs_set {i : Nat} {x : Str} {pos' : Pos} (hN : X.N.Nodup) (hi : X.N[i]? = some x) (hx : Loc X.env.scope x) (he : PE X e (tF X.K Av m)) (hs : swapsWith e (some (.Name x pos')) pos.line X.env = pure false := by rfl) (hf : X.fn x = true ∨ X.env.scope.names.lookup x = some .local := by first | exact .inl rfl | exact .inr rfl | assumption) :
    PS X (.Assign [.Name x pos'] e pos) (tFS X.K Av (s_set i m)) := PS.imp (ps_set hN hi hx he hs hf) fun Dn σ H q => by
  obtain ⟨r, sl, h, f, sl', h', R, S, e, k⟩ := q
  obtain ⟨⟨d1, h1⟩, e1, e⟩ := Option.bind_eq_some_iff.mp e
  cases e
  exact tF_go R S e1 fun r1 v H1 x1 R1 S1 q1 => k r1 _ H1 x1 R1 (S1.set i q1)
end
end HF
set_option Elab.async false
set_option linter.all false
set_option maxRecDepth 100000
set_option maxHeartbeats 1000000
namespace HF
open PySem PySem.Spec PyProof.Rows L2
abbrev CX0 : CXT := fun _ _ _ _ _ _ => False
abbrev E0 : XK := fun _ _ _ => False
theorem pass0 {X : Cx} {E : XK} : Passes CX0 X E := fun _ _ _ _ _ _ _ h => h.elim
/-! ### the call node, whatever the form of its arguments -/
theorem callWith_gen {M : Model} {A : Around} {E : Value → Shared → Prop} {s : Shared} {pos : Pos} {f : Value} {first : List Value} {Q : Value → Shared → Prop} {P : Heap → Prop} {args : List (Bool × Sem Value)} {keywords : List (Option Str × Sem Value)} (hkw : keywords.any (·.1.isNone) = false)
    (hk : ∀ h, P h → ∃ k, (k = Keeper.frame ∨ k = Keeper.machine ∨ k = Keeper.boundFrame) ∧ PySem.W.Looks M h (keeperOf f) k)
    (h : wpAny M A (evalArgs f true args keywords) (fun a s₁ => P s₁.heap ∧ wpAny M A (call f (first ++ a.pos) a.kw) Q E s₁) E s) : wpAny M A (callWith pos f first args keywords) Q E s := by
  cases hst : args.any (·.1) with
  | false => exact PySem.W.callWith_of (by rw [hst, hkw]; rfl) hk h
  | true =>
    unfold callWith
    refine wpAny_bind (wpAny_holding (wpAny_mono h (fun a s₁ h₁ => wpAny_bind (wpAny_standAt ?_)) fun _ _ x => x))
    obtain ⟨k, hk', L⟩ := hk _ h₁.1
    simp only [hst, Bool.true_or]
    refine wpAny_bind (L.here ?_)
    have tail : ∀ {t : Sem Value}, wpAny M A t Q E s₁ → wpAny M A (t >>= fun r => holding [r] point >>= fun _ => pure r) Q E s₁ :=
      fun ht => wpAny_bind (wpAny_mono ht (fun r s₂ hr => wpAny_bind (wpAny_holding (wpAny_point (wpAny_pure hr)))) fun _ _ x => x)
    have marked (mk : Value) : wpAny M A (callMarked mk f (first ++ a.pos) a.kw) Q E s₁ := by unfold callMarked; exact Calls.wpAny_keep h₁.2
    rcases hk' with rfl | rfl | rfl <;> dsimp only <;> first | exact tail (marked _) | exact tail (Calls.wpAny_operating h₁.2) | exact tail (wpAny_operating h₁.2)
structure PCA (X : Cx) (es : List Expr) (kws : List Keyword) (ks : List Str) (t : L2.St → Hp → (List V → List V → Hp → Prop) → Prop) : Prop where
  run : ∀ (pos : Pos) (f : Value) (first : List Value) (pins : List (Addr × Obj)) (s : Shared) (σ : L2.St) (H : Hp) (Q : Value → Shared → Prop) (C : List V → List V → Hp → Prop), PySem.W.keepIn X.K f = true → Inv X pins σ H s → t σ H C →
    (∀ us ws vs zs s1 H1, Inv X pins σ H1 s1 → Vals vs us → Vals zs ws → C vs zs H1 → wpAny (model X.prog X.w) X.A (call f (first ++ us) (ks.zip ws)) Q X.xe s1) →
    wpAny (model X.prog X.w) X.A (callWith pos f first (backTo pos (starEach es X.env)) (backToKw pos (keywordEach kws X.env))) Q X.xe s
abbrev FC := Sl → List O → Option ((List D × List D) × List O)
def tFC (K : PySem.W.Frag) (Av : Addr → Prop) (m : FC) : L2.St → Hp → (List V → List V → Hp → Prop) → Prop := fun σ H Q => ∃ r sl h ds es h', Rep K Av r h H ∧ RSl K (Tr Av r) H r sl σ ∧ m sl h = some ((ds, es), h') ∧
  ∀ r' vs zs H', Ext r H r' H' → Rep K Av r' h' H' → RDs K (Tr Av r') H' r' ds vs → RDs K (Tr Av r') H' r' es zs → Q vs zs H'
def m_ca (ma mk : FA) : FC := fun sl h => (ma sl h).bind fun p => (mk sl p.2).bind fun q => some ((p.1, q.1), q.2)
section
variable {X : Cx} {Av : Addr → Prop} {pos kpos : Pos} {e : Expr} {es : List Expr} {kws : List Keyword} {ks : List Str} {m : FE} {ma mk : FA} {nm : Option Str}
theorem PK.imp {t t' : TA} (h : PK X kws t) (i : ∀ σ H Q, t' σ H Q → t σ H Q) : PK X kws t' := ⟨fun pos pins s σ H Q I q => h.run pos pins s σ H Q I (i σ H Q q)⟩
theorem fk_nil : PK X [] (tFA X.K Av a_nil) := PK.imp pk_nil fun σ H Q q => by
  obtain ⟨r, sl, h, ds, h', R, S, e, k⟩ := q
  cases e
  exact k r _ H (Ext.refl _ _) R .nil
theorem fk_cons (ha : PE X e (tF X.K Av m)) (hr : PK X kws (tFA X.K Av mk)) : PK X (⟨nm, e, kpos⟩ :: kws) (tFA X.K Av (a_cons m mk)) :=
  PK.imp (pk_cons ha hr) fun σ H Q q => by
    obtain ⟨r, sl, h, ds, h', R, S, e, k⟩ := q
    obtain ⟨⟨d1, h1⟩, e1, e⟩ := Option.bind_eq_some_iff.mp e
    obtain ⟨⟨d2, h2⟩, e2, e⟩ := Option.bind_eq_some_iff.mp e
    cases e
    refine tF_go R S e1 fun r1 v1 H1 x1 R1 S1 q1 => tFA_go R1 S1 e2 fun r2 vs H2 x2 R2 S2 q2 => ?_
    exact k r2 _ H2 (x1.trans x2) R2 (.cons (RD.mono R1 x2 _ _ q1) q2)
def asQ (h : List O) : D → Option (List D)
  | .fl xs => some xs
  | .fz xs => some xs
  | .tup xs => some xs
  | .kt xs => some xs
  | .kl xs => some xs
  | .loc i => match h[i]? with
    | some (.lst xs) => some xs
    | _ => none
  | _ => none
theorem asQ_ok {K : PySem.W.Frag} {H : Hp} {r : Rho} {h : List O} {d : D} {v : V} {xs : List D} (R : Rep K Av r h H) (q : RD K (Tr Av r) H r d v) (e : asQ h d = some xs) : ∃ a vs, v = .ref a ∧ (SqT K H a vs ∨ SqL K H a vs) ∧ RDs K (Tr Av r) H r xs vs := by
  cases q with
  | fl z n qs => cases e; exact ⟨_, _, rfl, .inr (SqL.of z), qs⟩
  | fz z n qs => cases e; exact ⟨_, _, rfl, .inr (.inl z), qs⟩
  | tup z qs => cases e; exact ⟨_, _, rfl, .inl (SqT.of z), qs⟩
  | kt z qs => cases e; exact ⟨_, _, rfl, .inl z, qs⟩
  | kl z qs => cases e; exact ⟨_, _, rfl, .inr z.sq, qs⟩
  | loc l z =>
    unfold asQ at e
    dsimp only at e
    split at e
    · rename_i ys hi
      cases e
      obtain ⟨a, u, ha, hv, hu, vs, eu, qs⟩ := R.at_ (.loc l z) hi (by intro z; cases z)
      subst eu
      exact ⟨a, vs, hv, .inr (SqL.of hu), qs⟩
    · cases e
  | _ => cases e
def a_star (m : FE) (ms : FA) : FA := fun sl h => (m sl h).bind fun p => (asQ p.2 p.1).bind fun xs => (ms sl p.2).bind fun q => some (xs ++ q.1, q.2)
theorem RDs.append {K : PySem.W.Frag} {T : Addr → Prop} {H : Hp} {r : Rho} : ∀ {ds es : List D} {vs zs : List V}, RDs K T H r ds vs → RDs K T H r es zs → RDs K T H r (ds ++ es) (vs ++ zs)
  | _, _, _, _, .nil, q => q
  | _, _, _, _, .cons p t, q => .cons p (RDs.append t q)
theorem fa_star {sp : Pos} (he : PE X e (tF X.K Av m)) (hr : PA X es (tFA X.K Av ma)) (hs : starEach (.Starred e sp :: es) X.env = (true, eval e X.env) :: starEach es X.env := by rfl) : PA X (.Starred e sp :: es) (tFA X.K Av (a_star m ma)) :=
  PA.imp (StX.pa_star he hr hs) fun σ H Q q => by
    obtain ⟨r, sl, h, ds, h', R, S, e, k⟩ := q
    obtain ⟨⟨d1, h1⟩, e1, e⟩ := Option.bind_eq_some_iff.mp e
    obtain ⟨xs, e3, e⟩ := Option.bind_eq_some_iff.mp e
    obtain ⟨⟨d2, h2⟩, e2, e⟩ := Option.bind_eq_some_iff.mp e
    cases e
    refine tF_go R S e1 fun r1 v1 H1 x1 R1 S1 q1 => ?_
    obtain ⟨a, vs, ev, sq, qs⟩ := asQ_ok R1 q1 e3
    refine ⟨a, vs, ev, sq, tFA_go R1 S1 e2 fun r2 ws H2 x2 R2 S2 q2 => ?_⟩
    exact k r2 _ H2 (x1.trans x2) R2 ((RDs.mono R1 x2 _ _ qs).append q2)
theorem fc_kw (ha : PA X (e :: es) (tFA X.K Av ma)) (hkw : PK X kws (tFA X.K Av mk)) (hall : ∀ pos, (backToKw pos (keywordEach kws X.env)).all (·.1.isSome) = true := by intro _; rfl) (hks : ∀ pos, (backToKw pos (keywordEach kws X.env)).filterMap (·.1) = ks := by intro _; rfl)
    (hno : ∀ pos, (backToKw pos (keywordEach kws X.env)).any (·.1.isNone) = false := by intro _; rfl) (he : starEach (e :: es) X.env = (false, eval e X.env) :: starEach es X.env := by rfl) : PCA X (e :: es) kws ks (tFC X.K Av (m_ca ma mk)) := by
  refine ⟨fun pos f first pins s σ H Q C hk I q fin => ?_⟩
  obtain ⟨r, sl, h, ds, es', h', R, S, e, k⟩ := q
  obtain ⟨⟨d1, h1⟩, e1, e⟩ := Option.bind_eq_some_iff.mp e
  obtain ⟨⟨d2, h2⟩, e2, e⟩ := Option.bind_eq_some_iff.mp e
  cases e
  have A1 : tFA X.K Av ma σ H (fun vs H1 => tFA X.K Av mk σ H1 fun zs H2 => C vs zs H2) := tFA_go R S e1 fun r1 vs H1 x1 R1 S1 q1 => tFA_go R1 S1 e2 fun r2 zs H2 x2 R2 S2 q2 => k r2 vs zs H2 (x1.trans x2) R2 (RDs.mono R1 x2 _ _ q1) q2
  refine callWith_gen (hno pos) (PySem.W.keeps_K hk) (evalArgs_kw2 (hall pos) (thn (ha.run pos pins s σ H _ I A1) fun us s1 ⟨vs, H1, I1, rv, q1⟩ => ?_) he)
  refine thn (hkw.run pos pins s1 σ H1 _ I1 q1) fun ws s2 ⟨zs, H2, I2, rz, q2⟩ => ⟨I2.kIn, ?_⟩
  rw [hks pos]
  exact fin us ws vs zs s2 H2 I2 rv rz q2
theorem fc_kw0 (hkw : PK X kws (tFA X.K Av mk)) (hall : ∀ pos, (backToKw pos (keywordEach kws X.env)).all (·.1.isSome) = true := by intro _; rfl) (hks : ∀ pos, (backToKw pos (keywordEach kws X.env)).filterMap (·.1) = ks := by intro _; rfl)
    (hno : ∀ pos, (backToKw pos (keywordEach kws X.env)).any (·.1.isNone) = false := by intro _; rfl) : PCA X [] kws ks (tFC X.K Av (m_ca a_nil mk)) := by
  refine ⟨fun pos f first pins s σ H Q C hk I q fin => ?_⟩
  obtain ⟨r, sl, h, ds, es', h', R, S, e, k⟩ := q
  obtain ⟨⟨d1, h1⟩, e1, e⟩ := Option.bind_eq_some_iff.mp e
  cases e1
  obtain ⟨⟨d2, h2⟩, e2, e⟩ := Option.bind_eq_some_iff.mp e
  cases e
  have A1 : tFA X.K Av mk σ H (fun zs H2 => C [] zs H2) := tFA_go R S e2 fun r2 zs H2 x2 R2 S2 q2 => k r2 [] zs H2 x2 R2 .nil q2
  refine callWith_gen (hno pos) (PySem.W.keeps_K hk) (evalArgs_kw2_nil (hall pos) (thn (hkw.run pos pins s σ H _ I A1) fun ws s2 ⟨zs, H2, I2, rz, q2⟩ => ⟨I2.kIn, ?_⟩))
  rw [hks pos]
  exact fin [] ws [] zs s2 H2 I2 .nil rz q2
theorem fc_star {sp : Pos} (he : PE X e (tF X.K Av m)) (hst : starEach [.Starred e sp] X.env = [(true, eval e X.env)] := by rfl) : PCA X [.Starred e sp] [] [] (tFC X.K Av (m_ca (a_star m a_nil) a_nil)) := by
  refine ⟨fun pos f first pins s σ H Q C hk I q fin => ?_⟩
  obtain ⟨r, sl, h, ds, es', h', R, S, e, k⟩ := q
  obtain ⟨⟨d1, h1⟩, e1, e⟩ := Option.bind_eq_some_iff.mp e
  obtain ⟨⟨d2, h2⟩, e2, e⟩ := Option.bind_eq_some_iff.mp e
  cases e2
  cases e
  obtain ⟨⟨d3, h3⟩, e3, e1⟩ := Option.bind_eq_some_iff.mp e1
  obtain ⟨xs, e4, e1⟩ := Option.bind_eq_some_iff.mp e1
  cases e1
  have A1 : tF X.K Av m σ H (fun y H1 => ∃ a vs, y = V.ref a ∧ (SqT X.K H1 a vs ∨ SqL X.K H1 a vs) ∧ C vs [] H1) := tF_go R S e3 fun r1 v1 H1 x1 R1 S1 q1 => by
    obtain ⟨a, vs, ev, sq, qs⟩ := asQ_ok R1 q1 e4
    exact ⟨a, vs, ev, sq, k r1 vs [] H1 x1 R1 (by rw [List.append_nil]; exact qs) .nil⟩
  refine PySem.W.callWith_S (h₀ := X.base) I.ok.mod.kin hk (thn (he.run pins s σ H _ I A1) fun v s1 ⟨y, H1, I1, ry, a, xs, ey, hxs, q⟩ => ?_) hst
  subst ey
  obtain rfl : v = Value.ref a := ry
  exact StX.star_any I1 hxs fun us s2 I2 rv => ⟨I2.kIn, fin us [] xs [] s2 H1 I2 rv .nil q⟩
end
/-! ### what a def is worth -/
abbrev CM := List D → List (Str × D) → List O → Option (D × List O)
def spB (K : PySem.W.Frag) (m : CM) (ks : List Str) (vs zs : List V) (H : Hp) (Q : VK) : Prop := ∃ Av r ds es h d h', Rep K Av r h H ∧ RDs K (Tr Av r) H r ds vs ∧ RDs K (Tr Av r) H r es zs ∧ m ds (ks.zip es) h = some (d, h') ∧
  ∀ r' v H', Ext r H r' H' → Rep K Av r' h' H' → RD K (Tr Av r') H' r' d v → Q v H'
def FnB (P : Program) (w : World) (K : PySem.W.Frag) (mg : Str → Option Value) (base : Heap) (k : Nat) (f : Addr) (m : CM) : Prop := ∀ (A : Around) (outer : List Env) (s : Shared) (H : Hp) (us ws : List Value) (vs zs : List V) (ks : List Str) (Q : VK),
  Room k A → Env0 P w K mg base A outer s H → Vals vs us → Vals zs ws → ks.length = zs.length → spB K m ks vs zs H Q → codeAny (model P w) A (.call (.ref f) ⟨us, ks.zip ws⟩) (CR CX0 outer P w H s Q E0) s
theorem FnB.mono {P : Program} {w : World} {K : PySem.W.Frag} {mg : Str → Option Value} {base : Heap} {j k : Nat} {f : Addr} {m : CM} (F : FnB P w K mg base j f m) (h : j ≤ k) : FnB P w K mg base k f m :=
  fun A outer s H us ws vs zs ks Q hr => F A outer s H us ws vs zs ks Q (hr.mono h)
theorem FnB.imp {P : Program} {w : World} {K : PySem.W.Frag} {mg : Str → Option Value} {base : Heap} {k : Nat} {f : Addr} {m m' : CM} (F : FnB P w K mg base k f m) (i : ∀ ks vs zs H Q, ks.length = zs.length → spB K m' ks vs zs H Q → spB K m ks vs zs H Q) : FnB P w K mg base k f m' :=
  fun A outer s H us ws vs zs ks Q hr e r1 r2 hl q => F A outer s H us ws vs zs ks Q hr e r1 r2 hl (i _ _ _ _ _ hl q)
def m_call (m : CM) (ks : List Str) (mc : FC) : FE := fun sl h => (mc sl h).bind fun p => m p.1.1 (ks.zip p.1.2) p.2
section
variable {X : Cx} {Av : Addr → Prop} {pos p apos : Pos} {e o : Expr} {es : List Expr} {kws : List Keyword} {ks : List Str} {m : CM} {mc : FC} {k : Nat} {f : Addr} {x y : Str}
theorem run_fnB {pins : List (Addr × Obj)} {σ : L2.St} {H : Hp} {s : Shared} {Q : VK} {us ws : List Value} {vs zs : List V} (F : FnB X.prog X.w X.K X.mg X.base k f m) (hr : Room k X.A) (I : Inv X pins σ H s) (r : Vals vs us) (rz : Vals zs ws) (hl : ks.length = zs.length) (h : spB X.K m ks vs zs H Q) :
    wpAny (model X.prog X.w) X.A (call (.ref f) us (ks.zip ws)) (EP X pins σ Q) X.xe s := by
  refine wpAny_call (codeAny_mono (F X.A X.stack s H us ws vs zs ks Q hr I.env0 r rz hl h) fun rr s' hq => ?_)
  cases rr with
  | error e => exact False.elim hq
  | ok fl =>
    cases fl with
    | ret u => exact I.after hq
    | next => exact False.elim hq
    | brk => exact False.elim hq
    | cont => exact False.elim hq
theorem call_go {σ : L2.St} {H : Hp} {Q : VK} (q : tF X.K Av (m_call m ks mc) σ H Q) (hl : ∀ sl h ds es h', mc sl h = some ((ds, es), h') → ks.length = es.length) : tFC X.K Av mc σ H (fun vs zs H1 => ks.length = zs.length ∧ spB X.K m ks vs zs H1 Q) := by
  obtain ⟨r, sl, h, d, h', R, S, e, k⟩ := q
  obtain ⟨⟨⟨ds, es⟩, h1⟩, e1, e⟩ := Option.bind_eq_some_iff.mp e
  refine ⟨r, sl, h, ds, es, h1, R, S, e1, fun r1 vs zs H1 x1 R1 q1 q2 => ⟨?_, Av, r1, ds, es, h1, d, h', R1, q1, q2, e, fun r2 v H2 x2 R2 q3 => k r2 v H2 (x1.trans x2) R2 q3⟩⟩
  rw [hl _ _ _ _ _ e1, q2.length]
theorem fe_call (F : FnB X.prog X.w X.K X.mg X.base k f m) (hr : Room k X.A) (hg : Gl X x) (hm : X.mg x = some (.ref f)) (hk : PySem.W.keepIn X.K (.ref f) = true) (hc : PCA X es kws ks (tFC X.K Av mc)) (hl : ∀ sl h ds es h', mc sl h = some ((ds, es), h') → ks.length = es.length) (hd : (x == ("__debug__" : Str)) = false := by decide) :
    PE X (.Call (.Name x p) es kws pos) (tF X.K Av (m_call m ks mc)) := by
  refine ⟨fun pins s σ H Q I q => ?_⟩
  refine wpAny_Call_Name_kw (ld_glob I hg hm ?_ hd)
  exact hc.run pos (.ref f) [] pins s σ H _ _ hk I (call_go q hl) fun us ws vs zs s1 H1 I1 r1 r2 ⟨l, q1⟩ => run_fnB F hr I1 r1 r2 l q1
end
theorem al_nil : ∀ sl h ds (h' : List O), a_nil sl h = some (ds, h') → ds.length = 0 := fun _ _ _ _ e => by
  cases e
  rfl
theorem al_cons {m : FE} {ms : FA} {n : Nat} (i : ∀ sl h ds (h' : List O), ms sl h = some (ds, h') → ds.length = n) : ∀ sl h ds (h' : List O), a_cons m ms sl h = some (ds, h') → ds.length = n + 1 := fun sl h ds h' e => by
  obtain ⟨⟨d1, h1⟩, e1, e⟩ := Option.bind_eq_some_iff.mp e
  obtain ⟨⟨d2, h2⟩, e2, e⟩ := Option.bind_eq_some_iff.mp e
  cases e
  simp [i _ _ _ _ e2]
theorem kl_of {ma mk : FA} {ks : List Str} {n : Nat} (i : ∀ sl h ds (h' : List O), mk sl h = some (ds, h') → ds.length = n) (hn : ks.length = n := by rfl) : ∀ sl h ds es h', m_ca ma mk sl h = some ((ds, es), h') → ks.length = es.length := fun sl h ds es h' e => by
  obtain ⟨⟨d1, h1⟩, e1, e⟩ := Option.bind_eq_some_iff.mp e
  obtain ⟨⟨d2, h2⟩, e2, e⟩ := Option.bind_eq_some_iff.mp e
  cases e
  rw [i _ _ _ _ e2, hn]
end HF
set_option Elab.async false
set_option linter.all false
set_option maxRecDepth 100000
set_option maxHeartbeats 1000000
namespace HF
open PySem PySem.Spec PyProof.Rows L2
/-! ### a def by its body -/
def spF (K : PySem.W.Frag) (n : Nat) (m : List D → List O → Option (D × List O)) : Sp := fun vs H Q _ => ∃ Av r ds h d h', ds.length = n ∧ Rep K Av r h H ∧ RDs K (Tr Av r) H r ds vs ∧ m ds h = some (d, h') ∧
  ∀ r' v H', Ext r H r' H' → Rep K Av r' h' H' → RD K (Tr Av r') H' r' d v → Q v H'
def m_fn (n tot : Nat) (b : FS) : List D → List O → Option (D × List O) := fun ds h => if ds.length = n then (b (ds.map some ++ List.replicate (tot - n) none) h).bind fun p => match p.1 with
    | .rt d => some (d, p.2.2)
    | .nx => some (.non, p.2.2)
    | _ => none
  else none
theorem m_fn_len {n tot : Nat} {b : FS} : ∀ ds h d h', m_fn n tot b ds h = some (d, h') → ds.length = n := fun ds h d h' e => by
  unfold m_fn at e
  split at e
  · assumption
  · cases e
theorem RDs.get {K : PySem.W.Frag} {T : Addr → Prop} {H : Hp} {r : Rho} : ∀ {ds : List D} {vs : List V} {i : Nat} {d : D}, RDs K T H r ds vs → ds[i]? = some d → ∃ v, vs[i]? = some v ∧ RD K T H r d v
  | _, _, _, _, .nil, e => by simp at e
  | _, _, 0, _, .cons q _, e => by simp at e; subst e; exact ⟨_, rfl, q⟩
  | _, _, i + 1, _, .cons _ t, e => by
    obtain ⟨v, h1, h2⟩ := RDs.get (i := i) t (by simpa using e)
    exact ⟨v, by simpa using h1, h2⟩
theorem rsl_start {K : PySem.W.Frag} {T : Addr → Prop} {H : Hp} {r : Rho} {ds : List D} {vs : List V} {N : List Str} (q : RDs K T H r ds vs) : RSl K T H r (ds.map some ++ List.replicate (N.length - ds.length) none) (L2.start N vs) where
  len := by simp [L2.start, q.length]
  at_ := fun i d e => by
    rcases Nat.lt_or_ge i (ds.map some).length with l | l
    · rw [List.getElem?_append_left l, List.getElem?_map] at e
      cases hd : ds[i]? with
      | none => rw [hd] at e; cases e
      | some d' =>
        rw [hd] at e
        cases e
        obtain ⟨v, hv, rd⟩ := RDs.get q hd
        have hl : i < (vs.map some).length := by
          have := getOpt hv
          simpa using this
        exact ⟨v, by unfold L2.start; rw [List.getElem?_append_left hl, List.getElem?_map, hv]; rfl, rd⟩
    · rw [List.getElem?_append_right l] at e
      have := List.getElem?_eq_some_iff.mp e
      obtain ⟨h1, h2⟩ := this
      simp at h2
abbrev Cxn (P : Program) (w : World) (K : PySem.W.Frag) (mg : Str → Option Value) (base : Heap) (N : List Str) (qual : Str) (scope : Scope) (f : Addr) (cd : Value) (A : Around) (outer : List Env) (s : Shared) (H : Hp) : Cx := (cxOf CX0 P w K mg base N qual scope f cd A outer s H E0).nox
section
variable {P : Program} {w : World} {K : PySem.W.Frag} {mg : Str → Option Value} {base : Heap} {x qual : Str} {params : Arguments} {body : List Stmt} {scope : Scope} {dvs : List V} {kws : List (Str × V)} {f : Addr} {fd : FuncData}
theorem fnF {N ps : List Str} {k : Nat} {b : FS} (F : FunD K x qual params body scope dvs kws f fd) (S : FnScope N ps scope)
    (hb : ∀ (Av : Addr → Prop) (cdv : Value) (A : Around) (outer : List Env) (s : Shared) (H : Hp) (E : XK), Room k (A.deeper (envOfC qual scope s.heap.objs.size f cdv)) → PSs ((cxOf CX0 P w K mg base N qual scope f cdv A outer s H E).nox) body (tFS K Av b)) :
    FnOk P w K mg base CX0 (k + 1) f fd ps (spF K ps.length (m_fn ps.length N.length b)) := by
  refine F.ok S (fun vs H Q E q => ?_) (fun cdv A outer s H vs Q E hr q => ?_)
  · obtain ⟨Av, r, ds, h, d, h', l, R, q, e, _⟩ := q
    rw [← q.length, l]
  · obtain ⟨Av, r, ds, h, d, h', l, R, q, e, kk⟩ := q
    refine ⟨tFS K Av b, PSs.nox (hb Av cdv A outer s H E hr), ?_⟩
    unfold m_fn at e
    rw [if_pos l] at e
    obtain ⟨⟨fl, sl', h1⟩, e1, e⟩ := Option.bind_eq_some_iff.mp e
    rw [← l] at e1
    refine ⟨r, _, h, fl, sl', h1, R, rsl_start q, e1, fun r' σ' H' x' R' S' => ?_⟩
    dsimp only at e
    cases fl with
    | nx => cases e; exact kk r' _ H' x' R' .non
    | rt d1 => cases e; exact fun v rd => kk r' v H' x' R' rd
    | bk => cases e
    | ct => cases e
def cmP (dfl : List D) (m : List D → List O → Option (D × List O)) : CM := fun ds kws h => match kws with
  | [] => m (ds ++ dfl) h
  | _ => none
theorem fnB_pos {ps : List Str} {k : Nat} {m : List D → List O → Option (D × List O)} {dfl : List D} {ds : List Value} (F : FnOk P w K mg base CX0 k f fd ps (spF K ps.length m)) (hb : Binds K fd ps ds) (hd : Vals dvs ds) (hr : ∀ T H r, RDs K T H r dfl dvs)
    (hm : ∀ ds h d h', m ds h = some (d, h') → ds.length = ps.length) : FnB P w K mg base k f (cmP dfl m) := by
  intro A outer s H us ws vs zs ks Q hroom e0 r1 r2 hl q
  obtain ⟨Av, r, dd, es, h, d, h', R, q1, q2, e, kk⟩ := q
  unfold cmP at e
  split at e
  · rename_i hz
    have hks : ks.zip ws = [] := by
      cases ks with
      | nil => rfl
      | cons a ks =>
        cases es with
        | nil =>
          cases q2
          simp at hl
        | cons b es => simp at hz
    rw [hks]
    have r3 : Vals (vs ++ dvs) (us ++ ds) := r1.append hd
    have q3 := q1.append (hr (Tr Av r) H r)
    have hn := hm _ _ _ _ e
    refine F.run A outer s H ⟨us, []⟩ (us ++ ds) (vs ++ dvs) Q E0 hroom e0 (hb s us (e0.mod.kin.keeps fun b o x => (e0.bs b o x).1) ?_) r3 ⟨Av, r, dd ++ dfl, h, d, h', hn, R, q3, e, kk⟩
    rw [← r3.length, ← q3.length, hn]
  · cases e
end
/-! ### values without tracked places; views -/
mutual
def D.noLoc : D → Bool
  | .loc _ => false
  | .tup xs => D.noLocs xs
  | .kt xs => D.noLocs xs
  | .kl xs => D.noLocs xs
  | .fl xs => D.noLocs xs
  | .fz xs => D.noLocs xs
  | .ob _ _ xs => D.noLocs xs
  | .dk _ xs => D.noLocs xs
  | .dt _ xs => D.noLocs xs
  | _ => true
def D.noLocs : List D → Bool
  | [] => true
  | x :: xs => D.noLoc x && D.noLocs xs
end
mutual
def D.imm : D → Bool
  | .non => true
  | .bl _ => true
  | .int _ => true
  | .str _ => true
  | .tup xs => D.imms xs
  | .kt xs => D.imms xs
  | _ => false
def D.imms : List D → Bool
  | [] => true
  | x :: xs => D.imm x && D.imms xs
end
section
variable {K : PySem.W.Frag} {T T' : Addr → Prop} {H : Hp} {r r' : Rho}
mutual
theorem RD.free (i : ∀ a, T' a → T a) : ∀ (d : D) (v : V), d.noLoc = true → RD K T H r d v → RD K T' H r' d v
  | _, _, _, .non => .non
  | _, _, _, .bl b => .bl b
  | _, _, _, .int b => .int b
  | _, _, _, .str b => .str b
  | .tup xs, _, e, .tup z qs => .tup z (RDs.free i _ _ (by simpa [D.noLoc] using e) qs)
  | .kt xs, _, e, .kt z qs => .kt z (RDs.free i _ _ (by simpa [D.noLoc] using e) qs)
  | .kl xs, _, e, .kl z qs => .kl z (RDs.free i _ _ (by simpa [D.noLoc] using e) qs)
  | .fl xs, _, e, .fl z n qs => .fl z (fun t => n (i _ t)) (RDs.free i _ _ (by simpa [D.noLoc] using e) qs)
  | .fz xs, _, e, .fz z n qs => .fz z (fun t => n (i _ t)) (RDs.free i _ _ (by simpa [D.noLoc] using e) qs)
  | .ob c ks xs, _, e, .ob z n k qs => .ob z (fun t => n (i _ t)) k (RDs.free i _ _ (by simpa [D.noLoc] using e) qs)
  | .dk ks xs, _, e, .dk z n k qs => .dk z (fun t => n (i _ t)) k (RDs.free i _ _ (by simpa [D.noLoc] using e) qs)
  | .dt ks xs, _, e, .dt z n k qs => .dt z (fun t => n (i _ t)) k (RDs.free i _ _ (by simpa [D.noLoc] using e) qs)
  | .loc n, _, e, _ => by simp [D.noLoc] at e
theorem RDs.free (i : ∀ a, T' a → T a) : ∀ (ds : List D) (vs : List V), D.noLocs ds = true → RDs K T H r ds vs → RDs K T' H r' ds vs
  | _, _, _, .nil => .nil
  | d :: ds, _, e, .cons q qs => by
    simp only [D.noLocs, Bool.and_eq_true] at e
    exact .cons (RD.free i _ _ e.1 q) (RDs.free i _ _ e.2 qs)
end
mutual
theorem RD.imm : ∀ (d : D) (v : V), d.imm = true → RD K T H r d v → RD K T' H r' d v
  | _, _, _, .non => .non
  | _, _, _, .bl b => .bl b
  | _, _, _, .int b => .int b
  | _, _, _, .str b => .str b
  | .tup xs, _, e, .tup z qs => .tup z (RDs.imm _ _ (by simpa [D.imm] using e) qs)
  | .kt xs, _, e, .kt z qs => .kt z (RDs.imm _ _ (by simpa [D.imm] using e) qs)
  | .kl xs, _, e, _ => by simp [D.imm] at e
  | .fl xs, _, e, _ => by simp [D.imm] at e
  | .fz xs, _, e, _ => by simp [D.imm] at e
  | .ob c ks xs, _, e, _ => by simp [D.imm] at e
  | .dk ks xs, _, e, _ => by simp [D.imm] at e
  | .dt ks xs, _, e, _ => by simp [D.imm] at e
  | .loc n, _, e, _ => by simp [D.imm] at e
theorem RDs.imm : ∀ (ds : List D) (vs : List V), D.imms ds = true → RDs K T H r ds vs → RDs K T' H r' ds vs
  | _, _, _, .nil => .nil
  | d :: ds, _, e, .cons q qs => by
    simp only [D.imms, Bool.and_eq_true] at e
    exact .cons (RD.imm _ _ e.1 q) (RDs.imm _ _ e.2 qs)
end
end
section
variable {K : PySem.W.Frag} {Av : Addr → Prop} {H H' : Hp} {r r' : Rho} {h h' : List O}
theorem tr_nil {A : Addr → Prop} {a : Addr} (t : Tr A [] a) : A a := t.elim id fun ⟨i, e⟩ => by simp at e
theorem rep_nil {A : Addr → Prop} (d : ∀ a, A a → ∃ o, H a = some o) : Rep K A [] [] H := ⟨rfl, fun i j a e => by simp at e, fun a ⟨i, e⟩ => by simp at e, d, fun i a o e => by simp at e, fun i e => by simp at e⟩
theorem ext_keep (k : ∀ a o, H a = some o → H' a = some o) : Ext r H r H' := ⟨Nat.le_refl _, fun _ _ _ e => e, fun i a l e => absurd (getOpt e) (by omega), fun a o e _ => k a o e, fun a o e => ⟨o, k a o e⟩⟩
theorem Rep.keep (R : Rep K Av r h H) (k : ∀ a o, H a = some o → H' a = some o) : Rep K Av r h H' where
  len := R.len
  inj := R.inj
  nav := R.nav
  dom := fun a q => by
    obtain ⟨o, e⟩ := R.dom a q
    exact ⟨o, k a o e⟩
  obs := fun i a o e1 e2 => by
    obtain ⟨u, hu, ho⟩ := R.obs i a o e1 e2
    exact ⟨u, k a u hu, roh_mono R (ext_keep k) o u ho⟩
  drop := R.drop
theorem keep_of {A : Addr → Prop} {r2 : Rho} {H2 : Hp} (x : Ext [] H r2 H2) : ∀ a o, H a = some o → H2 a = some o := fun a o e => x.keep a o e fun ⟨i, z⟩ => by simp at z
end
def cmPure (m : CM) : CM := fun ds kws h => if D.noLocs ds && D.noLocs (kws.map (·.2)) then (m ds kws []).bind fun q => if q.1.noLoc then some (q.1, h) else none else none
theorem zip_snd {ks : List Str} {es : List D} (hl : ks.length = es.length) : (ks.zip es).map (·.2) = es := by
  rw [List.map_snd_zip]
  omega
theorem FnB.pure {P : Program} {w : World} {K : PySem.W.Frag} {mg : Str → Option Value} {base : Heap} {k : Nat} {f : Addr} {m : CM} (F : FnB P w K mg base k f m) : FnB P w K mg base k f (cmPure m) := F.imp fun ks vs zs H Q hl q => by
  obtain ⟨Av, r, ds, es, h, d, h', R, q1, q2, e, kk⟩ := q
  unfold cmPure at e
  split at e
  · rename_i hn
    obtain ⟨⟨d1, h1⟩, e1, e⟩ := Option.bind_eq_some_iff.mp e
    dsimp only at e
    split at e
    · rename_i hd
      cases e
      rw [zip_snd (by rw [hl, q2.length])] at hn
      have hn := Bool.and_eq_true_iff.mp hn
      refine ⟨Tr Av r, [], ds, es, [], _, h1, rep_nil fun a t => tr_some R t, RDs.free (fun a t => tr_nil t) _ _ hn.1 q1, RDs.free (fun a t => tr_nil t) _ _ hn.2 q2, e1, fun r2 v H2 x2 R2 q3 => ?_⟩
      exact kk r v H2 (ext_keep (keep_of (A := Av) x2)) (R.keep (keep_of (A := Av) x2)) (RD.free (fun a t => Or.inl t) _ _ hd q3)
    · cases e
  · cases e
def vwS (f : D → Option D) : List D → Option (List D)
  | [] => some []
  | x :: xs => (f x).bind fun y => (vwS f xs).bind fun ys => some (y :: ys)
def vw (h : List O) : Nat → D → Option D
  | 0, _ => none
  | n + 1, .loc i => match h[i]? with
    | some (.lst xs) => (vwS (vw h n) xs).bind fun ys => some (.fl ys)
    | some (.ins c ks xs) => (vwS (vw h n) xs).bind fun ys => some (.ob c ks ys)
    | some (.dk ks xs) => (vwS (vw h n) xs).bind fun ys => some (.dk ks ys)
    | some (.dt ks xs) => (vwS (vw h n) xs).bind fun ys => some (.dt ks ys)
    | _ => none
  | n + 1, .tup xs => (vwS (vw h n) xs).bind fun ys => some (.tup ys)
  | n + 1, .fl xs => (vwS (vw h n) xs).bind fun ys => some (.fl ys)
  | _ + 1, d => if d.noLoc then some d else none
section
variable {K : PySem.W.Frag} {Av : Addr → Prop} {H : Hp} {r : Rho} {h : List O}
abbrev NoT : Addr → Prop := fun _ => False
theorem vwS_ok {f : D → Option D} (hf : ∀ d d' v, f d = some d' → RD K (Tr Av r) H r d v → RD K (Tr NoT []) H [] d' v) : ∀ (ds ds' : List D) (vs : List V), vwS f ds = some ds' → RDs K (Tr Av r) H r ds vs → RDs K (Tr NoT []) H [] ds' vs
  | [], _, _, e, .nil => by cases e; exact .nil
  | d :: ds, _, _, e, .cons q qs => by
    obtain ⟨y, e1, e⟩ := Option.bind_eq_some_iff.mp e
    obtain ⟨ys, e2, e⟩ := Option.bind_eq_some_iff.mp e
    cases e
    exact .cons (hf _ _ _ e1 q) (vwS_ok hf ds ys _ e2 qs)
theorem noT {a : Addr} : ¬ Tr NoT [] a := fun t => tr_nil t
theorem vw_ok (R : Rep K Av r h H) : ∀ (n : Nat) (d d' : D) (v : V), vw h n d = some d' → RD K (Tr Av r) H r d v → RD K (Tr NoT []) H [] d' v
  | 0, _, _, _, e, _ => by cases e
  | n + 1, d, d', v, e, q => by
    have ih := vwS_ok (K := K) (Av := Av) (H := H) (r := r) (f := vw h n) (vw_ok R n)
    cases d with
    | loc i =>
      unfold vw at e
      split at e
      · rename_i xs hi
        obtain ⟨a, u, ha, hv, hu, vs, eu, qs⟩ := R.at_ q hi (by intro z; cases z)
        subst eu hv
        obtain ⟨ys, e1, e⟩ := Option.bind_eq_some_iff.mp e
        cases e
        exact .fl hu noT (ih _ _ _ e1 qs)
      · rename_i c ks xs hi
        obtain ⟨a, u, ha, hv, hu, dx, fs, eu, ek, qs⟩ := R.at_ q hi (by intro z; cases z)
        subst eu hv
        obtain ⟨ys, e1, e⟩ := Option.bind_eq_some_iff.mp e
        cases e
        exact .ob hu noT ek (ih _ _ _ e1 qs)
      · rename_i ks xs hi
        obtain ⟨a, u, ha, hv, hu, kvs, eu, ek, qs⟩ := R.at_ q hi (by intro z; cases z)
        subst eu hv
        obtain ⟨ys, e1, e⟩ := Option.bind_eq_some_iff.mp e
        cases e
        exact .dk (.inl hu) noT ek (ih _ _ _ e1 qs)
      · rename_i ks xs hi
        obtain ⟨a, u, ha, hv, hu, kvs, eu, ek, qs⟩ := R.at_ q hi (by intro z; cases z)
        subst eu hv
        obtain ⟨ys, e1, e⟩ := Option.bind_eq_some_iff.mp e
        cases e
        exact .dt (.inl hu) noT ek (ih _ _ _ e1 qs)
      · cases e
    | tup xs =>
      obtain ⟨ys, e1, e⟩ := Option.bind_eq_some_iff.mp (show (vwS (vw h n) xs).bind (fun ys => some (.tup ys)) = some d' from e)
      cases e
      cases q with
      | tup z qs => exact .tup z (ih _ _ _ e1 qs)
    | fl xs =>
      obtain ⟨ys, e1, e⟩ := Option.bind_eq_some_iff.mp (show (vwS (vw h n) xs).bind (fun ys => some (.fl ys)) = some d' from e)
      cases e
      cases q with
      | fl z nt qs => exact .fl z noT (ih _ _ _ e1 qs)
    | non => cases e; exact RD.imm _ _ rfl q
    | bl b => cases e; exact RD.imm _ _ rfl q
    | int b => cases e; exact RD.imm _ _ rfl q
    | str b => cases e; exact RD.imm _ _ rfl q
    | kl b =>
      unfold vw at e
      split at e
      · rename_i hn
        cases e
        exact RD.free (fun a t => (tr_nil t).elim) _ _ hn q
      · cases e
    | kt b =>
      unfold vw at e
      split at e
      · rename_i hn
        cases e
        exact RD.free (fun a t => (tr_nil t).elim) _ _ hn q
      · cases e
    | fz b =>
      unfold vw at e
      split at e
      · rename_i hn
        cases e
        exact RD.free (fun a t => (tr_nil t).elim) _ _ hn q
      · cases e
    | ob b c d =>
      unfold vw at e
      split at e
      · rename_i hn
        cases e
        exact RD.free (fun a t => (tr_nil t).elim) _ _ hn q
      · cases e
    | dk b c =>
      unfold vw at e
      split at e
      · rename_i hn
        cases e
        exact RD.free (fun a t => (tr_nil t).elim) _ _ hn q
      · cases e
    | dt b c =>
      unfold vw at e
      split at e
      · rename_i hn
        cases e
        exact RD.free (fun a t => (tr_nil t).elim) _ _ hn q
      · cases e
end
def cmRead (m : CM) : CM := fun ds kws h => (vwS (vw h 6) ds).bind fun ds' => (vwS (vw h 6) (kws.map (·.2))).bind fun es' => (m ds' ((kws.map (·.1)).zip es') []).bind fun q => if q.1.imm then some (q.1, h) else none
theorem zip_fst {ks : List Str} {es : List D} (hl : ks.length = es.length) : (ks.zip es).map (·.1) = ks := by
  rw [List.map_fst_zip]
  omega
theorem FnB.read {P : Program} {w : World} {K : PySem.W.Frag} {mg : Str → Option Value} {base : Heap} {k : Nat} {f : Addr} {m : CM} (F : FnB P w K mg base k f m) : FnB P w K mg base k f (cmRead m) := F.imp fun ks vs zs H Q hl q => by
  obtain ⟨Av, r, ds, es, h, d, h', R, q1, q2, e, kk⟩ := q
  have hle : ks.length = es.length := by rw [hl, q2.length]
  unfold cmRead at e
  rw [zip_snd hle, zip_fst hle] at e
  obtain ⟨ds', e1, e⟩ := Option.bind_eq_some_iff.mp e
  obtain ⟨es', e2, e⟩ := Option.bind_eq_some_iff.mp e
  obtain ⟨⟨d1, h1⟩, e3, e⟩ := Option.bind_eq_some_iff.mp e
  dsimp only at e
  split at e
  · rename_i hd
    cases e
    refine ⟨NoT, [], ds', es', [], _, h1, rep_nil fun a t => t.elim, vwS_ok (vw_ok R 6) _ _ _ e1 q1, vwS_ok (vw_ok R 6) _ _ _ e2 q2, e3, fun r2 v H2 x2 R2 q3 => ?_⟩
    exact kk r v H2 (ext_keep (keep_of (A := Av) x2)) (R.keep (keep_of (A := Av) x2)) (RD.imm _ _ hd q3)
  · cases e
end HF
set_option Elab.async false
set_option linter.all false
set_option maxRecDepth 100000
set_option maxHeartbeats 1000000
namespace HF
open PySem PySem.Spec PyProof.Rows L2
/-! ### fields -/
def lookF (f : Str) : List Str → List D → Option D
  | k :: ks, v :: vs => if f = k then some v else lookF f ks vs
  | _, _ => none
def putKs (f : Str) : List Str → List Str
  | [] => [f]
  | k :: ks => if k = f then k :: ks else k :: putKs f ks
def putVs (f : Str) (d : D) : List Str → List D → List D
  | k :: ks, v :: vs => if k = f then d :: vs else v :: putVs f d ks vs
  | _, _ => [d]
section
variable {K : PySem.W.Frag} {T : Addr → Prop} {H : Hp} {r : Rho}
theorem lookF_ok {f : Str} : ∀ {fs : List (Str × V)} {xs : List D} {d : D}, RDs K T H r xs (fs.map (·.2)) → lookF f (fs.map (·.1)) xs = some d → ∃ v, fs.lookup f = some v ∧ RD K T H r d v
  | [], _, _, _, e => by simp [lookF] at e
  | (k, u) :: fs, x :: xs, d, .cons q qs, e => by
    unfold lookF at e
    simp only [List.map_cons] at e
    by_cases hk : f = k
    · rw [if_pos hk] at e
      cases e
      exact ⟨u, by rw [hk]; simp [List.lookup], q⟩
    · rw [if_neg hk] at e
      obtain ⟨v, h1, h2⟩ := lookF_ok qs e
      exact ⟨v, by simp only [List.lookup, beq_eq_false_iff_ne.mpr hk]; exact h1, h2⟩
theorem lookF_none {f : Str} : ∀ {fs : List (Str × V)} {xs : List D}, RDs K T H r xs (fs.map (·.2)) → lookF f (fs.map (·.1)) xs = none → fs.lookup f = none
  | [], _, _, e => rfl
  | (k, u) :: fs, x :: xs, .cons q qs, e => by
    unfold lookF at e
    simp only [List.map_cons] at e
    by_cases hk : f = k
    · rw [if_pos hk] at e
      cases e
    · rw [if_neg hk] at e
      simp only [List.lookup, beq_eq_false_iff_ne.mpr hk]
      exact lookF_none qs e
theorem putF_ks {f : Str} {v : V} : ∀ fs : List (Str × V), (putF f v fs).map (·.1) = putKs f (fs.map (·.1))
  | [] => rfl
  | (k, u) :: fs => by
    unfold putF putKs
    by_cases hk : k = f
    · simp [hk]
    · simp only [List.map_cons, if_neg hk, List.cons.injEq, true_and]
      exact putF_ks fs
theorem putF_vs {f : Str} {v : V} {d : D} (q : RD K T H r d v) : ∀ (fs : List (Str × V)) (xs : List D), RDs K T H r xs (fs.map (·.2)) → RDs K T H r (putVs f d (fs.map (·.1)) xs) ((putF f v fs).map (·.2))
  | [], _, .nil => .cons q .nil
  | (k, u) :: fs, x :: xs, .cons p ps => by
    unfold putF putVs
    by_cases hk : k = f
    · simp only [List.map_cons, if_pos hk]
      exact .cons q ps
    · simp only [List.map_cons, if_neg hk]
      exact .cons p (putF_vs q fs xs ps)
end
def asI (h : List O) : D → Option (Str × List Str × List D)
  | .ob c ks xs => some (c, ks, xs)
  | .loc i => match h[i]? with
    | some (.ins c ks xs) => some (c, ks, xs)
    | _ => none
  | _ => none
theorem asI_ok {K : PySem.W.Frag} {Av : Addr → Prop} {H : Hp} {r : Rho} {h : List O} {d : D} {v : V} {c : Str} {ks : List Str} {xs : List D} (R : Rep K Av r h H) (q : RD K (Tr Av r) H r d v) (e : asI h d = some (c, ks, xs)) :
    ∃ a dx fs, v = .ref a ∧ H a = some (.ins (He.ga K c) dx fs) ∧ fs.map (·.1) = ks ∧ RDs K (Tr Av r) H r xs (fs.map (·.2)) := by
  cases q with
  | ob z n k qs => cases e; exact ⟨_, _, _, rfl, z, k, qs⟩
  | loc l z =>
    unfold asI at e
    dsimp only at e
    split at e
    · rename_i c' ks' ys hi
      cases e
      obtain ⟨a, u, ha, hv, hu, dx, fs, eu, ek, qs⟩ := R.at_ (.loc l z) hi (by intro z; cases z)
      subst eu
      exact ⟨a, dx, fs, hv, hu, ek, qs⟩
    · cases e
  | _ => cases e
def m_attr (cs : List Str) (f : Str) (m : FE) : FE := fun sl h => (m sl h).bind fun p => (asI p.2 p.1).bind fun q => if cs.contains q.1 then (lookF f q.2.1 q.2.2).bind fun d => some (d, p.2) else none
def HasF (K : PySem.W.Frag) (cs : List Str) (f : Str) : Prop := ∀ c ∈ cs, Cls K (He.ga K c) ∧ NoAttr K (He.ga K c) f
section
variable {X : Cx} {Av : Addr → Prop} {pos pos' p apos : Pos} {e o : Expr} {es : List Expr} {kws : List Keyword} {ks : List Str} {m mo mv : FE} {ma mk : FA} {mc : FC} {k : Nat} {f : Addr} {x n : Str} {cs : List Str} {c0 : Str} {cm : CM}
theorem fe_attr (hc : HasF X.K cs n) (he : PE X e (tF X.K Av m)) (hb : attributeBase e n X.env (eval e X.env) = eval e X.env := by rfl) : PE X (.Attribute e n pos) (tF X.K Av (m_attr cs n m)) :=
  PE.imp (pe_fld he hb) fun σ H Q q => by
    obtain ⟨r, sl, h, d, h', R, S, e, k⟩ := q
    obtain ⟨⟨d1, h1⟩, e1, e⟩ := Option.bind_eq_some_iff.mp e
    obtain ⟨⟨c, ks, xs⟩, e2, e⟩ := Option.bind_eq_some_iff.mp e
    dsimp only at e
    split at e
    · rename_i hm
      obtain ⟨d2, e3, e⟩ := Option.bind_eq_some_iff.mp e
      cases e
      refine tF_go R S e1 fun r1 v H1 x1 R1 S1 q1 => ?_
      obtain ⟨a, dx, fs, ev, ha, ek, qs⟩ := asI_ok R1 q1 e2
      subst ek
      obtain ⟨u, hu, rd⟩ := lookF_ok qs e3
      have hcc := hc c (by simpa using hm)
      exact ⟨a, _, dx, fs, u, ev, ha, hcc.1, hcc.2, hu, k r1 u H1 x1 R1 rd⟩
    · cases e
def s_fld (cs : List Str) (n : Str) (mo mv : FE) : FS := fun sl h => (mv sl h).bind fun p => (mo sl p.2).bind fun q => match q.1 with
  | .loc i => match q.2[i]? with
    | some (.ins c ks xs) => if cs.contains c && decide (ks.length < 900) then some (.nx, sl, q.2.set i (.ins c (putKs n ks) (putVs n p.1 ks xs))) else none
    | _ => none
  | _ => none
theorem fs_fld (hc : HasF X.K cs n) (ho : PE X o (tF X.K Av mo)) (hv : PE X e (tF X.K Av mv)) (hs : swapsWith e (some (.Attribute o n pos')) pos.line X.env = pure false := by rfl) : PS X (.Assign [.Attribute o n pos'] e pos) (tFS X.K Av (s_fld cs n mo mv)) :=
  PS.imp (ps_fld ho hv hs) fun Dn σ H q => by
    obtain ⟨r, sl, h, f, sl', h', R, S, e, k⟩ := q
    obtain ⟨⟨d1, h1⟩, e1, e⟩ := Option.bind_eq_some_iff.mp e
    obtain ⟨⟨d2, h2⟩, e2, e⟩ := Option.bind_eq_some_iff.mp e
    dsimp only at e
    split at e
    · rename_i i
      split at e
      · rename_i c ks xs hi
        split at e
        · rename_i hcd
          cases e
          have hcd := Bool.and_eq_true_iff.mp hcd
          refine tF_go R S e1 fun r1 v1 H1 x1 R1 S1 q1 => tF_go R1 S1 e2 fun r2 v2 H2 x2 R2 S2 q2 => ?_
          obtain ⟨a, u, ha, hv, hu, dx, fs, eu, ek, qs⟩ := R2.at_ q2 hi (by intro z; cases z)
          subst eu ek
          have hcc := hc c (by simpa using hcd.1)
          have hl : fs.length < 900 := by
            have := of_decide_eq_true hcd.2
            simpa using this
          have q1' := RD.mono R2 (ext_set (u := .ins (He.ga X.K c) dx (putF n v1 fs)) R2 ha) _ _ (RD.mono R1 x2 _ _ q1)
          have qs' := RDs.mono R2 (ext_set (u := .ins (He.ga X.K c) dx (putF n v1 fs)) R2 ha) _ _ qs
          refine ⟨a, _, dx, fs, hv, hu, hcc.1, hcc.2, by omega, ?_⟩
          exact k r2 _ _ ((x1.trans x2).trans (ext_set R2 ha)) (R2.set ha ⟨dx, _, rfl, putF_ks fs, putF_vs q1' fs xs qs'⟩) (S2.mono R2 (ext_set R2 ha))
        · cases e
      · cases e
    · cases e
def m_meth (c0 n : Str) (cm : CM) (ks : List Str) (mo : FE) (mc : FC) : FE := fun sl h => (mo sl h).bind fun p => (asI p.2 p.1).bind fun q => if q.1 = c0 ∧ lookF n q.2.1 q.2.2 = none then (mc sl p.2).bind fun z => cm (p.1 :: z.1.1) (ks.zip z.1.2) z.2 else none
theorem fe_meth {pl : Sem Bool} (hc : Cls X.K (He.ga X.K c0)) (hm : Meth X.K (He.ga X.K c0) n f) (F : FnB X.prog X.w X.K X.mg X.base k f cm) (hr : Room k X.A) (ho : PE X o (tF X.K Av mo)) (ha : PCA X es kws ks (tFC X.K Av mc)) (hl : ∀ sl h ds es h', mc sl h = some ((ds, es), h') → ks.length = es.length)
    (ht : eval (.Call (.Attribute o n apos) es kws pos) X.env = (do
      let ov ← eval o X.env
      standAt apos.atName
      let (f, first) ← holding [ov] (getMethod ov n pl)
      callWith pos f first (backTo pos (starEach es X.env)) (backToKw pos (keywordEach kws X.env))) := by rfl) :
    PE X (.Call (.Attribute o n apos) es kws pos) (tF X.K Av (m_meth c0 n cm ks mo mc)) := by
  refine ⟨fun pins s σ H Q I q => ?_⟩
  obtain ⟨r, sl, h, d, h', R, S, ea, kk⟩ := q
  obtain ⟨⟨d1, h1⟩, e1, eb⟩ := Option.bind_eq_some_iff.mp ea
  obtain ⟨⟨c, ks', xs⟩, e2, e⟩ := Option.bind_eq_some_iff.mp eb
  clear ea eb
  dsimp only at e
  split at e
  · rename_i hcn
    obtain ⟨hc0, hn⟩ := hcn
    obtain ⟨⟨⟨ds, es'⟩, h2⟩, e3, e⟩ := Option.bind_eq_some_iff.mp e
    subst hc0
    have A1 : tF X.K Av mo σ H (fun v H1 => ∃ a dx fs, v = V.ref a ∧ H1 a = some (.ins (He.ga X.K c) dx fs) ∧ fs.lookup n = none ∧ tFC X.K Av mc σ H1 (fun vs zs H2 => ks.length = zs.length ∧ spB X.K cm ks (v :: vs) zs H2 Q)) := tF_go R S e1 fun r1 v1 H1 x1 R1 S1 q1 => by
      obtain ⟨a, dx, fs, ev, hi, ek, qs⟩ := asI_ok R1 q1 e2
      subst ek
      refine ⟨a, dx, fs, ev, hi, lookF_none qs hn, r1, sl, h1, ds, es', h2, R1, S1, e3, fun r2 vs zs H2 x2 R2 q2 q3 => ⟨?_, Av, r2, d1 :: ds, es', h2, d, h', R2, .cons (RD.mono R1 x2 _ _ q1) q2, q3, e, fun r3 v H3 x3 R3 q4 => kk r3 v H3 ((x1.trans x2).trans x3) R3 q4⟩⟩
      rw [hl _ _ _ _ _ e3, q3.length]
    refine PySem.W.methodCall_KW (pl := pl) (thn (ho.run pins s σ H _ I A1) fun u s1 ⟨y, H1, I1, ry, a, dx, fs, ey, hi, lk, q2⟩ => ?_) ht
    subst ey
    obtain rfl : u = Value.ref a := ry
    refine getmeth_ok I1 hi hc hm lk ?_
    refine ha.run pos (.ref f) [.ref a] pins s1 σ H1 _ _ hm.kp I1 q2 fun us ws vs zs s2 H2 I2 r1 r2 ⟨l, q3⟩ => ?_
    exact run_fnB (us := .ref a :: us) (vs := .ref a :: vs) F hr I2 (.cons rfl r1) r2 l q3
  · cases e
/-! ### a new instance -/
def mkP (c0 : Str) (mi : CM) (ds : List D) (kws : List (Str × D)) : Option D := if D.noLocs ds && D.noLocs (kws.map (·.2)) then (mi (.loc 0 :: ds) kws [.ins c0 [] []]).bind fun q => match q.1 with
    | .non => (frz 8 (.loc 0) q.2).bind fun z => if z.1.noLoc then some z.1 else none
    | _ => none
  else none
def m_mkP (c0 : Str) (mi : CM) (ks : List Str) (mc : FC) : FE := fun sl h => (mc sl h).bind fun p => (mkP c0 mi p.1.1 (ks.zip p.1.2)).bind fun d => some (d, p.2)
def m_mkT (c0 : Str) (mi : CM) (ks : List Str) (mc : FC) : FE := fun sl h => (mc sl h).bind fun p => (mi (.loc p.2.length :: p.1.1) (ks.zip p.1.2) (p.2 ++ [.ins c0 [] []])).bind fun q => match q.1 with
    | .non => some (.loc p.2.length, q.2)
    | _ => none
theorem run_makeB {pins : List (Addr × Obj)} {σ : L2.St} {H : Hp} {s : Shared} {Q : VK} {us ws : List Value} {vs zs : List V} {C : Addr} (M : Mk X.K C f) (F : FnB X.prog X.w X.K X.mg X.base k f cm) (hr : Room (k + 1) X.A) (I : Inv X pins σ H s) (r : Vals vs us) (rz : Vals zs ws) (hl : ks.length = zs.length)
    (h : ∀ x dx, H x = none → H dx = none → dx ≠ x → spB X.K cm ks (.ref x :: vs) zs (upd (upd H dx (.own x)) x (.ins C dx [])) (fun v H2 => v = .non ∧ Q (.ref x) H2)) :
    wpAny (model X.prog X.w) X.A (call (.ref C) us (ks.zip ws)) (EP X pins σ Q) X.xe s := by
  have hq := h (s.heap.objs.size + 1) s.heap.objs.size (I.hok.fresh (Nat.le_succ _)) (I.hok.fresh (Nat.le_refl _)) (Nat.ne_of_lt (Nat.lt_succ_self _))
  have I2 := Inv.made (C := C) I
  have r2 : Vals (V.ref (s.heap.objs.size + 1) :: vs) (Value.ref (s.heap.objs.size + 1) :: us) := .cons rfl r
  refine wpAny_call (make_map (f := f) I.kIn M.makes M.init (beq_iff_eq.mp M.fn) (codeAny_mono (F _ X.stack _ _ (Value.ref (s.heap.objs.size + 1) :: us) ws _ zs ks _ (hr.make C us (ks.zip ws)) (I2.env0.make C us (ks.zip ws)) r2 rz hl hq) fun rr s' hq' => ?_))
  cases rr with
  | error e => exact False.elim hq'
  | ok fl =>
    cases fl with
    | ret u =>
      obtain ⟨v, H', I3, rv, ev, q3⟩ := I2.after hq'
      subst ev
      exact ⟨rv, ⟨V.ref (s.heap.objs.size + 1), H', I3, rfl, q3⟩⟩
    | next => exact False.elim hq'
    | brk => exact False.elim hq'
    | cont => exact False.elim hq'
theorem ga_eq {K : PySem.W.Frag} {mg : Str → Option Value} {c : Str} {C : Addr} (h : mg c = some (.ref C)) (h2 : mg c = some (.ref (He.ga K c))) : C = He.ga K c := by
  rw [h] at h2
  cases h2
  rfl
theorem fe_mkT (M : Mk X.K (He.ga X.K c0) f) (F : FnB X.prog X.w X.K X.mg X.base k f cm) (hr : Room (k + 1) X.A) (hg : Gl X c0) (hm : X.mg c0 = some (.ref (He.ga X.K c0))) (hc : PCA X es kws ks (tFC X.K Av mc)) (hl : ∀ sl h ds es h', mc sl h = some ((ds, es), h') → ks.length = es.length) (hd : (c0 == ("__debug__" : Str)) = false := by decide) :
    PE X (.Call (.Name c0 p) es kws pos) (tF X.K Av (m_mkT c0 cm ks mc)) := by
  refine ⟨fun pins s σ H Q I q => ?_⟩
  obtain ⟨r, sl, h, d, h', R, S, e, kk⟩ := q
  obtain ⟨⟨⟨ds, es'⟩, h1⟩, e1, e⟩ := Option.bind_eq_some_iff.mp e
  obtain ⟨⟨d2, h2⟩, e2, e⟩ := Option.bind_eq_some_iff.mp e
  dsimp only at e e2
  split at e
  · cases e
    have A1 : tFC X.K Av mc σ H (fun vs zs H1 => ks.length = zs.length ∧ ∀ x dx, H1 x = none → H1 dx = none → dx ≠ x → spB X.K cm ks (.ref x :: vs) zs (upd (upd H1 dx (.own x)) x (.ins (He.ga X.K c0) dx [])) (fun v H2 => v = .non ∧ Q (.ref x) H2)) := by
      refine ⟨r, sl, h, ds, es', h1, R, S, e1, fun r1 vs zs H1 x1 R1 q1 q2 => ⟨by rw [hl _ _ _ _ _ e1, q2.length], fun x dx hx hdx ne => ?_⟩⟩
      have hx' : upd H1 dx (.own x) x = none := by rw [upd_ne (Ne.symm ne)]; exact hx
      have y1 : Ext r1 H1 r1 (upd H1 dx (.own x)) := Ext.new1 hdx
      have R2 := R1.new1 (u := .own x) hdx
      have y2 : Ext r1 (upd H1 dx (.own x)) (r1 ++ [some x]) (upd (upd H1 dx (.own x)) x (.ins (He.ga X.K c0) dx [])) := ext_push hx'
      have R3 := R2.push (o := .ins c0 [] []) (u := .ins (He.ga X.K c0) dx []) hx' ⟨dx, [], rfl, rfl, .nil⟩
      have l0 : (r1 ++ [some x])[h1.length]? = some (some x) := by rw [← R1.len, List.getElem?_append_right (Nat.le_refl _)]; simp
      refine ⟨Av, r1 ++ [some x], .loc h1.length :: ds, es', h1 ++ [.ins c0 [] []], _, _, R3, .cons (.loc (by simp [R1.len]) fun a ea => by rw [l0] at ea; cases ea; rfl) (RDs.mono R2 y2 _ _ (RDs.mono R1 y1 _ _ q1)), RDs.mono R2 y2 _ _ (RDs.mono R1 y1 _ _ q2), e2, fun r4 v H4 x4 R4 q4 => ?_⟩
      cases q4
      refine ⟨rfl, kk r4 _ H4 (((x1.trans y1).trans y2).trans x4) R4 (.loc (by have := x4.len; simp at this; rw [← R1.len]; omega) fun a ea => ?_)⟩
      have z := x4.pre _ a (by simp [R1.len]) ea
      rw [l0] at z
      cases z
      rfl
    refine wpAny_Call_Name_kw (ld_glob I hg hm ?_ hd)
    exact hc.run pos (.ref (He.ga X.K c0)) [] pins s σ H _ _ M.kp I A1 fun us ws vs zs s1 H1 I1 r1 r2 ⟨l, q1⟩ => run_makeB M F hr I1 r1 r2 l q1
  · cases e
theorem fe_mkP (M : Mk X.K (He.ga X.K c0) f) (F : FnB X.prog X.w X.K X.mg X.base k f cm) (hr : Room (k + 1) X.A) (hg : Gl X c0) (hm : X.mg c0 = some (.ref (He.ga X.K c0))) (hc : PCA X es kws ks (tFC X.K Av mc)) (hl : ∀ sl h ds es h', mc sl h = some ((ds, es), h') → ks.length = es.length) (hd : (c0 == ("__debug__" : Str)) = false := by decide) :
    PE X (.Call (.Name c0 p) es kws pos) (tF X.K Av (m_mkP c0 cm ks mc)) := by
  refine ⟨fun pins s σ H Q I q => ?_⟩
  obtain ⟨r, sl, h, d, h', R, S, e, kk⟩ := q
  obtain ⟨⟨⟨ds, es'⟩, h1⟩, e1, e⟩ := Option.bind_eq_some_iff.mp e
  obtain ⟨d2, e2, e⟩ := Option.bind_eq_some_iff.mp e
  cases e
  have hle := hl _ _ _ _ _ e1
  unfold mkP at e2
  split at e2
  · rename_i hnl
    dsimp only at hnl
    rw [zip_snd hle] at hnl
    have hnl := Bool.and_eq_true_iff.mp hnl
    obtain ⟨⟨d3, h3⟩, e3, e2⟩ := Option.bind_eq_some_iff.mp e2
    dsimp only at e2
    split at e2
    · obtain ⟨⟨d4, h4⟩, e4, e2⟩ := Option.bind_eq_some_iff.mp e2
      dsimp only at e2
      split at e2
      · rename_i hd4
        cases e2
        have A1 : tFC X.K Av mc σ H (fun vs zs H1 => ks.length = zs.length ∧ ∀ x dx, H1 x = none → H1 dx = none → dx ≠ x → spB X.K cm ks (.ref x :: vs) zs (upd (upd H1 dx (.own x)) x (.ins (He.ga X.K c0) dx [])) (fun v H2 => v = .non ∧ Q (.ref x) H2)) := by
          refine ⟨r, sl, h, ds, es', _, R, S, e1, fun r1 vs zs H1 x1 R1 q1 q2 => ⟨by rw [hle, q2.length], fun x dx hx hdx ne => ?_⟩⟩
          have hx' : upd H1 dx (.own x) x = none := by rw [upd_ne (Ne.symm ne)]; exact hx
          have N0 : Rep X.K (Tr Av r1) [] [] H1 := rep_nil fun a t => tr_some R1 t
          have p1 : RDs X.K (Tr (Tr Av r1) []) H1 [] ds vs := RDs.free (fun a t => tr_nil t) _ _ hnl.1 q1
          have p2 : RDs X.K (Tr (Tr Av r1) []) H1 [] es' zs := RDs.free (fun a t => tr_nil t) _ _ hnl.2 q2
          have y1 : Ext [] H1 [] (upd H1 dx (.own x)) := Ext.new1 hdx
          have R2 := N0.new1 (u := .own x) hdx
          have y2 : Ext [] (upd H1 dx (.own x)) ([] ++ [some x]) (upd (upd H1 dx (.own x)) x (.ins (He.ga X.K c0) dx [])) := ext_push hx'
          have R3 := R2.push (o := .ins c0 [] []) (u := .ins (He.ga X.K c0) dx []) hx' ⟨dx, [], rfl, rfl, .nil⟩
          refine ⟨Tr Av r1, [] ++ [some x], .loc 0 :: ds, es', [] ++ [.ins c0 [] []], _, _, R3, .cons (.loc (by simp) fun a ea => by cases ea; rfl) (RDs.mono R2 y2 _ _ (RDs.mono N0 y1 _ _ p1)), RDs.mono R2 y2 _ _ (RDs.mono N0 y1 _ _ p2), e3, fun r5 v H5 x5 R5 q5 => ?_⟩
          cases q5
          refine ⟨rfl, ?_⟩
          have q6 : RD X.K (Tr (Tr Av r1) r5) H5 r5 (.loc 0) (.ref x) := .loc (by have := x5.len; simp at this; omega) fun a ea => by
            have z := x5.pre _ a (by simp) ea
            cases z
            rfl
          obtain ⟨r6, x6, R6, q7⟩ := frz_ok 8 _ _ _ _ _ _ e4 R5 q6
          have kp := keep_of (A := Av) (((y1.trans y2).trans x5))
          exact kk r1 _ H5 (x1.trans (ext_keep kp)) (R1.keep kp) (RD.free (fun a t => Or.inl t) _ _ hd4 q7)
        refine wpAny_Call_Name_kw (ld_glob I hg hm ?_ hd)
        exact hc.run pos (.ref (He.ga X.K c0)) [] pins s σ H _ _ M.kp I A1 fun us ws vs zs s1 H1 I1 r1 r2 ⟨l, q1⟩ => run_makeB M F hr I1 r1 r2 l q1
      · cases e2
    · cases e2
  · cases e2
end
end HF
set_option Elab.async false
set_option linter.all false
set_option maxRecDepth 100000
set_option maxHeartbeats 1000000
namespace HF
open PySem PySem.Spec PyProof.Rows L2
/-! ### what a value's meaning leans on -/
section
variable {K : PySem.W.Frag} {T T' : Addr → Prop} {H H' : Hp} {r r' : Rho}
structure Lean1 (T T' : Addr → Prop) (H H' : Hp) (r r' : Rho) : Prop where
  t : ∀ a, (∃ o, H a = some o) → ¬ T a → ¬ T' a
  k : ∀ a o, H a = some o → ¬ T a → H' a = some o
  u : ∀ a xs, Rd H a (.tup xs) → Rd H' a (.tup xs)
  v : ∀ a xs, H a = some (.tup xs) → H' a = some (.tup xs)
  l : r.length ≤ r'.length
  p : ∀ (i : Nat) (a : Addr), i < r.length → r'[i]? = some (some a) → r[i]? = some (some a)
theorem Lean1.rd (L : Lean1 T T' H H' r r') {a : Addr} {o : HO} (n : ¬ T a) (q : Rd H a o) : Rd H' a o := by
  rcases q with q | ⟨od, q⟩
  · exact .inl (L.k a _ q n)
  · exact .inr ⟨od, L.k a _ q n⟩
mutual
theorem RD.gen (L : Lean1 T T' H H' r r') : ∀ (d : D) (v : V), RD K T H r d v → RD K T' H' r' d v
  | _, _, .non => .non
  | _, _, .bl b => .bl b
  | _, _, .int i => .int i
  | _, _, .str s => .str s
  | _, _, .tup q ds => .tup (L.v _ _ q) (RDs.gen L _ _ ds)
  | _, _, .kt q ds => .kt (by
      rcases q with q | q
      · exact .inl (L.u _ _ q)
      · exact .inr q) (RDs.gen L _ _ ds)
  | _, _, .kl q ds => .kl q (RDs.gen L _ _ ds)
  | _, _, .fl q n ds => .fl (L.k _ _ q n) (L.t _ ⟨_, q⟩ n) (RDs.gen L _ _ ds)
  | _, _, .fz q n ds => .fz (L.rd n q) (L.t _ (rd_some q) n) (RDs.gen L _ _ ds)
  | _, _, .ob q n k ds => .ob (L.k _ _ q n) (L.t _ ⟨_, q⟩ n) k (RDs.gen L _ _ ds)
  | _, _, .dk q n k ds => .dk (L.rd n q) (L.t _ (rd_some q) n) k (RDs.gen L _ _ ds)
  | _, _, .dt q n k ds => .dt (L.rd n q) (L.t _ (rd_some q) n) k (RDs.gen L _ _ ds)
  | _, _, .loc l q => .loc (Nat.lt_of_lt_of_le l L.l) fun a z => q a (L.p _ a l z)
theorem RDs.gen (L : Lean1 T T' H H' r r') : ∀ (ds : List D) (vs : List V), RDs K T H r ds vs → RDs K T' H' r' ds vs
  | _, _, .nil => .nil
  | _, _, .cons d ds => .cons (RD.gen L _ _ d) (RDs.gen L _ _ ds)
end
theorem roh_gen (L : Lean1 T T' H H' r r') : ∀ (o : O) (w : HO), ROH K T H r o w → ROH K T' H' r' o w
  | .lst _, _, ⟨vs, e, q⟩ => ⟨vs, e, RDs.gen L _ _ q⟩
  | .dk _ _, _, ⟨kvs, e, ek, q⟩ => ⟨kvs, e, ek, RDs.gen L _ _ q⟩
  | .dt _ _, _, ⟨kvs, e, ek, q⟩ => ⟨kvs, e, ek, RDs.gen L _ _ q⟩
  | .ins _ _ _, _, ⟨dx, fs, e, ek, q⟩ => ⟨dx, fs, e, ek, RDs.gen L _ _ q⟩
  | .lk o, _, ⟨od, u', e, q⟩ => ⟨od, u', e, roh_gen L o u' q⟩
  | .gone, _, q => q
end
abbrev AvD (Av : Addr → Prop) (D : Addr) : Addr → Prop := fun a => Av a ∨ a = D
section
variable {K : PySem.W.Frag} {Av : Addr → Prop} {H : Hp} {r : Rho} {h : List O} {D0 : Addr} {u : HO}
theorem lean_ext {r' : Rho} {H' : Hp} (R : Rep K Av r h H) (x : Ext r H r' H') : Lean1 (Tr Av r) (Tr Av r') H H' r r' :=
  ⟨fun a o n => tr_mono x n o, fun a o e n => x.keep a o e fun i => n (.inr i), fun a xs q => rd_keep x (fun i => R.notup i q) q, fun a xs q => x.keep a _ q (fun i => R.notup i (.inl q)), x.len, x.pre⟩
theorem lean_grow (hD : H D0 = none) : Lean1 (Tr Av r) (Tr (AvD Av D0) r) H (upd H D0 u) r r :=
  ⟨fun a ⟨o, e⟩ n t => t.elim (fun z => z.elim (fun z => n (.inl z)) fun z => by rw [z, hD] at e; cases e) fun z => n (.inr z), fun a o e n => by rw [upd_ne (ne_of_none e hD)]; exact e,
    fun a xs q => by rcases q with q | ⟨od, q⟩; · exact .inl (by rw [upd_ne (ne_of_none q hD)]; exact q)
                     · exact .inr ⟨od, by rw [upd_ne (ne_of_none q hD)]; exact q⟩, fun a xs q => by rw [upd_ne (ne_of_none q hD)]; exact q, Nat.le_refl _, fun _ _ _ e => e⟩
theorem lean_av {vs : List V} (hA : Av D0) (hD : H D0 = some (.lst vs)) : Lean1 (Tr Av r) (Tr Av r) H (upd H D0 u) r r :=
  ⟨fun a _ n => n, fun a o e n => by rw [upd_ne (show a ≠ D0 from fun z => n (.inl (by rw [z]; exact hA)))]; exact e,
    fun a xs q => by rcases q with q | ⟨od, q⟩; · exact .inl (by rw [upd_ne (ne_of q hD (by intro z; cases z))]; exact q)
                     · exact .inr ⟨od, by rw [upd_ne (ne_of q hD (by intro z; cases z))]; exact q⟩, fun a xs q => by rw [upd_ne (ne_of q hD (by intro z; cases z))]; exact q, Nat.le_refl _, fun _ _ _ e => e⟩
theorem Rep.grow (R : Rep K Av r h H) (hD : H D0 = none) : Rep K (AvD Av D0) r h (upd H D0 u) where
  len := R.len
  inj := R.inj
  nav := fun a i z => z.elim (R.nav a i) fun z => by
    obtain ⟨o, e⟩ := in_some R i
    rw [z, hD] at e
    cases e
  dom := fun a z => by
    by_cases q : a = D0
    · exact ⟨u, by rw [q, upd_same]⟩
    · obtain ⟨o, e⟩ := R.dom a (z.elim id fun z => absurd z q)
      exact ⟨o, by rw [upd_ne q]; exact e⟩
  obs := fun i a o e1 e2 => by
    obtain ⟨w, hw, ho⟩ := R.obs i a o e1 e2
    exact ⟨w, by rw [upd_ne (ne_of_none hw hD)]; exact hw, roh_gen (lean_grow hD) o w ho⟩
  drop := R.drop
theorem Rep.av {vs : List V} (R : Rep K Av r h H) (hA : Av D0) (hD : H D0 = some (.lst vs)) : Rep K Av r h (upd H D0 u) where
  len := R.len
  inj := R.inj
  nav := R.nav
  dom := fun a z => by
    by_cases q : a = D0
    · exact ⟨u, by rw [q, upd_same]⟩
    · obtain ⟨o, e⟩ := R.dom a z
      exact ⟨o, by rw [upd_ne q]; exact e⟩
  obs := fun i a o e1 e2 => by
    obtain ⟨w, hw, ho⟩ := R.obs i a o e1 e2
    have ne : a ≠ D0 := fun z => R.nav a ⟨i, e1⟩ (z ▸ hA)
    exact ⟨w, by rw [upd_ne ne]; exact hw, roh_gen (lean_av hA hD) o w ho⟩
  drop := R.drop
end
theorem Rep.less {K : PySem.W.Frag} {Av Av' : Addr → Prop} {H : Hp} {r : Rho} {h : List O} (R : Rep K Av' r h H) (i : ∀ a, Av a → Av' a) : Rep K Av r h H where
  len := R.len
  inj := R.inj
  nav := fun a q z => R.nav a q (i a z)
  dom := fun a z => R.dom a (i a z)
  obs := fun j a o e1 e2 => by
    obtain ⟨w, hw, ho⟩ := R.obs j a o e1 e2
    exact ⟨w, hw, roh_gen ⟨fun a _ n t => n (t.elim (fun z => .inl (i a z)) .inr), fun a o e _ => e, fun _ _ q => q, fun _ _ q => q, Nat.le_refl _, fun _ _ _ e => e⟩ o w ho⟩
  drop := R.drop
theorem lean_less {Av Av' : Addr → Prop} {H : Hp} {r : Rho} (i : ∀ a, Av a → Av' a) : Lean1 (Tr Av' r) (Tr Av r) H H r r := ⟨fun a _ n t => n (t.elim (fun z => .inl (i a z)) .inr), fun a o e _ => e, fun _ _ q => q, fun _ _ q => q, Nat.le_refl _, fun _ _ _ e => e⟩
theorem RSl.gen {K : PySem.W.Frag} {T T' : Addr → Prop} {H H' : Hp} {r r' : Rho} {sl : Sl} {σ : L2.St} (L : Lean1 T T' H H' r r') (q : RSl K T H r sl σ) : RSl K T' H' r' sl σ := ⟨q.len, fun i d hd => by
  obtain ⟨v, hv, rd⟩ := q.at_ i d hd
  exact ⟨v, hv, RD.gen L _ _ rd⟩⟩
/-! ### targets -/
abbrev FG := D → Sl → Option Sl
abbrev FGs := List D → Sl → Option Sl
def Only1 (is : List Nat) (σ σ' : L2.St) : Prop := σ'.length = σ.length ∧ ∀ j, j ∉ is → σ'[j]? = σ[j]?
def tFG (K : PySem.W.Frag) (Av : Addr → Prop) (is : List Nat) (g : FG) : TG := fun v σ H Q => ∃ r sl h d sl', Rep K Av r h H ∧ RSl K (Tr Av r) H r sl σ ∧ RD K (Tr Av r) H r d v ∧ g d sl = some sl' ∧ ∀ σ', RSl K (Tr Av r) H r sl' σ' → Only1 is σ σ' → Q σ' H
def tFGs (K : PySem.W.Frag) (Av : Addr → Prop) (is : List Nat) (g : FGs) : TGs := fun vs σ H Q => ∃ r sl h ds sl', Rep K Av r h H ∧ RSl K (Tr Av r) H r sl σ ∧ RDs K (Tr Av r) H r ds vs ∧ g ds sl = some sl' ∧ ∀ σ', RSl K (Tr Av r) H r sl' σ' → Only1 is σ σ' → Q σ' H
theorem PG.imp {X : Cx} {e : Expr} {t t' : TG} (h : PG X e t) (i : ∀ v σ H Q, t' v σ H Q → t v σ H Q) : PG X e t' := ⟨fun pins s σ H v u Q I r q => h.run pins s σ H v u Q I r (i v σ H Q q)⟩
theorem PGs.imp {X : Cx} {e : List Expr} {t t' : TGs} (h : PGs X e t) (i : ∀ v σ H Q, t' v σ H Q → t v σ H Q) : PGs X e t' := ⟨fun pins s σ H v u Q I r q => h.run pins s σ H v u Q I r (i v σ H Q q)⟩
def g_n (i : Nat) : FG := fun d sl => some (sl.set i (some d))
def gs_nil : FGs := fun ds sl => match ds with
  | [] => some sl
  | _ => none
def gs_cons (g : FG) (gs : FGs) : FGs := fun ds sl => match ds with
  | d :: ds => (g d sl).bind fun sl1 => gs ds sl1
  | [] => none
def g_t (n : Nat) (gs : FGs) : FG := fun d sl => match d with
  | .tup ds => if ds.length = n then gs ds sl else none
  | _ => none
section
variable {X : Cx} {Av : Addr → Prop} {pos : Pos}
theorem fg_n {i : Nat} {x : Str} (hN : X.N.Nodup) (hi : X.N[i]? = some x) (hx : Loc X.env.scope x) (hf : X.fn x = true ∨ X.env.scope.names.lookup x = some .local := by first | exact .inl rfl | exact .inr rfl | assumption) : PG X (.Name x pos) (tFG X.K Av [i] (g_n i)) :=
  PG.imp (pg_name hN hi hx hf) fun v σ H Q ⟨r, sl, h, d, sl', R, S, q, e, k⟩ => by
    cases e
    exact k _ (S.set i q) ⟨by simp, fun j hj => by rw [List.getElem?_set_ne (by simpa [eq_comm] using hj)]⟩
theorem fgs_nil : PGs X [] (tFGs X.K Av [] gs_nil) := PGs.imp pgs_nil fun vs σ H Q ⟨r, sl, h, ds, sl', R, S, q, e, k⟩ => by
  cases q with
  | nil => cases e; exact ⟨rfl, k σ S ⟨rfl, fun _ _ => rfl⟩⟩
  | cons _ _ => cases e
theorem fgs_cons {e : Expr} {es : List Expr} {g : FG} {gs : FGs} {is js : List Nat} (h1 : PG X e (tFG X.K Av is g)) (h2 : PGs X es (tFGs X.K Av js gs)) (hs : (assignEach (e :: es) X.env).map (·.2) = assign e X.env :: (assignEach es X.env).map (·.2) := by rfl) : PGs X (e :: es) (tFGs X.K Av (is ++ js) (gs_cons g gs)) :=
  PGs.imp (pgs_cons h1 h2 hs) fun vs σ H Q ⟨r, sl, h, ds, sl', R, S, q, e, k⟩ => by
    cases q with
    | nil => cases e
    | cons q qs =>
      obtain ⟨sl1, e1, e⟩ := Option.bind_eq_some_iff.mp e
      refine ⟨_, _, rfl, r, sl, h, _, sl1, R, S, q, e1, fun σ1 S1 o1 => ⟨r, sl1, h, _, sl', R, S1, qs, e, fun σ2 S2 o2 => k σ2 S2 ⟨o2.1.trans o1.1, fun j hj => ?_⟩⟩⟩
      have n1 : j ∉ is := fun z => hj (List.mem_append_left _ z)
      have n2 : j ∉ js := fun z => hj (List.mem_append_right _ z)
      rw [o2.2 j n2, o1.2 j n1]
theorem fg_t {es : List Expr} {k0 n : Nat} {gs : FGs} {is : List Nat} (hc : X.calm = true) (h : PGs X es (tFGs X.K Av is gs)) (hn : (assignEach es X.env).length = n := by rfl) (hst : (assignEach es X.env).findIdx? (·.1) = none := by rfl) : PG X (.Tuple es k0 pos) (tFG X.K Av is (g_t n gs)) :=
  PG.imp (pg_tup hc h hn hst) fun v σ H Q ⟨r, sl, h, d, sl', R, S, q, e, k⟩ => by
    cases q with
    | tup sq qs =>
      unfold g_t at e
      dsimp only at e
      split at e
      · rename_i hl
        exact ⟨_, _, rfl, SqT.of sq, by rw [← qs.length, hl], r, sl, h, _, sl', R, S, qs, e, k⟩
      · cases e
    | _ => cases e
def s_asg (m : FE) (g : FG) : FS := fun sl h => (m sl h).bind fun p => (g p.1 sl).bind fun sl1 => some (.nx, sl1, p.2)
theorem fs_asg {tg e : Expr} {m : FE} {g : FG} {is : List Nat} (he : PE X e (tF X.K Av m)) (hg : PG X tg (tFG X.K Av is g)) (hs : swapsWithSole [tg] e pos.line X.env = pure false := by rfl) (hw : swappedStores [tg] e X.env = pure none := by rfl)
    (h1 : (assignEach [tg] X.env).map (·.2) = [assign tg X.env] := by rfl) : PS X (.Assign [tg] e pos) (tFS X.K Av (s_asg m g)) := PS.imp (ps_asg he hg hs hw h1) fun Dn σ H q => by
  obtain ⟨r, sl, h, f, sl', h', R, S, e, k⟩ := q
  obtain ⟨⟨d1, h1⟩, e1, e⟩ := Option.bind_eq_some_iff.mp e
  obtain ⟨sl1, e2, e⟩ := Option.bind_eq_some_iff.mp e
  cases e
  exact tF_go R S e1 fun r1 v H1 x1 R1 S1 q1 => ⟨r1, sl, _, d1, _, R1, S1, q1, e2, fun σ1 S2 _ => k r1 σ1 H1 x1 R1 S2⟩
end
/-! ### what is walked -/
structure SrcOk (K : PySem.W.Frag) (J : It) (ok : (Addr → Prop) → Rho → Hp → Prop) (ds : List D) : Prop where
  mono : ∀ (Av : Addr → Prop) (r r' : Rho) (H H' : Hp), Lean1 (Tr Av r) (Tr Av r') H H' r r' → ok Av r H → ok Av r' H'
  grow : ∀ (Av : Addr → Prop) (r : Rho) (H : Hp) (D0 : Addr) (u : HO), H D0 = none → ok Av r H → ok (AvD Av D0) r (upd H D0 u)
  go : ∀ (Av : Addr → Prop) (r : Rho) (h : List O) (H : Hp) (i : Nat) (d : D), ds[i]? = some d → Rep K Av r h H → ok Av r H → J.go i H ∧ ∀ x H', J.yld i H x H' → Ext r H r H' ∧ Rep K Av r h H' ∧ RD K (Tr Av r) H' r d x
  stop : ∀ (Av : Addr → Prop) (r : Rho) (h : List O) (H : Hp), Rep K Av r h H → ok Av r H → J.stop ds.length H
def tFI (K : PySem.W.Frag) (Av : Addr → Prop) (m : FA) : TI := fun σ H Q => ∃ r sl h ds h', Rep K Av r h H ∧ RSl K (Tr Av r) H r sl σ ∧ m sl h = some (ds, h') ∧
  ∀ r' H' J ok, Ext r H r' H' → Rep K Av r' h' H' → SrcOk K J ok ds → ok Av r' H' → Q J H'
theorem PI.imp {X : Cx} {tg e : Expr} {t t' : TI} (h : PI X tg e t) (i : ∀ σ H Q, t' σ H Q → t σ H Q) : PI X tg e t' := ⟨fun pins s σ H R I q => h.run pins s σ H R I (i σ H R q)⟩
section
variable {K : PySem.W.Frag} {ds : List D}
theorem src_list (a : Addr) : SrcOk K (Itl K a) (fun Av r H => ∃ vs, Rd H a (.lst vs) ∧ ¬ Tr Av r a ∧ RDs K (Tr Av r) H r ds vs) ds where
  mono := fun Av r r' H H' L ⟨vs, q, n, qs⟩ => ⟨vs, L.rd n q, L.t a (rd_some q) n, RDs.gen L _ _ qs⟩
  grow := fun Av r H D0 u hD ⟨vs, q, n, qs⟩ => ⟨vs, (lean_grow hD).rd n q, (lean_grow (u := u) hD).t a (rd_some q) n, RDs.gen (lean_grow hD) _ _ qs⟩
  go := fun Av r h H i d hd R ⟨vs, q, n, qs⟩ => by
    obtain ⟨v, hv, rd⟩ := RDs.get qs hd
    refine ⟨⟨vs, v, .inl q, hv⟩, fun x H' ⟨eH, hx⟩ => ?_⟩
    subst eH
    have := hx vs (.inl q)
    rw [hv] at this
    cases this
    exact ⟨Ext.refl _ _, R, rd⟩
  stop := fun Av r h H R ⟨vs, q, n, qs⟩ => ⟨vs, .inl q, by rw [qs.length]; exact Nat.le_refl _⟩
theorem src_tup (a : Addr) : SrcOk K (Itt K a) (fun Av r H => ∃ vs, SqT K H a vs ∧ RDs K (Tr Av r) H r ds vs) ds where
  mono := fun Av r r' H H' L ⟨vs, q, qs⟩ => ⟨vs, q.elim (fun q => .inl (L.u a vs q)) .inr, RDs.gen L _ _ qs⟩
  grow := fun Av r H D0 u hD ⟨vs, q, qs⟩ => ⟨vs, q.elim (fun q => .inl ((lean_grow (Av := Av) (r := r) hD).u a vs q)) .inr, RDs.gen (lean_grow hD) _ _ qs⟩
  go := fun Av r h H i d hd R ⟨vs, q, qs⟩ => by
    obtain ⟨v, hv, rd⟩ := RDs.get qs hd
    refine ⟨⟨vs, v, q, hv⟩, fun x H' ⟨eH, hx⟩ => ?_⟩
    subst eH
    have := hx vs q
    rw [hv] at this
    cases this
    exact ⟨Ext.refl _ _, R, rd⟩
  stop := fun Av r h H R ⟨vs, q, qs⟩ => ⟨vs, q, by rw [qs.length]; exact Nat.le_refl _⟩
theorem src_range (lo : Int) (n : Nat) : SrcOk K (Itr lo n) (fun _ _ _ => True) ((List.range n).map fun i => D.int (lo + (i : Nat))) where
  mono := fun _ _ _ _ _ _ _ => trivial
  grow := fun _ _ _ _ _ _ _ => trivial
  go := fun Av r h H i d hd R _ => by
    have hl : i < n := by have := getOpt hd; simpa using this
    refine ⟨hl, fun x H' ⟨eH, ex⟩ => ?_⟩
    subst eH ex
    rw [List.getElem?_map, List.getElem?_range hl] at hd
    cases hd
    exact ⟨Ext.refl _ _, R, .int _⟩
  stop := fun Av r h H R _ => by
    show n ≤ _
    simp
end
def i_l (m : FE) : FA := fun sl h => (m sl h).bind fun p => match p.1 with
  | .fl xs => some (xs, p.2)
  | .fz xs => some (xs, p.2)
  | _ => none
def i_t (m : FE) : FA := fun sl h => (m sl h).bind fun p => match p.1 with
  | .tup xs => some (xs, p.2)
  | .kt xs => some (xs, p.2)
  | _ => none
def i_r1 (ms : FA) : FA := fun sl h => (ms sl h).bind fun p => match p.1 with
  | [.int j] => if decide (-(2 ^ 62) ≤ j) && decide (j < 2 ^ 62) then some ((List.range j.toNat).map fun i => D.int (0 + (i : Nat)), p.2) else none
  | _ => none
def i_r2 (ms : FA) : FA := fun sl h => (ms sl h).bind fun p => match p.1 with
  | [.int i, .int j] => if (decide (-(2 ^ 62) ≤ i) && decide (i < 2 ^ 62)) && (decide (-(2 ^ 62) ≤ j) && decide (j < 2 ^ 62)) then some ((List.range (j - i).toNat).map fun k => D.int (i + (k : Nat)), p.2) else none
  | _ => none
section
variable {X : Cx} {Av : Addr → Prop} {pos p : Pos} {tg e a b : Expr} {m : FE} {ms : FA}
theorem fi_l (he : PE X e (tF X.K Av m)) : PI X tg e (tFI X.K Av (i_l m)) := PI.imp (pi_list he) fun σ H Q ⟨r, sl, h, ds, h', R, S, e, k⟩ => by
  obtain ⟨⟨d1, h1⟩, e1, e⟩ := Option.bind_eq_some_iff.mp e
  refine tF_go R S e1 fun r1 v H1 x1 R1 S1 q1 => ?_
  dsimp only at e
  cases q1 with
  | fl z n qs => cases e; exact ⟨_, rfl, ⟨_, SqL.of z⟩, k r1 H1 _ _ x1 R1 (src_list _) ⟨_, .inl z, n, qs⟩⟩
  | fz z n qs => cases e; exact ⟨_, rfl, ⟨_, .inl z⟩, k r1 H1 _ _ x1 R1 (src_list _) ⟨_, z, n, qs⟩⟩
  | _ => cases e
theorem fi_t (he : PE X e (tF X.K Av m)) : PI X tg e (tFI X.K Av (i_t m)) := PI.imp (pi_tup he) fun σ H Q ⟨r, sl, h, ds, h', R, S, e, k⟩ => by
  obtain ⟨⟨d1, h1⟩, e1, e⟩ := Option.bind_eq_some_iff.mp e
  refine tF_go R S e1 fun r1 v H1 x1 R1 S1 q1 => ?_
  dsimp only at e
  cases q1 with
  | tup z qs => cases e; exact ⟨_, rfl, ⟨_, SqT.of z⟩, k r1 H1 _ _ x1 R1 (src_tup _) ⟨_, SqT.of z, qs⟩⟩
  | kt z qs => cases e; exact ⟨_, rfl, ⟨_, z⟩, k r1 H1 _ _ x1 R1 (src_tup _) ⟨_, z, qs⟩⟩
  | _ => cases e
theorem fi_r1 (hg : Gl X "range") (hm : X.mg "range" = none) (ha : PA X [a] (tFA X.K Av ms)) (hs : starEach [a] X.env = [(false, eval a X.env)] := by rfl) : PI X tg (.Call (.Name "range" p) [a] [] pos) (tFI X.K Av (i_r1 ms)) := PI.imp (pi_range1 hg hm ha hs) fun σ H Q ⟨r, sl, h, ds, h', R, S, e, k⟩ => by
  obtain ⟨⟨d1, h1⟩, e1, e⟩ := Option.bind_eq_some_iff.mp e
  refine tFA_go R S e1 fun r1 v H1 x1 R1 S1 q1 => ?_
  dsimp only at e
  split at e
  · rename_i j
    split at e
    · rename_i hj
      cases e
      have hj := Bool.and_eq_true_iff.mp hj
      cases q1 with
      | cons q qs =>
        cases q
        cases qs
        exact ⟨j, rfl, of_decide_eq_true hj.1, of_decide_eq_true hj.2, k r1 H1 _ _ x1 R1 (src_range 0 j.toNat) trivial⟩
    · cases e
  · cases e
theorem fi_r2 (hg : Gl X "range") (hm : X.mg "range" = none) (ha : PA X [a, b] (tFA X.K Av ms)) (hs : starEach [a, b] X.env = [(false, eval a X.env), (false, eval b X.env)] := by rfl) (hs2 : starEach [b] X.env = [(false, eval b X.env)] := by rfl) : PI X tg (.Call (.Name "range" p) [a, b] [] pos) (tFI X.K Av (i_r2 ms)) := PI.imp (pi_range2 hg hm ha hs hs2) fun σ H Q ⟨r, sl, h, ds, h', R, S, e, k⟩ => by
  obtain ⟨⟨d1, h1⟩, e1, e⟩ := Option.bind_eq_some_iff.mp e
  refine tFA_go R S e1 fun r1 v H1 x1 R1 S1 q1 => ?_
  dsimp only at e
  split at e
  · rename_i i j
    split at e
    · rename_i hj
      cases e
      have hj := Bool.and_eq_true_iff.mp hj
      have h1 := Bool.and_eq_true_iff.mp hj.1
      have h2 := Bool.and_eq_true_iff.mp hj.2
      cases q1 with
      | cons q qs =>
        cases q
        cases qs with
        | cons q qs =>
          cases q
          cases qs
          exact ⟨i, j, rfl, ⟨of_decide_eq_true h1.1, of_decide_eq_true h1.2, of_decide_eq_true h2.1, of_decide_eq_true h2.2⟩, k r1 H1 _ _ x1 R1 (src_range i (j - i).toNat) trivial⟩
    · cases e
  · cases e
end
/-! ### for, while -/
def forL (g : FG) (b : FS) : List D → FS
  | [], sl, h => some (.nx, sl, h)
  | d :: ds, sl, h => (g d sl).bind fun sl1 => (b sl1 h).bind fun q => match q.1 with
    | .nx => forL g b ds q.2.1 q.2.2
    | .ct => forL g b ds q.2.1 q.2.2
    | .bk => some (.nx, q.2)
    | .rt d => some (.rt d, q.2)
def s_for (mi : FA) (g : FG) (b : FS) : FS := fun sl h => (mi sl h).bind fun p => forL g b p.1 sl p.2
def whL (tc : FT) (b : FS) : Nat → FS
  | 0, _, _ => none
  | n + 1, sl, h => (tc sl h).bind fun p => if p.1 = true then (b sl p.2).bind fun q => match q.1 with
      | .nx => whL tc b n q.2.1 q.2.2
      | .ct => whL tc b n q.2.1 q.2.2
      | .bk => some (.nx, q.2)
      | .rt d => some (.rt d, q.2)
    else some (.nx, sl, p.2)
section
variable {X : Cx} {Av : Addr → Prop} {pos : Pos} {tg iter : Expr} {body : List Stmt} {mi : FA} {g : FG} {b : FS} {is : List Nat} {tc : FT}
theorem fs_for (hc : X.calm = true) (hi : PI X tg iter (tFI X.K Av mi)) (hg : PG X tg (tFG X.K Av is g)) (hb : PSs X body (tFS X.K Av b)) (hp : PassesOwn (model X.prog X.w) X.A X.env X.xe) (hs : ∀ x, foldedSetIterable iter X.env x = pure x := by intro _; rfl) : PS X (.For tg iter body [] pos) (tFS X.K Av (s_for mi g b)) :=
  PS.imp (ps_for hp hc hi hg hb hs) fun Dn σ H q => by
    obtain ⟨r, sl, h, f, sl', h', R, S, e, k⟩ := q
    obtain ⟨⟨ds, h1⟩, e1, e⟩ := Option.bind_eq_some_iff.mp e
    refine ⟨r, sl, h, ds, h1, R, S, e1, fun r1 H1 J ok x1 R1 so o1 => ?_⟩
    dsimp only at e
    refine ⟨fun i m σ H => ∃ r sl h, i ≤ ds.length ∧ m = ds.length - i ∧ Rep X.K Av r h H ∧ RSl X.K (Tr Av r) H r sl σ ∧ ok Av r H ∧ forL g b (ds.drop i) sl h = some (f, sl', h') ∧ (∀ r' σ' H', Ext r H r' H' → Rep X.K Av r' h' H' → RSl X.K (Tr Av r') H' r' sl' σ' → After X.K Av Dn r' σ' H' f),
      ⟨ds.length, r1, sl, h1, Nat.zero_le _, rfl, R1, S.mono R x1, o1, by rw [List.drop_zero]; exact e, fun r' σ' H' x => k r' σ' H' (x1.trans x)⟩, ?_⟩
    rintro i m σ2 H2 ⟨r2, sl2, h2, hi2, em, R2, S2, o2, e2, k2⟩
    rcases Nat.lt_or_ge i ds.length with hl | hl
    · have hd : ds[i]? = some ds[i] := List.getElem?_eq_getElem hl
      obtain ⟨hgo, hy⟩ := so.go Av r2 h2 H2 i ds[i] hd R2 o2
      refine .inr ⟨hgo, fun σ' H' => ∃ r sl h, i + 1 ≤ ds.length ∧ Rep X.K Av r h H' ∧ RSl X.K (Tr Av r) H' r sl σ' ∧ ok Av r H' ∧ forL g b (ds.drop (i + 1)) sl h = some (f, sl', h') ∧ (∀ r' σ'' H'', Ext r H' r' H'' → Rep X.K Av r' h' H'' → RSl X.K (Tr Av r') H'' r' sl' σ'' → After X.K Av Dn r' σ'' H'' f),
        fun σ' H' ⟨r, sl, h, l, a1, a2, a3, a4, a5⟩ => ⟨ds.length - (i + 1), by omega, r, sl, h, l, rfl, a1, a2, a3, a4, a5⟩, fun x H3 yx => ?_⟩
      obtain ⟨x3, R3, q3⟩ := hy x H3 yx
      rw [List.drop_eq_getElem_cons hl] at e2
      unfold forL at e2
      obtain ⟨sl4, e4, e2⟩ := Option.bind_eq_some_iff.mp e2
      obtain ⟨⟨f5, sl5, h5⟩, e5, e2⟩ := Option.bind_eq_some_iff.mp e2
      have S3 := S2.mono R2 x3
      have o3 := so.mono Av r2 r2 H2 H3 (lean_ext R2 x3) o2
      refine ⟨r2, sl2, h2, ds[i], sl4, R3, S3, q3, e4, fun σ4 S4 _ => ?_⟩
      refine tFS_go R3 S4 e5 fun r5 σ5 H5 x5 R5 S5 => ?_
      have o5 := so.mono Av r2 r5 H3 H5 (lean_ext R3 x5) o3
      dsimp only at e2
      cases f5 with
      | nx => exact ⟨r5, sl5, h5, hl, R5, S5, o5, e2, fun r' σ' H' x => k2 r' σ' H' ((x3.trans x5).trans x)⟩
      | ct => exact ⟨r5, sl5, h5, hl, R5, S5, o5, e2, fun r' σ' H' x => k2 r' σ' H' ((x3.trans x5).trans x)⟩
      | bk => cases e2; exact k2 r5 σ5 H5 (x3.trans x5) R5 S5
      | rt d => cases e2; exact k2 r5 σ5 H5 (x3.trans x5) R5 S5
    · have ei : i = ds.length := Nat.le_antisymm hi2 hl
      subst ei
      rw [List.drop_length] at e2
      cases e2
      exact .inl ⟨so.stop Av r2 _ H2 R2 o2, k2 r2 σ2 H2 (Ext.refl _ _) R2 S2⟩
theorem fs_while {c : Expr} (n : Nat) (hc : PT X c (tFT X.K Av tc)) (hb : PSs X body (tFS X.K Av b)) (hp : PassesOwn (model X.prog X.w) X.A X.env X.xe) : PS X (.While c body [] pos) (tFS X.K Av (whL tc b n)) :=
  PS.imp (ps_while hp hc hb) fun Dn σ H q => by
    obtain ⟨r, sl, h, f, sl', h', R, S, e, k⟩ := q
    refine ⟨fun m σ H => ∃ r sl h, Rep X.K Av r h H ∧ RSl X.K (Tr Av r) H r sl σ ∧ whL tc b m sl h = some (f, sl', h') ∧ (∀ r' σ' H', Ext r H r' H' → Rep X.K Av r' h' H' → RSl X.K (Tr Av r') H' r' sl' σ' → After X.K Av Dn r' σ' H' f), ⟨n, r, sl, h, R, S, e, k⟩, ?_⟩
    rintro m σ2 H2 ⟨r2, sl2, h2, R2, S2, e2, k2⟩
    cases m with
    | zero => cases e2
    | succ m =>
      obtain ⟨⟨b3, h3⟩, e3, e2⟩ := Option.bind_eq_some_iff.mp (show (tc sl2 h2).bind _ = some (f, sl', h') from e2)
      refine tFT_go R2 S2 e3 fun r3 H3 x3 R3 S3 => ?_
      dsimp only at e2
      cases b3 with
      | true =>
        obtain ⟨⟨f5, sl5, h5⟩, e5, e2⟩ := Option.bind_eq_some_iff.mp (show (b sl2 h3).bind _ = some (f, sl', h') from e2)
        refine ⟨fun σ' H' => ∃ r sl h, Rep X.K Av r h H' ∧ RSl X.K (Tr Av r) H' r sl σ' ∧ whL tc b m sl h = some (f, sl', h') ∧ (∀ r' σ'' H'', Ext r H' r' H'' → Rep X.K Av r' h' H'' → RSl X.K (Tr Av r') H'' r' sl' σ'' → After X.K Av Dn r' σ'' H'' f), fun σ' H' z => ⟨m, Nat.lt_succ_self m, z⟩, ?_⟩
        refine tFS_go R3 S3 e5 fun r5 σ5 H5 x5 R5 S5 => ?_
        dsimp only at e2
        cases f5 with
        | nx => exact ⟨r5, sl5, h5, R5, S5, e2, fun r' σ' H' x => k2 r' σ' H' ((x3.trans x5).trans x)⟩
        | ct => exact ⟨r5, sl5, h5, R5, S5, e2, fun r' σ' H' x => k2 r' σ' H' ((x3.trans x5).trans x)⟩
        | bk => cases e2; exact k2 r5 σ5 H5 (x3.trans x5) R5 S5
        | rt d => cases e2; exact k2 r5 σ5 H5 (x3.trans x5) R5 S5
      | false =>
        cases e2
        exact k2 r3 σ2 H3 x3 R3 S3
end
end HF
set_option Elab.async false
set_option linter.all false
set_option maxRecDepth 100000
set_option maxHeartbeats 1000000
namespace HF
open PySem PySem.Spec PyProof.Rows L2
/-! ### comprehensions -/
def wipeD (sl : Sl) : List Nat → Sl
  | [] => sl
  | v :: vs => (wipeD sl vs).set v none
theorem rsl_none {K : PySem.W.Frag} {T : Addr → Prop} {H : Hp} {r : Rho} {sl : Sl} {σ : L2.St} (q : RSl K T H r sl σ) (i : Nat) : RSl K T H r (sl.set i none) (σ.set i none) :=
  ⟨by simp [q.len], fun j d' hd => by
    by_cases hj : j = i
    · subst hj
      have hl : j < sl.length := by
        have := getOpt hd
        simpa using this
      rw [List.getElem?_set_self hl] at hd
      cases hd
    · rw [List.getElem?_set_ne (Ne.symm hj)] at hd
      obtain ⟨v', hv, rd'⟩ := q.at_ j d' hd
      exact ⟨v', by rw [List.getElem?_set_ne (Ne.symm hj)]; exact hv, rd'⟩⟩
theorem rsl_wipe {K : PySem.W.Frag} {T : Addr → Prop} {H : Hp} {r : Rho} {sl : Sl} {σ : L2.St} (q : RSl K T H r sl σ) : ∀ vs : List Nat, RSl K T H r (wipeD sl vs) (wipe σ vs)
  | [] => q
  | v :: vs => rsl_none (rsl_wipe q vs) v
theorem wipe_in {σ : L2.St} : ∀ (vs : List Nat) (j : Nat), j ∈ vs → (wipe σ vs)[j]? = if j < σ.length then some none else none
  | v :: vs, j, hj => by
    show ((wipe σ vs).set v none)[j]? = _
    by_cases e : j = v
    · subst e
      by_cases hl : j < σ.length
      · rw [if_pos hl, List.getElem?_set_self (by rw [wipe_length]; exact hl)]
      · rw [if_neg hl, List.getElem?_eq_none (by rw [List.length_set, wipe_length]; omega)]
    · rw [List.getElem?_set_ne (Ne.symm e)]
      exact wipe_in vs j ((List.mem_cons.mp hj).resolve_left e)
theorem wipe_out {σ : L2.St} : ∀ (vs : List Nat) (j : Nat), j ∉ vs → (wipe σ vs)[j]? = σ[j]?
  | [], j, _ => rfl
  | v :: vs, j, hj => by
    show ((wipe σ vs).set v none)[j]? = _
    rw [List.getElem?_set_ne (fun e => hj (by rw [e]; exact List.mem_cons_self))]
    exact wipe_out vs j fun z => hj (List.mem_cons_of_mem _ z)
theorem wipe_eq {σ σ2 : L2.St} {is vs : List Nat} (o : Only1 is (wipe σ vs) σ2) (hs : ∀ j ∈ is, j ∈ vs) : wipe σ2 vs = wipe σ vs := by
  apply List.ext_getElem?
  intro j
  have hl : σ2.length = σ.length := o.1.trans (wipe_length σ vs)
  by_cases hj : j ∈ vs
  · rw [wipe_in vs j hj, wipe_in vs j hj, hl]
  · rw [wipe_out vs j hj, o.2 j fun z => hj (hs j z)]
def compC (g : FG) (tt : FT) (te : FE) (slw : Sl) : List D → List O → Option (List D × List O)
  | [], h => some ([], h)
  | d :: ds, h => (g d slw).bind fun sl1 => (tt sl1 h).bind fun p => if p.1 = true then (te sl1 p.2).bind fun q => (compC g tt te slw ds q.2).bind fun z => some (q.1 :: z.1, z.2) else compC g tt te slw ds p.2
def m_lc (mi : FA) (g : FG) (tt : FT) (te : FE) (vs : List Nat) : FE := fun sl h => (mi sl h).bind fun p => (compC g tt te (wipeD sl vs) p.1 p.2).bind fun z => if szOk z.1.length then some (.fl z.1, z.2) else none
def t_yes : FT := fun _ h => some (true, h)
theorem ft_nil {X : Cx} {Av : Addr → Prop} : PTs X [] (tFT X.K Av t_yes) := ⟨fun pins s σ H Q I q => pts_nil.run pins s σ H Q I (by
  obtain ⟨r, sl, h, b, h', R, S, e, k⟩ := q
  cases e
  exact k r H (Ext.refl _ _) R)⟩
theorem ft_one {X : Cx} {Av : Addr → Prop} {c : Expr} {t : FT} (h : PT X c (tFT X.K Av t)) : PTs X [c] (tFT X.K Av t) := pts_one h
def exE (K : PySem.W.Frag) (m : FE) : TE := fun σ H Q => ∃ Av, tF K Av m σ H Q
def exT (K : PySem.W.Frag) (m : FT) : TT := fun σ H Q => ∃ Av, tFT K Av m σ H Q
def exG (K : PySem.W.Frag) (is : List Nat) (g : FG) : TG := fun v σ H Q => ∃ Av, tFG K Av is g v σ H Q
theorem pe_ex {X : Cx} {e : Expr} {m : FE} (h : ∀ Av, PE X e (tF X.K Av m)) : PE X e (exE X.K m) := ⟨fun pins s σ H Q I ⟨Av, q⟩ => (h Av).run pins s σ H Q I q⟩
theorem pts_ex {X : Cx} {e : List Expr} {m : FT} (h : ∀ Av, PTs X e (tFT X.K Av m)) : PTs X e (exT X.K m) := ⟨fun pins s σ H Q I ⟨Av, q⟩ => (h Av).run pins s σ H Q I q⟩
theorem pg_ex {X : Cx} {e : Expr} {is : List Nat} {m : FG} (h : ∀ Av, PG X e (tFG X.K Av is m)) : PG X e (exG X.K is m) := ⟨fun pins s σ H v u Q I r ⟨Av, q⟩ => (h Av).run pins s σ H v u Q I r q⟩
section
variable {K : PySem.W.Frag} {Av : Addr → Prop} {mi : FA} {g : FG} {tt : FT} {te : FE} {vs is : List Nat}
theorem lc_go (hs : ∀ j ∈ is, j ∈ vs) {σ : L2.St} {H : Hp} {Q : VK} (q : tF K Av (m_lc mi g tt te vs) σ H Q) : tLc (tFI K Av mi) (exG K is g) (exT K tt) (exE K te) vs σ H Q := by
  obtain ⟨r, sl, h, d, hz, R, S, e, k⟩ := q
  obtain ⟨⟨ds, h1⟩, e1, e⟩ := Option.bind_eq_some_iff.mp e
  obtain ⟨⟨tot, h2⟩, e2, e⟩ := Option.bind_eq_some_iff.mp e
  dsimp only at e e2
  split at e
  · rename_i hsz
    cases e
    refine ⟨r, sl, h, ds, h1, R, S, e1, fun r1 H1 J ok x1 R1 so o1 D0 hD => ?_⟩
    have S1 := S.mono R x1
    let Av' := AvD Av D0
    have base : ∀ (i : Nat) (H : Hp) (r : Rho) (h : List O) (acc rest : List D) (va : List V), Rep K Av' r h H → RSl K (Tr Av' r) H r sl σ → ok Av' r H → H D0 = some (.lst va) → RDs K (Tr Av' r) H r acc va → Ext r1 H1 r H → compC g tt te (wipeD sl vs) (ds.drop i) h = some (rest, hz) → acc ++ rest = tot → True := fun _ _ _ _ _ _ _ _ _ _ _ _ _ _ _ => trivial
    refine ⟨fun i m H => ∃ r h acc rest va, i ≤ ds.length ∧ m = ds.length - i ∧ Rep K Av' r h H ∧ RSl K (Tr Av' r) H r sl σ ∧ ok Av' r H ∧ H D0 = some (.lst va) ∧ RDs K (Tr Av' r) H r acc va ∧ Ext r1 H1 r H ∧ compC g tt te (wipeD sl vs) (ds.drop i) h = some (rest, hz) ∧ acc ++ rest = tot,
      ⟨ds.length, r1, h1, [], tot, [], Nat.zero_le _, rfl, R1.grow hD, S1.gen (lean_grow hD), so.grow Av r1 H1 D0 _ hD o1, upd_same, .nil, Ext.new1 hD, by rw [List.drop_zero]; exact e2, rfl⟩, ?_⟩
    rintro i m H2 ⟨r2, h2, acc, rest, va, hi2, em, R2, S2, o2, hD2, qa, x2, e2, et⟩
    have hA : Av' D0 := .inr rfl
    have nD : ∀ {r : Rho} {h : List O} {H : Hp}, Rep K Av' r h H → ¬ In r D0 := fun R i => R.nav D0 i hA
    rcases Nat.lt_or_ge i ds.length with hl | hl
    · have hd : ds[i]? = some ds[i] := List.getElem?_eq_getElem hl
      obtain ⟨hgo, hy⟩ := so.go Av' r2 h2 H2 i ds[i] hd R2 o2
      refine .inr ⟨hgo, fun H' => ∃ r h acc rest va, i + 1 ≤ ds.length ∧ Rep K Av' r h H' ∧ RSl K (Tr Av' r) H' r sl σ ∧ ok Av' r H' ∧ H' D0 = some (.lst va) ∧ RDs K (Tr Av' r) H' r acc va ∧ Ext r1 H1 r H' ∧ compC g tt te (wipeD sl vs) (ds.drop (i + 1)) h = some (rest, hz) ∧ acc ++ rest = tot,
        fun H' ⟨r, h, acc, rest, va, l, a1, a2, a3, a4, a5, a6, a7, a8⟩ => ⟨ds.length - (i + 1), by omega, r, h, acc, rest, va, l, rfl, a1, a2, a3, a4, a5, a6, a7, a8⟩, fun x H3 yx => ?_⟩
      obtain ⟨x3, R3, q3⟩ := hy x H3 yx
      rw [List.drop_eq_getElem_cons hl] at e2
      unfold compC at e2
      obtain ⟨sl4, e4, e2⟩ := Option.bind_eq_some_iff.mp e2
      obtain ⟨⟨b5, h5⟩, e5, e2⟩ := Option.bind_eq_some_iff.mp e2
      have S3 := S2.mono R2 x3
      refine ⟨Av', r2, wipeD sl vs, h2, ds[i], sl4, R3, rsl_wipe S3 vs, q3, e4, fun σ4 S4 on4 => ⟨wipe_eq on4 hs, Av', ?_⟩⟩
      refine tFT_go R3 S4 e5 fun r5 H5 x5 R5 S5 => ?_
      have x35 := x3.trans x5
      dsimp only at e2
      cases b5 with
      | true =>
        obtain ⟨⟨d6, h6⟩, e6, e2⟩ := Option.bind_eq_some_iff.mp (show (te sl4 h5).bind _ = some (rest, hz) from e2)
        obtain ⟨⟨rest7, h7⟩, e7, e2⟩ := Option.bind_eq_some_iff.mp e2
        cases e2
        refine ⟨Av', tF_go R5 S5 e6 fun r6 v6 H6 x6 R6 S6 q6 => ?_⟩
        have x26 := x35.trans x6
        have hD6 : H6 D0 = some (.lst va) := x26.keep D0 _ hD2 (nD R2)
        refine ⟨va, hD6, ?_, r6, h6, acc ++ [d6], rest7, va ++ [v6], hl, R6.av hA hD6, (S2.mono R2 x26).gen (lean_av hA hD6), ?_, upd_same, ?_, ?_, e7, by rw [← et]; simp⟩
        · rw [← qa.length]
          refine szOk_lt (n := acc.length) ?_
          have hz2 : tot.length ≤ 100000 := of_decide_eq_true hsz
          rw [← et] at hz2
          exact decide_eq_true (by simp at hz2; omega)
        · exact so.mono Av' r6 r6 H6 _ (lean_av hA hD6) (so.mono Av' r2 r6 H2 H6 (lean_ext R2 x26) o2)
        · exact (RDs.gen (lean_av hA hD6) _ _ (RDs.mono R2 x26 _ _ qa)).append (.cons (RD.gen (lean_av hA hD6) _ _ q6) .nil)
        · have y := x2.trans x26
          exact ⟨y.len, y.pre, y.new, fun a o ea n => by rw [upd_ne (ne_of_none ea hD)]; exact y.keep a o ea n, fun a o ea => by rw [upd_ne (ne_of_none ea hD)]; exact y.stay a o ea⟩
      | false =>
        have e2' : compC g tt te (wipeD sl vs) (ds.drop (i + 1)) h5 = some (rest, hz) := e2
        exact ⟨r5, h5, acc, rest, va, hl, R5, S2.mono R2 x35, so.mono Av' r2 r5 H2 H5 (lean_ext R2 x35) o2, x35.keep D0 _ hD2 (nD R2), RDs.mono R2 x35 _ _ qa, x2.trans x35, e2', et⟩
    · have ei : i = ds.length := Nat.le_antisymm hi2 hl
      rw [ei, List.drop_length] at e2
      cases e2
      rw [List.append_nil] at et
      have so2 := so.stop Av' r2 _ H2 R2 o2
      rw [← ei] at so2
      have li : ∀ a, Av a → Av' a := fun a z => .inl z
      refine .inl ⟨so2, k r2 _ H2 (x1.trans x2) (R2.less li) (.fl hD2 ?_ (by rw [← et]; exact RDs.gen (lean_less li) _ _ qa))⟩
      intro t
      rcases t with t | t
      · obtain ⟨o, z⟩ := R1.dom _ t
        rw [hD] at z
        cases z
      · exact nD R2 t
  · cases e
end
section
variable {X : Cx} {Av : Addr → Prop} {elt tg iter : Expr} {ifs : List Expr} {scope : Scope} {own : List (Str × Nat)} {pos spos py : Pos} {mi : FA} {g : FG} {tt : FT} {te : FE} {is : List Nat} {i : Nat} {y : Str}
theorem fe_lc (hc : X.calm = true) (hN : X.N.Nodup) (hi : PI X tg iter (tFI X.K Av mi)) (ok : BlkOk X.N X.env.scope scope own)
    (hg : ∀ (Av : Addr → Prop) (s : Shared) (H : Hp) (C : Addr) (cl : List (Str × Addr)) (fp : List Addr), PG (X.blk s H scope (compEnvC scope cl C X.env) fp) tg (tFG X.K Av is g)) (ht : ∀ (Av : Addr → Prop) (s : Shared) (H : Hp) (C : Addr) (cl : List (Str × Addr)) (fp : List Addr), PTs (X.blk s H scope (compEnvC scope cl C X.env) fp) ifs (tFT X.K Av tt))
    (he : ∀ (Av : Addr → Prop) (s : Shared) (H : Hp) (C : Addr) (cl : List (Str × Addr)) (fp : List Addr), PE (X.blk s H scope (compEnvC scope cl C X.env) fp) elt (tF X.K Av te)) (hj : ∀ j ∈ is, j ∈ own.map (·.2) := by decide) (hs : ∀ x, foldedSetIterable iter X.env x = pure x := by intro _; rfl) :
    PE X (.ListComp elt [⟨tg, iter, ifs, 0⟩] scope pos) (tF X.K Av (m_lc mi g tt te (own.map (·.2)))) :=
  PE.imp (pe_lc hc hN hi ok (fun s H C cl fp => pg_ex (fun Av => hg Av s H C cl fp)) (fun s H C cl fp => pts_ex (fun Av => ht Av s H C cl fp)) (fun s H C cl fp => pe_ex (fun Av => he Av s H C cl fp)) hs) fun _ _ _ q => lc_go hj q
theorem fs_setLc (hc : X.calm = true) (hN : X.N.Nodup) (hy : X.N[i]? = some y) (hyl : X.env.scope.names.lookup y = some .local)
    (hsw : swapsWith (.ListComp elt [⟨tg, iter, ifs, 0⟩] scope pos) (some (.Name y py)) spos.line X.env = pure true) (hi : PI X tg iter (tFI X.K Av mi)) (ok : BlkOk X.N X.env.scope scope own)
    (hg : ∀ (Av : Addr → Prop) (s : Shared) (H : Hp) (C : Addr) (cl : List (Str × Addr)) (fp : List Addr), PG (X.blk s H scope (compEnvC scope cl C X.env) fp) tg (tFG X.K Av is g)) (ht : ∀ (Av : Addr → Prop) (s : Shared) (H : Hp) (C : Addr) (cl : List (Str × Addr)) (fp : List Addr), PTs (X.blk s H scope (compEnvC scope cl C X.env) fp) ifs (tFT X.K Av tt))
    (he : ∀ (Av : Addr → Prop) (s : Shared) (H : Hp) (C : Addr) (cl : List (Str × Addr)) (fp : List Addr), PE (X.blk s H scope (compEnvC scope cl C X.env) fp) elt (tF X.K Av te)) (hj : ∀ j ∈ is, j ∈ own.map (·.2) := by decide) (hs : ∀ x, foldedSetIterable iter X.env x = pure x := by intro _; rfl) :
    PS X (.Assign [.Name y py] (.ListComp elt [⟨tg, iter, ifs, 0⟩] scope pos) spos) (tFS X.K Av (s_set i (m_lc mi g tt te (own.map (·.2))))) :=
  PS.imp (ps_setLc hc hN hy hyl hsw hi ok (fun s H C cl fp => pg_ex (fun Av => hg Av s H C cl fp)) (fun s H C cl fp => pts_ex (fun Av => ht Av s H C cl fp)) (fun s H C cl fp => pe_ex (fun Av => he Av s H C cl fp)) hs) fun Dn σ H q => by
    obtain ⟨r, sl, h, f, sl', h', R, S, e, k⟩ := q
    obtain ⟨⟨d1, h1⟩, e1, e⟩ := Option.bind_eq_some_iff.mp e
    cases e
    exact lc_go hj (tF_go R S e1 fun r1 v H1 x1 R1 S1 q1 => k r1 _ H1 x1 R1 (S1.set i q1))
end
end HF
set_option Elab.async false
set_option linter.all false
set_option maxRecDepth 100000
set_option maxHeartbeats 1000000
namespace HF
open PySem PySem.Spec PyProof.Rows L2
/-! ### data for == and in -/
def toPs (f : D → Option PyData) : List D → Option (List PyData)
  | [] => some []
  | x :: xs => (f x).bind fun y => (toPs f xs).bind fun ys => some (y :: ys)
def toP (h : List O) : Nat → D → Option PyData
  | 0, _ => none
  | _ + 1, .non => some .none
  | _ + 1, .bl b => some (.bool b)
  | _ + 1, .int i => some (.int i)
  | _ + 1, .str s => if PyData.strOk s then some (.str s) else none
  | n + 1, .tup xs => (toPs (toP h n) xs).bind fun ys => some (.tuple ys)
  | n + 1, .fl xs => (toPs (toP h n) xs).bind fun ys => some (.list ys)
  | n + 1, .fz xs => (toPs (toP h n) xs).bind fun ys => some (.list ys)
  | n + 1, .loc i => match h[i]? with
    | some (.lst xs) => (toPs (toP h n) xs).bind fun ys => some (.list ys)
    | _ => none
  | _ + 1, _ => none
section
variable {K : PySem.W.Frag} {Av : Addr → Prop} {H : Hp} {r : Rho} {h : List O}
theorem toPs_ok {f : D → Option PyData} {n : Nat} (hf : ∀ d p v, f d = some p → RD K (Tr Av r) H r d v → Dp K H v p ∧ p.canLay0 = true ∧ p.depth ≤ n) : ∀ (ds : List D) (ps : List PyData) (vs : List V), toPs f ds = some ps → RDs K (Tr Av r) H r ds vs → DpAll K H vs ps ∧ PyData.canLayAll0 ps = true ∧ PyData.depthAll ps ≤ n
  | [], _, _, e, .nil => by cases e; exact ⟨.nil, rfl, Nat.zero_le _⟩
  | d :: ds, _, _, e, .cons q qs => by
    obtain ⟨y, e1, e⟩ := Option.bind_eq_some_iff.mp e
    obtain ⟨ys, e2, e⟩ := Option.bind_eq_some_iff.mp e
    cases e
    obtain ⟨a1, a2, a3⟩ := hf _ _ _ e1 q
    obtain ⟨b1, b2, b3⟩ := toPs_ok hf ds ys _ e2 qs
    exact ⟨.cons a1 b1, by simp [PyData.canLayAll0, a2, b2], by simp [PyData.depthAll]; omega⟩
theorem toP_ok (R : Rep K Av r h H) : ∀ (n : Nat) (d : D) (p : PyData) (v : V), toP h n d = some p → RD K (Tr Av r) H r d v → Dp K H v p ∧ p.canLay0 = true ∧ p.depth ≤ n
  | 0, _, _, _, e, _ => by cases e
  | n + 1, d, p, v, e, q => by
    have ih := toPs_ok (K := K) (Av := Av) (H := H) (r := r) (f := toP h n) (n := n) (toP_ok R n)
    cases d with
    | non => cases e; cases q; exact ⟨.non, rfl, Nat.zero_le _⟩
    | bl b => cases e; cases q; exact ⟨.bl b, rfl, Nat.zero_le _⟩
    | int b => cases e; cases q; exact ⟨.int b, rfl, Nat.zero_le _⟩
    | str s =>
      unfold toP at e
      split at e
      · rename_i hs
        cases e
        cases q
        exact ⟨.str s, by simpa [PyData.canLay0] using hs, Nat.zero_le _⟩
      · cases e
    | tup xs =>
      obtain ⟨ys, e1, e⟩ := Option.bind_eq_some_iff.mp (show (toPs (toP h n) xs).bind (fun ys => some (PyData.tuple ys)) = some p from e)
      cases e
      cases q with
      | tup z qs =>
        obtain ⟨b1, b2, b3⟩ := ih _ _ _ e1 qs
        exact ⟨.tup (SqT.of z) b1, by simpa [PyData.canLay0] using b2, by simp [PyData.depth]; omega⟩
    | fl xs =>
      obtain ⟨ys, e1, e⟩ := Option.bind_eq_some_iff.mp (show (toPs (toP h n) xs).bind (fun ys => some (PyData.list ys)) = some p from e)
      cases e
      cases q with
      | fl z nt qs =>
        obtain ⟨b1, b2, b3⟩ := ih _ _ _ e1 qs
        exact ⟨.lst (SqL.of z) b1, by simpa [PyData.canLay0] using b2, by simp [PyData.depth]; omega⟩
    | fz xs =>
      obtain ⟨ys, e1, e⟩ := Option.bind_eq_some_iff.mp (show (toPs (toP h n) xs).bind (fun ys => some (PyData.list ys)) = some p from e)
      cases e
      cases q with
      | fz z nt qs =>
        obtain ⟨b1, b2, b3⟩ := ih _ _ _ e1 qs
        exact ⟨.lst (.inl z) b1, by simpa [PyData.canLay0] using b2, by simp [PyData.depth]; omega⟩
    | loc i =>
      unfold toP at e
      split at e
      · rename_i xs hi
        obtain ⟨a, u, ha, hv, hu, vs, eu, qs⟩ := R.at_ q hi (by intro z; cases z)
        subst eu hv
        obtain ⟨ys, e1, e⟩ := Option.bind_eq_some_iff.mp e
        cases e
        obtain ⟨b1, b2, b3⟩ := ih _ _ _ e1 qs
        exact ⟨.lst (SqL.of hu) b1, by simpa [PyData.canLay0] using b2, by simp [PyData.depth]; omega⟩
      · cases e
    | kt xs => cases e
    | kl xs => cases e
    | ob a b c => cases e
    | dk a b => cases e
    | dt a b => cases e
end
theorem shaped_of {p : PyData} {n : Nat} (h1 : p.canLay0 = true) (h2 : p.depth ≤ n) (h : n ≤ 64) : SeqAt.shaped p = true := Bool.and_eq_true_iff.mpr ⟨h1, decide_eq_true (Nat.le_trans h2 h)⟩
/-! ### the operators' meanings -/
theorem opF_pure {K : PySem.W.Frag} {Av : Addr → Prop} {f : F2} {rr : R2} (hh : ∀ (r : Rho) (h h' : List O) (H : Hp) (x y d : D) (vx vy : V) (Q : VK), Rep K Av r h H → RD K (Tr Av r) H r x vx → RD K (Tr Av r) H r y vy → f x y h = some (d, h') → h' = h ∧ ∃ v, (∀ T H r, RD K T H r d v) ∧ (Q v H → rr vx vy H Q)) : OpF K Av f rr :=
  fun r h h' H x y d vx vy Q R q1 q2 e k => by
    obtain ⟨e1, v, hv, hq⟩ := hh r h h' H x y d vx vy Q R q1 q2 e
    subst e1
    exact hq (k r v H (Ext.refl _ _) R (hv _ _ _))
def f_eq : F2 := fun x y h => (toP h 12 x).bind fun p => (toP h 12 y).bind fun q => some (.bl (PyData.eqv p q), h)
def f_ne : F2 := fun x y h => (toP h 12 x).bind fun p => (toP h 12 y).bind fun q => some (.bl (!PyData.eqv p q), h)
def ii (f : Int → Int → D) : F2 := fun x y h => match x, y with
  | .int i, .int j => some (f i j, h)
  | _, _ => none
def f_lt : F2 := ii fun i j => .bl (decide (i < j))
def f_le : F2 := ii fun i j => .bl (decide (i ≤ j))
def f_gt : F2 := ii fun i j => .bl (decide (j < i))
def f_ge : F2 := ii fun i j => .bl (decide (j ≤ i))
def f_sub : F2 := ii fun i j => .int (i - j)
def f_add : F2 := fun x y h => match x, y with
  | .int i, .int j => some (.int (i + j), h)
  | .str a, .str b => if szOk (a.length + b.length) then some (.str (a ++ b), h) else none
  | .fl xs, .fl ys => if szOk (xs.length + ys.length) then some (.fl (xs ++ ys), h) else none
  | .tup xs, .tup ys => if xs.isEmpty then none else if szOk (xs.length + ys.length) then some (.tup (xs ++ ys), h) else none
  | _, _ => none
def f_mul : F2 := fun x y h => match x, y with
  | .int i, .int j => if (decide (-(2 ^ 64) < i) && decide (i < 2 ^ 64)) || (decide (-(2 ^ 64) < j) && decide (j < 2 ^ 64)) then some (.int (i * j), h) else none
  | .fl xs, .int k => if (decide (-(2 ^ 63) ≤ k) && decide (k < 2 ^ 63)) && szOk (xs.length * k.toNat) then some (.fl (List.replicate k.toNat xs).flatten, h) else none
  | _, _ => none
def f_mod : F2 := fun x y h => match x, y with
  | .int i, .int j => if decide (0 < j) then some (.int (i % j), h) else none
  | _, _ => none
def f_fdiv : F2 := fun x y h => match x, y with
  | .int i, .int j => if decide (0 < j) && decide (j < 1073741824) then some (.int (i / j), h) else none
  | _, _ => none
def f_pow : F2 := fun x y h => match x, y with
  | .int i, .int j => if decide (0 ≤ j) && (decide (j ≤ 1000000) && decide (i.natAbs < 2 ^ 64)) then some (.int (i ^ j.toNat), h) else none
  | _, _ => none
def f_is : F2 := fun x y h => match y with
  | .non => some (.bl (match x with | .non => true | .loc _ => false | _ => false), h)
  | _ => none
def f_isnt : F2 := fun x y h => match y with
  | .non => some (.bl (match x with | .non => false | .loc _ => true | _ => true), h)
  | _ => none
def f_inL : F2 := fun x y h => (toP h 12 x).bind fun p => (toP h 12 y).bind fun q => match q with
  | .list ps => some (.bl (ps.any fun z => PyData.eqv z p), h)
  | _ => none
def f_ninL : F2 := fun x y h => (toP h 12 x).bind fun p => (toP h 12 y).bind fun q => match q with
  | .list ps => some (.bl (!ps.any fun z => PyData.eqv z p), h)
  | _ => none
def f_inS : F2 := fun x y h => match x, y with
  | .str a, .str z => (match a.cps.toList with
    | [c] => some (.bl (decide (c ∈ z.cps.toList)), h)
    | _ => none)
  | _, _ => none
def f_ninS : F2 := fun x y h => match x, y with
  | .str a, .str z => (match a.cps.toList with
    | [c] => some (.bl (!decide (c ∈ z.cps.toList)), h)
    | _ => none)
  | _, _ => none
def allStr : List D → Option (List Str)
  | [] => some []
  | .str s :: ds => (allStr ds).bind fun ss => some (s :: ss)
  | _ => none
def f_inT : F2 := fun x y h => match x with
  | .str a => (asQ h y).bind fun ds => (allStr ds).bind fun ss => some (.bl (ss.any fun z => z == a), h)
  | _ => none
def f_ninT : F2 := fun x y h => match x with
  | .str a => (asQ h y).bind fun ds => (allStr ds).bind fun ss => some (.bl (!ss.any fun z => z == a), h)
  | _ => none
section
variable {X : Cx} {Av : Addr → Prop}
theorem of_eq : OpF X.K Av f_eq (rEqD X.K) := opF_pure fun r h h' H x y d vx vy Q R q1 q2 e => by
  obtain ⟨p, e1, e⟩ := Option.bind_eq_some_iff.mp e
  obtain ⟨q, e2, e⟩ := Option.bind_eq_some_iff.mp e
  cases e
  obtain ⟨a1, a2, a3⟩ := toP_ok R 12 _ _ _ e1 q1
  obtain ⟨b1, b2, b3⟩ := toP_ok R 12 _ _ _ e2 q2
  exact ⟨rfl, .bl _, fun _ _ _ => .bl _, fun k => ⟨p, q, a1, b1, shaped_of a2 a3 (by decide), shaped_of b2 b3 (by decide), k⟩⟩
theorem of_ne : OpF X.K Av f_ne (rNeD X.K) := opF_pure fun r h h' H x y d vx vy Q R q1 q2 e => by
  obtain ⟨p, e1, e⟩ := Option.bind_eq_some_iff.mp e
  obtain ⟨q, e2, e⟩ := Option.bind_eq_some_iff.mp e
  cases e
  obtain ⟨a1, a2, a3⟩ := toP_ok R 12 _ _ _ e1 q1
  obtain ⟨b1, b2, b3⟩ := toP_ok R 12 _ _ _ e2 q2
  exact ⟨rfl, .bl _, fun _ _ _ => .bl _, fun k => ⟨p, q, a1, b1, shaped_of a2 a3 (by decide), shaped_of b2 b3 (by decide), k⟩⟩
theorem of_inL : OpF X.K Av f_inL (rInD X.K) := opF_pure fun r h h' H x y d vx vy Q R q1 q2 e => by
  obtain ⟨p, e1, e⟩ := Option.bind_eq_some_iff.mp e
  obtain ⟨q, e2, e⟩ := Option.bind_eq_some_iff.mp e
  split at e
  · cases e
    obtain ⟨a1, a2, a3⟩ := toP_ok R 12 _ _ _ e1 q1
    obtain ⟨b1, b2, b3⟩ := toP_ok R 12 _ _ _ e2 q2
    exact ⟨rfl, .bl _, fun _ _ _ => .bl _, fun k => ⟨p, _, a1, b1, shaped_of a2 a3 (by decide), shaped_of b2 b3 (by decide), k⟩⟩
  · cases e
theorem of_ninL : OpF X.K Av f_ninL (rNotInD X.K) := opF_pure fun r h h' H x y d vx vy Q R q1 q2 e => by
  obtain ⟨p, e1, e⟩ := Option.bind_eq_some_iff.mp e
  obtain ⟨q, e2, e⟩ := Option.bind_eq_some_iff.mp e
  split at e
  · cases e
    obtain ⟨a1, a2, a3⟩ := toP_ok R 12 _ _ _ e1 q1
    obtain ⟨b1, b2, b3⟩ := toP_ok R 12 _ _ _ e2 q2
    exact ⟨rfl, .bl _, fun _ _ _ => .bl _, fun k => ⟨p, _, a1, b1, shaped_of a2 a3 (by decide), shaped_of b2 b3 (by decide), k⟩⟩
  · cases e
theorem ii_some {f : Int → Int → D} {x y d : D} {h h' : List O} (e : ii f x y h = some (d, h')) : ∃ i j, x = .int i ∧ y = .int j ∧ d = f i j ∧ h' = h := by
  unfold ii at e
  split at e
  · cases e
    exact ⟨_, _, rfl, rfl, rfl, rfl⟩
  · cases e
theorem of_cmp {g : Int → Int → Bool} : OpF X.K Av (ii fun i j => .bl (g i j)) (rI0 fun i j => .bl (g i j)) := opF_pure fun r h h' H x y d vx vy Q R q1 q2 e => by
  obtain ⟨i, j, rfl, rfl, rfl, rfl⟩ := ii_some e
  cases q1
  cases q2
  exact ⟨rfl, _, fun _ _ _ => .bl _, fun k => ⟨i, j, rfl, rfl, k⟩⟩
theorem of_lt : OpF X.K Av f_lt (rI0 fun i j => .bl (decide (i < j))) := of_cmp
theorem of_le : OpF X.K Av f_le (rI0 fun i j => .bl (decide (i ≤ j))) := of_cmp
theorem of_gt : OpF X.K Av f_gt (rI0 fun i j => .bl (decide (j < i))) := of_cmp
theorem of_ge : OpF X.K Av f_ge (rI0 fun i j => .bl (decide (j ≤ i))) := of_cmp
theorem of_sub : OpF X.K Av f_sub (rI0 fun i j => .int (i - j)) := opF_pure fun r h h' H x y d vx vy Q R q1 q2 e => by
  obtain ⟨i, j, rfl, rfl, rfl, rfl⟩ := ii_some e
  cases q1
  cases q2
  exact ⟨rfl, _, fun _ _ _ => .int _, fun k => ⟨i, j, rfl, rfl, k⟩⟩
theorem of_mod : OpF X.K Av f_mod (rI (fun _ j => 0 < j) fun i j => .int (i % j)) := opF_pure fun r h h' H x y d vx vy Q R q1 q2 e => by
  unfold f_mod at e
  split at e
  · split at e
    · rename_i hj
      cases e
      cases q1
      cases q2
      exact ⟨rfl, _, fun _ _ _ => .int _, fun k => ⟨_, _, rfl, rfl, of_decide_eq_true hj, k⟩⟩
    · cases e
  · cases e
theorem of_fdiv : OpF X.K Av f_fdiv (rI CDiv fun i j => .int (i / j)) := opF_pure fun r h h' H x y d vx vy Q R q1 q2 e => by
  unfold f_fdiv at e
  split at e
  · split at e
    · rename_i hj
      have hj := Bool.and_eq_true_iff.mp hj
      cases e
      cases q1
      cases q2
      exact ⟨rfl, _, fun _ _ _ => .int _, fun k => ⟨_, _, rfl, rfl, ⟨of_decide_eq_true hj.1, of_decide_eq_true hj.2⟩, k⟩⟩
    · cases e
  · cases e
theorem of_pow : OpF X.K Av f_pow (rI CPow fun i j => .int (i ^ j.toNat)) := opF_pure fun r h h' H x y d vx vy Q R q1 q2 e => by
  unfold f_pow at e
  split at e
  · split at e
    · rename_i hj
      have hj := Bool.and_eq_true_iff.mp hj
      have hk := Bool.and_eq_true_iff.mp hj.2
      cases e
      cases q1
      cases q2
      exact ⟨rfl, _, fun _ _ _ => .int _, fun k => ⟨_, _, rfl, rfl, ⟨of_decide_eq_true hj.1, of_decide_eq_true hk.1, of_decide_eq_true hk.2⟩, k⟩⟩
    · cases e
  · cases e
def rAddA (K : PySem.W.Frag) : R2 := fun x y H Q => (∃ i j, x = .int i ∧ y = .int j ∧ Q (.int (i + j)) H) ∨ (∃ i j, x = .str i ∧ y = .str j ∧ i.length + j.length ≤ sizeLine ∧ Q (.str (i ++ j)) H) ∨ rCat x y H Q ∨ rCatT K x y H Q
theorem op_addA : OpR X (binaryOp .Add) (rAddA X.K) := by
  have h1 := (op_add (X := X)).or (op_add_str.or ((op_cat (X := X)).or op_catT))
  intro pins s σ H x y v u Q I rx ry h
  exact h1 pins s σ H x y v u Q I rx ry h
theorem of_add : OpF X.K Av f_add (rAddA X.K) := fun r h h' H x y d vx vy Q R q1 q2 e k => by
  unfold f_add at e
  split at e
  · cases e
    cases q1
    cases q2
    exact .inl ⟨_, _, rfl, rfl, k r _ H (Ext.refl _ _) R (.int _)⟩
  · split at e
    · rename_i hz
      cases e
      cases q1
      cases q2
      exact .inr (.inl ⟨_, _, rfl, rfl, szOk_le hz, k r _ H (Ext.refl _ _) R (.str _)⟩)
    · cases e
  · split at e
    · rename_i hz
      cases e
      cases q1 with
      | fl z1 n1 s1 =>
        cases q2 with
        | fl z2 n2 s2 =>
          refine .inr (.inr (.inl ⟨_, _, _, _, rfl, rfl, z1, z2, by rw [← s1.length, ← s2.length]; exact szOk_le hz, fun p hp => k r _ _ (Ext.new1 hp) (R.new1 hp) (rd_fl R hp (s1.append s2))⟩))
    · cases e
  · rename_i xs ys
    cases q1 with
    | tup z1 s1 =>
      cases q2 with
      | tup z2 s2 =>
        split at e
        · cases e
        · rename_i hx
          have lx := s1.length
          have ly := s2.length
          split at e
          · rename_i hz
            cases e
            refine .inr (.inr (.inr ⟨_, _, _, _, rfl, rfl, SqT.of z1, SqT.of z2, ?_, by rw [← lx, ← ly]; exact szOk_le hz, fun hy => ?_, fun hy p hp => ?_⟩))
            · intro z
              rw [z] at lx
              cases xs with
              | nil => exact hx rfl
              | cons _ _ => simp at lx
            · rw [hy] at ly
              have : ys = [] := List.eq_nil_of_length_eq_zero ly
              subst this
              rw [List.append_nil] at k
              exact k r _ H (Ext.refl _ _) R (.tup z1 s1)
            · exact k r _ _ (Ext.new1 hp) (R.new1 hp) (rd_tup R hp (s1.append s2))
          · cases e
  · cases e
end
end HF
set_option Elab.async false
set_option linter.all false
set_option maxRecDepth 100000
set_option maxHeartbeats 1000000
namespace HF
open PySem PySem.Spec PyProof.Rows L2
section
variable {X : Cx} {Av : Addr → Prop}
/-! ### more operators -/
def rMulA : R2 := fun x y H Q => rI CMul (fun i j => .int (i * j)) x y H Q ∨ rRep x y H Q
theorem op_mulA : OpR X (binaryOp .Mult) rMulA := by
  have h1 := (op_mul (X := X)).or (op_rep (X := X))
  intro pins s σ H x y v u Q I rx ry h
  exact h1 pins s σ H x y v u Q I rx ry h
theorem RDs.flat {K : PySem.W.Frag} {T : Addr → Prop} {H : Hp} {r : Rho} {ds : List D} {vs : List V} (q : RDs K T H r ds vs) : ∀ n : Nat, RDs K T H r (List.replicate n ds).flatten (List.replicate n vs).flatten
  | 0 => .nil
  | n + 1 => by
    rw [List.replicate_succ, List.replicate_succ, List.flatten_cons, List.flatten_cons]
    exact q.append (RDs.flat q n)
theorem of_mul : OpF X.K Av f_mul rMulA := fun r h h' H x y d vx vy Q R q1 q2 e k => by
  unfold f_mul at e
  split at e
  · split at e
    · rename_i hz
      cases e
      cases q1
      cases q2
      refine .inl ⟨_, _, rfl, rfl, ?_, k r _ H (Ext.refl _ _) R (.int _)⟩
      rcases Bool.or_eq_true_iff.mp hz with z | z
      · have z := Bool.and_eq_true_iff.mp z
        exact .inl ⟨of_decide_eq_true z.1, of_decide_eq_true z.2⟩
      · have z := Bool.and_eq_true_iff.mp z
        exact .inr ⟨of_decide_eq_true z.1, of_decide_eq_true z.2⟩
    · cases e
  · split at e
    · rename_i hz
      cases e
      have z := Bool.and_eq_true_iff.mp hz
      have z1 := Bool.and_eq_true_iff.mp z.1
      cases q1 with
      | fl z3 n3 s3 =>
        cases q2
        exact .inr ⟨_, _, _, rfl, rfl, z3, of_decide_eq_true z1.1, of_decide_eq_true z1.2, by rw [← s3.length]; exact szOk_le z.2, fun p hp => k r _ _ (Ext.new1 hp) (R.new1 hp) (rd_fl R hp (s3.flat _))⟩
    · cases e
  · cases e
theorem of_inS : OpF X.K Av f_inS (fun x y H Q => ∃ (c : Nat) (z : Str), x = .str ⟨#[c]⟩ ∧ y = .str z ∧ Q (.bl (decide (c ∈ z.cps.toList))) H) := opF_pure fun r h h' H x y d vx vy Q R q1 q2 e => by
  unfold f_inS at e
  split at e
  · rename_i a z
    split at e
    · rename_i c hc
      cases e
      cases q1
      cases q2
      refine ⟨rfl, _, fun _ _ _ => .bl _, fun k => ⟨c, z, ?_, rfl, k⟩⟩
      obtain ⟨cps⟩ := a
      have : cps = #[c] := by
        apply Array.ext'
        exact hc
      rw [this]
    · cases e
  · cases e
theorem of_ninS : OpF X.K Av f_ninS (fun x y H Q => ∃ (c : Nat) (z : Str), x = .str ⟨#[c]⟩ ∧ y = .str z ∧ Q (.bl (!decide (c ∈ z.cps.toList))) H) := opF_pure fun r h h' H x y d vx vy Q R q1 q2 e => by
  unfold f_ninS at e
  split at e
  · rename_i a z
    split at e
    · rename_i c hc
      cases e
      cases q1
      cases q2
      refine ⟨rfl, _, fun _ _ _ => .bl _, fun k => ⟨c, z, ?_, rfl, k⟩⟩
      obtain ⟨cps⟩ := a
      have : cps = #[c] := by
        apply Array.ext'
        exact hc
      rw [this]
    · cases e
  · cases e
theorem allStr_ok {K : PySem.W.Frag} {T : Addr → Prop} {H : Hp} {r : Rho} : ∀ {ds : List D} {ss : List Str} {vs : List V}, allStr ds = some ss → RDs K T H r ds vs → vs = ss.map V.str
  | [], _, _, e, .nil => by cases e; rfl
  | .str s :: ds, _, _, e, .cons q qs => by
    obtain ⟨ss, e1, e⟩ := Option.bind_eq_some_iff.mp e
    cases e
    cases q
    rw [allStr_ok e1 qs]
    rfl
  | .non :: _, _, _, e, _ => by cases e
  | .bl _ :: _, _, _, e, _ => by cases e
  | .int _ :: _, _, _, e, _ => by cases e
  | .tup _ :: _, _, _, e, _ => by cases e
  | .kt _ :: _, _, _, e, _ => by cases e
  | .kl _ :: _, _, _, e, _ => by cases e
  | .fl _ :: _, _, _, e, _ => by cases e
  | .fz _ :: _, _, _, e, _ => by cases e
  | .ob _ _ _ :: _, _, _, e, _ => by cases e
  | .dk _ _ :: _, _, _, e, _ => by cases e
  | .dt _ _ :: _, _, _, e, _ => by cases e
  | .loc _ :: _, _, _, e, _ => by cases e
theorem inV_str (a : Str) : ∀ ss : List Str, inV (.str a) (ss.map V.str) = ss.any fun z => z == a
  | [] => rfl
  | s :: ss => by
    have ih := inV_str a ss
    unfold inV at ih ⊢
    rw [List.map_cons, List.any_cons, List.any_cons, ih]
    rfl
theorem flat_str (ss : List Str) : (ss.map V.str).all flatV = true := by
  induction ss with
  | nil => rfl
  | cons s ss ih => rw [List.map_cons, List.all_cons, ih]; rfl
theorem of_inT : OpF X.K Av f_inT (rIn X.K false) := opF_pure fun r h h' H x y d vx vy Q R q1 q2 e => by
  unfold f_inT at e
  split at e
  · obtain ⟨ds, e0, e⟩ := Option.bind_eq_some_iff.mp e
    obtain ⟨ss, e1, e⟩ := Option.bind_eq_some_iff.mp e
    cases e
    cases q1
    obtain ⟨a, vs, ev, sq, qs⟩ := asQ_ok R q2 e0
    subst ev
    have := allStr_ok e1 qs
    subst this
    refine ⟨rfl, _, fun _ _ _ => .bl _, fun k => ⟨_, _, rfl, sq.symm, rfl, flat_str ss, ?_⟩⟩
    rw [inV_str]
    exact k
  · cases e
theorem of_ninT : OpF X.K Av f_ninT (rIn X.K true) := opF_pure fun r h h' H x y d vx vy Q R q1 q2 e => by
  unfold f_ninT at e
  split at e
  · obtain ⟨ds, e0, e⟩ := Option.bind_eq_some_iff.mp e
    obtain ⟨ss, e1, e⟩ := Option.bind_eq_some_iff.mp e
    cases e
    cases q1
    obtain ⟨a, vs, ev, sq, qs⟩ := asQ_ok R q2 e0
    subst ev
    have := allStr_ok e1 qs
    subst this
    refine ⟨rfl, _, fun _ _ _ => .bl _, fun k => ⟨_, _, rfl, sq.symm, rfl, flat_str ss, ?_⟩⟩
    rw [inV_str]
    exact k
  · cases e
def isN (h : List O) : D → Option Bool
  | .non => some true
  | .loc i => match h[i]? with
    | some .gone => none
    | some _ => some false
    | none => none
  | _ => some false
theorem isN_ok {K : PySem.W.Frag} {H : Hp} {r : Rho} {h : List O} {d : D} {v : V} {b : Bool} (R : Rep K Av r h H) (q : RD K (Tr Av r) H r d v) (e : isN h d = some b) : decide (v = .non) = b := by
  cases q with
  | loc l z =>
    unfold isN at e
    dsimp only at e
    split at e
    · cases e
    · rename_i o hng hi
      cases e
      obtain ⟨a, u, ha, hv, _⟩ := R.at_ (.loc l z) hi hng
      rw [hv]
      rfl
    · cases e
  | _ => cases e; rfl
def g_is : F2 := fun x y h => match y with
  | .non => (isN h x).bind fun b => some (.bl b, h)
  | _ => none
def g_isnt : F2 := fun x y h => match y with
  | .non => (isN h x).bind fun b => some (.bl (!b), h)
  | _ => none
theorem of_is : OpF X.K Av g_is (fun x y H Q => y = .non ∧ Q (.bl (decide (x = .non))) H) := opF_pure fun r h h' H x y d vx vy Q R q1 q2 e => by
  unfold g_is at e
  split at e
  · obtain ⟨b, e1, e⟩ := Option.bind_eq_some_iff.mp e
    cases e
    cases q2
    refine ⟨rfl, .bl b, fun _ _ _ => .bl _, fun k => ⟨rfl, ?_⟩⟩
    rw [isN_ok R q1 e1]
    exact k
  · cases e
theorem of_isnt : OpF X.K Av g_isnt (fun x y H Q => y = .non ∧ Q (.bl (!decide (x = .non))) H) := opF_pure fun r h h' H x y d vx vy Q R q1 q2 e => by
  unfold g_isnt at e
  split at e
  · obtain ⟨b, e1, e⟩ := Option.bind_eq_some_iff.mp e
    cases e
    cases q2
    refine ⟨rfl, .bl (!b), fun _ _ _ => .bl _, fun k => ⟨rfl, ?_⟩⟩
    rw [isN_ok R q1 e1]
    exact k
  · cases e
def m_chain (f g : F2) (ma mb mc : FE) : FE := fun sl h => (ma sl h).bind fun p => (mb sl p.2).bind fun q => (f p.1 q.1 q.2).bind fun z => match z.1 with
  | .bl true => (mc sl z.2).bind fun w => g q.1 w.1 w.2
  | .bl false => some (.bl false, z.2)
  | _ => none
variable {a b c e : Expr} {pos p : Pos} {ma mb mc m : FE} {ms : FA}
theorem fe_chain {op op' : CmpOp} {rf rg : R2} {f g : F2} (ho : OpR X (compareOp op) rf) (ho' : OpR X (compareOp op') rg) (hf : OpF X.K Av f rf) (hg : OpF X.K Av g rg) (ha : PE X a (tF X.K Av ma)) (hb : PE X b (tF X.K Av mb)) (hc : PE X c (tF X.K Av mc))
    (hm : lastMarks [op, op'] [b, c] = false := by with_unfolding_all rfl) : PE X (.Compare a [op, op'] [b, c] pos) (tF X.K Av (m_chain f g ma mb mc)) :=
  PE.imp (pe_chain ho ho' ha hb hc hm) fun σ H Q q => by
    obtain ⟨r, sl, h, d, h', R, S, e, k⟩ := q
    obtain ⟨⟨d1, h1⟩, e1, e⟩ := Option.bind_eq_some_iff.mp e
    obtain ⟨⟨d2, h2⟩, e2, e⟩ := Option.bind_eq_some_iff.mp e
    obtain ⟨⟨d3, h3⟩, e3, e⟩ := Option.bind_eq_some_iff.mp e
    refine tF_go R S e1 fun r1 v1 H1 x1 R1 S1 q1 => tF_go R1 S1 e2 fun r2 v2 H2 x2 R2 S2 q2 => ?_
    refine hf r2 h2 h3 H2 d1 d2 d3 v1 v2 _ R2 (RD.mono R1 x2 _ _ q1) q2 e3 fun r3 v3 H3 x3 R3 q3 => ?_
    dsimp only at e
    have x123 := (x1.trans x2).trans x3
    split at e
    · refine ⟨true, rd_bl q3, ?_⟩
      obtain ⟨⟨d4, h4⟩, e4, e⟩ := Option.bind_eq_some_iff.mp e
      rw [if_pos rfl]
      refine tF_go R3 (S2.mono R2 x3) e4 fun r4 v4 H4 x4 R4 S4 q4 => ?_
      exact hg r4 h4 h' H4 d2 d4 d v2 v4 Q R4 (RD.mono R3 x4 _ _ (RD.mono R2 x3 _ _ q2)) q4 e fun r5 v5 H5 x5 R5 q5 => k r5 v5 H5 ((x123.trans x4).trans x5) R5 q5
    · cases e
      refine ⟨false, rd_bl q3, ?_⟩
      rw [if_neg (by decide)]
      exact k r3 _ H3 x123 R3 (.bl false)
    · cases e
/-! ### calls of built-ins -/
def CallF (K : PySem.W.Frag) (Av : Addr → Prop) (f : List D → List O → Option (D × List O)) (rc : List V → Hp → VK → Prop) : Prop := ∀ (r : Rho) (h h' : List O) (H : Hp) (ds : List D) (d : D) (vs : List V) (Q : VK), Rep K Av r h H → RDs K (Tr Av r) H r ds vs →
  f ds h = some (d, h') → (∀ r' v H', Ext r H r' H' → Rep K Av r' h' H' → RD K (Tr Av r') H' r' d v → Q v H') → rc vs H Q
def m_b (f : List D → List O → Option (D × List O)) (ms : FA) : FE := fun sl h => (ms sl h).bind fun p => f p.1 p.2
variable {es : List Expr} {x : Str} {id T : String} {rc : List V → Hp → VK → Prop} {f : List D → List O → Option (D × List O)}
theorem b_go (hf : CallF X.K Av f rc) {σ : L2.St} {H : Hp} {Q : VK} (q : tF X.K Av (m_b f ms) σ H Q) : tCB rc (tFA X.K Av ms) σ H Q := by
  obtain ⟨r, sl, h, d, h', R, S, e, k⟩ := q
  obtain ⟨⟨ds, h1⟩, e1, e⟩ := Option.bind_eq_some_iff.mp e
  exact tFA_go R S e1 fun r1 vs H1 x1 R1 S1 q1 => hf r1 h1 h' H1 ds d vs Q R1 q1 e fun r2 v H2 x2 R2 q2 => k r2 v H2 (x1.trans x2) R2 q2
theorem fe_b (hc : CallR X (.builtin id) rc) (hf : CallF X.K Av f rc) (hg : Gl X x) (hm : X.mg x = none) (hv : bootBuiltins x = some (.builtin id)) (ha : PA X (e :: es) (tFA X.K Av ms)) (hn : x ≠ "__name__" := by decide) (hdb : (x == ("__debug__" : Str)) = false := by decide)
    (he : starEach (e :: es) X.env = (false, eval e X.env) :: starEach es X.env := by rfl) (hpl : (backTo pos (starEach es X.env)).any (·.1) = false := by rfl) : PE X (.Call (.Name x p) (e :: es) [] pos) (tF X.K Av (m_b f ms)) :=
  PE.imp (pe_callB hc hg hm hv ha hn hdb he hpl) fun _ _ _ => b_go hf
theorem fe_ty (hc : CallR X (.type T) rc) (hf : CallF X.K Av f rc) (hg : Gl X x) (hm : X.mg x = none) (hv : bootBuiltins x = some (.type T)) (ha : PA X (e :: es) (tFA X.K Av ms)) (hn : x ≠ "__name__" := by decide) (hdb : (x == ("__debug__" : Str)) = false := by decide)
    (he : starEach (e :: es) X.env = (false, eval e X.env) :: starEach es X.env := by rfl) (hpl : (backTo pos (starEach es X.env)).any (·.1) = false := by rfl) : PE X (.Call (.Name x p) (e :: es) [] pos) (tF X.K Av (m_b f ms)) :=
  PE.imp (pe_callTy hc hg hm hv ha hn hdb he hpl) fun _ _ _ => b_go hf
end
/-! isinstance -/
inductive Ki where
  | non | bl | int | str | lst | tup | dct
  deriving DecidableEq
def Ki.nm : Ki → String
  | .non => "NoneType" | .bl => "bool" | .int => "int" | .str => "str" | .lst => "list" | .tup => "tuple" | .dct => "dict"
def Ki.is : Ki → Ki → Bool
  | .bl, .int => true
  | a, b => decide (a = b)
theorem ki_is (a b : Ki) : kitB a.nm b.nm = some (Ki.is a b) := by
  cases a <;> cases b <;> decide +kernel
def kiOf (h : List O) : D → Option Ki
  | .non => some .non
  | .bl _ => some .bl
  | .int _ => some .int
  | .str _ => some .str
  | .tup _ => some .tup
  | .kt _ => some .tup
  | .fl _ => some .lst
  | .loc i => match h[i]? with
    | some (.lst _) => some .lst
    | some (.dk _ _) => some .dct
    | some (.dt _ _) => some .dct
    | _ => none
  | _ => none
theorem sqT_ty {K : PySem.W.Frag} {H : Hp} {a : Addr} {vs : List V} (z : SqT K H a vs) : TyX K H (.ref a) (.type "tuple") := by
  rcases z with (z | ⟨o, z⟩) | ⟨o, its, n, z, c, _⟩
  · exact .base (.tup z)
  · exact .fTuple z
  · exact .kTuple z c
theorem kiOf_ok {K : PySem.W.Frag} {Av : Addr → Prop} {H : Hp} {r : Rho} {h : List O} {d : D} {v : V} {k : Ki} (R : Rep K Av r h H) (q : RD K (Tr Av r) H r d v) (e : kiOf h d = some k) : TyX K H v (.type k.nm) := by
  cases q with
  | non => cases e; exact .base .non
  | bl b => cases e; exact .base (.bl b)
  | int b => cases e; exact .base (.int b)
  | str b => cases e; exact .base (.str b)
  | tup z qs => cases e; exact sqT_ty (SqT.of z)
  | kt z qs => cases e; exact sqT_ty z
  | kl z qs => cases e
  | fl z n qs => cases e; exact .base (.lst z)
  | fz z n qs => cases e
  | ob z n k qs => cases e
  | dk z n k qs => cases e
  | dt z n k qs => cases e
  | loc l z =>
    unfold kiOf at e
    dsimp only at e
    split at e
    · rename_i xs hi
      cases e
      obtain ⟨a, u, ha, hv, hu, vs, eu, _⟩ := R.at_ (.loc l z) hi (by intro z; cases z)
      subst eu hv
      exact .base (.lst hu)
    · rename_i ks xs hi
      cases e
      obtain ⟨a, u, ha, hv, hu, kvs, eu, _⟩ := R.at_ (.loc l z) hi (by intro z; cases z)
      subst eu hv
      exact .base (.dK hu)
    · rename_i ks xs hi
      cases e
      obtain ⟨a, u, ha, hv, hu, kvs, eu, _⟩ := R.at_ (.loc l z) hi (by intro z; cases z)
      subst eu hv
      exact .base (.dT hu)
    · cases e
def m_isT (k : Ki) (m : FE) : FE := fun sl h => (m sl h).bind fun p => (kiOf p.2 p.1).bind fun j => some (.bl (Ki.is j k), p.2)
section
variable {X : Cx} {Av : Addr → Prop} {e : Expr} {pos p p2 : Pos} {m : FE}
theorem fe_isT (k : Ki) {T : Str} (he : PE X e (tF X.K Av m)) (hi : X.mg "isinstance" = none) (hgi : Gl X "isinstance") (hT : X.mg T = none) (hgT : Gl X T) (hv : bootBuiltins T = some (.type k.nm)) (hn : T ≠ "__name__" := by decide) (hdb : (T == ("__debug__" : Str)) = false := by decide)
    (hs : starEach [e, .Name T p2] X.env = (false, eval e X.env) :: starEach [.Name T p2] X.env := by rfl) (hs2 : starEach [.Name T p2] X.env = (false, eval (.Name T p2) X.env) :: starEach [] X.env := by rfl) (hpl : (backTo pos (starEach [.Name T p2] X.env)).any (·.1) = false := by rfl) :
    PE X (.Call (.Name "isinstance" p) [e, .Name T p2] [] pos) (tF X.K Av (m_isT k m)) :=
  PE.imp (pe_callB call_isi hgi hi (by decide +kernel) (pa_cons he (pa_cons (pe_bltn (v := .ty k.nm) hgT hT hv rfl hn hdb) pa_nil hs2) hs) (by decide) (by decide) hs hpl) fun σ H Q q => by
    obtain ⟨r, sl, h, d, h', R, S, e, kk⟩ := q
    obtain ⟨⟨d1, h1⟩, e1, e⟩ := Option.bind_eq_some_iff.mp e
    obtain ⟨j, e2, e⟩ := Option.bind_eq_some_iff.mp e
    cases e
    refine tF_go R S e1 fun r1 v1 H1 x1 R1 S1 q1 => ?_
    exact ⟨v1, .ty k.nm, _, _, _, rfl, .ty _, kiOf_ok R1 q1 e2, kit_ty (ki_is j k), kk r1 _ H1 x1 R1 (.bl _)⟩
end
end HF
set_option Elab.async false
set_option linter.all false
set_option maxRecDepth 100000
set_option maxHeartbeats 1000000
namespace HF
open PySem PySem.Spec PyProof.Rows L2
/-! ### the text's facts -/
structure TT (P : Program) (w : World) (K : PySem.W.Frag) (mg : Str → Option Value) (base : Heap) (fa : List He.Fa) (fn : List He.DefD) (ex : PySem.W.Frag → Bool) : Prop where
  fact : ∀ f ∈ fa, f.ok K = true
  defs : ∀ d ∈ fn, ∃ fd, FunD K d.name d.qual d.params d.body d.scope (d.dvs K) (d.kws K) (He.fAd K d.at_) fd
  more : ex K = true
  hp : ∃ h : Heap, K.In h ∧ h.Ns mainGlobals mg
def FnK (P : Program) (w : World) (K : PySem.W.Frag) (mg : Str → Option Value) (base : Heap) (k : Nat) (f : Addr) (m : CM) : Prop := FnB P w K mg base k f m ∧ PySem.W.keepIn K (.ref f) = true
section
variable {P : Program} {w : World} {K : PySem.W.Frag} {mg : Str → Option Value} {base : Heap} {fa : List He.Fa} {fn : List He.DefD} {ex : PySem.W.Frag → Bool} (T : TT P w K mg base fa fn ex)
include T
theorem TT.f (i : Nat) {f : He.Fa} (h : fa[i]? = some f := by rfl) : f.ok K = true := T.fact f (List.mem_of_getElem? h)
theorem TT.glo (i : Nat) {x : Str} (h : fa[i]? = some (.glo x) := by rfl) : mg x = some (.ref (He.ga K x)) := by
  obtain ⟨hp, X, G⟩ := T.hp
  exact He.glo_ok X G (T.f i h)
theorem TT.free (i : Nat) {x : Str} (h : fa[i]? = some (.free x) := by rfl) : mg x = none := by
  obtain ⟨hp, X, G⟩ := T.hp
  exact He.free_ok X G (T.f i h)
theorem TT.int (i : Nat) {x : Str} {v : Int} (h : fa[i]? = some (.int x v) := by rfl) : ∃ t, mg x = some (.int v t) := by
  obtain ⟨hp, X, G⟩ := T.hp
  exact He.int_ok X G (T.f i h)
theorem TT.str (i : Nat) {x z : Str} (h : fa[i]? = some (.str x z) := by rfl) : ∃ t, mg x = some (.str z t) := by
  obtain ⟨hp, X, G⟩ := T.hp
  exact He.str_ok X G (T.f i h)
theorem TT.cls (i : Nat) {x : Str} (h : fa[i]? = some (.cls x) := by rfl) : Cls K (He.ga K x) := He.cls_ok (T.f i h)
theorem TT.noat (i : Nat) {x f : Str} (h : fa[i]? = some (.noat x f) := by rfl) : NoAttr K (He.ga K x) f := He.noat_ok (T.f i h)
theorem TT.meth (i : Nat) {x m : Str} (h : fa[i]? = some (.meth x m) := by rfl) : Meth K (He.ga K x) m (He.fAd K (x, some m)) := He.meth_ok (T.f i h)
theorem TT.mkr (i : Nat) {x : Str} (h : fa[i]? = some (.mkr x) := by rfl) : Mk K (He.ga K x) (He.fAd K (x, some "__init__")) := He.mkr_ok (T.f i h)
theorem TT.d (i : Nat) {d : He.DefD} (h : fn[i]? = some d := by rfl) : ∃ fd, FunD K d.name d.qual d.params d.body d.scope (d.dvs K) (d.kws K) (He.fAd K d.at_) fd := T.defs d (List.mem_of_getElem? h)
end
theorem Room.u65 {k : Nat} {A : Around} (r : Room k A) : A.units + 65 < cLine := by have := r.un; omega
section
variable {X : Cx} {Av : Addr → Prop} {pos p : Pos} {x : Str} {k j : Nat} {f : Addr} {m : CM} {es : List Expr} {kws : List Keyword} {ks : List Str} {mc : FC}
theorem fv (i : Nat) (hN : X.N[i]? = some x := by rfl) (hv : Vis X.env.scope x := by first | exact Or.inl rfl | exact Or.inr (Or.inl rfl) | exact Or.inr (Or.inr rfl)) (hd : (x == ("__debug__" : Str)) = false := by decide) (hcd : (x == ("__classdict__" : Str)) = false := by decide) : PE X (.Name x pos) (tF X.K Av (m_v i)) := fe_v hN hv hd hcd
theorem fg_int {i : Int} (h : ∃ t, X.mg x = some (.int i t)) (hg : Gl X x := by rfl) (hd : (x == ("__debug__" : Str)) = false := by decide) : PE X (.Name x pos) (tF X.K Av (m_c (.int i))) := by
  obtain ⟨t, e⟩ := h
  exact fe_glob (v := V.int i) hg e ⟨t, rfl⟩ (fun _ _ _ => .int i) hd
theorem fg_str {s : Str} (h : ∃ t, X.mg x = some (.str s t)) (hg : Gl X x := by rfl) (hd : (x == ("__debug__" : Str)) = false := by decide) : PE X (.Name x pos) (tF X.K Av (m_c (.str s))) := by
  obtain ⟨t, e⟩ := h
  exact fe_glob (v := V.str s) hg e ⟨t, rfl⟩ (fun _ _ _ => .str s) hd
theorem fcall (G : FnB X.prog X.w X.K X.mg X.base j f m) (hk : PySem.W.keepIn X.K (.ref f) = true) (hr : Room k X.A) (hm : X.mg x = some (.ref f)) (hc : PCA X es kws ks (tFC X.K Av mc)) (hl : ∀ sl h ds es h', mc sl h = some ((ds, es), h') → ks.length = es.length) (hj : j ≤ k := by decide) (hg : Gl X x := by rfl) (hd : (x == ("__debug__" : Str)) = false := by decide) :
    PE X (.Call (.Name x p) es kws pos) (tF X.K Av (m_call m ks mc)) := fe_call G (hr.mono hj) hg hm hk hc hl hd
end
theorem okP {P : Program} {w : World} {K : PySem.W.Frag} {mg : Str → Option Value} {base : Heap} {x qual : Str} {params : Arguments} {body : List Stmt} {scope : Scope} {f : Addr} {fd : FuncData} {N ps : List Str} {k : Nat} {b : FS} {n tot : Nat}
    (F : FunD K x qual params body scope [] [] f fd) (S : FnScope N ps scope) (hn : ps.length = n) (ht : N.length = tot)
    (hbnd : ∀ (kV doc pm : Value) (an : Option Addr) (cdv ct : Value) (us : List Value), us.length = ps.length → bindArgs (PySem.W.fnOf x qual params body scope .none kV doc pm an cdv ct) ⟨us, []⟩ = pure (ps.zip us))
    (hb : ∀ (Av : Addr → Prop) (cdv : Value) (A : Around) (outer : List Env) (s : Shared) (H : Hp) (E : XK), Room k (A.deeper (envOfC qual scope s.heap.objs.size f cdv)) → PSs ((cxOf CX0 P w K mg base N qual scope f cdv A outer s H E).nox) body (tFS K Av b)) :
    FnK P w K mg base (k + 1) f (cmP [] (m_fn n tot b)) := by
  subst hn ht
  exact ⟨fnB_pos (fnF F S hb) (F.bindsN hbnd) .nil (fun _ _ _ => .nil) m_fn_len, F.kp⟩
end HF
set_option Elab.async false
set_option linter.all false
set_option maxRecDepth 100000
set_option maxHeartbeats 1000000
namespace HF
open PySem PySem.Spec PyProof.Rows L2
/-! ### subscripts -/
theorem RDs.at_ {K : PySem.W.Frag} {T : Addr → Prop} {H : Hp} {r : Rho} {ds : List D} {vs : List V} {i : Int} {d : D} (q : RDs K T H r ds vs) (e : atI ds i = some d) : ∃ v, atI vs i = some v ∧ RD K T H r d v := by
  unfold atI at e ⊢
  rw [← q.length]
  cases hj : ixN ds.length i with
  | none => rw [hj] at e; cases e
  | some j =>
    rw [hj] at e
    exact RDs.get q e
def f_ix : F2 := fun x y h => match y with
  | .int i => (match x with
    | .str z => if szOk z.length then (atI z.cps.toList i).bind fun c => some (.str ⟨#[c]⟩, h) else none
    | _ => (asQ h x).bind fun xs => (atI xs i).bind fun d => some (d, h))
  | _ => none
section
variable {X : Cx} {Av : Addr → Prop}
theorem of_ix : OpF X.K Av f_ix (rIx X.K) := fun r h h' H x y d vx vy Q R q1 q2 e k => by
  unfold f_ix at e
  split at e
  · rename_i i
    cases q2
    split at e
    · rename_i z
      cases q1
      split at e
      · rename_i hz
        obtain ⟨c, e1, e⟩ := Option.bind_eq_some_iff.mp e
        cases e
        exact .inr (.inr ⟨z, i, c, rfl, rfl, szOk_le hz, e1, k r _ H (Ext.refl _ _) R (.str _)⟩)
      · cases e
    · obtain ⟨xs, e1, e⟩ := Option.bind_eq_some_iff.mp e
      obtain ⟨d1, e2, e⟩ := Option.bind_eq_some_iff.mp e
      cases e
      obtain ⟨a, vs, ev, sq, qs⟩ := asQ_ok R q1 e1
      obtain ⟨v, hv, rd⟩ := qs.at_ e2
      have fin := k r v H (Ext.refl _ _) R rd
      rcases sq with sq | sq
      · exact .inr (.inl ⟨a, vs, i, v, ev, rfl, sq, hv, fin⟩)
      · exact .inl ⟨a, vs, i, v, ev, rfl, sq, hv, fin⟩
  · cases e
variable {a b e : Expr} {es : List Expr} {pos p p2 : Pos} {ma mb m mo : FE} {ms : FA}
theorem fe_ix (ha : PE X a (tF X.K Av ma)) (hb : PE X b (tF X.K Av mb)) (hs : PlainIx b := by intro _ _; rfl) : PE X (.Subscript a b pos) (tF X.K Av (m_bin f_ix ma mb)) := PE.imp (pe_ix ix_seq ha hb hs) fun _ _ _ => tF_bin of_ix
end
/-! ### slices -/
abbrev FO := Sl → List O → Option (Option Int × List O)
def tFO (K : PySem.W.Frag) (Av : Addr → Prop) (m : FO) : TO := fun σ H Q => ∃ r sl h o h', Rep K Av r h H ∧ RSl K (Tr Av r) H r sl σ ∧ m sl h = some (o, h') ∧ ∀ r' H', Ext r H r' H' → Rep K Av r' h' H' → Q o H'
def o_none : FO := fun _ h => some (none, h)
def o_some (m : FE) : FO := fun sl h => (m sl h).bind fun p => match p.1 with
  | .int i => some (some i, p.2)
  | _ => none
theorem PO.imp {X : Cx} {e : Option Expr} {t t' : TO} (h : PO X e t) (i : ∀ σ H Q, t' σ H Q → t σ H Q) : PO X e t' := ⟨fun pins s σ H Q I q => h.run pins s σ H Q I (i σ H Q q)⟩
def cutD (xs : List D) (lo hi : Option Int) : List D := (xs.drop (HT.sIx xs.length 0 lo)).take (HT.sIx xs.length xs.length hi - HT.sIx xs.length 0 lo)
theorem RDs.drop {K : PySem.W.Frag} {T : Addr → Prop} {H : Hp} {r : Rho} : ∀ {ds : List D} {vs : List V} (n : Nat), RDs K T H r ds vs → RDs K T H r (ds.drop n) (vs.drop n)
  | _, _, 0, q => q
  | _, _, _ + 1, .nil => .nil
  | _, _, n + 1, .cons _ t => RDs.drop n t
theorem RDs.take {K : PySem.W.Frag} {T : Addr → Prop} {H : Hp} {r : Rho} : ∀ {ds : List D} {vs : List V} (n : Nat), RDs K T H r ds vs → RDs K T H r (ds.take n) (vs.take n)
  | _, _, 0, q => by rw [List.take_zero, List.take_zero]; exact .nil
  | _, _, _ + 1, .nil => .nil
  | _, _, n + 1, .cons p t => .cons p (RDs.take n t)
theorem RDs.cut {K : PySem.W.Frag} {T : Addr → Prop} {H : Hp} {r : Rho} {ds : List D} {vs : List V} (q : RDs K T H r ds vs) (lo hi : Option Int) : RDs K T H r (cutD ds lo hi) (cutV vs lo hi) := by
  unfold cutD cutV
  rw [← q.length]
  exact (q.drop _).take _
theorem cut_whole {ds : List D} {lo hi : Option Int} (h : HT.sIx ds.length 0 lo = 0 ∧ HT.sIx ds.length ds.length hi = ds.length) : cutD ds lo hi = ds := by
  unfold cutD
  rw [h.1, h.2]
  simp
def f_sl (x : D) (lo hi : Option Int) (h : List O) : Option (D × List O) := match x with
  | .str z => if szOk z.length then some (.str (cutS z lo hi), h) else none
  | .tup xs => some (.tup (cutD xs lo hi), h)
  | .fl xs => some (.fl (cutD xs lo hi), h)
  | .fz xs => some (.fl (cutD xs lo hi), h)
  | .kl xs => some (.fl (cutD xs lo hi), h)
  | .loc i => (match h[i]? with
    | some (.lst xs) => some (.fl (cutD xs lo hi), h)
    | _ => none)
  | _ => none
def m_sl (m : FE) (ol oh : FO) : FE := fun sl h => (m sl h).bind fun p => (ol sl p.2).bind fun q => (oh sl q.2).bind fun z => f_sl p.1 q.1 z.1 z.2
section
variable {X : Cx} {Av : Addr → Prop} {e : Expr} {lo hi : Option Expr} {pos p2 : Pos} {m : FE} {ol oh : FO}
theorem fo_none : PO X none (tFO X.K Av o_none) := PO.imp po_none fun σ H Q ⟨r, sl, h, o, h', R, S, e, k⟩ => by
  cases e
  exact k r H (Ext.refl _ _) R
theorem fo_some (he : PE X e (tF X.K Av m)) : PO X (some e) (tFO X.K Av (o_some m)) := PO.imp (po_some he) fun σ H Q ⟨r, sl, h, o, h', R, S, e, k⟩ => by
  obtain ⟨⟨d1, h1⟩, e1, e⟩ := Option.bind_eq_some_iff.mp e
  dsimp only at e
  split at e
  · cases e
    refine tF_go R S e1 fun r1 v H1 x1 R1 S1 q1 => ?_
    cases q1
    exact ⟨_, rfl, k r1 H1 x1 R1⟩
  · cases e
theorem sl_any : SlR X (fun x lo hi H Q => rSlL X.K x lo hi H Q ∨ (rSlA X.K x lo hi H Q ∨ rSlS x lo hi H Q)) := sl_list.or (sl_tupA.or sl_str)
theorem f_sl_ok {r : Rho} {h h' : List O} {H : Hp} {x d : D} {v : V} {l u : Option Int} {Q : VK} (R : Rep X.K Av r h H) (q : RD X.K (Tr Av r) H r x v) (e : f_sl x l u h = some (d, h'))
    (k : ∀ r' v H', Ext r H r' H' → Rep X.K Av r' h' H' → RD X.K (Tr Av r') H' r' d v → Q v H') : rSlL X.K v l u H Q ∨ (rSlA X.K v l u H Q ∨ rSlS v l u H Q) := by
  have lst : ∀ {a : Addr} {xs : List D} {vs : List V}, SqL X.K H a vs → RDs X.K (Tr Av r) H r xs vs → d = .fl (cutD xs l u) → h' = h → rSlL X.K (.ref a) l u H Q := fun {a xs vs} z qs ed eh => by
    subst ed eh
    exact ⟨a, vs, rfl, z, fun p hp => k r _ _ (Ext.new1 hp) (R.new1 hp) (rd_fl R hp (qs.cut l u))⟩
  cases q with
  | str z =>
    unfold f_sl at e
    dsimp only at e
    split at e
    · rename_i hz
      cases e
      exact .inr (.inr ⟨z, rfl, szOk_le hz, k r _ H (Ext.refl _ _) R (.str _)⟩)
    · cases e
  | tup z qs =>
    cases e
    refine .inr (.inl ⟨_, _, rfl, SqT.of z, fun w => ?_, fun w p hp => k r _ _ (Ext.new1 hp) (R.new1 hp) (rd_tup R hp (qs.cut l u))⟩)
    rw [← qs.length] at w
    rw [cut_whole w] at k
    exact k r _ H (Ext.refl _ _) R (.tup z qs)
  | fl z n qs => cases e; exact .inl (lst (SqL.of z) qs rfl rfl)
  | fz z n qs => cases e; exact .inl (lst (.inl z) qs rfl rfl)
  | kl z qs => cases e; exact .inl (lst z.sq qs rfl rfl)
  | loc ll z =>
    unfold f_sl at e
    dsimp only at e
    split at e
    · rename_i xs hi
      cases e
      obtain ⟨a, w, ha, hv, hu, vs, eu, qs⟩ := R.at_ (.loc ll z) hi (by intro z; cases z)
      subst eu hv
      exact .inl (lst (SqL.of hu) qs rfl rfl)
    · cases e
  | _ => cases e
theorem fe_sl (he : PE X e (tF X.K Av m)) (hl : PO X lo (tFO X.K Av ol)) (hu : PO X hi (tFO X.K Av oh)) : PE X (.Subscript e (.Slice lo hi none p2) pos) (tF X.K Av (m_sl m ol oh)) :=
  PE.imp (pe_slice sl_any he hl hu) fun σ H Q q => by
    obtain ⟨r, sl, h, d, h', R, S, e, k⟩ := q
    obtain ⟨⟨d1, h1⟩, e1, e⟩ := Option.bind_eq_some_iff.mp e
    obtain ⟨⟨o2, h2⟩, e2, e⟩ := Option.bind_eq_some_iff.mp e
    obtain ⟨⟨o3, h3⟩, e3, e⟩ := Option.bind_eq_some_iff.mp e
    refine tF_go R S e1 fun r1 v H1 x1 R1 S1 q1 => ⟨r1, sl, h1, o2, h2, R1, S1, e2, fun r2 H2 x2 R2 => ⟨r2, sl, h2, o3, h3, R2, S1.mono R1 x2, e3, fun r3 H3 x3 R3 => ?_⟩⟩
    exact f_sl_ok R3 (RD.mono R2 x3 _ _ (RD.mono R1 x2 _ _ q1)) e fun r4 v4 H4 x4 R4 q4 => k r4 v4 H4 (((x1.trans x2).trans x3).trans x4) R4 q4
end
/-! ### built-ins by values -/
def allInt : List D → Option (List Int)
  | [] => some []
  | .int s :: ds => (allInt ds).bind fun ss => some (s :: ss)
  | _ => none
def allBl : List D → Option (List Bool)
  | [] => some []
  | .bl s :: ds => (allBl ds).bind fun ss => some (s :: ss)
  | _ => none
theorem allInt_ok {K : PySem.W.Frag} {T : Addr → Prop} {H : Hp} {r : Rho} : ∀ {ds : List D} {ss : List Int} {vs : List V}, allInt ds = some ss → RDs K T H r ds vs → vs = ss.map V.int
  | [], _, _, e, .nil => by cases e; rfl
  | d :: ds, ss, _, e, .cons q qs => by
    cases q with
    | int i =>
      obtain ⟨zs, e1, e⟩ := Option.bind_eq_some_iff.mp (show (allInt ds).bind (fun ss => some (i :: ss)) = some ss from e)
      cases e
      rw [allInt_ok e1 qs]
      rfl
    | _ => cases e
theorem allBl_ok {K : PySem.W.Frag} {T : Addr → Prop} {H : Hp} {r : Rho} : ∀ {ds : List D} {ss : List Bool} {vs : List V}, allBl ds = some ss → RDs K T H r ds vs → vs = ss.map V.bl
  | [], _, _, e, .nil => by cases e; rfl
  | d :: ds, ss, _, e, .cons q qs => by
    cases q with
    | bl i =>
      obtain ⟨zs, e1, e⟩ := Option.bind_eq_some_iff.mp (show (allBl ds).bind (fun ss => some (i :: ss)) = some ss from e)
      cases e
      rw [allBl_ok e1 qs]
      rfl
    | _ => cases e
def asL (h : List O) : D → Option (List D)
  | .fl xs => some xs
  | .fz xs => some xs
  | .loc i => match h[i]? with
    | some (.lst xs) => some xs
    | _ => none
  | _ => none
theorem asL_ok {K : PySem.W.Frag} {Av : Addr → Prop} {H : Hp} {r : Rho} {h : List O} {d : D} {v : V} {xs : List D} (R : Rep K Av r h H) (q : RD K (Tr Av r) H r d v) (e : asL h d = some xs) : ∃ a vs, v = .ref a ∧ SqL K H a vs ∧ RDs K (Tr Av r) H r xs vs := by
  cases q with
  | fl z n qs => cases e; exact ⟨_, _, rfl, SqL.of z, qs⟩
  | fz z n qs => cases e; exact ⟨_, _, rfl, .inl z, qs⟩
  | loc l z =>
    unfold asL at e
    dsimp only at e
    split at e
    · rename_i ys hi
      cases e
      obtain ⟨a, u, ha, hv, hu, vs, eu, qs⟩ := R.at_ (.loc l z) hi (by intro z; cases z)
      subst eu
      exact ⟨a, vs, hv, SqL.of hu, qs⟩
    · cases e
  | _ => cases e
abbrev FB := List D → List O → Option (D × List O)
def c_len : FB := fun ds h => match ds with
  | [.str z] => if szOk z.length then some (.int z.length, h) else none
  | [d] => (asQ h d).bind fun xs => some (.int xs.length, h)
  | _ => none
def c_list : FB := fun ds h => match ds with
  | [.dk ks _] => some (.fl (ks.map fun k => match k with
      | .inl i => .int i
      | .inr s => .str s), h)
  | [d] => (asQ h d).bind fun xs => some (.fl xs, h)
  | _ => none
def c_all : FB := fun ds h => match ds with
  | [d] => (asL h d).bind fun xs => (allBl xs).bind fun bs => some (.bl (bs.all id), h)
  | _ => none
def c_any : FB := fun ds h => match ds with
  | [d] => (asL h d).bind fun xs => (allBl xs).bind fun bs => some (.bl (bs.any id), h)
  | _ => none
def c_min2 : FB := fun ds h => match ds with
  | [.int i, .int j] => some (.int (if j < i then j else i), h)
  | _ => none
def c_max2 : FB := fun ds h => match ds with
  | [.int i, .int j] => some (.int (if j > i then j else i), h)
  | _ => none
def minI : List Int → Int
  | [] => 0
  | [x] => x
  | x :: xs => min x (minI xs)
def maxI : List Int → Int
  | [] => 0
  | [x] => x
  | x :: xs => max x (maxI xs)
theorem minI_ok : ∀ ns : List Int, 0 < ns.length → minI ns ∈ ns ∧ ∀ y ∈ ns, minI ns ≤ y
  | [x], _ => ⟨List.mem_cons_self .., fun y hy => by rw [List.mem_singleton.mp hy]; exact Int.le_refl _⟩
  | x :: y :: zs, _ => by
    obtain ⟨h1, h2⟩ := minI_ok (y :: zs) (Nat.succ_pos _)
    have e : minI (x :: y :: zs) = min x (minI (y :: zs)) := rfl
    rw [e]
    refine ⟨?_, fun w hw => ?_⟩
    · rcases Int.le_total x (minI (y :: zs)) with q | q
      · rw [Int.min_eq_left q]; exact List.mem_cons_self ..
      · rw [Int.min_eq_right q]; exact List.mem_cons_of_mem _ h1
    · rcases List.mem_cons.mp hw with q | q
      · rw [q]; exact Int.min_le_left ..
      · exact Int.le_trans (Int.min_le_right ..) (h2 w q)
theorem maxI_ok : ∀ ns : List Int, 0 < ns.length → maxI ns ∈ ns ∧ ∀ y ∈ ns, y ≤ maxI ns
  | [x], _ => ⟨List.mem_cons_self .., fun y hy => by rw [List.mem_singleton.mp hy]; exact Int.le_refl _⟩
  | x :: y :: zs, _ => by
    obtain ⟨h1, h2⟩ := maxI_ok (y :: zs) (Nat.succ_pos _)
    have e : maxI (x :: y :: zs) = max x (maxI (y :: zs)) := rfl
    rw [e]
    refine ⟨?_, fun w hw => ?_⟩
    · rcases Int.le_total x (maxI (y :: zs)) with q | q
      · rw [Int.max_eq_right q]; exact List.mem_cons_of_mem _ h1
      · rw [Int.max_eq_left q]; exact List.mem_cons_self ..
    · rcases List.mem_cons.mp hw with q | q
      · rw [q]; exact Int.le_max_left ..
      · exact Int.le_trans (h2 w q) (Int.le_max_right ..)
def c_minL : FB := fun ds h => match ds with
  | [d] => (asL h d).bind fun xs => (allInt xs).bind fun ns => if ns.isEmpty then none else some (.int (minI ns), h)
  | _ => none
def c_maxL : FB := fun ds h => match ds with
  | [d] => (asL h d).bind fun xs => (allInt xs).bind fun ns => if ns.isEmpty then none else some (.int (maxI ns), h)
  | _ => none
def c_abs : FB := fun ds h => match ds with
  | [.int i] => some (.int (if i < 0 then -i else i), h)
  | _ => none
def c_int : FB := fun ds h => match ds with
  | [.int i] => some (.int i, h)
  | _ => none
def c_intS : FB := fun ds h => match ds with
  | [.str a] => if decide (a.length ≤ 640) then (PySem.intText? a).bind fun n => some (.int n, h) else none
  | _ => none
def c_str : FB := fun ds h => match ds with
  | [.int i] => if decide (i.natAbs.log2 < 1920) then some (.str (toString i), h) else none
  | _ => none
/-! sorted texts -/
def leS (a b : Str) : Bool := !ltCps b.cps.toList a.cps.toList
def insS (a : Str) : List Str → List Str
  | [] => [a]
  | b :: bs => if leS a b = true then a :: b :: bs else b :: insS a bs
def sortS : List Str → List Str
  | [] => []
  | a :: as => insS a (sortS as)
theorem insS_perm (a : Str) : ∀ bs, (insS a bs).Perm (a :: bs)
  | [] => .refl _
  | b :: bs => by
    unfold insS
    split
    · exact .refl _
    · exact ((insS_perm a bs).cons b).trans (.swap a b bs)
theorem sortS_perm : ∀ as, (sortS as).Perm as
  | [] => .refl _
  | a :: as => (insS_perm a _).trans ((sortS_perm as).cons a)
theorem leS_iff (a b : Str) : leS a b = true ↔ a.cps.toList ≤ b.cps.toList := by
  unfold leS
  rw [ltCps_eq]
  simp
theorem leS_antisymm {a b : Str} (h1 : leS a b = true) (h2 : leS b a = true) : a = b := by
  have h := List.le_antisymm ((leS_iff a b).mp h1) ((leS_iff b a).mp h2)
  obtain ⟨x⟩ := a
  obtain ⟨y⟩ := b
  congr 1
  exact Array.ext' h
theorem leS_trans {a b c : Str} (h1 : leS a b = true) (h2 : leS b c = true) : leS a c = true := (leS_iff a c).mpr (List.le_trans ((leS_iff a b).mp h1) ((leS_iff b c).mp h2))
theorem leS_total (a b : Str) : leS a b = true ∨ leS b a = true := by
  rcases List.le_total a.cps.toList b.cps.toList with h | h
  · exact .inl ((leS_iff a b).mpr h)
  · exact .inr ((leS_iff b a).mpr h)
theorem insS_sorted (a : Str) : ∀ bs, bs.Pairwise (fun x y => leS x y = true) → (insS a bs).Pairwise (fun x y => leS x y = true)
  | [], _ => List.pairwise_singleton _ _
  | b :: bs, h => by
    unfold insS
    have hb := List.pairwise_cons.mp h
    split
    · rename_i hab
      exact List.pairwise_cons.mpr ⟨fun c hc => by
        rcases List.mem_cons.mp hc with q | q
        · rw [q]; exact hab
        · exact leS_trans hab (hb.1 c q), h⟩
    · rename_i hab
      exact List.pairwise_cons.mpr ⟨fun c hc => by
        rcases List.mem_cons.mp ((insS_perm a bs).mem_iff.mp hc) with q | q
        · rw [q]; exact (leS_total a b).resolve_left hab
        · exact hb.1 c q, insS_sorted a bs hb.2⟩
theorem sortS_sorted : ∀ as, (sortS as).Pairwise (fun x y => leS x y = true)
  | [] => .nil
  | a :: as => insS_sorted a _ (sortS_sorted as)
theorem sorted_uniq : ∀ {as bs : List Str}, as.Perm bs → as.Pairwise (fun x y => leS x y = true) → bs.Pairwise (fun x y => leS x y = true) → as = bs
  | [], bs, p, _, _ => by rw [List.nil_perm.mp p]
  | a :: as, [], p, _, _ => by have := p.length_eq; simp at this
  | a :: as, b :: bs, p, h1, h2 => by
    have e : a = b := by
      have m1 := p.mem_iff.mp (List.mem_cons_self (a := a) (l := as))
      have m2 := p.mem_iff.mpr (List.mem_cons_self (a := b) (l := bs))
      rcases List.mem_cons.mp m1 with q | q
      · exact q
      rcases List.mem_cons.mp m2 with q2 | q2
      · exact q2.symm
      exact leS_antisymm ((List.pairwise_cons.mp h1).1 b q2) ((List.pairwise_cons.mp h2).1 a q)
    subst e
    rw [sorted_uniq ((List.perm_cons a).mp p) (List.pairwise_cons.mp h1).2 (List.pairwise_cons.mp h2).2]
theorem rising_pair : ∀ (p : Str) (l : List Str), risingS p l = true → (p :: l).Pairwise (fun x y => leS x y = true)
  | p, [], _ => List.pairwise_singleton _ _
  | p, x :: r, h => by
    have h := Bool.and_eq_true_iff.mp (show (leS p x && risingS x r) = true from h)
    have ih := rising_pair x r h.2
    exact List.pairwise_cons.mpr ⟨fun c hc => by
      rcases List.mem_cons.mp hc with q | q
      · rw [q]; exact h.1
      · exact leS_trans h.1 ((List.pairwise_cons.mp ih).1 c q), ih⟩
theorem sortedS_uniq {ys xs : List Str} (p : ys.Perm xs) (h : sortedS ys = true) : ys = sortS xs := by
  refine sorted_uniq (p.trans (sortS_perm xs).symm) ?_ (sortS_sorted xs)
  cases ys with
  | nil => exact .nil
  | cons y ys => exact rising_pair y ys h
def c_sortS : FB := fun ds h => match ds with
  | [d] => (asL h d).bind fun xs => (allStr xs).bind fun ss => if decide (ss.length < 64) then some (.fl ((sortS ss).map D.str), h) else none
  | _ => none
theorem rds_str {K : PySem.W.Frag} {T : Addr → Prop} {H : Hp} {r : Rho} : ∀ ss : List Str, RDs K T H r (ss.map D.str) (ss.map V.str)
  | [] => .nil
  | s :: ss => .cons (.str s) (rds_str ss)
theorem rds_key {K : PySem.W.Frag} {T : Addr → Prop} {H : Hp} {r : Rho} : ∀ kvs : List (Key × V), RDs K T H r ((kvs.map (·.1)).map fun k => match k with
      | .inl i => .int i
      | .inr s => .str s) (kvs.map fun kv => kV kv.1)
  | [] => .nil
  | (.inl i, _) :: ss => .cons (.int i) (rds_key ss)
  | (.inr s, _) :: ss => .cons (.str s) (rds_key ss)
section
variable {X : Cx} {Av : Addr → Prop}
theorem bf_len : CallF X.K Av c_len (fun xs H Q => ∃ x n, xs = [x] ∧ LenV X.K x H n ∧ Q (.int n) H) := fun r h h' H ds d vs Q R q e k => by
  unfold c_len at e
  split at e
  · rename_i z
    split at e
    · rename_i hz
      cases e
      cases q with
      | cons q qs =>
        cases q
        cases qs
        exact ⟨_, _, rfl, ⟨szOk_le hz, rfl⟩, k r _ H (Ext.refl _ _) R (.int _)⟩
    · cases e
  · obtain ⟨xs, e1, e⟩ := Option.bind_eq_some_iff.mp e
    cases e
    cases q with
    | cons q qs =>
      cases qs
      obtain ⟨a, vs, ev, sq, qs⟩ := asQ_ok R q e1
      subst ev
      refine ⟨_, xs.length, rfl, ?_, k r _ H (Ext.refl _ _) R (.int _)⟩
      rcases sq with sq | sq
      · exact .inr ⟨vs, sq, qs.length⟩
      · exact .inl ⟨vs, sq, qs.length⟩
  · cases e
def rList (K : PySem.W.Frag) : List V → Hp → VK → Prop := fun xs H Q => (∃ p ys, xs = [.ref p] ∧ (SqL K H p ys ∨ SqT K H p ys) ∧ ∀ l, H l = none → Q (.ref l) (upd H l (.lst ys))) ∨
  (∃ (a : Addr) (kvs : List (Key × V)), xs = [.ref a] ∧ Rd H a (.dK kvs) ∧ ∀ p, H p = none → Q (.ref p) (upd H p (.lst (kvs.map fun kv => kV kv.1))))
theorem cl_list (hc : X.calm = true) : CallR X (.type "list") (rList X.K) := fun pins s σ H xs us Q I r h => by
  rcases h with h | h
  · exact call_list_of pins s σ H xs us Q I r h
  · exact call_listD hc pins s σ H xs us Q I r h
theorem bf_list : CallF X.K Av c_list (rList X.K) := fun r h h' H ds d vs Q R q e k => by
  unfold c_list at e
  split at e
  · cases e
    cases q with
    | cons q qs =>
      cases qs
      cases q with
      | dk z n ek qs =>
        subst ek
        exact .inr ⟨_, _, rfl, z, fun p hp => k r _ _ (Ext.new1 hp) (R.new1 hp) (rd_fl R hp (rds_key _))⟩
  · obtain ⟨xs, e1, e⟩ := Option.bind_eq_some_iff.mp e
    cases e
    cases q with
    | cons q qs =>
      cases qs
      obtain ⟨a, vs, ev, sq, qs⟩ := asQ_ok R q e1
      subst ev
      exact .inl ⟨a, vs, rfl, sq.symm, fun p hp => k r _ _ (Ext.new1 hp) (R.new1 hp) (rd_fl R hp qs)⟩
  · cases e
theorem bf_all : CallF X.K Av c_all (rAll X.K) := fun r h h' H ds d vs Q R q e k => by
  unfold c_all at e
  split at e
  · obtain ⟨xs, e1, e⟩ := Option.bind_eq_some_iff.mp e
    obtain ⟨bs, e2, e⟩ := Option.bind_eq_some_iff.mp e
    cases e
    cases q with
    | cons q qs =>
      cases qs
      obtain ⟨a, vs, ev, sq, qs⟩ := asL_ok R q e1
      subst ev
      have := allBl_ok e2 qs
      subst this
      exact ⟨a, bs, rfl, sq, k r _ H (Ext.refl _ _) R (.bl _)⟩
  · cases e
theorem bf_any : CallF X.K Av c_any (rAny X.K) := fun r h h' H ds d vs Q R q e k => by
  unfold c_any at e
  split at e
  · obtain ⟨xs, e1, e⟩ := Option.bind_eq_some_iff.mp e
    obtain ⟨bs, e2, e⟩ := Option.bind_eq_some_iff.mp e
    cases e
    cases q with
    | cons q qs =>
      cases qs
      obtain ⟨a, vs, ev, sq, qs⟩ := asL_ok R q e1
      subst ev
      have := allBl_ok e2 qs
      subst this
      exact ⟨a, bs, rfl, sq, k r _ H (Ext.refl _ _) R (.bl _)⟩
  · cases e
theorem bf_minL : CallF X.K Av c_minL (rMin X.K) := fun r h h' H ds d vs Q R q e k => by
  unfold c_minL at e
  split at e
  · obtain ⟨xs, e1, e⟩ := Option.bind_eq_some_iff.mp e
    obtain ⟨bs, e2, e⟩ := Option.bind_eq_some_iff.mp e
    split at e
    · cases e
    · rename_i hne
      cases e
      cases q with
      | cons q qs =>
        cases qs
        obtain ⟨a, vs, ev, sq, qs⟩ := asL_ok R q e1
        subst ev
        have := allInt_ok e2 qs
        subst this
        have hl : 0 < bs.length := by
          cases bs with
          | nil => simp at hne
          | cons _ _ => exact Nat.succ_pos _
        obtain ⟨m1, m2⟩ := minI_ok bs hl
        refine ⟨a, bs, rfl, sq, hl, fun m hm hy => ?_⟩
        have : m = minI bs := Int.le_antisymm (hy _ m1) (m2 m hm)
        rw [this]
        exact k r _ H (Ext.refl _ _) R (.int _)
  · cases e
theorem bf_maxL : CallF X.K Av c_maxL (rMax X.K) := fun r h h' H ds d vs Q R q e k => by
  unfold c_maxL at e
  split at e
  · obtain ⟨xs, e1, e⟩ := Option.bind_eq_some_iff.mp e
    obtain ⟨bs, e2, e⟩ := Option.bind_eq_some_iff.mp e
    split at e
    · cases e
    · rename_i hne
      cases e
      cases q with
      | cons q qs =>
        cases qs
        obtain ⟨a, vs, ev, sq, qs⟩ := asL_ok R q e1
        subst ev
        have := allInt_ok e2 qs
        subst this
        have hl : 0 < bs.length := by
          cases bs with
          | nil => simp at hne
          | cons _ _ => exact Nat.succ_pos _
        obtain ⟨m1, m2⟩ := maxI_ok bs hl
        refine ⟨a, bs, rfl, sq, hl, fun m hm hy => ?_⟩
        have : m = maxI bs := Int.le_antisymm (m2 m hm) (hy _ m1)
        rw [this]
        exact k r _ H (Ext.refl _ _) R (.int _)
  · cases e
theorem bf_one {f : FB} {rc : List V → Hp → VK → Prop} (hh : ∀ (x d : D) (h h' : List O) (H : Hp) (vx : V) (Q : VK), f [x] h = some (d, h') → (∀ T r K, RD K T H r x vx → h' = h ∧ ∃ v, (∀ K T H r, RD K T H r d v) ∧ (Q v H → rc [vx] H Q))) (h1 : ∀ ds h y, f ds h = some y → ds.length = 1) : CallF X.K Av f rc := fun r h h' H ds d vs Q R q e k => by
  have hl := h1 _ _ _ e
  cases q with
  | nil => simp at hl
  | cons q qs =>
    cases qs with
    | nil =>
      obtain ⟨eh, v, hv, hq⟩ := hh _ _ _ _ H _ Q e _ _ _ q
      subst eh
      exact hq (k r v H (Ext.refl _ _) R (hv _ _ _ _))
    | cons _ _ => simp at hl
theorem bf_min2 : CallF X.K Av c_min2 (fun xs H Q => ∃ i j, xs = [.int i, .int j] ∧ Q (.int (if j < i then j else i)) H) := fun r h h' H ds d vs Q R q e k => by
  unfold c_min2 at e
  split at e
  · cases e
    cases q with
    | cons q qs =>
      cases q
      cases qs with
      | cons q qs => cases q; cases qs; exact ⟨_, _, rfl, k r _ H (Ext.refl _ _) R (.int _)⟩
  · cases e
theorem bf_max2 : CallF X.K Av c_max2 (fun xs H Q => ∃ i j, xs = [.int i, .int j] ∧ Q (.int (if j > i then j else i)) H) := fun r h h' H ds d vs Q R q e k => by
  unfold c_max2 at e
  split at e
  · cases e
    cases q with
    | cons q qs =>
      cases q
      cases qs with
      | cons q qs => cases q; cases qs; exact ⟨_, _, rfl, k r _ H (Ext.refl _ _) R (.int _)⟩
  · cases e
theorem bf_abs : CallF X.K Av c_abs (fun xs H Q => ∃ i, xs = [.int i] ∧ Q (.int (if i < 0 then -i else i)) H) := fun r h h' H ds d vs Q R q e k => by
  unfold c_abs at e
  split at e
  · cases e
    cases q with
    | cons q qs => cases q; cases qs; exact ⟨_, rfl, k r _ H (Ext.refl _ _) R (.int _)⟩
  · cases e
theorem bf_int : CallF X.K Av c_int (fun xs H Q => (∃ i, xs = [.int i] ∧ Q (.int i) H) ∨ ∃ k, xs = [.bl k] ∧ Q (.int (if k then 1 else 0)) H) := fun r h h' H ds d vs Q R q e k => by
  unfold c_int at e
  split at e
  · cases e
    cases q with
    | cons q qs => cases q; cases qs; exact .inl ⟨_, rfl, k r _ H (Ext.refl _ _) R (.int _)⟩
  · cases e
theorem bf_intS : CallF X.K Av c_intS (fun xs H Q => ∃ a n, xs = [.str a] ∧ PySem.intText? a = some n ∧ a.length ≤ 640 ∧ Q (.int n) H) := fun r h h' H ds d vs Q R q e k => by
  unfold c_intS at e
  split at e
  · split at e
    · rename_i hz
      obtain ⟨n, e1, e⟩ := Option.bind_eq_some_iff.mp e
      cases e
      cases q with
      | cons q qs => cases q; cases qs; exact ⟨_, _, rfl, e1, of_decide_eq_true hz, k r _ H (Ext.refl _ _) R (.int _)⟩
    · cases e
  · cases e
theorem bf_str : CallF X.K Av c_str (fun xs H Q => ∃ i, xs = [.int i] ∧ i.natAbs.log2 < 1920 ∧ Q (.str (toString i)) H) := fun r h h' H ds d vs Q R q e k => by
  unfold c_str at e
  split at e
  · split at e
    · rename_i hz
      cases e
      cases q with
      | cons q qs => cases q; cases qs; exact ⟨_, rfl, of_decide_eq_true hz, k r _ H (Ext.refl _ _) R (.str _)⟩
    · cases e
  · cases e
theorem bf_sortS : CallF X.K Av c_sortS (rSortedS X.K) := fun r h h' H ds d vs Q R q e k => by
  unfold c_sortS at e
  split at e
  · obtain ⟨xs, e1, e⟩ := Option.bind_eq_some_iff.mp e
    obtain ⟨ss, e2, e⟩ := Option.bind_eq_some_iff.mp e
    split at e
    · rename_i hz
      cases e
      cases q with
      | cons q qs =>
        cases qs
        obtain ⟨a, vs, ev, sq, qs⟩ := asL_ok R q e1
        subst ev
        have := allStr_ok e2 qs
        subst this
        refine ⟨a, ss, rfl, sq, of_decide_eq_true hz, fun ys p hp hs hH => ?_⟩
        rw [sortedS_uniq hp hs]
        exact k r _ _ (Ext.new1 hH) (R.new1 hH) (rd_fl R hH (rds_str _))
    · cases e
  · cases e
end
end HF
set_option Elab.async false
set_option linter.all false
set_option maxRecDepth 100000
set_option maxHeartbeats 1000000
namespace HF
open PySem PySem.Spec PyProof.Rows L2
/-! ### methods of built-in types -/
abbrev FM := D → List D → List O → Option (D × List O)
def MtOk (K : PySem.W.Frag) (Av : Addr → Prop) (f : FM) (rm : V → List V → Hp → VK → Prop) : Prop := ∀ (r : Rho) (h h' : List O) (H : Hp) (x : D) (ds : List D) (d : D) (vx : V) (vs : List V) (Q : VK), Rep K Av r h H → RD K (Tr Av r) H r x vx → RDs K (Tr Av r) H r ds vs →
  f x ds h = some (d, h') → (∀ r' v H', Ext r H r' H' → Rep K Av r' h' H' → RD K (Tr Av r') H' r' d v → Q v H') → rm vx vs H Q
def m_m1 (f : FM) (mo me : FE) : FE := fun sl h => (mo sl h).bind fun p => match p.1 with
  | .str z => (me sl p.2).bind fun q => f (.str z) [q.1] q.2
  | _ => none
def m_lm (f : FM) (mo : FE) (ms : FA) : FE := fun sl h => (mo sl h).bind fun p => match p.1 with
  | .loc i => (match p.2[i]? with
    | some (.lst _) => (ms sl p.2).bind fun q => f (.loc i) q.1 q.2
    | _ => none)
  | _ => none
section
variable {X : Cx} {Av : Addr → Prop} {o e : Expr} {es : List Expr} {apos cpos pos : Pos} {mo me : FE} {ms : FA} {f : FM} {rm : V → List V → Hp → VK → Prop} {id : String} {name : Str}
theorem fe_m1 (slot : Slot "str" name id) (ty : typeOf (.builtin id) = pure (.type "method_descriptor")) (rule : MtR X id rm) (hf : MtOk X.K Av f rm) (ho : PE X o (tF X.K Av mo)) (he : PE X e (tF X.K Av me))
    (hs : starEach [e] X.env = [(false, eval e X.env)] := by rfl) (hbase : attributeBase o name X.env (eval o X.env) = eval o X.env := by rfl) (hline : (apos.endLine == pos.line) = true := by rfl) :
    PE X (.Call (.Attribute o name apos) [e] [] pos) (tF X.K Av (m_m1 f mo me)) :=
  PE.imp (pe_m1 slot ty rule ho he hs hbase hline) fun σ H Q q => by
    obtain ⟨r, sl, h, d, h', R, S, e, k⟩ := q
    obtain ⟨⟨d1, h1⟩, e1, e⟩ := Option.bind_eq_some_iff.mp e
    dsimp only at e
    split at e
    · rename_i z
      obtain ⟨⟨d2, h2⟩, e2, e⟩ := Option.bind_eq_some_iff.mp e
      refine tF_go R S e1 fun r1 v1 H1 x1 R1 S1 q1 => ⟨?_, tF_go R1 S1 e2 fun r2 v2 H2 x2 R2 S2 q2 => ?_⟩
      · cases q1
        exact ⟨z, rfl⟩
      · exact hf r2 h2 h' H2 _ _ d v1 [v2] Q R2 (RD.mono R1 x2 _ _ q1) (.cons q2 .nil) e fun r3 v3 H3 x3 R3 q3 => k r3 v3 H3 ((x1.trans x2).trans x3) R3 q3
    · cases e
theorem fe_lm (slot : Slot "list" name id) (hty : typeOf (.builtin id) = pure (.type "method_descriptor")) (rule : MtR X id rm) (hf : MtOk X.K Av f rm) (ho : PE X o (tF X.K Av mo)) (ha : PA X (e :: es) (tFA X.K Av ms))
    (hbase : attributeBase o name X.env (eval o X.env) = eval o X.env := by rfl)
    (hfew : ((backTo cpos (starEach (e :: es) X.env)).all (fun x => !x.1) && (backToKw cpos (keywordEach [] X.env)).all (fun x => x.1.isSome)
      && decide ((e :: es).length + ([] : List Keyword).length + (if ([] : List Keyword).isEmpty then 0 else 1) < 30)) = true := by rfl)
    (hline : (apos.endLine == cpos.line) = true := by rfl) (hs : starEach (e :: es) X.env = (false, eval e X.env) :: starEach es X.env := by rfl) (hplain : (backTo cpos (starEach es X.env)).any (·.1) = false := by rfl) :
    PE X (.Call (.Attribute o name apos) (e :: es) [] cpos) (tF X.K Av (m_lm f mo ms)) :=
  PE.imp (pe_bm F.plainAttrs_list slot hty rule ho ha hbase hfew hline hs hplain) fun σ H Q q => by
    obtain ⟨r, sl, h, d, h', R, S, e, k⟩ := q
    obtain ⟨⟨d1, h1⟩, e1, e⟩ := Option.bind_eq_some_iff.mp e
    dsimp only at e
    split at e
    · rename_i i
      split at e
      · rename_i xs hi
        obtain ⟨⟨d2, h2⟩, e2, e⟩ := Option.bind_eq_some_iff.mp e
        refine tF_go R S e1 fun r1 v1 H1 x1 R1 S1 q1 => ⟨?_, tFA_go R1 S1 e2 fun r2 v2 H2 x2 R2 S2 q2 => ?_⟩
        · obtain ⟨a, u, ha, hv, hu, vs, eu, _⟩ := R1.at_ q1 hi (by intro z; cases z)
          subst eu hv
          exact .inl ⟨rfl, vs, SqL.of hu⟩
        · exact hf r2 h2 h' H2 _ _ d v1 v2 Q R2 (RD.mono R1 x2 _ _ q1) q2 e fun r3 v3 H3 x3 R3 q3 => k r3 v3 H3 ((x1.trans x2).trans x3) R3 q3
      · cases e
    · cases e
theorem fe_lm0 (slot : Slot "list" name id) (hty : typeOf (.builtin id) = pure (.type "method_descriptor")) (rule : MtR X id rm) (hf : MtOk X.K Av f rm) (ho : PE X o (tF X.K Av mo))
    (hbase : attributeBase o name X.env (eval o X.env) = eval o X.env := by rfl) (hline : (apos.endLine == cpos.line) = true := by rfl) :
    PE X (.Call (.Attribute o name apos) [] [] cpos) (tF X.K Av (m_lm f mo a_nil)) :=
  PE.imp (pe_bm0 F.plainAttrs_list slot hty rule ho hbase hline) fun σ H Q q => by
    obtain ⟨r, sl, h, d, h', R, S, e, k⟩ := q
    obtain ⟨⟨d1, h1⟩, e1, e⟩ := Option.bind_eq_some_iff.mp e
    dsimp only at e
    split at e
    · rename_i i
      split at e
      · rename_i xs hi
        obtain ⟨⟨d2, h2⟩, e2, e⟩ := Option.bind_eq_some_iff.mp e
        cases e2
        refine tF_go R S e1 fun r1 v1 H1 x1 R1 S1 q1 => ⟨?_, ?_⟩
        · obtain ⟨a, u, ha, hv, hu, vs, eu, _⟩ := R1.at_ q1 hi (by intro z; cases z)
          subst eu hv
          exact .inl ⟨rfl, vs, SqL.of hu⟩
        · exact hf r1 _ h' H1 _ _ d v1 [] Q R1 q1 .nil e fun r3 v3 H3 x3 R3 q3 => k r3 v3 H3 (x1.trans x3) R3 q3
      · cases e
    · cases e
end
def x_join : FM := fun x ds h => match x, ds with
  | .str a, [d] => (asL h d).bind fun xs => (allStr xs).bind fun ss => if decide ((ss.map (·.length)).sum + ss.length * a.length ≤ 16777216) then some (.str (Txt.join a ss), h) else none
  | _, _ => none
def x_split : FM := fun x ds h => match x, ds with
  | .str a, [.str b] => if decide (b.length ≠ 0) && szOk (a.length + 2) then some (.fl ((Txt.split a b).map D.str), h) else none
  | _, _ => none
def x_starts : FM := fun x ds h => match x, ds with
  | .str a, [.str b] => some (.bl (Txt.startswith a b), h)
  | _, _ => none
def x_append : FM := fun x ds h => match x, ds with
  | .loc i, [d] => (match h[i]? with
    | some (.lst xs) => if szOk xs.length then some (.non, h.set i (.lst (xs ++ [d]))) else none
    | _ => none)
  | _, _ => none
def x_insert : FM := fun x ds h => match x, ds with
  | .loc i, [.int j, d] => (match h[i]? with
    | some (.lst xs) => if szOk xs.length && (decide (0 ≤ j) && decide (j < 2 ^ 63)) then some (.non, h.set i (.lst (xs.take j.toNat ++ [d] ++ xs.drop j.toNat))) else none
    | _ => none)
  | _, _ => none
def x_pop : FM := fun x ds h => match x, ds with
  | .loc i, [] => (match h[i]? with
    | some (.lst xs) => (xs[xs.length - 1]?).bind fun d => some (d, h.set i (.lst xs.dropLast))
    | _ => none)
  | _, _ => none
def x_extend : FM := fun x ds h => match x, ds with
  | .loc i, [d] => (match h[i]? with
    | some (.lst xs) => (match d with
      | .tup ys => if szOk (xs.length + ys.length) then some (.non, h.set i (.lst (xs ++ ys))) else none
      | .fl ys => if szOk (xs.length + ys.length) then some (.non, h.set i (.lst (xs ++ ys))) else none
      | _ => none)
    | _ => none)
  | _, _ => none
theorem meets_extendT (l : Addr) (items : Array Value) (n : Nat) (b : Addr) (items2 : Array Value) (n2 : Nat) (dd : Option Addr) (sl : Array (Option Value)) (hs0 : ¬(!items.isEmpty && Builtin.List.listTooLong (items.size + items2.size)) = true) (hs1 : items.size ≤ sizeLine) (hs2 : items.size + items2.size ≤ sizeLine + 1) :
    Meets (Builtin.«list.extend» ⟨[.ref l, .ref b], []⟩) (fun _ G z => z.heap.get? l = some { cls := .type "list", dict := none, data := .seq items n, slots := #[] } ∧ z.heap.get? b = some { cls := .type "tuple", dict := dd, data := .seq items2 n2, slots := sl } ∧ G (.ok (.ret Value.none)) { z with heap := z.heap.update l (Obj.mapSeq fun x => x ++ items2), toks := z.toks }) :=
  .of_wp fun prog w A G z hz => by
    obtain ⟨y1, y2, y3, y4, y5⟩ := z
    obtain ⟨p1, p2, p3⟩ := hz
    have t1 := AutoSeq1.idx_int
    have t2 := AutoSeq1.sub_tuple_tuple
    have t3 := AutoSeq1.sub_list_list
    have t4 := AutoSeq1.sub_tuple_list
    have t5 := AutoSeq1.sub_list_tuple
    have fits : (items ++ items2).size ≤ sizeLine + 1 := by rw [Array.size_append]; exact hs2
    wp_walk using (wpAny_updateSeq p1 rfl (hz := hs1) (_hz' := fits)), AutoSeq1.wpAny_loadPart' p1, AutoSeq1.wpAny_loadPart' p2
    exact ⟨_, rfl, p3⟩
section
variable {X : Cx} {Av : Addr → Prop}
def rExtT (K : PySem.W.Frag) : V → List V → Hp → VK → Prop := fun x vs H Q => ∃ l b xs zs, x = .ref l ∧ vs = [.ref b] ∧ H l = some (.lst xs) ∧ SqT K H b zs ∧ xs.length + zs.length ≤ sizeLine ∧ Q .non (upd H l (.lst (xs ++ zs)))
theorem mt_extT : MtR X "list.extend" (rExtT X.K) := fun pins s σ H x vs v us Q I rx rv h => by
  obtain ⟨l, b, xs, zs, ex, ev, hH, hB, hz, q⟩ := h
  subst ex ev
  cases rx
  obtain ⟨u, rfl, ru⟩ := rv.one
  cases ru
  obtain ⟨z, its, n, r, hl, el⟩ := I.lstM hH
  obtain ⟨its2, r2, ⟨o2, g2, c2, n2, d2⟩, z2⟩ := I.tuple hB
  have l2 := r2.length
  obtain ⟨cc, dd, da, sl⟩ := o2
  cases c2
  cases d2
  have hsz : its.toArray.size + its2.toArray.size ≤ sizeLine := by rw [List.size_toArray, List.size_toArray, ← hl, ← l2]; exact hz
  have hlong : ¬ (!its.toArray.isEmpty && Builtin.List.listTooLong (its.toArray.size + its2.toArray.size)) = true := by rw [notLongL hsz, Bool.and_false]; exact Bool.false_ne_true
  refine call_meets F.slot_list_extend ⟨_, el, rfl⟩ F.entry_list_extend (F.args_list_extend_2 _ _) (meets_extendT l its.toArray n b its2.toArray n2 dd sl hlong (by omega) (by omega)) ⟨el, g2, ?_⟩
  exact ⟨.non, _, I.lset (its' := its ++ its2) hH el (by simp) (r.append r2) (by rw [List.length_append]; exact hz), rfl, q⟩
theorem mt_ext : MtR X "list.extend" (fun x vs H Q => rExtT X.K x vs H Q ∨ rExtend x vs H Q) := mt_extT.or mt_extend
theorem mf_extend : MtOk X.K Av x_extend (fun x vs H Q => rExtT X.K x vs H Q ∨ rExtend x vs H Q) := fun r h h' H x ds d vx vs Q R q1 q2 e k => by
  unfold x_extend at e
  split at e
  · rename_i i d0
    split at e
    · rename_i xs hi
      obtain ⟨a, u, ha, hv, hu, ws, eu, qs⟩ := R.at_ q1 hi (by intro z; cases z)
      subst eu hv
      cases q2 with
      | cons q2 qn =>
        cases qn
        have fin : ∀ {ys : List D} {zs : List V}, RDs X.K (Tr Av r) H r ys zs → d = .non → h' = h.set i (.lst (xs ++ ys)) → Q .non (upd H a (.lst (ws ++ zs))) := fun {ys zs} qz ed eh => by
          subst ed eh
          exact k r _ _ (ext_set R ha) (R.set ha ⟨_, rfl, (RDs.mono R (ext_set R ha) _ _ qs).append (RDs.mono R (ext_set R ha) _ _ qz)⟩) .non
        have lens := qs.length
        split at e
        · split at e
          · rename_i hz
            cases e
            cases q2 with
            | tup z qz => exact .inl ⟨a, _, ws, _, rfl, rfl, hu, SqT.of z, by rw [← lens, ← qz.length]; exact szOk_le hz, fin qz rfl rfl⟩
          · cases e
        · split at e
          · rename_i hz
            cases e
            cases q2 with
            | fl z n qz => exact .inr ⟨a, _, ws, _, rfl, rfl, hu, z, by rw [← lens, ← qz.length]; exact szOk_le hz, fin qz rfl rfl⟩
          · cases e
        · cases e
    · cases e
  · cases e
theorem mf_join : MtOk X.K Av x_join (fun x xs H Q => ∃ a p, ∃ ys : List Str, x = .str a ∧ xs = [.ref p] ∧ (SqL X.K H p (ys.map V.str) ∨ SqT X.K H p (ys.map V.str)) ∧ (ys.map (·.length)).sum + ys.length * a.length ≤ 16777216 ∧ Q (.str (Txt.join a ys)) H) := fun r h h' H x ds d vx vs Q R q1 q2 e k => by
  unfold x_join at e
  split at e
  · obtain ⟨xs, e1, e⟩ := Option.bind_eq_some_iff.mp e
    obtain ⟨ss, e2, e⟩ := Option.bind_eq_some_iff.mp e
    split at e
    · rename_i hz
      cases e
      cases q1
      cases q2 with
      | cons q2 qn =>
        cases qn
        obtain ⟨a, vs, ev, sq, qs⟩ := asL_ok R q2 e1
        subst ev
        have := allStr_ok e2 qs
        subst this
        exact ⟨_, a, ss, rfl, rfl, .inl sq, of_decide_eq_true hz, k r _ H (Ext.refl _ _) R (.str _)⟩
    · cases e
  · cases e
theorem mf_split : MtOk X.K Av x_split (fun x xs H Q => ∃ a b, x = .str a ∧ xs = [.str b] ∧ (b.length == 0) = false ∧ a.length + 2 ≤ sizeLine ∧ rNewStrs (Txt.split a b) H Q) := fun r h h' H x ds d vx vs Q R q1 q2 e k => by
  unfold x_split at e
  split at e
  · split at e
    · rename_i hz
      have hz := Bool.and_eq_true_iff.mp hz
      cases e
      cases q1
      cases q2 with
      | cons q2 qn =>
        cases qn
        cases q2
        exact ⟨_, _, rfl, rfl, beq_false_of_ne (of_decide_eq_true hz.1), szOk_le hz.2, fun p hp => k r _ _ (Ext.new1 hp) (R.new1 hp) (rd_fl R hp (rds_str _))⟩
    · cases e
  · cases e
theorem mf_starts : MtOk X.K Av x_starts (fun x xs H Q => ∃ a b, x = .str a ∧ xs = [.str b] ∧ Q (.bl (Txt.startswith a b)) H) := fun r h h' H x ds d vx vs Q R q1 q2 e k => by
  unfold x_starts at e
  split at e
  · cases e
    cases q1
    cases q2 with
    | cons q2 qn =>
      cases qn
      cases q2
      exact ⟨_, _, rfl, rfl, k r _ H (Ext.refl _ _) R (.bl _)⟩
  · cases e
theorem mf_append : MtOk X.K Av x_append rAppend := fun r h h' H x ds d vx vs Q R q1 q2 e k => by
  unfold x_append at e
  split at e
  · rename_i i d0
    split at e
    · rename_i xs hi
      split at e
      · rename_i hz
        cases e
        obtain ⟨a, u, ha, hv, hu, ws, eu, qs⟩ := R.at_ q1 hi (by intro z; cases z)
        subst eu hv
        cases q2 with
        | cons q2 qn =>
          cases qn
          exact ⟨a, ws, _, rfl, rfl, hu, by rw [← qs.length]; exact szOk_lt hz, k r _ _ (ext_set R ha) (R.set ha ⟨_, rfl, (RDs.mono R (ext_set R ha) _ _ qs).append (.cons (RD.mono R (ext_set R ha) _ _ q2) .nil)⟩) .non⟩
      · cases e
    · cases e
  · cases e
theorem mf_insert : MtOk X.K Av x_insert (fun x vs H Q => ∃ (l : Addr) (xs : List V) (i : Int) (y : V), x = .ref l ∧ vs = [.int i, y] ∧ H l = some (.lst xs) ∧ xs.length < sizeLine ∧ 0 ≤ i ∧ i < 2 ^ 63 ∧ Q .non (upd H l (.lst (xs.take i.toNat ++ [y] ++ xs.drop i.toNat)))) := fun r h h' H x ds d vx vs Q R q1 q2 e k => by
  unfold x_insert at e
  split at e
  · rename_i i j d0
    split at e
    · rename_i xs hi
      split at e
      · rename_i hz
        have hz := Bool.and_eq_true_iff.mp hz
        have hj := Bool.and_eq_true_iff.mp hz.2
        cases e
        obtain ⟨a, u, ha, hv, hu, ws, eu, qs⟩ := R.at_ q1 hi (by intro z; cases z)
        subst eu hv
        cases q2 with
        | cons qj q2 =>
          cases qj
          cases q2 with
          | cons q2 qn =>
            cases qn
            refine ⟨a, ws, j, _, rfl, rfl, hu, by rw [← qs.length]; exact szOk_lt hz.1, of_decide_eq_true hj.1, of_decide_eq_true hj.2, k r _ _ (ext_set R ha) (R.set ha ⟨_, rfl, ?_⟩) .non⟩
            exact (((RDs.mono R (ext_set R ha) _ _ qs).take _).append (.cons (RD.mono R (ext_set R ha) _ _ q2) .nil)).append ((RDs.mono R (ext_set R ha) _ _ qs).drop _)
      · cases e
    · cases e
  · cases e
theorem RDs.dropL {K : PySem.W.Frag} {T : Addr → Prop} {H : Hp} {r : Rho} {ds : List D} {vs : List V} (q : RDs K T H r ds vs) : RDs K T H r ds.dropLast vs.dropLast := by
  rw [List.dropLast_eq_take, List.dropLast_eq_take, q.length]
  exact q.take _
theorem mf_pop : MtOk X.K Av x_pop rPop := fun r h h' H x ds d vx vs Q R q1 q2 e k => by
  unfold x_pop at e
  split at e
  · rename_i i
    split at e
    · rename_i xs hi
      obtain ⟨d1, e1, e⟩ := Option.bind_eq_some_iff.mp e
      cases e
      obtain ⟨a, u, ha, hv, hu, ws, eu, qs⟩ := R.at_ q1 hi (by intro z; cases z)
      subst eu hv
      cases q2
      obtain ⟨v, hv, rd⟩ := RDs.get qs e1
      rw [qs.length] at hv
      exact ⟨a, ws, v, rfl, rfl, hu, hv, k r _ _ (ext_set R ha) (R.set ha ⟨_, rfl, RDs.mono R (ext_set R ha) _ _ qs.dropL⟩) (RD.mono R (ext_set R ha) _ _ rd)⟩
    · cases e
  · cases e
end
/-! ### f-strings -/
def m_fmt (m : FE) : FE := fun sl h => (m sl h).bind fun p => match p.1 with
  | .str z => if szOk z.length then some (.str z, p.2) else none
  | .int i => if decide (i.natAbs.log2 < 1920) then some (.str (toString i), p.2) else none
  | _ => none
def joinF : List FE → Str → Sl → List O → Option (Str × List O)
  | [], acc, _, h => some (acc, h)
  | m :: ms, acc, sl, h => (m sl h).bind fun p => match p.1 with
    | .str y => if szOk (acc ++ y).length then joinF ms (acc ++ y) sl p.2 else none
    | _ => none
def m_fs (ms : List FE) : FE := fun sl h => (joinF ms Str.empty sl h).bind fun p => some (.str p.1, p.2)
inductive PJF (X : Cx) (Av : Addr → Prop) : List Expr → List FE → Prop where
  | nil : PJF X Av [] []
  | cons {e : Expr} {m : FE} {es : List Expr} {ms : List FE} (h : PE X e (tF X.K Av m)) (q : PJF X Av es ms) : PJF X Av (e :: es) (m :: ms)
section
variable {X : Cx} {Av : Addr → Prop} {e v1 v2 : Expr} {rest : List Expr} {m : FE} {ms : List FE} {pos : Pos}
theorem PJF.pj : ∀ {es : List Expr} {ms : List FE}, PJF X Av es ms → PJ X es (ms.map (tF X.K Av))
  | _, _, .nil => .nil
  | _, _, .cons h q => .cons h (PJF.pj q)
theorem joinF_go {σ : L2.St} : ∀ {ms : List FE} {acc out : Str} {r : Rho} {sl : Sl} {h h' : List O} {H : Hp} {Q : Str → Hp → Prop}, Rep X.K Av r h H → RSl X.K (Tr Av r) H r sl σ → joinF ms acc sl h = some (out, h') →
    (∀ r' H', Ext r H r' H' → Rep X.K Av r' h' H' → Q out H') → tJs (ms.map (tF X.K Av)) acc σ H Q
  | [], acc, out, r, sl, h, h', H, Q, R, S, e, k => by
    cases e
    exact k r H (Ext.refl _ _) R
  | m :: ms, acc, out, r, sl, h, h', H, Q, R, S, e, k => by
    obtain ⟨⟨d1, h1⟩, e1, e⟩ := Option.bind_eq_some_iff.mp e
    dsimp only at e
    split at e
    · rename_i y
      split at e
      · rename_i hz
        refine tF_go R S e1 fun r1 v1 H1 x1 R1 S1 q1 => ?_
        cases q1
        exact ⟨y, rfl, szOk_le hz, joinF_go R1 S1 e fun r2 H2 x2 R2 => k r2 H2 (x1.trans x2) R2⟩
      · cases e
    · cases e
theorem fe_fmt (he : PE X e (tF X.K Av m)) : PE X (.FormattedValue e (-1) none pos) (tF X.K Av (m_fmt m)) := PE.imp (pe_fmt he) fun σ H Q q => by
  obtain ⟨r, sl, h, d, h', R, S, e, k⟩ := q
  obtain ⟨⟨d1, h1⟩, e1, e⟩ := Option.bind_eq_some_iff.mp e
  refine tF_go R S e1 fun r1 v1 H1 x1 R1 S1 q1 => ?_
  dsimp only at e
  split at e
  · split at e
    · rename_i hz
      cases e
      cases q1
      exact .inl ⟨_, rfl, szOk_le hz, k r1 _ H1 x1 R1 (.str _)⟩
    · cases e
  · split at e
    · rename_i hz
      cases e
      cases q1
      exact .inr ⟨_, rfl, of_decide_eq_true hz, k r1 _ H1 x1 R1 (.str _)⟩
    · cases e
  · cases e
theorem fe_fs (h : PJF X Av (v1 :: v2 :: rest) ms) : PE X (.JoinedStr (v1 :: v2 :: rest) pos) (tF X.K Av (m_fs ms)) := PE.imp (pe_joined h.pj) fun σ H Q q => by
  obtain ⟨r, sl, h, d, h', R, S, e, k⟩ := q
  obtain ⟨⟨d1, h1⟩, e1, e⟩ := Option.bind_eq_some_iff.mp e
  cases e
  exact joinF_go R S e1 fun r1 H1 x1 R1 => k r1 _ H1 x1 R1 (.str _)
theorem fe_fs1 (he : PE X e (tF X.K Av m)) : PE X (.JoinedStr [e] pos) (tF X.K Av m) := pe_joined1 he
end
/-! ### stores -/
def s_sub (mv mo mi : FE) : FS := fun sl h => (mv sl h).bind fun p => (mo sl p.2).bind fun q => (mi sl q.2).bind fun z => match q.1, z.1 with
  | .loc i, .int k => (match z.2[i]? with
    | some (.lst xs) => (ixN xs.length k).bind fun j => some (.nx, sl, z.2.set i (.lst (xs.set j p.1)))
    | _ => none)
  | _, _ => none
theorem RDs.set {K : PySem.W.Frag} {T : Addr → Prop} {H : Hp} {r : Rho} {d : D} {v : V} (p : RD K T H r d v) : ∀ {ds : List D} {vs : List V} (j : Nat), RDs K T H r ds vs → RDs K T H r (ds.set j d) (vs.set j v)
  | _, _, _, .nil => .nil
  | _, _, 0, .cons _ t => .cons p t
  | _, _, j + 1, .cons q t => .cons q (RDs.set p j t)
def s_aug (f : Int → Int → Int) (i : Nat) (m : FE) : FS := fun sl h => match sl[i]? with
  | some (some (.int a)) => (m sl h).bind fun p => (match p.1 with
    | .int b => some (.nx, sl.set i (some (.int (f a b))), p.2)
    | _ => none)
  | _ => none
def s_par (i j : Nat) (ms : FA) : FS := fun sl h => (ms sl h).bind fun p => match p.1 with
  | [x, y] => some (.nx, (sl.set i (some x)).set j (some y), p.2)
  | _ => none
def s_par3 (i j l : Nat) (ms : FA) : FS := fun sl h => (ms sl h).bind fun p => match p.1 with
  | [x, y, z] => some (.nx, ((sl.set i (some x)).set j (some y)).set l (some z), p.2)
  | _ => none
section
variable {X : Cx} {Av : Addr → Prop} {o ix e a b c : Expr} {mv mo mi m : FE} {ms : FA} {pos pos' : Pos} {x y z : Str} {i j l : Nat} {px py pz pt : Pos} {kt k2 : Nat}
theorem fs_sub (hv : PE X e (tF X.K Av mv)) (ho : PE X o (tF X.K Av mo)) (hi : PE X ix (tF X.K Av mi))
    (hs : swapsWithSole [.Subscript o ix pos'] e pos.line X.env = pure false := by rfl) (hw : swappedStores [.Subscript o ix pos'] e X.env = pure none := by rfl) (h1 : (assignEach [.Subscript o ix pos'] X.env).map (·.2) = [assign (.Subscript o ix pos') X.env] := by rfl)
    (ha : ∀ v, assign (.Subscript o ix pos') X.env v = (do
      let ov ← holding [v] (eval o X.env)
      let iv ← holding [v, ov] (eval ix X.env)
      standAt pos'
      holding [v, ov, iv] (setItem ov iv v)
      release [v, ov, iv] []) := by intro _; rfl) : PS X (.Assign [.Subscript o ix pos'] e pos) (tFS X.K Av (s_sub mv mo mi)) :=
  PS.imp (ps_asg hv (pg_sub ho hi set_list ha) hs hw h1) fun Dn σ H q => by
    obtain ⟨r, sl, h, f, sl', h', R, S, e, k⟩ := q
    obtain ⟨⟨d1, h1⟩, e1, e⟩ := Option.bind_eq_some_iff.mp e
    obtain ⟨⟨d2, h2⟩, e2, e⟩ := Option.bind_eq_some_iff.mp e
    obtain ⟨⟨d3, h3⟩, e3, e⟩ := Option.bind_eq_some_iff.mp e
    refine tF_go R S e1 fun r1 v1 H1 x1 R1 S1 q1 => tF_go R1 S1 e2 fun r2 v2 H2 x2 R2 S2 q2 => tF_go R2 S2 e3 fun r3 v3 H3 x3 R3 S3 q3 => ?_
    dsimp only at e
    cases d2 with
    | loc i =>
     cases d3 with
     | int k0 =>
      dsimp only at e
      split at e
      · rename_i xs hi
        obtain ⟨j, e4, e⟩ := Option.bind_eq_some_iff.mp e
        cases e
        obtain ⟨a, u, ha, hv, hu, ws, eu, qs⟩ := R3.at_ (RD.mono R2 x3 _ _ q2) hi (by intro z; cases z)
        subst eu hv
        cases q3
        refine ⟨a, ws, k0, j, rfl, rfl, hu, by rw [← qs.length]; exact e4, ?_⟩
        exact k r3 σ _ (((x1.trans x2).trans x3).trans (ext_set R3 ha)) (R3.set ha ⟨_, rfl, RDs.set (RD.mono R3 (ext_set R3 ha) _ _ (RD.mono R2 x3 _ _ (RD.mono R1 x2 _ _ q1))) j (RDs.mono R3 (ext_set R3 ha) _ _ qs)⟩) (S3.mono R3 (ext_set R3 ha))
      · cases e
     | _ => cases e
    | _ => cases e
theorem fs_aug {op : Operator} {f : Int → Int → Int} (ho : PIp X op (ipI f)) (hN : X.N.Nodup) (hi : X.N[i]? = some x) (hx : Loc X.env.scope x) (he : PE X e (tF X.K Av m)) (hf : X.fn x = true ∨ X.env.scope.names.lookup x = some .local := by first | exact .inl rfl | exact .inr rfl | assumption) :
    PS X (.AugAssign (.Name x pos') op e pos) (tFS X.K Av (s_aug f i m)) := PS.imp (ps_aug hN hi hx he ho hf) fun Dn σ H q => by
  obtain ⟨r, sl, h, fl, sl', h', R, S, e, k⟩ := q
  unfold s_aug at e
  split at e
  · rename_i a hd
    obtain ⟨⟨d1, h1⟩, e1, e⟩ := Option.bind_eq_some_iff.mp e
    obtain ⟨v, hv, rd⟩ := S.at_ _ _ hd
    cases rd
    refine ⟨_, hv, tF_go R S e1 fun r1 v1 H1 x1 R1 S1 q1 => ?_⟩
    dsimp only at e
    split at e
    · cases e
      cases q1
      exact ⟨a, _, rfl, rfl, k r1 _ H1 x1 R1 (S1.set i (.int _))⟩
    · cases e
  · cases e
theorem fs_par (hc : X.calm = true) (hN : X.N.Nodup) (hi : X.N[i]? = some x) (hj : X.N[j]? = some y) (hij : i ≠ j) (hx : X.env.scope.names.lookup x = some .local) (hy : X.env.scope.names.lookup y = some .local) (ha : PA X [a, b] (tFA X.K Av ms)) {pt2 : Pos}
    (hw : swappedStores [.Tuple [.Name x px, .Name y py] kt pt] (.Tuple [a, b] k2 pt2) X.env = pure (some [x, y]) := by rfl) (hs : swapsWithSole [.Tuple [.Name x px, .Name y py] kt pt] (.Tuple [a, b] k2 pt2) pos.line X.env = pure false := by rfl) :
    PS X (.Assign [.Tuple [.Name x px, .Name y py] kt pt] (.Tuple [a, b] k2 pt2) pos) (tFS X.K Av (s_par i j ms)) := PS.imp (ps_par hc hN hi hj hij hx hy ha hw hs) fun Dn σ H q => by
  obtain ⟨r, sl, h, fl, sl', h', R, S, e, k⟩ := q
  obtain ⟨⟨d1, h1⟩, e1, e⟩ := Option.bind_eq_some_iff.mp e
  refine tFA_go R S e1 fun r1 v1 H1 x1 R1 S1 q1 => ?_
  dsimp only at e
  split at e
  · cases e
    cases q1 with
    | cons p1 q1 =>
      cases q1 with
      | cons p2 q1 =>
        cases q1
        exact ⟨_, _, rfl, k r1 _ H1 x1 R1 ((S1.set i p1).set j p2)⟩
  · cases e
theorem fs_par3 (hc : X.calm = true) (hN : X.N.Nodup) (hi : X.N[i]? = some x) (hj : X.N[j]? = some y) (hl : X.N[l]? = some z) (hij : i ≠ j) (hil : i ≠ l) (hjl : j ≠ l) (hx : X.env.scope.names.lookup x = some .local) (hy : X.env.scope.names.lookup y = some .local) (hz : X.env.scope.names.lookup z = some .local) (ha : PA X [a, b, c] (tFA X.K Av ms)) {pt2 : Pos}
    (hw : swappedStores [.Tuple [.Name x px, .Name y py, .Name z pz] kt pt] (.Tuple [a, b, c] k2 pt2) X.env = pure (some [x, y, z]) := by rfl) (hs : swapsWithSole [.Tuple [.Name x px, .Name y py, .Name z pz] kt pt] (.Tuple [a, b, c] k2 pt2) pos.line X.env = pure false := by rfl) :
    PS X (.Assign [.Tuple [.Name x px, .Name y py, .Name z pz] kt pt] (.Tuple [a, b, c] k2 pt2) pos) (tFS X.K Av (s_par3 i j l ms)) := PS.imp (ps_par3 hc hN hi hj hl hij hil hjl hx hy hz ha hw hs) fun Dn σ H q => by
  obtain ⟨r, sl, h, fl, sl', h', R, S, e, k⟩ := q
  obtain ⟨⟨d1, h1⟩, e1, e⟩ := Option.bind_eq_some_iff.mp e
  refine tFA_go R S e1 fun r1 v1 H1 x1 R1 S1 q1 => ?_
  dsimp only at e
  split at e
  · cases e
    cases q1 with
    | cons p1 q1 =>
      cases q1 with
      | cons p2 q1 =>
        cases q1 with
        | cons p3 q1 =>
          cases q1
          exact ⟨_, _, _, rfl, k r1 _ H1 x1 R1 (((S1.set i p1).set j p2).set l p3)⟩
  · cases e
end
end HF
set_option Elab.async false
set_option linter.all false
set_option maxRecDepth 100000
set_option maxHeartbeats 1000000
namespace HF
open PySem PySem.Spec PyProof.Rows L2
/-! ### dicts -/
def keyD : Key → D
  | .inl i => .int i
  | .inr s => .str s
def keyOf : D → Option Key
  | .int i => some (.inl i)
  | .str s => some (.inr s)
  | _ => none
def keysOf : List D → Option (List Key)
  | [] => some []
  | d :: ds => (keyOf d).bind fun k => (keysOf ds).bind fun ks => some (k :: ks)
section
variable {K : PySem.W.Frag} {T : Addr → Prop} {H : Hp} {r : Rho}
theorem keyD_rd : ∀ k : Key, RD K T H r (keyD k) (kV k)
  | .inl i => .int i
  | .inr s => .str s
theorem keyOf_ok {d : D} {v : V} {k : Key} (q : RD K T H r d v) (e : keyOf d = some k) : v = kV k := by
  cases q with
  | int i => cases e; rfl
  | str s => cases e; rfl
  | _ => cases e
theorem keysOf_ok : ∀ {ds : List D} {vs : List V} {ks : List Key}, RDs K T H r ds vs → keysOf ds = some ks → vs = ks.map kV
  | [], _, _, .nil, e => by cases e; rfl
  | d :: ds, _, _, .cons q qs, e => by
    obtain ⟨k, e1, e⟩ := Option.bind_eq_some_iff.mp e
    obtain ⟨ks, e2, e⟩ := Option.bind_eq_some_iff.mp e
    cases e
    rw [keyOf_ok q e1, keysOf_ok qs e2]
    rfl
end
section
variable {κ : Type} [DecidableEq κ]
def lookG (k : κ) : List κ → List D → Option D
  | j :: js, x :: xs => if j = k then some x else lookG k js xs
  | _, _ => none
def updG (k : κ) (d : D) : List κ → List D → List D
  | j :: js, x :: xs => (if j = k then d else x) :: updG k d js xs
  | _, _ => []
def putKsG (k : κ) (ks : List κ) : List κ := if ks.contains k then ks else ks ++ [k]
def putVsG (k : κ) (d : D) (ks : List κ) (xs : List D) : List D := if ks.contains k then updG k d ks xs else xs ++ [d]
variable {K : PySem.W.Frag} {T : Addr → Prop} {H : Hp} {r : Rho}
theorem lookG_some {k : κ} : ∀ {kvs : List (κ × V)} {xs : List D} {d : D}, RDs K T H r xs (kvs.map (·.2)) → lookG k (kvs.map (·.1)) xs = some d → ∃ v, valV kvs k = some v ∧ RD K T H r d v
  | [], _, _, .nil, e => by cases e
  | (j, u) :: kvs, x :: xs, d, .cons q qs, e => by
    unfold lookG at e
    simp only [List.map_cons] at e
    by_cases hk : j = k
    · rw [if_pos hk] at e
      cases e
      exact ⟨u, valV_pos hk, q⟩
    · rw [if_neg hk] at e
      obtain ⟨v, h1, h2⟩ := lookG_some qs e
      exact ⟨v, by rw [valV_neg hk]; exact h1, h2⟩
theorem lookG_none {k : κ} : ∀ {kvs : List (κ × V)} {xs : List D}, RDs K T H r xs (kvs.map (·.2)) → lookG k (kvs.map (·.1)) xs = none → valV kvs k = none
  | [], _, .nil, e => rfl
  | (j, u) :: kvs, x :: xs, .cons q qs, e => by
    unfold lookG at e
    simp only [List.map_cons] at e
    by_cases hk : j = k
    · rw [if_pos hk] at e
      cases e
    · rw [if_neg hk] at e
      rw [valV_neg hk]
      exact lookG_none qs e
theorem lookG_is {k : κ} {kvs : List (κ × V)} {xs : List D} (q : RDs K T H r xs (kvs.map (·.2))) : (valV kvs k).isSome = (lookG k (kvs.map (·.1)) xs).isSome := by
  cases e : lookG k (kvs.map (·.1)) xs with
  | none => rw [lookG_none q e]; rfl
  | some d =>
    obtain ⟨v, h1, _⟩ := lookG_some q e
    rw [h1]
    rfl
theorem any_keys {k : κ} : ∀ kvs : List (κ × V), (kvs.any fun kv => decide (kv.1 = k)) = (kvs.map (·.1)).contains k
  | [] => rfl
  | (j, u) :: kvs => by
    rw [List.any_cons, any_keys kvs, List.map_cons, List.contains_cons]
    congr 1
    by_cases h : j = k
    · subst h; simp
    · have h2 : ¬ k = j := fun z => h z.symm
      simp [h, h2]
theorem putK_ks {k : κ} {v : V} (kvs : List (κ × V)) : (putK kvs k v).map (·.1) = putKsG k (kvs.map (·.1)) := by
  unfold putK putKsG
  rw [any_keys]
  split
  · rw [List.map_map]
    apply List.map_congr_left
    intro kv _
    show (if kv.1 = k then (kv.1, v) else kv).1 = kv.1
    split <;> rfl
  · rw [List.map_append]
    rfl
theorem updG_ok {k : κ} {d : D} {v : V} (q : RD K T H r d v) : ∀ {kvs : List (κ × V)} {xs : List D}, RDs K T H r xs (kvs.map (·.2)) → RDs K T H r (updG k d (kvs.map (·.1)) xs) ((kvs.map fun kv => if kv.1 = k then (kv.1, v) else kv).map (·.2))
  | [], _, .nil => .nil
  | (j, u) :: kvs, x :: xs, .cons p ps => by
    refine .cons ?_ (updG_ok q ps)
    show RD K T H r (if j = k then d else x) (if j = k then (j, v) else (j, u)).2
    split
    · exact q
    · exact p
theorem putK_vs {k : κ} {d : D} {v : V} (q : RD K T H r d v) {kvs : List (κ × V)} {xs : List D} (p : RDs K T H r xs (kvs.map (·.2))) : RDs K T H r (putVsG k d (kvs.map (·.1)) xs) ((putK kvs k v).map (·.2)) := by
  unfold putK putVsG
  rw [any_keys]
  split
  · exact updG_ok q p
  · rw [List.map_append]
    exact p.append (.cons q .nil)
end
def asK (h : List O) : D → Option (List Key × List D)
  | .dk ks xs => some (ks, xs)
  | .loc i => match h[i]? with
    | some (.dk ks xs) => some (ks, xs)
    | _ => none
  | _ => none
def asKT (h : List O) : D → Option (List (List Key) × List D)
  | .dt ks xs => some (ks, xs)
  | .loc i => match h[i]? with
    | some (.dt ks xs) => some (ks, xs)
    | _ => none
  | _ => none
section
variable {K : PySem.W.Frag} {Av : Addr → Prop} {H : Hp} {r : Rho} {h : List O} {d : D} {v : V}
theorem asK_ok {ks : List Key} {xs : List D} (R : Rep K Av r h H) (q : RD K (Tr Av r) H r d v) (e : asK h d = some (ks, xs)) : ∃ a kvs, v = .ref a ∧ Rd H a (.dK kvs) ∧ kvs.map (·.1) = ks ∧ RDs K (Tr Av r) H r xs (kvs.map (·.2)) := by
  cases q with
  | dk z n k qs => cases e; exact ⟨_, _, rfl, z, k, qs⟩
  | loc l z =>
    unfold asK at e
    dsimp only at e
    split at e
    · rename_i ks' xs' hi
      cases e
      obtain ⟨a, u, ha, hv, hu, kvs, eu, ek, qs⟩ := R.at_ (.loc l z) hi (by intro z; cases z)
      subst eu
      exact ⟨a, kvs, hv, .inl hu, ek, qs⟩
    · cases e
  | _ => cases e
theorem asKT_ok {ks : List (List Key)} {xs : List D} (R : Rep K Av r h H) (q : RD K (Tr Av r) H r d v) (e : asKT h d = some (ks, xs)) : ∃ a kvs, v = .ref a ∧ Rd H a (.dT kvs) ∧ kvs.map (·.1) = ks ∧ RDs K (Tr Av r) H r xs (kvs.map (·.2)) := by
  cases q with
  | dt z n k qs => cases e; exact ⟨_, _, rfl, z, k, qs⟩
  | loc l z =>
    unfold asKT at e
    dsimp only at e
    split at e
    · rename_i ks' xs' hi
      cases e
      obtain ⟨a, u, ha, hv, hu, kvs, eu, ek, qs⟩ := R.at_ (.loc l z) hi (by intro z; cases z)
      subst eu
      exact ⟨a, kvs, hv, .inl hu, ek, qs⟩
    · cases e
  | _ => cases e
end
def getD (x y : D) (h : List O) : Option (Option D) := match asK h x with
  | some (ks, xs) => (keyOf y).bind fun k => some (lookG k ks xs)
  | none => (asKT h x).bind fun p => match y with
    | .tup ys => (keysOf ys).bind fun k => some (lookG k p.1 p.2)
    | _ => none
theorem getD_ok {K : PySem.W.Frag} {Av : Addr → Prop} {H : Hp} {r : Rho} {h : List O} {x y : D} {vx vy : V} {o : Option D} (R : Rep K Av r h H) (q1 : RD K (Tr Av r) H r x vx) (q2 : RD K (Tr Av r) H r y vy) (e : getD x y h = some o) :
    ∃ a o', vx = .ref a ∧ DGet H a vy o' ∧ o'.isSome = o.isSome ∧ ∀ d, o = some d → ∃ v, o' = some v ∧ RD K (Tr Av r) H r d v := by
  unfold getD at e
  split at e
  · rename_i ks xs ex
    obtain ⟨k, ek, e⟩ := Option.bind_eq_some_iff.mp e
    cases e
    obtain ⟨a, kvs, ev, hr, hk, qs⟩ := asK_ok R q1 ex
    subst hk
    have hy := keyOf_ok q2 ek
    subst hy
    exact ⟨a, _, ev, .inl ⟨kvs, k, hr, rfl, rfl⟩, lookG_is qs, fun d ed => lookG_some qs ed⟩
  · obtain ⟨⟨ks, xs⟩, ex, e⟩ := Option.bind_eq_some_iff.mp e
    dsimp only at e
    split at e
    · obtain ⟨k, ek, e⟩ := Option.bind_eq_some_iff.mp e
      cases e
      obtain ⟨a, kvs, ev, hr, hk, qs⟩ := asKT_ok R q1 ex
      subst hk
      cases q2 with
      | tup z qt =>
        have hy := keysOf_ok qt ek
        subst hy
        exact ⟨a, _, ev, .inr ⟨kvs, k, _, hr, rfl, z, rfl⟩, lookG_is qs, fun d ed => lookG_some qs ed⟩
    · cases e
def f_dget : F2 := fun x y h => (getD x y h).bind fun o => o.bind fun d => some (d, h)
def f_inD : F2 := fun x y h => (getD y x h).bind fun o => some (.bl o.isSome, h)
def f_ninD : F2 := fun x y h => (getD y x h).bind fun o => some (.bl (!o.isSome), h)
def m_dn (t : Bool) : FE := fun _ h => some (.loc h.length, h ++ [if t then .dt [] [] else .dk [] []])
def s_dput (mv mo mi : FE) : FS := fun sl h => (mv sl h).bind fun p => (mo sl p.2).bind fun q => (mi sl q.2).bind fun z => match q.1 with
  | .loc i => (match z.2[i]? with
    | some (.dk ks xs) => if szOk ks.length then (keyOf z.1).bind fun k => some (.nx, sl, z.2.set i (.dk (putKsG k ks) (putVsG k p.1 ks xs))) else none
    | some (.dt ks xs) => if szOk ks.length then (match z.1 with
      | .tup ys => (keysOf ys).bind fun k => some (.nx, sl, z.2.set i (.dt (putKsG k ks) (putVsG k p.1 ks xs)))
      | _ => none) else none
    | _ => none)
  | _ => none
section
variable {X : Cx} {Av : Addr → Prop} {o i e a b : Expr} {pos pos' : Pos} {mo mi mv ma mb : FE}
theorem fe_dget (hu : X.A.units + 1 < cLine) (ho : PE X o (tF X.K Av mo)) (hi : PE X i (tF X.K Av mi)) (hs : NoSl i := by intro _ _; rfl) : PE X (.Subscript o i pos) (tF X.K Av (m_bin f_dget mo mi)) := PE.imp (pe_dget hu ho hi hs) fun σ H Q q => by
  obtain ⟨r, sl, h, d, h', R, S, e, k⟩ := q
  obtain ⟨⟨d1, h1⟩, e1, e⟩ := Option.bind_eq_some_iff.mp e
  obtain ⟨⟨d2, h2⟩, e2, e⟩ := Option.bind_eq_some_iff.mp e
  obtain ⟨o, e3, e⟩ := Option.bind_eq_some_iff.mp e
  obtain ⟨d3, e4, e⟩ := Option.bind_eq_some_iff.mp e
  cases e
  refine tF_go R S e1 fun r1 v1 H1 x1 R1 S1 q1 => tF_go R1 S1 e2 fun r2 v2 H2 x2 R2 S2 q2 => ?_
  obtain ⟨a, o', ev, dg, _, hd⟩ := getD_ok R2 (RD.mono R1 x2 _ _ q1) q2 e3
  obtain ⟨v, eo, rd⟩ := hd _ e4
  subst eo
  exact ⟨a, v, ev, dg, k r2 v H2 (x1.trans x2) R2 rd⟩
theorem inD_go {K : PySem.W.Frag} {g : Bool → Bool} {σ : L2.St} {H : Hp} {Q : VK} (q : tF K Av (m_bin (fun x y h => (getD y x h).bind fun o => some (.bl (g o.isSome), h)) ma mb) σ H Q) : tF K Av ma σ H fun y H1 => tF K Av mb σ H1 fun x H2 => ∃ a o, x = .ref a ∧ DGet H2 a y o ∧ Q (.bl (g o.isSome)) H2 := by
  obtain ⟨r, sl, h, d, h', R, S, e, k⟩ := q
  obtain ⟨⟨d1, h1⟩, e1, e⟩ := Option.bind_eq_some_iff.mp e
  obtain ⟨⟨d2, h2⟩, e2, e⟩ := Option.bind_eq_some_iff.mp e
  obtain ⟨o, e3, e⟩ := Option.bind_eq_some_iff.mp e
  cases e
  refine tF_go R S e1 fun r1 v1 H1 x1 R1 S1 q1 => tF_go R1 S1 e2 fun r2 v2 H2 x2 R2 S2 q2 => ?_
  obtain ⟨a, o', ev, dg, hs, hd⟩ := getD_ok R2 q2 (RD.mono R1 x2 _ _ q1) e3
  exact ⟨a, o', ev, dg, by rw [hs]; exact k r2 _ H2 (x1.trans x2) R2 (.bl _)⟩
theorem fe_inD (hu : X.A.units + 1 < cLine) (ha : PE X a (tF X.K Av ma)) (hb : PE X b (tF X.K Av mb)) (hm : behindInMarks .In b = false := by rfl) : PE X (.Compare a [.In] [b] pos) (tF X.K Av (m_bin f_inD ma mb)) := PE.imp (pe_cmp (pc_din hu ha hb) hm) fun _ _ _ q => inD_go (g := id) q
theorem fe_ninD (hu : X.A.units + 1 < cLine) (ha : PE X a (tF X.K Av ma)) (hb : PE X b (tF X.K Av mb)) (hm : behindInMarks .NotIn b = false := by rfl) : PE X (.Compare a [.NotIn] [b] pos) (tF X.K Av (m_bin f_ninD ma mb)) := PE.imp (pe_cmp (pc_dnotin hu ha hb) hm) fun _ _ _ q => inD_go (g := not) q
theorem ft_inD (hu : X.A.units + 1 < cLine) (ha : PE X a (tF X.K Av ma)) (hb : PE X b (tF X.K Av mb)) (hm : behindInMarks .In b = false := by rfl) : PT X (.Compare a [.In] [b] pos) (tFT X.K Av (m_t (m_bin f_inD ma mb))) := PT.imp (pt_cmp (pc_din hu ha hb) hm) fun σ H Q q => by
  obtain ⟨r, sl, h, c, h', R, S, e, k⟩ := q
  exact inD_go (g := id) (Q := fun v H1 => ∃ b, v = V.bl b ∧ Q b H1) (tF_go R S (m_t_some e) fun r1 v1 H1 x1 R1 S1 q1 => ⟨c, rd_bl q1, k r1 H1 x1 R1⟩)
theorem ft_ninD (hu : X.A.units + 1 < cLine) (ha : PE X a (tF X.K Av ma)) (hb : PE X b (tF X.K Av mb)) (hm : behindInMarks .NotIn b = false := by rfl) : PT X (.Compare a [.NotIn] [b] pos) (tFT X.K Av (m_t (m_bin f_ninD ma mb))) := PT.imp (pt_cmp (pc_dnotin hu ha hb) hm) fun σ H Q q => by
  obtain ⟨r, sl, h, c, h', R, S, e, k⟩ := q
  exact inD_go (g := not) (Q := fun v H1 => ∃ b, v = V.bl b ∧ Q b H1) (tF_go R S (m_t_some e) fun r1 v1 H1 x1 R1 S1 q1 => ⟨c, rd_bl q1, k r1 H1 x1 R1⟩)
theorem push_loc {K : PySem.W.Frag} {r : Rho} {h : List O} {H : Hp} {p : Addr} {u : HO} (R : Rep K Av r h H) : RD K (Tr Av (r ++ [some p])) (upd H p u) (r ++ [some p]) (.loc h.length) (.ref p) := .loc (by simp [R.len]) fun a ea => by
  rw [← R.len, List.getElem?_append_right (Nat.le_refl _)] at ea
  simp at ea
  rw [ea]
theorem fe_dnK : PE X (.Dict [] [] pos) (tF X.K Av (m_dn false)) := PE.imp pe_dnewK fun σ H Q q => by
  obtain ⟨r, sl, h, d, h', R, S, e, k⟩ := q
  cases e
  exact fun p hp => k (r ++ [some p]) _ _ (ext_push hp) (R.push hp ⟨[], rfl, rfl, .nil⟩) (push_loc R)
theorem fe_dnT : PE X (.Dict [] [] pos) (tF X.K Av (m_dn true)) := PE.imp pe_dnewT fun σ H Q q => by
  obtain ⟨r, sl, h, d, h', R, S, e, k⟩ := q
  cases e
  exact fun p hp => k (r ++ [some p]) _ _ (ext_push hp) (R.push hp ⟨[], rfl, rfl, .nil⟩) (push_loc R)
theorem fs_dput (hu : X.A.units + 1 < cLine) (hv : PE X e (tF X.K Av mv)) (ho : PE X o (tF X.K Av mo)) (hi : PE X i (tF X.K Av mi)) (hs : swapsWith e (some (.Subscript o i pos')) pos.line X.env = pure false := by rfl) :
    PS X (.Assign [.Subscript o i pos'] e pos) (tFS X.K Av (s_dput mv mo mi)) := PS.imp (ps_dput hu ho hi hv hs) fun Dn σ H q => by
  obtain ⟨r, sl, h, f, sl', h', R, S, e, k⟩ := q
  obtain ⟨⟨d1, h1⟩, e1, e⟩ := Option.bind_eq_some_iff.mp e
  obtain ⟨⟨d2, h2⟩, e2, e⟩ := Option.bind_eq_some_iff.mp e
  obtain ⟨⟨d3, h3⟩, e3, e⟩ := Option.bind_eq_some_iff.mp e
  refine tF_go R S e1 fun r1 v1 H1 x1 R1 S1 q1 => tF_go R1 S1 e2 fun r2 v2 H2 x2 R2 S2 q2 => tF_go R2 S2 e3 fun r3 v3 H3 x3 R3 S3 q3 => ?_
  have q1' := RD.mono R2 x3 _ _ (RD.mono R1 x2 _ _ q1)
  have q2' := RD.mono R2 x3 _ _ q2
  have x123 := (x1.trans x2).trans x3
  cases d2 with
  | loc j =>
    dsimp only at e
    split at e
    · rename_i ks xs hj
      split at e
      · rename_i hz
        obtain ⟨k0, ek, e⟩ := Option.bind_eq_some_iff.mp e
        cases e
        obtain ⟨a, u, ha, hv, hu, kvs, eu, ekk, qs⟩ := R3.at_ q2' hj (by intro z; cases z)
        subst eu hv ekk
        have hy := keyOf_ok q3 ek
        subst hy
        rw [List.length_map] at hz
        refine ⟨a, _, rfl, .inl ⟨kvs, k0, hu, rfl, szOk_lt hz, rfl⟩, k r3 σ _ (x123.trans (ext_set R3 ha)) (R3.set ha ⟨_, rfl, putK_ks kvs, ?_⟩) (S3.mono R3 (ext_set R3 ha))⟩
        exact putK_vs (RD.mono R3 (ext_set R3 ha) _ _ q1') (RDs.mono R3 (ext_set R3 ha) _ _ qs)
      · cases e
    · rename_i ks xs hj
      split at e
      · rename_i hz
        cases d3 with
        | tup ys =>
          obtain ⟨k0, ek, e⟩ := Option.bind_eq_some_iff.mp (show (keysOf ys).bind _ = some (f, sl', h') from e)
          cases e
          obtain ⟨a, u, ha, hv, hu, kvs, eu, ekk, qs⟩ := R3.at_ q2' hj (by intro z; cases z)
          subst eu hv ekk
          rw [List.length_map] at hz
          cases q3 with
          | tup zt qt =>
            have hy := keysOf_ok qt ek
            subst hy
            refine ⟨a, _, rfl, .inr ⟨kvs, k0, _, hu, rfl, zt, szOk_lt hz, rfl⟩, k r3 σ _ (x123.trans (ext_set R3 ha)) (R3.set ha ⟨_, rfl, putK_ks kvs, ?_⟩) (S3.mono R3 (ext_set R3 ha))⟩
            exact putK_vs (RD.mono R3 (ext_set R3 ha) _ _ q1') (RDs.mono R3 (ext_set R3 ha) _ _ qs)
        | _ => cases e
      · cases e
    · cases e
  | _ => cases e
end
/-! ### more to walk -/
def enumF : Nat → List D → List D
  | _, [] => []
  | k, x :: xs => .tup [.int (k : Nat), x] :: enumF (k + 1) xs
theorem enumF_get : ∀ (xs : List D) (k i : Nat), (enumF k xs)[i]? = (xs[i]?).map fun d => .tup [.int ((k + i : Nat) : Int), d]
  | [], _, _ => by simp [enumF]
  | x :: xs, k, 0 => by simp [enumF]
  | x :: xs, k, i + 1 => by
    simp only [enumF, List.getElem?_cons_succ]
    rw [enumF_get xs (k + 1) i]
    congr 2
    funext d
    congr 4
    omega
theorem enumF_len : ∀ (xs : List D) (k : Nat), (enumF k xs).length = xs.length
  | [], _ => rfl
  | x :: xs, k => congrArg (· + 1) (enumF_len xs (k + 1))
def zipF (xs ys : List D) : List D := List.zipWith (fun a b => .tup [a, b]) xs ys
def signF (z : Str) : List D := z.cps.toList.map fun c => .str ⟨#[c]⟩
section
variable {K : PySem.W.Frag}
theorem src_enum (a : Addr) (ds : List D) : SrcOk K (Ite K a) (fun Av r H => ∃ vs, Rd H a (.lst vs) ∧ ¬ Tr Av r a ∧ RDs K (Tr Av r) H r ds vs) (enumF 0 ds) where
  mono := (src_list a).mono
  grow := (src_list a).grow
  go := fun Av r h H i d hd R ⟨vs, q, n, qs⟩ => by
    rw [enumF_get] at hd
    obtain ⟨d0, hd0, e0⟩ := Option.map_eq_some_iff.mp hd
    obtain ⟨v, hv, rd⟩ := RDs.get qs hd0
    refine ⟨⟨vs, v, .inl q, hv⟩, fun x H' ⟨T, y, ex, hT, eH, hx⟩ => ?_⟩
    subst eH ex e0
    have := hx vs (.inl q)
    rw [hv] at this
    cases this
    refine ⟨Ext.new1 hT, R.new1 hT, ?_⟩
    rw [Nat.zero_add]
    exact rd_tup R hT (.cons (.int _) (.cons rd .nil))
  stop := fun Av r h H R ⟨vs, q, n, qs⟩ => ⟨vs, .inl q, by rw [enumF_len, qs.length]; exact Nat.le_refl _⟩
theorem src_zipL (a b : Addr) (ds es : List D) : SrcOk K (Itz K a b) (fun Av r H => (∃ vs, Rd H a (.lst vs) ∧ ¬ Tr Av r a ∧ RDs K (Tr Av r) H r ds vs) ∧ ∃ vs, Rd H b (.lst vs) ∧ ¬ Tr Av r b ∧ RDs K (Tr Av r) H r es vs) (zipF ds es) where
  mono := fun Av r r' H H' L q => ⟨(src_list a (ds := ds)).mono _ _ _ _ _ L q.1, (src_list b (ds := es)).mono _ _ _ _ _ L q.2⟩
  grow := fun Av r H D0 u hD q => ⟨(src_list a (ds := ds)).grow _ _ _ _ _ hD q.1, (src_list b (ds := es)).grow _ _ _ _ _ hD q.2⟩
  go := fun Av r h H i d hd R ⟨⟨vs, q, n, qs⟩, ⟨ws, p, m, ps⟩⟩ => by
    unfold zipF at hd
    rw [List.getElem?_zipWith] at hd
    cases hx : ds[i]? with
    | none => rw [hx] at hd; cases hd
    | some dx =>
      cases hy : es[i]? with
      | none => rw [hx, hy] at hd; cases hd
      | some dy =>
        rw [hx, hy] at hd
        cases hd
        obtain ⟨v, hv, rd⟩ := RDs.get qs hx
        obtain ⟨u, hu, rd2⟩ := RDs.get ps hy
        refine ⟨⟨vs, ws, v, u, .inl q, .inl p, hv, hu⟩, fun x H' ⟨T, y1, y2, ex, hT, eH, h1, h2⟩ => ?_⟩
        subst eH ex
        have a1 := h1 vs (.inl q)
        have a2 := h2 ws (.inl p)
        rw [hv] at a1
        rw [hu] at a2
        cases a1
        cases a2
        exact ⟨Ext.new1 hT, R.new1 hT, rd_tup R hT (.cons rd (.cons rd2 .nil))⟩
  stop := fun Av r h H R ⟨⟨vs, q, n, qs⟩, ⟨ws, p, m, ps⟩⟩ => ⟨vs, ws, .inl q, .inl p, by
    unfold zipF
    rw [List.length_zipWith, qs.length, ps.length]
    omega⟩
theorem src_zipT (a b : Addr) (ds es : List D) : SrcOk K (RZ.ItzT K a b) (fun Av r H => (∃ vs, SqT K H a vs ∧ RDs K (Tr Av r) H r ds vs) ∧ ∃ vs, SqT K H b vs ∧ RDs K (Tr Av r) H r es vs) (zipF ds es) where
  mono := fun Av r r' H H' L q => ⟨(src_tup a (ds := ds)).mono _ _ _ _ _ L q.1, (src_tup b (ds := es)).mono _ _ _ _ _ L q.2⟩
  grow := fun Av r H D0 u hD q => ⟨(src_tup a (ds := ds)).grow _ _ _ _ _ hD q.1, (src_tup b (ds := es)).grow _ _ _ _ _ hD q.2⟩
  go := fun Av r h H i d hd R ⟨⟨vs, q, qs⟩, ⟨ws, p, ps⟩⟩ => by
    unfold zipF at hd
    rw [List.getElem?_zipWith] at hd
    cases hx : ds[i]? with
    | none => rw [hx] at hd; cases hd
    | some dx =>
      cases hy : es[i]? with
      | none => rw [hx, hy] at hd; cases hd
      | some dy =>
        rw [hx, hy] at hd
        cases hd
        obtain ⟨v, hv, rd⟩ := RDs.get qs hx
        obtain ⟨u, hu, rd2⟩ := RDs.get ps hy
        refine ⟨⟨vs, ws, v, u, q, p, hv, hu⟩, fun x H' ⟨T, y1, y2, ex, hT, eH, h1, h2⟩ => ?_⟩
        subst eH ex
        have a1 := h1 vs q
        have a2 := h2 ws p
        rw [hv] at a1
        rw [hu] at a2
        cases a1
        cases a2
        exact ⟨Ext.new1 hT, R.new1 hT, rd_tup R hT (.cons rd (.cons rd2 .nil))⟩
  stop := fun Av r h H R ⟨⟨vs, q, qs⟩, ⟨ws, p, ps⟩⟩ => ⟨vs, ws, q, p, by
    unfold zipF
    rw [List.length_zipWith, qs.length, ps.length]
    omega⟩
theorem src_str (z : Str) : SrcOk K (Its z) (fun _ _ _ => True) (signF z) where
  mono := fun _ _ _ _ _ _ _ => trivial
  grow := fun _ _ _ _ _ _ _ => trivial
  go := fun Av r h H i d hd R _ => by
    unfold signF at hd
    rw [List.getElem?_map] at hd
    obtain ⟨c, hc, ed⟩ := Option.map_eq_some_iff.mp hd
    have hl : i < z.cps.size := by have := getOpt hc; simpa using this
    refine ⟨hl, fun x H' ⟨eH, c', hc', ex⟩ => ?_⟩
    subst eH ex ed
    have : z.cps[i]? = some c := by simpa using hc
    rw [this] at hc'
    cases hc'
    exact ⟨Ext.refl _ _, R, .str _⟩
  stop := fun Av r h H R _ => by
    show z.cps.size ≤ _
    simp [signF]
theorem src_keys (d : Addr) (od : Obj) (kvs : List (Key × V)) : SrcOk K (Itk d od kvs) (fun Av r H => H d = some (.frz od (.dK kvs)) ∧ ¬ Tr Av r d) (kvs.map fun kv => keyD kv.1) where
  mono := fun Av r r' H H' L ⟨q, n⟩ => ⟨L.k d _ q n, L.t d ⟨_, q⟩ n⟩
  grow := fun Av r H D0 u hD ⟨q, n⟩ => ⟨(lean_grow hD).k d _ q n, (lean_grow (u := u) hD).t d ⟨_, q⟩ n⟩
  go := fun Av r h H i d0 hd R ⟨q, n⟩ => by
    rw [List.getElem?_map] at hd
    obtain ⟨kv, hk, ed⟩ := Option.map_eq_some_iff.mp hd
    refine ⟨⟨q, getOpt hk⟩, fun x H' ⟨eH, k, v, hkv, ex⟩ => ?_⟩
    subst eH ex ed
    rw [hk] at hkv
    cases hkv
    exact ⟨Ext.refl _ _, R, keyD_rd k⟩
  stop := fun Av r h H R ⟨q, n⟩ => ⟨q, by rw [List.length_map]; exact Nat.le_refl _⟩
end
def i_e (ms : FA) : FA := fun sl h => (ms sl h).bind fun p => match p.1 with
  | [.fl xs] => some (enumF 0 xs, p.2)
  | [.fz xs] => some (enumF 0 xs, p.2)
  | _ => none
def i_z (ms : FA) : FA := fun sl h => (ms sl h).bind fun p => match p.1 with
  | [.fl xs, .fl ys] => some (zipF xs ys, p.2)
  | [.tup xs, .tup ys] => some (zipF xs ys, p.2)
  | _ => none
def i_s (m : FE) : FA := fun sl h => (m sl h).bind fun p => match p.1 with
  | .str z => some (signF z, p.2)
  | _ => none
def rgD (i j : Int) : List D := (List.range (j - i).toNat).map fun k => D.int (i + (k : Nat))
def m_lr (ma mb : FE) : FE := fun sl h => (ma sl h).bind fun p => (mb sl p.2).bind fun q => match p.1, q.1 with
  | .int i, .int j => if ((decide (-(2 ^ 62) ≤ i) && decide (i < 2 ^ 62)) && (decide (-(2 ^ 62) ≤ j) && decide (j < 2 ^ 62))) && decide ((j - i).toNat ≤ 2 ^ 24) then some (.fl (rgD i j), q.2) else none
  | _, _ => none
def g_l (n : Nat) (gs : FGs) : FG := fun d sl => match d with
  | .fl ds => if ds.length = n then gs ds sl else none
  | .fz ds => if ds.length = n then gs ds sl else none
  | _ => none
section
variable {X : Cx} {Av : Addr → Prop} {pos p p2 tpos : Pos} {tg e a b : Expr} {elts es : List Expr} {kk : Nat} {m ma mb : FE} {ms : FA}
theorem fi_e (hg : Gl X "enumerate") (hm : X.mg "enumerate" = none) (ha : PA X [e] (tFA X.K Av ms)) (hs : starEach [e] X.env = [(false, eval e X.env)] := by rfl) : PI X (.Tuple elts kk tpos) (.Call (.Name "enumerate" p) [e] [] pos) (tFI X.K Av (i_e ms)) := PI.imp (pi_enum hg hm ha hs) fun σ H Q ⟨r, sl, h, ds, h', R, S, e, k⟩ => by
  obtain ⟨⟨d1, h1⟩, e1, e⟩ := Option.bind_eq_some_iff.mp e
  refine tFA_go R S e1 fun r1 v H1 x1 R1 S1 q1 => ?_
  dsimp only at e
  split at e
  · cases e
    cases q1 with
    | cons q qn =>
      cases qn
      cases q with
      | fl z n qs => exact ⟨_, _, rfl, SqL.of z, k r1 H1 _ _ x1 R1 (src_enum _ _) ⟨_, .inl z, n, qs⟩⟩
  · cases e
    cases q1 with
    | cons q qn =>
      cases qn
      cases q with
      | fz z n qs => exact ⟨_, _, rfl, .inl z, k r1 H1 _ _ x1 R1 (src_enum _ _) ⟨_, z, n, qs⟩⟩
  · cases e
theorem fi_z (hg : Gl X "zip") (hm : X.mg "zip" = none) (ha : PA X [a, b] (tFA X.K Av ms)) (hs : starEach [a, b] X.env = (false, eval a X.env) :: starEach [b] X.env := by rfl) (hpl : (backTo pos (starEach [b] X.env)).any (·.1) = false := by rfl) :
    PI X (.Tuple elts kk tpos) (.Call (.Name "zip" p) [a, b] [] pos) (tFI X.K Av (i_z ms)) := PI.imp (RZ.pi_zipA hg hm ha hs hpl) fun σ H Q ⟨r, sl, h, ds, h', R, S, e, k⟩ => by
  obtain ⟨⟨d1, h1⟩, e1, e⟩ := Option.bind_eq_some_iff.mp e
  refine tFA_go R S e1 fun r1 v H1 x1 R1 S1 q1 => ?_
  dsimp only at e
  split at e
  · cases e
    cases q1 with
    | cons q qn =>
      cases qn with
      | cons q' qn =>
        cases qn
        cases q with
        | fl z n qs =>
          cases q' with
          | fl z' n' qs' => exact ⟨_, _, _, _, rfl, .inl ⟨SqL.of z, SqL.of z', k r1 H1 _ _ x1 R1 (src_zipL _ _ _ _) ⟨⟨_, .inl z, n, qs⟩, ⟨_, .inl z', n', qs'⟩⟩⟩⟩
  · cases e
    cases q1 with
    | cons q qn =>
      cases qn with
      | cons q' qn =>
        cases qn
        cases q with
        | tup z qs =>
          cases q' with
          | tup z' qs' => exact ⟨_, _, _, _, rfl, .inr ⟨SqT.of z, SqT.of z', k r1 H1 _ _ x1 R1 (src_zipT _ _ _ _) ⟨⟨_, SqT.of z, qs⟩, ⟨_, SqT.of z', qs'⟩⟩⟩⟩
  · cases e
theorem fi_s (he : PE X e (tF X.K Av m)) : PI X tg e (tFI X.K Av (i_s m)) := PI.imp (pi_str he) fun σ H Q ⟨r, sl, h, ds, h', R, S, e, k⟩ => by
  obtain ⟨⟨d1, h1⟩, e1, e⟩ := Option.bind_eq_some_iff.mp e
  refine tF_go R S e1 fun r1 v H1 x1 R1 S1 q1 => ?_
  dsimp only at e
  cases q1 with
  | str z => cases e; exact ⟨z, rfl, k r1 H1 _ _ x1 R1 (src_str z) trivial⟩
  | _ => cases e
theorem rds_rg {K : PySem.W.Frag} {T : Addr → Prop} {H : Hp} {r : Rho} (i : Int) : ∀ l : List Nat, RDs K T H r (l.map fun k => D.int (i + (k : Nat))) (l.map fun k => V.int (i + (k : Nat)))
  | [] => .nil
  | _ :: l => .cons (.int _) (rds_rg i l)
theorem fe_lr (hc : X.calm = true) (hg : Gl X "list") (hm : X.mg "list" = none) (hg2 : Gl X "range") (hm2 : X.mg "range" = none) (ha : PE X a (tF X.K Av ma)) (hb : PE X b (tF X.K Av mb)) (na : starEach [a, b] X.env = (false, eval a X.env) :: starEach [b] X.env := by rfl) (nb : starEach [b] X.env = (false, eval b X.env) :: starEach [] X.env := by rfl)
    (hpl : (backTo pos (starEach [b] X.env)).any (·.1) = false := by rfl) (nc : starEach [.Call (.Name "range" p2) [a, b] [] pos] X.env = (false, eval (.Call (.Name "range" p2) [a, b] [] pos) X.env) :: starEach [] X.env := by rfl) {pos2 : Pos} : PE X (.Call (.Name "list" p) [.Call (.Name "range" p2) [a, b] [] pos] [] pos2) (tF X.K Av (m_lr ma mb)) :=
  PE.imp (pe_listRg hc hg hm (prg_2 hg2 hm2 ha hb na nb hpl) nc) fun σ H Q q => by
    obtain ⟨r, sl, h, d, h', R, S, e, k⟩ := q
    obtain ⟨⟨d1, h1⟩, e1, e⟩ := Option.bind_eq_some_iff.mp e
    obtain ⟨⟨d2, h2⟩, e2, e⟩ := Option.bind_eq_some_iff.mp e
    refine tF_go R S e1 fun r1 v1 H1 x1 R1 S1 q1 => tF_go R1 S1 e2 fun r2 v2 H2 x2 R2 S2 q2 => ?_
    cases d1 with
    | int i =>
      cases d2 with
      | int j =>
        dsimp only at e
        split at e
        · rename_i hz
          cases e
          cases q1
          cases q2
          have h0 := Bool.and_eq_true_iff.mp hz
          have h1 := Bool.and_eq_true_iff.mp h0.1
          have h2 := Bool.and_eq_true_iff.mp h1.1
          have h3 := Bool.and_eq_true_iff.mp h1.2
          exact ⟨i, j, rfl, rfl, ⟨of_decide_eq_true h2.1, of_decide_eq_true h2.2, of_decide_eq_true h3.1, of_decide_eq_true h3.2, of_decide_eq_true h0.2⟩, fun q hq => k r2 _ _ ((x1.trans x2).trans (Ext.new1 hq)) (R2.new1 hq) (rd_fl R2 hq (rds_rg i _))⟩
        · cases e
      | _ => cases e
    | _ => cases e
theorem fg_l {k0 n : Nat} {gs : FGs} {is : List Nat} (hc : X.calm = true) (h : PGs X es (tFGs X.K Av is gs)) (hn : (assignEach es X.env).length = n := by rfl) (hst : (assignEach es X.env).findIdx? (·.1) = none := by rfl) : PG X (.Tuple es k0 pos) (tFG X.K Av is (g_l n gs)) :=
  PG.imp (pg_unl hc h hn hst) fun v σ H Q ⟨r, sl, h, d, sl', R, S, q, e, k⟩ => by
    cases q with
    | fl sq nt qs =>
      unfold g_l at e
      dsimp only at e
      split at e
      · rename_i hl
        exact ⟨_, _, rfl, SqL.of sq, by rw [← qs.length, hl], r, sl, h, _, sl', R, S, qs, e, k⟩
      · cases e
    | fz sq nt qs =>
      unfold g_l at e
      dsimp only at e
      split at e
      · rename_i hl
        exact ⟨_, _, rfl, .inl sq, by rw [← qs.length, hl], r, sl, h, _, sl', R, S, qs, e, k⟩
      · cases e
    | _ => cases e
end
end HF
set_option Elab.async false
set_option linter.all false
set_option maxRecDepth 100000
set_option maxHeartbeats 1000000
namespace HF
open PySem PySem.Spec PyProof.Rows L2
section
variable {X : Cx} {Av : Addr → Prop} {k : Nat} {f : Addr} {cm : CM} {c0 : Str}
theorem run_at {A' : Around} {E' : Value → Shared → Prop} {pins : List (Addr × Obj)} {σ : L2.St} {H : Hp} {s : Shared} {Q : VK} {us ws : List Value} {vs zs : List V} {ks : List Str} (F : FnB X.prog X.w X.K X.mg X.base k f cm) (hr : Room k A') (e0 : Env0 X.prog X.w X.K X.mg X.base A' X.stack s H) (I : Inv X pins σ H s) (r : Vals vs us) (rz : Vals zs ws) (hl : ks.length = zs.length) (h : spB X.K cm ks vs zs H Q) :
    wpAny (model X.prog X.w) A' (call (.ref f) us (ks.zip ws)) (EP X pins σ Q) E' s := by
  refine wpAny_call (codeAny_mono (F A' X.stack s H us ws vs zs ks Q hr e0 r rz hl h) fun rr s' hq => ?_)
  cases rr with
  | error e => exact False.elim hq
  | ok fl =>
    cases fl with
    | ret u => exact I.after hq
    | next => exact False.elim hq
    | brk => exact False.elim hq
    | cont => exact False.elim hq
theorem spB_of {r : Rho} {h h1 : List O} {H : Hp} {ds : List D} {d1 : D} {vs : List V} {Q : VK} (R : Rep X.K Av r h H) (qs : RDs X.K (Tr Av r) H r ds vs) (e : cm ds [] h = some (d1, h1)) (k : ∀ r' v H', Ext r H r' H' → Rep X.K Av r' h1 H' → RD X.K (Tr Av r') H' r' d1 v → Q v H') : spB X.K cm [] vs [] H Q :=
  ⟨Av, r, ds, [], h, d1, h1, R, qs, .nil, e, k⟩
/-! ### in an own object -/
def rOwnIn (K : PySem.W.Frag) (c0 : Str) (cm : CM) (g : Bool → Bool) : R2 := fun x y H Q => ∃ a dx fs, y = .ref a ∧ H a = some (.ins (He.ga K c0) dx fs) ∧ spB K cm [] [y, x] [] H fun v H' => ∃ b, v = .bl b ∧ Q (.bl (g b)) H'
theorem op_ownIn (m : Meth X.K (He.ga X.K c0) "__contains__" f) (F : FnB X.prog X.w X.K X.mg X.base k f cm) (hr : Room k X.A) : OpR X (compareOp .In) (rOwnIn X.K c0 cm id) := fun pins s σ H x y v u Q I rx ry h => by
  obtain ⟨a, dx, fs, ey, ha, q⟩ := h
  subst ey
  cases ry
  obtain ⟨mA, J, _⟩ := ins_get I.hok ha
  obtain ⟨od, J, _⟩ := J.look
  obtain ⟨m0, hF⟩ := I.fr
  refine PySem.W.in_K hF I.ok.mod.kin J m.at_ m.fn (wpAny_mono (run_at (us := [.ref a, v]) (ws := []) (vs := [.ref a, x]) (zs := []) F hr I.env0 I (.cons rfl (.cons rx .nil)) .nil rfl q) (fun w s' z => ?_) fun _ _ z => z)
  obtain ⟨z', H', I', rz, b, eb, qz⟩ := z
  subst eb
  cases (show w = Value.bool b from rz)
  exact wpAny_truthy_bool ⟨.bl b, H', I', rfl, qz⟩
theorem op_ownNin (m : Meth X.K (He.ga X.K c0) "__contains__" f) (F : FnB X.prog X.w X.K X.mg X.base k f cm) (hr : Room k X.A) : OpR X (compareOp .NotIn) (rOwnIn X.K c0 cm not) := fun pins s σ H x y v u Q I rx ry h => by
  obtain ⟨a, dx, fs, ey, ha, q⟩ := h
  subst ey
  cases ry
  obtain ⟨mA, J, _⟩ := ins_get I.hok ha
  obtain ⟨od, J, _⟩ := J.look
  obtain ⟨m0, hF⟩ := I.fr
  refine PySem.W.notIn_K hF I.ok.mod.kin J m.at_ m.fn (wpAny_mono (run_at (us := [.ref a, v]) (ws := []) (vs := [.ref a, x]) (zs := []) F hr I.env0 I (.cons rfl (.cons rx .nil)) .nil rfl q) (fun w s' z => ?_) fun _ _ z => z)
  obtain ⟨z', H', I', rz, b, eb, qz⟩ := z
  subst eb
  cases (show w = Value.bool b from rz)
  exact wpAny_truthy_bool ⟨.bl (!b), H', I', rfl, qz⟩
def f_ownIn (c0 : Str) (cm : CM) (g : Bool → Bool) : F2 := fun x y h => (asI h y).bind fun q => if q.1 = c0 then (cm [y, x] [] h).bind fun p => match p.1 with
    | .bl b => some (.bl (g b), p.2)
    | _ => none
  else none
theorem of_ownIn {g : Bool → Bool} : OpF X.K Av (f_ownIn c0 cm g) (rOwnIn X.K c0 cm g) := fun r h h' H x y d vx vy Q R q1 q2 e k => by
  obtain ⟨⟨c, ks, xs⟩, e1, ea⟩ := Option.bind_eq_some_iff.mp e
  clear e
  dsimp only at ea
  by_cases hc : c = c0
  · rw [if_pos hc] at ea
    subst hc
    obtain ⟨⟨d1, h1⟩, e2, eb⟩ := Option.bind_eq_some_iff.mp ea
    clear ea
    cases d1 with
    | bl b0 =>
      cases eb
      obtain ⟨a, dx, fs, ev, ha, ek, qs⟩ := asI_ok R q2 e1
      refine ⟨a, dx, fs, ev, ha, spB_of R (.cons q2 (.cons q1 .nil)) e2 fun r' v H' x' R' rd => ⟨_, rd_bl rd, k r' _ H' x' R' (.bl _)⟩⟩
    | _ => cases eb
  · rw [if_neg hc] at ea
    cases ea
/-! ### own == and != of two objects of one class -/
def rOwn2 (K : PySem.W.Frag) (c0 : Str) (cm : CM) (g : Bool → Bool) : R2 := fun x y H Q => ∃ a dx fs b dy gs, x = .ref a ∧ H a = some (.ins (He.ga K c0) dx fs) ∧ y = .ref b ∧ H b = some (.ins (He.ga K c0) dy gs) ∧ spB K cm [] [x, y] [] H fun v H' => ∃ b, v = .bl b ∧ Q (.bl (g b)) H'
theorem op_ownEq (m : Meth X.K (He.ga X.K c0) "__eq__" f) (F : FnB X.prog X.w X.K X.mg X.base k f cm) (hr : Room k X.A) : OpR X (compareOp .Eq) (rOwn2 X.K c0 cm id) := fun pins s σ H x y v u Q I rx ry h => by
  obtain ⟨a, dx, fs, b, dy, gs, ex, ha, ey, hb, q⟩ := h
  subst ex ey
  cases rx
  cases ry
  obtain ⟨mA, J, _⟩ := ins_get I.hok ha
  obtain ⟨od, J, _⟩ := J.look
  obtain ⟨mB, J', _⟩ := ins_get I.hok hb
  obtain ⟨od', J', _⟩ := J'.look
  obtain ⟨m0, hF⟩ := I.fr
  refine PySem.W.cmp_K (op := .Eq) (tb := .ref (He.ga X.K c0)) hr.units0 hF I.ok.mod.kin J J'.type (by simp [PySem.W.notFirst]) m.at_ m.fn ?_
  refine wpAny_mono (run_at (us := [.ref a, .ref b]) (ws := []) (vs := [.ref a, .ref b]) (zs := []) F hr I.env0 I (.cons rfl (.cons rfl .nil)) .nil rfl q) (fun w s' z => ?_) fun _ _ z => z
  obtain ⟨z', H', I', rz, bb, eb, qz⟩ := z
  subst eb
  cases (show w = Value.bool bb from rz)
  exact ⟨.bl bb, H', I', rfl, qz⟩
theorem units_in1 {A : Around} {k : Nat} (h : Room (k + 1) A) : A.in1.units < cLine := h.in1.units0
theorem op_ownNe (m : Meth X.K (He.ga X.K c0) "__eq__" f) (hne : PySem.W.findIn X.K (.ref (He.ga X.K c0)) "__ne__" = some (some (.builtin "object.__ne__"))) (hm : PySem.W.mroIn X.K (He.ga X.K c0) (.type "object") = some true) (F : FnB X.prog X.w X.K X.mg X.base k f cm) (hr : Room (k + 1) X.A) : OpR X (compareOp .NotEq) (rOwn2 X.K c0 cm not) := fun pins s σ H x y v u Q I rx ry h => by
  obtain ⟨a, dx, fs, b, dy, gs, ex, ha, ey, hb, q⟩ := h
  subst ex ey
  cases rx
  cases ry
  obtain ⟨mA, J, _⟩ := ins_get I.hok ha
  obtain ⟨od, J, _⟩ := J.look
  obtain ⟨mB, J', _⟩ := ins_get I.hok hb
  obtain ⟨od', J', _⟩ := J'.look
  have KX := I.kIn
  have entry : wpAny (model X.prog X.w) X.A.in1 (Builtin.«object.__ne__» ⟨[.ref a, .ref b], []⟩) (fun fin s' => ∃ w, fin = .done (.ret w) ∧ ∃ bb, w = Value.bool bb ∧ EP X pins σ Q (.bool bb) s') X.xe s := by
    unfold Builtin.«object.__ne__»
    refine wpAny_bind (m := slotArgs "__ne__" 1 ⟨[.ref a, .ref b], []⟩) (wpAny_of_eq (show slotArgs "__ne__" 1 ⟨[.ref a, .ref b], []⟩ = pure (.ref a, [.ref b]) from rfl) ?_)
    dsimp only
    refine wpAny_bind (wpAny_cRoomFor (units_in1 hr) ?_)
    refine wpAny_bind (m := callSpecialIfBound? (.ref a) "__eq__" [.ref b]) (PySem.W.ifBound_K KX J m.at_ m.fn (wpAny_mono (run_at (us := [.ref a, .ref b]) (ws := []) (vs := [.ref a, .ref b]) (zs := []) F hr.in1 I.env0.in1 I (.cons rfl (.cons rfl .nil)) .nil rfl q) (fun w s' z => ?_) fun _ _ z => z))
    obtain ⟨z', H', I', rz, bb, eb, qz⟩ := z
    subst eb
    cases (show w = Value.bool bb from rz)
    dsimp only
    refine wpAny_bind (wpAny_truthy_bool ?_)
    exact wpAny_pure ⟨_, rfl, _, rfl, .bl (!bb), H', I', rfl, qz⟩
  have called : wpAny (model X.prog X.w) X.A (call (.builtin "object.__ne__") [.ref a, .ref b]) (fun w s' => ∃ bb, w = Value.bool bb ∧ EP X pins σ Q (.bool bb) s') X.xe s :=
    wpAny_call (codeAny_call_builtin PySem.F.cmp_object.ne.plain PySem.F.cmpEntry_ne (PySem.W.check_slot PySem.F.cmpKind_ne PySem.F.cmpSplit_ne (J.type.andThen (PySem.W.looks_mroIn KX hm)) (PySem.F.cmpArgs_ne _ _) (wpAny_mono entry (fun fin s' z => by obtain ⟨w, ef, hz⟩ := z; subst ef; exact hz) fun _ _ z => z)))
  have one : wpAny (model X.prog X.w) X.A (tryCompare (.ref a) "__ne__" (.ref b)) (fun r s' => ∃ bb, r = some (Value.bool bb) ∧ EP X pins σ Q (.bool bb) s') X.xe s := by
    unfold tryCompare
    refine wpAny_bind (m := callSpecialIfBound? (.ref a) "__ne__" [.ref b]) ?_
    simp only [callSpecialIfBound?, bindSpecialIfBound?]
    refine wpAny_holding (wpAny_bind (wpAny_bind (wpAny_bind (J.type.here ((PySem.W.looks_findIn KX hne).here ?_)))))
    refine wpAny_bind (wpAny_askSetting (wpAny_ite ?_))
    have fin : wpAny (model X.prog X.w) X.A (call (.builtin "object.__ne__") ([.ref a] ++ [.ref b]) >>= fun v => pure (some v)) (fun a s => wpAny (model X.prog X.w) X.A (match a with
        | some Value.notImplemented => pure none
        | none => pure none
        | some v => pure (some v)) (fun r s' => ∃ bb, r = some (Value.bool bb) ∧ EP X pins σ Q (.bool bb) s') X.xe s) X.xe s :=
      wpAny_bind (wpAny_mono called (fun v s' ⟨bb, ev, hq⟩ => by subst ev; exact wpAny_pure (wpAny_pure ⟨bb, rfl, hq⟩)) fun _ _ z => z)
    split
    · exact wpAny_bind (wpAny_of_eq (PySem.F.cmp_object.ne.bind _) (wpAny_pure fin))
    · exact wpAny_tryCatch (wpAny_bind (wpAny_of_eq (PySem.F.cmp_object.ne.bind _) (wpAny_pure fin)))
  show wpAny _ _ (richCompare .NotEq (.ref a) (.ref b)) _ _ _
  unfold richCompare
  simp only [oneThing_ref]
  refine wpAny_holding (wpAny_bind (wpAny_cRoomFor hr.units0 ?_))
  rw [cmpInfo_NotEq]
  dsimp only
  refine wpAny_bind (J.type.here (wpAny_bind (J'.type.here ?_)))
  rw [if_neg (by simp)]
  refine wpAny_bind (wpAny_pure ?_)
  simp only [Bool.false_eq_true, if_false]
  refine wpAny_bind (wpAny_mono one (fun r s' z => ?_) fun _ _ z => z)
  obtain ⟨bb, er, hq⟩ := z
  subst er
  exact wpAny_pure hq
def f_own2 (c0 : Str) (cm : CM) (g : Bool → Bool) : F2 := fun x y h => (asI h x).bind fun q => (asI h y).bind fun q2 => if q.1 = c0 ∧ q2.1 = c0 then (cm [x, y] [] h).bind fun p => match p.1 with
    | .bl b => some (.bl (g b), p.2)
    | _ => none
  else none
theorem of_own2 {g : Bool → Bool} : OpF X.K Av (f_own2 c0 cm g) (rOwn2 X.K c0 cm g) := fun r h h' H x y d vx vy Q R q1 q2 e k => by
  obtain ⟨⟨c, ks, xs⟩, e1, ez⟩ := Option.bind_eq_some_iff.mp e
  obtain ⟨⟨c', ks', ys⟩, e3, ea⟩ := Option.bind_eq_some_iff.mp ez
  clear e ez
  dsimp only at ea
  by_cases hc : c = c0 ∧ c' = c0
  · rw [if_pos hc] at ea
    obtain ⟨hc, hc2⟩ := hc
    subst hc hc2
    obtain ⟨⟨d1, h1⟩, e2, eb⟩ := Option.bind_eq_some_iff.mp ea
    clear ea
    cases d1 with
    | bl b0 =>
      cases eb
      obtain ⟨a, dx, fs, ev, ha, ek, qs⟩ := asI_ok R q1 e1
      obtain ⟨b, dy, gs, ev2, hb, ek2, qs2⟩ := asI_ok R q2 e3
      exact ⟨a, dx, fs, b, dy, gs, ev, ha, ev2, hb, spB_of R (.cons q1 (.cons q2 .nil)) e2 fun r' v H' x' R' rd => ⟨_, rd_bl rd, k r' _ H' x' R' (.bl _)⟩⟩
    | _ => cases eb
  · rw [if_neg hc] at ea
    cases ea
/-! ### own + with a tuple at its right -/
def rOwnAdd (K : PySem.W.Frag) (c0 : Str) (cm : CM) : R2 := fun x y H Q => ∃ a dx fs b ys, x = .ref a ∧ H a = some (.ins (He.ga K c0) dx fs) ∧ y = .ref b ∧ H b = some (.tup ys) ∧ spB K cm [] [x, y] [] H Q
theorem op_ownAdd (hc : PySem.W.selfFirst X.K (He.ga X.K c0) = true) (m : Meth X.K (He.ga X.K c0) "__add__" f) (F : FnB X.prog X.w X.K X.mg X.base k f cm) (hr : Room k X.A) : OpR X (binaryOp .Add) (rOwnAdd X.K c0 cm) := fun pins s σ H x y v u Q I rx ry h => by
  obtain ⟨a, dx, fs, b, ys, ex, ha, ey, hb, q⟩ := h
  subst ex ey
  cases rx
  cases ry
  obtain ⟨mA, J, _⟩ := ins_get I.hok ha
  obtain ⟨od, J, _⟩ := J.look
  obtain ⟨its, r2, ⟨o2, g2, c2, n2, d2⟩, z2⟩ := I.tuple (SqT.of hb)
  have KX := I.kIn
  obtain ⟨cd, hcd, hm⟩ := PySem.W.any_some hc
  obtain ⟨rest, hm⟩ : ∃ rest, cd.mro = .ref (He.ga X.K c0) :: rest := by
    cases q : cd.mro with
    | nil => rw [q] at hm; cases hm
    | cons z zs => rw [q] at hm; exact ⟨zs, by rw [List.head?_cons] at hm; cases (beq_iff_eq.mp hm); rfl⟩
  have tb : s.TypeIs (.ref b) "tuple" := ⟨_, g2, c2⟩
  have ed : PySem.dunder "add" = ("__add__" : Str) := by decide +kernel
  have at_ : PySem.W.findIn X.K (.ref (He.ga X.K c0)) (PySem.dunder "add") = some (some (.ref f)) := by rw [ed]; exact m.at_
  unfold binaryOp
  refine wpAny_holding (wpAny_bind ?_)
  unfold binaryOp1
  refine wpAny_bind (J.type.here (wpAny_bind (wpAny_typeOf tb (wpAny_bind ((PySem.W.fills_K KX hcd hm at_).here ?_)))))
  have ne : (Value.ref (He.ga X.K c0) == Value.type "tuple") = false := rfl
  simp only [ne, Bool.false_eq_true, if_false]
  refine wpAny_bind (wpAny_of_eq noFill_tuple_add ?_)
  simp only [Bool.and_false, Bool.false_and, Bool.false_eq_true, if_false]
  refine wpAny_bind (wpAny_pure ?_)
  simp only [Bool.false_eq_true, if_false, if_true]
  refine wpAny_bind (m := tryMethod (.ref a) _ (.ref b)) ?_
  unfold tryMethod
  refine wpAny_bind (PySem.W.special_fn KX J at_ (beq_iff_eq.mp m.fn) (wpAny_mono (run_at (us := [.ref a, .ref b]) (ws := []) (vs := [.ref a, .ref b]) (zs := []) F hr I.env0 I (.cons rfl (.cons rfl .nil)) .nil rfl q) (fun w s' z => ?_) fun _ _ z => z))
  obtain ⟨z', H', I', rz, qz⟩ := z
  have hz : EP X pins σ Q w s' := ⟨z', H', I', rz, qz⟩
  cases z' with
  | non => cases (show w = Value.none from rz); exact wpAny_pure (wpAny_pure (wpAny_pure hz))
  | bl t => cases (show w = Value.bool t from rz); exact wpAny_pure (wpAny_pure (wpAny_pure hz))
  | int i => obtain ⟨t, e⟩ := (show ∃ t, w = Value.int i t from rz); cases e; exact wpAny_pure (wpAny_pure (wpAny_pure hz))
  | str i => obtain ⟨t, e⟩ := (show ∃ t, w = Value.str i t from rz); cases e; exact wpAny_pure (wpAny_pure (wpAny_pure hz))
  | byt i => obtain ⟨t, e⟩ := (show ∃ t, w = Value.bytes i t from rz); cases e; exact wpAny_pure (wpAny_pure (wpAny_pure hz))
  | flt i => obtain ⟨t, e⟩ := (show ∃ t, w = Value.float i t from rz); cases e; exact wpAny_pure (wpAny_pure (wpAny_pure hz))
  | ref i => cases (show w = Value.ref i from rz); exact wpAny_pure (wpAny_pure (wpAny_pure hz))
  | ty i => cases (show w = Value.type i from rz); exact wpAny_pure (wpAny_pure (wpAny_pure hz))
def f_ownAdd (c0 : Str) (cm : CM) : F2 := fun x y h => (asI h x).bind fun q => match y with
  | .tup ys => if q.1 = c0 then cm [x, .tup ys] [] h else none
  | _ => none
theorem of_ownAdd : OpF X.K Av (f_ownAdd c0 cm) (rOwnAdd X.K c0 cm) := fun r h h' H x y d vx vy Q R q1 q2 e k => by
  obtain ⟨⟨c, ks, xs⟩, e1, ea⟩ := Option.bind_eq_some_iff.mp e
  clear e
  cases q2 with
  | tup z qs =>
    dsimp only at ea
    by_cases hc : c = c0
    · rw [if_pos hc] at ea
      subst hc
      obtain ⟨a, dx, fs, ev, ha, ek, qs'⟩ := asI_ok R q1 e1
      exact ⟨a, dx, fs, _, _, ev, ha, rfl, z, spB_of R (.cons q1 (.cons (.tup z qs) .nil)) ea k⟩
    · rw [if_neg hc] at ea
      cases ea
  | _ => cases ea
end
def or2 (f g : F2) : F2 := fun x y h => match f x y h with
  | some r => some r
  | none => g x y h
theorem of_or2 {K : PySem.W.Frag} {Av : Addr → Prop} {f g : F2} {rf rg : R2} (hf : OpF K Av f rf) (hg : OpF K Av g rg) : OpF K Av (or2 f g) (fun x y H Q => rf x y H Q ∨ rg x y H Q) := fun r h h' H x y d vx vy Q R q1 q2 e k => by
  unfold or2 at e
  split at e
  · rename_i p hp
    cases e
    exact .inl (hf r h h' H x y d vx vy Q R q1 q2 hp k)
  · exact .inr (hg r h h' H x y d vx vy Q R q1 q2 e k)
def m_alt (a b : FE) : FE := fun sl h => match a sl h with
  | some r => some r
  | none => b sl h
theorem fe_alt {X : Cx} {Av : Addr → Prop} {e : Expr} {a b : FE} (ha : PE X e (tF X.K Av a)) (hb : PE X e (tF X.K Av b)) : PE X e (tF X.K Av (m_alt a b)) := ⟨fun pins s σ H Q I ⟨r, sl, h, d, h', R, S, e, k⟩ => by
  unfold m_alt at e
  split at e
  · rename_i p hp
    cases e
    exact ha.run pins s σ H Q I ⟨r, sl, h, d, h', R, S, hp, k⟩
  · exact hb.run pins s σ H Q I ⟨r, sl, h, d, h', R, S, e, k⟩⟩
end HF
set_option Elab.async false
set_option linter.all false
set_option maxRecDepth 100000
set_option maxHeartbeats 1000000
namespace HF
open PySem PySem.Spec PyProof.Rows L2
/-! ### defs with *rest and keyword-only parameters -/
def fillG {α : Type} : List (Option Nat) → List α → List α → List α
  | [], _, _ => []
  | some j :: l, ws, ms => (match ws[j]? with
    | some x => [x]
    | none => []) ++ fillG l ws ms
  | none :: l, ws, m :: ms => m :: fillG l ws ms
  | none :: l, ws, [] => fillG l ws []
theorem fillG_rds {K : PySem.W.Frag} {T : Addr → Prop} {H : Hp} {r : Rho} {es : List D} {zs : List V} (q : RDs K T H r es zs) : ∀ (l : List (Option Nat)) {ms : List D} {ns : List V}, RDs K T H r ms ns → RDs K T H r (fillG l es ms) (fillG l zs ns)
  | [], _, _, _ => .nil
  | some j :: l, ms, ns, p => by
    unfold fillG
    refine RDs.append ?_ (fillG_rds q l p)
    cases e : es[j]? with
    | none =>
      have : zs[j]? = none := by
        rw [List.getElem?_eq_none_iff] at e ⊢
        rw [← q.length]
        exact e
      rw [this]
      exact .nil
    | some d =>
      obtain ⟨v, hv, rd⟩ := RDs.get q e
      rw [hv]
      exact .cons rd .nil
  | none :: l, _, _, .nil => fillG_rds q l .nil
  | none :: l, _, _, .cons p ps => .cons p (fillG_rds q l ps)
theorem fillG_vals {zs : List V} {ws : List Value} (q : Vals zs ws) : ∀ (l : List (Option Nat)) {ms : List V} {ns : List Value}, Vals ms ns → Vals (fillG l zs ms) (fillG l ws ns)
  | [], _, _, _ => .nil
  | some j :: l, ms, ns, p => by
    unfold fillG
    refine Vals.append ?_ (fillG_vals q l p)
    cases e : zs[j]? with
    | none =>
      have : ws[j]? = none := by
        rw [List.getElem?_eq_none_iff] at e ⊢
        rw [← q.length]
        exact e
      rw [this]
      exact .nil
    | some d =>
      obtain ⟨v, hv, rd⟩ := q.get e
      rw [hv]
      exact .cons rd .nil
  | none :: l, _, _, .nil => fillG_vals q l .nil
  | none :: l, _, _, .cons p ps => .cons p (fillG_vals q l ps)
def KwT (D : Addr) (rest : List Value) (fin : Value → List (Str × Value)) : List (Str × Value) → Sem (List (Str × Value)) → Prop
  | [], t => t = (newTuple rest >>= fun v => pure (fin v))
  | q :: l, t => ∃ (β γ : Type) (k1 : Option Value → Sem β) (k2 : β → Sem γ) (k3 : γ → Sem (List (Str × Value))) (a : β), t = ((nsGet D q.1 >>= k1) >>= k2) >>= k3 ∧ k1 (some q.2) = pure a ∧ KwT D rest fin l (k2 a >>= k3)
theorem KwT.run {M : Model} {A : Around} {E : Value → Shared → Prop} {s : Shared} {K : PySem.W.Frag} {D : Addr} {rest : List Value} {fin : Value → List (Str × Value)} {Q : List (Str × Value) → Shared → Prop} (X : K.In s.heap) (h : wpAny M A (newTuple rest >>= fun v => pure (fin v)) Q E s) :
    ∀ {l : List (Str × Value)} {t : Sem (List (Str × Value))}, (∀ q ∈ l, PySem.W.nsIn K D q.1 = some (some q.2)) → KwT D rest fin l t → wpAny M A t Q E s
  | [], t, _, e => by
    have e : t = (newTuple rest >>= fun v => pure (fin v)) := e
    rw [e]
    exact h
  | q :: l, t, hl, e => by
    obtain ⟨β, γ, k1, k2, k3, a, e1, e2, e3⟩ := e
    rw [e1, bind_assoc, bind_assoc]
    refine wpAny_bind ((PySem.W.looks_nsIn X (hl q (List.mem_cons_self ..))).here ?_)
    rw [e2, pure_bind]
    exact KwT.run X h (fun p hp => hl p (List.mem_cons_of_mem _ hp)) e3
def m_star (n0 : Nat) (ks : List Str) (ix : List (Option Nat)) (dms : List D) (tot : Nat) (b : FS) : CM := fun ds kws h => if n0 ≤ ds.length ∧ kws.map (·.1) = ks ∧ szOk ds.length = true then
    (b ((ds.take n0 ++ fillG ix (kws.map (·.2)) dms ++ [D.tup (ds.drop n0)]).map some ++ List.replicate (tot - (ds.take n0 ++ fillG ix (kws.map (·.2)) dms ++ [D.tup (ds.drop n0)]).length) none) h).bind fun p => match p.1 with
      | .rt d => some (d, p.2.2)
      | .nx => some (.non, p.2.2)
      | _ => none
  else none
section
variable {P : Program} {w : World} {K : PySem.W.Frag} {mg : Str → Option Value} {base : Heap} {x qual : Str} {params : Arguments} {body : List Stmt} {scope : Scope} {kws : List (Str × V)} {f : Addr} {fd : FuncData}
theorem fnB_star {N P0 KW : List Str} {pv : Str} {k : Nat} {b : FS} (F : FunD K x qual params body scope [] kws f fd) (S : FnScope N (P0 ++ KW ++ [pv]) scope) (ks : List Str) (ix : List (Option Nat)) (miss : List (Str × V)) (dms : List D) (hmiss : ∀ q ∈ miss, q ∈ kws) (hd : ∀ T H r, RDs K T H r dms (miss.map (·.2)))
    (hlen : ∀ (α : Type) (ws ms : List α), ws.length = ks.length → ms.length = miss.length → (fillG ix ws ms).length = KW.length)
    (hbnd : ∀ (kV doc pm : Value) (an : Option Addr) (cdv ct : Value) (D : Addr) (us rest ws ms : List Value), (miss ≠ [] → kV = .ref D) → us.length = P0.length → ws.length = ks.length → ms.length = miss.length →
      KwT D rest (fun t => (P0 ++ KW ++ [pv]).zip (us ++ fillG ix ws ms ++ [t])) ((miss.map (·.1)).zip ms) (bindArgs (PySem.W.fnOf x qual params body scope .none kV doc pm an cdv ct) ⟨us ++ rest, ks.zip ws⟩))
    (hb : ∀ (Av : Addr → Prop) (cdv : Value) (A : Around) (outer : List Env) (s : Shared) (H : Hp) (E : XK), Room k (A.deeper (envOfC qual scope s.heap.objs.size f cdv)) → PSs ((cxOf CX0 P w K mg base N qual scope f cdv A outer s H E).nox) body (tFS K Av b)) :
    FnB P w K mg base (k + 1) f (m_star P0.length ks ix dms N.length b) := by
  intro A outer s H us ws vs zs ks' Q hr e0 rv rz hl q
  obtain ⟨Av, r, ds, es, h, d, h', R, q1, q2, e, kk⟩ := q
  have hle : ks'.length = es.length := by rw [hl, q2.length]
  unfold m_star at e
  split at e
  · rename_i hc
    obtain ⟨hn, hks, hz⟩ := hc
    rw [zip_fst hle] at hks
    subst hks
    rw [zip_snd hle] at e
    obtain ⟨oc, od, dV, kV, doc, pm, an, cdv, ct, osl, rfl, lk, hcd, hD, hK⟩ := F.ex
    have hdV : dV = .none := by
      rcases hD with ⟨_, z⟩ | ⟨z, _⟩
      · exact z
      · exact absurd rfl z
    subst hdV
    have hK2 : ∃ (D : Addr) (ms : List Value), (miss ≠ [] → kV = .ref D) ∧ ms.length = miss.length ∧ Vals (miss.map (·.2)) ms ∧ ∀ q ∈ (miss.map (·.1)).zip ms, PySem.W.nsIn K D q.1 = some (some q.2) := by
      rcases hK with ek | ⟨D, eD, hq⟩
      · have : miss = [] := by
          cases miss with
          | nil => rfl
          | cons a l =>
            have := hmiss a (List.mem_cons_self ..)
            rw [ek] at this
            cases this
        subst this
        exact ⟨0, [], fun z => absurd rfl z, rfl, .nil, fun q hq => by cases hq⟩
      · obtain ⟨ms, m1, m2, m3⟩ := kwd_vals (ms := miss) fun q hm => hq q (hmiss q hm)
        exact ⟨D, ms, fun _ => eD, m1, m2, m3⟩
    obtain ⟨D0, ms, hkV, m1, m2, m3⟩ := hK2
    have lds := q1.length
    have rT : Vals (vs.take P0.length) (us.take P0.length) := rv.take _
    have rD : Vals (vs.drop P0.length) (us.drop P0.length) := rv.drop _
    have lu : (us.take P0.length).length = P0.length := by
      rw [List.length_take, ← rv.length, ← lds]
      omega
    have lw : ws.length = ks'.length := by rw [← rz.length]; exact hl.symm
    have lF : (fillG ix ws ms).length = KW.length := hlen _ _ _ lw m1
    have lFV : (fillG ix zs (miss.map (·.2))).length = KW.length := hlen _ _ _ hl.symm (by rw [List.length_map])
    have hsz : (vs.drop P0.length).length ≤ sizeLine := by
      rw [List.length_drop, ← lds]
      have := szOk_le hz
      omega
    have hn0 : H s.heap.objs.size = none := e0.hok.fresh (Nat.le_refl _)
    have KX : K.In s.heap := e0.mod.kin.keeps fun b o e => (e0.bs b o e).1
    refine StX.run_bnd (CX := CX0) lk hcd S hr e0 (G := fun xs H2 => ∃ p, H p = none ∧ xs = vs.take P0.length ++ fillG ix zs (miss.map (·.2)) ++ [V.ref p] ∧ H2 = upd H p (.tup (vs.drop P0.length))) (fun A' Ex Q' hq => ?_) fun s2 H2 xs ⟨p, hp, ex, eH⟩ hr' => ?_
    · have hbe := hbnd kV doc pm an cdv ct D0 (us.take P0.length) (us.drop P0.length) ws ms hkV lu lw m1
      rw [List.take_append_drop] at hbe
      refine KwT.run KX ?_ m3 hbe
      refine wpAny_bind (wpAny_newTuple (wpAny_pure ?_) (by rw [← rD.length]; exact hsz))
      have new : ObjOk P w (upd H s.heap.objs.size (.tup (vs.drop P0.length))) (s.heap.push ({ cls := .type "tuple", data := .seq (us.drop P0.length).toArray } : Obj)) s.heap.objs.size (.tup (vs.drop P0.length)) := ⟨hsz, us.drop P0.length, rD, ⟨_, Heap.get?_push_size _ rfl, rfl, _, rfl⟩⟩
      have un := StX.un_laid (fs := frs outer) (s := s) (o := ({ cls := .type "tuple", data := .seq (us.drop P0.length).toArray } : Obj)) (u := .tup (vs.drop P0.length)) hn0
      refine hq _ _ (vs.take P0.length ++ fillG ix zs (miss.map (·.2)) ++ [V.ref s.heap.objs.size]) _ (StX.env0_laid e0 new) un rfl (fun e s' z => z) ((rT.append (fillG_vals rz ix m2)).append (.cons rfl .nil)) ?_ ⟨_, hn0, rfl, rfl⟩
      rw [List.length_append, List.length_append, List.length_append, List.length_append, lFV, List.length_take, ← lds]
      simp
      omega
    · subst ex eH
      refine ⟨tFS K Av b, PSs.nox (hb Av cdv A outer s2 _ E0 hr'), ?_⟩
      obtain ⟨⟨fl, sl', h1⟩, e1, e⟩ := Option.bind_eq_some_iff.mp e
      have qx : RDs K (Tr Av r) (upd H p (.tup (vs.drop P0.length))) r (ds.take P0.length ++ fillG ix es dms ++ [D.tup (ds.drop P0.length)]) (vs.take P0.length ++ fillG ix zs (miss.map (·.2)) ++ [V.ref p]) :=
        (((RDs.up R hp (q1.take _)).append (fillG_rds (RDs.up R hp q2) ix (hd _ _ _))).append (.cons (rd_tup R hp (q1.drop _)) .nil))
      refine ⟨r, _, h, fl, sl', h1, R.new1 hp, rsl_start qx, e1, fun r' σ' H' x' R' S' => ?_⟩
      dsimp only at e
      have xx : Ext r H r' H' := (Ext.new1 hp).trans x'
      cases fl with
      | nx => cases e; exact kk r' _ H' xx R' .non
      | rt d1 => cases e; exact fun v rd => kk r' v H' xx R' rd
      | bk => cases e
      | ct => cases e
  · cases e
def or3 (m n : CM) : CM := fun ds kws h => match m ds kws h with
  | some r => some r
  | none => n ds kws h
theorem FnB.or {k : Nat} {m n : CM} (F : FnB P w K mg base k f m) (G : FnB P w K mg base k f n) : FnB P w K mg base k f (or3 m n) := by
  intro A outer s H us ws vs zs ks Q hr e0 rv rz hl q
  obtain ⟨Av, r, ds, es, h, d, h', R, q1, q2, e, kk⟩ := q
  unfold or3 at e
  split at e
  · rename_i p hp
    cases e
    exact F A outer s H us ws vs zs ks Q hr e0 rv rz hl ⟨Av, r, ds, es, h, d, h', R, q1, q2, hp, kk⟩
  · exact G A outer s H us ws vs zs ks Q hr e0 rv rz hl ⟨Av, r, ds, es, h, d, h', R, q1, q2, e, kk⟩
end
/-! ### freezing by the way -/
def s_fz (i : Nat) : FS := fun sl h => match sl[i]? with
  | some (some d) => (frz 8 d h).bind fun p => some (.nx, sl.set i (some p.1), p.2)
  | _ => none
theorem fs_fz {X : Cx} {Av : Addr → Prop} {ss : List Stmt} {b : FS} (i : Nat) (h : PSs X ss (tFS X.K Av b)) : PSs X ss (tFS X.K Av (s_seq (s_fz i) b)) := PSs.imp h fun Dn σ H q => by
  obtain ⟨r, sl, h, f, sl', h', R, S, e, k⟩ := q
  obtain ⟨⟨f1, sl1, h1⟩, e1, e⟩ := Option.bind_eq_some_iff.mp e
  unfold s_fz at e1
  split at e1
  · rename_i d hd
    obtain ⟨⟨d2, h2⟩, e2, e1⟩ := Option.bind_eq_some_iff.mp e1
    cases e1
    obtain ⟨v, hv, rd⟩ := S.at_ _ _ hd
    obtain ⟨r2, x2, R2, q2⟩ := frz_ok 8 _ _ _ _ _ _ e2 R rd
    have S2 := S.mono R x2
    have S3 : RSl X.K (Tr Av r2) H r2 (sl.set i (some d2)) σ := ⟨by rw [List.length_set]; exact S2.len, fun j d' hd' => by
      by_cases hj : j = i
      · subst hj
        rw [List.getElem?_set_self (getOpt hd)] at hd'
        cases hd'
        exact ⟨v, hv, q2⟩
      · rw [List.getElem?_set_ne (Ne.symm hj)] at hd'
        exact S2.at_ j d' hd'⟩
    exact ⟨r2, _, _, f, sl', h', R2, S3, e, fun r' σ' H' x => k r' σ' H' (x2.trans x)⟩
  · cases e1
/-! ### isinstance of an own class -/
def m_isC (c0 : Str) (cs : List Str) (m : FE) : FE := fun sl h => (m sl h).bind fun p => match asI p.2 p.1 with
  | some q => if q.1 = c0 then some (.bl true, p.2) else if cs.contains q.1 then some (.bl false, p.2) else none
  | none => none
structure IsC (K : PySem.W.Frag) (c : Str) : Prop where
  cl : Cls K (He.ga K c)
  ha : PySem.W.findIn K (.ref (He.ga K c)) "__class__" = some (some (.builtin "object.__class__"))
  hn : PySem.W.specialIn K (.builtin "object.__class__") "__get__" = some (some (.builtin "getset_descriptor.__get__"))
  tk : PySem.W.takesIn K (.builtin "object.__class__") = some true
  hm : PySem.W.mroIn K (He.ga K c) (.type "object") = some true
theorem isCB_ok {K : PySem.W.Frag} {c : Str} (cl : Cls K (He.ga K c)) (h : isCB K c = true) : IsC K c := by
  have h1 := Bool.and_eq_true_iff.mp h
  have h2 := Bool.and_eq_true_iff.mp h1.2
  have h3 := Bool.and_eq_true_iff.mp h2.2
  exact ⟨cl, of_decide_eq_true h1.1, of_decide_eq_true h2.1, of_decide_eq_true h3.1, of_decide_eq_true h3.2⟩
section
variable {X : Cx} {Av : Addr → Prop} {e : Expr} {pos p p2 : Pos} {m : FE} {c0 : Str} {cs : List Str}
theorem fe_isC (he : PE X e (tF X.K Av m)) (hi : X.mg "isinstance" = none) (hgi : Gl X "isinstance") (hm : X.mg c0 = some (.ref (He.ga X.K c0))) (hg : Gl X c0) (h0 : IsC X.K c0) (k0 : PySem.W.kitOne X.K (.ref (He.ga X.K c0)) (.ref (He.ga X.K c0)) = some true) (hcs : ∀ c ∈ cs, IsC X.K c ∧ PySem.W.kitOne X.K (.ref (He.ga X.K c)) (.ref (He.ga X.K c0)) = some false) (hdb : (c0 == ("__debug__" : Str)) = false := by decide)
    (hs : starEach [e, .Name c0 p2] X.env = (false, eval e X.env) :: starEach [.Name c0 p2] X.env := by rfl) (hs2 : starEach [.Name c0 p2] X.env = (false, eval (.Name c0 p2) X.env) :: starEach [] X.env := by rfl) (hpl : (backTo pos (starEach [.Name c0 p2] X.env)).any (·.1) = false := by rfl) :
    PE X (.Call (.Name "isinstance" p) [e, .Name c0 p2] [] pos) (tF X.K Av (m_isC c0 cs m)) :=
  PE.imp (pe_callB call_isi hgi hi (by decide +kernel) (pa_cons he (pa_cons (pe_glob (v := .ref (He.ga X.K c0)) hg hm rfl hdb) pa_nil hs2) hs) (by decide) (by decide) hs hpl) fun σ H Q q => by
    obtain ⟨r, sl, h, d, h', R, S, e, kk⟩ := q
    obtain ⟨⟨d1, h1⟩, e1, e⟩ := Option.bind_eq_some_iff.mp e
    dsimp only at e
    cases eI : asI h1 d1 with
    | none => rw [eI] at e; cases e
    | some q =>
      obtain ⟨c, ks, xs⟩ := q
      rw [eI] at e
      dsimp only at e
      refine tF_go R S e1 fun r1 v1 H1 x1 R1 S1 q1 => ?_
      obtain ⟨a, dx, fs, ev, ha, ek, qs⟩ := asI_ok R1 q1 eI
      subst ev
      by_cases hc : c = c0
      · rw [if_pos hc] at e
        cases e
        rw [hc] at ha
        exact ⟨.ref a, .ref (He.ga X.K c0), _, _, _, rfl, .own _, .base (.ins ha h0.cl h0.ha h0.hn h0.tk h0.hm), k0, kk r1 _ H1 x1 R1 (.bl _)⟩
      · rw [if_neg hc] at e
        by_cases hcc : cs.contains c = true
        · rw [if_pos hcc] at e
          cases e
          obtain ⟨hC, k1⟩ := hcs c (by simpa using hcc)
          exact ⟨.ref a, .ref (He.ga X.K c0), _, _, _, rfl, .own _, .base (.ins ha hC.cl hC.ha hC.hn hC.tk hC.hm), k1, kk r1 _ H1 x1 R1 (.bl _)⟩
        · rw [if_neg hcc] at e
          cases e
end
end HF
set_option Elab.async false
set_option linter.all false
set_option maxRecDepth 100000
set_option maxHeartbeats 1000000
namespace HF
open PySem PySem.Spec PyProof.Rows L2
/-! ### enumerate of a tuple -/
theorem meets_enum1 {v : Value} {o : Obj} {G : Heap → Prop} (B : Begins v o G) : Meets (Builtin.«enumerate.__new__» ⟨[.type "enumerate", v], []⟩) (fun _ R z => G z.heap ∧
    R (.ok (.ret (.ref (z.heap.push o).objs.size))) { z with heap := (z.heap.push o).push { cls := .type "enumerate", data := .fields #[.none, .bool false, .ref z.heap.objs.size, rawInt 0, .none, .none] } }) :=
  .of_wp fun prog w A R z hz => by
    obtain ⟨y1, y2, y3, y4, y5⟩ := z
    obtain ⟨p1, p2⟩ := hz
    have t1 := sub_enumerate
    have q1 : ∀ {A' : Around} {E : Value → Shared → Prop} {Q : Value → Shared → Prop}, Q (.ref y1.objs.size) ⟨y1.push o, y2, y3, y4, y5⟩ → wpAny (model prog w) A' (pyIter v) Q E ⟨y1, y2, y3, y4, y5⟩ := fun q => B.iter prog w _ _ ⟨y1, y2, y3, y4, y5⟩ _ p1 q
    wp_walk using q1
    refine wpAny_stack_any fun st => wpAny_pure ?_
    split
    · rename_i c _ _ _ _ _
      cases (c == Value.type "enumerate") <;> (wp_walk using q1; exact ⟨_, rfl, p2⟩)
    · wp_walk using q1
      exact ⟨_, rfl, p2⟩
theorem enum1_begins {prog : Program} {w : World} {A : Around} {E : Value → Shared → Prop} {s : Shared} {v : Value} {o : Obj} {G : Heap → Prop} {Q : Value → Shared → Prop} (B : Begins v o G) (h1 : G s.heap)
    (h : ∀ h', IsEnum h' (s.heap.objs.size + 1) s.heap.objs.size 0 .none → h'.get? s.heap.objs.size = some o → (∀ b o, s.heap.get? b = some o → h'.get? b = some o) → Q (.ref (s.heap.objs.size + 1)) { s with heap := h' }) :
    wpAny (model prog w) A (call (.type "enumerate") [v]) Q E s := by
  refine callType_new PySem.F.called_enumerate (by decide) (PySem.F.typeCall_enumerate_1 _) (PySem.F.newCall_enumerate_1 _) (fun obj => PySem.F.args_object_init_2 obj _) PySem.F.entry_enumerate_new (meets_enum1 B) ⟨h1, ?_⟩
  have e1 : (s.heap.push o).objs.size = s.heap.objs.size + 1 := Heap.size_push ..
  show _ ∧ _
  rw [e1]
  have e2 := Heap.get?_push_size (s.heap.push o) (o := { cls := .type "enumerate", data := .fields #[.none, .bool false, .ref s.heap.objs.size, rawInt 0, .none, .none] }) rfl
  rw [e1] at e2
  exact ⟨⟨_, e2, rfl⟩, h _ e2 (Heap.get?_push_of_some _ (Heap.get?_push_size _ B.free)) fun b u q => Heap.get?_push_of_some _ (Heap.get?_push_of_some _ q)⟩
def IteT (K : PySem.W.Frag) (a : Addr) : It :=
  ⟨fun i H => ∃ xs x, SqT K H a xs ∧ xs[i]? = some x, fun i H v H' => ∃ p x, v = .ref p ∧ H p = none ∧ H' = upd H p (.tup [.int (i : Nat), x]) ∧ ∀ xs, SqT K H a xs → xs[i]? = some x, fun i H => ∃ xs, SqT K H a xs ∧ xs.length ≤ i⟩
theorem turn_enumT {P : Program} {w : World} {K : PySem.W.Frag} {elts : List Expr} {kk : Nat} {tpos : Pos} (a e it : Addr) : Turn P w K (.Tuple elts kk tpos) (IteT K a) [e, it] e (fun i h => (∃ old, IsEnum h e it (0 + (i : Int)) old) ∧ h.IsTupleIter it a i ∧ e ≠ it ∧ a ≠ it ∧ e ≠ a) where
  mem := List.mem_cons_self
  obj := fun i h st b hb => by
    obtain ⟨⟨old, g1⟩, ⟨o, g2, g3, g4⟩, _⟩ := st
    rcases List.mem_cons.mp hb with z | z
    · rw [z]; exact ⟨_, g1, fun v q => nomatch q⟩
    · rw [List.mem_singleton.mp z]
      exact ⟨o, g2, fun v q => by rw [g4] at q; cases q⟩
  keep := fun i h h' st kp => ⟨st.1.elim fun old g => ⟨old, kp e (by simp) _ g⟩, st.2.1.at fun o q => kp it (by simp) o q, st.2.2⟩
  item := fun X hP hw hK hc i pins s σ H E I hf st hg => by
    subst hP hw hK
    obtain ⟨g1, g2, n1, n2, n3⟩ := st
    obtain ⟨xs, x, hq, hx⟩ := hg
    obtain ⟨its, rv, tu, hz⟩ := I.tuple hq
    obtain ⟨u, hu, ru⟩ := rv.get hx
    have hh : X.A.in1.handled = none := I.ok.hd hc
    have hlen : i < its.toArray.size := by rw [List.size_toArray]; exact getOpt hu
    refine (GoesN.enumFrom (prog := X.prog) (w := X.w) (A := X.A) (elts := elts) (x1 := kk) (pos := tpos) 0 (Draws.tuple hh it a n2 its.toArray) e n1 (by simp [n1, n3]) (by simp)).goes i s _ E hlen ⟨g1, g2, tu⟩ fun v h' tk hY st' hk htk => ?_
    obtain ⟨p, t, y, ev, hp, hy, o, ho, hoc, n, hod⟩ := hY
    subst ev
    have ey : y = u := by
      have h1 : its.toArray[i]? = some u := by simpa using hu
      rw [h1] at hy
      cases hy
      rfl
    subst ey
    have new : ObjOk X.prog X.w (upd H p (.tup [.int (i : Nat), x])) h' p (.tup [.int (i : Nat), x]) := ⟨by show 2 ≤ sizeLine; decide, [.int (0 + (i : Int)) t, y], .cons ⟨t, by rw [Int.zero_add]⟩ (.cons ru .nil), ⟨o, ho, hoc, n, hod⟩⟩
    have hf2 : ∀ b ∈ [e, it], FpOk X pins H b := hf
    refine ⟨.ref p, _, I.turnedNew (ch := [e, it]) (fun b u hb q => hk b u hb q) hf2 hp new, rfl, ⟨p, x, rfl, I.hok.fresh hp, rfl, fun ys hy => by rw [I.tuple_inj hy hq]; exact hx⟩, ?_, fun b hb => ?_⟩
    · refine ⟨?_, st'.2.1, n1, n2, n3⟩
      exact st'.1
    · have lt : b < s.heap.objs.size := by
        rcases List.mem_cons.mp hb with z | z
        · obtain ⟨old, g⟩ := g1
          rw [z]; exact Heap.lt_size g
        · obtain ⟨o, g, _⟩ := g2
          rw [List.mem_singleton.mp z]; exact Heap.lt_size g
      rw [upd_ne (Nat.ne_of_lt (Nat.lt_of_lt_of_le lt hp))]
      exact (hf b hb).1
  done := fun X hP hw hK hc i pins s σ H E I hf st hg => by
    subst hP hw hK
    obtain ⟨g1, g2, n1, n2, n3⟩ := st
    obtain ⟨xs, hq, hx⟩ := hg
    obtain ⟨its, rv, tu, hz⟩ := I.tuple hq
    have hh : X.A.in1.handled = none := I.ok.hd hc
    obtain ⟨old, g1⟩ := g1
    obtain ⟨f0, f1, f2, f3, f4, f5⟩ := hf it (by simp)
    have end_ : its.toArray.size ≤ i := by rw [List.size_toArray, ← rv.length]; exact hx
    have hd : wpAny (model X.prog X.w) X.A.in1 (Builtin.SmallTypes.nextOf (.ref it)) (fun _ _ => False) (fun x s' => ∃ a, x = .ref a ∧ (∃ o, s'.heap.get? a = some o ∧ o.cls = .type "StopIteration") ∧ ∃ h', s' = { s with heap := h' } ∧ Heap.ExtBut it s.heap h') s :=
      wpAny_nextOf_tuple_end hh g2 tu (by simpa using end_) fun h' x hx hs => ⟨x, rfl, hs, h', rfl, hx⟩
    have hT : s.TypeIs (.ref e) "enumerate" := ⟨_, g1, rfl⟩
    unfold pyNext
    refine wpAny_bind (wpAny_attempt (wpAny_callSpecial?_slot (name := Str.ofString "__next__") hT PySem.F.slot_enumerate_next (wpAny_call_entry PySem.F.slot_enumerate_next hT PySem.F.entry_enumerate_next ?_ (PySem.F.args_enumerate_next_1 _))))
    show wpAny _ _ (field (.ref e) 2 >>= _) _ _ _
    refine wpAny_bind (wpAny_field g1 rfl (x := .ref it) rfl ?_)
    refine wpAny_bind (wpAny_mono hd (fun _ _ z => z.elim) fun x s' z => ?_)
    obtain ⟨b, ex, ⟨o, ho, hoc⟩, h', es, hb⟩ := z
    subst ex es
    refine wpAny_bind (wpAny_isInstance (T := "StopIteration") (b := true) ⟨o, ho, hoc⟩ isSubtype_stop ?_)
    exact wpAny_pure ⟨rfl, I.turned (t' := s.toks) (fun b o hb' q => hb b o hb' q) f0 f1 f3 f4 f5⟩
  self := fun A i s Q E st h => st.1.elim fun old g => wpAny_pyIter_enum g h
def iEnumT (K : PySem.W.Frag) (ta : TA) : TI := fun σ H R => ta σ H fun vs H1 => ∃ a xs, vs = [.ref a] ∧ SqT K H1 a xs ∧ R (IteT K a) H1
theorem pi_enumT {X : Cx} {e : Expr} {ta : TA} {p pos tpos : Pos} {elts : List Expr} {kk : Nat} (hg : Gl X "enumerate") (hm : X.mg "enumerate" = none) (ha : PA X [e] ta) (hs : starEach [e] X.env = [(false, eval e X.env)] := by rfl) :
    PI X (.Tuple elts kk tpos) (.Call (.Name "enumerate" p) [e] [] pos) (iEnumT X.K ta) := by
  refine ⟨fun pins s σ H R I h => Call_ (ld_blt I hg hm boot_enumerate (PyProof.Rows.callWith_type1 (thn (ha.run pos pins s σ H _ I h) fun us z ⟨vs, H1, I1, r1, a, xs, ev, hq, q⟩ => ?_) hs rfl))⟩
  subst ev
  obtain ⟨u, eu, ru⟩ := r1.one
  subst eu
  cases ru
  obtain ⟨its, rv, tu, hz⟩ := I1.tuple hq
  refine enum1_begins (begins_tuple a its.toArray) tu fun h' he hi hk => wpAny_pyIter_enum he ?_
  have hlt : a < z.heap.objs.size := by obtain ⟨o, q, _⟩ := tu; exact Heap.lt_size q
  have I2 : Inv X pins σ H1 { z with heap := h' } := I1.kept (t' := z.toks) hk
  refine ⟨z.heap.objs.size + 1, [z.heap.objs.size + 1, z.heap.objs.size], _, _, H1, rfl, I2, turn_enumT a (z.heap.objs.size + 1) z.heap.objs.size, ⟨⟨.none, he⟩, ⟨_, hi, rfl, rfl⟩, Nat.succ_ne_self _, Nat.ne_of_lt hlt, Nat.ne_of_gt (Nat.lt_succ_of_lt hlt)⟩, fun b hb => ?_, q⟩
  have hle : z.heap.objs.size ≤ b := by
    rcases List.mem_cons.mp hb with y | y
    · rw [y]; exact Nat.le_succ _
    · rw [List.mem_singleton.mp y]; exact Nat.le_refl _
  exact I1.fpOk hle (I1.hok.fresh hle)
theorem src_enumT {K : PySem.W.Frag} (a : Addr) (ds : List D) : SrcOk K (IteT K a) (fun Av r H => ∃ vs, SqT K H a vs ∧ RDs K (Tr Av r) H r ds vs) (enumF 0 ds) where
  mono := (src_tup a).mono
  grow := (src_tup a).grow
  go := fun Av r h H i d hd R ⟨vs, q, qs⟩ => by
    rw [enumF_get] at hd
    obtain ⟨d0, hd0, e0⟩ := Option.map_eq_some_iff.mp hd
    obtain ⟨v, hv, rd⟩ := RDs.get qs hd0
    refine ⟨⟨vs, v, q, hv⟩, fun x H' ⟨T, y, ex, hT, eH, hx⟩ => ?_⟩
    subst eH ex e0
    have := hx vs q
    rw [hv] at this
    cases this
    refine ⟨Ext.new1 hT, R.new1 hT, ?_⟩
    rw [Nat.zero_add]
    exact rd_tup R hT (.cons (.int _) (.cons rd .nil))
  stop := fun Av r h H R ⟨vs, q, qs⟩ => ⟨vs, q, by rw [enumF_len, qs.length]; exact Nat.le_refl _⟩
def i_eT (ms : FA) : FA := fun sl h => (ms sl h).bind fun p => match p.1 with
  | [.tup xs] => some (enumF 0 xs, p.2)
  | [.kt xs] => some (enumF 0 xs, p.2)
  | _ => none
theorem fi_eT {X : Cx} {Av : Addr → Prop} {e : Expr} {ms : FA} {p pos tpos : Pos} {elts : List Expr} {kk : Nat} (hg : Gl X "enumerate") (hm : X.mg "enumerate" = none) (ha : PA X [e] (tFA X.K Av ms)) (hs : starEach [e] X.env = [(false, eval e X.env)] := by rfl) : PI X (.Tuple elts kk tpos) (.Call (.Name "enumerate" p) [e] [] pos) (tFI X.K Av (i_eT ms)) := PI.imp (pi_enumT hg hm ha hs) fun σ H Q ⟨r, sl, h, ds, h', R, S, e, k⟩ => by
  obtain ⟨⟨d1, h1⟩, e1, e⟩ := Option.bind_eq_some_iff.mp e
  refine tFA_go R S e1 fun r1 v H1 x1 R1 S1 q1 => ?_
  dsimp only at e
  split at e
  · cases e
    cases q1 with
    | cons q qn =>
      cases qn
      cases q with
      | tup z qs => exact ⟨_, _, rfl, SqT.of z, k r1 H1 _ _ x1 R1 (src_enumT _ _) ⟨_, SqT.of z, qs⟩⟩
  · cases e
    cases q1 with
    | cons q qn =>
      cases qn
      cases q with
      | kt z qs => exact ⟨_, _, rfl, z, k r1 H1 _ _ x1 R1 (src_enumT _ _) ⟨_, z, qs⟩⟩
  · cases e
def i_alt (a b : FA) : FA := fun sl h => match a sl h with
  | some r => some r
  | none => b sl h
theorem fi_alt {X : Cx} {Av : Addr → Prop} {tg e : Expr} {a b : FA} (ha : PI X tg e (tFI X.K Av a)) (hb : PI X tg e (tFI X.K Av b)) : PI X tg e (tFI X.K Av (i_alt a b)) := ⟨fun pins s σ H R I ⟨r, sl, h, ds, h', R0, S, e, k⟩ => by
  unfold i_alt at e
  split at e
  · rename_i p hp
    cases e
    exact ha.run pins s σ H R I ⟨r, sl, h, ds, h', R0, S, hp, k⟩
  · exact hb.run pins s σ H R I ⟨r, sl, h, ds, h', R0, S, e, k⟩⟩
end HF
set_option Elab.async false
set_option linter.all false
set_option maxRecDepth 100000
set_option maxHeartbeats 1000000
namespace HF
open PySem PySem.Spec PyProof.Rows L2
/-! ### *rows, last = a list -/
theorem unpack_star {prog : Program} {w : World} {A : Around} {E : Value → Shared → Prop} {s : Shared} {l : Addr} {items : Array Value} {Q : List Value → Shared → Prop} (hl : s.heap.IsList l items) (hh : A.handled = none) (h1 : 1 ≤ items.size) (hz : items.size ≤ 16384)
    (h : ∀ (h' : Heap) (tk : Nat), (∀ b o, s.heap.get? b = some o → h'.get? b = some o) → Q ([.ref h'.objs.size] ++ items.toList.drop (items.size - 1)) { s with heap := h'.push { cls := .type "list", data := .seq (items.toList.take (items.size - 1)).toArray }, toks := tk }) : wpAny (model prog w) A (unpackItems (.ref l) 2 (some 0)) Q E s := by
  have n1 : l ≠ s.heap.objs.size := by obtain ⟨o, q, _⟩ := hl; exact Nat.ne_of_lt (Heap.lt_size q)
  unfold unpackItems
  refine wpAny_bind ?_
  unfold notIterableAtAll
  refine wpAny_bind (wpAny_specialOf hl.typeIs slot_list_iter.lookup (wpAny_pure ?_))
  simp only [Bool.false_eq_true, if_false]
  refine wpAny_bind (wpAny_holding (wpAny_pyIter_list hl ?_))
  refine wpAny_bind (wpAny_holding (PySem.W.kun_draw n1 0 0 _ _ ⟨_, Heap.get?_push_size _ rfl, rfl, rfl⟩ (hl.push _) (Nat.zero_le _) fun g1 it1 sb1 => ?_))
  have l1 : g1.IsList l items := (hl.push _).extBut sb1.extBut n1
  obtain ⟨oi, hoi, _⟩ := id it1
  obtain ⟨ol, hol, _⟩ := id l1
  rw [List.drop_zero, List.take_zero]
  rw [if_neg (show ¬ (([] : List Value).length < 0) from Nat.lt_irrefl _)]
  refine wpAny_bind (wpAny_holding (PySem.W.kun_collect (s := { s with heap := g1 }) (T := "list_iterator") (.inr (.inr (.inl rfl))) (Walks.list (A := A.in1) hh s.heap.objs.size l n1 items) (fun j u st => st.1.typeIs) (k := 0) (Nat.zero_le _) ⟨it1, l1⟩ (Heap.lt_size hoi) (Heap.lt_size hol) (fun g2 tk hk => ?_) (by rw [sizeLine_eq]; omega)))
  rw [List.drop_zero]
  have len : items.toList.length = items.size := Array.length_toList
  show wpAny _ _ (if items.toList.length < 2 - 1 - 0 then _ else _) _ _ _
  rw [if_neg (by rw [len]; omega)]
  show wpAny _ _ (newList (items.toList.take (items.toList.length - (2 - 1 - 0))) >>= fun d => pure ([] ++ [d] ++ items.toList.drop (items.toList.length - (2 - 1 - 0)))) _ _ _
  have mid : items.toList.length - (2 - 1 - 0) = items.size - 1 := by rw [len]
  rw [mid]
  have keep : ∀ b o, s.heap.get? b = some o → g2.get? b = some o := fun b o q => by
    have hb : b ≠ s.heap.objs.size := Nat.ne_of_lt (Heap.lt_size q)
    exact hk b o hb (sb1.extBut b o hb (Heap.get?_push_of_some _ q))
  exact wpAny_bind (wpAny_newList (wpAny_pure (h g2 tk keep)) (by rw [List.length_take, len, sizeLine_eq]; omega))
def gStar (K : PySem.W.Frag) (t : TGs) : TG := fun v σ H Q => ∃ a xs y, v = .ref a ∧ SqL K H a xs ∧ xs.length ≤ 16384 ∧ xs[xs.length - 1]? = some y ∧ ∀ p, H p = none → t [.ref p, y] σ (upd H p (.lst xs.dropLast)) Q
theorem pg_star {X : Cx} {a b : Expr} {sp pos : Pos} {kk : Nat} {t : TGs} (hc : X.calm = true) (h : PGs X [a, b] t) (he : (assignEach [.Starred a sp, b] X.env).map (·.2) = (assignEach [a, b] X.env).map (·.2) := by rfl) (hn : (assignEach [.Starred a sp, b] X.env).length = 2 := by rfl) (hi : (assignEach [.Starred a sp, b] X.env).findIdx? (·.1) = some 0 := by rfl) :
    PG X (.Tuple [.Starred a sp, b] kk pos) (gStar X.K t) := ⟨fun pins s σ H v u Q I r hw => by
  obtain ⟨l, xs, y, ev, hq, hz, hy, hw⟩ := hw
  subst ev
  cases r
  obtain ⟨its, rv, pl, hs⟩ := I.list hq
  have len := rv.length
  have h1 : 1 ≤ xs.length := by
    have := getOpt hy
    omega
  rw [assign_Tuple]
  refine wpAny_bind (wpAny_standAt ?_)
  unfold unpack
  rw [hn, hi, he]
  refine wpAny_bind (wpAny_holding (unpack_star pl.isList (I.ok.hd hc) (by rw [List.size_toArray, ← len]; exact h1) (by rw [List.size_toArray, ← len]; exact hz) fun h' tk kp => ?_))
  have I1 : Inv X pins σ H { s with heap := h', toks := tk } := I.kept (t' := tk) kp
  have hp : H h'.objs.size = none := I1.hok.fresh (Nat.le_refl _)
  have I2 : Inv X pins σ (upd H h'.objs.size (.lst xs.dropLast)) { s with heap := h'.push { cls := .type "list", data := .seq (its.toArray.toList.take (its.toArray.size - 1)).toArray }, toks := tk } := by
    refine I1.lnew (its := its.toArray.toList.take (its.toArray.size - 1)) ?_ (by rw [List.length_dropLast, sizeLine_eq]; omega)
    rw [List.size_toArray, List.toList_toArray, List.dropLast_eq_take, len]
    exact rv.take _
  refine h.run pins _ σ _ [.ref h'.objs.size, y] _ Q I2 ?_ (hw _ hp)
  obtain ⟨u, hu, ru⟩ := rv.get hy
  have e2 : its.toArray.toList.drop (its.toArray.size - 1) = [u] := by
    rw [List.size_toArray, List.toList_toArray, ← len]
    have lt := getOpt hu
    rw [List.drop_eq_getElem_cons lt, List.drop_eq_nil_of_le (by omega)]
    rw [List.getElem?_eq_getElem lt] at hu
    cases hu
    rfl
  rw [e2]
  exact .cons rfl (.cons ru .nil)⟩
def s_star (i j : Nat) (m : FE) : FS := fun sl h => (m sl h).bind fun p => (asL p.2 p.1).bind fun xs => if decide (xs.length ≤ 16384) then (xs[xs.length - 1]?).bind fun y => some (.nx, (sl.set i (some (.fl xs.dropLast))).set j (some y), p.2) else none
theorem fs_star {X : Cx} {Av : Addr → Prop} {x y : Str} {px py sp pt pos : Pos} {kk i j : Nat} {e : Expr} {m : FE} (hc : X.calm = true) (hN : X.N.Nodup) (hi : X.N[i]? = some x) (hj : X.N[j]? = some y) (hij : i ≠ j) (hx : Loc X.env.scope x) (hy : Loc X.env.scope y) (he : PE X e (tF X.K Av m))
    (hfx : X.fn x = true ∨ X.env.scope.names.lookup x = some .local := by first | exact .inl rfl | exact .inr rfl | assumption) (hfy : X.fn y = true ∨ X.env.scope.names.lookup y = some .local := by first | exact .inl rfl | exact .inr rfl | assumption)
    (hs : swapsWithSole [.Tuple [.Starred (.Name x px) sp, .Name y py] kk pt] e pos.line X.env = pure false := by rfl) (hw : swappedStores [.Tuple [.Starred (.Name x px) sp, .Name y py] kk pt] e X.env = pure none := by rfl)
    (h1 : (assignEach [.Tuple [.Starred (.Name x px) sp, .Name y py] kk pt] X.env).map (·.2) = [assign (.Tuple [.Starred (.Name x px) sp, .Name y py] kk pt) X.env] := by rfl)
    (ha : (assignEach [.Name x px, .Name y py] X.env).map (·.2) = assign (.Name x px) X.env :: (assignEach [.Name y py] X.env).map (·.2) := by rfl) (hb : (assignEach [.Name y py] X.env).map (·.2) = assign (.Name y py) X.env :: (assignEach [] X.env).map (·.2) := by rfl)
    (he2 : (assignEach [.Starred (.Name x px) sp, .Name y py] X.env).map (·.2) = (assignEach [.Name x px, .Name y py] X.env).map (·.2) := by rfl) (hn2 : (assignEach [.Starred (.Name x px) sp, .Name y py] X.env).length = 2 := by rfl) (hi2 : (assignEach [.Starred (.Name x px) sp, .Name y py] X.env).findIdx? (·.1) = some 0 := by rfl) :
    PS X (.Assign [.Tuple [.Starred (.Name x px) sp, .Name y py] kk pt] e pos) (tFS X.K Av (s_star i j m)) :=
  PS.imp (ps_asg he (pg_star hc (pgs_cons (pg_name hN hi hx hfx) (pgs_cons (pg_name hN hj hy hfy) pgs_nil hb) ha) he2 hn2 hi2) hs hw h1) fun Dn σ H q => by
    obtain ⟨r, sl, h, f, sl', h', R, S, e, k⟩ := q
    obtain ⟨⟨d1, h1⟩, e1, e⟩ := Option.bind_eq_some_iff.mp e
    obtain ⟨xs, e2, e⟩ := Option.bind_eq_some_iff.mp e
    dsimp only at e
    split at e
    · rename_i hz
      obtain ⟨d, e3, e⟩ := Option.bind_eq_some_iff.mp e
      cases e
      refine tF_go R S e1 fun r1 v H1 x1 R1 S1 q1 => ?_
      obtain ⟨a, vs, ev, sq, qs⟩ := asL_ok R1 q1 e2
      obtain ⟨y, hy, rd⟩ := RDs.get qs e3
      refine ⟨a, vs, y, ev, sq, by rw [← qs.length]; exact of_decide_eq_true hz, by rw [← qs.length]; exact hy, fun p hp => ?_⟩
      refine ⟨_, _, rfl, ⟨_, _, rfl, ⟨rfl, ?_⟩⟩⟩
      exact k r1 _ _ (x1.trans (Ext.new1 hp)) (R1.new1 hp) (((S1.mono R1 (Ext.new1 hp)).set i (rd_fl R1 hp qs.dropL)).set j (RD.up R1 hp rd))
    · cases e
/-! ### with: an own object with __enter__ and __exit__ -/
def s_with (c0 : Str) (ce cx : CM) (m : FE) (b : FS) : FS := fun sl h => (m sl h).bind fun p => (asI p.2 p.1).bind fun q => if q.1 = c0 then (ce [p.1] [] p.2).bind fun z => (b sl z.2).bind fun y => (cx [p.1, .non, .non, .non] [] y.2.2).bind fun w => some (y.1, y.2.1, w.2) else none
theorem fs_with {X : Cx} {Av : Addr → Prop} {c0 : Str} {fe fx : Addr} {ce cx : CM} {ke kx : Nat} {m : FE} {b : FS} {ctx : Expr} {body : List Stmt} {pos : Pos} (hX : X.xe = fun _ _ => False) (he : Meth X.K (He.ga X.K c0) "__enter__" fe) (hx : Meth X.K (He.ga X.K c0) "__exit__" fx) (Fe : FnB X.prog X.w X.K X.mg X.base ke fe ce) (Fx : FnB X.prog X.w X.K X.mg X.base kx fx cx) (hre : Room ke X.A) (hrx : Room kx X.A)
    (hc : PE X ctx (tF X.K Av m)) (hb : PSs X body (tFS X.K Av b)) : PS X (.With [⟨ctx, none⟩] body pos) (tFS X.K Av (s_with c0 ce cx m b)) := ⟨fun pins s σ H Dn I q => by
  obtain ⟨r, sl, h, f, sl', h', R, S, e0, k⟩ := q
  obtain ⟨⟨d1, h1⟩, e1, ea⟩ := Option.bind_eq_some_iff.mp e0
  obtain ⟨⟨c, ks, xs⟩, e2, eb⟩ := Option.bind_eq_some_iff.mp ea
  clear e0 ea
  dsimp only at eb
  by_cases hcc : c = c0
  · rw [if_pos hcc] at eb
    subst hcc
    obtain ⟨⟨d3, h3⟩, e3, ec⟩ := Option.bind_eq_some_iff.mp eb
    obtain ⟨⟨f4, sl4, h4⟩, e4, ed⟩ := Option.bind_eq_some_iff.mp ec
    obtain ⟨⟨d5, h5⟩, e5, ef⟩ := Option.bind_eq_some_iff.mp ed
    cases ef
    clear eb ec ed
    let En : V → Ends := fun v => ⟨fun σ' H' => spB X.K cx [] [v, .non, .non, .non] [] H' fun _ H2 => Dn.nx σ' H2, fun u H' => spB X.K cx [] [v, .non, .non, .non] [] H' fun _ H2 => Dn.rt u H2, fun σ' H' => spB X.K cx [] [v, .non, .non, .non] [] H' fun _ H2 => Dn.bk σ' H2, fun σ' H' => spB X.K cx [] [v, .non, .non, .non] [] H' fun _ H2 => Dn.ct σ' H2⟩
    have A1 : tF X.K Av m σ H (fun v H1 => ∃ a dx fs, v = V.ref a ∧ H1 a = some (.ins (He.ga X.K c) dx fs) ∧ spB X.K ce [] [v] [] H1 fun _ H2 => tFS X.K Av b (En v) σ H2) := tF_go R S e1 fun r1 v1 H1 x1 R1 S1 q1 => by
      obtain ⟨a, dx, fs, ev, hi, ek, qs⟩ := asI_ok R1 q1 e2
      refine ⟨a, dx, fs, ev, hi, spB_of R1 (.cons q1 .nil) e3 fun r2 v2 H2 x2 R2 q2 => tFS_go R2 (S1.mono R1 x2) e4 fun r3 σ3 H3 x3 R3 S3 => ?_⟩
      have q3 := RD.mono R2 x3 _ _ (RD.mono R1 x2 _ _ q1)
      have x13 := (x1.trans x2).trans x3
      have four : RDs X.K (Tr Av r3) H3 r3 [d1, .non, .non, .non] [v1, .non, .non, .non] := .cons q3 (.cons .non (.cons .non (.cons .non .nil)))
      cases f4 with
      | nx => exact spB_of R3 four e5 fun r5 v5 H5 x5 R5 q5 => k r5 σ3 H5 (x13.trans x5) R5 (S3.mono R3 x5)
      | bk => exact spB_of R3 four e5 fun r5 v5 H5 x5 R5 q5 => k r5 σ3 H5 (x13.trans x5) R5 (S3.mono R3 x5)
      | ct => exact spB_of R3 four e5 fun r5 v5 H5 x5 R5 q5 => k r5 σ3 H5 (x13.trans x5) R5 (S3.mono R3 x5)
      | rt d => exact fun v rd => spB_of R3 four e5 fun r5 v5 H5 x5 R5 q5 => k r5 σ3 H5 (x13.trans x5) R5 (S3.mono R3 x5) v (RD.mono R3 x5 _ _ rd)
    refine PySem.W.kw_exec0 (thn (hc.run pins s σ H _ I A1) fun u s1 hu => ?_)
    obtain ⟨y, H1, I1, ry, a, dx, fs, ey, hi, q1⟩ := hu
    subst ey
    obtain rfl : u = Value.ref a := ry
    obtain ⟨mA, J, _⟩ := ins_get I1.hok hi
    obtain ⟨od, J, _⟩ := J.look
    obtain ⟨m0, hF⟩ := I1.fr
    refine PySem.W.kw_in0 hF I1.ok.mod.kin J he.at_ he.fn hx.at_ hx.fn ?_
    refine wpAny_mono (run_at (us := [.ref a]) (ws := []) (vs := [.ref a]) (zs := []) (E' := X.xe) Fe hre I1.env0 I1 (.cons rfl .nil) .nil rfl q1) (fun w s2 hw => ?_) fun _ _ z => z
    obtain ⟨v2, H2, I2, rv2, q2⟩ := hw
    have body_ := hb.run pins s2 σ H2 _ I2 q2
    rw [hX] at body_
    refine wpAny_mono body_ (fun fl s3 hfl => ?_) fun _ _ z => z
    show wpAny _ _ (call (.ref fx) [.ref a, .none, .none, .none]) _ _ _
    have go : ∀ {σ' : L2.St} {H' : Hp} {C : Hp → Prop}, Inv X pins σ' H' s3 → spB X.K cx [] [V.ref a, .non, .non, .non] [] H' (fun _ H2 => C H2) → wpAny (model X.prog X.w) X.A (call (.ref fx) [.ref a, .none, .none, .none]) (fun _ s' => ∃ H2, Inv X pins σ' H2 s' ∧ C H2) X.xe s3 := fun {σ' H' C} I3 q3 =>
      wpAny_mono (run_at (us := [.ref a, .none, .none, .none]) (ws := []) (vs := [.ref a, .non, .non, .non]) (zs := []) Fx hrx I3.env0 I3 (.cons rfl (.cons rfl (.cons rfl (.cons rfl .nil)))) .nil rfl q3) (fun w s' z => by
        obtain ⟨v, H2, I4, _, qz⟩ := z
        exact ⟨H2, I4, qz⟩) fun _ _ z => z
    cases fl with
    | next =>
      obtain ⟨σ', H', I3, q3⟩ := hfl
      exact wpAny_mono (go I3 q3) (fun _ s' ⟨H2, I4, qz⟩ => ⟨σ', H2, I4, qz⟩) fun _ _ z => z
    | brk =>
      obtain ⟨σ', H', I3, q3⟩ := hfl
      exact wpAny_mono (go I3 q3) (fun _ s' ⟨H2, I4, qz⟩ => ⟨σ', H2, I4, qz⟩) fun _ _ z => z
    | cont =>
      obtain ⟨σ', H', I3, q3⟩ := hfl
      exact wpAny_mono (go I3 q3) (fun _ s' ⟨H2, I4, qz⟩ => ⟨σ', H2, I4, qz⟩) fun _ _ z => z
    | ret u =>
      obtain ⟨v, σ', H', I3, rv, q3⟩ := hfl
      exact wpAny_mono (go I3 q3) (fun _ s' ⟨H2, I4, qz⟩ => ⟨v, σ', H2, I4, rv, qz⟩) fun _ _ z => z
  · rw [if_neg hcc] at eb
    cases eb⟩
/-! ### try that raises nothing -/
theorem fs_try {X : Cx} {Av : Addr → Prop} {body : List Stmt} {h₀ : ExceptHandler} {hs : List ExceptHandler} {pos : Pos} {b : FS} (hb : PSs X.nox body (tFS X.K Av b)) : PS X (.Try body (h₀ :: hs) [] [] pos) (tFS X.K Av b) := ps_try_thru0 hb
end HF
set_option Elab.async false
set_option linter.all false
set_option maxRecDepth 100000
set_option maxHeartbeats 1000000
namespace HF
open PySem PySem.Spec PyProof.Rows L2
/-! ### a dict locked while it is walked -/
structure Like (H H' : Hp) : Prop where
  rd : ∀ a u, (∀ od v, u ≠ .frz od v) → Rd H a u → Rd H' a u
  st : ∀ a u, (∀ kvs, u ≠ .dK kvs) → (∀ od v, u ≠ .frz od v) → H a = some u → H' a = some u
section
variable {K : PySem.W.Frag} {T : Addr → Prop} {H H' : Hp} {r : Rho}
theorem Like.tup (L : Like H H') {a : Addr} {vs : List V} (q : H a = some (.tup vs)) : H' a = some (.tup vs) := L.st _ _ (fun _ z => by cases z) (fun _ _ z => by cases z) q
theorem Like.lst (L : Like H H') {a : Addr} {vs : List V} (q : H a = some (.lst vs)) : H' a = some (.lst vs) := L.st _ _ (fun _ z => by cases z) (fun _ _ z => by cases z) q
theorem Like.ins (L : Like H H') {a c dx : Addr} {fs : List (Str × V)} (q : H a = some (.ins c dx fs)) : H' a = some (.ins c dx fs) := L.st _ _ (fun _ z => by cases z) (fun _ _ z => by cases z) q
theorem Like.rtup (L : Like H H') {a : Addr} {vs : List V} (q : Rd H a (.tup vs)) : Rd H' a (.tup vs) := L.rd _ _ (fun _ _ z => by cases z) q
theorem Like.rlst (L : Like H H') {a : Addr} {vs : List V} (q : Rd H a (.lst vs)) : Rd H' a (.lst vs) := L.rd _ _ (fun _ _ z => by cases z) q
theorem Like.rdk (L : Like H H') {a : Addr} {vs : List (Key × V)} (q : Rd H a (.dK vs)) : Rd H' a (.dK vs) := L.rd _ _ (fun _ _ z => by cases z) q
theorem Like.rdt (L : Like H H') {a : Addr} {vs : List (List Key × V)} (q : Rd H a (.dT vs)) : Rd H' a (.dT vs) := L.rd _ _ (fun _ _ z => by cases z) q
mutual
theorem RD.like (L : Like H H') : ∀ (d : D) (v : V), RD K T H r d v → RD K T H' r d v
  | _, _, .non => .non
  | _, _, .bl b => .bl b
  | _, _, .int i => .int i
  | _, _, .str s => .str s
  | _, _, .tup q ds => .tup (L.tup q) (RDs.like L _ _ ds)
  | _, _, .kt q ds => .kt (q.elim (fun q => .inl (L.rtup q)) .inr) (RDs.like L _ _ ds)
  | _, _, .kl q ds => .kl q (RDs.like L _ _ ds)
  | _, _, .fl q n ds => .fl (L.lst q) n (RDs.like L _ _ ds)
  | _, _, .fz q n ds => .fz (L.rlst q) n (RDs.like L _ _ ds)
  | _, _, .ob q n k ds => .ob (L.ins q) n k (RDs.like L _ _ ds)
  | _, _, .dk q n k ds => .dk (L.rdk q) n k (RDs.like L _ _ ds)
  | _, _, .dt q n k ds => .dt (L.rdt q) n k (RDs.like L _ _ ds)
  | _, _, .loc l q => .loc l q
theorem RDs.like (L : Like H H') : ∀ (ds : List D) (vs : List V), RDs K T H r ds vs → RDs K T H' r ds vs
  | _, _, .nil => .nil
  | _, _, .cons d ds => .cons (RD.like L _ _ d) (RDs.like L _ _ ds)
end
theorem roh_like (L : Like H H') : ∀ (o : O) (u : HO), ROH K T H r o u → ROH K T H' r o u
  | .lst _, _, ⟨vs, e, q⟩ => ⟨vs, e, RDs.like L _ _ q⟩
  | .dk _ _, _, ⟨kvs, e, ek, q⟩ => ⟨kvs, e, ek, RDs.like L _ _ q⟩
  | .dt _ _, _, ⟨kvs, e, ek, q⟩ => ⟨kvs, e, ek, RDs.like L _ _ q⟩
  | .ins _ _ _, _, ⟨dx, fs, e, ek, q⟩ => ⟨dx, fs, e, ek, RDs.like L _ _ q⟩
  | .lk o, _, ⟨od, u', e, q⟩ => ⟨od, u', e, roh_like L o u' q⟩
  | .gone, _, q => q
theorem RSl.like {sl : Sl} {σ : L2.St} (L : Like H H') (q : RSl K T H r sl σ) : RSl K T H' r sl σ := ⟨q.len, fun i d hd => by
  obtain ⟨v, hv, rd⟩ := q.at_ i d hd
  exact ⟨v, hv, RD.like L _ _ rd⟩⟩
end
section
variable {d : Addr} {kvs : List (Key × V)} {od : Obj}
theorem like_lock {H : Hp} (hd : H d = some (.dK kvs)) : Like H (upd H d (.frz od (.dK kvs))) where
  rd := fun a u nf q => by
    by_cases e : a = d
    · subst e
      rcases q with q | ⟨o, q⟩
      · rw [hd] at q
        cases q
        exact .inr ⟨od, upd_same⟩
      · rw [hd] at q
        cases q
    · rcases q with q | ⟨o, q⟩
      · exact .inl (by rw [upd_ne e]; exact q)
      · exact .inr ⟨o, by rw [upd_ne e]; exact q⟩
  st := fun a u n1 n2 q => by
    have e : a ≠ d := fun e => by
      rw [e, hd] at q
      cases q
      exact n1 _ rfl
    rw [upd_ne e]
    exact q
theorem like_free {H : Hp} (hd : H d = some (.frz od (.dK kvs))) : Like H (upd H d (.dK kvs)) where
  rd := fun a u nf q => by
    by_cases e : a = d
    · subst e
      rcases q with q | ⟨o, q⟩
      · rw [hd] at q
        cases q
        exact absurd rfl (nf _ _)
      · rw [hd] at q
        cases q
        exact .inl upd_same
    · rcases q with q | ⟨o, q⟩
      · exact .inl (by rw [upd_ne e]; exact q)
      · exact .inr ⟨o, by rw [upd_ne e]; exact q⟩
  st := fun a u n1 n2 q => by
    have e : a ≠ d := fun e => by
      rw [e, hd] at q
      cases q
      exact n2 _ _ rfl
    rw [upd_ne e]
    exact q
end
section
variable {K : PySem.W.Frag} {Av : Addr → Prop} {H : Hp} {r : Rho} {h : List O} {d : Addr} {kvs : List (Key × V)} {od : Obj}
theorem Rep.lock (R : Rep K Av r h H) (hd : H d = some (.dK kvs)) (n : ¬ Tr Av r d) : Rep K Av r h (upd H d (.frz od (.dK kvs))) where
  len := R.len
  inj := R.inj
  nav := R.nav
  dom := fun a q => by
    obtain ⟨o, e⟩ := R.dom a q
    have ne : a ≠ d := fun z => n (.inl (z ▸ q))
    exact ⟨o, by rw [upd_ne ne]; exact e⟩
  obs := fun i a o e1 e2 => by
    obtain ⟨w, hw, ho⟩ := R.obs i a o e1 e2
    have ne : a ≠ d := fun z => n (.inr ⟨i, z ▸ e1⟩)
    exact ⟨w, by rw [upd_ne ne]; exact hw, roh_like (like_lock hd) o w ho⟩
  drop := R.drop
theorem Rep.unlock (R : Rep K Av r h H) (hd : H d = some (.frz od (.dK kvs))) (n : ¬ Tr Av r d) : Rep K Av r h (upd H d (.dK kvs)) where
  len := R.len
  inj := R.inj
  nav := R.nav
  dom := fun a q => by
    obtain ⟨o, e⟩ := R.dom a q
    have ne : a ≠ d := fun z => n (.inl (z ▸ q))
    exact ⟨o, by rw [upd_ne ne]; exact e⟩
  obs := fun i a o e1 e2 => by
    obtain ⟨w, hw, ho⟩ := R.obs i a o e1 e2
    have ne : a ≠ d := fun z => n (.inr ⟨i, z ▸ e1⟩)
    exact ⟨w, by rw [upd_ne ne]; exact hw, roh_like (like_free hd) o w ho⟩
  drop := R.drop
end
theorem lc_gen {K : PySem.W.Frag} {Av : Addr → Prop} {mi : FA} {g : FG} {tt : FT} {te : FE} {vs is : List Nat} (hs : ∀ j ∈ is, j ∈ vs) {wi : TI} {σ : L2.St} {H : Hp} {Q : VK} (hw : ∀ R, tFI K Av mi σ H R → wi σ H R) (q : tF K Av (m_lc mi g tt te vs) σ H Q) : tLc wi (exG K is g) (exT K tt) (exE K te) vs σ H Q :=
  hw _ (lc_go hs q)
def i_kf (cs : List Str) (f : Str) (i : Nat) : FA := fun sl h => match sl[i]? with
  | some (some d) => (asI h d).bind fun q => if cs.contains q.1 then (match lookF f q.2.1 q.2.2 with
    | some (.dk ks _) => some (ks.map keyD, h)
    | _ => none) else none
  | _ => none
theorem kf_ok {K : PySem.W.Frag} {Av : Addr → Prop} {cs : List Str} {f : Str} {i : Nat} {σ : L2.St} {H : Hp} {r : Rho} {sl : Sl} {h h' : List O} {ds : List D} (hc : HasF K cs f) (R : Rep K Av r h H) (S : RSl K (Tr Av r) H r sl σ) (e : i_kf cs f i sl h = some (ds, h')) :
    h' = h ∧ ∃ v a C dx fs d kvs, σ[i]? = some (some v) ∧ v = .ref a ∧ H a = some (.ins C dx fs) ∧ Cls K C ∧ NoAttr K C f ∧ fs.lookup f = some (.ref d) ∧ Rd H d (.dK kvs) ∧ ¬ Tr Av r d ∧ ds = kvs.map fun kv => keyD kv.1 := by
  unfold i_kf at e
  split at e
  · rename_i d0 hd0
    obtain ⟨⟨c, ks, xs⟩, e1, e⟩ := Option.bind_eq_some_iff.mp e
    dsimp only at e
    split at e
    · rename_i hm
      split at e
      · rename_i ks2 xs2 hl
        cases e
        obtain ⟨v, hv, rd⟩ := S.at_ _ _ hd0
        obtain ⟨a, dx, fs, ev, ha, ek, qs⟩ := asI_ok R rd e1
        subst ek
        obtain ⟨u, hu, rdu⟩ := lookF_ok qs hl
        have hcc := hc c (by simpa using hm)
        cases rdu with
        | dk z n k2 q2 =>
          subst k2
          exact ⟨rfl, v, a, _, dx, fs, _, _, hv, ev, ha, hcc.1, hcc.2, hu, z, n, by rw [List.map_map]; rfl⟩
      · cases e
    · cases e
  · cases e
section
variable {X : Cx} {Av : Addr → Prop} {elt tg : Expr} {ifs : List Expr} {scope : Scope} {own : List (Str × Nat)} {pos p1 p2 : Pos} {g : FG} {tt : FT} {te : FE} {is : List Nat} {i : Nat} {x f : Str} {cs : List Str}
theorem fe_lcK (hc : X.calm = true) (hN : X.N.Nodup) (hcs : HasF X.K cs f) (hx : X.N[i]? = some x) (hv : Vis X.env.scope x) (ok : BlkOk X.N X.env.scope scope own)
    (hg : ∀ (Av : Addr → Prop) (s : Shared) (H : Hp) (C : Addr) (cl : List (Str × Addr)) (fp : List Addr), PG (X.blk s H scope (compEnvC scope cl C X.env) fp) tg (tFG X.K Av is g)) (ht : ∀ (Av : Addr → Prop) (s : Shared) (H : Hp) (C : Addr) (cl : List (Str × Addr)) (fp : List Addr), PTs (X.blk s H scope (compEnvC scope cl C X.env) fp) ifs (tFT X.K Av tt))
    (he : ∀ (Av : Addr → Prop) (s : Shared) (H : Hp) (C : Addr) (cl : List (Str × Addr)) (fp : List Addr), PE (X.blk s H scope (compEnvC scope cl C X.env) fp) elt (tF X.K Av te)) (hj : ∀ j ∈ is, j ∈ own.map (·.2) := by decide) (hb : attributeBase (.Name x p1) f X.env (eval (.Name x p1) X.env) = eval (.Name x p1) X.env := by rfl) (hs : ∀ y, foldedSetIterable (.Attribute (.Name x p1) f p2) X.env y = pure y := by intro _; rfl)
    (hd : (x == ("__debug__" : Str)) = false := by decide) (hcd : (x == ("__classdict__" : Str)) = false := by decide) :
    PE X (.ListComp elt [⟨tg, .Attribute (.Name x p1) f p2, ifs, 0⟩] scope pos) (tF X.K Av (m_lc (i_kf cs f i) g tt te (own.map (·.2)))) := ⟨fun pins s σ H Q I q => by
  have P := pe_lc (elt := elt) (pos := pos) (g := exG X.K is g) (tt := exT X.K tt) (te := exE X.K te) hc hN (pi_keys (tg := tg) (pe_fld (f := f) (pos := p2) (pe_var (pos := p1) hx hv hd hcd) hb)) ok (fun s H C cl fp => pg_ex (fun Av => hg Av s H C cl fp)) (fun s H C cl fp => pts_ex (fun Av => ht Av s H C cl fp)) (fun s H C cl fp => pe_ex (fun Av => he Av s H C cl fp)) hs
  obtain ⟨r, sl, h, d, h', R, S, e, k⟩ := q
  obtain ⟨⟨ds, h1⟩, e1, e2⟩ := Option.bind_eq_some_iff.mp e
  obtain ⟨eh, v, a, C, dx, fs, d0, kvs, hσ, ev, ha, hC, hn, hl, hr, nt, ed⟩ := kf_ok hcs R S e1
  subst eh
  have iter : ∀ (H' : Hp) (od : Obj), H' d0 = some (.frz od (.dK kvs)) → H' a = some (.ins C dx fs) → ∀ G, tFI X.K Av (i_kf cs f i) σ H' G → iKeys (tFld X.K (tVar i) f) σ H' G := fun H' od hd0 ha' G ⟨r2, sl2, hh, ds2, h2, R2, S2, e3, k2⟩ => by
    obtain ⟨eh, v2, a2, C2, dx2, fs2, d2, kvs2, hσ2, ev2, ha2, hC2, hn2, hl2, hr2, nt2, ed2⟩ := kf_ok hcs R2 S2 e3
    subst eh
    rw [hσ] at hσ2
    cases hσ2
    rw [ev] at ev2
    cases ev2
    rw [ha'] at ha2
    cases ha2
    rw [hl] at hl2
    cases hl2
    have ek : kvs2 = kvs := by
      rcases hr2 with z | ⟨o, z⟩
      · rw [hd0] at z; cases z
      · rw [hd0] at z; cases z; rfl
    subst ek
    refine ⟨v, hσ, a, C, dx, fs, .ref d0, ev, ha', hC, hn, hl, d0, od, rfl, .inl ⟨kvs2, hd0, ?_⟩⟩
    rw [ed2] at k2
    exact k2 r2 H' _ _ (Ext.refl _ _) R2 (src_keys d0 od kvs2) ⟨hd0, nt2⟩
  rcases hr with hr | ⟨od, hr⟩
  · refine (pe_lock P).run pins s σ H Q I ⟨d0, .dK kvs, hr, trivial, fun od => ?_⟩
    have ne : a ≠ d0 := fun z => by rw [z, hr] at ha; cases ha
    have R1 := R.lock (od := od) hr nt
    have S1 := S.like (like_lock (od := od) hr)
    have ha1 : upd H d0 (.frz od (.dK kvs)) a = some (.ins C dx fs) := by rw [upd_ne ne]; exact ha
    have e1' : i_kf cs f i sl h1 = some (ds, h1) := e1
    refine lc_gen hj (iter _ od upd_same ha1) ⟨r, sl, h1, d, h', R1, S1, e, fun r' v' H' x' R' rd => ?_⟩
    have n0 : ¬ In r d0 := fun z => nt (.inr z)
    have hd1 : H' d0 = some (.frz od (.dK kvs)) := x'.keep _ _ upd_same n0
    have nt1 : ¬ Tr Av r' d0 := tr_mono x' nt ⟨_, upd_same⟩
    refine ⟨hd1, k r' v' _ ?_ (R'.unlock hd1 nt1) (RD.like (like_free hd1) _ _ rd)⟩
    refine ⟨x'.len, x'.pre, fun j b hjb eb => ?_, fun b o eb nb => ?_, fun b o eb => ?_⟩
    · have z := x'.new j b hjb eb
      by_cases q : b = d0
      · rw [q, upd_same] at z; cases z
      · rw [upd_ne q] at z; exact z
    · by_cases q : b = d0
      · rw [q] at eb ⊢
        rw [hr] at eb
        cases eb
        exact upd_same
      · rw [upd_ne q]
        exact x'.keep b o (by rw [upd_ne q]; exact eb) nb
    · by_cases q : b = d0
      · exact ⟨_, by rw [q]; exact upd_same⟩
      · obtain ⟨o', z⟩ := x'.stay b o (by rw [upd_ne q]; exact eb)
        exact ⟨o', by rw [upd_ne q]; exact z⟩
  · exact P.run pins s σ H Q I (lc_gen hj (iter H od hr ha) ⟨r, sl, h1, d, h', R, S, e, k⟩)⟩
end
end HF
set_option Elab.async false
set_option linter.all false
set_option maxRecDepth 100000
set_option maxHeartbeats 1000000
namespace HF
open PySem PySem.Spec PyProof.Rows L2
section
variable {K : PySem.W.Frag} {Av : Addr → Prop} {H : Hp} {r : Rho} {h : List O} {D0 : Addr} {u : HO} {kvs : List (Key × V)}
theorem lean_avK (hA : Av D0) (hD : H D0 = some (.dK kvs)) : Lean1 (Tr Av r) (Tr Av r) H (upd H D0 u) r r :=
  ⟨fun a _ n => n, fun a o e n => by
    have ne : a ≠ D0 := fun z => n (.inl (by rw [z]; exact hA))
    rw [upd_ne ne]; exact e,
    fun a xs q => by
      rcases q with q | ⟨od, q⟩
      · exact .inl (by rw [upd_ne (ne_of q hD (by intro z; cases z))]; exact q)
      · exact .inr ⟨od, by rw [upd_ne (ne_of q hD (by intro z; cases z))]; exact q⟩,
    fun a xs q => by rw [upd_ne (ne_of q hD (by intro z; cases z))]; exact q, Nat.le_refl _, fun _ _ _ e => e⟩
theorem Rep.avK (R : Rep K Av r h H) (hA : Av D0) (hD : H D0 = some (.dK kvs)) : Rep K Av r h (upd H D0 u) where
  len := R.len
  inj := R.inj
  nav := R.nav
  dom := fun a z => by
    by_cases q : a = D0
    · exact ⟨u, by rw [q, upd_same]⟩
    · obtain ⟨o, e⟩ := R.dom a z
      exact ⟨o, by rw [upd_ne q]; exact e⟩
  obs := fun i a o e1 e2 => by
    obtain ⟨w, hw, ho⟩ := R.obs i a o e1 e2
    have ne : a ≠ D0 := fun z => R.nav a ⟨i, e1⟩ (z ▸ hA)
    exact ⟨w, by rw [upd_ne ne]; exact hw, roh_gen (lean_avK hA hD) o w ho⟩
  drop := R.drop
end
/-! ### dict comprehensions -/
def compK (g : FG) (tt : FT) (tk tv : FE) (slw : Sl) : List D → List Key → List D → List O → Option ((List Key × List D) × List O)
  | [], ks, xs, h => some ((ks, xs), h)
  | d :: ds, ks, xs, h => (g d slw).bind fun sl1 => (tt sl1 h).bind fun p => if p.1 = true then (tk sl1 p.2).bind fun q => (tv sl1 q.2).bind fun z => (keyOf q.1).bind fun k => if szOk ks.length then compK g tt tk tv slw ds (putKsG k ks) (putVsG k z.1 ks xs) z.2 else none
    else compK g tt tk tv slw ds ks xs p.2
def m_dc (mi : FA) (g : FG) (tt : FT) (tk tv : FE) (vs : List Nat) : FE := fun sl h => (mi sl h).bind fun p => (compK g tt tk tv (wipeD sl vs) p.1 [] [] p.2).bind fun z => some (.dk z.1.1 z.1.2, z.2)
theorem dc_go {K : PySem.W.Frag} {Av : Addr → Prop} {mi : FA} {g : FG} {tt : FT} {tk tv : FE} {vs is : List Nat} (hs : ∀ j ∈ is, j ∈ vs) {σ : L2.St} {H : Hp} {Q : VK} (q : tF K Av (m_dc mi g tt tk tv vs) σ H Q) : tDc (tFI K Av mi) (exG K is g) (exT K tt) (exE K tk) (exE K tv) vs σ H Q := by
  obtain ⟨r, sl, h, d, hz, R, S, e, k⟩ := q
  obtain ⟨⟨ds, h1⟩, e1, e⟩ := Option.bind_eq_some_iff.mp e
  obtain ⟨⟨⟨kT, xT⟩, h2⟩, e2, e⟩ := Option.bind_eq_some_iff.mp e
  cases e
  refine ⟨r, sl, h, ds, h1, R, S, e1, fun r1 H1 J ok x1 R1 so o1 D0 hD => ?_⟩
  have S1 := S.mono R x1
  let Av' := AvD Av D0
  refine ⟨fun i m H => ∃ r h kvs xs, i ≤ ds.length ∧ m = ds.length - i ∧ Rep K Av' r h H ∧ RSl K (Tr Av' r) H r sl σ ∧ ok Av' r H ∧ H D0 = some (.dK kvs) ∧ RDs K (Tr Av' r) H r xs (kvs.map (·.2)) ∧ Ext r1 H1 r H ∧ compK g tt tk tv (wipeD sl vs) (ds.drop i) (kvs.map (·.1)) xs h = some ((kT, xT), h2),
    ⟨ds.length, r1, h1, [], [], Nat.zero_le _, rfl, R1.grow hD, S1.gen (lean_grow hD), so.grow Av r1 H1 D0 _ hD o1, upd_same, .nil, Ext.new1 hD, by rw [List.drop_zero]; exact e2⟩, ?_⟩
  rintro i m H2 ⟨r2, hh, kvs, xs, hi2, em, R2, S2, o2, hD2, qa, x2, e3⟩
  have hA : Av' D0 := .inr rfl
  have nD : ∀ {r : Rho} {h : List O} {H : Hp}, Rep K Av' r h H → ¬ In r D0 := fun R i => R.nav D0 i hA
  rcases Nat.lt_or_ge i ds.length with hl | hl
  · have hd : ds[i]? = some ds[i] := List.getElem?_eq_getElem hl
    obtain ⟨hgo, hy⟩ := so.go Av' r2 hh H2 i ds[i] hd R2 o2
    refine .inr ⟨hgo, fun H' => ∃ r h kvs xs, i + 1 ≤ ds.length ∧ Rep K Av' r h H' ∧ RSl K (Tr Av' r) H' r sl σ ∧ ok Av' r H' ∧ H' D0 = some (.dK kvs) ∧ RDs K (Tr Av' r) H' r xs (kvs.map (·.2)) ∧ Ext r1 H1 r H' ∧ compK g tt tk tv (wipeD sl vs) (ds.drop (i + 1)) (kvs.map (·.1)) xs h = some ((kT, xT), h2),
      fun H' ⟨r, h, kvs, xs, l, a1, a2, a3, a4, a5, a6, a7⟩ => ⟨ds.length - (i + 1), by omega, r, h, kvs, xs, l, rfl, a1, a2, a3, a4, a5, a6, a7⟩, fun x H3 yx => ?_⟩
    obtain ⟨x3, R3, q3⟩ := hy x H3 yx
    rw [List.drop_eq_getElem_cons hl] at e3
    unfold compK at e3
    obtain ⟨sl4, e4, e3⟩ := Option.bind_eq_some_iff.mp e3
    obtain ⟨⟨b5, h5⟩, e5, e3⟩ := Option.bind_eq_some_iff.mp e3
    have S3 := S2.mono R2 x3
    refine ⟨Av', r2, wipeD sl vs, hh, ds[i], sl4, R3, rsl_wipe S3 vs, q3, e4, fun σ4 S4 on4 => ⟨wipe_eq on4 hs, Av', ?_⟩⟩
    refine tFT_go R3 S4 e5 fun r5 H5 x5 R5 S5 => ?_
    have x35 := x3.trans x5
    dsimp only at e3
    cases b5 with
    | true =>
      obtain ⟨⟨d6, h6⟩, e6, e3⟩ := Option.bind_eq_some_iff.mp (show (tk sl4 h5).bind _ = some ((kT, xT), h2) from e3)
      obtain ⟨⟨d7, h7⟩, e7, e3⟩ := Option.bind_eq_some_iff.mp e3
      obtain ⟨ky, e8, e3⟩ := Option.bind_eq_some_iff.mp e3
      dsimp only at e3
      split at e3
      · rename_i hz
        refine ⟨Av', tF_go R5 S5 e6 fun r6 v6 H6 x6 R6 S6 q6 => ⟨Av', tF_go R6 S6 e7 fun r7 v7 H7 x7 R7 S7 q7 => ?_⟩⟩
        have x27 := (x35.trans x6).trans x7
        have hD7 : H7 D0 = some (.dK kvs) := x27.keep D0 _ hD2 (nD R2)
        rw [List.length_map] at hz
        refine ⟨kvs, ky, keyOf_ok q6 e8, hD7, szOk_lt hz, r7, h7, putK kvs ky v7, putVsG ky d7 (kvs.map (·.1)) xs, hl, R7.avK hA hD7, (S2.mono R2 x27).gen (lean_avK hA hD7), ?_, upd_same, ?_, ?_, by rw [putK_ks]; exact e3⟩
        · exact so.mono Av' r7 r7 H7 _ (lean_avK hA hD7) (so.mono Av' r2 r7 H2 H7 (lean_ext R2 x27) o2)
        · exact putK_vs (RD.gen (lean_avK hA hD7) _ _ q7) (RDs.gen (lean_avK hA hD7) _ _ (RDs.mono R2 x27 _ _ qa))
        · have y := x2.trans x27
          exact ⟨y.len, y.pre, y.new, fun a o ea n => by rw [upd_ne (ne_of_none ea hD)]; exact y.keep a o ea n, fun a o ea => by rw [upd_ne (ne_of_none ea hD)]; exact y.stay a o ea⟩
      · cases e3
    | false =>
      have e3' : compK g tt tk tv (wipeD sl vs) (ds.drop (i + 1)) (kvs.map (·.1)) xs h5 = some ((kT, xT), h2) := e3
      exact ⟨r5, h5, kvs, xs, hl, R5, S2.mono R2 x35, so.mono Av' r2 r5 H2 H5 (lean_ext R2 x35) o2, x35.keep D0 _ hD2 (nD R2), RDs.mono R2 x35 _ _ qa, x2.trans x35, e3'⟩
  · have ei : i = ds.length := Nat.le_antisymm hi2 hl
    rw [ei, List.drop_length] at e3
    cases e3
    have so2 := so.stop Av' r2 _ H2 R2 o2
    rw [← ei] at so2
    have li : ∀ a, Av a → Av' a := fun a z => .inl z
    refine .inl ⟨so2, k r2 _ H2 (x1.trans x2) (R2.less li) (.dk (.inl hD2) ?_ rfl (RDs.gen (lean_less li) _ _ qa))⟩
    intro t
    rcases t with t | t
    · obtain ⟨o, z⟩ := R1.dom _ t
      rw [hD] at z
      cases z
    · exact nD R2 t
section
variable {X : Cx} {Av : Addr → Prop} {kx vx tg iter : Expr} {ifs : List Expr} {scope : Scope} {own : List (Str × Nat)} {pos : Pos} {mi : FA} {g : FG} {tt : FT} {tk tv : FE} {is : List Nat}
theorem fe_dc (hc : X.calm = true) (hN : X.N.Nodup) (hi : PI X tg iter (tFI X.K Av mi)) (ok : BlkOk X.N X.env.scope scope own)
    (hg : ∀ (Av : Addr → Prop) (s : Shared) (H : Hp) (C : Addr) (cl : List (Str × Addr)) (fp : List Addr), PG (X.blk s H scope (compEnvC scope cl C X.env) fp) tg (tFG X.K Av is g)) (ht : ∀ (Av : Addr → Prop) (s : Shared) (H : Hp) (C : Addr) (cl : List (Str × Addr)) (fp : List Addr), PTs (X.blk s H scope (compEnvC scope cl C X.env) fp) ifs (tFT X.K Av tt))
    (hk : ∀ (Av : Addr → Prop) (s : Shared) (H : Hp) (C : Addr) (cl : List (Str × Addr)) (fp : List Addr), PE (X.blk s H scope (compEnvC scope cl C X.env) fp) kx (tF X.K Av tk)) (he : ∀ (Av : Addr → Prop) (s : Shared) (H : Hp) (C : Addr) (cl : List (Str × Addr)) (fp : List Addr), PE (X.blk s H scope (compEnvC scope cl C X.env) fp) vx (tF X.K Av tv))
    (hj : ∀ j ∈ is, j ∈ own.map (·.2) := by decide) (hs : ∀ x, foldedSetIterable iter X.env x = pure x := by intro _; rfl) :
    PE X (.DictComp kx vx [⟨tg, iter, ifs, 0⟩] scope pos) (tF X.K Av (m_dc mi g tt tk tv (own.map (·.2)))) :=
  PE.imp (pe_dc (tk := exE X.K tk) (tv := exE X.K tv) hc hN hi ok (fun s H C cl fp => pg_ex (fun Av => hg Av s H C cl fp)) (fun s H C cl fp => pts_ex (fun Av => ht Av s H C cl fp)) (fun s H C cl fp => pe_ex (fun Av => hk Av s H C cl fp)) (fun s H C cl fp => pe_ex (fun Av => he Av s H C cl fp)) hs) fun _ _ _ q => dc_go hj q
end
/-! ### a staticmethod, called at its class -/
structure StM (K : PySem.W.Frag) (c m : Str) : Prop where
  rd : ClX.CRead K (He.ga K c) (.type "type")
  at_ : PySem.W.findCls K (.ref (He.ga K c)) (.type "type") m = some (.get (.builtin "staticmethod.__get__") (.ref (He.ma K (He.ga K c) m)) .none (.ref (He.ga K c)))
  rc : ∃ rest, PySem.W.recIn K (He.ma K (He.ga K c) m) "staticmethod" = some (.ref (wfA K c m) :: rest)
  kp : PySem.W.keepIn K (.ref (wfA K c m)) = true
theorem fe_st {X : Cx} {Av : Addr → Prop} {c m : Str} {pc apos pos : Pos} {es : List Expr} {kws : List Keyword} {ks : List Str} {mc : FC} {k : Nat} {cm : CM} {pl : Sem Bool} (hm : X.mg c = some (.ref (He.ga X.K c))) (hg : Gl X c) (st : StM X.K c m) (F : FnB X.prog X.w X.K X.mg X.base k (wfA X.K c m) cm) (hr : Room k X.A) (ha : PCA X es kws ks (tFC X.K Av mc)) (hl : ∀ sl h ds es h', mc sl h = some ((ds, es), h') → ks.length = es.length) (hdb : (c == ("__debug__" : Str)) = false := by decide)
    (ht : eval (.Call (.Attribute (.Name c pc) m apos) es kws pos) X.env = (do
      let ov ← eval (.Name c pc) X.env
      standAt apos.atName
      let (f, first) ← holding [ov] (getMethod ov m pl)
      callWith pos f first (backTo pos (starEach es X.env)) (backToKw pos (keywordEach kws X.env))) := by rfl) :
    PE X (.Call (.Attribute (.Name c pc) m apos) es kws pos) (tF X.K Av (m_call cm ks mc)) := ⟨fun pins s σ H Q I q => by
  have q0 := call_go q hl
  have O : PE X (.Name c pc) (tC (.ref (He.ga X.K c))) := pe_glob (v := V.ref (He.ga X.K c)) hg hm rfl hdb
  refine PySem.W.methodCall_KW (pl := pl) (thn (O.run pins s σ H (fun v H1 => v = V.ref (He.ga X.K c) ∧ H1 = H) I ⟨rfl, rfl⟩) fun u s1 ⟨y, H1, I1, ry, ey, eH⟩ => ?_) ht
  subst ey eH
  obtain rfl : u = Value.ref (He.ga X.K c) := ry
  obtain ⟨rest, hrc⟩ := st.rc
  refine PySem.W.method_cls I1.kIn st.rd.ga ?_
  refine PySem.W.cls_bind I1.kIn st.rd.rd st.at_ (wpAny_call (PySem.W.sm_get (s := { s1 with toks := s1.toks + 1 }) I1.kIn hrc (PySem.W.handed_on rfl ?_)))
  exact ha.run pos (.ref (wfA X.K c m)) [] pins _ σ H1 _ _ st.kp (I1.tok _) q0 fun us ws vs zs s2 H2 I2 r1 r2 ⟨l, q1⟩ => run_fnB F hr I2 r1 r2 l q1⟩
end HF
set_option Elab.async false
set_option linter.all false
set_option maxRecDepth 100000
set_option maxHeartbeats 1000000
namespace HF
open PySem PySem.Spec PyProof.Rows L2
/-! ### what of the heap behind the top is told -/
/-! ### facts of a text -/
theorem funA {K : PySem.W.Frag} {a : Addr} {d : He.DefD} (e : fnWA K a = d.val) (c : okA K a d = true) : ∃ fd, FunD K d.name d.qual d.params d.body d.scope (d.dvs K) (d.kws K) a fd := by
  have c1 := Bool.and_eq_true_iff.mp c
  have c2 := c1.2
  unfold fnWA at e
  cases q : K.lookup a with
  | none => rw [q] at c2; cases c2
  | some o =>
    obtain ⟨oc, od, dt, sl⟩ := o
    rw [q] at e c2
    cases dt with
    | func fd =>
      dsimp only at e c2
      obtain ⟨n1, n2, n3, n4, n5, n6, n7, n8, n9, n10, n11, n12, n13, n14, n15⟩ := fd
      unfold He.DefD.val at e
      simp only [Option.some.injEq, Prod.mk.injEq] at e
      obtain ⟨h1, h2, h3, h4, h5, h6, h7, h8⟩ := e
      subst h1 h2 h3 h4 h5 h6 h7 h8
      have k1 := Bool.and_eq_true_iff.mp c2
      have k2 := Bool.and_eq_true_iff.mp k1.2
      exact ⟨_, ⟨oc, od, n8, n9, n10, n11, n12, n13, n14, sl, rfl, q, k1.1, He.dflB_ok k2.1, He.kwdB_ok k2.2⟩, c1.1⟩
    | _ => cases c2
structure TX (K : PySem.W.Frag) (mg : Str → Option Value) (fa : List He.Fa) (fx : List Fx) (fn : List Def1) : Prop where
  fact : ∀ f ∈ fa, f.ok K = true
  more : ∀ f ∈ fx, f.ok K = true
  defs : ∀ d ∈ fn, ∃ fd, FunD K d.1.name d.1.qual d.1.params d.1.body d.1.scope (d.1.dvs K) (d.1.kws K) (adW K d) fd
  hp : ∃ h : Heap, K.In h ∧ h.Ns mainGlobals mg
section
variable {K : PySem.W.Frag} {mg : Str → Option Value} {fa : List He.Fa} {fx : List Fx} {fn : List Def1}
theorem TX.of {h : Heap} (X : K.In h) (G : h.Ns mainGlobals mg) (c : SaysW fa fx fn K) : TX K mg fa fx fn := by
  have c1 : (((fa.all fun f => f.ok K) && (fx.all fun f => f.ok K)) && fn.all fun d => okA K (adW K d) d.1) = true := congrArg (fun z : AlW => z.1) c
  have c2 : (fn.map fun d => fnWA K (adW K d)) = fn.map fun d => d.1.val := congrArg (fun z : AlW => z.2) c
  have k1 := Bool.and_eq_true_iff.mp c1
  have k2 := Bool.and_eq_true_iff.mp k1.1
  refine ⟨List.all_eq_true.mp k2.1, List.all_eq_true.mp k2.2, fun d hd => ?_, h, X, G⟩
  exact funA (List.map_inj_left.mp c2 d hd) (List.all_eq_true.mp k1.2 d hd)
variable (T : TX K mg fa fx fn)
include T
theorem TX.f (i : Nat) {f : He.Fa} (h : fa[i]? = some f := by rfl) : f.ok K = true := T.fact f (List.mem_of_getElem? h)
theorem TX.x (i : Nat) {f : Fx} (h : fx[i]? = some f := by rfl) : f.ok K = true := T.more f (List.mem_of_getElem? h)
theorem TX.glo (i : Nat) {x : Str} (h : fa[i]? = some (.glo x) := by rfl) : mg x = some (.ref (He.ga K x)) := by
  obtain ⟨hp, X, G⟩ := T.hp
  exact He.glo_ok X G (T.f i h)
theorem TX.free (i : Nat) {x : Str} (h : fa[i]? = some (.free x) := by rfl) : mg x = none := by
  obtain ⟨hp, X, G⟩ := T.hp
  exact He.free_ok X G (T.f i h)
theorem TX.int (i : Nat) {x : Str} {v : Int} (h : fa[i]? = some (.int x v) := by rfl) : ∃ t, mg x = some (.int v t) := by
  obtain ⟨hp, X, G⟩ := T.hp
  exact He.int_ok X G (T.f i h)
theorem TX.str (i : Nat) {x z : Str} (h : fa[i]? = some (.str x z) := by rfl) : ∃ t, mg x = some (.str z t) := by
  obtain ⟨hp, X, G⟩ := T.hp
  exact He.str_ok X G (T.f i h)
theorem TX.cls (i : Nat) {x : Str} (h : fa[i]? = some (.cls x) := by rfl) : Cls K (He.ga K x) := He.cls_ok (T.f i h)
theorem TX.noat (i : Nat) {x f : Str} (h : fa[i]? = some (.noat x f) := by rfl) : NoAttr K (He.ga K x) f := He.noat_ok (T.f i h)
theorem TX.meth (i : Nat) {x m : Str} (h : fa[i]? = some (.meth x m) := by rfl) : Meth K (He.ga K x) m (He.fAd K (x, some m)) := He.meth_ok (T.f i h)
theorem TX.mkr (i : Nat) {x : Str} (h : fa[i]? = some (.mkr x) := by rfl) : Mk K (He.ga K x) (He.fAd K (x, some "__init__")) := He.mkr_ok (T.f i h)
theorem TX.d (i : Nat) {d : He.DefD} (h : fn[i]? = some (d, false) := by rfl) : ∃ fd, FunD K d.name d.qual d.params d.body d.scope (d.dvs K) (d.kws K) (He.fAd K d.at_) fd := T.defs (d, false) (List.mem_of_getElem? h)
theorem TX.ds (i : Nat) {d : He.DefD} (h : fn[i]? = some (d, true) := by rfl) : ∃ fd, FunD K d.name d.qual d.params d.body d.scope (d.dvs K) (d.kws K) (wfA K d.at_.1 (d.at_.2.getD "")) fd := T.defs (d, true) (List.mem_of_getElem? h)
theorem TX.kt (i : Nat) {x : Str} {ss : List Str} (h : fx[i]? = some (.kt x ss) := by rfl) (H : Hp) : SqT K H (He.ga K x) (ss.map V.str) := by
  have z := He.tupB_ok (T.x i h) H
  rw [List.map_map] at z
  exact z
theorem TX.isc (i : Nat) {c : Str} (cl : Cls K (He.ga K c)) (h : fx[i]? = some (.isc c) := by rfl) : IsC K c := isCB_ok cl (T.x i h)
theorem TX.kit (i : Nat) {a b : Str} {v : Bool} (h : fx[i]? = some (.kit a b v) := by rfl) : PySem.W.kitOne K (.ref (He.ga K a)) (.ref (He.ga K b)) = some v := of_decide_eq_true (T.x i h)
theorem TX.ne1 (i : Nat) {c : Str} (h : fx[i]? = some (.ne c) := by rfl) : PySem.W.findIn K (.ref (He.ga K c)) "__ne__" = some (some (.builtin "object.__ne__")) := of_decide_eq_true (Bool.and_eq_true_iff.mp (T.x i h)).1
theorem TX.ne2 (i : Nat) {c : Str} (h : fx[i]? = some (.ne c) := by rfl) : PySem.W.mroIn K (He.ga K c) (.type "object") = some true := of_decide_eq_true (Bool.and_eq_true_iff.mp (T.x i h)).2
theorem TX.sf (i : Nat) {c : Str} (h : fx[i]? = some (.sf c) := by rfl) : PySem.W.selfFirst K (He.ga K c) = true := T.x i h
theorem TX.bm (i : Nat) {c m : Str} (hm : Meth K (He.ga K c) m (He.fAd K (c, some m))) (h : fx[i]? = some (.bm c m) := by rfl) : BMeth K (He.ga K c) m (He.fAd K (c, some m)) := by
  have z := Bool.and_eq_true_iff.mp (T.x i h)
  have z1 := Bool.and_eq_true_iff.mp z.1
  have z2 := Bool.and_eq_true_iff.mp z.2
  exact ⟨hm, of_decide_eq_true z1.1, of_decide_eq_true z1.2, by simpa using z2.1, z2.2⟩
theorem TX.stm (i : Nat) {c m : Str} (h : fx[i]? = some (.stm c m) := by rfl) : StM K c m := by
  have z := Bool.and_eq_true_iff.mp (T.x i h)
  have z1 := Bool.and_eq_true_iff.mp z.1
  have z2 := Bool.and_eq_true_iff.mp z.2
  obtain ⟨w1, w2⟩ := He5.wrapB_ok z2.1
  exact ⟨⟨z1.1, of_decide_eq_true z1.2⟩, w1, w2, z2.2⟩
end
theorem fe_methS {X : Cx} {Av : Addr → Prop} {c0 n : Str} {f : Addr} {cm : CM} {k : Nat} {o e : Expr} {mo me : FE} {sp apos pos : Pos} (hc : Cls X.K (He.ga X.K c0)) (b : BMeth X.K (He.ga X.K c0) n f) (F : FnB X.prog X.w X.K X.mg X.base k f cm) (hr : Room k X.A) (ho : PE X o (tF X.K Av mo)) (ha : PE X e (tF X.K Av me))
    (hbase : attributeBase o n X.env (eval o X.env) = eval o X.env := by rfl) : PE X (.Call (.Attribute o n apos) [.Starred e sp] [] pos) (tF X.K Av (m_meth c0 n cm [] mo (m_ca (a_star me a_nil) a_nil))) := by
  refine ⟨fun pins s σ H Q I q => ?_⟩
  obtain ⟨r, sl, h, d, h', R, S, ea, kk⟩ := q
  obtain ⟨⟨d1, h1⟩, e1, eb⟩ := Option.bind_eq_some_iff.mp ea
  obtain ⟨⟨c, ks', xs⟩, e2, e⟩ := Option.bind_eq_some_iff.mp eb
  clear ea eb
  dsimp only at e
  split at e
  · rename_i hcn
    obtain ⟨hc0, hn⟩ := hcn
    obtain ⟨⟨⟨ds, es'⟩, h2⟩, e3, e⟩ := Option.bind_eq_some_iff.mp e
    obtain ⟨⟨da, ha1⟩, e4, e5⟩ := Option.bind_eq_some_iff.mp e3
    obtain ⟨⟨dn, hn1⟩, e6, e5⟩ := Option.bind_eq_some_iff.mp e5
    cases e6
    cases e5
    obtain ⟨⟨d3, h3⟩, e7, e4⟩ := Option.bind_eq_some_iff.mp e4
    obtain ⟨xs2, e8, e4⟩ := Option.bind_eq_some_iff.mp e4
    cases e4
    subst hc0
    have A1 : tF X.K Av mo σ H (fun v H1 => ∃ a dx fs, v = V.ref a ∧ H1 a = some (.ins (He.ga X.K c) dx fs) ∧ fs.lookup n = none ∧
        ∀ q, H1 q = none → tF X.K Av me σ (upd H1 q (.met f a)) fun y H2 => ∃ b vs, y = .ref b ∧ (SqT X.K H2 b vs ∨ SqL X.K H2 b vs) ∧ H2 q = some (.met f a) ∧ spB X.K cm [] (v :: vs) [] H2 Q) := tF_go R S e1 fun r1 v1 H1 x1 R1 S1 q1 => by
      obtain ⟨a, dx, fs, ev, hi, ek, qs⟩ := asI_ok R1 q1 e2
      subst ek
      refine ⟨a, dx, fs, ev, hi, lookF_none qs hn, fun q hq => ?_⟩
      have x2 : Ext r1 H1 r1 (upd H1 q (.met f a)) := Ext.new1 hq
      have R2 : Rep X.K Av r1 h1 (upd H1 q (.met f a)) := R1.new1 hq
      have S2 := RSl.mono R1 x2 S1
      refine tF_go R2 S2 e7 fun r3 v3 H3 x3 R3 S3 q3 => ?_
      obtain ⟨b, vs, ev3, sq, qs3⟩ := asQ_ok R3 q3 e8
      refine ⟨b, vs, ev3, sq, ?_, Av, r3, d1 :: xs2, [], _, d, h', R3, .cons (RD.mono R1 (x2.trans x3) _ _ q1) qs3, .nil, by simpa using e, fun r4 v H4 x4 R4 q4 => kk r4 v H4 (((x1.trans x2).trans x3).trans x4) R4 q4⟩
      refine x3.keep q _ upd_same fun ⟨i, hi⟩ => ?_
      obtain ⟨w, hw, _⟩ := R1.obs i q _ hi (List.getElem?_eq_getElem (R1.len ▸ getOpt hi))
      rw [hq] at hw
      cases hw
    refine starcall_of hbase (thn (ho.run pins s σ H _ I A1) fun u s1 ⟨x, H1, I1, rx, a, dx, fs, ex, hi, l, q⟩ => ?_)
    subst ex
    obtain rfl : u = Value.ref a := rx
    refine getbound_ok I1 hi hc b l fun q1 s2 hq1 I2 => ?_
    refine PySem.W.ks_call (P := PySem.W.MethP X.K q1 f (.ref a)) rfl (PySem.W.keeps_M b.fi) (PySem.W.ks_lone ?_)
    refine thn (ha.run pins s2 σ _ _ I2 (q q1 hq1)) fun v s3 ⟨y, H2, I3, ry, t, vs, ey, ht, hm, hsp⟩ => ?_
    subst ey
    obtain rfl : v = Value.ref t := ry
    refine StX.star_any I3 ht fun us s4 I4 rv => ⟨met_P I4 hm, ?_⟩
    refine wpAny_call (PySem.W.method_call (met_P I4 hm).1 (codeAny_mono (F X.A X.stack s4 H2 (.ref a :: us) [] (.ref a :: vs) [] [] Q hr I4.env0 (.cons rfl rv) .nil rfl hsp) fun rr s' hq => ?_))
    cases rr with
    | error e => exact False.elim hq
    | ok fl =>
      cases fl with
      | ret u => exact I4.after hq
      | next => exact False.elim hq
      | brk => exact False.elim hq
      | cont => exact False.elim hq
  · cases e
theorem fg_kt {X : Cx} {Av : Addr → Prop} {pos : Pos} {x : Str} {ss : List Str} (hm : X.mg x = some (.ref (He.ga X.K x))) (hk : ∀ H, SqT X.K H (He.ga X.K x) (ss.map V.str)) (hg : Gl X x := by rfl) (hd : (x == ("__debug__" : Str)) = false := by decide) : PE X (.Name x pos) (tF X.K Av (m_c (.kt (ss.map D.str)))) :=
  PE.imp (pe_glob (v := V.ref (He.ga X.K x)) hg hm rfl hd) fun σ H Q ⟨r, sl, h, d, h', R, S, e, k⟩ => by
    cases e
    exact k r _ H (Ext.refl _ _) R (.kt (hk H) (rds_str ss))
end HF
set_option Elab.async false
set_option linter.all false
set_option maxRecDepth 100000
set_option maxHeartbeats 1000000
namespace HF
open PySem PySem.Spec PyProof.Rows L2
/-! ### [.. for x in xs], xs a tracked list: each turn looks at it as it stands -/
def itT (i : Nat) : Nat → List O → Option (Option D) := fun j h => match h[i]? with
  | some (.lst xs) => some xs[j]?
  | _ => none
theorem go_T {K : PySem.W.Frag} {Av : Addr → Prop} {H : Hp} {r : Rho} {h : List O} {i j : Nat} {a : Addr} {d : D} (hr : r[i]? = some (some a)) (R : Rep K Av r h H) (e : itT i j h = some (some d)) : (Itl K a).go j H ∧ ∀ x H', (Itl K a).yld j H x H' → H' = H ∧ RD K (Tr Av r) H r d x := by
  unfold itT at e
  split at e
  · rename_i xs hi
    cases hd : xs[j]? with
    | none => rw [hd] at e; cases e
    | some d0 =>
      rw [hd] at e
      cases e
      obtain ⟨u, hu, vs, eu, qs⟩ := R.obs i a _ hr hi
      subst eu
      obtain ⟨v, hv, rd⟩ := RDs.get qs hd
      refine ⟨⟨vs, v, SqL.of hu, hv⟩, fun x H' ⟨eH, hx⟩ => ⟨eH, ?_⟩⟩
      have := hx vs (SqL.of hu)
      rw [hv] at this
      cases this
      exact rd
  · cases e
theorem stop_T {K : PySem.W.Frag} {Av : Addr → Prop} {H : Hp} {r : Rho} {h : List O} {i j : Nat} {a : Addr} (hr : r[i]? = some (some a)) (R : Rep K Av r h H) (e : itT i j h = some none) : (Itl K a).stop j H := by
  unfold itT at e
  split at e
  · rename_i xs hi
    cases hd : xs[j]? with
    | none =>
      obtain ⟨u, hu, vs, eu, qs⟩ := R.obs i a _ hr hi
      subst eu
      exact ⟨vs, SqL.of hu, by rw [← qs.length]; exact List.getElem?_eq_none_iff.mp hd⟩
    | some d0 => rw [hd] at e; cases e
  · cases e
def compT (i : Nat) (g : FG) (tt : FT) (te : FE) (slw : Sl) : Nat → Nat → List O → Option (List D × List O)
  | 0, _, _ => none
  | n + 1, j, h => match itT i j h with
    | none => none
    | some none => some ([], h)
    | some (some d) => (g d slw).bind fun sl1 => (tt sl1 h).bind fun p => if p.1 = true then (te sl1 p.2).bind fun q => (compT i g tt te slw n (j + 1) q.2).bind fun z => some (q.1 :: z.1, z.2) else compT i g tt te slw n (j + 1) p.2
def m_lcT (n : Nat) (mi : FE) (g : FG) (tt : FT) (te : FE) (vs : List Nat) : FE := fun sl h => (mi sl h).bind fun p => match p.1 with
  | .loc i => (match p.2[i]? with
    | some (.lst _) => (compT i g tt te (wipeD sl vs) n 0 p.2).bind fun z => if szOk z.1.length then some (.fl z.1, z.2) else none
    | _ => none)
  | _ => none
theorem lcT_go {K : PySem.W.Frag} {Av : Addr → Prop} {n : Nat} {mi : FE} {g : FG} {tt : FT} {te : FE} {vs is : List Nat} (hs : ∀ j ∈ is, j ∈ vs) {σ : L2.St} {H : Hp} {Q : VK} (q : tF K Av (m_lcT n mi g tt te vs) σ H Q) : tLc (iList K (tF K Av mi)) (exG K is g) (exT K tt) (exE K te) vs σ H Q := by
  obtain ⟨r, sl, h, d, hz, R, S, e, k⟩ := q
  obtain ⟨⟨d1, h1⟩, e1, e⟩ := Option.bind_eq_some_iff.mp e
  refine tF_go R S e1 fun r1 v1 H1 x1 R1 S1 q1 => ?_
  cases d1 with
  | loc i0 =>
    dsimp only at e
    split at e
    · rename_i xs0 hi0
      obtain ⟨⟨tot, h2⟩, e2, e⟩ := Option.bind_eq_some_iff.mp e
      dsimp only at e e2
      split at e
      · rename_i hsz
        cases e
        obtain ⟨a, u, ha, hv, hu, ws, eu, qs⟩ := R1.at_ q1 hi0 (by intro z; cases z)
        subst eu hv
        refine ⟨a, rfl, ⟨ws, SqL.of hu⟩, fun D0 hD => ?_⟩
        let Av' := AvD Av D0
        refine ⟨fun i m H => ∃ r h acc rest va, Rep K Av' r h H ∧ RSl K (Tr Av' r) H r sl σ ∧ H D0 = some (.lst va) ∧ RDs K (Tr Av' r) H r acc va ∧ Ext r1 H1 r H ∧ compT i0 g tt te (wipeD sl vs) m i h = some (rest, hz) ∧ acc ++ rest = tot,
          ⟨n, r1, h1, [], tot, [], R1.grow hD, S1.gen (lean_grow hD), upd_same, .nil, Ext.new1 hD, e2, rfl⟩, ?_⟩
        rintro i m H2 ⟨r2, h2, acc, rest, va, R2, S2, hD2, qa, x2, e2, et⟩
        have hA : Av' D0 := .inr rfl
        have nD : ∀ {r : Rho} {h : List O} {H : Hp}, Rep K Av' r h H → ¬ In r D0 := fun R i => R.nav D0 i hA
        cases m with
        | zero => cases e2
        | succ m =>
          unfold compT at e2
          cases eit : itT i0 i h2 with
          | none => rw [eit] at e2; cases e2
          | some od =>
            have hl0 : i0 < r1.length := getOpt ha
            have hr2 : r2[i0]? = some (some a) := by
              have l2 : i0 < r2.length := Nat.lt_of_lt_of_le hl0 x2.len
              have g2 : r2[i0]? = some r2[i0] := List.getElem?_eq_getElem l2
              cases q : r2[i0] with
              | none =>
                rw [q] at g2
                have := R2.drop i0 g2
                unfold itT at eit
                rw [this] at eit
                cases eit
              | some b =>
                rw [q] at g2
                have := x2.pre i0 b hl0 g2
                rw [ha] at this
                cases this
                exact g2
            rw [eit] at e2
            cases od with
            | none =>
              cases e2
              rw [List.append_nil] at et
              have li : ∀ a, Av a → Av' a := fun a z => .inl z
              refine .inl ⟨stop_T hr2 R2 eit, k r2 _ H2 (x1.trans x2) (R2.less li) (.fl hD2 ?_ (by rw [← et]; exact RDs.gen (lean_less li) _ _ qa))⟩
              intro t
              rcases t with t | t
              · obtain ⟨o, z⟩ := R1.dom _ t
                rw [hD] at z
                cases z
              · exact nD R2 t
            | some d0 =>
              obtain ⟨hgo, hy⟩ := go_T hr2 R2 eit
              dsimp only at e2
              refine .inr ⟨hgo, fun H' => ∃ r h acc rest va, Rep K Av' r h H' ∧ RSl K (Tr Av' r) H' r sl σ ∧ H' D0 = some (.lst va) ∧ RDs K (Tr Av' r) H' r acc va ∧ Ext r1 H1 r H' ∧ compT i0 g tt te (wipeD sl vs) m (i + 1) h = some (rest, hz) ∧ acc ++ rest = tot, fun H' z => ⟨m, Nat.lt_succ_self m, z⟩, fun x H3 yx => ?_⟩
              obtain ⟨eH, q3⟩ := hy x H3 yx
              subst eH
              obtain ⟨sl4, e4, e2⟩ := Option.bind_eq_some_iff.mp e2
              obtain ⟨⟨b5, h5⟩, e5, e2⟩ := Option.bind_eq_some_iff.mp e2
              refine ⟨Av', r2, wipeD sl vs, h2, d0, sl4, R2, rsl_wipe S2 vs, q3, e4, fun σ4 S4 on4 => ⟨wipe_eq on4 hs, Av', ?_⟩⟩
              refine tFT_go R2 S4 e5 fun r5 H5 x5 R5 S5 => ?_
              dsimp only at e2
              cases b5 with
              | true =>
                obtain ⟨⟨d6, h6⟩, e6, e2⟩ := Option.bind_eq_some_iff.mp (show (te sl4 h5).bind _ = some (rest, hz) from e2)
                obtain ⟨⟨rest7, h7⟩, e7, e2⟩ := Option.bind_eq_some_iff.mp e2
                cases e2
                refine ⟨Av', tF_go R5 S5 e6 fun r6 v6 H6 x6 R6 S6 q6 => ?_⟩
                have x26 := x5.trans x6
                have hD6 : H6 D0 = some (.lst va) := x26.keep D0 _ hD2 (nD R2)
                refine ⟨va, hD6, ?_, r6, h6, acc ++ [d6], rest7, va ++ [v6], R6.av hA hD6, (S2.mono R2 x26).gen (lean_av hA hD6), upd_same, ?_, ?_, e7, by rw [← et]; simp⟩
                · rw [← qa.length]
                  refine szOk_lt (n := acc.length) ?_
                  have hz2 : tot.length ≤ 100000 := of_decide_eq_true hsz
                  rw [← et] at hz2
                  exact decide_eq_true (by simp at hz2; omega)
                · exact (RDs.gen (lean_av hA hD6) _ _ (RDs.mono R2 x26 _ _ qa)).append (.cons (RD.gen (lean_av hA hD6) _ _ q6) .nil)
                · have y := x2.trans x26
                  exact ⟨y.len, y.pre, y.new, fun a o ea n => by rw [upd_ne (ne_of_none ea hD)]; exact y.keep a o ea n, fun a o ea => by rw [upd_ne (ne_of_none ea hD)]; exact y.stay a o ea⟩
              | false =>
                have e2' : compT i0 g tt te (wipeD sl vs) m (i + 1) h5 = some (rest, hz) := e2
                exact ⟨r5, h5, acc, rest, va, R5, S2.mono R2 x5, x5.keep D0 _ hD2 (nD R2), RDs.mono R2 x5 _ _ qa, x2.trans x5, e2', et⟩
      · cases e
    · cases e
  | _ => cases e
section
variable {X : Cx} {Av : Addr → Prop} {elt tg iter : Expr} {ifs : List Expr} {scope : Scope} {own : List (Str × Nat)} {pos : Pos} {mi : FE} {g : FG} {tt : FT} {te : FE} {is : List Nat}
theorem fe_lcT (n : Nat) (hc : X.calm = true) (hN : X.N.Nodup) (hi : PE X iter (tF X.K Av mi)) (ok : BlkOk X.N X.env.scope scope own)
    (hg : ∀ (Av : Addr → Prop) (s : Shared) (H : Hp) (C : Addr) (cl : List (Str × Addr)) (fp : List Addr), PG (X.blk s H scope (compEnvC scope cl C X.env) fp) tg (tFG X.K Av is g)) (ht : ∀ (Av : Addr → Prop) (s : Shared) (H : Hp) (C : Addr) (cl : List (Str × Addr)) (fp : List Addr), PTs (X.blk s H scope (compEnvC scope cl C X.env) fp) ifs (tFT X.K Av tt))
    (he : ∀ (Av : Addr → Prop) (s : Shared) (H : Hp) (C : Addr) (cl : List (Str × Addr)) (fp : List Addr), PE (X.blk s H scope (compEnvC scope cl C X.env) fp) elt (tF X.K Av te)) (hj : ∀ j ∈ is, j ∈ own.map (·.2) := by decide) (hs : ∀ x, foldedSetIterable iter X.env x = pure x := by intro _; rfl) :
    PE X (.ListComp elt [⟨tg, iter, ifs, 0⟩] scope pos) (tF X.K Av (m_lcT n mi g tt te (own.map (·.2)))) :=
  PE.imp (pe_lc hc hN (pi_list hi) ok (fun s H C cl fp => pg_ex (fun Av => hg Av s H C cl fp)) (fun s H C cl fp => pts_ex (fun Av => ht Av s H C cl fp)) (fun s H C cl fp => pe_ex (fun Av => he Av s H C cl fp)) hs) fun _ _ _ q => lcT_go hj q
end
end HF
set_option Elab.async false
set_option linter.all false
set_option maxRecDepth 100000
set_option maxHeartbeats 1000000
namespace HF
open PySem PySem.Spec PyProof.Rows L2
def i_q (m : FE) : FA := fun sl h => (m sl h).bind fun p => match p.1 with
  | .fl xs => some (xs, p.2)
  | .fz xs => some (xs, p.2)
  | .tup xs => some (xs, p.2)
  | .kt xs => some (xs, p.2)
  | _ => none
theorem i_q_eq (m : FE) : i_q m = i_alt (i_l m) (i_t m) := by
  funext sl h
  unfold i_q i_alt i_l i_t
  cases m sl h with
  | none => rfl
  | some p =>
    obtain ⟨d, h'⟩ := p
    cases d <;> rfl
theorem fi_q {X : Cx} {Av : Addr → Prop} {tg e : Expr} {m : FE} (he : PE X e (tF X.K Av m)) : PI X tg e (tFI X.K Av (i_q m)) := by
  rw [i_q_eq]
  exact fi_alt (fi_l he) (fi_t he)
def g_q (n : Nat) (gs : FGs) : FG := fun d sl => match d with
  | .tup ds => if ds.length = n then gs ds sl else none
  | .fl ds => if ds.length = n then gs ds sl else none
  | .fz ds => if ds.length = n then gs ds sl else none
  | _ => none
theorem fg_q {X : Cx} {Av : Addr → Prop} {pos : Pos} {es : List Expr} {k0 n : Nat} {gs : FGs} {is : List Nat} (hc : X.calm = true) (h : PGs X es (tFGs X.K Av is gs)) (hn : (assignEach es X.env).length = n := by rfl) (hst : (assignEach es X.env).findIdx? (·.1) = none := by rfl) : PG X (.Tuple es k0 pos) (tFG X.K Av is (g_q n gs)) := ⟨fun pins s σ H v u Q I r ⟨rr, sl, hh, d, sl', R, S, q, e, k⟩ => by
  cases d with
  | tup ds => exact (fg_t hc h hn hst).run pins s σ H v u Q I r ⟨rr, sl, hh, .tup ds, sl', R, S, q, e, k⟩
  | fl ds => exact (fg_l hc h hn hst).run pins s σ H v u Q I r ⟨rr, sl, hh, .fl ds, sl', R, S, q, e, k⟩
  | fz ds => exact (fg_l hc h hn hst).run pins s σ H v u Q I r ⟨rr, sl, hh, .fz ds, sl', R, S, q, e, k⟩
  | _ => cases e⟩
def m_neg (m : FE) : FE := fun sl h => (m sl h).bind fun p => match p.1 with
  | .int i => some (.int (-i), p.2)
  | _ => none
theorem fe_neg {X : Cx} {Av : Addr → Prop} {pos : Pos} {e : Expr} {m : FE} (he : PE X e (tF X.K Av m)) : PE X (.UnaryOp .USub e pos) (tF X.K Av (m_neg m)) := PE.imp (pe_un un_neg he) fun σ H Q q => by
  obtain ⟨r, sl, h, d, h', R, S, e, k⟩ := q
  obtain ⟨⟨d1, h1⟩, e1, e⟩ := Option.bind_eq_some_iff.mp e
  refine tF_go R S e1 fun r1 v1 H1 x1 R1 S1 q1 => ?_
  cases d1 with
  | int i =>
    cases e
    cases q1
    exact ⟨i, rfl, k r1 _ H1 x1 R1 (.int _)⟩
  | _ => cases e
theorem FnB.none {P : Program} {w : World} {K : PySem.W.Frag} {mg : Str → Option Value} {base : Heap} {k : Nat} {f : Addr} : FnB P w K mg base k f (fun _ _ _ => Option.none) := fun A outer s H us ws vs zs ks Q hr e0 r1 r2 hl q => by
  obtain ⟨Av, r, ds, es, h, d, h', R, q1, q2, e, kk⟩ := q
  cases e
theorem chain_go {X : Cx} {Av : Addr → Prop} {rf rg : R2} {f g : F2} {ma mb mc : FE} (hf : OpF X.K Av f rf) (hg : OpF X.K Av g rg) {σ : L2.St} {H : Hp} {Q : VK} (q : tF X.K Av (m_chain f g ma mb mc) σ H Q) : tChain rf rg (tF X.K Av ma) (tF X.K Av mb) (tF X.K Av mc) σ H Q := by
  obtain ⟨r, sl, h, d, h', R, S, e, k⟩ := q
  obtain ⟨⟨d1, h1⟩, e1, e⟩ := Option.bind_eq_some_iff.mp e
  obtain ⟨⟨d2, h2⟩, e2, e⟩ := Option.bind_eq_some_iff.mp e
  obtain ⟨⟨d3, h3⟩, e3, e⟩ := Option.bind_eq_some_iff.mp e
  refine tF_go R S e1 fun r1 v1 H1 x1 R1 S1 q1 => tF_go R1 S1 e2 fun r2 v2 H2 x2 R2 S2 q2 => ?_
  refine hf r2 h2 h3 H2 d1 d2 d3 v1 v2 _ R2 (RD.mono R1 x2 _ _ q1) q2 e3 fun r3 v3 H3 x3 R3 q3 => ?_
  dsimp only at e
  have x123 := (x1.trans x2).trans x3
  split at e
  · refine ⟨true, rd_bl q3, ?_⟩
    obtain ⟨⟨d4, h4⟩, e4, e⟩ := Option.bind_eq_some_iff.mp e
    rw [if_pos rfl]
    refine tF_go R3 (S2.mono R2 x3) e4 fun r4 v4 H4 x4 R4 S4 q4 => ?_
    exact hg r4 h4 h' H4 d2 d4 d v2 v4 Q R4 (RD.mono R3 x4 _ _ (RD.mono R2 x3 _ _ q2)) q4 e fun r5 v5 H5 x5 R5 q5 => k r5 v5 H5 ((x123.trans x4).trans x5) R5 q5
  · cases e
    refine ⟨false, rd_bl q3, ?_⟩
    rw [if_neg (by decide)]
    exact k r3 _ H3 x123 R3 (.bl false)
  · cases e
theorem ft_chain {X : Cx} {Av : Addr → Prop} {a b c : Expr} {pos : Pos} {ma mb mc : FE} {op op' : CmpOp} {rf rg : R2} {f g : F2} (ho : OpR X (compareOp op) rf) (ho' : OpR X (compareOp op') rg) (hf : OpF X.K Av f rf) (hg : OpF X.K Av g rg) (ha : PE X a (tF X.K Av ma)) (hb : PE X b (tF X.K Av mb)) (hc : PE X c (tF X.K Av mc))
    (hm : lastMarks [op, op'] [b, c] = false := by with_unfolding_all rfl) : PT X (.Compare a [op, op'] [b, c] pos) (tFT X.K Av (m_t (m_chain f g ma mb mc))) :=
  PT.imp (pt_chain ho ho' ha hb hc hm) fun σ H Q q => by
    obtain ⟨r, sl, h, c, h', R, S, e, k⟩ := q
    exact chain_go hf hg (tF_go R S (m_t_some e) fun r1 v1 H1 x1 R1 S1 q1 => ⟨c, rd_bl q1, k r1 H1 x1 R1⟩)
theorem kwT0 {D : Addr} {rest : List Value} {fin : Value → List (Str × Value)} {t : Sem (List (Str × Value))} (h : t = (newTuple rest >>= fun v => pure (fin v))) : KwT D rest fin [] t := h
end HF
set_option Elab.async false
set_option linter.all false
set_option maxRecDepth 100000
set_option maxHeartbeats 1000000
namespace GQ
open PySem PySem.SeqAt
open AutoSeq1 (wpAny_loadPart')
open MeetsSeq MeetsSeq2 MeetsSeq3 SeqRoads2
section
variable {prog : Program} {w : World} {A : Around} {R : Result → Shared → Prop}
theorem list_eqLen (l b : Addr) (items items2 : Array Value) (n n2 : Nat) (sl sl2 : Array (Option Value)) (hsz : items.size ≠ items2.size) {s : Shared}
    (hl1 : s.heap.get? l = some { cls := .type "list", data := .seq items n, slots := sl }) (hb1 : s.heap.get? b = some { cls := .type "list", data := .seq items2 n2, slots := sl2 }) (h : R (.ok (.ret (.bool false))) s) :
    wpAny (model prog w) A.in1 (Builtin.«list.__eq__» ⟨[.ref l, .ref b], []⟩) (FinOf prog w A R) (fun e s' => R (.error e) s') s := by
  obtain ⟨hp, g, d, tk, os⟩ := s
  have f3 := AutoSeq1.sub_list_list
  have hne : (items.size != items2.size) = true := by simp [hsz]
  wp_walk using wpAny_loadPart' hl1, wpAny_loadPart' hb1
  exact h
end
section
variable {prog : Program} {w : World} {A : Around} {E : Value → Shared → Prop} {s : Shared}
theorem rc_listLen {l b : Addr} {items items2 : Array Value} {Q : Value → Shared → Prop} (hsz : items.size ≠ items2.size) (hu : A.units < cLine) (hl : PlainL s.heap l items) (hb : PlainL s.heap b items2) (h : Q (.bool false) s) : wpAny (model prog w) A (richCompare .Eq (.ref l) (.ref b)) Q E s := by
  obtain ⟨⟨cls, dd, data, sl⟩, n, ho, hc, hdd, hd⟩ := hl
  obtain ⟨⟨cls2, dd2, data2, sl2⟩, n2, ho2, hc2, hdd2, hd2⟩ := hb
  simp only at hc hd hc2 hd2 hdd hdd2
  subst hc hd hc2 hd2 hdd hdd2
  refine wpAny_richCompare_same_room (op := .Eq) ⟨_, ho, rfl⟩ ⟨_, ho2, rfl⟩ F.slot_list_eq (call_here F.slot_list_eq ⟨_, ho, rfl⟩ F.entry_list_eq (F.args_list_eq_2 _ _) ?_) hu
  exact list_eqLen (R := wants (fun v s' => v ≠ .notImplemented ∧ Q v s') E) l b items items2 n n2 sl sl2 hsz ho ho2 ⟨(fun x => nomatch x), h⟩
end
end GQ
namespace HF
open PySem PySem.Spec PyProof.Rows L2
def rEqLen (K : PySem.W.Frag) : R2 := fun x y H Q => ∃ a b xs ys, x = .ref a ∧ y = .ref b ∧ SqL K H a xs ∧ SqL K H b ys ∧ xs.length ≠ ys.length ∧ Q (.bl false) H
theorem op_eqLen {X : Cx} (hu : X.A.units < cLine) : OpR X (compareOp .Eq) (rEqLen X.K) := by
  intro pins s σ H x y v u Q I rx ry h
  obtain ⟨a, b, xs, ys, rfl, rfl, ha, hb, hn, q⟩ := h
  obtain rfl : v = Value.ref a := rx
  obtain rfl : u = Value.ref b := ry
  obtain ⟨is1, r1, p1, _⟩ := I.list ha
  obtain ⟨is2, r2, p2, _⟩ := I.list hb
  show wpAny (model X.prog X.w) X.A (richCompare .Eq (.ref a) (.ref b)) (EP X pins σ Q) X.xe s
  refine GQ.rc_listLen (items := is1.toArray) (items2 := is2.toArray) (fun z => hn ?_) hu p1 p2 ⟨.bl false, H, I, rfl, q⟩
  rw [r1.length, r2.length]
  simpa using z
def asLs (h : List O) : D → Option (List D)
  | .fl xs => some xs
  | .fz xs => some xs
  | .kl xs => some xs
  | .loc i => match h[i]? with
    | some (.lst xs) => some xs
    | _ => none
  | _ => none
theorem asLs_ok {K : PySem.W.Frag} {Av : Addr → Prop} {H : Hp} {r : Rho} {h : List O} {d : D} {v : V} {xs : List D} (R : Rep K Av r h H) (q : RD K (Tr Av r) H r d v) (e : asLs h d = some xs) : ∃ a vs, v = .ref a ∧ SqL K H a vs ∧ RDs K (Tr Av r) H r xs vs := by
  cases q with
  | fl z n qs => cases e; exact ⟨_, _, rfl, SqL.of z, qs⟩
  | fz z n qs => cases e; exact ⟨_, _, rfl, .inl z, qs⟩
  | kl z qs => cases e; exact ⟨_, _, rfl, z.sq, qs⟩
  | loc l z =>
    unfold asLs at e
    dsimp only at e
    split at e
    · rename_i ys hi
      cases e
      obtain ⟨a, u, ha, hv, hu, vs, eu, qs⟩ := R.at_ (.loc l z) hi (by intro z; cases z)
      subst eu
      exact ⟨a, vs, hv, SqL.of hu, qs⟩
    · cases e
  | _ => cases e
def f_eqLen : F2 := fun x y h => (asLs h x).bind fun xs => (asLs h y).bind fun ys => if xs.length ≠ ys.length then some (.bl false, h) else none
theorem of_eqLen {X : Cx} {Av : Addr → Prop} : OpF X.K Av f_eqLen (rEqLen X.K) := opF_pure fun r h h' H x y d vx vy Q R q1 q2 e => by
  obtain ⟨xs, e1, e⟩ := Option.bind_eq_some_iff.mp e
  obtain ⟨ys, e2, e⟩ := Option.bind_eq_some_iff.mp e
  split at e
  · rename_i hn
    cases e
    obtain ⟨a, vs, ev, z1, r1⟩ := asLs_ok R q1 e1
    obtain ⟨b, ws, ew, z2, r2⟩ := asLs_ok R q2 e2
    exact ⟨rfl, .bl false, fun _ _ _ => .bl _, fun k => ⟨a, b, vs, ws, ev, ew, z1, z2, by rw [← r1.length, ← r2.length]; exact hn, k⟩⟩
  · cases e
end HF
set_option Elab.async false
set_option linter.all false
set_option maxRecDepth 100000
set_option maxHeartbeats 1000000
namespace HF
open PySem PySem.Spec PyProof.Rows L2
section
variable {K : PySem.W.Frag} {Av : Addr → Prop} {H : Hp} {r : Rho} {h : List O} {D0 : Addr} {va : List V} {acc : List D}
theorem tr_take {a : Addr} : Tr Av (r ++ [some D0]) a → Tr (AvD Av D0) r a := fun t => by
  rcases t with t | ⟨i, e⟩
  · exact .inl (.inl t)
  · rcases getApp e with q | ⟨_, q⟩
    · exact .inr ⟨i, q⟩
    · cases q
      exact .inl (.inr rfl)
theorem lean_take : Lean1 (Tr (AvD Av D0) r) (Tr Av (r ++ [some D0])) H H r (r ++ [some D0]) :=
  ⟨fun a _ n t => n (tr_take t), fun a o e _ => e, fun a xs q => q, fun a xs q => q, by simp, fun i a hi e => by rw [List.getElem?_append_left hi] at e; exact e⟩
theorem ext_take {r' : Rho} {H' : Hp} (x : Ext r H r' H') (hD : H D0 = none) : Ext r H (r' ++ [some D0]) H' where
  len := Nat.le_trans x.len (by simp)
  pre := fun i a hi e => by
    rcases getApp e with q | ⟨l, q⟩
    · exact x.pre i a hi q
    · have := x.len; omega
  new := fun i a hi e => by
    rcases getApp e with q | ⟨l, q⟩
    · exact x.new i a hi q
    · cases q; exact hD
  keep := x.keep
  stay := x.stay
theorem Rep.take (nD : ¬ Av D0) (R : Rep K (AvD Av D0) r h H) (hD : H D0 = some (.lst va)) (qa : RDs K (Tr (AvD Av D0) r) H r acc va) : Rep K Av (r ++ [some D0]) (h ++ [.lst acc]) H where
  len := by simp [R.len]
  inj := fun i j a e1 e2 => by
    rcases getApp e1 with q1 | ⟨l1, q1⟩ <;> rcases getApp e2 with q2 | ⟨l2, q2⟩
    · exact R.inj i j a q1 q2
    · cases q2
      exact (R.nav _ ⟨i, q1⟩ (.inr rfl)).elim
    · cases q1
      exact (R.nav _ ⟨j, q2⟩ (.inr rfl)).elim
    · omega
  nav := fun a ⟨i, e⟩ av => by
    rcases getApp e with q | ⟨_, q⟩
    · exact R.nav a ⟨i, q⟩ (.inl av)
    · cases q
      exact nD av
  dom := fun a q => R.dom a (.inl q)
  obs := fun i a o' e1 e2 => by
    rcases getApp e1 with q1 | ⟨l1, q1⟩
    · have hi : i < h.length := by rw [← R.len]; exact getOpt q1
      rw [List.getElem?_append_left hi] at e2
      obtain ⟨w, hw, hr⟩ := R.obs i a o' q1 e2
      exact ⟨w, hw, roh_gen lean_take o' w hr⟩
    · cases q1
      rw [l1, R.len, List.getElem?_append_right (Nat.le_refl _)] at e2
      simp at e2
      subst e2
      exact ⟨_, hD, va, rfl, RDs.gen lean_take _ _ qa⟩
  drop := fun i e => by
    rcases getApp e with q | ⟨_, q⟩
    · have hi : i < h.length := by rw [← R.len]; exact getOpt q
      rw [List.getElem?_append_left hi]
      exact R.drop i q
    · cases q
end
def m_lcL (mi : FA) (g : FG) (tt : FT) (te : FE) (vs : List Nat) : FE := fun sl h => (mi sl h).bind fun p => (compC g tt te (wipeD sl vs) p.1 p.2).bind fun z => if szOk z.1.length then some (.loc z.2.length, z.2 ++ [.lst z.1]) else none
section
variable {K : PySem.W.Frag} {Av : Addr → Prop} {mi : FA} {g : FG} {tt : FT} {te : FE} {vs is : List Nat}
theorem lcL_go (hs : ∀ j ∈ is, j ∈ vs) {σ : L2.St} {H : Hp} {Q : VK} (q : tF K Av (m_lcL mi g tt te vs) σ H Q) : tLc (tFI K Av mi) (exG K is g) (exT K tt) (exE K te) vs σ H Q := by
  obtain ⟨r, sl, h, d, hzz, R, S, e, k⟩ := q
  obtain ⟨⟨ds, h1⟩, e1, e⟩ := Option.bind_eq_some_iff.mp e
  obtain ⟨⟨tot, hz⟩, e2, e⟩ := Option.bind_eq_some_iff.mp e
  dsimp only at e e2
  split at e
  · rename_i hsz
    cases e
    refine ⟨r, sl, h, ds, h1, R, S, e1, fun r1 H1 J ok x1 R1 so o1 D0 hD => ?_⟩
    have S1 := S.mono R x1
    let Av' := AvD Av D0
    have base : ∀ (i : Nat) (H : Hp) (r : Rho) (h : List O) (acc rest : List D) (va : List V), Rep K Av' r h H → RSl K (Tr Av' r) H r sl σ → ok Av' r H → H D0 = some (.lst va) → RDs K (Tr Av' r) H r acc va → Ext r1 H1 r H → compC g tt te (wipeD sl vs) (ds.drop i) h = some (rest, hz) → acc ++ rest = tot → True := fun _ _ _ _ _ _ _ _ _ _ _ _ _ _ _ => trivial
    refine ⟨fun i m H => ∃ r h acc rest va, i ≤ ds.length ∧ m = ds.length - i ∧ Rep K Av' r h H ∧ RSl K (Tr Av' r) H r sl σ ∧ ok Av' r H ∧ H D0 = some (.lst va) ∧ RDs K (Tr Av' r) H r acc va ∧ Ext r1 H1 r H ∧ compC g tt te (wipeD sl vs) (ds.drop i) h = some (rest, hz) ∧ acc ++ rest = tot,
      ⟨ds.length, r1, h1, [], tot, [], Nat.zero_le _, rfl, R1.grow hD, S1.gen (lean_grow hD), so.grow Av r1 H1 D0 _ hD o1, upd_same, .nil, Ext.new1 hD, by rw [List.drop_zero]; exact e2, rfl⟩, ?_⟩
    rintro i m H2 ⟨r2, h2, acc, rest, va, hi2, em, R2, S2, o2, hD2, qa, x2, e2, et⟩
    have hA : Av' D0 := .inr rfl
    have nD : ∀ {r : Rho} {h : List O} {H : Hp}, Rep K Av' r h H → ¬ In r D0 := fun R i => R.nav D0 i hA
    rcases Nat.lt_or_ge i ds.length with hl | hl
    · have hd : ds[i]? = some ds[i] := List.getElem?_eq_getElem hl
      obtain ⟨hgo, hy⟩ := so.go Av' r2 h2 H2 i ds[i] hd R2 o2
      refine .inr ⟨hgo, fun H' => ∃ r h acc rest va, i + 1 ≤ ds.length ∧ Rep K Av' r h H' ∧ RSl K (Tr Av' r) H' r sl σ ∧ ok Av' r H' ∧ H' D0 = some (.lst va) ∧ RDs K (Tr Av' r) H' r acc va ∧ Ext r1 H1 r H' ∧ compC g tt te (wipeD sl vs) (ds.drop (i + 1)) h = some (rest, hz) ∧ acc ++ rest = tot,
        fun H' ⟨r, h, acc, rest, va, l, a1, a2, a3, a4, a5, a6, a7, a8⟩ => ⟨ds.length - (i + 1), by omega, r, h, acc, rest, va, l, rfl, a1, a2, a3, a4, a5, a6, a7, a8⟩, fun x H3 yx => ?_⟩
      obtain ⟨x3, R3, q3⟩ := hy x H3 yx
      rw [List.drop_eq_getElem_cons hl] at e2
      unfold compC at e2
      obtain ⟨sl4, e4, e2⟩ := Option.bind_eq_some_iff.mp e2
      obtain ⟨⟨b5, h5⟩, e5, e2⟩ := Option.bind_eq_some_iff.mp e2
      have S3 := S2.mono R2 x3
      refine ⟨Av', r2, wipeD sl vs, h2, ds[i], sl4, R3, rsl_wipe S3 vs, q3, e4, fun σ4 S4 on4 => ⟨wipe_eq on4 hs, Av', ?_⟩⟩
      refine tFT_go R3 S4 e5 fun r5 H5 x5 R5 S5 => ?_
      have x35 := x3.trans x5
      dsimp only at e2
      cases b5 with
      | true =>
        obtain ⟨⟨d6, h6⟩, e6, e2⟩ := Option.bind_eq_some_iff.mp (show (te sl4 h5).bind _ = some (rest, hz) from e2)
        obtain ⟨⟨rest7, h7⟩, e7, e2⟩ := Option.bind_eq_some_iff.mp e2
        cases e2
        refine ⟨Av', tF_go R5 S5 e6 fun r6 v6 H6 x6 R6 S6 q6 => ?_⟩
        have x26 := x35.trans x6
        have hD6 : H6 D0 = some (.lst va) := x26.keep D0 _ hD2 (nD R2)
        refine ⟨va, hD6, ?_, r6, h6, acc ++ [d6], rest7, va ++ [v6], hl, R6.av hA hD6, (S2.mono R2 x26).gen (lean_av hA hD6), ?_, upd_same, ?_, ?_, e7, by rw [← et]; simp⟩
        · rw [← qa.length]
          refine szOk_lt (n := acc.length) ?_
          have hz2 : tot.length ≤ 100000 := of_decide_eq_true hsz
          rw [← et] at hz2
          exact decide_eq_true (by simp at hz2; omega)
        · exact so.mono Av' r6 r6 H6 _ (lean_av hA hD6) (so.mono Av' r2 r6 H2 H6 (lean_ext R2 x26) o2)
        · exact (RDs.gen (lean_av hA hD6) _ _ (RDs.mono R2 x26 _ _ qa)).append (.cons (RD.gen (lean_av hA hD6) _ _ q6) .nil)
        · have y := x2.trans x26
          exact ⟨y.len, y.pre, y.new, fun a o ea n => by rw [upd_ne (ne_of_none ea hD)]; exact y.keep a o ea n, fun a o ea => by rw [upd_ne (ne_of_none ea hD)]; exact y.stay a o ea⟩
      | false =>
        have e2' : compC g tt te (wipeD sl vs) (ds.drop (i + 1)) h5 = some (rest, hz) := e2
        exact ⟨r5, h5, acc, rest, va, hl, R5, S2.mono R2 x35, so.mono Av' r2 r5 H2 H5 (lean_ext R2 x35) o2, x35.keep D0 _ hD2 (nD R2), RDs.mono R2 x35 _ _ qa, x2.trans x35, e2', et⟩
    · have ei : i = ds.length := Nat.le_antisymm hi2 hl
      rw [ei, List.drop_length] at e2
      cases e2
      rw [List.append_nil] at et
      have so2 := so.stop Av' r2 _ H2 R2 o2
      rw [← ei] at so2
      subst et
      refine .inl ⟨so2, k (r2 ++ [some D0]) _ H2 (ext_take (x1.trans x2) (by
        cases hh : H D0 with
        | none => rfl
        | some o =>
          obtain ⟨o', e'⟩ := x1.stay _ _ hh
          rw [hD] at e'
          cases e')) (Rep.take (fun t => by
        obtain ⟨o, z⟩ := R1.dom _ t
        rw [hD] at z
        cases z) R2 hD2 qa) ?_⟩
      exact .loc (by simp [R2.len]) fun a ea => by
        rw [← R2.len, List.getElem?_append_right (Nat.le_refl _)] at ea
        simp at ea
        rw [ea]
  · cases e
end
section
variable {X : Cx} {Av : Addr → Prop} {elt tg iter : Expr} {ifs : List Expr} {scope : Scope} {own : List (Str × Nat)} {pos spos py : Pos} {mi : FA} {g : FG} {tt : FT} {te : FE} {is : List Nat} {i : Nat} {y : Str}
theorem fe_lcL (hc : X.calm = true) (hN : X.N.Nodup) (hi : PI X tg iter (tFI X.K Av mi)) (ok : BlkOk X.N X.env.scope scope own)
    (hg : ∀ (Av : Addr → Prop) (s : Shared) (H : Hp) (C : Addr) (cl : List (Str × Addr)) (fp : List Addr), PG (X.blk s H scope (compEnvC scope cl C X.env) fp) tg (tFG X.K Av is g)) (ht : ∀ (Av : Addr → Prop) (s : Shared) (H : Hp) (C : Addr) (cl : List (Str × Addr)) (fp : List Addr), PTs (X.blk s H scope (compEnvC scope cl C X.env) fp) ifs (tFT X.K Av tt))
    (he : ∀ (Av : Addr → Prop) (s : Shared) (H : Hp) (C : Addr) (cl : List (Str × Addr)) (fp : List Addr), PE (X.blk s H scope (compEnvC scope cl C X.env) fp) elt (tF X.K Av te)) (hj : ∀ j ∈ is, j ∈ own.map (·.2) := by decide) (hs : ∀ x, foldedSetIterable iter X.env x = pure x := by intro _; rfl) :
    PE X (.ListComp elt [⟨tg, iter, ifs, 0⟩] scope pos) (tF X.K Av (m_lcL mi g tt te (own.map (·.2)))) :=
  PE.imp (pe_lc hc hN hi ok (fun s H C cl fp => pg_ex (fun Av => hg Av s H C cl fp)) (fun s H C cl fp => pts_ex (fun Av => ht Av s H C cl fp)) (fun s H C cl fp => pe_ex (fun Av => he Av s H C cl fp)) hs) fun _ _ _ q => lcL_go hj q
theorem fs_setLcL (hc : X.calm = true) (hN : X.N.Nodup) (hy : X.N[i]? = some y) (hyl : X.env.scope.names.lookup y = some .local)
    (hsw : swapsWith (.ListComp elt [⟨tg, iter, ifs, 0⟩] scope pos) (some (.Name y py)) spos.line X.env = pure true) (hi : PI X tg iter (tFI X.K Av mi)) (ok : BlkOk X.N X.env.scope scope own)
    (hg : ∀ (Av : Addr → Prop) (s : Shared) (H : Hp) (C : Addr) (cl : List (Str × Addr)) (fp : List Addr), PG (X.blk s H scope (compEnvC scope cl C X.env) fp) tg (tFG X.K Av is g)) (ht : ∀ (Av : Addr → Prop) (s : Shared) (H : Hp) (C : Addr) (cl : List (Str × Addr)) (fp : List Addr), PTs (X.blk s H scope (compEnvC scope cl C X.env) fp) ifs (tFT X.K Av tt))
    (he : ∀ (Av : Addr → Prop) (s : Shared) (H : Hp) (C : Addr) (cl : List (Str × Addr)) (fp : List Addr), PE (X.blk s H scope (compEnvC scope cl C X.env) fp) elt (tF X.K Av te)) (hj : ∀ j ∈ is, j ∈ own.map (·.2) := by decide) (hs : ∀ x, foldedSetIterable iter X.env x = pure x := by intro _; rfl) :
    PS X (.Assign [.Name y py] (.ListComp elt [⟨tg, iter, ifs, 0⟩] scope pos) spos) (tFS X.K Av (s_set i (m_lcL mi g tt te (own.map (·.2))))) :=
  PS.imp (ps_setLc hc hN hy hyl hsw hi ok (fun s H C cl fp => pg_ex (fun Av => hg Av s H C cl fp)) (fun s H C cl fp => pts_ex (fun Av => ht Av s H C cl fp)) (fun s H C cl fp => pe_ex (fun Av => he Av s H C cl fp)) hs) fun Dn σ H q => by
    obtain ⟨r, sl, h, f, sl', h', R, S, e, k⟩ := q
    obtain ⟨⟨d1, h1⟩, e1, e⟩ := Option.bind_eq_some_iff.mp e
    cases e
    exact lcL_go hj (tF_go R S e1 fun r1 v H1 x1 R1 S1 q1 => k r1 _ H1 x1 R1 (S1.set i q1))
end
end HF
set_option Elab.async false
set_option linter.all false
set_option maxRecDepth 100000
set_option maxHeartbeats 4000000
namespace PF
open PySem PySem.Spec PyProof.Rows L2 HF
/-! _law_start -/
theorem sc__law_start : FnScope [("_law_script" : Str), ("_law_mixed_here" : Str), ("_law_cell" : Str)] [("_law_script" : Str)] (defScope s__law_start) := ⟨rfl, rfl, rfl, by decide +kernel, rfl, by decide +kernel, by decide +kernel⟩
def b__law_start : FS := (s_seq (s_set 1 (m_c (.int 5792)))
  (s_seq (s_for (i_q (m_sl (m_v 0) o_none (o_some (m_c (.int 63))))) (g_n 2) (s_set 1 (m_bin f_mod (m_b c_int (a_cons (m_bin f_add (m_bin f_add (m_bin f_mul (m_v 1) (m_c (.int 48017))) (m_bin f_mul (m_bin f_mod (m_b c_int (a_cons (m_v 2) a_nil)) (m_c (.int 1000133))) (m_c (.int 911)))) (m_c (.int 13))) a_nil)) (m_c (.int 2147483587)))))
  (s_ret (m_tl (a_cons (m_b c_list (a_cons (m_sl (m_v 0) o_none (o_some (m_c (.int 63)))) a_nil)) (a_cons (m_c (.int 0)) (a_cons (m_c (.int 0)) (a_cons (m_v 1) (a_cons (m_c (.int 0)) a_nil)))))))))
def cm__law_start : CM := cmP [] (m_fn 1 3 b__law_start)
/-! _law_pull -/
theorem sc__law_pull : FnScope [("_law_bag" : Str), ("_law_many" : Str), ("_law_cell" : Str), ("_law_digit" : Str), ("_law_twice" : Str)] [("_law_bag" : Str), ("_law_many" : Str)] (defScope s__law_pull) := ⟨rfl, rfl, rfl, by decide +kernel, rfl, by decide +kernel, by decide +kernel⟩
def b__law_pull : FS := (s_seq (s_sub (m_bin f_add (m_bin f_ix (m_v 0) (m_c (.int 4))) (m_c (.int 1))) (m_v 0) (m_c (.int 4)))
  (s_seq (s_if (t_and (m_t (m_bin f_eq (m_bin f_ix (m_v 0) (m_c (.int 2))) (m_c (.int 0)))) (m_t (m_bin f_lt (m_bin f_ix (m_v 0) (m_c (.int 1))) (m_b c_len (a_cons (m_bin f_ix (m_v 0) (m_c (.int 0))) a_nil))))) (s_seq (s_set 2 (m_bin f_ix (m_bin f_ix (m_v 0) (m_c (.int 0))) (m_bin f_ix (m_v 0) (m_c (.int 1)))))
  (s_seq (s_sub (m_bin f_add (m_bin f_ix (m_v 0) (m_c (.int 1))) (m_c (.int 1))) (m_v 0) (m_c (.int 1)))
  (s_if (m_t (m_bin f_ge (m_b c_abs (a_cons (m_v 2) a_nil)) (m_bin f_pow (m_c (.int 10)) (m_c (.int 18))))) (s_sub (m_b c_abs (a_cons (m_v 2) a_nil)) (m_v 0) (m_c (.int 2))) (s_sub (m_bin f_mod (m_b c_int (a_cons (m_bin f_add (m_bin f_add (m_bin f_mul (m_bin f_ix (m_v 0) (m_c (.int 3))) (m_c (.int 41351))) (m_bin f_mul (m_bin f_mod (m_b c_int (a_cons (m_v 2) a_nil)) (m_c (.int 1000133))) (m_c (.int 733)))) (m_c (.int 37))) a_nil)) (m_c (.int 2147483629))) (m_v 0) (m_c (.int 3)))))) s_nil)
  (s_seq (s_if (m_t (m_bin f_gt (m_bin f_ix (m_v 0) (m_c (.int 2))) (m_c (.int 0)))) (s_seq (s_set 3 (m_bin f_mod (m_b c_int (a_cons (m_bin f_ix (m_v 0) (m_c (.int 2))) a_nil)) (m_v 1)))
  (s_seq (s_sub (m_bin f_fdiv (m_bin f_ix (m_v 0) (m_c (.int 2))) (m_v 1)) (m_v 0) (m_c (.int 2)))
  (s_ret (m_v 3)))) s_nil)
  (s_seq (s_set 4 (m_bin f_mod (m_b c_int (a_cons (m_bin f_add (m_bin f_mul (m_bin f_ix (m_v 0) (m_c (.int 3))) (m_bin f_ix (m_v 0) (m_c (.int 3)))) (m_bin f_mul (m_bin f_ix (m_v 0) (m_c (.int 4))) (m_c (.int 8311)))) a_nil)) (m_c (.int 2147483549))))
  (s_seq (s_sub (m_bin f_mod (m_b c_int (a_cons (m_bin f_add (m_bin f_add (m_bin f_mul (m_v 4) (m_c (.int 15991))) (m_bin f_mul (m_bin f_ix (m_v 0) (m_c (.int 3))) (m_c (.int 60101)))) (m_c (.int 54011))) a_nil)) (m_c (.int 2147483629))) (m_v 0) (m_c (.int 3)))
  (s_ret (m_bin f_mod (m_b c_int (a_cons (m_bin f_fdiv (m_bin f_ix (m_v 0) (m_c (.int 3))) (m_c (.int 64))) a_nil)) (m_v 1))))))))
def cm__law_pull : CM := cmP [] (m_fn 2 5 b__law_pull)
/-! _law_pick -/
theorem sc__law_pick : FnScope [("_law_bag" : Str), ("_law_some" : Str)] [("_law_bag" : Str), ("_law_some" : Str)] (defScope s__law_pick) := ⟨rfl, rfl, rfl, by decide +kernel, rfl, by decide +kernel, by decide +kernel⟩
def b__law_pick : FS := (s_ret (m_bin f_ix (m_v 1) (m_call cm__law_pull [] (m_ca (a_cons (m_v 0) (a_cons (m_b c_len (a_cons (m_v 1) a_nil)) a_nil)) a_nil))))
def cm__law_pick : CM := cmP [] (m_fn 2 2 b__law_pick)
/-! _law_names_drawn -/
theorem sc__law_names_drawn : FnScope [("_law_bag" : Str), ("_law_many" : Str), ("_law_letters" : Str), ("_law_stem" : Str), ("_law_at" : Str), ("_law_first" : Str), ("_law_k" : Str)] [("_law_bag" : Str), ("_law_many" : Str)] (defScope s__law_names_drawn) := ⟨rfl, rfl, rfl, by decide +kernel, rfl, by decide +kernel, by decide +kernel⟩
def b__law_names_drawn : FS := (s_seq (s_set 2 (m_c (.str "abcdefghijklmnopqrstuvwxyz")))
  (s_seq (s_set 3 (m_m1 x_join (m_c (.str "")) (m_lc (i_r1 (a_cons (m_call cm__law_pick [] (m_ca (a_cons (m_v 0) (a_cons (m_fl (a_cons (m_c (.int 0)) (a_cons (m_c (.int 1)) (a_cons (m_c (.int 3)) (a_cons (m_c (.int 7)) a_nil))))) a_nil)) a_nil)) a_nil)) (g_n 6) t_yes (m_call cm__law_pick [] (m_ca (a_cons (m_v 0) (a_cons (m_v 2) a_nil)) a_nil)) (List.map (·.2) ([("_law_k", 6)] : List (Str × Nat))))))
  (s_seq (s_asg (m_tup (a_cons (m_call cm__law_pull [] (m_ca (a_cons (m_v 0) (a_cons (m_bin f_add (m_b c_len (a_cons (m_v 3) a_nil)) (m_c (.int 1))) a_nil)) a_nil)) (a_cons (m_call cm__law_pull [] (m_ca (a_cons (m_v 0) (a_cons (m_c (.int 26)) a_nil)) a_nil)) a_nil))) (g_q 2 (gs_cons (g_n 4) (gs_cons (g_n 5) gs_nil))))
  (s_ret (m_lc (i_r1 (a_cons (m_v 1) a_nil)) (g_n 6) t_yes (m_bin f_add (m_bin f_add (m_sl (m_v 3) o_none (o_some (m_v 4))) (m_bin f_ix (m_v 2) (m_bin f_mod (m_b c_int (a_cons (m_bin f_add (m_v 5) (m_v 6)) a_nil)) (m_c (.int 26))))) (m_sl (m_v 3) (o_some (m_v 4)) o_none)) (List.map (·.2) ([("_law_k", 6)] : List (Str × Nat))))))))
def cm__law_names_drawn : CM := cmP [] (m_fn 2 7 b__law_names_drawn)
/-! _law_close -/
theorem sc__law_close : FnScope [("_law_bag" : Str), ("_law_far" : Str)] [("_law_bag" : Str), ("_law_far" : Str)] (defScope s__law_close) := ⟨rfl, rfl, rfl, by decide +kernel, rfl, by decide +kernel, by decide +kernel⟩
def b__law_close : FS := (s_ret (m_bin f_sub (m_call cm__law_pull [] (m_ca (a_cons (m_v 0) (a_cons (m_bin f_add (m_bin f_mul (m_c (.int 2)) (m_v 1)) (m_c (.int 1))) a_nil)) a_nil)) (m_v 1)))
def cm__law_close : CM := cmP [] (m_fn 2 2 b__law_close)
/-! _law_mixed -/
theorem sc__law_mixed : FnScope [("_law_bag" : Str), ("_law_some" : Str), ("_law_found" : Str), ("_law_item" : Str)] [("_law_bag" : Str), ("_law_some" : Str)] (defScope s__law_mixed) := ⟨rfl, rfl, rfl, by decide +kernel, rfl, by decide +kernel, by decide +kernel⟩
def b__law_mixed : FS := (s_seq (s_set 2 (m_tl a_nil))
  (s_seq (s_for (i_q (m_v 1)) (g_n 3) (s_ex (m_lm x_insert (m_v 2) (a_cons (m_call cm__law_pull [] (m_ca (a_cons (m_v 0) (a_cons (m_bin f_add (m_b c_len (a_cons (m_v 2) a_nil)) (m_c (.int 1))) a_nil)) a_nil)) (a_cons (m_v 3) a_nil)))))
  (s_ret (m_frz (m_v 2)))))
def cm__law_mixed : CM := cmP [] (m_fn 2 4 b__law_mixed)
/-! is_number -/
theorem sc_is_number : FnScope [("value" : Str), ("low" : Str), ("high" : Str)] [("value" : Str), ("low" : Str), ("high" : Str)] (defScope s_is_number) := ⟨rfl, rfl, rfl, by decide +kernel, rfl, by decide +kernel, by decide +kernel⟩
def b_is_number : FS := (s_seq (s_if (t_or (t_not (m_t (m_isT .int (m_v 0)))) (t_or (m_t (m_isT .bl (m_v 0))) (m_t (m_bin f_lt (m_v 0) (m_v 1))))) (s_ret (m_c (.bl false))) s_nil)
  (s_ret (m_or (m_bin g_is (m_v 2) (m_c .non)) (m_bin f_le (m_v 0) (m_v 2)))))
def cm_is_number : CM := cmP [] (m_fn 3 3 b_is_number)
/-! Mode.followers -/
theorem sc_Mode_followers : FnScope [("self" : Str)] [("self" : Str)] (defScope s_Mode_followers) := ⟨rfl, rfl, rfl, by decide +kernel, rfl, by decide +kernel, by decide +kernel⟩
def b_Mode_followers : FS := (s_ret (m_b c_list (a_cons (m_attr ["Mode"] "next_names" (m_v 0)) a_nil)))
def cm_Mode_followers : CM := cmP [] (m_fn 1 1 b_Mode_followers)
/-! Plan.__init__ -/
theorem sc_Plan___init__ : FnScope [("self" : Str), ("size" : Str), ("start" : Str), ("modes" : Str), ("at" : Str), ("mode" : Str), ("table" : Str), ("name" : Str)] [("self" : Str), ("size" : Str), ("start" : Str), ("modes" : Str)] (defScope s_Plan___init__) := ⟨rfl, rfl, rfl, by decide +kernel, rfl, by decide +kernel, by decide +kernel⟩
def b_Plan___init__ : FS := (s_seq (s_if (t_not (m_t (m_call cm_is_number [] (m_ca (a_cons (m_v 1) (a_cons (m_c (.int 1)) (a_cons (m_c (.int 24)) a_nil))) a_nil)))) s_never s_nil)
  (s_seq (s_if (t_not (m_t (m_chain f_le f_le (m_c (.int 1)) (m_b c_len (a_cons (m_v 3) a_nil)) (m_c (.int 6))))) s_never s_nil)
  (s_seq (s_for (i_alt (i_e (a_cons (m_v 3) a_nil)) (i_eT (a_cons (m_v 3) a_nil))) (g_q 2 (gs_cons (g_n 4) (gs_cons (g_n 5) gs_nil))) (s_if (t_not (m_t (m_isC "Mode" [] (m_v 5)))) s_never s_nil))
  (s_seq (s_set 6 (m_dn false))
  (s_seq (s_for (i_q (m_v 3)) (g_n 5) (s_seq (s_if (m_t (m_bin f_inD (m_attr ["Mode"] "name" (m_v 5)) (m_v 6))) s_never s_nil)
  (s_dput (m_v 5) (m_v 6) (m_attr ["Mode"] "name" (m_v 5)))))
  (s_seq (s_for (i_q (m_v 3)) (g_n 5) (s_for (i_q (m_meth "Mode" "followers" cm_Mode_followers [] (m_v 5) (m_ca a_nil a_nil))) (g_n 7) (s_if (m_t (m_bin f_ninD (m_v 7) (m_v 6))) s_never s_nil)))
  (s_seq (s_if (t_and (m_t (m_bin g_isnt (m_v 2) (m_c .non))) (t_not (m_t (m_call cm_is_number [] (m_ca (a_cons (m_v 2) (a_cons (m_c (.int 0)) (a_cons (m_v 1) a_nil))) a_nil))))) s_never s_nil)
  (s_seq (s_fld ["Plan"] "size" (m_v 0) (m_v 1))
  (s_seq (s_fld ["Plan"] "start" (m_v 0) (m_if (m_t (m_bin g_is (m_v 2) (m_c .non))) (m_v 1) (m_v 2)))
  (s_fld ["Plan"] "table" (m_v 0) (m_v 6)))))))))))
def cm_Plan___init__ : CM := (m_star 2 ["start"] [some 0] [] 8 b_Plan___init__)
/-! _law_plan_of -/
theorem sc__law_plan_of : FnScope [("_law_size" : Str), ("_law_modes" : Str), ("_law_my_start" : Str), ("_law_a" : Str)] [("_law_size" : Str), ("_law_modes" : Str), ("_law_my_start" : Str)] (defScope s__law_plan_of) := ⟨rfl, rfl, rfl, by decide +kernel, rfl, by decide +kernel, by decide +kernel⟩
def b__law_plan_of : FS := (s_seq (s_set 3 (m_bin f_add (m_v 1) (m_bin f_mul (m_fl (a_cons (m_bin f_ix (m_v 1) (m_c (.int 0))) a_nil)) (m_bin f_sub (m_c (.int 6)) (m_b c_len (a_cons (m_v 1) a_nil))))))
  (s_seq (s_if (m_t (m_bin f_eq (m_b c_len (a_cons (m_v 1) a_nil)) (m_c (.int 1)))) (s_ret (m_mkP "Plan" cm_Plan___init__ ["start"] (m_ca (a_cons (m_v 0) (a_cons (m_bin f_ix (m_v 3) (m_c (.int 0))) a_nil)) (a_cons (m_v 2) a_nil)))) s_nil)
  (s_seq (s_if (m_t (m_bin f_eq (m_b c_len (a_cons (m_v 1) a_nil)) (m_c (.int 2)))) (s_ret (m_mkP "Plan" cm_Plan___init__ ["start"] (m_ca (a_cons (m_v 0) (a_cons (m_bin f_ix (m_v 3) (m_c (.int 0))) (a_cons (m_bin f_ix (m_v 3) (m_c (.int 1))) a_nil))) (a_cons (m_v 2) a_nil)))) s_nil)
  (s_seq (s_if (m_t (m_bin f_eq (m_b c_len (a_cons (m_v 1) a_nil)) (m_c (.int 3)))) (s_ret (m_mkP "Plan" cm_Plan___init__ ["start"] (m_ca (a_cons (m_v 0) (a_cons (m_bin f_ix (m_v 3) (m_c (.int 0))) (a_cons (m_bin f_ix (m_v 3) (m_c (.int 1))) (a_cons (m_bin f_ix (m_v 3) (m_c (.int 2))) a_nil)))) (a_cons (m_v 2) a_nil)))) s_nil)
  (s_seq (s_if (m_t (m_bin f_eq (m_b c_len (a_cons (m_v 1) a_nil)) (m_c (.int 4)))) (s_ret (m_mkP "Plan" cm_Plan___init__ ["start"] (m_ca (a_cons (m_v 0) (a_cons (m_bin f_ix (m_v 3) (m_c (.int 0))) (a_cons (m_bin f_ix (m_v 3) (m_c (.int 1))) (a_cons (m_bin f_ix (m_v 3) (m_c (.int 2))) (a_cons (m_bin f_ix (m_v 3) (m_c (.int 3))) a_nil))))) (a_cons (m_v 2) a_nil)))) s_nil)
  (s_seq (s_if (m_t (m_bin f_eq (m_b c_len (a_cons (m_v 1) a_nil)) (m_c (.int 5)))) (s_ret (m_mkP "Plan" cm_Plan___init__ ["start"] (m_ca (a_cons (m_v 0) (a_cons (m_bin f_ix (m_v 3) (m_c (.int 0))) (a_cons (m_bin f_ix (m_v 3) (m_c (.int 1))) (a_cons (m_bin f_ix (m_v 3) (m_c (.int 2))) (a_cons (m_bin f_ix (m_v 3) (m_c (.int 3))) (a_cons (m_bin f_ix (m_v 3) (m_c (.int 4))) a_nil)))))) (a_cons (m_v 2) a_nil)))) s_nil)
  (s_ret (m_mkP "Plan" cm_Plan___init__ ["start"] (m_ca (a_cons (m_v 0) (a_cons (m_bin f_ix (m_v 3) (m_c (.int 0))) (a_cons (m_bin f_ix (m_v 3) (m_c (.int 1))) (a_cons (m_bin f_ix (m_v 3) (m_c (.int 2))) (a_cons (m_bin f_ix (m_v 3) (m_c (.int 3))) (a_cons (m_bin f_ix (m_v 3) (m_c (.int 4))) (a_cons (m_bin f_ix (m_v 3) (m_c (.int 5))) a_nil))))))) (a_cons (m_v 2) a_nil))))))))))
def cm__law_plan_of : CM := cmP [] (m_fn 3 4 b__law_plan_of)
/-! is_name -/
theorem sc_is_name : FnScope [("value" : Str), ("sign" : Str)] [("value" : Str)] (defScope s_is_name) := ⟨rfl, rfl, rfl, by decide +kernel, rfl, by decide +kernel, by decide +kernel⟩
def b_is_name : FS := (s_seq (s_if (t_or (t_not (m_t (m_isT .str (m_v 0)))) (t_not (m_t (m_chain f_le f_le (m_c (.int 1)) (m_b c_len (a_cons (m_v 0) a_nil)) (m_c (.int 8)))))) (s_ret (m_c (.bl false))) s_nil)
  (s_ret (m_b c_all (a_cons (m_lc (i_s (m_v 0)) (g_n 1) t_yes (m_bin f_inS (m_v 1) (m_c (.str "abcdefghijklmnopqrstuvwxyz"))) (List.map (·.2) ([("sign", 1)] : List (Str × Nat)))) a_nil))))
def cm_is_name : CM := cmP [] (m_fn 1 2 b_is_name)
/-! Mode.__init__ -/
theorem sc_Mode___init__ : FnScope [("self" : Str), ("name" : Str), ("low" : Str), ("high" : Str), ("under" : Str), ("over" : Str), ("followers" : Str), ("follower" : Str), ("at" : Str), ("slip" : Str)] [("self" : Str), ("name" : Str), ("low" : Str), ("high" : Str), ("under" : Str), ("over" : Str), ("followers" : Str)] (defScope s_Mode___init__) := ⟨rfl, rfl, rfl, by decide +kernel, rfl, by decide +kernel, by decide +kernel⟩
def b_Mode___init__ : FS := (s_seq (s_if (t_not (m_t (m_call cm_is_name [] (m_ca (a_cons (m_v 1) a_nil) a_nil)))) s_never s_nil)
  (s_seq (s_if (t_not (m_t (m_call cm_is_number [] (m_ca (a_cons (m_v 2) (a_cons (m_neg (m_c (.int 9))) (a_cons (m_c (.int 9)) a_nil))) a_nil)))) s_never s_nil)
  (s_seq (s_if (t_not (m_t (m_call cm_is_number [] (m_ca (a_cons (m_v 3) (a_cons (m_v 2) (a_cons (m_c (.int 9)) a_nil))) a_nil)))) s_never s_nil)
  (s_seq (s_for (i_q (m_v 6)) (g_n 7) (s_if (t_not (m_t (m_call cm_is_name [] (m_ca (a_cons (m_v 7) a_nil) a_nil)))) s_never s_nil))
  (s_seq (s_for (i_alt (i_e (a_cons (m_v 6) a_nil)) (i_eT (a_cons (m_v 6) a_nil))) (g_q 2 (gs_cons (g_n 8) (gs_cons (g_n 7) gs_nil))) (s_if (m_t (m_bin f_inT (m_v 7) (m_sl (m_v 6) o_none (o_some (m_v 8))))) s_never s_nil))
  (s_seq (s_for (i_q (m_tup (a_cons (m_v 4) (a_cons (m_v 5) a_nil)))) (g_n 9) (s_if (t_not (m_t (m_call cm_is_number [] (m_ca (a_cons (m_v 9) (a_cons (m_c (.int 0)) (a_cons (m_c (.int 9)) a_nil))) a_nil)))) s_never s_nil))
  (s_seq (s_fld ["Mode"] "name" (m_v 0) (m_v 1))
  (s_seq (s_fld ["Mode"] "low" (m_v 0) (m_v 2))
  (s_seq (s_fld ["Mode"] "high" (m_v 0) (m_v 3))
  (s_seq (s_fld ["Mode"] "under" (m_v 0) (m_v 4))
  (s_seq (s_fld ["Mode"] "over" (m_v 0) (m_v 5))
  (s_fld ["Mode"] "next_names" (m_v 0) (m_if (m_t (m_bin f_ne (m_v 6) (m_tup a_nil))) (m_v 6) (m_tup (a_cons (m_v 1) a_nil)))))))))))))))
def cm_Mode___init__ : CM := (or3 (m_star 4 [] [none, none] [(.int 0), (.int 0)] 10 b_Mode___init__) (or3 (m_star 4 ["under", "over"] [some 0, some 1] [] 10 b_Mode___init__) (m_star 4 ["over", "under"] [some 1, some 0] [] 10 b_Mode___init__)))
/-! _law_mode_made -/
theorem sc__law_mode_made : FnScope [("_law_row" : Str), ("_law_name" : Str), ("_law_low" : Str), ("_law_high" : Str), ("_law_my_under" : Str), ("_law_my_over" : Str), ("_law_late" : Str)] [("_law_row" : Str)] (defScope s__law_mode_made) := ⟨rfl, rfl, rfl, by decide +kernel, rfl, by decide +kernel, by decide +kernel⟩
def b__law_mode_made : FS := (s_seq (s_asg (m_v 0) (g_q 6 (gs_cons (g_n 1) (gs_cons (g_n 2) (gs_cons (g_n 3) (gs_cons (g_n 4) (gs_cons (g_n 5) (gs_cons (g_n 6) gs_nil))))))))
  (s_seq (s_if (m_t (m_bin f_eq (m_v 6) (m_fl (a_cons (m_v 1) a_nil)))) (s_ret (m_mkP "Mode" cm_Mode___init__ ["under", "over"] (m_ca (a_cons (m_v 1) (a_cons (m_v 2) (a_cons (m_v 3) a_nil))) (a_cons (m_v 4) (a_cons (m_v 5) a_nil))))) s_nil)
  (s_seq (s_if (m_t (m_bin f_eq (m_b c_len (a_cons (m_v 6) a_nil)) (m_c (.int 1)))) (s_ret (m_mkP "Mode" cm_Mode___init__ ["over", "under"] (m_ca (a_cons (m_v 1) (a_cons (m_v 2) (a_cons (m_v 3) (a_cons (m_bin f_ix (m_v 6) (m_c (.int 0))) a_nil)))) (a_cons (m_v 5) (a_cons (m_v 4) a_nil))))) s_nil)
  (s_seq (s_if (m_t (m_bin f_eq (m_b c_len (a_cons (m_v 6) a_nil)) (m_c (.int 2)))) (s_ret (m_mkP "Mode" cm_Mode___init__ ["under", "over"] (m_ca (a_cons (m_v 1) (a_cons (m_v 2) (a_cons (m_v 3) (a_cons (m_bin f_ix (m_v 6) (m_c (.int 0))) (a_cons (m_bin f_ix (m_v 6) (m_c (.int 1))) a_nil))))) (a_cons (m_v 4) (a_cons (m_v 5) a_nil))))) s_nil)
  (s_ret (m_mkP "Mode" cm_Mode___init__ ["under", "over"] (m_ca (a_cons (m_v 1) (a_cons (m_v 2) (a_cons (m_v 3) (a_cons (m_bin f_ix (m_v 6) (m_c (.int 0))) (a_cons (m_bin f_ix (m_v 6) (m_c (.int 1))) (a_cons (m_bin f_ix (m_v 6) (m_c (.int 2))) a_nil)))))) (a_cons (m_v 4) (a_cons (m_v 5) a_nil)))))))))
def cm__law_mode_made : CM := cmP [] (m_fn 1 7 b__law_mode_made)
/-! _law_many_mode -/
theorem sc__law_many_mode : FnScope [("_law_row" : Str), ("_law_name" : Str), ("_law_low" : Str), ("_law_high" : Str), ("_law_my_under" : Str), ("_law_my_over" : Str), ("_law_late" : Str)] [("_law_row" : Str)] (defScope s__law_many_mode) := ⟨rfl, rfl, rfl, by decide +kernel, rfl, by decide +kernel, by decide +kernel⟩
def b__law_many_mode : FS := (s_seq (s_asg (m_v 0) (g_q 6 (gs_cons (g_n 1) (gs_cons (g_n 2) (gs_cons (g_n 3) (gs_cons (g_n 4) (gs_cons (g_n 5) (gs_cons (g_n 6) gs_nil))))))))
  (s_seq (s_if (m_t (m_bin f_lt (m_b c_len (a_cons (m_v 6) a_nil)) (m_c (.int 4)))) (s_ret (m_call cm__law_mode_made [] (m_ca (a_cons (m_v 0) a_nil) a_nil))) s_nil)
  (s_seq (s_if (m_t (m_bin f_eq (m_b c_len (a_cons (m_v 6) a_nil)) (m_c (.int 4)))) (s_ret (m_mkP "Mode" cm_Mode___init__ ["under", "over"] (m_ca (a_cons (m_v 1) (a_cons (m_v 2) (a_cons (m_v 3) (a_cons (m_bin f_ix (m_v 6) (m_c (.int 0))) (a_cons (m_bin f_ix (m_v 6) (m_c (.int 1))) (a_cons (m_bin f_ix (m_v 6) (m_c (.int 2))) (a_cons (m_bin f_ix (m_v 6) (m_c (.int 3))) a_nil))))))) (a_cons (m_v 4) (a_cons (m_v 5) a_nil))))) s_nil)
  (s_seq (s_if (m_t (m_bin f_eq (m_b c_len (a_cons (m_v 6) a_nil)) (m_c (.int 5)))) (s_ret (m_mkP "Mode" cm_Mode___init__ ["under", "over"] (m_ca (a_cons (m_v 1) (a_cons (m_v 2) (a_cons (m_v 3) (a_cons (m_bin f_ix (m_v 6) (m_c (.int 0))) (a_cons (m_bin f_ix (m_v 6) (m_c (.int 1))) (a_cons (m_bin f_ix (m_v 6) (m_c (.int 2))) (a_cons (m_bin f_ix (m_v 6) (m_c (.int 3))) (a_cons (m_bin f_ix (m_v 6) (m_c (.int 4))) a_nil)))))))) (a_cons (m_v 4) (a_cons (m_v 5) a_nil))))) s_nil)
  (s_ret (m_mkP "Mode" cm_Mode___init__ ["under", "over"] (m_ca (a_cons (m_v 1) (a_cons (m_v 2) (a_cons (m_v 3) (a_cons (m_bin f_ix (m_v 6) (m_c (.int 0))) (a_cons (m_bin f_ix (m_v 6) (m_c (.int 1))) (a_cons (m_bin f_ix (m_v 6) (m_c (.int 2))) (a_cons (m_bin f_ix (m_v 6) (m_c (.int 3))) (a_cons (m_bin f_ix (m_v 6) (m_c (.int 4))) (a_cons (m_bin f_ix (m_v 6) (m_c (.int 5))) a_nil))))))))) (a_cons (m_v 4) (a_cons (m_v 5) a_nil)))))))))
def cm__law_many_mode : CM := cmP [] (m_fn 1 7 b__law_many_mode)
/-! _law_same -/
theorem sc__law_same : FnScope [("_law_found" : Str), ("_law_due" : Str), ("_law_a" : Str), ("_law_b" : Str)] [("_law_found" : Str), ("_law_due" : Str)] (defScope s__law_same) := ⟨rfl, rfl, rfl, by decide +kernel, rfl, by decide +kernel, by decide +kernel⟩
def b__law_same (self : CM) : FS := (s_seq (s_if (t_or (m_t (m_bin g_is (m_v 1) (m_c .non))) (m_t (m_bin g_is (m_v 0) (m_c .non)))) (s_ret (m_and (m_bin g_is (m_v 1) (m_c .non)) (m_bin g_is (m_v 0) (m_c .non)))) s_nil)
  (s_seq (s_if (m_t (m_isT .lst (m_v 1))) (s_seq (s_if (t_or (t_not (m_t (m_isT .lst (m_v 0)))) (m_t (m_bin f_ne (m_b c_len (a_cons (m_v 0) a_nil)) (m_b c_len (a_cons (m_v 1) a_nil))))) (s_ret (m_c (.bl false))) s_nil)
  (s_ret (m_b c_all (a_cons (m_lc (i_z (a_cons (m_v 0) (a_cons (m_v 1) a_nil))) (g_q 2 (gs_cons (g_n 2) (gs_cons (g_n 3) gs_nil))) t_yes (m_call self [] (m_ca (a_cons (m_v 2) (a_cons (m_v 3) a_nil)) a_nil)) (List.map (·.2) ([("_law_a", 2), ("_law_b", 3)] : List (Str × Nat)))) a_nil)))) s_nil)
  (s_seq (s_if (m_t (m_isT .tup (m_v 1))) (s_seq (s_if (t_or (t_not (m_t (m_isT .tup (m_v 0)))) (m_t (m_bin f_ne (m_b c_len (a_cons (m_v 0) a_nil)) (m_b c_len (a_cons (m_v 1) a_nil))))) (s_ret (m_c (.bl false))) s_nil)
  (s_ret (m_b c_all (a_cons (m_lc (i_z (a_cons (m_v 0) (a_cons (m_v 1) a_nil))) (g_q 2 (gs_cons (g_n 2) (gs_cons (g_n 3) gs_nil))) t_yes (m_call self [] (m_ca (a_cons (m_v 2) (a_cons (m_v 3) a_nil)) a_nil)) (List.map (·.2) ([("_law_a", 2), ("_law_b", 3)] : List (Str × Nat)))) a_nil)))) s_nil)
  (s_seq (s_if (m_t (m_isT .bl (m_v 1))) (s_ret (m_and (m_isT .bl (m_v 0)) (m_bin f_eq (m_v 0) (m_v 1)))) s_nil)
  (s_seq (s_if (m_t (m_isT .int (m_v 1))) (s_seq (s_if (t_not (m_t (m_isT .int (m_v 0)))) (s_ret (m_c (.bl false))) s_nil)
  (s_ret (m_and (m_not (m_isT .bl (m_v 0))) (m_bin f_eq (m_v 0) (m_v 1))))) s_nil)
  (s_ret (m_and (m_isT .str (m_v 0)) (m_bin f_eq (m_v 0) (m_v 1)))))))))
def cm__law_same : Nat → CM
  | 0 => fun _ _ _ => none
  | n + 1 => cmP [] (m_fn 2 4 (b__law_same (cm__law_same n)))
/-! Plan.mode -/
theorem sc_Plan_mode : FnScope [("self" : Str), ("name" : Str)] [("self" : Str), ("name" : Str)] (defScope s_Plan_mode) := ⟨rfl, rfl, rfl, by decide +kernel, rfl, by decide +kernel, by decide +kernel⟩
def b_Plan_mode : FS := (s_seq (s_if (t_or (t_not (m_t (m_isT .str (m_v 1)))) (m_t (m_bin f_ninD (m_v 1) (m_attr ["Plan"] "table" (m_v 0))))) s_never s_nil)
  (s_ret (m_bin f_dget (m_attr ["Plan"] "table" (m_v 0)) (m_v 1))))
def cm_Plan_mode : CM := cmP [] (m_fn 2 2 b_Plan_mode)
/-! mode_line -/
theorem sc_mode_line : FnScope [("mode" : Str), ("numbers" : Str)] [("mode" : Str)] (defScope s_mode_line) := ⟨rfl, rfl, rfl, by decide +kernel, rfl, by decide +kernel, by decide +kernel⟩
def b_mode_line : FS := (s_seq (s_set 1 (m_fs [(m_fmt (m_attr ["Mode"] "low" (m_v 0))), (m_c (.str " ")), (m_fmt (m_attr ["Mode"] "high" (m_v 0))), (m_c (.str " ")), (m_fmt (m_attr ["Mode"] "under" (m_v 0))), (m_c (.str " ")), (m_fmt (m_attr ["Mode"] "over" (m_v 0)))]))
  (s_ret (m_fs [(m_c (.str "mode ")), (m_fmt (m_attr ["Mode"] "name" (m_v 0))), (m_c (.str " ")), (m_fmt (m_v 1)), (m_c (.str " : ")), (m_fmt (m_m1 x_join (m_c (.str " ")) (m_meth "Mode" "followers" cm_Mode_followers [] (m_v 0) (m_ca a_nil a_nil))))])))
def cm_mode_line : CM := cmP [] (m_fn 1 2 b_mode_line)
/-! Plan.names -/
theorem sc_Plan_names : FnScope [("self" : Str)] [("self" : Str)] (defScope s_Plan_names) := ⟨rfl, rfl, rfl, by decide +kernel, rfl, by decide +kernel, by decide +kernel⟩
def b_Plan_names : FS := (s_ret (m_b c_list (a_cons (m_attr ["Plan"] "table" (m_v 0)) a_nil)))
def cm_Plan_names : CM := cmP [] (m_fn 1 1 b_Plan_names)
/-! plan_text -/
theorem sc_plan_text : FnScope [("plan" : Str), ("lines" : Str), ("name" : Str), ("line" : Str)] [("plan" : Str)] (defScope s_plan_text) := ⟨rfl, rfl, rfl, by decide +kernel, rfl, by decide +kernel, by decide +kernel⟩
def b_plan_text : FS := (s_seq (s_set 1 (m_fl (a_cons (m_fs [(m_c (.str "store ")), (m_fmt (m_attr ["Plan"] "size" (m_v 0))), (m_c (.str " ")), (m_fmt (m_attr ["Plan"] "start" (m_v 0)))]) (a_star (m_lc (i_q (m_meth "Plan" "names" cm_Plan_names [] (m_v 0) (m_ca a_nil a_nil))) (g_n 2) t_yes (m_call cm_mode_line [] (m_ca (a_cons (m_meth "Plan" "mode" cm_Plan_mode [] (m_v 0) (m_ca (a_cons (m_v 2) a_nil) a_nil)) a_nil) a_nil)) (List.map (·.2) ([("name", 2)] : List (Str × Nat)))) a_nil))))
  (s_ret (m_m1 x_join (m_c (.str "")) (m_lc (i_q (m_v 1)) (g_n 3) t_yes (m_bin f_add (m_v 3) (m_c (.str "\n"))) (List.map (·.2) ([("line", 3)] : List (Str × Nat)))))))
def cm_plan_text : CM := cmP [] (m_fn 1 4 b_plan_text)
/-! _law_mode_line -/
theorem sc__law_mode_line : FnScope [("_law_row" : Str), ("_law_number" : Str)] [("_law_row" : Str)] (defScope s__law_mode_line) := ⟨rfl, rfl, rfl, by decide +kernel, rfl, by decide +kernel, by decide +kernel⟩
def b__law_mode_line : FS := (s_ret (m_m1 x_join (m_c (.str " ")) (m_bin f_add (m_bin f_add (m_bin f_add (m_fl (a_cons (m_c (.str "mode")) (a_cons (m_bin f_ix (m_v 0) (m_c (.int 0))) a_nil))) (m_lc (i_q (m_sl (m_v 0) (o_some (m_c (.int 1))) (o_some (m_c (.int 5))))) (g_n 1) t_yes (m_b c_str (a_cons (m_v 1) a_nil)) (List.map (·.2) ([("_law_number", 1)] : List (Str × Nat))))) (m_fl (a_cons (m_c (.str ":")) a_nil))) (m_bin f_ix (m_v 0) (m_c (.int 5))))))
def cm__law_mode_line : CM := cmP [] (m_fn 1 2 b__law_mode_line)
/-! _law_plan_text -/
theorem sc__law_plan_text : FnScope [("_law_shape" : Str), ("_law_lines" : Str), ("_law_row" : Str), ("_law_line" : Str)] [("_law_shape" : Str)] (defScope s__law_plan_text) := ⟨rfl, rfl, rfl, by decide +kernel, rfl, by decide +kernel, by decide +kernel⟩
def b__law_plan_text : FS := (s_seq (s_set 1 (m_bin f_add (m_fl (a_cons (m_bin f_add (m_bin f_add (m_bin f_add (m_c (.str "store ")) (m_b c_str (a_cons (m_bin f_ix (m_v 0) (m_c (.int 0))) a_nil))) (m_c (.str " "))) (m_b c_str (a_cons (m_bin f_ix (m_v 0) (m_c (.int 1))) a_nil))) a_nil)) (m_lc (i_q (m_bin f_ix (m_v 0) (m_c (.int 2)))) (g_n 2) t_yes (m_call cm__law_mode_line [] (m_ca (a_cons (m_v 2) a_nil) a_nil)) (List.map (·.2) ([("_law_row", 2)] : List (Str × Nat))))))
  (s_ret (m_m1 x_join (m_c (.str "")) (m_lc (i_q (m_v 1)) (g_n 3) t_yes (m_bin f_add (m_v 3) (m_c (.str "\n"))) (List.map (·.2) ([("_law_line", 3)] : List (Str × Nat)))))))
def cm__law_plan_text : CM := cmP [] (m_fn 1 4 b__law_plan_text)
/-! lines_of -/
theorem sc_lines_of : FnScope [("text" : Str), ("rows" : Str), ("tail" : Str)] [("text" : Str)] (defScope s_lines_of) := ⟨rfl, rfl, rfl, by decide +kernel, rfl, by decide +kernel, by decide +kernel⟩
def b_lines_of : FS := (s_seq (s_if (t_not (m_t (m_isT .str (m_v 0)))) s_never s_nil)
  (s_seq (s_star 1 2 (m_m1 x_split (m_v 0) (m_c (.str "\n"))))
  (s_ret (m_tup (a_cons (m_v 1) (a_cons (m_v 2) a_nil))))))
def cm_lines_of : CM := cmP [] (m_fn 1 3 b_lines_of)
/-! read_number -/
theorem sc_read_number : FnScope [("word" : Str), ("digits" : Str), ("sign" : Str)] [("word" : Str)] (defScope s_read_number) := ⟨rfl, rfl, rfl, by decide +kernel, rfl, by decide +kernel, by decide +kernel⟩
def b_read_number : FS := (s_seq (s_set 1 (m_if (m_t (m_m1 x_starts (m_v 0) (m_c (.str "-")))) (m_sl (m_v 0) (o_some (m_c (.int 1))) o_none) (m_v 0)))
  (s_seq (s_if (t_or (t_not (m_t (m_chain f_le f_le (m_c (.int 1)) (m_b c_len (a_cons (m_v 1) a_nil)) (m_c (.int 30))))) (t_not (m_t (m_b c_all (a_cons (m_lc (i_s (m_v 1)) (g_n 2) t_yes (m_bin f_inS (m_v 2) (m_c (.str "0123456789"))) (List.map (·.2) ([("sign", 2)] : List (Str × Nat)))) a_nil))))) (s_ret (m_c .non)) s_nil)
  (s_seq (s_if (t_and (m_t (m_m1 x_starts (m_v 1) (m_c (.str "0")))) (m_t (m_bin f_ne (m_v 0) (m_c (.str "0"))))) (s_ret (m_c .non)) s_nil)
  (s_ret (m_b c_intS (a_cons (m_v 0) a_nil))))))
def cm_read_number : CM := cmP [] (m_fn 1 3 b_read_number)
/-! read_numbers -/
theorem sc_read_numbers : FnScope [("words" : Str), ("found" : Str), ("word" : Str)] [("words" : Str)] (defScope s_read_numbers) := ⟨rfl, rfl, rfl, by decide +kernel, rfl, by decide +kernel, by decide +kernel⟩
def b_read_numbers : FS := (s_seq (s_set 1 (m_lc (i_q (m_v 0)) (g_n 2) t_yes (m_call cm_read_number [] (m_ca (a_cons (m_v 2) a_nil) a_nil)) (List.map (·.2) ([("word", 2)] : List (Str × Nat)))))
  (s_ret (m_if (m_t (m_bin f_inL (m_c .non) (m_v 1))) (m_c .non) (m_v 1))))
def cm_read_numbers : CM := cmP [] (m_fn 1 3 b_read_numbers)
/-! Mode.idle -/
theorem sc_Mode_idle : FnScope [("name" : Str), ("followers" : Str)] [("name" : Str), ("followers" : Str)] (defScope s_Mode_idle) := ⟨rfl, rfl, rfl, by decide +kernel, rfl, by decide +kernel, by decide +kernel⟩
def b_Mode_idle : FS := (s_ret (m_mkP "Mode" cm_Mode___init__ [] (m_ca (a_cons (m_v 0) (a_cons (m_c (.int 0)) (a_cons (m_c (.int 0)) (a_star (m_v 1) a_nil)))) a_nil)))
def cm_Mode_idle : CM := (m_star 1 [] [] [] 2 b_Mode_idle)
/-! store_in -/
theorem sc_store_in : FnScope [("line" : Str), ("words" : Str), ("numbers" : Str), ("size" : Str), ("start" : Str)] [("line" : Str)] (defScope s_store_in) := ⟨rfl, rfl, rfl, by decide +kernel, rfl, by decide +kernel, by decide +kernel⟩
def b_store_in : FS := (s_seq (s_set 1 (m_m1 x_split (m_v 0) (m_c (.str " "))))
  (s_seq (s_set 2 (m_call cm_read_numbers [] (m_ca (a_cons (m_sl (m_v 1) (o_some (m_c (.int 1))) o_none) a_nil) a_nil)))
  (s_seq (s_if (t_or (m_t (m_bin f_ne (m_bin f_ix (m_v 1) (m_c (.int 0))) (m_c (.str "store")))) (t_or (m_t (m_bin g_is (m_v 2) (m_c .non))) (m_t (m_bin f_ne (m_b c_len (a_cons (m_v 2) a_nil)) (m_c (.int 2)))))) (s_ret (m_c .non)) s_nil)
  (s_seq (s_asg (m_v 2) (g_q 2 (gs_cons (g_n 3) (gs_cons (g_n 4) gs_nil))))
  (s_seq (s_ex (m_mkP "Plan" cm_Plan___init__ ["start"] (m_ca (a_cons (m_v 3) (a_cons (m_call cm_Mode_idle [] (m_ca (a_cons (m_c (.str "a")) a_nil) a_nil)) a_nil)) (a_cons (m_v 4) a_nil))))
  (s_ret (m_tup (a_cons (m_v 3) (a_cons (m_v 4) a_nil)))))))))
def cm_store_in : CM := cmP [] (m_fn 1 5 b_store_in)
/-! mode_in -/
theorem sc_mode_in : FnScope [("line" : Str), ("words" : Str), ("numbers" : Str), ("name" : Str), ("followers" : Str), ("low" : Str), ("high" : Str), ("under" : Str), ("over" : Str)] [("line" : Str)] (defScope s_mode_in) := ⟨rfl, rfl, rfl, by decide +kernel, rfl, by decide +kernel, by decide +kernel⟩
def b_mode_in : FS := (s_seq (s_set 1 (m_m1 x_split (m_v 0) (m_c (.str " "))))
  (s_seq (s_if (t_or (m_t (m_bin f_lt (m_b c_len (a_cons (m_v 1) a_nil)) (m_c (.int 8)))) (t_or (m_t (m_bin f_ne (m_bin f_ix (m_v 1) (m_c (.int 0))) (m_c (.str "mode")))) (m_t (m_bin f_ne (m_bin f_ix (m_v 1) (m_c (.int 6))) (m_c (.str ":")))))) (s_ret (m_c .non)) s_nil)
  (s_seq (s_set 2 (m_call cm_read_numbers [] (m_ca (a_cons (m_sl (m_v 1) (o_some (m_c (.int 2))) (o_some (m_c (.int 6)))) a_nil) a_nil)))
  (s_seq (s_if (m_t (m_bin g_is (m_v 2) (m_c .non))) (s_ret (m_c .non)) s_nil)
  (s_seq (s_par 3 4 (a_cons (m_bin f_ix (m_v 1) (m_c (.int 1))) (a_cons (m_sl (m_v 1) (o_some (m_c (.int 7))) o_none) a_nil)))
  (s_seq (s_asg (m_v 2) (g_q 4 (gs_cons (g_n 5) (gs_cons (g_n 6) (gs_cons (g_n 7) (gs_cons (g_n 8) gs_nil))))))
  (s_ret (m_mkP "Mode" cm_Mode___init__ ["under", "over"] (m_ca (a_cons (m_v 3) (a_cons (m_v 5) (a_cons (m_v 6) (a_star (m_v 4) a_nil)))) (a_cons (m_v 7) (a_cons (m_v 8) a_nil)))))))))))
def cm_mode_in : CM := cmP [] (m_fn 1 9 b_mode_in)
/-! read_plan -/
theorem sc_read_plan : FnScope [("text" : Str), ("rows" : Str), ("tail" : Str), ("first" : Str), ("modes" : Str), ("at" : Str), ("line" : Str), ("mode" : Str), ("size" : Str), ("start" : Str), ("own" : Str)] [("text" : Str)] (defScope s_read_plan) := ⟨rfl, rfl, rfl, by decide +kernel, rfl, by decide +kernel, by decide +kernel⟩
def b_read_plan : FS := (s_seq (s_asg (m_call cm_lines_of [] (m_ca (a_cons (m_v 0) a_nil) a_nil)) (g_q 2 (gs_cons (g_n 1) (gs_cons (g_n 2) gs_nil))))
  (s_seq (s_par 3 4 (a_cons (m_c .non) (a_cons (m_tl a_nil) a_nil)))
  (s_seq (s_for (i_alt (i_e (a_cons (m_v 1) a_nil)) (i_eT (a_cons (m_v 1) a_nil))) (g_q 2 (gs_cons (g_n 5) (gs_cons (g_n 6) gs_nil))) (s_seq (s_if (m_t (m_bin f_eq (m_v 5) (m_c (.int 0)))) (s_seq (s_set 3 (m_call cm_store_in [] (m_ca (a_cons (m_v 6) a_nil) a_nil)))
  (s_seq (s_if (m_t (m_bin g_is (m_v 3) (m_c .non))) s_never s_nil)
  s_cont)) s_nil)
  (s_seq (s_set 7 (m_call cm_mode_in [] (m_ca (a_cons (m_v 6) a_nil) a_nil)))
  (s_seq (s_if (t_or (m_t (m_bin g_is (m_v 7) (m_c .non))) (t_or (m_t (m_bin f_inL (m_attr ["Mode"] "name" (m_v 7)) (m_lcT 1000 (m_v 4) (g_n 10) t_yes (m_attr ["Mode"] "name" (m_v 10)) (List.map (·.2) ([("own", 10)] : List (Str × Nat)))))) (m_t (m_bin f_ge (m_b c_len (a_cons (m_v 4) a_nil)) (m_c (.int 6)))))) s_never s_nil)
  (s_ex (m_lm x_append (m_v 4) (a_cons (m_v 7) a_nil)))))))
  (s_seq (s_if (t_or (m_t (m_bin f_ne (m_v 2) (m_c (.str "")))) (m_t (m_bin f_eqLen (m_v 4) (m_fl a_nil)))) s_never s_nil)
  (s_seq (s_asg (m_v 3) (g_q 2 (gs_cons (g_n 8) (gs_cons (g_n 9) gs_nil))))
  (s_ret (m_mkP "Plan" cm_Plan___init__ ["start"] (m_ca (a_cons (m_v 8) (a_star (m_v 4) a_nil)) (a_cons (m_v 9) a_nil)))))))))
def cm_read_plan : CM := cmP [] (m_fn 1 11 b_read_plan)
/-! Mode.parts -/
theorem sc_Mode_parts : FnScope [("self" : Str)] [("self" : Str)] (defScope s_Mode_parts) := ⟨rfl, rfl, rfl, by decide +kernel, rfl, by decide +kernel, by decide +kernel⟩
def b_Mode_parts : FS := (s_ret (m_tup (a_cons (m_attr ["Mode"] "name" (m_v 0)) (a_cons (m_attr ["Mode"] "low" (m_v 0)) (a_cons (m_attr ["Mode"] "high" (m_v 0)) (a_cons (m_attr ["Mode"] "under" (m_v 0)) (a_cons (m_attr ["Mode"] "over" (m_v 0)) (a_cons (m_attr ["Mode"] "next_names" (m_v 0)) a_nil))))))))
def cm_Mode_parts : CM := cmP [] (m_fn 1 1 b_Mode_parts)
/-! Mode.__eq__ -/
theorem sc_Mode___eq__ : FnScope [("self" : Str), ("other" : Str)] [("self" : Str), ("other" : Str)] (defScope s_Mode___eq__) := ⟨rfl, rfl, rfl, by decide +kernel, rfl, by decide +kernel, by decide +kernel⟩
def b_Mode___eq__ : FS := (s_ret (m_and (m_isC "Mode" [] (m_v 1)) (m_bin f_eq (m_meth "Mode" "parts" cm_Mode_parts [] (m_v 0) (m_ca a_nil a_nil)) (m_meth "Mode" "parts" cm_Mode_parts [] (m_v 1) (m_ca a_nil a_nil)))))
def cm_Mode___eq__ : CM := cmP [] (m_fn 2 2 b_Mode___eq__)
/-! Plan.__eq__ -/
theorem sc_Plan___eq__ : FnScope [("self" : Str), ("other" : Str), ("name" : Str)] [("self" : Str), ("other" : Str)] (defScope s_Plan___eq__) := ⟨rfl, rfl, rfl, by decide +kernel, rfl, by decide +kernel, by decide +kernel⟩
def b_Plan___eq__ : FS := (s_seq (s_if (t_or (t_not (m_t (m_isC "Plan" [] (m_v 1)))) (m_t (m_bin f_ne (m_meth "Plan" "names" cm_Plan_names [] (m_v 0) (m_ca a_nil a_nil)) (m_meth "Plan" "names" cm_Plan_names [] (m_v 1) (m_ca a_nil a_nil))))) (s_ret (m_c (.bl false))) s_nil)
  (s_seq (s_if (t_or (m_t (m_bin f_ne (m_attr ["Plan"] "size" (m_v 0)) (m_attr ["Plan"] "size" (m_v 1)))) (m_t (m_bin f_ne (m_attr ["Plan"] "start" (m_v 0)) (m_attr ["Plan"] "start" (m_v 1))))) (s_ret (m_c (.bl false))) s_nil)
  (s_ret (m_b c_all (a_cons (m_lc (i_kf ["Plan"] "table" 0) (g_n 2) t_yes (m_bin (f_own2 "Mode" cm_Mode___eq__ id) (m_bin f_dget (m_attr ["Plan"] "table" (m_v 0)) (m_v 2)) (m_bin f_dget (m_attr ["Plan"] "table" (m_v 1)) (m_v 2))) (List.map (·.2) ([("name", 2)] : List (Str × Nat)))) a_nil)))))
def cm_Plan___eq__ : CM := cmP [] (m_fn 2 3 b_Plan___eq__)
/-! _law_fixes_drawn -/
theorem sc__law_fixes_drawn : FnScope [("_law_bag" : Str), ("_law_shape" : Str), ("_law_far" : Str), ("_law_found" : Str), ("_law_mode" : Str), ("_law_row" : Str)] [("_law_bag" : Str), ("_law_shape" : Str), ("_law_far" : Str)] (defScope s__law_fixes_drawn) := ⟨rfl, rfl, rfl, by decide +kernel, rfl, by decide +kernel, by decide +kernel⟩
def b__law_fixes_drawn : FS := (s_seq (s_set 3 (m_lcL (i_q (m_fl (a_cons (m_tup (a_cons (m_c (.str "full")) a_nil)) (a_cons (m_tup (a_cons (m_c (.str "empty")) a_nil)) a_nil)))) (g_n 5) (m_t (m_bin f_eq (m_call cm__law_pull [] (m_ca (a_cons (m_v 0) (a_cons (m_c (.int 3)) a_nil)) a_nil)) (m_c (.int 0)))) (m_v 5) (List.map (·.2) ([("_law_row", 5)] : List (Str × Nat)))))
  (s_seq (s_for (i_q (m_bin f_ix (m_v 1) (m_c (.int 2)))) (g_n 4) (s_if (m_t (m_bin f_gt (m_call cm__law_pull [] (m_ca (a_cons (m_v 0) (a_cons (m_c (.int 3)) a_nil)) a_nil)) (m_c (.int 0)))) (s_ex (m_lm x_append (m_v 3) (a_cons (m_tup (a_cons (m_call cm__law_pick [] (m_ca (a_cons (m_v 0) (a_cons (m_fl (a_cons (m_c (.str "set")) (a_cons (m_c (.str "narrow")) a_nil))) a_nil)) a_nil)) (a_cons (m_bin f_ix (m_v 4) (m_c (.int 0))) (a_cons (m_call cm__law_pick [] (m_ca (a_cons (m_v 0) (a_cons (m_fl (a_cons (m_c (.int 1)) (a_cons (m_c (.int 1)) (a_cons (m_c (.int 2)) (a_cons (m_c (.int 3)) (a_cons (m_c (.int 4)) a_nil)))))) a_nil)) a_nil)) (a_cons (m_call cm__law_pull [] (m_ca (a_cons (m_v 0) (a_cons (m_bin f_add (m_v 2) (m_c (.int 1))) a_nil)) a_nil)) a_nil))))) a_nil))) s_nil))
  (s_seq (s_fz 3) (s_ret (m_call cm__law_mixed [] (m_ca (a_cons (m_v 0) (a_cons (m_v 3) a_nil)) a_nil))))))
def cm__law_fixes_drawn : CM := cmP [] (m_fn 3 6 b__law_fixes_drawn)
/-! is_correction -/
theorem sc_is_correction : FnScope [("value" : Str)] [("value" : Str)] (defScope s_is_correction) := ⟨rfl, rfl, rfl, by decide +kernel, rfl, by decide +kernel, by decide +kernel⟩
def b_is_correction : FS := (s_seq (s_if (t_or (t_not (m_t (m_isT .tup (m_v 0)))) (t_or (m_t (m_bin f_eq (m_b c_len (a_cons (m_v 0) a_nil)) (m_c (.int 0)))) (t_not (m_t (m_isT .str (m_bin f_ix (m_v 0) (m_c (.int 0)))))))) (s_ret (m_c (.bl false))) s_nil)
  (s_seq (s_if (m_t (m_bin f_inT (m_bin f_ix (m_v 0) (m_c (.int 0))) (m_c (.kt (List.map D.str [("full" : Str), ("empty" : Str)]))))) (s_ret (m_bin f_eq (m_b c_len (a_cons (m_v 0) a_nil)) (m_c (.int 1)))) s_nil)
  (s_seq (s_if (t_or (m_t (m_bin f_ninT (m_bin f_ix (m_v 0) (m_c (.int 0))) (m_c (.kt (List.map D.str [("set" : Str), ("narrow" : Str)]))))) (m_t (m_bin f_ne (m_b c_len (a_cons (m_v 0) a_nil)) (m_c (.int 4))))) (s_ret (m_c (.bl false))) s_nil)
  (s_ret (m_and (m_call cm_is_name [] (m_ca (a_cons (m_bin f_ix (m_v 0) (m_c (.int 1))) a_nil) a_nil)) (m_and (m_call cm_is_number [] (m_ca (a_cons (m_bin f_ix (m_v 0) (m_c (.int 2))) (a_cons (m_c (.int 1)) (a_cons (m_c (.int 4)) a_nil))) a_nil)) (m_call cm_is_number [] (m_ca (a_cons (m_bin f_ix (m_v 0) (m_c (.int 3))) (a_cons (m_c (.int 0)) (a_cons (m_c (.int 9)) a_nil))) a_nil))))))))
def cm_is_correction : CM := cmP [] (m_fn 1 1 b_is_correction)
/-! key_of -/
theorem sc_key_of : FnScope [("correction" : Str)] [("correction" : Str)] (defScope s_key_of) := ⟨rfl, rfl, rfl, by decide +kernel, rfl, by decide +kernel, by decide +kernel⟩
def b_key_of : FS := (s_ret (m_if (m_t (m_bin f_eq (m_b c_len (a_cons (m_v 0) a_nil)) (m_c (.int 1)))) (m_sl (m_v 0) o_none (o_some (m_c (.int 1)))) (m_tup (a_cons (m_c (.str "rest")) (a_cons (m_bin f_ix (m_v 0) (m_c (.int 1))) a_nil)))))
def cm_key_of : CM := cmP [] (m_fn 1 1 b_key_of)
/-! Gauge.__init__ -/
theorem sc_Gauge___init__ : FnScope [("self" : Str), ("corrections" : Str), ("at" : Str), ("value" : Str), ("elder" : Str)] [("self" : Str), ("corrections" : Str)] (defScope s_Gauge___init__) := ⟨rfl, rfl, rfl, by decide +kernel, rfl, by decide +kernel, by decide +kernel⟩
def b_Gauge___init__ : FS := (s_seq (s_for (i_alt (i_e (a_cons (m_v 1) a_nil)) (i_eT (a_cons (m_v 1) a_nil))) (g_q 2 (gs_cons (g_n 2) (gs_cons (g_n 3) gs_nil))) (s_seq (s_if (t_or (t_not (m_t (m_call cm_is_correction [] (m_ca (a_cons (m_v 3) a_nil) a_nil)))) (m_t (m_bin f_ge (m_v 2) (m_c (.int 8))))) s_never s_nil)
  (s_if (m_t (m_bin f_inL (m_call cm_key_of [] (m_ca (a_cons (m_v 3) a_nil) a_nil)) (m_lc (i_q (m_sl (m_v 1) o_none (o_some (m_v 2)))) (g_n 4) t_yes (m_call cm_key_of [] (m_ca (a_cons (m_v 4) a_nil) a_nil)) (List.map (·.2) ([("elder", 4)] : List (Str × Nat)))))) s_never s_nil)))
  (s_seq (s_fld ["Gauge"] "own_corrections" (m_v 0) (m_v 1))
  (s_seq (s_fld ["Gauge"] "marks" (m_v 0) (m_b c_sortS (a_cons (m_lc (i_q (m_v 1)) (g_n 3) (m_t (m_bin f_eq (m_b c_len (a_cons (m_v 3) a_nil)) (m_c (.int 1)))) (m_bin f_ix (m_v 3) (m_c (.int 0))) (List.map (·.2) ([("value", 3)] : List (Str × Nat)))) a_nil)))
  (s_fld ["Gauge"] "rests" (m_v 0) (m_dc (i_q (m_v 1)) (g_n 3) (m_t (m_bin f_eq (m_b c_len (a_cons (m_v 3) a_nil)) (m_c (.int 4)))) (m_bin f_ix (m_v 3) (m_c (.int 1))) (m_v 3) (List.map (·.2) ([("value", 3)] : List (Str × Nat))))))))
def cm_Gauge___init__ : CM := (m_star 1 [] [] [] 5 b_Gauge___init__)
/-! Gauge.__add__ -/
theorem sc_Gauge___add__ : FnScope [("self" : Str), ("correction" : Str), ("rows" : Str)] [("self" : Str), ("correction" : Str)] (defScope s_Gauge___add__) := ⟨rfl, rfl, rfl, by decide +kernel, rfl, by decide +kernel, by decide +kernel⟩
def b_Gauge___add__ : FS := (s_seq (s_set 2 (m_fl (a_star (m_attr ["Gauge"] "own_corrections" (m_v 0)) (a_cons (m_v 1) a_nil))))
  (s_ret (m_mkP "Gauge" cm_Gauge___init__ [] (m_ca (a_star (m_v 2) a_nil) a_nil))))
def cm_Gauge___add__ : CM := cmP [] (m_fn 2 3 b_Gauge___add__)
/-! _law_gauge_made -/
theorem sc__law_gauge_made : FnScope [("_law_fixes" : Str), ("_law_made" : Str), ("_law_row" : Str)] [("_law_fixes" : Str)] (defScope s__law_gauge_made) := ⟨rfl, rfl, rfl, by decide +kernel, rfl, by decide +kernel, by decide +kernel⟩
def b__law_gauge_made : FS := (s_seq (s_set 1 (m_mkP "Gauge" cm_Gauge___init__ [] (m_ca a_nil a_nil)))
  (s_seq (s_for (i_q (m_v 0)) (g_n 2) (s_set 1 (m_bin (f_ownAdd "Gauge" cm_Gauge___add__) (m_v 1) (m_v 2))))
  (s_ret (m_v 1))))
def cm__law_gauge_made : CM := cmP [] (m_fn 1 3 b__law_gauge_made)
/-! _law_start_place -/
theorem sc__law_start_place : FnScope [("_law_shape" : Str)] [("_law_shape" : Str)] (defScope s__law_start_place) := ⟨rfl, rfl, rfl, by decide +kernel, rfl, by decide +kernel, by decide +kernel⟩
def b__law_start_place : FS := (s_ret (m_tup (a_cons (m_bin f_ix (m_bin f_ix (m_bin f_ix (m_v 0) (m_c (.int 2))) (m_c (.int 0))) (m_c (.int 0))) (a_cons (m_c (.int 0)) (a_cons (m_bin f_ix (m_v 0) (m_c (.int 1))) a_nil)))))
def cm__law_start_place : CM := cmP [] (m_fn 1 1 b__law_start_place)
/-! _law_row_of -/
theorem sc__law_row_of : FnScope [("_law_shape" : Str), ("_law_name" : Str), ("_law_row" : Str)] [("_law_shape" : Str), ("_law_name" : Str)] (defScope s__law_row_of) := ⟨rfl, rfl, rfl, by decide +kernel, rfl, by decide +kernel, by decide +kernel⟩
def b__law_row_of : FS := (s_ret (m_bin f_ix (m_lc (i_q (m_bin f_ix (m_v 0) (m_c (.int 2)))) (g_n 2) (m_t (m_bin f_eq (m_bin f_ix (m_v 2) (m_c (.int 0))) (m_v 1))) (m_v 2) (List.map (·.2) ([("_law_row", 2)] : List (Str × Nat)))) (m_c (.int 0))))
def cm__law_row_of : CM := cmP [] (m_fn 2 3 b__law_row_of)
/-! _law_entered -/
theorem sc__law_entered : FnScope [("_law_shape" : Str), ("_law_point" : Str), ("_law_name" : Str), ("_law_flow" : Str), ("_law_run" : Str)] [("_law_shape" : Str), ("_law_point" : Str), ("_law_name" : Str), ("_law_flow" : Str)] (defScope s__law_entered) := ⟨rfl, rfl, rfl, by decide +kernel, rfl, by decide +kernel, by decide +kernel⟩
def b__law_entered : FS := (s_seq (s_set 4 (m_if (m_t (m_bin f_eq (m_v 2) (m_bin f_ix (m_v 1) (m_c (.int 0))))) (m_b c_minL (a_cons (m_fl (a_cons (m_bin f_add (m_bin f_ix (m_v 1) (m_c (.int 1))) (m_c (.int 1))) (a_cons (m_c (.int 4)) a_nil))) a_nil)) (m_c (.int 1))))
  (s_ret (m_tup (a_cons (m_v 2) (a_cons (m_v 4) (a_cons (m_b c_maxL (a_cons (m_fl (a_cons (m_c (.int 0)) (a_cons (m_b c_minL (a_cons (m_fl (a_cons (m_bin f_ix (m_v 0) (m_c (.int 0))) (a_cons (m_bin f_add (m_bin f_ix (m_v 1) (m_c (.int 2))) (m_v 3)) a_nil))) a_nil)) a_nil))) a_nil)) a_nil))))))
def cm__law_entered : CM := cmP [] (m_fn 4 5 b__law_entered)
/-! _law_ticks -/
theorem sc__law_ticks : FnScope [("_law_shape" : Str), ("_law_point" : Str), ("_law_found" : Str), ("_law_name" : Str), ("_law_row" : Str), ("_law_flow" : Str)] [("_law_shape" : Str), ("_law_point" : Str)] (defScope s__law_ticks) := ⟨rfl, rfl, rfl, by decide +kernel, rfl, by decide +kernel, by decide +kernel⟩
def b__law_ticks : FS := (s_seq (s_set 2 (m_tl a_nil))
  (s_seq (s_for (i_q (m_bin f_ix (m_call cm__law_row_of [] (m_ca (a_cons (m_v 0) (a_cons (m_bin f_ix (m_v 1) (m_c (.int 0))) a_nil)) a_nil)) (m_c (.int 5)))) (g_n 3) (s_seq (s_set 4 (m_call cm__law_row_of [] (m_ca (a_cons (m_v 0) (a_cons (m_v 3) a_nil)) a_nil)))
  (s_for (i_r2 (a_cons (m_bin f_ix (m_v 4) (m_c (.int 1))) (a_cons (m_bin f_add (m_bin f_ix (m_v 4) (m_c (.int 2))) (m_c (.int 1))) a_nil))) (g_n 5) (s_ex (m_lm x_append (m_v 2) (a_cons (m_tup (a_cons (m_v 3) (a_cons (m_v 5) (a_cons (m_call cm__law_entered [] (m_ca (a_cons (m_v 0) (a_cons (m_v 1) (a_cons (m_v 3) (a_cons (m_v 5) a_nil)))) a_nil)) a_nil)))) a_nil))))))
  (s_ret (m_frz (m_v 2)))))
def cm__law_ticks : CM := cmP [] (m_fn 2 6 b__law_ticks)
/-! _law_rest_at -/
theorem sc__law_rest_at : FnScope [("_law_fixes" : Str), ("_law_point" : Str), ("_law_row" : Str)] [("_law_fixes" : Str), ("_law_point" : Str)] (defScope s__law_rest_at) := ⟨rfl, rfl, rfl, by decide +kernel, rfl, by decide +kernel, by decide +kernel⟩
def b__law_rest_at : FS := (s_seq (s_for (i_q (m_v 0)) (g_n 2) (s_if (t_and (m_t (m_bin f_eq (m_b c_len (a_cons (m_v 2) a_nil)) (m_c (.int 4)))) (t_and (m_t (m_bin f_eq (m_bin f_ix (m_v 2) (m_c (.int 1))) (m_bin f_ix (m_v 1) (m_c (.int 0))))) (m_t (m_bin f_ge (m_bin f_ix (m_v 1) (m_c (.int 1))) (m_bin f_ix (m_v 2) (m_c (.int 2))))))) (s_ret (m_v 2)) s_nil))
  (s_ret (m_c .non)))
def cm__law_rest_at : CM := cmP [] (m_fn 2 3 b__law_rest_at)
/-! _law_tick_drawn -/
theorem sc__law_tick_drawn : FnScope [("_law_bag" : Str), ("_law_shape" : Str), ("_law_fixes" : Str), ("_law_point" : Str), ("_law_name" : Str), ("_law_flow" : Str), ("_law_late" : Str), ("_law_row" : Str), ("_law_rest" : Str), ("_law_slip" : Str)] [("_law_bag" : Str), ("_law_shape" : Str), ("_law_fixes" : Str), ("_law_point" : Str)] (defScope s__law_tick_drawn) := ⟨rfl, rfl, rfl, by decide +kernel, rfl, by decide +kernel, by decide +kernel⟩
def b__law_tick_drawn : FS := (s_seq (s_asg (m_call cm__law_pick [] (m_ca (a_cons (m_v 0) (a_cons (m_call cm__law_ticks [] (m_ca (a_cons (m_v 1) (a_cons (m_v 3) a_nil)) a_nil)) a_nil)) a_nil)) (g_q 3 (gs_cons (g_n 4) (gs_cons (g_n 5) (gs_cons (g_n 6) gs_nil)))))
  (s_seq (s_par 7 8 (a_cons (m_call cm__law_row_of [] (m_ca (a_cons (m_v 1) (a_cons (m_v 4) a_nil)) a_nil)) (a_cons (m_call cm__law_rest_at [] (m_ca (a_cons (m_v 2) (a_cons (m_v 6) a_nil)) a_nil)) a_nil)))
  (s_seq (s_set 9 (m_bin f_sub (m_call cm__law_pull [] (m_ca (a_cons (m_v 0) (a_cons (m_bin f_add (m_bin f_add (m_bin f_ix (m_v 7) (m_c (.int 3))) (m_bin f_ix (m_v 7) (m_c (.int 4)))) (m_c (.int 1))) a_nil)) a_nil)) (m_bin f_ix (m_v 7) (m_c (.int 3)))))
  (s_ret (m_tup (a_cons (m_v 4) (a_cons (m_v 5) (a_cons (m_v 9) (a_cons (m_call cm__law_close [] (m_ca (a_cons (m_v 0) (a_cons (m_if (m_t (m_bin g_is (m_v 8) (m_c .non))) (m_c (.int 0)) (m_bin f_ix (m_v 8) (m_c (.int 3)))) a_nil)) a_nil)) a_nil)))))))))
def cm__law_tick_drawn : CM := cmP [] (m_fn 4 10 b__law_tick_drawn)
/-! _law_is_number -/
theorem sc__law_is_number : FnScope [("_law_value" : Str), ("_law_low" : Str), ("_law_high" : Str)] [("_law_value" : Str), ("_law_low" : Str), ("_law_high" : Str)] (defScope s__law_is_number) := ⟨rfl, rfl, rfl, by decide +kernel, rfl, by decide +kernel, by decide +kernel⟩
def b__law_is_number : FS := (s_seq (s_if (t_not (m_t (m_isT .int (m_v 0)))) (s_ret (m_c (.bl false))) s_nil)
  (s_ret (m_and (m_not (m_isT .bl (m_v 0))) (m_chain f_le f_le (m_v 1) (m_v 0) (m_v 2)))))
def cm__law_is_number : CM := cmP [] (m_fn 3 3 b__law_is_number)
/-! _law_acts -/
theorem sc__law_acts : FnScope [("_law_shape" : Str), ("_law_fixes" : Str), ("_law_point" : Str), ("_law_rest" : Str)] [("_law_shape" : Str), ("_law_fixes" : Str), ("_law_point" : Str)] (defScope s__law_acts) := ⟨rfl, rfl, rfl, by decide +kernel, rfl, by decide +kernel, by decide +kernel⟩
def b__law_acts : FS := (s_seq (s_if (t_and (m_t (m_bin f_eq (m_bin f_ix (m_v 2) (m_c (.int 2))) (m_bin f_ix (m_v 0) (m_c (.int 0))))) (m_t (m_bin f_inL (m_tup (a_cons (m_c (.str "full")) a_nil)) (m_v 1)))) (s_ret (m_tup (a_cons (m_c (.str "exact")) a_nil))) s_nil)
  (s_seq (s_if (t_and (m_t (m_bin f_eq (m_bin f_ix (m_v 2) (m_c (.int 2))) (m_c (.int 0)))) (m_t (m_bin f_inL (m_tup (a_cons (m_c (.str "empty")) a_nil)) (m_v 1)))) (s_ret (m_tup (a_cons (m_c (.str "exact")) a_nil))) s_nil)
  (s_seq (s_set 3 (m_call cm__law_rest_at [] (m_ca (a_cons (m_v 1) (a_cons (m_v 2) a_nil)) a_nil)))
  (s_ret (m_if (m_t (m_bin g_is (m_v 3) (m_c .non))) (m_tup a_nil) (m_tup (a_cons (m_bin f_ix (m_v 3) (m_c (.int 0))) (a_cons (m_bin f_ix (m_v 3) (m_c (.int 3))) a_nil))))))))
def cm__law_acts : CM := cmP [] (m_fn 3 4 b__law_acts)
/-! _law_tried_tick -/
theorem sc__law_tried_tick : FnScope [("_law_shape" : Str), ("_law_fixes" : Str), ("_law_moment" : Str), ("_law_tick" : Str), ("_law_point" : Str), ("_law_total" : Str), ("_law_mode" : Str), ("_law_flow" : Str), ("_law_slip" : Str), ("_law_look" : Str), ("_law_row" : Str), ("_law_late" : Str), ("_law_rest" : Str), ("_law_reach" : Str)] [("_law_shape" : Str), ("_law_fixes" : Str), ("_law_moment" : Str), ("_law_tick" : Str)] (defScope s__law_tried_tick) := ⟨rfl, rfl, rfl, by decide +kernel, rfl, by decide +kernel, by decide +kernel⟩
def b__law_tried_tick : FS := (s_seq (s_asg (m_v 2) (g_q 2 (gs_cons (g_n 4) (gs_cons (g_n 5) gs_nil))))
  (s_seq (s_asg (m_v 3) (g_q 4 (gs_cons (g_n 6) (gs_cons (g_n 7) (gs_cons (g_n 8) (gs_cons (g_n 9) gs_nil))))))
  (s_seq (s_if (t_not (m_t (m_isT .str (m_v 6)))) (s_ret (m_tup (a_cons (m_c (.str "UnknownMode")) (a_cons (m_v 6) a_nil)))) s_nil)
  (s_seq (s_if (m_t (m_bin f_ninL (m_v 6) (m_lc (i_q (m_bin f_ix (m_v 0) (m_c (.int 2)))) (g_n 10) t_yes (m_bin f_ix (m_v 10) (m_c (.int 0))) (List.map (·.2) ([("_law_row", 10)] : List (Str × Nat)))))) (s_ret (m_tup (a_cons (m_c (.str "UnknownMode")) (a_cons (m_v 6) a_nil)))) s_nil)
  (s_seq (s_if (m_t (m_bin f_ninL (m_v 6) (m_bin f_ix (m_call cm__law_row_of [] (m_ca (a_cons (m_v 0) (a_cons (m_bin f_ix (m_v 4) (m_c (.int 0))) a_nil)) a_nil)) (m_c (.int 5))))) (s_ret (m_tup (a_cons (m_c (.str "NotNext")) (a_cons (m_v 6) a_nil)))) s_nil)
  (s_seq (s_set 10 (m_call cm__law_row_of [] (m_ca (a_cons (m_v 0) (a_cons (m_v 6) a_nil)) a_nil)))
  (s_seq (s_if (t_not (m_t (m_call cm__law_is_number [] (m_ca (a_cons (m_v 7) (a_cons (m_bin f_ix (m_v 10) (m_c (.int 1))) (a_cons (m_bin f_ix (m_v 10) (m_c (.int 2))) a_nil))) a_nil)))) (s_ret (m_tup (a_cons (m_c (.str "InvalidFlow")) (a_cons (m_v 7) a_nil)))) s_nil)
  (s_seq (s_if (t_not (m_t (m_call cm__law_is_number [] (m_ca (a_cons (m_v 8) (a_cons (m_bin f_sub (m_c (.int 0)) (m_bin f_ix (m_v 10) (m_c (.int 3)))) (a_cons (m_bin f_ix (m_v 10) (m_c (.int 4))) a_nil))) a_nil)))) (s_ret (m_tup (a_cons (m_c (.str "InvalidSlip")) (a_cons (m_v 8) a_nil)))) s_nil)
  (s_seq (s_set 11 (m_call cm__law_entered [] (m_ca (a_cons (m_v 0) (a_cons (m_v 4) (a_cons (m_v 6) (a_cons (m_v 7) a_nil)))) a_nil)))
  (s_seq (s_set 12 (m_call cm__law_rest_at [] (m_ca (a_cons (m_v 1) (a_cons (m_v 11) a_nil)) a_nil)))
  (s_seq (s_set 13 (m_if (m_t (m_bin g_is (m_v 12) (m_c .non))) (m_c (.int 0)) (m_bin f_ix (m_v 12) (m_c (.int 3)))))
  (s_seq (s_if (t_not (m_t (m_call cm__law_is_number [] (m_ca (a_cons (m_v 9) (a_cons (m_bin f_sub (m_c (.int 0)) (m_v 13)) (a_cons (m_v 13) a_nil))) a_nil)))) (s_ret (m_tup (a_cons (m_c (.str "InvalidLook")) (a_cons (m_v 9) a_nil)))) s_nil)
  (s_seq (s_set 5 (m_bin f_add (m_bin f_sub (m_bin f_add (m_v 5) (m_bin f_ix (m_v 11) (m_c (.int 2)))) (m_bin f_ix (m_v 4) (m_c (.int 2)))) (m_v 8)))
  (s_seq (s_if (m_t (m_bin g_isnt (m_v 12) (m_c .non))) (s_set 5 (m_if (m_t (m_bin f_eq (m_bin f_ix (m_v 12) (m_c (.int 0))) (m_c (.str "set")))) (m_bin f_add (m_bin f_ix (m_v 11) (m_c (.int 2))) (m_v 9)) (m_b c_maxL (a_cons (m_fl (a_cons (m_bin f_sub (m_bin f_add (m_bin f_ix (m_v 11) (m_c (.int 2))) (m_v 9)) (m_v 13)) (a_cons (m_b c_minL (a_cons (m_fl (a_cons (m_bin f_add (m_bin f_add (m_bin f_ix (m_v 11) (m_c (.int 2))) (m_v 9)) (m_v 13)) (a_cons (m_v 5) a_nil))) a_nil)) a_nil))) a_nil)))) s_nil)
  (s_ret (m_tup (a_cons (m_c (.str "")) (a_cons (m_tup (a_cons (m_v 11) (a_cons (m_if (m_t (m_bin f_eq (m_call cm__law_acts [] (m_ca (a_cons (m_v 0) (a_cons (m_v 1) (a_cons (m_v 11) a_nil))) a_nil)) (m_tup (a_cons (m_c (.str "exact")) a_nil)))) (m_bin f_ix (m_v 11) (m_c (.int 2))) (m_v 5)) a_nil))) a_nil))))))))))))))))))
def cm__law_tried_tick : CM := cmP [] (m_fn 4 14 b__law_tried_tick)
/-! _law_use_drawn -/
theorem sc__law_use_drawn : FnScope [("_law_bag" : Str), ("_law_shape" : Str), ("_law_fixes" : Str), ("_law_many" : Str), ("_law_moments" : Str), ("_law_found" : Str), ("_law_turn" : Str), ("_law_tick" : Str)] [("_law_bag" : Str), ("_law_shape" : Str), ("_law_fixes" : Str), ("_law_many" : Str)] (defScope s__law_use_drawn) := ⟨rfl, rfl, rfl, by decide +kernel, rfl, by decide +kernel, by decide +kernel⟩
def b__law_use_drawn : FS := (s_seq (s_par 4 5 (a_cons (m_tl (a_cons (m_tup (a_cons (m_call cm__law_start_place [] (m_ca (a_cons (m_v 1) a_nil) a_nil)) (a_cons (m_bin f_ix (m_v 1) (m_c (.int 1))) a_nil))) a_nil)) (a_cons (m_tl a_nil) a_nil)))
  (s_seq (s_for (i_r1 (a_cons (m_v 3) a_nil)) (g_n 6) (s_seq (s_set 7 (m_call cm__law_tick_drawn [] (m_ca (a_cons (m_v 0) (a_cons (m_v 1) (a_cons (m_v 2) (a_cons (m_bin f_ix (m_bin f_ix (m_v 4) (m_neg (m_c (.int 1)))) (m_c (.int 0))) a_nil)))) a_nil)))
  (s_seq (s_ex (m_lm x_append (m_v 5) (a_cons (m_v 7) a_nil)))
  (s_ex (m_lm x_append (m_v 4) (a_cons (m_bin f_ix (m_call cm__law_tried_tick [] (m_ca (a_cons (m_v 1) (a_cons (m_v 2) (a_cons (m_bin f_ix (m_v 4) (m_neg (m_c (.int 1)))) (a_cons (m_v 7) a_nil)))) a_nil)) (m_c (.int 1))) a_nil))))))
  (s_ret (m_frz (m_tup (a_cons (m_v 5) (a_cons (m_v 4) a_nil)))))))
def cm__law_use_drawn : CM := cmP [] (m_fn 4 8 b__law_use_drawn)
/-! Gauge.modes -/
theorem sc_Gauge_modes : FnScope [("self" : Str)] [("self" : Str)] (defScope s_Gauge_modes) := ⟨rfl, rfl, rfl, by decide +kernel, rfl, by decide +kernel, by decide +kernel⟩
def b_Gauge_modes : FS := (s_ret (m_b c_sortS (a_cons (m_b c_list (a_cons (m_attr ["Gauge"] "rests" (m_v 0)) a_nil)) a_nil)))
def cm_Gauge_modes : CM := cmP [] (m_fn 1 1 b_Gauge_modes)
/-! Gauge.check -/
theorem sc_Gauge_check : FnScope [("self" : Str), ("plan" : Str), ("name" : Str)] [("self" : Str), ("plan" : Str)] (defScope s_Gauge_check) := ⟨rfl, rfl, rfl, by decide +kernel, rfl, by decide +kernel, by decide +kernel⟩
def b_Gauge_check : FS := (s_for (i_q (m_meth "Gauge" "modes" cm_Gauge_modes [] (m_v 0) (m_ca a_nil a_nil))) (g_n 2) (s_ex (m_meth "Plan" "mode" cm_Plan_mode [] (m_v 1) (m_ca (a_cons (m_v 2) a_nil) a_nil))))
def cm_Gauge_check : CM := cmP [] (m_fn 2 3 b_Gauge_check)
/-! Plan.start_place -/
theorem sc_Plan_start_place : FnScope [("self" : Str)] [("self" : Str)] (defScope s_Plan_start_place) := ⟨rfl, rfl, rfl, by decide +kernel, rfl, by decide +kernel, by decide +kernel⟩
def b_Plan_start_place : FS := (s_ret (m_tup (a_cons (m_bin f_ix (m_meth "Plan" "names" cm_Plan_names [] (m_v 0) (m_ca a_nil a_nil)) (m_c (.int 0))) (a_cons (m_c (.int 0)) (a_cons (m_attr ["Plan"] "start" (m_v 0)) a_nil)))))
def cm_Plan_start_place : CM := cmP [] (m_fn 1 1 b_Plan_start_place)
/-! Store.__init__ -/
theorem sc_Store___init__ : FnScope [("self" : Str), ("plan" : Str), ("gauge" : Str)] [("self" : Str), ("plan" : Str), ("gauge" : Str)] (defScope s_Store___init__) := ⟨rfl, rfl, rfl, by decide +kernel, rfl, by decide +kernel, by decide +kernel⟩
def b_Store___init__ : FS := (s_seq (s_ex (m_meth "Gauge" "check" cm_Gauge_check [] (m_v 2) (m_ca (a_cons (m_v 1) a_nil) a_nil)))
  (s_seq (s_fld ["Store"] "own_plan" (m_v 0) (m_v 1))
  (s_seq (s_fld ["Store"] "own_gauge" (m_v 0) (m_v 2))
  (s_seq (s_fld ["Store"] "moments" (m_v 0) (m_tl (a_cons (m_tup (a_cons (m_meth "Plan" "start_place" cm_Plan_start_place [] (m_v 1) (m_ca a_nil a_nil)) (a_cons (m_attr ["Plan"] "start" (m_v 1)) a_nil))) a_nil)))
  (s_seq (s_fld ["Store"] "done" (m_v 0) (m_tl a_nil))
  (s_seq (s_fld ["Store"] "undone" (m_v 0) (m_fl a_nil))
  (s_fld ["Store"] "working" (m_v 0) (m_c (.bl false)))))))))
def cm_Store___init__ : CM := cmP [] (m_fn 3 3 b_Store___init__)
/-! is_tick -/
theorem sc_is_tick : FnScope [("value" : Str)] [("value" : Str)] (defScope s_is_tick) := ⟨rfl, rfl, rfl, by decide +kernel, rfl, by decide +kernel, by decide +kernel⟩
def b_is_tick : FS := (s_ret (m_and (m_isT .tup (m_v 0)) (m_bin f_eq (m_b c_len (a_cons (m_v 0) a_nil)) (m_c (.int 4)))))
def cm_is_tick : CM := cmP [] (m_fn 1 1 b_is_tick)
/-! Playing.__init__ -/
theorem sc_Playing___init__ : FnScope [("self" : Str), ("target" : Str)] [("self" : Str), ("target" : Str)] (defScope s_Playing___init__) := ⟨rfl, rfl, rfl, by decide +kernel, rfl, by decide +kernel, by decide +kernel⟩
def b_Playing___init__ : FS := (s_fld ["Playing"] "target" (m_v 0) (m_v 1))
def cm_Playing___init__ : CM := cmP [] (m_fn 2 2 b_Playing___init__)
/-! Plan.__contains__ -/
theorem sc_Plan___contains__ : FnScope [("self" : Str), ("name" : Str)] [("self" : Str), ("name" : Str)] (defScope s_Plan___contains__) := ⟨rfl, rfl, rfl, by decide +kernel, rfl, by decide +kernel, by decide +kernel⟩
def b_Plan___contains__ : FS := (s_ret (m_and (m_isT .str (m_v 1)) (m_bin f_inD (m_v 1) (m_attr ["Plan"] "table" (m_v 0)))))
def cm_Plan___contains__ : CM := cmP [] (m_fn 2 2 b_Plan___contains__)
/-! Plan.is_place -/
theorem sc_Plan_is_place : FnScope [("self" : Str), ("value" : Str), ("least" : Str)] [("self" : Str), ("value" : Str)] (defScope s_Plan_is_place) := ⟨rfl, rfl, rfl, by decide +kernel, rfl, by decide +kernel, by decide +kernel⟩
def b_Plan_is_place : FS := (s_seq (s_if (t_or (t_not (m_t (m_isT .tup (m_v 1)))) (t_or (m_t (m_bin f_ne (m_b c_len (a_cons (m_v 1) a_nil)) (m_c (.int 3)))) (m_t (m_bin (f_ownIn "Plan" cm_Plan___contains__ not) (m_bin f_ix (m_v 1) (m_c (.int 0))) (m_v 0))))) (s_ret (m_c (.bl false))) s_nil)
  (s_seq (s_set 2 (m_if (m_t (m_bin f_eq (m_bin f_ix (m_v 1) (m_c (.int 0))) (m_bin f_ix (m_meth "Plan" "names" cm_Plan_names [] (m_v 0) (m_ca a_nil a_nil)) (m_c (.int 0))))) (m_c (.int 0)) (m_c (.int 1))))
  (s_ret (m_and (m_call cm_is_number [] (m_ca (a_cons (m_bin f_ix (m_v 1) (m_c (.int 1))) (a_cons (m_v 2) (a_cons (m_c (.int 4)) a_nil))) a_nil)) (m_call cm_is_number [] (m_ca (a_cons (m_bin f_ix (m_v 1) (m_c (.int 2))) (a_cons (m_c (.int 0)) (a_cons (m_attr ["Plan"] "size" (m_v 0)) a_nil))) a_nil))))))
def cm_Plan_is_place : CM := cmP [] (m_fn 2 3 b_Plan_is_place)
/-! Plan.check_place -/
theorem sc_Plan_check_place : FnScope [("self" : Str), ("place" : Str)] [("self" : Str), ("place" : Str)] (defScope s_Plan_check_place) := ⟨rfl, rfl, rfl, by decide +kernel, rfl, by decide +kernel, by decide +kernel⟩
def b_Plan_check_place : FS := (s_if (t_not (m_t (m_meth "Plan" "is_place" cm_Plan_is_place [] (m_v 0) (m_ca (a_cons (m_v 1) a_nil) a_nil)))) s_never s_nil)
def cm_Plan_check_place : CM := cmP [] (m_fn 2 2 b_Plan_check_place)
/-! Mode.__contains__ -/
theorem sc_Mode___contains__ : FnScope [("self" : Str), ("flow" : Str)] [("self" : Str), ("flow" : Str)] (defScope s_Mode___contains__) := ⟨rfl, rfl, rfl, by decide +kernel, rfl, by decide +kernel, by decide +kernel⟩
def b_Mode___contains__ : FS := (s_ret (m_call cm_is_number [] (m_ca (a_cons (m_v 1) (a_cons (m_attr ["Mode"] "low" (m_v 0)) (a_cons (m_attr ["Mode"] "high" (m_v 0)) a_nil))) a_nil)))
def cm_Mode___contains__ : CM := cmP [] (m_fn 2 2 b_Mode___contains__)
/-! Plan.entered -/
theorem sc_Plan_entered : FnScope [("self" : Str), ("place" : Str), ("name" : Str), ("flow" : Str), ("run" : Str)] [("self" : Str), ("place" : Str), ("name" : Str), ("flow" : Str)] (defScope s_Plan_entered) := ⟨rfl, rfl, rfl, by decide +kernel, rfl, by decide +kernel, by decide +kernel⟩
def b_Plan_entered : FS := (s_seq (s_set 4 (m_if (m_t (m_bin f_eq (m_v 2) (m_bin f_ix (m_v 1) (m_c (.int 0))))) (m_b c_min2 (a_cons (m_bin f_add (m_bin f_ix (m_v 1) (m_c (.int 1))) (m_c (.int 1))) (a_cons (m_c (.int 4)) a_nil))) (m_c (.int 1))))
  (s_ret (m_tup (a_cons (m_v 2) (a_cons (m_v 4) (a_cons (m_b c_max2 (a_cons (m_c (.int 0)) (a_cons (m_b c_min2 (a_cons (m_attr ["Plan"] "size" (m_v 0)) (a_cons (m_bin f_add (m_bin f_ix (m_v 1) (m_c (.int 2))) (m_v 3)) a_nil))) a_nil))) a_nil))))))
def cm_Plan_entered : CM := cmP [] (m_fn 4 5 b_Plan_entered)
/-! Plan.moved -/
theorem sc_Plan_moved : FnScope [("self" : Str), ("place" : Str), ("mode" : Str), ("flow" : Str), ("own" : Str)] [("self" : Str), ("place" : Str), ("mode" : Str), ("flow" : Str)] (defScope s_Plan_moved) := ⟨rfl, rfl, rfl, by decide +kernel, rfl, by decide +kernel, by decide +kernel⟩
def b_Plan_moved : FS := (s_seq (s_ex (m_meth "Plan" "check_place" cm_Plan_check_place [] (m_v 0) (m_ca (a_cons (m_v 1) a_nil) a_nil)))
  (s_seq (s_set 4 (m_meth "Plan" "mode" cm_Plan_mode [] (m_v 0) (m_ca (a_cons (m_v 2) a_nil) a_nil)))
  (s_seq (s_if (m_t (m_bin f_ninL (m_v 2) (m_meth "Mode" "followers" cm_Mode_followers [] (m_bin f_dget (m_attr ["Plan"] "table" (m_v 0)) (m_bin f_ix (m_v 1) (m_c (.int 0)))) (m_ca a_nil a_nil)))) s_never s_nil)
  (s_seq (s_if (m_t (m_bin (f_ownIn "Mode" cm_Mode___contains__ not) (m_v 3) (m_v 4))) s_never s_nil)
  (s_ret (m_meth "Plan" "entered" cm_Plan_entered [] (m_v 0) (m_ca (a_cons (m_v 1) (a_cons (m_v 2) (a_cons (m_v 3) a_nil))) a_nil)))))))
def cm_Plan_moved : CM := cmP [] (m_fn 4 5 b_Plan_moved)
/-! Gauge.rest -/
theorem sc_Gauge_rest : FnScope [("self" : Str), ("mode" : Str), ("word" : Str), ("name" : Str), ("ticks" : Str), ("reach" : Str)] [("self" : Str), ("mode" : Str)] (defScope s_Gauge_rest) := ⟨rfl, rfl, rfl, by decide +kernel, rfl, by decide +kernel, by decide +kernel⟩
def b_Gauge_rest : FS := (s_seq (s_if (t_or (t_not (m_t (m_call cm_is_name [] (m_ca (a_cons (m_v 1) a_nil) a_nil)))) (m_t (m_bin f_ninD (m_v 1) (m_attr ["Gauge"] "rests" (m_v 0))))) (s_ret (m_c .non)) s_nil)
  (s_seq (s_asg (m_bin f_dget (m_attr ["Gauge"] "rests" (m_v 0)) (m_v 1)) (g_q 4 (gs_cons (g_n 2) (gs_cons (g_n 3) (gs_cons (g_n 4) (gs_cons (g_n 5) gs_nil))))))
  (s_ret (m_tup (a_cons (m_v 2) (a_cons (m_v 4) (a_cons (m_v 5) a_nil)))))))
def cm_Gauge_rest : CM := cmP [] (m_fn 2 6 b_Gauge_rest)
/-! Gauge.rest_at -/
theorem sc_Gauge_rest_at : FnScope [("self" : Str), ("place" : Str), ("found" : Str)] [("self" : Str), ("place" : Str)] (defScope s_Gauge_rest_at) := ⟨rfl, rfl, rfl, by decide +kernel, rfl, by decide +kernel, by decide +kernel⟩
def b_Gauge_rest_at : FS := (s_seq (s_set 2 (m_meth "Gauge" "rest" cm_Gauge_rest [] (m_v 0) (m_ca (a_cons (m_bin f_ix (m_v 1) (m_c (.int 0))) a_nil) a_nil)))
  (s_ret (m_if (t_and (m_t (m_bin g_isnt (m_v 2) (m_c .non))) (m_t (m_bin f_ge (m_bin f_ix (m_v 1) (m_c (.int 1))) (m_bin f_ix (m_v 2) (m_c (.int 1)))))) (m_v 2) (m_c .non))))
def cm_Gauge_rest_at : CM := cmP [] (m_fn 2 3 b_Gauge_rest_at)
/-! corrected -/
theorem sc_corrected : FnScope [("word" : Str), ("reach" : Str), ("total" : Str), ("reading" : Str)] [("word" : Str), ("reach" : Str), ("total" : Str), ("reading" : Str)] (defScope s_corrected) := ⟨rfl, rfl, rfl, by decide +kernel, rfl, by decide +kernel, by decide +kernel⟩
def b_corrected : FS := (s_seq (s_if (m_t (m_bin f_eq (m_v 0) (m_c (.str "set")))) (s_ret (m_v 3)) s_nil)
  (s_ret (m_b c_max2 (a_cons (m_bin f_sub (m_v 3) (m_v 1)) (a_cons (m_b c_min2 (a_cons (m_bin f_add (m_v 3) (m_v 1)) (a_cons (m_v 2) a_nil))) a_nil)))))
def cm_corrected : CM := cmP [] (m_fn 4 4 b_corrected)
/-! Gauge.has -/
theorem sc_Gauge_has : FnScope [("self" : Str), ("word" : Str)] [("self" : Str), ("word" : Str)] (defScope s_Gauge_has) := ⟨rfl, rfl, rfl, by decide +kernel, rfl, by decide +kernel, by decide +kernel⟩
def b_Gauge_has : FS := (s_ret (m_and (m_isT .str (m_v 1)) (m_bin f_inL (m_v 1) (m_attr ["Gauge"] "marks" (m_v 0)))))
def cm_Gauge_has : CM := cmP [] (m_fn 2 2 b_Gauge_has)
/-! Gauge.acting -/
theorem sc_Gauge_acting : FnScope [("self" : Str), ("plan" : Str), ("place" : Str), ("found" : Str)] [("self" : Str), ("plan" : Str), ("place" : Str)] (defScope s_Gauge_acting) := ⟨rfl, rfl, rfl, by decide +kernel, rfl, by decide +kernel, by decide +kernel⟩
def b_Gauge_acting : FS := (s_seq (s_ex (m_meth "Plan" "check_place" cm_Plan_check_place [] (m_v 1) (m_ca (a_cons (m_v 2) a_nil) a_nil)))
  (s_seq (s_if (t_or (t_and (m_t (m_bin f_eq (m_bin f_ix (m_v 2) (m_c (.int 2))) (m_attr ["Plan"] "size" (m_v 1)))) (m_t (m_meth "Gauge" "has" cm_Gauge_has [] (m_v 0) (m_ca (a_cons (m_c (.str "full")) a_nil) a_nil)))) (t_and (m_t (m_bin f_eq (m_bin f_ix (m_v 2) (m_c (.int 2))) (m_c (.int 0)))) (m_t (m_meth "Gauge" "has" cm_Gauge_has [] (m_v 0) (m_ca (a_cons (m_c (.str "empty")) a_nil) a_nil))))) (s_ret (m_tup (a_cons (m_c (.str "exact")) a_nil))) s_nil)
  (s_seq (s_set 3 (m_meth "Gauge" "rest_at" cm_Gauge_rest_at [] (m_v 0) (m_ca (a_cons (m_v 2) a_nil) a_nil)))
  (s_ret (m_if (m_t (m_bin g_is (m_v 3) (m_c .non))) (m_tup a_nil) (m_tup (a_cons (m_bin f_ix (m_v 3) (m_c (.int 0))) (a_cons (m_bin f_ix (m_v 3) (m_c (.int 2))) a_nil))))))))
def cm_Gauge_acting : CM := cmP [] (m_fn 3 4 b_Gauge_acting)
/-! Store.after -/
theorem sc_Store_after : FnScope [("self" : Str), ("moment" : Str), ("tick" : Str), ("place" : Str), ("total" : Str), ("mode" : Str), ("flow" : Str), ("slip" : Str), ("look" : Str), ("late" : Str), ("own" : Str), ("rest" : Str), ("reach" : Str)] [("self" : Str), ("moment" : Str), ("tick" : Str)] (defScope s_Store_after) := ⟨rfl, rfl, rfl, by decide +kernel, rfl, by decide +kernel, by decide +kernel⟩
def b_Store_after : FS := (s_seq (s_asg (m_v 1) (g_q 2 (gs_cons (g_n 3) (gs_cons (g_n 4) gs_nil))))
  (s_seq (s_asg (m_v 2) (g_q 4 (gs_cons (g_n 5) (gs_cons (g_n 6) (gs_cons (g_n 7) (gs_cons (g_n 8) gs_nil))))))
  (s_seq (s_set 9 (m_meth "Plan" "moved" cm_Plan_moved [] (m_attr ["Store"] "own_plan" (m_v 0)) (m_ca (a_cons (m_v 3) (a_cons (m_v 5) (a_cons (m_v 6) a_nil))) a_nil)))
  (s_seq (s_set 10 (m_meth "Plan" "mode" cm_Plan_mode [] (m_attr ["Store"] "own_plan" (m_v 0)) (m_ca (a_cons (m_v 5) a_nil) a_nil)))
  (s_seq (s_if (t_not (m_t (m_call cm_is_number [] (m_ca (a_cons (m_v 7) (a_cons (m_neg (m_attr ["Mode"] "under" (m_v 10))) (a_cons (m_attr ["Mode"] "over" (m_v 10)) a_nil))) a_nil)))) s_never s_nil)
  (s_seq (s_set 11 (m_meth "Gauge" "rest_at" cm_Gauge_rest_at [] (m_attr ["Store"] "own_gauge" (m_v 0)) (m_ca (a_cons (m_v 9) a_nil) a_nil)))
  (s_seq (s_set 12 (m_if (m_t (m_bin g_is (m_v 11) (m_c .non))) (m_c (.int 0)) (m_bin f_ix (m_v 11) (m_c (.int 2)))))
  (s_seq (s_if (t_not (m_t (m_call cm_is_number [] (m_ca (a_cons (m_v 8) (a_cons (m_neg (m_v 12)) (a_cons (m_v 12) a_nil))) a_nil)))) s_never s_nil)
  (s_seq (s_aug (fun i j => i + j) 4 (m_bin f_add (m_bin f_sub (m_bin f_ix (m_v 9) (m_c (.int 2))) (m_bin f_ix (m_v 3) (m_c (.int 2)))) (m_v 7)))
  (s_seq (s_if (m_t (m_bin g_isnt (m_v 11) (m_c .non))) (s_set 4 (m_call cm_corrected [] (m_ca (a_cons (m_bin f_ix (m_v 11) (m_c (.int 0))) (a_cons (m_v 12) (a_cons (m_v 4) (a_cons (m_bin f_add (m_bin f_ix (m_v 9) (m_c (.int 2))) (m_v 8)) a_nil)))) a_nil))) s_nil)
  (s_seq (s_if (m_t (m_bin f_eq (m_meth "Gauge" "acting" cm_Gauge_acting [] (m_attr ["Store"] "own_gauge" (m_v 0)) (m_ca (a_cons (m_attr ["Store"] "own_plan" (m_v 0)) (a_cons (m_v 9) a_nil)) a_nil)) (m_tup (a_cons (m_c (.str "exact")) a_nil)))) (s_set 4 (m_bin f_ix (m_v 9) (m_c (.int 2)))) s_nil)
  (s_ret (m_tup (a_cons (m_v 9) (a_cons (m_v 4) a_nil)))))))))))))))
def cm_Store_after : CM := cmP [] (m_fn 3 13 b_Store_after)
/-! Playing.__enter__ -/
theorem sc_Playing___enter__ : FnScope [("self" : Str)] [("self" : Str)] (defScope s_Playing___enter__) := ⟨rfl, rfl, rfl, by decide +kernel, rfl, by decide +kernel, by decide +kernel⟩
def b_Playing___enter__ : FS := (s_seq (s_fld ["Store"] "working" (m_attr ["Playing"] "target" (m_v 0)) (m_c (.bl true)))
  (s_ret (m_v 0)))
def cm_Playing___enter__ : CM := cmP [] (m_fn 1 1 b_Playing___enter__)
/-! Playing.__exit__ -/
theorem sc_Playing___exit__ : FnScope [("self" : Str), ("kind" : Str), ("value" : Str), ("trace" : Str)] [("self" : Str), ("kind" : Str), ("value" : Str), ("trace" : Str)] (defScope s_Playing___exit__) := ⟨rfl, rfl, rfl, by decide +kernel, rfl, by decide +kernel, by decide +kernel⟩
def b_Playing___exit__ : FS := (s_fld ["Store"] "working" (m_attr ["Playing"] "target" (m_v 0)) (m_c (.bl false)))
def cm_Playing___exit__ : CM := cmP [] (m_fn 4 4 b_Playing___exit__)
/-! Store.play -/
theorem sc_Store_play : FnScope [("self" : Str), ("ticks" : Str), ("at" : Str), ("value" : Str), ("late" : Str)] [("self" : Str), ("ticks" : Str)] (defScope s_Store_play) := ⟨rfl, rfl, rfl, by decide +kernel, rfl, by decide +kernel, by decide +kernel⟩
def b_Store_play : FS := (s_seq (s_for (i_alt (i_e (a_cons (m_v 1) a_nil)) (i_eT (a_cons (m_v 1) a_nil))) (g_q 2 (gs_cons (g_n 2) (gs_cons (g_n 3) gs_nil))) (s_if (t_not (m_t (m_call cm_is_tick [] (m_ca (a_cons (m_v 3) a_nil) a_nil)))) s_never s_nil))
  (s_seq (s_set 4 (m_tl (a_cons (m_bin f_ix (m_attr ["Store"] "moments" (m_v 0)) (m_neg (m_c (.int 1)))) a_nil)))
  (s_seq (s_with "Playing" cm_Playing___enter__ cm_Playing___exit__ (m_mkT "Playing" cm_Playing___init__ [] (m_ca (a_cons (m_v 0) a_nil) a_nil)) (s_for (i_q (m_v 1)) (g_n 3) (s_ex (m_lm x_append (m_v 4) (a_cons (m_meth "Store" "after" cm_Store_after [] (m_v 0) (m_ca (a_cons (m_bin f_ix (m_v 4) (m_neg (m_c (.int 1)))) (a_cons (m_v 3) a_nil)) a_nil)) a_nil)))))
  (s_if (m_t (m_bin f_ne (m_v 1) (m_tup a_nil))) (s_seq (s_ex (m_lm x_extend (m_attr ["Store"] "moments" (m_v 0)) (a_cons (m_sl (m_v 4) (o_some (m_c (.int 1))) o_none) a_nil)))
  (s_seq (s_ex (m_lm x_extend (m_attr ["Store"] "done" (m_v 0)) (a_cons (m_v 1) a_nil)))
  (s_fld ["Store"] "undone" (m_v 0) (m_fl a_nil)))) s_nil))))
def cm_Store_play : CM := (m_star 1 [] [] [] 5 b_Store_play)
/-! Store.pairs -/
theorem sc_Store_pairs : FnScope [("self" : Str), ("place" : Str), ("total" : Str)] [("self" : Str)] (defScope s_Store_pairs) := ⟨rfl, rfl, rfl, by decide +kernel, rfl, by decide +kernel, by decide +kernel⟩
def b_Store_pairs : FS := (s_ret (m_lc (i_q (m_frz (m_attr ["Store"] "moments" (m_v 0)))) (g_q 2 (gs_cons (g_n 1) (gs_cons (g_n 2) gs_nil))) t_yes (m_tup (a_cons (m_bin f_ix (m_v 1) (m_c (.int 2))) (a_cons (m_v 2) a_nil))) (List.map (·.2) ([("place", 1), ("total", 2)] : List (Str × Nat)))))
def cm_Store_pairs : CM := cmP [] (m_fn 1 3 b_Store_pairs)
/-! played -/
theorem sc_played : FnScope [("plan" : Str), ("gauge" : Str), ("use" : Str), ("store" : Str)] [("plan" : Str), ("gauge" : Str), ("use" : Str)] (defScope s_played) := ⟨rfl, rfl, rfl, by decide +kernel, rfl, by decide +kernel, by decide +kernel⟩
def b_played : FS := (s_seq (s_set 3 (m_mkT "Store" cm_Store___init__ [] (m_ca (a_cons (m_v 0) (a_cons (m_v 1) a_nil)) a_nil)))
  (s_seq (s_ex (m_meth "Store" "play" cm_Store_play [] (m_v 3) (m_ca (a_star (m_v 2) a_nil) a_nil)))
  (s_ret (m_meth "Store" "pairs" cm_Store_pairs [] (m_v 3) (m_ca a_nil a_nil)))))
def cm_played : CM := cmP [] (m_fn 3 4 b_played)
/-! Mode.flows -/
theorem sc_Mode_flows : FnScope [("self" : Str)] [("self" : Str)] (defScope s_Mode_flows) := ⟨rfl, rfl, rfl, by decide +kernel, rfl, by decide +kernel, by decide +kernel⟩
def b_Mode_flows : FS := (s_ret (m_lr (m_attr ["Mode"] "low" (m_v 0)) (m_bin f_add (m_attr ["Mode"] "high" (m_v 0)) (m_c (.int 1)))))
def cm_Mode_flows : CM := cmP [] (m_fn 1 1 b_Mode_flows)
/-! Plan.ticks_from -/
theorem sc_Plan_ticks_from : FnScope [("self" : Str), ("place" : Str), ("found" : Str), ("name" : Str), ("flow" : Str)] [("self" : Str), ("place" : Str)] (defScope s_Plan_ticks_from) := ⟨rfl, rfl, rfl, by decide +kernel, rfl, by decide +kernel, by decide +kernel⟩
def b_Plan_ticks_from : FS := (s_seq (s_ex (m_meth "Plan" "check_place" cm_Plan_check_place [] (m_v 0) (m_ca (a_cons (m_v 1) a_nil) a_nil)))
  (s_seq (s_set 2 (m_tl a_nil))
  (s_seq (s_for (i_q (m_meth "Mode" "followers" cm_Mode_followers [] (m_bin f_dget (m_attr ["Plan"] "table" (m_v 0)) (m_bin f_ix (m_v 1) (m_c (.int 0)))) (m_ca a_nil a_nil))) (g_n 3) (s_for (i_q (m_meth "Mode" "flows" cm_Mode_flows [] (m_bin f_dget (m_attr ["Plan"] "table" (m_v 0)) (m_v 3)) (m_ca a_nil a_nil))) (g_n 4) (s_ex (m_lm x_append (m_v 2) (a_cons (m_tup (a_cons (m_v 3) (a_cons (m_v 4) (a_cons (m_meth "Plan" "entered" cm_Plan_entered [] (m_v 0) (m_ca (a_cons (m_v 1) (a_cons (m_v 3) (a_cons (m_v 4) a_nil))) a_nil)) a_nil)))) a_nil)))))
  (s_ret (m_frz (m_v 2))))))
def cm_Plan_ticks_from : CM := cmP [] (m_fn 2 5 b_Plan_ticks_from)
/-! _law_width_behind -/
theorem sc__law_width_behind : FnScope [("_law_shape" : Str), ("_law_fixes" : Str), ("_law_point" : Str), ("_law_number" : Str), ("_law_hand" : Str), ("_law_mode" : Str), ("_law_acting" : Str), ("_law_grown" : Str)] [("_law_shape" : Str), ("_law_fixes" : Str), ("_law_point" : Str), ("_law_number" : Str), ("_law_hand" : Str)] (defScope s__law_width_behind) := ⟨rfl, rfl, rfl, by decide +kernel, rfl, by decide +kernel, by decide +kernel⟩
def b__law_width_behind : FS := (s_seq (s_par 5 6 (a_cons (m_call cm__law_row_of [] (m_ca (a_cons (m_v 0) (a_cons (m_bin f_ix (m_v 2) (m_c (.int 0))) a_nil)) a_nil)) (a_cons (m_call cm__law_acts [] (m_ca (a_cons (m_v 0) (a_cons (m_v 1) (a_cons (m_v 2) a_nil))) a_nil)) a_nil)))
  (s_seq (s_set 7 (m_bin f_add (m_v 3) (m_if (m_t (m_bin f_eq (m_v 4) (m_c (.str "under")))) (m_bin f_ix (m_v 5) (m_c (.int 3))) (m_bin f_ix (m_v 5) (m_c (.int 4))))))
  (s_seq (s_if (m_t (m_bin f_eq (m_v 6) (m_tup a_nil))) (s_ret (m_v 7)) s_nil)
  (s_seq (s_if (m_t (m_bin f_eq (m_bin f_ix (m_v 6) (m_c (.int 0))) (m_c (.str "exact")))) (s_ret (m_c (.int 0))) s_nil)
  (s_ret (m_if (m_t (m_bin f_eq (m_bin f_ix (m_v 6) (m_c (.int 0))) (m_c (.str "set")))) (m_bin f_ix (m_v 6) (m_c (.int 1))) (m_b c_minL (a_cons (m_fl (a_cons (m_v 7) (a_cons (m_bin f_mul (m_c (.int 2)) (m_bin f_ix (m_v 6) (m_c (.int 1)))) a_nil))) a_nil))))))))
def cm__law_width_behind : CM := cmP [] (m_fn 5 8 b__law_width_behind)
/-! check_pairs -/
theorem sc_check_pairs : FnScope [("route" : Str), ("at" : Str), ("pair" : Str)] [("route" : Str)] (defScope s_check_pairs) := ⟨rfl, rfl, rfl, by decide +kernel, rfl, by decide +kernel, by decide +kernel⟩
def b_check_pairs : FS := (s_for (i_alt (i_e (a_cons (m_v 0) a_nil)) (i_eT (a_cons (m_v 0) a_nil))) (g_q 2 (gs_cons (g_n 1) (gs_cons (g_n 2) gs_nil))) (s_if (t_or (t_not (m_t (m_isT .tup (m_v 2)))) (m_t (m_bin f_ne (m_b c_len (a_cons (m_v 2) a_nil)) (m_c (.int 2))))) s_never s_nil))
def cm_check_pairs : CM := cmP [] (m_fn 1 3 b_check_pairs)
/-! Plan.ended -/
theorem sc_Plan_ended : FnScope [("self" : Str), ("route" : Str), ("place" : Str), ("mode" : Str), ("flow" : Str)] [("self" : Str), ("route" : Str)] (defScope s_Plan_ended) := ⟨rfl, rfl, rfl, by decide +kernel, rfl, by decide +kernel, by decide +kernel⟩
def b_Plan_ended : FS := (s_seq (s_ex (m_call cm_check_pairs [] (m_ca (a_cons (m_v 1) a_nil) a_nil)))
  (s_seq (s_set 2 (m_meth "Plan" "start_place" cm_Plan_start_place [] (m_v 0) (m_ca a_nil a_nil)))
  (s_seq (s_for (i_q (m_v 1)) (g_q 2 (gs_cons (g_n 3) (gs_cons (g_n 4) gs_nil))) (s_set 2 (m_meth "Plan" "moved" cm_Plan_moved [] (m_v 0) (m_ca (a_cons (m_v 2) (a_cons (m_v 3) (a_cons (m_v 4) a_nil))) a_nil))))
  (s_ret (m_v 2)))))
def cm_Plan_ended : CM := cmP [] (m_fn 2 5 b_Plan_ended)
/-! check_side -/
theorem sc_check_side : FnScope [("side" : Str)] [("side" : Str)] (defScope s_check_side) := ⟨rfl, rfl, rfl, by decide +kernel, rfl, by decide +kernel, by decide +kernel⟩
def b_check_side : FS := (s_if (t_or (t_not (m_t (m_isT .str (m_v 0)))) (m_t (m_bin f_ninT (m_v 0) (m_c (.kt (List.map D.str [("under" : Str), ("over" : Str)])))))) s_never s_nil)
def cm_check_side : CM := cmP [] (m_fn 1 1 b_check_side)
/-! Mode.error_on -/
theorem sc_Mode_error_on : FnScope [("self" : Str), ("side" : Str)] [("self" : Str), ("side" : Str)] (defScope s_Mode_error_on) := ⟨rfl, rfl, rfl, by decide +kernel, rfl, by decide +kernel, by decide +kernel⟩
def b_Mode_error_on : FS := (s_seq (s_ex (m_call cm_check_side [] (m_ca (a_cons (m_v 1) a_nil) a_nil)))
  (s_ret (m_if (m_t (m_bin f_eq (m_v 1) (m_c (.str "over")))) (m_attr ["Mode"] "over" (m_v 0)) (m_attr ["Mode"] "under" (m_v 0)))))
def cm_Mode_error_on : CM := cmP [] (m_fn 2 2 b_Mode_error_on)
/-! width_after -/
theorem sc_width_after : FnScope [("plan" : Str), ("gauge" : Str), ("place" : Str), ("number" : Str), ("side" : Str), ("grown" : Str), ("acting" : Str)] [("plan" : Str), ("gauge" : Str), ("place" : Str), ("number" : Str), ("side" : Str)] (defScope s_width_after) := ⟨rfl, rfl, rfl, by decide +kernel, rfl, by decide +kernel, by decide +kernel⟩
def b_width_after : FS := (s_seq (s_set 5 (m_bin f_add (m_v 3) (m_meth "Mode" "error_on" cm_Mode_error_on [] (m_meth "Plan" "mode" cm_Plan_mode [] (m_v 0) (m_ca (a_cons (m_bin f_ix (m_v 2) (m_c (.int 0))) a_nil) a_nil)) (m_ca (a_cons (m_v 4) a_nil) a_nil))))
  (s_seq (s_set 6 (m_meth "Gauge" "acting" cm_Gauge_acting [] (m_v 1) (m_ca (a_cons (m_v 0) (a_cons (m_v 2) a_nil)) a_nil)))
  (s_seq (s_if (m_t (m_bin f_eq (m_v 6) (m_tup a_nil))) (s_ret (m_v 5)) s_nil)
  (s_seq (s_if (m_t (m_bin f_eq (m_bin f_ix (m_v 6) (m_c (.int 0))) (m_c (.str "exact")))) (s_ret (m_c (.int 0))) s_nil)
  (s_ret (m_if (m_t (m_bin f_eq (m_bin f_ix (m_v 6) (m_c (.int 0))) (m_c (.str "set")))) (m_bin f_ix (m_v 6) (m_c (.int 1))) (m_b c_min2 (a_cons (m_v 5) (a_cons (m_bin f_mul (m_c (.int 2)) (m_bin f_ix (m_v 6) (m_c (.int 1)))) a_nil)))))))))
def cm_width_after : CM := cmP [] (m_fn 5 7 b_width_after)
/-! widths_along -/
theorem sc_widths_along : FnScope [("plan" : Str), ("gauge" : Str), ("route" : Str), ("place" : Str), ("here" : Str), ("found" : Str), ("mode" : Str), ("flow" : Str)] [("plan" : Str), ("gauge" : Str), ("route" : Str)] (defScope s_widths_along) := ⟨rfl, rfl, rfl, by decide +kernel, rfl, by decide +kernel, by decide +kernel⟩
def b_widths_along : FS := (s_seq (s_ex (m_meth "Gauge" "check" cm_Gauge_check [] (m_v 1) (m_ca (a_cons (m_v 0) a_nil) a_nil)))
  (s_seq (s_ex (m_meth "Plan" "ended" cm_Plan_ended [] (m_v 0) (m_ca (a_cons (m_v 2) a_nil) a_nil)))
  (s_seq (s_par 3 4 (a_cons (m_meth "Plan" "start_place" cm_Plan_start_place [] (m_v 0) (m_ca a_nil a_nil)) (a_cons (m_tup (a_cons (m_c (.int 0)) (a_cons (m_c (.int 0)) a_nil))) a_nil)))
  (s_seq (s_set 5 (m_tl (a_cons (m_v 4) a_nil)))
  (s_seq (s_for (i_q (m_v 2)) (g_q 2 (gs_cons (g_n 6) (gs_cons (g_n 7) gs_nil))) (s_seq (s_set 3 (m_meth "Plan" "moved" cm_Plan_moved [] (m_v 0) (m_ca (a_cons (m_v 3) (a_cons (m_v 6) (a_cons (m_v 7) a_nil))) a_nil)))
  (s_seq (s_set 4 (m_tup (a_cons (m_call cm_width_after [] (m_ca (a_cons (m_v 0) (a_cons (m_v 1) (a_cons (m_v 3) (a_cons (m_bin f_ix (m_v 4) (m_c (.int 0))) (a_cons (m_c (.str "under")) a_nil))))) a_nil)) (a_cons (m_call cm_width_after [] (m_ca (a_cons (m_v 0) (a_cons (m_v 1) (a_cons (m_v 3) (a_cons (m_bin f_ix (m_v 4) (m_c (.int 1))) (a_cons (m_c (.str "over")) a_nil))))) a_nil)) a_nil))))
  (s_ex (m_lm x_append (m_v 5) (a_cons (m_v 4) a_nil))))))
  (s_ret (m_frz (m_v 5))))))))
def cm_widths_along : CM := cmP [] (m_fn 3 8 b_widths_along)
/-! _law_track_of -/
theorem sc__law_track_of : FnScope [("_law_deeds" : Str), ("_law_tick" : Str)] [("_law_deeds" : Str)] (defScope s__law_track_of) := ⟨rfl, rfl, rfl, by decide +kernel, rfl, by decide +kernel, by decide +kernel⟩
def b__law_track_of : FS := (s_ret (m_lc (i_q (m_v 0)) (g_n 1) t_yes (m_tup (a_cons (m_bin f_ix (m_v 1) (m_c (.int 0))) (a_cons (m_bin f_ix (m_v 1) (m_c (.int 1))) a_nil))) (List.map (·.2) ([("_law_tick", 1)] : List (Str × Nat)))))
def cm__law_track_of : CM := cmP [] (m_fn 1 2 b__law_track_of)
/-! law -/
theorem sc_law : FnScope [("_law_script" : Str), ("_law_bag" : Str), ("_law_names" : Str), ("_law_size" : Str), ("_law_modes" : Str), ("_law_name" : Str), ("_law_low" : Str), ("_law_late" : Str), ("_law_high" : Str), ("_law_shape" : Str), ("_law_course" : Str), ("_law_fixes" : Str), ("_law_dial" : Str), ("_law_deeds" : Str), ("_law_moments" : Str), ("_law_point" : Str), ("_law_total" : Str), ("_law_due" : Str), ("_law_other" : Str), ("_law_row" : Str)] [("_law_script" : Str)] (defScope s_law) := ⟨rfl, rfl, rfl, by decide +kernel, rfl, by decide +kernel, by decide +kernel⟩
def b_law : FS := (s_seq (s_set 1 (m_call cm__law_start [] (m_ca (a_cons (m_v 0) a_nil) a_nil)))
  (s_seq (s_par3 2 3 4 (a_cons (m_call cm__law_names_drawn [] (m_ca (a_cons (m_v 1) (a_cons (m_bin f_add (m_c (.int 4)) (m_call cm__law_pull [] (m_ca (a_cons (m_v 1) (a_cons (m_c (.int 3)) a_nil)) a_nil))) a_nil)) a_nil)) (a_cons (m_bin f_add (m_c (.int 1)) (m_call cm__law_pull [] (m_ca (a_cons (m_v 1) (a_cons (m_c (.int 24)) a_nil)) a_nil))) (a_cons (m_tl a_nil) a_nil))))
  (s_seq (s_for (i_q (m_v 2)) (g_n 5) (s_seq (s_set 6 (m_call cm__law_close [] (m_ca (a_cons (m_v 1) (a_cons (m_c (.int 9)) a_nil)) a_nil)))
  (s_seq (s_set 7 (m_call cm__law_mixed [] (m_ca (a_cons (m_v 1) (a_cons (m_lc (i_q (m_v 2)) (g_n 18) (m_t (m_bin f_gt (m_call cm__law_pull [] (m_ca (a_cons (m_v 1) (a_cons (m_c (.int 4)) a_nil)) a_nil)) (m_c (.int 0)))) (m_v 18) (List.map (·.2) ([("_law_other", 18)] : List (Str × Nat)))) a_nil)) a_nil)))
  (s_seq (s_set 8 (m_bin f_add (m_v 6) (m_call cm__law_pull [] (m_ca (a_cons (m_v 1) (a_cons (m_b c_minL (a_cons (m_fl (a_cons (m_c (.int 3)) (a_cons (m_bin f_sub (m_c (.int 10)) (m_v 6)) a_nil))) a_nil)) a_nil)) a_nil))))
  (s_ex (m_lm x_append (m_v 4) (a_cons (m_fl (a_cons (m_v 5) (a_cons (m_v 6) (a_cons (m_v 8) (a_cons (m_call cm__law_pull [] (m_ca (a_cons (m_v 1) (a_cons (m_c (.int 10)) a_nil)) a_nil)) (a_cons (m_call cm__law_pull [] (m_ca (a_cons (m_v 1) (a_cons (m_c (.int 10)) a_nil)) a_nil)) (a_cons (m_if (m_t (m_bin f_ne (m_v 7) (m_fl a_nil))) (m_v 7) (m_fl (a_cons (m_v 5) a_nil))) a_nil))))))) a_nil)))))))
  (s_seq (s_fz 4) (s_seq (s_set 9 (m_fl (a_cons (m_v 3) (a_cons (m_call cm__law_pull [] (m_ca (a_cons (m_v 1) (a_cons (m_bin f_add (m_v 3) (m_c (.int 1))) a_nil)) a_nil)) (a_cons (m_v 4) a_nil)))))
  (s_seq (s_set 10 (m_call cm__law_plan_of [] (m_ca (a_cons (m_v 3) (a_cons (m_lc (i_q (m_v 4)) (g_n 19) t_yes (m_call cm__law_many_mode [] (m_ca (a_cons (m_v 19) a_nil) a_nil)) (List.map (·.2) ([("_law_row", 19)] : List (Str × Nat)))) (a_cons (m_bin f_ix (m_v 9) (m_c (.int 1))) a_nil))) a_nil)))
  (s_seq (s_if (t_not (m_t (m_call (cm__law_same 8) [] (m_ca (a_cons (m_lc (i_q (m_v 4)) (g_n 19) t_yes (m_meth "Mode" "followers" cm_Mode_followers [] (m_meth "Plan" "mode" cm_Plan_mode [] (m_v 10) (m_ca (a_cons (m_bin f_ix (m_v 19) (m_c (.int 0))) a_nil) a_nil)) (m_ca a_nil a_nil)) (List.map (·.2) ([("_law_row", 19)] : List (Str × Nat)))) (a_cons (m_lc (i_q (m_v 4)) (g_n 19) t_yes (m_bin f_ix (m_v 19) (m_c (.int 5))) (List.map (·.2) ([("_law_row", 19)] : List (Str × Nat)))) a_nil)) a_nil)))) (s_ret (m_c (.bl false))) s_nil)
  (s_seq (s_if (t_not (m_t (m_call (cm__law_same 8) [] (m_ca (a_cons (m_call cm_plan_text [] (m_ca (a_cons (m_v 10) a_nil) a_nil)) (a_cons (m_call cm__law_plan_text [] (m_ca (a_cons (m_v 9) a_nil) a_nil)) a_nil)) a_nil)))) (s_ret (m_c (.bl false))) s_nil)
  (s_seq (s_if (m_t (m_bin (f_own2 "Plan" cm_Plan___eq__ not) (m_call cm_read_plan [] (m_ca (a_cons (m_call cm__law_plan_text [] (m_ca (a_cons (m_v 9) a_nil) a_nil)) a_nil) a_nil)) (m_v 10))) (s_ret (m_c (.bl false))) s_nil)
  (s_seq (s_set 11 (m_call cm__law_fixes_drawn [] (m_ca (a_cons (m_v 1) (a_cons (m_v 9) (a_cons (m_c (.int 9)) a_nil))) a_nil)))
  (s_seq (s_set 12 (m_call cm__law_gauge_made [] (m_ca (a_cons (m_v 11) a_nil) a_nil)))
  (s_seq (s_asg (m_call cm__law_use_drawn [] (m_ca (a_cons (m_v 1) (a_cons (m_v 9) (a_cons (m_v 11) (a_cons (m_c (.int 10)) a_nil)))) a_nil)) (g_q 2 (gs_cons (g_n 13) (gs_cons (g_n 14) gs_nil))))
  (s_seq (s_if (t_not (m_t (m_call (cm__law_same 8) [] (m_ca (a_cons (m_call cm_played [] (m_ca (a_cons (m_v 10) (a_cons (m_v 12) (a_cons (m_v 13) a_nil))) a_nil)) (a_cons (m_lc (i_q (m_v 14)) (g_q 2 (gs_cons (g_n 15) (gs_cons (g_n 16) gs_nil))) t_yes (m_tup (a_cons (m_bin f_ix (m_v 15) (m_c (.int 2))) (a_cons (m_v 16) a_nil))) (List.map (·.2) ([("_law_point", 15), ("_law_total", 16)] : List (Str × Nat)))) a_nil)) a_nil)))) (s_ret (m_c (.bl false))) s_nil)
  (s_seq (s_set 17 (m_tl (a_cons (m_tup (a_cons (m_c (.int 0)) (a_cons (m_c (.int 0)) a_nil))) a_nil)))
  (s_seq (s_for (i_q (m_sl (m_v 14) (o_some (m_c (.int 1))) o_none)) (g_q 2 (gs_cons (g_n 15) (gs_cons (g_n 16) gs_nil))) (s_seq (s_if (t_not (m_t (m_call (cm__law_same 8) [] (m_ca (a_cons (m_fl (a_cons (m_meth "Plan" "ticks_from" cm_Plan_ticks_from [] (m_v 10) (m_ca (a_cons (m_v 15) a_nil) a_nil)) (a_cons (m_meth "Gauge" "acting" cm_Gauge_acting [] (m_v 12) (m_ca (a_cons (m_v 10) (a_cons (m_v 15) a_nil)) a_nil)) a_nil))) (a_cons (m_fl (a_cons (m_call cm__law_ticks [] (m_ca (a_cons (m_v 9) (a_cons (m_v 15) a_nil)) a_nil)) (a_cons (m_call cm__law_acts [] (m_ca (a_cons (m_v 9) (a_cons (m_v 11) (a_cons (m_v 15) a_nil))) a_nil)) a_nil))) a_nil)) a_nil)))) (s_ret (m_c (.bl false))) s_nil)
  (s_ex (m_lm x_append (m_v 17) (a_cons (m_tup (a_cons (m_call cm__law_width_behind [] (m_ca (a_cons (m_v 9) (a_cons (m_v 11) (a_cons (m_v 15) (a_cons (m_bin f_ix (m_bin f_ix (m_v 17) (m_neg (m_c (.int 1)))) (m_c (.int 0))) (a_cons (m_c (.str "under")) a_nil))))) a_nil)) (a_cons (m_call cm__law_width_behind [] (m_ca (a_cons (m_v 9) (a_cons (m_v 11) (a_cons (m_v 15) (a_cons (m_bin f_ix (m_bin f_ix (m_v 17) (m_neg (m_c (.int 1)))) (m_c (.int 1))) (a_cons (m_c (.str "over")) a_nil))))) a_nil)) a_nil))) a_nil)))))
  (s_seq (s_fz 17) (s_ret (m_call (cm__law_same 8) [] (m_ca (a_cons (m_call cm_widths_along [] (m_ca (a_cons (m_v 10) (a_cons (m_v 12) (a_cons (m_call cm__law_track_of [] (m_ca (a_cons (m_v 13) a_nil) a_nil)) a_nil))) a_nil)) (a_cons (m_v 17) a_nil)) a_nil)))))))))))))))))))
def cm_law : CM := cmP [] (m_fn 1 20 b_law)
section
variable {P : Program} {w : World} {K : PySem.W.Frag} {mg : Str → Option Value} {base : Heap}
theorem hf_name (T : TX K mg fa fx fn) : HasF K ["Mode"] "name" := fun c hc => by
  simp only [List.mem_cons, List.not_mem_nil, or_false] at hc
  subst hc
  exact ⟨(T.cls 19), (T.noat 115)⟩
theorem hf_next_names (T : TX K mg fa fx fn) : HasF K ["Mode"] "next_names" := fun c hc => by
  simp only [List.mem_cons, List.not_mem_nil, or_false] at hc
  subst hc
  exact ⟨(T.cls 19), (T.noat 116)⟩
theorem hf_size (T : TX K mg fa fx fn) : HasF K ["Plan"] "size" := fun c hc => by
  simp only [List.mem_cons, List.not_mem_nil, or_false] at hc
  subst hc
  exact ⟨(T.cls 36), (T.noat 117)⟩
theorem hf_start (T : TX K mg fa fx fn) : HasF K ["Plan"] "start" := fun c hc => by
  simp only [List.mem_cons, List.not_mem_nil, or_false] at hc
  subst hc
  exact ⟨(T.cls 36), (T.noat 118)⟩
theorem hf_table (T : TX K mg fa fx fn) : HasF K ["Plan"] "table" := fun c hc => by
  simp only [List.mem_cons, List.not_mem_nil, or_false] at hc
  subst hc
  exact ⟨(T.cls 36), (T.noat 119)⟩
theorem hf_low (T : TX K mg fa fx fn) : HasF K ["Mode"] "low" := fun c hc => by
  simp only [List.mem_cons, List.not_mem_nil, or_false] at hc
  subst hc
  exact ⟨(T.cls 19), (T.noat 120)⟩
theorem hf_high (T : TX K mg fa fx fn) : HasF K ["Mode"] "high" := fun c hc => by
  simp only [List.mem_cons, List.not_mem_nil, or_false] at hc
  subst hc
  exact ⟨(T.cls 19), (T.noat 121)⟩
theorem hf_under (T : TX K mg fa fx fn) : HasF K ["Mode"] "under" := fun c hc => by
  simp only [List.mem_cons, List.not_mem_nil, or_false] at hc
  subst hc
  exact ⟨(T.cls 19), (T.noat 122)⟩
theorem hf_over (T : TX K mg fa fx fn) : HasF K ["Mode"] "over" := fun c hc => by
  simp only [List.mem_cons, List.not_mem_nil, or_false] at hc
  subst hc
  exact ⟨(T.cls 19), (T.noat 123)⟩
theorem hf_own_corrections (T : TX K mg fa fx fn) : HasF K ["Gauge"] "own_corrections" := fun c hc => by
  simp only [List.mem_cons, List.not_mem_nil, or_false] at hc
  subst hc
  exact ⟨(T.cls 76), (T.noat 124)⟩
theorem hf_marks (T : TX K mg fa fx fn) : HasF K ["Gauge"] "marks" := fun c hc => by
  simp only [List.mem_cons, List.not_mem_nil, or_false] at hc
  subst hc
  exact ⟨(T.cls 76), (T.noat 125)⟩
theorem hf_rests (T : TX K mg fa fx fn) : HasF K ["Gauge"] "rests" := fun c hc => by
  simp only [List.mem_cons, List.not_mem_nil, or_false] at hc
  subst hc
  exact ⟨(T.cls 76), (T.noat 126)⟩
theorem hf_own_plan (T : TX K mg fa fx fn) : HasF K ["Store"] "own_plan" := fun c hc => by
  simp only [List.mem_cons, List.not_mem_nil, or_false] at hc
  subst hc
  exact ⟨(T.cls 96), (T.noat 127)⟩
theorem hf_own_gauge (T : TX K mg fa fx fn) : HasF K ["Store"] "own_gauge" := fun c hc => by
  simp only [List.mem_cons, List.not_mem_nil, or_false] at hc
  subst hc
  exact ⟨(T.cls 96), (T.noat 128)⟩
theorem hf_moments (T : TX K mg fa fx fn) : HasF K ["Store"] "moments" := fun c hc => by
  simp only [List.mem_cons, List.not_mem_nil, or_false] at hc
  subst hc
  exact ⟨(T.cls 96), (T.noat 129)⟩
theorem hf_done (T : TX K mg fa fx fn) : HasF K ["Store"] "done" := fun c hc => by
  simp only [List.mem_cons, List.not_mem_nil, or_false] at hc
  subst hc
  exact ⟨(T.cls 96), (T.noat 130)⟩
theorem hf_undone (T : TX K mg fa fx fn) : HasF K ["Store"] "undone" := fun c hc => by
  simp only [List.mem_cons, List.not_mem_nil, or_false] at hc
  subst hc
  exact ⟨(T.cls 96), (T.noat 131)⟩
theorem hf_working (T : TX K mg fa fx fn) : HasF K ["Store"] "working" := fun c hc => by
  simp only [List.mem_cons, List.not_mem_nil, or_false] at hc
  subst hc
  exact ⟨(T.cls 96), (T.noat 132)⟩
theorem hf_target (T : TX K mg fa fx fn) : HasF K ["Playing"] "target" := fun c hc => by
  simp only [List.mem_cons, List.not_mem_nil, or_false] at hc
  subst hc
  exact ⟨(T.cls 133), (T.noat 134)⟩
end
end PF
set_option Elab.async false
set_option linter.all false
set_option maxRecDepth 100000
set_option maxHeartbeats 0
namespace PF
open PySem PySem.W PySem.Calls PyProof.Rows L2 HF
end PF
set_option Elab.async false
set_option linter.all false
set_option maxRecDepth 100000
set_option maxHeartbeats 4000000
namespace PF
open PySem PySem.Spec PyProof.Rows L2 HF
section
variable {P : Program} {w : World} {K : PySem.W.Frag} {mg : Str → Option Value} {base : Heap}
theorem ok__law_start (T : TX K mg fa fx fn) : FnK P w K mg base 1 (He.fAd K ("_law_start", none)) cm__law_start := by
  obtain ⟨fd, FD⟩ := T.d 0 (d := d__law_start) rfl
  have nd := sc__law_start.nd
  refine okP FD sc__law_start rfl rfl (fun _ _ _ _ _ _ us hl => match us, hl with | [_], _ => rfl) (fun Av cdv A outer s H E hr => ?_)
  exact (fs_cons (fs_set (i := 1) nd rfl (Or.inl rfl) fe_int)
    (fs_cons (fs_for (is := [2]) rfl (fi_q (fe_sl (fv 0) fo_none (fo_some fe_int))) (fg_n (i := 2) nd rfl (Or.inl rfl)) (fs_one (fs_set (i := 1) nd rfl (Or.inl rfl) (fe_bin op_mod of_mod (fe_ty call_int1 bf_int rfl (T.free 0) (by decide +kernel) (fa_cons (fe_bin op_addA of_add (fe_bin op_addA of_add (fe_bin op_mulA of_mul (fv 1) fe_int) (fe_bin op_mulA of_mul (fe_bin op_mod of_mod (fe_ty call_int1 bf_int rfl (T.free 0) (by decide +kernel) (fa_cons (fv 2) fa_nil)) fe_int) fe_int)) fe_int) fa_nil)) fe_int))) PassesOwn.never)
    (fs_one (fs_ret (fe_tl (fa_cons (fe_ty (cl_list rfl) bf_list rfl (T.free 1) (by decide +kernel) (fa_cons (fe_sl (fv 0) fo_none (fo_some fe_int)) fa_nil)) (fa_cons fe_int (fa_cons fe_int (fa_cons (fv 1) (fa_cons fe_int fa_nil))))))))))
theorem ok__law_pull (T : TX K mg fa fx fn) : FnK P w K mg base 1 (He.fAd K ("_law_pull", none)) cm__law_pull := by
  obtain ⟨fd, FD⟩ := T.d 1 (d := d__law_pull) rfl
  have nd := sc__law_pull.nd
  refine okP FD sc__law_pull rfl rfl (fun _ _ _ _ _ _ us hl => match us, hl with | [_, _], _ => rfl) (fun Av cdv A outer s H E hr => ?_)
  exact (fs_cons (fs_sub (fe_bin op_addA of_add (fe_ix (fv 0) fe_int) fe_int) (fv 0) fe_int)
    (fs_cons (fs_if (ft_bool (fw_and (ft_cmp (op_eqD (Nat.lt_of_le_of_lt (Nat.add_le_add_left (by decide : 64 ≤ 65) _) (HF.Room.u65 hr))) of_eq (fe_ix (fv 0) fe_int) fe_int (nomark _)) (fw_and1 (ft_cmp op_lt of_lt (fe_ix (fv 0) fe_int) (fe_b call_len bf_len rfl (T.free 3) (by decide +kernel) (fa_cons (fe_ix (fv 0) fe_int) fa_nil)) (nomark _))))) (fs_cons (fs_set (i := 2) nd rfl (Or.inl rfl) (fe_ix (fe_ix (fv 0) fe_int) (fe_ix (fv 0) fe_int)))
    (fs_cons (fs_sub (fe_bin op_addA of_add (fe_ix (fv 0) fe_int) fe_int) (fv 0) fe_int)
    (fs_one (fs_if (ft_cmp op_ge of_ge (fe_b call_abs bf_abs rfl (T.free 4) (by decide +kernel) (fa_cons (fv 2) fa_nil)) (fe_bin op_pow of_pow fe_int fe_int) (nomark _)) (fs_one (fs_sub (fe_b call_abs bf_abs rfl (T.free 4) (by decide +kernel) (fa_cons (fv 2) fa_nil)) (fv 0) fe_int)) (fs_one (fs_sub (fe_bin op_mod of_mod (fe_ty call_int1 bf_int rfl (T.free 0) (by decide +kernel) (fa_cons (fe_bin op_addA of_add (fe_bin op_addA of_add (fe_bin op_mulA of_mul (fe_ix (fv 0) fe_int) fe_int) (fe_bin op_mulA of_mul (fe_bin op_mod of_mod (fe_ty call_int1 bf_int rfl (T.free 0) (by decide +kernel) (fa_cons (fv 2) fa_nil)) fe_int) fe_int)) fe_int) fa_nil)) fe_int) (fv 0) fe_int)))))) fs_nil)
    (fs_cons (fs_if (ft_cmp op_gt of_gt (fe_ix (fv 0) fe_int) fe_int (nomark _)) (fs_cons (fs_set (i := 3) nd rfl (Or.inl rfl) (fe_bin op_mod of_mod (fe_ty call_int1 bf_int rfl (T.free 0) (by decide +kernel) (fa_cons (fe_ix (fv 0) fe_int) fa_nil)) (fv 1)))
    (fs_cons (fs_sub (fe_bin op_fdiv of_fdiv (fe_ix (fv 0) fe_int) (fv 1)) (fv 0) fe_int)
    (fs_one (fs_ret (fv 3))))) fs_nil)
    (fs_cons (fs_set (i := 4) nd rfl (Or.inl rfl) (fe_bin op_mod of_mod (fe_ty call_int1 bf_int rfl (T.free 0) (by decide +kernel) (fa_cons (fe_bin op_addA of_add (fe_bin op_mulA of_mul (fe_ix (fv 0) fe_int) (fe_ix (fv 0) fe_int)) (fe_bin op_mulA of_mul (fe_ix (fv 0) fe_int) fe_int)) fa_nil)) fe_int))
    (fs_cons (fs_sub (fe_bin op_mod of_mod (fe_ty call_int1 bf_int rfl (T.free 0) (by decide +kernel) (fa_cons (fe_bin op_addA of_add (fe_bin op_addA of_add (fe_bin op_mulA of_mul (fv 4) fe_int) (fe_bin op_mulA of_mul (fe_ix (fv 0) fe_int) fe_int)) fe_int) fa_nil)) fe_int) (fv 0) fe_int)
    (fs_one (fs_ret (fe_bin op_mod of_mod (fe_ty call_int1 bf_int rfl (T.free 0) (by decide +kernel) (fa_cons (fe_bin op_fdiv of_fdiv (fe_ix (fv 0) fe_int) fe_int) fa_nil)) (fv 1)))))))))
theorem ok__law_pick (T : TX K mg fa fx fn) : FnK P w K mg base 2 (He.fAd K ("_law_pick", none)) cm__law_pick := by
  obtain ⟨fd, FD⟩ := T.d 2 (d := d__law_pick) rfl
  have nd := sc__law_pick.nd
  refine okP FD sc__law_pick rfl rfl (fun _ _ _ _ _ _ us hl => match us, hl with | [_, _], _ => rfl) (fun Av cdv A outer s H E hr => ?_)
  exact (fs_one (fs_ret (fe_ix (fv 1) (fcall (ok__law_pull (P := P) (w := w) (base := base) T).1 (ok__law_pull (P := P) (w := w) (base := base) T).2 hr (T.glo 5) (fc_kw (fa_cons (fv 0) (fa_cons (fe_b call_len bf_len rfl (T.free 3) (by decide +kernel) (fa_cons (fv 1) fa_nil)) fa_nil)) fk_nil) (kl_of al_nil)))))
theorem ok__law_names_drawn (T : TX K mg fa fx fn) : FnK P w K mg base 3 (He.fAd K ("_law_names_drawn", none)) cm__law_names_drawn := by
  obtain ⟨fd, FD⟩ := T.d 3 (d := d__law_names_drawn) rfl
  have nd := sc__law_names_drawn.nd
  refine okP FD sc__law_names_drawn rfl rfl (fun _ _ _ _ _ _ us hl => match us, hl with | [_, _], _ => rfl) (fun Av cdv A outer s H E hr => ?_)
  exact (fs_cons (fs_set (i := 2) nd rfl (Or.inr rfl) fe_str)
    (fs_cons (fs_set (i := 3) nd rfl (Or.inr rfl) (fe_m1 PySem.F.slot_str_join PySem.F.type_str_join mt_join mf_join fe_str (fe_lc (own := [("_law_k", 6)]) (is := [6]) rfl nd (fi_r1 rfl (T.free 7) (fa_cons (fcall (ok__law_pick (P := P) (w := w) (base := base) T).1 (ok__law_pick (P := P) (w := w) (base := base) T).2 hr (T.glo 6) (fc_kw (fa_cons (fv 0) (fa_cons (fe_fl (fa_cons fe_int (fa_cons fe_int (fa_cons fe_int (fa_cons fe_int fa_nil))))) fa_nil)) fk_nil) (kl_of al_nil)) fa_nil)) (blkOk_by (N := [("_law_bag" : Str), ("_law_many" : Str), ("_law_letters" : Str), ("_law_stem" : Str), ("_law_at" : Str), ("_law_first" : Str), ("_law_k" : Str)]) (sc := defScope s__law_names_drawn) (by decide +kernel)) (fun _ _ _ _ _ _ => (fg_n (i := 6) nd rfl (Or.inl rfl))) (fun _ _ _ _ _ _ => ft_nil) (fun _ _ _ _ _ _ => (fcall (ok__law_pick (P := P) (w := w) (base := base) T).1 (ok__law_pick (P := P) (w := w) (base := base) T).2 hr (T.glo 6) (fc_kw (fa_cons (fv 0) (fa_cons (fv 2) fa_nil)) fk_nil) (kl_of al_nil))))))
    (fs_cons (fs_asg (is := ([4] ++ ([5] ++ []))) (fe_tup (fa_cons (fcall (ok__law_pull (P := P) (w := w) (base := base) T).1 (ok__law_pull (P := P) (w := w) (base := base) T).2 hr (T.glo 5) (fc_kw (fa_cons (fv 0) (fa_cons (fe_bin op_addA of_add (fe_b call_len bf_len rfl (T.free 3) (by decide +kernel) (fa_cons (fv 3) fa_nil)) fe_int) fa_nil)) fk_nil) (kl_of al_nil)) (fa_cons (fcall (ok__law_pull (P := P) (w := w) (base := base) T).1 (ok__law_pull (P := P) (w := w) (base := base) T).2 hr (T.glo 5) (fc_kw (fa_cons (fv 0) (fa_cons fe_int fa_nil)) fk_nil) (kl_of al_nil)) fa_nil))) (fg_q rfl (fgs_cons (fg_n (i := 4) nd rfl (Or.inr rfl)) (fgs_cons (fg_n (i := 5) nd rfl (Or.inr rfl)) fgs_nil))))
    (fs_one (fs_ret (fe_lc (own := [("_law_k", 6)]) (is := [6]) rfl nd (fi_r1 rfl (T.free 7) (fa_cons (fv 1) fa_nil)) (blkOk_by (N := [("_law_bag" : Str), ("_law_many" : Str), ("_law_letters" : Str), ("_law_stem" : Str), ("_law_at" : Str), ("_law_first" : Str), ("_law_k" : Str)]) (sc := defScope s__law_names_drawn) (by decide +kernel)) (fun _ _ _ _ _ _ => (fg_n (i := 6) nd rfl (Or.inl rfl))) (fun _ _ _ _ _ _ => ft_nil) (fun _ _ _ _ _ _ => (fe_bin op_addA of_add (fe_bin op_addA of_add (fe_sl (fv 3) fo_none (fo_some (fv 4))) (fe_ix (fv 2) (fe_bin op_mod of_mod (fe_ty call_int1 bf_int rfl (T.free 0) (by decide +kernel) (fa_cons (fe_bin op_addA of_add (fv 5) (fv 6)) fa_nil)) fe_int))) (fe_sl (fv 3) (fo_some (fv 4)) fo_none)))))))))
theorem ok__law_close (T : TX K mg fa fx fn) : FnK P w K mg base 2 (He.fAd K ("_law_close", none)) cm__law_close := by
  obtain ⟨fd, FD⟩ := T.d 4 (d := d__law_close) rfl
  have nd := sc__law_close.nd
  refine okP FD sc__law_close rfl rfl (fun _ _ _ _ _ _ us hl => match us, hl with | [_, _], _ => rfl) (fun Av cdv A outer s H E hr => ?_)
  exact (fs_one (fs_ret (fe_bin op_sub of_sub (fcall (ok__law_pull (P := P) (w := w) (base := base) T).1 (ok__law_pull (P := P) (w := w) (base := base) T).2 hr (T.glo 5) (fc_kw (fa_cons (fv 0) (fa_cons (fe_bin op_addA of_add (fe_bin op_mulA of_mul fe_int (fv 1)) fe_int) fa_nil)) fk_nil) (kl_of al_nil)) (fv 1))))
theorem ok__law_mixed (T : TX K mg fa fx fn) : FnK P w K mg base 2 (He.fAd K ("_law_mixed", none)) cm__law_mixed := by
  obtain ⟨fd, FD⟩ := T.d 5 (d := d__law_mixed) rfl
  have nd := sc__law_mixed.nd
  refine okP FD sc__law_mixed rfl rfl (fun _ _ _ _ _ _ us hl => match us, hl with | [_, _], _ => rfl) (fun Av cdv A outer s H E hr => ?_)
  exact (fs_cons (fs_set (i := 2) nd rfl (Or.inl rfl) (fe_tl fa_nil))
    (fs_cons (fs_for (is := [3]) rfl (fi_q (fv 1)) (fg_n (i := 3) nd rfl (Or.inl rfl)) (fs_one (fs_ex (fe_lm PySem.F.slot_list_insert PySem.F.type_list_insert mt_insert mf_insert (fv 2) (fa_cons (fcall (ok__law_pull (P := P) (w := w) (base := base) T).1 (ok__law_pull (P := P) (w := w) (base := base) T).2 hr (T.glo 5) (fc_kw (fa_cons (fv 0) (fa_cons (fe_bin op_addA of_add (fe_b call_len bf_len rfl (T.free 3) (by decide +kernel) (fa_cons (fv 2) fa_nil)) fe_int) fa_nil)) fk_nil) (kl_of al_nil)) (fa_cons (fv 3) fa_nil))))) PassesOwn.never)
    (fs_one (fs_ret (fe_frz (fv 2))))))
theorem ok_is_number (T : TX K mg fa fx fn) : FnK P w K mg base 1 (He.fAd K ("is_number", none)) cm_is_number := by
  obtain ⟨fd, FD⟩ := T.d 6 (d := d_is_number) rfl
  have nd := sc_is_number.nd
  refine okP FD sc_is_number rfl rfl (fun _ _ _ _ _ _ us hl => match us, hl with | [_, _, _], _ => rfl) (fun Av cdv A outer s H E hr => ?_)
  exact (fs_cons (fs_if (ft_bool (fw_or (ft_not (ft_val (fe_isT .int (fv 0) (T.free 12) rfl (T.free 0) rfl (by decide +kernel)))) (fw_or (ft_val (fe_isT .bl (fv 0) (T.free 12) rfl (T.free 13) rfl (by decide +kernel))) (fw_or1 (ft_cmp op_lt of_lt (fv 0) (fv 1) (nomark _)))))) (fs_one (fs_ret fe_bl)) fs_nil)
    (fs_one (fs_ret (fe_or (fe_cmp op_isN of_is (fv 2) fe_non (nomark _)) (fe_one (fe_cmp op_le of_le (fv 0) (fv 2) (nomark _)))))))
theorem ok_Mode_followers (T : TX K mg fa fx fn) : FnK P w K mg base 1 (He.fAd K ("Mode", some "followers")) cm_Mode_followers := by
  obtain ⟨fd, FD⟩ := T.d 7 (d := d_Mode_followers) rfl
  have nd := sc_Mode_followers.nd
  refine okP FD sc_Mode_followers rfl rfl (fun _ _ _ _ _ _ us hl => match us, hl with | [_], _ => rfl) (fun Av cdv A outer s H E hr => ?_)
  exact (fs_one (fs_ret (fe_ty (cl_list rfl) bf_list rfl (T.free 1) (by decide +kernel) (fa_cons (fe_attr (hf_next_names T) (fv 0)) fa_nil))))
theorem ok_Plan___init__ (T : TX K mg fa fx fn) : FnK P w K mg base 2 (He.fAd K ("Plan", some "__init__")) cm_Plan___init__ := by
  obtain ⟨fd, FD⟩ := T.d 8 (d := d_Plan___init__) rfl
  have nd := sc_Plan___init__.nd
  have pr : ∀ (Av : Addr → Prop) (cdv : Value) (A : Around) (outer : List Env) (s : Shared) (H : Hp) (E : XK), Room 1 (A.deeper (envOfC "Plan.__init__" (defScope s_Plan___init__) s.heap.objs.size (He.fAd K ("Plan", some "__init__")) cdv)) → PSs ((cxOf HF.CX0 P w K mg base [("self" : Str), ("size" : Str), ("start" : Str), ("modes" : Str), ("at" : Str), ("mode" : Str), ("table" : Str), ("name" : Str)] "Plan.__init__" (defScope s_Plan___init__) (He.fAd K ("Plan", some "__init__")) cdv A outer s H E).nox) (defBody s_Plan___init__) (tFS K Av b_Plan___init__) := fun Av cdv A outer s H E hr => by
    exact (fs_cons (fs_if (ft_not (ft_val (fcall (ok_is_number (P := P) (w := w) (base := base) T).1 (ok_is_number (P := P) (w := w) (base := base) T).2 hr (T.glo 15) (fc_kw (fa_cons (fv 1) (fa_cons fe_int (fa_cons (fg_int (T.int 14)) fa_nil))) fk_nil) (kl_of al_nil)))) (fs_one fs_never) fs_nil)
    (fs_cons (fs_if (ft_not (ft_chain op_le op_le of_le of_le fe_int (fe_b call_len bf_len rfl (T.free 3) (by decide +kernel) (fa_cons (fv 3) fa_nil)) (fg_int (T.int 16)))) (fs_one fs_never) fs_nil)
    (fs_cons (fs_for (is := ([4] ++ ([5] ++ []))) rfl (fi_alt (fi_e rfl (T.free 17) (fa_cons (fv 3) fa_nil)) (fi_eT rfl (T.free 17) (fa_cons (fv 3) fa_nil))) (fg_q rfl (fgs_cons (fg_n (i := 4) nd rfl (Or.inl rfl)) (fgs_cons (fg_n (i := 5) nd rfl (Or.inl rfl)) fgs_nil))) (fs_one (fs_if (ft_not (ft_val (fe_isC (fv 5) (T.free 12) rfl (T.glo 18) rfl (T.isc 0 (T.cls 19)) (T.kit 1) (fun _ h => by cases h)))) (fs_one fs_never) fs_nil)) PassesOwn.never)
    (fs_cons (fs_set (i := 6) nd rfl (Or.inl rfl) fe_dnK)
    (fs_cons (fs_for (is := [5]) rfl (fi_q (fv 3)) (fg_n (i := 5) nd rfl (Or.inl rfl)) (fs_cons (fs_if (ft_inD (Nat.lt_of_le_of_lt (Nat.add_le_add_left (by decide : 1 ≤ 65) _) (HF.Room.u65 hr)) (fe_attr (hf_name T) (fv 5)) (fv 6)) (fs_one fs_never) fs_nil)
    (fs_one (fs_dput (Nat.lt_of_le_of_lt (Nat.add_le_add_left (by decide : 1 ≤ 65) _) (HF.Room.u65 hr)) (fv 5) (fv 6) (fe_attr (hf_name T) (fv 5))))) PassesOwn.never)
    (fs_cons (fs_for (is := [5]) rfl (fi_q (fv 3)) (fg_n (i := 5) nd rfl (Or.inl rfl)) (fs_one (fs_for (is := [7]) rfl (fi_q (fe_meth (T.cls 19) (T.meth 20) (ok_Mode_followers T).1 (hr.mono (by decide)) (fv 5) (fc_kw0 fk_nil) (kl_of al_nil))) (fg_n (i := 7) nd rfl (Or.inl rfl)) (fs_one (fs_if (ft_ninD (Nat.lt_of_le_of_lt (Nat.add_le_add_left (by decide : 1 ≤ 65) _) (HF.Room.u65 hr)) (fv 7) (fv 6)) (fs_one fs_never) fs_nil)) PassesOwn.never)) PassesOwn.never)
    (fs_cons (fs_if (ft_bool (fw_and (ft_cmp op_notN of_isnt (fv 2) fe_non (nomark _)) (fw_and1 (ft_not (ft_val (fcall (ok_is_number (P := P) (w := w) (base := base) T).1 (ok_is_number (P := P) (w := w) (base := base) T).2 hr (T.glo 15) (fc_kw (fa_cons (fv 2) (fa_cons fe_int (fa_cons (fv 1) fa_nil))) fk_nil) (kl_of al_nil))))))) (fs_one fs_never) fs_nil)
    (fs_cons (fs_fld (hf_size T) (fv 0) (fv 1))
    (fs_cons (fs_fld (hf_start T) (fv 0) (fe_if (ft_cmp op_isN of_is (fv 2) fe_non (nomark _)) (fv 1) (fv 2)))
    (fs_one (fs_fld (hf_table T) (fv 0) (fv 6))))))))))))
  exact ⟨(fnB_star (P0 := ["self", "size"]) (KW := ["start"]) (pv := "modes") FD sc_Plan___init__ ["start"] [some 0] [] [] (by intro q hq; cases hq) (fun T H r => .nil) (fun α ws ms h1 h2 => match ws, ms, h1, h2 with | [_], [], _, _ => rfl) (fun kV doc pm an cdv ct D us rest ws ms hk h1 h2 h3 => by match us, rest, ws, ms, h1, h2, h3 with | [_, _], [], [_], [], _, _, _ => exact kwT0 rfl | [_, _], _ :: _, [_], [], _, _, _ => exact kwT0 rfl) (fun Av cdv A outer s H E hr => pr Av cdv A outer s H E hr)), FD.kp⟩
theorem ok__law_plan_of (T : TX K mg fa fx fn) : FnK P w K mg base 4 (He.fAd K ("_law_plan_of", none)) cm__law_plan_of := by
  obtain ⟨fd, FD⟩ := T.d 9 (d := d__law_plan_of) rfl
  have nd := sc__law_plan_of.nd
  refine okP FD sc__law_plan_of rfl rfl (fun _ _ _ _ _ _ us hl => match us, hl with | [_, _, _], _ => rfl) (fun Av cdv A outer s H E hr => ?_)
  exact (fs_cons (fs_set (i := 3) nd rfl (Or.inl rfl) (fe_bin op_addA of_add (fv 1) (fe_bin op_mulA of_mul (fe_fl (fa_cons (fe_ix (fv 1) fe_int) fa_nil)) (fe_bin op_sub of_sub fe_int (fe_b call_len bf_len rfl (T.free 3) (by decide +kernel) (fa_cons (fv 1) fa_nil))))))
    (fs_cons (fs_if (ft_cmp (op_eqD (Nat.lt_of_le_of_lt (Nat.add_le_add_left (by decide : 64 ≤ 65) _) (HF.Room.u65 hr))) of_eq (fe_b call_len bf_len rfl (T.free 3) (by decide +kernel) (fa_cons (fv 1) fa_nil)) fe_int (nomark _)) (fs_one (fs_ret (fe_mkP (T.mkr 21) (ok_Plan___init__ T).1 (hr.mono (by decide)) rfl (T.glo 22) (fc_kw (fa_cons (fv 0) (fa_cons (fe_ix (fv 3) fe_int) fa_nil)) (fk_cons (fv 2) fk_nil)) (kl_of (al_cons al_nil))))) fs_nil)
    (fs_cons (fs_if (ft_cmp (op_eqD (Nat.lt_of_le_of_lt (Nat.add_le_add_left (by decide : 64 ≤ 65) _) (HF.Room.u65 hr))) of_eq (fe_b call_len bf_len rfl (T.free 3) (by decide +kernel) (fa_cons (fv 1) fa_nil)) fe_int (nomark _)) (fs_one (fs_ret (fe_mkP (T.mkr 21) (ok_Plan___init__ T).1 (hr.mono (by decide)) rfl (T.glo 22) (fc_kw (fa_cons (fv 0) (fa_cons (fe_ix (fv 3) fe_int) (fa_cons (fe_ix (fv 3) fe_int) fa_nil))) (fk_cons (fv 2) fk_nil)) (kl_of (al_cons al_nil))))) fs_nil)
    (fs_cons (fs_if (ft_cmp (op_eqD (Nat.lt_of_le_of_lt (Nat.add_le_add_left (by decide : 64 ≤ 65) _) (HF.Room.u65 hr))) of_eq (fe_b call_len bf_len rfl (T.free 3) (by decide +kernel) (fa_cons (fv 1) fa_nil)) fe_int (nomark _)) (fs_one (fs_ret (fe_mkP (T.mkr 21) (ok_Plan___init__ T).1 (hr.mono (by decide)) rfl (T.glo 22) (fc_kw (fa_cons (fv 0) (fa_cons (fe_ix (fv 3) fe_int) (fa_cons (fe_ix (fv 3) fe_int) (fa_cons (fe_ix (fv 3) fe_int) fa_nil)))) (fk_cons (fv 2) fk_nil)) (kl_of (al_cons al_nil))))) fs_nil)
    (fs_cons (fs_if (ft_cmp (op_eqD (Nat.lt_of_le_of_lt (Nat.add_le_add_left (by decide : 64 ≤ 65) _) (HF.Room.u65 hr))) of_eq (fe_b call_len bf_len rfl (T.free 3) (by decide +kernel) (fa_cons (fv 1) fa_nil)) fe_int (nomark _)) (fs_one (fs_ret (fe_mkP (T.mkr 21) (ok_Plan___init__ T).1 (hr.mono (by decide)) rfl (T.glo 22) (fc_kw (fa_cons (fv 0) (fa_cons (fe_ix (fv 3) fe_int) (fa_cons (fe_ix (fv 3) fe_int) (fa_cons (fe_ix (fv 3) fe_int) (fa_cons (fe_ix (fv 3) fe_int) fa_nil))))) (fk_cons (fv 2) fk_nil)) (kl_of (al_cons al_nil))))) fs_nil)
    (fs_cons (fs_if (ft_cmp (op_eqD (Nat.lt_of_le_of_lt (Nat.add_le_add_left (by decide : 64 ≤ 65) _) (HF.Room.u65 hr))) of_eq (fe_b call_len bf_len rfl (T.free 3) (by decide +kernel) (fa_cons (fv 1) fa_nil)) fe_int (nomark _)) (fs_one (fs_ret (fe_mkP (T.mkr 21) (ok_Plan___init__ T).1 (hr.mono (by decide)) rfl (T.glo 22) (fc_kw (fa_cons (fv 0) (fa_cons (fe_ix (fv 3) fe_int) (fa_cons (fe_ix (fv 3) fe_int) (fa_cons (fe_ix (fv 3) fe_int) (fa_cons (fe_ix (fv 3) fe_int) (fa_cons (fe_ix (fv 3) fe_int) fa_nil)))))) (fk_cons (fv 2) fk_nil)) (kl_of (al_cons al_nil))))) fs_nil)
    (fs_one (fs_ret (fe_mkP (T.mkr 21) (ok_Plan___init__ T).1 (hr.mono (by decide)) rfl (T.glo 22) (fc_kw (fa_cons (fv 0) (fa_cons (fe_ix (fv 3) fe_int) (fa_cons (fe_ix (fv 3) fe_int) (fa_cons (fe_ix (fv 3) fe_int) (fa_cons (fe_ix (fv 3) fe_int) (fa_cons (fe_ix (fv 3) fe_int) (fa_cons (fe_ix (fv 3) fe_int) fa_nil))))))) (fk_cons (fv 2) fk_nil)) (kl_of (al_cons al_nil)))))))))))
theorem ok_is_name (T : TX K mg fa fx fn) : FnK P w K mg base 1 (He.fAd K ("is_name", none)) cm_is_name := by
  obtain ⟨fd, FD⟩ := T.d 10 (d := d_is_name) rfl
  have nd := sc_is_name.nd
  refine okP FD sc_is_name rfl rfl (fun _ _ _ _ _ _ us hl => match us, hl with | [_], _ => rfl) (fun Av cdv A outer s H E hr => ?_)
  exact (fs_cons (fs_if (ft_bool (fw_or (ft_not (ft_val (fe_isT .str (fv 0) (T.free 12) rfl (T.free 23) rfl (by decide +kernel)))) (fw_or1 (ft_not (ft_chain op_le op_le of_le of_le fe_int (fe_b call_len bf_len rfl (T.free 3) (by decide +kernel) (fa_cons (fv 0) fa_nil)) (fg_int (T.int 24))))))) (fs_one (fs_ret fe_bl)) fs_nil)
    (fs_one (fs_ret (fe_b (cr_all rfl) bf_all rfl (T.free 26) (by decide +kernel) (fa_cons (fe_lc (own := [("sign", 1)]) (is := [1]) rfl nd (fi_s (fv 0)) (blkOk_by (N := [("value" : Str), ("sign" : Str)]) (sc := defScope s_is_name) (by decide +kernel)) (fun _ _ _ _ _ _ => (fg_n (i := 1) nd rfl (Or.inl rfl))) (fun _ _ _ _ _ _ => ft_nil) (fun _ _ _ _ _ _ => (fe_cmp op_in_sign of_inS (fv 1) (fg_str (T.str 25)) rfl))) fa_nil)))))
theorem ok_Mode___init__ (T : TX K mg fa fx fn) : FnK P w K mg base 2 (He.fAd K ("Mode", some "__init__")) cm_Mode___init__ := by
  obtain ⟨fd, FD⟩ := T.d 11 (d := d_Mode___init__) rfl
  have nd := sc_Mode___init__.nd
  have pr : ∀ (Av : Addr → Prop) (cdv : Value) (A : Around) (outer : List Env) (s : Shared) (H : Hp) (E : XK), Room 1 (A.deeper (envOfC "Mode.__init__" (defScope s_Mode___init__) s.heap.objs.size (He.fAd K ("Mode", some "__init__")) cdv)) → PSs ((cxOf HF.CX0 P w K mg base [("self" : Str), ("name" : Str), ("low" : Str), ("high" : Str), ("under" : Str), ("over" : Str), ("followers" : Str), ("follower" : Str), ("at" : Str), ("slip" : Str)] "Mode.__init__" (defScope s_Mode___init__) (He.fAd K ("Mode", some "__init__")) cdv A outer s H E).nox) (defBody s_Mode___init__) (tFS K Av b_Mode___init__) := fun Av cdv A outer s H E hr => by
    exact (fs_cons (fs_if (ft_not (ft_val (fcall (ok_is_name (P := P) (w := w) (base := base) T).1 (ok_is_name (P := P) (w := w) (base := base) T).2 hr (T.glo 27) (fc_kw (fa_cons (fv 1) fa_nil) fk_nil) (kl_of al_nil)))) (fs_one fs_never) fs_nil)
    (fs_cons (fs_if (ft_not (ft_val (fcall (ok_is_number (P := P) (w := w) (base := base) T).1 (ok_is_number (P := P) (w := w) (base := base) T).2 hr (T.glo 15) (fc_kw (fa_cons (fv 2) (fa_cons (fe_neg (fg_int (T.int 28))) (fa_cons (fg_int (T.int 28)) fa_nil))) fk_nil) (kl_of al_nil)))) (fs_one fs_never) fs_nil)
    (fs_cons (fs_if (ft_not (ft_val (fcall (ok_is_number (P := P) (w := w) (base := base) T).1 (ok_is_number (P := P) (w := w) (base := base) T).2 hr (T.glo 15) (fc_kw (fa_cons (fv 3) (fa_cons (fv 2) (fa_cons (fg_int (T.int 28)) fa_nil))) fk_nil) (kl_of al_nil)))) (fs_one fs_never) fs_nil)
    (fs_cons (fs_for (is := [7]) rfl (fi_q (fv 6)) (fg_n (i := 7) nd rfl (Or.inl rfl)) (fs_one (fs_if (ft_not (ft_val (fcall (ok_is_name (P := P) (w := w) (base := base) T).1 (ok_is_name (P := P) (w := w) (base := base) T).2 hr (T.glo 27) (fc_kw (fa_cons (fv 7) fa_nil) fk_nil) (kl_of al_nil)))) (fs_one fs_never) fs_nil)) PassesOwn.never)
    (fs_cons (fs_for (is := ([8] ++ ([7] ++ []))) rfl (fi_alt (fi_e rfl (T.free 17) (fa_cons (fv 6) fa_nil)) (fi_eT rfl (T.free 17) (fa_cons (fv 6) fa_nil))) (fg_q rfl (fgs_cons (fg_n (i := 8) nd rfl (Or.inl rfl)) (fgs_cons (fg_n (i := 7) nd rfl (Or.inl rfl)) fgs_nil))) (fs_one (fs_if (ft_cmp op_in_seq of_inT (fv 7) (fe_sl (fv 6) fo_none (fo_some (fv 8))) rfl) (fs_one fs_never) fs_nil)) PassesOwn.never)
    (fs_cons (fs_for (is := [9]) rfl (fi_q (fe_tup (fa_cons (fv 4) (fa_cons (fv 5) fa_nil)))) (fg_n (i := 9) nd rfl (Or.inl rfl)) (fs_one (fs_if (ft_not (ft_val (fcall (ok_is_number (P := P) (w := w) (base := base) T).1 (ok_is_number (P := P) (w := w) (base := base) T).2 hr (T.glo 15) (fc_kw (fa_cons (fv 9) (fa_cons fe_int (fa_cons (fg_int (T.int 28)) fa_nil))) fk_nil) (kl_of al_nil)))) (fs_one fs_never) fs_nil)) PassesOwn.never)
    (fs_cons (fs_fld (hf_name T) (fv 0) (fv 1))
    (fs_cons (fs_fld (hf_low T) (fv 0) (fv 2))
    (fs_cons (fs_fld (hf_high T) (fv 0) (fv 3))
    (fs_cons (fs_fld (hf_under T) (fv 0) (fv 4))
    (fs_cons (fs_fld (hf_over T) (fv 0) (fv 5))
    (fs_one (fs_fld (hf_next_names T) (fv 0) (fe_if (ft_cmp (op_neD (Nat.lt_of_le_of_lt (Nat.add_le_add_left (by decide : 64 ≤ 65) _) (HF.Room.u65 hr))) of_ne (fv 6) (fe_tup fa_nil) (nomark _)) (fv 6) (fe_tup (fa_cons (fv 1) fa_nil))))))))))))))))
  exact ⟨(FnB.or (fnB_star (P0 := ["self", "name", "low", "high"]) (KW := ["under", "over"]) (pv := "followers") FD sc_Mode___init__ [] [none, none] [("under", (.int 0)), ("over", (.int 0))] [(.int 0), (.int 0)] (by intro q hq; exact (by revert q hq; simp [d_Mode___init__, He.DefD.kws, He.Dv.v])) (fun T H r => (.cons (.int _) (.cons (.int _) .nil))) (fun α ws ms h1 h2 => match ws, ms, h1, h2 with | [], [_, _], _, _ => rfl) (fun kV doc pm an cdv ct D us rest ws ms hk h1 h2 h3 => by cases hk (by intro z; cases z); match us, rest, ws, ms, h1, h2, h3 with | [_, _, _, _], [], [], [_, _], _, _, _ => exact ⟨_, _, _, _, _, _, rfl, rfl, (⟨_, _, _, _, _, _, rfl, rfl, (kwT0 rfl)⟩)⟩ | [_, _, _, _], _ :: _, [], [_, _], _, _, _ => exact ⟨_, _, _, _, _, _, rfl, rfl, (⟨_, _, _, _, _, _, rfl, rfl, (kwT0 rfl)⟩)⟩) (fun Av cdv A outer s H E hr => pr Av cdv A outer s H E hr)) (FnB.or (fnB_star (P0 := ["self", "name", "low", "high"]) (KW := ["under", "over"]) (pv := "followers") FD sc_Mode___init__ ["under", "over"] [some 0, some 1] [] [] (by intro q hq; cases hq) (fun T H r => .nil) (fun α ws ms h1 h2 => match ws, ms, h1, h2 with | [_, _], [], _, _ => rfl) (fun kV doc pm an cdv ct D us rest ws ms hk h1 h2 h3 => by match us, rest, ws, ms, h1, h2, h3 with | [_, _, _, _], [], [_, _], [], _, _, _ => exact kwT0 rfl | [_, _, _, _], _ :: _, [_, _], [], _, _, _ => exact kwT0 rfl) (fun Av cdv A outer s H E hr => pr Av cdv A outer s H E hr)) (fnB_star (P0 := ["self", "name", "low", "high"]) (KW := ["under", "over"]) (pv := "followers") FD sc_Mode___init__ ["over", "under"] [some 1, some 0] [] [] (by intro q hq; cases hq) (fun T H r => .nil) (fun α ws ms h1 h2 => match ws, ms, h1, h2 with | [_, _], [], _, _ => rfl) (fun kV doc pm an cdv ct D us rest ws ms hk h1 h2 h3 => by match us, rest, ws, ms, h1, h2, h3 with | [_, _, _, _], [], [_, _], [], _, _, _ => exact kwT0 rfl | [_, _, _, _], _ :: _, [_, _], [], _, _, _ => exact kwT0 rfl) (fun Av cdv A outer s H E hr => pr Av cdv A outer s H E hr)))), FD.kp⟩
end
end PF
set_option Elab.async false
set_option linter.all false
set_option maxRecDepth 100000
set_option maxHeartbeats 4000000
namespace PF
open PySem PySem.Spec PyProof.Rows L2 HF
section
variable {P : Program} {w : World} {K : PySem.W.Frag} {mg : Str → Option Value} {base : Heap}
theorem ok__law_mode_made (T : TX K mg fa fx fn) : FnK P w K mg base 4 (He.fAd K ("_law_mode_made", none)) cm__law_mode_made := by
  obtain ⟨fd, FD⟩ := T.d 12 (d := d__law_mode_made) rfl
  have nd := sc__law_mode_made.nd
  refine okP FD sc__law_mode_made rfl rfl (fun _ _ _ _ _ _ us hl => match us, hl with | [_], _ => rfl) (fun Av cdv A outer s H E hr => ?_)
  exact (fs_cons (fs_asg (is := ([1] ++ ([2] ++ ([3] ++ ([4] ++ ([5] ++ ([6] ++ []))))))) (fv 0) (fg_q rfl (fgs_cons (fg_n (i := 1) nd rfl (Or.inl rfl)) (fgs_cons (fg_n (i := 2) nd rfl (Or.inl rfl)) (fgs_cons (fg_n (i := 3) nd rfl (Or.inl rfl)) (fgs_cons (fg_n (i := 4) nd rfl (Or.inl rfl)) (fgs_cons (fg_n (i := 5) nd rfl (Or.inl rfl)) (fgs_cons (fg_n (i := 6) nd rfl (Or.inl rfl)) fgs_nil))))))))
    (fs_cons (fs_if (ft_cmp (op_eqD (Nat.lt_of_le_of_lt (Nat.add_le_add_left (by decide : 64 ≤ 65) _) (HF.Room.u65 hr))) of_eq (fv 6) (fe_fl (fa_cons (fv 1) fa_nil)) (nomark _)) (fs_one (fs_ret (fe_mkP (T.mkr 29) (ok_Mode___init__ T).1 (hr.mono (by decide)) rfl (T.glo 18) (fc_kw (fa_cons (fv 1) (fa_cons (fv 2) (fa_cons (fv 3) fa_nil))) (fk_cons (fv 4) (fk_cons (fv 5) fk_nil))) (kl_of (al_cons (al_cons al_nil)))))) fs_nil)
    (fs_cons (fs_if (ft_cmp (op_eqD (Nat.lt_of_le_of_lt (Nat.add_le_add_left (by decide : 64 ≤ 65) _) (HF.Room.u65 hr))) of_eq (fe_b call_len bf_len rfl (T.free 3) (by decide +kernel) (fa_cons (fv 6) fa_nil)) fe_int (nomark _)) (fs_one (fs_ret (fe_mkP (T.mkr 29) (ok_Mode___init__ T).1 (hr.mono (by decide)) rfl (T.glo 18) (fc_kw (fa_cons (fv 1) (fa_cons (fv 2) (fa_cons (fv 3) (fa_cons (fe_ix (fv 6) fe_int) fa_nil)))) (fk_cons (fv 5) (fk_cons (fv 4) fk_nil))) (kl_of (al_cons (al_cons al_nil)))))) fs_nil)
    (fs_cons (fs_if (ft_cmp (op_eqD (Nat.lt_of_le_of_lt (Nat.add_le_add_left (by decide : 64 ≤ 65) _) (HF.Room.u65 hr))) of_eq (fe_b call_len bf_len rfl (T.free 3) (by decide +kernel) (fa_cons (fv 6) fa_nil)) fe_int (nomark _)) (fs_one (fs_ret (fe_mkP (T.mkr 29) (ok_Mode___init__ T).1 (hr.mono (by decide)) rfl (T.glo 18) (fc_kw (fa_cons (fv 1) (fa_cons (fv 2) (fa_cons (fv 3) (fa_cons (fe_ix (fv 6) fe_int) (fa_cons (fe_ix (fv 6) fe_int) fa_nil))))) (fk_cons (fv 4) (fk_cons (fv 5) fk_nil))) (kl_of (al_cons (al_cons al_nil)))))) fs_nil)
    (fs_one (fs_ret (fe_mkP (T.mkr 29) (ok_Mode___init__ T).1 (hr.mono (by decide)) rfl (T.glo 18) (fc_kw (fa_cons (fv 1) (fa_cons (fv 2) (fa_cons (fv 3) (fa_cons (fe_ix (fv 6) fe_int) (fa_cons (fe_ix (fv 6) fe_int) (fa_cons (fe_ix (fv 6) fe_int) fa_nil)))))) (fk_cons (fv 4) (fk_cons (fv 5) fk_nil))) (kl_of (al_cons (al_cons al_nil))))))))))
theorem ok__law_many_mode (T : TX K mg fa fx fn) : FnK P w K mg base 5 (He.fAd K ("_law_many_mode", none)) cm__law_many_mode := by
  obtain ⟨fd, FD⟩ := T.d 13 (d := d__law_many_mode) rfl
  have nd := sc__law_many_mode.nd
  refine okP FD sc__law_many_mode rfl rfl (fun _ _ _ _ _ _ us hl => match us, hl with | [_], _ => rfl) (fun Av cdv A outer s H E hr => ?_)
  exact (fs_cons (fs_asg (is := ([1] ++ ([2] ++ ([3] ++ ([4] ++ ([5] ++ ([6] ++ []))))))) (fv 0) (fg_q rfl (fgs_cons (fg_n (i := 1) nd rfl (Or.inl rfl)) (fgs_cons (fg_n (i := 2) nd rfl (Or.inl rfl)) (fgs_cons (fg_n (i := 3) nd rfl (Or.inl rfl)) (fgs_cons (fg_n (i := 4) nd rfl (Or.inl rfl)) (fgs_cons (fg_n (i := 5) nd rfl (Or.inl rfl)) (fgs_cons (fg_n (i := 6) nd rfl (Or.inl rfl)) fgs_nil))))))))
    (fs_cons (fs_if (ft_cmp op_lt of_lt (fe_b call_len bf_len rfl (T.free 3) (by decide +kernel) (fa_cons (fv 6) fa_nil)) fe_int (nomark _)) (fs_one (fs_ret (fcall (ok__law_mode_made (P := P) (w := w) (base := base) T).1 (ok__law_mode_made (P := P) (w := w) (base := base) T).2 hr (T.glo 30) (fc_kw (fa_cons (fv 0) fa_nil) fk_nil) (kl_of al_nil)))) fs_nil)
    (fs_cons (fs_if (ft_cmp (op_eqD (Nat.lt_of_le_of_lt (Nat.add_le_add_left (by decide : 64 ≤ 65) _) (HF.Room.u65 hr))) of_eq (fe_b call_len bf_len rfl (T.free 3) (by decide +kernel) (fa_cons (fv 6) fa_nil)) fe_int (nomark _)) (fs_one (fs_ret (fe_mkP (T.mkr 29) (ok_Mode___init__ T).1 (hr.mono (by decide)) rfl (T.glo 18) (fc_kw (fa_cons (fv 1) (fa_cons (fv 2) (fa_cons (fv 3) (fa_cons (fe_ix (fv 6) fe_int) (fa_cons (fe_ix (fv 6) fe_int) (fa_cons (fe_ix (fv 6) fe_int) (fa_cons (fe_ix (fv 6) fe_int) fa_nil))))))) (fk_cons (fv 4) (fk_cons (fv 5) fk_nil))) (kl_of (al_cons (al_cons al_nil)))))) fs_nil)
    (fs_cons (fs_if (ft_cmp (op_eqD (Nat.lt_of_le_of_lt (Nat.add_le_add_left (by decide : 64 ≤ 65) _) (HF.Room.u65 hr))) of_eq (fe_b call_len bf_len rfl (T.free 3) (by decide +kernel) (fa_cons (fv 6) fa_nil)) fe_int (nomark _)) (fs_one (fs_ret (fe_mkP (T.mkr 29) (ok_Mode___init__ T).1 (hr.mono (by decide)) rfl (T.glo 18) (fc_kw (fa_cons (fv 1) (fa_cons (fv 2) (fa_cons (fv 3) (fa_cons (fe_ix (fv 6) fe_int) (fa_cons (fe_ix (fv 6) fe_int) (fa_cons (fe_ix (fv 6) fe_int) (fa_cons (fe_ix (fv 6) fe_int) (fa_cons (fe_ix (fv 6) fe_int) fa_nil)))))))) (fk_cons (fv 4) (fk_cons (fv 5) fk_nil))) (kl_of (al_cons (al_cons al_nil)))))) fs_nil)
    (fs_one (fs_ret (fe_mkP (T.mkr 29) (ok_Mode___init__ T).1 (hr.mono (by decide)) rfl (T.glo 18) (fc_kw (fa_cons (fv 1) (fa_cons (fv 2) (fa_cons (fv 3) (fa_cons (fe_ix (fv 6) fe_int) (fa_cons (fe_ix (fv 6) fe_int) (fa_cons (fe_ix (fv 6) fe_int) (fa_cons (fe_ix (fv 6) fe_int) (fa_cons (fe_ix (fv 6) fe_int) (fa_cons (fe_ix (fv 6) fe_int) fa_nil))))))))) (fk_cons (fv 4) (fk_cons (fv 5) fk_nil))) (kl_of (al_cons (al_cons al_nil))))))))))
theorem ok__law_same (T : TX K mg fa fx fn) : ∀ n : Nat, FnK P w K mg base (1 + n) (He.fAd K ("_law_same", none)) (cm__law_same n)
  | 0 => by
    obtain ⟨fd, FD⟩ := T.d 14 (d := d__law_same) rfl
    exact ⟨FnB.none, FD.kp⟩
  | n + 1 => by
    obtain ⟨fd, FD⟩ := T.d 14 (d := d__law_same) rfl
    have nd := sc__law_same.nd
    have F0 := ok__law_same T n
    refine okP (k := 1 + n) FD sc__law_same rfl rfl (fun _ _ _ _ _ _ us hl => match us, hl with | [_, _], _ => rfl) (fun Av cdv A outer s H E hr0 => ?_)
    have hr := hr0
    exact (fs_cons (fs_if (ft_bool (fw_or (ft_cmp op_isN of_is (fv 1) fe_non (nomark _)) (fw_or1 (ft_cmp op_isN of_is (fv 0) fe_non (nomark _))))) (fs_one (fs_ret (fe_and (fe_cmp op_isN of_is (fv 1) fe_non (nomark _)) (fe_one (fe_cmp op_isN of_is (fv 0) fe_non (nomark _)))))) fs_nil)
    (fs_cons (fs_if (ft_val (fe_isT .lst (fv 1) (T.free 12) rfl (T.free 1) rfl (by decide +kernel))) (fs_cons (fs_if (ft_bool (fw_or (ft_not (ft_val (fe_isT .lst (fv 0) (T.free 12) rfl (T.free 1) rfl (by decide +kernel)))) (fw_or1 (ft_cmp (op_neD (Nat.lt_of_le_of_lt (Nat.add_le_add_left (by decide : 64 ≤ 65) _) (HF.Room.u65 hr))) of_ne (fe_b call_len bf_len rfl (T.free 3) (by decide +kernel) (fa_cons (fv 0) fa_nil)) (fe_b call_len bf_len rfl (T.free 3) (by decide +kernel) (fa_cons (fv 1) fa_nil)) (nomark _))))) (fs_one (fs_ret fe_bl)) fs_nil)
    (fs_one (fs_ret (fe_b (cr_all rfl) bf_all rfl (T.free 26) (by decide +kernel) (fa_cons (fe_lc (own := [("_law_a", 2), ("_law_b", 3)]) (is := ([2] ++ ([3] ++ []))) rfl nd (fi_z rfl (T.free 34) (fa_cons (fv 0) (fa_cons (fv 1) fa_nil))) (blkOk_by (N := [("_law_found" : Str), ("_law_due" : Str), ("_law_a" : Str), ("_law_b" : Str)]) (sc := defScope s__law_same) (by decide +kernel)) (fun _ _ _ _ _ _ => (fg_q rfl (fgs_cons (fg_n (i := 2) nd rfl (Or.inl rfl)) (fgs_cons (fg_n (i := 3) nd rfl (Or.inl rfl)) fgs_nil)))) (fun _ _ _ _ _ _ => ft_nil) (fun _ _ _ _ _ _ => (fcall (hj := Nat.le_refl _) F0.1 F0.2 hr (T.glo 33) (fc_kw (fa_cons (fv 2) (fa_cons (fv 3) fa_nil)) fk_nil) (kl_of al_nil)))) fa_nil))))) fs_nil)
    (fs_cons (fs_if (ft_val (fe_isT .tup (fv 1) (T.free 12) rfl (T.free 35) rfl (by decide +kernel))) (fs_cons (fs_if (ft_bool (fw_or (ft_not (ft_val (fe_isT .tup (fv 0) (T.free 12) rfl (T.free 35) rfl (by decide +kernel)))) (fw_or1 (ft_cmp (op_neD (Nat.lt_of_le_of_lt (Nat.add_le_add_left (by decide : 64 ≤ 65) _) (HF.Room.u65 hr))) of_ne (fe_b call_len bf_len rfl (T.free 3) (by decide +kernel) (fa_cons (fv 0) fa_nil)) (fe_b call_len bf_len rfl (T.free 3) (by decide +kernel) (fa_cons (fv 1) fa_nil)) (nomark _))))) (fs_one (fs_ret fe_bl)) fs_nil)
    (fs_one (fs_ret (fe_b (cr_all rfl) bf_all rfl (T.free 26) (by decide +kernel) (fa_cons (fe_lc (own := [("_law_a", 2), ("_law_b", 3)]) (is := ([2] ++ ([3] ++ []))) rfl nd (fi_z rfl (T.free 34) (fa_cons (fv 0) (fa_cons (fv 1) fa_nil))) (blkOk_by (N := [("_law_found" : Str), ("_law_due" : Str), ("_law_a" : Str), ("_law_b" : Str)]) (sc := defScope s__law_same) (by decide +kernel)) (fun _ _ _ _ _ _ => (fg_q rfl (fgs_cons (fg_n (i := 2) nd rfl (Or.inl rfl)) (fgs_cons (fg_n (i := 3) nd rfl (Or.inl rfl)) fgs_nil)))) (fun _ _ _ _ _ _ => ft_nil) (fun _ _ _ _ _ _ => (fcall (hj := Nat.le_refl _) F0.1 F0.2 hr (T.glo 33) (fc_kw (fa_cons (fv 2) (fa_cons (fv 3) fa_nil)) fk_nil) (kl_of al_nil)))) fa_nil))))) fs_nil)
    (fs_cons (fs_if (ft_val (fe_isT .bl (fv 1) (T.free 12) rfl (T.free 13) rfl (by decide +kernel))) (fs_one (fs_ret (fe_and (fe_isT .bl (fv 0) (T.free 12) rfl (T.free 13) rfl (by decide +kernel)) (fe_one (fe_cmp (op_eqD (Nat.lt_of_le_of_lt (Nat.add_le_add_left (by decide : 64 ≤ 65) _) (HF.Room.u65 hr))) of_eq (fv 0) (fv 1) (nomark _)))))) fs_nil)
    (fs_cons (fs_if (ft_val (fe_isT .int (fv 1) (T.free 12) rfl (T.free 0) rfl (by decide +kernel))) (fs_cons (fs_if (ft_not (ft_val (fe_isT .int (fv 0) (T.free 12) rfl (T.free 0) rfl (by decide +kernel)))) (fs_one (fs_ret fe_bl)) fs_nil)
    (fs_one (fs_ret (fe_and (fe_not (fe_isT .bl (fv 0) (T.free 12) rfl (T.free 13) rfl (by decide +kernel))) (fe_one (fe_cmp (op_eqD (Nat.lt_of_le_of_lt (Nat.add_le_add_left (by decide : 64 ≤ 65) _) (HF.Room.u65 hr))) of_eq (fv 0) (fv 1) (nomark _))))))) fs_nil)
    (fs_one (fs_ret (fe_and (fe_isT .str (fv 0) (T.free 12) rfl (T.free 23) rfl (by decide +kernel)) (fe_one (fe_cmp (op_eqD (Nat.lt_of_le_of_lt (Nat.add_le_add_left (by decide : 64 ≤ 65) _) (HF.Room.u65 hr))) of_eq (fv 0) (fv 1) (nomark _)))))))))))
theorem ok_Plan_mode (T : TX K mg fa fx fn) : FnK P w K mg base 1 (He.fAd K ("Plan", some "mode")) cm_Plan_mode := by
  obtain ⟨fd, FD⟩ := T.d 15 (d := d_Plan_mode) rfl
  have nd := sc_Plan_mode.nd
  refine okP FD sc_Plan_mode rfl rfl (fun _ _ _ _ _ _ us hl => match us, hl with | [_, _], _ => rfl) (fun Av cdv A outer s H E hr => ?_)
  exact (fs_cons (fs_if (ft_bool (fw_or (ft_not (ft_val (fe_isT .str (fv 1) (T.free 12) rfl (T.free 23) rfl (by decide +kernel)))) (fw_or1 (ft_ninD (Nat.lt_of_le_of_lt (Nat.add_le_add_left (by decide : 1 ≤ 65) _) (HF.Room.u65 hr)) (fv 1) (fe_attr (hf_table T) (fv 0)))))) (fs_one fs_never) fs_nil)
    (fs_one (fs_ret (fe_dget (Nat.lt_of_le_of_lt (Nat.add_le_add_left (by decide : 1 ≤ 65) _) (HF.Room.u65 hr)) (fe_attr (hf_table T) (fv 0)) (fv 1)))))
theorem ok_mode_line (T : TX K mg fa fx fn) : FnK P w K mg base 2 (He.fAd K ("mode_line", none)) cm_mode_line := by
  obtain ⟨fd, FD⟩ := T.d 16 (d := d_mode_line) rfl
  have nd := sc_mode_line.nd
  refine okP FD sc_mode_line rfl rfl (fun _ _ _ _ _ _ us hl => match us, hl with | [_], _ => rfl) (fun Av cdv A outer s H E hr => ?_)
  exact (fs_cons (fs_set (i := 1) nd rfl (Or.inl rfl) (fe_fs (.cons (fe_fmt (fe_attr (hf_low T) (fv 0))) (.cons fe_str (.cons (fe_fmt (fe_attr (hf_high T) (fv 0))) (.cons fe_str (.cons (fe_fmt (fe_attr (hf_under T) (fv 0))) (.cons fe_str (.cons (fe_fmt (fe_attr (hf_over T) (fv 0))) .nil)))))))))
    (fs_one (fs_ret (fe_fs (.cons fe_str (.cons (fe_fmt (fe_attr (hf_name T) (fv 0))) (.cons fe_str (.cons (fe_fmt (fv 1)) (.cons fe_str (.cons (fe_fmt (fe_m1 PySem.F.slot_str_join PySem.F.type_str_join mt_join mf_join fe_str (fe_meth (T.cls 19) (T.meth 20) (ok_Mode_followers T).1 (hr.mono (by decide)) (fv 0) (fc_kw0 fk_nil) (kl_of al_nil)))) .nil))))))))))
theorem ok_Plan_names (T : TX K mg fa fx fn) : FnK P w K mg base 1 (He.fAd K ("Plan", some "names")) cm_Plan_names := by
  obtain ⟨fd, FD⟩ := T.d 17 (d := d_Plan_names) rfl
  have nd := sc_Plan_names.nd
  refine okP FD sc_Plan_names rfl rfl (fun _ _ _ _ _ _ us hl => match us, hl with | [_], _ => rfl) (fun Av cdv A outer s H E hr => ?_)
  exact (fs_one (fs_ret (fe_ty (cl_list rfl) bf_list rfl (T.free 1) (by decide +kernel) (fa_cons (fe_attr (hf_table T) (fv 0)) fa_nil))))
theorem ok_plan_text (T : TX K mg fa fx fn) : FnK P w K mg base 3 (He.fAd K ("plan_text", none)) cm_plan_text := by
  obtain ⟨fd, FD⟩ := T.d 18 (d := d_plan_text) rfl
  have nd := sc_plan_text.nd
  refine okP FD sc_plan_text rfl rfl (fun _ _ _ _ _ _ us hl => match us, hl with | [_], _ => rfl) (fun Av cdv A outer s H E hr => ?_)
  exact (fs_cons (fs_set (i := 1) nd rfl (Or.inl rfl) (fe_fl (fa_cons (fe_fs (.cons fe_str (.cons (fe_fmt (fe_attr (hf_size T) (fv 0))) (.cons fe_str (.cons (fe_fmt (fe_attr (hf_start T) (fv 0))) .nil))))) (fa_star (fe_lc (own := [("name", 2)]) (is := [2]) rfl nd (fi_q (fe_meth (T.cls 36) (T.meth 39) (ok_Plan_names T).1 (hr.mono (by decide)) (fv 0) (fc_kw0 fk_nil) (kl_of al_nil))) (blkOk_by (N := [("plan" : Str), ("lines" : Str), ("name" : Str), ("line" : Str)]) (sc := defScope s_plan_text) (by decide +kernel)) (fun _ _ _ _ _ _ => (fg_n (i := 2) nd rfl (Or.inl rfl))) (fun _ _ _ _ _ _ => ft_nil) (fun _ _ _ _ _ _ => (fcall (ok_mode_line (P := P) (w := w) (base := base) T).1 (ok_mode_line (P := P) (w := w) (base := base) T).2 hr (T.glo 38) (fc_kw (fa_cons (fe_meth (T.cls 36) (T.meth 37) (ok_Plan_mode T).1 (hr.mono (by decide)) (fv 0) (fc_kw (fa_cons (fv 2) fa_nil) fk_nil) (kl_of al_nil)) fa_nil) fk_nil) (kl_of al_nil)))) fa_nil))))
    (fs_one (fs_ret (fe_m1 PySem.F.slot_str_join PySem.F.type_str_join mt_join mf_join fe_str (fe_lc (own := [("line", 3)]) (is := [3]) rfl nd (fi_q (fv 1)) (blkOk_by (N := [("plan" : Str), ("lines" : Str), ("name" : Str), ("line" : Str)]) (sc := defScope s_plan_text) (by decide +kernel)) (fun _ _ _ _ _ _ => (fg_n (i := 3) nd rfl (Or.inl rfl))) (fun _ _ _ _ _ _ => ft_nil) (fun _ _ _ _ _ _ => (fe_bin op_addA of_add (fv 3) fe_str)))))))
theorem ok__law_mode_line (T : TX K mg fa fx fn) : FnK P w K mg base 1 (He.fAd K ("_law_mode_line", none)) cm__law_mode_line := by
  obtain ⟨fd, FD⟩ := T.d 19 (d := d__law_mode_line) rfl
  have nd := sc__law_mode_line.nd
  refine okP FD sc__law_mode_line rfl rfl (fun _ _ _ _ _ _ us hl => match us, hl with | [_], _ => rfl) (fun Av cdv A outer s H E hr => ?_)
  exact (fs_one (fs_ret (fe_m1 PySem.F.slot_str_join PySem.F.type_str_join mt_join mf_join fe_str (fe_bin op_addA of_add (fe_bin op_addA of_add (fe_bin op_addA of_add (fe_fl (fa_cons fe_str (fa_cons (fe_ix (fv 0) fe_int) fa_nil))) (fe_lc (own := [("_law_number", 1)]) (is := [1]) rfl nd (fi_q (fe_sl (fv 0) (fo_some fe_int) (fo_some fe_int))) (blkOk_by (N := [("_law_row" : Str), ("_law_number" : Str)]) (sc := defScope s__law_mode_line) (by decide +kernel)) (fun _ _ _ _ _ _ => (fg_n (i := 1) nd rfl (Or.inl rfl))) (fun _ _ _ _ _ _ => ft_nil) (fun _ _ _ _ _ _ => (fe_ty call_str_int bf_str rfl (T.free 23) (by decide +kernel) (fa_cons (fv 1) fa_nil))))) (fe_fl (fa_cons fe_str fa_nil))) (fe_ix (fv 0) fe_int)))))
theorem ok__law_plan_text (T : TX K mg fa fx fn) : FnK P w K mg base 2 (He.fAd K ("_law_plan_text", none)) cm__law_plan_text := by
  obtain ⟨fd, FD⟩ := T.d 20 (d := d__law_plan_text) rfl
  have nd := sc__law_plan_text.nd
  refine okP FD sc__law_plan_text rfl rfl (fun _ _ _ _ _ _ us hl => match us, hl with | [_], _ => rfl) (fun Av cdv A outer s H E hr => ?_)
  exact (fs_cons (fs_set (i := 1) nd rfl (Or.inl rfl) (fe_bin op_addA of_add (fe_fl (fa_cons (fe_bin op_addA of_add (fe_bin op_addA of_add (fe_bin op_addA of_add fe_str (fe_ty call_str_int bf_str rfl (T.free 23) (by decide +kernel) (fa_cons (fe_ix (fv 0) fe_int) fa_nil))) fe_str) (fe_ty call_str_int bf_str rfl (T.free 23) (by decide +kernel) (fa_cons (fe_ix (fv 0) fe_int) fa_nil))) fa_nil)) (fe_lc (own := [("_law_row", 2)]) (is := [2]) rfl nd (fi_q (fe_ix (fv 0) fe_int)) (blkOk_by (N := [("_law_shape" : Str), ("_law_lines" : Str), ("_law_row" : Str), ("_law_line" : Str)]) (sc := defScope s__law_plan_text) (by decide +kernel)) (fun _ _ _ _ _ _ => (fg_n (i := 2) nd rfl (Or.inl rfl))) (fun _ _ _ _ _ _ => ft_nil) (fun _ _ _ _ _ _ => (fcall (ok__law_mode_line (P := P) (w := w) (base := base) T).1 (ok__law_mode_line (P := P) (w := w) (base := base) T).2 hr (T.glo 41) (fc_kw (fa_cons (fv 2) fa_nil) fk_nil) (kl_of al_nil))))))
    (fs_one (fs_ret (fe_m1 PySem.F.slot_str_join PySem.F.type_str_join mt_join mf_join fe_str (fe_lc (own := [("_law_line", 3)]) (is := [3]) rfl nd (fi_q (fv 1)) (blkOk_by (N := [("_law_shape" : Str), ("_law_lines" : Str), ("_law_row" : Str), ("_law_line" : Str)]) (sc := defScope s__law_plan_text) (by decide +kernel)) (fun _ _ _ _ _ _ => (fg_n (i := 3) nd rfl (Or.inl rfl))) (fun _ _ _ _ _ _ => ft_nil) (fun _ _ _ _ _ _ => (fe_bin op_addA of_add (fv 3) fe_str)))))))
theorem ok_lines_of (T : TX K mg fa fx fn) : FnK P w K mg base 1 (He.fAd K ("lines_of", none)) cm_lines_of := by
  obtain ⟨fd, FD⟩ := T.d 21 (d := d_lines_of) rfl
  have nd := sc_lines_of.nd
  refine okP FD sc_lines_of rfl rfl (fun _ _ _ _ _ _ us hl => match us, hl with | [_], _ => rfl) (fun Av cdv A outer s H E hr => ?_)
  exact (fs_cons (fs_if (ft_not (ft_val (fe_isT .str (fv 0) (T.free 12) rfl (T.free 23) rfl (by decide +kernel)))) (fs_one fs_never) fs_nil)
    (fs_cons (fs_star (i := 1) (j := 2) rfl nd rfl rfl (by decide) (Or.inl rfl) (Or.inl rfl) (fe_m1 PySem.F.slot_str_split PySem.F.type_str_split mt_split mf_split (fv 0) fe_str))
    (fs_one (fs_ret (fe_tup (fa_cons (fv 1) (fa_cons (fv 2) fa_nil)))))))
theorem ok_read_number (T : TX K mg fa fx fn) : FnK P w K mg base 1 (He.fAd K ("read_number", none)) cm_read_number := by
  obtain ⟨fd, FD⟩ := T.d 22 (d := d_read_number) rfl
  have nd := sc_read_number.nd
  refine okP FD sc_read_number rfl rfl (fun _ _ _ _ _ _ us hl => match us, hl with | [_], _ => rfl) (fun Av cdv A outer s H E hr => ?_)
  exact (fs_cons (fs_set (i := 1) nd rfl (Or.inl rfl) (fe_if (ft_val (fe_m1 PySem.F.slot_str_startswith PySem.F.type_str_startswith mt_startswith mf_starts (fv 0) fe_str)) (fe_sl (fv 0) (fo_some fe_int) fo_none) (fv 0)))
    (fs_cons (fs_if (ft_bool (fw_or (ft_not (ft_chain op_le op_le of_le of_le fe_int (fe_b call_len bf_len rfl (T.free 3) (by decide +kernel) (fa_cons (fv 1) fa_nil)) (fg_int (T.int 44)))) (fw_or1 (ft_not (ft_val (fe_b (cr_all rfl) bf_all rfl (T.free 26) (by decide +kernel) (fa_cons (fe_lc (own := [("sign", 2)]) (is := [2]) rfl nd (fi_s (fv 1)) (blkOk_by (N := [("word" : Str), ("digits" : Str), ("sign" : Str)]) (sc := defScope s_read_number) (by decide +kernel)) (fun _ _ _ _ _ _ => (fg_n (i := 2) nd rfl (Or.inl rfl))) (fun _ _ _ _ _ _ => ft_nil) (fun _ _ _ _ _ _ => (fe_cmp op_in_sign of_inS (fv 2) fe_str rfl))) fa_nil))))))) (fs_one (fs_ret fe_non)) fs_nil)
    (fs_cons (fs_if (ft_bool (fw_and (ft_val (fe_m1 PySem.F.slot_str_startswith PySem.F.type_str_startswith mt_startswith mf_starts (fv 1) fe_str)) (fw_and1 (ft_cmp (op_neD (Nat.lt_of_le_of_lt (Nat.add_le_add_left (by decide : 64 ≤ 65) _) (HF.Room.u65 hr))) of_ne (fv 0) fe_str (nomark _))))) (fs_one (fs_ret fe_non)) fs_nil)
    (fs_one (fs_ret (fe_ty call_int_str bf_intS rfl (T.free 0) (by decide +kernel) (fa_cons (fv 0) fa_nil)))))))
theorem ok_read_numbers (T : TX K mg fa fx fn) : FnK P w K mg base 2 (He.fAd K ("read_numbers", none)) cm_read_numbers := by
  obtain ⟨fd, FD⟩ := T.d 23 (d := d_read_numbers) rfl
  have nd := sc_read_numbers.nd
  refine okP FD sc_read_numbers rfl rfl (fun _ _ _ _ _ _ us hl => match us, hl with | [_], _ => rfl) (fun Av cdv A outer s H E hr => ?_)
  exact (fs_cons (fs_setLc (own := [("word", 2)]) (is := [2]) (i := 1) rfl nd rfl rfl (sw_true rfl rfl rfl (by decide +kernel)) (fi_q (fv 0)) (blkOk_by (N := [("words" : Str), ("found" : Str), ("word" : Str)]) (sc := defScope s_read_numbers) (by decide +kernel)) (fun _ _ _ _ _ _ => (fg_n (i := 2) nd rfl (Or.inl rfl))) (fun _ _ _ _ _ _ => ft_nil) (fun _ _ _ _ _ _ => (fcall (ok_read_number (P := P) (w := w) (base := base) T).1 (ok_read_number (P := P) (w := w) (base := base) T).2 hr (T.glo 45) (fc_kw (fa_cons (fv 2) fa_nil) fk_nil) (kl_of al_nil))))
    (fs_one (fs_ret (fe_if (ft_cmp (op_inD (HF.Room.u65 hr)) of_inL fe_non (fv 1) rfl) fe_non (fv 1)))))
end
end PF
set_option Elab.async false
set_option linter.all false
set_option maxRecDepth 100000
set_option maxHeartbeats 4000000
namespace PF
open PySem PySem.Spec PyProof.Rows L2 HF
section
variable {P : Program} {w : World} {K : PySem.W.Frag} {mg : Str → Option Value} {base : Heap}
theorem ok_Mode_idle (T : TX K mg fa fx fn) : FnK P w K mg base 4 (wfA K "Mode" "idle") cm_Mode_idle := by
  obtain ⟨fd, FD⟩ := T.ds 24 (d := d_Mode_idle) rfl
  have nd := sc_Mode_idle.nd
  have pr : ∀ (Av : Addr → Prop) (cdv : Value) (A : Around) (outer : List Env) (s : Shared) (H : Hp) (E : XK), Room 3 (A.deeper (envOfC "Mode.idle" (defScope s_Mode_idle) s.heap.objs.size (wfA K "Mode" "idle") cdv)) → PSs ((cxOf HF.CX0 P w K mg base [("name" : Str), ("followers" : Str)] "Mode.idle" (defScope s_Mode_idle) (wfA K "Mode" "idle") cdv A outer s H E).nox) (defBody s_Mode_idle) (tFS K Av b_Mode_idle) := fun Av cdv A outer s H E hr => by
    exact (fs_one (fs_ret (fe_mkP (T.mkr 29) (ok_Mode___init__ T).1 (hr.mono (by decide)) rfl (T.glo 18) (fc_kw (fa_cons (fv 0) (fa_cons fe_int (fa_cons fe_int (fa_star (fv 1) fa_nil)))) fk_nil) (kl_of al_nil))))
  exact ⟨(fnB_star (P0 := ["name"]) (KW := []) (pv := "followers") FD sc_Mode_idle [] [] [] [] (by intro q hq; cases hq) (fun T H r => .nil) (fun α ws ms h1 h2 => match ws, ms, h1, h2 with | [], [], _, _ => rfl) (fun kV doc pm an cdv ct D us rest ws ms hk h1 h2 h3 => by match us, rest, ws, ms, h1, h2, h3 with | [_], [], [], [], _, _, _ => exact kwT0 rfl | [_], _ :: _, [], [], _, _, _ => exact kwT0 rfl) (fun Av cdv A outer s H E hr => pr Av cdv A outer s H E hr)), FD.kp⟩
theorem ok_store_in (T : TX K mg fa fx fn) : FnK P w K mg base 5 (He.fAd K ("store_in", none)) cm_store_in := by
  obtain ⟨fd, FD⟩ := T.d 25 (d := d_store_in) rfl
  have nd := sc_store_in.nd
  refine okP FD sc_store_in rfl rfl (fun _ _ _ _ _ _ us hl => match us, hl with | [_], _ => rfl) (fun Av cdv A outer s H E hr => ?_)
  exact (fs_cons (fs_set (i := 1) nd rfl (Or.inl rfl) (fe_m1 PySem.F.slot_str_split PySem.F.type_str_split mt_split mf_split (fv 0) fe_str))
    (fs_cons (fs_set (i := 2) nd rfl (Or.inl rfl) (fcall (ok_read_numbers (P := P) (w := w) (base := base) T).1 (ok_read_numbers (P := P) (w := w) (base := base) T).2 hr (T.glo 46) (fc_kw (fa_cons (fe_sl (fv 1) (fo_some fe_int) fo_none) fa_nil) fk_nil) (kl_of al_nil)))
    (fs_cons (fs_if (ft_bool (fw_or (ft_cmp (op_neD (Nat.lt_of_le_of_lt (Nat.add_le_add_left (by decide : 64 ≤ 65) _) (HF.Room.u65 hr))) of_ne (fe_ix (fv 1) fe_int) fe_str (nomark _)) (fw_or (ft_cmp op_isN of_is (fv 2) fe_non (nomark _)) (fw_or1 (ft_cmp (op_neD (Nat.lt_of_le_of_lt (Nat.add_le_add_left (by decide : 64 ≤ 65) _) (HF.Room.u65 hr))) of_ne (fe_b call_len bf_len rfl (T.free 3) (by decide +kernel) (fa_cons (fv 2) fa_nil)) fe_int (nomark _)))))) (fs_one (fs_ret fe_non)) fs_nil)
    (fs_cons (fs_asg (is := ([3] ++ ([4] ++ []))) (fv 2) (fg_q rfl (fgs_cons (fg_n (i := 3) nd rfl (Or.inl rfl)) (fgs_cons (fg_n (i := 4) nd rfl (Or.inl rfl)) fgs_nil))))
    (fs_cons (fs_try (fs_one (fs_ex (fe_mkP (T.mkr 21) (ok_Plan___init__ T).1 (hr.mono (by decide)) rfl (T.glo 22) (fc_kw (fa_cons (fv 3) (fa_cons (fe_st (T.glo 18) rfl (T.stm 2) (ok_Mode_idle T).1 (hr.mono (by decide)) (fc_kw (fa_cons fe_str fa_nil) fk_nil) (kl_of al_nil)) fa_nil)) (fk_cons (fv 4) fk_nil)) (kl_of (al_cons al_nil))))))
    (fs_one (fs_ret (fe_tup (fa_cons (fv 3) (fa_cons (fv 4) fa_nil))))))))))
theorem ok_mode_in (T : TX K mg fa fx fn) : FnK P w K mg base 4 (He.fAd K ("mode_in", none)) cm_mode_in := by
  obtain ⟨fd, FD⟩ := T.d 26 (d := d_mode_in) rfl
  have nd := sc_mode_in.nd
  refine okP FD sc_mode_in rfl rfl (fun _ _ _ _ _ _ us hl => match us, hl with | [_], _ => rfl) (fun Av cdv A outer s H E hr => ?_)
  exact (fs_cons (fs_set (i := 1) nd rfl (Or.inl rfl) (fe_m1 PySem.F.slot_str_split PySem.F.type_str_split mt_split mf_split (fv 0) fe_str))
    (fs_cons (fs_if (ft_bool (fw_or (ft_cmp op_lt of_lt (fe_b call_len bf_len rfl (T.free 3) (by decide +kernel) (fa_cons (fv 1) fa_nil)) fe_int (nomark _)) (fw_or (ft_cmp (op_neD (Nat.lt_of_le_of_lt (Nat.add_le_add_left (by decide : 64 ≤ 65) _) (HF.Room.u65 hr))) of_ne (fe_ix (fv 1) fe_int) fe_str (nomark _)) (fw_or1 (ft_cmp (op_neD (Nat.lt_of_le_of_lt (Nat.add_le_add_left (by decide : 64 ≤ 65) _) (HF.Room.u65 hr))) of_ne (fe_ix (fv 1) fe_int) fe_str (nomark _)))))) (fs_one (fs_ret fe_non)) fs_nil)
    (fs_cons (fs_set (i := 2) nd rfl (Or.inl rfl) (fcall (ok_read_numbers (P := P) (w := w) (base := base) T).1 (ok_read_numbers (P := P) (w := w) (base := base) T).2 hr (T.glo 46) (fc_kw (fa_cons (fe_sl (fv 1) (fo_some fe_int) (fo_some fe_int)) fa_nil) fk_nil) (kl_of al_nil)))
    (fs_cons (fs_if (ft_cmp op_isN of_is (fv 2) fe_non (nomark _)) (fs_one (fs_ret fe_non)) fs_nil)
    (fs_cons (fs_par (i := 3) (j := 4) rfl nd rfl rfl (by decide) rfl rfl (fa_cons (fe_ix (fv 1) fe_int) (fa_cons (fe_sl (fv 1) (fo_some fe_int) fo_none) fa_nil)))
    (fs_cons (fs_asg (is := ([5] ++ ([6] ++ ([7] ++ ([8] ++ []))))) (fv 2) (fg_q rfl (fgs_cons (fg_n (i := 5) nd rfl (Or.inl rfl)) (fgs_cons (fg_n (i := 6) nd rfl (Or.inl rfl)) (fgs_cons (fg_n (i := 7) nd rfl (Or.inl rfl)) (fgs_cons (fg_n (i := 8) nd rfl (Or.inl rfl)) fgs_nil))))))
    (fs_one (fs_try (fs_one (fs_ret (fe_mkP (T.mkr 29) (ok_Mode___init__ T).1 (hr.mono (by decide)) rfl (T.glo 18) (fc_kw (fa_cons (fv 3) (fa_cons (fv 5) (fa_cons (fv 6) (fa_star (fv 4) fa_nil)))) (fk_cons (fv 7) (fk_cons (fv 8) fk_nil))) (kl_of (al_cons (al_cons al_nil))))))))))))))
theorem ok_read_plan (T : TX K mg fa fx fn) : FnK P w K mg base 6 (He.fAd K ("read_plan", none)) cm_read_plan := by
  obtain ⟨fd, FD⟩ := T.d 27 (d := d_read_plan) rfl
  have nd := sc_read_plan.nd
  refine okP FD sc_read_plan rfl rfl (fun _ _ _ _ _ _ us hl => match us, hl with | [_], _ => rfl) (fun Av cdv A outer s H E hr => ?_)
  exact (fs_cons (fs_asg (is := ([1] ++ ([2] ++ []))) (fcall (ok_lines_of (P := P) (w := w) (base := base) T).1 (ok_lines_of (P := P) (w := w) (base := base) T).2 hr (T.glo 43) (fc_kw (fa_cons (fv 0) fa_nil) fk_nil) (kl_of al_nil)) (fg_q rfl (fgs_cons (fg_n (i := 1) nd rfl (Or.inl rfl)) (fgs_cons (fg_n (i := 2) nd rfl (Or.inl rfl)) fgs_nil))))
    (fs_cons (fs_par (i := 3) (j := 4) rfl nd rfl rfl (by decide) rfl rfl (fa_cons fe_non (fa_cons (fe_tl fa_nil) fa_nil)))
    (fs_cons (fs_for (is := ([5] ++ ([6] ++ []))) rfl (fi_alt (fi_e rfl (T.free 17) (fa_cons (fv 1) fa_nil)) (fi_eT rfl (T.free 17) (fa_cons (fv 1) fa_nil))) (fg_q rfl (fgs_cons (fg_n (i := 5) nd rfl (Or.inl rfl)) (fgs_cons (fg_n (i := 6) nd rfl (Or.inl rfl)) fgs_nil))) (fs_cons (fs_if (ft_cmp (op_eqD (Nat.lt_of_le_of_lt (Nat.add_le_add_left (by decide : 64 ≤ 65) _) (HF.Room.u65 hr))) of_eq (fv 5) fe_int (nomark _)) (fs_cons (fs_set (i := 3) nd rfl (Or.inl rfl) (fcall (ok_store_in (P := P) (w := w) (base := base) T).1 (ok_store_in (P := P) (w := w) (base := base) T).2 hr (T.glo 47) (fc_kw (fa_cons (fv 6) fa_nil) fk_nil) (kl_of al_nil)))
    (fs_cons (fs_if (ft_cmp op_isN of_is (fv 3) fe_non (nomark _)) (fs_one fs_never) fs_nil)
    (fs_one fs_cont))) fs_nil)
    (fs_cons (fs_set (i := 7) nd rfl (Or.inl rfl) (fcall (ok_mode_in (P := P) (w := w) (base := base) T).1 (ok_mode_in (P := P) (w := w) (base := base) T).2 hr (T.glo 48) (fc_kw (fa_cons (fv 6) fa_nil) fk_nil) (kl_of al_nil)))
    (fs_cons (fs_if (ft_bool (fw_or (ft_cmp op_isN of_is (fv 7) fe_non (nomark _)) (fw_or (ft_cmp (op_inD (HF.Room.u65 hr)) of_inL (fe_attr (hf_name T) (fv 7)) (fe_lcT 1000 (own := [("own", 10)]) (is := [10]) rfl nd (fv 4) (blkOk_by (N := [("text" : Str), ("rows" : Str), ("tail" : Str), ("first" : Str), ("modes" : Str), ("at" : Str), ("line" : Str), ("mode" : Str), ("size" : Str), ("start" : Str), ("own" : Str)]) (sc := defScope s_read_plan) (by decide +kernel)) (fun _ _ _ _ _ _ => (fg_n (i := 10) nd rfl (Or.inl rfl))) (fun _ _ _ _ _ _ => ft_nil) (fun _ _ _ _ _ _ => (fe_attr (hf_name T) (fv 10)))) rfl) (fw_or1 (ft_cmp op_ge of_ge (fe_b call_len bf_len rfl (T.free 3) (by decide +kernel) (fa_cons (fv 4) fa_nil)) (fg_int (T.int 16)) (nomark _)))))) (fs_one fs_never) fs_nil)
    (fs_one (fs_ex (fe_lm PySem.F.slot_list_append PySem.F.type_list_append mt_append mf_append (fv 4) (fa_cons (fv 7) fa_nil))))))) PassesOwn.never)
    (fs_cons (fs_if (ft_bool (fw_or (ft_cmp (op_neD (Nat.lt_of_le_of_lt (Nat.add_le_add_left (by decide : 64 ≤ 65) _) (HF.Room.u65 hr))) of_ne (fv 2) fe_str (nomark _)) (fw_or1 (ft_cmp (op_eqLen (Nat.lt_of_le_of_lt (Nat.le_add_right _ 65) (HF.Room.u65 hr))) of_eqLen (fv 4) (fe_fl fa_nil) (nomark _))))) (fs_one fs_never) fs_nil)
    (fs_cons (fs_asg (is := ([8] ++ ([9] ++ []))) (fv 3) (fg_q rfl (fgs_cons (fg_n (i := 8) nd rfl (Or.inl rfl)) (fgs_cons (fg_n (i := 9) nd rfl (Or.inl rfl)) fgs_nil))))
    (fs_one (fs_try (fs_one (fs_ret (fe_mkP (T.mkr 21) (ok_Plan___init__ T).1 (hr.mono (by decide)) rfl (T.glo 22) (fc_kw (fa_cons (fv 8) (fa_star (fv 4) fa_nil)) (fk_cons (fv 9) fk_nil)) (kl_of (al_cons al_nil))))))))))))
theorem ok_Mode_parts (T : TX K mg fa fx fn) : FnK P w K mg base 1 (He.fAd K ("Mode", some "parts")) cm_Mode_parts := by
  obtain ⟨fd, FD⟩ := T.d 28 (d := d_Mode_parts) rfl
  have nd := sc_Mode_parts.nd
  refine okP FD sc_Mode_parts rfl rfl (fun _ _ _ _ _ _ us hl => match us, hl with | [_], _ => rfl) (fun Av cdv A outer s H E hr => ?_)
  exact (fs_one (fs_ret (fe_tup (fa_cons (fe_attr (hf_name T) (fv 0)) (fa_cons (fe_attr (hf_low T) (fv 0)) (fa_cons (fe_attr (hf_high T) (fv 0)) (fa_cons (fe_attr (hf_under T) (fv 0)) (fa_cons (fe_attr (hf_over T) (fv 0)) (fa_cons (fe_attr (hf_next_names T) (fv 0)) fa_nil)))))))))
theorem ok_Mode___eq__ (T : TX K mg fa fx fn) : FnK P w K mg base 2 (He.fAd K ("Mode", some "__eq__")) cm_Mode___eq__ := by
  obtain ⟨fd, FD⟩ := T.d 29 (d := d_Mode___eq__) rfl
  have nd := sc_Mode___eq__.nd
  refine okP FD sc_Mode___eq__ rfl rfl (fun _ _ _ _ _ _ us hl => match us, hl with | [_, _], _ => rfl) (fun Av cdv A outer s H E hr => ?_)
  exact (fs_one (fs_ret (fe_and (fe_isC (fv 1) (T.free 12) rfl (T.glo 18) rfl (T.isc 0 (T.cls 19)) (T.kit 1) (fun _ h => by cases h)) (fe_one (fe_cmp (op_eqD (Nat.lt_of_le_of_lt (Nat.add_le_add_left (by decide : 64 ≤ 65) _) (HF.Room.u65 hr))) of_eq (fe_meth (T.cls 19) (T.meth 50) (ok_Mode_parts T).1 (hr.mono (by decide)) (fv 0) (fc_kw0 fk_nil) (kl_of al_nil)) (fe_meth (T.cls 19) (T.meth 50) (ok_Mode_parts T).1 (hr.mono (by decide)) (fv 1) (fc_kw0 fk_nil) (kl_of al_nil)) (nomark _))))))
theorem ok_Plan___eq__ (T : TX K mg fa fx fn) : FnK P w K mg base 3 (He.fAd K ("Plan", some "__eq__")) cm_Plan___eq__ := by
  obtain ⟨fd, FD⟩ := T.d 30 (d := d_Plan___eq__) rfl
  have nd := sc_Plan___eq__.nd
  refine okP FD sc_Plan___eq__ rfl rfl (fun _ _ _ _ _ _ us hl => match us, hl with | [_, _], _ => rfl) (fun Av cdv A outer s H E hr => ?_)
  exact (fs_cons (fs_if (ft_bool (fw_or (ft_not (ft_val (fe_isC (fv 1) (T.free 12) rfl (T.glo 22) rfl (T.isc 3 (T.cls 36)) (T.kit 4) (fun _ h => by cases h)))) (fw_or1 (ft_cmp (op_neD (Nat.lt_of_le_of_lt (Nat.add_le_add_left (by decide : 64 ≤ 65) _) (HF.Room.u65 hr))) of_ne (fe_meth (T.cls 36) (T.meth 39) (ok_Plan_names T).1 (hr.mono (by decide)) (fv 0) (fc_kw0 fk_nil) (kl_of al_nil)) (fe_meth (T.cls 36) (T.meth 39) (ok_Plan_names T).1 (hr.mono (by decide)) (fv 1) (fc_kw0 fk_nil) (kl_of al_nil)) (nomark _))))) (fs_one (fs_ret fe_bl)) fs_nil)
    (fs_cons (fs_if (ft_bool (fw_or (ft_cmp (op_neD (Nat.lt_of_le_of_lt (Nat.add_le_add_left (by decide : 64 ≤ 65) _) (HF.Room.u65 hr))) of_ne (fe_attr (hf_size T) (fv 0)) (fe_attr (hf_size T) (fv 1)) (nomark _)) (fw_or1 (ft_cmp (op_neD (Nat.lt_of_le_of_lt (Nat.add_le_add_left (by decide : 64 ≤ 65) _) (HF.Room.u65 hr))) of_ne (fe_attr (hf_start T) (fv 0)) (fe_attr (hf_start T) (fv 1)) (nomark _))))) (fs_one (fs_ret fe_bl)) fs_nil)
    (fs_one (fs_ret (fe_b (cr_all rfl) bf_all rfl (T.free 26) (by decide +kernel) (fa_cons (fe_lcK (own := [("name", 2)]) (is := [2]) rfl nd (hf_table T) (i := 0) rfl (by first | exact Or.inl rfl | exact Or.inr (Or.inl rfl) | exact Or.inr (Or.inr rfl)) (blkOk_by (N := [("self" : Str), ("other" : Str), ("name" : Str)]) (sc := defScope s_Plan___eq__) (by decide +kernel)) (fun _ _ _ _ _ _ => (fg_n (i := 2) nd rfl (Or.inl rfl))) (fun _ _ _ _ _ _ => ft_nil) (fun _ _ _ _ _ _ => (fe_cmp (op_ownEq (T.meth 51) (ok_Mode___eq__ T).1 (hr.mono (by decide))) of_own2 (fe_dget (Nat.lt_of_le_of_lt (Nat.add_le_add_left (by decide : 1 ≤ 65) _) (HF.Room.u65 hr)) (fe_attr (hf_table T) (fv 0)) (fv 2)) (fe_dget (Nat.lt_of_le_of_lt (Nat.add_le_add_left (by decide : 1 ≤ 65) _) (HF.Room.u65 hr)) (fe_attr (hf_table T) (fv 1)) (fv 2)) (nomark _)))) fa_nil))))))
theorem ok__law_fixes_drawn (T : TX K mg fa fx fn) : FnK P w K mg base 3 (He.fAd K ("_law_fixes_drawn", none)) cm__law_fixes_drawn := by
  obtain ⟨fd, FD⟩ := T.d 31 (d := d__law_fixes_drawn) rfl
  have nd := sc__law_fixes_drawn.nd
  refine okP FD sc__law_fixes_drawn rfl rfl (fun _ _ _ _ _ _ us hl => match us, hl with | [_, _, _], _ => rfl) (fun Av cdv A outer s H E hr => ?_)
  exact (fs_cons (fs_setLcL (own := [("_law_row", 5)]) (is := [5]) (i := 3) rfl nd rfl rfl (sw_true rfl rfl rfl (by decide +kernel)) (fi_q (fe_fl (fa_cons (fe_tup (fa_cons fe_str fa_nil)) (fa_cons (fe_tup (fa_cons fe_str fa_nil)) fa_nil)))) (blkOk_by (N := [("_law_bag" : Str), ("_law_shape" : Str), ("_law_far" : Str), ("_law_found" : Str), ("_law_mode" : Str), ("_law_row" : Str)]) (sc := defScope s__law_fixes_drawn) (by decide +kernel)) (fun _ _ _ _ _ _ => (fg_n (i := 5) nd rfl (Or.inl rfl))) (fun _ _ _ _ _ _ => (ft_one (ft_cmp (op_eqD (Nat.lt_of_le_of_lt (Nat.add_le_add_left (by decide : 64 ≤ 65) _) (HF.Room.u65 hr))) of_eq (fcall (ok__law_pull (P := P) (w := w) (base := base) T).1 (ok__law_pull (P := P) (w := w) (base := base) T).2 hr (T.glo 5) (fc_kw (fa_cons (fv 0) (fa_cons fe_int fa_nil)) fk_nil) (kl_of al_nil)) fe_int (nomark _)))) (fun _ _ _ _ _ _ => (fv 5)))
    (fs_cons (fs_for (is := [4]) rfl (fi_q (fe_ix (fv 1) fe_int)) (fg_n (i := 4) nd rfl (Or.inl rfl)) (fs_one (fs_if (ft_cmp op_gt of_gt (fcall (ok__law_pull (P := P) (w := w) (base := base) T).1 (ok__law_pull (P := P) (w := w) (base := base) T).2 hr (T.glo 5) (fc_kw (fa_cons (fv 0) (fa_cons fe_int fa_nil)) fk_nil) (kl_of al_nil)) fe_int (nomark _)) (fs_one (fs_ex (fe_lm PySem.F.slot_list_append PySem.F.type_list_append mt_append mf_append (fv 3) (fa_cons (fe_tup (fa_cons (fcall (ok__law_pick (P := P) (w := w) (base := base) T).1 (ok__law_pick (P := P) (w := w) (base := base) T).2 hr (T.glo 6) (fc_kw (fa_cons (fv 0) (fa_cons (fe_fl (fa_cons fe_str (fa_cons fe_str fa_nil))) fa_nil)) fk_nil) (kl_of al_nil)) (fa_cons (fe_ix (fv 4) fe_int) (fa_cons (fcall (ok__law_pick (P := P) (w := w) (base := base) T).1 (ok__law_pick (P := P) (w := w) (base := base) T).2 hr (T.glo 6) (fc_kw (fa_cons (fv 0) (fa_cons (fe_fl (fa_cons fe_int (fa_cons fe_int (fa_cons fe_int (fa_cons fe_int (fa_cons fe_int fa_nil)))))) fa_nil)) fk_nil) (kl_of al_nil)) (fa_cons (fcall (ok__law_pull (P := P) (w := w) (base := base) T).1 (ok__law_pull (P := P) (w := w) (base := base) T).2 hr (T.glo 5) (fc_kw (fa_cons (fv 0) (fa_cons (fe_bin op_addA of_add (fv 2) fe_int) fa_nil)) fk_nil) (kl_of al_nil)) fa_nil))))) fa_nil)))) fs_nil)) PassesOwn.never)
    (fs_fz 3 (fs_one (fs_ret (fcall (ok__law_mixed (P := P) (w := w) (base := base) T).1 (ok__law_mixed (P := P) (w := w) (base := base) T).2 hr (T.glo 10) (fc_kw (fa_cons (fv 0) (fa_cons (fv 3) fa_nil)) fk_nil) (kl_of al_nil)))))))
theorem ok_is_correction (T : TX K mg fa fx fn) : FnK P w K mg base 2 (He.fAd K ("is_correction", none)) cm_is_correction := by
  obtain ⟨fd, FD⟩ := T.d 32 (d := d_is_correction) rfl
  have nd := sc_is_correction.nd
  refine okP FD sc_is_correction rfl rfl (fun _ _ _ _ _ _ us hl => match us, hl with | [_], _ => rfl) (fun Av cdv A outer s H E hr => ?_)
  exact (fs_cons (fs_if (ft_bool (fw_or (ft_not (ft_val (fe_isT .tup (fv 0) (T.free 12) rfl (T.free 35) rfl (by decide +kernel)))) (fw_or (ft_cmp (op_eqD (Nat.lt_of_le_of_lt (Nat.add_le_add_left (by decide : 64 ≤ 65) _) (HF.Room.u65 hr))) of_eq (fe_b call_len bf_len rfl (T.free 3) (by decide +kernel) (fa_cons (fv 0) fa_nil)) fe_int (nomark _)) (fw_or1 (ft_not (ft_val (fe_isT .str (fe_ix (fv 0) fe_int) (T.free 12) rfl (T.free 23) rfl (by decide +kernel)))))))) (fs_one (fs_ret fe_bl)) fs_nil)
    (fs_cons (fs_if (ft_cmp op_in_seq of_inT (fe_ix (fv 0) fe_int) (fg_kt (T.glo 54) (T.kt 6)) rfl) (fs_one (fs_ret (fe_cmp (op_eqD (Nat.lt_of_le_of_lt (Nat.add_le_add_left (by decide : 64 ≤ 65) _) (HF.Room.u65 hr))) of_eq (fe_b call_len bf_len rfl (T.free 3) (by decide +kernel) (fa_cons (fv 0) fa_nil)) fe_int (nomark _)))) fs_nil)
    (fs_cons (fs_if (ft_bool (fw_or (ft_cmp op_notIn_seq of_ninT (fe_ix (fv 0) fe_int) (fg_kt (T.glo 55) (T.kt 7)) rfl) (fw_or1 (ft_cmp (op_neD (Nat.lt_of_le_of_lt (Nat.add_le_add_left (by decide : 64 ≤ 65) _) (HF.Room.u65 hr))) of_ne (fe_b call_len bf_len rfl (T.free 3) (by decide +kernel) (fa_cons (fv 0) fa_nil)) fe_int (nomark _))))) (fs_one (fs_ret fe_bl)) fs_nil)
    (fs_one (fs_ret (fe_and (fcall (ok_is_name (P := P) (w := w) (base := base) T).1 (ok_is_name (P := P) (w := w) (base := base) T).2 hr (T.glo 27) (fc_kw (fa_cons (fe_ix (fv 0) fe_int) fa_nil) fk_nil) (kl_of al_nil)) (fe_and (fcall (ok_is_number (P := P) (w := w) (base := base) T).1 (ok_is_number (P := P) (w := w) (base := base) T).2 hr (T.glo 15) (fc_kw (fa_cons (fe_ix (fv 0) fe_int) (fa_cons fe_int (fa_cons (fg_int (T.int 56)) fa_nil))) fk_nil) (kl_of al_nil)) (fe_one (fcall (ok_is_number (P := P) (w := w) (base := base) T).1 (ok_is_number (P := P) (w := w) (base := base) T).2 hr (T.glo 15) (fc_kw (fa_cons (fe_ix (fv 0) fe_int) (fa_cons fe_int (fa_cons (fg_int (T.int 28)) fa_nil))) fk_nil) (kl_of al_nil))))))))))
theorem ok_key_of (T : TX K mg fa fx fn) : FnK P w K mg base 1 (He.fAd K ("key_of", none)) cm_key_of := by
  obtain ⟨fd, FD⟩ := T.d 33 (d := d_key_of) rfl
  have nd := sc_key_of.nd
  refine okP FD sc_key_of rfl rfl (fun _ _ _ _ _ _ us hl => match us, hl with | [_], _ => rfl) (fun Av cdv A outer s H E hr => ?_)
  exact (fs_one (fs_ret (fe_if (ft_cmp (op_eqD (Nat.lt_of_le_of_lt (Nat.add_le_add_left (by decide : 64 ≤ 65) _) (HF.Room.u65 hr))) of_eq (fe_b call_len bf_len rfl (T.free 3) (by decide +kernel) (fa_cons (fv 0) fa_nil)) fe_int (nomark _)) (fe_sl (fv 0) fo_none (fo_some fe_int)) (fe_tup (fa_cons fe_str (fa_cons (fe_ix (fv 0) fe_int) fa_nil))))))
theorem ok_Gauge___init__ (T : TX K mg fa fx fn) : FnK P w K mg base 3 (He.fAd K ("Gauge", some "__init__")) cm_Gauge___init__ := by
  obtain ⟨fd, FD⟩ := T.d 34 (d := d_Gauge___init__) rfl
  have nd := sc_Gauge___init__.nd
  have pr : ∀ (Av : Addr → Prop) (cdv : Value) (A : Around) (outer : List Env) (s : Shared) (H : Hp) (E : XK), Room 2 (A.deeper (envOfC "Gauge.__init__" (defScope s_Gauge___init__) s.heap.objs.size (He.fAd K ("Gauge", some "__init__")) cdv)) → PSs ((cxOf HF.CX0 P w K mg base [("self" : Str), ("corrections" : Str), ("at" : Str), ("value" : Str), ("elder" : Str)] "Gauge.__init__" (defScope s_Gauge___init__) (He.fAd K ("Gauge", some "__init__")) cdv A outer s H E).nox) (defBody s_Gauge___init__) (tFS K Av b_Gauge___init__) := fun Av cdv A outer s H E hr => by
    exact (fs_cons (fs_for (is := ([2] ++ ([3] ++ []))) rfl (fi_alt (fi_e rfl (T.free 17) (fa_cons (fv 1) fa_nil)) (fi_eT rfl (T.free 17) (fa_cons (fv 1) fa_nil))) (fg_q rfl (fgs_cons (fg_n (i := 2) nd rfl (Or.inl rfl)) (fgs_cons (fg_n (i := 3) nd rfl (Or.inl rfl)) fgs_nil))) (fs_cons (fs_if (ft_bool (fw_or (ft_not (ft_val (fcall (ok_is_correction (P := P) (w := w) (base := base) T).1 (ok_is_correction (P := P) (w := w) (base := base) T).2 hr (T.glo 57) (fc_kw (fa_cons (fv 3) fa_nil) fk_nil) (kl_of al_nil)))) (fw_or1 (ft_cmp op_ge of_ge (fv 2) (fg_int (T.int 58)) (nomark _))))) (fs_one fs_never) fs_nil)
    (fs_one (fs_if (ft_cmp (op_inD (HF.Room.u65 hr)) of_inL (fcall (ok_key_of (P := P) (w := w) (base := base) T).1 (ok_key_of (P := P) (w := w) (base := base) T).2 hr (T.glo 59) (fc_kw (fa_cons (fv 3) fa_nil) fk_nil) (kl_of al_nil)) (fe_lc (own := [("elder", 4)]) (is := [4]) rfl nd (fi_q (fe_sl (fv 1) fo_none (fo_some (fv 2)))) (blkOk_by (N := [("self" : Str), ("corrections" : Str), ("at" : Str), ("value" : Str), ("elder" : Str)]) (sc := defScope s_Gauge___init__) (by decide +kernel)) (fun _ _ _ _ _ _ => (fg_n (i := 4) nd rfl (Or.inl rfl))) (fun _ _ _ _ _ _ => ft_nil) (fun _ _ _ _ _ _ => (fcall (ok_key_of (P := P) (w := w) (base := base) T).1 (ok_key_of (P := P) (w := w) (base := base) T).2 hr (T.glo 59) (fc_kw (fa_cons (fv 4) fa_nil) fk_nil) (kl_of al_nil)))) rfl) (fs_one fs_never) fs_nil))) PassesOwn.never)
    (fs_cons (fs_fld (hf_own_corrections T) (fv 0) (fv 1))
    (fs_cons (fs_fld (hf_marks T) (fv 0) (fe_b cr_sortedS bf_sortS rfl (T.free 60) (by decide +kernel) (fa_cons (fe_lc (own := [("value", 3)]) (is := [3]) rfl nd (fi_q (fv 1)) (blkOk_by (N := [("self" : Str), ("corrections" : Str), ("at" : Str), ("value" : Str), ("elder" : Str)]) (sc := defScope s_Gauge___init__) (by decide +kernel)) (fun _ _ _ _ _ _ => (fg_n (i := 3) nd rfl (Or.inl rfl))) (fun _ _ _ _ _ _ => (ft_one (ft_cmp (op_eqD (Nat.lt_of_le_of_lt (Nat.add_le_add_left (by decide : 64 ≤ 65) _) (HF.Room.u65 hr))) of_eq (fe_b call_len bf_len rfl (T.free 3) (by decide +kernel) (fa_cons (fv 3) fa_nil)) fe_int (nomark _)))) (fun _ _ _ _ _ _ => (fe_ix (fv 3) fe_int))) fa_nil)))
    (fs_one (fs_fld (hf_rests T) (fv 0) (fe_dc (own := [("value", 3)]) (is := [3]) rfl nd (fi_q (fv 1)) (blkOk_by (N := [("self" : Str), ("corrections" : Str), ("at" : Str), ("value" : Str), ("elder" : Str)]) (sc := defScope s_Gauge___init__) (by decide +kernel)) (fun _ _ _ _ _ _ => (fg_n (i := 3) nd rfl (Or.inl rfl))) (fun _ _ _ _ _ _ => (ft_one (ft_cmp (op_eqD (Nat.lt_of_le_of_lt (Nat.add_le_add_left (by decide : 64 ≤ 65) _) (HF.Room.u65 hr))) of_eq (fe_b call_len bf_len rfl (T.free 3) (by decide +kernel) (fa_cons (fv 3) fa_nil)) fe_int (nomark _)))) (fun _ _ _ _ _ _ => (fe_ix (fv 3) fe_int)) (fun _ _ _ _ _ _ => (fv 3))))))))
  exact ⟨(fnB_star (P0 := ["self"]) (KW := []) (pv := "corrections") FD sc_Gauge___init__ [] [] [] [] (by intro q hq; cases hq) (fun T H r => .nil) (fun α ws ms h1 h2 => match ws, ms, h1, h2 with | [], [], _, _ => rfl) (fun kV doc pm an cdv ct D us rest ws ms hk h1 h2 h3 => by match us, rest, ws, ms, h1, h2, h3 with | [_], [], [], [], _, _, _ => exact kwT0 rfl | [_], _ :: _, [], [], _, _, _ => exact kwT0 rfl) (fun Av cdv A outer s H E hr => pr Av cdv A outer s H E hr)), FD.kp⟩
theorem ok_Gauge___add__ (T : TX K mg fa fx fn) : FnK P w K mg base 5 (He.fAd K ("Gauge", some "__add__")) cm_Gauge___add__ := by
  obtain ⟨fd, FD⟩ := T.d 35 (d := d_Gauge___add__) rfl
  have nd := sc_Gauge___add__.nd
  refine okP FD sc_Gauge___add__ rfl rfl (fun _ _ _ _ _ _ us hl => match us, hl with | [_, _], _ => rfl) (fun Av cdv A outer s H E hr => ?_)
  exact (fs_cons (fs_set (i := 2) nd rfl (Or.inl rfl) (fe_fl (fa_star (fe_attr (hf_own_corrections T) (fv 0)) (fa_cons (fv 1) fa_nil))))
    (fs_one (fs_ret (fe_mkP (T.mkr 61) (ok_Gauge___init__ T).1 (hr.mono (by decide)) rfl (T.glo 62) (fc_star (fv 2)) (kl_of al_nil)))))
end
end PF
set_option Elab.async false
set_option linter.all false
set_option maxRecDepth 100000
set_option maxHeartbeats 4000000
namespace PF
open PySem PySem.Spec PyProof.Rows L2 HF
section
variable {P : Program} {w : World} {K : PySem.W.Frag} {mg : Str → Option Value} {base : Heap}
theorem ok__law_gauge_made (T : TX K mg fa fx fn) : FnK P w K mg base 6 (He.fAd K ("_law_gauge_made", none)) cm__law_gauge_made := by
  obtain ⟨fd, FD⟩ := T.d 36 (d := d__law_gauge_made) rfl
  have nd := sc__law_gauge_made.nd
  refine okP FD sc__law_gauge_made rfl rfl (fun _ _ _ _ _ _ us hl => match us, hl with | [_], _ => rfl) (fun Av cdv A outer s H E hr => ?_)
  exact (fs_cons (fs_set (i := 1) nd rfl (Or.inl rfl) (fe_mkP (T.mkr 61) (ok_Gauge___init__ T).1 (hr.mono (by decide)) rfl (T.glo 62) (fc_kw0 fk_nil) (kl_of al_nil)))
    (fs_cons (fs_for (is := [2]) rfl (fi_q (fv 0)) (fg_n (i := 2) nd rfl (Or.inl rfl)) (fs_one (fs_set (i := 1) nd rfl (Or.inl rfl) (fe_bin (op_ownAdd (T.sf 8) (T.meth 63) (ok_Gauge___add__ T).1 (hr.mono (by decide))) of_ownAdd (fv 1) (fv 2)))) PassesOwn.never)
    (fs_one (fs_ret (fv 1)))))
theorem ok__law_start_place (T : TX K mg fa fx fn) : FnK P w K mg base 1 (He.fAd K ("_law_start_place", none)) cm__law_start_place := by
  obtain ⟨fd, FD⟩ := T.d 37 (d := d__law_start_place) rfl
  have nd := sc__law_start_place.nd
  refine okP FD sc__law_start_place rfl rfl (fun _ _ _ _ _ _ us hl => match us, hl with | [_], _ => rfl) (fun Av cdv A outer s H E hr => ?_)
  exact (fs_one (fs_ret (fe_tup (fa_cons (fe_ix (fe_ix (fe_ix (fv 0) fe_int) fe_int) fe_int) (fa_cons fe_int (fa_cons (fe_ix (fv 0) fe_int) fa_nil))))))
theorem ok__law_row_of (T : TX K mg fa fx fn) : FnK P w K mg base 1 (He.fAd K ("_law_row_of", none)) cm__law_row_of := by
  obtain ⟨fd, FD⟩ := T.d 38 (d := d__law_row_of) rfl
  have nd := sc__law_row_of.nd
  refine okP FD sc__law_row_of rfl rfl (fun _ _ _ _ _ _ us hl => match us, hl with | [_, _], _ => rfl) (fun Av cdv A outer s H E hr => ?_)
  exact (fs_one (fs_ret (fe_ix (fe_lc (own := [("_law_row", 2)]) (is := [2]) rfl nd (fi_q (fe_ix (fv 0) fe_int)) (blkOk_by (N := [("_law_shape" : Str), ("_law_name" : Str), ("_law_row" : Str)]) (sc := defScope s__law_row_of) (by decide +kernel)) (fun _ _ _ _ _ _ => (fg_n (i := 2) nd rfl (Or.inl rfl))) (fun _ _ _ _ _ _ => (ft_one (ft_cmp (op_eqD (Nat.lt_of_le_of_lt (Nat.add_le_add_left (by decide : 64 ≤ 65) _) (HF.Room.u65 hr))) of_eq (fe_ix (fv 2) fe_int) (fv 1) (nomark _)))) (fun _ _ _ _ _ _ => (fv 2))) fe_int)))
theorem ok__law_entered (T : TX K mg fa fx fn) : FnK P w K mg base 1 (He.fAd K ("_law_entered", none)) cm__law_entered := by
  obtain ⟨fd, FD⟩ := T.d 39 (d := d__law_entered) rfl
  have nd := sc__law_entered.nd
  refine okP FD sc__law_entered rfl rfl (fun _ _ _ _ _ _ us hl => match us, hl with | [_, _, _, _], _ => rfl) (fun Av cdv A outer s H E hr => ?_)
  exact (fs_cons (fs_set (i := 4) nd rfl (Or.inl rfl) (fe_if (ft_cmp (op_eqD (Nat.lt_of_le_of_lt (Nat.add_le_add_left (by decide : 64 ≤ 65) _) (HF.Room.u65 hr))) of_eq (fv 2) (fe_ix (fv 1) fe_int) (nomark _)) (fe_b (cr_min rfl) bf_minL rfl (T.free 11) (by decide +kernel) (fa_cons (fe_fl (fa_cons (fe_bin op_addA of_add (fe_ix (fv 1) fe_int) fe_int) (fa_cons fe_int fa_nil))) fa_nil)) fe_int))
    (fs_one (fs_ret (fe_tup (fa_cons (fv 2) (fa_cons (fv 4) (fa_cons (fe_b (cr_max rfl) bf_maxL rfl (T.free 67) (by decide +kernel) (fa_cons (fe_fl (fa_cons fe_int (fa_cons (fe_b (cr_min rfl) bf_minL rfl (T.free 11) (by decide +kernel) (fa_cons (fe_fl (fa_cons (fe_ix (fv 0) fe_int) (fa_cons (fe_bin op_addA of_add (fe_ix (fv 1) fe_int) (fv 3)) fa_nil))) fa_nil)) fa_nil))) fa_nil)) fa_nil)))))))
theorem ok__law_ticks (T : TX K mg fa fx fn) : FnK P w K mg base 2 (He.fAd K ("_law_ticks", none)) cm__law_ticks := by
  obtain ⟨fd, FD⟩ := T.d 40 (d := d__law_ticks) rfl
  have nd := sc__law_ticks.nd
  refine okP FD sc__law_ticks rfl rfl (fun _ _ _ _ _ _ us hl => match us, hl with | [_, _], _ => rfl) (fun Av cdv A outer s H E hr => ?_)
  exact (fs_cons (fs_set (i := 2) nd rfl (Or.inl rfl) (fe_tl fa_nil))
    (fs_cons (fs_for (is := [3]) rfl (fi_q (fe_ix (fcall (ok__law_row_of (P := P) (w := w) (base := base) T).1 (ok__law_row_of (P := P) (w := w) (base := base) T).2 hr (T.glo 66) (fc_kw (fa_cons (fv 0) (fa_cons (fe_ix (fv 1) fe_int) fa_nil)) fk_nil) (kl_of al_nil)) fe_int)) (fg_n (i := 3) nd rfl (Or.inl rfl)) (fs_cons (fs_set (i := 4) nd rfl (Or.inl rfl) (fcall (ok__law_row_of (P := P) (w := w) (base := base) T).1 (ok__law_row_of (P := P) (w := w) (base := base) T).2 hr (T.glo 66) (fc_kw (fa_cons (fv 0) (fa_cons (fv 3) fa_nil)) fk_nil) (kl_of al_nil)))
    (fs_one (fs_for (is := [5]) rfl (fi_r2 rfl (T.free 7) (fa_cons (fe_ix (fv 4) fe_int) (fa_cons (fe_bin op_addA of_add (fe_ix (fv 4) fe_int) fe_int) fa_nil))) (fg_n (i := 5) nd rfl (Or.inl rfl)) (fs_one (fs_ex (fe_lm PySem.F.slot_list_append PySem.F.type_list_append mt_append mf_append (fv 2) (fa_cons (fe_tup (fa_cons (fv 3) (fa_cons (fv 5) (fa_cons (fcall (ok__law_entered (P := P) (w := w) (base := base) T).1 (ok__law_entered (P := P) (w := w) (base := base) T).2 hr (T.glo 68) (fc_kw (fa_cons (fv 0) (fa_cons (fv 1) (fa_cons (fv 3) (fa_cons (fv 5) fa_nil)))) fk_nil) (kl_of al_nil)) fa_nil)))) fa_nil)))) PassesOwn.never))) PassesOwn.never)
    (fs_one (fs_ret (fe_frz (fv 2))))))
theorem ok__law_rest_at (T : TX K mg fa fx fn) : FnK P w K mg base 1 (He.fAd K ("_law_rest_at", none)) cm__law_rest_at := by
  obtain ⟨fd, FD⟩ := T.d 41 (d := d__law_rest_at) rfl
  have nd := sc__law_rest_at.nd
  refine okP FD sc__law_rest_at rfl rfl (fun _ _ _ _ _ _ us hl => match us, hl with | [_, _], _ => rfl) (fun Av cdv A outer s H E hr => ?_)
  exact (fs_cons (fs_for (is := [2]) rfl (fi_q (fv 0)) (fg_n (i := 2) nd rfl (Or.inl rfl)) (fs_one (fs_if (ft_bool (fw_and (ft_cmp (op_eqD (Nat.lt_of_le_of_lt (Nat.add_le_add_left (by decide : 64 ≤ 65) _) (HF.Room.u65 hr))) of_eq (fe_b call_len bf_len rfl (T.free 3) (by decide +kernel) (fa_cons (fv 2) fa_nil)) fe_int (nomark _)) (fw_and (ft_cmp (op_eqD (Nat.lt_of_le_of_lt (Nat.add_le_add_left (by decide : 64 ≤ 65) _) (HF.Room.u65 hr))) of_eq (fe_ix (fv 2) fe_int) (fe_ix (fv 1) fe_int) (nomark _)) (fw_and1 (ft_cmp op_ge of_ge (fe_ix (fv 1) fe_int) (fe_ix (fv 2) fe_int) (nomark _)))))) (fs_one (fs_ret (fv 2))) fs_nil)) PassesOwn.never)
    (fs_one (fs_ret fe_non)))
theorem ok__law_tick_drawn (T : TX K mg fa fx fn) : FnK P w K mg base 3 (He.fAd K ("_law_tick_drawn", none)) cm__law_tick_drawn := by
  obtain ⟨fd, FD⟩ := T.d 42 (d := d__law_tick_drawn) rfl
  have nd := sc__law_tick_drawn.nd
  refine okP FD sc__law_tick_drawn rfl rfl (fun _ _ _ _ _ _ us hl => match us, hl with | [_, _, _, _], _ => rfl) (fun Av cdv A outer s H E hr => ?_)
  exact (fs_cons (fs_asg (is := ([4] ++ ([5] ++ ([6] ++ [])))) (fcall (ok__law_pick (P := P) (w := w) (base := base) T).1 (ok__law_pick (P := P) (w := w) (base := base) T).2 hr (T.glo 6) (fc_kw (fa_cons (fv 0) (fa_cons (fcall (ok__law_ticks (P := P) (w := w) (base := base) T).1 (ok__law_ticks (P := P) (w := w) (base := base) T).2 hr (T.glo 69) (fc_kw (fa_cons (fv 1) (fa_cons (fv 3) fa_nil)) fk_nil) (kl_of al_nil)) fa_nil)) fk_nil) (kl_of al_nil)) (fg_q rfl (fgs_cons (fg_n (i := 4) nd rfl (Or.inl rfl)) (fgs_cons (fg_n (i := 5) nd rfl (Or.inl rfl)) (fgs_cons (fg_n (i := 6) nd rfl (Or.inl rfl)) fgs_nil)))))
    (fs_cons (fs_par (i := 7) (j := 8) rfl nd rfl rfl (by decide) rfl rfl (fa_cons (fcall (ok__law_row_of (P := P) (w := w) (base := base) T).1 (ok__law_row_of (P := P) (w := w) (base := base) T).2 hr (T.glo 66) (fc_kw (fa_cons (fv 1) (fa_cons (fv 4) fa_nil)) fk_nil) (kl_of al_nil)) (fa_cons (fcall (ok__law_rest_at (P := P) (w := w) (base := base) T).1 (ok__law_rest_at (P := P) (w := w) (base := base) T).2 hr (T.glo 70) (fc_kw (fa_cons (fv 2) (fa_cons (fv 6) fa_nil)) fk_nil) (kl_of al_nil)) fa_nil)))
    (fs_cons (fs_set (i := 9) nd rfl (Or.inl rfl) (fe_bin op_sub of_sub (fcall (ok__law_pull (P := P) (w := w) (base := base) T).1 (ok__law_pull (P := P) (w := w) (base := base) T).2 hr (T.glo 5) (fc_kw (fa_cons (fv 0) (fa_cons (fe_bin op_addA of_add (fe_bin op_addA of_add (fe_ix (fv 7) fe_int) (fe_ix (fv 7) fe_int)) fe_int) fa_nil)) fk_nil) (kl_of al_nil)) (fe_ix (fv 7) fe_int)))
    (fs_one (fs_ret (fe_tup (fa_cons (fv 4) (fa_cons (fv 5) (fa_cons (fv 9) (fa_cons (fcall (ok__law_close (P := P) (w := w) (base := base) T).1 (ok__law_close (P := P) (w := w) (base := base) T).2 hr (T.glo 9) (fc_kw (fa_cons (fv 0) (fa_cons (fe_if (ft_cmp op_isN of_is (fv 8) fe_non (nomark _)) fe_int (fe_ix (fv 8) fe_int)) fa_nil)) fk_nil) (kl_of al_nil)) fa_nil))))))))))
theorem ok__law_is_number (T : TX K mg fa fx fn) : FnK P w K mg base 1 (He.fAd K ("_law_is_number", none)) cm__law_is_number := by
  obtain ⟨fd, FD⟩ := T.d 43 (d := d__law_is_number) rfl
  have nd := sc__law_is_number.nd
  refine okP FD sc__law_is_number rfl rfl (fun _ _ _ _ _ _ us hl => match us, hl with | [_, _, _], _ => rfl) (fun Av cdv A outer s H E hr => ?_)
  exact (fs_cons (fs_if (ft_not (ft_val (fe_isT .int (fv 0) (T.free 12) rfl (T.free 0) rfl (by decide +kernel)))) (fs_one (fs_ret fe_bl)) fs_nil)
    (fs_one (fs_ret (fe_and (fe_not (fe_isT .bl (fv 0) (T.free 12) rfl (T.free 13) rfl (by decide +kernel))) (fe_one (fe_chain op_le op_le of_le of_le (fv 1) (fv 0) (fv 2)))))))
theorem ok__law_acts (T : TX K mg fa fx fn) : FnK P w K mg base 2 (He.fAd K ("_law_acts", none)) cm__law_acts := by
  obtain ⟨fd, FD⟩ := T.d 44 (d := d__law_acts) rfl
  have nd := sc__law_acts.nd
  refine okP FD sc__law_acts rfl rfl (fun _ _ _ _ _ _ us hl => match us, hl with | [_, _, _], _ => rfl) (fun Av cdv A outer s H E hr => ?_)
  exact (fs_cons (fs_if (ft_bool (fw_and (ft_cmp (op_eqD (Nat.lt_of_le_of_lt (Nat.add_le_add_left (by decide : 64 ≤ 65) _) (HF.Room.u65 hr))) of_eq (fe_ix (fv 2) fe_int) (fe_ix (fv 0) fe_int) (nomark _)) (fw_and1 (ft_cmp (op_inD (HF.Room.u65 hr)) of_inL (fe_tup (fa_cons fe_str fa_nil)) (fv 1) rfl)))) (fs_one (fs_ret (fe_tup (fa_cons fe_str fa_nil)))) fs_nil)
    (fs_cons (fs_if (ft_bool (fw_and (ft_cmp (op_eqD (Nat.lt_of_le_of_lt (Nat.add_le_add_left (by decide : 64 ≤ 65) _) (HF.Room.u65 hr))) of_eq (fe_ix (fv 2) fe_int) fe_int (nomark _)) (fw_and1 (ft_cmp (op_inD (HF.Room.u65 hr)) of_inL (fe_tup (fa_cons fe_str fa_nil)) (fv 1) rfl)))) (fs_one (fs_ret (fe_tup (fa_cons fe_str fa_nil)))) fs_nil)
    (fs_cons (fs_set (i := 3) nd rfl (Or.inl rfl) (fcall (ok__law_rest_at (P := P) (w := w) (base := base) T).1 (ok__law_rest_at (P := P) (w := w) (base := base) T).2 hr (T.glo 70) (fc_kw (fa_cons (fv 1) (fa_cons (fv 2) fa_nil)) fk_nil) (kl_of al_nil)))
    (fs_one (fs_ret (fe_if (ft_cmp op_isN of_is (fv 3) fe_non (nomark _)) (fe_tup fa_nil) (fe_tup (fa_cons (fe_ix (fv 3) fe_int) (fa_cons (fe_ix (fv 3) fe_int) fa_nil)))))))))
theorem ok__law_tried_tick (T : TX K mg fa fx fn) : FnK P w K mg base 3 (He.fAd K ("_law_tried_tick", none)) cm__law_tried_tick := by
  obtain ⟨fd, FD⟩ := T.d 45 (d := d__law_tried_tick) rfl
  have nd := sc__law_tried_tick.nd
  refine okP FD sc__law_tried_tick rfl rfl (fun _ _ _ _ _ _ us hl => match us, hl with | [_, _, _, _], _ => rfl) (fun Av cdv A outer s H E hr => ?_)
  exact (fs_cons (fs_asg (is := ([4] ++ ([5] ++ []))) (fv 2) (fg_q rfl (fgs_cons (fg_n (i := 4) nd rfl (Or.inl rfl)) (fgs_cons (fg_n (i := 5) nd rfl (Or.inl rfl)) fgs_nil))))
    (fs_cons (fs_asg (is := ([6] ++ ([7] ++ ([8] ++ ([9] ++ []))))) (fv 3) (fg_q rfl (fgs_cons (fg_n (i := 6) nd rfl (Or.inl rfl)) (fgs_cons (fg_n (i := 7) nd rfl (Or.inl rfl)) (fgs_cons (fg_n (i := 8) nd rfl (Or.inl rfl)) (fgs_cons (fg_n (i := 9) nd rfl (Or.inl rfl)) fgs_nil))))))
    (fs_cons (fs_if (ft_not (ft_val (fe_isT .str (fv 6) (T.free 12) rfl (T.free 23) rfl (by decide +kernel)))) (fs_one (fs_ret (fe_tup (fa_cons fe_str (fa_cons (fv 6) fa_nil))))) fs_nil)
    (fs_cons (fs_if (ft_cmp (op_notInD (HF.Room.u65 hr)) of_ninL (fv 6) (fe_lc (own := [("_law_row", 10)]) (is := [10]) rfl nd (fi_q (fe_ix (fv 0) fe_int)) (blkOk_by (N := [("_law_shape" : Str), ("_law_fixes" : Str), ("_law_moment" : Str), ("_law_tick" : Str), ("_law_point" : Str), ("_law_total" : Str), ("_law_mode" : Str), ("_law_flow" : Str), ("_law_slip" : Str), ("_law_look" : Str), ("_law_row" : Str), ("_law_late" : Str), ("_law_rest" : Str), ("_law_reach" : Str)]) (sc := defScope s__law_tried_tick) (by decide +kernel)) (fun _ _ _ _ _ _ => (fg_n (i := 10) nd rfl (Or.inl rfl))) (fun _ _ _ _ _ _ => ft_nil) (fun _ _ _ _ _ _ => (fe_ix (fv 10) fe_int))) rfl) (fs_one (fs_ret (fe_tup (fa_cons fe_str (fa_cons (fv 6) fa_nil))))) fs_nil)
    (fs_cons (fs_if (ft_cmp (op_notInD (HF.Room.u65 hr)) of_ninL (fv 6) (fe_ix (fcall (ok__law_row_of (P := P) (w := w) (base := base) T).1 (ok__law_row_of (P := P) (w := w) (base := base) T).2 hr (T.glo 66) (fc_kw (fa_cons (fv 0) (fa_cons (fe_ix (fv 4) fe_int) fa_nil)) fk_nil) (kl_of al_nil)) fe_int) rfl) (fs_one (fs_ret (fe_tup (fa_cons fe_str (fa_cons (fv 6) fa_nil))))) fs_nil)
    (fs_cons (fs_set (i := 10) nd rfl (Or.inl rfl) (fcall (ok__law_row_of (P := P) (w := w) (base := base) T).1 (ok__law_row_of (P := P) (w := w) (base := base) T).2 hr (T.glo 66) (fc_kw (fa_cons (fv 0) (fa_cons (fv 6) fa_nil)) fk_nil) (kl_of al_nil)))
    (fs_cons (fs_if (ft_not (ft_val (fcall (ok__law_is_number (P := P) (w := w) (base := base) T).1 (ok__law_is_number (P := P) (w := w) (base := base) T).2 hr (T.glo 72) (fc_kw (fa_cons (fv 7) (fa_cons (fe_ix (fv 10) fe_int) (fa_cons (fe_ix (fv 10) fe_int) fa_nil))) fk_nil) (kl_of al_nil)))) (fs_one (fs_ret (fe_tup (fa_cons fe_str (fa_cons (fv 7) fa_nil))))) fs_nil)
    (fs_cons (fs_if (ft_not (ft_val (fcall (ok__law_is_number (P := P) (w := w) (base := base) T).1 (ok__law_is_number (P := P) (w := w) (base := base) T).2 hr (T.glo 72) (fc_kw (fa_cons (fv 8) (fa_cons (fe_bin op_sub of_sub fe_int (fe_ix (fv 10) fe_int)) (fa_cons (fe_ix (fv 10) fe_int) fa_nil))) fk_nil) (kl_of al_nil)))) (fs_one (fs_ret (fe_tup (fa_cons fe_str (fa_cons (fv 8) fa_nil))))) fs_nil)
    (fs_cons (fs_set (i := 11) nd rfl (Or.inl rfl) (fcall (ok__law_entered (P := P) (w := w) (base := base) T).1 (ok__law_entered (P := P) (w := w) (base := base) T).2 hr (T.glo 68) (fc_kw (fa_cons (fv 0) (fa_cons (fv 4) (fa_cons (fv 6) (fa_cons (fv 7) fa_nil)))) fk_nil) (kl_of al_nil)))
    (fs_cons (fs_set (i := 12) nd rfl (Or.inl rfl) (fcall (ok__law_rest_at (P := P) (w := w) (base := base) T).1 (ok__law_rest_at (P := P) (w := w) (base := base) T).2 hr (T.glo 70) (fc_kw (fa_cons (fv 1) (fa_cons (fv 11) fa_nil)) fk_nil) (kl_of al_nil)))
    (fs_cons (fs_set (i := 13) nd rfl (Or.inl rfl) (fe_if (ft_cmp op_isN of_is (fv 12) fe_non (nomark _)) fe_int (fe_ix (fv 12) fe_int)))
    (fs_cons (fs_if (ft_not (ft_val (fcall (ok__law_is_number (P := P) (w := w) (base := base) T).1 (ok__law_is_number (P := P) (w := w) (base := base) T).2 hr (T.glo 72) (fc_kw (fa_cons (fv 9) (fa_cons (fe_bin op_sub of_sub fe_int (fv 13)) (fa_cons (fv 13) fa_nil))) fk_nil) (kl_of al_nil)))) (fs_one (fs_ret (fe_tup (fa_cons fe_str (fa_cons (fv 9) fa_nil))))) fs_nil)
    (fs_cons (fs_set (i := 5) nd rfl (Or.inl rfl) (fe_bin op_addA of_add (fe_bin op_sub of_sub (fe_bin op_addA of_add (fv 5) (fe_ix (fv 11) fe_int)) (fe_ix (fv 4) fe_int)) (fv 8)))
    (fs_cons (fs_if (ft_cmp op_notN of_isnt (fv 12) fe_non (nomark _)) (fs_one (fs_set (i := 5) nd rfl (Or.inl rfl) (fe_if (ft_cmp (op_eqD (Nat.lt_of_le_of_lt (Nat.add_le_add_left (by decide : 64 ≤ 65) _) (HF.Room.u65 hr))) of_eq (fe_ix (fv 12) fe_int) fe_str (nomark _)) (fe_bin op_addA of_add (fe_ix (fv 11) fe_int) (fv 9)) (fe_b (cr_max rfl) bf_maxL rfl (T.free 67) (by decide +kernel) (fa_cons (fe_fl (fa_cons (fe_bin op_sub of_sub (fe_bin op_addA of_add (fe_ix (fv 11) fe_int) (fv 9)) (fv 13)) (fa_cons (fe_b (cr_min rfl) bf_minL rfl (T.free 11) (by decide +kernel) (fa_cons (fe_fl (fa_cons (fe_bin op_addA of_add (fe_bin op_addA of_add (fe_ix (fv 11) fe_int) (fv 9)) (fv 13)) (fa_cons (fv 5) fa_nil))) fa_nil)) fa_nil))) fa_nil))))) fs_nil)
    (fs_one (fs_ret (fe_tup (fa_cons fe_str (fa_cons (fe_tup (fa_cons (fv 11) (fa_cons (fe_if (ft_cmp (op_eqD (Nat.lt_of_le_of_lt (Nat.add_le_add_left (by decide : 64 ≤ 65) _) (HF.Room.u65 hr))) of_eq (fcall (ok__law_acts (P := P) (w := w) (base := base) T).1 (ok__law_acts (P := P) (w := w) (base := base) T).2 hr (T.glo 73) (fc_kw (fa_cons (fv 0) (fa_cons (fv 1) (fa_cons (fv 11) fa_nil))) fk_nil) (kl_of al_nil)) (fe_tup (fa_cons fe_str fa_nil)) (nomark _)) (fe_ix (fv 11) fe_int) (fv 5)) fa_nil))) fa_nil)))))))))))))))))))
theorem ok__law_use_drawn (T : TX K mg fa fx fn) : FnK P w K mg base 4 (He.fAd K ("_law_use_drawn", none)) cm__law_use_drawn := by
  obtain ⟨fd, FD⟩ := T.d 46 (d := d__law_use_drawn) rfl
  have nd := sc__law_use_drawn.nd
  refine okP FD sc__law_use_drawn rfl rfl (fun _ _ _ _ _ _ us hl => match us, hl with | [_, _, _, _], _ => rfl) (fun Av cdv A outer s H E hr => ?_)
  exact (fs_cons (fs_par (i := 4) (j := 5) rfl nd rfl rfl (by decide) rfl rfl (fa_cons (fe_tl (fa_cons (fe_tup (fa_cons (fcall (ok__law_start_place (P := P) (w := w) (base := base) T).1 (ok__law_start_place (P := P) (w := w) (base := base) T).2 hr (T.glo 65) (fc_kw (fa_cons (fv 1) fa_nil) fk_nil) (kl_of al_nil)) (fa_cons (fe_ix (fv 1) fe_int) fa_nil))) fa_nil)) (fa_cons (fe_tl fa_nil) fa_nil)))
    (fs_cons (fs_for (is := [6]) rfl (fi_r1 rfl (T.free 7) (fa_cons (fv 3) fa_nil)) (fg_n (i := 6) nd rfl (Or.inl rfl)) (fs_cons (fs_set (i := 7) nd rfl (Or.inl rfl) (fcall (ok__law_tick_drawn (P := P) (w := w) (base := base) T).1 (ok__law_tick_drawn (P := P) (w := w) (base := base) T).2 hr (T.glo 71) (fc_kw (fa_cons (fv 0) (fa_cons (fv 1) (fa_cons (fv 2) (fa_cons (fe_ix (fe_ix (fv 4) (fe_neg fe_int)) fe_int) fa_nil)))) fk_nil) (kl_of al_nil)))
    (fs_cons (fs_ex (fe_lm PySem.F.slot_list_append PySem.F.type_list_append mt_append mf_append (fv 5) (fa_cons (fv 7) fa_nil)))
    (fs_one (fs_ex (fe_lm PySem.F.slot_list_append PySem.F.type_list_append mt_append mf_append (fv 4) (fa_cons (fe_ix (fcall (ok__law_tried_tick (P := P) (w := w) (base := base) T).1 (ok__law_tried_tick (P := P) (w := w) (base := base) T).2 hr (T.glo 74) (fc_kw (fa_cons (fv 1) (fa_cons (fv 2) (fa_cons (fe_ix (fv 4) (fe_neg fe_int)) (fa_cons (fv 7) fa_nil)))) fk_nil) (kl_of al_nil)) fe_int) fa_nil)))))) PassesOwn.never)
    (fs_one (fs_ret (fe_frz (fe_tup (fa_cons (fv 5) (fa_cons (fv 4) fa_nil))))))))
theorem ok_Gauge_modes (T : TX K mg fa fx fn) : FnK P w K mg base 1 (He.fAd K ("Gauge", some "modes")) cm_Gauge_modes := by
  obtain ⟨fd, FD⟩ := T.d 47 (d := d_Gauge_modes) rfl
  have nd := sc_Gauge_modes.nd
  refine okP FD sc_Gauge_modes rfl rfl (fun _ _ _ _ _ _ us hl => match us, hl with | [_], _ => rfl) (fun Av cdv A outer s H E hr => ?_)
  exact (fs_one (fs_ret (fe_b cr_sortedS bf_sortS rfl (T.free 60) (by decide +kernel) (fa_cons (fe_ty (cl_list rfl) bf_list rfl (T.free 1) (by decide +kernel) (fa_cons (fe_attr (hf_rests T) (fv 0)) fa_nil)) fa_nil))))
end
end PF
set_option Elab.async false
set_option linter.all false
set_option maxRecDepth 100000
set_option maxHeartbeats 4000000
namespace PF
open PySem PySem.Spec PyProof.Rows L2 HF
section
variable {P : Program} {w : World} {K : PySem.W.Frag} {mg : Str → Option Value} {base : Heap}
theorem ok_Gauge_check (T : TX K mg fa fx fn) : FnK P w K mg base 2 (He.fAd K ("Gauge", some "check")) cm_Gauge_check := by
  obtain ⟨fd, FD⟩ := T.d 48 (d := d_Gauge_check) rfl
  have nd := sc_Gauge_check.nd
  refine okP FD sc_Gauge_check rfl rfl (fun _ _ _ _ _ _ us hl => match us, hl with | [_, _], _ => rfl) (fun Av cdv A outer s H E hr => ?_)
  exact (fs_one (fs_for (is := [2]) rfl (fi_q (fe_meth (T.cls 76) (T.meth 77) (ok_Gauge_modes T).1 (hr.mono (by decide)) (fv 0) (fc_kw0 fk_nil) (kl_of al_nil))) (fg_n (i := 2) nd rfl (Or.inl rfl)) (fs_one (fs_ex (fe_meth (T.cls 36) (T.meth 37) (ok_Plan_mode T).1 (hr.mono (by decide)) (fv 1) (fc_kw (fa_cons (fv 2) fa_nil) fk_nil) (kl_of al_nil)))) PassesOwn.never))
theorem ok_Plan_start_place (T : TX K mg fa fx fn) : FnK P w K mg base 2 (He.fAd K ("Plan", some "start_place")) cm_Plan_start_place := by
  obtain ⟨fd, FD⟩ := T.d 49 (d := d_Plan_start_place) rfl
  have nd := sc_Plan_start_place.nd
  refine okP FD sc_Plan_start_place rfl rfl (fun _ _ _ _ _ _ us hl => match us, hl with | [_], _ => rfl) (fun Av cdv A outer s H E hr => ?_)
  exact (fs_one (fs_ret (fe_tup (fa_cons (fe_ix (fe_meth (T.cls 36) (T.meth 39) (ok_Plan_names T).1 (hr.mono (by decide)) (fv 0) (fc_kw0 fk_nil) (kl_of al_nil)) fe_int) (fa_cons fe_int (fa_cons (fe_attr (hf_start T) (fv 0)) fa_nil))))))
theorem ok_Store___init__ (T : TX K mg fa fx fn) : FnK P w K mg base 3 (He.fAd K ("Store", some "__init__")) cm_Store___init__ := by
  obtain ⟨fd, FD⟩ := T.d 50 (d := d_Store___init__) rfl
  have nd := sc_Store___init__.nd
  refine okP FD sc_Store___init__ rfl rfl (fun _ _ _ _ _ _ us hl => match us, hl with | [_, _, _], _ => rfl) (fun Av cdv A outer s H E hr => ?_)
  exact (fs_cons (fs_ex (fe_meth (T.cls 76) (T.meth 78) (ok_Gauge_check T).1 (hr.mono (by decide)) (fv 2) (fc_kw (fa_cons (fv 1) fa_nil) fk_nil) (kl_of al_nil)))
    (fs_cons (fs_fld (hf_own_plan T) (fv 0) (fv 1))
    (fs_cons (fs_fld (hf_own_gauge T) (fv 0) (fv 2))
    (fs_cons (fs_fld (hf_moments T) (fv 0) (fe_tl (fa_cons (fe_tup (fa_cons (fe_meth (T.cls 36) (T.meth 79) (ok_Plan_start_place T).1 (hr.mono (by decide)) (fv 1) (fc_kw0 fk_nil) (kl_of al_nil)) (fa_cons (fe_attr (hf_start T) (fv 1)) fa_nil))) fa_nil)))
    (fs_cons (fs_fld (hf_done T) (fv 0) (fe_tl fa_nil))
    (fs_cons (fs_fld (hf_undone T) (fv 0) (fe_fl fa_nil))
    (fs_one (fs_fld (hf_working T) (fv 0) fe_bl))))))))
theorem ok_is_tick (T : TX K mg fa fx fn) : FnK P w K mg base 1 (He.fAd K ("is_tick", none)) cm_is_tick := by
  obtain ⟨fd, FD⟩ := T.d 51 (d := d_is_tick) rfl
  have nd := sc_is_tick.nd
  refine okP FD sc_is_tick rfl rfl (fun _ _ _ _ _ _ us hl => match us, hl with | [_], _ => rfl) (fun Av cdv A outer s H E hr => ?_)
  exact (fs_one (fs_ret (fe_and (fe_isT .tup (fv 0) (T.free 12) rfl (T.free 35) rfl (by decide +kernel)) (fe_one (fe_cmp (op_eqD (Nat.lt_of_le_of_lt (Nat.add_le_add_left (by decide : 64 ≤ 65) _) (HF.Room.u65 hr))) of_eq (fe_b call_len bf_len rfl (T.free 3) (by decide +kernel) (fa_cons (fv 0) fa_nil)) fe_int (nomark _))))))
theorem ok_Playing___init__ (T : TX K mg fa fx fn) : FnK P w K mg base 1 (He.fAd K ("Playing", some "__init__")) cm_Playing___init__ := by
  obtain ⟨fd, FD⟩ := T.d 52 (d := d_Playing___init__) rfl
  have nd := sc_Playing___init__.nd
  refine okP FD sc_Playing___init__ rfl rfl (fun _ _ _ _ _ _ us hl => match us, hl with | [_, _], _ => rfl) (fun Av cdv A outer s H E hr => ?_)
  exact (fs_one (fs_fld (hf_target T) (fv 0) (fv 1)))
theorem ok_Plan___contains__ (T : TX K mg fa fx fn) : FnK P w K mg base 1 (He.fAd K ("Plan", some "__contains__")) cm_Plan___contains__ := by
  obtain ⟨fd, FD⟩ := T.d 53 (d := d_Plan___contains__) rfl
  have nd := sc_Plan___contains__.nd
  refine okP FD sc_Plan___contains__ rfl rfl (fun _ _ _ _ _ _ us hl => match us, hl with | [_, _], _ => rfl) (fun Av cdv A outer s H E hr => ?_)
  exact (fs_one (fs_ret (fe_and (fe_isT .str (fv 1) (T.free 12) rfl (T.free 23) rfl (by decide +kernel)) (fe_one (fe_inD (Nat.lt_of_le_of_lt (Nat.add_le_add_left (by decide : 1 ≤ 65) _) (HF.Room.u65 hr)) (fv 1) (fe_attr (hf_table T) (fv 0)))))))
theorem ok_Plan_is_place (T : TX K mg fa fx fn) : FnK P w K mg base 2 (He.fAd K ("Plan", some "is_place")) cm_Plan_is_place := by
  obtain ⟨fd, FD⟩ := T.d 54 (d := d_Plan_is_place) rfl
  have nd := sc_Plan_is_place.nd
  refine okP FD sc_Plan_is_place rfl rfl (fun _ _ _ _ _ _ us hl => match us, hl with | [_, _], _ => rfl) (fun Av cdv A outer s H E hr => ?_)
  exact (fs_cons (fs_if (ft_bool (fw_or (ft_not (ft_val (fe_isT .tup (fv 1) (T.free 12) rfl (T.free 35) rfl (by decide +kernel)))) (fw_or (ft_cmp (op_neD (Nat.lt_of_le_of_lt (Nat.add_le_add_left (by decide : 64 ≤ 65) _) (HF.Room.u65 hr))) of_ne (fe_b call_len bf_len rfl (T.free 3) (by decide +kernel) (fa_cons (fv 1) fa_nil)) fe_int (nomark _)) (fw_or1 (ft_cmp (op_ownNin (T.meth 85) (ok_Plan___contains__ T).1 (hr.mono (by decide))) of_ownIn (fe_ix (fv 1) fe_int) (fv 0) rfl))))) (fs_one (fs_ret fe_bl)) fs_nil)
    (fs_cons (fs_set (i := 2) nd rfl (Or.inl rfl) (fe_if (ft_cmp (op_eqD (Nat.lt_of_le_of_lt (Nat.add_le_add_left (by decide : 64 ≤ 65) _) (HF.Room.u65 hr))) of_eq (fe_ix (fv 1) fe_int) (fe_ix (fe_meth (T.cls 36) (T.meth 39) (ok_Plan_names T).1 (hr.mono (by decide)) (fv 0) (fc_kw0 fk_nil) (kl_of al_nil)) fe_int) (nomark _)) fe_int fe_int))
    (fs_one (fs_ret (fe_and (fcall (ok_is_number (P := P) (w := w) (base := base) T).1 (ok_is_number (P := P) (w := w) (base := base) T).2 hr (T.glo 15) (fc_kw (fa_cons (fe_ix (fv 1) fe_int) (fa_cons (fv 2) (fa_cons (fg_int (T.int 56)) fa_nil))) fk_nil) (kl_of al_nil)) (fe_one (fcall (ok_is_number (P := P) (w := w) (base := base) T).1 (ok_is_number (P := P) (w := w) (base := base) T).2 hr (T.glo 15) (fc_kw (fa_cons (fe_ix (fv 1) fe_int) (fa_cons fe_int (fa_cons (fe_attr (hf_size T) (fv 0)) fa_nil))) fk_nil) (kl_of al_nil))))))))
theorem ok_Plan_check_place (T : TX K mg fa fx fn) : FnK P w K mg base 3 (He.fAd K ("Plan", some "check_place")) cm_Plan_check_place := by
  obtain ⟨fd, FD⟩ := T.d 55 (d := d_Plan_check_place) rfl
  have nd := sc_Plan_check_place.nd
  refine okP FD sc_Plan_check_place rfl rfl (fun _ _ _ _ _ _ us hl => match us, hl with | [_, _], _ => rfl) (fun Av cdv A outer s H E hr => ?_)
  exact (fs_one (fs_if (ft_not (ft_val (fe_meth (T.cls 36) (T.meth 86) (ok_Plan_is_place T).1 (hr.mono (by decide)) (fv 0) (fc_kw (fa_cons (fv 1) fa_nil) fk_nil) (kl_of al_nil)))) (fs_one fs_never) fs_nil))
theorem ok_Mode___contains__ (T : TX K mg fa fx fn) : FnK P w K mg base 2 (He.fAd K ("Mode", some "__contains__")) cm_Mode___contains__ := by
  obtain ⟨fd, FD⟩ := T.d 56 (d := d_Mode___contains__) rfl
  have nd := sc_Mode___contains__.nd
  refine okP FD sc_Mode___contains__ rfl rfl (fun _ _ _ _ _ _ us hl => match us, hl with | [_, _], _ => rfl) (fun Av cdv A outer s H E hr => ?_)
  exact (fs_one (fs_ret (fcall (ok_is_number (P := P) (w := w) (base := base) T).1 (ok_is_number (P := P) (w := w) (base := base) T).2 hr (T.glo 15) (fc_kw (fa_cons (fv 1) (fa_cons (fe_attr (hf_low T) (fv 0)) (fa_cons (fe_attr (hf_high T) (fv 0)) fa_nil))) fk_nil) (kl_of al_nil))))
theorem ok_Plan_entered (T : TX K mg fa fx fn) : FnK P w K mg base 1 (He.fAd K ("Plan", some "entered")) cm_Plan_entered := by
  obtain ⟨fd, FD⟩ := T.d 57 (d := d_Plan_entered) rfl
  have nd := sc_Plan_entered.nd
  refine okP FD sc_Plan_entered rfl rfl (fun _ _ _ _ _ _ us hl => match us, hl with | [_, _, _, _], _ => rfl) (fun Av cdv A outer s H E hr => ?_)
  exact (fs_cons (fs_set (i := 4) nd rfl (Or.inl rfl) (fe_if (ft_cmp (op_eqD (Nat.lt_of_le_of_lt (Nat.add_le_add_left (by decide : 64 ≤ 65) _) (HF.Room.u65 hr))) of_eq (fv 2) (fe_ix (fv 1) fe_int) (nomark _)) (fe_b (call_min2 rfl) bf_min2 rfl (T.free 11) (by decide +kernel) (fa_cons (fe_bin op_addA of_add (fe_ix (fv 1) fe_int) fe_int) (fa_cons (fg_int (T.int 56)) fa_nil))) fe_int))
    (fs_one (fs_ret (fe_tup (fa_cons (fv 2) (fa_cons (fv 4) (fa_cons (fe_b (call_max2 rfl) bf_max2 rfl (T.free 67) (by decide +kernel) (fa_cons fe_int (fa_cons (fe_b (call_min2 rfl) bf_min2 rfl (T.free 11) (by decide +kernel) (fa_cons (fe_attr (hf_size T) (fv 0)) (fa_cons (fe_bin op_addA of_add (fe_ix (fv 1) fe_int) (fv 3)) fa_nil))) fa_nil))) fa_nil)))))))
theorem ok_Plan_moved (T : TX K mg fa fx fn) : FnK P w K mg base 4 (He.fAd K ("Plan", some "moved")) cm_Plan_moved := by
  obtain ⟨fd, FD⟩ := T.d 58 (d := d_Plan_moved) rfl
  have nd := sc_Plan_moved.nd
  refine okP FD sc_Plan_moved rfl rfl (fun _ _ _ _ _ _ us hl => match us, hl with | [_, _, _, _], _ => rfl) (fun Av cdv A outer s H E hr => ?_)
  exact (fs_cons (fs_ex (fe_meth (T.cls 36) (T.meth 87) (ok_Plan_check_place T).1 (hr.mono (by decide)) (fv 0) (fc_kw (fa_cons (fv 1) fa_nil) fk_nil) (kl_of al_nil)))
    (fs_cons (fs_set (i := 4) nd rfl (Or.inl rfl) (fe_meth (T.cls 36) (T.meth 37) (ok_Plan_mode T).1 (hr.mono (by decide)) (fv 0) (fc_kw (fa_cons (fv 2) fa_nil) fk_nil) (kl_of al_nil)))
    (fs_cons (fs_if (ft_cmp (op_notInD (HF.Room.u65 hr)) of_ninL (fv 2) (fe_meth (T.cls 19) (T.meth 20) (ok_Mode_followers T).1 (hr.mono (by decide)) (fe_dget (Nat.lt_of_le_of_lt (Nat.add_le_add_left (by decide : 1 ≤ 65) _) (HF.Room.u65 hr)) (fe_attr (hf_table T) (fv 0)) (fe_ix (fv 1) fe_int)) (fc_kw0 fk_nil) (kl_of al_nil)) rfl) (fs_one fs_never) fs_nil)
    (fs_cons (fs_if (ft_cmp (op_ownNin (T.meth 88) (ok_Mode___contains__ T).1 (hr.mono (by decide))) of_ownIn (fv 3) (fv 4) rfl) (fs_one fs_never) fs_nil)
    (fs_one (fs_ret (fe_meth (T.cls 36) (T.meth 89) (ok_Plan_entered T).1 (hr.mono (by decide)) (fv 0) (fc_kw (fa_cons (fv 1) (fa_cons (fv 2) (fa_cons (fv 3) fa_nil))) fk_nil) (kl_of al_nil))))))))
theorem ok_Gauge_rest (T : TX K mg fa fx fn) : FnK P w K mg base 2 (He.fAd K ("Gauge", some "rest")) cm_Gauge_rest := by
  obtain ⟨fd, FD⟩ := T.d 59 (d := d_Gauge_rest) rfl
  have nd := sc_Gauge_rest.nd
  refine okP FD sc_Gauge_rest rfl rfl (fun _ _ _ _ _ _ us hl => match us, hl with | [_, _], _ => rfl) (fun Av cdv A outer s H E hr => ?_)
  exact (fs_cons (fs_if (ft_bool (fw_or (ft_not (ft_val (fcall (ok_is_name (P := P) (w := w) (base := base) T).1 (ok_is_name (P := P) (w := w) (base := base) T).2 hr (T.glo 27) (fc_kw (fa_cons (fv 1) fa_nil) fk_nil) (kl_of al_nil)))) (fw_or1 (ft_ninD (Nat.lt_of_le_of_lt (Nat.add_le_add_left (by decide : 1 ≤ 65) _) (HF.Room.u65 hr)) (fv 1) (fe_attr (hf_rests T) (fv 0)))))) (fs_one (fs_ret fe_non)) fs_nil)
    (fs_cons (fs_asg (is := ([2] ++ ([3] ++ ([4] ++ ([5] ++ []))))) (fe_dget (Nat.lt_of_le_of_lt (Nat.add_le_add_left (by decide : 1 ≤ 65) _) (HF.Room.u65 hr)) (fe_attr (hf_rests T) (fv 0)) (fv 1)) (fg_q rfl (fgs_cons (fg_n (i := 2) nd rfl (Or.inl rfl)) (fgs_cons (fg_n (i := 3) nd rfl (Or.inl rfl)) (fgs_cons (fg_n (i := 4) nd rfl (Or.inl rfl)) (fgs_cons (fg_n (i := 5) nd rfl (Or.inl rfl)) fgs_nil))))))
    (fs_one (fs_ret (fe_tup (fa_cons (fv 2) (fa_cons (fv 4) (fa_cons (fv 5) fa_nil))))))))
end
end PF
set_option Elab.async false
set_option linter.all false
set_option maxRecDepth 100000
set_option maxHeartbeats 4000000
namespace PF
open PySem PySem.Spec PyProof.Rows L2 HF
section
variable {P : Program} {w : World} {K : PySem.W.Frag} {mg : Str → Option Value} {base : Heap}
theorem ok_Gauge_rest_at (T : TX K mg fa fx fn) : FnK P w K mg base 3 (He.fAd K ("Gauge", some "rest_at")) cm_Gauge_rest_at := by
  obtain ⟨fd, FD⟩ := T.d 60 (d := d_Gauge_rest_at) rfl
  have nd := sc_Gauge_rest_at.nd
  refine okP FD sc_Gauge_rest_at rfl rfl (fun _ _ _ _ _ _ us hl => match us, hl with | [_, _], _ => rfl) (fun Av cdv A outer s H E hr => ?_)
  exact (fs_cons (fs_set (i := 2) nd rfl (Or.inl rfl) (fe_meth (T.cls 76) (T.meth 91) (ok_Gauge_rest T).1 (hr.mono (by decide)) (fv 0) (fc_kw (fa_cons (fe_ix (fv 1) fe_int) fa_nil) fk_nil) (kl_of al_nil)))
    (fs_one (fs_ret (fe_if (ft_bool (fw_and (ft_cmp op_notN of_isnt (fv 2) fe_non (nomark _)) (fw_and1 (ft_cmp op_ge of_ge (fe_ix (fv 1) fe_int) (fe_ix (fv 2) fe_int) (nomark _))))) (fv 2) fe_non))))
theorem ok_corrected (T : TX K mg fa fx fn) : FnK P w K mg base 1 (He.fAd K ("corrected", none)) cm_corrected := by
  obtain ⟨fd, FD⟩ := T.d 61 (d := d_corrected) rfl
  have nd := sc_corrected.nd
  refine okP FD sc_corrected rfl rfl (fun _ _ _ _ _ _ us hl => match us, hl with | [_, _, _, _], _ => rfl) (fun Av cdv A outer s H E hr => ?_)
  exact (fs_cons (fs_if (ft_cmp (op_eqD (Nat.lt_of_le_of_lt (Nat.add_le_add_left (by decide : 64 ≤ 65) _) (HF.Room.u65 hr))) of_eq (fv 0) fe_str (nomark _)) (fs_one (fs_ret (fv 3))) fs_nil)
    (fs_one (fs_ret (fe_b (call_max2 rfl) bf_max2 rfl (T.free 67) (by decide +kernel) (fa_cons (fe_bin op_sub of_sub (fv 3) (fv 1)) (fa_cons (fe_b (call_min2 rfl) bf_min2 rfl (T.free 11) (by decide +kernel) (fa_cons (fe_bin op_addA of_add (fv 3) (fv 1)) (fa_cons (fv 2) fa_nil))) fa_nil))))))
theorem ok_Gauge_has (T : TX K mg fa fx fn) : FnK P w K mg base 1 (He.fAd K ("Gauge", some "has")) cm_Gauge_has := by
  obtain ⟨fd, FD⟩ := T.d 62 (d := d_Gauge_has) rfl
  have nd := sc_Gauge_has.nd
  refine okP FD sc_Gauge_has rfl rfl (fun _ _ _ _ _ _ us hl => match us, hl with | [_, _], _ => rfl) (fun Av cdv A outer s H E hr => ?_)
  exact (fs_one (fs_ret (fe_and (fe_isT .str (fv 1) (T.free 12) rfl (T.free 23) rfl (by decide +kernel)) (fe_one (fe_cmp (op_inD (HF.Room.u65 hr)) of_inL (fv 1) (fe_attr (hf_marks T) (fv 0)) rfl)))))
theorem ok_Gauge_acting (T : TX K mg fa fx fn) : FnK P w K mg base 4 (He.fAd K ("Gauge", some "acting")) cm_Gauge_acting := by
  obtain ⟨fd, FD⟩ := T.d 63 (d := d_Gauge_acting) rfl
  have nd := sc_Gauge_acting.nd
  refine okP FD sc_Gauge_acting rfl rfl (fun _ _ _ _ _ _ us hl => match us, hl with | [_, _, _], _ => rfl) (fun Av cdv A outer s H E hr => ?_)
  exact (fs_cons (fs_ex (fe_meth (T.cls 36) (T.meth 87) (ok_Plan_check_place T).1 (hr.mono (by decide)) (fv 1) (fc_kw (fa_cons (fv 2) fa_nil) fk_nil) (kl_of al_nil)))
    (fs_cons (fs_if (ft_bool (fw_or (ft_bool (fw_and (ft_cmp (op_eqD (Nat.lt_of_le_of_lt (Nat.add_le_add_left (by decide : 64 ≤ 65) _) (HF.Room.u65 hr))) of_eq (fe_ix (fv 2) fe_int) (fe_attr (hf_size T) (fv 1)) (nomark _)) (fw_and1 (ft_val (fe_meth (T.cls 76) (T.meth 94) (ok_Gauge_has T).1 (hr.mono (by decide)) (fv 0) (fc_kw (fa_cons fe_str fa_nil) fk_nil) (kl_of al_nil)))))) (fw_or1 (ft_bool (fw_and (ft_cmp (op_eqD (Nat.lt_of_le_of_lt (Nat.add_le_add_left (by decide : 64 ≤ 65) _) (HF.Room.u65 hr))) of_eq (fe_ix (fv 2) fe_int) fe_int (nomark _)) (fw_and1 (ft_val (fe_meth (T.cls 76) (T.meth 94) (ok_Gauge_has T).1 (hr.mono (by decide)) (fv 0) (fc_kw (fa_cons fe_str fa_nil) fk_nil) (kl_of al_nil))))))))) (fs_one (fs_ret (fe_tup (fa_cons fe_str fa_nil)))) fs_nil)
    (fs_cons (fs_set (i := 3) nd rfl (Or.inl rfl) (fe_meth (T.cls 76) (T.meth 92) (ok_Gauge_rest_at T).1 (hr.mono (by decide)) (fv 0) (fc_kw (fa_cons (fv 2) fa_nil) fk_nil) (kl_of al_nil)))
    (fs_one (fs_ret (fe_if (ft_cmp op_isN of_is (fv 3) fe_non (nomark _)) (fe_tup fa_nil) (fe_tup (fa_cons (fe_ix (fv 3) fe_int) (fa_cons (fe_ix (fv 3) fe_int) fa_nil)))))))))
theorem ok_Store_after (T : TX K mg fa fx fn) : FnK P w K mg base 5 (He.fAd K ("Store", some "after")) cm_Store_after := by
  obtain ⟨fd, FD⟩ := T.d 64 (d := d_Store_after) rfl
  have nd := sc_Store_after.nd
  refine okP FD sc_Store_after rfl rfl (fun _ _ _ _ _ _ us hl => match us, hl with | [_, _, _], _ => rfl) (fun Av cdv A outer s H E hr => ?_)
  exact (fs_cons (fs_asg (is := ([3] ++ ([4] ++ []))) (fv 1) (fg_q rfl (fgs_cons (fg_n (i := 3) nd rfl (Or.inl rfl)) (fgs_cons (fg_n (i := 4) nd rfl (Or.inl rfl)) fgs_nil))))
    (fs_cons (fs_asg (is := ([5] ++ ([6] ++ ([7] ++ ([8] ++ []))))) (fv 2) (fg_q rfl (fgs_cons (fg_n (i := 5) nd rfl (Or.inl rfl)) (fgs_cons (fg_n (i := 6) nd rfl (Or.inl rfl)) (fgs_cons (fg_n (i := 7) nd rfl (Or.inl rfl)) (fgs_cons (fg_n (i := 8) nd rfl (Or.inl rfl)) fgs_nil))))))
    (fs_cons (fs_set (i := 9) nd rfl (Or.inl rfl) (fe_meth (T.cls 36) (T.meth 90) (ok_Plan_moved T).1 (hr.mono (by decide)) (fe_attr (hf_own_plan T) (fv 0)) (fc_kw (fa_cons (fv 3) (fa_cons (fv 5) (fa_cons (fv 6) fa_nil))) fk_nil) (kl_of al_nil)))
    (fs_cons (fs_set (i := 10) nd rfl (Or.inl rfl) (fe_meth (T.cls 36) (T.meth 37) (ok_Plan_mode T).1 (hr.mono (by decide)) (fe_attr (hf_own_plan T) (fv 0)) (fc_kw (fa_cons (fv 5) fa_nil) fk_nil) (kl_of al_nil)))
    (fs_cons (fs_if (ft_not (ft_val (fcall (ok_is_number (P := P) (w := w) (base := base) T).1 (ok_is_number (P := P) (w := w) (base := base) T).2 hr (T.glo 15) (fc_kw (fa_cons (fv 7) (fa_cons (fe_neg (fe_attr (hf_under T) (fv 10))) (fa_cons (fe_attr (hf_over T) (fv 10)) fa_nil))) fk_nil) (kl_of al_nil)))) (fs_one fs_never) fs_nil)
    (fs_cons (fs_set (i := 11) nd rfl (Or.inl rfl) (fe_meth (T.cls 76) (T.meth 92) (ok_Gauge_rest_at T).1 (hr.mono (by decide)) (fe_attr (hf_own_gauge T) (fv 0)) (fc_kw (fa_cons (fv 9) fa_nil) fk_nil) (kl_of al_nil)))
    (fs_cons (fs_set (i := 12) nd rfl (Or.inl rfl) (fe_if (ft_cmp op_isN of_is (fv 11) fe_non (nomark _)) fe_int (fe_ix (fv 11) fe_int)))
    (fs_cons (fs_if (ft_not (ft_val (fcall (ok_is_number (P := P) (w := w) (base := base) T).1 (ok_is_number (P := P) (w := w) (base := base) T).2 hr (T.glo 15) (fc_kw (fa_cons (fv 8) (fa_cons (fe_neg (fv 12)) (fa_cons (fv 12) fa_nil))) fk_nil) (kl_of al_nil)))) (fs_one fs_never) fs_nil)
    (fs_cons (fs_aug (i := 4) ip_add nd rfl (Or.inl rfl) (fe_bin op_addA of_add (fe_bin op_sub of_sub (fe_ix (fv 9) fe_int) (fe_ix (fv 3) fe_int)) (fv 7)))
    (fs_cons (fs_if (ft_cmp op_notN of_isnt (fv 11) fe_non (nomark _)) (fs_one (fs_set (i := 4) nd rfl (Or.inl rfl) (fcall (ok_corrected (P := P) (w := w) (base := base) T).1 (ok_corrected (P := P) (w := w) (base := base) T).2 hr (T.glo 93) (fc_kw (fa_cons (fe_ix (fv 11) fe_int) (fa_cons (fv 12) (fa_cons (fv 4) (fa_cons (fe_bin op_addA of_add (fe_ix (fv 9) fe_int) (fv 8)) fa_nil)))) fk_nil) (kl_of al_nil)))) fs_nil)
    (fs_cons (fs_if (ft_cmp (op_eqD (Nat.lt_of_le_of_lt (Nat.add_le_add_left (by decide : 64 ≤ 65) _) (HF.Room.u65 hr))) of_eq (fe_meth (T.cls 76) (T.meth 95) (ok_Gauge_acting T).1 (hr.mono (by decide)) (fe_attr (hf_own_gauge T) (fv 0)) (fc_kw (fa_cons (fe_attr (hf_own_plan T) (fv 0)) (fa_cons (fv 9) fa_nil)) fk_nil) (kl_of al_nil)) (fe_tup (fa_cons fe_str fa_nil)) (nomark _)) (fs_one (fs_set (i := 4) nd rfl (Or.inl rfl) (fe_ix (fv 9) fe_int))) fs_nil)
    (fs_one (fs_ret (fe_tup (fa_cons (fv 9) (fa_cons (fv 4) fa_nil))))))))))))))))
theorem ok_Playing___enter__ (T : TX K mg fa fx fn) : FnK P w K mg base 1 (He.fAd K ("Playing", some "__enter__")) cm_Playing___enter__ := by
  obtain ⟨fd, FD⟩ := T.d 65 (d := d_Playing___enter__) rfl
  have nd := sc_Playing___enter__.nd
  refine okP FD sc_Playing___enter__ rfl rfl (fun _ _ _ _ _ _ us hl => match us, hl with | [_], _ => rfl) (fun Av cdv A outer s H E hr => ?_)
  exact (fs_cons (fs_fld (hf_working T) (fe_attr (hf_target T) (fv 0)) fe_bl)
    (fs_one (fs_ret (fv 0))))
theorem ok_Playing___exit__ (T : TX K mg fa fx fn) : FnK P w K mg base 1 (He.fAd K ("Playing", some "__exit__")) cm_Playing___exit__ := by
  obtain ⟨fd, FD⟩ := T.d 66 (d := d_Playing___exit__) rfl
  have nd := sc_Playing___exit__.nd
  refine okP FD sc_Playing___exit__ rfl rfl (fun _ _ _ _ _ _ us hl => match us, hl with | [_, _, _, _], _ => rfl) (fun Av cdv A outer s H E hr => ?_)
  exact (fs_one (fs_fld (hf_working T) (fe_attr (hf_target T) (fv 0)) fe_bl))
theorem ok_Store_play (T : TX K mg fa fx fn) : FnK P w K mg base 6 (He.fAd K ("Store", some "play")) cm_Store_play := by
  obtain ⟨fd, FD⟩ := T.d 67 (d := d_Store_play) rfl
  have nd := sc_Store_play.nd
  have pr : ∀ (Av : Addr → Prop) (cdv : Value) (A : Around) (outer : List Env) (s : Shared) (H : Hp) (E : XK), Room 5 (A.deeper (envOfC "Store.play" (defScope s_Store_play) s.heap.objs.size (He.fAd K ("Store", some "play")) cdv)) → PSs ((cxOf HF.CX0 P w K mg base [("self" : Str), ("ticks" : Str), ("at" : Str), ("value" : Str), ("late" : Str)] "Store.play" (defScope s_Store_play) (He.fAd K ("Store", some "play")) cdv A outer s H E).nox) (defBody s_Store_play) (tFS K Av b_Store_play) := fun Av cdv A outer s H E hr => by
    exact (fs_cons (fs_for (is := ([2] ++ ([3] ++ []))) rfl (fi_alt (fi_e rfl (T.free 17) (fa_cons (fv 1) fa_nil)) (fi_eT rfl (T.free 17) (fa_cons (fv 1) fa_nil))) (fg_q rfl (fgs_cons (fg_n (i := 2) nd rfl (Or.inl rfl)) (fgs_cons (fg_n (i := 3) nd rfl (Or.inl rfl)) fgs_nil))) (fs_one (fs_if (ft_not (ft_val (fcall (ok_is_tick (P := P) (w := w) (base := base) T).1 (ok_is_tick (P := P) (w := w) (base := base) T).2 hr (T.glo 82) (fc_kw (fa_cons (fv 3) fa_nil) fk_nil) (kl_of al_nil)))) (fs_one fs_never) fs_nil)) PassesOwn.never)
    (fs_cons (fs_set (i := 4) nd rfl (Or.inl rfl) (fe_tl (fa_cons (fe_ix (fe_attr (hf_moments T) (fv 0)) (fe_neg fe_int)) fa_nil)))
    (fs_cons (fs_with rfl (T.meth 98) (T.meth 99) (ok_Playing___enter__ T).1 (ok_Playing___exit__ T).1 (hr.mono (by decide)) (hr.mono (by decide)) (fe_mkT (T.mkr 83) (ok_Playing___init__ T).1 (hr.mono (by decide)) rfl (T.glo 84) (fc_kw (fa_cons (fv 0) fa_nil) fk_nil) (kl_of al_nil)) (fs_one (fs_for (is := [3]) rfl (fi_q (fv 1)) (fg_n (i := 3) nd rfl (Or.inl rfl)) (fs_one (fs_ex (fe_lm PySem.F.slot_list_append PySem.F.type_list_append mt_append mf_append (fv 4) (fa_cons (fe_meth (T.cls 96) (T.meth 97) (ok_Store_after T).1 (hr.mono (by decide)) (fv 0) (fc_kw (fa_cons (fe_ix (fv 4) (fe_neg fe_int)) (fa_cons (fv 3) fa_nil)) fk_nil) (kl_of al_nil)) fa_nil)))) PassesOwn.never)))
    (fs_one (fs_if (ft_cmp (op_neD (Nat.lt_of_le_of_lt (Nat.add_le_add_left (by decide : 64 ≤ 65) _) (HF.Room.u65 hr))) of_ne (fv 1) (fe_tup fa_nil) (nomark _)) (fs_cons (fs_ex (fe_lm PySem.F.slot_list_extend PySem.F.type_list_extend mt_ext mf_extend (fe_attr (hf_moments T) (fv 0)) (fa_cons (fe_sl (fv 4) (fo_some fe_int) fo_none) fa_nil)))
    (fs_cons (fs_ex (fe_lm PySem.F.slot_list_extend PySem.F.type_list_extend mt_ext mf_extend (fe_attr (hf_done T) (fv 0)) (fa_cons (fv 1) fa_nil)))
    (fs_one (fs_fld (hf_undone T) (fv 0) (fe_fl fa_nil))))) fs_nil)))))
  exact ⟨(fnB_star (P0 := ["self"]) (KW := []) (pv := "ticks") FD sc_Store_play [] [] [] [] (by intro q hq; cases hq) (fun T H r => .nil) (fun α ws ms h1 h2 => match ws, ms, h1, h2 with | [], [], _, _ => rfl) (fun kV doc pm an cdv ct D us rest ws ms hk h1 h2 h3 => by match us, rest, ws, ms, h1, h2, h3 with | [_], [], [], [], _, _, _ => exact kwT0 rfl | [_], _ :: _, [], [], _, _, _ => exact kwT0 rfl) (fun Av cdv A outer s H E hr => pr Av cdv A outer s H E hr)), FD.kp⟩
theorem ok_Store_pairs (T : TX K mg fa fx fn) : FnK P w K mg base 1 (He.fAd K ("Store", some "pairs")) cm_Store_pairs := by
  obtain ⟨fd, FD⟩ := T.d 68 (d := d_Store_pairs) rfl
  have nd := sc_Store_pairs.nd
  refine okP FD sc_Store_pairs rfl rfl (fun _ _ _ _ _ _ us hl => match us, hl with | [_], _ => rfl) (fun Av cdv A outer s H E hr => ?_)
  exact (fs_one (fs_ret (fe_lc (own := [("place", 1), ("total", 2)]) (is := ([1] ++ ([2] ++ []))) rfl nd (fi_q (fe_frz (fe_attr (hf_moments T) (fv 0)))) (blkOk_by (N := [("self" : Str), ("place" : Str), ("total" : Str)]) (sc := defScope s_Store_pairs) (by decide +kernel)) (fun _ _ _ _ _ _ => (fg_q rfl (fgs_cons (fg_n (i := 1) nd rfl (Or.inl rfl)) (fgs_cons (fg_n (i := 2) nd rfl (Or.inl rfl)) fgs_nil)))) (fun _ _ _ _ _ _ => ft_nil) (fun _ _ _ _ _ _ => (fe_tup (fa_cons (fe_ix (fv 1) fe_int) (fa_cons (fv 2) fa_nil)))))))
theorem ok_played (T : TX K mg fa fx fn) : FnK P w K mg base 7 (He.fAd K ("played", none)) cm_played := by
  obtain ⟨fd, FD⟩ := T.d 69 (d := d_played) rfl
  have nd := sc_played.nd
  refine okP FD sc_played rfl rfl (fun _ _ _ _ _ _ us hl => match us, hl with | [_, _, _], _ => rfl) (fun Av cdv A outer s H E hr => ?_)
  exact (fs_cons (fs_set (i := 3) nd rfl (Or.inl rfl) (fe_mkT (T.mkr 80) (ok_Store___init__ T).1 (hr.mono (by decide)) rfl (T.glo 81) (fc_kw (fa_cons (fv 0) (fa_cons (fv 1) fa_nil)) fk_nil) (kl_of al_nil)))
    (fs_cons (fs_ex (fe_methS (T.cls 96) (T.bm 9 (T.meth 100)) (ok_Store_play T).1 (hr.mono (by decide)) (fv 3) (fv 2)))
    (fs_one (fs_ret (fe_meth (T.cls 96) (T.meth 101) (ok_Store_pairs T).1 (hr.mono (by decide)) (fv 3) (fc_kw0 fk_nil) (kl_of al_nil))))))
theorem ok_Mode_flows (T : TX K mg fa fx fn) : FnK P w K mg base 1 (He.fAd K ("Mode", some "flows")) cm_Mode_flows := by
  obtain ⟨fd, FD⟩ := T.d 70 (d := d_Mode_flows) rfl
  have nd := sc_Mode_flows.nd
  refine okP FD sc_Mode_flows rfl rfl (fun _ _ _ _ _ _ us hl => match us, hl with | [_], _ => rfl) (fun Av cdv A outer s H E hr => ?_)
  exact (fs_one (fs_ret (fe_lr (by rfl) (by rfl) (T.free 1) (by rfl) (T.free 7) (fe_attr (hf_low T) (fv 0)) (fe_bin op_addA of_add (fe_attr (hf_high T) (fv 0)) fe_int))))
theorem ok_Plan_ticks_from (T : TX K mg fa fx fn) : FnK P w K mg base 4 (He.fAd K ("Plan", some "ticks_from")) cm_Plan_ticks_from := by
  obtain ⟨fd, FD⟩ := T.d 71 (d := d_Plan_ticks_from) rfl
  have nd := sc_Plan_ticks_from.nd
  refine okP FD sc_Plan_ticks_from rfl rfl (fun _ _ _ _ _ _ us hl => match us, hl with | [_, _], _ => rfl) (fun Av cdv A outer s H E hr => ?_)
  exact (fs_cons (fs_ex (fe_meth (T.cls 36) (T.meth 87) (ok_Plan_check_place T).1 (hr.mono (by decide)) (fv 0) (fc_kw (fa_cons (fv 1) fa_nil) fk_nil) (kl_of al_nil)))
    (fs_cons (fs_set (i := 2) nd rfl (Or.inl rfl) (fe_tl fa_nil))
    (fs_cons (fs_for (is := [3]) rfl (fi_q (fe_meth (T.cls 19) (T.meth 20) (ok_Mode_followers T).1 (hr.mono (by decide)) (fe_dget (Nat.lt_of_le_of_lt (Nat.add_le_add_left (by decide : 1 ≤ 65) _) (HF.Room.u65 hr)) (fe_attr (hf_table T) (fv 0)) (fe_ix (fv 1) fe_int)) (fc_kw0 fk_nil) (kl_of al_nil))) (fg_n (i := 3) nd rfl (Or.inl rfl)) (fs_one (fs_for (is := [4]) rfl (fi_q (fe_meth (T.cls 19) (T.meth 103) (ok_Mode_flows T).1 (hr.mono (by decide)) (fe_dget (Nat.lt_of_le_of_lt (Nat.add_le_add_left (by decide : 1 ≤ 65) _) (HF.Room.u65 hr)) (fe_attr (hf_table T) (fv 0)) (fv 3)) (fc_kw0 fk_nil) (kl_of al_nil))) (fg_n (i := 4) nd rfl (Or.inl rfl)) (fs_one (fs_ex (fe_lm PySem.F.slot_list_append PySem.F.type_list_append mt_append mf_append (fv 2) (fa_cons (fe_tup (fa_cons (fv 3) (fa_cons (fv 4) (fa_cons (fe_meth (T.cls 36) (T.meth 89) (ok_Plan_entered T).1 (hr.mono (by decide)) (fv 0) (fc_kw (fa_cons (fv 1) (fa_cons (fv 3) (fa_cons (fv 4) fa_nil))) fk_nil) (kl_of al_nil)) fa_nil)))) fa_nil)))) PassesOwn.never)) PassesOwn.never)
    (fs_one (fs_ret (fe_frz (fv 2)))))))
end
end PF
set_option Elab.async false
set_option linter.all false
set_option maxRecDepth 100000
set_option maxHeartbeats 4000000
namespace PF
open PySem PySem.Spec PyProof.Rows L2 HF
section
variable {P : Program} {w : World} {K : PySem.W.Frag} {mg : Str → Option Value} {base : Heap}
theorem ok__law_width_behind (T : TX K mg fa fx fn) : FnK P w K mg base 3 (He.fAd K ("_law_width_behind", none)) cm__law_width_behind := by
  obtain ⟨fd, FD⟩ := T.d 72 (d := d__law_width_behind) rfl
  have nd := sc__law_width_behind.nd
  refine okP FD sc__law_width_behind rfl rfl (fun _ _ _ _ _ _ us hl => match us, hl with | [_, _, _, _, _], _ => rfl) (fun Av cdv A outer s H E hr => ?_)
  exact (fs_cons (fs_par (i := 5) (j := 6) rfl nd rfl rfl (by decide) rfl rfl (fa_cons (fcall (ok__law_row_of (P := P) (w := w) (base := base) T).1 (ok__law_row_of (P := P) (w := w) (base := base) T).2 hr (T.glo 66) (fc_kw (fa_cons (fv 0) (fa_cons (fe_ix (fv 2) fe_int) fa_nil)) fk_nil) (kl_of al_nil)) (fa_cons (fcall (ok__law_acts (P := P) (w := w) (base := base) T).1 (ok__law_acts (P := P) (w := w) (base := base) T).2 hr (T.glo 73) (fc_kw (fa_cons (fv 0) (fa_cons (fv 1) (fa_cons (fv 2) fa_nil))) fk_nil) (kl_of al_nil)) fa_nil)))
    (fs_cons (fs_set (i := 7) nd rfl (Or.inl rfl) (fe_bin op_addA of_add (fv 3) (fe_if (ft_cmp (op_eqD (Nat.lt_of_le_of_lt (Nat.add_le_add_left (by decide : 64 ≤ 65) _) (HF.Room.u65 hr))) of_eq (fv 4) fe_str (nomark _)) (fe_ix (fv 5) fe_int) (fe_ix (fv 5) fe_int))))
    (fs_cons (fs_if (ft_cmp (op_eqD (Nat.lt_of_le_of_lt (Nat.add_le_add_left (by decide : 64 ≤ 65) _) (HF.Room.u65 hr))) of_eq (fv 6) (fe_tup fa_nil) (nomark _)) (fs_one (fs_ret (fv 7))) fs_nil)
    (fs_cons (fs_if (ft_cmp (op_eqD (Nat.lt_of_le_of_lt (Nat.add_le_add_left (by decide : 64 ≤ 65) _) (HF.Room.u65 hr))) of_eq (fe_ix (fv 6) fe_int) fe_str (nomark _)) (fs_one (fs_ret fe_int)) fs_nil)
    (fs_one (fs_ret (fe_if (ft_cmp (op_eqD (Nat.lt_of_le_of_lt (Nat.add_le_add_left (by decide : 64 ≤ 65) _) (HF.Room.u65 hr))) of_eq (fe_ix (fv 6) fe_int) fe_str (nomark _)) (fe_ix (fv 6) fe_int) (fe_b (cr_min rfl) bf_minL rfl (T.free 11) (by decide +kernel) (fa_cons (fe_fl (fa_cons (fv 7) (fa_cons (fe_bin op_mulA of_mul fe_int (fe_ix (fv 6) fe_int)) fa_nil))) fa_nil)))))))))
theorem ok_check_pairs (T : TX K mg fa fx fn) : FnK P w K mg base 1 (He.fAd K ("check_pairs", none)) cm_check_pairs := by
  obtain ⟨fd, FD⟩ := T.d 73 (d := d_check_pairs) rfl
  have nd := sc_check_pairs.nd
  refine okP FD sc_check_pairs rfl rfl (fun _ _ _ _ _ _ us hl => match us, hl with | [_], _ => rfl) (fun Av cdv A outer s H E hr => ?_)
  exact (fs_one (fs_for (is := ([1] ++ ([2] ++ []))) rfl (fi_alt (fi_e rfl (T.free 17) (fa_cons (fv 0) fa_nil)) (fi_eT rfl (T.free 17) (fa_cons (fv 0) fa_nil))) (fg_q rfl (fgs_cons (fg_n (i := 1) nd rfl (Or.inl rfl)) (fgs_cons (fg_n (i := 2) nd rfl (Or.inl rfl)) fgs_nil))) (fs_one (fs_if (ft_bool (fw_or (ft_not (ft_val (fe_isT .tup (fv 2) (T.free 12) rfl (T.free 35) rfl (by decide +kernel)))) (fw_or1 (ft_cmp (op_neD (Nat.lt_of_le_of_lt (Nat.add_le_add_left (by decide : 64 ≤ 65) _) (HF.Room.u65 hr))) of_ne (fe_b call_len bf_len rfl (T.free 3) (by decide +kernel) (fa_cons (fv 2) fa_nil)) fe_int (nomark _))))) (fs_one fs_never) fs_nil)) PassesOwn.never))
theorem ok_Plan_ended (T : TX K mg fa fx fn) : FnK P w K mg base 5 (He.fAd K ("Plan", some "ended")) cm_Plan_ended := by
  obtain ⟨fd, FD⟩ := T.d 74 (d := d_Plan_ended) rfl
  have nd := sc_Plan_ended.nd
  refine okP FD sc_Plan_ended rfl rfl (fun _ _ _ _ _ _ us hl => match us, hl with | [_, _], _ => rfl) (fun Av cdv A outer s H E hr => ?_)
  exact (fs_cons (fs_ex (fcall (ok_check_pairs (P := P) (w := w) (base := base) T).1 (ok_check_pairs (P := P) (w := w) (base := base) T).2 hr (T.glo 106) (fc_kw (fa_cons (fv 1) fa_nil) fk_nil) (kl_of al_nil)))
    (fs_cons (fs_set (i := 2) nd rfl (Or.inl rfl) (fe_meth (T.cls 36) (T.meth 79) (ok_Plan_start_place T).1 (hr.mono (by decide)) (fv 0) (fc_kw0 fk_nil) (kl_of al_nil)))
    (fs_cons (fs_for (is := ([3] ++ ([4] ++ []))) rfl (fi_q (fv 1)) (fg_q rfl (fgs_cons (fg_n (i := 3) nd rfl (Or.inl rfl)) (fgs_cons (fg_n (i := 4) nd rfl (Or.inl rfl)) fgs_nil))) (fs_one (fs_set (i := 2) nd rfl (Or.inl rfl) (fe_meth (T.cls 36) (T.meth 90) (ok_Plan_moved T).1 (hr.mono (by decide)) (fv 0) (fc_kw (fa_cons (fv 2) (fa_cons (fv 3) (fa_cons (fv 4) fa_nil))) fk_nil) (kl_of al_nil)))) PassesOwn.never)
    (fs_one (fs_ret (fv 2))))))
theorem ok_check_side (T : TX K mg fa fx fn) : FnK P w K mg base 1 (He.fAd K ("check_side", none)) cm_check_side := by
  obtain ⟨fd, FD⟩ := T.d 75 (d := d_check_side) rfl
  have nd := sc_check_side.nd
  refine okP FD sc_check_side rfl rfl (fun _ _ _ _ _ _ us hl => match us, hl with | [_], _ => rfl) (fun Av cdv A outer s H E hr => ?_)
  exact (fs_one (fs_if (ft_bool (fw_or (ft_not (ft_val (fe_isT .str (fv 0) (T.free 12) rfl (T.free 23) rfl (by decide +kernel)))) (fw_or1 (ft_cmp op_notIn_seq of_ninT (fv 0) (fg_kt (T.glo 108) (T.kt 10)) rfl)))) (fs_one fs_never) fs_nil))
theorem ok_Mode_error_on (T : TX K mg fa fx fn) : FnK P w K mg base 2 (He.fAd K ("Mode", some "error_on")) cm_Mode_error_on := by
  obtain ⟨fd, FD⟩ := T.d 76 (d := d_Mode_error_on) rfl
  have nd := sc_Mode_error_on.nd
  refine okP FD sc_Mode_error_on rfl rfl (fun _ _ _ _ _ _ us hl => match us, hl with | [_, _], _ => rfl) (fun Av cdv A outer s H E hr => ?_)
  exact (fs_cons (fs_ex (fcall (ok_check_side (P := P) (w := w) (base := base) T).1 (ok_check_side (P := P) (w := w) (base := base) T).2 hr (T.glo 109) (fc_kw (fa_cons (fv 1) fa_nil) fk_nil) (kl_of al_nil)))
    (fs_one (fs_ret (fe_if (ft_cmp (op_eqD (Nat.lt_of_le_of_lt (Nat.add_le_add_left (by decide : 64 ≤ 65) _) (HF.Room.u65 hr))) of_eq (fv 1) fe_str (nomark _)) (fe_attr (hf_over T) (fv 0)) (fe_attr (hf_under T) (fv 0))))))
theorem ok_width_after (T : TX K mg fa fx fn) : FnK P w K mg base 5 (He.fAd K ("width_after", none)) cm_width_after := by
  obtain ⟨fd, FD⟩ := T.d 77 (d := d_width_after) rfl
  have nd := sc_width_after.nd
  refine okP FD sc_width_after rfl rfl (fun _ _ _ _ _ _ us hl => match us, hl with | [_, _, _, _, _], _ => rfl) (fun Av cdv A outer s H E hr => ?_)
  exact (fs_cons (fs_set (i := 5) nd rfl (Or.inl rfl) (fe_bin op_addA of_add (fv 3) (fe_meth (T.cls 19) (T.meth 110) (ok_Mode_error_on T).1 (hr.mono (by decide)) (fe_meth (T.cls 36) (T.meth 37) (ok_Plan_mode T).1 (hr.mono (by decide)) (fv 0) (fc_kw (fa_cons (fe_ix (fv 2) fe_int) fa_nil) fk_nil) (kl_of al_nil)) (fc_kw (fa_cons (fv 4) fa_nil) fk_nil) (kl_of al_nil))))
    (fs_cons (fs_set (i := 6) nd rfl (Or.inl rfl) (fe_meth (T.cls 76) (T.meth 95) (ok_Gauge_acting T).1 (hr.mono (by decide)) (fv 1) (fc_kw (fa_cons (fv 0) (fa_cons (fv 2) fa_nil)) fk_nil) (kl_of al_nil)))
    (fs_cons (fs_if (ft_cmp (op_eqD (Nat.lt_of_le_of_lt (Nat.add_le_add_left (by decide : 64 ≤ 65) _) (HF.Room.u65 hr))) of_eq (fv 6) (fe_tup fa_nil) (nomark _)) (fs_one (fs_ret (fv 5))) fs_nil)
    (fs_cons (fs_if (ft_cmp (op_eqD (Nat.lt_of_le_of_lt (Nat.add_le_add_left (by decide : 64 ≤ 65) _) (HF.Room.u65 hr))) of_eq (fe_ix (fv 6) fe_int) fe_str (nomark _)) (fs_one (fs_ret fe_int)) fs_nil)
    (fs_one (fs_ret (fe_if (ft_cmp (op_eqD (Nat.lt_of_le_of_lt (Nat.add_le_add_left (by decide : 64 ≤ 65) _) (HF.Room.u65 hr))) of_eq (fe_ix (fv 6) fe_int) fe_str (nomark _)) (fe_ix (fv 6) fe_int) (fe_b (call_min2 rfl) bf_min2 rfl (T.free 11) (by decide +kernel) (fa_cons (fv 5) (fa_cons (fe_bin op_mulA of_mul fe_int (fe_ix (fv 6) fe_int)) fa_nil))))))))))
theorem ok_widths_along (T : TX K mg fa fx fn) : FnK P w K mg base 6 (He.fAd K ("widths_along", none)) cm_widths_along := by
  obtain ⟨fd, FD⟩ := T.d 78 (d := d_widths_along) rfl
  have nd := sc_widths_along.nd
  refine okP FD sc_widths_along rfl rfl (fun _ _ _ _ _ _ us hl => match us, hl with | [_, _, _], _ => rfl) (fun Av cdv A outer s H E hr => ?_)
  exact (fs_cons (fs_ex (fe_meth (T.cls 76) (T.meth 78) (ok_Gauge_check T).1 (hr.mono (by decide)) (fv 1) (fc_kw (fa_cons (fv 0) fa_nil) fk_nil) (kl_of al_nil)))
    (fs_cons (fs_ex (fe_meth (T.cls 36) (T.meth 107) (ok_Plan_ended T).1 (hr.mono (by decide)) (fv 0) (fc_kw (fa_cons (fv 2) fa_nil) fk_nil) (kl_of al_nil)))
    (fs_cons (fs_par (i := 3) (j := 4) rfl nd rfl rfl (by decide) rfl rfl (fa_cons (fe_meth (T.cls 36) (T.meth 79) (ok_Plan_start_place T).1 (hr.mono (by decide)) (fv 0) (fc_kw0 fk_nil) (kl_of al_nil)) (fa_cons (fe_tup (fa_cons fe_int (fa_cons fe_int fa_nil))) fa_nil)))
    (fs_cons (fs_set (i := 5) nd rfl (Or.inl rfl) (fe_tl (fa_cons (fv 4) fa_nil)))
    (fs_cons (fs_for (is := ([6] ++ ([7] ++ []))) rfl (fi_q (fv 2)) (fg_q rfl (fgs_cons (fg_n (i := 6) nd rfl (Or.inl rfl)) (fgs_cons (fg_n (i := 7) nd rfl (Or.inl rfl)) fgs_nil))) (fs_cons (fs_set (i := 3) nd rfl (Or.inl rfl) (fe_meth (T.cls 36) (T.meth 90) (ok_Plan_moved T).1 (hr.mono (by decide)) (fv 0) (fc_kw (fa_cons (fv 3) (fa_cons (fv 6) (fa_cons (fv 7) fa_nil))) fk_nil) (kl_of al_nil)))
    (fs_cons (fs_set (i := 4) nd rfl (Or.inl rfl) (fe_tup (fa_cons (fcall (ok_width_after (P := P) (w := w) (base := base) T).1 (ok_width_after (P := P) (w := w) (base := base) T).2 hr (T.glo 111) (fc_kw (fa_cons (fv 0) (fa_cons (fv 1) (fa_cons (fv 3) (fa_cons (fe_ix (fv 4) fe_int) (fa_cons fe_str fa_nil))))) fk_nil) (kl_of al_nil)) (fa_cons (fcall (ok_width_after (P := P) (w := w) (base := base) T).1 (ok_width_after (P := P) (w := w) (base := base) T).2 hr (T.glo 111) (fc_kw (fa_cons (fv 0) (fa_cons (fv 1) (fa_cons (fv 3) (fa_cons (fe_ix (fv 4) fe_int) (fa_cons fe_str fa_nil))))) fk_nil) (kl_of al_nil)) fa_nil))))
    (fs_one (fs_ex (fe_lm PySem.F.slot_list_append PySem.F.type_list_append mt_append mf_append (fv 5) (fa_cons (fv 4) fa_nil)))))) PassesOwn.never)
    (fs_one (fs_ret (fe_frz (fv 5)))))))))
theorem ok__law_track_of (T : TX K mg fa fx fn) : FnK P w K mg base 1 (He.fAd K ("_law_track_of", none)) cm__law_track_of := by
  obtain ⟨fd, FD⟩ := T.d 79 (d := d__law_track_of) rfl
  have nd := sc__law_track_of.nd
  refine okP FD sc__law_track_of rfl rfl (fun _ _ _ _ _ _ us hl => match us, hl with | [_], _ => rfl) (fun Av cdv A outer s H E hr => ?_)
  exact (fs_one (fs_ret (fe_lc (own := [("_law_tick", 1)]) (is := [1]) rfl nd (fi_q (fv 0)) (blkOk_by (N := [("_law_deeds" : Str), ("_law_tick" : Str)]) (sc := defScope s__law_track_of) (by decide +kernel)) (fun _ _ _ _ _ _ => (fg_n (i := 1) nd rfl (Or.inl rfl))) (fun _ _ _ _ _ _ => ft_nil) (fun _ _ _ _ _ _ => (fe_tup (fa_cons (fe_ix (fv 1) fe_int) (fa_cons (fe_ix (fv 1) fe_int) fa_nil)))))))
theorem ok_law {fd : FuncData} (T : TX K mg fa fx fn) (FD : FunD K d_law.name d_law.qual d_law.params d_law.body d_law.scope [] [] (He.fAd K ("law", none)) fd) : FnOk P w K mg base HF.CX0 10 (He.fAd K ("law", none)) fd [("_law_script" : Str)] (spF K 1 (m_fn 1 20 b_law)) := by
  have nd := sc_law.nd
  refine fnF FD sc_law (fun Av cdv A outer s H E hr => ?_)
  exact (fs_cons (fs_set (i := 1) nd rfl (Or.inr rfl) (fcall (ok__law_start (P := P) (w := w) (base := base) T).1 (ok__law_start (P := P) (w := w) (base := base) T).2 hr (T.glo 2) (fc_kw (fa_cons (fv 0) fa_nil) fk_nil) (kl_of al_nil)))
    (fs_cons (fs_par3 (i := 2) (j := 3) (l := 4) rfl nd rfl rfl rfl (by decide) (by decide) (by decide) rfl rfl rfl (fa_cons (fcall (ok__law_names_drawn (P := P) (w := w) (base := base) T).1 (ok__law_names_drawn (P := P) (w := w) (base := base) T).2 hr (T.glo 8) (fc_kw (fa_cons (fv 1) (fa_cons (fe_bin op_addA of_add fe_int (fcall (ok__law_pull (P := P) (w := w) (base := base) T).1 (ok__law_pull (P := P) (w := w) (base := base) T).2 hr (T.glo 5) (fc_kw (fa_cons (fv 1) (fa_cons fe_int fa_nil)) fk_nil) (kl_of al_nil))) fa_nil)) fk_nil) (kl_of al_nil)) (fa_cons (fe_bin op_addA of_add fe_int (fcall (ok__law_pull (P := P) (w := w) (base := base) T).1 (ok__law_pull (P := P) (w := w) (base := base) T).2 hr (T.glo 5) (fc_kw (fa_cons (fv 1) (fa_cons fe_int fa_nil)) fk_nil) (kl_of al_nil))) (fa_cons (fe_tl fa_nil) fa_nil))))
    (fs_cons (fs_for (is := [5]) rfl (fi_q (fv 2)) (fg_n (i := 5) nd rfl (Or.inl rfl)) (fs_cons (fs_set (i := 6) nd rfl (Or.inl rfl) (fcall (ok__law_close (P := P) (w := w) (base := base) T).1 (ok__law_close (P := P) (w := w) (base := base) T).2 hr (T.glo 9) (fc_kw (fa_cons (fv 1) (fa_cons fe_int fa_nil)) fk_nil) (kl_of al_nil)))
    (fs_cons (fs_set (i := 7) nd rfl (Or.inl rfl) (fcall (ok__law_mixed (P := P) (w := w) (base := base) T).1 (ok__law_mixed (P := P) (w := w) (base := base) T).2 hr (T.glo 10) (fc_kw (fa_cons (fv 1) (fa_cons (fe_lc (own := [("_law_other", 18)]) (is := [18]) rfl nd (fi_q (fv 2)) (blkOk_by (N := [("_law_script" : Str), ("_law_bag" : Str), ("_law_names" : Str), ("_law_size" : Str), ("_law_modes" : Str), ("_law_name" : Str), ("_law_low" : Str), ("_law_late" : Str), ("_law_high" : Str), ("_law_shape" : Str), ("_law_course" : Str), ("_law_fixes" : Str), ("_law_dial" : Str), ("_law_deeds" : Str), ("_law_moments" : Str), ("_law_point" : Str), ("_law_total" : Str), ("_law_due" : Str), ("_law_other" : Str), ("_law_row" : Str)]) (sc := defScope s_law) (by decide +kernel)) (fun _ _ _ _ _ _ => (fg_n (i := 18) nd rfl (Or.inl rfl))) (fun _ _ _ _ _ _ => (ft_one (ft_cmp op_gt of_gt (fcall (ok__law_pull (P := P) (w := w) (base := base) T).1 (ok__law_pull (P := P) (w := w) (base := base) T).2 hr (T.glo 5) (fc_kw (fa_cons (fv 1) (fa_cons fe_int fa_nil)) fk_nil) (kl_of al_nil)) fe_int (nomark _)))) (fun _ _ _ _ _ _ => (fv 18))) fa_nil)) fk_nil) (kl_of al_nil)))
    (fs_cons (fs_set (i := 8) nd rfl (Or.inl rfl) (fe_bin op_addA of_add (fv 6) (fcall (ok__law_pull (P := P) (w := w) (base := base) T).1 (ok__law_pull (P := P) (w := w) (base := base) T).2 hr (T.glo 5) (fc_kw (fa_cons (fv 1) (fa_cons (fe_b (cr_min rfl) bf_minL rfl (T.free 11) (by decide +kernel) (fa_cons (fe_fl (fa_cons fe_int (fa_cons (fe_bin op_sub of_sub fe_int (fv 6)) fa_nil))) fa_nil)) fa_nil)) fk_nil) (kl_of al_nil))))
    (fs_one (fs_ex (fe_lm PySem.F.slot_list_append PySem.F.type_list_append mt_append mf_append (fv 4) (fa_cons (fe_fl (fa_cons (fv 5) (fa_cons (fv 6) (fa_cons (fv 8) (fa_cons (fcall (ok__law_pull (P := P) (w := w) (base := base) T).1 (ok__law_pull (P := P) (w := w) (base := base) T).2 hr (T.glo 5) (fc_kw (fa_cons (fv 1) (fa_cons fe_int fa_nil)) fk_nil) (kl_of al_nil)) (fa_cons (fcall (ok__law_pull (P := P) (w := w) (base := base) T).1 (ok__law_pull (P := P) (w := w) (base := base) T).2 hr (T.glo 5) (fc_kw (fa_cons (fv 1) (fa_cons fe_int fa_nil)) fk_nil) (kl_of al_nil)) (fa_cons (fe_if (ft_cmp (op_neD (Nat.lt_of_le_of_lt (Nat.add_le_add_left (by decide : 64 ≤ 65) _) (HF.Room.u65 hr))) of_ne (fv 7) (fe_fl fa_nil) (nomark _)) (fv 7) (fe_fl (fa_cons (fv 5) fa_nil))) fa_nil))))))) fa_nil))))))) PassesOwn.never)
    (fs_fz 4 (fs_cons (fs_set (i := 9) nd rfl (Or.inl rfl) (fe_fl (fa_cons (fv 3) (fa_cons (fcall (ok__law_pull (P := P) (w := w) (base := base) T).1 (ok__law_pull (P := P) (w := w) (base := base) T).2 hr (T.glo 5) (fc_kw (fa_cons (fv 1) (fa_cons (fe_bin op_addA of_add (fv 3) fe_int) fa_nil)) fk_nil) (kl_of al_nil)) (fa_cons (fv 4) fa_nil)))))
    (fs_cons (fs_set (i := 10) nd rfl (Or.inr rfl) (fcall (ok__law_plan_of (P := P) (w := w) (base := base) T).1 (ok__law_plan_of (P := P) (w := w) (base := base) T).2 hr (T.glo 32) (fc_kw (fa_cons (fv 3) (fa_cons (fe_lc (own := [("_law_row", 19)]) (is := [19]) rfl nd (fi_q (fv 4)) (blkOk_by (N := [("_law_script" : Str), ("_law_bag" : Str), ("_law_names" : Str), ("_law_size" : Str), ("_law_modes" : Str), ("_law_name" : Str), ("_law_low" : Str), ("_law_late" : Str), ("_law_high" : Str), ("_law_shape" : Str), ("_law_course" : Str), ("_law_fixes" : Str), ("_law_dial" : Str), ("_law_deeds" : Str), ("_law_moments" : Str), ("_law_point" : Str), ("_law_total" : Str), ("_law_due" : Str), ("_law_other" : Str), ("_law_row" : Str)]) (sc := defScope s_law) (by decide +kernel)) (fun _ _ _ _ _ _ => (fg_n (i := 19) nd rfl (Or.inl rfl))) (fun _ _ _ _ _ _ => ft_nil) (fun _ _ _ _ _ _ => (fcall (ok__law_many_mode (P := P) (w := w) (base := base) T).1 (ok__law_many_mode (P := P) (w := w) (base := base) T).2 hr (T.glo 31) (fc_kw (fa_cons (fv 19) fa_nil) fk_nil) (kl_of al_nil)))) (fa_cons (fe_ix (fv 9) fe_int) fa_nil))) fk_nil) (kl_of al_nil)))
    (fs_cons (fs_if (ft_not (ft_val (fcall (ok__law_same (P := P) (w := w) (base := base) T 8).1 (ok__law_same (P := P) (w := w) (base := base) T 8).2 hr (T.glo 33) (fc_kw (fa_cons (fe_lc (own := [("_law_row", 19)]) (is := [19]) rfl nd (fi_q (fv 4)) (blkOk_by (N := [("_law_script" : Str), ("_law_bag" : Str), ("_law_names" : Str), ("_law_size" : Str), ("_law_modes" : Str), ("_law_name" : Str), ("_law_low" : Str), ("_law_late" : Str), ("_law_high" : Str), ("_law_shape" : Str), ("_law_course" : Str), ("_law_fixes" : Str), ("_law_dial" : Str), ("_law_deeds" : Str), ("_law_moments" : Str), ("_law_point" : Str), ("_law_total" : Str), ("_law_due" : Str), ("_law_other" : Str), ("_law_row" : Str)]) (sc := defScope s_law) (by decide +kernel)) (fun _ _ _ _ _ _ => (fg_n (i := 19) nd rfl (Or.inl rfl))) (fun _ _ _ _ _ _ => ft_nil) (fun _ _ _ _ _ _ => (fe_meth (T.cls 19) (T.meth 20) (ok_Mode_followers T).1 (hr.mono (by decide)) (fe_meth (T.cls 36) (T.meth 37) (ok_Plan_mode T).1 (hr.mono (by decide)) (fv 10) (fc_kw (fa_cons (fe_ix (fv 19) fe_int) fa_nil) fk_nil) (kl_of al_nil)) (fc_kw0 fk_nil) (kl_of al_nil)))) (fa_cons (fe_lc (own := [("_law_row", 19)]) (is := [19]) rfl nd (fi_q (fv 4)) (blkOk_by (N := [("_law_script" : Str), ("_law_bag" : Str), ("_law_names" : Str), ("_law_size" : Str), ("_law_modes" : Str), ("_law_name" : Str), ("_law_low" : Str), ("_law_late" : Str), ("_law_high" : Str), ("_law_shape" : Str), ("_law_course" : Str), ("_law_fixes" : Str), ("_law_dial" : Str), ("_law_deeds" : Str), ("_law_moments" : Str), ("_law_point" : Str), ("_law_total" : Str), ("_law_due" : Str), ("_law_other" : Str), ("_law_row" : Str)]) (sc := defScope s_law) (by decide +kernel)) (fun _ _ _ _ _ _ => (fg_n (i := 19) nd rfl (Or.inl rfl))) (fun _ _ _ _ _ _ => ft_nil) (fun _ _ _ _ _ _ => (fe_ix (fv 19) fe_int))) fa_nil)) fk_nil) (kl_of al_nil)))) (fs_one (fs_ret fe_bl)) fs_nil)
    (fs_cons (fs_if (ft_not (ft_val (fcall (ok__law_same (P := P) (w := w) (base := base) T 8).1 (ok__law_same (P := P) (w := w) (base := base) T 8).2 hr (T.glo 33) (fc_kw (fa_cons (fcall (ok_plan_text (P := P) (w := w) (base := base) T).1 (ok_plan_text (P := P) (w := w) (base := base) T).2 hr (T.glo 40) (fc_kw (fa_cons (fv 10) fa_nil) fk_nil) (kl_of al_nil)) (fa_cons (fcall (ok__law_plan_text (P := P) (w := w) (base := base) T).1 (ok__law_plan_text (P := P) (w := w) (base := base) T).2 hr (T.glo 42) (fc_kw (fa_cons (fv 9) fa_nil) fk_nil) (kl_of al_nil)) fa_nil)) fk_nil) (kl_of al_nil)))) (fs_one (fs_ret fe_bl)) fs_nil)
    (fs_cons (fs_if (ft_cmp (op_ownNe (T.meth 52) (T.ne1 5) (T.ne2 5) (ok_Plan___eq__ T).1 (hr.mono (by decide))) of_own2 (fcall (ok_read_plan (P := P) (w := w) (base := base) T).1 (ok_read_plan (P := P) (w := w) (base := base) T).2 hr (T.glo 49) (fc_kw (fa_cons (fcall (ok__law_plan_text (P := P) (w := w) (base := base) T).1 (ok__law_plan_text (P := P) (w := w) (base := base) T).2 hr (T.glo 42) (fc_kw (fa_cons (fv 9) fa_nil) fk_nil) (kl_of al_nil)) fa_nil) fk_nil) (kl_of al_nil)) (fv 10) (nomark _)) (fs_one (fs_ret fe_bl)) fs_nil)
    (fs_cons (fs_set (i := 11) nd rfl (Or.inl rfl) (fcall (ok__law_fixes_drawn (P := P) (w := w) (base := base) T).1 (ok__law_fixes_drawn (P := P) (w := w) (base := base) T).2 hr (T.glo 53) (fc_kw (fa_cons (fv 1) (fa_cons (fv 9) (fa_cons fe_int fa_nil))) fk_nil) (kl_of al_nil)))
    (fs_cons (fs_set (i := 12) nd rfl (Or.inl rfl) (fcall (ok__law_gauge_made (P := P) (w := w) (base := base) T).1 (ok__law_gauge_made (P := P) (w := w) (base := base) T).2 hr (T.glo 64) (fc_kw (fa_cons (fv 11) fa_nil) fk_nil) (kl_of al_nil)))
    (fs_cons (fs_asg (is := ([13] ++ ([14] ++ []))) (fcall (ok__law_use_drawn (P := P) (w := w) (base := base) T).1 (ok__law_use_drawn (P := P) (w := w) (base := base) T).2 hr (T.glo 75) (fc_kw (fa_cons (fv 1) (fa_cons (fv 9) (fa_cons (fv 11) (fa_cons fe_int fa_nil)))) fk_nil) (kl_of al_nil)) (fg_q rfl (fgs_cons (fg_n (i := 13) nd rfl (Or.inl rfl)) (fgs_cons (fg_n (i := 14) nd rfl (Or.inl rfl)) fgs_nil))))
    (fs_cons (fs_if (ft_not (ft_val (fcall (ok__law_same (P := P) (w := w) (base := base) T 8).1 (ok__law_same (P := P) (w := w) (base := base) T 8).2 hr (T.glo 33) (fc_kw (fa_cons (fcall (ok_played (P := P) (w := w) (base := base) T).1 (ok_played (P := P) (w := w) (base := base) T).2 hr (T.glo 102) (fc_kw (fa_cons (fv 10) (fa_cons (fv 12) (fa_cons (fv 13) fa_nil))) fk_nil) (kl_of al_nil)) (fa_cons (fe_lc (own := [("_law_point", 15), ("_law_total", 16)]) (is := ([15] ++ ([16] ++ []))) rfl nd (fi_q (fv 14)) (blkOk_by (N := [("_law_script" : Str), ("_law_bag" : Str), ("_law_names" : Str), ("_law_size" : Str), ("_law_modes" : Str), ("_law_name" : Str), ("_law_low" : Str), ("_law_late" : Str), ("_law_high" : Str), ("_law_shape" : Str), ("_law_course" : Str), ("_law_fixes" : Str), ("_law_dial" : Str), ("_law_deeds" : Str), ("_law_moments" : Str), ("_law_point" : Str), ("_law_total" : Str), ("_law_due" : Str), ("_law_other" : Str), ("_law_row" : Str)]) (sc := defScope s_law) (by decide +kernel)) (fun _ _ _ _ _ _ => (fg_q rfl (fgs_cons (fg_n (i := 15) nd rfl (Or.inl rfl)) (fgs_cons (fg_n (i := 16) nd rfl (Or.inl rfl)) fgs_nil)))) (fun _ _ _ _ _ _ => ft_nil) (fun _ _ _ _ _ _ => (fe_tup (fa_cons (fe_ix (fv 15) fe_int) (fa_cons (fv 16) fa_nil))))) fa_nil)) fk_nil) (kl_of al_nil)))) (fs_one (fs_ret fe_bl)) fs_nil)
    (fs_cons (fs_set (i := 17) nd rfl (Or.inl rfl) (fe_tl (fa_cons (fe_tup (fa_cons fe_int (fa_cons fe_int fa_nil))) fa_nil)))
    (fs_cons (fs_for (is := ([15] ++ ([16] ++ []))) rfl (fi_q (fe_sl (fv 14) (fo_some fe_int) fo_none)) (fg_q rfl (fgs_cons (fg_n (i := 15) nd rfl (Or.inl rfl)) (fgs_cons (fg_n (i := 16) nd rfl (Or.inl rfl)) fgs_nil))) (fs_cons (fs_if (ft_not (ft_val (fcall (ok__law_same (P := P) (w := w) (base := base) T 8).1 (ok__law_same (P := P) (w := w) (base := base) T 8).2 hr (T.glo 33) (fc_kw (fa_cons (fe_fl (fa_cons (fe_meth (T.cls 36) (T.meth 104) (ok_Plan_ticks_from T).1 (hr.mono (by decide)) (fv 10) (fc_kw (fa_cons (fv 15) fa_nil) fk_nil) (kl_of al_nil)) (fa_cons (fe_meth (T.cls 76) (T.meth 95) (ok_Gauge_acting T).1 (hr.mono (by decide)) (fv 12) (fc_kw (fa_cons (fv 10) (fa_cons (fv 15) fa_nil)) fk_nil) (kl_of al_nil)) fa_nil))) (fa_cons (fe_fl (fa_cons (fcall (ok__law_ticks (P := P) (w := w) (base := base) T).1 (ok__law_ticks (P := P) (w := w) (base := base) T).2 hr (T.glo 69) (fc_kw (fa_cons (fv 9) (fa_cons (fv 15) fa_nil)) fk_nil) (kl_of al_nil)) (fa_cons (fcall (ok__law_acts (P := P) (w := w) (base := base) T).1 (ok__law_acts (P := P) (w := w) (base := base) T).2 hr (T.glo 73) (fc_kw (fa_cons (fv 9) (fa_cons (fv 11) (fa_cons (fv 15) fa_nil))) fk_nil) (kl_of al_nil)) fa_nil))) fa_nil)) fk_nil) (kl_of al_nil)))) (fs_one (fs_ret fe_bl)) fs_nil)
    (fs_one (fs_ex (fe_lm PySem.F.slot_list_append PySem.F.type_list_append mt_append mf_append (fv 17) (fa_cons (fe_tup (fa_cons (fcall (ok__law_width_behind (P := P) (w := w) (base := base) T).1 (ok__law_width_behind (P := P) (w := w) (base := base) T).2 hr (T.glo 105) (fc_kw (fa_cons (fv 9) (fa_cons (fv 11) (fa_cons (fv 15) (fa_cons (fe_ix (fe_ix (fv 17) (fe_neg fe_int)) fe_int) (fa_cons fe_str fa_nil))))) fk_nil) (kl_of al_nil)) (fa_cons (fcall (ok__law_width_behind (P := P) (w := w) (base := base) T).1 (ok__law_width_behind (P := P) (w := w) (base := base) T).2 hr (T.glo 105) (fc_kw (fa_cons (fv 9) (fa_cons (fv 11) (fa_cons (fv 15) (fa_cons (fe_ix (fe_ix (fv 17) (fe_neg fe_int)) fe_int) (fa_cons fe_str fa_nil))))) fk_nil) (kl_of al_nil)) fa_nil))) fa_nil))))) PassesOwn.never)
    (fs_fz 17 (fs_one (fs_ret (fcall (ok__law_same (P := P) (w := w) (base := base) T 8).1 (ok__law_same (P := P) (w := w) (base := base) T 8).2 hr (T.glo 33) (fc_kw (fa_cons (fcall (ok_widths_along (P := P) (w := w) (base := base) T).1 (ok_widths_along (P := P) (w := w) (base := base) T).2 hr (T.glo 113) (fc_kw (fa_cons (fv 10) (fa_cons (fv 12) (fa_cons (fcall (ok__law_track_of (P := P) (w := w) (base := base) T).1 (ok__law_track_of (P := P) (w := w) (base := base) T).2 hr (T.glo 112) (fc_kw (fa_cons (fv 13) fa_nil) fk_nil) (kl_of al_nil)) fa_nil))) fk_nil) (kl_of al_nil)) (fa_cons (fv 17) fa_nil)) fk_nil) (kl_of al_nil))))))))))))))))))))
end
end PF
set_option Elab.async false
set_option linter.all false
set_option maxRecDepth 100000
set_option maxHeartbeats 0
namespace PF
open PySem PySem.Spec PyProof.Rows L2 HF
def Spec : Prop := ∀ (ns : List Int) (d : D), ns.length ≤ 63 → (d = .fz (ns.map D.int) ∨ d = .kl (ns.map D.int)) → ∃ h' : List O, m_fn 1 20 b_law [d] [] = some (.bl true, h')
theorem rep0 {K : PySem.W.Frag} (H : Hp) : Rep K (fun _ => False) [] [] H := { len := rfl, inj := (fun i j a h => by cases h), nav := (fun a h => by obtain ⟨i, z⟩ := h; cases z), dom := (fun a h => False.elim h), obs := (fun i a o h => by cases h), drop := (fun i h => by cases h) }
theorem rd_ints {K : PySem.W.Frag} {T : Addr → Prop} {H : Hp} {r : Rho} : ∀ ns : List Int, RDs K T H r (ns.map D.int) (ns.map V.int)
  | [] => .nil
  | n :: t => .cons (.int n) (rd_ints t)
theorem facts {P : Program} {w : World} {K : PySem.W.Frag} {h : Heap} {mg : Str → Option Value} {f : Addr} (X : K.In h) (G : h.Ns mainGlobals mg) (hfa : mg ("law" : Str) = some (.ref f)) (c : SaysW fa fx fn K) :
    ∃ fd : FuncData, (∀ (s : Shared) (v : Value), BindsTo s fd ⟨[v], []⟩ [("_law_script", v)]) ∧ ∀ base : Heap, K.In base → base.Ns mainGlobals mg → FnOk P w K mg base HF.CX0 10 f fd ["_law_script"] (spF K 1 (m_fn 1 20 b_law)) := by
  have T := TX.of X G c
  obtain ⟨fd, F⟩ := T.d 80 (d := d_law) rfl
  have e := hfa.symm.trans (T.glo 114)
  cases e
  have b := FunD.bindsA (ps := ["_law_script"]) F fun _ _ _ _ _ _ us hl => match us, hl with | [_], _ => rfl
  exact ⟨fd, fun s v => b s [v] rfl, fun base _ _ => ok_law T F⟩
end PF
open PySem PySem.W PySem.Calls PyProof.Rows
theorem PF.holds_of (sp : PF.Spec) : PySem.Challenge.rw_brimrest_k72_whole_plans_of_many_modes.Holds := by
  w_on; o_law
  refine HandSHeadRun.head_any (r := OpenLaw.row PySem.Challenge.rw_brimrest_k72_whole_plans_of_many_modes) (q := view (OpenLaw.row PySem.Challenge.rw_brimrest_k72_whole_plans_of_many_modes).prog [90]) (H := PF.hk) (ob := PF.ob) (M := 20000) (loose := PF.names) (d := HandSHeadRun.topDef (OpenLaw.row PySem.Challenge.rw_brimrest_k72_whole_plans_of_many_modes).prog 90) (kwd := []) PF.ob_eq
    (by kernel_rfl) (fun s => by kernel_rfl) PF.run (by kernel_rfl) (by kernel_rfl) (by kernel_rfl) (by rfl) (by first | assumption | decide +kernel) (by decide +kernel) ⟨rfl, rfl, rfl, rfl, rfl, by decide +kernel⟩ ?hw ?hc
  case hw => w_witness2
  case hc =>
    refine L2.walk_ofE (l := PySem.Challenge.rw_brimrest_k72_whole_plans_of_many_modes) (n := 63) (k := 10) (x := "_law_script") (CX := HF.CX0) rfl (by decide) (by kernel_rfl) ⟨rfl, by decide, by decide⟩ ?F (fun _ _ _ _ z => z)
    intro w mg fa h Y G hmg0
    obtain ⟨K, KX, c⟩ := Y
    have hmg : mg ("law" : PySem.Str) = some (.ref fa) := by
      have e : (HandSHeadRun.topDef (OpenLaw.row PySem.Challenge.rw_brimrest_k72_whole_plans_of_many_modes).prog 90).name = ("law" : PySem.Str) := by kernel_rfl
      rw [← e]
      exact hmg0
    obtain ⟨fd, hb, hF⟩ := PF.facts (P := (PySem.Challenge.rw_brimrest_k72_whole_plans_of_many_modes).prog) (w := w) KX G hmg c
    refine ⟨K, fd, _, KX, hb, fun H a ns hl _ hS => ?_, hF⟩
    have nt : ¬ HF.Tr (fun _ => False) [] a := fun z => by
      rcases z with z | z
      · exact z
      · obtain ⟨i, z⟩ := z
        cases z
    have fin : ∀ d : HF.D, (d = .fz (ns.map HF.D.int) ∨ d = .kl (ns.map HF.D.int)) → HF.RD K (HF.Tr (fun _ => False) []) H [] d (.ref a) → HF.spF K 1 (HF.m_fn 1 20 PF.b_law) [.ref a] H (fun v _ => v = .bl true) fun _ _ _ => False := fun d hd q => by
      obtain ⟨h', e⟩ := sp ns d hl hd
      refine ⟨fun _ => False, [], [d], [], .bl true, h', rfl, PF.rep0 H, .cons q .nil, e, fun r' v H' _ _ q => ?_⟩
      cases q
      rfl
    rcases hS with hS | hS
    · exact fin _ (.inl rfl) (.fz hS nt (PF.rd_ints ns))
    · exact fin _ (.inr rfl) (.kl hS (PF.rd_ints ns))
set_option Elab.async false
set_option linter.all false
set_option maxRecDepth 100000
set_option maxHeartbeats 1000000
/-! SP0: facts about the readings' values: equality, slots, texts. -/
namespace SP
open PySem PySem.Spec PyProof.Rows L2 HF
theorem szOk_of {n : Nat} (h : n ≤ 100000) : szOk n = true := decide_eq_true h
theorem strOk_iff {x : Str} : PyData.strOk x = true ↔ ∀ c ∈ x.cps.toList, c < 0x110000 := by
  unfold PyData.strOk
  rw [← Array.all_toList, List.all_eq_true]
  simp
abbrev SOk (x : Str) : Prop := PyData.strOk x = true
theorem cps_append' (a b : Str) : (a ++ b).cps = a.cps ++ b.cps := rfl
theorem SOk.app {a b : Str} (ha : SOk a) (hb : SOk b) : SOk (a ++ b) := by
  rw [SOk, strOk_iff] at *
  intro c hc
  rw [cps_append', Array.toList_append, List.mem_append] at hc
  exact hc.elim (ha c) (hb c)
theorem beq_str (a b : Str) : (a == b) = decide (a = b) := by
  by_cases h : a = b
  · subst h; simp
  · simp [h]
section
variable {h : List O}
theorem eq_int (i j : Int) : f_eq (.int i) (.int j) h = some (.bl (decide (i = j)), h) := by
  rfl
theorem ne_int (i j : Int) : f_ne (.int i) (.int j) h = some (.bl (!decide (i = j)), h) := by
  rfl
theorem eq_str {a b : Str} (ha : SOk a) (hb : SOk b) : f_eq (.str a) (.str b) h = some (.bl (decide (a = b)), h) := by
  have ha' : PyData.strOk a = true := ha
  have hb' : PyData.strOk b = true := hb
  simp [f_eq, toP, PyData.eqv, ha', hb', beq_str]
theorem ne_str {a b : Str} (ha : SOk a) (hb : SOk b) : f_ne (.str a) (.str b) h = some (.bl (!decide (a = b)), h) := by
  have ha' : PyData.strOk a = true := ha
  have hb' : PyData.strOk b = true := hb
  simp [f_ne, toP, PyData.eqv, ha', hb', beq_str]
end
/-! texts in data -/
theorem toPs_str (h : List O) (n : Nat) : ∀ xs : List Str, (∀ x ∈ xs, SOk x) → toPs (toP h (n + 1)) (xs.map D.str) = some (xs.map PyData.str)
  | [], _ => rfl
  | x :: xs, hx => by
    have h1 : PyData.strOk x = true := hx x (.head _)
    simp [toPs, toP, h1, toPs_str h n xs fun y hy => hx y (.tail _ hy)]
theorem toPs_int (h : List O) (n : Nat) : ∀ xs : List Int, toPs (toP h (n + 1)) (xs.map D.int) = some (xs.map PyData.int)
  | [] => rfl
  | x :: xs => by simp [toPs, toP, toPs_int h n xs]
theorem any_eqv_str (a : Str) : ∀ xs : List Str, ((xs.map PyData.str).any fun z => PyData.eqv z (.str a)) = decide (a ∈ xs)
  | [] => rfl
  | x :: xs => by
    rw [List.map_cons, List.any_cons, any_eqv_str a xs]
    simp [PyData.eqv, beq_str, eq_comm]
theorem eqvAll_str : ∀ xs ys : List Str, PyData.eqvAll (xs.map PyData.str) (ys.map PyData.str) = decide (xs = ys)
  | [], [] => by simp [PyData.eqvAll]
  | [], y :: ys => by simp [PyData.eqvAll]
  | x :: xs, [] => by simp [PyData.eqvAll]
  | x :: xs, y :: ys => by simp [PyData.eqvAll, PyData.eqv, beq_str, eqvAll_str xs ys]
theorem toP_fl_str (h : List O) {xs : List Str} (hx : ∀ x ∈ xs, SOk x) : toP h 12 (.fl (xs.map D.str)) = some (.list (xs.map PyData.str)) := by
  rw [toP, toPs_str h 10 xs hx]; rfl
theorem toP_str (h : List O) (n : Nat) {a : Str} (ha : SOk a) : toP h (n + 1) (.str a) = some (.str a) := by
  have ha' : PyData.strOk a = true := ha
  simp [toP, ha']
theorem inL_str {h : List O} {a : Str} {xs : List Str} (ha : SOk a) (hx : ∀ x ∈ xs, SOk x) : f_inL (.str a) (.fl (xs.map D.str)) h = some (.bl (decide (a ∈ xs)), h) := by
  unfold f_inL
  rw [toP_str h 11 ha, toP_fl_str h hx]
  simp only [Option.bind_some, any_eqv_str]
theorem ninL_str {h : List O} {a : Str} {xs : List Str} (ha : SOk a) (hx : ∀ x ∈ xs, SOk x) : f_ninL (.str a) (.fl (xs.map D.str)) h = some (.bl (!decide (a ∈ xs)), h) := by
  unfold f_ninL
  rw [toP_str h 11 ha, toP_fl_str h hx]
  simp only [Option.bind_some, any_eqv_str]
theorem allStr_map : ∀ xs : List Str, allStr (xs.map D.str) = some xs
  | [] => rfl
  | x :: xs => by simp [allStr, allStr_map xs]
theorem allInt_map : ∀ xs : List Int, allInt (xs.map D.int) = some xs
  | [] => rfl
  | x :: xs => by simp [allInt, allInt_map xs]
theorem allBl_map : ∀ xs : List Bool, allBl (xs.map D.bl) = some xs
  | [] => rfl
  | x :: xs => by simp [allBl, allBl_map xs]
/-! texts by their signs -/
def mk (l : List Nat) : Str := ⟨l.toArray⟩
theorem mk_list (x : Str) : mk x.cps.toList = x := by simp [mk]
theorem list_mk (l : List Nat) : (mk l).cps.toList = l := by simp [mk]
theorem str_ext {a b : Str} (h : a.cps.toList = b.cps.toList) : a = b := by
  rw [← mk_list a, ← mk_list b, h]
theorem app_list (a b : Str) : (a ++ b).cps.toList = a.cps.toList ++ b.cps.toList := by rw [cps_append', Array.toList_append]
theorem len_list (a : Str) : a.length = a.cps.toList.length := by simp [Str.length]
theorem split_ne (x y : Str) : Txt.split x y ≠ [] := by
  unfold Txt.split
  split
  · simp
  · split
    · simp
    · rw [StrLaws.partsBetween_eq]
      obtain ⟨p, r, e⟩ := StrLaws.partsFrom_ne x y.length 0 (Builtin.Str.occurrences x y 0 x.length (x.length + 1))
      rw [e]
      simp
theorem join_inj (c : Nat) : ∀ xs ys : List Str, xs ≠ [] → ys ≠ [] → (∀ p ∈ xs, c ∉ p.cps.toList) → (∀ p ∈ ys, c ∉ p.cps.toList) → (Str.join (mk [c]) xs).cps.toList = (Str.join (mk [c]) ys).cps.toList → xs = ys := by
  have pre : ∀ (a b u v : List Nat), c ∉ a → c ∉ b → a ++ c :: u = b ++ c :: v → a = b ∧ u = v := by
    intro a
    induction a with
    | nil =>
      intro b u v _ hb e
      cases b with
      | nil => simp at e; exact ⟨rfl, e⟩
      | cons y b => simp at e; exact absurd e.1 (by intro z; exact hb (by simp [z]))
    | cons x a ih =>
      intro b u v ha hb e
      cases b with
      | nil => simp at e; exact absurd e.1 (by intro z; exact ha (by simp [z]))
      | cons y b =>
        simp at e
        obtain ⟨e1, e2⟩ := ih b u v (by intro z; exact ha (by simp [z])) (by intro z; exact hb (by simp [z])) e.2
        exact ⟨by rw [e.1, e1], e2⟩
  intro xs
  induction xs with
  | nil => intro ys h; exact absurd rfl h
  | cons x xs ih =>
    intro ys _ hy hx hy2 e
    cases ys with
    | nil => exact absurd rfl hy
    | cons y ys =>
      cases xs with
      | nil =>
        cases ys with
        | nil => rw [str_ext (a := x) (b := y) (by simpa [Str.join] using e)]
        | cons z zs =>
          exfalso
          have : c ∈ x.cps.toList := by
            have e' : x.cps.toList = (y ++ mk [c] ++ Str.join (mk [c]) (z :: zs)).cps.toList := e
            rw [e', app_list, app_list, list_mk]
            simp
          exact hx x (.head _) this
      | cons x2 xs2 =>
        cases ys with
        | nil =>
          exfalso
          have : c ∈ y.cps.toList := by
            have e' : (x ++ mk [c] ++ Str.join (mk [c]) (x2 :: xs2)).cps.toList = y.cps.toList := e
            rw [← e', app_list, app_list, list_mk]
            simp
          exact hy2 y (.head _) this
        | cons z zs =>
          have e' : (x ++ mk [c] ++ Str.join (mk [c]) (x2 :: xs2)).cps.toList = (y ++ mk [c] ++ Str.join (mk [c]) (z :: zs)).cps.toList := e
          simp only [app_list, list_mk, List.append_assoc, List.singleton_append] at e'
          obtain ⟨e1, e2⟩ := pre _ _ _ _ (hx x (.head _)) (hy2 y (.head _)) e'
          have := ih (z :: zs) (by simp) (by simp) (fun p hp => hx p (.tail _ hp)) (fun p hp => hy2 p (.tail _ hp)) e2
          rw [str_ext e1, this]
theorem split_join (c : Nat) {xs : List Str} (hne : xs ≠ []) (hx : ∀ p ∈ xs, c ∉ p.cps.toList) : Txt.split (Str.join (mk [c]) xs) (mk [c]) = xs :=
  join_inj c _ _ (split_ne _ _) hne (StrLaws.split_free _ c) hx (by rw [StrLaws.join_split])
theorem txt_join (sep : Str) (xs : List Str) : Txt.join sep xs = Str.join sep xs := StrLaws.glued_eq_join sep xs
end SP
set_option Elab.async false
set_option linter.all false
set_option maxRecDepth 100000
set_option maxHeartbeats 2000000
namespace SP
open PySem PySem.Spec PyProof.Rows L2 HF PF
structure Bag where
  cells : List Int
  pos : Nat
  left : Int
  hash : Int
  cnt : Int
def Bag.enc (b : Bag) : O := .lst [.fl (b.cells.map D.int), .int b.pos, .int b.left, .int b.hash, .int b.cnt]
structure Bag.Ok (b : Bag) : Prop where
  len : b.cells.length ≤ 63
  left : 0 ≤ b.left
  h0 : 0 ≤ b.hash
  h1 : b.hash < 2147483629
def Bag.next (b : Bag) : Bag :=
  if b.left = 0 then (match b.cells[b.pos]? with
    | some c => if 1000000000000000000 ≤ (if c < 0 then -c else c) then { b with cnt := b.cnt + 1, pos := b.pos + 1, left := if c < 0 then -c else c }
      else { b with cnt := b.cnt + 1, pos := b.pos + 1, hash := (b.hash * 41351 + c % 1000133 * 733 + 37) % 2147483629 }
    | none => { b with cnt := b.cnt + 1 })
  else { b with cnt := b.cnt + 1 }
def Bag.mix (b : Bag) : Int := ((b.hash * b.hash + b.cnt * 8311) % 2147483549 * 15991 + b.hash * 60101 + 54011) % 2147483629
def Bag.pull (b : Bag) (n : Int) : Int × Bag :=
  if 0 < b.next.left then (b.next.left % n, { b.next with left := b.next.left / n })
  else (b.next.mix / 64 % n, { b.next with hash := b.next.mix })
theorem Bag.next_ok {b : Bag} (h : b.Ok) : b.next.Ok := by
  have m0 : ∀ x : Int, 0 ≤ x % 2147483629 := fun x => Int.emod_nonneg _ (by decide)
  have m1 : ∀ x : Int, x % 2147483629 < 2147483629 := fun x => Int.emod_lt_of_pos _ (by decide)
  unfold Bag.next
  by_cases c1 : b.left = 0
  · rw [if_pos c1]
    cases e : b.cells[b.pos]? with
    | none => exact ⟨h.len, h.left, h.h0, h.h1⟩
    | some c =>
      dsimp only
      by_cases c2 : (1000000000000000000 : Int) ≤ (if c < 0 then -c else c)
      · rw [if_pos c2]
        exact ⟨h.len, by dsimp only; omega, h.h0, h.h1⟩
      · rw [if_neg c2]
        exact ⟨h.len, h.left, m0 _, m1 _⟩
  · rw [if_neg c1]
    exact ⟨h.len, h.left, h.h0, h.h1⟩
theorem Bag.pull_ok {b : Bag} {n : Int} (hn : 0 < n) (h : b.Ok) : (b.pull n).2.Ok := by
  have k := Bag.next_ok h
  unfold Bag.pull
  split
  · exact ⟨k.len, Int.ediv_nonneg k.left (Int.le_of_lt hn), k.h0, k.h1⟩
  · exact ⟨k.len, k.left, Int.emod_nonneg _ (by decide), Int.emod_lt_of_pos _ (by decide)⟩
theorem Bag.pull_ge {b : Bag} {n : Int} (hn : 0 < n) : 0 ≤ (b.pull n).1 := by
  unfold Bag.pull
  split <;> exact Int.emod_nonneg _ (by omega)
theorem Bag.pull_lt {b : Bag} {n : Int} (hn : 0 < n) : (b.pull n).1 < n := by
  unfold Bag.pull
  split <;> exact Int.emod_lt_of_pos _ hn
theorem atI_of {α : Type} {xs : List α} {k : Nat} {v : α} (h : xs[k]? = some v) : atI xs (k : Int) = some v := atI_nat h
theorem atI_lit {α : Type} (xs : List α) (k : Nat) : atI xs (no_index (OfNat.ofNat k : Int)) = xs[k]? := by
  cases e : xs[k]? with
  | some v => exact atI_nat e
  | none =>
    have := List.getElem?_eq_none_iff.mp e
    unfold atI ixN
    have h0 : (0 : Int) ≤ (OfNat.ofNat k : Int) := Int.natCast_nonneg k
    rw [if_pos h0]
    have h1 : ¬ ((OfNat.ofNat k : Int) < xs.length) := by
      intro z
      have : (k : Int) < xs.length := z
      omega
    rw [if_neg h1]
    rfl
theorem ixN_lit (n k : Nat) : ixN n (no_index (OfNat.ofNat k : Int)) = if k < n then some k else none := by
  unfold ixN
  have h0 : (0 : Int) ≤ (OfNat.ofNat k : Int) := Int.natCast_nonneg k
  rw [if_pos h0]
  by_cases h : k < n
  · have h1 : (OfNat.ofNat k : Int) < n := by
      show (k : Int) < n
      omega
    rw [if_pos h1, if_pos h]
    rfl
  · have h1 : ¬ (OfNat.ofNat k : Int) < n := by
      intro z
      have : (k : Int) < n := z
      omega
    rw [if_neg h1, if_neg h]
theorem atI_cast {α : Type} (xs : List α) (k : Nat) : atI xs (k : Int) = xs[k]? := by
  have := atI_lit xs k
  exact this
theorem pull_eq {b : Bag} {n : Int} (hn : 0 < n) (hn2 : n < 1073741824) (hb : b.Ok) (t : List O) : cm__law_pull [.loc 0, .int n] [] (b.enc :: t) = some (.int (b.pull n).1, (b.pull n).2.enc :: t) := by
  have h0 := hb.h0
  have h1 := hb.h1
  have hl := hb.left
  have g1 : (-18446744073709551616 : Int) < b.hash := by omega
  have g2 : b.hash < 18446744073709551616 := by omega
  by_cases c1 : b.left = 0
  · cases e : b.cells[b.pos]? with
    | none =>
      have c2 : ¬ b.pos < b.cells.length := by
        have := List.getElem?_eq_none_iff.mp e
        omega
      simp [cm__law_pull, b__law_pull, Bag.enc, atI_lit, ixN_lit, atI_cast, eq_int, m_v, m_c, m_bin, m_t, t_and, t_or, t_not, m_if, m_and, m_or, m_not, m_neg, a_nil, a_cons, a_star, m_ca, m_call, m_tup, m_fl, m_tl, s_nil, s_seq, s_if, s_ret, s_retN, s_set, s_ex, s_never, s_cont, s_brk, s_asg, s_par, s_par3, s_aug, s_fz, m_b, m_fn, cmP, ii, f_lt, f_le, f_gt, f_ge, f_sub, f_add, f_mul, f_mod, f_fdiv, f_pow, f_ix, f_is, f_isnt, g_is, g_isnt, isN, c_len, c_int, c_abs, c_list, c_str, c_min2, c_max2, c_minL, c_maxL, minI, maxI, asQ, asL, asI, m_sl, o_none, o_some, f_sl, g_n, g_q, g_t, gs_nil, gs_cons, i_q, i_r1, i_r2, s_sub, m_attr, lookF, s_fld, putKs, putVs, m_meth, m_isT, kiOf, Ki.is, Ki.nm, m_chain, x_append, m_lm, c1, c2, g1, g2, hn, hn2, Bag.pull, Bag.next, Bag.mix, e]
    | some c =>
      obtain ⟨c2, e'⟩ := List.getElem?_eq_some_iff.mp e
      by_cases c3 : (1000000000000000000 : Int) ≤ (if c < 0 then -c else c)
      · have c4 : (0 : Int) < (if c < 0 then -c else c) := by omega
        simp [cm__law_pull, b__law_pull, Bag.enc, atI_lit, ixN_lit, atI_cast, eq_int, m_v, m_c, m_bin, m_t, t_and, t_or, t_not, m_if, m_and, m_or, m_not, m_neg, a_nil, a_cons, a_star, m_ca, m_call, m_tup, m_fl, m_tl, s_nil, s_seq, s_if, s_ret, s_retN, s_set, s_ex, s_never, s_cont, s_brk, s_asg, s_par, s_par3, s_aug, s_fz, m_b, m_fn, cmP, ii, f_lt, f_le, f_gt, f_ge, f_sub, f_add, f_mul, f_mod, f_fdiv, f_pow, f_ix, f_is, f_isnt, g_is, g_isnt, isN, c_len, c_int, c_abs, c_list, c_str, c_min2, c_max2, c_minL, c_maxL, minI, maxI, asQ, asL, asI, m_sl, o_none, o_some, f_sl, g_n, g_q, g_t, gs_nil, gs_cons, i_q, i_r1, i_r2, s_sub, m_attr, lookF, s_fld, putKs, putVs, m_meth, m_isT, kiOf, Ki.is, Ki.nm, m_chain, x_append, m_lm, c1, c2, c3, c4, g1, g2, hn, hn2, Bag.pull, Bag.next, Bag.mix, e']
      · have m0 : ∀ x : Int, (-18446744073709551616 : Int) < x % 2147483629 := fun x => by have := Int.emod_nonneg x (show (2147483629 : Int) ≠ 0 by decide); omega
        have m1 : ∀ x : Int, x % 2147483629 < (18446744073709551616 : Int) := fun x => by have := Int.emod_lt_of_pos x (show (0 : Int) < 2147483629 by decide); omega
        simp [cm__law_pull, b__law_pull, Bag.enc, atI_lit, ixN_lit, atI_cast, eq_int, m_v, m_c, m_bin, m_t, t_and, t_or, t_not, m_if, m_and, m_or, m_not, m_neg, a_nil, a_cons, a_star, m_ca, m_call, m_tup, m_fl, m_tl, s_nil, s_seq, s_if, s_ret, s_retN, s_set, s_ex, s_never, s_cont, s_brk, s_asg, s_par, s_par3, s_aug, s_fz, m_b, m_fn, cmP, ii, f_lt, f_le, f_gt, f_ge, f_sub, f_add, f_mul, f_mod, f_fdiv, f_pow, f_ix, f_is, f_isnt, g_is, g_isnt, isN, c_len, c_int, c_abs, c_list, c_str, c_min2, c_max2, c_minL, c_maxL, minI, maxI, asQ, asL, asI, m_sl, o_none, o_some, f_sl, g_n, g_q, g_t, gs_nil, gs_cons, i_q, i_r1, i_r2, s_sub, m_attr, lookF, s_fld, putKs, putVs, m_meth, m_isT, kiOf, Ki.is, Ki.nm, m_chain, x_append, m_lm, c1, c2, c3, g1, g2, hn, hn2, Bag.pull, Bag.next, Bag.mix, e', m0, m1]
  · have c5 : 0 < b.left := by omega
    simp [cm__law_pull, b__law_pull, Bag.enc, atI_lit, ixN_lit, atI_cast, eq_int, m_v, m_c, m_bin, m_t, t_and, t_or, t_not, m_if, m_and, m_or, m_not, m_neg, a_nil, a_cons, a_star, m_ca, m_call, m_tup, m_fl, m_tl, s_nil, s_seq, s_if, s_ret, s_retN, s_set, s_ex, s_never, s_cont, s_brk, s_asg, s_par, s_par3, s_aug, s_fz, m_b, m_fn, cmP, ii, f_lt, f_le, f_gt, f_ge, f_sub, f_add, f_mul, f_mod, f_fdiv, f_pow, f_ix, f_is, f_isnt, g_is, g_isnt, isN, c_len, c_int, c_abs, c_list, c_str, c_min2, c_max2, c_minL, c_maxL, minI, maxI, asQ, asL, asI, m_sl, o_none, o_some, f_sl, g_n, g_q, g_t, gs_nil, gs_cons, i_q, i_r1, i_r2, s_sub, m_attr, lookF, s_fld, putKs, putVs, m_meth, m_isT, kiOf, Ki.is, Ki.nm, m_chain, x_append, m_lm, c1, c5, g1, g2, hn, hn2, Bag.pull, Bag.next, Bag.mix]
end SP
set_option Elab.async false
set_option linter.all false
set_option maxRecDepth 100000
set_option maxHeartbeats 2000000
namespace SP
open PySem PySem.Spec PyProof.Rows L2 HF PF
/-! steps -/
section
variable {sl sl1 sl2 : Sl} {h h1 h2 : List O} {a b : FS} {m : FE} {tc : FT} {d : D} {f : Fl} {i n tot : Nat} {ds : List D}
theorem fn_rt (e : b (ds.map some ++ List.replicate (tot - n) none) h = some (.rt d, sl1, h1)) (hn : ds.length = n := by rfl) : m_fn n tot b ds h = some (d, h1) := by
  unfold m_fn
  rw [if_pos hn, e]
  rfl
theorem fn_nx (e : b (ds.map some ++ List.replicate (tot - n) none) h = some (.nx, sl1, h1)) (hn : ds.length = n := by rfl) : m_fn n tot b ds h = some (.non, h1) := by
  unfold m_fn
  rw [if_pos hn, e]
  rfl
theorem q_nx {r : Option (Fl × Sl × List O)} (e : a sl h = some (.nx, sl1, h1)) (k : b sl1 h1 = r) : s_seq a b sl h = r := by
  unfold s_seq
  rw [e]
  exact k
theorem q_rt (e : a sl h = some (.rt d, sl1, h1)) : s_seq a b sl h = some (.rt d, sl1, h1) := by
  unfold s_seq
  rw [e]
  rfl
theorem q_ct (e : a sl h = some (.ct, sl1, h1)) : s_seq a b sl h = some (.ct, sl1, h1) := by
  unfold s_seq
  rw [e]
  rfl
theorem q_if1 {r : Option (Fl × Sl × List O)} (e : tc sl h = some (true, h1)) (k : a sl h1 = r) : s_if tc a b sl h = r := by
  unfold s_if
  rw [e]
  exact k
theorem q_if0 {r : Option (Fl × Sl × List O)} (e : tc sl h = some (false, h1)) (k : b sl h1 = r) : s_if tc a b sl h = r := by
  unfold s_if
  rw [e]
  exact k
theorem q_set (e : m sl h = some (d, h1)) : s_set i m sl h = some (.nx, sl.set i (some d), h1) := by
  unfold s_set
  rw [e]
  rfl
theorem q_ex (e : m sl h = some (d, h1)) : s_ex m sl h = some (.nx, sl, h1) := by
  unfold s_ex
  rw [e]
  rfl
theorem q_ret (e : m sl h = some (d, h1)) : s_ret m sl h = some (.rt d, sl, h1) := by
  unfold s_ret
  rw [e]
  rfl
theorem q_for {r : Option (Fl × Sl × List O)} {mi : FA} {g : FG} {xs : List D} (e : mi sl h = some (xs, h1)) (k : forL g b xs sl h1 = r) : s_for mi g b sl h = r := by
  unfold s_for
  rw [e]
  exact k
theorem l_nx {r : Option (Fl × Sl × List O)} {g : FG} {x : D} {xs : List D} (e1 : g x sl = some sl1) (e2 : b sl1 h = some (.nx, sl2, h2)) (k : forL g b xs sl2 h2 = r) : forL g b (x :: xs) sl h = r := by
  unfold forL
  rw [e1]
  simp only [Option.bind_some]
  rw [e2]
  exact k
theorem l_ct {r : Option (Fl × Sl × List O)} {g : FG} {x : D} {xs : List D} (e1 : g x sl = some sl1) (e2 : b sl1 h = some (.ct, sl2, h2)) (k : forL g b xs sl2 h2 = r) : forL g b (x :: xs) sl h = r := by
  unfold forL
  rw [e1]
  simp only [Option.bind_some]
  rw [e2]
  exact k
theorem l_rt {g : FG} {x : D} {xs : List D} (e1 : g x sl = some sl1) (e2 : b sl1 h = some (.rt d, sl2, h2)) : forL g b (x :: xs) sl h = some (.rt d, sl2, h2) := by
  unfold forL
  rw [e1]
  simp only [Option.bind_some]
  rw [e2]
  rfl
end
/-! a def's end -/
def Rt (x : Option (Fl × Sl × List O)) (d : D) (h : List O) : Prop := ∃ s, x = some (.rt d, s, h)
def Nx (x : Option (Fl × Sl × List O)) (h : List O) : Prop := ∃ s, x = some (.nx, s, h)
section
variable {sl sl1 sl2 : Sl} {h h1 h2 : List O} {a b : FS} {m : FE} {tc : FT} {d : D} {i n tot : Nat} {ds : List D}
theorem rt_fn (e : Rt (b (ds.map some ++ List.replicate (tot - n) none) h) d h1) (hn : ds.length = n := by rfl) : m_fn n tot b ds h = some (d, h1) := by
  obtain ⟨s, e⟩ := e
  exact fn_rt e hn
theorem nx_fn (e : Nx (b (ds.map some ++ List.replicate (tot - n) none) h) h1) (hn : ds.length = n := by rfl) : m_fn n tot b ds h = some (.non, h1) := by
  obtain ⟨s, e⟩ := e
  exact fn_nx e hn
theorem rt_q (e : a sl h = some (.nx, sl1, h1)) (k : Rt (b sl1 h1) d h2) : Rt (s_seq a b sl h) d h2 := by
  obtain ⟨s, k⟩ := k
  exact ⟨s, q_nx e k⟩
theorem nx_q (e : a sl h = some (.nx, sl1, h1)) (k : Nx (b sl1 h1) h2) : Nx (s_seq a b sl h) h2 := by
  obtain ⟨s, k⟩ := k
  exact ⟨s, q_nx e k⟩
theorem rt_q1 (e : Rt (a sl h) d h1) : Rt (s_seq a b sl h) d h1 := by
  obtain ⟨s, e⟩ := e
  exact ⟨s, q_rt e⟩
theorem rt_if1 (e : tc sl h = some (true, h1)) (k : Rt (a sl h1) d h2) : Rt (s_if tc a b sl h) d h2 := by
  obtain ⟨s, k⟩ := k
  exact ⟨s, q_if1 e k⟩
theorem rt_if0 (e : tc sl h = some (false, h1)) (k : Rt (b sl h1) d h2) : Rt (s_if tc a b sl h) d h2 := by
  obtain ⟨s, k⟩ := k
  exact ⟨s, q_if0 e k⟩
theorem rt_ret (e : m sl h = some (d, h1)) : Rt (s_ret m sl h) d h1 := ⟨_, q_ret e⟩
theorem nx_end (e : a sl h = some (.nx, sl1, h1)) : Nx (a sl h) h1 := ⟨_, e⟩
theorem q_no (e : tc sl h = some (false, h1)) : s_if tc a s_nil sl h = some (.nx, sl, h1) := q_if0 e rfl
end
/-! expressions -/
section
variable {sl : Sl} {h h1 h2 : List O} {m ma mb : FE} {ta tb tc : FT} {ms mk' : FA} {d x y : D} {ds es : List D} {c : Bool} {f : F2}
theorem e_bin {r : Option (D × List O)} (e1 : ma sl h = some (x, h1)) (e2 : mb sl h1 = some (y, h2)) (k : f x y h2 = r) : m_bin f ma mb sl h = r := by
  unfold m_bin
  rw [e1, Option.bind_some, e2]
  exact k
theorem e_call {r : Option (D × List O)} {cm : CM} {ks : List Str} {mc : FC} (e : mc sl h = some ((ds, es), h1)) (k : cm ds (ks.zip es) h1 = r) : m_call cm ks mc sl h = r := by
  unfold m_call
  rw [e]
  exact k
theorem e_ca (e1 : ms sl h = some (ds, h1)) (e2 : mk' sl h1 = some (es, h2)) : m_ca ms mk' sl h = some ((ds, es), h2) := by
  unfold m_ca
  rw [e1, Option.bind_some, e2]
  rfl
theorem e_ca0 (e1 : ms sl h = some (ds, h1)) : m_ca ms a_nil sl h = some ((ds, []), h1) := e_ca e1 rfl
theorem e_cons (e1 : m sl h = some (d, h1)) (e2 : ms sl h1 = some (ds, h2)) : a_cons m ms sl h = some (d :: ds, h2) := by
  unfold a_cons
  rw [e1, Option.bind_some, e2]
  rfl
theorem e_one (e1 : m sl h = some (d, h1)) : a_cons m a_nil sl h = some ([d], h1) := e_cons e1 rfl
theorem e_b {r : Option (D × List O)} {fb : FB} (e : ms sl h = some (ds, h1)) (k : fb ds h1 = r) : m_b fb ms sl h = r := by
  unfold m_b
  rw [e]
  exact k
theorem e_t (e : m sl h = some (.bl c, h1)) : m_t m sl h = some (c, h1) := by
  unfold m_t
  rw [e]
theorem e_not (e : ta sl h = some (c, h1)) : t_not ta sl h = some (!c, h1) := by
  unfold t_not
  rw [e]
  rfl
theorem e_nT (e : ta sl h = some (true, h1)) : t_not ta sl h = some (false, h1) := e_not e
theorem e_nF (e : ta sl h = some (false, h1)) : t_not ta sl h = some (true, h1) := e_not e
theorem e_or1 (e : ta sl h = some (true, h1)) : t_or ta tb sl h = some (true, h1) := by
  unfold t_or
  rw [e]
  rfl
theorem e_or0 {r : Option (Bool × List O)} (e : ta sl h = some (false, h1)) (k : tb sl h1 = r) : t_or ta tb sl h = r := by
  unfold t_or
  rw [e]
  exact k
theorem e_and0 (e : ta sl h = some (false, h1)) : t_and ta tb sl h = some (false, h1) := by
  unfold t_and
  rw [e]
  rfl
theorem e_and1 {r : Option (Bool × List O)} (e : ta sl h = some (true, h1)) (k : tb sl h1 = r) : t_and ta tb sl h = r := by
  unfold t_and
  rw [e]
  exact k
theorem e_if1 {r : Option (D × List O)} (e : tc sl h = some (true, h1)) (k : ma sl h1 = r) : m_if tc ma mb sl h = r := by
  unfold m_if
  rw [e]
  exact k
theorem e_if0 {r : Option (D × List O)} (e : tc sl h = some (false, h1)) (k : mb sl h1 = r) : m_if tc ma mb sl h = r := by
  unfold m_if
  rw [e]
  exact k
theorem e_tup (e : ms sl h = some (ds, h1)) (hl : ds.length ≤ 100000 := by simp) : m_tup ms sl h = some (.tup ds, h1) := by
  unfold m_tup
  rw [e, Option.bind_some, if_pos (szOk_of hl)]
theorem e_fl (e : ms sl h = some (ds, h1)) (hl : ds.length ≤ 100000 := by simp) : m_fl ms sl h = some (.fl ds, h1) := by
  unfold m_fl
  rw [e, Option.bind_some, if_pos (szOk_of hl)]
theorem e_tl (e : ms sl h = some (ds, h1)) (hl : ds.length ≤ 100000 := by simp) : m_tl ms sl h = some (.loc h1.length, h1 ++ [.lst ds]) := by
  unfold m_tl
  rw [e, Option.bind_some, if_pos (szOk_of hl)]
end
/-! comprehensions that only read -/
theorem compC_flt {g : FG} {tt : FT} {te : FE} {slw : Sl} {h : List O} {p : D → Bool} {f : D → D} : ∀ ds : List D, (∀ d ∈ ds, ∃ s1, g d slw = some s1 ∧ tt s1 h = some (p d, h) ∧ (p d = true → te s1 h = some (f d, h))) → compC g tt te slw ds h = some ((ds.filter p).map f, h)
  | [], _ => rfl
  | d :: ds, hd => by
    obtain ⟨s1, e1, e2, e3⟩ := hd d (.head _)
    have ih := compC_flt ds fun x hx => hd x (.tail _ hx)
    unfold compC
    rw [e1]
    simp only [Option.bind_some]
    rw [e2]
    simp only [Option.bind_some]
    by_cases c : p d = true
    · rw [if_pos c, e3 c, Option.bind_some, ih]
      simp [List.filter_cons, c]
    · rw [if_neg c, ih]
      simp [List.filter_cons, c]
theorem compC_map {g : FG} {te : FE} {slw : Sl} {h : List O} {f : D → D} (ds : List D) (hd : ∀ d ∈ ds, ∃ s1, g d slw = some s1 ∧ te s1 h = some (f d, h)) : compC g t_yes te slw ds h = some (ds.map f, h) := by
  have := compC_flt (g := g) (tt := t_yes) (te := te) (slw := slw) (h := h) (p := fun _ => true) (f := f) ds fun d hx => by
    obtain ⟨s1, e1, e2⟩ := hd d hx
    exact ⟨s1, e1, rfl, fun _ => e2⟩
  rw [this]
  congr 2
  rw [List.filter_eq_self.mpr (fun _ _ => rfl)]
theorem lc_flt {mi : FA} {g : FG} {tt : FT} {te : FE} {vs : List Nat} {sl : Sl} {h h1 : List O} {ds : List D} {p : D → Bool} {f : D → D} (e : mi sl h = some (ds, h1)) (hl : ds.length ≤ 100000)
    (hd : ∀ d ∈ ds, ∃ s1, g d (wipeD sl vs) = some s1 ∧ tt s1 h1 = some (p d, h1) ∧ (p d = true → te s1 h1 = some (f d, h1))) : m_lc mi g tt te vs sl h = some (.fl ((ds.filter p).map f), h1) := by
  unfold m_lc
  rw [e]
  simp only [Option.bind_some]
  rw [compC_flt ds hd]
  simp only [Option.bind_some]
  rw [if_pos (szOk_of (by rw [List.length_map]; exact Nat.le_trans (List.length_filter_le _ _) hl))]
theorem lc_map {mi : FA} {g : FG} {te : FE} {vs : List Nat} {sl : Sl} {h h1 : List O} {ds : List D} {f : D → D} (e : mi sl h = some (ds, h1)) (hl : ds.length ≤ 100000)
    (hd : ∀ d ∈ ds, ∃ s1, g d (wipeD sl vs) = some s1 ∧ te s1 h1 = some (f d, h1)) : m_lc mi g t_yes te vs sl h = some (.fl (ds.map f), h1) := by
  unfold m_lc
  rw [e]
  simp only [Option.bind_some]
  rw [compC_map ds hd]
  simp only [Option.bind_some]
  rw [if_pos (szOk_of (by rw [List.length_map]; exact hl))]
theorem compC_nil {g : FG} {tt : FT} {te : FE} {slw : Sl} {h : List O} : compC g tt te slw [] h = some ([], h) := rfl
theorem compC_yes {g : FG} {te : FE} {slw s1 : Sl} {h h1 h2 : List O} {d x : D} {ds xs : List D} (e1 : g d slw = some s1) (e2 : te s1 h = some (x, h1)) (e3 : compC g t_yes te slw ds h1 = some (xs, h2)) : compC g t_yes te slw (d :: ds) h = some (x :: xs, h2) := by
  unfold compC
  rw [e1]
  simp only [Option.bind_some, t_yes, if_true]
  rw [e2]
  simp only [Option.bind_some]
  rw [e3]
  rfl
theorem compC_in {g : FG} {tt : FT} {te : FE} {slw s1 : Sl} {h h0 h1 h2 : List O} {d x : D} {ds xs : List D} (e1 : g d slw = some s1) (e0 : tt s1 h = some (true, h0)) (e2 : te s1 h0 = some (x, h1)) (e3 : compC g tt te slw ds h1 = some (xs, h2)) : compC g tt te slw (d :: ds) h = some (x :: xs, h2) := by
  unfold compC
  rw [e1]
  simp only [Option.bind_some]
  rw [e0]
  simp only [Option.bind_some, if_true]
  rw [e2]
  simp only [Option.bind_some]
  rw [e3]
  rfl
theorem compC_out {g : FG} {tt : FT} {te : FE} {slw s1 : Sl} {h h0 h2 : List O} {d : D} {ds xs : List D} (e1 : g d slw = some s1) (e0 : tt s1 h = some (false, h0)) (e3 : compC g tt te slw ds h0 = some (xs, h2)) : compC g tt te slw (d :: ds) h = some (xs, h2) := by
  unfold compC
  rw [e1]
  simp only [Option.bind_some]
  rw [e0]
  simp only [Option.bind_some]
  rw [if_neg (by decide), e3]
/-! places -/
theorem atI_nn {α : Type} (xs : List α) {i : Int} (h : 0 ≤ i) : atI xs i = xs[i.toNat]? := by
  have := atI_cast xs i.toNat
  rw [Int.toNat_of_nonneg h] at this
  exact this
theorem ix_fl {xs : List D} {i : Int} {d : D} {h : List O} (h0 : 0 ≤ i) (e : xs[i.toNat]? = some d) : f_ix (.fl xs) (.int i) h = some (d, h) := by
  simp only [f_ix, asQ, Option.bind_some, atI_nn xs h0, e]
theorem ix_str {z : Str} {i : Int} {c : Nat} {h : List O} (hz : z.length ≤ 100000) (h0 : 0 ≤ i) (e : z.cps.toList[i.toNat]? = some c) : f_ix (.str z) (.int i) h = some (.str (mk [c]), h) := by
  simp only [f_ix, szOk_of hz, if_true, atI_nn _ h0, e, Option.bind_some]
  rfl
/-! pick -/
theorem pick_fl {b : Bag} {xs : List D} (hx : xs ≠ []) (hl : xs.length ≤ 100000) (hb : b.Ok) (t : List O) : ∃ d b', d ∈ xs ∧ Bag.Ok b' ∧ cm__law_pick [.loc 0, .fl xs] [] (b.enc :: t) = some (d, b'.enc :: t) := by
  have hn : (0 : Int) < (xs.length : Int) := by
    have := List.length_pos_iff.mpr hx
    omega
  have p := pull_eq hn (by omega) hb t
  have g0 := Bag.pull_ge (b := b) hn
  have g1 := Bag.pull_lt (b := b) hn
  have g2 : (b.pull xs.length).1.toNat < xs.length := by omega
  refine ⟨xs[(b.pull xs.length).1.toNat], (b.pull xs.length).2, List.getElem_mem g2, Bag.pull_ok hn hb, ?_⟩
  unfold cm__law_pick b__law_pick cmP
  dsimp only
  exact fn_rt (q_ret (e_bin rfl (e_call (e_ca0 (e_cons rfl (e_one rfl))) p) (ix_fl g0 (List.getElem?_eq_getElem g2))))
theorem pick_str {b : Bag} {z : Str} (hx : z.cps.toList ≠ []) (hl : z.length ≤ 100000) (hb : b.Ok) (t : List O) : ∃ c b', c ∈ z.cps.toList ∧ Bag.Ok b' ∧ cm__law_pick [.loc 0, .str z] [] (b.enc :: t) = some (.str (mk [c]), b'.enc :: t) := by
  have hz : z.length = z.cps.toList.length := len_list z
  have hn : (0 : Int) < (z.length : Int) := by
    have := List.length_pos_iff.mpr hx
    omega
  have p := pull_eq hn (by omega) hb t
  have g0 := Bag.pull_ge (b := b) hn
  have g1 := Bag.pull_lt (b := b) hn
  have g2 : (b.pull z.length).1.toNat < z.cps.toList.length := by omega
  refine ⟨z.cps.toList[(b.pull z.length).1.toNat], (b.pull z.length).2, List.getElem_mem g2, Bag.pull_ok hn hb, ?_⟩
  unfold cm__law_pick b__law_pick cmP
  dsimp only
  exact fn_rt (q_ret (e_bin rfl (e_call (e_ca0 (e_cons rfl (e_one (e_b (e_one rfl) (if_pos (szOk_of hl)))))) p) (ix_str hl g0 (List.getElem?_eq_getElem g2))))
end SP
set_option Elab.async false
set_option linter.all false
set_option maxRecDepth 100000
set_option maxHeartbeats 2000000
namespace SP
open PySem PySem.Spec PyProof.Rows L2 HF PF
def digit (b : Bag) (n : Int) : Prop := b.Ok ∧ 0 < n
theorem pull_ex {b : Bag} {n : Int} (hn : 0 < n) (hn2 : n < 1073741824) (hb : b.Ok) (t : List O) : ∃ v b', (0 ≤ v ∧ v < n) ∧ Bag.Ok b' ∧ cm__law_pull [.loc 0, .int n] [] (b.enc :: t) = some (.int v, b'.enc :: t) :=
  ⟨_, _, ⟨Bag.pull_ge hn, Bag.pull_lt hn⟩, Bag.pull_ok hn hb, pull_eq hn hn2 hb t⟩
theorem pull_nat {b : Bag} {n : Nat} (hn : 0 < n) (hn2 : n < 1073741824) (hb : b.Ok) (t : List O) : ∃ (v : Nat) (b' : Bag), v < n ∧ Bag.Ok b' ∧ cm__law_pull [.loc 0, .int (n : Int)] [] (b.enc :: t) = some (.int (v : Int), b'.enc :: t) := by
  obtain ⟨v, b', ⟨h0, h1⟩, hb', e⟩ := pull_ex (b := b) (n := (n : Int)) (by omega) (by omega) hb t
  refine ⟨v.toNat, b', by omega, hb', ?_⟩
  rw [Int.toNat_of_nonneg h0]
  exact e
theorem mul_lit {k : Int} {n : Int} {h : List O} (h0 : -(2 ^ 64) < k) (h1 : k < 2 ^ 64) : f_mul (.int k) (.int n) h = some (.int (k * n), h) := by
  have : ((decide (-(2 ^ 64) < k) && decide (k < 2 ^ 64)) || (decide (-(2 ^ 64) < n) && decide (n < 2 ^ 64))) = true := by
    simp only [Bool.or_eq_true, Bool.and_eq_true, decide_eq_true_eq]
    exact .inl ⟨h0, h1⟩
  unfold f_mul
  simp only [this, if_true]
theorem close_ex {b : Bag} {far : Int} (h0 : 0 ≤ far) (h1 : far ≤ 100000) (hb : b.Ok) (t : List O) : ∃ v b', (-far ≤ v ∧ v ≤ far) ∧ Bag.Ok b' ∧ cm__law_close [.loc 0, .int far] [] (b.enc :: t) = some (.int v, b'.enc :: t) := by
  obtain ⟨v, b', ⟨g0, g1⟩, hb', e⟩ := pull_ex (b := b) (n := 2 * far + 1) (by omega) (by omega) hb t
  refine ⟨v - far, b', ⟨by omega, by omega⟩, hb', ?_⟩
  unfold cm__law_close b__law_close cmP
  dsimp only
  exact fn_rt (q_ret (e_bin (e_call (e_ca0 (e_cons rfl (e_one (e_bin (e_bin rfl rfl (mul_lit (by decide) (by decide))) rfl rfl)))) e) rfl rfl))
/-! the letters -/
def A26 : Str := "abcdefghijklmnopqrstuvwxyz"
theorem a26_list : A26.cps.toList = (List.range 26).map (97 + ·) := by decide +kernel
theorem a26_len : A26.length = 26 := by decide +kernel
def Low (s : Str) : Prop := ∀ c ∈ s.cps.toList, 97 ≤ c ∧ c ≤ 122
structure NameOk (s : Str) : Prop where
  pos : 1 ≤ s.length
  le : s.length ≤ 8
  low : Low s
theorem a26_low : Low A26 := fun c hc => by
  rw [a26_list] at hc
  simp at hc
  obtain ⟨k, hk, e⟩ := hc
  omega
theorem Low.sok {s : Str} (h : Low s) : SOk s := strOk_iff.mpr fun c hc => by
  have := h c hc
  omega
theorem NameOk.sok {s : Str} (h : NameOk s) : SOk s := h.low.sok
theorem stem_ex : ∀ (n : Nat) (k : Nat) (b : Bag), b.Ok → ∀ (t : List O) (sl : Sl) , sl[0]? = some (some (.loc 0)) → sl[2]? = some (some (.str A26)) → ∃ (cs : List Nat) (b' : Bag), cs.length = n ∧ (∀ c ∈ cs, 97 ≤ c ∧ c ≤ 122) ∧ Bag.Ok b' ∧
    compC (g_n 6) t_yes (m_call cm__law_pick [] (m_ca (a_cons (m_v 0) (a_cons (m_v 2) a_nil)) a_nil)) sl ((List.range' k n).map fun i => D.int (0 + (i : Nat))) (b.enc :: t) = some (cs.map fun c => D.str (mk [c]), b'.enc :: t)
  | 0, k, b, hb, t, sl, _, _ => ⟨[], b, rfl, fun _ h => (by cases h), hb, rfl⟩
  | n + 1, k, b, hb, t, sl, s0, s2 => by
    obtain ⟨c, b1, hc, hb1, e⟩ := pick_str (b := b) (z := A26) (by rw [a26_list]; simp) (by rw [a26_len]; decide) hb t
    obtain ⟨cs, b2, hl, hcs, hb2, e2⟩ := stem_ex n (k + 1) b1 hb1 t sl s0 s2
    refine ⟨c :: cs, b2, by rw [List.length_cons, hl], fun x hx => ?_, hb2, ?_⟩
    · rcases List.mem_cons.mp hx with rfl | hx
      · exact a26_low _ hc
      · exact hcs x hx
    · rw [List.range'_succ, List.map_cons]
      have v0 : m_v 0 (sl.set 6 (some (.int (0 + (k : Nat))))) (b.enc :: t) = some (.loc 0, b.enc :: t) := by
        unfold m_v
        rw [List.getElem?_set_ne (by decide), s0]
      have v2 : m_v 2 (sl.set 6 (some (.int (0 + (k : Nat))))) (b.enc :: t) = some (.str A26, b.enc :: t) := by
        unfold m_v
        rw [List.getElem?_set_ne (by decide), s2]
      exact compC_yes rfl (e_call (e_ca0 (e_cons v0 (e_one v2))) e) e2
theorem join_signs (l : List Nat) : Txt.join Str.empty (l.map fun c => mk [c]) = mk l := by
  rw [txt_join]
  induction l with
  | nil => rfl
  | cons c l ih =>
    cases l with
    | nil => rfl
    | cons d l =>
      show mk [c] ++ Str.empty ++ Str.join Str.empty ((d :: l).map fun c => mk [c]) = mk (c :: d :: l)
      rw [ih]
      exact str_ext (by simp [app_list, list_mk, Str.empty])
theorem sum_ones (l : List Nat) : ((l.map fun c => mk [c]).map (·.length)).sum = l.length := by
  induction l with
  | nil => rfl
  | cons c l ih =>
    rw [List.map_cons, List.map_cons, List.sum_cons, ih, List.length_cons]
    show 1 + l.length = _
    omega
theorem join_ev {sep : Str} {xs : List Str} {h : List O} (hl : (xs.map (·.length)).sum + xs.length * sep.length ≤ 16777216) : x_join (.str sep) [.fl (xs.map D.str)] h = some (.str (Str.join sep xs), h) := by
  unfold x_join
  simp only [asL, Option.bind_some, allStr_map]
  rw [if_pos (decide_eq_true hl), txt_join]
theorem e_m1 {r : Option (D × List O)} {f : FM} {mo me : FE} {sl : Sl} {h h1 h2 : List O} {z : Str} {y : D} (e1 : mo sl h = some (.str z, h1)) (e2 : me sl h1 = some (y, h2)) (k : f (.str z) [y] h2 = r) : m_m1 f mo me sl h = r := by
  unfold m_m1
  rw [e1]
  simp only [Option.bind_some]
  rw [e2]
  exact k
theorem e_lc {mi : FA} {g : FG} {tt : FT} {te : FE} {vs : List Nat} {sl : Sl} {h h1 h2 : List O} {ds xs : List D} (e : mi sl h = some (ds, h1)) (e2 : compC g tt te (wipeD sl vs) ds h1 = some (xs, h2)) (hl : xs.length ≤ 100000) : m_lc mi g tt te vs sl h = some (.fl xs, h2) := by
  unfold m_lc
  rw [e]
  simp only [Option.bind_some]
  rw [e2]
  simp only [Option.bind_some]
  rw [if_pos (szOk_of hl)]
theorem lt62 {n : Nat} (hn : n ≤ 100000) : (decide (-(2 ^ 62) ≤ (n : Int)) && decide ((n : Int) < 2 ^ 62)) = true := by
  have p : (100000 : Int) < (2 : Int) ^ 62 := by decide
  rw [Bool.and_eq_true, decide_eq_true_eq, decide_eq_true_eq]
  exact ⟨Int.le_trans (Int.neg_nonpos_of_nonneg (by decide)) (Int.natCast_nonneg n), Int.lt_of_le_of_lt (by omega) p⟩
theorem e_r1 {ms : FA} {sl : Sl} {h h1 : List O} {n : Nat} (e : ms sl h = some ([.int (n : Int)], h1)) (hn : n ≤ 100000) : i_r1 ms sl h = some ((List.range n).map fun i => D.int (0 + (i : Nat)), h1) := by
  unfold i_r1
  rw [e, Option.bind_some]
  exact if_pos (lt62 hn)
def nameAt (stem : List Nat) (at_ first k : Nat) : Str := mk (stem.take at_ ++ [97 + (first + k) % 26] ++ stem.drop at_)
theorem nameAt_ok {stem : List Nat} (hs : ∀ c ∈ stem, 97 ≤ c ∧ c ≤ 122) (hl : stem.length ≤ 7) (a f k : Nat) : NameOk (nameAt stem a f k) := by
  have e : (nameAt stem a f k).cps.toList = stem.take a ++ [97 + (f + k) % 26] ++ stem.drop a := list_mk _
  refine ⟨?_, ?_, fun c hc => ?_⟩
  · rw [len_list, e]; simp; omega
  · rw [len_list, e]; simp; omega
  · rw [e] at hc
    simp at hc
    rcases hc with hc | rfl | hc
    · exact hs c (List.mem_of_mem_take hc)
    · omega
    · exact hs c (List.mem_of_mem_drop hc)
theorem nameAt_inj {stem : List Nat} {a f k j : Nat} (hk : k < 26) (hj : j < 26) (e : nameAt stem a f k = nameAt stem a f j) : k = j := by
  have e2 := congrArg (fun s : Str => s.cps.toList) e
  simp only [nameAt, list_mk] at e2
  rw [List.append_assoc, List.append_assoc] at e2
  have := List.append_cancel_left e2
  simp at this
  omega
end SP
set_option Elab.async false
set_option linter.all false
set_option maxRecDepth 100000
set_option maxHeartbeats 2000000
namespace SP
open PySem PySem.Spec PyProof.Rows L2 HF PF
theorem hix {z : Str} {lo hi : Option Int} {h : List O} (hz : z.length ≤ 100000) : f_sl (.str z) lo hi h = some (.str (cutS z lo hi), h) := by
  show (if szOk z.length = true then _ else _) = _
  rw [if_pos (szOk_of hz)]
theorem cut_to (z : Str) {a : Nat} (ha : a ≤ z.length) : cutS z none (some (a : Int)) = mk (z.cps.toList.take a) := by
  have e : cutS z none (some (a : Int)) = mk ((z.cps.toList.drop (HT.sIx z.length 0 none)).take (HT.sIx z.length z.length (some (a : Int)) - HT.sIx z.length 0 none)) := rfl
  rw [e, HT.sIx_none, HT.sIx_nat, Nat.min_eq_left ha]
  simp
theorem cut_from (z : Str) {a : Nat} (ha : a ≤ z.length) : cutS z (some (a : Int)) none = mk (z.cps.toList.drop a) := by
  have e : cutS z (some (a : Int)) none = mk ((z.cps.toList.drop (HT.sIx z.length 0 (some (a : Int)))).take (HT.sIx z.length z.length none - HT.sIx z.length 0 (some (a : Int)))) := rfl
  rw [e, HT.sIx_none, HT.sIx_nat, Nat.min_eq_left ha]
  congr 1
  rw [List.take_of_length_le]
  rw [List.length_drop, len_list]
  omega
theorem add_str {a b : Str} {h : List O} (hl : a.length + b.length ≤ 100000) : f_add (.str a) (.str b) h = some (.str (a ++ b), h) := by
  show (if szOk (a.length + b.length) = true then _ else _) = _
  rw [if_pos (szOk_of hl)]
theorem add_fl {a b : List D} {h : List O} (hl : a.length + b.length ≤ 100000) : f_add (.fl a) (.fl b) h = some (.fl (a ++ b), h) := by
  show (if szOk (a.length + b.length) = true then _ else _) = _
  rw [if_pos (szOk_of hl)]
theorem mod_pos {i j : Int} {h : List O} (hj : 0 < j) : f_mod (.int i) (.int j) h = some (.int (i % j), h) := by
  show (if decide (0 < j) = true then _ else _) = _
  rw [if_pos (decide_eq_true hj)]
theorem len_str {z : Str} {h : List O} (hz : z.length ≤ 100000) : c_len [.str z] h = some (.int z.length, h) := by
  show (if szOk z.length = true then _ else _) = _
  rw [if_pos (szOk_of hz)]
theorem e_sl {r : Option (D × List O)} {m : FE} {ol oh : FO} {sl : Sl} {h h1 h2 h3 : List O} {x : D} {lo hi : Option Int} (e : m sl h = some (x, h1)) (e1 : ol sl h1 = some (lo, h2)) (e2 : oh sl h2 = some (hi, h3)) (k : f_sl x lo hi h3 = r) : m_sl m ol oh sl h = r := by
  unfold m_sl
  rw [e, Option.bind_some, e1, Option.bind_some, e2]
  exact k
theorem e_os {m : FE} {sl : Sl} {h h1 : List O} {i : Int} (e : m sl h = some (.int i, h1)) : o_some m sl h = some (some i, h1) := by
  unfold o_some
  rw [e]
  rfl
theorem q_asg {m : FE} {g : FG} {sl sl1 : Sl} {h h1 : List O} {d : D} (e : m sl h = some (d, h1)) (e1 : g d sl = some sl1) : s_asg m g sl h = some (.nx, sl1, h1) := by
  unfold s_asg
  rw [e, Option.bind_some]
  dsimp only
  rw [e1]
  rfl
theorem names_ex {b : Bag} {m : Nat} (hm : m ≤ 20) (hb : b.Ok) (t : List O) : ∃ (names : List Str) (b' : Bag), names.length = m ∧ names.Nodup ∧ (∀ s ∈ names, NameOk s) ∧ Bag.Ok b' ∧
    cm__law_names_drawn [.loc 0, .int (m : Int)] [] (b.enc :: t) = some (.fl (names.map D.str), b'.enc :: t) := by
  obtain ⟨d, b1, hd, hb1, e1⟩ := pick_fl (b := b) (xs := [.int 0, .int 1, .int 3, .int 7]) (by simp) (by decide) hb t
  obtain ⟨n, hn, rfl⟩ : ∃ n : Nat, n ≤ 7 ∧ d = .int (n : Int) := by
    simp at hd
    rcases hd with rfl | rfl | rfl | rfl
    · exact ⟨0, by decide, rfl⟩
    · exact ⟨1, by decide, rfl⟩
    · exact ⟨3, by decide, rfl⟩
    · exact ⟨7, by decide, rfl⟩
  obtain ⟨cs, b2, hl, hcs, hb2, e2⟩ := stem_ex n 0 b1 hb1 t (wipeD [some (.loc 0), some (.int (m : Int)), some (.str A26), none, none, none, none] [6]) rfl rfl
  have hz : (mk cs).length = n := by rw [len_list, list_mk, hl]
  obtain ⟨a, b3, ha, hb3, e3⟩ := pull_nat (b := b2) (n := n + 1) (by omega) (by omega) hb2 t
  obtain ⟨f, b4, hf, hb4, e4⟩ := pull_nat (b := b3) (n := 26) (by omega) (by omega) hb3 t
  have h7 : cs.length ≤ 7 := by omega
  refine ⟨(List.range m).map fun k => nameAt cs a f k, b4, by simp, ?_, fun s hs => ?_, hb4, ?_⟩
  · rw [List.nodup_iff_pairwise_ne, List.pairwise_map]
    refine (List.pairwise_lt_range).imp_of_mem fun {x y} hx hy hlt e => ?_
    have hx := List.mem_range.mp hx
    have hy := List.mem_range.mp hy
    have := nameAt_inj (k := x) (j := y) (by omega) (by omega) e
    omega
  · obtain ⟨k, _, rfl⟩ := List.mem_map.mp hs
    exact nameAt_ok hcs h7 _ _ _
  · have cR : ∀ x : Nat, ((List.range x).map fun i => D.int (0 + (i : Nat))) = (List.range' 0 x).map fun i => D.int (0 + (i : Nat)) := fun x => by rw [List.range_eq_range']
    unfold cm__law_names_drawn b__law_names_drawn cmP
    dsimp only
    refine rt_fn (rt_q (q_set rfl) ?_)
    have j : x_join (.str Str.empty) [.fl (cs.map fun c => D.str (mk [c]))] (b2.enc :: t) = some (.str (mk cs), b2.enc :: t) := by
      have := join_ev (sep := Str.empty) (xs := cs.map fun c => mk [c]) (h := b2.enc :: t) (by
        rw [sum_ones, List.length_map]
        show _ + _ * 0 ≤ _
        omega)
      rw [List.map_map] at this
      rw [← txt_join, join_signs] at this
      exact this
    refine rt_q (q_set (e_m1 (z := Str.empty) rfl (e_lc (e_r1 (n := n) (e_one (e_call (e_ca0 (e_cons rfl (e_one rfl))) e1)) (by omega)) (by rw [cR]; exact e2) (by rw [List.length_map]; omega)) j)) ?_
    have l1 : c_len [.str (mk cs)] (b2.enc :: t) = some (.int (n : Int), b2.enc :: t) := by
      rw [len_str (by omega), hz]
    refine rt_q (q_asg (e_tup (e_cons (e_call (e_ca0 (e_cons rfl (e_one (e_bin (e_b (e_one rfl) l1) rfl rfl)))) e3) (e_one (e_call (e_ca0 (e_cons rfl (e_one rfl))) e4)))) rfl) ?_
    refine rt_ret ?_
    refine (lc_map (f := fun d => match d with
      | .int k => .str (nameAt cs a f k.toNat)
      | d => d) (e_r1 (e_one rfl) (by omega)) (by simp; omega) fun d hd => ?_).trans ?_
    · obtain ⟨k, hk, rfl⟩ := List.mem_map.mp hd
      have hk := List.mem_range.mp hk
      refine ⟨_, rfl, ?_⟩
      have ek : ((f : Int) + (0 + (k : Int))) % 26 = (((f + k) % 26 : Nat) : Int) := by omega
      have g26 : A26.cps.toList[(f + k) % 26]? = some (97 + (f + k) % 26) := by
        rw [a26_list, List.getElem?_map, List.getElem?_range (Nat.mod_lt _ (by decide))]
        rfl
      have i1 : f_ix (.str A26) (.int (((f : Int) + (0 + (k : Int))) % 26)) (b4.enc :: t) = some (.str (mk [97 + (f + k) % 26]), b4.enc :: t) := by
        rw [ek]
        exact ix_str (by rw [a26_len]; decide) (Int.natCast_nonneg _) (by rw [Int.toNat_natCast]; exact g26)
      have s1 : f_sl (.str (mk cs)) none (some (a : Int)) (b4.enc :: t) = some (.str (mk (cs.take a)), b4.enc :: t) := by
        rw [hix (by omega), cut_to _ (by omega), list_mk]
      have s2 : f_sl (.str (mk cs)) (some (a : Int)) none (b4.enc :: t) = some (.str (mk (cs.drop a)), b4.enc :: t) := by
        rw [hix (by omega), cut_from _ (by omega), list_mk]
      have z1 : (mk (cs.take a)).length ≤ 7 := by rw [len_list, list_mk, List.length_take]; omega
      have z2 : (mk (cs.drop a)).length ≤ 7 := by rw [len_list, list_mk, List.length_drop]; omega
      have z3 : (mk [97 + (f + k) % 26]).length = 1 := rfl
      have fin : mk (cs.take a) ++ mk [97 + (f + k) % 26] ++ mk (cs.drop a) = nameAt cs a f (0 + (k : Int)).toNat := by
        have : (0 + (k : Int)).toNat = k := by omega
        rw [this]
        exact str_ext (by simp [app_list, list_mk, nameAt])
      refine (e_bin (e_bin (e_sl rfl rfl (e_os rfl) s1) (e_bin rfl (e_bin (e_b (e_one (e_bin rfl rfl rfl)) rfl) rfl (mod_pos (by decide))) i1) (add_str (by omega))) (e_sl rfl (e_os rfl) rfl s2) (add_str (by
        rw [PySem.Str.length_append]
        omega))).trans ?_
      rw [fin]
    · refine congrArg (fun z => some (D.fl z, b4.enc :: t)) ?_
      rw [List.map_map, List.map_map]
      refine List.map_congr_left fun k _ => ?_
      show D.str (nameAt cs a f (0 + (k : Int)).toNat) = D.str (nameAt cs a f k)
      have : (0 + (k : Int)).toNat = k := by omega
      rw [this]
end SP
set_option Elab.async false
set_option linter.all false
set_option maxRecDepth 100000
set_option maxHeartbeats 2000000
namespace SP
open PySem PySem.Spec PyProof.Rows L2 HF PF
theorem e_lm {r : Option (D × List O)} {f : FM} {mo : FE} {ms : FA} {sl : Sl} {h h1 h2 : List O} {i : Nat} {xs ds : List D} (e1 : mo sl h = some (.loc i, h1)) (e2 : h1[i]? = some (.lst xs)) (e3 : ms sl h1 = some (ds, h2)) (k : f (.loc i) ds h2 = r) : m_lm f mo ms sl h = r := by
  unfold m_lm
  rw [e1, Option.bind_some]
  dsimp only
  rw [e2]
  dsimp only
  rw [e3]
  exact k
theorem insert_ev {i : Nat} {h : List O} {xs : List D} {j : Nat} {d : D} (e : h[i]? = some (.lst xs)) (hl : xs.length ≤ 100000) (hj : j ≤ 100000) : x_insert (.loc i) [.int (j : Int), d] h = some (.non, h.set i (.lst (xs.take j ++ [d] ++ xs.drop j))) := by
  have p : (100000 : Int) < (2 : Int) ^ 63 := by decide
  have g : (szOk xs.length && (decide (0 ≤ (j : Int)) && decide ((j : Int) < 2 ^ 63))) = true := by
    rw [Bool.and_eq_true, Bool.and_eq_true, decide_eq_true_eq, decide_eq_true_eq]
    exact ⟨szOk_of hl, Int.natCast_nonneg j, Int.lt_of_le_of_lt (by omega) p⟩
  unfold x_insert
  dsimp only
  rw [e]
  exact if_pos g
theorem append_ev {i : Nat} {h : List O} {xs : List D} {d : D} (e : h[i]? = some (.lst xs)) (hl : xs.length ≤ 100000) : x_append (.loc i) [d] h = some (.non, h.set i (.lst (xs ++ [d]))) := by
  unfold x_append
  dsimp only
  rw [e]
  exact if_pos (szOk_of hl)
theorem len_loc {i : Nat} {h : List O} {xs : List D} (e : h[i]? = some (.lst xs)) : c_len [.loc i] h = some (.int xs.length, h) := by
  unfold c_len asQ
  dsimp only
  rw [e]
  rfl
theorem at_end (b : O) (t : List O) (x : O) : (b :: (t ++ [x]))[t.length + 1]? = some x := by simp
theorem set_end (b : O) (t : List O) (x y : O) : (b :: (t ++ [x])).set (t.length + 1) y = b :: (t ++ [y]) := by simp
/-! frozen -/
def Stb (d : D) : Prop := ∀ (n : Nat) (h : List O), frz (n + 4) d h = some (d, h)
def Stb0 (d : D) : Prop := ∀ (n : Nat) (h : List O), frz (n + 1) d h = some (d, h)
theorem mapS_stb {n : Nat} : ∀ {ds : List D} {h : List O}, (∀ d ∈ ds, frz n d h = some (d, h)) → mapS (frz n) ds h = some (ds, h)
  | [], _, _ => rfl
  | d :: ds, h, hd => by
    unfold mapS
    rw [hd d (.head _), Option.bind_some, mapS_stb fun x hx => hd x (.tail _ hx)]
    rfl
theorem stb_str (s : Str) : Stb (.str s) := fun _ _ => rfl
theorem stb_int (i : Int) : Stb (.int i) := fun _ _ => rfl
theorem stb_fl (xs : List D) : Stb (.fl xs) := fun _ _ => rfl
theorem stb_tup {xs : List D} (hx : ∀ x ∈ xs, Stb0 x) : Stb (.tup xs) := fun n h => by
  show (mapS (frz (n + 3)) xs h).bind _ = _
  rw [mapS_stb fun d hd => hx d hd (n + 2) h]
  rfl
theorem frz_loc {n i : Nat} {h : List O} {xs : List D} (e : h[i]? = some (.lst xs)) (hx : ∀ d ∈ xs, Stb d) : frz (n + 5) (.loc i) h = some (.fl xs, h.set i .gone) := by
  unfold frz
  rw [e]
  dsimp only
  rw [mapS_stb fun d hd => hx d hd n _]
  rfl
theorem e_frz {m : FE} {sl : Sl} {h h1 : List O} {i : Nat} {xs : List D} (e : m sl h = some (.loc i, h1)) (e2 : h1[i]? = some (.lst xs)) (hx : ∀ d ∈ xs, Stb d) : m_frz m sl h = some (.fl xs, h1.set i .gone) := by
  unfold m_frz
  rw [e]
  exact frz_loc (n := 3) e2 hx
/-! mixed -/
theorem mix_loop {d0 : D} {t : List O} : ∀ (xs ys : List D) (b : Bag) (s3 : Option D), b.Ok → ys.length + xs.length ≤ 10000 → ∃ (zs : List D) (b' : Bag) (s3' : Option D), Bag.Ok b' ∧ zs.Perm (ys ++ xs) ∧
    forL (g_n 3) (s_ex (m_lm x_insert (m_v 2) (a_cons (m_call cm__law_pull [] (m_ca (a_cons (m_v 0) (a_cons (m_bin f_add (m_b c_len (a_cons (m_v 2) a_nil)) (m_c (.int 1))) a_nil)) a_nil)) (a_cons (m_v 3) a_nil)))) xs [some (.loc 0), some d0, some (.loc (t.length + 1)), s3] (b.enc :: (t ++ [.lst ys]))
      = some (.nx, [some (.loc 0), some d0, some (.loc (t.length + 1)), s3'], b'.enc :: (t ++ [.lst zs]))
  | [], ys, b, s3, hb, _ => ⟨ys, b, s3, hb, by rw [List.append_nil], rfl⟩
  | x :: xs, ys, b, s3, hb, hl => by
    simp only [List.length_cons] at hl
    obtain ⟨v, b1, hv, hb1, e1⟩ := pull_nat (b := b) (n := ys.length + 1) (by omega) (by omega) hb (t ++ [.lst ys])
    have hyl : (ys.take v ++ [x] ++ ys.drop v).length = ys.length + 1 := by simp; omega
    obtain ⟨zs, b2, s4, hb2, hp, e2⟩ := mix_loop (t := t) xs (ys.take v ++ [x] ++ ys.drop v) b1 (some x) hb1 (by rw [hyl]; omega)
    refine ⟨zs, b2, s4, hb2, hp.trans ?_, ?_⟩
    · refine List.Perm.trans (l₂ := (x :: ys) ++ xs) (List.Perm.append_right _ ?_) (by simpa using (List.perm_middle (a := x) (l₁ := ys) (l₂ := xs)).symm)
      have p : (List.take v ys ++ [x] ++ List.drop v ys).Perm (x :: (List.take v ys ++ List.drop v ys)) := by
        simpa using (List.perm_middle (a := x) (l₁ := List.take v ys) (l₂ := List.drop v ys))
      rw [List.take_append_drop] at p
      exact p
    · refine l_nx rfl (q_ex (e_lm rfl (at_end _ _ _) (e_cons (e_call (e_ca0 (e_cons rfl (e_one (e_bin (e_b (e_one rfl) (len_loc (at_end _ _ _))) rfl rfl)))) e1) (e_one rfl)) (insert_ev (at_end _ _ _) (by omega) (by omega)))) ?_
      rw [set_end]
      exact e2
theorem mixed_ex {b : Bag} {xs : List D} (hx : ∀ d ∈ xs, Stb d) (hl : xs.length ≤ 10000) (hb : b.Ok) (t : List O) : ∃ (zs : List D) (b' : Bag), zs.Perm xs ∧ Bag.Ok b' ∧ cm__law_mixed [.loc 0, .fl xs] [] (b.enc :: t) = some (.fl zs, b'.enc :: (t ++ [.gone])) := by
  obtain ⟨zs, b1, s3, hb1, hp, e⟩ := mix_loop (d0 := .fl xs) (t := t) xs [] b none hb (by simpa using hl)
  refine ⟨zs, b1, hp, hb1, ?_⟩
  unfold cm__law_mixed b__law_mixed cmP
  dsimp only
  refine rt_fn (rt_q (q_set (e_tl rfl)) (rt_q (q_for rfl e) (rt_ret ?_)))
  have := e_frz (m := m_v 2) (sl := [some (.loc 0), some (.fl xs), some (.loc (t.length + 1)), s3]) (h := b1.enc :: (t ++ [.lst zs])) rfl (at_end _ _ _) (fun d hd => hx d (hp.mem_iff.mp hd))
  rw [set_end] at this
  exact this
/-! start -/
theorem e_q {m : FE} {sl : Sl} {h h1 : List O} {xs : List D} (e : m sl h = some (.fl xs, h1)) : i_q m sl h = some (xs, h1) := by
  unfold i_q
  rw [e]
  rfl
theorem cutD_63 (xs : List D) (hx : xs.length ≤ 63) : HF.cutD xs none (some 63) = xs := by
  unfold HF.cutD
  have e : HT.sIx xs.length xs.length (some 63) = min 63 xs.length := HT.sIx_nat _ _ 63
  rw [e, HT.sIx_none, Nat.min_eq_right hx]
  simp
theorem start_loop {d0 : D} {h : List O} : ∀ (ns : List Int) (x : Int) (s2 : Option D), 0 ≤ x ∧ x < 2147483629 → ∃ (y : Int) (s2' : Option D), (0 ≤ y ∧ y < 2147483629) ∧
    forL (g_n 2) (s_set 1 (m_bin f_mod (m_b c_int (a_cons (m_bin f_add (m_bin f_add (m_bin f_mul (m_v 1) (m_c (.int 48017))) (m_bin f_mul (m_bin f_mod (m_b c_int (a_cons (m_v 2) a_nil)) (m_c (.int 1000133))) (m_c (.int 911)))) (m_c (.int 13))) a_nil)) (m_c (.int 2147483587)))) (ns.map D.int) [some d0, some (.int x), s2] h
      = some (.nx, [some d0, some (.int y), s2'], h)
  | [], x, s2, hx => ⟨x, s2, hx, rfl⟩
  | n :: ns, x, s2, hx => by
    have hy : 0 ≤ (x * 48017 + n % 1000133 * 911 + 13) % 2147483587 := Int.emod_nonneg _ (by decide)
    have hy2 : (x * 48017 + n % 1000133 * 911 + 13) % 2147483587 < 2147483587 := Int.emod_lt_of_pos _ (by decide)
    obtain ⟨y, s3, hy3, e⟩ := start_loop (d0 := d0) (h := h) ns _ (some (.int n)) ⟨hy, Int.lt_trans hy2 (by decide)⟩
    refine ⟨y, s3, hy3, ?_⟩
    have m1 : f_mul (.int x) (.int 48017) h = some (.int (x * 48017), h) := by
      rw [f_mul]
      simp
    have m2 : f_mul (.int (n % 1000133)) (.int 911) h = some (.int (n % 1000133 * 911), h) := by
      rw [f_mul]
      simp
    exact l_nx rfl (q_set (e_bin (e_b (e_one (e_bin (e_bin (e_bin rfl rfl m1) (e_bin (e_bin (e_b (e_one rfl) rfl) rfl (mod_pos (by decide))) rfl m2) rfl) rfl rfl)) rfl) rfl (mod_pos (by decide)))) e
theorem start_ex {ns : List Int} {d : D} (hl : ns.length ≤ 63) (hd : d = .fz (ns.map D.int) ∨ d = .kl (ns.map D.int)) : ∃ b : Bag, b.Ok ∧ cm__law_start [d] [] [] = some (.loc 0, [b.enc]) := by
  obtain ⟨y, s3, hy, e⟩ := start_loop (d0 := d) (h := []) ns 5792 none (by decide)
  have c := cutD_63 (ns.map D.int) (by simpa using hl)
  have s : f_sl d none (some 63) [] = some (.fl (ns.map D.int), []) := by
    rcases hd with rfl | rfl
    · show some (D.fl (HF.cutD _ _ _), _) = _
      rw [c]
    · show some (D.fl (HF.cutD _ _ _), _) = _
      rw [c]
  refine ⟨⟨ns, 0, 0, y, 0⟩, ⟨hl, Int.le_refl _, hy.1, hy.2⟩, ?_⟩
  unfold cm__law_start b__law_start cmP
  dsimp only
  exact rt_fn (rt_q (q_set rfl) (rt_q (q_for (e_q (e_sl rfl rfl (e_os rfl) s)) e) (rt_ret (e_tl (h1 := []) (ds := [.fl (ns.map D.int), .int 0, .int 0, .int y, .int 0]) (e_cons (e_b (e_one (e_sl rfl rfl (e_os rfl) s)) rfl) rfl)))))
end SP
set_option Elab.async false
set_option linter.all false
set_option maxRecDepth 100000
set_option maxHeartbeats 2000000
namespace SP
open PySem PySem.Spec PyProof.Rows L2 HF PF
structure Row where
  name : Str
  low : Int
  high : Int
  under : Int
  over : Int
  late : List Str
structure Row.Ok (r : Row) : Prop where
  name : NameOk r.name
  low : -9 ≤ r.low
  lh : r.low ≤ r.high
  high : r.high ≤ 9
  u0 : 0 ≤ r.under
  u1 : r.under ≤ 9
  o0 : 0 ≤ r.over
  o1 : r.over ≤ 9
  ne : r.late ≠ []
  nd : r.late.Nodup
  lname : ∀ x ∈ r.late, NameOk x
  len : r.late.length ≤ 6
def Row.d (r : Row) : D := .fl [.str r.name, .int r.low, .int r.high, .int r.under, .int r.over, .fl (r.late.map D.str)]
def Row.mode (r : Row) : D := .ob "Mode" ["name", "low", "high", "under", "over", "next_names"] [.str r.name, .int r.low, .int r.high, .int r.under, .int r.over, .tup (r.late.map D.str)]
structure Shape where
  size : Int
  start : Int
  rows : List Row
def Shape.d (s : Shape) : D := .fl [.int s.size, .int s.start, .fl (s.rows.map Row.d)]
def Shape.names (s : Shape) : List Str := s.rows.map (·.name)
def Shape.plan (s : Shape) : D := .ob "Plan" ["size", "start", "table"] [.int s.size, .int s.start, .dk (s.names.map Sum.inr) (s.rows.map Row.mode)]
structure Shape.Ok (s : Shape) : Prop where
  size0 : 1 ≤ s.size
  size1 : s.size ≤ 24
  start0 : 0 ≤ s.start
  start1 : s.start ≤ s.size
  rows : ∀ r ∈ s.rows, r.Ok
  nd : s.names.Nodup
  late : ∀ r ∈ s.rows, ∀ x ∈ r.late, x ∈ s.names
  n1 : 1 ≤ s.rows.length
  n6 : s.rows.length ≤ 6
/-! is_number -/
theorem e_isT {k j : Ki} {b : Bool} {m : FE} {sl : Sl} {h h1 : List O} {d : D} (e : m sl h = some (d, h1)) (e2 : kiOf h1 d = some j) (hb : Ki.is j k = b) : m_isT k m sl h = some (.bl b, h1) := by
  unfold m_isT
  rw [e, Option.bind_some, e2, ← hb]
  rfl
theorem number_ev (v lo hi : Int) (h : List O) : cm_is_number [.int v, .int lo, .int hi] [] h = some (.bl (decide (lo ≤ v ∧ v ≤ hi)), h) := by
  unfold cm_is_number b_is_number cmP
  dsimp only
  by_cases c : v < lo
  · have : decide (lo ≤ v ∧ v ≤ hi) = false := decide_eq_false (by omega)
    rw [this]
    refine rt_fn (rt_q1 (rt_if1 (e_or0 (e_nT (e_t (e_isT rfl rfl rfl))) (e_or0 (e_t (e_isT rfl rfl rfl)) (e_t (e_bin rfl rfl ?_)))) (rt_ret rfl)))
    show some (D.bl (decide (v < lo)), h) = _
    rw [decide_eq_true c]
  · have e1 : (m_t (m_bin f_lt (m_v 0) (m_v 1))) [some (.int v), some (.int lo), some (.int hi)] h = some (false, h) := e_t (e_bin rfl rfl (by
      show some (D.bl (decide (v < lo)), h) = _
      rw [decide_eq_false c]))
    refine rt_fn (rt_q (q_no (e_or0 (e_nT (e_t (e_isT rfl rfl rfl))) (e_or0 (e_t (e_isT rfl rfl rfl)) e1))) (rt_ret ?_))
    have : decide (lo ≤ v ∧ v ≤ hi) = decide (v ≤ hi) := by
      congr 1
      simp
      omega
    rw [this]
    rfl
theorem number_t {v lo hi : Int} (h : List O) (a : lo ≤ v) (b : v ≤ hi) : cm_is_number [.int v, .int lo, .int hi] [] h = some (.bl true, h) := by
  rw [number_ev, decide_eq_true ⟨a, b⟩]
/-! is_name -/
theorem all_true : ∀ {bs : List Bool}, (∀ b ∈ bs, b = true) → bs.all id = true
  | [], _ => rfl
  | b :: bs, h => by rw [List.all_cons, all_true fun x hx => h x (.tail _ hx), h b (.head _)]; rfl
theorem all_ev {bs : List Bool} {h : List O} : c_all [.fl (bs.map D.bl)] h = some (.bl (bs.all id), h) := by
  show (allBl (bs.map D.bl)).bind _ = _
  rw [allBl_map]
  rfl
theorem e_is {m : FE} {sl : Sl} {h h1 : List O} {z : Str} (e : m sl h = some (.str z, h1)) : i_s m sl h = some (z.cps.toList.map fun c => D.str (mk [c]), h1) := by
  unfold i_s
  rw [e]
  rfl
theorem name_ev {s : Str} (hs : NameOk s) (h : List O) : cm_is_name [.str s] [] h = some (.bl true, h) := by
  have hl : s.length ≤ 100000 := Nat.le_trans hs.le (by decide)
  have h1 := hs.pos
  have h8 := hs.le
  unfold cm_is_name b_is_name cmP
  dsimp only
  have l1 : (m_b c_len (a_cons (m_v 0) a_nil)) [some (.str s), none] h = some (.int s.length, h) := e_b (e_one rfl) (len_str hl)
  have ch : (m_t (m_chain f_le f_le (m_c (.int 1)) (m_b c_len (a_cons (m_v 0) a_nil)) (m_c (.int 8)))) [some (.str s), none] h = some (true, h) := by
    refine e_t ?_
    unfold m_chain
    rw [show m_c (.int 1) [some (.str s), none] h = some (.int 1, h) from rfl, Option.bind_some]
    dsimp only
    rw [l1, Option.bind_some]
    have a1 : f_le (.int 1) (.int s.length) h = some (.bl true, h) := by
      show some (D.bl (decide ((1 : Int) ≤ s.length)), h) = _
      rw [decide_eq_true (by omega)]
    have a2 : f_le (.int s.length) (.int 8) h = some (.bl true, h) := by
      show some (D.bl (decide ((s.length : Int) ≤ 8)), h) = _
      rw [decide_eq_true (by omega)]
    dsimp only
    rw [a1, Option.bind_some]
    exact a2
  refine rt_fn (rt_q (q_no (e_or0 (e_nT (e_t (e_isT rfl rfl rfl))) (e_nT ch))) (rt_ret ?_))
  have lm := lc_map (mi := i_s (m_v 0)) (g := g_n 1) (te := m_bin f_inS (m_v 1) (m_c (.str A26))) (vs := [1]) (sl := [some (.str s), none]) (h := h) (f := fun _ => D.bl true) (e_is rfl) (by rw [List.length_map, ← len_list]; exact hl) (fun d hd => by
    obtain ⟨c, hc, rfl⟩ := List.mem_map.mp hd
    refine ⟨_, rfl, e_bin rfl rfl ?_⟩
    show some (D.bl (decide (c ∈ A26.cps.toList)), h) = _
    have hc := hs.low c hc
    rw [decide_eq_true]
    rw [a26_list]
    exact List.mem_map.mpr ⟨c - 97, List.mem_range.mpr (by omega), by omega⟩)
  rw [List.map_map] at lm
  have e2 : (s.cps.toList.map ((fun _ : D => D.bl true) ∘ fun c => D.str (mk [c]))) = (s.cps.toList.map fun _ => true).map D.bl := by rw [List.map_map]; rfl
  rw [e2] at lm
  refine e_b (e_one lm) ?_
  rw [all_ev, all_true fun b hb => by
    obtain ⟨_, _, rfl⟩ := List.mem_map.mp hb
    rfl]
/-! attributes -/
theorem attr_ob {c f : Str} {ks : List Str} {xs : List D} {m : FE} {sl : Sl} {h h1 : List O} {d : D} (e : m sl h = some (.ob c ks xs, h1)) (hl : lookF f ks xs = some d) : m_attr [c] f m sl h = some (d, h1) := by
  unfold m_attr
  rw [e, Option.bind_some]
  show (if [c].contains c = true then _ else _) = _
  rw [if_pos (by simp)]
  show (lookF f ks xs).bind _ = _
  rw [hl]
  rfl
section
variable (r : Row)
theorem mode_name {m : FE} {sl : Sl} {h h1 : List O} (e : m sl h = some (r.mode, h1)) : m_attr ["Mode"] "name" m sl h = some (.str r.name, h1) := attr_ob e (by kernel_rfl)
theorem mode_low {m : FE} {sl : Sl} {h h1 : List O} (e : m sl h = some (r.mode, h1)) : m_attr ["Mode"] "low" m sl h = some (.int r.low, h1) := attr_ob e (by kernel_rfl)
theorem mode_high {m : FE} {sl : Sl} {h h1 : List O} (e : m sl h = some (r.mode, h1)) : m_attr ["Mode"] "high" m sl h = some (.int r.high, h1) := attr_ob e (by kernel_rfl)
theorem mode_under {m : FE} {sl : Sl} {h h1 : List O} (e : m sl h = some (r.mode, h1)) : m_attr ["Mode"] "under" m sl h = some (.int r.under, h1) := attr_ob e (by kernel_rfl)
theorem mode_over {m : FE} {sl : Sl} {h h1 : List O} (e : m sl h = some (r.mode, h1)) : m_attr ["Mode"] "over" m sl h = some (.int r.over, h1) := attr_ob e (by kernel_rfl)
theorem mode_next {m : FE} {sl : Sl} {h h1 : List O} (e : m sl h = some (r.mode, h1)) : m_attr ["Mode"] "next_names" m sl h = some (.tup (r.late.map D.str), h1) := attr_ob e (by kernel_rfl)
theorem followers_ev (h : List O) : cm_Mode_followers [r.mode] [] h = some (.fl (r.late.map D.str), h) := by
  unfold cm_Mode_followers b_Mode_followers cmP
  dsimp only
  exact rt_fn (rt_ret (e_b (e_one (mode_next r rfl)) rfl))
end
end SP
set_option Elab.async false
set_option linter.all false
set_option maxRecDepth 100000
set_option maxHeartbeats 2000000
namespace SP
open PySem PySem.Spec PyProof.Rows L2 HF PF
theorem forL_keep {g : FG} {b : FS} {h : List O} (P : Sl → Prop) : ∀ (xs : List D) (sl : Sl), P sl → (∀ x ∈ xs, ∀ sl, P sl → ∃ s1 s2, g x sl = some s1 ∧ b s1 h = some (.nx, s2, h) ∧ P s2) → ∃ sl', forL g b xs sl h = some (.nx, sl', h) ∧ P sl'
  | [], sl, p, _ => ⟨sl, rfl, p⟩
  | x :: xs, sl, p, hx => by
    obtain ⟨s1, s2, e1, e2, p2⟩ := hx x (.head _) sl p
    obtain ⟨s3, e3, p3⟩ := forL_keep P xs s2 p2 fun y hy => hx y (.tail _ hy)
    exact ⟨s3, l_nx e1 e2 e3, p3⟩
theorem enumF_mem : ∀ (xs : List D) (k : Nat) (x : D), x ∈ enumF k xs → ∃ j a, x = .tup [.int ((k + j : Nat) : Int), a] ∧ xs[j]? = some a
  | [], _, _, h => by cases h
  | y :: ys, k, x, h => by
    rcases List.mem_cons.mp h with rfl | h
    · exact ⟨0, y, rfl, rfl⟩
    · obtain ⟨j, a, e, e2⟩ := enumF_mem ys (k + 1) x h
      exact ⟨j + 1, a, by rw [e]; simp [Nat.add_assoc, Nat.add_comm 1 j], e2⟩
theorem e_qt {m : FE} {sl : Sl} {h h1 : List O} {xs : List D} (e : m sl h = some (.tup xs, h1)) : i_q m sl h = some (xs, h1) := by
  unfold i_q
  rw [e]
  rfl
theorem e_enT {m : FE} {sl : Sl} {h h1 : List O} {xs : List D} (e : m sl h = some (.tup xs, h1)) : i_alt (i_e (a_cons m a_nil)) (i_eT (a_cons m a_nil)) sl h = some (enumF 0 xs, h1) := by
  have e1 := e_one e
  unfold i_alt i_e i_eT
  rw [e1]
  rfl
theorem e_enL {m : FE} {sl : Sl} {h h1 : List O} {xs : List D} (e : m sl h = some (.fl xs, h1)) : i_alt (i_e (a_cons m a_nil)) (i_eT (a_cons m a_nil)) sl h = some (enumF 0 xs, h1) := by
  have e1 := e_one e
  unfold i_alt i_e i_eT
  rw [e1]
  rfl
theorem cutD_to {xs : List D} {k : Nat} (hk : k ≤ xs.length) : HF.cutD xs none (some (k : Int)) = xs.take k := by
  unfold HF.cutD
  rw [HT.sIx_none, HT.sIx_nat, Nat.min_eq_left hk]
  simp
theorem cutD_from {xs : List D} {k : Nat} (hk : k ≤ xs.length) : HF.cutD xs (some (k : Int)) none = xs.drop k := by
  unfold HF.cutD
  rw [HT.sIx_none, HT.sIx_nat, Nat.min_eq_left hk]
  rw [List.take_of_length_le]
  simp
theorem cutD_mid {xs : List D} {k j : Nat} (hk : k ≤ j) (hj : j ≤ xs.length) : HF.cutD xs (some (k : Int)) (some (j : Int)) = (xs.take j).drop k := by
  unfold HF.cutD
  rw [HT.sIx_nat, HT.sIx_nat, Nat.min_eq_left hj, Nat.min_eq_left (Nat.le_trans hk hj), List.drop_take]
theorem mem_take_nodup {xs : List Str} (nd : xs.Nodup) {j : Nat} {a : Str} (e : xs[j]? = some a) : a ∉ xs.take j := fun hm => by
  obtain ⟨i, hi, e2⟩ := List.getElem_of_mem hm
  rw [List.length_take] at hi
  have hj := (List.getElem?_eq_some_iff.mp e).1
  rw [List.getElem_take] at e2
  have := (List.getElem?_eq_some_iff.mp e).2
  have := (List.getElem_inj nd).mp (e2.trans this.symm)
  omega
theorem any_beq (a : Str) (xs : List Str) : (xs.any fun z => z == a) = decide (a ∈ xs) := by
  induction xs with
  | nil => rfl
  | cons x xs ih => rw [List.any_cons, ih, beq_str]; simp [eq_comm]
theorem inT_ev {a : Str} {xs : List Str} {h : List O} : f_inT (.str a) (.tup (xs.map D.str)) h = some (.bl (decide (a ∈ xs)), h) := by
  show (allStr (xs.map D.str)).bind _ = _
  rw [allStr_map]
  show some (D.bl (xs.any fun z => z == a), h) = _
  rw [any_beq]
theorem map_take_str (xs : List Str) (k : Nat) : (xs.map D.str).take k = (xs.take k).map D.str := by rw [List.map_take]
theorem putKs_new {n : Str} : ∀ {ks : List Str}, ks.contains n = false → putKs n ks = ks ++ [n]
  | [], _ => rfl
  | k :: ks, h => by
    rw [List.contains_cons, Bool.or_eq_false_iff] at h
    have hk : ¬ k = n := fun e => by rw [e] at h; simp at h
    unfold putKs
    rw [if_neg hk, putKs_new h.2]
    rfl
theorem putVs_new {n : Str} {d : D} : ∀ {ks : List Str} {xs : List D}, ks.contains n = false → ks.length = xs.length → putVs n d ks xs = xs ++ [d]
  | [], [], _, _ => rfl
  | k :: ks, x :: xs, h, hl => by
    rw [List.contains_cons, Bool.or_eq_false_iff] at h
    have hk : ¬ k = n := fun e => by rw [e] at h; simp at h
    unfold putVs
    rw [if_neg hk, putVs_new h.2 (Nat.succ.inj hl)]
    rfl
theorem q_fld {c n : Str} {mo mv : FE} {sl : Sl} {h h1 h2 : List O} {i : Nat} {ks : List Str} {xs : List D} {d : D} (e1 : mv sl h = some (d, h1)) (e2 : mo sl h1 = some (.loc i, h2)) (e3 : h2[i]? = some (.ins c ks xs))
    (hn : ks.contains n = false := by decide +kernel) (hl : ks.length = xs.length := by rfl) (hk : ks.length < 900 := by simp) : s_fld [c] n mo mv sl h = some (.nx, sl, h2.set i (.ins c (ks ++ [n]) (xs ++ [d]))) := by
  unfold s_fld
  rw [e1, Option.bind_some]
  dsimp only
  rw [e2, Option.bind_some]
  dsimp only
  rw [e3]
  dsimp only
  rw [if_pos (by simp [hk]), putKs_new hn, putVs_new hn hl]
theorem q_fldE {c n : Str} {mo mv : FE} {sl : Sl} {h h1 h2 hf : List O} {i : Nat} {ks : List Str} {xs : List D} {d : D} (e1 : mv sl h = some (d, h1)) (e2 : mo sl h1 = some (.loc i, h2)) (e3 : h2[i]? = some (.ins c ks xs)) (hh : h2.set i (.ins c (ks ++ [n]) (xs ++ [d])) = hf)
    (hn : ks.contains n = false := by decide +kernel) (hl : ks.length = xs.length := by rfl) (hk : ks.length < 900 := by simp) : s_fld [c] n mo mv sl h = some (.nx, sl, hf) := hh ▸ q_fld e1 e2 e3 hn hl hk
/-! a mode is made -/
def modeO (name : Str) (low high under over : Int) (late : List Str) : O := .ins "Mode" ["name", "low", "high", "under", "over", "next_names"] [.str name, .int low, .int high, .int under, .int over, .tup (late.map D.str)]
structure MArgs (name : Str) (low high under over : Int) (fs : List Str) : Prop where
  kname : NameOk name
  klow : -9 ≤ low
  klh : low ≤ high
  khigh : high ≤ 9
  u0 : 0 ≤ under
  u1 : under ≤ 9
  o0 : 0 ≤ over
  o1 : over ≤ 9
  nd : fs.Nodup
  lname : ∀ x ∈ fs, NameOk x
  len : fs.length ≤ 1000
theorem mode_body {name : Str} {low high under over : Int} {fs : List Str} (M : MArgs name low high under over fs) :
    Nx (b_Mode___init__ [some (.loc 0), some (.str name), some (.int low), some (.int high), some (.int under), some (.int over), some (.tup (fs.map D.str)), none, none, none] [.ins "Mode" [] []])
      [modeO name low high under over (if fs = [] then [name] else fs)] := by
  unfold b_Mode___init__
  refine nx_q (q_no (e_nT (e_t (e_call (e_ca0 (e_one rfl)) (name_ev M.kname _))))) ?_
  refine nx_q (q_no (e_nT (e_t (e_call (e_ca0 (e_cons rfl (e_cons rfl (e_one rfl)))) (number_t _ M.klow (Int.le_trans M.klh M.khigh)))))) ?_
  refine nx_q (q_no (e_nT (e_t (e_call (e_ca0 (e_cons rfl (e_cons rfl (e_one rfl)))) (number_t _ M.klh M.khigh))))) ?_
  obtain ⟨_, e4, s7, rfl⟩ := forL_keep (g := g_n 7) (b := s_if (t_not (m_t (m_call cm_is_name [] (m_ca (a_cons (m_v 7) a_nil) a_nil)))) s_never s_nil) (h := [.ins "Mode" [] []])
    (fun sl => ∃ s7, sl = [some (.loc 0), some (.str name), some (.int low), some (.int high), some (.int under), some (.int over), some (.tup (fs.map D.str)), s7, none, none]) (fs.map D.str) _ ⟨none, rfl⟩ (fun x hx sl ⟨s7, e⟩ => by
      subst e
      obtain ⟨a, ha, rfl⟩ := List.mem_map.mp hx
      exact ⟨_, _, rfl, q_no (e_nT (e_t (e_call (e_ca0 (e_one rfl)) (name_ev (M.lname a ha) _)))), ⟨_, rfl⟩⟩)
  refine nx_q (q_for (e_qt rfl) e4) ?_
  obtain ⟨_, e5, s7, s8, rfl⟩ := forL_keep (g := g_q 2 (gs_cons (g_n 8) (gs_cons (g_n 7) gs_nil))) (b := s_if (m_t (m_bin f_inT (m_v 7) (m_sl (m_v 6) o_none (o_some (m_v 8))))) s_never s_nil) (h := [.ins "Mode" [] []])
    (fun sl => ∃ s7 s8, sl = [some (.loc 0), some (.str name), some (.int low), some (.int high), some (.int under), some (.int over), some (.tup (fs.map D.str)), s7, s8, none]) (enumF 0 (fs.map D.str)) _ ⟨s7, none, rfl⟩ (fun x hx sl ⟨s7, s8, e⟩ => by
      subst e
      obtain ⟨j, a, rfl, ej⟩ := enumF_mem _ _ _ hx
      rw [List.getElem?_map] at ej
      cases ef : fs[j]? with
      | none => rw [ef] at ej; cases ej
      | some s =>
        rw [ef] at ej
        cases ej
        have hj := (List.getElem?_eq_some_iff.mp ef).1
        have z : f_sl (.tup (fs.map D.str)) none (some ((0 + j : Nat) : Int)) [.ins "Mode" [] []] = some (.tup ((fs.take j).map D.str), [.ins "Mode" [] []]) := by
          show some (D.tup (HF.cutD _ _ _), _) = _
          rw [Nat.zero_add, cutD_to (by rw [List.length_map]; omega), map_take_str]
        exact ⟨_, _, rfl, q_no (e_t (e_bin rfl (e_sl rfl rfl (e_os rfl) z) (inT_ev.trans (by rw [decide_eq_false (mem_take_nodup M.nd ef)])))), ⟨_, _, rfl⟩⟩)
  refine nx_q (q_for (e_enT rfl) e5) ?_
  obtain ⟨_, e6, s9, rfl⟩ := forL_keep (g := g_n 9) (b := s_if (t_not (m_t (m_call cm_is_number [] (m_ca (a_cons (m_v 9) (a_cons (m_c (.int 0)) (a_cons (m_c (.int 9)) a_nil))) a_nil)))) s_never s_nil) (h := [.ins "Mode" [] []])
    (fun sl => ∃ s9, sl = [some (.loc 0), some (.str name), some (.int low), some (.int high), some (.int under), some (.int over), some (.tup (fs.map D.str)), s7, s8, s9]) [.int under, .int over] _ ⟨none, rfl⟩ (fun x hx sl ⟨s9, e⟩ => by
      subst e
      have : ∃ v : Int, x = .int v ∧ 0 ≤ v ∧ v ≤ 9 := by
        simp at hx
        rcases hx with rfl | rfl
        · exact ⟨_, rfl, M.u0, M.u1⟩
        · exact ⟨_, rfl, M.o0, M.o1⟩
      obtain ⟨v, rfl, v0, v9⟩ := this
      exact ⟨_, _, rfl, q_no (e_nT (e_t (e_call (e_ca0 (e_cons rfl (e_cons rfl (e_one rfl)))) (number_t _ v0 v9)))), ⟨_, rfl⟩⟩)
  refine nx_q (q_for (e_qt (e_tup (e_cons rfl (e_one rfl)))) e6) ?_
  refine nx_q (q_fld rfl rfl rfl) ?_
  refine nx_q (q_fld rfl rfl rfl) ?_
  refine nx_q (q_fld rfl rfl rfl) ?_
  refine nx_q (q_fld rfl rfl rfl) ?_
  refine nx_q (q_fld rfl rfl rfl) ?_
  have ne : f_ne (.tup (fs.map D.str)) (.tup []) = fun h => some (.bl (!decide (fs = [])), h) := by
    funext h
    unfold f_ne
    have : toP h 12 (.tup (fs.map D.str)) = some (.tuple (fs.map PyData.str)) := by
      rw [toP, toPs_str h 10 fs fun x hx => (M.lname x hx).sok]
      rfl
    rw [this, show toP h 12 (.tup []) = some (.tuple []) from rfl, Option.bind_some, Option.bind_some]
    cases fs with
    | nil => rfl
    | cons a as => rfl
  by_cases c : fs = []
  · rw [if_pos c]
    exact ⟨_, q_fldE (e_if0 (e_t (e_bin rfl rfl (by rw [ne, decide_eq_true c]; rfl))) rfl) rfl rfl rfl⟩
  · rw [if_neg c]
    exact ⟨_, q_fldE (e_if1 (e_t (e_bin rfl rfl (by rw [ne, decide_eq_false c]; rfl))) rfl) rfl rfl rfl⟩
end SP
set_option Elab.async false
set_option linter.all false
set_option maxRecDepth 100000
set_option maxHeartbeats 2000000
namespace SP
open PySem PySem.Spec PyProof.Rows L2 HF PF
theorem star_nx {n0 : Nat} {ks : List Str} {ix : List (Option Nat)} {dms : List D} {tot : Nat} {b : FS} {ds : List D} {kws : List (Str × D)} {h h1 : List O} (e : Nx (b ((ds.take n0 ++ fillG ix (kws.map (·.2)) dms ++ [D.tup (ds.drop n0)]).map some ++ List.replicate (tot - (ds.take n0 ++ fillG ix (kws.map (·.2)) dms ++ [D.tup (ds.drop n0)]).length) none) h) h1)
    (hn : n0 ≤ ds.length) (hk : kws.map (·.1) = ks) (hs : ds.length ≤ 100000) : m_star n0 ks ix dms tot b ds kws h = some (.non, h1) := by
  obtain ⟨s, e⟩ := e
  unfold m_star
  rw [if_pos ⟨hn, hk, szOk_of hs⟩, e]
  rfl
theorem star_rt {n0 : Nat} {ks : List Str} {ix : List (Option Nat)} {dms : List D} {tot : Nat} {b : FS} {ds : List D} {kws : List (Str × D)} {h h1 : List O} {d : D} (e : Rt (b ((ds.take n0 ++ fillG ix (kws.map (·.2)) dms ++ [D.tup (ds.drop n0)]).map some ++ List.replicate (tot - (ds.take n0 ++ fillG ix (kws.map (·.2)) dms ++ [D.tup (ds.drop n0)]).length) none) h) d h1)
    (hn : n0 ≤ ds.length) (hk : kws.map (·.1) = ks) (hs : ds.length ≤ 100000) : m_star n0 ks ix dms tot b ds kws h = some (d, h1) := by
  obtain ⟨s, e⟩ := e
  unfold m_star
  rw [if_pos ⟨hn, hk, szOk_of hs⟩, e]
  rfl
theorem star_no {n0 : Nat} {ks : List Str} {ix : List (Option Nat)} {dms : List D} {tot : Nat} {b : FS} {ds : List D} {kws : List (Str × D)} {h : List O} (hk : ¬ kws.map (·.1) = ks) : m_star n0 ks ix dms tot b ds kws h = none := by
  unfold m_star
  rw [if_neg fun z => hk z.2.1]
theorem or3_l {m n : CM} {ds : List D} {kws : List (Str × D)} {h : List O} {r : D × List O} (e : m ds kws h = some r) : or3 m n ds kws h = some r := by
  unfold or3
  rw [e]
theorem or3_r {m n : CM} {ds : List D} {kws : List (Str × D)} {h : List O} {r : Option (D × List O)} (e : m ds kws h = none) (e2 : n ds kws h = r) : or3 m n ds kws h = r := by
  unfold or3
  rw [e]
  exact e2
theorem noLocs_str : ∀ xs : List Str, D.noLocs (xs.map D.str) = true
  | [] => rfl
  | x :: xs => by
    show (D.noLoc (.str x) && D.noLocs (xs.map D.str)) = true
    rw [noLocs_str xs]
    rfl
theorem mkP_ev {c : Str} {mi : CM} {ds : List D} {kws : List (Str × D)} {h1 h2 : List O} {d : D} (n1 : D.noLocs ds = true) (n2 : D.noLocs (kws.map (·.2)) = true) (e : mi (.loc 0 :: ds) kws [.ins c [] []] = some (.non, h1)) (e2 : frz 8 (.loc 0) h1 = some (d, h2)) (n3 : d.noLoc = true) : mkP c mi ds kws = some d := by
  unfold mkP
  rw [n1, n2, if_pos (by rfl), e, Option.bind_some]
  dsimp only
  rw [e2, Option.bind_some, if_pos n3]
theorem e_mkP {c : Str} {mi : CM} {ks : List Str} {mc : FC} {sl : Sl} {h h1 : List O} {ds es : List D} {d : D} (e : mc sl h = some ((ds, es), h1)) (e2 : mkP c mi ds (ks.zip es) = some d) : m_mkP c mi ks mc sl h = some (d, h1) := by
  unfold m_mkP
  rw [e, Option.bind_some]
  show (mkP c mi ds (ks.zip es)).bind _ = _
  rw [e2]
  rfl
theorem frz_mode {name : Str} {low high under over : Int} {late : List Str} {h : List O} : frz 8 (.loc 0) (modeO name low high under over late :: h) = some ((⟨name, low, high, under, over, late⟩ : Row).mode, .gone :: h) := by
  show (mapS (frz 7) [.str name, .int low, .int high, .int under, .int over, .tup (late.map D.str)] (.gone :: h)).bind _ = _
  rw [mapS_stb fun d hd => by
    simp at hd
    rcases hd with rfl | rfl | rfl | rfl | rfl | rfl
    · rfl
    · rfl
    · rfl
    · rfl
    · rfl
    · exact stb_tup (fun x hx => by
        obtain ⟨a, _, rfl⟩ := List.mem_map.mp hx
        exact fun _ _ => rfl) 3 _]
  rfl
theorem mode_noLoc (r : Row) : r.mode.noLoc = true := by
  simp [Row.mode, D.noLoc, D.noLocs, noLocs_str]
theorem ks_uo {a b : D} : [(("under" : Str), a), (("over" : Str), b)].map (·.1) = [("under" : Str), ("over" : Str)] := rfl
theorem ks_ou {a b : D} : [(("over" : Str), a), (("under" : Str), b)].map (·.1) = [("over" : Str), ("under" : Str)] := rfl
theorem ks_ne : ¬ [("over" : Str), ("under" : Str)] = [("under" : Str), ("over" : Str)] := by decide +kernel
section
variable {name : Str} {low high under over : Int} {fs : List Str}
theorem mode_mk1 (M : MArgs name low high under over fs) : mkP "Mode" cm_Mode___init__ (.str name :: .int low :: .int high :: fs.map D.str) [("under", .int under), ("over", .int over)] = some (⟨name, low, high, under, over, if fs = [] then [name] else fs⟩ : Row).mode := by
  have hl := M.len
  refine mkP_ev (by show (true && (true && (true && D.noLocs (fs.map D.str)))) = true; rw [noLocs_str]; rfl) rfl (h1 := [modeO name low high under over (if fs = [] then [name] else fs)]) ?_ frz_mode (mode_noLoc _)
  refine or3_r (star_no (by rw [ks_uo]; simp)) (or3_l (star_nx (mode_body M) (by simp) rfl (by simp; omega)))
theorem mode_mk2 (M : MArgs name low high under over fs) : mkP "Mode" cm_Mode___init__ (.str name :: .int low :: .int high :: fs.map D.str) [("over", .int over), ("under", .int under)] = some (⟨name, low, high, under, over, if fs = [] then [name] else fs⟩ : Row).mode := by
  have hl := M.len
  refine mkP_ev (by show (true && (true && (true && D.noLocs (fs.map D.str)))) = true; rw [noLocs_str]; rfl) rfl (h1 := [modeO name low high under over (if fs = [] then [name] else fs)]) ?_ frz_mode (mode_noLoc _)
  refine or3_r (star_no (by rw [ks_ou]; simp)) (or3_r (star_no (by rw [ks_ou]; exact ks_ne)) (star_nx (mode_body M) (by simp) rfl (by simp; omega)))
theorem mode_mk0 (M : MArgs name low high 0 0 fs) : mkP "Mode" cm_Mode___init__ (.str name :: .int low :: .int high :: fs.map D.str) [] = some (⟨name, low, high, 0, 0, if fs = [] then [name] else fs⟩ : Row).mode := by
  have hl := M.len
  refine mkP_ev (by show (true && (true && (true && D.noLocs (fs.map D.str)))) = true; rw [noLocs_str]; rfl) rfl (h1 := [modeO name low high 0 0 (if fs = [] then [name] else fs)]) ?_ frz_mode (mode_noLoc _)
  refine or3_l (star_nx (mode_body M) (by simp) rfl (by simp; omega))
end
end SP
set_option Elab.async false
set_option linter.all false
set_option maxRecDepth 100000
set_option maxHeartbeats 4000000
namespace SP
open PySem PySem.Spec PyProof.Rows L2 HF PF
theorem eq_fl_str {xs ys : List Str} {h : List O} (hx : ∀ x ∈ xs, SOk x) (hy : ∀ x ∈ ys, SOk x) : f_eq (.fl (xs.map D.str)) (.fl (ys.map D.str)) h = some (.bl (decide (xs = ys)), h) := by
  unfold f_eq
  rw [toP_fl_str h hx, toP_fl_str h hy, Option.bind_some, Option.bind_some, PyData.eqv, eqvAll_str]
theorem ne_fl_str {xs ys : List Str} {h : List O} (hx : ∀ x ∈ xs, SOk x) (hy : ∀ x ∈ ys, SOk x) : f_ne (.fl (xs.map D.str)) (.fl (ys.map D.str)) h = some (.bl (!decide (xs = ys)), h) := by
  unfold f_ne
  rw [toP_fl_str h hx, toP_fl_str h hy, Option.bind_some, Option.bind_some, PyData.eqv, eqvAll_str]
theorem margs {r : Row} (h : r.Ok) : MArgs r.name r.low r.high r.under r.over r.late := ⟨h.name, h.low, h.lh, h.high, h.u0, h.u1, h.o0, h.o1, h.nd, h.lname, Nat.le_trans h.len (by decide)⟩
theorem margs0 {r : Row} (h : r.Ok) : MArgs r.name r.low r.high r.under r.over [] := ⟨h.name, h.low, h.lh, h.high, h.u0, h.u1, h.o0, h.o1, .nil, fun _ z => (by cases z), by decide⟩
theorem e_ts {m : FE} {sl : Sl} {h h1 : List O} {c : Bool} (e : m sl h = some (.bl c, h1)) : m_t m sl h = some (c, h1) := e_t e
theorem eqi {i j : Int} {h : List O} {c : Bool} (hc : decide (i = j) = c) : f_eq (.int i) (.int j) h = some (.bl c, h) := by rw [eq_int, hc]
theorem lti {i j : Int} {h : List O} {c : Bool} (hc : decide (i < j) = c) : f_lt (.int i) (.int j) h = some (.bl c, h) := by
  show some (D.bl (decide (i < j)), h) = _
  rw [hc]
theorem mode_made_ev {r : Row} (hr : r.Ok) (h3 : r.late.length ≤ 3) (h : List O) : cm__law_mode_made [r.d] [] h = some (r.mode, h) := by
  have M := margs hr
  have M0 := margs0 hr
  obtain ⟨name, low, high, under, over, late⟩ := r
  have hsl : ∀ x ∈ late, SOk x := fun x hx => (hr.lname x hx).sok
  have hsn : ∀ x ∈ [name], SOk x := fun x hx => by
    cases List.mem_singleton.mp hx
    exact hr.name.sok
  have hne := hr.ne
  dsimp only at h3 hne M M0
  unfold cm__law_mode_made b__law_mode_made cmP Row.d
  dsimp only
  refine rt_fn (rt_q (q_asg rfl rfl) ?_)
  have eq1 : (m_t (m_bin f_eq (m_v 6) (m_fl (a_cons (m_v 1) a_nil)))) [some (.fl [.str name, .int low, .int high, .int under, .int over, .fl (late.map D.str)]), some (.str name), some (.int low), some (.int high), some (.int under), some (.int over), some (.fl (late.map D.str))] h = some (decide (late = [name]), h) := e_t (e_bin rfl rfl (eq_fl_str (xs := late) (ys := [name]) hsl hsn))
  by_cases c : late = [name]
  · rw [decide_eq_true c] at eq1
    refine rt_q1 (rt_if1 eq1 (rt_ret (e_mkP (e_ca (e_cons rfl (e_cons rfl (e_one rfl))) (e_cons rfl (e_one rfl))) ?_)))
    have := mode_mk1 M0
    rw [if_pos rfl] at this
    rw [c]
    exact this
  · rw [decide_eq_false c] at eq1
    refine rt_q (q_no eq1) ?_
    match late, h3, hne, M, c with
    | [a], _, _, M, _ =>
      refine rt_q1 (rt_if1 (e_t (e_bin rfl rfl (eqi rfl))) (rt_ret (e_mkP (e_ca (e_cons rfl (e_cons rfl (e_cons rfl (e_one rfl)))) (e_cons rfl (e_one rfl))) ?_)))
      exact mode_mk2 M
    | [a, b], _, _, M, _ =>
      refine rt_q (q_no (e_t (e_bin rfl rfl (eqi rfl)))) (rt_q1 (rt_if1 (e_t (e_bin rfl rfl (eqi rfl))) (rt_ret (e_mkP (e_ca (e_cons rfl (e_cons rfl (e_cons rfl (e_cons rfl (e_one rfl))))) (e_cons rfl (e_one rfl))) ?_))))
      exact mode_mk1 M
    | [a, b, d], _, _, M, _ =>
      refine rt_q (q_no (e_t (e_bin rfl rfl (eqi rfl)))) (rt_q (q_no (e_t (e_bin rfl rfl (eqi rfl)))) (rt_ret (e_mkP (e_ca (e_cons rfl (e_cons rfl (e_cons rfl (e_cons rfl (e_cons rfl (e_one rfl)))))) (e_cons rfl (e_one rfl))) ?_)))
      exact mode_mk1 M
    | [], _, hne, _, _ => exact absurd rfl hne
    | _ :: _ :: _ :: _ :: _, h3, _, _, _ => simp at h3
theorem many_mode_ev {r : Row} (hr : r.Ok) (h : List O) : cm__law_many_mode [r.d] [] h = some (r.mode, h) := by
  have M := margs hr
  have hl := hr.len
  by_cases h3 : r.late.length ≤ 3
  · unfold cm__law_many_mode b__law_many_mode cmP
    dsimp only
    refine rt_fn (rt_q (q_asg rfl rfl) ?_)
    have lt : f_lt (.int ((r.late.map D.str).length : Nat)) (.int 4) h = some (.bl true, h) := lti (decide_eq_true (by rw [List.length_map]; omega))
    exact rt_q1 (rt_if1 (e_t (e_bin (e_b (e_one rfl) rfl) rfl lt)) (rt_ret (e_call (e_ca0 (e_one rfl)) (mode_made_ev hr h3 h))))
  · obtain ⟨name, low, high, under, over, late⟩ := r
    dsimp only at h3 M hl
    unfold cm__law_many_mode b__law_many_mode cmP Row.d
    dsimp only
    refine rt_fn (rt_q (q_asg rfl rfl) ?_)
    match late, h3, hl, M with
    | [a, b, c, d], _, _, M =>
      refine rt_q (q_no (e_t (e_bin rfl rfl (lti rfl)))) (rt_q1 (rt_if1 (e_t (e_bin rfl rfl (eqi rfl))) (rt_ret (e_mkP (e_ca (e_cons rfl (e_cons rfl (e_cons rfl (e_cons rfl (e_cons rfl (e_cons rfl (e_one rfl))))))) (e_cons rfl (e_one rfl))) ?_))))
      exact mode_mk1 M
    | [a, b, c, d, e], _, _, M =>
      refine rt_q (q_no (e_t (e_bin rfl rfl (lti rfl)))) (rt_q (q_no (e_t (e_bin rfl rfl (eqi rfl)))) (rt_q1 (rt_if1 (e_t (e_bin rfl rfl (eqi rfl))) (rt_ret (e_mkP (e_ca (e_cons rfl (e_cons rfl (e_cons rfl (e_cons rfl (e_cons rfl (e_cons rfl (e_cons rfl (e_one rfl)))))))) (e_cons rfl (e_one rfl))) ?_)))))
      exact mode_mk1 M
    | [a, b, c, d, e, f], _, _, M =>
      refine rt_q (q_no (e_t (e_bin rfl rfl (lti rfl)))) (rt_q (q_no (e_t (e_bin rfl rfl (eqi rfl)))) (rt_q (q_no (e_t (e_bin rfl rfl (eqi rfl)))) (rt_ret (e_mkP (e_ca (e_cons rfl (e_cons rfl (e_cons rfl (e_cons rfl (e_cons rfl (e_cons rfl (e_cons rfl (e_cons rfl (e_one rfl))))))))) (e_cons rfl (e_one rfl))) ?_))))
      exact mode_mk1 M
    | [], h3, _, _ => simp at h3
    | [_], h3, _, _ => simp at h3
    | [_, _], h3, _, _ => simp at h3
    | [_, _, _], h3, _, _ => simp at h3
    | _ :: _ :: _ :: _ :: _ :: _ :: _ :: _, _, hl, _ => simp at hl
end SP
set_option Elab.async false
set_option linter.all false
set_option maxRecDepth 100000
set_option maxHeartbeats 4000000
namespace SP
open PySem PySem.Spec PyProof.Rows L2 HF PF
/-! dicts by texts -/
abbrev kS (xs : List Str) : List Key := xs.map Sum.inr
theorem lookG_none {s : Str} : ∀ {names : List Str} {xs : List D}, s ∉ names → lookG (Sum.inr s : Key) (kS names) xs = none
  | [], _, _ => by unfold lookG; rfl
  | n :: ns, [], _ => by unfold lookG; rfl
  | n :: ns, x :: xs, h => by
    show (if (Sum.inr n : Key) = Sum.inr s then some x else lookG _ _ _) = none
    rw [if_neg (fun e => h (by cases e; exact .head _)), lookG_none fun z => h (.tail _ z)]
theorem lookG_some {s : Str} : ∀ {names : List Str} {xs : List D} {i : Nat} {d : D}, names.Nodup → names[i]? = some s → xs[i]? = some d → lookG (Sum.inr s : Key) (kS names) xs = some d
  | [], _, _, _, _, e, _ => by simp at e
  | n :: ns, [], _, _, _, _, e => by simp at e
  | n :: ns, x :: xs, 0, d, _, e1, e2 => by
    simp at e1 e2
    subst e1 e2
    show (if (Sum.inr n : Key) = Sum.inr n then some x else lookG _ _ _) = _
    rw [if_pos rfl]
  | n :: ns, x :: xs, i + 1, d, nd, e1, e2 => by
    simp at e1 e2
    have hn : n ≠ s := fun e => by
      rw [List.nodup_cons] at nd
      exact nd.1 (e ▸ List.mem_of_getElem? e1)
    show (if (Sum.inr n : Key) = Sum.inr s then some x else lookG _ _ _) = _
    rw [if_neg (fun e => hn (by cases e; rfl)), lookG_some (List.nodup_cons.mp nd).2 e1 e2]
theorem putKsG_gen {κ : Type} [DecidableEq κ] {k : κ} {ks : List κ} (h : k ∉ ks) : putKsG k ks = ks ++ [k] := by
  unfold putKsG
  rw [if_neg]
  intro z
  rw [List.contains_iff_mem] at z
  exact h z
theorem putVsG_gen {κ : Type} [DecidableEq κ] {k : κ} {ks : List κ} {xs : List D} {d : D} (h : k ∉ ks) : putVsG k d ks xs = xs ++ [d] := by
  unfold putVsG
  rw [if_neg]
  intro z
  rw [List.contains_iff_mem] at z
  exact h z
theorem nokey {s : Str} {names : List Str} (h : s ∉ names) : (Sum.inr s : Key) ∉ kS names := fun z => by
  obtain ⟨a, ha, e⟩ := List.mem_map.mp z
  cases e
  exact h ha
theorem putKsG_new {s : Str} {names : List Str} (h : s ∉ names) : putKsG (Sum.inr s : Key) (kS names) = kS (names ++ [s]) := by
  rw [putKsG_gen (nokey h)]
  simp [kS]
theorem putVsG_new {s : Str} {names : List Str} {xs : List D} {d : D} (h : s ∉ names) : putVsG (Sum.inr s : Key) d (kS names) xs = xs ++ [d] := putVsG_gen (nokey h)
theorem inD_loc {i : Nat} {names : List Str} {xs : List D} {h : List O} {s : Str} (e : h[i]? = some (.dk (kS names) xs)) : f_inD (.str s) (.loc i) h = some (.bl (lookG (Sum.inr s : Key) (kS names) xs).isSome, h) := by
  unfold f_inD getD asK
  dsimp only
  rw [e]
  rfl
theorem ninD_loc {i : Nat} {names : List Str} {xs : List D} {h : List O} {s : Str} (e : h[i]? = some (.dk (kS names) xs)) : f_ninD (.str s) (.loc i) h = some (.bl (!(lookG (Sum.inr s : Key) (kS names) xs).isSome), h) := by
  unfold f_ninD getD asK
  dsimp only
  rw [e]
  rfl
theorem q_dput {mv mo mi : FE} {sl : Sl} {h h1 h2 h3 : List O} {i : Nat} {names : List Str} {xs : List D} {d : D} {s : Str} (e1 : mv sl h = some (d, h1)) (e2 : mo sl h1 = some (.loc i, h2)) (e3 : mi sl h2 = some (.str s, h3)) (e4 : h3[i]? = some (.dk (kS names) xs)) (hn : s ∉ names) (hl : names.length ≤ 1000) :
    s_dput mv mo mi sl h = some (.nx, sl, h3.set i (.dk (kS (names ++ [s])) (xs ++ [d]))) := by
  unfold s_dput
  rw [e1, Option.bind_some]
  dsimp only
  rw [e2, Option.bind_some]
  dsimp only
  rw [e3, Option.bind_some]
  dsimp only
  rw [e4]
  dsimp only
  rw [if_pos (szOk_of (by rw [List.length_map]; omega))]
  show some (Fl.nx, sl, h3.set i (.dk (putKsG (Sum.inr s : Key) (kS names)) (putVsG (Sum.inr s : Key) d (kS names) xs))) = _
  rw [putKsG_new hn, putVsG_new hn]
theorem chain_le {i j k : Int} {ma mb mc : FE} {sl : Sl} {h h1 h2 h3 : List O} (e1 : ma sl h = some (.int i, h1)) (e2 : mb sl h1 = some (.int j, h2)) (e3 : mc sl h2 = some (.int k, h3)) (a : i ≤ j) (b : j ≤ k) : m_chain f_le f_le ma mb mc sl h = some (.bl true, h3) := by
  unfold m_chain
  rw [e1, Option.bind_some]
  dsimp only
  rw [e2, Option.bind_some]
  dsimp only
  rw [show f_le (.int i) (.int j) h2 = some (.bl (decide (i ≤ j)), h2) from rfl, decide_eq_true a, Option.bind_some]
  dsimp only
  rw [e3, Option.bind_some]
  show some (D.bl (decide (j ≤ k)), h3) = _
  rw [decide_eq_true b]
theorem isC_ob {c : Str} {cs ks : List Str} {xs : List D} {m : FE} {sl : Sl} {h h1 : List O} (e : m sl h = some (.ob c ks xs, h1)) : m_isC c cs m sl h = some (.bl true, h1) := by
  unfold m_isC
  rw [e, Option.bind_some]
  exact if_pos rfl
theorem meth_ob {c n : Str} {cm : CM} {ks fs : List Str} {xs ds es : List D} {mo : FE} {mc : FC} {sl : Sl} {h h1 h2 : List O} {r : Option (D × List O)} (e : mo sl h = some (.ob c fs xs, h1)) (hl : lookF n fs xs = none) (e2 : mc sl h1 = some ((ds, es), h2)) (k : cm (.ob c fs xs :: ds) (ks.zip es) h2 = r) : m_meth c n cm ks mo mc sl h = r := by
  unfold m_meth
  rw [e, Option.bind_some]
  show (if c = c ∧ lookF n fs xs = none then _ else _) = _
  rw [if_pos ⟨rfl, hl⟩, e2]
  exact k
theorem meth_mode {n : Str} {cm : CM} {ks : List Str} {ds es : List D} {mo : FE} {mc : FC} {sl : Sl} {h h1 h2 : List O} {r : Option (D × List O)} {x : Row} (e : mo sl h = some (x.mode, h1)) (e2 : mc sl h1 = some ((ds, es), h2)) (k : cm (x.mode :: ds) (ks.zip es) h2 = r) (hl : (["name", "low", "high", "under", "over", "next_names"] : List Str).contains n = false := by decide +kernel) : m_meth "Mode" n cm ks mo mc sl h = r := by
  refine meth_ob e ?_ e2 k
  simp only [List.contains_cons, Bool.or_eq_false_iff, beq_str, decide_eq_false_iff_not] at hl
  simp only [lookF, hl, if_false]
theorem meth_plan {n : Str} {cm : CM} {ks : List Str} {ds es : List D} {mo : FE} {mc : FC} {sl : Sl} {h h1 h2 : List O} {r : Option (D × List O)} {s : Shape} (e : mo sl h = some (s.plan, h1)) (e2 : mc sl h1 = some ((ds, es), h2)) (k : cm (s.plan :: ds) (ks.zip es) h2 = r) (hl : (["size", "start", "table"] : List Str).contains n = false := by decide +kernel) : m_meth "Plan" n cm ks mo mc sl h = r := by
  refine meth_ob e ?_ e2 k
  simp only [List.contains_cons, Bool.or_eq_false_iff, beq_str, decide_eq_false_iff_not] at hl
  simp only [lookF, hl, if_false]
/-! a plan is made -/
def planO (size start : Int) : O := .ins "Plan" ["size", "start", "table"] [.int size, .int start, .loc 1]
theorem plan_loop5 {size : Int} {start : Int} {D3 : D} {s4 : Option D} : ∀ (rows pre : List Row) (s5 : Option D), ((pre ++ rows).map (·.name)).Nodup → (pre ++ rows).length ≤ 1000 → ∃ s5' : Option D,
    forL (g_n 5) (s_seq (s_if (m_t (m_bin f_inD (m_attr ["Mode"] "name" (m_v 5)) (m_v 6))) s_never s_nil) (s_dput (m_v 5) (m_v 6) (m_attr ["Mode"] "name" (m_v 5)))) (rows.map Row.mode)
      [some (.loc 0), some (.int size), some (.int start), some D3, s4, s5, some (.loc 1), none] [.ins "Plan" [] [], .dk (kS (pre.map (·.name))) (pre.map Row.mode)]
      = some (.nx, [some (.loc 0), some (.int size), some (.int start), some D3, s4, s5', some (.loc 1), none], [.ins "Plan" [] [], .dk (kS ((pre ++ rows).map (·.name))) ((pre ++ rows).map Row.mode)])
  | [], pre, s5, _, _ => ⟨s5, by rw [List.append_nil]; rfl⟩
  | r :: rows, pre, s5, nd, hl => by
    have e0 : pre ++ r :: rows = (pre ++ [r]) ++ rows := by simp
    rw [e0] at nd hl
    obtain ⟨s5', e⟩ := plan_loop5 (size := size) (start := start) (D3 := D3) (s4 := s4) rows (pre ++ [r]) (some r.mode) nd hl
    have hn : r.name ∉ pre.map (·.name) := fun hm => by
      rw [List.map_append, List.map_append] at nd
      have := (List.nodup_append.mp (List.nodup_append.mp nd).1).2.2
      exact this _ hm _ (by simp) rfl
    refine ⟨s5', ?_⟩
    rw [e0]
    refine l_nx rfl (q_nx (q_no (e_t (e_bin (mode_name r rfl) rfl ((inD_loc rfl).trans (by rw [lookG_none hn]; rfl))))) (q_dput rfl rfl (mode_name r rfl) rfl hn (by simp at hl ⊢; omega))) ?_
    have e1 : kS (pre.map (·.name) ++ [r.name]) = kS ((pre ++ [r]).map (·.name)) := by simp [kS]
    have e2 : pre.map Row.mode ++ [r.mode] = (pre ++ [r]).map Row.mode := by simp
    rw [e1, e2]
    exact e
end SP
set_option Elab.async false
set_option linter.all false
set_option maxRecDepth 100000
set_option maxHeartbeats 4000000
namespace SP
open PySem PySem.Spec PyProof.Rows L2 HF PF
theorem getRow {s : Shape} {x : Str} (hx : x ∈ s.names) : ∃ (i : Nat) (r : Row), s.rows[i]? = some r ∧ r ∈ s.rows ∧ r.name = x ∧ s.names[i]? = some x ∧ (s.rows.map Row.mode)[i]? = some r.mode := by
  obtain ⟨r, hr, e⟩ := List.mem_map.mp hx
  obtain ⟨i, hi, e2⟩ := List.getElem_of_mem hr
  have e3 : s.rows[i]? = some r := by rw [List.getElem?_eq_getElem hi, e2]
  exact ⟨i, r, e3, hr, e, by rw [Shape.names, List.getElem?_map, e3]; simp [e], by rw [List.getElem?_map, e3]; rfl⟩
theorem look_table {s : Shape} (hs : s.Ok) {r : Row} (hr : r ∈ s.rows) : lookG (Sum.inr r.name : Key) (kS s.names) (s.rows.map Row.mode) = some r.mode := by
  obtain ⟨i, hi, e⟩ := List.getElem_of_mem hr
  have e3 : s.rows[i]? = some r := by rw [List.getElem?_eq_getElem hi, e]
  exact lookG_some (i := i) hs.nd (by rw [Shape.names, List.getElem?_map, e3]; rfl) (by rw [List.getElem?_map, e3]; rfl)
theorem look_in {s : Shape} (hs : s.Ok) {x : Str} (hx : x ∈ s.names) : (lookG (Sum.inr x : Key) (kS s.names) (s.rows.map Row.mode)).isSome = true := by
  obtain ⟨i, r, _, _, _, e1, e2⟩ := getRow hx
  rw [lookG_some hs.nd e1 e2]
  rfl
theorem plan_body {s : Shape} (hs : s.Ok) :
    Nx (b_Plan___init__ [some (.loc 0), some (.int s.size), some (.int s.start), some (.tup (s.rows.map Row.mode)), none, none, none, none] [.ins "Plan" [] []])
      [planO s.size s.start, .dk (kS s.names) (s.rows.map Row.mode)] := by
  have n1 := hs.n1
  have n6 := hs.n6
  unfold b_Plan___init__
  refine nx_q (q_no (e_nT (e_t (e_call (e_ca0 (e_cons rfl (e_cons rfl (e_one rfl)))) (number_t _ hs.size0 hs.size1))))) ?_
  have l1 : (m_b c_len (a_cons (m_v 3) a_nil)) [some (.loc 0), some (.int s.size), some (.int s.start), some (.tup (s.rows.map Row.mode)), none, none, none, none] [.ins "Plan" [] []] = some (.int s.rows.length, [.ins "Plan" [] []]) := e_b (e_one rfl) (by
    show some (D.int ((s.rows.map Row.mode).length : Nat), _) = _
    rw [List.length_map])
  refine nx_q (q_no (e_nT (e_t (chain_le rfl l1 rfl (by omega) (by omega))))) ?_
  obtain ⟨_, e3, s4, s5, rfl⟩ := forL_keep (g := g_q 2 (gs_cons (g_n 4) (gs_cons (g_n 5) gs_nil))) (b := s_if (t_not (m_t (m_isC "Mode" [] (m_v 5)))) s_never s_nil) (h := [.ins "Plan" [] []])
    (fun sl => ∃ s4 s5, sl = [some (.loc 0), some (.int s.size), some (.int s.start), some (.tup (s.rows.map Row.mode)), s4, s5, none, none]) (enumF 0 (s.rows.map Row.mode)) _ ⟨none, none, rfl⟩ (fun x hx sl ⟨s4, s5, e⟩ => by
      subst e
      obtain ⟨j, a, rfl, ej⟩ := enumF_mem _ _ _ hx
      obtain ⟨r, _, rfl⟩ := List.mem_map.mp (List.mem_of_getElem? ej)
      exact ⟨_, _, rfl, q_no (e_nT (e_t (isC_ob rfl))), ⟨_, _, rfl⟩⟩)
  refine nx_q (q_for (e_enT rfl) e3) ?_
  refine nx_q (q_set rfl) ?_
  have nd : (([] ++ s.rows).map Row.name).Nodup := hs.nd
  obtain ⟨s5', e5⟩ := plan_loop5 (size := s.size) (start := s.start) (D3 := .tup (s.rows.map Row.mode)) (s4 := s4) s.rows [] s5 nd (by simp; omega)
  refine nx_q (q_for (e_qt rfl) e5) ?_
  have hd : ∀ x ∈ s.names, ∀ h : List O, h[1]? = some (.dk (kS s.names) (s.rows.map Row.mode)) → f_ninD (.str x) (.loc 1) h = some (.bl false, h) := fun x hx h e => by
    rw [ninD_loc e, look_in hs hx]
    rfl
  obtain ⟨_, e6, s5'', s7, rfl⟩ := forL_keep (g := g_n 5) (b := s_for (i_q (m_meth "Mode" "followers" cm_Mode_followers [] (m_v 5) (m_ca a_nil a_nil))) (g_n 7) (s_if (m_t (m_bin f_ninD (m_v 7) (m_v 6))) s_never s_nil)) (h := [.ins "Plan" [] [], .dk (kS s.names) (s.rows.map Row.mode)])
    (fun sl => ∃ s5 s7, sl = [some (.loc 0), some (.int s.size), some (.int s.start), some (.tup (s.rows.map Row.mode)), s4, s5, some (.loc 1), s7]) (s.rows.map Row.mode) _ ⟨s5', none, rfl⟩ (fun x hx sl ⟨s5, s7, e⟩ => by
      subst e
      obtain ⟨r, hr, rfl⟩ := List.mem_map.mp hx
      obtain ⟨_, e7, s7', rfl⟩ := forL_keep (g := g_n 7) (b := s_if (m_t (m_bin f_ninD (m_v 7) (m_v 6))) s_never s_nil) (h := [.ins "Plan" [] [], .dk (kS s.names) (s.rows.map Row.mode)])
        (fun sl => ∃ s7, sl = [some (.loc 0), some (.int s.size), some (.int s.start), some (.tup (s.rows.map Row.mode)), s4, some r.mode, some (.loc 1), s7]) (r.late.map D.str) _ ⟨s7, rfl⟩ (fun x hx sl ⟨s7, e⟩ => by
          subst e
          obtain ⟨a, ha, rfl⟩ := List.mem_map.mp hx
          exact ⟨_, _, rfl, q_no (e_t (e_bin rfl rfl (hd a (hs.late r hr a ha) _ rfl))), ⟨_, rfl⟩⟩)
      exact ⟨_, _, rfl, q_for (e_q (meth_mode rfl rfl (followers_ev r _))) e7, ⟨_, _, rfl⟩⟩)
  refine nx_q (q_for (e_qt rfl) e6) ?_
  refine nx_q (q_no (e_and1 (e_t (e_bin rfl rfl rfl)) (e_nT (e_t (e_call (e_ca0 (e_cons rfl (e_cons rfl (e_one rfl)))) (number_t _ hs.start0 hs.start1)))))) ?_
  refine nx_q (q_fld rfl rfl rfl) ?_
  refine nx_q (q_fld (e_if0 (e_t (e_bin rfl rfl rfl)) rfl) rfl rfl) ?_
  exact ⟨_, q_fldE rfl rfl rfl rfl⟩
theorem noLocs_mode : ∀ xs : List Row, D.noLocs (xs.map Row.mode) = true
  | [] => rfl
  | x :: xs => by
    rw [List.map_cons, D.noLocs, mode_noLoc, noLocs_mode xs]
    rfl
theorem frz_plan {s : Shape} : frz 8 (.loc 0) [planO s.size s.start, .dk (kS s.names) (s.rows.map Row.mode)] = some (s.plan, [.gone, .gone]) := by
  have e : mapS (frz 6) (s.rows.map Row.mode) [.gone, .gone] = some (s.rows.map Row.mode, [.gone, .gone]) := mapS_stb fun d hd => by
    obtain ⟨r, _, rfl⟩ := List.mem_map.mp hd
    rfl
  have e2 : frz 7 (.loc 1) [.gone, .dk (kS s.names) (s.rows.map Row.mode)] = some (.dk (kS s.names) (s.rows.map Row.mode), [.gone, .gone]) := by
    show (mapS (frz 6) (s.rows.map Row.mode) [.gone, .gone]).bind _ = _
    rw [e]
    rfl
  show ((((frz 7 (.int s.size) _).bind fun p => (mapS (frz 7) [.int s.start, .loc 1] p.2).bind fun q => some (p.1 :: q.1, q.2)) : Option (List D × List O)).bind _) = _
  show (((((frz 7 (.loc 1) [.gone, .dk (kS s.names) (s.rows.map Row.mode)]).bind _).bind _).bind _).bind _) = _
  rw [e2]
  rfl
theorem plan_mk {s : Shape} (hs : s.Ok) : mkP "Plan" cm_Plan___init__ (.int s.size :: s.rows.map Row.mode) [("start", .int s.start)] = some s.plan := by
  have n6 := hs.n6
  refine mkP_ev (by rw [D.noLocs, noLocs_mode]; rfl) rfl (h1 := [planO s.size s.start, .dk (kS s.names) (s.rows.map Row.mode)]) ?_ frz_plan (by
    simp [Shape.plan, D.noLoc, D.noLocs, noLocs_mode])
  exact star_nx (plan_body hs) (by simp) rfl (by simp; omega)
end SP
set_option Elab.async false
set_option linter.all false
set_option maxRecDepth 100000
set_option maxHeartbeats 4000000
namespace SP
open PySem PySem.Spec PyProof.Rows L2 HF PF
theorem mul_fl {x : D} {k : Nat} {h : List O} (hk : k ≤ 6) : f_mul (.fl [x]) (.int ((k : Nat) : Int)) h = some (.fl (List.replicate k [x]).flatten, h) := by
  have p : (100000 : Int) < (2 : Int) ^ 63 := by decide
  have g : ((decide (-(2 ^ 63) ≤ (k : Int)) && decide ((k : Int) < 2 ^ 63)) && szOk (1 * (k : Int).toNat)) = true := by
    rw [Bool.and_eq_true, Bool.and_eq_true, decide_eq_true_eq, decide_eq_true_eq]
    exact ⟨⟨Int.le_trans (Int.neg_nonpos_of_nonneg (by decide)) (Int.natCast_nonneg k), Int.lt_of_le_of_lt (by omega) p⟩, szOk_of (by simp; omega)⟩
  unfold f_mul
  exact if_pos g
theorem plan_of_ev {s : Shape} (hs : s.Ok) (h : List O) : cm__law_plan_of [.int s.size, .fl (s.rows.map Row.mode), .int s.start] [] h = some (s.plan, h) := by
  have P := plan_mk hs
  have n1 := hs.n1
  have n6 := hs.n6
  clear hs
  obtain ⟨size, start, rows⟩ := s
  dsimp only at P n1 n6
  unfold cm__law_plan_of b__law_plan_of cmP
  dsimp only
  match rows, n1, n6, P with
  | [a], _, _, P =>
    refine rt_fn (rt_q (q_set (e_bin rfl (e_bin rfl rfl (mul_fl (k := 5) (by decide))) (add_fl (by simp)))) ?_)
    exact rt_q1 (rt_if1 (e_t (e_bin rfl rfl (eqi rfl))) (rt_ret (e_mkP (e_ca (e_cons rfl (e_one rfl)) (e_one rfl)) P)))
  | [a, b], _, _, P =>
    refine rt_fn (rt_q (q_set (e_bin rfl (e_bin rfl rfl (mul_fl (k := 4) (by decide))) (add_fl (by simp)))) ?_)
    refine rt_q (q_no (e_t (e_bin rfl rfl (eqi rfl)))) ?_
    exact rt_q1 (rt_if1 (e_t (e_bin rfl rfl (eqi rfl))) (rt_ret (e_mkP (e_ca (e_cons rfl (e_cons rfl (e_one rfl))) (e_one rfl)) P)))
  | [a, b, c], _, _, P =>
    refine rt_fn (rt_q (q_set (e_bin rfl (e_bin rfl rfl (mul_fl (k := 3) (by decide))) (add_fl (by simp)))) ?_)
    refine rt_q (q_no (e_t (e_bin rfl rfl (eqi rfl)))) (rt_q (q_no (e_t (e_bin rfl rfl (eqi rfl)))) ?_)
    exact rt_q1 (rt_if1 (e_t (e_bin rfl rfl (eqi rfl))) (rt_ret (e_mkP (e_ca (e_cons rfl (e_cons rfl (e_cons rfl (e_one rfl)))) (e_one rfl)) P)))
  | [a, b, c, d], _, _, P =>
    refine rt_fn (rt_q (q_set (e_bin rfl (e_bin rfl rfl (mul_fl (k := 2) (by decide))) (add_fl (by simp)))) ?_)
    refine rt_q (q_no (e_t (e_bin rfl rfl (eqi rfl)))) (rt_q (q_no (e_t (e_bin rfl rfl (eqi rfl)))) (rt_q (q_no (e_t (e_bin rfl rfl (eqi rfl)))) ?_))
    exact rt_q1 (rt_if1 (e_t (e_bin rfl rfl (eqi rfl))) (rt_ret (e_mkP (e_ca (e_cons rfl (e_cons rfl (e_cons rfl (e_cons rfl (e_one rfl))))) (e_one rfl)) P)))
  | [a, b, c, d, e], _, _, P =>
    refine rt_fn (rt_q (q_set (e_bin rfl (e_bin rfl rfl (mul_fl (k := 1) (by decide))) (add_fl (by simp)))) ?_)
    refine rt_q (q_no (e_t (e_bin rfl rfl (eqi rfl)))) (rt_q (q_no (e_t (e_bin rfl rfl (eqi rfl)))) (rt_q (q_no (e_t (e_bin rfl rfl (eqi rfl)))) (rt_q (q_no (e_t (e_bin rfl rfl (eqi rfl)))) ?_)))
    exact rt_q1 (rt_if1 (e_t (e_bin rfl rfl (eqi rfl))) (rt_ret (e_mkP (e_ca (e_cons rfl (e_cons rfl (e_cons rfl (e_cons rfl (e_cons rfl (e_one rfl)))))) (e_one rfl)) P)))
  | [a, b, c, d, e, f], _, _, P =>
    refine rt_fn (rt_q (q_set (e_bin rfl (e_bin rfl rfl (mul_fl (k := 0) (by decide))) (add_fl (by simp)))) ?_)
    refine rt_q (q_no (e_t (e_bin rfl rfl (eqi rfl)))) (rt_q (q_no (e_t (e_bin rfl rfl (eqi rfl)))) (rt_q (q_no (e_t (e_bin rfl rfl (eqi rfl)))) (rt_q (q_no (e_t (e_bin rfl rfl (eqi rfl)))) (rt_q (q_no (e_t (e_bin rfl rfl (eqi rfl)))) ?_))))
    exact rt_ret (e_mkP (e_ca (e_cons rfl (e_cons rfl (e_cons rfl (e_cons rfl (e_cons rfl (e_cons rfl (e_one rfl))))))) (e_one rfl)) P)
  | [], n1, _, _ => simp at n1
  | _ :: _ :: _ :: _ :: _ :: _ :: _ :: _, _, n6, _ => simp at n6
/-! Plan's readers -/
section
variable {s : Shape}
theorem plan_table {m : FE} {sl : Sl} {h h1 : List O} (e : m sl h = some (s.plan, h1)) : m_attr ["Plan"] "table" m sl h = some (.dk (kS s.names) (s.rows.map Row.mode), h1) := attr_ob e (by kernel_rfl)
theorem plan_size {m : FE} {sl : Sl} {h h1 : List O} (e : m sl h = some (s.plan, h1)) : m_attr ["Plan"] "size" m sl h = some (.int s.size, h1) := attr_ob e (by kernel_rfl)
theorem plan_start {m : FE} {sl : Sl} {h h1 : List O} (e : m sl h = some (s.plan, h1)) : m_attr ["Plan"] "start" m sl h = some (.int s.start, h1) := attr_ob e (by kernel_rfl)
theorem inD_dk {names : List Str} {xs : List D} {h : List O} {x : Str} : f_inD (.str x) (.dk (kS names) xs) h = some (.bl (lookG (Sum.inr x : Key) (kS names) xs).isSome, h) := rfl
theorem ninD_dk {names : List Str} {xs : List D} {h : List O} {x : Str} : f_ninD (.str x) (.dk (kS names) xs) h = some (.bl (!(lookG (Sum.inr x : Key) (kS names) xs).isSome), h) := rfl
theorem dget_dk {names : List Str} {xs : List D} {h : List O} {x : Str} {d : D} (e : lookG (Sum.inr x : Key) (kS names) xs = some d) : f_dget (.dk (kS names) xs) (.str x) h = some (d, h) := by
  show ((some (lookG (Sum.inr x : Key) (kS names) xs)).bind fun o => o.bind fun d => some (d, h)) = _
  rw [e]
  rfl
theorem look_row (hs : s.Ok) {r : Row} (hr : r ∈ s.rows) {h : List O} : f_dget (.dk (kS s.names) (s.rows.map Row.mode)) (.str r.name) h = some (r.mode, h) := dget_dk (look_table hs hr)
theorem plan_mode_ev (hs : s.Ok) {r : Row} (hr : r ∈ s.rows) (h : List O) : cm_Plan_mode [s.plan, .str r.name] [] h = some (r.mode, h) := by
  unfold cm_Plan_mode b_Plan_mode cmP
  dsimp only
  have e : f_ninD (.str r.name) (.dk (kS s.names) (s.rows.map Row.mode)) h = some (.bl false, h) := by rw [ninD_dk, look_table hs hr]; rfl
  exact rt_fn (rt_q (q_no (e_or0 (e_nT (e_t (e_isT rfl rfl rfl))) (e_t (e_bin rfl (plan_table rfl) e)))) (rt_ret (e_bin (plan_table rfl) rfl (look_row hs hr))))
theorem keys_strs : ∀ names : List Str, ((kS names).map fun k => match k with
    | .inl i => D.int i
    | .inr s => D.str s) = names.map D.str
  | [] => rfl
  | n :: ns => congrArg (D.str n :: ·) (keys_strs ns)
theorem plan_names_ev (h : List O) : cm_Plan_names [s.plan] [] h = some (.fl (s.names.map D.str), h) := by
  unfold cm_Plan_names b_Plan_names cmP
  dsimp only
  refine rt_fn (rt_ret (e_b (e_one (plan_table rfl)) ?_))
  show some (D.fl ((kS s.names).map _), h) = _
  exact congrArg (fun z => some (D.fl z, h)) (keys_strs s.names)
end
end SP
set_option Elab.async false
set_option linter.all false
set_option maxRecDepth 100000
set_option maxHeartbeats 4000000
namespace SP
open PySem PySem.Spec PyProof.Rows L2 HF PF
def nS (i : Int) : Str := toString i
structure NumOk (i : Int) : Prop where
  len1 : 1 ≤ (nS i).length
  len3 : (nS i).length ≤ 3
  sok : SOk (nS i)
  nosp : 32 ∉ (nS i).cps.toList
  nonl : 10 ∉ (nS i).cps.toList
theorem num_all : ∀ k : Fin 34, (1 ≤ (nS ((k.1 : Int) - 9)).length ∧ (nS ((k.1 : Int) - 9)).length ≤ 3) ∧ (PyData.strOk (nS ((k.1 : Int) - 9)) = true ∧ (32 ∉ (nS ((k.1 : Int) - 9)).cps.toList ∧ 10 ∉ (nS ((k.1 : Int) - 9)).cps.toList)) := by decide +kernel
theorem num_ok {i : Int} (h0 : -9 ≤ i) (h1 : i ≤ 24) : NumOk i := by
  have := num_all ⟨(i + 9).toNat, by omega⟩
  have e : (((i + 9).toNat : Nat) : Int) - 9 = i := by omega
  simp only [e] at this
  exact ⟨this.1.1, this.1.2, this.2.1, this.2.2.1, this.2.2.2⟩
theorem log_ok {i : Int} (h0 : -9 ≤ i) (h1 : i ≤ 24) : decide (i.natAbs.log2 < 1920) = true := by
  refine decide_eq_true (Nat.lt_of_le_of_lt (Nat.log2_le_self _) ?_)
  omega
theorem str_ev {i : Int} {h : List O} (h0 : -9 ≤ i) (h1 : i ≤ 24) : c_str [.int i] h = some (.str (nS i), h) := by
  show (if decide (i.natAbs.log2 < 1920) = true then _ else _) = _
  rw [if_pos (log_ok h0 h1)]
  rfl
theorem fmt_int {m : FE} {sl : Sl} {h hh : List O} {i : Int} (e : m sl h = some (.int i, hh)) (h0 : -9 ≤ i) (h1 : i ≤ 24) : m_fmt m sl h = some (.str (nS i), hh) := by
  unfold m_fmt
  rw [e, Option.bind_some]
  show (if decide (i.natAbs.log2 < 1920) = true then _ else _) = _
  rw [if_pos (log_ok h0 h1)]
  rfl
theorem fmt_str {m : FE} {sl : Sl} {h hh : List O} {z : Str} (e : m sl h = some (.str z, hh)) (hz : z.length ≤ 100000) : m_fmt m sl h = some (.str z, hh) := by
  unfold m_fmt
  rw [e, Option.bind_some]
  show (if szOk z.length = true then _ else _) = _
  rw [if_pos (szOk_of hz)]
theorem fs_cons {m : FE} {ms : List FE} {acc y : Str} {sl : Sl} {h h1 : List O} {r : Option (Str × List O)} (e : m sl h = some (.str y, h1)) (hl : acc.length + y.length ≤ 100000) (k : joinF ms (acc ++ y) sl h1 = r) : joinF (m :: ms) acc sl h = r := by
  unfold joinF
  rw [e, Option.bind_some]
  dsimp only
  rw [if_pos (szOk_of (by rw [PySem.Str.length_append]; exact hl))]
  exact k
theorem e_fs {ms : List FE} {sl : Sl} {h h1 : List O} {z : Str} (e : joinF ms Str.empty sl h = some (z, h1)) : m_fs ms sl h = some (.str z, h1) := by
  unfold m_fs
  rw [e]
  rfl
/-! the lines -/
def headL (r : Row) : List Str := [("mode" : Str), r.name, nS r.low, nS r.high, nS r.under, nS r.over, (":" : Str)]
def partsL (r : Row) : List Str := headL r ++ r.late
def lineL (r : Row) : Str := Str.join (mk [32]) (partsL r)
def storeL (s : Shape) : Str := Str.join (mk [32]) ["store", nS s.size, nS s.start]
def textL (s : Shape) : Str := Str.join Str.empty ((storeL s :: s.rows.map lineL).map (· ++ mk [10]))
theorem sp_eq : (" " : Str) = mk [32] := by decide +kernel
theorem nl_eq : ("\n" : Str) = mk [10] := by decide +kernel
theorem em_eq : ("" : Str) = Str.empty := by decide +kernel
theorem joinLen {B : Nat} {xs : List Str} (h : ∀ x ∈ xs, x.length ≤ B) : (Str.join (mk [32]) xs).length ≤ xs.length * B + xs.length := by
  have := StrLaws.join_length_le (mk [32]) xs
  have h2 := StrLaws.sumLen_le xs h
  have e1 : (mk [32]).length = 1 := rfl
  rw [e1] at this
  omega
theorem line_parts {r : Row} (hr : r.Ok) : ∀ x ∈ partsL r, x.length ≤ 8 := by
  have h1 := (num_ok hr.low (Int.le_trans hr.lh (Int.le_trans hr.high (by decide)))).len3
  have h2 := (num_ok (Int.le_trans hr.low hr.lh) (Int.le_trans hr.high (by decide))).len3
  have h3 := (num_ok (i := r.under) (Int.le_trans (by decide) hr.u0) (Int.le_trans hr.u1 (by decide))).len3
  have h4 := (num_ok (i := r.over) (Int.le_trans (by decide) hr.o0) (Int.le_trans hr.o1 (by decide))).len3
  intro x hx
  rcases List.mem_append.mp hx with hx | hx
  · simp [headL] at hx
    rcases hx with rfl | rfl | rfl | rfl | rfl | rfl | rfl
    · decide +kernel
    · exact hr.name.le
    · omega
    · omega
    · omega
    · omega
    · decide +kernel
  · exact (hr.lname x hx).le
theorem lineL_len {r : Row} (hr : r.Ok) : (lineL r).length ≤ 200 := by
  have := joinLen (line_parts hr)
  have h6 := hr.len
  simp only [partsL, headL, List.length_append, List.length_cons, List.length_nil] at this
  unfold lineL partsL headL
  omega
theorem law_line_ev {r : Row} (hr : r.Ok) (h : List O) : cm__law_mode_line [r.d] [] h = some (.str (lineL r), h) := by
  unfold cm__law_mode_line b__law_mode_line cmP
  dsimp only
  have h6 := hr.len
  have b1 : r.low ≤ 24 := Int.le_trans hr.lh (Int.le_trans hr.high (by decide))
  have b2 : -9 ≤ r.high := Int.le_trans hr.low hr.lh
  have b3 : r.high ≤ 24 := Int.le_trans hr.high (by decide)
  have b4 : -9 ≤ r.under := Int.le_trans (by decide) hr.u0
  have b5 : r.under ≤ 24 := Int.le_trans hr.u1 (by decide)
  have b6 : -9 ≤ r.over := Int.le_trans (by decide) hr.o0
  have b7 : r.over ≤ 24 := Int.le_trans hr.o1 (by decide)
  refine rt_fn (rt_ret ?_)
  have lc : m_lc (i_q (m_sl (m_v 0) (o_some (m_c (.int 1))) (o_some (m_c (.int 5))))) (g_n 1) t_yes (m_b c_str (a_cons (m_v 1) a_nil)) [1] [some r.d, none] h = some (.fl [.str (nS r.low), .str (nS r.high), .str (nS r.under), .str (nS r.over)], h) := by
    refine e_lc (e_q (xs := [.int r.low, .int r.high, .int r.under, .int r.over]) (e_sl rfl (e_os rfl) (e_os rfl) rfl)) ?_ (by simp)
    exact compC_yes rfl (e_b (e_one rfl) (str_ev hr.low b1)) (compC_yes rfl (e_b (e_one rfl) (str_ev b2 b3)) (compC_yes rfl (e_b (e_one rfl) (str_ev b4 b5)) (compC_yes rfl (e_b (e_one rfl) (str_ev b6 b7)) rfl)))
  refine e_m1 (z := " ") rfl (e_bin (e_bin (e_bin rfl lc (add_fl (by simp))) rfl (add_fl (by simp))) rfl (add_fl (by simp; omega))) ?_
  have j := join_ev (sep := " ") (xs := partsL r) (h := h) (by
    have := StrLaws.sumLen_le _ (line_parts hr)
    have e1 : (" " : Str).length = 1 := by decide +kernel
    rw [e1]
    simp only [partsL, headL, List.length_append, List.length_cons, List.length_nil] at this ⊢
    omega)
  rw [sp_eq] at j
  unfold lineL
  rw [partsL, List.map_append] at j
  exact j
/-! the program's line -/
theorem join_cons {sep x y : Str} {xs : List Str} : Str.join sep (x :: y :: xs) = x ++ sep ++ Str.join sep (y :: xs) := rfl
theorem join_head {sep x : Str} {xs : List Str} (h : xs ≠ []) : Str.join sep (x :: xs) = x ++ sep ++ Str.join sep xs := by
  cases xs with
  | nil => exact absurd rfl h
  | cons y ys => rfl
theorem lit_mode : ("mode " : Str).cps.toList = ("mode" : Str).cps.toList ++ [32] := by decide +kernel
theorem lit_colon : (" : " : Str).cps.toList = [32] ++ (":" : Str).cps.toList ++ [32] := by decide +kernel
theorem lit_sp : (" " : Str).cps.toList = [32] := by decide +kernel
theorem mode_line_ev {r : Row} (hr : r.Ok) (h : List O) : cm_mode_line [r.mode] [] h = some (.str (lineL r), h) := by
  have h6 := hr.len
  have b1 : r.low ≤ 24 := Int.le_trans hr.lh (Int.le_trans hr.high (by decide))
  have b2 : -9 ≤ r.high := Int.le_trans hr.low hr.lh
  have b3 : r.high ≤ 24 := Int.le_trans hr.high (by decide)
  have b4 : -9 ≤ r.under := Int.le_trans (by decide) hr.u0
  have b5 : r.under ≤ 24 := Int.le_trans hr.u1 (by decide)
  have b6 : -9 ≤ r.over := Int.le_trans (by decide) hr.o0
  have b7 : r.over ≤ 24 := Int.le_trans hr.o1 (by decide)
  have l1 := (num_ok hr.low b1).len3
  have l2 := (num_ok b2 b3).len3
  have l3 := (num_ok b4 b5).len3
  have l4 := (num_ok b6 b7).len3
  have l5 := hr.name.le
  have s1 : (" " : Str).length = 1 := by decide +kernel
  have s2 : ("mode " : Str).length = 5 := by decide +kernel
  have s3 : (" : " : Str).length = 3 := by decide +kernel
  have s0 : Str.empty.length = 0 := rfl
  have lj : (Str.join (mk [32]) r.late).length ≤ 60 := by
    have := joinLen (B := 8) (xs := r.late) fun x hx => (hr.lname x hx).le
    omega
  have ap := PySem.Str.length_append
  unfold cm_mode_line b_mode_line cmP
  dsimp only
  refine rt_fn (rt_q (q_set (e_fs (fs_cons (fmt_int (mode_low r rfl) hr.low b1) (by first | omega | (simp only [ap]; omega)) (fs_cons rfl (by first | omega | (simp only [ap]; omega)) (fs_cons (fmt_int (mode_high r rfl) b2 b3) (by first | omega | (simp only [ap]; omega)) (fs_cons rfl (by first | omega | (simp only [ap]; omega)) (fs_cons (fmt_int (mode_under r rfl) b4 b5) (by first | omega | (simp only [ap]; omega)) (fs_cons rfl (by first | omega | (simp only [ap]; omega)) (fs_cons (fmt_int (mode_over r rfl) b6 b7) (by first | omega | (simp only [ap]; omega)) rfl))))))))) (rt_ret ?_))
  have jn : (m_fmt (m_m1 x_join (m_c (.str " ")) (m_meth "Mode" "followers" cm_Mode_followers [] (m_v 0) (m_ca a_nil a_nil)))) [some r.mode, some (.str (Str.empty ++ nS r.low ++ " " ++ nS r.high ++ " " ++ nS r.under ++ " " ++ nS r.over))] h = some (.str (Str.join " " r.late), h) := by
    refine fmt_str (e_m1 (z := " ") rfl (meth_mode rfl rfl (followers_ev r h)) (join_ev ?_)) (by rw [sp_eq]; omega)
    have := StrLaws.sumLen_le (B := 8) r.late fun x hx => (hr.lname x hx).le
    rw [s1]
    omega
  have z1 : (" " : Str).length = 1 := s1
  have lj' : (Str.join (" " : Str) r.late).length ≤ 60 := by rw [sp_eq]; exact lj
  have b0 : (Str.empty ++ nS r.low ++ (" " : Str) ++ nS r.high ++ (" " : Str) ++ nS r.under ++ (" " : Str) ++ nS r.over).length ≤ 20 := by
    simp only [ap]
    omega
  have fin := e_fs (sl := [some r.mode, some (.str (Str.empty ++ nS r.low ++ " " ++ nS r.high ++ " " ++ nS r.under ++ " " ++ nS r.over))]) (h := h) (fs_cons (m := m_c (.str "mode ")) rfl (by first | omega | (simp only [ap]; omega)) (fs_cons (fmt_str (mode_name r (m := m_v 0) rfl) (by omega)) (by first | omega | (simp only [ap]; omega)) (fs_cons (m := m_c (.str " ")) rfl (by first | omega | (simp only [ap]; omega)) (fs_cons (fmt_str (m := m_v 1) rfl (by omega)) (by rw [ap, ap, ap]; omega) (fs_cons (m := m_c (.str " : ")) rfl (by rw [ap, ap, ap, ap]; omega) (fs_cons jn (by rw [ap, ap, ap, ap, ap]; omega) (ms := []) rfl))))))
  refine Eq.trans fin ?_
  refine congrArg (fun z => some (D.str z, h)) ?_
  apply str_ext
  unfold lineL
  show _ = (Str.join (mk [32]) (("mode" : Str) :: r.name :: nS r.low :: nS r.high :: nS r.under :: nS r.over :: (":" : Str) :: r.late)).cps.toList
  rw [join_cons, join_cons, join_cons, join_cons, join_cons, join_cons, join_head hr.ne]
  simp only [app_list, list_mk, lit_mode, lit_colon, lit_sp, sp_eq, List.append_assoc]
  simp [Str.empty]
end SP
set_option Elab.async false
set_option linter.all false
set_option maxRecDepth 100000
set_option maxHeartbeats 4000000
namespace SP
open PySem PySem.Spec PyProof.Rows L2 HF PF
theorem e_star {m : FE} {ms : FA} {sl : Sl} {h h1 h2 : List O} {xs ys : List D} (e1 : m sl h = some (.fl xs, h1)) (e2 : ms sl h1 = some (ys, h2)) : a_star m ms sl h = some (xs ++ ys, h2) := by
  unfold a_star
  rw [e1, Option.bind_some]
  show (ms sl h1).bind _ = _
  rw [e2]
  rfl
theorem lit_store : ("store " : Str).cps.toList = ("store" : Str).cps.toList ++ [32] := by decide +kernel
theorem storeL_len {s : Shape} (hs : s.Ok) : (storeL s).length ≤ 200 := by
  have l1 := (num_ok (Int.le_trans (by decide) hs.size0) hs.size1).len3
  have l2 := (num_ok (i := s.start) (Int.le_trans (by decide) hs.start0) (Int.le_trans hs.start1 hs.size1)).len3
  have := joinLen (B := 8) (xs := [("store" : Str), nS s.size, nS s.start]) (fun x hx => by
    simp at hx
    rcases hx with rfl | rfl | rfl
    · decide +kernel
    · omega
    · omega)
  simp only [List.length_cons, List.length_nil] at this
  unfold storeL
  omega
theorem glue_ev {L : List Str} {h : List O} {te : FE} {mi : FA} {g : FG} {vs : List Nat} {sl : Sl} (hL : ∀ x ∈ L, x.length ≤ 200) (hl : L.length ≤ 100) (e : mi sl h = some (L.map D.str, h)) (ht : ∀ x ∈ L, ∃ s1, g (.str x) (wipeD sl vs) = some s1 ∧ te s1 h = some (.str (x ++ mk [10]), h)) :
    m_m1 x_join (m_c (.str "")) (m_lc mi g t_yes te vs) sl h = some (.str (Str.join Str.empty (L.map (· ++ mk [10]))), h) := by
  have lm := lc_map (mi := mi) (g := g) (te := te) (vs := vs) (sl := sl) (f := fun d => match d with
    | .str x => .str (x ++ mk [10])
    | d => d) e (by rw [List.length_map]; omega) (fun d hd => by
      obtain ⟨x, hx, rfl⟩ := List.mem_map.mp hd
      exact ht x hx)
  rw [List.map_map] at lm
  have e2 : (L.map ((fun d : D => match d with
    | .str x => .str (x ++ mk [10])
    | d => d) ∘ D.str)) = (L.map (· ++ mk [10])).map D.str := by rw [List.map_map]; rfl
  rw [e2] at lm
  refine e_m1 (z := "") rfl lm ?_
  rw [em_eq]
  refine join_ev ?_
  have := StrLaws.sumLen_le (B := 201) (L.map (· ++ mk [10])) (fun y hy => by
    obtain ⟨x, hx, rfl⟩ := List.mem_map.mp hy
    show (x ++ mk [10]).length ≤ 201
    rw [PySem.Str.length_append]
    have := hL x hx
    have : (mk [10]).length = 1 := rfl
    omega)
  have e0 : Str.empty.length = 0 := rfl
  rw [List.length_map] at this
  rw [e0]
  omega
theorem linesL_len {s : Shape} (hs : s.Ok) : ∀ x ∈ storeL s :: s.rows.map lineL, x.length ≤ 200 := fun x hx => by
  rcases List.mem_cons.mp hx with rfl | hx
  · exact storeL_len hs
  · obtain ⟨r, hr, rfl⟩ := List.mem_map.mp hx
    exact lineL_len (hs.rows r hr)
theorem add_nl {x : Str} {h : List O} (hx : x.length ≤ 200) : f_add (.str x) (.str "\n") h = some (.str (x ++ mk [10]), h) := by
  rw [nl_eq]
  refine add_str ?_
  have : (mk [10]).length = 1 := rfl
  omega
theorem law_text_ev {s : Shape} (hs : s.Ok) (h : List O) : cm__law_plan_text [s.d] [] h = some (.str (textL s), h) := by
  have b1 : -9 ≤ s.size := Int.le_trans (by decide) hs.size0
  have b2 : -9 ≤ s.start := Int.le_trans (by decide) hs.start0
  have b3 : s.start ≤ 24 := Int.le_trans hs.start1 hs.size1
  have l1 := (num_ok b1 hs.size1).len3
  have l2 := (num_ok b2 b3).len3
  have n6 := hs.n6
  have z1 : ("store " : Str).length = 6 := by decide +kernel
  have z2 : (" " : Str).length = 1 := by decide +kernel
  have ap := PySem.Str.length_append
  unfold cm__law_plan_text b__law_plan_text cmP
  dsimp only
  have lm := lc_map (mi := i_q (m_bin f_ix (m_v 0) (m_c (.int 2)))) (g := g_n 2) (te := m_call cm__law_mode_line [] (m_ca (a_cons (m_v 2) a_nil) a_nil)) (vs := [2]) (sl := [some s.d, none, none, none]) (h := h) (h1 := h) (f := fun d => match d with
    | .fl [.str name, .int low, .int high, .int under, .int over, .fl late] => .str (lineL ⟨name, low, high, under, over, (allStr late).getD []⟩)
    | d => d) (ds := s.rows.map Row.d) (e_q rfl) (by rw [List.length_map]; omega) (fun d hd => by
      obtain ⟨r, hr, rfl⟩ := List.mem_map.mp hd
      refine ⟨_, rfl, ?_⟩
      refine (e_call (e_ca0 (e_one rfl)) (law_line_ev (hs.rows r hr) h)).trans ?_
      show _ = some (D.str (lineL ⟨r.name, r.low, r.high, r.under, r.over, (allStr (r.late.map D.str)).getD []⟩), h)
      rw [allStr_map]
      rfl)
  have e2 : ((s.rows.map Row.d).map (fun d : D => match d with
    | .fl [.str name, .int low, .int high, .int under, .int over, .fl late] => .str (lineL ⟨name, low, high, under, over, (allStr late).getD []⟩)
    | d => d)) = (s.rows.map lineL).map D.str := by
    rw [List.map_map, List.map_map]
    refine List.map_congr_left fun r _ => ?_
    show D.str (lineL ⟨r.name, r.low, r.high, r.under, r.over, (allStr (r.late.map D.str)).getD []⟩) = _
    rw [allStr_map]
    rfl
  rw [e2] at lm
  have st : m_bin f_add (m_bin f_add (m_bin f_add (m_c (.str "store ")) (m_b c_str (a_cons (m_bin f_ix (m_v 0) (m_c (.int 0))) a_nil))) (m_c (.str " "))) (m_b c_str (a_cons (m_bin f_ix (m_v 0) (m_c (.int 1))) a_nil)) [some s.d, none, none, none] h = some (.str (storeL s), h) := by
    refine (e_bin (e_bin (e_bin rfl (e_b (e_one rfl) (str_ev b1 hs.size1)) (add_str (by omega))) rfl (add_str (by rw [ap]; omega))) (e_b (e_one rfl) (str_ev b2 b3)) (add_str (by rw [ap, ap]; omega))).trans ?_
    refine congrArg (fun z => some (D.str z, h)) ?_
    apply str_ext
    unfold storeL
    rw [join_cons, join_cons]
    simp only [app_list, list_mk, lit_store, lit_sp, List.append_assoc]
    rfl
  refine rt_fn (rt_q (q_set (e_bin (e_fl (e_one st)) lm (add_fl (by simp; omega)))) (rt_ret ?_))
  exact glue_ev (L := storeL s :: s.rows.map lineL) (linesL_len hs) (by simp; omega) (e_q rfl) (fun x hx => ⟨_, rfl, e_bin rfl rfl (add_nl (linesL_len hs x hx))⟩)
theorem plan_text_ev {s : Shape} (hs : s.Ok) (h : List O) : cm_plan_text [s.plan] [] h = some (.str (textL s), h) := by
  have b1 : -9 ≤ s.size := Int.le_trans (by decide) hs.size0
  have b2 : -9 ≤ s.start := Int.le_trans (by decide) hs.start0
  have b3 : s.start ≤ 24 := Int.le_trans hs.start1 hs.size1
  have l1 := (num_ok b1 hs.size1).len3
  have l2 := (num_ok b2 b3).len3
  have n6 := hs.n6
  have z1 : ("store " : Str).length = 6 := by decide +kernel
  have z2 : (" " : Str).length = 1 := by decide +kernel
  have z0 : Str.empty.length = 0 := rfl
  have ap := PySem.Str.length_append
  unfold cm_plan_text b_plan_text cmP
  dsimp only
  have cc : ∀ (rows : List Row), (∀ r ∈ rows, r ∈ s.rows) → compC (g_n 2) t_yes (m_call cm_mode_line [] (m_ca (a_cons (m_meth "Plan" "mode" cm_Plan_mode [] (m_v 0) (m_ca (a_cons (m_v 2) a_nil) a_nil)) a_nil) a_nil)) [some s.plan, none, none, none] ((rows.map Row.name).map D.str) h = some ((rows.map lineL).map D.str, h) := by
    intro rows
    induction rows with
    | nil => intro _; rfl
    | cons r rows ih =>
      intro hr
      exact compC_yes rfl (e_call (e_ca0 (e_one (meth_plan rfl (e_ca0 (e_one rfl)) (plan_mode_ev hs (hr r (.head _)) h)))) (mode_line_ev (hs.rows r (hr r (.head _))) h)) (ih fun x hx => hr x (.tail _ hx))
  have lm := e_lc (vs := [2]) (sl := [some s.plan, none, none, none]) (e_q (meth_plan (n := "names") (cm := cm_Plan_names) (ks := []) (mc := m_ca a_nil a_nil) (ds := []) (es := []) (h2 := h) (mo := m_v 0) rfl rfl (plan_names_ev h))) (cc s.rows fun _ h => h) (by simp; omega)
  have st : m_fs [(m_c (.str "store ")), (m_fmt (m_attr ["Plan"] "size" (m_v 0))), (m_c (.str " ")), (m_fmt (m_attr ["Plan"] "start" (m_v 0)))] [some s.plan, none, none, none] h = some (.str (storeL s), h) := by
    refine (e_fs (fs_cons rfl (by omega) (fs_cons (fmt_int (plan_size rfl) b1 hs.size1) (by rw [ap]; omega) (fs_cons rfl (by rw [ap, ap]; omega) (fs_cons (fmt_int (plan_start rfl) b2 b3) (by rw [ap, ap, ap]; omega) rfl))))).trans ?_
    refine congrArg (fun z => some (D.str z, h)) ?_
    apply str_ext
    unfold storeL
    rw [join_cons, join_cons]
    simp only [app_list, list_mk, lit_store, lit_sp, List.append_assoc]
    rfl
  refine rt_fn (rt_q (q_set (e_fl (e_cons st (e_star lm rfl)) (by simp; omega))) (rt_ret ?_))
  exact glue_ev (L := storeL s :: s.rows.map lineL) (linesL_len hs) (by simp; omega) (e_q (by simp [m_v])) (fun x hx => ⟨_, rfl, e_bin rfl rfl (add_nl (linesL_len hs x hx))⟩)
end SP
set_option Elab.async false
set_option linter.all false
set_option maxRecDepth 100000
set_option maxHeartbeats 4000000
namespace SP
open PySem PySem.Spec PyProof.Rows L2 HF PF
/-! numbers are read -/
theorem read_num {i : Int} (h0 : -9 ≤ i) (h1 : i ≤ 24) (h : List O) : cm_read_number [.str (nS i)] [] h = some (.int i, h) := by
  have c : i = -9 ∨ i = -8 ∨ i = -7 ∨ i = -6 ∨ i = -5 ∨ i = -4 ∨ i = -3 ∨ i = -2 ∨ i = -1 ∨ i = 0 ∨ i = 1 ∨ i = 2 ∨ i = 3 ∨ i = 4 ∨ i = 5 ∨ i = 6 ∨ i = 7 ∨ i = 8 ∨ i = 9 ∨ i = 10 ∨ i = 11 ∨ i = 12 ∨ i = 13 ∨ i = 14 ∨ i = 15 ∨ i = 16 ∨ i = 17 ∨ i = 18 ∨ i = 19 ∨ i = 20 ∨ i = 21 ∨ i = 22 ∨ i = 23 ∨ i = 24 := by omega
  rcases c with rfl | rfl | rfl | rfl | rfl | rfl | rfl | rfl | rfl | rfl | rfl | rfl | rfl | rfl | rfl | rfl | rfl | rfl | rfl | rfl | rfl | rfl | rfl | rfl | rfl | rfl | rfl | rfl | rfl | rfl | rfl | rfl | rfl | rfl <;> kernel_rfl
theorem read_nums {is : List Int} (hi : ∀ i ∈ is, -9 ≤ i ∧ i ≤ 24) (hl : is.length ≤ 1000) (h : List O) : cm_read_numbers [.fl ((is.map nS).map D.str)] [] h = some (.fl (is.map D.int), h) := by
  unfold cm_read_numbers b_read_numbers cmP
  dsimp only
  have cc : ∀ (is : List Int), (∀ i ∈ is, -9 ≤ i ∧ i ≤ 24) → ∀ d0, compC (g_n 2) t_yes (m_call cm_read_number [] (m_ca (a_cons (m_v 2) a_nil) a_nil)) [some d0, none, none] ((is.map nS).map D.str) h = some (is.map D.int, h) := by
    intro is
    induction is with
    | nil => intro _ _; rfl
    | cons i is ih =>
      intro hi d0
      exact compC_yes rfl (e_call (e_ca0 (e_one rfl)) (read_num (hi i (.head _)).1 (hi i (.head _)).2 h)) (ih (fun x hx => hi x (.tail _ hx)) d0)
  refine rt_fn (rt_q (q_set (e_lc (e_q rfl) (cc is hi _) (by rw [List.length_map]; omega))) (rt_ret (e_if0 (e_t (e_bin rfl rfl ?_)) rfl)))
  unfold f_inL
  have e2 : toP h 12 (.fl (is.map D.int)) = some (.list (is.map PyData.int)) := by
    rw [toP, toPs_int h 10 is]
    rfl
  rw [show toP h 12 .non = some .none from rfl, e2, Option.bind_some, Option.bind_some]
  dsimp only
  have e3 : ((is.map PyData.int).any fun z => PyData.eqv z .none) = false := by
    rw [List.any_map]
    apply List.any_eq_false.mpr
    intro x _
    exact Bool.false_ne_true
  rw [e3]
/-! no sign of a kind -/
theorem join_free {c : Nat} {sep : Str} (hs : c ∉ sep.cps.toList) : ∀ {xs : List Str}, (∀ x ∈ xs, c ∉ x.cps.toList) → c ∉ (Str.join sep xs).cps.toList
  | [], _ => by simp [Str.join, Str.empty]
  | [x], h => h x (.head _)
  | x :: y :: xs, h => by
    rw [join_cons, app_list, app_list, List.mem_append, List.mem_append]
    rintro ((z | z) | z)
    · exact h x (.head _) z
    · exact hs z
    · exact join_free hs (fun a ha => h a (.tail _ ha)) z
theorem Low.free {s : Str} (h : Low s) {c : Nat} (hc : c < 97) : c ∉ s.cps.toList := fun z => by
  have := h c z
  omega
theorem parts_free {r : Row} (hr : r.Ok) {c : Nat} (hc : c = 10 ∨ c = 32) : ∀ x ∈ partsL r, c ∉ x.cps.toList := by
  have h1 := num_ok hr.low (Int.le_trans hr.lh (Int.le_trans hr.high (by decide)))
  have h2 := num_ok (Int.le_trans hr.low hr.lh) (Int.le_trans hr.high (by decide))
  have h3 := num_ok (i := r.under) (Int.le_trans (by decide) hr.u0) (Int.le_trans hr.u1 (by decide))
  have h4 := num_ok (i := r.over) (Int.le_trans (by decide) hr.o0) (Int.le_trans hr.o1 (by decide))
  have hn : ∀ {i : Int}, NumOk i → c ∉ (nS i).cps.toList := fun h => by
    rcases hc with rfl | rfl
    · exact h.nonl
    · exact h.nosp
  have hm : c ∉ ("mode" : Str).cps.toList := by rcases hc with rfl | rfl <;> decide +kernel
  have hcl : c ∉ (":" : Str).cps.toList := by rcases hc with rfl | rfl <;> decide +kernel
  intro x hx
  rcases List.mem_append.mp hx with hx | hx
  · simp only [headL, List.mem_cons, List.not_mem_nil, or_false] at hx
    rcases hx with rfl | rfl | rfl | rfl | rfl | rfl | rfl
    · exact hm
    · exact hr.name.low.free (by omega)
    · exact hn h1
    · exact hn h2
    · exact hn h3
    · exact hn h4
    · exact hcl
  · exact (hr.lname x hx).low.free (by omega)
theorem store_free {s : Shape} (hs : s.Ok) {c : Nat} (hc : c = 10 ∨ c = 32) : ∀ x ∈ [("store" : Str), nS s.size, nS s.start], c ∉ x.cps.toList := by
  have h1 := num_ok (Int.le_trans (by decide) hs.size0) hs.size1
  have h2 := num_ok (i := s.start) (Int.le_trans (by decide) hs.start0) (Int.le_trans hs.start1 hs.size1)
  have hn : ∀ {i : Int}, NumOk i → c ∉ (nS i).cps.toList := fun h => by
    rcases hc with rfl | rfl
    · exact h.nonl
    · exact h.nosp
  have hm : c ∉ ("store" : Str).cps.toList := by rcases hc with rfl | rfl <;> decide +kernel
  intro x hx
  simp only [List.mem_cons, List.not_mem_nil, or_false] at hx
  rcases hx with rfl | rfl | rfl
  · exact hm
  · exact hn h1
  · exact hn h2
theorem lines_free {s : Shape} (hs : s.Ok) : ∀ x ∈ storeL s :: s.rows.map lineL, 10 ∉ x.cps.toList := fun x hx => by
  rcases List.mem_cons.mp hx with rfl | hx
  · exact join_free (by rw [list_mk]; decide) (store_free hs (.inl rfl))
  · obtain ⟨r, hr, rfl⟩ := List.mem_map.mp hx
    exact join_free (by rw [list_mk]; decide) (parts_free (hs.rows r hr) (.inl rfl))
theorem text_join : ∀ L : List Str, Str.join Str.empty (L.map (· ++ mk [10])) = Str.join (mk [10]) (L ++ [Str.empty])
  | [] => rfl
  | [x] => by
    show x ++ mk [10] = x ++ mk [10] ++ Str.empty
    rw [PySem.Str.append_empty]
  | x :: y :: L => by
    show (x ++ mk [10]) ++ Str.empty ++ Str.join Str.empty ((y :: L).map (· ++ mk [10])) = x ++ mk [10] ++ Str.join (mk [10]) ((y :: L) ++ [Str.empty])
    rw [text_join (y :: L), PySem.Str.append_empty]
theorem text_split {s : Shape} (hs : s.Ok) : Txt.split (textL s) (mk [10]) = (storeL s :: s.rows.map lineL) ++ [Str.empty] := by
  unfold textL
  rw [text_join]
  refine split_join 10 (by simp) fun p hp => ?_
  rcases List.mem_append.mp hp with hp | hp
  · exact lines_free hs p hp
  · rw [List.mem_singleton.mp hp]
    simp [Str.empty]
theorem text_len {s : Shape} (hs : s.Ok) : (textL s).length ≤ 2000 := by
  have n6 := hs.n6
  have := StrLaws.join_length_le Str.empty ((storeL s :: s.rows.map lineL).map (· ++ mk [10]))
  have h2 := StrLaws.sumLen_le (B := 201) ((storeL s :: s.rows.map lineL).map (· ++ mk [10])) (fun y hy => by
    obtain ⟨x, hx, rfl⟩ := List.mem_map.mp hy
    show (x ++ mk [10]).length ≤ 201
    rw [PySem.Str.length_append]
    have := linesL_len hs x hx
    have : (mk [10]).length = 1 := rfl
    omega)
  have e0 : Str.empty.length = 0 := rfl
  rw [e0] at this
  simp only [List.length_map, List.length_cons] at this h2
  unfold textL
  omega
theorem split_ev {a b : Str} {h : List O} (hb : b.length = 1) (ha : a.length ≤ 90000) : x_split (.str a) [.str b] h = some (.fl ((Txt.split a b).map D.str), h) := by
  show (if (decide (b.length ≠ 0) && szOk (a.length + 2)) = true then _ else _) = _
  rw [if_pos]
  rw [Bool.and_eq_true, decide_eq_true_eq]
  exact ⟨by omega, szOk_of (by omega)⟩
theorem q_star {i j : Nat} {m : FE} {sl : Sl} {h h1 : List O} {xs : List D} {y : D} (e : m sl h = some (.fl (xs ++ [y]), h1)) (hl : xs.length ≤ 10000) : s_star i j m sl h = some (.nx, (sl.set i (some (.fl xs))).set j (some y), h1) := by
  unfold s_star
  rw [e, Option.bind_some]
  show (if decide ((xs ++ [y]).length ≤ 16384) = true then _ else _) = _
  rw [if_pos (decide_eq_true (by simp; omega))]
  have : (xs ++ [y])[(xs ++ [y]).length - 1]? = some y := by simp
  rw [this, Option.bind_some, List.dropLast_concat]
theorem lines_of_ev {s : Shape} (hs : s.Ok) (h : List O) : cm_lines_of [.str (textL s)] [] h = some (.tup [.fl ((storeL s :: s.rows.map lineL).map D.str), .str Str.empty], h) := by
  have n6 := hs.n6
  unfold cm_lines_of b_lines_of cmP
  dsimp only
  have sp : m_m1 x_split (m_v 0) (m_c (.str "\n")) [some (.str (textL s)), none, none] h = some (.fl ((storeL s :: s.rows.map lineL).map D.str ++ [.str Str.empty]), h) := by
    refine e_m1 rfl rfl ?_
    rw [nl_eq, split_ev rfl (Nat.le_trans (text_len hs) (by decide)), text_split hs, List.map_append]
    rfl
  exact rt_fn (rt_q (q_no (e_nT (e_t (e_isT rfl rfl rfl)))) (rt_q (q_star sp (by simp; omega)) (rt_ret (e_tup (e_cons rfl (e_one rfl))))))
end SP
set_option Elab.async false
set_option linter.all false
set_option maxRecDepth 100000
set_option maxHeartbeats 4000000
namespace SP
open PySem PySem.Spec PyProof.Rows L2 HF PF
theorem nes_same {a : Str} {h : List O} (ha : SOk a) : f_ne (.str a) (.str a) h = some (.bl false, h) := by
  rw [ne_str ha ha, decide_eq_true rfl]
  rfl
theorem nei {i j : Int} {h : List O} {c : Bool} (hc : (!decide (i = j)) = c) : f_ne (.int i) (.int j) h = some (.bl c, h) := by rw [ne_int, hc]
theorem e_starT {m : FE} {ms : FA} {sl : Sl} {h h1 h2 : List O} {xs ys : List D} (e1 : m sl h = some (.tup xs, h1)) (e2 : ms sl h1 = some (ys, h2)) : a_star m ms sl h = some (xs ++ ys, h2) := by
  unfold a_star
  rw [e1, Option.bind_some]
  show (ms sl h1).bind _ = _
  rw [e2]
  rfl
def aRow : Row := ⟨"a", 0, 0, 0, 0, ["a"]⟩
theorem a_name : NameOk ("a" : Str) := ⟨by decide +kernel, by decide +kernel, fun c hc => by
  have : ("a" : Str).cps.toList = [97] := by decide +kernel
  rw [this] at hc
  simp at hc
  omega⟩
theorem a_args : MArgs ("a" : Str) 0 0 0 0 [] := ⟨a_name, by decide, by decide, by decide, by decide, by decide, by decide, by decide, .nil, fun _ z => (by cases z), by decide⟩
theorem aRow_ok : aRow.Ok := ⟨a_name, by decide, by decide, by decide, by decide, by decide, by decide, by decide, by simp [aRow], by simp [aRow], fun x hx => by
  simp [aRow] at hx
  rw [hx]
  exact a_name, by simp [aRow]⟩
theorem idle_ev (h : List O) : cm_Mode_idle [.str "a"] [] h = some (aRow.mode, h) := by
  have M := mode_mk0 a_args
  rw [if_pos rfl] at M
  have M : mkP "Mode" cm_Mode___init__ ([.str "a", .int 0, .int 0] ++ ([] ++ [])) (([] : List Str).zip []) = some aRow.mode := M
  unfold cm_Mode_idle
  have e : Rt (b_Mode_idle [some (.str "a"), some (.tup [])] h) aRow.mode h := by
    unfold b_Mode_idle
    exact rt_ret (e_mkP (e_ca (e_cons rfl (e_cons rfl (e_cons rfl (e_starT rfl rfl)))) rfl) M)
  exact star_rt (n0 := 1) e (by simp) rfl (by simp)
theorem store_in_ev {s : Shape} (hs : s.Ok) (h : List O) : cm_store_in [.str (storeL s)] [] h = some (.tup [.int s.size, .int s.start], h) := by
  have b1 : -9 ≤ s.size := Int.le_trans (by decide) hs.size0
  have b2 : -9 ≤ s.start := Int.le_trans (by decide) hs.start0
  have b3 : s.start ≤ 24 := Int.le_trans hs.start1 hs.size1
  have hl := storeL_len hs
  unfold cm_store_in b_store_in cmP
  dsimp only
  have sp : m_m1 x_split (m_v 0) (m_c (.str " ")) [some (.str (storeL s)), none, none, none, none] h = some (.fl ([("store" : Str), nS s.size, nS s.start].map D.str), h) := by
    refine e_m1 rfl rfl ?_
    rw [sp_eq, split_ev rfl (Nat.le_trans hl (by decide))]
    unfold storeL
    rw [split_join 32 (by simp) (store_free hs (.inr rfl))]
  have rn := read_nums (is := [s.size, s.start]) (fun i hi => by
    simp at hi
    rcases hi with rfl | rfl
    · exact ⟨b1, hs.size1⟩
    · exact ⟨b2, b3⟩) (by simp) h
  refine rt_fn (rt_q (q_set sp) ?_)
  refine rt_q (q_set (e_call (e_ca0 (e_one (e_sl rfl (e_os rfl) rfl rfl))) rn)) ?_
  have so : SOk ("store" : Str) := by decide +kernel
  refine rt_q (q_no (e_or0 (e_t (e_bin (e_bin rfl rfl rfl) rfl (nes_same so))) (e_or0 (e_t (e_bin rfl rfl rfl)) (e_t (e_bin (e_b (e_one rfl) rfl) rfl (nei rfl)))))) ?_
  refine rt_q (q_asg rfl rfl) ?_
  have P := plan_mk (s := ⟨s.size, s.start, [aRow]⟩) ⟨hs.size0, hs.size1, hs.start0, hs.start1, fun r hr => by
    rw [List.mem_singleton.mp hr]
    exact aRow_ok, by simp [Shape.names], fun r hr x hx => by
    rw [List.mem_singleton.mp hr] at hx
    simpa [Shape.names, aRow] using hx, by simp, by simp⟩
  refine rt_q (q_ex (e_mkP (e_ca (e_cons rfl (e_one (e_call (e_ca0 (e_one rfl)) (idle_ev h)))) (e_one rfl)) P)) ?_
  exact rt_ret (e_tup (e_cons rfl (e_one rfl)))
theorem mode_in_ev {r : Row} (hr : r.Ok) (h : List O) : cm_mode_in [.str (lineL r)] [] h = some (r.mode, h) := by
  have h6 := hr.len
  have b1 : r.low ≤ 24 := Int.le_trans hr.lh (Int.le_trans hr.high (by decide))
  have b2 : -9 ≤ r.high := Int.le_trans hr.low hr.lh
  have b3 : r.high ≤ 24 := Int.le_trans hr.high (by decide)
  have b4 : -9 ≤ r.under := Int.le_trans (by decide) hr.u0
  have b5 : r.under ≤ 24 := Int.le_trans hr.u1 (by decide)
  have b6 : -9 ≤ r.over := Int.le_trans (by decide) hr.o0
  have b7 : r.over ≤ 24 := Int.le_trans hr.o1 (by decide)
  have hl := lineL_len hr
  have hp : 1 ≤ r.late.length := List.length_pos_iff.mpr hr.ne
  unfold cm_mode_in b_mode_in cmP
  dsimp only
  have sp : m_m1 x_split (m_v 0) (m_c (.str " ")) [some (.str (lineL r)), none, none, none, none, none, none, none, none] h = some (.fl ((headL r).map D.str ++ r.late.map D.str), h) := by
    refine e_m1 rfl rfl ?_
    rw [sp_eq, split_ev rfl (Nat.le_trans hl (by decide))]
    unfold lineL
    rw [split_join 32 (by simp [partsL, headL]) (parts_free hr (.inr rfl)), partsL, List.map_append]
  have rn := read_nums (is := [r.low, r.high, r.under, r.over]) (fun i hi => by
    simp at hi
    rcases hi with rfl | rfl | rfl | rfl
    · exact ⟨hr.low, b1⟩
    · exact ⟨b2, b3⟩
    · exact ⟨b4, b5⟩
    · exact ⟨b6, b7⟩) (by simp) h
  have so : SOk ("mode" : Str) := by decide +kernel
  have sc : SOk (":" : Str) := by decide +kernel
  refine rt_fn (rt_q (q_set sp) ?_)
  have lt : f_lt (.int (((headL r).map D.str ++ r.late.map D.str).length : Nat)) (.int 8) h = some (.bl false, h) := lti (decide_eq_false (by simp [headL] <;> omega))
  refine rt_q (q_no (e_or0 (e_t (e_bin (e_b (e_one rfl) rfl) rfl lt)) (e_or0 (e_t (e_bin (e_bin rfl rfl (ix_fl (by decide) rfl)) rfl (nes_same so))) (e_t (e_bin (e_bin rfl rfl (ix_fl (by decide) rfl)) rfl (nes_same sc)))))) ?_
  have s1 : f_sl (.fl ((headL r).map D.str ++ r.late.map D.str)) (some 2) (some 6) h = some (.fl (([r.low, r.high, r.under, r.over].map nS).map D.str), h) := by
    show some (D.fl (HF.cutD _ (some ((2 : Nat) : Int)) (some ((6 : Nat) : Int))), h) = _
    rw [cutD_mid (by decide) (by simp [headL] <;> omega)]
    rfl
  have s2 : f_sl (.fl ((headL r).map D.str ++ r.late.map D.str)) (some 7) none h = some (.fl (r.late.map D.str), h) := by
    show some (D.fl (HF.cutD _ (some ((7 : Nat) : Int)) none), h) = _
    rw [cutD_from (by simp [headL])]
    rfl
  refine rt_q (q_set (e_call (e_ca0 (e_one (e_sl rfl (e_os rfl) (e_os rfl) s1))) rn)) ?_
  refine rt_q (q_no (e_t (e_bin rfl rfl rfl))) ?_
  have pp : s_par 3 4 (a_cons (m_bin f_ix (m_v 1) (m_c (.int 1))) (a_cons (m_sl (m_v 1) (o_some (m_c (.int 7))) o_none) a_nil)) [some (.str (lineL r)), some (.fl ((headL r).map D.str ++ r.late.map D.str)), some (.fl ([r.low, r.high, r.under, r.over].map D.int)), none, none, none, none, none, none] h
      = some (.nx, [some (.str (lineL r)), some (.fl ((headL r).map D.str ++ r.late.map D.str)), some (.fl ([r.low, r.high, r.under, r.over].map D.int)), some (.str r.name), some (.fl (r.late.map D.str)), none, none, none, none], h) := by
    unfold s_par
    rw [e_cons (e_bin rfl rfl (ix_fl (by decide) rfl)) (e_one (e_sl rfl (e_os rfl) rfl s2))]
    rfl
  refine rt_q pp ?_
  refine rt_q (q_asg rfl rfl) ?_
  refine rt_ret (e_mkP (e_ca (e_cons rfl (e_cons rfl (e_cons rfl (e_star rfl rfl)))) (e_cons rfl (e_one rfl))) ?_)
  have := mode_mk1 (margs hr)
  rw [if_neg hr.ne] at this
  rw [List.append_nil]
  exact this
end SP
set_option Elab.async false
set_option linter.all false
set_option maxRecDepth 100000
set_option maxHeartbeats 4000000
namespace SP
open PySem PySem.Spec PyProof.Rows L2 HF PF
theorem at_push (h : List O) (x : O) : (h ++ [x])[h.length]? = some x := by simp
theorem set_push (h : List O) (x y : O) : (h ++ [x]).set h.length y = h ++ [y] := by simp
theorem compT_all {i : Nat} {g : FG} {te : FE} {slw : Sl} {h : List O} {L : List D} {f : D → D} (e : h[i]? = some (.lst L)) (hd : ∀ d ∈ L, ∃ s1, g d slw = some s1 ∧ te s1 h = some (f d, h)) : ∀ (n j : Nat), L.length < n + j → j ≤ L.length → compT i g t_yes te slw n j h = some ((L.drop j).map f, h)
  | 0, j, hn, hj => by omega
  | n + 1, j, hn, hj => by
    unfold compT itT
    rw [e]
    dsimp only
    by_cases c : j < L.length
    · rw [List.getElem?_eq_getElem c]
      dsimp only
      obtain ⟨s1, e1, e2⟩ := hd _ (List.getElem_mem c)
      rw [e1, Option.bind_some]
      show (te s1 h).bind _ = _
      rw [e2, Option.bind_some]
      show (compT i g t_yes te slw n (j + 1) h).bind _ = _
      rw [compT_all e hd n (j + 1) (by omega) (by omega), Option.bind_some, List.drop_eq_getElem_cons c]
      rfl
    · rw [List.getElem?_eq_none (by omega), List.drop_of_length_le (by omega)]
      rfl
theorem e_lcT {n i : Nat} {m : FE} {g : FG} {te : FE} {vs : List Nat} {sl : Sl} {h h1 : List O} {L : List D} {f : D → D} (e0 : m sl h = some (.loc i, h1)) (e : h1[i]? = some (.lst L)) (hn : L.length < n) (hl : L.length ≤ 100000) (hd : ∀ d ∈ L, ∃ s1, g d (wipeD sl vs) = some s1 ∧ te s1 h1 = some (f d, h1)) : m_lcT n m g t_yes te vs sl h = some (.fl (L.map f), h1) := by
  unfold m_lcT
  rw [e0, Option.bind_some]
  dsimp only
  rw [e]
  dsimp only
  rw [compT_all e hd n 0 (by omega) (by omega), Option.bind_some]
  dsimp only
  rw [if_pos (szOk_of (by rw [List.length_map, List.drop_zero]; exact hl)), List.drop_zero]
theorem read_loop {s : Shape} (hs : s.Ok) {h : List O} {D0 D1 D2 : D} : ∀ (rows pre : List Row) (k : Nat) (s5 s6 s7 : Option D), pre ++ rows = s.rows → 1 ≤ k → ∃ s5' s6' s7' : Option D,
    forL (g_q 2 (gs_cons (g_n 5) (gs_cons (g_n 6) gs_nil))) (s_seq (s_if (m_t (m_bin f_eq (m_v 5) (m_c (.int 0)))) (s_seq (s_set 3 (m_call cm_store_in [] (m_ca (a_cons (m_v 6) a_nil) a_nil)))
  (s_seq (s_if (m_t (m_bin g_is (m_v 3) (m_c .non))) s_never s_nil)
  s_cont)) s_nil)
  (s_seq (s_set 7 (m_call cm_mode_in [] (m_ca (a_cons (m_v 6) a_nil) a_nil)))
  (s_seq (s_if (t_or (m_t (m_bin g_is (m_v 7) (m_c .non))) (t_or (m_t (m_bin f_inL (m_attr ["Mode"] "name" (m_v 7)) (m_lcT 1000 (m_v 4) (g_n 10) t_yes (m_attr ["Mode"] "name" (m_v 10)) (List.map (·.2) ([("own", 10)] : List (Str × Nat)))))) (m_t (m_bin f_ge (m_b c_len (a_cons (m_v 4) a_nil)) (m_c (.int 6)))))) s_never s_nil)
  (s_ex (m_lm x_append (m_v 4) (a_cons (m_v 7) a_nil))))))
      (enumF k ((rows.map lineL).map D.str)) [some D0, some D1, some D2, some (.tup [.int s.size, .int s.start]), some (.loc h.length), s5, s6, s7, none, none, none] (h ++ [.lst (pre.map Row.mode)])
      = some (.nx, [some D0, some D1, some D2, some (.tup [.int s.size, .int s.start]), some (.loc h.length), s5', s6', s7', none, none, none], h ++ [.lst (s.rows.map Row.mode)])
  | [], pre, k, s5, s6, s7, e, _ => ⟨s5, s6, s7, by rw [← e, List.append_nil]; rfl⟩
  | r :: rows, pre, k, s5, s6, s7, e, hk => by
    have n6 := hs.n6
    have nd := hs.nd
    have hr : r ∈ s.rows := by rw [← e]; simp
    have hlen : pre.length + (rows.length + 1) = s.rows.length := by rw [← e]; simp
    obtain ⟨s5', s6', s7', e2⟩ := read_loop hs (h := h) (D0 := D0) (D1 := D1) (D2 := D2) rows (pre ++ [r]) (k + 1) (some (.int (k : Nat))) (some (.str (lineL r))) (some r.mode) (by rw [← e]; simp) (by omega)
    refine ⟨s5', s6', s7', ?_⟩
    have hn : r.name ∉ pre.map Row.name := fun hm => by
      rw [Shape.names, ← e, List.map_append] at nd
      exact (List.nodup_append.mp nd).2.2 _ hm _ (by simp) rfl
    have c0 : f_eq (.int ((k : Nat) : Int)) (.int 0) (h ++ [.lst (pre.map Row.mode)]) = some (.bl false, h ++ [.lst (pre.map Row.mode)]) := eqi (decide_eq_false (by omega))
    have cT := e_lcT (n := 1000) (m := m_v 4) (g := g_n 10) (te := m_attr ["Mode"] "name" (m_v 10)) (vs := [10]) (sl := [some D0, some D1, some D2, some (.tup [.int s.size, .int s.start]), some (.loc h.length), some (.int (k : Nat)), some (.str (lineL r)), some r.mode, none, none, none]) (h := h ++ [.lst (pre.map Row.mode)]) (f := fun d => match d with
      | .ob _ _ (x :: _) => x
      | d => d) rfl (at_push _ _) (by rw [List.length_map]; omega) (by rw [List.length_map]; omega) (fun d hd => by
        obtain ⟨q, hq, rfl⟩ := List.mem_map.mp hd
        exact ⟨_, rfl, mode_name q rfl⟩)
    have cN : ((pre.map Row.mode).map fun d : D => match d with
      | .ob _ _ (x :: _) => x
      | d => d) = (pre.map Row.name).map D.str := by
      rw [List.map_map, List.map_map]
      rfl
    rw [cN] at cT
    have iN := inL_str (h := h ++ [.lst (pre.map Row.mode)]) (a := r.name) (xs := pre.map Row.name) (hs.rows r hr).name.sok (fun x hx => by
      obtain ⟨q, hq, rfl⟩ := List.mem_map.mp hx
      exact (hs.rows q (by rw [← e]; simp [hq])).name.sok)
    rw [decide_eq_false hn] at iN
    have ge6 : f_ge (.int ((pre.map Row.mode).length : Nat)) (.int 6) (h ++ [.lst (pre.map Row.mode)]) = some (.bl false, h ++ [.lst (pre.map Row.mode)]) := by
      show some (D.bl (decide ((6 : Int) ≤ ((pre.map Row.mode).length : Nat))), _) = _
      rw [decide_eq_false (by rw [List.length_map]; omega)]
    refine l_nx rfl (q_nx (q_no (e_t (e_bin rfl rfl c0))) (q_nx (q_set (e_call (e_ca0 (e_one rfl)) (mode_in_ev (hs.rows r hr) _))) (q_nx (q_no (e_or0 (e_t (e_bin rfl rfl rfl)) (e_or0 (e_t (e_bin (mode_name r rfl) cT iN)) (e_t (e_bin (e_b (e_one rfl) (len_loc (at_push _ _))) rfl ge6))))) (q_ex (e_lm rfl (at_push _ _) (e_one rfl) (append_ev (at_push _ _) (by rw [List.length_map]; omega))))))) ?_
    rw [set_push, show pre.map Row.mode ++ [r.mode] = (pre ++ [r]).map Row.mode by simp]
    exact e2
theorem read_plan_ev {s : Shape} (hs : s.Ok) (h : List O) : cm_read_plan [.str (textL s)] [] h = some (s.plan, h ++ [.lst (s.rows.map Row.mode)]) := by
  have n1 := hs.n1
  have n6 := hs.n6
  unfold cm_read_plan b_read_plan cmP
  dsimp only
  refine rt_fn (rt_q (q_asg (e_call (e_ca0 (e_one rfl)) (lines_of_ev hs h)) rfl) ?_)
  have pp : s_par 3 4 (a_cons (m_c .non) (a_cons (m_tl a_nil) a_nil)) [some (.str (textL s)), some (.fl ((storeL s :: s.rows.map lineL).map D.str)), some (.str Str.empty), none, none, none, none, none, none, none, none] h
      = some (.nx, [some (.str (textL s)), some (.fl ((storeL s :: s.rows.map lineL).map D.str)), some (.str Str.empty), some .non, some (.loc h.length), none, none, none, none, none, none], h ++ [.lst []]) := rfl
  refine rt_q pp ?_
  obtain ⟨s5, s6, s7, e⟩ := read_loop hs (h := h) (D0 := .str (textL s)) (D1 := .fl ((storeL s :: s.rows.map lineL).map D.str)) (D2 := .str Str.empty) s.rows [] 1 (some (.int 0)) (some (.str (storeL s))) none rfl (Nat.le_refl _)
  refine rt_q (q_for (e_enL rfl) (l_ct rfl (q_ct (q_if1 (e_t (e_bin rfl rfl rfl)) (q_nx (q_set (e_call (e_ca0 (e_one rfl)) (store_in_ev hs _))) (q_nx (q_no (e_t (e_bin rfl rfl rfl))) rfl)))) e)) ?_
  have el : f_eqLen (.loc h.length) (.fl []) (h ++ [.lst (s.rows.map Row.mode)]) = some (.bl false, h ++ [.lst (s.rows.map Row.mode)]) := by
    unfold f_eqLen asLs
    dsimp only
    rw [at_push]
    show (if (s.rows.map Row.mode).length ≠ ([] : List D).length then _ else _) = _
    rw [if_pos (by simp; intro z; rw [z] at n1; simp at n1)]
  have se : SOk Str.empty := by decide +kernel
  refine rt_q (q_no (e_or0 (e_t (e_bin rfl (y := .str Str.empty) (by rw [em_eq]; rfl) (nes_same se))) (e_t (e_bin rfl rfl el)))) ?_
  refine rt_q (q_asg rfl rfl) ?_
  have st : a_star (m_v 4) a_nil [some (.str (textL s)), some (.fl ((storeL s :: s.rows.map lineL).map D.str)), some (.str Str.empty), some (.tup [.int s.size, .int s.start]), some (.loc h.length), s5, s6, s7, some (.int s.size), some (.int s.start), none] (h ++ [.lst (s.rows.map Row.mode)]) = some (s.rows.map Row.mode, h ++ [.lst (s.rows.map Row.mode)]) := by
    unfold a_star
    show (asQ _ (.loc h.length)).bind _ = _
    unfold asQ
    dsimp only
    rw [at_push]
    show some (s.rows.map Row.mode ++ [], _) = _
    rw [List.append_nil]
  exact rt_ret (e_mkP (e_ca (e_cons rfl st) (e_one rfl)) (plan_mk hs))
end SP
set_option Elab.async false
set_option linter.all false
set_option maxRecDepth 100000
set_option maxHeartbeats 4000000
namespace SP
open PySem PySem.Spec PyProof.Rows L2 HF PF
/-! same -/
inductive Pl : Nat → D → Prop
  | int {n : Nat} (i : Int) : Pl n (.int i)
  | str {n : Nat} {s : Str} (h : SOk s) : Pl n (.str s)
  | fl {n : Nat} {xs : List D} (h : ∀ x ∈ xs, Pl n x) (hl : xs.length ≤ 100000) : Pl (n + 1) (.fl xs)
  | tup {n : Nat} {xs : List D} (h : ∀ x ∈ xs, Pl n x) (hl : xs.length ≤ 100000) : Pl (n + 1) (.tup xs)
theorem m_and1 {ma mb : FE} {sl : Sl} {h h1 : List O} {r : Option (D × List O)} (e : ma sl h = some (.bl true, h1)) (k : mb sl h1 = r) : m_and ma mb sl h = r := by
  unfold m_and
  rw [e]
  exact k
theorem zipF_mem : ∀ {xs : List D} {d : D}, d ∈ zipF xs xs → ∃ x ∈ xs, d = .tup [x, x]
  | [], _, h => by cases h
  | x :: xs, d, h => by
    rcases List.mem_cons.mp (show d ∈ .tup [x, x] :: zipF xs xs from h) with rfl | h
    · exact ⟨x, .head _, rfl⟩
    · obtain ⟨y, hy, e⟩ := zipF_mem h
      exact ⟨y, .tail _ hy, e⟩
theorem zipF_len (xs : List D) : (zipF xs xs).length = xs.length := by simp [zipF]
theorem all_trues {xs : List D} {h : List O} : c_all [.fl (xs.map fun _ => D.bl true)] h = some (.bl true, h) := by
  have : (xs.map fun _ => D.bl true) = (xs.map fun _ => true).map D.bl := by rw [List.map_map]; rfl
  rw [this, all_ev, all_true fun b hb => by
    obtain ⟨_, _, rfl⟩ := List.mem_map.mp hb
    rfl]
theorem same_ev (h : List O) : ∀ (n : Nat) (d : D), Pl n d → cm__law_same (n + 1) [d, d] [] h = some (.bl true, h) := by
  intro n
  induction n with
  | zero =>
    intro d p
    cases p with
    | int i =>
      unfold cm__law_same b__law_same cmP
      dsimp only
      refine rt_fn (rt_q (q_no (e_or0 (e_t (e_bin rfl rfl rfl)) (e_t (e_bin rfl rfl rfl)))) (rt_q (q_no (e_t (e_isT rfl rfl rfl))) (rt_q (q_no (e_t (e_isT rfl rfl rfl))) (rt_q (q_no (e_t (e_isT rfl rfl rfl))) (rt_q1 (rt_if1 (e_t (e_isT rfl rfl rfl)) (rt_q (q_no (e_nT (e_t (e_isT rfl rfl rfl)))) (rt_ret (m_and1 rfl (e_bin rfl rfl ?_)))))))))) 
      rw [eq_int, decide_eq_true rfl]
    | str hs =>
      unfold cm__law_same b__law_same cmP
      dsimp only
      refine rt_fn (rt_q (q_no (e_or0 (e_t (e_bin rfl rfl rfl)) (e_t (e_bin rfl rfl rfl)))) (rt_q (q_no (e_t (e_isT rfl rfl rfl))) (rt_q (q_no (e_t (e_isT rfl rfl rfl))) (rt_q (q_no (e_t (e_isT rfl rfl rfl))) (rt_q (q_no (e_t (e_isT rfl rfl rfl))) (rt_ret (m_and1 rfl (e_bin rfl rfl ?_))))))))
      rw [eq_str hs hs, decide_eq_true rfl]
  | succ n ih =>
    intro d p
    cases p with
    | int i =>
      unfold cm__law_same b__law_same cmP
      dsimp only
      refine rt_fn (rt_q (q_no (e_or0 (e_t (e_bin rfl rfl rfl)) (e_t (e_bin rfl rfl rfl)))) (rt_q (q_no (e_t (e_isT rfl rfl rfl))) (rt_q (q_no (e_t (e_isT rfl rfl rfl))) (rt_q (q_no (e_t (e_isT rfl rfl rfl))) (rt_q1 (rt_if1 (e_t (e_isT rfl rfl rfl)) (rt_q (q_no (e_nT (e_t (e_isT rfl rfl rfl)))) (rt_ret (m_and1 rfl (e_bin rfl rfl ?_)))))))))) 
      rw [eq_int, decide_eq_true rfl]
    | str hs =>
      unfold cm__law_same b__law_same cmP
      dsimp only
      refine rt_fn (rt_q (q_no (e_or0 (e_t (e_bin rfl rfl rfl)) (e_t (e_bin rfl rfl rfl)))) (rt_q (q_no (e_t (e_isT rfl rfl rfl))) (rt_q (q_no (e_t (e_isT rfl rfl rfl))) (rt_q (q_no (e_t (e_isT rfl rfl rfl))) (rt_q (q_no (e_t (e_isT rfl rfl rfl))) (rt_ret (m_and1 rfl (e_bin rfl rfl ?_))))))))
      rw [eq_str hs hs, decide_eq_true rfl]
    | @fl _ xs hx hl =>
      unfold cm__law_same b__law_same cmP
      dsimp only
      have lm := lc_map (mi := i_z (a_cons (m_v 0) (a_cons (m_v 1) a_nil))) (g := g_q 2 (gs_cons (g_n 2) (gs_cons (g_n 3) gs_nil))) (te := m_call (cm__law_same (n + 1)) [] (m_ca (a_cons (m_v 2) (a_cons (m_v 3) a_nil)) a_nil)) (vs := [2, 3]) (sl := [some (.fl xs), some (.fl xs), none, none]) (h := h) (h1 := h) (ds := zipF xs xs) (f := fun _ => D.bl true) rfl (by rw [zipF_len]; exact hl) (fun d hd => by
        obtain ⟨x, hx2, rfl⟩ := zipF_mem hd
        exact ⟨_, rfl, e_call (e_ca0 (e_cons rfl (e_one rfl))) (ih x (hx x hx2))⟩)
      have ne0 : m_t (m_bin f_ne (m_b c_len (a_cons (m_v 0) a_nil)) (m_b c_len (a_cons (m_v 1) a_nil))) [some (.fl xs), some (.fl xs), none, none] h = some (false, h) := e_t (e_bin rfl rfl (nei (by simp)))
      exact rt_fn (rt_q (q_no (e_or0 (e_t (e_bin rfl rfl rfl)) (e_t (e_bin rfl rfl rfl)))) (rt_q1 (rt_if1 (e_t (e_isT rfl rfl rfl)) (rt_q (q_no (e_or0 (e_nT (e_t (e_isT rfl rfl rfl))) ne0)) (rt_ret (e_b (e_one lm) all_trues))))))
    | @tup _ xs hx hl =>
      unfold cm__law_same b__law_same cmP
      dsimp only
      have lm := lc_map (mi := i_z (a_cons (m_v 0) (a_cons (m_v 1) a_nil))) (g := g_q 2 (gs_cons (g_n 2) (gs_cons (g_n 3) gs_nil))) (te := m_call (cm__law_same (n + 1)) [] (m_ca (a_cons (m_v 2) (a_cons (m_v 3) a_nil)) a_nil)) (vs := [2, 3]) (sl := [some (.tup xs), some (.tup xs), none, none]) (h := h) (h1 := h) (ds := zipF xs xs) (f := fun _ => D.bl true) rfl (by rw [zipF_len]; exact hl) (fun d hd => by
        obtain ⟨x, hx2, rfl⟩ := zipF_mem hd
        exact ⟨_, rfl, e_call (e_ca0 (e_cons rfl (e_one rfl))) (ih x (hx x hx2))⟩)
      have ne0 : m_t (m_bin f_ne (m_b c_len (a_cons (m_v 0) a_nil)) (m_b c_len (a_cons (m_v 1) a_nil))) [some (.tup xs), some (.tup xs), none, none] h = some (false, h) := e_t (e_bin rfl rfl (nei (by simp)))
      exact rt_fn (rt_q (q_no (e_or0 (e_t (e_bin rfl rfl rfl)) (e_t (e_bin rfl rfl rfl)))) (rt_q (q_no (e_t (e_isT rfl rfl rfl))) (rt_q1 (rt_if1 (e_t (e_isT rfl rfl rfl)) (rt_q (q_no (e_or0 (e_nT (e_t (e_isT rfl rfl rfl))) ne0)) (rt_ret (e_b (e_one lm) all_trues)))))))
theorem Pl.mono {n m : Nat} (hm : n ≤ m) : ∀ {d : D}, Pl n d → Pl m d := by
  induction n generalizing m with
  | zero =>
    intro d p
    cases p with
    | int i => exact .int i
    | str h => exact .str h
  | succ n ih =>
    intro d p
    obtain ⟨m, rfl⟩ : ∃ k, m = k + 1 := ⟨m - 1, by omega⟩
    cases p with
    | int i => exact .int i
    | str h => exact .str h
    | fl h hl => exact .fl (fun x hx => ih (by omega) (h x hx)) hl
    | tup h hl => exact .tup (fun x hx => ih (by omega) (h x hx)) hl
theorem same7 {d : D} (p : Pl 7 d) (h : List O) : cm__law_same 8 [d, d] [] h = some (.bl true, h) := same_ev h 7 d p
/-! == of plans -/
theorem own2_ob {c : Str} {cm : CM} {g : Bool → Bool} {ks js : List Str} {xs ys : List D} {h h1 : List O} {b b2 : Bool} (e : cm [.ob c ks xs, .ob c js ys] [] h = some (.bl b, h1)) (hg : g b = b2) : f_own2 c cm g (.ob c ks xs) (.ob c js ys) h = some (.bl b2, h1) := by
  unfold f_own2
  show (if c = c ∧ c = c then _ else _) = _
  rw [if_pos ⟨rfl, rfl⟩, e, ← hg]
  rfl
theorem mode_eq_ev {r : Row} (hr : r.Ok) (h : List O) : cm_Mode___eq__ [r.mode, r.mode] [] h = some (.bl true, h) := by
  have hp : cm_Mode_parts [r.mode] [] h = some (.tup [.str r.name, .int r.low, .int r.high, .int r.under, .int r.over, .tup (r.late.map D.str)], h) := by
    unfold cm_Mode_parts b_Mode_parts cmP
    dsimp only
    exact rt_fn (rt_ret (e_tup (e_cons (mode_name r rfl) (e_cons (mode_low r rfl) (e_cons (mode_high r rfl) (e_cons (mode_under r rfl) (e_cons (mode_over r rfl) (e_one (mode_next r rfl)))))))))
  unfold cm_Mode___eq__ b_Mode___eq__ cmP
  dsimp only
  refine rt_fn (rt_ret (m_and1 (isC_ob rfl) (e_bin (meth_mode rfl rfl hp) (meth_mode rfl rfl hp) ?_)))
  unfold f_eq
  have e : toP h 12 (.tup [.str r.name, .int r.low, .int r.high, .int r.under, .int r.over, .tup (r.late.map D.str)]) = some (.tuple [.str r.name, .int r.low, .int r.high, .int r.under, .int r.over, .tuple (r.late.map PyData.str)]) := by
    have hn : PyData.strOk r.name = true := hr.name.sok
    have e1 := toPs_str h 9 r.late fun x hx => (hr.lname x hx).sok
    simp [toP, toPs, hn, e1]
  rw [e, Option.bind_some, Option.bind_some]
  simp [PyData.eqv, PyData.eqvAll, eqvAll_str]
theorem plan_eq_ev {s : Shape} (hs : s.Ok) (h : List O) : cm_Plan___eq__ [s.plan, s.plan] [] h = some (.bl true, h) := by
  have n6 := hs.n6
  have hn : ∀ x ∈ s.names, SOk x := fun x hx => by
    obtain ⟨r, hr, rfl⟩ := List.mem_map.mp hx
    exact (hs.rows r hr).name.sok
  unfold cm_Plan___eq__ b_Plan___eq__ cmP
  dsimp only
  have nn : f_ne (.fl (s.names.map D.str)) (.fl (s.names.map D.str)) h = some (.bl false, h) := by
    rw [ne_fl_str hn hn, decide_eq_true rfl]
    rfl
  refine rt_fn (rt_q (q_no (e_or0 (e_nT (e_t (isC_ob rfl))) (e_t (e_bin (meth_plan rfl rfl (plan_names_ev h)) (meth_plan rfl rfl (plan_names_ev h)) nn)))) ?_)
  refine rt_q (q_no (e_or0 (e_t (e_bin (plan_size rfl) (plan_size rfl) (nei (by simp)))) (e_t (e_bin (plan_start rfl) (plan_start rfl) (nei (by simp)))))) ?_
  have ik : i_kf ["Plan"] "table" 0 [some s.plan, some s.plan, none] h = some ((s.rows.map Row.name).map D.str, h) := by
    have e : lookF "table" ["size", "start", "table"] [.int s.size, .int s.start, .dk (s.names.map Sum.inr) (s.rows.map Row.mode)] = some (.dk (s.names.map Sum.inr) (s.rows.map Row.mode)) := by kernel_rfl
    unfold i_kf
    show (if (["Plan"] : List Str).contains "Plan" = true then (match lookF "table" ["size", "start", "table"] [.int s.size, .int s.start, .dk (s.names.map Sum.inr) (s.rows.map Row.mode)] with
      | some (.dk ks _) => some (ks.map keyD, h)
      | _ => none) else none) = _
    rw [if_pos (by simp), e]
    dsimp only
    rw [List.map_map]
    rfl
  have cc : ∀ rows : List Row, (∀ r ∈ rows, r ∈ s.rows) → compC (g_n 2) t_yes (m_bin (f_own2 "Mode" cm_Mode___eq__ id) (m_bin f_dget (m_attr ["Plan"] "table" (m_v 0)) (m_v 2)) (m_bin f_dget (m_attr ["Plan"] "table" (m_v 1)) (m_v 2))) [some s.plan, some s.plan, none] ((rows.map Row.name).map D.str) h = some (rows.map fun _ => D.bl true, h) := by
    intro rows
    induction rows with
    | nil => intro _; rfl
    | cons r rows ih =>
      intro hr
      have hr0 := hr r (.head _)
      exact compC_yes rfl (e_bin (e_bin (plan_table rfl) rfl (look_row hs hr0)) (e_bin (plan_table rfl) rfl (look_row hs hr0)) (own2_ob (mode_eq_ev (hs.rows r hr0) h) rfl)) (ih fun x hx => hr x (.tail _ hx))
  have c2 := cc s.rows fun _ h => h
  refine rt_ret (e_b (e_one (e_lc ik c2 (by simp; omega))) ?_)
  have : (s.rows.map fun _ => D.bl true) = (s.rows.map fun _ => true).map D.bl := by rw [List.map_map]; rfl
  rw [this, all_ev, all_true fun b hb => by
    obtain ⟨_, _, rfl⟩ := List.mem_map.mp hb
    rfl]
end SP
set_option Elab.async false
set_option linter.all false
set_option maxRecDepth 100000
set_option maxHeartbeats 4000000
namespace SP
open PySem PySem.Spec PyProof.Rows L2 HF PF
inductive Fix where
  | full
  | empty
  | rest (w : Bool) (name : Str) (ticks reach : Int)
def word : Bool → Str
  | true => "set"
  | false => "narrow"
def Fix.d : Fix → D
  | .full => .tup [.str "full"]
  | .empty => .tup [.str "empty"]
  | .rest w n t r => .tup [.str (word w), .str n, .int t, .int r]
def Fix.key : Fix → List Str
  | .full => ["full"]
  | .empty => ["empty"]
  | .rest _ n _ _ => ["rest", n]
def Fix.mark : Fix → Option Str
  | .full => some "full"
  | .empty => some "empty"
  | .rest _ _ _ _ => none
def Fix.rname : Fix → Option Str
  | .rest _ n _ _ => some n
  | _ => none
def Fix.isR : Fix → Bool
  | .rest _ _ _ _ => true
  | _ => false
def Fix.Ok : Fix → Prop
  | .rest _ n t r => NameOk n ∧ (1 ≤ t ∧ t ≤ 4) ∧ (0 ≤ r ∧ r ≤ 9)
  | _ => True
structure FixesOk (fs : List Fix) : Prop where
  each : ∀ f ∈ fs, f.Ok
  nd : (fs.map Fix.key).Nodup
  len : fs.length ≤ 8
def marksOf (fs : List Fix) : List Str := fs.filterMap Fix.mark
def restsOf (fs : List Fix) : List Fix := fs.filter Fix.isR
def rnames (fs : List Fix) : List Str := fs.filterMap Fix.rname
def gauge (fs : List Fix) : D := .ob "Gauge" ["own_corrections", "marks", "rests"] [.tup (fs.map Fix.d), .fl ((sortS (marksOf fs)).map D.str), .dk (kS (rnames fs)) ((restsOf fs).map Fix.d)]
def gaugeO (fs : List Fix) : O := .ins "Gauge" ["own_corrections", "marks", "rests"] [.tup (fs.map Fix.d), .fl ((sortS (marksOf fs)).map D.str), .dk (kS (rnames fs)) ((restsOf fs).map Fix.d)]
theorem sok_full : SOk ("full" : Str) := by decide +kernel
theorem sok_empty : SOk ("empty" : Str) := by decide +kernel
theorem sok_rest : SOk ("rest" : Str) := by decide +kernel
theorem sok_set : SOk ("set" : Str) := by decide +kernel
theorem sok_narrow : SOk ("narrow" : Str) := by decide +kernel
theorem sok_word (w : Bool) : SOk (word w) := by
  cases w
  · exact sok_narrow
  · exact sok_set
theorem key_sok {f : Fix} (h : f.Ok) : ∀ x ∈ f.key, SOk x := fun x hx => by
  cases f with
  | full => simp [Fix.key] at hx; rw [hx]; exact sok_full
  | empty => simp [Fix.key] at hx; rw [hx]; exact sok_empty
  | rest w n t r =>
    simp [Fix.key] at hx
    rcases hx with rfl | rfl
    · exact sok_rest
    · exact h.1.sok
/-! is_correction -/
theorem inKt {a : Str} {ss : List Str} {h : List O} {c : Bool} (hc : decide (a ∈ ss) = c) : f_inT (.str a) (.kt (List.map D.str ss)) h = some (.bl c, h) := by
  show (allStr (ss.map D.str)).bind _ = _
  rw [allStr_map]
  show some (D.bl (ss.any fun z => z == a), h) = _
  rw [any_beq, hc]
theorem ninKt {a : Str} {ss : List Str} {h : List O} {c : Bool} (hc : (!decide (a ∈ ss)) = c) : f_ninT (.str a) (.kt (List.map D.str ss)) h = some (.bl c, h) := by
  show (allStr (ss.map D.str)).bind _ = _
  rw [allStr_map]
  show some (D.bl (!(ss.any fun z => z == a)), h) = _
  rw [any_beq, hc]
theorem word_marks (w : Bool) : decide (word w ∈ [("full" : Str), ("empty" : Str)]) = false := by cases w <;> decide +kernel
theorem word_rests (w : Bool) : (!decide (word w ∈ [("set" : Str), ("narrow" : Str)])) = false := by cases w <;> decide +kernel
theorem corr_ev {f : Fix} (hf : f.Ok) (h : List O) : cm_is_correction [f.d] [] h = some (.bl true, h) := by
  unfold cm_is_correction b_is_correction cmP
  dsimp only
  cases f with
  | full =>
    exact rt_fn (rt_q (q_no (e_or0 (e_nT (e_t (e_isT rfl rfl rfl))) (e_or0 (e_t (e_bin (e_b (e_one rfl) rfl) rfl (eqi rfl))) (e_nT (e_t (e_isT (e_bin rfl rfl rfl) rfl rfl)))))) (rt_q1 (rt_if1 (e_t (e_bin (e_bin rfl rfl rfl) rfl (inKt (by decide +kernel)))) (rt_ret (e_bin (e_b (e_one rfl) rfl) rfl (eqi rfl))))))
  | empty =>
    exact rt_fn (rt_q (q_no (e_or0 (e_nT (e_t (e_isT rfl rfl rfl))) (e_or0 (e_t (e_bin (e_b (e_one rfl) rfl) rfl (eqi rfl))) (e_nT (e_t (e_isT (e_bin rfl rfl rfl) rfl rfl)))))) (rt_q1 (rt_if1 (e_t (e_bin (e_bin rfl rfl rfl) rfl (inKt (by decide +kernel)))) (rt_ret (e_bin (e_b (e_one rfl) rfl) rfl (eqi rfl))))))
  | rest w n t r =>
    obtain ⟨hn, ⟨t0, t1⟩, r0, r1⟩ := hf
    exact rt_fn (rt_q (q_no (e_or0 (e_nT (e_t (e_isT rfl rfl rfl))) (e_or0 (e_t (e_bin (e_b (e_one rfl) rfl) rfl (eqi rfl))) (e_nT (e_t (e_isT (e_bin rfl rfl rfl) rfl rfl)))))) (rt_q (q_no (e_t (e_bin (e_bin rfl rfl rfl) rfl (inKt (word_marks w))))) (rt_q (q_no (e_or0 (e_t (e_bin (e_bin rfl rfl rfl) rfl (ninKt (word_rests w)))) (e_t (e_bin (e_b (e_one rfl) rfl) rfl (nei rfl)))))
      (rt_ret (m_and1 (e_call (e_ca0 (e_one (e_bin rfl rfl rfl))) (name_ev hn h)) (m_and1 (e_call (e_ca0 (e_cons (e_bin rfl rfl rfl) (e_cons rfl (e_one rfl)))) (number_t h t0 t1)) (e_call (e_ca0 (e_cons (e_bin rfl rfl rfl) (e_cons rfl (e_one rfl)))) (number_t h r0 r1))))))))
theorem key_ev (f : Fix) (h : List O) : cm_key_of [f.d] [] h = some (.tup (f.key.map D.str), h) := by
  unfold cm_key_of b_key_of cmP
  dsimp only
  cases f with
  | full => exact rt_fn (rt_ret (e_if1 (e_t (e_bin (e_b (e_one rfl) rfl) rfl (eqi rfl))) (e_sl rfl rfl (e_os rfl) rfl)))
  | empty => exact rt_fn (rt_ret (e_if1 (e_t (e_bin (e_b (e_one rfl) rfl) rfl (eqi rfl))) (e_sl rfl rfl (e_os rfl) rfl)))
  | rest w n t r => exact rt_fn (rt_ret (e_if0 (e_t (e_bin (e_b (e_one rfl) rfl) rfl (eqi rfl))) (e_tup (e_cons rfl (e_one (e_bin rfl rfl rfl))) (by simp [Fix.key]))))
theorem toP_tup_str (h : List O) {n : Nat} {xs : List Str} (hx : ∀ x ∈ xs, SOk x) : toP h (n + 2) (.tup (xs.map D.str)) = some (.tuple (xs.map PyData.str)) := by
  rw [toP, toPs_str h n xs hx]
  rfl
theorem toPs_tups (h : List O) (n : Nat) : ∀ ks : List (List Str), (∀ k ∈ ks, ∀ x ∈ k, SOk x) → toPs (toP h (n + 2)) (ks.map fun k => D.tup (k.map D.str)) = some (ks.map fun k => PyData.tuple (k.map PyData.str))
  | [], _ => rfl
  | k :: ks, hk => by
    rw [List.map_cons, toPs, toP_tup_str h (hk k (.head _)), Option.bind_some, toPs_tups h n ks fun x hx => hk x (.tail _ hx)]
    rfl
theorem any_tups (k : List Str) : ∀ ks : List (List Str), ((ks.map fun k => PyData.tuple (k.map PyData.str)).any fun z => PyData.eqv z (.tuple (k.map PyData.str))) = decide (k ∈ ks)
  | [] => rfl
  | j :: ks => by
    rw [List.map_cons, List.any_cons, any_tups k ks, PyData.eqv, eqvAll_str]
    simp [eq_comm]
theorem inL_tups {h : List O} {k : List Str} {ks : List (List Str)} (hk : ∀ x ∈ k, SOk x) (hks : ∀ k ∈ ks, ∀ x ∈ k, SOk x) : f_inL (.tup (k.map D.str)) (.fl (ks.map fun k => D.tup (k.map D.str))) h = some (.bl (decide (k ∈ ks)), h) := by
  unfold f_inL
  have e : toP h 12 (.fl (ks.map fun k => D.tup (k.map D.str))) = some (.list (ks.map fun k => PyData.tuple (k.map PyData.str))) := by
    rw [toP, toPs_tups h 9 ks hks]
    rfl
  rw [toP_tup_str h (n := 10) hk, e, Option.bind_some, Option.bind_some]
  dsimp only
  rw [any_tups]
theorem mem_take_nd {α : Type} {xs : List α} (nd : xs.Nodup) {j : Nat} {a : α} (e : xs[j]? = some a) : a ∉ xs.take j := fun hm => by
  obtain ⟨i, hi, e2⟩ := List.getElem_of_mem hm
  rw [List.length_take] at hi
  have hj := (List.getElem?_eq_some_iff.mp e).1
  rw [List.getElem_take] at e2
  have := (List.getElem?_eq_some_iff.mp e).2
  have := (List.getElem_inj nd).mp (e2.trans this.symm)
  omega
/-! the dict of the rests -/
def isR4 : D → Bool
  | .tup xs => decide (xs.length = 4)
  | _ => false
theorem compK_rests {slw : Sl} {h : List O} : ∀ (fs pre : List Fix), ((pre ++ fs).map Fix.key).Nodup → (pre ++ fs).length ≤ 1000 → slw = [some (.loc 0), slw[1]?.join, slw[2]?.join, none, slw[4]?.join] →
    compK (g_n 3) (m_t (m_bin f_eq (m_b c_len (a_cons (m_v 3) a_nil)) (m_c (.int 4)))) (m_bin f_ix (m_v 3) (m_c (.int 1))) (m_v 3) slw (fs.map Fix.d) (kS (rnames pre)) ((restsOf pre).map Fix.d) h = some ((kS (rnames (pre ++ fs)), (restsOf (pre ++ fs)).map Fix.d), h)
  | [], pre, _, _, _ => by rw [List.append_nil]; rfl
  | f :: fs, pre, nd, hl, hs => by
    have e0 : pre ++ f :: fs = (pre ++ [f]) ++ fs := by simp
    rw [e0] at nd hl ⊢
    have ih := compK_rests (slw := slw) (h := h) fs (pre ++ [f]) nd hl hs
    rw [hs] at ih ⊢
    rw [List.map_cons]
    cases f with
    | full =>
      have r1 : rnames (pre ++ [.full]) = rnames pre := by simp [rnames, Fix.rname]
      have r2 : restsOf (pre ++ [.full]) = restsOf pre := by simp [restsOf, Fix.isR]
      rw [r1, r2] at ih
      exact ih
    | empty =>
      have r1 : rnames (pre ++ [.empty]) = rnames pre := by simp [rnames, Fix.rname]
      have r2 : restsOf (pre ++ [.empty]) = restsOf pre := by simp [restsOf, Fix.isR]
      rw [r1, r2] at ih
      exact ih
    | rest w n t r =>
      have r1 : rnames (pre ++ [.rest w n t r]) = rnames pre ++ [n] := by simp [rnames, Fix.rname]
      have r2 : restsOf (pre ++ [.rest w n t r]) = restsOf pre ++ [.rest w n t r] := by simp [restsOf, Fix.isR]
      have hn : n ∉ rnames pre := fun hm => by
        obtain ⟨g, hg, e⟩ := List.mem_filterMap.mp hm
        cases g with
        | full => cases e
        | empty => cases e
        | rest w' n' t' r' =>
          cases e
          rw [List.map_append, List.map_append] at nd
          exact (List.nodup_append.mp (List.nodup_append.mp nd).1).2.2 _ (List.mem_map.mpr ⟨_, hg, rfl⟩) _ (by simp; rfl) rfl
      have hk : (rnames pre).length ≤ 1000 := by
        have : (rnames pre).length ≤ pre.length := List.length_filterMap_le _ _
        simp at hl
        omega
      rw [r1, r2, List.map_append, List.map_singleton, ← putKsG_new hn, ← putVsG_new (xs := (restsOf pre).map Fix.d) (d := (Fix.rest w n t r).d) hn] at ih
      have hz : szOk (kS (rnames pre)).length = true := szOk_of (by rw [List.length_map]; omega)
      rw [compK]
      show (if szOk (kS (rnames pre)).length = true then _ else _) = _
      rw [if_pos hz]
      exact ih
end SP
set_option Elab.async false
set_option linter.all false
set_option maxRecDepth 100000
set_option maxHeartbeats 4000000
namespace SP
open PySem PySem.Spec PyProof.Rows L2 HF PF
def isM1 : D → Bool
  | .tup xs => decide (((xs.length : Nat) : Int) = 1)
  | _ => false
def hd1 : D → D
  | .tup (x :: _) => x
  | d => d
theorem marks_eq : ∀ fs : List Fix, (((fs.map Fix.d).filter isM1).map hd1) = (marksOf fs).map D.str
  | [] => rfl
  | .full :: fs => congrArg (D.str "full" :: ·) (marks_eq fs)
  | .empty :: fs => congrArg (D.str "empty" :: ·) (marks_eq fs)
  | .rest w n t r :: fs => marks_eq fs
theorem sortS_ev {ss : List Str} {h : List O} (hl : ss.length < 64) : c_sortS [.fl (ss.map D.str)] h = some (.fl ((sortS ss).map D.str), h) := by
  show (allStr (ss.map D.str)).bind _ = _
  rw [allStr_map]
  show (if decide (ss.length < 64) = true then _ else _) = _
  rw [if_pos (decide_eq_true hl)]
theorem gauge_body {fs : List Fix} (G : FixesOk fs) : Nx (b_Gauge___init__ [some (.loc 0), some (.tup (fs.map Fix.d)), none, none, none] [.ins "Gauge" [] []]) [gaugeO fs] := by
  have h8 := G.len
  unfold b_Gauge___init__
  obtain ⟨_, e, s2, s3, rfl⟩ := forL_keep (g := g_q 2 (gs_cons (g_n 2) (gs_cons (g_n 3) gs_nil))) (b := s_seq (s_if (t_or (t_not (m_t (m_call cm_is_correction [] (m_ca (a_cons (m_v 3) a_nil) a_nil)))) (m_t (m_bin f_ge (m_v 2) (m_c (.int 8))))) s_never s_nil)
  (s_if (m_t (m_bin f_inL (m_call cm_key_of [] (m_ca (a_cons (m_v 3) a_nil) a_nil)) (m_lc (i_q (m_sl (m_v 1) o_none (o_some (m_v 2)))) (g_n 4) t_yes (m_call cm_key_of [] (m_ca (a_cons (m_v 4) a_nil) a_nil)) (List.map (·.2) ([("elder", 4)] : List (Str × Nat)))))) s_never s_nil)) (h := [.ins "Gauge" [] []])
    (fun sl => ∃ s2 s3, sl = [some (.loc 0), some (.tup (fs.map Fix.d)), s2, s3, none]) (enumF 0 (fs.map Fix.d)) _ ⟨none, none, rfl⟩ (fun x hx sl ⟨s2, s3, e⟩ => by
      subst e
      obtain ⟨j, a, rfl, ej⟩ := enumF_mem _ _ _ hx
      rw [List.getElem?_map] at ej
      cases ef : fs[j]? with
      | none => rw [ef] at ej; cases ej
      | some f =>
        rw [ef] at ej
        cases ej
        have hj := (List.getElem?_eq_some_iff.mp ef).1
        have hf := G.each f (List.mem_of_getElem? ef)
        have ge8 : f_ge (.int ((0 + j : Nat) : Int)) (.int 8) [.ins "Gauge" [] []] = some (.bl false, [.ins "Gauge" [] []]) := by
          show some (D.bl (decide ((8 : Int) ≤ ((0 + j : Nat) : Int))), _) = _
          rw [decide_eq_false (by omega)]
        have z : f_sl (.tup (fs.map Fix.d)) none (some ((0 + j : Nat) : Int)) [.ins "Gauge" [] []] = some (.tup ((fs.take j).map Fix.d), [.ins "Gauge" [] []]) := by
          show some (D.tup (HF.cutD _ _ _), _) = _
          rw [Nat.zero_add, cutD_to (by rw [List.length_map]; omega), List.map_take]
        have cc : ∀ gs : List Fix, ∀ slw : Sl, slw.length = 5 → compC (g_n 4) t_yes (m_call cm_key_of [] (m_ca (a_cons (m_v 4) a_nil) a_nil)) slw (gs.map Fix.d) [.ins "Gauge" [] []] = some ((gs.map Fix.key).map fun k => D.tup (k.map D.str), [.ins "Gauge" [] []]) := by
          intro gs slw hsl
          induction gs with
          | nil => rfl
          | cons g gs ih =>
            refine compC_yes rfl (e_call (e_ca0 (e_one ?_)) (key_ev g _)) ih
            unfold m_v
            rw [List.getElem?_set_self (by omega)]
        have nk : f.key ∉ (fs.take j).map Fix.key := by
          rw [List.map_take]
          exact mem_take_nd G.nd (by rw [List.getElem?_map, ef]; rfl)
        have il := inL_tups (h := [.ins "Gauge" [] []]) (k := f.key) (ks := (fs.take j).map Fix.key) (key_sok hf) (fun k hk x hx => by
          obtain ⟨g, hg, rfl⟩ := List.mem_map.mp hk
          exact key_sok (G.each g (List.mem_of_mem_take hg)) x hx)
        rw [decide_eq_false nk] at il
        exact ⟨_, _, rfl, q_nx (q_no (e_or0 (e_nT (e_t (e_call (e_ca0 (e_one rfl)) (corr_ev hf _)))) (e_t (e_bin rfl rfl ge8)))) (q_no (e_t (e_bin (e_call (e_ca0 (e_one rfl)) (key_ev f _)) (e_lc (e_qt (e_sl rfl rfl (e_os rfl) z)) (cc _ _ rfl) (by simp; omega)) il))), ⟨_, _, rfl⟩⟩)
  refine nx_q (q_for (e_enT rfl) e) ?_
  refine nx_q (q_fld rfl rfl rfl) ?_
  have lm := lc_flt (mi := i_q (m_v 1)) (g := g_n 3) (tt := m_t (m_bin f_eq (m_b c_len (a_cons (m_v 3) a_nil)) (m_c (.int 1)))) (te := m_bin f_ix (m_v 3) (m_c (.int 0))) (vs := [3]) (sl := [some (.loc 0), some (.tup (fs.map Fix.d)), s2, s3, none]) (h := [O.ins "Gauge" ["own_corrections"] [.tup (fs.map Fix.d)]]) (p := isM1) (f := hd1) (e_qt rfl) (by rw [List.length_map]; omega) (fun d hd => by
    obtain ⟨f, hf, rfl⟩ := List.mem_map.mp hd
    refine ⟨_, rfl, ?_, ?_⟩
    · cases f <;> exact e_t (e_bin (e_b (e_one rfl) rfl) rfl (eqi rfl))
    · cases f
      · exact fun _ => e_bin rfl rfl rfl
      · exact fun _ => e_bin rfl rfl rfl
      · exact fun z => by cases z)
  rw [marks_eq] at lm
  have ml : (marksOf fs).length < 64 := by
    have : (marksOf fs).length ≤ fs.length := List.length_filterMap_le _ _
    omega
  refine nx_q (q_fld (e_b (e_one lm) (sortS_ev ml)) rfl rfl) ?_
  have ck := compK_rests (slw := [some (.loc 0), some (.tup (fs.map Fix.d)), s2, none, none]) (h := [O.ins "Gauge" ["own_corrections", "marks"] [.tup (fs.map Fix.d), .fl ((sortS (marksOf fs)).map D.str)]]) fs [] G.nd (by simp; omega) rfl
  have dc : m_dc (i_q (m_v 1)) (g_n 3) (m_t (m_bin f_eq (m_b c_len (a_cons (m_v 3) a_nil)) (m_c (.int 4)))) (m_bin f_ix (m_v 3) (m_c (.int 1))) (m_v 3) [3] [some (.loc 0), some (.tup (fs.map Fix.d)), s2, s3, none] [O.ins "Gauge" ["own_corrections", "marks"] [.tup (fs.map Fix.d), .fl ((sortS (marksOf fs)).map D.str)]]
      = some (.dk (kS (rnames fs)) ((restsOf fs).map Fix.d), [O.ins "Gauge" ["own_corrections", "marks"] [.tup (fs.map Fix.d), .fl ((sortS (marksOf fs)).map D.str)]]) := by
    unfold m_dc
    rw [e_qt (m := m_v 1) rfl, Option.bind_some]
    exact (congrArg (fun o => Option.bind o fun z => some (D.dk z.1.1 z.1.2, z.2)) ck).trans rfl
  exact ⟨_, q_fldE dc rfl rfl rfl⟩
theorem fix_stb (f : Fix) : Stb f.d := by
  cases f <;> exact stb_tup fun x hx => by
    simp at hx
    first
      | (subst hx; exact fun _ _ => rfl)
      | (rcases hx with rfl | rfl | rfl | rfl <;> exact fun _ _ => rfl)
theorem fix_stb0 (f : Fix) (n : Nat) (h : List O) : frz (n + 2) f.d h = some (f.d, h) := by
  cases f <;> rfl
theorem fix_noLoc (f : Fix) : f.d.noLoc = true := by
  cases f <;> simp [Fix.d, D.noLoc, D.noLocs]
theorem noLocs_fix : ∀ fs : List Fix, D.noLocs (fs.map Fix.d) = true
  | [] => rfl
  | f :: fs => by rw [List.map_cons, D.noLocs, fix_noLoc, noLocs_fix fs]; rfl
theorem frz_gauge {fs : List Fix} : frz 8 (.loc 0) [gaugeO fs] = some (gauge fs, [.gone]) := by
  show (mapS (frz 7) [.tup (fs.map Fix.d), .fl ((sortS (marksOf fs)).map D.str), .dk (kS (rnames fs)) ((restsOf fs).map Fix.d)] [.gone]).bind _ = _
  rw [mapS_stb fun d hd => by
    simp only [List.mem_cons, List.not_mem_nil, or_false] at hd
    rcases hd with rfl | rfl | rfl
    · show (mapS (frz 6) (fs.map Fix.d) _).bind _ = _
      rw [mapS_stb fun x hx => by
        obtain ⟨f, _, rfl⟩ := List.mem_map.mp hx
        exact fix_stb0 f 4 _]
      rfl
    · rfl
    · rfl]
  rfl
theorem gauge_mk {fs : List Fix} (G : FixesOk fs) : mkP "Gauge" cm_Gauge___init__ (fs.map Fix.d) [] = some (gauge fs) := by
  have h8 := G.len
  refine mkP_ev (noLocs_fix fs) rfl (h1 := [gaugeO fs]) ?_ frz_gauge (by
    simp [gauge, D.noLoc, D.noLocs, noLocs_fix, noLocs_str])
  exact star_nx (gauge_body G) (by simp) rfl (by simp; omega)
end SP
set_option Elab.async false
set_option linter.all false
set_option maxRecDepth 100000
set_option maxHeartbeats 4000000
namespace SP
open PySem PySem.Spec PyProof.Rows L2 HF PF
theorem ownIn_ob {c : Str} {cm : CM} {g : Bool → Bool} {ks : List Str} {xs : List D} {x : D} {h h1 : List O} {b b2 : Bool} (e : cm [.ob c ks xs, x] [] h = some (.bl b, h1)) (hg : g b = b2) : f_ownIn c cm g x (.ob c ks xs) h = some (.bl b2, h1) := by
  unfold f_ownIn
  show (if c = c then _ else _) = _
  rw [if_pos rfl, e, ← hg]
  rfl
structure Pt where
  name : Str
  run : Int
  amt : Int
def Pt.d (p : Pt) : D := .tup [.str p.name, .int p.run, .int p.amt]
structure Pt.Ok (s : Shape) (p : Pt) : Prop where
  mem : p.name ∈ s.names
  first : p.run = 0 → s.names[0]? = some p.name
  r0 : 0 ≤ p.run
  r4 : p.run ≤ 4
  a0 : 0 ≤ p.amt
  a1 : p.amt ≤ s.size
def Shape.enter (s : Shape) (p : Pt) (name : Str) (flow : Int) : Pt := ⟨name, if name = p.name then min (p.run + 1) 4 else 1, max 0 (min s.size (p.amt + flow))⟩
theorem enter_ok {s : Shape} (hs : s.Ok) {p : Pt} (hp : p.Ok s) {name : Str} (hn : name ∈ s.names) (flow : Int) : (s.enter p name flow).Ok s := by
  have := hp.r0
  have := hp.r4
  have h1 := hs.size0
  refine ⟨hn, fun z => ?_, ?_, ?_, ?_, ?_⟩
  · exfalso
    have z : (if name = p.name then min (p.run + 1) 4 else 1) = (0 : Int) := z
    split at z <;> omega
  · show (0 : Int) ≤ if name = p.name then min (p.run + 1) 4 else 1
    split <;> omega
  · show (if name = p.name then min (p.run + 1) 4 else 1) ≤ (4 : Int)
    split <;> omega
  · show (0 : Int) ≤ max 0 (min s.size (p.amt + flow))
    omega
  · show max 0 (min s.size (p.amt + flow)) ≤ s.size
    omega
theorem names_sok {s : Shape} (hs : s.Ok) {x : Str} (hx : x ∈ s.names) : NameOk x := by
  obtain ⟨r, hr, rfl⟩ := List.mem_map.mp hx
  exact (hs.rows r hr).name
section
variable {s : Shape} (hs : s.Ok)
include hs
theorem contains_ev {x : Str} (hx : x ∈ s.names) (h : List O) : cm_Plan___contains__ [s.plan, .str x] [] h = some (.bl true, h) := by
  unfold cm_Plan___contains__ b_Plan___contains__ cmP
  dsimp only
  refine rt_fn (rt_ret (m_and1 (e_isT rfl rfl rfl) (e_bin rfl (plan_table rfl) ?_)))
  rw [inD_dk, look_in hs hx]
theorem first_ev (h : List O) : ∃ x, s.names[0]? = some x ∧ f_ix (.fl (s.names.map D.str)) (.int 0) h = some (.str x, h) := by
  have n1 := hs.n1
  have hl : 0 < s.names.length := by rw [Shape.names, List.length_map]; omega
  refine ⟨s.names[0], List.getElem?_eq_getElem hl, ix_fl (by decide) ?_⟩
  show (s.names.map D.str)[0]? = _
  rw [List.getElem?_map, List.getElem?_eq_getElem hl]
  rfl
theorem ownIn_plan {x : Str} (hx : x ∈ s.names) (h : List O) : f_ownIn "Plan" cm_Plan___contains__ not (.str x) s.plan h = some (.bl false, h) := ownIn_ob (contains_ev hs hx h) rfl
theorem is_place_ev {p : Pt} (hp : p.Ok s) (h : List O) : cm_Plan_is_place [s.plan, p.d] [] h = some (.bl true, h) := by
  have r0 := hp.r0
  obtain ⟨x, e0, e1⟩ := first_ev hs h
  have hx : x ∈ s.names := List.mem_of_getElem? e0
  unfold cm_Plan_is_place b_Plan_is_place cmP
  dsimp only
  have eqn : f_eq (.str p.name) (.str x) h = some (.bl (decide (p.name = x)), h) := eq_str (names_sok hs hp.mem).sok (names_sok hs hx).sok
  refine rt_fn (rt_q (q_no (e_or0 (e_nT (e_t (e_isT rfl rfl rfl))) (e_or0 (e_t (e_bin (e_b (e_one rfl) rfl) rfl (nei rfl))) (e_t (e_bin (e_bin rfl rfl rfl) rfl (ownIn_plan hs hp.mem h)))))) ?_)
  by_cases c : p.name = x
  · rw [decide_eq_true c] at eqn
    refine rt_q (q_set (e_if1 (e_t (e_bin (e_bin rfl rfl rfl) (e_bin (meth_plan rfl rfl (plan_names_ev h)) rfl e1) eqn)) rfl)) (rt_ret ?_)
    exact m_and1 (e_call (e_ca0 (e_cons (e_bin rfl rfl rfl) (e_cons rfl (e_one rfl)))) (number_t h hp.r0 hp.r4)) (e_call (e_ca0 (e_cons (e_bin rfl rfl rfl) (e_cons rfl (e_one (plan_size rfl))))) (number_t h hp.a0 hp.a1))
  · rw [decide_eq_false c] at eqn
    refine rt_q (q_set (e_if0 (e_t (e_bin (e_bin rfl rfl rfl) (e_bin (meth_plan rfl rfl (plan_names_ev h)) rfl e1) eqn)) rfl)) (rt_ret ?_)
    have r1 : 1 ≤ p.run := by
      by_cases z : p.run = 0
      · have := hp.first z
        rw [e0] at this
        cases this
        exact absurd rfl c
      · omega
    exact m_and1 (e_call (e_ca0 (e_cons (e_bin rfl rfl rfl) (e_cons rfl (e_one rfl)))) (number_t h r1 hp.r4)) (e_call (e_ca0 (e_cons (e_bin rfl rfl rfl) (e_cons rfl (e_one (plan_size rfl))))) (number_t h hp.a0 hp.a1))
theorem check_place_ev {p : Pt} (hp : p.Ok s) (h : List O) : cm_Plan_check_place [s.plan, p.d] [] h = some (.non, h) := by
  unfold cm_Plan_check_place b_Plan_check_place cmP
  dsimp only
  exact nx_fn ⟨_, q_no (e_nT (e_t (meth_plan rfl (e_ca0 (e_one rfl)) (is_place_ev hs hp h))))⟩
theorem start_place_ev (h : List O) : ∃ x, s.names[0]? = some x ∧ cm_Plan_start_place [s.plan] [] h = some ((⟨x, 0, s.start⟩ : Pt).d, h) := by
  obtain ⟨x, e0, e1⟩ := first_ev hs h
  refine ⟨x, e0, ?_⟩
  unfold cm_Plan_start_place b_Plan_start_place cmP
  dsimp only
  exact rt_fn (rt_ret (e_tup (e_cons (e_bin (meth_plan rfl rfl (plan_names_ev h)) rfl e1) (e_cons rfl (e_one (plan_start rfl))))))
theorem law_start_place_ev (h : List O) : ∃ x, s.names[0]? = some x ∧ cm__law_start_place [s.d] [] h = some ((⟨x, 0, s.start⟩ : Pt).d, h) := by
  have n1 := hs.n1
  have hl : 0 < s.rows.length := by omega
  refine ⟨s.rows[0].name, by rw [Shape.names, List.getElem?_map, List.getElem?_eq_getElem hl]; rfl, ?_⟩
  unfold cm__law_start_place b__law_start_place cmP
  dsimp only
  have i0 : f_ix (.fl (s.rows.map Row.d)) (.int 0) h = some (s.rows[0].d, h) := ix_fl (by decide) (by
    show (s.rows.map Row.d)[0]? = _
    rw [List.getElem?_map, List.getElem?_eq_getElem hl]
    rfl)
  exact rt_fn (rt_ret (e_tup (e_cons (e_bin (e_bin (e_bin rfl rfl rfl) rfl i0) rfl rfl) (e_cons rfl (e_one (e_bin rfl rfl rfl))))))
theorem start_ok {x : Str} (e : s.names[0]? = some x) : (⟨x, 0, s.start⟩ : Pt).Ok s := ⟨List.mem_of_getElem? e, fun _ => e, Int.le_refl _, (show (0 : Int) ≤ 4 by decide), hs.start0, hs.start1⟩
/-! entered -/
theorem entered_ev {p : Pt} (hp : p.Ok s) {x : Str} (hx : x ∈ s.names) (f : Int) (h : List O) : cm_Plan_entered [s.plan, p.d, .str x, .int f] [] h = some ((s.enter p x f).d, h) := by
  unfold cm_Plan_entered b_Plan_entered cmP
  dsimp only
  have eqn : f_eq (.str x) (.str p.name) h = some (.bl (decide (x = p.name)), h) := eq_str (names_sok hs hx).sok (names_sok hs hp.mem).sok
  have mn : ∀ i j : Int, c_min2 [.int i, .int j] h = some (.int (min i j), h) := fun i j => by
    show some (D.int (if j < i then j else i), h) = _
    have : (if j < i then j else i) = min i j := by split <;> omega
    rw [this]
  have mx : ∀ i j : Int, c_max2 [.int i, .int j] h = some (.int (max i j), h) := fun i j => by
    show some (D.int (if j > i then j else i), h) = _
    have : (if j > i then j else i) = max i j := by split <;> omega
    rw [this]
  by_cases c : x = p.name
  · rw [decide_eq_true c] at eqn
    refine (rt_fn (rt_q (q_set (e_if1 (e_t (e_bin rfl (e_bin rfl rfl rfl) eqn)) (e_b (e_cons (e_bin (e_bin rfl rfl rfl) rfl rfl) (e_one rfl)) (mn _ _)))) (rt_ret (e_tup (e_cons rfl (e_cons rfl (e_one (e_b (e_cons rfl (e_one (e_b (e_cons (plan_size rfl) (e_one (e_bin (e_bin rfl rfl rfl) rfl rfl))) (mn _ _)))) (mx _ _))))))))).trans ?_
    unfold Shape.enter
    rw [if_pos c]
    rfl
  · rw [decide_eq_false c] at eqn
    refine (rt_fn (rt_q (q_set (e_if0 (e_t (e_bin rfl (e_bin rfl rfl rfl) eqn)) rfl)) (rt_ret (e_tup (e_cons rfl (e_cons rfl (e_one (e_b (e_cons rfl (e_one (e_b (e_cons (plan_size rfl) (e_one (e_bin (e_bin rfl rfl rfl) rfl rfl))) (mn _ _)))) (mx _ _))))))))).trans ?_
    unfold Shape.enter
    rw [if_neg c]
    rfl
theorem law_entered_ev {p : Pt} (hp : p.Ok s) {x : Str} (hx : x ∈ s.names) (f : Int) (h : List O) : cm__law_entered [s.d, p.d, .str x, .int f] [] h = some ((s.enter p x f).d, h) := by
  unfold cm__law_entered b__law_entered cmP
  dsimp only
  have eqn : f_eq (.str x) (.str p.name) h = some (.bl (decide (x = p.name)), h) := eq_str (names_sok hs hx).sok (names_sok hs hp.mem).sok
  have mn : ∀ i j : Int, c_minL [.fl [.int i, .int j]] h = some (.int (min i j), h) := fun i j => rfl
  have mx : ∀ i j : Int, c_maxL [.fl [.int i, .int j]] h = some (.int (max i j), h) := fun i j => rfl
  by_cases c : x = p.name
  · rw [decide_eq_true c] at eqn
    refine (rt_fn (rt_q (q_set (e_if1 (e_t (e_bin rfl (e_bin rfl rfl rfl) eqn)) (e_b (e_one (e_fl (e_cons (e_bin (e_bin rfl rfl rfl) rfl rfl) (e_one rfl)))) (mn _ _)))) (rt_ret (e_tup (e_cons rfl (e_cons rfl (e_one (e_b (e_one (e_fl (e_cons rfl (e_one (e_b (e_one (e_fl (e_cons (e_bin rfl rfl rfl) (e_one (e_bin (e_bin rfl rfl rfl) rfl rfl))))) (mn _ _)))))) (mx _ _))))))))).trans ?_
    unfold Shape.enter
    rw [if_pos c]
    rfl
  · rw [decide_eq_false c] at eqn
    refine (rt_fn (rt_q (q_set (e_if0 (e_t (e_bin rfl (e_bin rfl rfl rfl) eqn)) rfl)) (rt_ret (e_tup (e_cons rfl (e_cons rfl (e_one (e_b (e_one (e_fl (e_cons rfl (e_one (e_b (e_one (e_fl (e_cons (e_bin rfl rfl rfl) (e_one (e_bin (e_bin rfl rfl rfl) rfl rfl))))) (mn _ _)))))) (mx _ _))))))))).trans ?_
    unfold Shape.enter
    rw [if_neg c]
    rfl
end
end SP
set_option Elab.async false
set_option linter.all false
set_option maxRecDepth 100000
set_option maxHeartbeats 4000000
namespace SP
open PySem PySem.Spec PyProof.Rows L2 HF PF
/-! the row of a name -/
theorem row_inj {rows : List Row} (nd : (rows.map Row.name).Nodup) {a b : Row} (ha : a ∈ rows) (hb : b ∈ rows) (e : a.name = b.name) : a = b := by
  induction rows with
  | nil => cases ha
  | cons r rows ih =>
    rw [List.map_cons, List.nodup_cons] at nd
    rcases List.mem_cons.mp ha with ha' | ha' <;> rcases List.mem_cons.mp hb with hb' | hb'
    · rw [ha', hb']
    · exact absurd (List.mem_map.mpr ⟨b, hb', by rw [← e, ha']⟩) nd.1
    · exact absurd (List.mem_map.mpr ⟨a, ha', by rw [e, hb']⟩) nd.1
    · exact ih nd.2 ha' hb'
theorem names_get {s : Shape} {x : Str} (hx : x ∈ s.names) : ∃ r ∈ s.rows, r.name = x := List.mem_map.mp hx
section
variable {s : Shape} (hs : s.Ok)
include hs
theorem row_of_ev {r : Row} (hr : r ∈ s.rows) (h : List O) : cm__law_row_of [s.d, .str r.name] [] h = some (r.d, h) := by
  have n6 := hs.n6
  unfold cm__law_row_of b__law_row_of cmP
  dsimp only
  have lm := lc_flt (mi := i_q (m_bin f_ix (m_v 0) (m_c (.int 2)))) (g := g_n 2) (tt := m_t (m_bin f_eq (m_bin f_ix (m_v 2) (m_c (.int 0))) (m_v 1))) (te := m_v 2) (vs := [2]) (sl := [some s.d, some (.str r.name), none]) (h := h) (ds := s.rows.map Row.d)
    (p := fun d => match d with
      | .fl (.str n :: _) => decide (n = r.name)
      | _ => false) (f := id) (e_q (e_bin rfl rfl rfl)) (by rw [List.length_map]; omega) (fun d hd => by
      obtain ⟨q, hq, rfl⟩ := List.mem_map.mp hd
      exact ⟨_, rfl, e_t (e_bin (e_bin rfl rfl rfl) rfl (eq_str (hs.rows q hq).name.sok (hs.rows r hr).name.sok)), fun _ => rfl⟩)
  rw [List.map_id] at lm
  refine rt_fn (rt_ret (e_bin lm rfl (ix_fl (by decide) ?_)))
  have key : ∀ rows : List Row, (∀ q ∈ rows, q ∈ s.rows) → r ∈ rows → ((rows.map Row.d).filter (fun d => match d with
      | .fl (.str n :: _) => decide (n = r.name)
      | _ => false))[0]? = some r.d := by
    intro rows
    induction rows with
    | nil => intro _ h; cases h
    | cons q rows ih =>
      intro hq hm
      rw [List.map_cons, List.filter_cons]
      by_cases c : q.name = r.name
      · have : q = r := row_inj hs.nd (hq q (.head _)) hr c
        subst this
        have : (match q.d with
          | .fl (.str n :: _) => decide (n = q.name)
          | _ => false) = true := decide_eq_true rfl
        rw [if_pos this]
        rfl
      · have : ¬ (match q.d with
          | .fl (.str n :: _) => decide (n = r.name)
          | _ => false) = true := by
          show ¬ decide (q.name = r.name) = true
          rw [decide_eq_false c]
          exact Bool.false_ne_true
        rw [if_neg this]
        refine ih (fun x hx => hq x (.tail _ hx)) ?_
        rcases List.mem_cons.mp hm with rfl | hm
        · exact absurd rfl c
        · exact hm
  exact key s.rows (fun _ h => h) hr
theorem mcontains_ev {r : Row} {f : Int} (h0 : r.low ≤ f) (h1 : f ≤ r.high) (h : List O) : cm_Mode___contains__ [r.mode, .int f] [] h = some (.bl true, h) := by
  unfold cm_Mode___contains__ b_Mode___contains__ cmP
  dsimp only
  exact rt_fn (rt_ret (e_call (e_ca0 (e_cons rfl (e_cons (mode_low r rfl) (e_one (mode_high r rfl))))) (number_t h h0 h1)))
structure Tick (s : Shape) (p : Pt) (q r : Row) (f : Int) : Prop where
  mq : q ∈ s.rows
  qn : q.name = p.name
  mr : r ∈ s.rows
  next : r.name ∈ q.late
  f0 : r.low ≤ f
  f1 : f ≤ r.high
theorem moved_ev {p : Pt} (hp : p.Ok s) {q r : Row} {f : Int} (T : Tick s p q r f) (h : List O) : cm_Plan_moved [s.plan, p.d, .str r.name, .int f] [] h = some ((s.enter p r.name f).d, h) := by
  have hr := hs.rows r T.mr
  have hq := hs.rows q T.mq
  have hrn : r.name ∈ s.names := List.mem_map.mpr ⟨r, T.mr, rfl⟩
  unfold cm_Plan_moved b_Plan_moved cmP
  dsimp only
  have lk : f_dget (.dk (kS s.names) (s.rows.map Row.mode)) (.str p.name) h = some (q.mode, h) := by
    rw [← T.qn]
    exact look_row hs T.mq
  have ni : f_ninL (.str r.name) (.fl (q.late.map D.str)) h = some (.bl false, h) := by
    rw [ninL_str hr.name.sok fun x hx => (hq.lname x hx).sok, decide_eq_true T.next]
    rfl
  refine rt_fn (rt_q (q_ex (meth_plan rfl (e_ca0 (e_one rfl)) (check_place_ev hs hp h))) (rt_q (q_set (meth_plan rfl (e_ca0 (e_one rfl)) (plan_mode_ev hs T.mr h))) ?_))
  refine rt_q (q_no (e_t (e_bin rfl (meth_mode (e_bin (plan_table rfl) (e_bin rfl rfl rfl) lk) rfl (followers_ev q h)) ni))) ?_
  refine rt_q (q_no (e_t (e_bin rfl rfl (ownIn_ob (mcontains_ev hs T.f0 T.f1 h) rfl)))) ?_
  exact rt_ret (meth_plan rfl (e_ca0 (e_cons rfl (e_cons rfl (e_one rfl)))) (entered_ev hs hp hrn f h))
end
/-! lists that grow in a loop -/
theorem app_loop {g : FG} {b : FS} {h : List O} (P : Sl → Prop) (F : D → List D) : ∀ (xs : List D) (sl : Sl) (acc : List D), P sl → acc.length + (xs.flatMap F).length ≤ 90000 →
    (∀ x ∈ xs, ∀ sl acc, P sl → acc.length + (F x).length ≤ 90000 → ∃ s1 s2, g x sl = some s1 ∧ b s1 (h ++ [.lst acc]) = some (.nx, s2, h ++ [.lst (acc ++ F x)]) ∧ P s2) →
    ∃ sl', forL g b xs sl (h ++ [.lst acc]) = some (.nx, sl', h ++ [.lst (acc ++ xs.flatMap F)]) ∧ P sl'
  | [], sl, acc, p, _, _ => ⟨sl, by rw [List.flatMap_nil, List.append_nil]; rfl, p⟩
  | x :: xs, sl, acc, p, hl, hx => by
    rw [List.flatMap_cons, List.length_append] at hl
    obtain ⟨s1, s2, e1, e2, p2⟩ := hx x (.head _) sl acc p (by omega)
    obtain ⟨s3, e3, p3⟩ := app_loop P F xs s2 (acc ++ F x) p2 (by rw [List.length_append]; omega) fun y hy => hx y (.tail _ hy)
    refine ⟨s3, l_nx e1 e2 ?_, p3⟩
    rw [e3, List.flatMap_cons, List.append_assoc]
/-! ticks -/
def flowsD (r : Row) : List D := (List.range (r.high + 1 - r.low).toNat).map fun k => D.int (r.low + (k : Nat))
theorem flowsD_mem {r : Row} {d : D} (h : d ∈ flowsD r) : ∃ f : Int, d = .int f ∧ r.low ≤ f ∧ f ≤ r.high := by
  obtain ⟨k, hk, rfl⟩ := List.mem_map.mp h
  have := List.mem_range.mp hk
  exact ⟨_, rfl, by omega, by omega⟩
theorem flowsD_len {r : Row} (hr : r.Ok) : (flowsD r).length ≤ 19 := by
  have := hr.low
  have := hr.high
  rw [flowsD, List.length_map, List.length_range]
  omega
def tickD (s : Shape) (p : Pt) (n : Str) : D → List D
  | .int f => [.tup [.str n, .int f, (s.enter p n f).d]]
  | _ => []
def Shape.rowAt (s : Shape) (n : Str) : Row := (s.rows.find? fun r => decide (r.name = n)).getD ⟨n, 0, 0, 0, 0, []⟩
theorem rowAt_eq {s : Shape} (hs : s.Ok) {r : Row} (hr : r ∈ s.rows) : s.rowAt r.name = r := by
  unfold Shape.rowAt
  cases e : s.rows.find? fun q => decide (q.name = r.name) with
  | none =>
    have := List.find?_eq_none.mp e r hr
    simp at this
  | some q =>
    have h1 := List.find?_some e
    have h2 := List.mem_of_find?_eq_some e
    exact row_inj hs.nd h2 hr (of_decide_eq_true h1)
def ticksD (s : Shape) (p : Pt) : D → List D
  | .str n => (flowsD (s.rowAt n)).flatMap (tickD s p n)
  | _ => []
def ticksL (s : Shape) (p : Pt) (q : Row) : List D := (q.late.map D.str).flatMap (ticksD s p)
theorem flat_len {α β : Type} {F : α → List β} {B : Nat} : ∀ {xs : List α}, (∀ x ∈ xs, (F x).length ≤ B) → (xs.flatMap F).length ≤ xs.length * B
  | [], _ => by simp
  | x :: xs, h => by
    rw [List.flatMap_cons, List.length_append, List.length_cons, Nat.succ_mul]
    have h1 := h x (.head _)
    have h2 := flat_len (xs := xs) fun y hy => h y (.tail _ hy)
    omega
theorem tickD_len (s : Shape) (p : Pt) (n : Str) (d : D) : (tickD s p n d).length ≤ 1 := by
  unfold tickD
  split <;> simp
section
variable {s : Shape} (hs : s.Ok)
include hs
theorem ticksD_len (p : Pt) {r : Row} (hr : r ∈ s.rows) : (ticksD s p (.str r.name)).length ≤ 19 := by
  show ((flowsD (s.rowAt r.name)).flatMap (tickD s p r.name)).length ≤ 19
  rw [rowAt_eq hs hr]
  have h1 := flat_len (F := tickD s p r.name) (B := 1) (xs := flowsD r) fun x _ => tickD_len s p r.name x
  have h2 := flowsD_len (hs.rows r hr)
  omega
theorem ticksL_len (p : Pt) {q : Row} (hq : q ∈ s.rows) : (ticksL s p q).length ≤ 200 := by
  have h6 := (hs.rows q hq).len
  have h1 := flat_len (F := ticksD s p) (B := 19) (xs := q.late.map D.str) fun x hx => by
    obtain ⟨a, ha, rfl⟩ := List.mem_map.mp hx
    obtain ⟨r, hr, rfl⟩ := names_get (hs.late q hq a ha)
    exact ticksD_len hs p hr
  rw [List.length_map] at h1
  unfold ticksL
  omega
theorem ticksL_mem {p : Pt} {q : Row} (hq : q ∈ s.rows) {d : D} (hd : d ∈ ticksL s p q) : ∃ r ∈ s.rows, r.name ∈ q.late ∧ ∃ f : Int, r.low ≤ f ∧ f ≤ r.high ∧ d = .tup [.str r.name, .int f, (s.enter p r.name f).d] := by
  obtain ⟨x, hx, hd⟩ := List.mem_flatMap.mp hd
  obtain ⟨a, ha, rfl⟩ := List.mem_map.mp hx
  obtain ⟨r, hr, rfl⟩ := names_get (hs.late q hq a ha)
  have hd : d ∈ (flowsD (s.rowAt r.name)).flatMap (tickD s p r.name) := hd
  rw [rowAt_eq hs hr] at hd
  obtain ⟨y, hy, hd⟩ := List.mem_flatMap.mp hd
  obtain ⟨f, rfl, f0, f1⟩ := flowsD_mem hy
  exact ⟨r, hr, ha, f, f0, f1, List.mem_singleton.mp hd⟩
theorem flows_ev {r : Row} (hr : r ∈ s.rows) (h : List O) : cm_Mode_flows [r.mode] [] h = some (.fl (flowsD r), h) := by
  have h0 := (hs.rows r hr).low
  have h1 := (hs.rows r hr).high
  have h2 := (hs.rows r hr).lh
  unfold cm_Mode_flows b_Mode_flows cmP
  dsimp only
  refine rt_fn (rt_ret ?_)
  unfold m_lr
  rw [mode_low r (m := m_v 0) rfl, Option.bind_some]
  dsimp only
  have e1 : m_bin f_add (m_attr ["Mode"] "high" (m_v 0)) (m_c (.int 1)) [some r.mode] h = some (.int (r.high + 1), h) := e_bin (mode_high r rfl) rfl rfl
  rw [show m_bin f_add (m_attr ["Mode"] "high" (m_v 0)) (m_c (.int 1)) (List.map some ([r.mode] ++ []) ++ List.replicate (1 - 1) none) h = _ from e1, Option.bind_some]
  have p : (100000 : Int) < (2 : Int) ^ 62 := by decide
  have hb : ∀ i : Int, -9 ≤ i → i ≤ 10 → (decide (-(2 ^ 62) ≤ i) && decide (i < 2 ^ 62)) = true := fun i a b => by
    rw [Bool.and_eq_true, decide_eq_true_eq, decide_eq_true_eq]
    exact ⟨by omega, by omega⟩
  have hz : decide ((r.high + 1 - r.low).toNat ≤ 2 ^ 24) = true := decide_eq_true (by
    have : (100 : Nat) < 2 ^ 24 := by decide
    omega)
  show (if (((decide (-(2 ^ 62) ≤ r.low) && decide (r.low < 2 ^ 62)) && (decide (-(2 ^ 62) ≤ r.high + 1) && decide (r.high + 1 < 2 ^ 62))) && decide ((r.high + 1 - r.low).toNat ≤ 2 ^ 24)) = true then some (D.fl (rgD r.low (r.high + 1)), h) else none) = _
  rw [if_pos (by rw [hb _ (by omega) (by omega), hb _ (by omega) (by omega), hz]; rfl)]
  rfl
end
end SP
set_option Elab.async false
set_option linter.all false
set_option maxRecDepth 100000
set_option maxHeartbeats 4000000
namespace SP
open PySem PySem.Spec PyProof.Rows L2 HF PF
theorem append_push {h : List O} {acc : List D} {d : D} (hl : acc.length ≤ 100000) : x_append (.loc h.length) [d] (h ++ [.lst acc]) = some (.non, h ++ [.lst (acc ++ [d])]) := by
  rw [append_ev (at_push _ _) hl, set_push]
theorem pt_frz (p : Pt) (n : Nat) (h : List O) : frz (n + 2) p.d h = some (p.d, h) := rfl
theorem tick_stb (x : Str) (f : Int) (p : Pt) : Stb (.tup [.str x, .int f, p.d]) := fun n h => rfl
section
variable {s : Shape} (hs : s.Ok)
include hs
theorem e_r2 {ms : FA} {sl : Sl} {h h1 : List O} {i j : Int} (e : ms sl h = some ([.int i, .int j], h1)) (a : -100 ≤ i) (b : i ≤ 100) (c : -100 ≤ j) (d : j ≤ 100) : i_r2 ms sl h = some ((List.range (j - i).toNat).map fun k => D.int (i + (k : Nat)), h1) := by
  have p : (100000 : Int) < (2 : Int) ^ 62 := by decide
  unfold i_r2
  rw [e, Option.bind_some]
  refine if_pos ?_
  rw [Bool.and_eq_true, Bool.and_eq_true, Bool.and_eq_true, decide_eq_true_eq, decide_eq_true_eq, decide_eq_true_eq, decide_eq_true_eq]
  exact ⟨⟨by omega, by omega⟩, by omega, by omega⟩
theorem ticks_from_ev {p : Pt} (hp : p.Ok s) {q : Row} (hq : q ∈ s.rows) (qn : q.name = p.name) (h : List O) : cm_Plan_ticks_from [s.plan, p.d] [] h = some (.fl (ticksL s p q), h ++ [.gone]) := by
  have hl := ticksL_len hs p hq
  unfold cm_Plan_ticks_from b_Plan_ticks_from cmP
  dsimp only
  have lk : ∀ h, f_dget (.dk (kS s.names) (s.rows.map Row.mode)) (.str p.name) h = some (q.mode, h) := fun h => by
    rw [← qn]
    exact look_row hs hq
  obtain ⟨_, e, s3, s4, rfl⟩ := app_loop (g := g_n 3) (b := s_for (i_q (m_meth "Mode" "flows" cm_Mode_flows [] (m_bin f_dget (m_attr ["Plan"] "table" (m_v 0)) (m_v 3)) (m_ca a_nil a_nil))) (g_n 4) (s_ex (m_lm x_append (m_v 2) (a_cons (m_tup (a_cons (m_v 3) (a_cons (m_v 4) (a_cons (m_meth "Plan" "entered" cm_Plan_entered [] (m_v 0) (m_ca (a_cons (m_v 1) (a_cons (m_v 3) (a_cons (m_v 4) a_nil))) a_nil)) a_nil)))) a_nil)))) (h := h)
    (fun sl => ∃ s3 s4, sl = [some s.plan, some p.d, some (.loc h.length), s3, s4]) (ticksD s p) (q.late.map D.str) _ [] ⟨none, none, rfl⟩ (by simpa [ticksL] using (show (ticksL s p q).length ≤ 90000 by omega)) (fun x hx sl acc ⟨s3, s4, e⟩ hacc => by
      subst e
      obtain ⟨a, ha, rfl⟩ := List.mem_map.mp hx
      obtain ⟨r, hr, rfl⟩ := names_get (hs.late q hq a ha)
      have hrn : r.name ∈ s.names := List.mem_map.mpr ⟨r, hr, rfl⟩
      have tl : (flowsD r).flatMap (tickD s p r.name) = ticksD s p (.str r.name) := by
        show _ = (flowsD (s.rowAt r.name)).flatMap (tickD s p r.name)
        rw [rowAt_eq hs hr]
      rw [← tl] at hacc ⊢
      obtain ⟨_, e, s4, rfl⟩ := app_loop (g := g_n 4) (b := s_ex (m_lm x_append (m_v 2) (a_cons (m_tup (a_cons (m_v 3) (a_cons (m_v 4) (a_cons (m_meth "Plan" "entered" cm_Plan_entered [] (m_v 0) (m_ca (a_cons (m_v 1) (a_cons (m_v 3) (a_cons (m_v 4) a_nil))) a_nil)) a_nil)))) a_nil))) (h := h)
        (fun sl => ∃ s4, sl = [some s.plan, some p.d, some (.loc h.length), some (.str r.name), s4]) (tickD s p r.name) (flowsD r) _ acc ⟨s4, rfl⟩ hacc (fun x hx sl acc ⟨s4, e⟩ hacc => by
          subst e
          obtain ⟨f, rfl, f0, f1⟩ := flowsD_mem hx
          exact ⟨_, _, rfl, q_ex (e_lm rfl (at_push _ _) (e_one (e_tup (e_cons rfl (e_cons rfl (e_one (meth_plan rfl (e_ca0 (e_cons rfl (e_cons rfl (e_one rfl)))) (entered_ev hs hp hrn f _))))))) (append_push (by omega))), ⟨_, rfl⟩⟩)
      exact ⟨_, _, rfl, q_for (e_q (meth_mode (e_bin (plan_table rfl) rfl (look_row hs hr)) rfl (flows_ev hs hr _))) e, ⟨_, _, rfl⟩⟩)
  refine rt_fn (rt_q (q_ex (meth_plan rfl (e_ca0 (e_one rfl)) (check_place_ev hs hp h))) (rt_q (q_set (e_tl rfl)) (rt_q (q_for (e_q (meth_mode (e_bin (plan_table rfl) (e_bin rfl rfl rfl) (lk _)) rfl (followers_ev q _))) e) (rt_ret ?_))))
  rw [List.nil_append]
  have z := e_frz (m := m_v 2) (sl := [some s.plan, some p.d, some (.loc h.length), s3, s4]) (h := h ++ [.lst (ticksL s p q)]) rfl (at_push _ _) (fun d hd => by
    obtain ⟨r, _, _, f, _, _, rfl⟩ := ticksL_mem hs hq hd
    exact tick_stb _ _ _)
  rw [set_push] at z
  exact z
theorem law_ticks_ev {p : Pt} (hp : p.Ok s) {q : Row} (hq : q ∈ s.rows) (qn : q.name = p.name) (h : List O) : cm__law_ticks [s.d, p.d] [] h = some (.fl (ticksL s p q), h ++ [.gone]) := by
  have hl := ticksL_len hs p hq
  unfold cm__law_ticks b__law_ticks cmP
  dsimp only
  have ro : ∀ h, cm__law_row_of [s.d, .str p.name] [] h = some (q.d, h) := fun h => by
    rw [← qn]
    exact row_of_ev hs hq h
  obtain ⟨_, e, s3, s4, s5, rfl⟩ := app_loop (g := g_n 3) (b := s_seq (s_set 4 (m_call cm__law_row_of [] (m_ca (a_cons (m_v 0) (a_cons (m_v 3) a_nil)) a_nil)))
  (s_for (i_r2 (a_cons (m_bin f_ix (m_v 4) (m_c (.int 1))) (a_cons (m_bin f_add (m_bin f_ix (m_v 4) (m_c (.int 2))) (m_c (.int 1))) a_nil))) (g_n 5) (s_ex (m_lm x_append (m_v 2) (a_cons (m_tup (a_cons (m_v 3) (a_cons (m_v 5) (a_cons (m_call cm__law_entered [] (m_ca (a_cons (m_v 0) (a_cons (m_v 1) (a_cons (m_v 3) (a_cons (m_v 5) a_nil)))) a_nil)) a_nil)))) a_nil))))) (h := h)
    (fun sl => ∃ s3 s4 s5, sl = [some s.d, some p.d, some (.loc h.length), s3, s4, s5]) (ticksD s p) (q.late.map D.str) _ [] ⟨none, none, none, rfl⟩ (by simpa [ticksL] using (show (ticksL s p q).length ≤ 90000 by omega)) (fun x hx sl acc ⟨s3, s4, s5, e⟩ hacc => by
      subst e
      obtain ⟨a, ha, rfl⟩ := List.mem_map.mp hx
      obtain ⟨r, hr, rfl⟩ := names_get (hs.late q hq a ha)
      have hrn : r.name ∈ s.names := List.mem_map.mpr ⟨r, hr, rfl⟩
      have h0 := (hs.rows r hr).low
      have h1 := (hs.rows r hr).high
      have h2 := (hs.rows r hr).lh
      have tl : (flowsD r).flatMap (tickD s p r.name) = ticksD s p (.str r.name) := by
        show _ = (flowsD (s.rowAt r.name)).flatMap (tickD s p r.name)
        rw [rowAt_eq hs hr]
      rw [← tl] at hacc ⊢
      obtain ⟨_, e, s5, rfl⟩ := app_loop (g := g_n 5) (b := s_ex (m_lm x_append (m_v 2) (a_cons (m_tup (a_cons (m_v 3) (a_cons (m_v 5) (a_cons (m_call cm__law_entered [] (m_ca (a_cons (m_v 0) (a_cons (m_v 1) (a_cons (m_v 3) (a_cons (m_v 5) a_nil)))) a_nil)) a_nil)))) a_nil))) (h := h)
        (fun sl => ∃ s5, sl = [some s.d, some p.d, some (.loc h.length), some (.str r.name), some r.d, s5]) (tickD s p r.name) (flowsD r) _ acc ⟨s5, rfl⟩ hacc (fun x hx sl acc ⟨s5, e⟩ hacc => by
          subst e
          obtain ⟨f, rfl, f0, f1⟩ := flowsD_mem hx
          exact ⟨_, _, rfl, q_ex (e_lm rfl (at_push _ _) (e_one (e_tup (e_cons rfl (e_cons rfl (e_one (e_call (e_ca0 (e_cons rfl (e_cons rfl (e_cons rfl (e_one rfl))))) (law_entered_ev hs hp hrn f _))))))) (append_push (by omega))), ⟨_, rfl⟩⟩)
      exact ⟨_, _, rfl, q_nx (q_set (e_call (e_ca0 (e_cons rfl (e_one rfl))) (row_of_ev hs hr _))) (q_for (e_r2 hs (e_cons (e_bin rfl rfl rfl) (e_one (e_bin (e_bin rfl rfl rfl) rfl rfl))) (by omega) (by omega) (by omega) (by omega)) e), ⟨_, _, _, rfl⟩⟩)
  refine rt_fn (rt_q (q_set (e_tl rfl)) (rt_q (q_for (e_q (e_bin (e_call (e_ca0 (e_cons rfl (e_one (e_bin rfl rfl rfl)))) (ro _)) rfl rfl)) e) (rt_ret ?_)))
  rw [List.nil_append]
  have z := e_frz (m := m_v 2) (sl := [some s.d, some p.d, some (.loc h.length), s3, s4, s5]) (h := h ++ [.lst (ticksL s p q)]) rfl (at_push _ _) (fun d hd => by
    obtain ⟨r, _, _, f, _, _, rfl⟩ := ticksL_mem hs hq hd
    exact tick_stb _ _ _)
  rw [set_push] at z
  exact z
end
end SP
set_option Elab.async false
set_option linter.all false
set_option maxRecDepth 100000
set_option maxHeartbeats 4000000
namespace SP
open PySem PySem.Spec PyProof.Rows L2 HF PF
theorem e_andB {ta tb : FT} {sl : Sl} {h : List O} {a b : Bool} (e1 : ta sl h = some (a, h)) (e2 : tb sl h = some (b, h)) : t_and ta tb sl h = some (a && b, h) := by
  cases a
  · exact e_and0 e1
  · exact e_and1 e1 e2
theorem e_orB {ta tb : FT} {sl : Sl} {h : List O} {a b : Bool} (e1 : ta sl h = some (a, h)) (e2 : tb sl h = some (b, h)) : t_or ta tb sl h = some (a || b, h) := by
  cases a
  · exact e_or0 e1 e2
  · exact e_or1 e1
theorem mem_insS {a x : Str} : ∀ {xs : List Str}, x ∈ insS a xs ↔ x = a ∨ x ∈ xs
  | [] => by simp [insS]
  | y :: ys => by
    unfold insS
    split
    · simp
    · rw [List.mem_cons, mem_insS, List.mem_cons]
      constructor
      · rintro (h | h | h)
        · exact .inr (.inl h)
        · exact .inl h
        · exact .inr (.inr h)
      · rintro (h | h | h)
        · exact .inr (.inl h)
        · exact .inl h
        · exact .inr (.inr h)
theorem mem_sortS {x : Str} : ∀ {xs : List Str}, x ∈ sortS xs ↔ x ∈ xs
  | [] => by simp [sortS]
  | a :: as => by
    rw [sortS, mem_insS, mem_sortS, List.mem_cons]
/-! what a gauge has -/
def Fix.named (n : Str) : Fix → Bool
  | .rest _ m _ _ => decide (m = n)
  | _ => false
def Fix.hit (n : Str) (k : Int) : Fix → Bool
  | .rest _ m t _ => decide (m = n) && decide (t ≤ k)
  | _ => false
def restN (fs : List Fix) (n : Str) : Option Fix := fs.find? (Fix.named n)
def findR (fs : List Fix) (n : Str) (k : Int) : Option Fix := fs.find? (Fix.hit n k)
def trip : Fix → D
  | .rest w _ t r => .tup [.str (word w), .int t, .int r]
  | _ => .non
def reach : Fix → Int
  | .rest _ _ _ r => r
  | _ => 0
theorem look_rest (n : Str) : ∀ fs : List Fix, lookG (Sum.inr n : Key) (kS (rnames fs)) ((restsOf fs).map Fix.d) = (restN fs n).map Fix.d
  | [] => by unfold rnames restsOf; rfl
  | .full :: fs => look_rest n fs
  | .empty :: fs => look_rest n fs
  | .rest w m t r :: fs => by
    show (if (Sum.inr m : Key) = Sum.inr n then some (Fix.rest w m t r).d else lookG _ (kS (rnames fs)) ((restsOf fs).map Fix.d)) = _
    by_cases c : m = n
    · rw [if_pos (by rw [c])]
      unfold restN
      rw [List.find?_cons_of_pos (by simp [Fix.named, c])]
      rfl
    · rw [if_neg (fun e => c (by cases e; rfl)), look_rest n fs]
      unfold restN
      rw [List.find?_cons_of_neg (by simp [Fix.named, c])]
theorem restN_some {fs : List Fix} {n : Str} {f : Fix} (e : restN fs n = some f) : f ∈ fs ∧ ∃ w t r, f = .rest w n t r := by
  refine ⟨List.mem_of_find?_eq_some e, ?_⟩
  have := List.find?_some e
  cases f with
  | full => cases this
  | empty => cases this
  | rest w m t r =>
    have : m = n := of_decide_eq_true this
    exact ⟨w, t, r, by rw [this]⟩
theorem findR_some {fs : List Fix} {n : Str} {k : Int} {f : Fix} (e : findR fs n k = some f) : f ∈ fs ∧ ∃ w t r, f = .rest w n t r ∧ t ≤ k := by
  refine ⟨List.mem_of_find?_eq_some e, ?_⟩
  have := List.find?_some e
  cases f with
  | full => cases this
  | empty => cases this
  | rest w m t r =>
    have h : (decide (m = n) && decide (t ≤ k)) = true := this
    rw [Bool.and_eq_true, decide_eq_true_eq, decide_eq_true_eq] at h
    exact ⟨w, t, r, by rw [h.1], h.2⟩
theorem find_none_named {fs : List Fix} {n : Str} (h : [("rest" : Str), n] ∉ fs.map Fix.key) (k : Int) : findR fs n k = none := by
  refine List.find?_eq_none.mpr fun f hf z => ?_
  cases f with
  | full => cases z
  | empty => cases z
  | rest w m t r =>
    have z : (decide (m = n) && decide (t ≤ k)) = true := z
    rw [Bool.and_eq_true, decide_eq_true_eq] at z
    exact h (List.mem_map.mpr ⟨_, hf, by rw [← z.1]; rfl⟩)
theorem findR_eq (n : Str) (k : Int) : ∀ {fs : List Fix}, (fs.map Fix.key).Nodup → findR fs n k = (restN fs n).bind fun f => if Fix.hit n k f = true then some f else none
  | [], _ => rfl
  | .full :: fs, nd => findR_eq (fs := fs) n k (List.nodup_cons.mp nd).2
  | .empty :: fs, nd => findR_eq (fs := fs) n k (List.nodup_cons.mp nd).2
  | .rest w m t r :: fs, nd => by
    rw [List.map_cons, List.nodup_cons] at nd
    by_cases c : m = n
    · subst c
      have e1 : restN (.rest w m t r :: fs) m = some (.rest w m t r) := by
        unfold restN
        rw [List.find?_cons_of_pos (by simp [Fix.named])]
      rw [e1, Option.bind_some]
      by_cases d : Fix.hit m k (.rest w m t r) = true
      · rw [if_pos d]
        unfold findR
        rw [List.find?_cons_of_pos d]
      · rw [if_neg d]
        unfold findR
        rw [List.find?_cons_of_neg d]
        exact find_none_named nd.1 k
    · have e1 : restN (.rest w m t r :: fs) n = restN fs n := by
        unfold restN
        rw [List.find?_cons_of_neg (by simp [Fix.named, c])]
      have e2 : findR (.rest w m t r :: fs) n k = findR fs n k := by
        unfold findR
        rw [List.find?_cons_of_neg (by simp [Fix.hit, c])]
      rw [e1, e2]
      exact findR_eq n k nd.2
section
variable {fs : List Fix} (G : FixesOk fs)
theorem gauge_own {m : FE} {sl : Sl} {h h1 : List O} (e : m sl h = some (gauge fs, h1)) : m_attr ["Gauge"] "own_corrections" m sl h = some (.tup (fs.map Fix.d), h1) := attr_ob e (by kernel_rfl)
theorem gauge_marks {m : FE} {sl : Sl} {h h1 : List O} (e : m sl h = some (gauge fs, h1)) : m_attr ["Gauge"] "marks" m sl h = some (.fl ((sortS (marksOf fs)).map D.str), h1) := attr_ob e (by kernel_rfl)
theorem gauge_rests {m : FE} {sl : Sl} {h h1 : List O} (e : m sl h = some (gauge fs, h1)) : m_attr ["Gauge"] "rests" m sl h = some (.dk (kS (rnames fs)) ((restsOf fs).map Fix.d), h1) := attr_ob e (by kernel_rfl)
theorem meth_gauge {n : Str} {cm : CM} {ks : List Str} {ds es : List D} {mo : FE} {mc : FC} {sl : Sl} {h h1 h2 : List O} {r : Option (D × List O)} (e : mo sl h = some (gauge fs, h1)) (e2 : mc sl h1 = some ((ds, es), h2)) (k : cm (gauge fs :: ds) (ks.zip es) h2 = r) (hl : (["own_corrections", "marks", "rests"] : List Str).contains n = false := by decide +kernel) : m_meth "Gauge" n cm ks mo mc sl h = r := by
  refine meth_ob e ?_ e2 k
  simp only [List.contains_cons, Bool.or_eq_false_iff, beq_str, decide_eq_false_iff_not] at hl
  simp only [lookF, hl, if_false]
theorem marks_sok : ∀ x ∈ marksOf fs, SOk x := fun x hx => by
  obtain ⟨f, _, e⟩ := List.mem_filterMap.mp hx
  cases f with
  | full => cases e; exact sok_full
  | empty => cases e; exact sok_empty
  | rest w n t r => cases e
theorem has_ev {w : Str} (hw : SOk w) (h : List O) : cm_Gauge_has [gauge fs, .str w] [] h = some (.bl (decide (w ∈ marksOf fs)), h) := by
  unfold cm_Gauge_has b_Gauge_has cmP
  dsimp only
  refine rt_fn (rt_ret (m_and1 (e_isT rfl rfl rfl) (e_bin rfl (gauge_marks rfl) ((inL_str hw fun x hx => marks_sok x (mem_sortS.mp hx)).trans ?_))))
  have : decide (w ∈ sortS (marksOf fs)) = decide (w ∈ marksOf fs) := by
    by_cases c : w ∈ marksOf fs
    · rw [decide_eq_true c, decide_eq_true (mem_sortS.mpr c)]
    · rw [decide_eq_false c, decide_eq_false fun z => c (mem_sortS.mp z)]
  rw [this]
theorem rest_ev {n : Str} (hn : NameOk n) (h : List O) : cm_Gauge_rest [gauge fs, .str n] [] h = some ((restN fs n).elim .non trip, h) := by
  unfold cm_Gauge_rest b_Gauge_rest cmP
  dsimp only
  cases e : restN fs n with
  | none =>
    have ni : f_ninD (.str n) (.dk (kS (rnames fs)) ((restsOf fs).map Fix.d)) h = some (.bl true, h) := by
      rw [ninD_dk, look_rest, e]
      rfl
    exact rt_fn (rt_q1 (rt_if1 (e_or0 (e_nT (e_t (e_call (e_ca0 (e_one rfl)) (name_ev hn h)))) (e_t (e_bin rfl (gauge_rests rfl) ni))) (rt_ret rfl)))
  | some f =>
    have ni : f_ninD (.str n) (.dk (kS (rnames fs)) ((restsOf fs).map Fix.d)) h = some (.bl false, h) := by
      rw [ninD_dk, look_rest, e]
      rfl
    obtain ⟨hf, w, t, r, rfl⟩ := restN_some e
    have dg : f_dget (.dk (kS (rnames fs)) ((restsOf fs).map Fix.d)) (.str n) h = some ((Fix.rest w n t r).d, h) := dget_dk (by rw [look_rest, e]; rfl)
    exact rt_fn (rt_q (q_no (e_or0 (e_nT (e_t (e_call (e_ca0 (e_one rfl)) (name_ev hn h)))) (e_t (e_bin rfl (gauge_rests rfl) ni)))) (rt_q (q_asg (e_bin (gauge_rests rfl) rfl dg) rfl) (rt_ret (e_tup (e_cons rfl (e_cons rfl (e_one rfl))) (by simp)))))
include G in
theorem rest_at_ev {p : Pt} (hn : NameOk p.name) (h : List O) : cm_Gauge_rest_at [gauge fs, p.d] [] h = some ((findR fs p.name p.run).elim .non trip, h) := by
  unfold cm_Gauge_rest_at b_Gauge_rest_at cmP
  dsimp only
  have re := rest_ev (fs := fs) hn h
  rw [findR_eq p.name p.run G.nd]
  cases e : restN fs p.name with
  | none =>
    rw [e] at re
    exact rt_fn (rt_q (q_set (meth_gauge rfl (e_ca0 (e_one (e_bin rfl rfl rfl))) re)) (rt_ret (e_if0 (e_and0 (e_t (e_bin rfl rfl rfl))) rfl)))
  | some f =>
    rw [e] at re
    obtain ⟨hf, w, t, r, rfl⟩ := restN_some e
    have ge : f_ge (.int p.run) (.int t) h = some (.bl (decide (t ≤ p.run)), h) := rfl
    rw [Option.bind_some]
    by_cases c : t ≤ p.run
    · rw [decide_eq_true c] at ge
      have hh : Fix.hit p.name p.run (.rest w p.name t r) = true := by simp [Fix.hit, c]
      rw [if_pos hh]
      exact rt_fn (rt_q (q_set (meth_gauge rfl (e_ca0 (e_one (e_bin rfl rfl rfl))) re)) (rt_ret (e_if1 (e_and1 (e_t (e_bin rfl rfl rfl)) (e_t (e_bin (e_bin rfl rfl rfl) (e_bin rfl rfl rfl) ge))) rfl)))
    · rw [decide_eq_false c] at ge
      have hh : ¬ Fix.hit p.name p.run (.rest w p.name t r) = true := by simp [Fix.hit, c]
      rw [if_neg hh]
      exact rt_fn (rt_q (q_set (meth_gauge rfl (e_ca0 (e_one (e_bin rfl rfl rfl))) re)) (rt_ret (e_if0 (e_and1 (e_t (e_bin rfl rfl rfl)) (e_t (e_bin (e_bin rfl rfl rfl) (e_bin rfl rfl rfl) ge))) rfl)))
end
end SP
set_option Elab.async false
set_option linter.all false
set_option maxRecDepth 100000
set_option maxHeartbeats 4000000
namespace SP
open PySem PySem.Spec PyProof.Rows L2 HF PF
/-! a mark among the corrections of the law -/
def pyFix : Fix → PyData
  | .full => .tuple [.str "full"]
  | .empty => .tuple [.str "empty"]
  | .rest w n t r => .tuple [.str (word w), .str n, .int t, .int r]
theorem toP_fix {f : Fix} (hf : f.Ok) (h : List O) (n : Nat) : toP h (n + 2) f.d = some (pyFix f) := by
  have z1 : PyData.strOk "full" = true := sok_full
  have z2 : PyData.strOk "empty" = true := sok_empty
  cases f with
  | full => simp [Fix.d, toP, toPs, z1, pyFix]
  | empty => simp [Fix.d, toP, toPs, z2, pyFix]
  | rest w m t r =>
    have z3 : PyData.strOk (word w) = true := sok_word w
    have z4 : PyData.strOk m = true := hf.1.sok
    simp [Fix.d, toP, toPs, z3, z4, pyFix]
theorem toPs_fix (h : List O) (n : Nat) : ∀ fs : List Fix, (∀ f ∈ fs, f.Ok) → toPs (toP h (n + 2)) (fs.map Fix.d) = some (fs.map pyFix)
  | [], _ => rfl
  | f :: fs, hf => by
    rw [List.map_cons, toPs, toP_fix (hf f (.head _)), Option.bind_some, toPs_fix h n fs fun x hx => hf x (.tail _ hx)]
    rfl
theorem any_fix (m : Str) : ∀ fs : List Fix, ((fs.map pyFix).any fun z => PyData.eqv z (.tuple [.str m])) = decide (m ∈ marksOf fs)
  | [] => rfl
  | .full :: fs => by
    rw [List.map_cons, List.any_cons, any_fix m fs]
    simp [pyFix, PyData.eqv, PyData.eqvAll, beq_str, marksOf, Fix.mark, eq_comm]
  | .empty :: fs => by
    rw [List.map_cons, List.any_cons, any_fix m fs]
    simp [pyFix, PyData.eqv, PyData.eqvAll, beq_str, marksOf, Fix.mark, eq_comm]
  | .rest w n t r :: fs => by
    rw [List.map_cons, List.any_cons, any_fix m fs]
    simp [pyFix, PyData.eqv, PyData.eqvAll, marksOf, Fix.mark]
theorem inL_fix {fs : List Fix} (hf : ∀ f ∈ fs, f.Ok) {m : Str} (hm : SOk m) (h : List O) : f_inL (.tup [.str m]) (.fl (fs.map Fix.d)) h = some (.bl (decide (m ∈ marksOf fs)), h) := by
  have hm' : PyData.strOk m = true := hm
  unfold f_inL
  have e1 : toP h 12 (.tup [.str m]) = some (.tuple [.str m]) := by simp [toP, toPs, hm']
  have e2 : toP h 12 (.fl (fs.map Fix.d)) = some (.list (fs.map pyFix)) := by
    rw [toP, toPs_fix h 9 fs hf]
    rfl
  rw [e1, e2, Option.bind_some, Option.bind_some]
  dsimp only
  rw [any_fix]
/-! the law's rest_at -/
theorem law_rest_loop {D0 D1 : D} {p : Pt} (hn : SOk p.name) {h : List O} : ∀ (fs : List Fix) (s2 : Option D), (∀ f ∈ fs, f.Ok) → (match findR fs p.name p.run with
    | some f => ∃ sl', forL (g_n 2) (s_if (t_and (m_t (m_bin f_eq (m_b c_len (a_cons (m_v 2) a_nil)) (m_c (.int 4)))) (t_and (m_t (m_bin f_eq (m_bin f_ix (m_v 2) (m_c (.int 1))) (m_bin f_ix (m_v 1) (m_c (.int 0))))) (m_t (m_bin f_ge (m_bin f_ix (m_v 1) (m_c (.int 1))) (m_bin f_ix (m_v 2) (m_c (.int 2))))))) (s_ret (m_v 2)) s_nil) (fs.map Fix.d) [some D0, some p.d, s2] h = some (.rt f.d, sl', h)
    | none => ∃ sl', forL (g_n 2) (s_if (t_and (m_t (m_bin f_eq (m_b c_len (a_cons (m_v 2) a_nil)) (m_c (.int 4)))) (t_and (m_t (m_bin f_eq (m_bin f_ix (m_v 2) (m_c (.int 1))) (m_bin f_ix (m_v 1) (m_c (.int 0))))) (m_t (m_bin f_ge (m_bin f_ix (m_v 1) (m_c (.int 1))) (m_bin f_ix (m_v 2) (m_c (.int 2))))))) (s_ret (m_v 2)) s_nil) (fs.map Fix.d) [some D0, some p.d, s2] h = some (.nx, sl', h))
  | [], s2, _ => ⟨_, rfl⟩
  | .full :: fs, s2, hf => by
    have ih := law_rest_loop (D0 := D0) (D1 := D1) hn (h := h) fs (some Fix.full.d) fun x hx => hf x (.tail _ hx)
    have e : findR (.full :: fs) p.name p.run = findR fs p.name p.run := rfl
    rw [e]
    cases c : findR fs p.name p.run with
    | none =>
      rw [c] at ih
      obtain ⟨sl', ih⟩ := ih
      exact ⟨sl', l_nx rfl (q_no (e_and0 (e_t (e_bin (e_b (e_one rfl) rfl) rfl (eqi rfl))))) ih⟩
    | some f =>
      rw [c] at ih
      obtain ⟨sl', ih⟩ := ih
      exact ⟨sl', l_nx rfl (q_no (e_and0 (e_t (e_bin (e_b (e_one rfl) rfl) rfl (eqi rfl))))) ih⟩
  | .empty :: fs, s2, hf => by
    have ih := law_rest_loop (D0 := D0) (D1 := D1) hn (h := h) fs (some Fix.empty.d) fun x hx => hf x (.tail _ hx)
    have e : findR (.empty :: fs) p.name p.run = findR fs p.name p.run := rfl
    rw [e]
    cases c : findR fs p.name p.run with
    | none =>
      rw [c] at ih
      obtain ⟨sl', ih⟩ := ih
      exact ⟨sl', l_nx rfl (q_no (e_and0 (e_t (e_bin (e_b (e_one rfl) rfl) rfl (eqi rfl))))) ih⟩
    | some f =>
      rw [c] at ih
      obtain ⟨sl', ih⟩ := ih
      exact ⟨sl', l_nx rfl (q_no (e_and0 (e_t (e_bin (e_b (e_one rfl) rfl) rfl (eqi rfl))))) ih⟩
  | .rest w m t r :: fs, s2, hf => by
    have ih := law_rest_loop (D0 := D0) (D1 := D1) hn (h := h) fs (some (Fix.rest w m t r).d) fun x hx => hf x (.tail _ hx)
    have hm := (hf _ (.head _)).1.sok
    have tt : t_and (m_t (m_bin f_eq (m_b c_len (a_cons (m_v 2) a_nil)) (m_c (.int 4)))) (t_and (m_t (m_bin f_eq (m_bin f_ix (m_v 2) (m_c (.int 1))) (m_bin f_ix (m_v 1) (m_c (.int 0))))) (m_t (m_bin f_ge (m_bin f_ix (m_v 1) (m_c (.int 1))) (m_bin f_ix (m_v 2) (m_c (.int 2)))))) [some D0, some p.d, some (Fix.rest w m t r).d] h = some (Fix.hit p.name p.run (.rest w m t r), h) :=
      e_and1 (e_t (e_bin (e_b (e_one rfl) rfl) rfl (eqi rfl))) (e_andB (e_t (e_bin (e_bin rfl rfl rfl) (e_bin rfl rfl rfl) (eq_str hm hn))) (e_t (e_bin (e_bin rfl rfl rfl) (e_bin rfl rfl rfl) rfl)))
    by_cases c : Fix.hit p.name p.run (.rest w m t r) = true
    · have e : findR (.rest w m t r :: fs) p.name p.run = some (.rest w m t r) := by
        unfold findR
        rw [List.find?_cons_of_pos c]
      rw [e]
      rw [c] at tt
      exact ⟨_, l_rt rfl (q_if1 tt (q_ret rfl))⟩
    · have e : findR (.rest w m t r :: fs) p.name p.run = findR fs p.name p.run := by
        unfold findR
        rw [List.find?_cons_of_neg c]
      rw [e]
      rw [Bool.eq_false_iff.mpr c] at tt
      cases c : findR fs p.name p.run with
      | none =>
        rw [c] at ih
        obtain ⟨sl', ih⟩ := ih
        exact ⟨sl', l_nx rfl (q_no tt) ih⟩
      | some f =>
        rw [c] at ih
        obtain ⟨sl', ih⟩ := ih
        exact ⟨sl', l_nx rfl (q_no tt) ih⟩
section
variable {fs : List Fix} (G : FixesOk fs)
include G
theorem law_rest_at_ev {p : Pt} (hn : NameOk p.name) (h : List O) : cm__law_rest_at [.fl (fs.map Fix.d), p.d] [] h = some ((findR fs p.name p.run).elim .non Fix.d, h) := by
  have L := law_rest_loop (D0 := .fl (fs.map Fix.d)) (D1 := .non) (p := p) hn.sok (h := h) fs none G.each
  unfold cm__law_rest_at b__law_rest_at cmP
  dsimp only
  cases c : findR fs p.name p.run with
  | none =>
    rw [c] at L
    obtain ⟨sl', L⟩ := L
    exact rt_fn (rt_q (q_for (e_q rfl) L) (rt_ret rfl))
  | some f =>
    rw [c] at L
    obtain ⟨sl', L⟩ := L
    exact rt_fn (rt_q1 ⟨_, q_for (e_q rfl) L⟩)
end
/-! what acts -/
def actR : Option Fix → D
  | some (.rest w _ _ r) => .tup [.str (word w), .int r]
  | _ => .tup []
def exactB (s : Shape) (fs : List Fix) (p : Pt) : Bool := (decide (p.amt = s.size) && decide (("full" : Str) ∈ marksOf fs)) || (decide (p.amt = 0) && decide (("empty" : Str) ∈ marksOf fs))
def actD (s : Shape) (fs : List Fix) (p : Pt) : D := if exactB s fs p = true then .tup [.str "exact"] else actR (findR fs p.name p.run)
section
variable {s : Shape} (hs : s.Ok) {fs : List Fix} (G : FixesOk fs)
include hs G
theorem acting_ev {p : Pt} (hp : p.Ok s) (h : List O) : cm_Gauge_acting [gauge fs, s.plan, p.d] [] h = some (actD s fs p, h) := by
  have hn := names_sok hs hp.mem
  unfold cm_Gauge_acting b_Gauge_acting cmP
  dsimp only
  have tt : t_or (t_and (m_t (m_bin f_eq (m_bin f_ix (m_v 2) (m_c (.int 2))) (m_attr ["Plan"] "size" (m_v 1)))) (m_t (m_meth "Gauge" "has" cm_Gauge_has [] (m_v 0) (m_ca (a_cons (m_c (.str "full")) a_nil) a_nil)))) (t_and (m_t (m_bin f_eq (m_bin f_ix (m_v 2) (m_c (.int 2))) (m_c (.int 0)))) (m_t (m_meth "Gauge" "has" cm_Gauge_has [] (m_v 0) (m_ca (a_cons (m_c (.str "empty")) a_nil) a_nil)))) [some (gauge fs), some s.plan, some p.d, none] h = some (exactB s fs p, h) :=
    e_orB (e_andB (e_t (e_bin (e_bin rfl rfl rfl) (plan_size rfl) (eq_int _ _))) (e_t (meth_gauge rfl (e_ca0 (e_one rfl)) (has_ev sok_full h)))) (e_andB (e_t (e_bin (e_bin rfl rfl rfl) rfl (eq_int _ _))) (e_t (meth_gauge rfl (e_ca0 (e_one rfl)) (has_ev sok_empty h))))
  have cp := check_place_ev hs hp h
  unfold actD
  by_cases c : exactB s fs p = true
  · rw [c] at tt
    rw [if_pos c]
    exact rt_fn (rt_q (q_ex (meth_plan rfl (e_ca0 (e_one rfl)) cp)) (rt_q1 (rt_if1 tt (rt_ret (e_tup (e_one rfl))))))
  · rw [Bool.eq_false_iff.mpr c] at tt
    rw [if_neg c]
    have ra := rest_at_ev G hn h
    cases e : findR fs p.name p.run with
    | none =>
      rw [e] at ra
      exact rt_fn (rt_q (q_ex (meth_plan rfl (e_ca0 (e_one rfl)) cp)) (rt_q (q_no tt) (rt_q (q_set (meth_gauge rfl (e_ca0 (e_one rfl)) ra)) (rt_ret (e_if1 (e_t (e_bin rfl rfl rfl)) (e_tup rfl))))))
    | some f =>
      rw [e] at ra
      obtain ⟨_, w, t, r, rfl, _⟩ := findR_some e
      exact rt_fn (rt_q (q_ex (meth_plan rfl (e_ca0 (e_one rfl)) cp)) (rt_q (q_no tt) (rt_q (q_set (meth_gauge rfl (e_ca0 (e_one rfl)) ra)) (rt_ret (e_if0 (e_t (e_bin rfl rfl rfl)) (e_tup (e_cons (e_bin rfl rfl rfl) (e_one (e_bin rfl rfl rfl))) (by simp)))))))
theorem law_acts_ev {p : Pt} (hp : p.Ok s) (h : List O) : cm__law_acts [s.d, .fl (fs.map Fix.d), p.d] [] h = some (actD s fs p, h) := by
  have hn := names_sok hs hp.mem
  unfold cm__law_acts b__law_acts cmP
  dsimp only
  have t1 : t_and (m_t (m_bin f_eq (m_bin f_ix (m_v 2) (m_c (.int 2))) (m_bin f_ix (m_v 0) (m_c (.int 0))))) (m_t (m_bin f_inL (m_tup (a_cons (m_c (.str "full")) a_nil)) (m_v 1))) [some s.d, some (.fl (fs.map Fix.d)), some p.d, none] h = some (decide (p.amt = s.size) && decide (("full" : Str) ∈ marksOf fs), h) :=
    e_andB (e_t (e_bin (e_bin rfl rfl rfl) (e_bin rfl rfl rfl) (eq_int _ _))) (e_t (e_bin (e_tup (e_one rfl)) rfl (inL_fix G.each sok_full h)))
  have t2 : t_and (m_t (m_bin f_eq (m_bin f_ix (m_v 2) (m_c (.int 2))) (m_c (.int 0)))) (m_t (m_bin f_inL (m_tup (a_cons (m_c (.str "empty")) a_nil)) (m_v 1))) [some s.d, some (.fl (fs.map Fix.d)), some p.d, none] h = some (decide (p.amt = 0) && decide (("empty" : Str) ∈ marksOf fs), h) :=
    e_andB (e_t (e_bin (e_bin rfl rfl rfl) rfl (eq_int _ _))) (e_t (e_bin (e_tup (e_one rfl)) rfl (inL_fix G.each sok_empty h)))
  unfold actD exactB
  cases c1 : (decide (p.amt = s.size) && decide (("full" : Str) ∈ marksOf fs)) with
  | true =>
    rw [c1] at t1
    rw [Bool.true_or, if_pos rfl]
    exact rt_fn (rt_q1 (rt_if1 t1 (rt_ret (e_tup (e_one rfl)))))
  | false =>
    rw [c1] at t1
    rw [Bool.false_or]
    cases c2 : (decide (p.amt = 0) && decide (("empty" : Str) ∈ marksOf fs)) with
    | true =>
      rw [c2] at t2
      rw [if_pos rfl]
      exact rt_fn (rt_q (q_no t1) (rt_q1 (rt_if1 t2 (rt_ret (e_tup (e_one rfl))))))
    | false =>
      rw [c2] at t2
      rw [if_neg Bool.false_ne_true]
      have ra := law_rest_at_ev G hn h
      cases e : findR fs p.name p.run with
      | none =>
        rw [e] at ra
        exact rt_fn (rt_q (q_no t1) (rt_q (q_no t2) (rt_q (q_set (e_call (e_ca0 (e_cons rfl (e_one rfl))) ra)) (rt_ret (e_if1 (e_t (e_bin rfl rfl rfl)) (e_tup rfl))))))
      | some f =>
        rw [e] at ra
        obtain ⟨_, w, t, r, rfl, _⟩ := findR_some e
        exact rt_fn (rt_q (q_no t1) (rt_q (q_no t2) (rt_q (q_set (e_call (e_ca0 (e_cons rfl (e_one rfl))) ra)) (rt_ret (e_if0 (e_t (e_bin rfl rfl rfl)) (e_tup (e_cons (e_bin rfl rfl rfl) (e_one (e_bin rfl rfl rfl))) (by simp)))))))
end
end SP
set_option Elab.async false
set_option linter.all false
set_option maxRecDepth 100000
set_option maxHeartbeats 4000000
namespace SP
open PySem PySem.Spec PyProof.Rows L2 HF PF
theorem eqs {a b : Str} {h : List O} {c : Bool} (ha : SOk a) (hb : SOk b) (hc : decide (a = b) = c) : f_eq (.str a) (.str b) h = some (.bl c, h) := by rw [eq_str ha hb, hc]
theorem sok_exact : SOk ("exact" : Str) := by decide +kernel
theorem sok_under : SOk ("under" : Str) := by decide +kernel
theorem sok_over : SOk ("over" : Str) := by decide +kernel
theorem act0 (h : List O) : f_eq (.tup []) (.tup []) h = some (.bl true, h) := rfl
theorem act1 (h : List O) : f_eq (.tup [.str "exact"]) (.tup []) h = some (.bl false, h) := by
  have z : PyData.strOk "exact" = true := sok_exact
  simp [f_eq, toP, toPs, z, PyData.eqv, PyData.eqvAll]
theorem act2 (w : Bool) (r : Int) (h : List O) : f_eq (.tup [.str (word w), .int r]) (.tup []) h = some (.bl false, h) := by
  have z : PyData.strOk (word w) = true := sok_word w
  simp [f_eq, toP, toPs, z, PyData.eqv, PyData.eqvAll]
theorem word_exact (w : Bool) : decide (word w = ("exact" : Str)) = false := by cases w <;> decide +kernel
theorem word_set1 : decide (word true = ("set" : Str)) = true := by decide +kernel
theorem word_set0 : decide (word false = ("set" : Str)) = false := by decide +kernel
def sideS : Bool → Str
  | true => "over"
  | false => "under"
def errOn (r : Row) : Bool → Int
  | true => r.over
  | false => r.under
def widthB (s : Shape) (fs : List Fix) (p : Pt) (grown : Int) : Int := if exactB s fs p = true then 0 else match findR fs p.name p.run with
  | some (.rest w _ _ r) => if w = true then r else min grown (2 * r)
  | _ => grown
theorem error_on_ev (r : Row) (o : Bool) (h : List O) : cm_Mode_error_on [r.mode, .str (sideS o)] [] h = some (.int (errOn r o), h) := by
  have ck : ∀ h, cm_check_side [.str (sideS o)] [] h = some (.non, h) := fun h => by
    unfold cm_check_side b_check_side cmP
    dsimp only
    refine nx_fn ⟨_, q_no (e_or0 (e_nT (e_t (e_isT rfl rfl rfl))) (e_t (e_bin rfl rfl (ninKt ?_))))⟩
    cases o <;> decide +kernel
  unfold cm_Mode_error_on b_Mode_error_on cmP
  dsimp only
  cases o with
  | true => exact rt_fn (rt_q (q_ex (e_call (e_ca0 (e_one rfl)) (ck h))) (rt_ret (e_if1 (e_t (e_bin rfl rfl (eqs sok_over sok_over (by decide +kernel)))) (mode_over r rfl))))
  | false => exact rt_fn (rt_q (q_ex (e_call (e_ca0 (e_one rfl)) (ck h))) (rt_ret (e_if0 (e_t (e_bin rfl rfl (eqs sok_under sok_over (by decide +kernel)))) (mode_under r rfl))))
section
variable {s : Shape} (hs : s.Ok) {fs : List Fix} (G : FixesOk fs)
include hs G
theorem width_after_ev {p : Pt} (hp : p.Ok s) {q : Row} (hq : q ∈ s.rows) (qn : q.name = p.name) (n : Int) (o : Bool) (h : List O) : cm_width_after [s.plan, gauge fs, p.d, .int n, .str (sideS o)] [] h = some (.int (widthB s fs p (n + errOn q o)), h) := by
  have mn : ∀ i j : Int, c_min2 [.int i, .int j] h = some (.int (min i j), h) := fun i j => by
    show some (D.int (if j < i then j else i), h) = _
    have : (if j < i then j else i) = min i j := by split <;> omega
    rw [this]
  have pm : cm_Plan_mode [s.plan, .str p.name] [] h = some (q.mode, h) := by
    rw [← qn]
    exact plan_mode_ev hs hq h
  have ac := acting_ev hs G hp h
  unfold cm_width_after b_width_after cmP
  dsimp only
  refine rt_fn (rt_q (q_set (e_bin rfl (meth_mode (meth_plan rfl (e_ca0 (e_one (e_bin rfl rfl rfl))) pm) (e_ca0 (e_one rfl)) (error_on_ev q o h)) rfl)) (rt_q (q_set (meth_gauge rfl (e_ca0 (e_cons rfl (e_one rfl))) ac)) ?_))
  unfold widthB actD
  by_cases c : exactB s fs p = true
  · rw [if_pos c, if_pos c]
    exact rt_q (q_no (e_t (e_bin rfl (e_tup rfl) (act1 h)))) (rt_q1 (rt_if1 (e_t (e_bin (e_bin rfl rfl rfl) rfl (eqs sok_exact sok_exact (by decide +kernel)))) (rt_ret rfl)))
  · rw [if_neg c, if_neg c]
    cases e : findR fs p.name p.run with
    | none => exact rt_q1 (rt_if1 (e_t (e_bin rfl (e_tup rfl) (act0 h))) (rt_ret rfl))
    | some f =>
      obtain ⟨_, w, t, r, rfl, _⟩ := findR_some e
      refine rt_q (q_no (e_t (e_bin rfl (e_tup rfl) (act2 w r h)))) (rt_q (q_no (e_t (e_bin (e_bin rfl rfl rfl) rfl (eqs (sok_word w) sok_exact (word_exact w))))) (rt_ret ?_))
      cases w with
      | true => exact e_if1 (e_t (e_bin (e_bin rfl rfl rfl) rfl (eqs (sok_word true) sok_set word_set1))) (e_bin rfl rfl rfl)
      | false => exact e_if0 (e_t (e_bin (e_bin rfl rfl rfl) rfl (eqs (sok_word false) sok_set word_set0))) (e_b (e_cons rfl (e_one (e_bin rfl (e_bin rfl rfl rfl) (mul_lit (by decide) (by decide))))) (mn _ _))
theorem law_width_ev {p : Pt} (hp : p.Ok s) {q : Row} (hq : q ∈ s.rows) (qn : q.name = p.name) (n : Int) (o : Bool) (h : List O) : cm__law_width_behind [s.d, .fl (fs.map Fix.d), p.d, .int n, .str (sideS o)] [] h = some (.int (widthB s fs p (n + errOn q o)), h) := by
  have mn : ∀ i j : Int, c_minL [.fl [.int i, .int j]] h = some (.int (min i j), h) := fun i j => rfl
  have ro : cm__law_row_of [s.d, .str p.name] [] h = some (q.d, h) := by
    rw [← qn]
    exact row_of_ev hs hq h
  have ac := law_acts_ev hs G hp h
  unfold cm__law_width_behind b__law_width_behind cmP
  dsimp only
  have pp : s_par 5 6 (a_cons (m_call cm__law_row_of [] (m_ca (a_cons (m_v 0) (a_cons (m_bin f_ix (m_v 2) (m_c (.int 0))) a_nil)) a_nil)) (a_cons (m_call cm__law_acts [] (m_ca (a_cons (m_v 0) (a_cons (m_v 1) (a_cons (m_v 2) a_nil))) a_nil)) a_nil)) [some s.d, some (.fl (fs.map Fix.d)), some p.d, some (.int n), some (.str (sideS o)), none, none, none] h
      = some (.nx, [some s.d, some (.fl (fs.map Fix.d)), some p.d, some (.int n), some (.str (sideS o)), some q.d, some (actD s fs p), none], h) := by
    unfold s_par
    rw [e_cons (e_call (e_ca0 (e_cons rfl (e_one (e_bin rfl rfl rfl)))) ro) (e_one (e_call (e_ca0 (e_cons rfl (e_cons rfl (e_one rfl)))) ac))]
    rfl
  have er : m_bin f_add (m_v 3) (m_if (m_t (m_bin f_eq (m_v 4) (m_c (.str "under")))) (m_bin f_ix (m_v 5) (m_c (.int 3))) (m_bin f_ix (m_v 5) (m_c (.int 4)))) [some s.d, some (.fl (fs.map Fix.d)), some p.d, some (.int n), some (.str (sideS o)), some q.d, some (actD s fs p), none] h = some (.int (n + errOn q o), h) := by
    cases o with
    | true => exact e_bin rfl (e_if0 (e_t (e_bin rfl rfl (eqs sok_over sok_under (by decide +kernel)))) (e_bin rfl rfl rfl)) rfl
    | false => exact e_bin rfl (e_if1 (e_t (e_bin rfl rfl (eqs sok_under sok_under (by decide +kernel)))) (e_bin rfl rfl rfl)) rfl
  refine rt_fn (rt_q pp (rt_q (q_set er) ?_))
  unfold widthB actD
  by_cases c : exactB s fs p = true
  · rw [if_pos c, if_pos c]
    exact rt_q (q_no (e_t (e_bin rfl (e_tup rfl) (act1 h)))) (rt_q1 (rt_if1 (e_t (e_bin (e_bin rfl rfl rfl) rfl (eqs sok_exact sok_exact (by decide +kernel)))) (rt_ret rfl)))
  · rw [if_neg c, if_neg c]
    cases e : findR fs p.name p.run with
    | none => exact rt_q1 (rt_if1 (e_t (e_bin rfl (e_tup rfl) (act0 h))) (rt_ret rfl))
    | some f =>
      obtain ⟨_, w, t, r, rfl, _⟩ := findR_some e
      refine rt_q (q_no (e_t (e_bin rfl (e_tup rfl) (act2 w r h)))) (rt_q (q_no (e_t (e_bin (e_bin rfl rfl rfl) rfl (eqs (sok_word w) sok_exact (word_exact w))))) (rt_ret ?_))
      cases w with
      | true => exact e_if1 (e_t (e_bin (e_bin rfl rfl rfl) rfl (eqs (sok_word true) sok_set word_set1))) (e_bin rfl rfl rfl)
      | false => exact e_if0 (e_t (e_bin (e_bin rfl rfl rfl) rfl (eqs (sok_word false) sok_set word_set0))) (e_b (e_one (e_fl (e_cons rfl (e_one (e_bin rfl (e_bin rfl rfl rfl) (mul_lit (by decide) (by decide))))))) (mn _ _))
end
/-! check -/
theorem rnames_mem {fs : List Fix} {x : Str} (hx : x ∈ rnames fs) : ∃ w t r, Fix.rest w x t r ∈ fs := by
  obtain ⟨f, hf, e⟩ := List.mem_filterMap.mp hx
  cases f with
  | full => cases e
  | empty => cases e
  | rest w n t r =>
    cases e
    exact ⟨w, t, r, hf⟩
theorem rnames_len (fs : List Fix) : (rnames fs).length ≤ fs.length := List.length_filterMap_le _ _
theorem sortS_len : ∀ xs : List Str, (sortS xs).length = xs.length
  | [] => rfl
  | a :: as => by
    have ins : ∀ ys : List Str, (insS a ys).length = ys.length + 1 := by
      intro ys
      induction ys with
      | nil => rfl
      | cons y ys ih =>
        unfold insS
        split
        · rfl
        · rw [List.length_cons, ih, List.length_cons]
    rw [sortS, ins, sortS_len as, List.length_cons]
section
variable {s : Shape} (hs : s.Ok) {fs : List Fix} (G : FixesOk fs) (hm : ∀ x ∈ rnames fs, x ∈ s.names)
include hs G hm
theorem check_ev (h : List O) : cm_Gauge_check [gauge fs, s.plan] [] h = some (.non, h) := by
  have h8 := G.len
  have hr := rnames_len fs
  have mo : cm_Gauge_modes [gauge fs] [] h = some (.fl ((sortS (rnames fs)).map D.str), h) := by
    unfold cm_Gauge_modes b_Gauge_modes cmP
    dsimp only
    have cl : c_list [.dk (kS (rnames fs)) ((restsOf fs).map Fix.d)] h = some (.fl ((rnames fs).map D.str), h) := congrArg (fun z => some (D.fl z, h)) (keys_strs (rnames fs))
    exact rt_fn (rt_ret (e_b (e_one (e_b (e_one (gauge_rests rfl)) cl)) (sortS_ev (by omega))))
  unfold cm_Gauge_check b_Gauge_check cmP
  dsimp only
  obtain ⟨_, e, s2, rfl⟩ := forL_keep (g := g_n 2) (b := s_ex (m_meth "Plan" "mode" cm_Plan_mode [] (m_v 1) (m_ca (a_cons (m_v 2) a_nil) a_nil))) (h := h)
    (fun sl => ∃ s2, sl = [some (gauge fs), some s.plan, s2]) ((sortS (rnames fs)).map D.str) _ ⟨none, rfl⟩ (fun x hx sl ⟨s2, e⟩ => by
      subst e
      obtain ⟨a, ha, rfl⟩ := List.mem_map.mp hx
      obtain ⟨r, hr, rfl⟩ := names_get (hm a (mem_sortS.mp ha))
      exact ⟨_, _, rfl, q_ex (meth_plan rfl (e_ca0 (e_one rfl)) (plan_mode_ev hs hr h)), ⟨_, rfl⟩⟩)
  exact nx_fn ⟨_, q_for (e_q (meth_gauge rfl rfl mo)) e⟩
end
end SP
set_option Elab.async false
set_option linter.all false
set_option maxRecDepth 100000
set_option maxHeartbeats 4000000
namespace SP
open PySem PySem.Spec PyProof.Rows L2 HF PF
theorem FixesOk.nil : FixesOk [] := ⟨fun _ h => (by cases h), by simp, by decide⟩
theorem FixesOk.pre {fs gs : List Fix} (G : FixesOk (fs ++ gs)) : FixesOk fs := ⟨fun f hf => G.each f (List.mem_append_left _ hf), by
  have := G.nd
  rw [List.map_append] at this
  exact (List.nodup_append.mp this).1, by
  have := G.len
  rw [List.length_append] at this
  omega⟩
theorem gauge_add_ev {fs : List Fix} {f : Fix} (G : FixesOk (fs ++ [f])) (h : List O) : cm_Gauge___add__ [gauge fs, f.d] [] h = some (gauge (fs ++ [f]), h) := by
  have h8 := G.len
  have M := gauge_mk G
  rw [List.map_append, List.map_singleton] at M
  unfold cm_Gauge___add__ b_Gauge___add__ cmP
  dsimp only
  refine rt_fn (rt_q (q_set (e_fl (e_starT (gauge_own rfl) (e_one rfl)) (by simp at h8 ⊢; omega))) (rt_ret (e_mkP (e_ca0 (e_star rfl rfl)) ?_)))
  rw [List.append_nil]
  exact M
theorem fix_tup (f : Fix) : ∃ ys, f.d = .tup ys := by cases f <;> exact ⟨_, rfl⟩
theorem ownAdd_ev {fs : List Fix} {f : Fix} (G : FixesOk (fs ++ [f])) (h : List O) : f_ownAdd "Gauge" cm_Gauge___add__ (gauge fs) f.d h = some (gauge (fs ++ [f]), h) := by
  obtain ⟨ys, e⟩ := fix_tup f
  have A := gauge_add_ev G h
  rw [e] at A ⊢
  unfold f_ownAdd
  show (if ("Gauge" : Str) = "Gauge" then cm_Gauge___add__ [gauge fs, .tup ys] [] h else none) = _
  rw [if_pos rfl]
  exact A
theorem gauge_loop {D0 : D} {h : List O} : ∀ (gs fs : List Fix) (s2 : Option D), FixesOk (fs ++ gs) → ∃ s2', forL (g_n 2) (s_set 1 (m_bin (f_ownAdd "Gauge" cm_Gauge___add__) (m_v 1) (m_v 2))) (gs.map Fix.d) [some D0, some (gauge fs), s2] h = some (.nx, [some D0, some (gauge (fs ++ gs)), s2'], h)
  | [], fs, s2, _ => ⟨s2, by rw [List.append_nil]; rfl⟩
  | f :: gs, fs, s2, G => by
    have e0 : fs ++ f :: gs = (fs ++ [f]) ++ gs := by simp
    rw [e0] at G ⊢
    obtain ⟨s2', e⟩ := gauge_loop (D0 := D0) (h := h) gs (fs ++ [f]) (some f.d) G
    exact ⟨s2', l_nx rfl (q_set (e_bin rfl rfl (ownAdd_ev G.pre h))) e⟩
theorem gauge_made_ev {fs : List Fix} (G : FixesOk fs) (h : List O) : cm__law_gauge_made [.fl (fs.map Fix.d)] [] h = some (gauge fs, h) := by
  obtain ⟨s2, e⟩ := gauge_loop (D0 := .fl (fs.map Fix.d)) (h := h) fs [] none (by simpa using G)
  unfold cm__law_gauge_made b__law_gauge_made cmP
  dsimp only
  exact rt_fn (rt_q (q_set (e_mkP (e_ca0 rfl) (gauge_mk FixesOk.nil))) (rt_q (q_for (e_q rfl) e) (rt_ret rfl)))
/-! corrections are drawn -/
def dec : D → Fix
  | .tup [.str x] => if x = "full" then .full else .empty
  | .tup [.str w, .str n, .int t, .int r] => .rest (decide (w = "set")) n t r
  | _ => .full
theorem empty_full : ¬ ("empty" : Str) = "full" := by decide +kernel
theorem dec_d (f : Fix) : dec f.d = f := by
  cases f with
  | full =>
    show (if ("full" : Str) = "full" then Fix.full else Fix.empty) = _
    exact if_pos rfl
  | empty =>
    show (if ("empty" : Str) = "full" then Fix.full else Fix.empty) = _
    exact if_neg empty_full
  | rest w n t r =>
    show Fix.rest (decide (word w = "set")) n t r = _
    cases w
    · rw [word_set0]
    · rw [word_set1]
theorem perm_d {zs : List D} {fs : List Fix} (h : zs.Perm (fs.map Fix.d)) : ∃ gs : List Fix, gs.Perm fs ∧ zs = gs.map Fix.d := by
  refine ⟨zs.map dec, ?_, ?_⟩
  · have := h.map dec
    rw [List.map_map] at this
    have e : fs.map (dec ∘ Fix.d) = fs := by
      conv => rhs; rw [← List.map_id fs]
      exact List.map_congr_left fun f _ => dec_d f
    rw [e] at this
    exact this
  · rw [List.map_map]
    conv => lhs; rw [← List.map_id zs]
    refine List.map_congr_left fun z hz => ?_
    obtain ⟨f, _, rfl⟩ := List.mem_map.mp (h.mem_iff.mp hz)
    show _ = (dec f.d).d
    rw [dec_d]
    rfl
theorem FixesOk.perm {fs gs : List Fix} (h : gs.Perm fs) (G : FixesOk fs) : FixesOk gs := ⟨fun f hf => G.each f (h.mem_iff.mp hf), (h.map Fix.key).nodup_iff.mpr G.nd, by rw [h.length_eq]; exact G.len⟩
theorem eqz {v : Int} {h : List O} : f_eq (.int v) (.int 0) h = some (.bl (decide (v = 0)), h) := eq_int _ _
theorem fix_loop {D0 : D} {t : List O} : ∀ (rows : List Row) (fs : List Fix) (seen : List Str) (b : Bag) (s4 : Option D), b.Ok → (∀ r ∈ rows, NameOk r.name) → (seen ++ rows.map Row.name).Nodup → (∀ f ∈ fs, f.Ok) → (fs.map Fix.key).Nodup → (∀ x ∈ rnames fs, x ∈ seen) → fs.length + rows.length ≤ 8 →
    ∃ (gs : List Fix) (b' : Bag) (s4' : Option D), Bag.Ok b' ∧ (∀ f ∈ gs, f.Ok) ∧ (gs.map Fix.key).Nodup ∧ (∀ x ∈ rnames gs, x ∈ seen ++ rows.map Row.name) ∧ gs.length ≤ 8 ∧
    forL (g_n 4) (s_if (m_t (m_bin f_gt (m_call cm__law_pull [] (m_ca (a_cons (m_v 0) (a_cons (m_c (.int 3)) a_nil)) a_nil)) (m_c (.int 0)))) (s_ex (m_lm x_append (m_v 3) (a_cons (m_tup (a_cons (m_call cm__law_pick [] (m_ca (a_cons (m_v 0) (a_cons (m_fl (a_cons (m_c (.str "set")) (a_cons (m_c (.str "narrow")) a_nil))) a_nil)) a_nil)) (a_cons (m_bin f_ix (m_v 4) (m_c (.int 0))) (a_cons (m_call cm__law_pick [] (m_ca (a_cons (m_v 0) (a_cons (m_fl (a_cons (m_c (.int 1)) (a_cons (m_c (.int 1)) (a_cons (m_c (.int 2)) (a_cons (m_c (.int 3)) (a_cons (m_c (.int 4)) a_nil)))))) a_nil)) a_nil)) (a_cons (m_call cm__law_pull [] (m_ca (a_cons (m_v 0) (a_cons (m_bin f_add (m_v 2) (m_c (.int 1))) a_nil)) a_nil)) a_nil))))) a_nil))) s_nil) (rows.map Row.d)
      [some (.loc 0), some D0, some (.int 9), some (.loc (t.length + 1)), s4, none] (b.enc :: (t ++ [.lst (fs.map Fix.d)]))
      = some (.nx, [some (.loc 0), some D0, some (.int 9), some (.loc (t.length + 1)), s4', none], b'.enc :: (t ++ [.lst (gs.map Fix.d)]))
  | [], fs, seen, b, s4, hb, _, _, hf, nd, hn, hl => ⟨fs, b, s4, hb, hf, nd, by simpa using hn, by simpa using hl, rfl⟩
  | r :: rows, fs, seen, b, s4, hb, hr, ns, hf, nd, hn, hl => by
    simp only [List.length_cons] at hl
    have ns2 : ((seen ++ [r.name]) ++ rows.map Row.name).Nodup := by simpa using ns
    obtain ⟨v, b1, ⟨v0, v3⟩, hb1, e1⟩ := pull_ex (b := b) (n := 3) (by decide) (by decide) hb (t ++ [.lst (fs.map Fix.d)])
    have gt : ∀ h : List O, f_gt (.int v) (.int 0) h = some (.bl (decide (0 < v)), h) := fun h => rfl
    by_cases c : 0 < v
    · obtain ⟨d1, b2, hd1, hb2, e2⟩ := pick_fl (b := b1) (xs := [.str "set", .str "narrow"]) (by simp) (by decide) hb1 (t ++ [.lst (fs.map Fix.d)])
      obtain ⟨w, rfl⟩ : ∃ w, d1 = .str (word w) := by
        simp at hd1
        rcases hd1 with rfl | rfl
        · exact ⟨true, rfl⟩
        · exact ⟨false, rfl⟩
      obtain ⟨d2, b3, hd2, hb3, e3⟩ := pick_fl (b := b2) (xs := [.int 1, .int 1, .int 2, .int 3, .int 4]) (by simp) (by decide) hb2 (t ++ [.lst (fs.map Fix.d)])
      obtain ⟨k, rfl, k1, k4⟩ : ∃ k : Int, d2 = .int k ∧ 1 ≤ k ∧ k ≤ 4 := by
        simp at hd2
        rcases hd2 with rfl | rfl | rfl | rfl
        · exact ⟨1, rfl, by decide, by decide⟩
        · exact ⟨2, rfl, by decide, by decide⟩
        · exact ⟨3, rfl, by decide, by decide⟩
        · exact ⟨4, rfl, by decide, by decide⟩
      obtain ⟨u, b4, ⟨u0, u9⟩, hb4, e4⟩ := pull_ex (b := b3) (n := 10) (by decide) (by decide) hb3 (t ++ [.lst (fs.map Fix.d)])
      have rn : rnames (fs ++ [.rest w r.name k u]) = rnames fs ++ [r.name] := by simp [rnames, Fix.rname]
      have hin : r.name ∉ seen := fun z => by
        have := (List.nodup_append.mp ns).2.2 _ z _ (List.mem_cons_self ..)
        exact this rfl
      obtain ⟨gs, b5, s5, hb5, hg, ndg, hng, hlg, e5⟩ := fix_loop (D0 := D0) (t := t) rows (fs ++ [.rest w r.name k u]) (seen ++ [r.name]) b4 (some r.d) hb4 (fun x hx => hr x (.tail _ hx)) ns2 (fun f hf' => by
        rcases List.mem_append.mp hf' with h | h
        · exact hf f h
        · rw [List.mem_singleton.mp h]
          exact ⟨hr r (.head _), ⟨k1, k4⟩, u0, by omega⟩) (by
        rw [List.map_append, List.nodup_append]
        refine ⟨nd, by simp, fun x hx y hy e => ?_⟩
        rw [List.map_singleton, List.mem_singleton] at hy
        subst hy
        subst e
        obtain ⟨f, hf', ek⟩ := List.mem_map.mp hx
        cases f with
        | full => exact absurd ek (by show ¬ [("full" : Str)] = [("rest" : Str), r.name]; simp)
        | empty => exact absurd ek (by show ¬ [("empty" : Str)] = [("rest" : Str), r.name]; simp)
        | rest w' n' t' r' =>
          have : n' = r.name := by
            have ek : [("rest" : Str), n'] = [("rest" : Str), r.name] := ek
            simpa using ek
          exact hin (hn _ (List.mem_filterMap.mpr ⟨_, hf', by rw [← this]; rfl⟩))) (fun x hx => by
        rw [rn] at hx
        rcases List.mem_append.mp hx with h | h
        · exact List.mem_append_left _ (hn x h)
        · exact List.mem_append_right _ h) (by simp; omega)
      refine ⟨gs, b5, s5, hb5, hg, ndg, by simpa using hng, hlg, ?_⟩
      refine l_nx rfl (q_if1 (e_t (e_bin (e_call (e_ca0 (e_cons rfl (e_one rfl))) e1) rfl ((gt _).trans (by rw [decide_eq_true c])))) (q_ex (e_lm rfl (at_end _ _ _) (e_one (e_tup (e_cons (e_call (e_ca0 (e_cons rfl (e_one rfl))) e2) (e_cons (e_bin rfl rfl rfl) (e_cons (e_call (e_ca0 (e_cons rfl (e_one rfl))) e3) (e_one (e_call (e_ca0 (e_cons rfl (e_one (e_bin rfl rfl rfl)))) e4))))) (by simp))) (append_ev (at_end _ _ _) (by simp; omega))))) ?_
      rw [set_end]
      have : fs.map Fix.d ++ [.tup [.str (word w), .str r.name, .int k, .int u]] = (fs ++ [Fix.rest w r.name k u]).map Fix.d := by simp [Fix.d]
      rw [this]
      exact e5
    · obtain ⟨gs, b5, s5, hb5, hg, ndg, hng, hlg, e5⟩ := fix_loop (D0 := D0) (t := t) rows fs (seen ++ [r.name]) b1 (some r.d) hb1 (fun x hx => hr x (.tail _ hx)) ns2 hf nd (fun x hx => List.mem_append_left _ (hn x hx)) (by omega)
      refine ⟨gs, b5, s5, hb5, hg, ndg, by simpa using hng, hlg, ?_⟩
      exact l_nx rfl (q_no (e_t (e_bin (e_call (e_ca0 (e_cons rfl (e_one rfl))) e1) rfl ((gt _).trans (by rw [decide_eq_false c]))))) e5
end SP
set_option Elab.async false
set_option linter.all false
set_option maxRecDepth 100000
set_option maxHeartbeats 4000000
namespace SP
open PySem PySem.Spec PyProof.Rows L2 HF PF
theorem e_lcL {mi : FA} {g : FG} {tt : FT} {te : FE} {vs : List Nat} {sl : Sl} {h h1 h2 : List O} {ds xs : List D} (e : mi sl h = some (ds, h1)) (e2 : compC g tt te (wipeD sl vs) ds h1 = some (xs, h2)) (hl : xs.length ≤ 100000) : m_lcL mi g tt te vs sl h = some (.loc h2.length, h2 ++ [.lst xs]) := by
  unfold m_lcL
  rw [e]
  simp only [Option.bind_some]
  rw [e2]
  simp only [Option.bind_some]
  rw [if_pos (szOk_of hl)]
theorem marks_comp {b : Bag} (hb : b.Ok) (t : List O) (s1 s2 s3 s4 s5 : Option D) : ∃ (ms : List Fix) (b' : Bag), Bag.Ok b' ∧ (∀ f ∈ ms, f.Ok) ∧ (ms.map Fix.key).Nodup ∧ rnames ms = [] ∧ ms.length ≤ 2 ∧
    compC (g_n 5) (m_t (m_bin f_eq (m_call cm__law_pull [] (m_ca (a_cons (m_v 0) (a_cons (m_c (.int 3)) a_nil)) a_nil)) (m_c (.int 0)))) (m_v 5) [some (.loc 0), s1, s2, s3, s4, s5] [.tup [.str "full"], .tup [.str "empty"]] (b.enc :: t) = some (ms.map Fix.d, b'.enc :: t) := by
  obtain ⟨v, b1, _, hb1, e1⟩ := pull_ex (b := b) (n := 3) (by decide) (by decide) hb t
  obtain ⟨u, b2, _, hb2, e2⟩ := pull_ex (b := b1) (n := 3) (by decide) (by decide) hb1 t
  have kk : ¬ Fix.full.key = Fix.empty.key := by
    show ¬ [("full" : Str)] = [("empty" : Str)]
    decide +kernel
  by_cases c1 : v = 0 <;> by_cases c2 : u = 0
  · exact ⟨[.full, .empty], b2, hb2, by simp [Fix.Ok], by simp [kk], rfl, by decide, compC_in rfl (e_t (e_bin (e_call (e_ca0 (e_cons rfl (e_one rfl))) e1) rfl (eqi (decide_eq_true c1)))) rfl (compC_in rfl (e_t (e_bin (e_call (e_ca0 (e_cons rfl (e_one rfl))) e2) rfl (eqi (decide_eq_true c2)))) rfl rfl)⟩
  · exact ⟨[.full], b2, hb2, by simp [Fix.Ok], by simp, rfl, by decide, compC_in rfl (e_t (e_bin (e_call (e_ca0 (e_cons rfl (e_one rfl))) e1) rfl (eqi (decide_eq_true c1)))) rfl (compC_out rfl (e_t (e_bin (e_call (e_ca0 (e_cons rfl (e_one rfl))) e2) rfl (eqi (decide_eq_false c2)))) rfl)⟩
  · exact ⟨[.empty], b2, hb2, by simp [Fix.Ok], by simp, rfl, by decide, compC_out rfl (e_t (e_bin (e_call (e_ca0 (e_cons rfl (e_one rfl))) e1) rfl (eqi (decide_eq_false c1)))) (compC_in rfl (e_t (e_bin (e_call (e_ca0 (e_cons rfl (e_one rfl))) e2) rfl (eqi (decide_eq_true c2)))) rfl rfl)⟩
  · exact ⟨[], b2, hb2, by simp, by simp, rfl, by decide, compC_out rfl (e_t (e_bin (e_call (e_ca0 (e_cons rfl (e_one rfl))) e1) rfl (eqi (decide_eq_false c1)))) (compC_out rfl (e_t (e_bin (e_call (e_ca0 (e_cons rfl (e_one rfl))) e2) rfl (eqi (decide_eq_false c2)))) rfl)⟩
theorem q_fz {i j : Nat} {sl : Sl} {h : List O} {xs : List D} (e : sl[i]? = some (some (.loc j))) (e2 : h[j]? = some (.lst xs)) (hx : ∀ d ∈ xs, Stb d) : s_fz i sl h = some (.nx, sl.set i (some (.fl xs)), h.set j .gone) := by
  unfold s_fz
  rw [e]
  dsimp only
  rw [frz_loc (n := 3) e2 hx]
  rfl
theorem fixes_ex {s : Shape} (hs : s.Ok) {b : Bag} (hb : b.Ok) (t : List O) : ∃ (fs : List Fix) (b' : Bag), FixesOk fs ∧ (∀ x ∈ rnames fs, x ∈ s.names) ∧ Bag.Ok b' ∧
    cm__law_fixes_drawn [.loc 0, s.d, .int 9] [] (b.enc :: t) = some (.fl (fs.map Fix.d), b'.enc :: ((t ++ [.gone]) ++ [.gone])) := by
  have n6 := hs.n6
  obtain ⟨ms, b1, hb1, hms, nms, rms, lms, e1⟩ := marks_comp hb t (some s.d) (some (.int 9)) none none none
  obtain ⟨gs, b2, s4, hb2, hgs, ngs, rgs, lgs, e2⟩ := fix_loop (D0 := s.d) (t := t) s.rows ms [] b1 none hb1 (fun r hr => (hs.rows r hr).name) (by rw [List.nil_append]; exact hs.nd) hms nms (by rw [rms]; simp) (by omega)
  obtain ⟨zs, b3, hp, hb3, e3⟩ := mixed_ex (b := b2) (xs := gs.map Fix.d) (fun d hd => by
    obtain ⟨f, _, rfl⟩ := List.mem_map.mp hd
    exact fix_stb f) (by simp; omega) hb2 (t ++ [.gone])
  obtain ⟨fs, hp2, rfl⟩ := perm_d hp
  have G : FixesOk fs := FixesOk.perm hp2 ⟨hgs, ngs, lgs⟩
  refine ⟨fs, b3, G, fun x hx => ?_, hb3, ?_⟩
  · have hx : x ∈ rnames gs := by
      obtain ⟨f, hf, e⟩ := List.mem_filterMap.mp hx
      exact List.mem_filterMap.mpr ⟨f, hp2.mem_iff.mp hf, e⟩
    simpa [Shape.names] using rgs x hx
  · unfold cm__law_fixes_drawn b__law_fixes_drawn cmP
    dsimp only
    have z := q_fz (i := 3) (j := t.length + 1) (sl := [some (.loc 0), some s.d, some (.int 9), some (.loc (t.length + 1)), s4, none]) (h := b2.enc :: (t ++ [.lst (gs.map Fix.d)])) rfl (at_end _ _ _) (fun d hd => by
      obtain ⟨f, _, rfl⟩ := List.mem_map.mp hd
      exact fix_stb f)
    rw [set_end] at z
    exact rt_fn (rt_q (q_set (e_lcL (e_q (e_fl (e_cons (e_tup (e_one rfl)) (e_one (e_tup (e_one rfl)))))) e1 (by simp; omega))) (rt_q (q_for (e_q (e_bin rfl rfl rfl)) e2) (rt_q z (rt_ret (e_call (e_ca0 (e_cons rfl (e_one rfl))) e3)))))
end SP
set_option Elab.async false
set_option linter.all false
set_option maxRecDepth 100000
set_option maxHeartbeats 4000000
namespace SP
open PySem PySem.Spec PyProof.Rows L2 HF PF
theorem actE0 (h : List O) : f_eq (.tup []) (.tup [.str "exact"]) h = some (.bl false, h) := by
  have z : PyData.strOk "exact" = true := sok_exact
  simp [f_eq, toP, toPs, z, PyData.eqv, PyData.eqvAll]
theorem actE1 (h : List O) : f_eq (.tup [.str "exact"]) (.tup [.str "exact"]) h = some (.bl true, h) := by
  have z : PyData.strOk "exact" = true := sok_exact
  simp [f_eq, toP, toPs, z, PyData.eqv, PyData.eqvAll]
theorem actE2 (w : Bool) (r : Int) (h : List O) : f_eq (.tup [.str (word w), .int r]) (.tup [.str "exact"]) h = some (.bl false, h) := by
  have z : PyData.strOk (word w) = true := sok_word w
  have z2 : PyData.strOk "exact" = true := sok_exact
  simp [f_eq, toP, toPs, z, z2, PyData.eqv, PyData.eqvAll]
theorem actE {s : Shape} {fs : List Fix} {p : Pt} (h : List O) : f_eq (actD s fs p) (.tup [.str "exact"]) h = some (.bl (exactB s fs p), h) := by
  unfold actD
  by_cases c : exactB s fs p = true
  · rw [if_pos c, c]
    exact actE1 h
  · rw [if_neg c, Bool.eq_false_iff.mpr c]
    cases e : findR fs p.name p.run with
    | none => exact actE0 h
    | some f =>
      obtain ⟨_, w, t, r, rfl, _⟩ := findR_some e
      exact actE2 w r h
theorem law_number_ev {v lo hi : Int} (a : lo ≤ v) (b : v ≤ hi) (h : List O) : cm__law_is_number [.int v, .int lo, .int hi] [] h = some (.bl true, h) := by
  unfold cm__law_is_number b__law_is_number cmP
  dsimp only
  exact rt_fn (rt_q (q_no (e_nT (e_t (e_isT rfl rfl rfl)))) (rt_ret (m_and1 rfl (chain_le rfl rfl rfl a b))))
/-! deeds -/
structure Deed where
  r : Row
  f : Int
  slip : Int
  look : Int
def Deed.d (x : Deed) : D := .tup [.str x.r.name, .int x.f, .int x.slip, .int x.look]
def reachAt (fs : List Fix) (p : Pt) : Int := match findR fs p.name p.run with
  | some f => reach f
  | none => 0
structure DeedOk (s : Shape) (fs : List Fix) (p : Pt) (q : Row) (x : Deed) : Prop where
  tick : Tick s p q x.r x.f
  s0 : 0 - x.r.under ≤ x.slip
  s1 : x.slip ≤ x.r.over
  l0 : 0 - reachAt fs (s.enter p x.r.name x.f) ≤ x.look
  l1 : x.look ≤ reachAt fs (s.enter p x.r.name x.f)
def nextT (s : Shape) (fs : List Fix) (p : Pt) (t look : Int) : Int := if exactB s fs p = true then p.amt else match findR fs p.name p.run with
  | some (.rest w _ _ r) => if w = true then p.amt + look else max (p.amt + look - r) (min (p.amt + look + r) t)
  | _ => t
def Deed.to (s : Shape) (p : Pt) (x : Deed) : Pt := s.enter p x.r.name x.f
def Deed.total (s : Shape) (fs : List Fix) (p : Pt) (t : Int) (x : Deed) : Int := nextT s fs (x.to s p) (t + (x.to s p).amt - p.amt + x.slip) x.look
def momentD (p : Pt) (t : Int) : D := .tup [p.d, .int t]
section
variable {s : Shape} (hs : s.Ok) {fs : List Fix} (G : FixesOk fs)
include hs G
theorem tried_ev {p : Pt} (hp : p.Ok s) {q : Row} {x : Deed} (X : DeedOk s fs p q x) (t : Int) (h : List O) : cm__law_tried_tick [s.d, .fl (fs.map Fix.d), momentD p t, x.d] [] h = some (.tup [.str "", momentD (x.to s p) (x.total s fs p t)], h) := by
  have n6 := hs.n6
  have T := X.tick
  have hr := hs.rows x.r T.mr
  have hq := hs.rows q T.mq
  have hrn : x.r.name ∈ s.names := List.mem_map.mpr ⟨x.r, T.mr, rfl⟩
  have hp' : (x.to s p).Ok s := enter_ok hs hp hrn x.f
  have hn' := names_sok hs hp'.mem
  have ro : cm__law_row_of [s.d, .str p.name] [] h = some (q.d, h) := by
    rw [← T.qn]
    exact row_of_ev hs T.mq h
  have nm := lc_map (mi := i_q (m_bin f_ix (m_v 0) (m_c (.int 2)))) (g := g_n 10) (te := m_bin f_ix (m_v 10) (m_c (.int 0))) (vs := [10]) (sl := [some s.d, some (.fl (fs.map Fix.d)), some (momentD p t), some x.d, some p.d, some (.int t), some (.str x.r.name), some (.int x.f), some (.int x.slip), some (.int x.look), none, none, none, none]) (h := h) (h1 := h) (ds := s.rows.map Row.d) (f := fun d => match d with
    | .fl (n :: _) => n
    | d => d) (e_q (e_bin rfl rfl rfl)) (by rw [List.length_map]; omega) (fun d hd => by
      obtain ⟨r, _, rfl⟩ := List.mem_map.mp hd
      exact ⟨_, rfl, e_bin rfl rfl rfl⟩)
  have nm2 : ((s.rows.map Row.d).map fun d : D => match d with
    | .fl (n :: _) => n
    | d => d) = s.names.map D.str := by
    rw [Shape.names, List.map_map, List.map_map]
    rfl
  rw [nm2] at nm
  have n1 : f_ninL (.str x.r.name) (.fl (s.names.map D.str)) h = some (.bl false, h) := by
    rw [ninL_str hr.name.sok fun y hy => (names_sok hs hy).sok, decide_eq_true hrn]
    rfl
  have n2 : f_ninL (.str x.r.name) (.fl (q.late.map D.str)) h = some (.bl false, h) := by
    rw [ninL_str hr.name.sok fun y hy => (hq.lname y hy).sok, decide_eq_true T.next]
    rfl
  have ra := law_rest_at_ev G (p := x.to s p) hn' h
  have ac := law_acts_ev hs G hp' h
  have en := law_entered_ev hs hp hrn x.f h
  have l0 := X.l0
  have l1 := X.l1
  unfold cm__law_tried_tick b__law_tried_tick cmP
  dsimp only
  refine rt_fn (rt_q (q_asg rfl rfl) (rt_q (q_asg rfl rfl) ?_))
  change Rt (s_seq _ _ [some s.d, some (.fl (fs.map Fix.d)), some (momentD p t), some x.d, some p.d, some (.int t), some (.str x.r.name), some (.int x.f), some (.int x.slip), some (.int x.look), none, none, none, none] h) _ _
  refine (rt_q (q_no (e_nT (e_t (e_isT rfl rfl rfl)))) (rt_q (q_no (e_t (e_bin rfl nm n1))) (rt_q (q_no (e_t (e_bin rfl (e_bin (e_call (e_ca0 (e_cons rfl (e_one (e_bin rfl rfl rfl)))) ro) rfl rfl) n2))) ?_)))
  refine rt_q (q_set (e_call (e_ca0 (e_cons rfl (e_one rfl))) (row_of_ev hs T.mr h))) ?_
  refine rt_q (q_no (e_nT (e_t (e_call (e_ca0 (e_cons rfl (e_cons (e_bin rfl rfl rfl) (e_one (e_bin rfl rfl rfl))))) (law_number_ev T.f0 T.f1 h))))) ?_
  refine rt_q (q_no (e_nT (e_t (e_call (e_ca0 (e_cons rfl (e_cons (e_bin rfl (e_bin rfl rfl rfl) rfl) (e_one (e_bin rfl rfl rfl))))) (law_number_ev X.s0 X.s1 h))))) ?_
  refine rt_q (q_set (e_call (e_ca0 (e_cons rfl (e_cons rfl (e_cons rfl (e_one rfl))))) en)) ?_
  refine rt_q (q_set (e_call (e_ca0 (e_cons rfl (e_one rfl))) ra)) ?_
  change Rt (s_seq _ _ [some s.d, some (.fl (fs.map Fix.d)), some (momentD p t), some x.d, some p.d, some (.int t), some (.str x.r.name), some (.int x.f), some (.int x.slip), some (.int x.look), some x.r.d, some (x.to s p).d, some ((findR fs (x.to s p).name (x.to s p).run).elim .non Fix.d), none] h) _ _
  have ex := actE (s := s) (fs := fs) (p := x.to s p) h
  unfold Deed.total nextT
  cases e : findR fs (x.to s p).name (x.to s p).run with
  | none =>
    have e0 : reachAt fs (s.enter p x.r.name x.f) = 0 := by
      unfold reachAt
      rw [show findR fs (s.enter p x.r.name x.f).name (s.enter p x.r.name x.f).run = none from e]
    rw [e0] at l0 l1
    refine rt_q (q_set (e_if1 (e_t (e_bin rfl rfl rfl)) rfl)) ?_
    refine rt_q (q_no (e_nT (e_t (e_call (e_ca0 (e_cons rfl (e_cons (e_bin rfl rfl rfl) (e_one rfl)))) (law_number_ev l0 l1 h))))) ?_
    refine rt_q (q_set (e_bin (e_bin (e_bin rfl (e_bin rfl rfl rfl) rfl) (e_bin rfl rfl rfl) rfl) rfl rfl)) ?_
    change Rt (s_seq _ _ [some s.d, some (.fl (fs.map Fix.d)), some (momentD p t), some x.d, some p.d, some (.int (t + (x.to s p).amt - p.amt + x.slip)), some (.str x.r.name), some (.int x.f), some (.int x.slip), some (.int x.look), some x.r.d, some (x.to s p).d, some (.non), some (.int 0)] h) _ _
    refine rt_q (q_no (e_t (e_bin rfl rfl rfl))) (rt_ret ?_)
    by_cases c : exactB s fs (x.to s p) = true
    · rw [c] at ex
      rw [if_pos c]
      exact e_tup (e_cons rfl (e_one (e_tup (e_cons rfl (e_one (e_if1 (e_t (e_bin (e_call (e_ca0 (e_cons rfl (e_cons rfl (e_one rfl)))) ac) (e_tup (e_one rfl)) ex)) (e_bin rfl rfl rfl)))))))
    · rw [Bool.eq_false_iff.mpr c] at ex
      rw [if_neg c]
      exact e_tup (e_cons rfl (e_one (e_tup (e_cons rfl (e_one (e_if0 (e_t (e_bin (e_call (e_ca0 (e_cons rfl (e_cons rfl (e_one rfl)))) ac) (e_tup (e_one rfl)) ex)) rfl))))))
  | some f =>
    have e0 : reachAt fs (s.enter p x.r.name x.f) = reach f := by
      unfold reachAt
      rw [show findR fs (s.enter p x.r.name x.f).name (s.enter p x.r.name x.f).run = some f from e]
    rw [e0] at l0 l1
    obtain ⟨_, w, tt, rr, rfl, _⟩ := findR_some e
    have l0 : 0 - rr ≤ x.look := l0
    have l1 : x.look ≤ rr := l1
    refine rt_q (q_set (e_if0 (e_t (e_bin rfl rfl rfl)) (e_bin rfl rfl rfl))) ?_
    refine rt_q (q_no (e_nT (e_t (e_call (e_ca0 (e_cons rfl (e_cons (e_bin rfl rfl rfl) (e_one rfl)))) (law_number_ev l0 l1 h))))) ?_
    refine rt_q (q_set (e_bin (e_bin (e_bin rfl (e_bin rfl rfl rfl) rfl) (e_bin rfl rfl rfl) rfl) rfl rfl)) ?_
    change Rt (s_seq _ _ [some s.d, some (.fl (fs.map Fix.d)), some (momentD p t), some x.d, some p.d, some (.int (t + (x.to s p).amt - p.amt + x.slip)), some (.str x.r.name), some (.int x.f), some (.int x.slip), some (.int x.look), some x.r.d, some (x.to s p).d, some ((Fix.rest w (x.to s p).name tt rr).d), some (.int rr)] h) _ _
    cases w with
    | true =>
      refine rt_q (q_if1 (e_t (e_bin rfl rfl rfl)) (q_set (e_if1 (e_t (e_bin (e_bin rfl rfl rfl) rfl (eqs (sok_word true) sok_set word_set1))) (e_bin (e_bin rfl rfl rfl) rfl rfl)))) (rt_ret ?_)
      by_cases c : exactB s fs (x.to s p) = true
      · rw [c] at ex
        rw [if_pos c]
        exact e_tup (e_cons rfl (e_one (e_tup (e_cons rfl (e_one (e_if1 (e_t (e_bin (e_call (e_ca0 (e_cons rfl (e_cons rfl (e_one rfl)))) ac) (e_tup (e_one rfl)) ex)) (e_bin rfl rfl rfl)))))))
      · rw [Bool.eq_false_iff.mpr c] at ex
        rw [if_neg c]
        exact e_tup (e_cons rfl (e_one (e_tup (e_cons rfl (e_one (e_if0 (e_t (e_bin (e_call (e_ca0 (e_cons rfl (e_cons rfl (e_one rfl)))) ac) (e_tup (e_one rfl)) ex)) rfl))))))
    | false =>
      refine rt_q (q_if1 (e_t (e_bin rfl rfl rfl)) (q_set (e_if0 (e_t (e_bin (e_bin rfl rfl rfl) rfl (eqs (sok_word false) sok_set word_set0))) (e_b (e_one (e_fl (e_cons (e_bin (e_bin (e_bin rfl rfl rfl) rfl rfl) rfl rfl) (e_one (e_b (e_one (e_fl (e_cons (e_bin (e_bin (e_bin rfl rfl rfl) rfl rfl) rfl rfl) (e_one rfl)))) rfl))))) rfl)))) (rt_ret ?_)
      by_cases c : exactB s fs (x.to s p) = true
      · rw [c] at ex
        rw [if_pos c]
        exact e_tup (e_cons rfl (e_one (e_tup (e_cons rfl (e_one (e_if1 (e_t (e_bin (e_call (e_ca0 (e_cons rfl (e_cons rfl (e_one rfl)))) ac) (e_tup (e_one rfl)) ex)) (e_bin rfl rfl rfl)))))))
      · rw [Bool.eq_false_iff.mpr c] at ex
        rw [if_neg c]
        exact e_tup (e_cons rfl (e_one (e_tup (e_cons rfl (e_one (e_if0 (e_t (e_bin (e_call (e_ca0 (e_cons rfl (e_cons rfl (e_one rfl)))) ac) (e_tup (e_one rfl)) ex)) rfl))))))
end
end SP
set_option Elab.async false
set_option linter.all false
set_option maxRecDepth 100000
set_option maxHeartbeats 4000000
namespace SP
open PySem PySem.Spec PyProof.Rows L2 HF PF
section
variable {s : Shape} (hs : s.Ok) {fs : List Fix} (G : FixesOk fs)
include hs
theorem ticksL_ne {p : Pt} {q : Row} (hq : q ∈ s.rows) : ticksL s p q ≠ [] := by
  have hne := (hs.rows q hq).ne
  obtain ⟨a, as, e⟩ : ∃ a as, q.late = a :: as := by
    cases h : q.late with
    | nil => exact absurd h hne
    | cons a as => exact ⟨a, as, rfl⟩
  obtain ⟨r, hr, rfl⟩ := names_get (hs.late q hq a (by rw [e]; exact .head _))
  have hlh := (hs.rows r hr).lh
  intro z
  have z : (ticksD s p (.str r.name) ++ (as.map D.str).flatMap (ticksD s p)) = [] := by
    unfold ticksL at z
    rw [e] at z
    exact z
  have z : (flowsD (s.rowAt r.name)).flatMap (tickD s p r.name) = [] := (List.append_eq_nil_iff.mp z).1
  rw [rowAt_eq hs hr] at z
  have h0 : D.int (r.low + ((0 : Nat) : Int)) ∈ flowsD r := List.mem_map.mpr ⟨0, List.mem_range.mpr (by omega), rfl⟩
  have h1 : D.tup [.str r.name, .int (r.low + ((0 : Nat) : Int)), (s.enter p r.name (r.low + ((0 : Nat) : Int))).d] ∈ tickD s p r.name (.int (r.low + ((0 : Nat) : Int))) := List.mem_singleton.mpr rfl
  have := List.mem_flatMap.mpr ⟨_, h0, h1⟩
  rw [z] at this
  cases this
include G
theorem tick_drawn_ex {p : Pt} (hp : p.Ok s) {b : Bag} (hb : b.Ok) (t : List O) : ∃ (q : Row) (x : Deed) (b' : Bag), DeedOk s fs p q x ∧ Bag.Ok b' ∧ cm__law_tick_drawn [.loc 0, s.d, .fl (fs.map Fix.d), p.d] [] (b.enc :: t) = some (x.d, b'.enc :: (t ++ [.gone])) := by
  obtain ⟨q, hq, qn⟩ := names_get hp.mem
  have e0 := law_ticks_ev hs hp hq qn (b.enc :: t)
  obtain ⟨d, b1, hd, hb1, e1⟩ := pick_fl (b := b) (xs := ticksL s p q) (ticksL_ne hs hq) (by have := ticksL_len hs p hq; omega) hb (t ++ [.gone])
  obtain ⟨r, hr, hnx, f, f0, f1, rfl⟩ := ticksL_mem hs hq hd
  have hrr := hs.rows r hr
  have hrn : r.name ∈ s.names := List.mem_map.mpr ⟨r, hr, rfl⟩
  have hp' := enter_ok hs hp hrn f
  have hu := hrr.u0
  have ho := hrr.o0
  have hu9 := hrr.u1
  have ho9 := hrr.o1
  obtain ⟨v, b2, ⟨v0, v1⟩, hb2, e2⟩ := pull_ex (b := b1) (n := r.under + r.over + 1) (by omega) (by omega) hb1 (t ++ [.gone])
  have rb : 0 ≤ reachAt fs (s.enter p r.name f) ∧ reachAt fs (s.enter p r.name f) ≤ 9 := by
    unfold reachAt
    cases e : findR fs (s.enter p r.name f).name (s.enter p r.name f).run with
    | none => exact ⟨Int.le_refl _, (by decide : (0 : Int) ≤ 9)⟩
    | some g =>
      obtain ⟨hg, w, tt, rr, rfl, _⟩ := findR_some e
      exact (G.each _ hg).2.2
  obtain ⟨l, b3, ⟨l0, l1⟩, hb3, e3⟩ := close_ex (b := b2) (far := reachAt fs (s.enter p r.name f)) rb.1 (by omega) hb2 (t ++ [.gone])
  refine ⟨q, ⟨r, f, v - r.under, l⟩, b3, ⟨⟨hq, qn, hr, hnx, f0, f1⟩, (show 0 - r.under ≤ v - r.under by omega), (show v - r.under ≤ r.over by omega), (show 0 - reachAt fs (s.enter p r.name f) ≤ l by omega), l1⟩, hb3, ?_⟩
  unfold cm__law_tick_drawn b__law_tick_drawn cmP
  dsimp only
  have ra := law_rest_at_ev G (p := s.enter p r.name f) (names_sok hs hp'.mem) (b1.enc :: (t ++ [.gone]))
  refine rt_fn (rt_q (q_asg (e_call (e_ca0 (e_cons rfl (e_one (e_call (e_ca0 (e_cons rfl (e_one rfl))) e0)))) e1) rfl) ?_)
  have pp : s_par 7 8 (a_cons (m_call cm__law_row_of [] (m_ca (a_cons (m_v 1) (a_cons (m_v 4) a_nil)) a_nil)) (a_cons (m_call cm__law_rest_at [] (m_ca (a_cons (m_v 2) (a_cons (m_v 6) a_nil)) a_nil)) a_nil)) [some (.loc 0), some s.d, some (.fl (fs.map Fix.d)), some p.d, some (.str r.name), some (.int f), some (s.enter p r.name f).d, none, none, none] (b1.enc :: (t ++ [.gone]))
      = some (.nx, [some (.loc 0), some s.d, some (.fl (fs.map Fix.d)), some p.d, some (.str r.name), some (.int f), some (s.enter p r.name f).d, some r.d, some ((findR fs (s.enter p r.name f).name (s.enter p r.name f).run).elim .non Fix.d), none], b1.enc :: (t ++ [.gone])) := by
    unfold s_par
    rw [e_cons (e_call (e_ca0 (e_cons rfl (e_one rfl))) (row_of_ev hs hr _)) (e_one (e_call (e_ca0 (e_cons rfl (e_one rfl))) ra))]
    rfl
  refine rt_q pp (rt_q (q_set (e_bin (e_call (e_ca0 (e_cons rfl (e_one (e_bin (e_bin (e_bin rfl rfl rfl) (e_bin rfl rfl rfl) rfl) rfl rfl)))) e2) (e_bin rfl rfl rfl) rfl)) (rt_ret ?_))
  have rr : m_if (m_t (m_bin g_is (m_v 8) (m_c .non))) (m_c (.int 0)) (m_bin f_ix (m_v 8) (m_c (.int 3))) [some (.loc 0), some s.d, some (.fl (fs.map Fix.d)), some p.d, some (.str r.name), some (.int f), some (s.enter p r.name f).d, some r.d, some ((findR fs (s.enter p r.name f).name (s.enter p r.name f).run).elim .non Fix.d), some (.int (v - r.under))] (b2.enc :: (t ++ [.gone])) = some (.int (reachAt fs (s.enter p r.name f)), b2.enc :: (t ++ [.gone])) := by
    unfold reachAt
    cases e : findR fs (s.enter p r.name f).name (s.enter p r.name f).run with
    | none => exact e_if1 (e_t (e_bin rfl rfl rfl)) rfl
    | some g =>
      obtain ⟨_, w, tt, rr, rfl, _⟩ := findR_some e
      exact e_if0 (e_t (e_bin rfl rfl rfl)) (e_bin rfl rfl rfl)
  exact e_tup (e_cons rfl (e_cons rfl (e_cons rfl (e_one (e_call (e_ca0 (e_cons rfl (e_one rr))) e3)))))
end
/-! a use -/
def steps (s : Shape) (fs : List Fix) : Pt → Int → List Deed → List (Pt × Int)
  | _, _, [] => []
  | p, t, x :: xs => (x.to s p, x.total s fs p t) :: steps s fs (x.to s p) (x.total s fs p t) xs
def Walk (s : Shape) (fs : List Fix) : Pt → List Deed → Prop
  | _, [] => True
  | p, x :: xs => (∃ q, DeedOk s fs p q x) ∧ Walk s fs (x.to s p) xs
def mD (m : Pt × Int) : D := momentD m.1 m.2
theorem at1 (b : O) (t : List O) (x y : O) (gs : List O) : (b :: (t ++ (x :: y :: gs)))[t.length + 1]? = some x := by simp
theorem at2 (b : O) (t : List O) (x y : O) (gs : List O) : (b :: (t ++ (x :: y :: gs)))[t.length + 2]? = some y := by
  rw [show t.length + 2 = (t.length + 1) + 1 from rfl, List.getElem?_cons_succ, List.getElem?_append_right (by omega)]
  simp
theorem set1 (b : O) (t : List O) (x y z : O) (gs : List O) : (b :: (t ++ (x :: y :: gs))).set (t.length + 1) z = b :: (t ++ (z :: y :: gs)) := by simp
theorem set2 (b : O) (t : List O) (x y z : O) (gs : List O) : (b :: (t ++ (x :: y :: gs))).set (t.length + 2) z = b :: (t ++ (x :: z :: gs)) := by
  rw [show t.length + 2 = (t.length + 1) + 1 from rfl, List.set_cons_succ, List.set_append_right _ _ (by omega)]
  simp
theorem ix_last {i : Nat} {h : List O} {xs : List D} {d : D} (e : h[i]? = some (.lst (xs ++ [d]))) : f_ix (.loc i) (.int (-1)) h = some (d, h) := by
  unfold f_ix asQ
  dsimp only
  rw [e]
  show (atI (xs ++ [d]) (-1)).bind _ = _
  rw [L2.atI_last]
  rfl
section
variable {s : Shape} (hs : s.Ok) {fs : List Fix} (G : FixesOk fs)
include hs G
theorem use_loop {D3 : D} {T : List O} : ∀ (L : List D) (p : Pt) (t : Int) (ms ds : List D) (gs : List O) (b : Bag) (s6 s7 : Option D), p.Ok s → b.Ok → ms.length + L.length ≤ 1000 → ds.length + L.length ≤ 1000 →
    ∃ (xs : List Deed) (b' : Bag) (gs' : List O) (s6' s7' : Option D), xs.length = L.length ∧ Walk s fs p xs ∧ Bag.Ok b' ∧
    forL (g_n 6) (s_seq (s_set 7 (m_call cm__law_tick_drawn [] (m_ca (a_cons (m_v 0) (a_cons (m_v 1) (a_cons (m_v 2) (a_cons (m_bin f_ix (m_bin f_ix (m_v 4) (m_neg (m_c (.int 1)))) (m_c (.int 0))) a_nil)))) a_nil)))
  (s_seq (s_ex (m_lm x_append (m_v 5) (a_cons (m_v 7) a_nil)))
  (s_ex (m_lm x_append (m_v 4) (a_cons (m_bin f_ix (m_call cm__law_tried_tick [] (m_ca (a_cons (m_v 1) (a_cons (m_v 2) (a_cons (m_bin f_ix (m_v 4) (m_neg (m_c (.int 1)))) (a_cons (m_v 7) a_nil)))) a_nil)) (m_c (.int 1))) a_nil))))) L
      [some (.loc 0), some s.d, some (.fl (fs.map Fix.d)), some D3, some (.loc (T.length + 1)), some (.loc (T.length + 2)), s6, s7] (b.enc :: (T ++ (.lst (ms ++ [momentD p t]) :: .lst ds :: gs)))
      = some (.nx, [some (.loc 0), some s.d, some (.fl (fs.map Fix.d)), some D3, some (.loc (T.length + 1)), some (.loc (T.length + 2)), s6', s7'], b'.enc :: (T ++ (.lst (ms ++ [momentD p t] ++ (steps s fs p t xs).map mD) :: .lst (ds ++ xs.map Deed.d) :: gs')))
  | [], p, t, ms, ds, gs, b, s6, s7, hp, hb, _, _ => ⟨[], b, gs, s6, s7, rfl, trivial, hb, by simp [steps]; rfl⟩
  | y :: L, p, t, ms, ds, gs, b, s6, s7, hp, hb, h1, h2 => by
    simp only [List.length_cons] at h1 h2
    obtain ⟨q, x, b1, X, hb1, e1⟩ := tick_drawn_ex hs G hp hb (T ++ (.lst (ms ++ [momentD p t]) :: .lst ds :: gs))
    have ea : (T ++ (O.lst (ms ++ [momentD p t]) :: O.lst ds :: gs)) ++ [O.gone] = T ++ (O.lst (ms ++ [momentD p t]) :: O.lst ds :: (gs ++ [O.gone])) := by simp
    rw [ea] at e1
    have hp' : (x.to s p).Ok s := enter_ok hs hp (List.mem_map.mpr ⟨x.r, X.tick.mr, rfl⟩) x.f
    obtain ⟨xs, b2, gs2, s6', s7', hl, W, hb2, e2⟩ := use_loop (D3 := D3) (T := T) L (x.to s p) (x.total s fs p t) (ms ++ [momentD p t]) (ds ++ [x.d]) (gs ++ [.gone]) b1 (some y) (some x.d) hp' hb1 (by simp; omega) (by simp; omega)
    refine ⟨x :: xs, b2, gs2, s6', s7', by simp [hl], ⟨⟨q, X⟩, W⟩, hb2, ?_⟩
    have fin : ms ++ [momentD p t] ++ [momentD (x.to s p) (x.total s fs p t)] ++ (steps s fs (x.to s p) (x.total s fs p t) xs).map mD = ms ++ [momentD p t] ++ (steps s fs p t (x :: xs)).map mD := by
      simp [steps, mD]
    have fin2 : ds ++ [x.d] ++ xs.map Deed.d = ds ++ (x :: xs).map Deed.d := by simp
    rw [fin, fin2] at e2
    refine l_nx rfl (q_nx (q_set (e_call (e_ca0 (e_cons rfl (e_cons rfl (e_cons rfl (e_one (e_bin (e_bin rfl rfl (ix_last (at1 _ _ _ _ _))) rfl rfl)))))) e1)) (q_nx (q_ex (e_lm rfl (at2 _ _ _ _ _) (e_one rfl) ((append_ev (at2 _ _ _ _ _) (by omega)).trans (by rw [set2])))) (q_ex (e_lm rfl (at1 _ _ _ _ _) (e_one (e_bin (e_call (e_ca0 (e_cons rfl (e_cons rfl (e_cons (e_bin rfl rfl (ix_last (at1 _ _ _ _ _))) (e_one rfl))))) (tried_ev hs G hp X t _)) rfl rfl)) ((append_ev (at1 _ _ _ _ _) (by simp; omega)).trans (by rw [set1])))))) ?_
    exact e2
end
end SP
set_option Elab.async false
set_option linter.all false
set_option maxRecDepth 100000
set_option maxHeartbeats 4000000
namespace SP
open PySem PySem.Spec PyProof.Rows L2 HF PF
theorem deed_stb (x : Deed) : Stb x.d := fun _ _ => rfl
theorem moment_stb (p : Pt) (t : Int) : Stb (momentD p t) := fun _ _ => rfl
section
variable {s : Shape} (hs : s.Ok) {fs : List Fix} (G : FixesOk fs)
include hs G
theorem use_ex {n : Nat} (hn : n ≤ 100) {b : Bag} (hb : b.Ok) (t : List O) {x0 : Str} (e0 : s.names[0]? = some x0) : ∃ (xs : List Deed) (b' : Bag) (gs : List O), xs.length = n ∧ Walk s fs ⟨x0, 0, s.start⟩ xs ∧ Bag.Ok b' ∧
    cm__law_use_drawn [.loc 0, s.d, .fl (fs.map Fix.d), .int (n : Int)] [] (b.enc :: t) = some (.tup [.fl (xs.map Deed.d), .fl (([momentD ⟨x0, 0, s.start⟩ s.start]) ++ (steps s fs ⟨x0, 0, s.start⟩ s.start xs).map mD)], b'.enc :: (t ++ gs)) := by
  obtain ⟨x1, e1, sp⟩ := law_start_place_ev hs (b.enc :: t)
  have : x1 = x0 := Option.some.inj (e1.symm.trans e0)
  subst this
  obtain ⟨xs, b2, gs, s6, s7, hl, W, hb2, e⟩ := use_loop hs G (D3 := .int (n : Int)) (T := t) ((List.range n).map fun i => D.int (0 + (i : Nat))) ⟨x1, 0, s.start⟩ s.start [] [] [] b none none (start_ok hs e0) hb (by simp; omega) (by simp; omega)
  refine ⟨xs, b2, .gone :: .gone :: gs, by simpa using hl, W, hb2, ?_⟩
  rw [List.nil_append] at e
  unfold cm__law_use_drawn b__law_use_drawn cmP
  dsimp only
  have pp : s_par 4 5 (a_cons (m_tl (a_cons (m_tup (a_cons (m_call cm__law_start_place [] (m_ca (a_cons (m_v 1) a_nil) a_nil)) (a_cons (m_bin f_ix (m_v 1) (m_c (.int 1))) a_nil))) a_nil)) (a_cons (m_tl a_nil) a_nil)) [some (.loc 0), some s.d, some (.fl (fs.map Fix.d)), some (.int (n : Int)), none, none, none, none] (b.enc :: t)
      = some (.nx, [some (.loc 0), some s.d, some (.fl (fs.map Fix.d)), some (.int (n : Int)), some (.loc (t.length + 1)), some (.loc (t.length + 2)), none, none], b.enc :: (t ++ (.lst [momentD ⟨x1, 0, s.start⟩ s.start] :: .lst [] :: []))) := by
    unfold s_par
    have t1 := e_tl (e_one (e_tup (e_cons (e_call (cm := cm__law_start_place) (ks := []) (e_ca0 (e_one (m := m_v 1) (sl := [some (.loc 0), some s.d, some (.fl (fs.map Fix.d)), some (.int (n : Int)), none, none, none, none]) rfl)) sp) (e_one (e_bin (ma := m_v 1) (mb := m_c (.int 1)) (f := f_ix) (r := some (.int s.start, b.enc :: t)) rfl rfl rfl)))))
    have t2 := e_tl (ms := a_nil) (sl := [some (.loc 0), some s.d, some (.fl (fs.map Fix.d)), some (.int (n : Int)), none, none, none, none]) (h := (b.enc :: t) ++ [.lst [.tup [(⟨x1, 0, s.start⟩ : Pt).d, .int s.start]]]) rfl
    rw [e_cons t1 (e_one t2)]
    have l1 : (b.enc :: t).length = t.length + 1 := rfl
    have l2 : ((b.enc :: t) ++ [O.lst [.tup [(⟨x1, 0, s.start⟩ : Pt).d, .int s.start]]]).length = t.length + 2 := by simp
    rw [l2, Option.bind_some]
    dsimp only
    rw [l1, List.append_assoc]
    rfl
  refine rt_fn (rt_q pp (rt_q (q_for (e_r1 (e_one rfl) (by omega)) e) (rt_ret ?_)))
  have f1 := frz_loc (n := 2) (i := t.length + 2) (at2 b2.enc t (.lst ([momentD ⟨x1, 0, s.start⟩ s.start] ++ (steps s fs ⟨x1, 0, s.start⟩ s.start xs).map mD)) (.lst ([] ++ xs.map Deed.d)) gs) (fun d hd => by
    rw [List.nil_append] at hd
    obtain ⟨x, _, rfl⟩ := List.mem_map.mp hd
    exact deed_stb x)
  rw [set2] at f1
  have f2 := frz_loc (n := 2) (i := t.length + 1) (at1 b2.enc t (.lst ([momentD ⟨x1, 0, s.start⟩ s.start] ++ (steps s fs ⟨x1, 0, s.start⟩ s.start xs).map mD)) .gone gs) (fun d hd => by
    rcases List.mem_append.mp hd with hd | hd
    · rw [List.mem_singleton.mp hd]
      exact moment_stb _ _
    · obtain ⟨x, _, rfl⟩ := List.mem_map.mp hd
      exact moment_stb _ _)
  rw [set1] at f2
  unfold m_frz
  rw [e_tup (e_cons (m := m_v 5) rfl (e_one (m := m_v 4) rfl)), Option.bind_some]
  show (((frz 7 (.loc (t.length + 2)) _).bind fun p => ((mapS (frz 7) [.loc (t.length + 1)] p.2).bind fun q => some (p.1 :: q.1, q.2))).bind fun p => some (D.tup p.1, p.2)) = _
  rw [f1, Option.bind_some]
  show (((((frz 7 (.loc (t.length + 1)) _).bind fun p => ((mapS (frz 7) [] p.2).bind fun q => some (p.1 :: q.1, q.2)))).bind fun q => some (_ :: q.1, q.2)).bind fun p => some (D.tup p.1, p.2)) = _
  rw [f2]
  rfl
end
/-! the store -/
def storeKs : List Str := ["own_plan", "own_gauge", "moments", "done", "undone", "working"]
def storeO (s : Shape) (fs : List Fix) (a : Nat) (u : D) (w : Bool) : O := .ins "Store" storeKs [s.plan, gauge fs, .loc (a + 1), .loc (a + 2), u, .bl w]
theorem asI_loc {c : Str} {ks : List Str} {xs : List D} {h : List O} {i : Nat} (e : h[i]? = some (.ins c ks xs)) : asI h (.loc i) = some (c, ks, xs) := by
  unfold asI
  dsimp only
  rw [e]
theorem attr_loc {c f : Str} {ks : List Str} {xs : List D} {m : FE} {sl : Sl} {h h1 : List O} {i : Nat} {d : D} (e : m sl h = some (.loc i, h1)) (e2 : h1[i]? = some (.ins c ks xs)) (hl : lookF f ks xs = some d) : m_attr [c] f m sl h = some (d, h1) := by
  unfold m_attr
  rw [e, Option.bind_some]
  dsimp only
  rw [asI_loc e2]
  show (if [c].contains c = true then _ else _) = _
  rw [if_pos (by simp)]
  show (lookF f ks xs).bind _ = _
  rw [hl]
  rfl
theorem meth_loc {c n : Str} {cm : CM} {ks fs : List Str} {xs ds es : List D} {mo : FE} {mc : FC} {sl : Sl} {h h1 h2 : List O} {i : Nat} {r : Option (D × List O)} (e : mo sl h = some (.loc i, h1)) (e1 : h1[i]? = some (.ins c fs xs)) (hl : lookF n fs xs = none) (e2 : mc sl h1 = some ((ds, es), h2)) (k : cm (.loc i :: ds) (ks.zip es) h2 = r) : m_meth c n cm ks mo mc sl h = r := by
  unfold m_meth
  rw [e, Option.bind_some]
  dsimp only
  rw [asI_loc e1]
  show (if c = c ∧ lookF n fs xs = none then _ else _) = _
  rw [if_pos ⟨rfl, hl⟩, e2]
  exact k
theorem st_plan {s : Shape} {fs : List Fix} {a : Nat} {u : D} {w : Bool} {m : FE} {sl : Sl} {h h1 : List O} {i : Nat} (e : m sl h = some (.loc i, h1)) (e2 : h1[i]? = some (storeO s fs a u w)) : m_attr ["Store"] "own_plan" m sl h = some (s.plan, h1) := attr_loc e e2 (by kernel_rfl)
theorem st_gauge {s : Shape} {fs : List Fix} {a : Nat} {u : D} {w : Bool} {m : FE} {sl : Sl} {h h1 : List O} {i : Nat} (e : m sl h = some (.loc i, h1)) (e2 : h1[i]? = some (storeO s fs a u w)) : m_attr ["Store"] "own_gauge" m sl h = some (gauge fs, h1) := attr_loc e e2 (by kernel_rfl)
theorem st_moments {s : Shape} {fs : List Fix} {a : Nat} {u : D} {w : Bool} {m : FE} {sl : Sl} {h h1 : List O} {i : Nat} (e : m sl h = some (.loc i, h1)) (e2 : h1[i]? = some (storeO s fs a u w)) : m_attr ["Store"] "moments" m sl h = some (.loc (a + 1), h1) := attr_loc e e2 (by kernel_rfl)
theorem st_done {s : Shape} {fs : List Fix} {a : Nat} {u : D} {w : Bool} {m : FE} {sl : Sl} {h h1 : List O} {i : Nat} (e : m sl h = some (.loc i, h1)) (e2 : h1[i]? = some (storeO s fs a u w)) : m_attr ["Store"] "done" m sl h = some (.loc (a + 2), h1) := attr_loc e e2 (by kernel_rfl)
/-! after -/
theorem corrected_ev (w : Bool) (r t x : Int) (h : List O) : cm_corrected [.str (word w), .int r, .int t, .int x] [] h = some (.int (if w = true then x else max (x - r) (min (x + r) t)), h) := by
  unfold cm_corrected b_corrected cmP
  dsimp only
  cases w with
  | true => exact rt_fn (rt_q1 (rt_if1 (e_t (e_bin rfl rfl (eqs (sok_word true) sok_set word_set1))) (rt_ret rfl)))
  | false =>
    have mn : ∀ i j : Int, c_min2 [.int i, .int j] h = some (.int (min i j), h) := fun i j => by
      show some (D.int (if j < i then j else i), h) = _
      have : (if j < i then j else i) = min i j := by split <;> omega
      rw [this]
    have mx : ∀ i j : Int, c_max2 [.int i, .int j] h = some (.int (max i j), h) := fun i j => by
      show some (D.int (if j > i then j else i), h) = _
      have : (if j > i then j else i) = max i j := by split <;> omega
      rw [this]
    exact rt_fn (rt_q (q_no (e_t (e_bin rfl rfl (eqs (sok_word false) sok_set word_set0)))) (rt_ret (e_b (e_cons (e_bin rfl rfl rfl) (e_one (e_b (e_cons (e_bin rfl rfl rfl) (e_one rfl)) (mn _ _)))) (mx _ _))))
theorem q_aug {f : Int → Int → Int} {i : Nat} {m : FE} {sl : Sl} {h h1 : List O} {a b : Int} (e : sl[i]? = some (some (.int a))) (e2 : m sl h = some (.int b, h1)) : s_aug f i m sl h = some (.nx, sl.set i (some (.int (f a b))), h1) := by
  unfold s_aug
  rw [e]
  dsimp only
  rw [e2]
  rfl
theorem e_neg {m : FE} {sl : Sl} {h h1 : List O} {i : Int} (e : m sl h = some (.int i, h1)) : m_neg m sl h = some (.int (-i), h1) := by
  unfold m_neg
  rw [e]
  rfl
section
variable {s : Shape} (hs : s.Ok) {fs : List Fix} (G : FixesOk fs)
include hs G
theorem after_ev {p : Pt} (hp : p.Ok s) {q : Row} {x : Deed} (X : DeedOk s fs p q x) (t : Int) {h : List O} {i a : Nat} {u : D} {wk : Bool} (ei : h[i]? = some (storeO s fs a u wk)) : cm_Store_after [.loc i, momentD p t, x.d] [] h = some (momentD (x.to s p) (x.total s fs p t), h) := by
  have T := X.tick
  have hr := hs.rows x.r T.mr
  have hrn : x.r.name ∈ s.names := List.mem_map.mpr ⟨x.r, T.mr, rfl⟩
  have hp' : (x.to s p).Ok s := enter_ok hs hp hrn x.f
  have hn' := names_sok hs hp'.mem
  have ra := rest_at_ev G (p := x.to s p) hn' h
  have ac := acting_ev hs G hp' h
  have mv := moved_ev hs hp T h
  have l0 := X.l0
  have l1 := X.l1
  have s0 : -x.r.under ≤ x.slip := by have := X.s0; omega
  unfold cm_Store_after b_Store_after cmP
  dsimp only
  refine rt_fn (rt_q (q_asg rfl rfl) (rt_q (q_asg rfl rfl) ?_))
  change Rt (s_seq _ _ [some (.loc i), some (momentD p t), some x.d, some p.d, some (.int t), some (.str x.r.name), some (.int x.f), some (.int x.slip), some (.int x.look), none, none, none, none] h) _ _
  refine rt_q (q_set (meth_plan (st_plan rfl ei) (e_ca0 (e_cons rfl (e_cons rfl (e_one rfl)))) mv)) ?_
  refine rt_q (q_set (meth_plan (st_plan rfl ei) (e_ca0 (e_one rfl)) (plan_mode_ev hs T.mr h))) ?_
  change Rt (s_seq _ _ [some (.loc i), some (momentD p t), some x.d, some p.d, some (.int t), some (.str x.r.name), some (.int x.f), some (.int x.slip), some (.int x.look), some (x.to s p).d, some x.r.mode, none, none] h) _ _
  refine rt_q (q_no (e_nT (e_t (e_call (e_ca0 (e_cons rfl (e_cons (e_neg (mode_under x.r rfl)) (e_one (mode_over x.r rfl))))) (number_t h s0 X.s1))))) ?_
  refine rt_q (q_set (meth_gauge (st_gauge rfl ei) (e_ca0 (e_one rfl)) ra)) ?_
  change Rt (s_seq _ _ [some (.loc i), some (momentD p t), some x.d, some p.d, some (.int t), some (.str x.r.name), some (.int x.f), some (.int x.slip), some (.int x.look), some (x.to s p).d, some x.r.mode, some ((findR fs (x.to s p).name (x.to s p).run).elim .non trip), none] h) _ _
  have ex := actE (s := s) (fs := fs) (p := x.to s p) h
  have en : ∀ T0 R0 : D, ∀ r0 : D, m_meth "Gauge" "acting" cm_Gauge_acting [] (m_attr ["Store"] "own_gauge" (m_v 0)) (m_ca (a_cons (m_attr ["Store"] "own_plan" (m_v 0)) (a_cons (m_v 9) a_nil)) a_nil) [some (.loc i), some (momentD p t), some x.d, some p.d, some T0, some (.str x.r.name), some (.int x.f), some (.int x.slip), some (.int x.look), some (x.to s p).d, some x.r.mode, some R0, some r0] h = some (actD s fs (x.to s p), h) := fun T0 R0 r0 => meth_gauge (st_gauge rfl ei) (e_ca0 (e_cons (st_plan rfl ei) (e_one rfl))) ac
  unfold Deed.total nextT
  cases e : findR fs (x.to s p).name (x.to s p).run with
  | none =>
    have e0 : reachAt fs (s.enter p x.r.name x.f) = 0 := by
      unfold reachAt
      rw [show findR fs (s.enter p x.r.name x.f).name (s.enter p x.r.name x.f).run = none from e]
    rw [e0] at l0 l1
    have l0 : (-0 : Int) ≤ x.look := by omega
    refine rt_q (q_set (e_if1 (e_t (e_bin rfl rfl rfl)) rfl)) ?_
    refine rt_q (q_no (e_nT (e_t (e_call (e_ca0 (e_cons rfl (e_cons (e_neg rfl) (e_one rfl)))) (number_t h l0 l1))))) ?_
    refine rt_q (q_aug rfl (e_bin (e_bin (e_bin rfl rfl rfl) (e_bin rfl rfl rfl) rfl) rfl rfl)) ?_
    have et : t + ((x.to s p).amt - p.amt + x.slip) = t + (x.to s p).amt - p.amt + x.slip := by omega
    change Rt (s_seq _ _ [some (.loc i), some (momentD p t), some x.d, some p.d, some (.int (t + ((x.to s p).amt - p.amt + x.slip))), some (.str x.r.name), some (.int x.f), some (.int x.slip), some (.int x.look), some (x.to s p).d, some x.r.mode, some .non, some (.int 0)] h) _ _
    rw [et]
    refine rt_q (q_no (e_t (e_bin rfl rfl rfl))) ?_
    by_cases c : exactB s fs (x.to s p) = true
    · rw [c] at ex
      rw [if_pos c]
      exact rt_q (q_if1 (e_t (e_bin (en _ _ _) (e_tup (e_one rfl)) ex)) (q_set (e_bin rfl rfl rfl))) (rt_ret (e_tup (e_cons rfl (e_one rfl))))
    · rw [Bool.eq_false_iff.mpr c] at ex
      rw [if_neg c]
      exact rt_q (q_no (e_t (e_bin (en _ _ _) (e_tup (e_one rfl)) ex))) (rt_ret (e_tup (e_cons rfl (e_one rfl))))
  | some f =>
    have e0 : reachAt fs (s.enter p x.r.name x.f) = reach f := by
      unfold reachAt
      rw [show findR fs (s.enter p x.r.name x.f).name (s.enter p x.r.name x.f).run = some f from e]
    rw [e0] at l0 l1
    obtain ⟨_, w, tt, rr, rfl, _⟩ := findR_some e
    have l0 : -rr ≤ x.look := by
      have : 0 - rr ≤ x.look := l0
      omega
    have l1 : x.look ≤ rr := l1
    refine rt_q (q_set (e_if0 (e_t (e_bin rfl rfl rfl)) (e_bin rfl rfl rfl))) ?_
    refine rt_q (q_no (e_nT (e_t (e_call (e_ca0 (e_cons rfl (e_cons (e_neg rfl) (e_one rfl)))) (number_t h l0 l1))))) ?_
    refine rt_q (q_aug rfl (e_bin (e_bin (e_bin rfl rfl rfl) (e_bin rfl rfl rfl) rfl) rfl rfl)) ?_
    have et : t + ((x.to s p).amt - p.amt + x.slip) = t + (x.to s p).amt - p.amt + x.slip := by omega
    change Rt (s_seq _ _ [some (.loc i), some (momentD p t), some x.d, some p.d, some (.int (t + ((x.to s p).amt - p.amt + x.slip))), some (.str x.r.name), some (.int x.f), some (.int x.slip), some (.int x.look), some (x.to s p).d, some x.r.mode, some (trip (.rest w (x.to s p).name tt rr)), some (.int rr)] h) _ _
    rw [et]
    refine rt_q (q_if1 (e_t (e_bin rfl rfl rfl)) (q_set (e_call (e_ca0 (e_cons (e_bin rfl rfl rfl) (e_cons rfl (e_cons rfl (e_one (e_bin (e_bin rfl rfl rfl) rfl rfl)))))) (corrected_ev w _ _ _ h)))) ?_
    change Rt (s_seq _ _ [some (.loc i), some (momentD p t), some x.d, some p.d, some (.int (if w = true then (x.to s p).amt + x.look else max ((x.to s p).amt + x.look - rr) (min ((x.to s p).amt + x.look + rr) (t + (x.to s p).amt - p.amt + x.slip)))), some (.str x.r.name), some (.int x.f), some (.int x.slip), some (.int x.look), some (x.to s p).d, some x.r.mode, some (trip (.rest w (x.to s p).name tt rr)), some (.int rr)] h) _ _
    by_cases c : exactB s fs (x.to s p) = true
    · rw [c] at ex
      rw [if_pos c]
      exact rt_q (q_if1 (e_t (e_bin (en _ _ _) (e_tup (e_one rfl)) ex)) (q_set (e_bin rfl rfl rfl))) (rt_ret (e_tup (e_cons rfl (e_one rfl))))
    · rw [Bool.eq_false_iff.mpr c] at ex
      rw [if_neg c]
      exact rt_q (q_no (e_t (e_bin (en _ _ _) (e_tup (e_one rfl)) ex))) (rt_ret (e_tup (e_cons rfl (e_one rfl))))
end
end SP
set_option Elab.async false
set_option linter.all false
set_option maxRecDepth 100000
set_option maxHeartbeats 4000000
namespace SP
open PySem PySem.Spec PyProof.Rows L2 HF PF
theorem at0 (h : List O) (x : O) (l : List O) : (h ++ (x :: l))[h.length]? = some x := by simp
theorem set0 (h : List O) (x y : O) (l : List O) : (h ++ (x :: l)).set h.length y = h ++ (y :: l) := by simp
theorem atS (h l : List O) (k : Nat) : (h ++ l)[h.length + k]? = l[k]? := by
  rw [List.getElem?_append_right (by omega)]
  congr 1
  omega
theorem setS (h l : List O) (k : Nat) (y : O) : (h ++ l).set (h.length + k) y = h ++ l.set k y := by
  rw [List.set_append_right _ _ (by omega)]
  congr 2
  omega
theorem e_tlk {ms : FA} {sl : Sl} {H h l : List O} {ds : List D} (n : Nat) (e : ms sl H = some (ds, h ++ l)) (hn : l.length = n) (hl : ds.length ≤ 100000 := by simp) : m_tl ms sl H = some (.loc (h.length + n), h ++ (l ++ [.lst ds])) := by
  rw [e_tl e hl, List.length_append, hn, List.append_assoc]
theorem q_fldU {c n : Str} {mo mv : FE} {sl : Sl} {h h1 h2 hf : List O} {i : Nat} {ks : List Str} {xs vs : List D} {d : D} (e1 : mv sl h = some (d, h1)) (e2 : mo sl h1 = some (.loc i, h2)) (e3 : h2[i]? = some (.ins c ks xs)) (hk : putKs n ks = ks) (hv : putVs n d ks xs = vs) (hh : h2.set i (.ins c ks vs) = hf) (hl : ks.length < 900 := by decide) : s_fld [c] n mo mv sl h = some (.nx, sl, hf) := by
  unfold s_fld
  rw [e1, Option.bind_some]
  dsimp only
  rw [e2, Option.bind_some]
  dsimp only
  rw [e3]
  dsimp only
  rw [if_pos (by simp [hl]), hk, hv, hh]
theorem ks_working : putKs "working" storeKs = storeKs := by decide +kernel
theorem ks_undone : putKs "undone" storeKs = storeKs := by decide +kernel
theorem vs_working {a b c d e : D} {w w' : Bool} : putVs "working" (.bl w') storeKs [a, b, c, d, e, .bl w] = [a, b, c, d, e, .bl w'] := by kernel_rfl
theorem vs_undone {a b c d e f : D} {u : D} : putVs "undone" u storeKs [a, b, c, d, e, f] = [a, b, c, d, u, f] := by kernel_rfl
def playO (a : Nat) : O := .ins "Playing" ["target"] [.loc a]
theorem x_extend_fl {i : Nat} {h : List O} {xs ys : List D} (e : h[i]? = some (.lst xs)) (hl : xs.length + ys.length ≤ 100000) : x_extend (.loc i) [.fl ys] h = some (.non, h.set i (.lst (xs ++ ys))) := by
  unfold x_extend
  dsimp only
  rw [e]
  exact if_pos (szOk_of hl)
theorem x_extend_tup {i : Nat} {h : List O} {xs ys : List D} (e : h[i]? = some (.lst xs)) (hl : xs.length + ys.length ≤ 100000) : x_extend (.loc i) [.tup ys] h = some (.non, h.set i (.lst (xs ++ ys))) := by
  unfold x_extend
  dsimp only
  rw [e]
  exact if_pos (szOk_of hl)
def pyDeed (x : Deed) : PyData := .tuple [.str x.r.name, .int x.f, .int x.slip, .int x.look]
theorem toPs_deeds (h : List O) (n : Nat) : ∀ xs : List Deed, (∀ x ∈ xs, SOk x.r.name) → toPs (toP h (n + 2)) (xs.map Deed.d) = some (xs.map pyDeed)
  | [], _ => rfl
  | x :: xs, hx => by
    have z : PyData.strOk x.r.name = true := hx x (.head _)
    rw [List.map_cons, toPs, show toP h (n + 2) x.d = some (pyDeed x) by simp [Deed.d, toP, toPs, z, pyDeed], Option.bind_some, toPs_deeds h n xs fun y hy => hx y (.tail _ hy)]
    rfl
section
variable {s : Shape} (hs : s.Ok) {fs : List Fix} (G : FixesOk fs)
include hs G
theorem init_ev (hm : ∀ x ∈ rnames fs, x ∈ s.names) {x0 : Str} (e0 : s.names[0]? = some x0) (h : List O) : cm_Store___init__ [.loc h.length, s.plan, gauge fs] [] (h ++ [.ins "Store" [] []]) = some (.non, h ++ [storeO s fs h.length (.fl []) false, .lst [momentD ⟨x0, 0, s.start⟩ s.start], .lst []]) := by
  unfold cm_Store___init__ b_Store___init__ cmP
  dsimp only
  have sp : ∀ H, cm_Plan_start_place [s.plan] [] H = some ((⟨x0, 0, s.start⟩ : Pt).d, H) := fun H => by
    obtain ⟨x1, e1, sp⟩ := start_place_ev hs H
    rw [Option.some.inj (e1.symm.trans e0)] at sp
    exact sp
  refine nx_fn ?_
  refine nx_q (q_ex (meth_gauge rfl (e_ca0 (e_one rfl)) (check_ev hs G hm _))) ?_
  refine nx_q (q_fldE rfl rfl (at0 _ _ _) (set0 _ _ _ _)) ?_
  refine nx_q (q_fldE rfl rfl (at0 _ _ _) (set0 _ _ _ _)) ?_
  refine nx_q (q_fldE (e_tlk 1 (e_one (e_tup (e_cons (meth_plan rfl rfl (sp _)) (e_one (plan_start rfl))))) rfl) rfl (at0 _ _ _) (set0 _ _ _ _)) ?_
  refine nx_q (q_fldE (e_tlk (ms := a_nil) 2 rfl rfl) rfl (at0 _ _ _) (set0 _ _ _ _)) ?_
  refine nx_q (q_fldE rfl rfl (at0 _ _ _) (set0 _ _ _ _)) ?_
  exact ⟨_, q_fldE rfl rfl (at0 _ _ _) (set0 _ _ _ _)⟩
theorem play_loop {D1 : D} {m2 : Option D} {h : List O} {ms ds : List D} {u : D} {w : Bool} : ∀ (xs : List Deed) (p : Pt) (t : Int) (ls : List D) (s3 : Option D), p.Ok s → Walk s fs p xs → ls.length + xs.length ≤ 1000 →
    ∃ s3' : Option D, forL (g_n 3) (s_ex (m_lm x_append (m_v 4) (a_cons (m_meth "Store" "after" cm_Store_after [] (m_v 0) (m_ca (a_cons (m_bin f_ix (m_v 4) (m_neg (m_c (.int 1)))) (a_cons (m_v 3) a_nil)) a_nil)) a_nil))) (xs.map Deed.d)
      [some (.loc h.length), some D1, m2, s3, some (.loc (h.length + 3))] (h ++ [storeO s fs h.length u w, .lst ms, .lst ds, .lst (ls ++ [momentD p t]), playO h.length])
      = some (.nx, [some (.loc h.length), some D1, m2, s3', some (.loc (h.length + 3))], h ++ [storeO s fs h.length u w, .lst ms, .lst ds, .lst (ls ++ [momentD p t] ++ (steps s fs p t xs).map mD), playO h.length])
  | [], p, t, ls, s3, _, _, _ => ⟨s3, by simp [steps]; rfl⟩
  | x :: xs, p, t, ls, s3, hp, ⟨⟨q, X⟩, W⟩, hl => by
    simp only [List.length_cons] at hl
    have hp' : (x.to s p).Ok s := enter_ok hs hp (List.mem_map.mpr ⟨x.r, X.tick.mr, rfl⟩) x.f
    obtain ⟨s3', e⟩ := play_loop (D1 := D1) (m2 := m2) (h := h) (ms := ms) (ds := ds) (u := u) (w := w) xs (x.to s p) (x.total s fs p t) (ls ++ [momentD p t]) (some x.d) hp' W (by simp; omega)
    refine ⟨s3', ?_⟩
    have fin : ls ++ [momentD p t] ++ [momentD (x.to s p) (x.total s fs p t)] ++ (steps s fs (x.to s p) (x.total s fs p t) xs).map mD = ls ++ [momentD p t] ++ (steps s fs p t (x :: xs)).map mD := by
      simp [steps, mD]
    rw [fin] at e
    refine l_nx rfl (q_ex (e_lm rfl (atS _ _ 3) (e_one (meth_loc rfl (at0 _ _ _) (by kernel_rfl) (e_ca0 (e_cons (e_bin rfl rfl (ix_last (atS _ _ 3))) (e_one rfl))) (after_ev hs G hp X t (at0 _ _ _)))) ((append_ev (atS _ _ 3) (by simp; omega)).trans (by rw [setS] <;> rfl)))) ?_
    exact e
theorem play_ev {x : Deed} {xs : List Deed} {p : Pt} (t : Int) (hp : p.Ok s) (W : Walk s fs p (x :: xs)) (hl : xs.length ≤ 100) (hnm : ∀ y ∈ x :: xs, SOk y.r.name) (h : List O) :
    cm_Store_play (.loc h.length :: (x :: xs).map Deed.d) [] (h ++ [storeO s fs h.length (.fl []) false, .lst [momentD p t], .lst []]) = some (.non, h ++ [storeO s fs h.length (.fl []) false, .lst ([momentD p t] ++ (steps s fs p t (x :: xs)).map mD), .lst ([] ++ (x :: xs).map Deed.d), .lst ([] ++ [momentD p t] ++ (steps s fs p t (x :: xs)).map mD), playO h.length]) := by
  unfold cm_Store_play
  refine star_nx (n0 := 1) ?_ (by simp) rfl (by simp; omega)
  change Nx (b_Store_play [some (.loc h.length), some (.tup ((x :: xs).map Deed.d)), none, none, none] _) _
  unfold b_Store_play
  obtain ⟨_, e1, s2, s3, rfl⟩ := forL_keep (g := g_q 2 (gs_cons (g_n 2) (gs_cons (g_n 3) gs_nil))) (b := s_if (t_not (m_t (m_call cm_is_tick [] (m_ca (a_cons (m_v 3) a_nil) a_nil)))) s_never s_nil) (h := h ++ [storeO s fs h.length (.fl []) false, .lst [momentD p t], .lst []])
    (fun sl => ∃ s2 s3, sl = [some (.loc h.length), some (.tup ((x :: xs).map Deed.d)), s2, s3, none]) (enumF 0 ((x :: xs).map Deed.d)) _ ⟨none, none, rfl⟩ (fun y hy sl ⟨s2, s3, e⟩ => by
      subst e
      obtain ⟨j, a, rfl, ej⟩ := enumF_mem _ _ _ hy
      obtain ⟨d, _, rfl⟩ := List.mem_map.mp (List.mem_of_getElem? ej)
      have it : ∀ H, cm_is_tick [d.d] [] H = some (.bl true, H) := fun H => by
        unfold cm_is_tick b_is_tick cmP
        dsimp only
        exact rt_fn (rt_ret (m_and1 (e_isT rfl rfl rfl) (e_bin (e_b (e_one rfl) rfl) rfl (eqi rfl))))
      exact ⟨_, _, rfl, q_no (e_nT (e_t (e_call (e_ca0 (e_one rfl)) (it _)))), ⟨_, _, rfl⟩⟩)
  refine nx_q (q_for (e_enT rfl) e1) ?_
  refine nx_q (q_set (e_tlk 3 (e_one (e_bin (st_moments rfl (at0 _ _ _)) rfl (ix_last (xs := []) (atS _ _ 1)))) rfl)) ?_
  change Nx (s_seq _ _ [some (.loc h.length), some (.tup ((x :: xs).map Deed.d)), s2, s3, some (.loc (h.length + 3))] (h ++ [storeO s fs h.length (.fl []) false, .lst [momentD p t], .lst [], .lst ([] ++ [momentD p t])])) _
  obtain ⟨s3', e2⟩ := play_loop hs G (D1 := .tup ((x :: xs).map Deed.d)) (m2 := s2) (h := h) (ms := [momentD p t]) (ds := []) (u := .fl []) (w := true) (x :: xs) p t [] s3 hp W (by simp; omega)
  have wi : s_with "Playing" cm_Playing___enter__ cm_Playing___exit__ (m_mkT "Playing" cm_Playing___init__ [] (m_ca (a_cons (m_v 0) a_nil) a_nil)) (s_for (i_q (m_v 1)) (g_n 3) (s_ex (m_lm x_append (m_v 4) (a_cons (m_meth "Store" "after" cm_Store_after [] (m_v 0) (m_ca (a_cons (m_bin f_ix (m_v 4) (m_neg (m_c (.int 1)))) (a_cons (m_v 3) a_nil)) a_nil)) a_nil))))
      [some (.loc h.length), some (.tup ((x :: xs).map Deed.d)), s2, s3, some (.loc (h.length + 3))] (h ++ [storeO s fs h.length (.fl []) false, .lst [momentD p t], .lst [], .lst ([] ++ [momentD p t])])
      = some (.nx, [some (.loc h.length), some (.tup ((x :: xs).map Deed.d)), s2, s3', some (.loc (h.length + 3))], h ++ [storeO s fs h.length (.fl []) false, .lst [momentD p t], .lst [], .lst ([] ++ [momentD p t] ++ (steps s fs p t (x :: xs)).map mD), playO h.length]) := by
    have mk : m_mkT "Playing" cm_Playing___init__ [] (m_ca (a_cons (m_v 0) a_nil) a_nil) [some (.loc h.length), some (.tup ((x :: xs).map Deed.d)), s2, s3, some (.loc (h.length + 3))] (h ++ [storeO s fs h.length (.fl []) false, .lst [momentD p t], .lst [], .lst ([] ++ [momentD p t])])
        = some (.loc (h.length + 4), h ++ [storeO s fs h.length (.fl []) false, .lst [momentD p t], .lst [], .lst ([] ++ [momentD p t]), playO h.length]) := by
      unfold m_mkT
      rw [e_ca0 (e_one (m := m_v 0) rfl), Option.bind_some]
      dsimp only
      rw [List.length_append, List.append_assoc]
      have i1 : cm_Playing___init__ [.loc (h.length + 4), .loc h.length] [] (h ++ [storeO s fs h.length (.fl []) false, .lst [momentD p t], .lst [], .lst ([] ++ [momentD p t]), .ins "Playing" [] []]) = some (.non, h ++ [storeO s fs h.length (.fl []) false, .lst [momentD p t], .lst [], .lst ([] ++ [momentD p t]), playO h.length]) := by
        unfold cm_Playing___init__ b_Playing___init__ cmP
        dsimp only
        exact nx_fn ⟨_, q_fldE rfl rfl (atS _ _ 4) ((setS _ _ 4 _).trans rfl)⟩
      exact (congrArg (fun o : Option (D × List O) => o.bind fun q => match q.1 with
        | .non => some (D.loc (h.length + 4), q.2)
        | _ => none) i1).trans rfl
    have en : cm_Playing___enter__ [.loc (h.length + 4)] [] (h ++ [storeO s fs h.length (.fl []) false, .lst [momentD p t], .lst [], .lst ([] ++ [momentD p t]), playO h.length]) = some (.loc (h.length + 4), h ++ [storeO s fs h.length (.fl []) true, .lst [momentD p t], .lst [], .lst ([] ++ [momentD p t]), playO h.length]) := by
      unfold cm_Playing___enter__ b_Playing___enter__ cmP
      dsimp only
      exact rt_fn (rt_q (q_fldU rfl (attr_loc rfl (atS _ _ 4) (by kernel_rfl)) (at0 _ _ _) ks_working vs_working (set0 _ _ _ _)) (rt_ret rfl))
    have exi : cm_Playing___exit__ [.loc (h.length + 4), .non, .non, .non] [] (h ++ [storeO s fs h.length (.fl []) true, .lst [momentD p t], .lst [], .lst ([] ++ [momentD p t] ++ (steps s fs p t (x :: xs)).map mD), playO h.length]) = some (.non, h ++ [storeO s fs h.length (.fl []) false, .lst [momentD p t], .lst [], .lst ([] ++ [momentD p t] ++ (steps s fs p t (x :: xs)).map mD), playO h.length]) := by
      unfold cm_Playing___exit__ b_Playing___exit__ cmP
      dsimp only
      exact nx_fn ⟨_, q_fldU rfl (attr_loc rfl (atS _ _ 4) (by kernel_rfl)) (at0 _ _ _) ks_working vs_working (set0 _ _ _ _)⟩
    unfold s_with
    rw [mk, Option.bind_some]
    dsimp only
    rw [asI_loc (c := "Playing") (ks := ["target"]) (xs := [.loc h.length]) (atS _ _ 4), Option.bind_some, if_pos rfl, en, Option.bind_some]
    dsimp only
    rw [q_for (e_qt (m := m_v 1) rfl) e2, Option.bind_some]
    dsimp only
    rw [exi]
    rfl
  refine nx_q wi ?_
  have ne : f_ne (.tup ((x :: xs).map Deed.d)) (.tup []) (h ++ [storeO s fs h.length (.fl []) false, .lst [momentD p t], .lst [], .lst ([] ++ [momentD p t] ++ (steps s fs p t (x :: xs)).map mD), playO h.length]) = some (.bl true, h ++ [storeO s fs h.length (.fl []) false, .lst [momentD p t], .lst [], .lst ([] ++ [momentD p t] ++ (steps s fs p t (x :: xs)).map mD), playO h.length]) := by
    unfold f_ne
    have e : ∀ H, toP H 12 (.tup ((x :: xs).map Deed.d)) = some (.tuple ((x :: xs).map pyDeed)) := fun H => by
      rw [toP, toPs_deeds H 9 (x :: xs) hnm]
      rfl
    rw [e, Option.bind_some]
    rfl
  have sll : ∀ H : List O, H[h.length + 3]? = some (.lst ([] ++ [momentD p t] ++ (steps s fs p t (x :: xs)).map mD)) → f_sl (.loc (h.length + 3)) (some 1) none H = some (.fl ((steps s fs p t (x :: xs)).map mD), H) := fun H e => by
    unfold f_sl
    dsimp only
    rw [e]
    show some (D.fl (HF.cutD _ (some ((1 : Nat) : Int)) none), H) = _
    rw [cutD_from (by simp)]
    rfl
  have sl3 : (steps s fs p t (x :: xs)).length = xs.length + 1 := by
    have : ∀ (ys : List Deed) (p : Pt) (t : Int), (steps s fs p t ys).length = ys.length := by
      intro ys
      induction ys with
      | nil => intro _ _; rfl
      | cons y ys ih => intro p t; rw [steps, List.length_cons, ih, List.length_cons]
    rw [this]
    rfl
  have en1 : s_if (m_t (m_bin f_ne (m_v 1) (m_tup a_nil))) (s_seq (s_ex (m_lm x_extend (m_attr ["Store"] "moments" (m_v 0)) (a_cons (m_sl (m_v 4) (o_some (m_c (.int 1))) o_none) a_nil)))
      (s_seq (s_ex (m_lm x_extend (m_attr ["Store"] "done" (m_v 0)) (a_cons (m_v 1) a_nil)))
      (s_fld ["Store"] "undone" (m_v 0) (m_fl a_nil)))) s_nil [some (.loc h.length), some (.tup ((x :: xs).map Deed.d)), s2, s3', some (.loc (h.length + 3))] (h ++ [storeO s fs h.length (.fl []) false, .lst [momentD p t], .lst [], .lst ([] ++ [momentD p t] ++ (steps s fs p t (x :: xs)).map mD), playO h.length])
      = some (.nx, [some (.loc h.length), some (.tup ((x :: xs).map Deed.d)), s2, s3', some (.loc (h.length + 3))], h ++ [storeO s fs h.length (.fl []) false, .lst ([momentD p t] ++ (steps s fs p t (x :: xs)).map mD), .lst ([] ++ (x :: xs).map Deed.d), .lst ([] ++ [momentD p t] ++ (steps s fs p t (x :: xs)).map mD), playO h.length]) := by
    refine q_if1 (e_t (e_bin rfl (e_tup rfl) ne)) ?_
    refine q_nx (q_ex (e_lm (st_moments rfl (at0 _ _ _)) (atS _ _ 1) (e_one (e_sl rfl (e_os rfl) rfl (sll _ (atS _ _ 3)))) ((x_extend_fl (atS _ _ 1) (by simp [sl3] <;> omega)).trans (by rw [setS])))) ?_
    refine q_nx (q_ex (e_lm (st_done rfl (at0 _ _ _)) (atS _ _ 2) (e_one rfl) ((x_extend_tup (atS _ _ 2) (by simp; omega)).trans (by rw [setS])))) ?_
    exact q_fldU (e_fl rfl) rfl (at0 _ _ _) ks_undone vs_undone (set0 _ _ _ _)
  exact ⟨_, en1⟩
end
end SP
set_option Elab.async false
set_option linter.all false
set_option maxRecDepth 100000
set_option maxHeartbeats 4000000
namespace SP
open PySem PySem.Spec PyProof.Rows L2 HF PF
def pairD (m : Pt × Int) : D := .tup [.int m.1.amt, .int m.2]
def trackD (x : Deed) : D := .tup [.str x.r.name, .int x.f]
theorem compC_moments {slw : Sl} {h : List O} (h15 : Nat) (h16 : Nat) (n : Nat) (hs : slw.length = n) (hl : h15 < n) (hm : h16 < n) (hd : h15 ≠ h16) : ∀ ms : List (Pt × Int), compC (g_q 2 (gs_cons (g_n h15) (gs_cons (g_n h16) gs_nil))) t_yes (m_tup (a_cons (m_bin f_ix (m_v h15) (m_c (.int 2))) (a_cons (m_v h16) a_nil))) slw (ms.map mD) h = some (ms.map pairD, h)
  | [] => rfl
  | m :: ms => by
    have v1 : m_v h15 ((slw.set h15 (some m.1.d)).set h16 (some (.int m.2))) h = some (m.1.d, h) := by
      unfold m_v
      rw [List.getElem?_set_ne (Ne.symm hd), List.getElem?_set_self (by omega)]
    have v2 : m_v h16 ((slw.set h15 (some m.1.d)).set h16 (some (.int m.2))) h = some (.int m.2, h) := by
      unfold m_v
      rw [List.getElem?_set_self (by rw [List.length_set]; omega)]
    exact compC_yes (s1 := (slw.set h15 (some m.1.d)).set h16 (some (.int m.2))) rfl (e_tup (e_cons (e_bin v1 rfl rfl) (e_one v2))) (compC_moments h15 h16 n hs hl hm hd ms)
section
variable {s : Shape} (hs : s.Ok) {fs : List Fix} (G : FixesOk fs)
include hs G
theorem steps_len : ∀ (ys : List Deed) (p : Pt) (t : Int), (steps s fs p t ys).length = ys.length
  | [], _, _ => rfl
  | y :: ys, p, t => by rw [steps, List.length_cons, steps_len ys, List.length_cons]
theorem played_ev (hm : ∀ x ∈ rnames fs, x ∈ s.names) {x0 : Str} (e0 : s.names[0]? = some x0) {x : Deed} {xs : List Deed} (W : Walk s fs ⟨x0, 0, s.start⟩ (x :: xs)) (hl : xs.length ≤ 100) (hnm : ∀ y ∈ x :: xs, SOk y.r.name) (h : List O) :
    ∃ gs : List O, cm_played [s.plan, gauge fs, .fl ((x :: xs).map Deed.d)] [] h = some (.fl (((⟨x0, 0, s.start⟩, s.start) :: steps s fs ⟨x0, 0, s.start⟩ s.start (x :: xs)).map pairD), h ++ gs) := by
  have sl := steps_len hs G (x :: xs) ⟨x0, 0, s.start⟩ s.start
  simp only [List.length_cons] at sl
  refine ⟨[storeO s fs h.length (.fl []) false, .gone, .lst ([] ++ (x :: xs).map Deed.d), .lst ([] ++ [momentD ⟨x0, 0, s.start⟩ s.start] ++ (steps s fs ⟨x0, 0, s.start⟩ s.start (x :: xs)).map mD), playO h.length], ?_⟩
  have pe := play_ev hs G s.start (start_ok hs e0) W hl hnm h
  have pr : cm_Store_pairs [.loc h.length] [] (h ++ [storeO s fs h.length (.fl []) false, .lst ([momentD ⟨x0, 0, s.start⟩ s.start] ++ (steps s fs ⟨x0, 0, s.start⟩ s.start (x :: xs)).map mD), .lst ([] ++ (x :: xs).map Deed.d), .lst ([] ++ [momentD ⟨x0, 0, s.start⟩ s.start] ++ (steps s fs ⟨x0, 0, s.start⟩ s.start (x :: xs)).map mD), playO h.length])
      = some (.fl (((⟨x0, 0, s.start⟩, s.start) :: steps s fs ⟨x0, 0, s.start⟩ s.start (x :: xs)).map pairD), h ++ [storeO s fs h.length (.fl []) false, .gone, .lst ([] ++ (x :: xs).map Deed.d), .lst ([] ++ [momentD ⟨x0, 0, s.start⟩ s.start] ++ (steps s fs ⟨x0, 0, s.start⟩ s.start (x :: xs)).map mD), playO h.length]) := by
    unfold cm_Store_pairs b_Store_pairs cmP
    dsimp only
    have fz := e_frz (m := m_attr ["Store"] "moments" (m_v 0)) (sl := [some (.loc h.length), none, none]) (st_moments rfl (at0 h (storeO s fs h.length (.fl []) false) [.lst ([momentD ⟨x0, 0, s.start⟩ s.start] ++ (steps s fs ⟨x0, 0, s.start⟩ s.start (x :: xs)).map mD), .lst ([] ++ (x :: xs).map Deed.d), .lst ([] ++ [momentD ⟨x0, 0, s.start⟩ s.start] ++ (steps s fs ⟨x0, 0, s.start⟩ s.start (x :: xs)).map mD), playO h.length])) (atS _ _ 1) (fun d hd => by
      rcases List.mem_append.mp hd with hd | hd
      · rw [List.mem_singleton.mp hd]
        exact moment_stb _ _
      · obtain ⟨m, _, rfl⟩ := List.mem_map.mp hd
        exact moment_stb _ _)
    rw [setS] at fz
    exact rt_fn (rt_ret (e_lc (e_q fz) (compC_moments 1 2 3 rfl (by decide) (by decide) (by decide) ((⟨x0, 0, s.start⟩, s.start) :: steps s fs ⟨x0, 0, s.start⟩ s.start (x :: xs))) (by simp; omega)))
  have ie := init_ev hs G hm e0 h
  have mk : m_mkT "Store" cm_Store___init__ [] (m_ca (a_cons (m_v 0) (a_cons (m_v 1) a_nil)) a_nil) [some s.plan, some (gauge fs), some (.fl ((x :: xs).map Deed.d)), none] h = some (.loc h.length, h ++ [storeO s fs h.length (.fl []) false, .lst [momentD ⟨x0, 0, s.start⟩ s.start], .lst []]) := by
    unfold m_mkT
    rw [e_ca0 (e_cons (m := m_v 0) rfl (e_one (m := m_v 1) rfl)), Option.bind_some]
    exact (congrArg (fun o : Option (D × List O) => o.bind fun q => match q.1 with
        | .non => some (D.loc h.length, q.2)
        | _ => none) ie).trans rfl
  unfold cm_played b_played cmP
  dsimp only
  exact rt_fn (rt_q (q_set mk) (rt_q (q_ex (meth_loc rfl (at0 _ _ _) (by kernel_rfl) (e_ca0 (e_star rfl rfl)) (by rw [List.append_nil]; exact pe))) (rt_ret (meth_loc rfl (at0 _ _ _) (by kernel_rfl) rfl pr))))
/-! widths -/
def wids (s : Shape) (fs : List Fix) : Pt → Int → Int → List Deed → List (Int × Int)
  | _, _, _, [] => []
  | p, a, b, x :: xs => (widthB s fs (x.to s p) (a + errOn x.r false), widthB s fs (x.to s p) (b + errOn x.r true)) :: wids s fs (x.to s p) (widthB s fs (x.to s p) (a + errOn x.r false)) (widthB s fs (x.to s p) (b + errOn x.r true)) xs
end
def widD (w : Int × Int) : D := .tup [.int w.1, .int w.2]
def ends (s : Shape) : Pt → List Deed → Pt
  | p, [] => p
  | p, x :: xs => ends s (x.to s p) xs
section
variable {s : Shape} (hs : s.Ok) {fs : List Fix} (G : FixesOk fs)
include hs
theorem ended_loop {D0 D1 : D} {h : List O} : ∀ (xs : List Deed) (p : Pt) (s3 s4 : Option D), p.Ok s → Walk s fs p xs → ∃ s3' s4', forL (g_q 2 (gs_cons (g_n 3) (gs_cons (g_n 4) gs_nil))) (s_set 2 (m_meth "Plan" "moved" cm_Plan_moved [] (m_v 0) (m_ca (a_cons (m_v 2) (a_cons (m_v 3) (a_cons (m_v 4) a_nil))) a_nil))) (xs.map trackD) [some s.plan, some D1, some p.d, s3, s4] h = some (.nx, [some s.plan, some D1, some (ends s p xs).d, s3', s4'], h)
  | [], p, s3, s4, _, _ => ⟨s3, s4, rfl⟩
  | x :: xs, p, s3, s4, hp, ⟨⟨q, X⟩, W⟩ => by
    have hp' : (x.to s p).Ok s := enter_ok hs hp (List.mem_map.mpr ⟨x.r, X.tick.mr, rfl⟩) x.f
    obtain ⟨s3', s4', e⟩ := ended_loop (D0 := D0) (D1 := D1) (h := h) xs (x.to s p) (some (.str x.r.name)) (some (.int x.f)) hp' W
    exact ⟨s3', s4', l_nx rfl (q_set (meth_plan rfl (e_ca0 (e_cons rfl (e_cons rfl (e_one rfl)))) (moved_ev hs hp X.tick h))) e⟩
theorem ended_ev {x0 : Str} (e0 : s.names[0]? = some x0) {xs : List Deed} (W : Walk s fs ⟨x0, 0, s.start⟩ xs) (h : List O) : cm_Plan_ended [s.plan, .fl (xs.map trackD)] [] h = some ((ends s ⟨x0, 0, s.start⟩ xs).d, h) := by
  obtain ⟨x1, e1, sp⟩ := start_place_ev hs h
  rw [Option.some.inj (e1.symm.trans e0)] at sp
  obtain ⟨s3, s4, e⟩ := ended_loop hs (D0 := .non) (D1 := .fl (xs.map trackD)) (h := h) xs ⟨x0, 0, s.start⟩ none none (start_ok hs e0) W
  have cp : cm_check_pairs [.fl (xs.map trackD)] [] h = some (.non, h) := by
    unfold cm_check_pairs b_check_pairs cmP
    dsimp only
    obtain ⟨_, e, s1, s2, rfl⟩ := forL_keep (g := g_q 2 (gs_cons (g_n 1) (gs_cons (g_n 2) gs_nil))) (b := s_if (t_or (t_not (m_t (m_isT .tup (m_v 2)))) (m_t (m_bin f_ne (m_b c_len (a_cons (m_v 2) a_nil)) (m_c (.int 2))))) s_never s_nil) (h := h)
      (fun sl => ∃ s1 s2, sl = [some (.fl (xs.map trackD)), s1, s2]) (enumF 0 (xs.map trackD)) _ ⟨none, none, rfl⟩ (fun y hy sl ⟨s1, s2, e⟩ => by
        subst e
        obtain ⟨j, a, rfl, ej⟩ := enumF_mem _ _ _ hy
        obtain ⟨d, _, rfl⟩ := List.mem_map.mp (List.mem_of_getElem? ej)
        exact ⟨_, _, rfl, q_no (e_or0 (e_nT (e_t (e_isT rfl rfl rfl))) (e_t (e_bin (e_b (e_one rfl) rfl) rfl (nei rfl)))), ⟨_, _, rfl⟩⟩)
    exact nx_fn ⟨_, q_for (e_enL rfl) e⟩
  unfold cm_Plan_ended b_Plan_ended cmP
  dsimp only
  exact rt_fn (rt_q (q_ex (e_call (e_ca0 (e_one rfl)) cp)) (rt_q (q_set (meth_plan rfl rfl sp)) (rt_q (q_for (e_q rfl) e) (rt_ret rfl))))
include G
theorem widths_loop {D2 : D} {h : List O} : ∀ (xs : List Deed) (p : Pt) (a b : Int) (ws : List D) (s6 s7 : Option D), p.Ok s → Walk s fs p xs → ws.length + xs.length ≤ 1000 →
    ∃ s3' s4' s6' s7', forL (g_q 2 (gs_cons (g_n 6) (gs_cons (g_n 7) gs_nil))) (s_seq (s_set 3 (m_meth "Plan" "moved" cm_Plan_moved [] (m_v 0) (m_ca (a_cons (m_v 3) (a_cons (m_v 6) (a_cons (m_v 7) a_nil))) a_nil)))
  (s_seq (s_set 4 (m_tup (a_cons (m_call cm_width_after [] (m_ca (a_cons (m_v 0) (a_cons (m_v 1) (a_cons (m_v 3) (a_cons (m_bin f_ix (m_v 4) (m_c (.int 0))) (a_cons (m_c (.str "under")) a_nil))))) a_nil)) (a_cons (m_call cm_width_after [] (m_ca (a_cons (m_v 0) (a_cons (m_v 1) (a_cons (m_v 3) (a_cons (m_bin f_ix (m_v 4) (m_c (.int 1))) (a_cons (m_c (.str "over")) a_nil))))) a_nil)) a_nil))))
  (s_ex (m_lm x_append (m_v 5) (a_cons (m_v 4) a_nil))))) (xs.map trackD) [some s.plan, some (gauge fs), some D2, some p.d, some (widD (a, b)), some (.loc h.length), s6, s7] (h ++ [.lst ws])
      = some (.nx, [some s.plan, some (gauge fs), some D2, s3', s4', some (.loc h.length), s6', s7'], h ++ [.lst (ws ++ (wids s fs p a b xs).map widD)])
  | [], p, a, b, ws, s6, s7, _, _, _ => ⟨_, _, s6, s7, by simp [wids]; rfl⟩
  | x :: xs, p, a, b, ws, s6, s7, hp, ⟨⟨q, X⟩, W⟩, hl => by
    simp only [List.length_cons] at hl
    have hp' : (x.to s p).Ok s := enter_ok hs hp (List.mem_map.mpr ⟨x.r, X.tick.mr, rfl⟩) x.f
    obtain ⟨s3', s4', s6', s7', e⟩ := widths_loop (D2 := D2) (h := h) xs (x.to s p) (widthB s fs (x.to s p) (a + errOn x.r false)) (widthB s fs (x.to s p) (b + errOn x.r true)) (ws ++ [widD (widthB s fs (x.to s p) (a + errOn x.r false), widthB s fs (x.to s p) (b + errOn x.r true))]) (some (.str x.r.name)) (some (.int x.f)) hp' W (by simp; omega)
    refine ⟨s3', s4', s6', s7', ?_⟩
    have fin : ws ++ [widD (widthB s fs (x.to s p) (a + errOn x.r false), widthB s fs (x.to s p) (b + errOn x.r true))] ++ (wids s fs (x.to s p) (widthB s fs (x.to s p) (a + errOn x.r false)) (widthB s fs (x.to s p) (b + errOn x.r true)) xs).map widD = ws ++ (wids s fs p a b (x :: xs)).map widD := by simp [wids]
    rw [fin] at e
    have w0 := width_after_ev hs G hp' X.tick.mr rfl a false (h ++ [.lst ws])
    have w1 := width_after_ev hs G hp' X.tick.mr rfl b true (h ++ [.lst ws])
    refine l_nx rfl (q_nx (q_set (meth_plan rfl (e_ca0 (e_cons rfl (e_cons rfl (e_one rfl)))) (moved_ev hs hp X.tick _))) (q_nx (q_set (e_tup (e_cons (e_call (e_ca0 (e_cons rfl (e_cons rfl (e_cons rfl (e_cons (e_bin rfl rfl rfl) (e_one rfl)))))) w0) (e_one (e_call (e_ca0 (e_cons rfl (e_cons rfl (e_cons rfl (e_cons (e_bin rfl rfl rfl) (e_one rfl)))))) w1))))) (q_ex (e_lm rfl (at_push _ _) (e_one rfl) (append_push (by omega)))))) ?_
    exact e
theorem widths_ev (hm : ∀ x ∈ rnames fs, x ∈ s.names) {x0 : Str} (e0 : s.names[0]? = some x0) {xs : List Deed} (W : Walk s fs ⟨x0, 0, s.start⟩ xs) (hl : xs.length ≤ 100) (h : List O) : cm_widths_along [s.plan, gauge fs, .fl (xs.map trackD)] [] h = some (.fl (((0, 0) :: wids s fs ⟨x0, 0, s.start⟩ 0 0 xs).map widD), h ++ [.gone]) := by
  obtain ⟨x1, e1, sp⟩ := start_place_ev hs h
  rw [Option.some.inj (e1.symm.trans e0)] at sp
  obtain ⟨s3, s4, s6, s7, e⟩ := widths_loop hs G (D2 := .fl (xs.map trackD)) (h := h) xs ⟨x0, 0, s.start⟩ 0 0 [widD (0, 0)] none none (start_ok hs e0) W (by simp; omega)
  unfold cm_widths_along b_widths_along cmP
  dsimp only
  have pp : s_par 3 4 (a_cons (m_meth "Plan" "start_place" cm_Plan_start_place [] (m_v 0) (m_ca a_nil a_nil)) (a_cons (m_tup (a_cons (m_c (.int 0)) (a_cons (m_c (.int 0)) a_nil))) a_nil)) [some s.plan, some (gauge fs), some (.fl (xs.map trackD)), none, none, none, none, none] h = some (.nx, [some s.plan, some (gauge fs), some (.fl (xs.map trackD)), some (⟨x0, 0, s.start⟩ : Pt).d, some (widD (0, 0)), none, none, none], h) := by
    unfold s_par
    rw [e_cons (meth_plan rfl rfl sp) (e_one (m := m_tup (a_cons (m_c (.int 0)) (a_cons (m_c (.int 0)) a_nil))) rfl)]
    rfl
  refine rt_fn (rt_q (q_ex (meth_gauge rfl (e_ca0 (e_one rfl)) (check_ev hs G hm h))) (rt_q (q_ex (meth_plan rfl (e_ca0 (e_one rfl)) (ended_ev hs e0 W h))) (rt_q pp (rt_q (q_set (e_tl (e_one rfl))) (rt_q (q_for (e_q rfl) e) (rt_ret ?_))))))
  have z := e_frz (m := m_v 5) (sl := [some s.plan, some (gauge fs), some (.fl (xs.map trackD)), s3, s4, some (.loc h.length), s6, s7]) (h := h ++ [.lst ([widD (0, 0)] ++ (wids s fs ⟨x0, 0, s.start⟩ 0 0 xs).map widD)]) rfl (at_push _ _) (fun d hd => by
    rcases List.mem_append.mp hd with hd | hd
    · rw [List.mem_singleton.mp hd]
      exact fun _ _ => rfl
    · obtain ⟨m, _, rfl⟩ := List.mem_map.mp hd
      exact fun _ _ => rfl)
  rw [set_push] at z
  exact z
end
theorem track_ev (xs : List Deed) (hl : xs.length ≤ 1000) (h : List O) : cm__law_track_of [.fl (xs.map Deed.d)] [] h = some (.fl (xs.map trackD), h) := by
  unfold cm__law_track_of b__law_track_of cmP
  dsimp only
  have cc : ∀ (ys : List Deed) (d0 : D), compC (g_n 1) t_yes (m_tup (a_cons (m_bin f_ix (m_v 1) (m_c (.int 0))) (a_cons (m_bin f_ix (m_v 1) (m_c (.int 1))) a_nil))) [some d0, none] (ys.map Deed.d) h = some (ys.map trackD, h) := by
    intro ys d0
    induction ys with
    | nil => rfl
    | cons y ys ih => exact compC_yes rfl (e_tup (e_cons (e_bin rfl rfl rfl) (e_one (e_bin rfl rfl rfl)))) ih
  exact rt_fn (rt_ret (e_lc (e_q rfl) (cc xs _) (by simp; omega)))
end SP
set_option Elab.async false
set_option linter.all false
set_option maxRecDepth 100000
set_option maxHeartbeats 4000000
namespace SP
open PySem PySem.Spec PyProof.Rows L2 HF PF
/-! the law's modes -/
theorem late_comp {te : FE} : ∀ (xs : List Str) (b : Bag), b.Ok → ∀ (t : List O) (slw : Sl), slw[1]? = some (some (.loc 0)) → slw.length = 20 → ∃ (ls : List Str) (b' : Bag), ls.Sublist xs ∧ Bag.Ok b' ∧
    compC (g_n 18) (m_t (m_bin f_gt (m_call cm__law_pull [] (m_ca (a_cons (m_v 1) (a_cons (m_c (.int 4)) a_nil)) a_nil)) (m_c (.int 0)))) (m_v 18) slw (xs.map D.str) (b.enc :: t) = some (ls.map D.str, b'.enc :: t)
  | [], b, hb, t, slw, _, _ => ⟨[], b, List.Sublist.refl _, hb, rfl⟩
  | x :: xs, b, hb, t, slw, h1, hl => by
    obtain ⟨v, b1, _, hb1, e1⟩ := pull_ex (b := b) (n := 4) (by decide) (by decide) hb t
    obtain ⟨ls, b2, hsub, hb2, e2⟩ := late_comp (te := te) xs b1 hb1 t slw h1 hl
    have v1 : m_v 1 (slw.set 18 (some (.str x))) (b.enc :: t) = some (.loc 0, b.enc :: t) := by
      unfold m_v
      rw [List.getElem?_set_ne (by decide), h1]
    have v18 : ∀ h, m_v 18 (slw.set 18 (some (.str x))) h = some (.str x, h) := fun h => by
      unfold m_v
      rw [List.getElem?_set_self (by omega)]
    have gt : f_gt (.int v) (.int 0) (b1.enc :: t) = some (.bl (decide (0 < v)), b1.enc :: t) := rfl
    by_cases c : 0 < v
    · rw [decide_eq_true c] at gt
      exact ⟨x :: ls, b2, hsub.cons₂ x, hb2, compC_in rfl (e_t (e_bin (e_call (e_ca0 (e_cons v1 (e_one rfl))) e1) rfl gt)) (v18 _) e2⟩
    · rw [decide_eq_false c] at gt
      exact ⟨ls, b2, hsub.cons x, hb2, compC_out rfl (e_t (e_bin (e_call (e_ca0 (e_cons v1 (e_one rfl))) e1) rfl gt)) e2⟩
theorem perm_str {zs : List D} {xs : List Str} (h : zs.Perm (xs.map D.str)) : ∃ ys : List Str, ys.Perm xs ∧ zs = ys.map D.str := by
  refine ⟨zs.map fun d => match d with
    | .str s => s
    | _ => Str.empty, ?_, ?_⟩
  · have := h.map fun d => match d with
      | D.str s => s
      | _ => Str.empty
    rw [List.map_map] at this
    have e : xs.map ((fun d => match d with
      | D.str s => s
      | _ => Str.empty) ∘ D.str) = xs := by
      conv => rhs; rw [← List.map_id xs]
      exact List.map_congr_left fun f _ => rfl
    rw [e] at this
    exact this
  · rw [List.map_map]
    conv => lhs; rw [← List.map_id zs]
    refine List.map_congr_left fun z hz => ?_
    obtain ⟨f, _, rfl⟩ := List.mem_map.mp (h.mem_iff.mp hz)
    rfl
theorem modes_loop {names : List Str} (hnm : ∀ x ∈ names, NameOk x) (hnd : names.Nodup) (hn6 : names.length ≤ 6) {D0 D3 : D} : ∀ (xs : List Str) (rows : List Row) (gs : List O) (b : Bag) (s5 s6 s7 s8 : Option D), b.Ok → (∀ x ∈ xs, x ∈ names) → (∀ r ∈ rows, r.Ok ∧ ∀ x ∈ r.late, x ∈ names) → rows.length + xs.length ≤ 1000 →
    ∃ (rs : List Row) (gs' : List O) (b' : Bag) (s5' s6' s7' s8' : Option D), Bag.Ok b' ∧ (∀ r ∈ rs, r.Ok ∧ ∀ x ∈ r.late, x ∈ names) ∧ rs.map Row.name = rows.map Row.name ++ xs ∧
    forL (g_n 5) (s_seq (s_set 6 (m_call cm__law_close [] (m_ca (a_cons (m_v 1) (a_cons (m_c (.int 9)) a_nil)) a_nil)))
  (s_seq (s_set 7 (m_call cm__law_mixed [] (m_ca (a_cons (m_v 1) (a_cons (m_lc (i_q (m_v 2)) (g_n 18) (m_t (m_bin f_gt (m_call cm__law_pull [] (m_ca (a_cons (m_v 1) (a_cons (m_c (.int 4)) a_nil)) a_nil)) (m_c (.int 0)))) (m_v 18) (List.map (·.2) ([("_law_other", 18)] : List (Str × Nat)))) a_nil)) a_nil)))
  (s_seq (s_set 8 (m_bin f_add (m_v 6) (m_call cm__law_pull [] (m_ca (a_cons (m_v 1) (a_cons (m_b c_minL (a_cons (m_fl (a_cons (m_c (.int 3)) (a_cons (m_bin f_sub (m_c (.int 10)) (m_v 6)) a_nil))) a_nil)) a_nil)) a_nil))))
  (s_ex (m_lm x_append (m_v 4) (a_cons (m_fl (a_cons (m_v 5) (a_cons (m_v 6) (a_cons (m_v 8) (a_cons (m_call cm__law_pull [] (m_ca (a_cons (m_v 1) (a_cons (m_c (.int 10)) a_nil)) a_nil)) (a_cons (m_call cm__law_pull [] (m_ca (a_cons (m_v 1) (a_cons (m_c (.int 10)) a_nil)) a_nil)) (a_cons (m_if (m_t (m_bin f_ne (m_v 7) (m_fl a_nil))) (m_v 7) (m_fl (a_cons (m_v 5) a_nil))) a_nil))))))) a_nil)))))) (xs.map D.str)
      [some D0, some (.loc 0), some (.fl (names.map D.str)), some D3, some (.loc 1), s5, s6, s7, s8, none, none, none, none, none, none, none, none, none, none, none] (b.enc :: (.lst (rows.map Row.d) :: gs))
      = some (.nx, [some D0, some (.loc 0), some (.fl (names.map D.str)), some D3, some (.loc 1), s5', s6', s7', s8', none, none, none, none, none, none, none, none, none, none, none], b'.enc :: (.lst (rs.map Row.d) :: gs'))
  | [], rows, gs, b, s5, s6, s7, s8, hb, _, hr, _ => ⟨rows, gs, b, s5, s6, s7, s8, hb, hr, by rw [List.append_nil], rfl⟩
  | x :: xs, rows, gs, b, s5, s6, s7, s8, hb, hx, hr, hl => by
    simp only [List.length_cons] at hl
    have hxn := hx x (.head _)
    obtain ⟨low, b1, ⟨lo0, lo1⟩, hb1, e1⟩ := close_ex (b := b) (far := 9) (by decide) (by decide) hb (.lst (rows.map Row.d) :: gs)
    obtain ⟨ls, b2, hsub, hb2, e2⟩ := late_comp (te := m_v 18) names b1 hb1 (.lst (rows.map Row.d) :: gs) [some D0, some (.loc 0), some (.fl (names.map D.str)), some D3, some (.loc 1), some (.str x), some (.int low), s7, s8, none, none, none, none, none, none, none, none, none, none, none] rfl rfl
    have lsl : ls.length ≤ 6 := Nat.le_trans hsub.length_le hn6
    obtain ⟨zs, b3, hp, hb3, e3⟩ := mixed_ex (b := b2) (xs := ls.map D.str) (fun d hd => by
      obtain ⟨y, _, rfl⟩ := List.mem_map.mp hd
      exact stb_str y) (by simp; omega) hb2 (.lst (rows.map Row.d) :: gs)
    obtain ⟨late, hp2, rfl⟩ := perm_str hp
    have hlate : ∀ y ∈ late, y ∈ names := fun y hy => hsub.subset (hp2.mem_iff.mp hy)
    obtain ⟨v, b4, ⟨v0, v1⟩, hb4, e4⟩ := pull_ex (b := b3) (n := min 3 (10 - low)) (by omega) (by omega) hb3 (.lst (rows.map Row.d) :: (gs ++ [.gone]))
    obtain ⟨u, b5, ⟨u0, u1⟩, hb5, e5⟩ := pull_ex (b := b4) (n := 10) (by decide) (by decide) hb4 (.lst (rows.map Row.d) :: (gs ++ [.gone]))
    obtain ⟨o, b6, ⟨o0, o1⟩, hb6, e6⟩ := pull_ex (b := b5) (n := 10) (by decide) (by decide) hb5 (.lst (rows.map Row.d) :: (gs ++ [.gone]))
    have rOk : (⟨x, low, low + v, u, o, if late = [] then [x] else late⟩ : Row).Ok := by
      refine ⟨hnm x hxn, by omega, (show low ≤ low + v by omega), (show low + v ≤ 9 by omega), u0, (show u ≤ 9 by omega), o0, (show o ≤ 9 by omega), ?_, ?_, ?_, ?_⟩
      · show (if late = [] then [x] else late) ≠ []
        split
        · simp
        · assumption
      · show (if late = [] then [x] else late).Nodup
        split
        · simp
        · exact hp2.nodup_iff.mpr (hsub.nodup hnd)
      · show ∀ y ∈ (if late = [] then [x] else late), NameOk y
        split
        · intro y hy
          rw [List.mem_singleton.mp hy]
          exact hnm x hxn
        · exact fun y hy => hnm y (hlate y hy)
      · show (if late = [] then [x] else late).length ≤ 6
        split
        · simp
        · rw [hp2.length_eq]
          exact lsl
    have rlate : ∀ y ∈ (⟨x, low, low + v, u, o, if late = [] then [x] else late⟩ : Row).late, y ∈ names := by
      show ∀ y ∈ (if late = [] then [x] else late), y ∈ names
      split
      · intro y hy
        rw [List.mem_singleton.mp hy]
        exact hxn
      · exact hlate
    obtain ⟨rs, gs', b7, s5', s6', s7', s8', hb7, hrs, hnames, e7⟩ := modes_loop hnm hnd hn6 (D0 := D0) (D3 := D3) xs (rows ++ [⟨x, low, low + v, u, o, if late = [] then [x] else late⟩]) (gs ++ [.gone]) b6 (some (.str x)) (some (.int low)) (some (.fl (late.map D.str))) (some (.int (low + v))) hb6 (fun y hy => hx y (.tail _ hy)) (fun r hr' => by
      rcases List.mem_append.mp hr' with h | h
      · exact hr r h
      · rw [List.mem_singleton.mp h]
        exact ⟨rOk, rlate⟩) (by simp; omega)
    refine ⟨rs, gs', b7, s5', s6', s7', s8', hb7, hrs, by rw [hnames]; simp, ?_⟩
    have ne : ∀ h : List O, f_ne (.fl (late.map D.str)) (.fl []) h = some (.bl (!decide (late = [])), h) := fun h => by
      have := ne_fl_str (xs := late) (ys := []) (h := h) (fun y hy => (hnm y (hlate y hy)).sok) (fun y hy => by cases hy)
      exact this
    have lt : ∀ h : List O, m_if (m_t (m_bin f_ne (m_v 7) (m_fl a_nil))) (m_v 7) (m_fl (a_cons (m_v 5) a_nil)) [some D0, some (.loc 0), some (.fl (names.map D.str)), some D3, some (.loc 1), some (.str x), some (.int low), some (.fl (late.map D.str)), some (.int (low + v)), none, none, none, none, none, none, none, none, none, none, none] h = some (.fl ((if late = [] then [x] else late).map D.str), h) := fun h => by
      have ne' := ne h
      by_cases c : late = []
      · rw [decide_eq_true c] at ne'
        rw [if_pos c]
        exact e_if0 (e_t (e_bin rfl (e_fl rfl) ne')) (e_fl (e_one rfl))
      · rw [decide_eq_false c] at ne'
        rw [if_neg c]
        exact e_if1 (e_t (e_bin rfl (e_fl rfl) ne')) rfl
    have mn : ∀ h : List O, c_minL [.fl [.int 3, .int (10 - low)]] h = some (.int (min 3 (10 - low)), h) := fun h => rfl
    have e3' : cm__law_mixed [.loc 0, .fl (ls.map D.str)] [] (b2.enc :: (.lst (rows.map Row.d) :: gs)) = some (.fl (late.map D.str), b3.enc :: (.lst (rows.map Row.d) :: (gs ++ [.gone]))) := e3
    refine l_nx rfl (q_nx (q_set (e_call (e_ca0 (e_cons rfl (e_one rfl))) e1)) ?_) e7
    change s_seq _ _ [some D0, some (.loc 0), some (.fl (names.map D.str)), some D3, some (.loc 1), some (.str x), some (.int low), s7, s8, none, none, none, none, none, none, none, none, none, none, none] _ = _
    refine q_nx (q_set (e_call (e_ca0 (e_cons rfl (e_one (e_lc (e_q rfl) e2 (by simp; omega))))) e3')) ?_
    change s_seq _ _ [some D0, some (.loc 0), some (.fl (names.map D.str)), some D3, some (.loc 1), some (.str x), some (.int low), some (.fl (late.map D.str)), s8, none, none, none, none, none, none, none, none, none, none, none] _ = _
    refine q_nx (q_set (e_bin rfl (e_call (e_ca0 (e_cons rfl (e_one (e_b (e_one (e_fl (e_cons rfl (e_one (e_bin rfl rfl rfl))))) (mn _))))) e4) rfl)) ?_
    change s_ex _ [some D0, some (.loc 0), some (.fl (names.map D.str)), some D3, some (.loc 1), some (.str x), some (.int low), some (.fl (late.map D.str)), some (.int (low + v)), none, none, none, none, none, none, none, none, none, none, none] _ = _
    have ap0 : ∀ r : Row, x_append (.loc 1) [r.d] (b6.enc :: (O.lst (rows.map Row.d) :: (gs ++ [O.gone]))) = some (.non, b6.enc :: (O.lst ((rows ++ [r]).map Row.d) :: (gs ++ [O.gone]))) := fun r => by
      rw [List.map_append]
      exact append_ev (i := 1) (h := b6.enc :: (O.lst (rows.map Row.d) :: (gs ++ [O.gone]))) (xs := rows.map Row.d) (d := r.d) rfl (by simp; omega)
    have ap := ap0 (⟨x, low, low + v, u, o, if late = [] then [x] else late⟩ : Row)
    exact q_ex (e_lm (i := 1) (xs := rows.map Row.d) rfl rfl (e_one (e_fl (e_cons rfl (e_cons rfl (e_cons rfl (e_cons (e_call (e_ca0 (e_cons rfl (e_one rfl))) e5) (e_cons (e_call (e_ca0 (e_cons rfl (e_one rfl))) e6) (e_one (lt _))))))) (by simp))) ap)
end SP
set_option Elab.async false
set_option linter.all false
set_option maxRecDepth 100000
set_option maxHeartbeats 4000000
namespace SP
open PySem PySem.Spec PyProof.Rows L2 HF PF
/-! ends whose heap does not matter -/
def RtX (x : Option (Fl × Sl × List O)) (d : D) : Prop := ∃ h, Rt x d h
section
variable {sl sl1 : Sl} {h h1 : List O} {a b : FS} {m : FE} {d : D}
theorem rx_q (e : a sl h = some (.nx, sl1, h1)) (k : RtX (b sl1 h1) d) : RtX (s_seq a b sl h) d := by
  obtain ⟨h2, k⟩ := k
  exact ⟨h2, rt_q e k⟩
theorem rx_ret (e : m sl h = some (d, h1)) : RtX (s_ret m sl h) d := ⟨_, rt_ret e⟩
end
theorem compC_gen {α : Type} {enc f : α → D} {g : FG} {te : FE} {slw : Sl} {h : List O} : ∀ xs : List α, (∀ x ∈ xs, ∃ s1, g (enc x) slw = some s1 ∧ te s1 h = some (f x, h)) → compC g t_yes te slw (xs.map enc) h = some (xs.map f, h)
  | [], _ => rfl
  | x :: xs, hx => by
    obtain ⟨s1, e1, e2⟩ := hx x (.head _)
    exact compC_yes e1 e2 (compC_gen xs fun y hy => hx y (.tail _ hy))
theorem walk_rows {s : Shape} {fs : List Fix} : ∀ {xs : List Deed} {p : Pt}, Walk s fs p xs → ∀ y ∈ xs, y.r ∈ s.rows
  | [], _, _, y, hy => by cases hy
  | x :: xs, p, ⟨⟨q, X⟩, W⟩, y, hy => by
    rcases List.mem_cons.mp hy with rfl | hy
    · exact X.tick.mr
    · exact walk_rows W y hy
theorem pl_pt {s : Shape} {p : Pt} (h : SOk p.name) (n : Nat) : Pl (n + 1) p.d := .tup (fun x hx => by
  simp at hx
  rcases hx with rfl | rfl | rfl
  · exact .str h
  · exact .int _
  · exact .int _) (by simp)
theorem pl_act {s : Shape} {fs : List Fix} (p : Pt) : Pl 1 (actD s fs p) := by
  unfold actD
  split
  · exact .tup (fun x hx => by
      rw [List.mem_singleton.mp hx]
      exact .str sok_exact) (by simp)
  · cases e : findR fs p.name p.run with
    | none => exact .tup (fun x hx => by cases hx) (by simp)
    | some f =>
      obtain ⟨_, w, t, r, rfl, _⟩ := findR_some e
      exact .tup (fun x hx => by
        simp at hx
        rcases hx with rfl | rfl
        · exact .str (sok_word w)
        · exact .int _) (by simp)
section
variable {s : Shape} (hs : s.Ok) {fs : List Fix} (G : FixesOk fs)
include hs
theorem pl_ticks (p : Pt) {q : Row} (hq : q ∈ s.rows) : Pl 3 (.fl (ticksL s p q)) := .fl (fun d hd => by
  obtain ⟨r, hr, _, f, _, _, rfl⟩ := ticksL_mem hs hq hd
  have hn := (hs.rows r hr).name.sok
  exact .tup (fun x hx => by
    simp at hx
    rcases hx with rfl | rfl | rfl
    · exact .str hn
    · exact .int _
    · exact pl_pt (s := s) (p := s.enter p r.name f) hn 0) (by simp)) (by have := ticksL_len hs p hq; omega)
include G
theorem due_loop {H0 : List O} {a0 a1 a2 a3 a4 a5 a6 a7 a8 a13 a14 : Option D} : ∀ (xs : List Deed) (p : Pt) (t a b : Int) (ws : List D) (gs : List O) (s15 s16 : Option D), p.Ok s → Walk s fs p xs → ws.length + xs.length ≤ 1000 →
    ∃ (gs' : List O) (s15' s16' : Option D), forL (g_q 2 (gs_cons (g_n 15) (gs_cons (g_n 16) gs_nil))) (s_seq (s_if (t_not (m_t (m_call (cm__law_same 8) [] (m_ca (a_cons (m_fl (a_cons (m_meth "Plan" "ticks_from" cm_Plan_ticks_from [] (m_v 10) (m_ca (a_cons (m_v 15) a_nil) a_nil)) (a_cons (m_meth "Gauge" "acting" cm_Gauge_acting [] (m_v 12) (m_ca (a_cons (m_v 10) (a_cons (m_v 15) a_nil)) a_nil)) a_nil))) (a_cons (m_fl (a_cons (m_call cm__law_ticks [] (m_ca (a_cons (m_v 9) (a_cons (m_v 15) a_nil)) a_nil)) (a_cons (m_call cm__law_acts [] (m_ca (a_cons (m_v 9) (a_cons (m_v 11) (a_cons (m_v 15) a_nil))) a_nil)) a_nil))) a_nil)) a_nil)))) (s_ret (m_c (.bl false))) s_nil)
  (s_ex (m_lm x_append (m_v 17) (a_cons (m_tup (a_cons (m_call cm__law_width_behind [] (m_ca (a_cons (m_v 9) (a_cons (m_v 11) (a_cons (m_v 15) (a_cons (m_bin f_ix (m_bin f_ix (m_v 17) (m_neg (m_c (.int 1)))) (m_c (.int 0))) (a_cons (m_c (.str "under")) a_nil))))) a_nil)) (a_cons (m_call cm__law_width_behind [] (m_ca (a_cons (m_v 9) (a_cons (m_v 11) (a_cons (m_v 15) (a_cons (m_bin f_ix (m_bin f_ix (m_v 17) (m_neg (m_c (.int 1)))) (m_c (.int 1))) (a_cons (m_c (.str "over")) a_nil))))) a_nil)) a_nil))) a_nil)))) ((steps s fs p t xs).map mD)
      [a0, a1, a2, a3, a4, a5, a6, a7, a8, some s.d, some s.plan, some (.fl (fs.map Fix.d)), some (gauge fs), a13, a14, s15, s16, some (.loc H0.length), none, none] (H0 ++ (.lst (ws ++ [widD (a, b)]) :: gs))
      = some (.nx, [a0, a1, a2, a3, a4, a5, a6, a7, a8, some s.d, some s.plan, some (.fl (fs.map Fix.d)), some (gauge fs), a13, a14, s15', s16', some (.loc H0.length), none, none], H0 ++ (.lst (ws ++ [widD (a, b)] ++ (wids s fs p a b xs).map widD) :: gs'))
  | [], p, t, a, b, ws, gs, s15, s16, _, _, _ => ⟨gs, s15, s16, by simp [wids, steps]; rfl⟩
  | x :: xs, p, t, a, b, ws, gs, s15, s16, hp, ⟨⟨q, X⟩, W⟩, hl => by
    simp only [List.length_cons] at hl
    have hp' : (x.to s p).Ok s := enter_ok hs hp (List.mem_map.mpr ⟨x.r, X.tick.mr, rfl⟩) x.f
    obtain ⟨gs', s15', s16', e⟩ := due_loop (H0 := H0) (a0 := a0) (a1 := a1) (a2 := a2) (a3 := a3) (a4 := a4) (a5 := a5) (a6 := a6) (a7 := a7) (a8 := a8) (a13 := a13) (a14 := a14) xs (x.to s p) (x.total s fs p t) (widthB s fs (x.to s p) (a + errOn x.r false)) (widthB s fs (x.to s p) (b + errOn x.r true)) (ws ++ [widD (a, b)]) (gs ++ [.gone] ++ [.gone]) (some (x.to s p).d) (some (.int (x.total s fs p t))) hp' W (by simp; omega)
    refine ⟨gs', s15', s16', ?_⟩
    have fin : ws ++ [widD (a, b)] ++ [widD (widthB s fs (x.to s p) (a + errOn x.r false), widthB s fs (x.to s p) (b + errOn x.r true))] ++ (wids s fs (x.to s p) (widthB s fs (x.to s p) (a + errOn x.r false)) (widthB s fs (x.to s p) (b + errOn x.r true)) xs).map widD = ws ++ [widD (a, b)] ++ (wids s fs p a b (x :: xs)).map widD := by simp [wids]
    rw [fin] at e
    have aa : ∀ l : List D, (H0 ++ (O.lst l :: gs)) ++ [O.gone] ++ [O.gone] = H0 ++ (O.lst l :: (gs ++ [O.gone] ++ [O.gone])) := fun l => by simp
    have t1 := ticks_from_ev hs hp' X.tick.mr rfl (H0 ++ (.lst (ws ++ [widD (a, b)]) :: gs))
    have t2 := law_ticks_ev hs hp' X.tick.mr rfl (H0 ++ (.lst (ws ++ [widD (a, b)]) :: gs) ++ [.gone])
    have sm := same7 (d := .fl [.fl (ticksL s (x.to s p) x.r), actD s fs (x.to s p)]) (.fl (fun d hd => by
      simp at hd
      rcases hd with rfl | rfl
      · exact (pl_ticks hs _ X.tick.mr).mono (by decide)
      · exact (pl_act _).mono (by decide)) (by simp)) (H0 ++ (.lst (ws ++ [widD (a, b)]) :: (gs ++ [O.gone] ++ [O.gone])))
    rw [aa] at t2
    have cnd : t_not (m_t (m_call (cm__law_same 8) [] (m_ca (a_cons (m_fl (a_cons (m_meth "Plan" "ticks_from" cm_Plan_ticks_from [] (m_v 10) (m_ca (a_cons (m_v 15) a_nil) a_nil)) (a_cons (m_meth "Gauge" "acting" cm_Gauge_acting [] (m_v 12) (m_ca (a_cons (m_v 10) (a_cons (m_v 15) a_nil)) a_nil)) a_nil))) (a_cons (m_fl (a_cons (m_call cm__law_ticks [] (m_ca (a_cons (m_v 9) (a_cons (m_v 15) a_nil)) a_nil)) (a_cons (m_call cm__law_acts [] (m_ca (a_cons (m_v 9) (a_cons (m_v 11) (a_cons (m_v 15) a_nil))) a_nil)) a_nil))) a_nil)) a_nil)))
        [a0, a1, a2, a3, a4, a5, a6, a7, a8, some s.d, some s.plan, some (.fl (fs.map Fix.d)), some (gauge fs), a13, a14, some (x.to s p).d, some (.int (x.total s fs p t)), some (.loc H0.length), none, none] (H0 ++ (.lst (ws ++ [widD (a, b)]) :: gs)) = some (false, H0 ++ (.lst (ws ++ [widD (a, b)]) :: (gs ++ [O.gone] ++ [O.gone]))) :=
      e_nT (e_t (e_call (e_ca0 (e_cons (e_fl (e_cons (meth_plan rfl (e_ca0 (e_one rfl)) t1) (e_one (meth_gauge rfl (e_ca0 (e_cons rfl (e_one rfl))) (acting_ev hs G hp' _))))) (e_one (e_fl (e_cons (e_call (e_ca0 (e_cons rfl (e_one rfl))) t2) (e_one (e_call (e_ca0 (e_cons rfl (e_cons rfl (e_one rfl)))) (law_acts_ev hs G hp' _)))))))) sm))
    have w0 := law_width_ev hs G hp' X.tick.mr rfl a false (H0 ++ (.lst (ws ++ [widD (a, b)]) :: (gs ++ [O.gone] ++ [O.gone])))
    have w1 := law_width_ev hs G hp' X.tick.mr rfl b true (H0 ++ (.lst (ws ++ [widD (a, b)]) :: (gs ++ [O.gone] ++ [O.gone])))
    have ap : x_append (.loc H0.length) [widD (widthB s fs (x.to s p) (a + errOn x.r false), widthB s fs (x.to s p) (b + errOn x.r true))] (H0 ++ (.lst (ws ++ [widD (a, b)]) :: (gs ++ [O.gone] ++ [O.gone]))) = some (.non, H0 ++ (.lst (ws ++ [widD (a, b)] ++ [widD (widthB s fs (x.to s p) (a + errOn x.r false), widthB s fs (x.to s p) (b + errOn x.r true))]) :: (gs ++ [O.gone] ++ [O.gone]))) := by
      rw [append_ev (at0 _ _ _) (by simp; omega), set0]
    refine l_nx rfl (q_nx (q_no cnd) (q_ex (e_lm rfl (at0 _ _ _) (e_one (e_tup (e_cons (e_call (e_ca0 (e_cons rfl (e_cons rfl (e_cons rfl (e_cons (e_bin (e_bin rfl rfl (ix_last (at0 _ _ _))) rfl rfl) (e_one rfl)))))) w0) (e_one (e_call (e_ca0 (e_cons rfl (e_cons rfl (e_cons rfl (e_cons (e_bin (e_bin rfl rfl (ix_last (at0 _ _ _))) rfl rfl) (e_one rfl)))))) w1))))) ap))) ?_
    exact e
end
end SP
set_option Elab.async false
set_option linter.all false
set_option maxRecDepth 100000
set_option maxHeartbeats 4000000
namespace SP
open PySem PySem.Spec PyProof.Rows L2 HF PF
theorem f_sl_fl1 {x : D} {xs : List D} {h : List O} : f_sl (.fl (x :: xs)) (some 1) none h = some (.fl xs, h) := by
  show some (D.fl (HF.cutD _ (some ((1 : Nat) : Int)) none), h) = _
  rw [cutD_from (by simp)]
  rfl
theorem law_end {s : Shape} (hs : s.Ok) {b : Bag} (hb : b.Ok) (t : List O) (a0 a2 a3 a4 a5 a6 a7 a8 : Option D) : RtX (((s_seq (s_set 11 (m_call cm__law_fixes_drawn [] (m_ca (a_cons (m_v 1) (a_cons (m_v 9) (a_cons (m_c (.int 9)) a_nil))) a_nil)))
  (s_seq (s_set 12 (m_call cm__law_gauge_made [] (m_ca (a_cons (m_v 11) a_nil) a_nil)))
  (s_seq (s_asg (m_call cm__law_use_drawn [] (m_ca (a_cons (m_v 1) (a_cons (m_v 9) (a_cons (m_v 11) (a_cons (m_c (.int 10)) a_nil)))) a_nil)) (g_q 2 (gs_cons (g_n 13) (gs_cons (g_n 14) gs_nil))))
  (s_seq (s_if (t_not (m_t (m_call (cm__law_same 8) [] (m_ca (a_cons (m_call cm_played [] (m_ca (a_cons (m_v 10) (a_cons (m_v 12) (a_cons (m_v 13) a_nil))) a_nil)) (a_cons (m_lc (i_q (m_v 14)) (g_q 2 (gs_cons (g_n 15) (gs_cons (g_n 16) gs_nil))) t_yes (m_tup (a_cons (m_bin f_ix (m_v 15) (m_c (.int 2))) (a_cons (m_v 16) a_nil))) (List.map (·.2) ([("_law_point", 15), ("_law_total", 16)] : List (Str × Nat)))) a_nil)) a_nil)))) (s_ret (m_c (.bl false))) s_nil)
  (s_seq (s_set 17 (m_tl (a_cons (m_tup (a_cons (m_c (.int 0)) (a_cons (m_c (.int 0)) a_nil))) a_nil)))
  (s_seq (s_for (i_q (m_sl (m_v 14) (o_some (m_c (.int 1))) o_none)) (g_q 2 (gs_cons (g_n 15) (gs_cons (g_n 16) gs_nil))) (s_seq (s_if (t_not (m_t (m_call (cm__law_same 8) [] (m_ca (a_cons (m_fl (a_cons (m_meth "Plan" "ticks_from" cm_Plan_ticks_from [] (m_v 10) (m_ca (a_cons (m_v 15) a_nil) a_nil)) (a_cons (m_meth "Gauge" "acting" cm_Gauge_acting [] (m_v 12) (m_ca (a_cons (m_v 10) (a_cons (m_v 15) a_nil)) a_nil)) a_nil))) (a_cons (m_fl (a_cons (m_call cm__law_ticks [] (m_ca (a_cons (m_v 9) (a_cons (m_v 15) a_nil)) a_nil)) (a_cons (m_call cm__law_acts [] (m_ca (a_cons (m_v 9) (a_cons (m_v 11) (a_cons (m_v 15) a_nil))) a_nil)) a_nil))) a_nil)) a_nil)))) (s_ret (m_c (.bl false))) s_nil)
  (s_ex (m_lm x_append (m_v 17) (a_cons (m_tup (a_cons (m_call cm__law_width_behind [] (m_ca (a_cons (m_v 9) (a_cons (m_v 11) (a_cons (m_v 15) (a_cons (m_bin f_ix (m_bin f_ix (m_v 17) (m_neg (m_c (.int 1)))) (m_c (.int 0))) (a_cons (m_c (.str "under")) a_nil))))) a_nil)) (a_cons (m_call cm__law_width_behind [] (m_ca (a_cons (m_v 9) (a_cons (m_v 11) (a_cons (m_v 15) (a_cons (m_bin f_ix (m_bin f_ix (m_v 17) (m_neg (m_c (.int 1)))) (m_c (.int 1))) (a_cons (m_c (.str "over")) a_nil))))) a_nil)) a_nil))) a_nil)))))
  (s_seq (s_fz 17)
  (s_ret (m_call (cm__law_same 8) [] (m_ca (a_cons (m_call cm_widths_along [] (m_ca (a_cons (m_v 10) (a_cons (m_v 12) (a_cons (m_call cm__law_track_of [] (m_ca (a_cons (m_v 13) a_nil) a_nil)) a_nil))) a_nil)) (a_cons (m_v 17) a_nil)) a_nil)))))))))) : FS) [a0, some (.loc 0), a2, a3, a4, a5, a6, a7, a8, some s.d, some s.plan, none, none, none, none, none, none, none, none, none] (b.enc :: t)) (.bl true) := by
  obtain ⟨fs, b1, G, hm, hb1, e1⟩ := fixes_ex hs hb t
  refine rx_q (q_set (e_call (e_ca0 (e_cons rfl (e_cons rfl (e_one rfl)))) e1)) ?_
  refine rx_q (q_set (e_call (e_ca0 (e_one rfl)) (gauge_made_ev G _))) ?_
  obtain ⟨x0, hx0, _⟩ := first_ev hs []
  obtain ⟨ys, b2, gs, hyl, W, hb2, e2⟩ := use_ex hs G (n := 10) (by decide) hb1 ((t ++ [.gone]) ++ [.gone]) hx0
  obtain ⟨x, xs, rfl⟩ : ∃ x xs, ys = x :: xs := by
    cases ys with
    | nil => simp at hyl
    | cons x xs => exact ⟨x, xs, rfl⟩
  have hxl : xs.length = 9 := by simpa using hyl
  refine rx_q (q_asg (e_call (e_ca0 (e_cons rfl (e_cons rfl (e_cons rfl (e_one rfl))))) e2) rfl) ?_
  have hnm : ∀ y ∈ x :: xs, SOk y.r.name := fun y hy => (hs.rows y.r (walk_rows W y hy)).name.sok
  have sl := steps_len hs G (x :: xs) ⟨x0, 0, s.start⟩ s.start
  simp only [List.length_cons] at sl
  change RtX (s_seq _ _ [a0, some (.loc 0), a2, a3, a4, a5, a6, a7, a8, some s.d, some s.plan, some (.fl (fs.map Fix.d)), some (gauge fs), some (.fl ((x :: xs).map Deed.d)), some (.fl ((((⟨x0, 0, s.start⟩, s.start) :: steps s fs ⟨x0, 0, s.start⟩ s.start (x :: xs)) : List (Pt × Int)).map mD)), none, none, none, none, none] _) _
  obtain ⟨g2, e3⟩ := played_ev hs G hm hx0 W (by omega) hnm (b2.enc :: (((t ++ [.gone]) ++ [.gone]) ++ gs))
  have cm := compC_moments (slw := [a0, some (.loc 0), a2, a3, a4, a5, a6, a7, a8, some s.d, some s.plan, some (.fl (fs.map Fix.d)), some (gauge fs), some (.fl ((x :: xs).map Deed.d)), some (.fl ((((⟨x0, 0, s.start⟩, s.start) :: steps s fs ⟨x0, 0, s.start⟩ s.start (x :: xs)) : List (Pt × Int)).map mD)), none, none, none, none, none]) (h := (b2.enc :: (((t ++ [.gone]) ++ [.gone]) ++ gs)) ++ g2) 15 16 20 rfl (by decide) (by decide) (by decide) ((⟨x0, 0, s.start⟩, s.start) :: steps s fs ⟨x0, 0, s.start⟩ s.start (x :: xs))
  have sm := same7 (d := .fl (((⟨x0, 0, s.start⟩, s.start) :: steps s fs ⟨x0, 0, s.start⟩ s.start (x :: xs)).map pairD)) (.fl (fun d hd => by
    obtain ⟨m, _, rfl⟩ := List.mem_map.mp hd
    exact .tup (fun y hy => by
      simp at hy
      rcases hy with rfl | rfl
      · exact .int _
      · exact .int _) (by simp)) (by simp; omega)) ((b2.enc :: (((t ++ [.gone]) ++ [.gone]) ++ gs)) ++ g2)
  refine rx_q (q_no (e_nT (e_t (e_call (e_ca0 (e_cons (e_call (e_ca0 (e_cons rfl (e_cons rfl (e_one rfl)))) e3) (e_one (e_lc (e_q rfl) cm (by simp; omega))))) sm)))) ?_
  generalize (b2.enc :: (((t ++ [.gone]) ++ [.gone]) ++ gs)) ++ g2 = H0
  refine rx_q (q_set (e_tl (e_one (e_tup (e_cons rfl (e_one rfl)))))) ?_
  change RtX (s_seq _ _ [a0, some (.loc 0), a2, a3, a4, a5, a6, a7, a8, some s.d, some s.plan, some (.fl (fs.map Fix.d)), some (gauge fs), some (.fl ((x :: xs).map Deed.d)), some (.fl ((((⟨x0, 0, s.start⟩, s.start) :: steps s fs ⟨x0, 0, s.start⟩ s.start (x :: xs)) : List (Pt × Int)).map mD)), none, none, some (.loc H0.length), none, none] (H0 ++ (.lst ([] ++ [widD (0, 0)]) :: []))) _
  obtain ⟨g3, s15, s16, e4⟩ := due_loop hs G (H0 := H0) (a0 := a0) (a1 := some (.loc 0)) (a2 := a2) (a3 := a3) (a4 := a4) (a5 := a5) (a6 := a6) (a7 := a7) (a8 := a8) (a13 := some (.fl ((x :: xs).map Deed.d))) (a14 := some (.fl ((((⟨x0, 0, s.start⟩, s.start) :: steps s fs ⟨x0, 0, s.start⟩ s.start (x :: xs)) : List (Pt × Int)).map mD))) (x :: xs) ⟨x0, 0, s.start⟩ s.start 0 0 [] [] none none (start_ok hs hx0) W (by simp; omega)
  refine rx_q (q_for (e_q (e_sl rfl (e_os rfl) rfl f_sl_fl1)) e4) ?_
  have fz := q_fz (i := 17) (j := H0.length) (sl := [a0, some (.loc 0), a2, a3, a4, a5, a6, a7, a8, some s.d, some s.plan, some (.fl (fs.map Fix.d)), some (gauge fs), some (.fl ((x :: xs).map Deed.d)), some (.fl ((((⟨x0, 0, s.start⟩, s.start) :: steps s fs ⟨x0, 0, s.start⟩ s.start (x :: xs)) : List (Pt × Int)).map mD)), s15, s16, some (.loc H0.length), none, none]) rfl (at0 H0 (.lst ([] ++ [widD (0, 0)] ++ (wids s fs ⟨x0, 0, s.start⟩ 0 0 (x :: xs)).map widD)) g3) (fun d hd => by
    rw [List.nil_append] at hd
    rcases List.mem_append.mp hd with hd | hd
    · rw [List.mem_singleton.mp hd]
      exact fun _ _ => rfl
    · obtain ⟨m, _, rfl⟩ := List.mem_map.mp hd
      exact fun _ _ => rfl)
  refine rx_q fz ?_
  generalize (H0 ++ (O.lst ([] ++ [widD (0, 0)] ++ (wids s fs ⟨x0, 0, s.start⟩ 0 0 (x :: xs)).map widD) :: g3)).set H0.length .gone = H1
  change RtX (s_ret _ [a0, some (.loc 0), a2, a3, a4, a5, a6, a7, a8, some s.d, some s.plan, some (.fl (fs.map Fix.d)), some (gauge fs), some (.fl ((x :: xs).map Deed.d)), some (.fl ((((⟨x0, 0, s.start⟩, s.start) :: steps s fs ⟨x0, 0, s.start⟩ s.start (x :: xs)) : List (Pt × Int)).map mD)), s15, s16, some (.fl (((0, 0) :: wids s fs ⟨x0, 0, s.start⟩ 0 0 (x :: xs)).map widD)), none, none] _) _
  have we := widths_ev hs G hm hx0 W (by simp; omega) H1
  have wl : ∀ (ys : List Deed) (p : Pt) (a b : Int), (wids s fs p a b ys).length = ys.length := by
    intro ys
    induction ys with
    | nil => intro _ _ _; rfl
    | cons y ys ih => intro p a b; rw [wids, List.length_cons, ih, List.length_cons]
  have sm2 := same7 (d := .fl (((0, 0) :: wids s fs ⟨x0, 0, s.start⟩ 0 0 (x :: xs)).map widD)) (.fl (fun d hd => by
    obtain ⟨m, _, rfl⟩ := List.mem_map.mp hd
    exact .tup (fun y hy => by
      simp [widD] at hy
      rcases hy with rfl | rfl
      · exact .int _
      · exact .int _) (by simp)) (by simp [wl]; omega)) (H1 ++ [.gone])
  exact rx_ret (e_call (e_ca0 (e_cons (e_call (e_ca0 (e_cons rfl (e_cons rfl (e_one (e_call (e_ca0 (e_one rfl)) (track_ev (x :: xs) (by simp; omega) H1)))))) we) (e_one rfl))) sm2)
end SP
set_option Elab.async false
set_option linter.all false
set_option maxRecDepth 100000
set_option maxHeartbeats 4000000
namespace SP
open PySem PySem.Spec PyProof.Rows L2 HF PF
theorem law_mid {s : Shape} (hs : s.Ok) {b : Bag} (hb : b.Ok) (t : List O) (a0 a2 a5 a6 a7 a8 : Option D) : RtX (((s_seq (s_set 10 (m_call cm__law_plan_of [] (m_ca (a_cons (m_v 3) (a_cons (m_lc (i_q (m_v 4)) (g_n 19) t_yes (m_call cm__law_many_mode [] (m_ca (a_cons (m_v 19) a_nil) a_nil)) (List.map (·.2) ([("_law_row", 19)] : List (Str × Nat)))) (a_cons (m_bin f_ix (m_v 9) (m_c (.int 1))) a_nil))) a_nil)))
  (s_seq (s_if (t_not (m_t (m_call (cm__law_same 8) [] (m_ca (a_cons (m_lc (i_q (m_v 4)) (g_n 19) t_yes (m_meth "Mode" "followers" cm_Mode_followers [] (m_meth "Plan" "mode" cm_Plan_mode [] (m_v 10) (m_ca (a_cons (m_bin f_ix (m_v 19) (m_c (.int 0))) a_nil) a_nil)) (m_ca a_nil a_nil)) (List.map (·.2) ([("_law_row", 19)] : List (Str × Nat)))) (a_cons (m_lc (i_q (m_v 4)) (g_n 19) t_yes (m_bin f_ix (m_v 19) (m_c (.int 5))) (List.map (·.2) ([("_law_row", 19)] : List (Str × Nat)))) a_nil)) a_nil)))) (s_ret (m_c (.bl false))) s_nil)
  (s_seq (s_if (t_not (m_t (m_call (cm__law_same 8) [] (m_ca (a_cons (m_call cm_plan_text [] (m_ca (a_cons (m_v 10) a_nil) a_nil)) (a_cons (m_call cm__law_plan_text [] (m_ca (a_cons (m_v 9) a_nil) a_nil)) a_nil)) a_nil)))) (s_ret (m_c (.bl false))) s_nil)
  (s_seq (s_if (m_t (m_bin (f_own2 "Plan" cm_Plan___eq__ not) (m_call cm_read_plan [] (m_ca (a_cons (m_call cm__law_plan_text [] (m_ca (a_cons (m_v 9) a_nil) a_nil)) a_nil) a_nil)) (m_v 10))) (s_ret (m_c (.bl false))) s_nil)
  (s_seq (s_set 11 (m_call cm__law_fixes_drawn [] (m_ca (a_cons (m_v 1) (a_cons (m_v 9) (a_cons (m_c (.int 9)) a_nil))) a_nil)))
  (s_seq (s_set 12 (m_call cm__law_gauge_made [] (m_ca (a_cons (m_v 11) a_nil) a_nil)))
  (s_seq (s_asg (m_call cm__law_use_drawn [] (m_ca (a_cons (m_v 1) (a_cons (m_v 9) (a_cons (m_v 11) (a_cons (m_c (.int 10)) a_nil)))) a_nil)) (g_q 2 (gs_cons (g_n 13) (gs_cons (g_n 14) gs_nil))))
  (s_seq (s_if (t_not (m_t (m_call (cm__law_same 8) [] (m_ca (a_cons (m_call cm_played [] (m_ca (a_cons (m_v 10) (a_cons (m_v 12) (a_cons (m_v 13) a_nil))) a_nil)) (a_cons (m_lc (i_q (m_v 14)) (g_q 2 (gs_cons (g_n 15) (gs_cons (g_n 16) gs_nil))) t_yes (m_tup (a_cons (m_bin f_ix (m_v 15) (m_c (.int 2))) (a_cons (m_v 16) a_nil))) (List.map (·.2) ([("_law_point", 15), ("_law_total", 16)] : List (Str × Nat)))) a_nil)) a_nil)))) (s_ret (m_c (.bl false))) s_nil)
  (s_seq (s_set 17 (m_tl (a_cons (m_tup (a_cons (m_c (.int 0)) (a_cons (m_c (.int 0)) a_nil))) a_nil)))
  (s_seq (s_for (i_q (m_sl (m_v 14) (o_some (m_c (.int 1))) o_none)) (g_q 2 (gs_cons (g_n 15) (gs_cons (g_n 16) gs_nil))) (s_seq (s_if (t_not (m_t (m_call (cm__law_same 8) [] (m_ca (a_cons (m_fl (a_cons (m_meth "Plan" "ticks_from" cm_Plan_ticks_from [] (m_v 10) (m_ca (a_cons (m_v 15) a_nil) a_nil)) (a_cons (m_meth "Gauge" "acting" cm_Gauge_acting [] (m_v 12) (m_ca (a_cons (m_v 10) (a_cons (m_v 15) a_nil)) a_nil)) a_nil))) (a_cons (m_fl (a_cons (m_call cm__law_ticks [] (m_ca (a_cons (m_v 9) (a_cons (m_v 15) a_nil)) a_nil)) (a_cons (m_call cm__law_acts [] (m_ca (a_cons (m_v 9) (a_cons (m_v 11) (a_cons (m_v 15) a_nil))) a_nil)) a_nil))) a_nil)) a_nil)))) (s_ret (m_c (.bl false))) s_nil)
  (s_ex (m_lm x_append (m_v 17) (a_cons (m_tup (a_cons (m_call cm__law_width_behind [] (m_ca (a_cons (m_v 9) (a_cons (m_v 11) (a_cons (m_v 15) (a_cons (m_bin f_ix (m_bin f_ix (m_v 17) (m_neg (m_c (.int 1)))) (m_c (.int 0))) (a_cons (m_c (.str "under")) a_nil))))) a_nil)) (a_cons (m_call cm__law_width_behind [] (m_ca (a_cons (m_v 9) (a_cons (m_v 11) (a_cons (m_v 15) (a_cons (m_bin f_ix (m_bin f_ix (m_v 17) (m_neg (m_c (.int 1)))) (m_c (.int 1))) (a_cons (m_c (.str "over")) a_nil))))) a_nil)) a_nil))) a_nil)))))
  (s_seq (s_fz 17)
  (s_ret (m_call (cm__law_same 8) [] (m_ca (a_cons (m_call cm_widths_along [] (m_ca (a_cons (m_v 10) (a_cons (m_v 12) (a_cons (m_call cm__law_track_of [] (m_ca (a_cons (m_v 13) a_nil) a_nil)) a_nil))) a_nil)) (a_cons (m_v 17) a_nil)) a_nil)))))))))))))) : FS) [a0, some (.loc 0), a2, some (.int s.size), some (.fl (s.rows.map Row.d)), a5, a6, a7, a8, some s.d, none, none, none, none, none, none, none, none, none, none] (b.enc :: t)) (.bl true) := by
  have n6 := hs.n6
  have c1 := compC_gen (α := Row) (enc := Row.d) (f := Row.mode) (g := g_n 19) (te := m_call cm__law_many_mode [] (m_ca (a_cons (m_v 19) a_nil) a_nil)) (slw := [a0, some (.loc 0), a2, some (.int s.size), some (.fl (s.rows.map Row.d)), a5, a6, a7, a8, some s.d, none, none, none, none, none, none, none, none, none, none]) (h := b.enc :: t) s.rows (fun r hr => ⟨_, rfl, e_call (e_ca0 (e_one rfl)) (many_mode_ev (hs.rows r hr) _)⟩)
  refine rx_q (q_set (e_call (e_ca0 (e_cons rfl (e_cons (e_lc (e_q rfl) c1 (by simp; omega)) (e_one (e_bin rfl rfl rfl))))) (plan_of_ev hs _))) ?_
  change RtX (s_seq _ _ [a0, some (.loc 0), a2, some (.int s.size), some (.fl (s.rows.map Row.d)), a5, a6, a7, a8, some s.d, some s.plan, none, none, none, none, none, none, none, none, none] _) _
  have c2 := compC_gen (α := Row) (enc := Row.d) (f := fun r => .fl (r.late.map D.str)) (g := g_n 19) (te := m_meth "Mode" "followers" cm_Mode_followers [] (m_meth "Plan" "mode" cm_Plan_mode [] (m_v 10) (m_ca (a_cons (m_bin f_ix (m_v 19) (m_c (.int 0))) a_nil) a_nil)) (m_ca a_nil a_nil)) (slw := [a0, some (.loc 0), a2, some (.int s.size), some (.fl (s.rows.map Row.d)), a5, a6, a7, a8, some s.d, some s.plan, none, none, none, none, none, none, none, none, none]) (h := b.enc :: t) s.rows (fun r hr => ⟨_, rfl, meth_mode (meth_plan rfl (e_ca0 (e_one (e_bin rfl rfl rfl))) (plan_mode_ev hs hr _)) rfl (followers_ev r _)⟩)
  have c3 := compC_gen (α := Row) (enc := Row.d) (f := fun r => .fl (r.late.map D.str)) (g := g_n 19) (te := m_bin f_ix (m_v 19) (m_c (.int 5))) (slw := [a0, some (.loc 0), a2, some (.int s.size), some (.fl (s.rows.map Row.d)), a5, a6, a7, a8, some s.d, some s.plan, none, none, none, none, none, none, none, none, none]) (h := b.enc :: t) s.rows (fun r hr => ⟨_, rfl, e_bin rfl rfl rfl⟩)
  have sm := same7 (d := .fl (s.rows.map fun r => .fl (r.late.map D.str))) (.fl (fun d hd => by
    obtain ⟨r, hr, rfl⟩ := List.mem_map.mp hd
    have hl := (hs.rows r hr).len
    exact .fl (fun y hy => by
      obtain ⟨x, hx, rfl⟩ := List.mem_map.mp hy
      exact .str ((hs.rows r hr).lname x hx).sok) (by simp; omega)) (by simp; omega)) (b.enc :: t)
  refine rx_q (q_no (e_nT (e_t (e_call (e_ca0 (e_cons (e_lc (e_q rfl) c2 (by simp; omega)) (e_one (e_lc (e_q rfl) c3 (by simp; omega))))) sm)))) ?_
  have tx : SOk (textL s) := by
    refine strOk_iff.mpr fun c hc => ?_
    have free : ∀ r ∈ s.rows, ∀ x ∈ partsL r, SOk x := fun r hr x hx => by
      have hrr := hs.rows r hr
      have h1 := num_ok hrr.low (Int.le_trans hrr.lh (Int.le_trans hrr.high (by decide)))
      have h2 := num_ok (Int.le_trans hrr.low hrr.lh) (Int.le_trans hrr.high (by decide))
      have h3 := num_ok (i := r.under) (Int.le_trans (by decide) hrr.u0) (Int.le_trans hrr.u1 (by decide))
      have h4 := num_ok (i := r.over) (Int.le_trans (by decide) hrr.o0) (Int.le_trans hrr.o1 (by decide))
      rcases List.mem_append.mp hx with hx | hx
      · simp only [headL, List.mem_cons, List.not_mem_nil, or_false] at hx
        rcases hx with rfl | rfl | rfl | rfl | rfl | rfl | rfl
        · decide +kernel
        · exact hrr.name.sok
        · exact h1.sok
        · exact h2.sok
        · exact h3.sok
        · exact h4.sok
        · decide +kernel
      · exact (hrr.lname x hx).sok
    have jn : ∀ (sep : Str) (xs : List Str), SOk sep → (∀ x ∈ xs, SOk x) → SOk (Str.join sep xs) := by
      intro sep xs hsep
      induction xs with
      | nil =>
        intro _
        show SOk Str.empty
        decide +kernel
      | cons x xs ih =>
        intro hx
        cases xs with
        | nil => exact hx x (.head _)
        | cons y ys =>
          rw [join_cons]
          exact ((hx x (.head _)).app hsep).app (ih fun z hz => hx z (.tail _ hz))
    have all : SOk (textL s) := jn _ _ (by decide +kernel) (fun y hy => by
      obtain ⟨z, hz, rfl⟩ := List.mem_map.mp hy
      refine SOk.app ?_ (by decide +kernel)
      rcases List.mem_cons.mp hz with rfl | hz
      · refine jn _ _ (by decide +kernel) (fun x hx => ?_)
        have h1 := num_ok (Int.le_trans (by decide) hs.size0) hs.size1
        have h2 := num_ok (i := s.start) (Int.le_trans (by decide) hs.start0) (Int.le_trans hs.start1 hs.size1)
        simp only [List.mem_cons, List.not_mem_nil, or_false] at hx
        rcases hx with rfl | rfl | rfl
        · decide +kernel
        · exact h1.sok
        · exact h2.sok
      · obtain ⟨r, hr, rfl⟩ := List.mem_map.mp hz
        exact jn _ _ (by decide +kernel) (free r hr))
    exact strOk_iff.mp all c hc
  refine rx_q (q_no (e_nT (e_t (e_call (e_ca0 (e_cons (e_call (e_ca0 (e_one rfl)) (plan_text_ev hs _)) (e_one (e_call (e_ca0 (e_one rfl)) (law_text_ev hs _))))) (same7 (.str tx) _))))) ?_
  refine rx_q (q_no (e_t (e_bin (e_call (e_ca0 (e_one (e_call (e_ca0 (e_one rfl)) (law_text_ev hs _)))) (read_plan_ev hs _)) rfl (own2_ob (plan_eq_ev hs _) rfl)))) ?_
  exact law_end hs hb _ a0 a2 _ _ a5 a6 a7 a8
theorem spec (ns : List Int) (d : D) (hl : ns.length ≤ 63) (hd : d = .fz (ns.map D.int) ∨ d = .kl (ns.map D.int)) : ∃ h' : List O, m_fn 1 20 b_law [d] [] = some (.bl true, h') := by
  obtain ⟨b0, hb0, e0⟩ := start_ex hl hd
  obtain ⟨v1, b1, hv1, hb1, e1⟩ := pull_nat (b := b0) (n := 3) (by decide) (by decide) hb0 []
  obtain ⟨names, b2, nl, nd, nok, hb2, e2⟩ := names_ex (b := b1) (m := 4 + v1) (by omega) hb1 []
  obtain ⟨v2, b3, hv2, hb3, e3⟩ := pull_nat (b := b2) (n := 24) (by decide) (by decide) hb2 []
  have c4 : (((4 + v1 : Nat) : Nat) : Int) = 4 + (v1 : Int) := by omega
  rw [c4] at e2
  obtain ⟨rs, gs, b4, s5, s6, s7, s8, hb4, hrs, hnm, e4⟩ := modes_loop (names := names) nok nd (by omega) (D0 := d) (D3 := .int (1 + (v2 : Int))) names [] [] b3 none none none none hb3 (fun _ h => h) (fun _ h => by cases h) (by simp; omega)
  obtain ⟨st, b5, ⟨st0, st1⟩, hb5, e5⟩ := pull_ex (b := b4) (n := 1 + (v2 : Int) + 1) (by omega) (by omega) hb4 (.gone :: gs)
  have hs : (⟨1 + (v2 : Int), st, rs⟩ : Shape).Ok := by
    have hn : (⟨1 + (v2 : Int), st, rs⟩ : Shape).names = names := by
      show rs.map Row.name = _
      rw [hnm]
      rfl
    have hlen : rs.length = names.length := by
      have := congrArg List.length hnm
      simpa using this
    exact ⟨(show (1 : Int) ≤ 1 + v2 by omega), (show (1 + (v2 : Int)) ≤ 24 by omega), st0, (show st ≤ 1 + (v2 : Int) by omega), fun r hr => (hrs r hr).1, by rw [hn]; exact nd, fun r hr x hx => by rw [hn]; exact (hrs r hr).2 x hx, (show 1 ≤ rs.length by omega), (show rs.length ≤ 6 by omega)⟩
  have body : RtX (b_law [some d, none, none, none, none, none, none, none, none, none, none, none, none, none, none, none, none, none, none, none] []) (.bl true) := by
    unfold b_law
    refine rx_q (q_set (e_call (e_ca0 (e_one rfl)) e0)) ?_
    change RtX (s_seq _ _ [some d, some (.loc 0), none, none, none, none, none, none, none, none, none, none, none, none, none, none, none, none, none, none] [b0.enc]) _
    have pp : (s_par3 2 3 4 (a_cons (m_call cm__law_names_drawn [] (m_ca (a_cons (m_v 1) (a_cons (m_bin f_add (m_c (.int 4)) (m_call cm__law_pull [] (m_ca (a_cons (m_v 1) (a_cons (m_c (.int 3)) a_nil)) a_nil))) a_nil)) a_nil)) (a_cons (m_bin f_add (m_c (.int 1)) (m_call cm__law_pull [] (m_ca (a_cons (m_v 1) (a_cons (m_c (.int 24)) a_nil)) a_nil))) (a_cons (m_tl a_nil) a_nil)))) [some d, some (.loc 0), none, none, none, none, none, none, none, none, none, none, none, none, none, none, none, none, none, none] [b0.enc] = some (.nx, [some d, some (.loc 0), some (.fl (names.map D.str)), some (.int (1 + (v2 : Int))), some (.loc 1), none, none, none, none, none, none, none, none, none, none, none, none, none, none, none], [b3.enc, .lst []]) := by
      unfold s_par3
      rw [e_cons (e_call (e_ca0 (e_cons rfl (e_one (e_bin rfl (e_call (e_ca0 (e_cons rfl (e_one rfl))) e1) rfl)))) e2) (e_cons (e_bin (r := some (.int (1 + (v2 : Int)), [b3.enc])) rfl (e_call (e_ca0 (e_cons rfl (e_one rfl))) e3) rfl) (e_one (e_tl (ms := a_nil) (h1 := [b3.enc]) rfl)))]
      rfl
    refine rx_q pp ?_
    refine rx_q (q_for (e_q rfl) e4) ?_
    refine rx_q (q_fz (i := 4) (j := 1) rfl rfl (fun d hd => by
      obtain ⟨r, _, rfl⟩ := List.mem_map.mp hd
      exact stb_fl _)) ?_
    refine rx_q (q_set (e_fl (e_cons rfl (e_cons (e_call (e_ca0 (e_cons rfl (e_one (e_bin rfl rfl rfl)))) e5) (e_one rfl))))) ?_
    exact law_mid hs hb5 (.gone :: gs) (some d) (some (.fl (names.map D.str))) s5 s6 s7 s8
  obtain ⟨h', body⟩ := body
  exact ⟨h', rt_fn body⟩
end SP
set_option maxHeartbeats 0 in
theorem PySem.Challenge.cw_brimrest_k72_whole_plans_of_many_modes_holds : PySem.Challenge.rw_brimrest_k72_whole_plans_of_many_modes.Holds := by
  exact PF.holds_of SP.spec

