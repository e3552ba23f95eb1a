import PyProof.Rows.All
import Wide.All
import OpenK.AllK
import HandS.Base
import HandS.Defaults
import HandS.Head0
import HandS.Head1
import HandS.Head2
import HandS.HeadHook1
import HandS.HeadHook2
import HandS.HeadHook4
import HandS.HeadEnd
import HandS.Walk
import HandS.Words
import PySem.Challenge.RW_depthmarks_k34_whole_equal_standings_go
import Wide.FinOn
import KE.KDictKeyed
import HandS.ForMost
import HandS.Conv
import HandS.Zip
import HandS.IsInst
import HandS.Star
import HandS.TupAny
import HandS.TupMul
import HandS.Deep
import HandS.Style
import HandS.Wide
import HandS.NoneIn
import HandS.SlotsVar
import HandS.SlotsOwn
import KE.SortData
import HandS.Property
import HandS.DictComp
import KE.KDictItemsList
import KE.KDictPairs
import KE.GoesMore
import HandS.DictTup
import PyProof.DictCompW
import HandS.HeadHook3
import HandS.FStr
import HandS.OwnEq
import HandS.NamedTupSort
import KE.KCallOwn
import KE.KEqNest
import KE.KDictObj
import PyProof.DictMoreH
import HandS.TupSets
set_option Elab.async false
set_option linter.all false
set_option maxRecDepth 100000
set_option maxHeartbeats 1000000
/-! DL0: values as trees; the facts that the head looks at -/
namespace DL
open PySem PySem.Spec PyProof.Rows L2
inductive D where
  | non | bl (b : Bool) | int (i : Int) | str (x : Str) | ty (n : String) | ref (a : Addr)
  | tup (ds : List D) | lv (ds : List D) | dv (ks vs : List D) | iv (C : Addr) (vs : List D)
/-- the fields of a class's instances in the order in which they are made; whether it has slots -/
class FldTab where
  F : PySem.W.Frag → Addr → List Str
  sl : PySem.W.Frag → Addr → Bool
  pl : PySem.W.Frag → Addr → List Nat
/-- a class's suite -/
def clsB : Stmt → List Stmt
  | .ClassDef (body := b) .. => b
  | _ => []
def gtAd (K : PySem.W.Frag) (C : Addr) (m : Str) : Addr := match PySem.W.findIn K (.ref C) m with
  | some (some (.ref p)) => (match PySem.W.recIn K p "property" with
    | some (.ref g :: _) => g
    | _ => 0)
  | _ => 0
def gtAt (K : PySem.W.Frag) (d : He.DefD) : Addr := match d.at_.2 with
  | some m => gtAd K (He.ga K d.at_.1) m
  | none => 0
def gtW (K : PySem.W.Frag) (d : He.DefD) : He.FnW := match K.lookup (gtAt K d) with
  | some ⟨_, _, .func fd, _⟩ => some (fd.name, fd.qualname, fd.params, fd.body, fd.scope, fd.globals, fd.closure, fd.builtins)
  | _ => none
def gtOk (K : PySem.W.Frag) (d : He.DefD) : Bool := PySem.W.keepIn K (.ref (gtAt K d)) && (match K.lookup (gtAt K d) with
  | some ⟨_, _, .func fd, _⟩ => PySem.W.codeIn K fd.code d.qual && (He.dflB K fd.defaults [] && He.kwdB K fd.kwdefaults [])
  | _ => false)
/-! ### facts of the written part -/
variable [FldTab]
mutual
def repK (K : PySem.W.Frag) : D → Value → Bool
  | .non, u => (match u with
    | .none => true
    | _ => false)
  | .bl b, u => (match u with
    | .bool c => b == c
    | _ => false)
  | .int i, u => (match u with
    | .int j _ => decide (i = j)
    | _ => false)
  | .str x, u => (match u with
    | .str y _ => decide (x = y)
    | _ => false)
  | .ref a, u => (match u with
    | .ref b => decide (a = b)
    | _ => false)
  | .tup ds, u => (match u with
    | .ref a => (match K.lookup a with
      | some ⟨.type c, _, .seq its _, _⟩ => decide (c = "tuple") && (decide (its.size ≤ sizeLine) && repKL K ds its.toList)
      | _ => false)
    | _ => false)
  | _, _ => false
def repKL (K : PySem.W.Frag) : List D → List Value → Bool
  | [], us => us.isEmpty
  | d :: ds, us => (match us with
    | u :: r => repK K d u && repKL K ds r
    | [] => false)
end
abbrev oF (K : PySem.W.Frag) (C : Addr) (m : Str) (o : Option (Option Value)) : Bool := decide (PySem.W.findIn K (.ref C) m = o)
/-- a type: built in, a class of the text -/
inductive KT where
  | ty (n : String) | cl (x : Str)
def KT.v (K : PySem.W.Frag) : KT → Value
  | .ty n => .type n
  | .cl x => .ref (He.ga K x)
inductive Fx where
  | con (x : Str) (d : D) | fld (f cn : Str) (i : Nat) | meth (cn m : Str) | mk (cn : Str) | call (cn : Str) | ci (cn : Str) | kit (t u : KT) (b : Bool) | dis (x y : Str)
def slB (K : PySem.W.Frag) (C : Addr) (f : Str) (i : Nat) : Bool := match PySem.W.findIn K (.ref C) f with
  | some (some (.ref p)) => decide (PySem.W.specialIn K (.ref p) "__get__" = some (some (.builtin "member_descriptor.__get__"))) && (decide (PySem.W.takesIn K (.ref p) = some true) && (decide (PySem.W.slotIn K p C = some i) && (decide (PySem.W.typeIn K (.ref p) = some (.type "member_descriptor")) && decide (i < 1000))))
  | _ => false
def Fx.ok (K : PySem.W.Frag) : Fx → Bool
  | .con x d => (match PySem.W.nsIn K mainGlobals x with
    | some (some u) => repK K d u
    | _ => false)
  | .fld f cn i => if FldTab.sl K (He.ga K cn) = true then PySem.W.plainGet K (He.ga K cn) Str.empty && (PySem.W.isClsIn K (He.ga K cn) && (PySem.W.plainOver K (He.ga K cn) && (oF K (He.ga K cn) "__setattr__" (some (some (.builtin "object.__setattr__"))) && (decide (FldTab.pl K (He.ga K cn)).Nodup && (match (FldTab.pl K (He.ga K cn))[i]? with
      | some j => slB K (He.ga K cn) f j
      | none => false)))))
    else PySem.W.plainGet K (He.ga K cn) Str.empty && (PySem.W.hasDictIn K (He.ga K cn) && (PySem.W.plainOver K (He.ga K cn) && (oF K (He.ga K cn) "__setattr__" (some (some (.builtin "object.__setattr__"))) && (oF K (He.ga K cn) f (some none) && (decide ((FldTab.F K (He.ga K cn))[i]? = some f) && (decide (FldTab.F K (He.ga K cn)).Nodup && decide ((FldTab.F K (He.ga K cn)).length < 1000)))))))
  | .meth cn m => !FldTab.sl K (He.ga K cn) && (PySem.W.plainGet K (He.ga K cn) Str.empty && (PySem.W.hasDictIn K (He.ga K cn) && (PySem.W.plainOver K (He.ga K cn) && (oF K (He.ga K cn) "__setattr__" (some (some (.builtin "object.__setattr__"))) && (oF K (He.ga K cn) m (some (some (.ref (He.ma K (He.ga K cn) m)))) &&
      (PySem.W.isFn K (.ref (He.ma K (He.ga K cn) m)) && (PySem.W.keepIn K (.ref (He.ma K (He.ga K cn) m)) && decide (m ∉ FldTab.F K (He.ga K cn)))))))))
  | .mk cn => PySem.W.makesIn K (He.ga K cn) && (oF K (He.ga K cn) "__init__" (some (some (.ref (He.ma K (He.ga K cn) "__init__")))) && (PySem.W.isFn K (.ref (He.ma K (He.ga K cn) "__init__")) && PySem.W.keepIn K (.ref (He.ga K cn))))
  | .call cn => !FldTab.sl K (He.ga K cn) && (oF K (He.ga K cn) "__call__" (some (some (.ref (He.ma K (He.ga K cn) "__call__")))) && (PySem.W.isFn K (.ref (He.ma K (He.ga K cn) "__call__")) && PySem.W.fnIn K (He.ma K (He.ga K cn) "__call__")))
  | .ci cn => PySem.W.isClsIn K (He.ga K cn) && (PySem.W.plainGet K (He.ga K cn) Str.empty && (oF K (He.ga K cn) "__class__" (some (some (.builtin "object.__class__"))) && (decide (PySem.W.specialIn K (.builtin "object.__class__") "__get__" = some (some (.builtin "getset_descriptor.__get__"))) &&
      (decide (PySem.W.takesIn K (.builtin "object.__class__") = some true) && decide (PySem.W.mroIn K (He.ga K cn) (.type "object") = some true)))))
  | .kit t u b => decide (PySem.W.kitOne K (t.v K) (u.v K) = some b)
  | .dis x y => decide (He.ga K x ≠ He.ga K y)
inductive Fy where
  | prop (cn m : Str) | own (cn m : Str) | owe (cn : Str)
def Fy.ok (K : PySem.W.Frag) : Fy → Bool
  | .prop cn m => !FldTab.sl K (He.ga K cn) && (PySem.W.plainGet K (He.ga K cn) Str.empty && (PySem.W.hasDictIn K (He.ga K cn) && (PySem.W.plainOver K (He.ga K cn) && (oF K (He.ga K cn) "__setattr__" (some (some (.builtin "object.__setattr__"))) && (match PySem.W.findIn K (.ref (He.ga K cn)) m with
    | some (some (.ref p)) => decide (PySem.W.specialIn K (.ref p) "__get__" = some (some (.builtin "property.__get__"))) && (decide (PySem.W.takesIn K (.ref p) = some true) && (match PySem.W.recIn K p "property" with
      | some (.ref _ :: _) => true
      | _ => false))
    | _ => false)))))
  | .own cn m => !FldTab.sl K (He.ga K cn) && (oF K (He.ga K cn) m (some (some (.ref (He.ma K (He.ga K cn) m)))) && PySem.W.isFn K (.ref (He.ma K (He.ga K cn) m)))
  | .owe cn => !FldTab.sl K (He.ga K cn) && (oF K (He.ga K cn) "__eq__" (some (some (.ref (He.ma K (He.ga K cn) "__eq__")))) && (PySem.W.isFn K (.ref (He.ma K (He.ga K cn) "__eq__")) && (oF K (He.ga K cn) "__ne__" (some (some (.builtin "object.__ne__"))) && decide (PySem.W.mroIn K (He.ga K cn) (.type "object") = some true))))
/-! ### the written part: what can be reached in n steps, each address once -/
def addK (q : Nat × List Addr) (a : Addr) : Nat × List Addr := match Nat.beq (Nat.land (Nat.shiftRight q.1 a) 1) 1 with
  | true => q
  | false => HandSHeadRun.frNat (Nat.lor q.1 (Nat.shiftLeft 1 a)) fun b => (b, a :: q.2)
def growK (g : Addr → Option Obj) : List Addr → Nat × List Addr → Nat × List Addr
  | [], q => q
  | a :: r, q => match g a with
    | some o => growK g r ((He.refsD o).foldl addK q)
    | none => growK g r q
def reachK (g : Addr → Option Obj) : Nat → List Addr → Nat → List Addr → List Addr
  | 0, _, _, all => all
  | n + 1, front, seen, all => match growK g front (seen, []) with
    | (seen', new) => reachK g n new seen' (all ++ new.reverse)
def asK (g : Addr → Option Obj) (n : Nat) : List Addr := reachK g n [mainGlobals] (Nat.shiftLeft 1 mainGlobals) [mainGlobals]
end DL
set_option Elab.async false
set_option linter.all false
set_option maxRecDepth 100000
set_option maxHeartbeats 4000000
namespace LK
open PySem PySem.Spec PyProof.Rows L2 DL
def top (i : Nat) : Stmt := PySem.Challenge.pw_depthmarks_k34_whole_equal_standings_go.main.body.getD i (.Pass ⟨0, 0, 0, 0⟩)
def sub (i j : Nat) : Stmt := (DL.clsB (top i)).getD j (.Pass ⟨0, 0, 0, 0⟩)
def ctab : List (Str × Bool × List Str × List Nat) := [("Rules", true, ["own_mode", "own_marks", "own_opens", "own_closes"], [2, 1, 3, 0]), ("Reader", false, ["own_mode", "own_marks", "own_opens", "own_closes"], [2, 1, 3, 0]), ("Run", false, ["own_reader", "own_events", "own_state", "own_free", "own_way", "own_lying", "own_told"], [3, 0, 4, 1, 6, 2, 5])]
instance fldTab : DL.FldTab := ⟨fun K C => ((ctab.find? fun q => decide (He.ga K q.1 = C)).map fun q => q.2.2.1).getD [], fun K C => ((ctab.find? fun q => decide (He.ga K q.1 = C)).map fun q => q.2.1).getD false, fun K C => ((ctab.find? fun q => decide (He.ga K q.1 = C)).map fun q => q.2.2.2).getD []⟩
abbrev s__law_dice : Stmt := top 59
abbrev s__law_roll : Stmt := top 60
abbrev s__law_one_of : Stmt := top 61
abbrev s__law_some_mode : Stmt := top 67
abbrev s__law_mixed : Stmt := top 62
abbrev s__law_labels : Stmt := top 63
abbrev s_is_mode : Stmt := top 18
abbrev s_is_index : Stmt := top 14
abbrev s_is_name : Stmt := top 15
abbrev s_is_ascending : Stmt := top 13
abbrev s_is_marks : Stmt := top 42
abbrev s_is_dotted : Stmt := top 16
abbrev s_is_colour : Stmt := top 17
abbrev s_is_open_rule : Stmt := top 43
abbrev s_are_opens : Stmt := top 46
abbrev s_is_close_key : Stmt := top 44
abbrev s_is_close_rule : Stmt := top 45
abbrev s_are_closes : Stmt := top 47
abbrev s_Rules_u__init_u_ : Stmt := sub 41 1
abbrev s_checked_readers : Stmt := top 48
abbrev s_Reader_u__init_u_ : Stmt := sub 50 0
abbrev s__law_made_reader : Stmt := top 66
abbrev s__law_reader : Stmt := top 65
abbrev s_Run_u__init_u_ : Stmt := sub 56 0
abbrev s_every_mark : Stmt := top 51
abbrev s_Reader_run : Stmt := sub 50 9
abbrev s_Run_is_done : Stmt := sub 56 8
abbrev s_Run_way : Stmt := sub 56 4
abbrev s__law_close : Stmt := top 64
abbrev s_Run_reader : Stmt := sub 56 1
abbrev s_Reader_mode : Stmt := sub 50 1
abbrev s__law_further : Stmt := top 68
abbrev s_is_event : Stmt := top 33
abbrev s_close_of : Stmt := top 31
abbrev s_can_come : Stmt := top 54
abbrev s_opened : Stmt := top 52
abbrev s_closed : Stmt := top 53
abbrev s_run_behind : Stmt := top 57
abbrev s_Run_after : Stmt := sub 56 9
abbrev s__law_all_runs : Stmt := top 70
abbrev s_Run_state : Stmt := sub 56 3
abbrev s_Run_lying : Stmt := sub 56 5
abbrev s__law_standing : Stmt := top 69
abbrev s_Run_free : Stmt := sub 56 6
abbrev s_Run_told : Stmt := sub 56 7
abbrev s__law_next_right : Stmt := top 71
abbrev s__law_right : Stmt := top 72
abbrev s_Run_through : Stmt := sub 56 10
abbrev s_law : Stmt := top 73
def fn0 : List He.DefD := [⟨("_law_dice", none), "_law_dice", "_law_dice", defArgs s__law_dice, defBody s__law_dice, defScope s__law_dice, [], []⟩,
  ⟨("_law_roll", none), "_law_roll", "_law_roll", defArgs s__law_roll, defBody s__law_roll, defScope s__law_roll, [], []⟩,
  ⟨("_law_one_of", none), "_law_one_of", "_law_one_of", defArgs s__law_one_of, defBody s__law_one_of, defScope s__law_one_of, [], []⟩,
  ⟨("_law_some_mode", none), "_law_some_mode", "_law_some_mode", defArgs s__law_some_mode, defBody s__law_some_mode, defScope s__law_some_mode, [], []⟩,
  ⟨("_law_mixed", none), "_law_mixed", "_law_mixed", defArgs s__law_mixed, defBody s__law_mixed, defScope s__law_mixed, [], []⟩,
  ⟨("_law_labels", none), "_law_labels", "_law_labels", defArgs s__law_labels, defBody s__law_labels, defScope s__law_labels, [], []⟩,
  ⟨("is_mode", none), "is_mode", "is_mode", defArgs s_is_mode, defBody s_is_mode, defScope s_is_mode, [], []⟩,
  ⟨("is_index", none), "is_index", "is_index", defArgs s_is_index, defBody s_is_index, defScope s_is_index, [], []⟩,
  ⟨("is_name", none), "is_name", "is_name", defArgs s_is_name, defBody s_is_name, defScope s_is_name, [], []⟩,
  ⟨("is_ascending", none), "is_ascending", "is_ascending", defArgs s_is_ascending, defBody s_is_ascending, defScope s_is_ascending, [], []⟩,
  ⟨("is_marks", none), "is_marks", "is_marks", defArgs s_is_marks, defBody s_is_marks, defScope s_is_marks, [], []⟩,
  ⟨("is_dotted", none), "is_dotted", "is_dotted", defArgs s_is_dotted, defBody s_is_dotted, defScope s_is_dotted, [], []⟩,
  ⟨("is_colour", none), "is_colour", "is_colour", defArgs s_is_colour, defBody s_is_colour, defScope s_is_colour, [], []⟩,
  ⟨("is_open_rule", none), "is_open_rule", "is_open_rule", defArgs s_is_open_rule, defBody s_is_open_rule, defScope s_is_open_rule, [], []⟩,
  ⟨("are_opens", none), "are_opens", "are_opens", defArgs s_are_opens, defBody s_are_opens, defScope s_are_opens, [], []⟩]
def fn1 : List He.DefD := [⟨("is_close_key", none), "is_close_key", "is_close_key", defArgs s_is_close_key, defBody s_is_close_key, defScope s_is_close_key, [], []⟩,
  ⟨("is_close_rule", none), "is_close_rule", "is_close_rule", defArgs s_is_close_rule, defBody s_is_close_rule, defScope s_is_close_rule, [], []⟩,
  ⟨("are_closes", none), "are_closes", "are_closes", defArgs s_are_closes, defBody s_are_closes, defScope s_are_closes, [], []⟩,
  ⟨("Rules", some "__init__"), "__init__", "Rules.__init__", defArgs s_Rules_u__init_u_, defBody s_Rules_u__init_u_, defScope s_Rules_u__init_u_, [], []⟩,
  ⟨("checked_readers", none), "checked", "checked", defArgs s_checked_readers, defBody s_checked_readers, defScope s_checked_readers, [], []⟩,
  ⟨("Reader", some "__init__"), "__init__", "Reader.__init__", defArgs s_Reader_u__init_u_, defBody s_Reader_u__init_u_, defScope s_Reader_u__init_u_, [.int 0, .adr (He.dflAt ("Reader", some "__init__") 1), .adr (He.dflAt ("Reader", some "__init__") 2)], []⟩,
  ⟨("_law_made_reader", none), "_law_made_reader", "_law_made_reader", defArgs s__law_made_reader, defBody s__law_made_reader, defScope s__law_made_reader, [], []⟩,
  ⟨("_law_reader", none), "_law_reader", "_law_reader", defArgs s__law_reader, defBody s__law_reader, defScope s__law_reader, [], []⟩,
  ⟨("Run", some "__init__"), "__init__", "Run.__init__", defArgs s_Run_u__init_u_, defBody s_Run_u__init_u_, defScope s_Run_u__init_u_, [], []⟩,
  ⟨("every_mark", none), "every_mark", "every_mark", defArgs s_every_mark, defBody s_every_mark, defScope s_every_mark, [], []⟩,
  ⟨("Reader", some "run"), "run", "Reader.run", defArgs s_Reader_run, defBody s_Reader_run, defScope s_Reader_run, [], []⟩,
  ⟨("_law_close", none), "_law_close", "_law_close", defArgs s__law_close, defBody s__law_close, defScope s__law_close, [], []⟩,
  ⟨("_law_further", none), "_law_further", "_law_further", defArgs s__law_further, defBody s__law_further, defScope s__law_further, [], []⟩,
  ⟨("is_event", none), "is_event", "is_event", defArgs s_is_event, defBody s_is_event, defScope s_is_event, [], []⟩,
  ⟨("close_of", none), "close_of", "close_of", defArgs s_close_of, defBody s_close_of, defScope s_close_of, [], []⟩]
def fn2 : List He.DefD := [⟨("can_come", none), "can_come", "can_come", defArgs s_can_come, defBody s_can_come, defScope s_can_come, [], []⟩,
  ⟨("opened", none), "opened", "opened", defArgs s_opened, defBody s_opened, defScope s_opened, [], []⟩,
  ⟨("closed", none), "closed", "closed", defArgs s_closed, defBody s_closed, defScope s_closed, [], []⟩,
  ⟨("run_behind", none), "run_behind", "run_behind", defArgs s_run_behind, defBody s_run_behind, defScope s_run_behind, [], []⟩,
  ⟨("Run", some "after"), "after", "Run.after", defArgs s_Run_after, defBody s_Run_after, defScope s_Run_after, [], []⟩,
  ⟨("_law_all_runs", none), "_law_all_runs", "_law_all_runs", defArgs s__law_all_runs, defBody s__law_all_runs, defScope s__law_all_runs, [], []⟩,
  ⟨("_law_standing", none), "_law_standing", "_law_standing", defArgs s__law_standing, defBody s__law_standing, defScope s__law_standing, [], []⟩,
  ⟨("_law_next_right", none), "_law_next_right", "_law_next_right", defArgs s__law_next_right, defBody s__law_next_right, defScope s__law_next_right, [], []⟩,
  ⟨("_law_right", none), "_law_right", "_law_right", defArgs s__law_right, defBody s__law_right, defScope s__law_right, [], []⟩,
  ⟨("Run", some "through"), "through", "Run.through", defArgs s_Run_through, defBody s_Run_through, defScope s_Run_through, [], []⟩,
  ⟨("law", none), "law", "law", defArgs s_law, defBody s_law, defScope s_law, [], []⟩]
def fn : List He.DefD := fn0 ++ fn1 ++ fn2
def gn : List He.DefD := [⟨("Run", some "is_done"), "is_done", "Run.is_done", defArgs s_Run_is_done, defBody s_Run_is_done, defScope s_Run_is_done, [], []⟩,
  ⟨("Run", some "way"), "way", "Run.way", defArgs s_Run_way, defBody s_Run_way, defScope s_Run_way, [], []⟩,
  ⟨("Run", some "reader"), "reader", "Run.reader", defArgs s_Run_reader, defBody s_Run_reader, defScope s_Run_reader, [], []⟩,
  ⟨("Reader", some "mode"), "mode", "Reader.mode", defArgs s_Reader_mode, defBody s_Reader_mode, defScope s_Reader_mode, [], []⟩,
  ⟨("Run", some "state"), "state", "Run.state", defArgs s_Run_state, defBody s_Run_state, defScope s_Run_state, [], []⟩,
  ⟨("Run", some "lying"), "lying", "Run.lying", defArgs s_Run_lying, defBody s_Run_lying, defScope s_Run_lying, [], []⟩,
  ⟨("Run", some "free"), "free", "Run.free", defArgs s_Run_free, defBody s_Run_free, defScope s_Run_free, [], []⟩,
  ⟨("Run", some "told"), "told", "Run.told", defArgs s_Run_told, defBody s_Run_told, defScope s_Run_told, [], []⟩]
def fa : List He.Fa := [.glo "_law_dice", .glo "_law_roll", .glo "_law_one_of", .glo "_law_some_mode", .glo "_law_mixed", .glo "_law_labels", .glo "is_mode", .glo "is_index", .glo "is_name", .glo "is_ascending", .glo "is_marks", .glo "is_dotted", .glo "is_colour", .glo "is_open_rule", .glo "are_opens", .glo "is_close_key", .glo "is_close_rule", .glo "are_closes", .glo "checked_readers", .glo "_law_made_reader", .glo "_law_reader", .glo "every_mark", .glo "_law_close", .glo "_law_further", .glo "is_event", .glo "close_of", .glo "can_come", .glo "opened", .glo "closed", .glo "run_behind", .glo "_law_all_runs", .glo "_law_standing", .glo "_law_next_right", .glo "_law_right", .glo "law", .glo "Reader", .glo "Rules", .glo "Run", .free "abs", .free "all", .free "bool", .free "dict", .free "int", .free "isinstance", .free "len", .free "list", .free "max", .free "min", .free "range", .free "set", .free "sorted", .free "str", .free "tuple", .free "zip"]
def fx : List DL.Fx := [.con "CLOSE" (.str "close"), .con "LATE" (.str "late"), .con "MAX_COLOUR" (.int 4), .con "MAX_LETTERS" (.int 8), .con "MAX_MARKS" (.int 2), .con "MAX_READER" (.int 10), .con "MODES" (.tup [(.str "bare"), (.str "late"), (.str "named")]), .con "NAMED" (.str "named"), .con "OPEN" (.str "open"), .fld "own_closes" "Rules" 3, .fld "own_closes" "Reader" 3, .fld "own_events" "Run" 1, .fld "own_free" "Run" 3, .fld "own_lying" "Run" 5, .fld "own_marks" "Rules" 1, .fld "own_marks" "Reader" 1, .fld "own_mode" "Rules" 0, .fld "own_mode" "Reader" 0, .fld "own_opens" "Rules" 2, .fld "own_opens" "Reader" 2, .fld "own_reader" "Run" 0, .fld "own_state" "Run" 2, .fld "own_told" "Run" 6, .fld "own_way" "Run" 4, .meth "Reader" "run", .meth "Run" "after", .meth "Run" "through", .mk "Reader", .mk "Rules", .mk "Run", .ci "Reader", .ci "Rules", .ci "Run", .kit (.ty "int") (.ty "int") true, .kit (.ty "int") (.ty "bool") false, .kit (.ty "str") (.ty "str") true, .kit (.ty "tuple") (.ty "tuple") true, .kit (.ty "dict") (.ty "dict") true, .kit (.ty "str") (.cl "Rules") false, .kit (.cl "Rules") (.cl "Rules") true, .kit (.cl "Run") (.cl "Run") true, .kit (.cl "Reader") (.cl "Reader") true, .dis "Rules" "Reader", .dis "Rules" "Run", .dis "Reader" "Run"]
def fy : List DL.Fy := [.prop "Reader" "mode", .prop "Run" "free", .prop "Run" "is_done", .prop "Run" "lying", .prop "Run" "reader", .prop "Run" "state", .prop "Run" "told", .prop "Run" "way"]
def exB (K : PySem.W.Frag) : Bool := (fx.all fun f => f.ok K) && ((fy.all fun f => f.ok K) && gn.all fun d => DL.gtOk K d)
end LK
set_option Elab.async false
set_option linter.all false
set_option maxRecDepth 100000
set_option maxHeartbeats 0
namespace LK
open PySem PySem.Spec PyProof.Rows L2 DL
def loose0 : List PySem.Str := ["_wall", "AskError", "InvalidDocument", "InvalidReader", "InvalidOperation", "InvalidNumber", "MAX_LETTERS", "MAX_COLOUR", "MODES", "LATE", "NAMED", "is_ascending", "is_index", "is_name", "is_dotted", "is_colour", "is_mode", "require_mode", "MAX_NODES", "OPEN", "CLOSE", "Nodes", "is_node", "are_depths", "checked", "checked_documents", "ways_in", "closings_in", "close_of", "events_in"]
def loose1 : List PySem.Str := ["is_event", "Document", "require_document", "require_node", "MAX_READER", "MAX_MARKS", "MAX_READ", "Rules", "is_marks", "is_open_rule", "is_close_key", "is_close_rule", "are_opens", "are_closes", "checked_readers", "Reader", "every_mark", "opened", "closed", "can_come", "told_by", "Run", "run_behind", "_law_dice", "_law_roll", "_law_one_of", "_law_mixed", "_law_labels", "_law_close", "_law_reader"]
def loose2 : List PySem.Str := ["_law_made_reader", "_law_some_mode", "_law_further", "_law_standing", "_law_all_runs", "_law_next_right", "_law_right"]
def loose : List PySem.Str := loose0 ++ loose1 ++ loose2
/-- the written part without its lists: the script is none of it -/
def isL (o : Obj) : Bool := match o.cls with
  | .type c => decide (c = "list")
  | _ => false
def frL (g : Addr → Option Obj) (as : List Addr) : PySem.W.Frag := (He.frG g as).filter fun q => !isL q.2
theorem frL_at {g : Addr → Option Obj} {as : List Addr} {a : Addr} {o : Obj} (h : (frL g as).lookup a = some o) : g a = some o ∧ isL o = false := by
  obtain ⟨h1, h2⟩ := List.mem_filter.mp (He.lookup_mem h)
  refine ⟨He.frG_mem h1, ?_⟩
  cases q : isL o with
  | false => rfl
  | true =>
    have h3 : (!isL o) = true := h2
    rw [q] at h3
    cases h3
structure SaysK (K : PySem.W.Frag) : Prop where
  d : He.SaysD fa fn K
  e : exB K = true
  n : ∀ a o, K.lookup a = some o → isL o = false
  w : gn.map (DL.gtW K) = gn.map He.DefD.val
def obsK (g : Addr → Option Obj) : He.AlD × List He.FnW × Bool := (He.obsD fa fn (frL g (asK g 6)), gn.map (DL.gtW (frL g (asK g 6))), exB (frL g (asK g 6)))
def hookK : PySem.W.Hook where
  α := He.AlD × List He.FnW × Bool
  obs := fun s => obsK s.heap.get?
  val := fun _ => (He.valD fn, gn.map He.DefD.val, true)
  says := fun _ h => ∃ K : PySem.W.Frag, K.In h ∧ SaysK K
  of := fun _ s e => ⟨frL s.heap.get? (asK s.heap.get? 6), fun _ _ q => (frL_at q).1, congrArg (fun z : He.AlD × List He.FnW × Bool => z.1) e, congrArg (fun z : He.AlD × List He.FnW × Bool => z.2.2) e, fun _ _ q => (frL_at q).2, congrArg (fun z : He.AlD × List He.FnW × Bool => z.2.1) e⟩
  keeps := fun _ _ _ ⟨K, i, c⟩ k => ⟨K, PySem.W.Frag.In.keeps i k, c⟩
abbrev RwL : PySem.W.OpenRow := PySem.W.OpenLaw.row PySem.Challenge.rw_depthmarks_k34_whole_equal_standings_go
def obK (s : PySem.W.SharedT) : He.AlD × List He.FnW × Bool := obsK (HandSHeadRun.getT s)
theorem obK_eq (s : PySem.W.SharedT) : obK s = hookK.obs s.abs := by
  have e : HandSHeadRun.getT s = s.abs.heap.get? := funext (HandSHeadRun.getT_eq s)
  show obsK (HandSHeadRun.getT s) = obsK s.abs.heap.get?
  rw [e]
section
open PySem PySem.W PySem.Calls PyProof.Rows HandSHeadRun
@[reducible] noncomputable def endK (w : World) (os : OsState) : Option PySem.W.SharedT := HandSHeadRun.endF (HandSHeadRun.stepQ (HandSHeadRun.denQ HandSHeadRun.tabQ) RwL.prog w) 7000 RwL.prog w os
abbrev frK (s : PySem.W.SharedT) : PySem.W.Frag := frL (HandSHeadRun.getT s) (asK (HandSHeadRun.getT s) 6)
abbrev qK : Program := PySem.W.view RwL.prog [73]
theorem rnA (w : World) (os : OsState) : (endK w os).map (fun s => (looksF RwL.prog (boot_heap w.params) s.abs, seenQ qK loose (importedModules RwL.prog.main.body) (fun s => xlAt qK [] s && recOk RwL.toRowW.records s) s.abs)) = some (true, openGood qK loose) := by kernel_rfl
theorem rnB (w : World) (os : OsState) : (endK w os).map (fun s => (fa.all fun f => f.ok (frK s)) && fn.all fun d => d.ok (frK s)) = some true := by kernel_rfl
theorem rnC (w : World) (os : OsState) : (endK w os).map (fun s => fn.map fun d => He.fnW (frK s) d.at_) = some (fn.map He.DefD.val) := by kernel_rfl
theorem rnD (w : World) (os : OsState) : (endK w os).map (fun s => exB (frK s)) = some true := by kernel_rfl
theorem rnE (w : World) (os : OsState) : (endK w os).map (fun s => gn.map fun d => DL.gtW (frK s) d) = some (gn.map He.DefD.val) := by kernel_rfl
end
theorem runK (w : World) : HandSHeadRun.RunEq RwL qK hookK obK 7000 loose w := by
  intro os
  have a := rnA w os
  have b := rnB w os
  have c := rnC w os
  have d := rnD w os
  have e := rnE w os
  show (endK w os).map _ = _
  generalize endK w os = o at a b c d e ⊢
  cases o with
  | none => cases a
  | some s =>
    have a := Option.some.inj a
    have b := Option.some.inj b
    have c := Option.some.inj c
    have d := Option.some.inj d
    have e := Option.some.inj e
    exact congrArg some (congr (congrArg Prod.mk (Prod.mk.inj a).1) (congr (congrArg Prod.mk (Prod.mk.inj a).2) (congr (congrArg Prod.mk (congr (congrArg Prod.mk b) c)) (congr (congrArg Prod.mk e) d))))
end LK
set_option Elab.async false
set_option linter.all false
set_option maxRecDepth 100000
set_option maxHeartbeats 1000000
/-! DL1: values as trees, the frame, readings over trees that refine the readings of the hand layer -/
namespace DL
open PySem PySem.Spec PyProof.Rows L2
variable [FldTab]
/-- the model's text, world and written part -/
structure Kx where
  P : Program
  w : World
  K : PySem.W.Frag
abbrev kx (X : Cx) : Kx := ⟨X.prog, X.w, X.K⟩
/-- what has an address and may be changed -/
inductive DO where
  | lst (ds : List D) | dic (ks vs : List D) | ins (C : Addr) (vs : List D) | rol (ds : List D)
abbrev DH := Addr → Option DO
def up (h : DH) (a : Addr) (o : DO) : DH := fun b => if b = a then some o else h b
def del (h : DH) (a : Addr) : DH := fun b => if b = a then none else h b
theorem up_same {h : DH} {a : Addr} {o : DO} : up h a o a = some o := by unfold up; rw [if_pos rfl]
theorem up_ne {h : DH} {a b : Addr} {o : DO} (e : b ≠ a) : up h a o b = h b := by unfold up; rw [if_neg e]
theorem up_up {h : DH} {a : Addr} {o u : DO} : up (up h a o) a u = up h a u := by funext b; unfold up; split <;> rfl
theorem del_same {h : DH} {a : Addr} : del h a a = none := by unfold del; rw [if_pos rfl]
theorem del_ne {h : DH} {a b : Addr} (e : b ≠ a) : del h a b = h b := by unfold del; rw [if_neg e]
theorem del_up {h : DH} {a : Addr} {o : DO} (e : h a = none) : del (up h a o) a = h := by
  funext b; unfold del up; split
  · rename_i q; rw [q, e]
  · rfl
theorem up_comm {h : DH} {a b : Addr} {o u : DO} (e : a ≠ b) : up (up h a o) b u = up (up h b u) a o := by
  funext c; unfold up; split
  · rename_i q; subst q; rw [if_neg (Ne.symm e)]
  · rfl
theorem del_up_ne {h : DH} {a b : Addr} {o : DO} (e : a ≠ b) : del (up h a o) b = up (del h b) a o := by
  funext c; unfold up del; split
  · rename_i q; subst q; rw [if_neg (Ne.symm e)]
  · rfl
theorem up_self {h : DH} {a : Addr} {o : DO} (e : h a = some o) : up h a o = h := by
  funext b; unfold up; split
  · rename_i q; rw [q, e]
  · rfl
/-- a key of an int, a text -/
def keyD : Key → D
  | .inl i => .int i
  | .inr x => .str x
mutual
/-- a tree as a nested key -/
def nk : D → NestedKey
  | .bl b => .num (if b = true then 1 else 0)
  | .int i => .num i
  | .str x => .text x
  | .tup ds => .tup (nkL ds)
  | _ => .none
def nkL : List D → List NestedKey
  | [] => []
  | d :: ds => nk d :: nkL ds
end
mutual
def isNk : D → Bool
  | .non => true
  | .bl _ => true
  | .int _ => true
  | .str _ => true
  | .tup ds => isNkL ds
  | _ => false
def isNkL : List D → Bool
  | [] => true
  | d :: ds => isNk d && isNkL ds
end
/-- a tuple key -/
def isTk (d : D) : Bool := (match d with | .tup _ => isNk d | _ => false) && decide ((nk d).depth ≤ 8)
/-- a key that is an int or a text -/
def isSk : D → Bool
  | .int _ => true
  | .str _ => true
  | _ => false
/-- the entries of a dict's table: its keys as trees, as values, its values -/
def EntL (w : World) : List D → List V → List V → List DictEntry → Prop
  | [], us, vs, es => us = [] ∧ vs = [] ∧ es = []
  | k :: ks, us, vs, es => ∃ u ur v vr e er, us = u :: ur ∧ vs = v :: vr ∧ es = e :: er ∧ e.hash = (nk k).hash w ∧ RelV u e.key ∧ RelV v e.val ∧ EntL w ks ur vr er
/-- what a dict's object holds -/
structure DicO (w : World) (o : Obj) (ks : List D) (us vs : List V) : Prop where
  cls : o.ExactDict
  ent : ∃ es ep, o.data = .dict es ep ∧ EntL w ks us vs es.toList
  nd : (ks.map nk).Nodup
  sz : ks.length ≤ sizeLine
  kk : ks.all isSk = true ∨ ks.all isTk = true
/-- a dict's object alone -/
abbrev ObX (a : Addr) (o : Obj) : HO := .ext fun h => h.get? a = some o
/-- a dict stands at a -/
def DicAt (Z : Kx) (H : Hp) (a : Addr) (ks : List D) (us vs : List V) : Prop := (a == sysModules) = false ∧ ∃ o, H a = some (ObX a o) ∧ DicO Z.w o ks us vs
/-- a tuple, a list of the written part -/
def KTup (K : PySem.W.Frag) (a : Addr) (xs : List V) : Prop := ∃ (o : Obj) (its : Array Value) (n : Nat), K.lookup a = some o ∧ o.cls = .type "tuple" ∧ o.data = .seq its n ∧ its.size ≤ sizeLine ∧ Vals xs its.toList
def TupAt (K : PySem.W.Frag) (h : DH) (H : Hp) (a : Addr) (xs : List V) : Prop := (h a = none ∧ Rd H a (.tup xs)) ∨ KTup K a xs
def LstAt (h : DH) (H : Hp) (a : Addr) (xs : List V) : Prop := h a = none ∧ H a = some (.lst xs)
/-- an instance of C with its fields' values -/
def InsAt (Z : Kx) (h : DH) (H : Hp) (a C : Addr) (vs : List V) : Prop :=
  if FldTab.sl Z.K C = true then ∃ dx us, h dx = none ∧ SlAt H a C dx us ∧ ∀ (i : Nat) (v : V), vs[i]? = some v → ∃ j, (FldTab.pl Z.K C)[i]? = some j ∧ us[j]? = some (some v) else ∃ dx, H a = some (.ins C dx ((FldTab.F Z.K C).zip vs)) ∧ vs.length ≤ (FldTab.F Z.K C).length
mutual
/-- the tree d stands at the value v; all its objects are out of reach of a change (not in h) -/
def Rep (Z : Kx) (h : DH) (H : Hp) : D → V → Prop
  | .non, v => v = .non
  | .bl b, v => v = .bl b
  | .int i, v => v = .int i
  | .str x, v => v = .str x
  | .ty n, v => v = .ty n
  | .ref a, v => v = .ref a
  | .tup ds, v => ∃ a vs, v = .ref a ∧ TupAt Z.K h H a vs ∧ RepL Z h H ds vs
  | .lv ds, v => ∃ a vs, v = .ref a ∧ LstAt h H a vs ∧ RepL Z h H ds vs
  | .dv ks ds, v => ∃ a us vs, v = .ref a ∧ h a = none ∧ DicAt Z H a ks us vs ∧ RepL Z h H ks us ∧ RepL Z h H ds vs
  | .iv C ds, v => ∃ a vs, v = .ref a ∧ h a = none ∧ InsAt Z h H a C vs ∧ RepL Z h H ds vs
def RepL (Z : Kx) (h : DH) (H : Hp) : List D → List V → Prop
  | [], vs => vs = []
  | d :: ds, vs => ∃ v r, vs = v :: r ∧ Rep Z h H d v ∧ RepL Z h H ds r
end
/-- an object that may be changed -/
def RepO (Z : Kx) (h : DH) (H : Hp) (a : Addr) : DO → Prop
  | .lst ds => ∃ vs, H a = some (.lst vs) ∧ RepL Z h H ds vs
  | .dic ks ds => ∃ us vs, DicAt Z H a ks us vs ∧ RepL Z h H ks us ∧ RepL Z h H ds vs
  | .ins C ds => ∃ vs, InsAt Z h H a C vs ∧ RepL Z h H ds vs
  | .rol ds => ∃ o vs, H a = some (.frz o (.lst vs)) ∧ RepL Z h H ds vs
def RH (Z : Kx) (h : DH) (H : Hp) : Prop := ∀ a o, h a = some o → (∃ x, H a = some x) ∧ RepO Z h H a o
/-- the frame: what is tracked and out of reach stays so -/
def Fr (h : DH) (H : Hp) (h' : DH) (H' : Hp) : Prop := ∀ a o, H a = some o → h a = none → H' a = some o ∧ h' a = none
theorem Fr.refl {h H} : Fr h H h H := fun _ _ e q => ⟨e, q⟩
theorem Fr.trans {h H h1 H1 h2 H2} (a : Fr h H h1 H1) (b : Fr h1 H1 h2 H2) : Fr h H h2 H2 := fun c o e q => let ⟨e1, q1⟩ := a c o e q; b c o e1 q1
section
variable {Z : Kx} {h h' : DH} {H H' : Hp}
theorem RepL.length : ∀ {ds : List D} {vs : List V}, RepL Z h H ds vs → ds.length = vs.length
  | [], _, r => by have e : _ = [] := r; subst e; rfl
  | _ :: _, _, r => by
    obtain ⟨v, r, rfl, _, t⟩ := r
    exact congrArg Nat.succ (RepL.length t)
theorem RepL.get : ∀ {ds : List D} {vs : List V} {i : Nat} {d : D}, RepL Z h H ds vs → ds[i]? = some d → ∃ v, vs[i]? = some v ∧ Rep Z h H d v
  | [], _, _, _, _, e => by simp at e
  | _ :: _, _, 0, _, r, e => by
    obtain ⟨v, r, rfl, q, t⟩ := r
    simp at e; subst e
    exact ⟨v, rfl, q⟩
  | _ :: ds, _, i + 1, d, r, e => by
    obtain ⟨v, r, rfl, q, t⟩ := r
    obtain ⟨u, h1, h2⟩ := RepL.get (i := i) (d := d) t (by simpa using e)
    exact ⟨u, by simpa using h1, h2⟩
theorem RepL.append : ∀ {ds es : List D} {vs us : List V}, RepL Z h H ds vs → RepL Z h H es us → RepL Z h H (ds ++ es) (vs ++ us)
  | [], _, _, _, r, s => by have e : _ = [] := r; subst e; exact s
  | _ :: _, _, _, _, r, s => by
    obtain ⟨v, r, rfl, q, t⟩ := r
    exact ⟨v, _, rfl, q, RepL.append t s⟩
theorem RepL.one {d : D} {v : V} (r : Rep Z h H d v) : RepL Z h H [d] [v] := ⟨v, [], rfl, r, rfl⟩
theorem RepL.split : ∀ {ds es : List D} {vs : List V}, RepL Z h H (ds ++ es) vs → ∃ v1 v2, vs = v1 ++ v2 ∧ RepL Z h H ds v1 ∧ RepL Z h H es v2
  | [], _, vs, r => ⟨[], vs, rfl, rfl, r⟩
  | _ :: _, _, _, r => by
    obtain ⟨v, r, rfl, q, t⟩ := r
    obtain ⟨v1, v2, rfl, a, b⟩ := RepL.split t
    exact ⟨v :: v1, v2, rfl, ⟨v, v1, rfl, q, a⟩, b⟩
theorem RepL.take : ∀ {ds : List D} {vs : List V} (n : Nat), RepL Z h H ds vs → RepL Z h H (ds.take n) (vs.take n)
  | [], _, _, r => by have e : _ = [] := r; subst e; simp [RepL]
  | _ :: _, _, 0, _ => by simp [RepL]
  | _ :: _, _, n + 1, r => by
    obtain ⟨v, r, rfl, q, t⟩ := r
    exact ⟨v, _, rfl, q, RepL.take n t⟩
theorem RepL.drop : ∀ {ds : List D} {vs : List V} (n : Nat), RepL Z h H ds vs → RepL Z h H (ds.drop n) (vs.drop n)
  | [], _, _, r => by have e : _ = [] := r; subst e; simp [RepL]
  | _ :: _, _, 0, r => r
  | _ :: _, _, n + 1, r => by
    obtain ⟨v, r, rfl, q, t⟩ := r
    exact RepL.drop n t
theorem RepL.reverse : ∀ {ds : List D} {vs : List V}, RepL Z h H ds vs → RepL Z h H ds.reverse vs.reverse
  | [], _, r => by have e : _ = [] := r; subst e; exact r
  | _ :: _, _, r => by
    obtain ⟨v, r, rfl, q, t⟩ := r
    rw [List.reverse_cons, List.reverse_cons]
    exact (RepL.reverse t).append (.one q)
theorem RepL.set {d : D} {v : V} (q : Rep Z h H d v) : ∀ {ds : List D} {vs : List V} (i : Nat), RepL Z h H ds vs → RepL Z h H (ds.set i d) (vs.set i v)
  | [], _, _, r => by have e : _ = [] := r; subst e; exact r
  | _ :: _, _, 0, r => by
    obtain ⟨v, r, rfl, _, t⟩ := r
    exact ⟨_, _, rfl, q, t⟩
  | _ :: _, _, i + 1, r => by
    obtain ⟨v, r, rfl, q', t⟩ := r
    exact ⟨_, _, rfl, q', RepL.set q i t⟩
theorem TupAt.sq {K : PySem.W.Frag} {a : Addr} {xs : List V} (q : TupAt K h H a xs) : SqT K H a xs := q.elim (fun z => .inl z.2) .inr
theorem LstAt.sq {K : PySem.W.Frag} {a : Addr} {xs : List V} (q : LstAt h H a xs) : SqL K H a xs := SqL.of q.2
theorem TupAt.fr {K : PySem.W.Frag} {a : Addr} {xs : List V} (f : Fr h H h' H') (q : TupAt K h H a xs) : TupAt K h' H' a xs := by
  rcases q with ⟨n, q | ⟨o, q⟩⟩ | q
  · exact .inl ⟨(f a _ q n).2, .inl (f a _ q n).1⟩
  · exact .inl ⟨(f a _ q n).2, .inr ⟨o, (f a _ q n).1⟩⟩
  · exact .inr q
theorem LstAt.fr {a : Addr} {xs : List V} (f : Fr h H h' H') (q : LstAt h H a xs) : LstAt h' H' a xs := by
  obtain ⟨n, q⟩ := q
  exact ⟨(f a _ q n).2, (f a _ q n).1⟩
theorem DicAt.track {a : Addr} {ks : List D} {us vs : List V} (q : DicAt Z H a ks us vs) : ∃ x, H a = some x := let ⟨_, o, e, _⟩ := q; ⟨_, e⟩
theorem DicAt.at {a : Addr} {ks : List D} {us vs : List V} (e : H' a = H a) (q : DicAt Z H a ks us vs) : DicAt Z H' a ks us vs := let ⟨n, o, x, r⟩ := q; ⟨n, o, e.trans x, r⟩
theorem InsAt.track {a C : Addr} {vs : List V} (q : InsAt Z h H a C vs) : ∃ x, H a = some x := by
  unfold InsAt at q
  split at q
  · obtain ⟨dx, us, _, ⟨_, _, q | ⟨_, q⟩⟩, _⟩ := q <;> exact ⟨_, q⟩
  · obtain ⟨dx, q, _⟩ := q; exact ⟨_, q⟩
theorem InsAt.fr {a C : Addr} {vs : List V} (f : Fr h H h' H') (e : H' a = H a) (q : InsAt Z h H a C vs) : InsAt Z h' H' a C vs := by
  unfold InsAt at q ⊢
  split at q
  · rename_i hs
    rw [if_pos hs]
    obtain ⟨dx, us, n, t, tv⟩ := q
    exact ⟨dx, us, (f dx _ t.1 n).2, ⟨(f dx _ t.1 n).1, t.2.1, by rw [e]; exact t.2.2⟩, tv⟩
  · rename_i hs
    rw [if_neg hs]
    obtain ⟨dx, q, l⟩ := q
    exact ⟨dx, e.trans q, l⟩
mutual
theorem Rep.fr (f : Fr h H h' H') : ∀ (d : D) (v : V), Rep Z h H d v → Rep Z h' H' d v
  | .non, _, r => r
  | .bl _, _, r => r
  | .int _, _, r => r
  | .str _, _, r => r
  | .ty _, _, r => r
  | .ref _, _, r => r
  | .tup ds, _, r => by
    obtain ⟨a, vs, e, t, r⟩ := r
    exact ⟨a, vs, e, t.fr f, RepL.fr f ds vs r⟩
  | .lv ds, _, r => by
    obtain ⟨a, vs, e, t, r⟩ := r
    exact ⟨a, vs, e, t.fr f, RepL.fr f ds vs r⟩
  | .dv ks ds, _, r => by
    obtain ⟨a, us, vs, e, n, t, r1, r2⟩ := r
    obtain ⟨x, ex⟩ := t.track
    exact ⟨a, us, vs, e, (f a x ex n).2, t.at ((f a x ex n).1.trans ex.symm), RepL.fr f ks us r1, RepL.fr f ds vs r2⟩
  | .iv C ds, _, r => by
    obtain ⟨a, vs, e, n, t, r⟩ := r
    obtain ⟨x, ex⟩ := t.track
    exact ⟨a, vs, e, (f a x ex n).2, t.fr f ((f a x ex n).1.trans ex.symm), RepL.fr f ds vs r⟩
theorem RepL.fr (f : Fr h H h' H') : ∀ (ds : List D) (vs : List V), RepL Z h H ds vs → RepL Z h' H' ds vs
  | [], _, r => r
  | d :: ds, _, r => by
    obtain ⟨v, u, e, q, t⟩ := r
    exact ⟨v, u, e, Rep.fr f d v q, RepL.fr f ds u t⟩
end
theorem RepO.fr {a : Addr} {o : DO} (f : Fr h H h' H') (e : H' a = H a) (r : RepO Z h H a o) : RepO Z h' H' a o := by
  cases o with
  | lst ds => obtain ⟨vs, q, r⟩ := r; exact ⟨vs, e.trans q, RepL.fr f _ _ r⟩
  | dic ks ds => obtain ⟨us, vs, q, r1, r2⟩ := r; exact ⟨us, vs, q.at e, RepL.fr f _ _ r1, RepL.fr f _ _ r2⟩
  | ins C ds => obtain ⟨vs, q, r⟩ := r; exact ⟨vs, q.fr f e, RepL.fr f _ _ r⟩
  | rol ds => obtain ⟨o, vs, q, r⟩ := r; exact ⟨o, vs, e.trans q, RepL.fr f _ _ r⟩
theorem RH.free {a : Addr} (R : RH Z h H) (e : H a = none) : h a = none := by
  cases q : h a with
  | none => rfl
  | some o => obtain ⟨⟨x, y⟩, _⟩ := R a o q; rw [e] at y; cases y
/-- a new object that is out of reach -/
theorem Fr.hid {p : Addr} {o : HO} (n : H p = none) (R : RH Z h H) : Fr h H h (upd H p o) := fun a x e q => ⟨by rw [upd_ne (ne_of_none e n)]; exact e, q⟩
theorem RH.hid {p : Addr} {o : HO} (n : H p = none) (R : RH Z h H) : RH Z h (upd H p o) := fun a x e => by
  obtain ⟨⟨y, ey⟩, r⟩ := R a x e
  have ne : a ≠ p := ne_of_none ey n
  exact ⟨⟨y, by rw [upd_ne ne]; exact ey⟩, r.fr (Fr.hid n R) (upd_ne ne)⟩
/-- a new object in reach -/
theorem Fr.new {p : Addr} {o : HO} {O : DO} (n : H p = none) (R : RH Z h H) : Fr h H (up h p O) (upd H p o) := fun a x e q => by
  have ne : a ≠ p := ne_of_none e n
  exact ⟨by rw [upd_ne ne]; exact e, by rw [up_ne ne]; exact q⟩
theorem RH.new {p : Addr} {o : HO} {O : DO} (n : H p = none) (R : RH Z h H) (r : RepO Z (up h p O) (upd H p o) p O) : RH Z (up h p O) (upd H p o) := fun a x e => by
  by_cases ne : a = p
  · subst ne
    rw [up_same] at e; cases e
    exact ⟨⟨o, upd_same⟩, r⟩
  · rw [up_ne ne] at e
    obtain ⟨⟨y, ey⟩, q⟩ := R a x e
    exact ⟨⟨y, by rw [upd_ne ne]; exact ey⟩, q.fr (Fr.new n R) (upd_ne ne)⟩
/-- an object in reach is written -/
theorem Fr.write {p : Addr} {o : HO} {O U : DO} (n : h p = some U) : Fr h H (up h p O) (upd H p o) := fun a x e q => by
  have ne : a ≠ p := fun z => by rw [z, n] at q; cases q
  exact ⟨by rw [upd_ne ne]; exact e, by rw [up_ne ne]; exact q⟩
theorem RH.write {p : Addr} {o : HO} {O U : DO} (n : h p = some U) (R : RH Z h H) (r : RepO Z (up h p O) (upd H p o) p O) : RH Z (up h p O) (upd H p o) := fun a x e => by
  by_cases ne : a = p
  · subst ne
    rw [up_same] at e; cases e
    exact ⟨⟨o, upd_same⟩, r⟩
  · rw [up_ne ne] at e
    obtain ⟨⟨y, ey⟩, q⟩ := R a x e
    exact ⟨⟨y, by rw [upd_ne ne]; exact ey⟩, q.fr (Fr.write n) (upd_ne ne)⟩
/-- an object goes out of reach -/
theorem Fr.del {p : Addr} : Fr h H (del h p) H := fun a x e q => ⟨e, by unfold DL.del; split <;> first | rfl | exact q⟩
theorem RH.del {p : Addr} (R : RH Z h H) : RH Z (del h p) H := fun a x e => by
  have ne : a ≠ p := fun z => by rw [z, del_same] at e; cases e
  rw [del_ne ne] at e
  obtain ⟨y, q⟩ := R a x e
  exact ⟨y, q.fr Fr.del rfl⟩
/-- .. and is written for the last time -/
theorem Fr.delW {p : Addr} {o : HO} {U : DO} (n : h p = some U) : Fr h H (DL.del h p) (upd H p o) := fun a x e q => by
  have ne : a ≠ p := fun z => by rw [z, n] at q; cases q
  exact ⟨by rw [upd_ne ne]; exact e, by rw [del_ne ne]; exact q⟩
theorem RH.delW {p : Addr} {o : HO} {U : DO} (n : h p = some U) (R : RH Z h H) : RH Z (DL.del h p) (upd H p o) := fun a x e => by
  have ne : a ≠ p := fun z => by rw [z, del_same] at e; cases e
  rw [del_ne ne] at e
  obtain ⟨⟨y, ey⟩, q⟩ := R a x e
  exact ⟨⟨y, by rw [upd_ne ne]; exact ey⟩, q.fr (Fr.delW n) (upd_ne ne)⟩
end
/-! ### slots -/
abbrev SD := List (Option D)
def RepS (Z : Kx) (h : DH) (H : Hp) (sd : SD) (σ : L2.St) : Prop := sd.length = σ.length ∧ ∀ (i : Nat) (d : D), sd[i]? = some (some d) → ∃ v, σ[i]? = some (some v) ∧ Rep Z h H d v
section
variable {Z : Kx} {h h' : DH} {H H' : Hp} {sd : SD} {σ : L2.St}
theorem RepS.fr (f : Fr h H h' H') (r : RepS Z h H sd σ) : RepS Z h' H' sd σ := ⟨r.1, fun i d e => let ⟨v, q, t⟩ := r.2 i d e; ⟨v, q, Rep.fr f d v t⟩⟩
theorem RepS.set {i : Nat} {d : D} {v : V} (r : RepS Z h H sd σ) (q : Rep Z h H d v) : RepS Z h H (sd.set i (some d)) (σ.set i (some v)) := by
  refine ⟨by rw [List.length_set, List.length_set]; exact r.1, fun j e hj => ?_⟩
  by_cases hij : i = j
  · subst hij
    by_cases hi : i < sd.length
    · rw [List.getElem?_set_self hi] at hj
      cases hj
      exact ⟨v, by rw [List.getElem?_set_self (by rw [← r.1]; exact hi)], q⟩
    · rw [List.getElem?_eq_none (by rw [List.length_set]; omega)] at hj; cases hj
  · rw [List.getElem?_set_ne hij] at hj
    obtain ⟨u, h1, h2⟩ := r.2 j e hj
    exact ⟨u, by rw [List.getElem?_set_ne hij]; exact h1, h2⟩
/-- the slots of a block's own names forgotten -/
def wipeD (sd : SD) : List Nat → SD
  | [] => sd
  | v :: vs => (wipeD sd vs).set v none
theorem RepS.wipe (r : RepS Z h H sd σ) : ∀ vs : List Nat, RepS Z h H (wipeD sd vs) (wipe σ vs)
  | [] => r
  | v :: vs => by
    have ih := RepS.wipe r vs
    refine ⟨by unfold wipeD L2.wipe; rw [List.length_set, List.length_set]; exact ih.1, fun j e hj => ?_⟩
    unfold wipeD at hj
    by_cases hij : v = j
    · subst hij
      by_cases hi : v < (wipeD sd vs).length
      · rw [List.getElem?_set_self hi] at hj; cases hj
      · rw [List.getElem?_eq_none (by rw [List.length_set]; omega)] at hj; cases hj
    · rw [List.getElem?_set_ne hij] at hj
      obtain ⟨u, h1, h2⟩ := ih.2 j e hj
      exact ⟨u, by unfold L2.wipe; rw [List.getElem?_set_ne hij]; exact h1, h2⟩
end
/-! ### readings over trees -/
abbrev TED := SD → DH → (D → DH → Prop) → Prop
abbrev TTD := SD → DH → (Bool → DH → Prop) → Prop
abbrev TAD := SD → DH → (List D → DH → Prop) → Prop
structure EndsD where
  nx : SD → DH → Prop
  rt : D → DH → Prop
  bk : SD → DH → Prop := fun _ _ => False
  ct : SD → DH → Prop := fun _ _ => False
abbrev TSD := EndsD → SD → DH → Prop
abbrev TGD := D → SD → DH → (SD → DH → Prop) → Prop
abbrev TGsD := List D → SD → DH → (SD → DH → Prop) → Prop
/-- what is wanted of a value over the model's heap, by what is wanted over trees -/
def WV (Z : Kx) (h : DH) (H : Hp) (Qd : D → DH → Prop) (Q : VK) : Prop := ∀ v H' d h', Fr h H h' H' → RH Z h' H' → Rep Z h' H' d v → Qd d h' → Q v H'
def WB (Z : Kx) (h : DH) (H : Hp) (Qd : Bool → DH → Prop) (Q : Bool → Hp → Prop) : Prop := ∀ b H' h', Fr h H h' H' → RH Z h' H' → Qd b h' → Q b H'
def WA (Z : Kx) (h : DH) (H : Hp) (Qd : List D → DH → Prop) (Q : List V → Hp → Prop) : Prop := ∀ vs H' ds h', Fr h H h' H' → RH Z h' H' → RepL Z h' H' ds vs → Qd ds h' → Q vs H'
def WS (Z : Kx) (h : DH) (H : Hp) (Qd : SD → DH → Prop) (Q : L2.St → Hp → Prop) : Prop := ∀ σ H' sd h', Fr h H h' H' → RH Z h' H' → RepS Z h' H' sd σ → Qd sd h' → Q σ H'
structure WE (Z : Kx) (h : DH) (H : Hp) (Dd : EndsD) (D : Ends) : Prop where
  nx : WS Z h H Dd.nx D.nx
  rt : WV Z h H Dd.rt D.rt
  bk : WS Z h H Dd.bk D.bk
  ct : WS Z h H Dd.ct D.ct
section
variable {Z : Kx} {h h1 : DH} {H H1 : Hp}
theorem WV.fr {Qd Q} (w : WV Z h H Qd Q) (f : Fr h H h1 H1) : WV Z h1 H1 Qd Q := fun v H' d h' f' => w v H' d h' (f.trans f')
theorem WB.fr {Qd Q} (w : WB Z h H Qd Q) (f : Fr h H h1 H1) : WB Z h1 H1 Qd Q := fun v H' h' f' => w v H' h' (f.trans f')
theorem WA.fr {Qd Q} (w : WA Z h H Qd Q) (f : Fr h H h1 H1) : WA Z h1 H1 Qd Q := fun v H' d h' f' => w v H' d h' (f.trans f')
theorem WS.fr {Qd Q} (w : WS Z h H Qd Q) (f : Fr h H h1 H1) : WS Z h1 H1 Qd Q := fun v H' d h' f' => w v H' d h' (f.trans f')
theorem WE.fr {Dd D} (w : WE Z h H Dd D) (f : Fr h H h1 H1) : WE Z h1 H1 Dd D := ⟨w.nx.fr f, w.rt.fr f, w.bk.fr f, w.ct.fr f⟩
end
def RE (Z : Kx) (t : TE) (td : TED) : Prop := ∀ σ H sd h Qd Q, RepS Z h H sd σ → RH Z h H → td sd h Qd → WV Z h H Qd Q → t σ H Q
def RT (Z : Kx) (t : TT) (td : TTD) : Prop := ∀ σ H sd h Qd Q, RepS Z h H sd σ → RH Z h H → td sd h Qd → WB Z h H Qd Q → t σ H Q
def RA (Z : Kx) (t : TA) (td : TAD) : Prop := ∀ σ H sd h Qd Q, RepS Z h H sd σ → RH Z h H → td sd h Qd → WA Z h H Qd Q → t σ H Q
def RS (Z : Kx) (t : TS) (td : TSD) : Prop := ∀ σ H sd h Dd D, RepS Z h H sd σ → RH Z h H → td Dd sd h → WE Z h H Dd D → t D σ H
def RG (Z : Kx) (t : TG) (td : TGD) : Prop := ∀ v d σ H sd h Qd Q, Rep Z h H d v → RepS Z h H sd σ → RH Z h H → td d sd h Qd → WS Z h H Qd Q → t v σ H Q
def RGs (Z : Kx) (t : TGs) (td : TGsD) : Prop := ∀ vs ds σ H sd h Qd Q, RepL Z h H ds vs → RepS Z h H sd σ → RH Z h H → td ds sd h Qd → WS Z h H Qd Q → t vs σ H Q
structure ED (X : Cx) (e : Expr) (td : TED) : Prop where
  ex : ∃ t, PE X e t ∧ RE (kx X) t td
structure CD (X : Cx) (e : Expr) (td : TTD) : Prop where
  ex : ∃ t, PT X e t ∧ RT (kx X) t td
structure CWD (X : Cx) (e : Expr) (td : TTD) : Prop where
  ex : ∃ t, PW X e t ∧ RT (kx X) t td
structure AD (X : Cx) (es : List Expr) (td : TAD) : Prop where
  ex : ∃ t, PA X es t ∧ RA (kx X) t td
structure SDt (X : Cx) (st : Stmt) (td : TSD) : Prop where
  ex : ∃ t, PS X st t ∧ RS (kx X) t td
structure SsD (X : Cx) (st : List Stmt) (td : TSD) : Prop where
  ex : ∃ t, PSs X st t ∧ RS (kx X) t td
structure GD (X : Cx) (e : Expr) (td : TGD) : Prop where
  ex : ∃ t, PG X e t ∧ RG (kx X) t td
structure GsD (X : Cx) (es : List Expr) (td : TGsD) : Prop where
  ex : ∃ t, PGs X es t ∧ RGs (kx X) t td
end DL
set_option Elab.async false
set_option linter.all false
set_option maxRecDepth 100000
set_option maxHeartbeats 1000000
namespace DL
open PySem PySem.Spec PyProof.Rows L2
variable [FldTab]
/-- two ways on -/
abbrev bC (k : Bool) (a b : Prop) : Prop := (k = true → a) ∧ (k = false → b)
/-! ### more than one way to read -/
theorem PE.or {X : Cx} {e : Expr} {t u : TE} (a : PE X e t) (b : PE X e u) : PE X e (fun σ H Q => t σ H Q ∨ u σ H Q) :=
  ⟨fun pins s σ H Q I h => h.elim (a.run pins s σ H Q I) (b.run pins s σ H Q I)⟩
/-- an object that is not written any more from here on -/
def tFrz (t : TE) : TE := fun σ H Q => t σ H fun v H1 => ∃ d u, v = .ref d ∧ H1 d = some u ∧ Mut (some u) ∧ ∀ od, Q v (upd H1 d (.frz od u))
theorem pe_frz {X : Cx} {e : Expr} {t : TE} (h : PE X e t) : PE X e (tFrz t) := by
  refine ⟨fun pins s σ H Q I hw => thn (h.run pins s σ H _ I hw) fun v s1 ⟨x, H1, I1, r, d, u, e, hd, mu, q⟩ => ?_⟩
  obtain ⟨od, I2⟩ := I1.lock hd mu
  exact ⟨x, _, I2, r, q od⟩
/-! ### slots -/
def gs : SD → Nat → Option D
  | [], _ => none
  | o :: _, 0 => o
  | _ :: r, n + 1 => gs r n
theorem gs_eq : ∀ (sd : SD) (i : Nat) (d : D), gs sd i = some d → sd[i]? = some (some d)
  | [], _, _, e => by cases e
  | o :: _, 0, d, e => congrArg some (show o = some d from e)
  | _ :: r, n + 1, d, e => by simpa using gs_eq r n d e
def ss : SD → Nat → D → SD
  | [], _, _ => []
  | _ :: r, 0, d => some d :: r
  | o :: r, n + 1, d => o :: ss r n d
theorem ss_eq : ∀ (sd : SD) (i : Nat) (d : D), ss sd i d = sd.set i (some d)
  | [], _, _ => rfl
  | _ :: _, 0, _ => rfl
  | _ :: r, n + 1, d => by simp [ss, ss_eq r n d]
section
variable {X : Cx} {x : Str} {pos : Pos}
def rVar (i : Nat) : TED := fun sd h Q => match gs sd i with
  | some d => Q d h
  | none => False
theorem ed_var (i : Nat) (hN : X.N[i]? = some x := by rfl) (hv : Vis X.env.scope x := by first | exact Or.inl rfl | exact Or.inr (Or.inl rfl) | exact Or.inr (Or.inr rfl)) (hd : (x == ("__debug__" : Str)) = false := by decide) (hcd : (x == ("__classdict__" : Str)) = false := by decide) :
    ED X (.Name x pos) (rVar i) := by
  refine ⟨_, pe_var hN hv hd hcd, fun σ H sd h Qd Q rs R q w => ?_⟩
  unfold rVar at q
  cases e : gs sd i with
  | none => rw [e] at q; exact q.elim
  | some d =>
    rw [e] at q
    obtain ⟨v, e1, r⟩ := rs.2 i d (gs_eq sd i d e)
    exact ⟨v, e1, w v H d h Fr.refl R r q⟩
/-- a name whose object goes out of reach: from here on it is a tree -/
def rVarH (i : Nat) : TED := fun sd h Q => match gs sd i with
  | some (.ref p) => (∃ ds, h p = some (.lst ds) ∧ Q (.lv ds) (del h p)) ∨ (∃ ks vs, h p = some (.dic ks vs) ∧ Q (.dv ks vs) (del h p)) ∨ (∃ C vs, h p = some (.ins C vs) ∧ Q (.iv C vs) (del h p))
  | _ => False
theorem ed_varH (i : Nat) (hN : X.N[i]? = some x := by rfl) (hv : Vis X.env.scope x := by first | exact Or.inl rfl | exact Or.inr (Or.inl rfl) | exact Or.inr (Or.inr rfl)) (hd : (x == ("__debug__" : Str)) = false := by decide) (hcd : (x == ("__classdict__" : Str)) = false := by decide) :
    ED X (.Name x pos) (rVarH i) := by
  refine ⟨_, pe_var hN hv hd hcd, fun σ H sd h Qd Q rs R q w => ?_⟩
  unfold rVarH at q
  cases e : gs sd i with
  | none => rw [e] at q; exact q.elim
  | some d =>
    rw [e] at q
    obtain ⟨v, e1, r⟩ := rs.2 i d (gs_eq sd i d e)
    cases d with
    | ref p =>
      have ev : v = .ref p := r
      rcases q with ⟨ds, e2, q⟩ | ⟨ks, ds, e2, q⟩ | ⟨C, ds, e2, q⟩
      · obtain ⟨_, vs, q1, q2⟩ := R p _ e2
        exact ⟨v, e1, w v H (.lv ds) _ Fr.del R.del ⟨p, vs, ev, ⟨del_same, q1⟩, RepL.fr Fr.del _ _ q2⟩ q⟩
      · obtain ⟨_, us, vs, q1, q2, q3⟩ := R p _ e2
        exact ⟨v, e1, w v H (.dv ks ds) _ Fr.del R.del ⟨p, us, vs, ev, del_same, q1, RepL.fr Fr.del _ _ q2, RepL.fr Fr.del _ _ q3⟩ q⟩
      · obtain ⟨_, vs, q1, q2⟩ := R p _ e2
        exact ⟨v, e1, w v H (.iv C ds) _ Fr.del R.del ⟨p, vs, ev, del_same, q1.fr Fr.del rfl, RepL.fr Fr.del _ _ q2⟩ q⟩
    | _ => exact q.elim
/-! ### constants -/
def rC (d : D) : TED := fun _ h Q => Q d h
theorem rC_ref {Z : Kx} {v : V} {d : D} (hr : ∀ h H, Rep Z h H d v) : RE Z (tC v) (rC d) := fun _ H _ h _ _ _ R q w => w v H d h Fr.refl R (hr h H) q
theorem ed_int {i j pos} : ED X (.Constant (.int i) j pos) (rC (.int i)) := ⟨_, pe_int, rC_ref fun _ _ => rfl⟩
theorem ed_bl {b j pos} : ED X (.Constant (.bool b) j pos) (rC (.bl b)) := ⟨_, pe_bl, rC_ref fun _ _ => rfl⟩
theorem ed_non {j pos} : ED X (.Constant .none j pos) (rC .non) := ⟨_, pe_non, rC_ref fun _ _ => rfl⟩
theorem ed_str {x j pos} : ED X (.Constant (.str x) j pos) (rC (.str x)) := ⟨_, pe_str, rC_ref fun _ _ => rfl⟩
/-- what a name of the module stands for, as a tree -/
def GVal (Z : Kx) (mg : Str → Option Value) (x : Str) (d : D) : Prop := ∃ (v : V) (u : Value), mg x = some u ∧ RelV v u ∧ ∀ h H, Rep Z h H d v
theorem ed_glob {d : D} (g : GVal (kx X) X.mg x d) (hg : Gl X x := by rfl) (hd : (x == ("__debug__" : Str)) = false := by decide) : ED X (.Name x pos) (rC d) := by
  obtain ⟨v, u, hm, r, q⟩ := g
  exact ⟨_, pe_glob hg hm r hd, rC_ref q⟩
theorem ed_type {n : String} (hm : X.mg x = none) (hv : bootBuiltins x = some (.type n) := by decide +kernel) (hg : Gl X x := by rfl) (hn : x ≠ "__name__" := by decide) (hd : (x == ("__debug__" : Str)) = false := by decide) :
    ED X (.Name x pos) (rC (.ty n)) := ⟨_, pe_bltn (v := .ty n) hg hm hv rfl hn hd, rC_ref fun _ _ => rfl⟩
/-! ### argument lists and displays -/
def rNil : TAD := fun _ h Q => Q [] h
def rCons (ta : TED) (tr : TAD) : TAD := fun sd h Q => ta sd h fun d h1 => tr sd h1 fun ds h2 => Q (d :: ds) h2
variable {e : Expr} {es : List Expr} {te : TED} {ta : TAD}
theorem ad_nil : AD X [] rNil := ⟨_, pa_nil, fun _ H _ h _ _ _ R q w => w [] H [] h Fr.refl R rfl q⟩
theorem ad_cons (a : ED X e te) (r : AD X es ta) (hs : starEach (e :: es) X.env = (false, eval e X.env) :: starEach es X.env := by rfl) : AD X (e :: es) (rCons te ta) := by
  obtain ⟨t, p, f⟩ := a.ex
  obtain ⟨u, p2, f2⟩ := r.ex
  refine ⟨_, pa_cons p p2 hs, fun σ H sd h Qd Q rs R q w => ?_⟩
  refine f σ H sd h _ _ rs R q fun v H1 d h1 fr1 R1 r1 q1 => ?_
  refine f2 σ H1 sd h1 _ _ (rs.fr fr1) R1 q1 fun vs H2 ds h2 fr2 R2 r2 q2 => ?_
  exact w (v :: vs) H2 (d :: ds) h2 (fr1.trans fr2) R2 ⟨v, vs, rfl, Rep.fr fr2 _ _ r1, r2⟩ q2
/-- the items of a sequence -/
def seqD (d : D) (h : DH) (k : List D → Prop) : Prop := match d with
  | .tup ds => k ds
  | .lv ds => k ds
  | .ref p => ∃ ds, h p = some (.lst ds) ∧ k ds
  | _ => False
theorem seqD_ok {Z : Kx} {h : DH} {H : Hp} {d : D} {v : V} {k : List D → Prop} (r : Rep Z h H d v) (R : RH Z h H) (q : seqD d h k) : ∃ p ds vs, v = .ref p ∧ (SqT Z.K H p vs ∨ SqL Z.K H p vs) ∧ RepL Z h H ds vs ∧ k ds := by
  cases d with
  | tup ds =>
    obtain ⟨a, vs, e, t, r⟩ := r
    exact ⟨a, ds, vs, e, .inl t.sq, r, q⟩
  | lv ds =>
    obtain ⟨a, vs, e, t, r⟩ := r
    exact ⟨a, ds, vs, e, .inr t.sq, r, q⟩
  | ref p =>
    obtain ⟨ds, e, q⟩ := q
    obtain ⟨_, vs, q1, q2⟩ := R p _ e
    exact ⟨p, ds, vs, r, .inr (SqL.of q1), q2, q⟩
  | _ => exact q.elim
def rStar (te : TED) (tr : TAD) : TAD := fun sd h Q => te sd h fun d h1 => seqD d h1 fun xs => tr sd h1 fun ds h2 => Q (xs ++ ds) h2
theorem ad_star {p : Pos} (a : ED X e te) (r : AD X es ta) (hs : starEach (.Starred e p :: es) X.env = (true, eval e X.env) :: starEach es X.env := by rfl) : AD X (.Starred e p :: es) (rStar te ta) := by
  obtain ⟨t, p, f⟩ := a.ex
  obtain ⟨u, p2, f2⟩ := r.ex
  refine ⟨_, StX.pa_star p p2 hs, fun σ H sd h Qd Q rs R q w => ?_⟩
  refine f σ H sd h _ _ rs R q fun v H1 d h1 fr1 R1 r1 q1 => ?_
  obtain ⟨p, xs, vs, ev, sq, r1, q1⟩ := seqD_ok r1 R1 q1
  refine ⟨p, vs, ev, sq, ?_⟩
  refine f2 σ H1 sd h1 _ _ (rs.fr fr1) R1 q1 fun us H2 ds h2 fr2 R2 r2 q2 => ?_
  exact w (vs ++ us) H2 (xs ++ ds) h2 (fr1.trans fr2) R2 ((RepL.fr fr2 _ _ r1).append r2) q2
def rTup (ta : TAD) : TED := fun sd h Q => ta sd h fun ds h1 => ds.length ≤ sizeLine ∧ Q (.tup ds) h1
def rLst (ta : TAD) : TED := fun sd h Q => ta sd h fun ds h1 => ds.length ≤ sizeLine ∧ Q (.lv ds) h1
/-- .. a list that will be changed -/
def rLstR (ta : TAD) : TED := fun sd h Q => ta sd h fun ds h1 => ds.length ≤ sizeLine ∧ ∀ p, h1 p = none → Q (.ref p) (up h1 p (.lst ds))
theorem tup_new {Z : Kx} {h : DH} {H : Hp} {ds : List D} {vs : List V} {p : Addr} (n : H p = none) (R : RH Z h H) (r : RepL Z h H ds vs) : Rep Z h (upd H p (.tup vs)) (.tup ds) (.ref p) :=
  ⟨p, vs, rfl, .inl ⟨R.free n, .inl upd_same⟩, RepL.fr (Fr.hid n R) _ _ r⟩
theorem lv_new {Z : Kx} {h : DH} {H : Hp} {ds : List D} {vs : List V} {p : Addr} (n : H p = none) (R : RH Z h H) (r : RepL Z h H ds vs) : Rep Z h (upd H p (.lst vs)) (.lv ds) (.ref p) :=
  ⟨p, vs, rfl, ⟨R.free n, upd_same⟩, RepL.fr (Fr.hid n R) _ _ r⟩
theorem lst_new {Z : Kx} {h : DH} {H : Hp} {ds : List D} {vs : List V} {p : Addr} (n : H p = none) (R : RH Z h H) (r : RepL Z h H ds vs) : RH Z (up h p (.lst ds)) (upd H p (.lst vs)) :=
  RH.new n R ⟨vs, upd_same, RepL.fr (Fr.new n R) _ _ r⟩
theorem ed_tup {k} (a : AD X es ta) : ED X (.Tuple es k pos) (rTup ta) := by
  obtain ⟨t, p, f⟩ := a.ex
  refine ⟨_, pe_tup p, fun σ H sd h Qd Q rs R q w => ?_⟩
  refine f σ H sd h _ _ rs R q fun vs H1 ds h1 fr1 R1 r1 ⟨z, q1⟩ => ⟨by rw [← r1.length]; exact z, fun p n => ?_⟩
  exact w _ _ _ h1 (fr1.trans (Fr.hid n R1)) (RH.hid n R1) (tup_new n R1 r1) q1
theorem ed_lst (a : AD X es ta) : ED X (.List es pos) (rLst ta) := by
  obtain ⟨t, p, f⟩ := a.ex
  refine ⟨_, pe_lst p, fun σ H sd h Qd Q rs R q w => ?_⟩
  refine f σ H sd h _ _ rs R q fun vs H1 ds h1 fr1 R1 r1 ⟨z, q1⟩ => ⟨by rw [← r1.length]; exact z, fun p n => ?_⟩
  exact w _ _ _ h1 (fr1.trans (Fr.hid n R1)) (RH.hid n R1) (lv_new n R1 r1) q1
theorem ed_lstR (a : AD X es ta) : ED X (.List es pos) (rLstR ta) := by
  obtain ⟨t, p, f⟩ := a.ex
  refine ⟨_, pe_lst p, fun σ H sd h Qd Q rs R q w => ?_⟩
  refine f σ H sd h _ _ rs R q fun vs H1 ds h1 fr1 R1 r1 ⟨z, q1⟩ => ⟨by rw [← r1.length]; exact z, fun p n => ?_⟩
  exact w _ _ (.ref p) _ (fr1.trans (Fr.new n R1)) (lst_new n R1 r1) rfl (q1 p (R1.free n))
/-! ### operators by values -/
abbrev R2D := D → D → DH → (D → DH → Prop) → Prop
def R2R (Z : Kx) (r : R2) (rd : R2D) : Prop := ∀ x y d e H h Qd Q, Rep Z h H d x → Rep Z h H e y → RH Z h H → rd d e h Qd → WV Z h H Qd Q → r x y H Q
structure OpD (X : Cx) (f : Value → Value → Sem Value) (rd : R2D) : Prop where
  ex : ∃ r, OpR X f r ∧ R2R (kx X) r rd
def rOp (rd : R2D) (ta tb : TED) : TED := fun sd h Q => ta sd h fun d h1 => tb sd h1 fun e h2 => rd d e h2 Q
variable {a b : Expr} {tA tB : TED}
theorem rOp_ref {Z : Kx} {r : R2} {rd : R2D} {t u : TE} (h0 : R2R Z r rd) (f : RE Z t tA) (f2 : RE Z u tB) : RE Z (tOp r t u) (rOp rd tA tB) := fun σ H sd h Qd Q rs R q w => by
  refine f σ H sd h _ _ rs R q fun v H1 d h1 fr1 R1 r1 q1 => ?_
  refine f2 σ H1 sd h1 _ _ (rs.fr fr1) R1 q1 fun u H2 e h2 fr2 R2 r2 q2 => ?_
  exact h0 v u d e H2 h2 _ _ (Rep.fr fr2 _ _ r1) r2 R2 q2 (w.fr (fr1.trans fr2))
theorem ed_op {op : Operator} {rd : R2D} (o : OpD X (binaryOp op) rd) (ha : ED X a tA) (hb : ED X b tB) : ED X (.BinOp a op b pos) (rOp rd tA tB) := by
  obtain ⟨r, ho, hr⟩ := o.ex
  obtain ⟨t, p, f⟩ := ha.ex
  obtain ⟨u, p2, f2⟩ := hb.ex
  exact ⟨_, pe_op ho p p2, rOp_ref hr f f2⟩
theorem ed_cmp {op : CmpOp} {rd : R2D} (o : OpD X (compareOp op) rd) (ha : ED X a tA) (hb : ED X b tB) (hm : behindInMarks op b = false := by first | exact nobehind _ (by decide) (by decide) | rfl) : ED X (.Compare a [op] [b] pos) (rOp rd tA tB) := by
  obtain ⟨r, ho, hr⟩ := o.ex
  obtain ⟨t, p, f⟩ := ha.ex
  obtain ⟨u, p2, f2⟩ := hb.ex
  exact ⟨_, pe_cmpR ho p p2 hm, rOp_ref hr f f2⟩
/-- a value that is a bool, as a test -/
def rTest (t : TED) : TTD := fun sd h Q => t sd h fun d h1 => match d with
  | .bl b => Q b h1
  | _ => False
theorem rTest_ref {Z : Kx} {t : TE} (f : RE Z t tA) : RT Z (tTest t) (rTest tA) := fun σ H sd h Qd Q rs R q w => by
  refine f σ H sd h _ _ rs R q fun v H1 d h1 fr1 R1 r1 q1 => ?_
  cases d with
  | bl b => exact ⟨b, r1, w b H1 h1 fr1 R1 q1⟩
  | _ => exact q1.elim
theorem cd_cmp {op : CmpOp} {rd : R2D} (o : OpD X (compareOp op) rd) (ha : ED X a tA) (hb : ED X b tB) (hm : behindInMarks op b = false := by first | exact nobehind _ (by decide) (by decide) | rfl) : CD X (.Compare a [op] [b] pos) (rTest (rOp rd tA tB)) := by
  obtain ⟨r, ho, hr⟩ := o.ex
  obtain ⟨t, p, f⟩ := ha.ex
  obtain ⟨u, p2, f2⟩ := hb.ex
  exact ⟨_, pt_cmpR ho p p2 hm, rTest_ref (rOp_ref hr f f2)⟩
/-- any other expression whose value is a bool, as a test -/
theorem cd_val (ha : ED X a tA) (he : ∀ whole, isTrue a X.env whole = (do let v ← whole; standAt a.pos; holding [v] (truthy v)) := by intro _; rfl) : CD X a (rTest tA) := by
  obtain ⟨t, p, f⟩ := ha.ex
  exact ⟨_, pt_val p he, rTest_ref f⟩
theorem OpD.or {f : Value → Value → Sem Value} {r r' : R2D} (a : OpD X f r) (b : OpD X f r') : OpD X f (fun d e h Q => r d e h Q ∨ r' d e h Q) := by
  obtain ⟨t, h1, f1⟩ := a.ex
  obtain ⟨u, h2, f2⟩ := b.ex
  exact ⟨_, OpR.or h1 h2, fun x y d e H h Qd Q rx ry R q w => q.elim (fun z => .inl (f1 x y d e H h Qd Q rx ry R z w)) fun z => .inr (f2 x y d e H h Qd Q rx ry R z w)⟩
theorem OpD.imp {f : Value → Value → Sem Value} {r r' : R2D} (a : OpD X f r) (i : ∀ d e h Q, r' d e h Q → r d e h Q) : OpD X f r' := by
  obtain ⟨t, h1, f1⟩ := a.ex
  exact ⟨_, h1, fun x y d e H h Qd Q rx ry R q w => f1 x y d e H h Qd Q rx ry R (i _ _ _ _ q) w⟩
end
end DL
set_option Elab.async false
set_option linter.all false
set_option maxRecDepth 100000
set_option maxHeartbeats 1000000
namespace DL
open PySem PySem.Spec PyProof.Rows L2
variable [FldTab]
/-! ### a tree as data -/
mutual
def py : D → PyData
  | .non => .none
  | .bl b => .bool b
  | .int i => .int i
  | .str x => .str x
  | .tup ds => .tuple (pyL ds)
  | .lv ds => .list (pyL ds)
  | _ => .dict []
def pyL : List D → List PyData
  | [] => []
  | d :: ds => py d :: pyL ds
end
def pyO : Option DO → PyData
  | some (.lst ds) => .list (pyL ds)
  | _ => .dict []
def pyH (h : DH) : D → PyData
  | .ref p => pyO (h p)
  | d => py d
section
variable {Z : Kx} {h : DH} {H : Hp}
mutual
theorem rep_dp : ∀ (d : D) (v : V), Rep Z h H d v → PyData.canLay0 (py d) = true → Dp Z.K H v (py d)
  | .non, _, r, _ => by cases (show _ = V.non from r); exact .non
  | .bl b, _, r, _ => by cases (show _ = V.bl b from r); exact .bl b
  | .int i, _, r, _ => by cases (show _ = V.int i from r); exact .int i
  | .str x, _, r, _ => by cases (show _ = V.str x from r); exact .str x
  | .tup ds, _, r, c => by
    obtain ⟨a, vs, rfl, t, r⟩ := r
    exact .tup t.sq (repL_dp ds vs r c)
  | .lv ds, _, r, c => by
    obtain ⟨a, vs, rfl, t, r⟩ := r
    exact .lst t.sq (repL_dp ds vs r c)
  | .ty _, _, _, c => by cases c
  | .ref _, _, _, c => by cases c
  | .dv _ _, _, _, c => by cases c
  | .iv _ _, _, _, c => by cases c
theorem repL_dp : ∀ (ds : List D) (vs : List V), RepL Z h H ds vs → PyData.canLayAll0 (pyL ds) = true → DpAll Z.K H vs (pyL ds)
  | [], _, r, _ => by cases (show _ = [] from r); exact .nil
  | d :: ds, _, r, c => by
    obtain ⟨v, u, rfl, q, t⟩ := r
    have c' : (PyData.canLay0 (py d) && PyData.canLayAll0 (pyL ds)) = true := c
    obtain ⟨c1, c2⟩ := Bool.and_eq_true_iff.mp c'
    exact .cons (rep_dp d v q c1) (repL_dp ds u t c2)
end
theorem repH_dp (R : RH Z h H) (d : D) (v : V) (r : Rep Z h H d v) (c : SeqAt.shaped (pyH h d) = true) : Dp Z.K H v (pyH h d) := by
  have c1 := SeqAt.canLay_of_shaped c
  cases d with
  | ref p =>
    have e : v = .ref p := r
    subst e
    have z : pyH h (.ref p) = pyO (h p) := rfl
    rw [z] at c1 ⊢
    cases q : h p with
    | none => rw [q] at c1; cases c1
    | some o =>
      obtain ⟨_, ro⟩ := R p o q
      rw [q] at c1
      cases o with
      | lst ds =>
        obtain ⟨vs, q1, q2⟩ := ro
        exact .lst (SqL.of q1) (repL_dp ds vs q2 c1)
      | _ => cases c1
  | _ => exact rep_dp _ v r c1
end
def deq (x y : D) : Bool := PyData.eqv (py x) (py y)
section
variable {X : Cx} {pos : Pos} {a b c : Expr} {tA tB tC : TED} {e : Expr} {te : TED}
/-! ### == and != of data -/
def dEq : R2D := fun x y h Q => SeqAt.shaped (pyH h x) = true ∧ SeqAt.shaped (pyH h y) = true ∧ Q (.bl (PyData.eqv (pyH h x) (pyH h y))) h
def dNe : R2D := fun x y h Q => SeqAt.shaped (pyH h x) = true ∧ SeqAt.shaped (pyH h y) = true ∧ Q (.bl (!PyData.eqv (pyH h x) (pyH h y))) h
theorem od_eq {k : Nat} (hr : Room k X.A) : OpD X (compareOp .Eq) dEq := ⟨_, op_eqD hr.units, fun x y d e H h Qd Q rx ry R q w =>
  ⟨_, _, repH_dp R d x rx q.1, repH_dp R e y ry q.2.1, q.1, q.2.1, w _ H (.bl _) h Fr.refl R rfl q.2.2⟩⟩
theorem od_ne {k : Nat} (hr : Room k X.A) : OpD X (compareOp .NotEq) dNe := ⟨_, op_neD hr.units, fun x y d e H h Qd Q rx ry R q w =>
  ⟨_, _, repH_dp R d x rx q.1, repH_dp R e y ry q.2.1, q.1, q.2.1, w _ H (.bl _) h Fr.refl R rfl q.2.2⟩⟩
/-! ### ints and texts -/
def dI (C : Int → Int → Prop) (g : Int → Int → D) : R2D := fun x y h Q => match x, y with
  | .int i, .int j => C i j ∧ Q (g i j) h
  | _, _ => False
theorem od_I {f : Value → Value → Sem Value} {C : Int → Int → Prop} {g : Int → Int → V} {gd : Int → Int → D} (o : OpR X f (rI C g)) (hg : ∀ i j h H, Rep (kx X) h H (gd i j) (g i j)) : OpD X f (dI C gd) :=
  ⟨_, o, fun x y d e H h Qd Q rx ry R q w => by
    unfold dI at q
    cases d with
    | int i => cases e with
      | int j => exact ⟨i, j, rx, ry, q.1, w _ H _ h Fr.refl R (hg i j h H) q.2⟩
      | _ => exact q.elim
    | _ => exact q.elim⟩
theorem od_I0 {f : Value → Value → Sem Value} {g : Int → Int → V} {gd : Int → Int → D} (o : OpR X f (rI0 g)) (hg : ∀ i j h H, Rep (kx X) h H (gd i j) (g i j)) : OpD X f (dI (fun _ _ => True) gd) :=
  ⟨_, o, fun x y d e H h Qd Q rx ry R q w => by
    unfold dI at q
    cases d with
    | int i => cases e with
      | int j => exact ⟨i, j, rx, ry, w _ H _ h Fr.refl R (hg i j h H) q.2⟩
      | _ => exact q.elim
    | _ => exact q.elim⟩
def CPowW (i j : Int) : Prop := 0 ≤ j ∧ (Builtin.Int.intBits i : Int) * j ≤ 2 ^ 27
theorem od_sub : OpD X (binaryOp .Sub) (dI (fun _ _ => True) fun i j => .int (i - j)) := od_I0 op_sub fun _ _ _ _ => rfl
theorem od_fdiv : OpD X (binaryOp .FloorDiv) (dI CDivW fun i j => .int (i / j)) := od_I op_fdivW fun _ _ _ _ => rfl
theorem od_mod : OpD X (binaryOp .Mod) (dI (fun _ j => 0 < j) fun i j => .int (i % j)) := od_I op_mod fun _ _ _ _ => rfl
theorem od_pow : OpD X (binaryOp .Pow) (dI CPowW fun i j => .int (i ^ j.toNat)) :=
  od_I (g := fun i j => .int (i ^ j.toNat)) (opI fun _ _ _ _ _ _ _ hc q => pow_int hc.1 hc.2 q) fun _ _ _ _ => rfl
/-- < and the like: ints, texts -/
def dLt : R2D := fun x y h Q => match x, y with
  | .int i, .int j => Q (.bl (decide (i < j))) h
  | .str i, .str j => Q (.bl (decide (i.cps.toList < j.cps.toList))) h
  | _, _ => False
def dLe : R2D := fun x y h Q => match x, y with
  | .int i, .int j => Q (.bl (decide (i ≤ j))) h
  | .str i, .str j => Q (.bl (!decide (j.cps.toList < i.cps.toList))) h
  | _, _ => False
def dGt : R2D := fun x y h Q => match x, y with
  | .int i, .int j => Q (.bl (decide (j < i))) h
  | _, _ => False
def dGe : R2D := fun x y h Q => match x, y with
  | .int i, .int j => Q (.bl (decide (j ≤ i))) h
  | _, _ => False
theorem od_lt : OpD X (compareOp .Lt) dLt := ⟨_, OpR.or op_lt op_lt_str, fun x y d e H h Qd Q rx ry R q w => by
  unfold dLt at q
  cases d with
  | int i => cases e with
    | int j => exact .inl ⟨i, j, rx, ry, w _ H (.bl _) h Fr.refl R rfl q⟩
    | _ => exact q.elim
  | str i => cases e with
    | str j => exact .inr ⟨i, j, rx, ry, w _ H (.bl _) h Fr.refl R rfl q⟩
    | _ => exact q.elim
  | _ => exact q.elim⟩
theorem od_le : OpD X (compareOp .LtE) dLe := ⟨_, OpR.or op_le op_le_str, fun x y d e H h Qd Q rx ry R q w => by
  unfold dLe at q
  cases d with
  | int i => cases e with
    | int j => exact .inl ⟨i, j, rx, ry, w _ H (.bl _) h Fr.refl R rfl q⟩
    | _ => exact q.elim
  | str i => cases e with
    | str j => exact .inr ⟨i, j, rx, ry, w _ H (.bl _) h Fr.refl R rfl q⟩
    | _ => exact q.elim
  | _ => exact q.elim⟩
theorem od_gt : OpD X (compareOp .Gt) dGt := ⟨_, op_gt, fun x y d e H h Qd Q rx ry R q w => by
  unfold dGt at q
  cases d with
  | int i => cases e with
    | int j => exact ⟨i, j, rx, ry, w _ H (.bl _) h Fr.refl R rfl q⟩
    | _ => exact q.elim
  | _ => exact q.elim⟩
theorem od_ge : OpD X (compareOp .GtE) dGe := ⟨_, op_ge, fun x y d e H h Qd Q rx ry R q w => by
  unfold dGe at q
  cases d with
  | int i => cases e with
    | int j => exact ⟨i, j, rx, ry, w _ H (.bl _) h Fr.refl R rfl q⟩
    | _ => exact q.elim
  | _ => exact q.elim⟩
/-! ### is None -/
def isNon : D → Bool
  | .non => true
  | _ => false
theorem isNon_eq {Z : Kx} {h : DH} {H : Hp} {d : D} {x : V} (r : Rep Z h H d x) : decide (x = V.non) = isNon d := by
  cases d with
  | non => cases (show x = _ from r); rfl
  | bl b => cases (show x = _ from r); rfl
  | int b => cases (show x = _ from r); rfl
  | str b => cases (show x = _ from r); rfl
  | ty b => cases (show x = _ from r); rfl
  | ref b => cases (show x = _ from r); rfl
  | tup b => obtain ⟨_, _, e, _⟩ := r; subst e; rfl
  | lv b => obtain ⟨_, _, e, _⟩ := r; subst e; rfl
  | dv b _ => obtain ⟨_, _, _, e, _⟩ := r; subst e; rfl
  | iv b _ => obtain ⟨_, _, e, _⟩ := r; subst e; rfl
def dIs : R2D := fun x y h Q => isNon y = true ∧ Q (.bl (isNon x)) h
def dIsNot : R2D := fun x y h Q => isNon y = true ∧ Q (.bl (!isNon x)) h
theorem od_is : OpD X (compareOp .Is) dIs := ⟨_, op_isN, fun x y d e H h Qd Q rx ry R q w =>
  ⟨of_decide_eq_true ((isNon_eq ry).trans q.1), w _ H (.bl _) h Fr.refl R (by rw [isNon_eq rx]; rfl) q.2⟩⟩
theorem od_isnot : OpD X (compareOp .IsNot) dIsNot := ⟨_, op_notN, fun x y d e H h Qd Q rx ry R q w =>
  ⟨of_decide_eq_true ((isNon_eq ry).trans q.1), w _ H (.bl _) h Fr.refl R (by rw [isNon_eq rx]; rfl) q.2⟩⟩
/-! ### + and * -/
/-- the items of a list -/
def lstD (d : D) (h : DH) (k : List D → Prop) : Prop := match d with
  | .lv ds => k ds
  | .ref p => ∃ ds, h p = some (.lst ds) ∧ k ds
  | _ => False
theorem lstD_ok {Z : Kx} {h : DH} {H : Hp} {d : D} {v : V} {k : List D → Prop} (r : Rep Z h H d v) (R : RH Z h H) (q : lstD d h k) : ∃ p ds vs, v = .ref p ∧ H p = some (.lst vs) ∧ RepL Z h H ds vs ∧ k ds := by
  cases d with
  | lv ds =>
    obtain ⟨a, vs, e, t, r⟩ := r
    exact ⟨a, ds, vs, e, t.2, r, q⟩
  | ref p =>
    obtain ⟨ds, e, q⟩ := q
    obtain ⟨_, vs, q1, q2⟩ := R p _ e
    exact ⟨p, ds, vs, r, q1, q2, q⟩
  | _ => exact q.elim
def dAdd : R2D := fun x y h Q => match x, y with
  | .int i, .int j => Q (.int (i + j)) h
  | .str i, .str j => i.length + j.length ≤ sizeLine ∧ Q (.str (i ++ j)) h
  | .tup xs, .tup ys => xs.length + ys.length ≤ sizeLine ∧ Q (.tup (xs ++ ys)) h
  | x, y => lstD x h fun xs => lstD y h fun ys => xs.length + ys.length ≤ sizeLine ∧ Q (.lv (xs ++ ys)) h
theorem add_lst {x y d e H h Qd Q} (rx : Rep (kx X) h H d x) (ry : Rep (kx X) h H e y) (R : RH (kx X) h H) (q : lstD d h fun xs => lstD e h fun ys => xs.length + ys.length ≤ sizeLine ∧ Qd (.lv (xs ++ ys)) h)
    (w : WV (kx X) h H Qd Q) : rCat x y H Q := by
  obtain ⟨p, xs, vs, e1, h1, r1, q⟩ := lstD_ok rx R q
  obtain ⟨p2, ys, us, e2, h2, r2, z, q⟩ := lstD_ok ry R q
  refine ⟨p, p2, vs, us, e1, e2, h1, h2, by rw [← r1.length, ← r2.length]; exact z, fun l n => ?_⟩
  exact w _ _ _ h (Fr.hid n R) (RH.hid n R) (lv_new n R (r1.append r2)) q
theorem od_add : OpD X (binaryOp .Add) dAdd := ⟨_, OpR.or op_add (OpR.or op_add_str (OpR.or op_catA op_cat)), fun x y d e H h Qd Q rx ry R q w => by
  unfold dAdd at q
  split at q
  · exact .inl ⟨_, _, rx, ry, w _ H (.int _) h Fr.refl R rfl q⟩
  · exact .inr (.inl ⟨_, _, rx, ry, q.1, w _ H (.str _) h Fr.refl R rfl q.2⟩)
  · obtain ⟨p, vs, e1, t1, r1⟩ := id rx
    obtain ⟨p2, us, e2, t2, r2⟩ := id ry
    refine .inr (.inr (.inl ⟨p, p2, vs, us, e1, e2, t1.sq, t2.sq, by rw [← r1.length, ← r2.length]; exact q.1, fun z => ?_, fun z1 z2 => ?_, fun _ _ l n => ?_⟩))
    · have z' := r1.length
      rw [z, List.length_nil, List.length_eq_zero_iff] at z'
      subst z'
      exact w _ H (.tup _) h Fr.refl R ⟨p2, us, rfl, t2, r2⟩ q.2
    · have z' := r2.length
      rw [z2, List.length_nil, List.length_eq_zero_iff] at z'
      subst z'
      refine w _ H (.tup _) h Fr.refl R ⟨p, vs, rfl, t1, r1⟩ ?_
      have q2 := q.2
      rw [List.append_nil] at q2
      exact q2
    · exact w _ _ _ h (Fr.hid n R) (RH.hid n R) (tup_new n R (r1.append r2)) q.2
  · exact .inr (.inr (.inr (add_lst rx ry R q w)))⟩
def dMul : R2D := fun x y h Q => match x, y with
  | .int i, .int j => CMulW i j ∧ Q (.int (i * j)) h
  | x, .int k => lstD x h fun xs => -(2 ^ 63) ≤ k ∧ k < 2 ^ 63 ∧ xs.length * k.toNat ≤ sizeLine ∧ Q (.lv (List.replicate k.toNat xs).flatten) h
  | _, _ => False
theorem RepL.flat {Z : Kx} {h : DH} {H : Hp} {ds : List D} {vs : List V} (r : RepL Z h H ds vs) : ∀ n : Nat, RepL Z h H (List.replicate n ds).flatten (List.replicate n vs).flatten
  | 0 => rfl
  | n + 1 => by
    rw [List.replicate_succ, List.replicate_succ, List.flatten_cons, List.flatten_cons]
    exact r.append (RepL.flat r n)
theorem od_mul : OpD X (binaryOp .Mult) dMul := ⟨_, OpR.or op_mulW op_rep, fun x y d e H h Qd Q rx ry R q w => by
  unfold dMul at q
  split at q
  · exact .inl ⟨_, _, rx, ry, q.1, w _ H (.int _) h Fr.refl R rfl q.2⟩
  · obtain ⟨p, xs, vs, e1, h1, r1, z1, z2, z3, q⟩ := lstD_ok rx R q
    refine .inr ⟨p, _, vs, e1, ry, h1, z1, z2, by rw [← r1.length]; exact z3, fun l n => ?_⟩
    exact w _ _ _ h (Fr.hid n R) (RH.hid n R) (lv_new n R (r1.flat _)) q
  · exact q.elim⟩
/-! ### in, not in: flat items -/
def flatD : D → Bool
  | .non | .bl _ | .int _ | .str _ => true
  | _ => false
theorem flat_of {Z : Kx} {h : DH} {H : Hp} {d : D} {x : V} (r : Rep Z h H d x) (f : flatD d = true) : flatV x = true := by
  cases d with
  | non => cases (show x = _ from r); rfl
  | bl b => cases (show x = _ from r); rfl
  | int b => cases (show x = _ from r); rfl
  | str b => cases (show x = _ from r); rfl
  | _ => cases f
theorem eqV_of {Z : Kx} {h : DH} {H : Hp} {d e : D} {x y : V} (r : Rep Z h H d x) (r2 : Rep Z h H e y) (f : flatD d = true) (f2 : flatD e = true) : eqV x y = deq d e := by
  have hd : ∀ d : D, ∀ x : V, flatD d = true → Rep Z h H d x → (d = .non ∧ x = .non) ∨ (∃ b, d = .bl b ∧ x = .bl b) ∨ (∃ b, d = .int b ∧ x = .int b) ∨ (∃ b, d = .str b ∧ x = .str b) := fun d x f r => by
    cases d with
    | non => exact .inl ⟨rfl, r⟩
    | bl b => exact .inr (.inl ⟨b, rfl, r⟩)
    | int b => exact .inr (.inr (.inl ⟨b, rfl, r⟩))
    | str b => exact .inr (.inr (.inr ⟨b, rfl, r⟩))
    | _ => cases f
  rcases hd d x f r with ⟨rfl, rfl⟩ | ⟨b, rfl, rfl⟩ | ⟨b, rfl, rfl⟩ | ⟨b, rfl, rfl⟩ <;> rcases hd e y f2 r2 with ⟨rfl, rfl⟩ | ⟨b', rfl, rfl⟩ | ⟨b', rfl, rfl⟩ | ⟨b', rfl, rfl⟩ <;> simp only [eqV, deq, py, PyData.eqv]
theorem flats_of {Z : Kx} {h : DH} {H : Hp} : ∀ {ds : List D} {vs : List V}, RepL Z h H ds vs → ds.all flatD = true → vs.all flatV = true
  | [], _, r, _ => by cases (show _ = [] from r); rfl
  | d :: ds, _, r, f => by
    obtain ⟨v, u, rfl, q, t⟩ := r
    rw [List.all_cons, Bool.and_eq_true] at f
    rw [List.all_cons, flat_of q f.1, flats_of t f.2]; rfl
theorem inV_of {Z : Kx} {h : DH} {H : Hp} {d : D} {x : V} (r : Rep Z h H d x) (f : flatD d = true) : ∀ {ds : List D} {vs : List V}, RepL Z h H ds vs → ds.all flatD = true → inV x vs = ds.any fun z => deq z d
  | [], _, r, _ => by cases (show _ = [] from r); rfl
  | e :: ds, _, r2, f2 => by
    obtain ⟨v, u, rfl, q, t⟩ := r2
    rw [List.all_cons, Bool.and_eq_true] at f2
    have ih := inV_of r f t f2.2
    unfold inV at ih ⊢
    rw [List.any_cons, List.any_cons, ih, eqV_of q r f2.1 f]
def dIn : R2D := fun x y h Q => seqD y h fun ds => flatD x = true ∧ ds.all flatD = true ∧ Q (.bl (ds.any fun z => deq z x)) h
def dNotIn : R2D := fun x y h Q => seqD y h fun ds => flatD x = true ∧ ds.all flatD = true ∧ Q (.bl (!ds.any fun z => deq z x)) h
theorem od_inF : OpD X (compareOp .In) dIn := ⟨_, op_in_seq, fun x y d e H h Qd Q rx ry R q w => by
  obtain ⟨p, ds, vs, e1, sq, r1, f1, f2, q⟩ := seqD_ok ry R q
  exact ⟨p, vs, e1, sq.symm, flat_of rx f1, flats_of r1 f2, w _ H (.bl _) h Fr.refl R (by rw [if_neg Bool.false_ne_true, inV_of rx f1 r1 f2]; rfl) q⟩⟩
theorem od_notInF : OpD X (compareOp .NotIn) dNotIn := ⟨_, op_notIn_seq, fun x y d e H h Qd Q rx ry R q w => by
  obtain ⟨p, ds, vs, e1, sq, r1, f1, f2, q⟩ := seqD_ok ry R q
  exact ⟨p, vs, e1, sq.symm, flat_of rx f1, flats_of r1 f2, w _ H (.bl _) h Fr.refl R (by rw [if_pos rfl, inV_of rx f1 r1 f2]; rfl) q⟩⟩
/-! ### chains, and, or, not, if -/
def rChain (r r' : R2D) (ta tb tc : TED) : TED := fun sd h Q => ta sd h fun x h1 => tb sd h1 fun y h2 => r x y h2 fun z h3 => match z with
  | .bl k => bC k (tc sd h3 fun w h4 => r' y w h4 Q) (Q (.bl false) h3)
  | _ => False
theorem rChain_ref {Z : Kx} {r r' : R2} {rd rd' : R2D} {t u s : TE} (h0 : R2R Z r rd) (h0' : R2R Z r' rd') (f : RE Z t tA) (f2 : RE Z u tB) (f3 : RE Z s tC) : RE Z (tChain r r' t u s) (rChain rd rd' tA tB tC) := fun σ H sd h Qd Q rs R q w => by
  refine f σ H sd h _ _ rs R q fun v H1 d h1 fr1 R1 r1 q1 => ?_
  refine f2 σ H1 sd h1 _ _ (rs.fr fr1) R1 q1 fun u H2 e h2 fr2 R2 r2 q2 => ?_
  refine h0 v u d e H2 h2 _ _ (Rep.fr fr2 _ _ r1) r2 R2 q2 fun x H3 z h3 fr3 R3 r3 q3 => ?_
  cases z with
  | bl k =>
    refine ⟨k, r3, ?_⟩
    cases k with
    | false => rw [if_neg Bool.false_ne_true]; exact w _ H3 (.bl false) h3 ((fr1.trans fr2).trans fr3) R3 rfl (q3.2 rfl)
    | true =>
      rw [if_pos rfl]
      refine f3 σ H3 sd h3 _ _ (rs.fr ((fr1.trans fr2).trans fr3)) R3 (q3.1 rfl) fun v4 H4 d4 h4 fr4 R4 r4 q4 => ?_
      exact h0' u v4 e d4 H4 h4 _ _ (Rep.fr (fr3.trans fr4) _ _ r2) r4 R4 q4 (w.fr (((fr1.trans fr2).trans fr3).trans fr4))
  | _ => exact q3.elim
theorem ed_chain {op op' : CmpOp} {r r' : R2D} (o : OpD X (compareOp op) r) (o' : OpD X (compareOp op') r') (ha : ED X a tA) (hb : ED X b tB) (hc : ED X c tC)
    (hm : lastMarks [op, op'] [b, c] = false := by with_unfolding_all rfl) : ED X (.Compare a [op, op'] [b, c] pos) (rChain r r' tA tB tC) := by
  obtain ⟨r1, ho, hr⟩ := o.ex
  obtain ⟨r2, ho2, hr2⟩ := o'.ex
  obtain ⟨t, p, f⟩ := ha.ex
  obtain ⟨u, p2, f2⟩ := hb.ex
  obtain ⟨s, p3, f3⟩ := hc.ex
  exact ⟨_, pe_chain ho ho2 p p2 p3 hm, rChain_ref hr hr2 f f2 f3⟩
theorem cd_chain {op op' : CmpOp} {r r' : R2D} (o : OpD X (compareOp op) r) (o' : OpD X (compareOp op') r') (ha : ED X a tA) (hb : ED X b tB) (hc : ED X c tC)
    (hm : lastMarks [op, op'] [b, c] = false := by with_unfolding_all rfl) : CD X (.Compare a [op, op'] [b, c] pos) (rTest (rChain r r' tA tB tC)) := by
  obtain ⟨r1, ho, hr⟩ := o.ex
  obtain ⟨r2, ho2, hr2⟩ := o'.ex
  obtain ⟨t, p, f⟩ := ha.ex
  obtain ⟨u, p2, f2⟩ := hb.ex
  obtain ⟨s, p3, f3⟩ := hc.ex
  exact ⟨_, pt_chain ho ho2 p p2 p3 hm, rTest_ref (rChain_ref hr hr2 f f2 f3)⟩
def rAnd (ta tb : TED) : TED := fun sd h Q => ta sd h fun x h1 => match x with
  | .bl k => bC k (tb sd h1 Q) (Q (.bl false) h1)
  | _ => False
def rOr (ta tb : TED) : TED := fun sd h Q => ta sd h fun x h1 => match x with
  | .bl k => bC k (Q (.bl true) h1) (tb sd h1 Q)
  | _ => False
def rNot (ta : TED) : TED := fun sd h Q => ta sd h fun x h1 => match x with
  | .bl b => Q (.bl (!b)) h1
  | _ => False
variable {rest : List Expr}
theorem ed_one {op} (ha : ED X a tA) : ED X (.BoolOp op [a] pos) tA := by
  obtain ⟨t, p, f⟩ := ha.ex
  exact ⟨_, pe_one p, f⟩
theorem ed_and (ha : ED X a tA) (hb : ED X (.BoolOp .And (b :: rest) pos) tB) : ED X (.BoolOp .And (a :: b :: rest) pos) (rAnd tA tB) := by
  obtain ⟨t, p, f⟩ := ha.ex
  obtain ⟨u, p2, f2⟩ := hb.ex
  refine ⟨_, pe_and p p2, fun σ H sd h Qd Q rs R q w => ?_⟩
  refine f σ H sd h _ _ rs R q fun v H1 d h1 fr1 R1 r1 q1 => ?_
  cases d with
  | bl k =>
    refine ⟨k, r1, ?_⟩
    cases k with
    | false => rw [if_neg Bool.false_ne_true]; exact w _ H1 (.bl false) h1 fr1 R1 rfl (q1.2 rfl)
    | true => rw [if_pos rfl]; exact f2 σ H1 sd h1 _ _ (rs.fr fr1) R1 (q1.1 rfl) (w.fr fr1)
  | _ => exact q1.elim
theorem ed_or (ha : ED X a tA) (hb : ED X (.BoolOp .Or (b :: rest) pos) tB) : ED X (.BoolOp .Or (a :: b :: rest) pos) (rOr tA tB) := by
  obtain ⟨t, p, f⟩ := ha.ex
  obtain ⟨u, p2, f2⟩ := hb.ex
  refine ⟨_, pe_or p p2, fun σ H sd h Qd Q rs R q w => ?_⟩
  refine f σ H sd h _ _ rs R q fun v H1 d h1 fr1 R1 r1 q1 => ?_
  cases d with
  | bl k =>
    refine ⟨k, r1, ?_⟩
    cases k with
    | true => rw [if_pos rfl]; exact w _ H1 (.bl true) h1 fr1 R1 rfl (q1.1 rfl)
    | false => rw [if_neg Bool.false_ne_true]; exact f2 σ H1 sd h1 _ _ (rs.fr fr1) R1 (q1.2 rfl) (w.fr fr1)
  | _ => exact q1.elim
theorem ed_not (ha : ED X a tA) : ED X (.UnaryOp .Not a pos) (rNot tA) := by
  obtain ⟨t, p, f⟩ := ha.ex
  refine ⟨_, pe_not p, fun σ H sd h Qd Q rs R q w => ?_⟩
  refine f σ H sd h _ _ rs R q fun v H1 d h1 fr1 R1 r1 q1 => ?_
  cases d with
  | bl k => exact ⟨k, r1, w _ H1 (.bl _) h1 fr1 R1 rfl q1⟩
  | _ => exact q1.elim
variable {cA cB : TTD}
def bAnd (t u : TTD) : TTD := fun sd h Q => t sd h fun k h1 => bC k (u sd h1 Q) (Q false h1)
def bOr (t u : TTD) : TTD := fun sd h Q => t sd h fun k h1 => bC k (Q true h1) (u sd h1 Q)
def bNot (t : TTD) : TTD := fun sd h Q => t sd h fun k h1 => Q (!k) h1
theorem CWD.cd (h : CWD X e cA) : CD X e cA := let ⟨t, p, f⟩ := h.ex; ⟨t, p.pt, f⟩
theorem cw_and1 (ha : CD X a cA) : CWD X (.BoolOp .And [a] pos) cA := let ⟨_, p, f⟩ := ha.ex; ⟨_, pw_and1 p, f⟩
theorem cw_or1 (ha : CD X a cA) : CWD X (.BoolOp .Or [a] pos) cA := let ⟨_, p, f⟩ := ha.ex; ⟨_, pw_or1 p, f⟩
theorem cw_and (ha : CD X a cA) (hb : CWD X (.BoolOp .And (b :: rest) pos) cB) : CWD X (.BoolOp .And (a :: b :: rest) pos) (bAnd cA cB) := by
  obtain ⟨t, p, f⟩ := ha.ex
  obtain ⟨u, p2, f2⟩ := hb.ex
  refine ⟨_, pw_and p p2, fun σ H sd h Qd Q rs R q w => ?_⟩
  refine f σ H sd h _ _ rs R q fun k H1 h1 fr1 R1 q1 => ?_
  cases k with
  | false => exact w _ H1 h1 fr1 R1 (q1.2 rfl)
  | true => exact f2 σ H1 sd h1 _ _ (rs.fr fr1) R1 (q1.1 rfl) (w.fr fr1)
theorem cw_or (ha : CD X a cA) (hb : CWD X (.BoolOp .Or (b :: rest) pos) cB) : CWD X (.BoolOp .Or (a :: b :: rest) pos) (bOr cA cB) := by
  obtain ⟨t, p, f⟩ := ha.ex
  obtain ⟨u, p2, f2⟩ := hb.ex
  refine ⟨_, pw_or p p2, fun σ H sd h Qd Q rs R q w => ?_⟩
  refine f σ H sd h _ _ rs R q fun k H1 h1 fr1 R1 q1 => ?_
  cases k with
  | true => exact w _ H1 h1 fr1 R1 (q1.1 rfl)
  | false => exact f2 σ H1 sd h1 _ _ (rs.fr fr1) R1 (q1.2 rfl) (w.fr fr1)
theorem cd_not (ha : CD X a cA) : CD X (.UnaryOp .Not a pos) (bNot cA) := by
  obtain ⟨t, p, f⟩ := ha.ex
  refine ⟨_, pt_not p, fun σ H sd h Qd Q rs R q w => ?_⟩
  exact f σ H sd h _ _ rs R q fun k H1 h1 fr1 R1 q1 => w _ H1 h1 fr1 R1 q1
def rIf (t : TTD) (ta tb : TED) : TED := fun sd h Q => t sd h fun k h1 => bC k (ta sd h1 Q) (tb sd h1 Q)
theorem ed_if (hc : CD X c cA) (ha : ED X a tA) (hb : ED X b tB) : ED X (.IfExp c a b pos) (rIf cA tA tB) := by
  obtain ⟨s, p0, f0⟩ := hc.ex
  obtain ⟨t, p, f⟩ := ha.ex
  obtain ⟨u, p2, f2⟩ := hb.ex
  refine ⟨_, pe_ifExp p0 p p2, fun σ H sd h Qd Q rs R q w => ?_⟩
  refine f0 σ H sd h _ _ rs R q fun k H1 h1 fr1 R1 q1 => ?_
  cases k with
  | true => exact f σ H1 sd h1 _ _ (rs.fr fr1) R1 (q1.1 rfl) (w.fr fr1)
  | false => exact f2 σ H1 sd h1 _ _ (rs.fr fr1) R1 (q1.2 rfl) (w.fr fr1)
/-! ### slices -/
abbrev TOD := SD → DH → (Option Int → DH → Prop) → Prop
structure OD (X : Cx) (e : Option Expr) (td : TOD) : Prop where
  ex : ∃ t, PO X e t ∧ ∀ σ H sd h Qd (Q : Option Int → Hp → Prop), RepS (kx X) h H sd σ → RH (kx X) h H → td sd h Qd → (∀ o H' h', Fr h H h' H' → RH (kx X) h' H' → Qd o h' → Q o H') → t σ H Q
def rNoPart : TOD := fun _ h Q => Q none h
def rPart (t : TED) : TOD := fun sd h Q => t sd h fun d h1 => match d with
  | .int i => Q (some i) h1
  | _ => False
theorem od_none : OD X none rNoPart := ⟨_, po_none, fun σ H sd h Qd Q rs R q w => w none H h Fr.refl R q⟩
theorem od_some (ha : ED X a tA) : OD X (some a) (rPart tA) := by
  obtain ⟨t, p, f⟩ := ha.ex
  refine ⟨_, po_some p, fun σ H sd h Qd Q rs R q w => f σ H sd h _ _ rs R q fun v H1 d h1 fr1 R1 r1 q1 => ?_⟩
  cases d with
  | int i => exact ⟨i, r1, w _ H1 h1 fr1 R1 q1⟩
  | _ => exact q1.elim
def cutD (ds : List D) (lo hi : Option Int) : List D := (ds.drop (HT.sIx ds.length 0 lo)).take (HT.sIx ds.length ds.length hi - HT.sIx ds.length 0 lo)
theorem RepL.cut {Z : Kx} {h : DH} {H : Hp} {ds : List D} {vs : List V} (r : RepL Z h H ds vs) (lo hi : Option Int) : RepL Z h H (cutD ds lo hi) (cutV vs lo hi) := by
  unfold cutD cutV
  rw [r.length]
  exact (r.drop _).take _
def sliD (d : D) (lo hi : Option Int) (h : DH) (Q : D → DH → Prop) : Prop := match d with
  | .tup ds => Q (.tup (cutD ds lo hi)) h
  | .str z => z.length ≤ sizeLine ∧ Q (.str (cutS z lo hi)) h
  | d => lstD d h fun ds => Q (.lv (cutD ds lo hi)) h
def rSlice (te : TED) (tl th : TOD) : TED := fun sd h Q => te sd h fun d h1 => tl sd h1 fun lo h2 => th sd h2 fun hi h3 => sliD d lo hi h3 Q
theorem ed_slice {lo hi : Option Expr} {tl th : TOD} {p2 : Pos} (ha : ED X a tA) (hl : OD X lo tl) (hu : OD X hi th) : ED X (.Subscript a (.Slice lo hi none p2) pos) (rSlice tA tl th) := by
  obtain ⟨t, p, f⟩ := ha.ex
  obtain ⟨u, p2, f2⟩ := hl.ex
  obtain ⟨s, p3, f3⟩ := hu.ex
  refine ⟨_, pe_slice (SlR.or sl_tupA (SlR.or sl_str sl_list)) p p2 p3, fun σ H sd h Qd Q rs R q w => ?_⟩
  refine f σ H sd h _ _ rs R q fun v H1 d h1 fr1 R1 r1 q1 => ?_
  refine f2 σ H1 sd h1 _ _ (rs.fr fr1) R1 q1 fun l H2 h2 fr2 R2 q2 => ?_
  refine f3 σ H2 sd h2 _ _ (rs.fr (fr1.trans fr2)) R2 q2 fun u H3 h3 fr3 R3 q3 => ?_
  have r3 := Rep.fr (fr2.trans fr3) _ _ r1
  have w3 := w.fr ((fr1.trans fr2).trans fr3)
  unfold sliD at q3
  split at q3
  · obtain ⟨p, vs, e, t, r⟩ := r3
    refine .inl ⟨p, vs, e, t.sq, fun z => ?_, fun z l n => ?_⟩
    · refine w3 _ H3 (.tup _) h3 Fr.refl R3 ⟨p, vs, rfl, t, ?_⟩ q3
      have c := r.cut l u
      have e : cutV vs l u = vs := by
        unfold cutV
        rw [z.1, z.2]
        simp
      rw [e] at c
      exact c
    · exact w3 _ _ _ h3 (Fr.hid n R3) (RH.hid n R3) (tup_new n R3 (r.cut _ _)) q3
  · exact .inr (.inl ⟨_, r3, q3.1, w3 _ H3 (.str _) h3 Fr.refl R3 rfl q3.2⟩)
  · obtain ⟨p, ds, vs, e, hp, r, q⟩ := lstD_ok r3 R3 q3
    exact .inr (.inr ⟨p, vs, e, SqL.of hp, fun l n => w3 _ _ _ h3 (Fr.hid n R3) (RH.hid n R3) (lv_new n R3 (r.cut _ _)) q⟩)
/-- xs[::-1] -/
def rRev (te : TED) : TED := fun sd h Q => te sd h fun d h1 => lstD d h1 fun ds => Q (.lv ds.reverse) h1
theorem ed_rev {k : Nat} {p1 p2 p3 : Pos} (ha : ED X a tA) : ED X (.Subscript a (.Slice none none (some (.UnaryOp .USub (.Constant (.int 1) k p1) p2)) p3) pos) (rRev tA) := by
  obtain ⟨t, p, f⟩ := ha.ex
  refine ⟨_, pe_revL p, fun σ H sd h Qd Q rs R q w => ?_⟩
  refine f σ H sd h _ _ rs R q fun v H1 d h1 fr1 R1 r1 q1 => ?_
  obtain ⟨p, ds, vs, e, hp, r, q⟩ := lstD_ok r1 R1 q1
  exact ⟨p, vs, e, SqL.of hp, fun l n => w _ _ _ h1 (fr1.trans (Fr.hid n R1)) (RH.hid n R1) (lv_new n R1 r.reverse) q⟩
/-- - n -/
def rNeg (te : TED) : TED := fun sd h Q => te sd h fun d h1 => match d with
  | .int i => Q (.int (-i)) h1
  | _ => False
theorem ed_neg (ha : ED X a tA) : ED X (.UnaryOp .USub a pos) (rNeg tA) := by
  obtain ⟨t, p, f⟩ := ha.ex
  refine ⟨_, pe_un un_neg p, fun σ H sd h Qd Q rs R q w => ?_⟩
  refine f σ H sd h _ _ rs R q fun v H1 d h1 fr1 R1 r1 q1 => ?_
  cases d with
  | int i => exact ⟨i, r1, w _ H1 (.int _) h1 fr1 R1 rfl q1⟩
  | _ => exact q1.elim
end
end DL
set_option Elab.async false
set_option linter.all false
set_option maxRecDepth 100000
set_option maxHeartbeats 1000000
namespace DL
open PySem PySem.Spec PyProof.Rows L2
variable [FldTab]
/-! ### blocks -/
def rNext : TSD := fun D sd h => D.nx sd h
def rSeq (t u : TSD) : TSD := fun D sd h => t ⟨u D, D.rt, D.bk, D.ct⟩ sd h
section
variable {X : Cx} {st : Stmt} {rest : List Stmt} {tS uS : TSD} {e a b c : Expr} {te tA tB : TED} {cA : TTD} {pos : Pos}
theorem ss_nil : SsD X [] rNext := ⟨_, pss_nil, fun σ H sd h Dd D rs R q w => w.nx σ H sd h Fr.refl R rs q⟩
theorem ss_cons (h1 : SDt X st tS) (h2 : SsD X rest uS) : SsD X (st :: rest) (rSeq tS uS) := by
  obtain ⟨t, p, f⟩ := h1.ex
  obtain ⟨u, p2, f2⟩ := h2.ex
  refine ⟨_, pss_cons p p2, fun σ H sd h Dd D rs R q w => ?_⟩
  exact f σ H sd h _ _ rs R q ⟨fun σ1 H1 sd1 h1 fr1 R1 rs1 q1 => f2 σ1 H1 sd1 h1 _ _ rs1 R1 q1 (w.fr fr1), w.rt, w.bk, w.ct⟩
theorem ss_one (h1 : SDt X st tS) : SsD X [st] tS := by
  obtain ⟨t, p, f⟩ := h1.ex
  exact ⟨_, pss_one p, f⟩
def rBreak : TSD := fun D sd h => D.bk sd h
def rCont : TSD := fun D sd h => D.ct sd h
theorem sd_pass : SDt X (.Pass pos) rNext := ⟨_, ps_pass, fun σ H sd h Dd D rs R q w => w.nx σ H sd h Fr.refl R rs q⟩
theorem sd_break : SDt X (.Break pos) rBreak := ⟨_, ps_break, fun σ H sd h Dd D rs R q w => w.bk σ H sd h Fr.refl R rs q⟩
theorem sd_cont : SDt X (.Continue pos) rCont := ⟨_, ps_continue, fun σ H sd h Dd D rs R q w => w.ct σ H sd h Fr.refl R rs q⟩
def rDrop (t : TED) : TSD := fun D sd h => t sd h fun _ h1 => D.nx sd h1
theorem sd_expr (he : ED X e te) (hs : swapsWith e none pos.line X.env = pure false := by rfl) : SDt X (.Expr e pos) (rDrop te) := by
  obtain ⟨t, p, f⟩ := he.ex
  refine ⟨_, ps_expr p hs, fun σ H sd h Dd D rs R q w => ?_⟩
  exact f σ H sd h _ _ rs R q fun v H1 d h1 fr1 R1 r1 q1 => w.nx σ H1 sd h1 fr1 R1 (rs.fr fr1) q1
def rRet (t : TED) : TSD := fun D sd h => t sd h D.rt
theorem sd_ret (he : ED X e te) : SDt X (.Return (some e) pos) (rRet te) := by
  obtain ⟨t, p, f⟩ := he.ex
  exact ⟨_, ps_ret p, fun σ H sd h Dd D rs R q w => f σ H sd h _ _ rs R q w.rt⟩
def rRetN : TSD := fun D _ h => D.rt .non h
theorem sd_retN : SDt X (.Return none pos) rRetN := ⟨_, ps_retN, fun σ H sd h Dd D rs R q w => w.rt .non H .non h Fr.refl R rfl q⟩
def rIfS (t : TTD) (u v : TSD) : TSD := fun D sd h => t sd h fun k h1 => bC k (u D sd h1) (v D sd h1)
theorem sd_if {xs ys : List Stmt} (hc : CD X c cA) (ha : SsD X xs tS) (hb : SsD X ys uS) : SDt X (.If c xs ys pos) (rIfS cA tS uS) := by
  obtain ⟨s, p0, f0⟩ := hc.ex
  obtain ⟨t, p, f⟩ := ha.ex
  obtain ⟨u, p2, f2⟩ := hb.ex
  refine ⟨_, ps_if p0 p p2, fun σ H sd h Dd D rs R q w => ?_⟩
  refine f0 σ H sd h _ _ rs R q fun k H1 h1 fr1 R1 q1 => ?_
  cases k with
  | true => exact f σ H1 sd h1 _ _ (rs.fr fr1) R1 (q1.1 rfl) (w.fr fr1)
  | false => exact f2 σ H1 sd h1 _ _ (rs.fr fr1) R1 (q1.2 rfl) (w.fr fr1)
/-- code that is never come to -/
def rNever : TSD := fun _ _ _ => False
theorem sd_never : SDt X st rNever := ⟨_, ps_never, fun _ _ _ _ _ _ _ _ q _ => q.elim⟩
theorem ss_never {sts : List Stmt} : SsD X sts rNever := ⟨_, pss_never, fun _ _ _ _ _ _ _ _ q _ => q.elim⟩
/-! ### targets -/
def dName (i : Nat) : TGD := fun d sd h Q => Q (ss sd i d) h
theorem gd_name (i : Nat) {x : Str} (hN : X.N.Nodup) (hi : X.N[i]? = some x := by rfl) (hx : Loc X.env.scope x := by first | exact Or.inl rfl | exact Or.inr rfl) (hf : X.fn x = true ∨ X.env.scope.names.lookup x = some .local := by first | exact .inl rfl | exact .inr rfl | assumption) : GD X (.Name x pos) (dName i) := by
  refine ⟨_, pg_name hN hi hx hf, fun v d σ H sd h Qd Q r rs R q w => ?_⟩
  unfold dName at q
  rw [ss_eq] at q
  exact w _ H _ h Fr.refl R (rs.set r) q
def dNil : TGsD := fun ds sd h Q => match ds with
  | [] => Q sd h
  | _ => False
def dCons (t : TGD) (u : TGsD) : TGsD := fun ds sd h Q => match ds with
  | d :: r => t d sd h fun sd1 h1 => u r sd1 h1 Q
  | [] => False
theorem gds_nil : GsD X [] dNil := ⟨_, pgs_nil, fun vs ds σ H sd h Qd Q r rs R q w => by
  cases ds with
  | nil => exact ⟨r, w σ H sd h Fr.refl R rs q⟩
  | cons _ _ => exact q.elim⟩
theorem gds_cons {es : List Expr} {g : TGD} {u : TGsD} (h1 : GD X e g) (h2 : GsD X es u) (hs : (assignEach (e :: es) X.env).map (·.2) = assign e X.env :: (assignEach es X.env).map (·.2) := by rfl) : GsD X (e :: es) (dCons g u) := by
  obtain ⟨t, p, f⟩ := h1.ex
  obtain ⟨s, p2, f2⟩ := h2.ex
  refine ⟨_, pgs_cons p p2 hs, fun vs ds σ H sd h Qd Q r rs R q w => ?_⟩
  cases ds with
  | nil => exact q.elim
  | cons d ds =>
    obtain ⟨v, us, rfl, r1, r2⟩ := r
    refine ⟨v, us, rfl, f v d σ H sd h _ _ r1 rs R q fun σ1 H1 sd1 h1 fr1 R1 rs1 q1 => ?_⟩
    exact f2 us ds σ1 H1 sd1 h1 _ _ (RepL.fr fr1 _ _ r2) rs1 R1 q1 (w.fr fr1)
def dTup (n : Nat) (u : TGsD) : TGD := fun d sd h Q => match d with
  | .tup ds => ds.length = n ∧ u ds sd h Q
  | _ => False
theorem gd_tup {es : List Expr} {k : Nat} {u : TGsD} (n : Nat) (hc : X.calm = true) (h : GsD X es u) (hn : (assignEach es X.env).length = n := by rfl) (hst : (assignEach es X.env).findIdx? (·.1) = none := by rfl) : GD X (.Tuple es k pos) (dTup n u) := by
  obtain ⟨t, p, f⟩ := h.ex
  refine ⟨_, pg_tup hc p hn hst, fun v d σ H sd h Qd Q r rs R q w => ?_⟩
  cases d with
  | tup ds =>
    obtain ⟨a, vs, rfl, tt, r⟩ := r
    exact ⟨a, vs, rfl, tt.sq, by rw [← r.length]; exact q.1, f vs ds σ H sd h _ _ r rs R q.2 w⟩
  | _ => exact q.elim
def rAsg (t : TED) (g : TGD) : TSD := fun D sd h => t sd h fun d h1 => g d sd h1 D.nx
theorem sd_set (i : Nat) {x : Str} {pos' : Pos} (hN : X.N.Nodup) (he : ED X e te) (hi : X.N[i]? = some x := by rfl) (hx : Loc X.env.scope x := by first | exact Or.inl rfl | exact Or.inr rfl) (hs : swapsWith e (some (.Name x pos')) pos.line X.env = pure false := by rfl)
    (hf : X.fn x = true ∨ X.env.scope.names.lookup x = some .local := by first | exact .inl rfl | exact .inr rfl | assumption) : SDt X (.Assign [.Name x pos'] e pos) (rAsg te (dName i)) := by
  obtain ⟨t, p, f⟩ := he.ex
  refine ⟨_, ps_set hN hi hx p hs hf, fun σ H sd h Dd D rs R q w => ?_⟩
  refine f σ H sd h _ _ rs R q fun v H1 d h1 fr1 R1 r1 q1 => ?_
  unfold dName at q1
  rw [ss_eq] at q1
  exact w.nx _ H1 _ h1 fr1 R1 ((rs.fr fr1).set r1) q1
theorem sd_asg {tg : Expr} {g : TGD} (he : ED X e te) (hg : GD X tg g) (hs : swapsWithSole [tg] e pos.line X.env = pure false := by rfl) (hw : swappedStores [tg] e X.env = pure none := by rfl)
    (h1 : (assignEach [tg] X.env).map (·.2) = [assign tg X.env] := by rfl) : SDt X (.Assign [tg] e pos) (rAsg te g) := by
  obtain ⟨t, p, f⟩ := he.ex
  obtain ⟨u, p2, f2⟩ := hg.ex
  refine ⟨_, ps_asg p p2 hs hw h1, fun σ H sd h Dd D rs R q w => ?_⟩
  refine f σ H sd h _ _ rs R q fun v H1 d h1 fr1 R1 r1 q1 => ?_
  exact f2 v d σ H1 sd h1 _ _ r1 (rs.fr fr1) R1 q1 (w.nx.fr fr1)
/-- a, b = x, y of plain local names -/
def rPar (i j : Nat) (ta : TAD) : TSD := fun D sd h => ta sd h fun ds h1 => match ds with
  | [d, e] => D.nx (ss (ss sd i d) j e) h1
  | _ => False
theorem sd_par (i j : Nat) {x y : Str} {px py pt : Pos} {kt k2 pt2} {ta : TAD} (hN : X.N.Nodup) (ha : AD X [a, b] ta) (hc : X.calm = true := by rfl) (hi : X.N[i]? = some x := by rfl) (hj : X.N[j]? = some y := by rfl) (hij : i ≠ j := by decide)
    (hx : X.env.scope.names.lookup x = some .local := by rfl) (hy : X.env.scope.names.lookup y = some .local := by rfl)
    (hw : swappedStores [.Tuple [.Name x px, .Name y py] kt pt] (.Tuple [a, b] k2 pt2) X.env = pure (some [x, y]) := by rfl)
    (hs : swapsWithSole [.Tuple [.Name x px, .Name y py] kt pt] (.Tuple [a, b] k2 pt2) pos.line X.env = pure false := by rfl) :
    SDt X (.Assign [.Tuple [.Name x px, .Name y py] kt pt] (.Tuple [a, b] k2 pt2) pos) (rPar i j ta) := by
  obtain ⟨t, p, f⟩ := ha.ex
  refine ⟨_, ps_par hc hN hi hj hij hx hy p hw hs, fun σ H sd h Dd D rs R q w => ?_⟩
  refine f σ H sd h _ _ rs R q fun vs H1 ds h1 fr1 R1 r1 q1 => ?_
  match ds, r1, q1 with
  | [d, e], r1, q1 =>
    obtain ⟨v, us, rfl, ra, v2, us2, rfl, rb, e3⟩ := r1
    cases (show us2 = [] from e3)
    have q1 : Dd.nx (ss (ss sd i d) j e) h1 := q1
    rw [ss_eq, ss_eq] at q1
    exact ⟨v, v2, rfl, w.nx _ H1 _ h1 fr1 R1 (((rs.fr fr1).set ra).set rb) q1⟩
/-! ### while -/
def rWhileN (c : TTD) (tb : TSD) (D : EndsD) : Nat → SD → DH → Prop
  | 0, _, _ => False
  | n + 1, sd, h => c sd h fun k h1 => bC k (tb ⟨rWhileN c tb D n, D.rt, D.nx, rWhileN c tb D n⟩ sd h1) (D.nx sd h1)
def rWhile (c : TTD) (tb : TSD) : TSD := fun D sd h => ∃ n, rWhileN c tb D n sd h
theorem sd_while {body : List Stmt} (hp : PassesOwn (model X.prog X.w) X.A X.env X.xe) (hc : CD X c cA) (hb : SsD X body tS) : SDt X (.While c body [] pos) (rWhile cA tS) := by
  obtain ⟨s, p0, f0⟩ := hc.ex
  obtain ⟨t, p, f⟩ := hb.ex
  refine ⟨_, ps_while hp p0 p, fun σ H sd h Dd D rs R q w => ?_⟩
  obtain ⟨n, q⟩ := q
  refine ⟨fun m σ' H' => ∃ sd' h', Fr h H h' H' ∧ RH (kx X) h' H' ∧ RepS (kx X) h' H' sd' σ' ∧ rWhileN cA tS Dd m sd' h', ⟨n, sd, h, Fr.refl, R, rs, q⟩, ?_⟩
  rintro m σ1 H1 ⟨sd1, h1, fr1, R1, rs1, q1⟩
  cases m with
  | zero => exact q1.elim
  | succ m =>
    refine f0 σ1 H1 sd1 h1 _ _ rs1 R1 q1 fun k H2 h2 fr2 R2 q2 => ?_
    cases k with
    | false => exact w.nx σ1 H2 sd1 h2 (fr1.trans fr2) R2 (rs1.fr fr2) (q2.2 rfl)
    | true =>
      refine ⟨fun σ' H' => ∃ sd' h', Fr h H h' H' ∧ RH (kx X) h' H' ∧ RepS (kx X) h' H' sd' σ' ∧ rWhileN cA tS Dd m sd' h', fun σ' H' x => ⟨m, Nat.lt_succ_self m, x⟩, ?_⟩
      have w2 := w.fr (fr1.trans fr2)
      refine f σ1 H2 sd1 h2 _ _ (rs1.fr fr2) R2 (q2.1 rfl) ⟨fun σ3 H3 sd3 h3 fr3 R3 rs3 q3 => ⟨sd3, h3, (fr1.trans fr2).trans fr3, R3, rs3, q3⟩, w2.rt, w2.nx, fun σ3 H3 sd3 h3 fr3 R3 rs3 q3 => ⟨sd3, h3, (fr1.trans fr2).trans fr3, R3, rs3, q3⟩⟩
/-! ### what is walked -/
structure WalkD (Z : Kx) (J : It) (items : List D) (G : DH → Prop) (h1 : DH) (H1 : Hp) : Prop where
  goes : ∀ i H h, i < items.length → Fr h1 H1 h H → RH Z h H → G h → J.go i H
  stops : ∀ H h, Fr h1 H1 h H → RH Z h H → G h → J.stop items.length H
  yields : ∀ i H h x H', i < items.length → Fr h1 H1 h H → RH Z h H → G h → J.yld i H x H' → Fr h H h H' ∧ RH Z h H' ∧ ∃ d, items[i]? = some d ∧ Rep Z h H' d x
abbrev TID := SD → DH → (List D → (DH → Prop) → DH → Prop) → Prop
def RI (Z : Kx) (wi : TI) (td : TID) : Prop := ∀ σ H sd h Rd R, RepS Z h H sd σ → RH Z h H → td sd h Rd → (∀ J H1 items G h1, Fr h H h1 H1 → RH Z h1 H1 → WalkD Z J items G h1 H1 → Rd items G h1 → R J H1) → wi σ H R
structure ID (X : Cx) (tg iter : Expr) (td : TID) : Prop where
  ex : ∃ wi, PI X tg iter wi ∧ RI (kx X) wi td
/-- for: one turn after another; G h: the walked thing is as it was -/
def rForL (g : TGD) (tb : TSD) (Dd : EndsD) (G : DH → Prop) : List D → SD → DH → Prop
  | [], sd, h => G h ∧ Dd.nx sd h
  | x :: xs, sd, h => G h ∧ g x sd h fun sd2 h2 => tb ⟨rForL g tb Dd G xs, Dd.rt, Dd.nx, rForL g tb Dd G xs⟩ sd2 h2
def rFor (wi : TID) (g : TGD) (tb : TSD) : TSD := fun D sd h => wi sd h fun items G h1 => rForL g tb D G items sd h1
theorem sd_for {tg iter : Expr} {body : List Stmt} {wi : TID} {g : TGD} (hp : PassesOwn (model X.prog X.w) X.A X.env X.xe) (hi : ID X tg iter wi) (hg : GD X tg g) (hb : SsD X body tS) (hc : X.calm = true := by rfl)
    (hs : ∀ x, foldedSetIterable iter X.env x = pure x := by intro _; rfl) : SDt X (.For tg iter body [] pos) (rFor wi g tS) := by
  obtain ⟨wi', p0, f0⟩ := hi.ex
  obtain ⟨g', p1, f1⟩ := hg.ex
  obtain ⟨t, p, f⟩ := hb.ex
  refine ⟨_, ps_for hp hc p0 p1 p hs, fun σ H sd h Dd D rs R q w => ?_⟩
  refine f0 σ H sd h _ _ rs R q fun J H1 items G h1 fr1 R1 wk q1 => ?_
  let W : Nat → L2.St → Hp → Prop := fun i σ' H' => ∃ sd' h', Fr h1 H1 h' H' ∧ RH (kx X) h' H' ∧ RepS (kx X) h' H' sd' σ' ∧ rForL g tS Dd G (items.drop i) sd' h'
  refine ⟨fun i m σ' H' => m = items.length - i ∧ i ≤ items.length ∧ W i σ' H', ⟨items.length, by simp, Nat.zero_le _, sd, h1, Fr.refl, R1, rs.fr fr1, q1⟩, ?_⟩
  rintro i m σ2 H2 ⟨rfl, hi, sd2, h2, fr2, R2, rs2, q2⟩
  by_cases hlt : i < items.length
  · rw [List.drop_eq_getElem_cons hlt] at q2
    obtain ⟨hG, q2⟩ := q2
    refine .inr ⟨wk.goes i H2 h2 hlt fr2 R2 hG, W (i + 1), fun σ' H' x => ⟨items.length - (i + 1), by omega, rfl, hlt, x⟩, fun x H' y => ?_⟩
    obtain ⟨fr3, R3, d, e, r3⟩ := wk.yields i H2 h2 x H' hlt fr2 R2 hG y
    rw [List.getElem?_eq_getElem hlt] at e
    cases e
    refine f1 x _ σ2 H' sd2 h2 _ _ r3 (rs2.fr fr3) R3 q2 fun σ4 H4 sd4 h4 fr4 R4 rs4 q4 => ?_
    have fr14 := (fr2.trans fr3).trans fr4
    have w4 := w.fr (fr1.trans fr14)
    exact f σ4 H4 sd4 h4 _ _ rs4 R4 q4 ⟨fun σ5 H5 sd5 h5 fr5 R5 rs5 q5 => ⟨sd5, h5, fr14.trans fr5, R5, rs5, q5⟩, w4.rt, w4.nx, fun σ5 H5 sd5 h5 fr5 R5 rs5 q5 => ⟨sd5, h5, fr14.trans fr5, R5, rs5, q5⟩⟩
  · have e : i = items.length := by omega
    subst e
    rw [List.drop_length] at q2
    exact .inl ⟨wk.stops H2 h2 fr2 R2 q2.1, w.nx σ2 H2 sd2 h2 (fr1.trans fr2) R2 rs2 q2.2⟩
/-! ### things that are walked -/
theorem PI.or {tg e : Expr} {t u : TI} (a : PI X tg e t) (b : PI X tg e u) : PI X tg e (fun σ H R => t σ H R ∨ u σ H R) :=
  ⟨fun pins s σ H R I h => h.elim (a.run pins s σ H R I) (b.run pins s σ H R I)⟩
/-- the items of a sequence, and that it stands as it was -/
def walkS (d : D) (h : DH) (k : List D → (DH → Prop) → Prop) : Prop := match d with
  | .tup ds => k ds fun _ => True
  | .lv ds => k ds fun _ => True
  | .ref p => ∃ ds, h p = some (.lst ds) ∧ k ds fun h' => h' p = some (.lst ds)
  | _ => False
def rIter (t : TED) : TID := fun sd h R => t sd h fun d h1 => walkS d h1 fun items G => R items G h1
theorem walk_tupD {Z : Kx} {h : DH} {H : Hp} {a : Addr} {ds : List D} {vs : List V} (t : TupAt Z.K h H a vs) (r : RepL Z h H ds vs) : WalkD Z (Itt Z.K a) ds (fun _ => True) h H := by
  have w := walk_tup (K := Z.K) (a := a) (xs := vs)
  refine ⟨fun i H' h' hi fr R _ => w.goes i H' (by rw [← r.length]; exact hi) (t.fr fr).sq, fun H' h' fr R _ => ?_, fun i H' h' x H2 hi fr R _ y => ?_⟩
  · rw [r.length]; exact w.stops H' (t.fr fr).sq
  · obtain ⟨e1, e2⟩ := w.yields i H' x H2 (by rw [← r.length]; exact hi) (t.fr fr).sq y
    subst e1
    obtain ⟨v, e3, r3⟩ := (RepL.fr fr _ _ r).get (List.getElem?_eq_getElem hi)
    rw [e2] at e3; cases e3
    exact ⟨Fr.refl, R, _, List.getElem?_eq_getElem hi, r3⟩
theorem walk_lvD {Z : Kx} {h : DH} {H : Hp} {a : Addr} {ds : List D} {vs : List V} (t : LstAt h H a vs) (r : RepL Z h H ds vs) : WalkD Z (Itl Z.K a) ds (fun _ => True) h H := by
  have w := walk_list (K := Z.K) (a := a) (xs := vs)
  refine ⟨fun i H' h' hi fr R _ => w.goes i H' (by rw [← r.length]; exact hi) (t.fr fr).sq, fun H' h' fr R _ => ?_, fun i H' h' x H2 hi fr R _ y => ?_⟩
  · rw [r.length]; exact w.stops H' (t.fr fr).sq
  · obtain ⟨e1, e2⟩ := w.yields i H' x H2 (by rw [← r.length]; exact hi) (t.fr fr).sq y
    subst e1
    obtain ⟨v, e3, r3⟩ := (RepL.fr fr _ _ r).get (List.getElem?_eq_getElem hi)
    rw [e2] at e3; cases e3
    exact ⟨Fr.refl, R, _, List.getElem?_eq_getElem hi, r3⟩
theorem walk_refD {Z : Kx} {h : DH} {H : Hp} {p : Addr} {ds : List D} : WalkD Z (Itl Z.K p) ds (fun h' => h' p = some (.lst ds)) h H := by
  have key : ∀ {H' : Hp} {h' : DH}, RH Z h' H' → h' p = some (.lst ds) → ∃ vs, SqL Z.K H' p vs ∧ RepL Z h' H' ds vs := fun {H' h'} R G => by
    obtain ⟨_, vs, q, r⟩ := R p _ G
    exact ⟨vs, SqL.of q, r⟩
  refine ⟨fun i H' h' hi fr R G => ?_, fun H' h' fr R G => ?_, fun i H' h' x H2 hi fr R G y => ?_⟩
  · obtain ⟨vs, q, r⟩ := key R G
    exact walk_list.goes i H' (by rw [← r.length]; exact hi) q
  · obtain ⟨vs, q, r⟩ := key R G
    rw [r.length]; exact walk_list.stops H' q
  · obtain ⟨vs, q, r⟩ := key R G
    obtain ⟨e1, e2⟩ := walk_list.yields i H' x H2 (by rw [← r.length]; exact hi) q y
    subst e1
    obtain ⟨v, e3, r3⟩ := r.get (List.getElem?_eq_getElem hi)
    rw [e2] at e3; cases e3
    exact ⟨Fr.refl, R, _, List.getElem?_eq_getElem hi, r3⟩
theorem pi_seq {tg l : Expr} {tl : TE} (hl : PE X l tl) : PI X tg l (fun σ H R => tl σ H fun x H1 => ∃ a, x = .ref a ∧ ((∃ xs, SqT X.K H1 a xs ∧ R (Itt X.K a) H1) ∨ (∃ xs, SqL X.K H1 a xs ∧ R (Itl X.K a) H1))) := by
  refine ⟨fun pins s σ H R I h => ?_⟩
  refine thn (hl.run pins s σ H _ I h) fun v s1 ⟨x, H1, I1, r1, q1⟩ => ?_
  obtain ⟨a, e, q⟩ := q1
  subst e
  cases r1
  rcases q with ⟨xs, hq, q⟩ | ⟨xs, hq, q⟩
  · obtain ⟨its, rv, p, hz⟩ := I1.tuple hq
    refine wpAny_pyIter_tuple (show s1.heap.IsTuple a its.toArray from p) ?_
    refine ⟨s1.heap.objs.size, [s1.heap.objs.size], _, _, H1, rfl, I1.kept (t' := s1.toks) fun b o e => Heap.get?_push_of_some _ e, turn_tuple a _, ⟨_, Heap.get?_push_size _ rfl, rfl, rfl⟩, fun b hb => ?_, q⟩
    have e : b = s1.heap.objs.size := by simpa using hb
    subst e
    exact I1.fpOk (Nat.le_refl _) (I1.hok.fresh (Nat.le_refl _))
  · obtain ⟨its, rv, p, hz⟩ := I1.list hq
    refine wpAny_pyIter_list p.isList ?_
    refine ⟨s1.heap.objs.size, [s1.heap.objs.size], _, _, H1, rfl, I1.kept (t' := s1.toks) fun b o e => Heap.get?_push_of_some _ e, turn_list a _, ⟨_, Heap.get?_push_size _ rfl, rfl, rfl⟩, fun b hb => ?_, q⟩
    have e : b = s1.heap.objs.size := by simpa using hb
    subst e
    exact I1.fpOk (Nat.le_refl _) (I1.hok.fresh (Nat.le_refl _))
theorem id_seq {tg : Expr} (he : ED X e te) : ID X tg e (rIter te) := by
  obtain ⟨t, p, f⟩ := he.ex
  refine ⟨_, pi_seq p, fun σ H sd h Rd R' rs R q w => ?_⟩
  refine f σ H sd h _ _ rs R q fun v H1 d h1 fr1 R1 r1 q1 => ?_
  unfold walkS at q1
  cases d with
  | tup ds =>
    obtain ⟨a, vs, rfl, t, r⟩ := r1
    exact ⟨a, rfl, .inl ⟨vs, t.sq, w _ H1 ds _ h1 fr1 R1 (walk_tupD t r) q1⟩⟩
  | lv ds =>
    obtain ⟨a, vs, rfl, t, r⟩ := r1
    exact ⟨a, rfl, .inr ⟨vs, t.sq, w _ H1 ds _ h1 fr1 R1 (walk_lvD t r) q1⟩⟩
  | ref p =>
    obtain ⟨ds, e, q1⟩ := q1
    obtain ⟨_, vs, e2, r⟩ := R1 p _ e
    exact ⟨p, r1, .inr ⟨vs, SqL.of e2, w _ H1 ds _ h1 fr1 R1 walk_refD q1⟩⟩
  | _ => exact q1.elim
/-- range(n), range(i, j) -/
def rangeD (lo : Int) (n : Nat) : List D := (List.range n).map fun (i : Nat) => D.int (lo + (i : Int))
def rRange (ta : TAD) : TID := fun sd h R => ta sd h fun ds h1 => match ds with
  | [.int n] => (-(2 ^ 62) ≤ n ∧ n < 2 ^ 62) ∧ R (rangeD 0 n.toNat) (fun _ => True) h1
  | [.int i, .int j] => (-(2 ^ 62) ≤ i ∧ i < 2 ^ 62 ∧ -(2 ^ 62) ≤ j ∧ j < 2 ^ 62) ∧ R (rangeD i (j - i).toNat) (fun _ => True) h1
  | _ => False
theorem walk_rangeD {Z : Kx} {h : DH} {H : Hp} (lo : Int) (n : Nat) : WalkD Z (Itr lo n) (rangeD lo n) (fun _ => True) h H := by
  have hl : (rangeD lo n).length = n := by unfold rangeD; simp
  refine ⟨fun i H' h' hi _ _ _ => by rw [hl] at hi; exact hi, fun H' h' _ _ _ => by rw [hl]; exact Nat.le_refl _, fun i H' h' x H2 hi fr R _ y => ?_⟩
  obtain ⟨e1, e2⟩ := y
  subst e1
  have hi' : i < n := by rw [hl] at hi; exact hi
  refine ⟨Fr.refl, R, .int (lo + (i : Int)), ?_, e2⟩
  unfold rangeD
  simp [hi']
variable {ta : TAD}
theorem id_range1 {tg : Expr} {p pos : Pos} (ha : AD X [a] ta) (hm : X.mg "range" = none) (hg : Gl X "range" := by rfl) (hs : starEach [a] X.env = [(false, eval a X.env)] := by rfl) : ID X tg (.Call (.Name "range" p) [a] [] pos) (rRange fun sd h Q => ta sd h fun ds h1 => ds.length = 1 ∧ Q ds h1) := by
  obtain ⟨t, pp, f⟩ := ha.ex
  refine ⟨_, pi_range1 hg hm pp hs, fun σ H sd h Rd R' rs R q w => ?_⟩
  refine f σ H sd h _ _ rs R q fun vs H1 ds h1 fr1 R1 r1 q1 => ?_
  obtain ⟨hl, q1⟩ := q1
  match ds, hl, r1, q1 with
  | [d], _, r1, q1 =>
    obtain ⟨v, us, rfl, r, e⟩ := r1
    cases (show us = [] from e)
    cases d with
    | int n => exact ⟨n, by rw [show v = V.int n from r], q1.1.1, q1.1.2, w _ H1 _ _ h1 fr1 R1 (walk_rangeD 0 n.toNat) q1.2⟩
    | _ => exact q1.elim
theorem id_range2 {tg : Expr} {p pos : Pos} (ha : AD X [a, b] ta) (hm : X.mg "range" = none) (hg : Gl X "range" := by rfl) (hs : starEach [a, b] X.env = [(false, eval a X.env), (false, eval b X.env)] := by rfl) (hs2 : starEach [b] X.env = [(false, eval b X.env)] := by rfl) :
    ID X tg (.Call (.Name "range" p) [a, b] [] pos) (rRange fun sd h Q => ta sd h fun ds h1 => ds.length = 2 ∧ Q ds h1) := by
  obtain ⟨t, pp, f⟩ := ha.ex
  refine ⟨_, pi_range2 hg hm pp hs hs2, fun σ H sd h Rd R' rs R q w => ?_⟩
  refine f σ H sd h _ _ rs R q fun vs H1 ds h1 fr1 R1 r1 q1 => ?_
  obtain ⟨hl, q1⟩ := q1
  match ds, hl, r1, q1 with
  | [d, e], _, r1, q1 =>
    obtain ⟨v, us, rfl, r, v2, us2, rfl, r2, e3⟩ := r1
    cases (show us2 = [] from e3)
    cases d with
    | int i => cases e with
      | int j => exact ⟨i, j, by rw [show v = V.int i from r, show v2 = V.int j from r2], q1.1, w _ H1 _ _ h1 fr1 R1 (walk_rangeD i (j - i).toNat) q1.2⟩
      | _ => exact q1.elim
    | _ => exact q1.elim
/-- zip of two sequences of one sort -/
def pairD (xs ys : List D) : List D := xs.zipWith (fun x y => D.tup [x, y]) ys
def rZip (ta : TAD) : TID := fun sd h R => ta sd h fun ds h1 => match ds with
  | [.tup xs, .tup ys] => R (pairD xs ys) (fun _ => True) h1
  | [.lv xs, .lv ys] => R (pairD xs ys) (fun _ => True) h1
  | _ => False
theorem pair_new {Z : Kx} {h : DH} {H : Hp} {x y : D} {v u : V} {T : Addr} (n : H T = none) (R : RH Z h H) (r1 : Rep Z h H x v) (r2 : Rep Z h H y u) :
    Fr h H h (upd H T (.tup [v, u])) ∧ RH Z h (upd H T (.tup [v, u])) ∧ Rep Z h (upd H T (.tup [v, u])) (.tup [x, y]) (.ref T) :=
  ⟨Fr.hid n R, RH.hid n R, tup_new n R ⟨v, [u], rfl, r1, .one r2⟩⟩
theorem walk_zipD {Z : Kx} {h : DH} {H : Hp} {J : It} {xs ys : List D} {G : DH → Prop} {GV : Hp → Prop} {n : Nat} {vs us : Nat → Option V} (hn : n = min xs.length ys.length) (wk : Walk J n GV (YPair vs us))
    (key : ∀ H' h', Fr h H h' H' → RH Z h' H' → G h' → GV H' ∧ (∀ i d, xs[i]? = some d → ∃ v, vs i = some v ∧ Rep Z h' H' d v) ∧ (∀ i d, ys[i]? = some d → ∃ v, us i = some v ∧ Rep Z h' H' d v)) : WalkD Z J (pairD xs ys) G h H := by
  have hl : (pairD xs ys).length = n := by unfold pairD; rw [List.length_zipWith, hn]
  refine ⟨fun i H' h' hi fr R g => wk.goes i H' (by rw [← hl]; exact hi) (key H' h' fr R g).1, fun H' h' fr R g => by rw [hl]; exact wk.stops H' (key H' h' fr R g).1, fun i H' h' x H2 hi fr R g y => ?_⟩
  obtain ⟨g1, k1, k2⟩ := key H' h' fr R g
  obtain ⟨T, v, u, rfl, nT, rfl, e1, e2⟩ := wk.yields i H' x H2 (by rw [← hl]; exact hi) g1 y
  have h1 : i < xs.length := by rw [hl] at hi; omega
  have h2 : i < ys.length := by rw [hl] at hi; omega
  obtain ⟨v', e3, r1⟩ := k1 i _ (List.getElem?_eq_getElem h1)
  obtain ⟨u', e4, r2⟩ := k2 i _ (List.getElem?_eq_getElem h2)
  rw [e1] at e3; cases e3
  rw [e2] at e4; cases e4
  obtain ⟨f1, f2, f3⟩ := pair_new nT R r1 r2
  refine ⟨f1, f2, _, ?_, f3⟩
  unfold pairD
  rw [List.getElem?_zipWith, List.getElem?_eq_getElem h1, List.getElem?_eq_getElem h2]
theorem walk_zipT {K : PySem.W.Frag} {a b : Addr} {xs ys : List V} {n : Nat} (hn : n = min xs.length ys.length) : Walk (RZ.ItzT K a b) n (fun H => SqT K H a xs ∧ SqT K H b ys) (YPair (fun i => xs[i]?) (fun i => ys[i]?)) := by
  subst hn
  refine ⟨fun i _ hi q => ?_, fun _ q => ⟨xs, ys, q.1, q.2, by omega⟩, fun i H v H' _ q y => ?_⟩
  · have h1 : i < xs.length := by omega
    have h2 : i < ys.length := by omega
    exact ⟨xs, ys, xs[i], ys[i], q.1, q.2, by simp [h1], by simp [h2]⟩
  · obtain ⟨T, x, z, h1, h2, h3, h4, h5⟩ := y
    exact ⟨T, x, z, h1, h2, h3, h4 xs q.1, h5 ys q.2⟩
theorem id_zip {elts : List Expr} {kk : Nat} {tpos p pos : Pos} (ha : AD X [a, b] ta) (hm : X.mg "zip" = none) (hg : Gl X "zip" := by rfl)
    (hs : starEach [a, b] X.env = (false, eval a X.env) :: starEach [b] X.env := by rfl) (hpl : (backTo pos (starEach [b] X.env)).any (·.1) = false := by rfl) : ID X (.Tuple elts kk tpos) (.Call (.Name "zip" p) [a, b] [] pos) (rZip ta) := by
  obtain ⟨t, pp, f⟩ := ha.ex
  refine ⟨_, RZ.pi_zipA hg hm pp hs hpl, fun σ H sd h Rd R' rs R q w => ?_⟩
  refine f σ H sd h _ _ rs R q fun vs H1 ds h1 fr1 R1 r1 q1 => ?_
  split at q1
  · obtain ⟨v, us, rfl, r, v2, us2, rfl, r2, e3⟩ := r1
    cases (show us2 = [] from e3)
    obtain ⟨pa, va, rfl, ta, ra⟩ := r
    obtain ⟨pb, vb, rfl, tb, rb⟩ := r2
    refine ⟨pa, pb, va, vb, rfl, .inr ⟨ta.sq, tb.sq, w _ H1 _ _ h1 fr1 R1 (walk_zipD rfl (walk_zipT (xs := va) (ys := vb) (by rw [ra.length, rb.length])) fun H' h' fr R' _ => ?_) q1⟩⟩
    exact ⟨⟨(ta.fr fr).sq, (tb.fr fr).sq⟩, fun i d e => (RepL.fr fr _ _ ra).get e, fun i d e => (RepL.fr fr _ _ rb).get e⟩
  · obtain ⟨v, us, rfl, r, v2, us2, rfl, r2, e3⟩ := r1
    cases (show us2 = [] from e3)
    obtain ⟨pa, va, rfl, ta, ra⟩ := r
    obtain ⟨pb, vb, rfl, tb, rb⟩ := r2
    refine ⟨pa, pb, va, vb, rfl, .inl ⟨ta.sq, tb.sq, w _ H1 _ _ h1 fr1 R1 (walk_zipD rfl (walk_zip (xs := va) (ys := vb) (by rw [ra.length, rb.length])) fun H' h' fr R' _ => ?_) q1⟩⟩
    exact ⟨⟨(ta.fr fr).sq, (tb.fr fr).sq⟩, fun i d e => (RepL.fr fr _ _ ra).get e, fun i d e => (RepL.fr fr _ _ rb).get e⟩
  · exact q1.elim
/-! ### texts, sign by sign -/
def signsD (z : Str) : List D := z.cps.toList.map fun c => D.str ⟨#[c]⟩
def rIterS (t : TED) : TID := fun sd h R => t sd h fun d h1 => match d with
  | .str z => R (signsD z) (fun _ => True) h1
  | _ => False
theorem id_str {tg : Expr} (he : ED X e te) : ID X tg e (rIterS te) := by
  obtain ⟨t, p, f⟩ := he.ex
  refine ⟨_, pi_str p, fun σ H sd h Rd R' rs R q w => ?_⟩
  refine f σ H sd h _ _ rs R q fun v H1 d h1 fr1 R1 r1 q1 => ?_
  cases d with
  | str z =>
    refine ⟨z, r1, w _ H1 _ _ h1 fr1 R1 ?_ q1⟩
    have hl : (signsD z).length = z.cps.size := by unfold signsD; simp
    refine ⟨fun i H' h' hi _ _ _ => walk_str.goes i H' (by rw [← hl]; exact hi) True.intro, fun H' h' _ _ _ => by rw [hl]; exact walk_str.stops H' True.intro, fun i H' h' x H2 hi fr R' _ y => ?_⟩
    obtain ⟨e1, c, e2, e3⟩ := walk_str.yields i H' x H2 (by rw [← hl]; exact hi) True.intro y
    subst e1
    refine ⟨Fr.refl, R', .str ⟨#[c]⟩, ?_, e3⟩
    unfold signsD
    rw [List.getElem?_map, Array.getElem?_toList, e2]
    rfl
  | _ => exact q1.elim
/-! ### comprehensions -/
/-- a target of a comprehension: it stores into the slots vs alone -/
def RGC (Z : Kx) (vs : List Nat) (t : TG) (td : TGD) : Prop := ∀ v d σ H sd h Qd Q, Rep Z h H d v → RepS Z h H sd σ → RH Z h H → td d sd h Qd → (∀ σ' H' sd' h', L2.wipe σ' vs = L2.wipe σ vs → Fr h H h' H' → RH Z h' H' → RepS Z h' H' sd' σ' → Qd sd' h' → Q σ' H') → t v σ H Q
def RGCs (Z : Kx) (vs : List Nat) (t : TGs) (td : TGsD) : Prop := ∀ us ds σ H sd h Qd Q, RepL Z h H ds us → RepS Z h H sd σ → RH Z h H → td ds sd h Qd → (∀ σ' H' sd' h', L2.wipe σ' vs = L2.wipe σ vs → Fr h H h' H' → RH Z h' H' → RepS Z h' H' sd' σ' → Qd sd' h' → Q σ' H') → t us σ H Q
structure GC (X : Cx) (vs : List Nat) (e : Expr) (td : TGD) : Prop where
  ex : ∃ t, PG X e t ∧ RGC (kx X) vs t td
structure GCs (X : Cx) (vs : List Nat) (es : List Expr) (td : TGsD) : Prop where
  ex : ∃ t, PGs X es t ∧ RGCs (kx X) vs t td
theorem wipe_set {σ : L2.St} {i : Nat} {v : Option V} : ∀ {vs : List Nat}, i ∈ vs → L2.wipe (σ.set i v) vs = L2.wipe σ vs
  | [], h => by cases h
  | j :: vs, h => by
    unfold L2.wipe
    by_cases hi : i ∈ vs
    · rw [wipe_set hi]
    · have e : i = j := by rcases List.mem_cons.mp h with e | e; exact e; exact absurd e hi
      subst e
      have z : ∀ (vs : List Nat) (σ : L2.St), i ∉ vs → L2.wipe (σ.set i v) vs = (L2.wipe σ vs).set i v := by
        intro vs
        induction vs with
        | nil => intro σ _; rfl
        | cons j vs ih =>
          intro σ hn
          unfold L2.wipe
          have h1 : i ≠ j := fun e => hn (by rw [e]; exact List.mem_cons_self)
          rw [ih σ fun z => hn (List.mem_cons_of_mem _ z), List.set_comm _ _ h1]
      rw [z vs σ hi, List.set_set]
theorem gc_name (i : Nat) {x : Str} {vs : List Nat} (hN : X.N.Nodup) (hv : i ∈ vs := by decide) (hi : X.N[i]? = some x := by rfl) (hx : Loc X.env.scope x := by first | exact Or.inl rfl | exact Or.inr rfl) (hf : X.fn x = true ∨ X.env.scope.names.lookup x = some .local := by first | exact .inl rfl | exact .inr rfl | assumption) : GC X vs (.Name x pos) (dName i) := by
  refine ⟨_, pg_name hN hi hx hf, fun v d σ H sd h Qd Q r rs R q w => ?_⟩
  unfold dName at q
  rw [ss_eq] at q
  exact w _ H _ h (wipe_set hv) Fr.refl R (rs.set r) q
theorem gcs_nil {vs : List Nat} : GCs X vs [] dNil := ⟨_, pgs_nil, fun us ds σ H sd h Qd Q r rs R q w => by
  cases ds with
  | nil => exact ⟨r, w σ H sd h rfl Fr.refl R rs q⟩
  | cons _ _ => exact q.elim⟩
theorem gcs_cons {vs : List Nat} {es : List Expr} {g : TGD} {u : TGsD} (h1 : GC X vs e g) (h2 : GCs X vs es u) (hs : (assignEach (e :: es) X.env).map (·.2) = assign e X.env :: (assignEach es X.env).map (·.2) := by rfl) : GCs X vs (e :: es) (dCons g u) := by
  obtain ⟨t, p, f⟩ := h1.ex
  obtain ⟨s, p2, f2⟩ := h2.ex
  refine ⟨_, pgs_cons p p2 hs, fun us ds σ H sd h Qd Q r rs R q w => ?_⟩
  cases ds with
  | nil => exact q.elim
  | cons d ds =>
    obtain ⟨v, us, rfl, r1, r2⟩ := r
    refine ⟨v, us, rfl, f v d σ H sd h _ _ r1 rs R q fun σ1 H1 sd1 h1 hw fr1 R1 rs1 q1 => ?_⟩
    exact f2 us ds σ1 H1 sd1 h1 _ _ (RepL.fr fr1 _ _ r2) rs1 R1 q1 fun σ2 H2 sd2 h2 hw2 fr2 => w σ2 H2 sd2 h2 (hw2.trans hw) (fr1.trans fr2)
theorem gc_tup {vs : List Nat} {es : List Expr} {k : Nat} {u : TGsD} (n : Nat) (h : GCs X vs es u) (hc : X.calm = true := by rfl) (hn : (assignEach es X.env).length = n := by rfl) (hst : (assignEach es X.env).findIdx? (·.1) = none := by rfl) : GC X vs (.Tuple es k pos) (dTup n u) := by
  obtain ⟨t, p, f⟩ := h.ex
  refine ⟨_, pg_tup hc p hn hst, fun v d σ H sd h Qd Q r rs R q w => ?_⟩
  cases d with
  | tup ds =>
    obtain ⟨a, vs, rfl, tt, r⟩ := r
    exact ⟨a, vs, rfl, tt.sq, by rw [← r.length]; exact q.1, f vs ds σ H sd h _ _ r rs R q.2 w⟩
  | _ => exact q.elim
/-! the readings that do not hang on where one stands -/
def liftE (Z : Kx) (td : TED) : TE := fun σ H Q => ∃ sd h Qd, RepS Z h H sd σ ∧ RH Z h H ∧ td sd h Qd ∧ WV Z h H Qd Q
def liftT (Z : Kx) (td : TTD) : TT := fun σ H Q => ∃ sd h Qd, RepS Z h H sd σ ∧ RH Z h H ∧ td sd h Qd ∧ WB Z h H Qd Q
def liftG (Z : Kx) (vs : List Nat) (td : TGD) : TG := fun v σ H Q => ∃ d sd h Qd, Rep Z h H d v ∧ RepS Z h H sd σ ∧ RH Z h H ∧ td d sd h Qd ∧ ∀ σ' H' sd' h', L2.wipe σ' vs = L2.wipe σ vs → Fr h H h' H' → RH Z h' H' → RepS Z h' H' sd' σ' → Qd sd' h' → Q σ' H'
theorem ED.canon (he : ED X e te) : PE X e (liftE (kx X) te) := by
  obtain ⟨t, p, f⟩ := he.ex
  exact ⟨fun pins s σ H Q I ⟨sd, h, Qd, rs, R, q, w⟩ => p.run pins s σ H Q I (f σ H sd h Qd Q rs R q w)⟩
theorem CD.canon (he : CD X e cA) : PT X e (liftT (kx X) cA) := by
  obtain ⟨t, p, f⟩ := he.ex
  exact ⟨fun pins s σ H Q I ⟨sd, h, Qd, rs, R, q, w⟩ => p.run pins s σ H Q I (f σ H sd h Qd Q rs R q w)⟩
theorem GC.canon {vs : List Nat} {g : TGD} (he : GC X vs e g) : PG X e (liftG (kx X) vs g) := by
  obtain ⟨t, p, f⟩ := he.ex
  exact ⟨fun pins s σ H v u Q I r ⟨d, sd, h, Qd, r2, rs, R, q, w⟩ => p.run pins s σ H v u Q I r (f v d σ H sd h Qd Q r2 rs R q w)⟩
structure CsD (X : Cx) (ifs : List Expr) (td : TTD) : Prop where
  ex : PTs X ifs (liftT (kx X) td)
def bYes : TTD := fun _ h Q => Q true h
theorem cs_nil : CsD X [] bYes := ⟨⟨fun pins s σ H Q I ⟨sd, h, Qd, rs, R, q, w⟩ => pts_nil.run pins s σ H Q I (w true H h Fr.refl R q)⟩⟩
theorem cs_one (hc : CD X c cA) : CsD X [c] cA := ⟨pts_one hc.canon⟩
/-- [e for target in items if test]: acc so far, the new list at L -/
def rCompL (g : TGD) (tt : TTD) (te : TED) (sw : SD) (G : DH → Prop) (k : List D → DH → Prop) (L : Addr) : List D → List D → DH → Prop
  | [], acc, h => G h ∧ h L = some (.lst acc) ∧ k acc (del h L)
  | x :: xs, acc, h => G h ∧ g x sw h fun s2 h2 => tt s2 h2 fun b h3 => bC b (te s2 h3 fun y h4 => h4 L = some (.lst acc) ∧ rCompL g tt te sw G k L xs (acc ++ [y]) (up h4 L (.lst (acc ++ [y])))) (rCompL g tt te sw G k L xs acc h3)
def rComp (wi : TID) (g : TGD) (tt : TTD) (te : TED) (vs : List Nat) : TED := fun sd h Q => wi sd h fun items G h1 => items.length ≤ sizeLine ∧ ∀ L, h1 L = none → rCompL g tt te (wipeD sd vs) G (fun acc h2 => Q (.lv acc) h2) L items [] (up h1 L (.lst []))
theorem wipe_get (σ : L2.St) (i : Nat) : ∀ vs : List Nat, (L2.wipe σ vs)[i]? = if i ∈ vs then σ[i]?.map (fun _ => none) else σ[i]?
  | [] => by simp [L2.wipe]
  | v :: vs => by
    unfold L2.wipe
    by_cases e : v = i
    · subst e
      rw [if_pos List.mem_cons_self]
      by_cases hv : v < σ.length
      · rw [List.getElem?_set_self (by rw [wipe_length]; exact hv), List.getElem?_eq_getElem hv]; rfl
      · rw [List.getElem?_eq_none (by rw [List.length_set, wipe_length]; omega), List.getElem?_eq_none (by omega)]; rfl
    · rw [List.getElem?_set_ne e, wipe_get σ i vs]
      by_cases hm : i ∈ vs
      · rw [if_pos hm, if_pos (List.mem_cons_of_mem _ hm)]
      · rw [if_neg hm, if_neg (fun z => (List.mem_cons.mp z).elim (fun q => e q.symm) hm)]
theorem wipe_wipe (σ : L2.St) (vs : List Nat) : L2.wipe (L2.wipe σ vs) vs = L2.wipe σ vs := by
  apply List.ext_getElem?
  intro i
  rw [wipe_get, wipe_get]
  by_cases hm : i ∈ vs
  · rw [if_pos hm, if_pos hm]; cases σ[i]? <;> rfl
  · rw [if_neg hm, if_neg hm]
theorem comp_core {wi : TID} {g : TGD} {tt : TTD} {tE : TED} {vs : List Nat} {wi' : TI} {sd : SD} {σ : L2.St} {h : DH} {H : Hp} {Q : VK} {Qd : D → DH → Prop} (f0 : RI (kx X) wi' wi) (rs : RepS (kx X) h H sd σ) (R : RH (kx X) h H)
    (q : rComp wi g tt tE vs sd h Qd) (w : WV (kx X) h H Qd Q) : tLc wi' (liftG (kx X) vs g) (liftT (kx X) tt) (liftE (kx X) tE) vs σ H Q := by
  refine f0 σ H sd h _ _ rs R q fun J H1 items G h1 fr1 R1 wk q1 => ?_
  intro L nL
  obtain ⟨hz, q1⟩ := q1
  have q1 := q1 L (R1.free nL)
  generalize hk : (fun acc h2 => Qd (D.lv acc) h2) = kk at q1
  let W : Nat → Hp → Prop := fun i H' => ∃ h' acc, Fr h1 H1 h' H' ∧ RH (kx X) h' H' ∧ acc.length ≤ i ∧ rCompL g tt tE (wipeD sd vs) G kk L (items.drop i) acc h'
  refine ⟨fun i m H' => m = items.length - i ∧ i ≤ items.length ∧ W i H', ⟨items.length, by simp, Nat.zero_le _, up h1 L (.lst []), [], Fr.new nL R1, lst_new nL R1 rfl, Nat.le_refl _, q1⟩, ?_⟩
  rintro i m H2 ⟨rfl, hi, h2, acc, fr2, R2, la, q2⟩
  by_cases hlt : i < items.length
  · rw [List.drop_eq_getElem_cons hlt] at q2
    obtain ⟨hG, q2⟩ := q2
    refine .inr ⟨wk.goes i H2 h2 hlt fr2 R2 hG, W (i + 1), fun H' x => ⟨items.length - (i + 1), by omega, rfl, hlt, x⟩, fun x H' y => ?_⟩
    obtain ⟨fr3, R3, d, e, r3⟩ := wk.yields i H2 h2 x H' hlt fr2 R2 hG y
    rw [List.getElem?_eq_getElem hlt] at e
    cases e
    refine ⟨_, wipeD sd vs, h2, _, r3, (rs.wipe vs).fr ((fr1.trans fr2).trans fr3), R3, q2, fun σ4 H4 sd4 h4 hw fr4 R4 rs4 q4 => ⟨?_, ?_⟩⟩
    · rw [hw, wipe_wipe]
    have frA := (fr2.trans fr3).trans fr4
    refine ⟨sd4, h4, _, rs4, R4, q4, fun b H5 h5 fr5 R5 q5 => ?_⟩
    cases b with
    | false =>
      rw [if_neg Bool.false_ne_true]
      replace q5 := q5.2 rfl
      exact ⟨h5, acc, frA.trans fr5, R5, Nat.le_succ_of_le la, q5⟩
    | true =>
      rw [if_pos rfl]
      replace q5 := q5.1 rfl
      refine ⟨sd4, h5, _, rs4.fr fr5, R5, q5, fun v H6 d h6 fr6 R6 r6 q6 => ?_⟩
      obtain ⟨e6, q6⟩ := q6
      obtain ⟨_, us, eu, ru⟩ := R6 L _ e6
      refine ⟨us, eu, ?_, up h6 L (.lst (acc ++ [d])), acc ++ [d], ((frA.trans fr5).trans fr6).trans (Fr.write e6), RH.write e6 R6 ⟨us ++ [v], upd_same, RepL.fr (Fr.write e6) _ _ (ru.append (.one r6))⟩, ?_, q6⟩
      · rw [← ru.length]; exact Nat.lt_of_le_of_lt la (Nat.lt_of_lt_of_le hlt hz)
      · rw [List.length_append]; exact Nat.succ_le_succ la
  · have e : i = items.length := by omega
    subst e
    rw [List.drop_length] at q2
    obtain ⟨g2, e2, q2⟩ := q2
    obtain ⟨_, us, eu, ru⟩ := R2 L _ e2
    subst hk
    exact .inl ⟨wk.stops H2 h2 fr2 R2 g2, w _ H2 (.lv acc) _ ((fr1.trans fr2).trans Fr.del) R2.del ⟨L, us, rfl, ⟨del_same, eu⟩, RepL.fr Fr.del _ _ ru⟩ q2⟩
/-- the block's own names and their slots -/
theorem ed_comp {elt tg iter : Expr} {ifs : List Expr} {scope : Scope} {own : List (Str × Nat)} {wi : TID} {g : TGD} {tt : TTD} {tE : TED} (ok : BlkOk X.N X.env.scope scope own) (hN : X.N.Nodup) (hi : ID X tg iter wi)
    (hg : ∀ (s : Shared) (H : Hp) (C : Addr) (cl : List (Str × Addr)) (fp : List Addr), GC (X.blk s H scope (compEnvC scope cl C X.env) fp) (own.map (·.2)) tg g) (ht : ∀ (s : Shared) (H : Hp) (C : Addr) (cl : List (Str × Addr)) (fp : List Addr), CsD (X.blk s H scope (compEnvC scope cl C X.env) fp) ifs tt)
    (he : ∀ (s : Shared) (H : Hp) (C : Addr) (cl : List (Str × Addr)) (fp : List Addr), ED (X.blk s H scope (compEnvC scope cl C X.env) fp) elt tE) (hc : X.calm = true := by rfl) (hs : ∀ x, foldedSetIterable iter X.env x = pure x := by intro _; rfl) :
    ED X (.ListComp elt [⟨tg, iter, ifs, 0⟩] scope pos) (rComp wi g tt tE (own.map (·.2))) := by
  obtain ⟨wi', p0, f0⟩ := hi.ex
  exact ⟨_, pe_lc (te := liftE (kx X) tE) (tt := liftT (kx X) tt) (g := liftG (kx X) (own.map (·.2)) g) hc hN p0 ok (fun s H C cl fp => (hg s H C cl fp).canon) (fun s H C cl fp => (ht s H C cl fp).ex) (fun s H C cl fp => (he s H C cl fp).canon) hs,
    fun σ H sd h Qd Q rs R q w => comp_core f0 rs R q w⟩
theorem sd_setComp (i : Nat) {y : Str} {py spos : Pos} {elt tg iter : Expr} {ifs : List Expr} {scope : Scope} {own : List (Str × Nat)} {wi : TID} {g : TGD} {tt : TTD} {tE : TED} (ok : BlkOk X.N X.env.scope scope own) (hN : X.N.Nodup) (hi : ID X tg iter wi)
    (hg : ∀ (s : Shared) (H : Hp) (C : Addr) (cl : List (Str × Addr)) (fp : List Addr), GC (X.blk s H scope (compEnvC scope cl C X.env) fp) (own.map (·.2)) tg g) (ht : ∀ (s : Shared) (H : Hp) (C : Addr) (cl : List (Str × Addr)) (fp : List Addr), CsD (X.blk s H scope (compEnvC scope cl C X.env) fp) ifs tt)
    (he : ∀ (s : Shared) (H : Hp) (C : Addr) (cl : List (Str × Addr)) (fp : List Addr), ED (X.blk s H scope (compEnvC scope cl C X.env) fp) elt tE)
    (hsw : swapsWith (.ListComp elt [⟨tg, iter, ifs, 0⟩] scope pos) (some (.Name y py)) spos.line X.env = pure true) (hy : X.N[i]? = some y := by rfl) (hyl : X.env.scope.names.lookup y = some .local := by rfl) (hc : X.calm = true := by rfl) (hs : ∀ x, foldedSetIterable iter X.env x = pure x := by intro _; rfl) :
    SDt X (.Assign [.Name y py] (.ListComp elt [⟨tg, iter, ifs, 0⟩] scope pos) spos) (rAsg (rComp wi g tt tE (own.map (·.2))) (dName i)) := by
  obtain ⟨wi', p0, f0⟩ := hi.ex
  refine ⟨_, ps_setLc (te := liftE (kx X) tE) (tt := liftT (kx X) tt) (g := liftG (kx X) (own.map (·.2)) g) hc hN hy hyl hsw p0 ok (fun s H C cl fp => (hg s H C cl fp).canon) (fun s H C cl fp => (ht s H C cl fp).ex) (fun s H C cl fp => (he s H C cl fp).canon) hs,
    fun σ H sd h Dd D rs R q w => ?_⟩
  refine comp_core f0 rs R q fun v H1 d h1 fr1 R1 r1 q1 => ?_
  unfold dName at q1
  rw [ss_eq] at q1
  exact w.nx _ H1 _ h1 fr1 R1 ((rs.fr fr1).set r1) q1
end
/-- the common case: each item is looked at without a change of what stands -/
theorem comp_map {g : TGD} {tt : TTD} {tE : TED} {sw : SD} {G : DH → Prop} {k : List D → DH → Prop} {h : DH} {L : Addr} (f : D → Option D) (hL : h L = none) (hG : ∀ h', (∀ a o, h a = some o → h' a = some o) → G h') : ∀ (items acc : List D),
    (∀ x ∈ items, ∀ (h' : DH) (Q1 : Option D → DH → Prop), (∀ a o, h a = some o → h' a = some o) → Q1 (f x) h' → g x sw h' fun s2 h2 => tt s2 h2 fun b h3 => bC b (tE s2 h3 fun y h4 => Q1 (some y) h4) (Q1 none h3)) →
    k (acc ++ items.filterMap f) h → rCompL g tt tE sw G k L items acc (up h L (.lst acc))
  | [], acc, _, q => by
    refine ⟨hG _ fun a o e => by rw [up_ne (fun z => by rw [z, hL] at e; cases e)]; exact e, up_same, ?_⟩
    rw [del_up hL]
    simpa using q
  | x :: xs, acc, st, q => by
    have hs : ∀ a o, h a = some o → (up h L (.lst acc)) a = some o := fun a o e => by rw [up_ne (fun z => by rw [z, hL] at e; cases e)]; exact e
    refine ⟨hG _ hs, ?_⟩
    have z := st x List.mem_cons_self (up h L (.lst acc)) (fun o h4 => match o with
      | some y => h4 L = some (.lst acc) ∧ rCompL g tt tE sw G k L xs (acc ++ [y]) (up h4 L (.lst (acc ++ [y])))
      | none => rCompL g tt tE sw G k L xs acc h4) hs
    refine z ?_
    have ih : ∀ acc, k (acc ++ xs.filterMap f) h → rCompL g tt tE sw G k L xs acc (up h L (.lst acc)) := fun acc q => comp_map f hL hG xs acc (fun x hx => st x (List.mem_cons_of_mem _ hx)) q
    cases e : f x with
    | none =>
      rw [List.filterMap_cons_none e] at q
      exact ih acc q
    | some y =>
      rw [List.filterMap_cons_some e] at q
      refine ⟨up_same, ?_⟩
      rw [up_up]
      exact ih (acc ++ [y]) (by rw [List.append_assoc]; exact q)
end DL
set_option Elab.async false
set_option linter.all false
set_option maxRecDepth 100000
set_option maxHeartbeats 1000000
namespace DL
open PySem PySem.Spec PyProof.Rows L2
variable [FldTab]
/-! ### fields -/
/-- f is the i-th field of the instances of C -/
def Fld (K : PySem.W.Frag) (f : Str) (C : Addr) (i : Nat) : Prop :=
  (FldTab.sl K C = false ∧ Cls K C ∧ NoAttr K C f ∧ (FldTab.F K C)[i]? = some f ∧ (FldTab.F K C).Nodup ∧ (FldTab.F K C).length < 1000) ∨ (FldTab.sl K C = true ∧ L2.SCls K C ∧ ∃ p j, L2.Slt K C f j p ∧ (FldTab.pl K C)[i]? = some j ∧ (FldTab.pl K C).Nodup)
/-- an instance: its class and fields -/
def insD (d : D) (h : DH) (k : Addr → List D → Prop) : Prop := match d with
  | .iv C vs => k C vs
  | .ref p => ∃ C vs, h p = some (.ins C vs) ∧ k C vs
  | _ => False
theorem insD_ok {Z : Kx} {h : DH} {H : Hp} {d : D} {v : V} {k : Addr → List D → Prop} (r : Rep Z h H d v) (R : RH Z h H) (q : insD d h k) : ∃ p C ds vs, v = .ref p ∧ InsAt Z h H p C vs ∧ RepL Z h H ds vs ∧ k C ds := by
  cases d with
  | iv C ds =>
    obtain ⟨a, vs, e, _, t, r⟩ := r
    exact ⟨a, C, ds, vs, e, t, r, q⟩
  | ref p =>
    obtain ⟨C, ds, e, q⟩ := q
    obtain ⟨_, vs, q1, q2⟩ := R p _ e
    exact ⟨p, C, ds, vs, r, q1, q2, q⟩
  | _ => exact q.elim
theorem zip_lookup : ∀ {ns : List Str} {vs : List V} {i : Nat} {f : Str} {v : V}, ns.Nodup → ns[i]? = some f → vs[i]? = some v → (ns.zip vs).lookup f = some v
  | [], _, _, _, _, _, e, _ => by simp at e
  | n :: ns, [], i, _, _, _, _, e => by simp at e
  | n :: ns, v :: vs, 0, f, u, _, e1, e2 => by
    simp at e1 e2
    subst e1 e2
    simp [List.zip_cons_cons, List.lookup]
  | n :: ns, v :: vs, i + 1, f, u, nd, e1, e2 => by
    simp at e1 e2
    have ne : (f == n) = false := by
      rw [beq_eq_false_iff_ne]
      intro z
      subst z
      exact (List.nodup_cons.mp nd).1 (List.mem_of_getElem? e1)
    rw [List.zip_cons_cons, List.lookup_cons, ne]
    exact zip_lookup (List.nodup_cons.mp nd).2 e1 e2
theorem lookup_none {ns : List Str} {m : Str} : ∀ {vs : List V}, m ∉ ns → (ns.zip vs).lookup m = none := by
  induction ns with
  | nil => intro vs _; rfl
  | cons n ns ih =>
    intro vs h
    cases vs with
    | nil => rfl
    | cons v vs =>
      have ne : (m == n) = false := by
        rw [beq_eq_false_iff_ne]
        exact fun z => h (by rw [z]; exact List.mem_cons_self)
      rw [List.zip_cons_cons, List.lookup_cons, ne]
      exact ih fun z => h (List.mem_cons_of_mem _ z)
/-- a slot of whatever class -/
def tSlA (K : PySem.W.Frag) (f : Str) (ta : TE) : TE := fun σ H Q => ta σ H fun x H1 => ∃ a C dx vs v p i, x = .ref a ∧ L2.SCls K C ∧ L2.Slt K C f i p ∧ SlAt H1 a C dx vs ∧ vs[i]? = some (some v) ∧ Q v H1
theorem pe_slA {X : Cx} {e : Expr} {f : Str} {pos : Pos} {ta : TE} (he : PE X e ta) (hb : attributeBase e f X.env (eval e X.env) = eval e X.env := by rfl) : PE X (.Attribute e f pos) (tSlA X.K f ta) := by
  refine ⟨fun pins s σ H Q I h => ?_⟩
  refine attr_of hb (thn (he.run pins s σ H _ I h) fun u s1 ⟨x, H1, I1, rx, a, C, dx, vs, v, p, i, ex, c, k, ea, l, q⟩ => ?_)
  subst ex
  obtain rfl : u = Value.ref a := rx
  exact getslot_ok I1 ea c k l fun u' s2 I2 ru => ⟨v, H1, I2, ru, q⟩
/-- either reading behind one value -/
def tFA (K : PySem.W.Frag) (f : Str) (ta : TE) : TE := fun σ H Q => ta σ H fun x H1 => (∃ a C dx fs v, x = .ref a ∧ H1 a = some (.ins C dx fs) ∧ Cls K C ∧ NoAttr K C f ∧ fs.lookup f = some v ∧ Q v H1) ∨
  (∃ a C dx vs v p i, x = .ref a ∧ L2.SCls K C ∧ L2.Slt K C f i p ∧ SlAt H1 a C dx vs ∧ vs[i]? = some (some v) ∧ Q v H1)
theorem pe_fA {X : Cx} {e : Expr} {f : Str} {pos : Pos} {ta : TE} (he : PE X e ta) (hb : attributeBase e f X.env (eval e X.env) = eval e X.env := by rfl) : PE X (.Attribute e f pos) (tFA X.K f ta) := by
  refine ⟨fun pins s σ H Q I h => ?_⟩
  refine attr_of hb (thn (he.run pins s σ H _ I h) fun u s1 ⟨x, H1, I1, rx, q⟩ => ?_)
  rcases q with ⟨a, C, dx, fs, v, ex, ea, c, n, l, q⟩ | ⟨a, C, dx, vs, v, p, i, ex, c, k, ea, l, q⟩
  · subst ex
    obtain rfl : u = Value.ref a := rx
    exact getattr_ok I1 ea c n l fun u' s2 I2 ru => ⟨v, H1, I2, ru, q⟩
  · subst ex
    obtain rfl : u = Value.ref a := rx
    exact getslot_ok I1 ea c k l fun u' s2 I2 ru => ⟨v, H1, I2, ru, q⟩
section
variable {X : Cx} {e o a b c : Expr} {f : Str} {pos pos' : Pos} {te tA tB : TED} {ta : TAD} {es : List Expr}
/-- e.f; Cs: the classes that it may be of, with the field's place -/
def rFld (Cs : List (Addr × Nat)) (t : TED) : TED := fun sd h Q => t sd h fun d h1 => insD d h1 fun C vs => ∃ i z, (C, i) ∈ Cs ∧ vs[i]? = some z ∧ Q z h1
theorem ed_fld {Cs : List (Addr × Nat)} (hC : ∀ q ∈ Cs, Fld X.K f q.1 q.2) (he : ED X e te) (hb : attributeBase e f X.env (eval e X.env) = eval e X.env := by rfl) : ED X (.Attribute e f pos) (rFld Cs te) := by
  obtain ⟨t, p, F⟩ := he.ex
  refine ⟨_, pe_fA p hb, fun σ H sd h Qd Q rs R q w => ?_⟩
  refine F σ H sd h _ _ rs R q fun v H1 d h1 fr1 R1 r1 q1 => ?_
  obtain ⟨a, C, ds, vs, rfl, t, r, i, z, hm, hz, q⟩ := insD_ok r1 R1 q1
  obtain ⟨u, hu, ru⟩ := r.get hz
  have fin := w u H1 z h1 fr1 R1 ru q
  have fl := hC _ hm
  unfold InsAt at t
  rcases fl with ⟨s, c, n, hi, nd, _⟩ | ⟨s, c, p, j, k, hj, _⟩
  · rw [if_neg (by show ¬ FldTab.sl X.K C = true; rw [s]; exact Bool.false_ne_true)] at t
    obtain ⟨dx, t, _⟩ := t
    exact .inl ⟨a, C, dx, _, u, rfl, t, c, n, zip_lookup nd hi hu, fin⟩
  · rw [if_pos (show FldTab.sl X.K C = true from s)] at t
    obtain ⟨dx, us, _, t, tv⟩ := t
    obtain ⟨j2, e1, e2⟩ := tv i u hu
    have ej := e1.symm.trans hj
    cases ej
    exact .inr ⟨a, C, dx, us, u, p, j, rfl, c, k, t, e2, fin⟩
/-! storing -/
def setV {α : Type} (vs : List α) (i : Nat) (z : α) : List α := if i < vs.length then vs.set i z else vs ++ [z]
theorem putF_set : ∀ {ns : List Str} {vs : List V} {i : Nat} {f : Str} {v : V}, ns.Nodup → ns[i]? = some f → i < vs.length → putF f v (ns.zip vs) = ns.zip (vs.set i v)
  | [], _, _, _, _, _, e, _ => by simp at e
  | n :: ns, [], i, _, _, _, _, h => by simp at h
  | n :: ns, u :: vs, 0, f, v, nd, e, _ => by
    simp at e
    subst e
    show (if n = n then (n, v) :: ns.zip vs else (n, u) :: putF n v (ns.zip vs)) = _
    rw [if_pos rfl]; rfl
  | n :: ns, u :: vs, i + 1, f, v, nd, e, h => by
    simp at e h
    have ne : ¬ n = f := fun z => (List.nodup_cons.mp nd).1 (by rw [z]; exact List.mem_of_getElem? e)
    show (if n = f then (n, v) :: ns.zip vs else (n, u) :: putF f v (ns.zip vs)) = _
    rw [if_neg ne, putF_set (List.nodup_cons.mp nd).2 e h]
    rfl
theorem putF_app : ∀ {ns : List Str} {vs : List V} {f : Str} {v : V}, ns.Nodup → ns[vs.length]? = some f → putF f v (ns.zip vs) = ns.zip (vs ++ [v])
  | [], _, _, _, _, e => by simp at e
  | n :: ns, [], f, v, nd, e => by
    simp at e
    subst e
    rw [List.zip_nil_right]
    show [(n, v)] = (n, v) :: ns.zip []
    rw [List.zip_nil_right]
  | n :: ns, u :: vs, f, v, nd, e => by
    simp at e
    have ne : ¬ n = f := fun z => (List.nodup_cons.mp nd).1 (by rw [z]; exact List.mem_of_getElem? e)
    show (if n = f then (n, v) :: ns.zip vs else (n, u) :: putF f v (ns.zip vs)) = _
    rw [if_neg ne, putF_app (List.nodup_cons.mp nd).2 e]
    rfl
/-- e.f = value: the object is in reach, its fields are made in their order -/
def rSetF (Cs : List (Addr × Nat)) (to tv : TED) : TSD := fun D sd h => tv sd h fun z h1 => to sd h1 fun d h2 => match d with
  | .ref p => ∃ C vs i, h2 p = some (.ins C vs) ∧ (C, i) ∈ Cs ∧ i ≤ vs.length ∧ D.nx sd (up h2 p (.ins C (setV vs i z)))
  | _ => False
/-- both ways of storing behind the values -/
def sFA (K : PySem.W.Frag) (f : Str) (to tv : TE) : TS := fun D σ H => tv σ H fun y H1 => to σ H1 fun x H2 => (∃ a C dx fs, x = .ref a ∧ H2 a = some (.ins C dx fs) ∧ Cls K C ∧ NoAttr K C f ∧ fs.length < 1000 ∧ D.nx σ (upd H2 a (.ins C dx (putF f y fs)))) ∨
  (∃ a C dx vs p i, x = .ref a ∧ L2.SCls K C ∧ L2.Slt K C f i p ∧ SlAt H2 a C dx vs ∧ D.nx σ (upd H2 a (L2.SlO C dx a (L2.putS i y vs))))
theorem ps_fA {value : Expr} {to tv : TE} (ha : PE X o to) (hv : PE X value tv) (hs : swapsWith value (some (.Attribute o f pos')) pos.line X.env = pure false) : PS X (.Assign [.Attribute o f pos'] value pos) (sFA X.K f to tv) := by
  refine ⟨fun pins s σ H D I h => ?_⟩
  refine plainObj_wpAny_Assign_Attribute (thn (hv.run pins s σ H _ I h) fun u s1 ⟨y, H1, I1, ry, q⟩ => thn (ha.run pins s1 σ H1 _ I1 q) fun ov s2 ⟨x, H2, I2, rx, q2⟩ => ?_) hs
  rcases q2 with ⟨a, C, dx, fs, ex, ea, c, n, l, q2⟩ | ⟨a, C, dx, vs, p, i, ex, c, k, ea, q2⟩
  · subst ex
    obtain rfl : ov = Value.ref a := rx
    exact setattr_ok I2 ea c n l ry fun s3 I3 => ⟨σ, _, I3, q2⟩
  · subst ex
    obtain rfl : ov = Value.ref a := rx
    exact setslot_ok I2 ea c k ry fun s3 I3 => ⟨σ, _, I3, q2⟩
theorem putS_at (j : Nat) (v : V) (us : List (Option V)) : (L2.putS j v us)[j]? = some (some v) := by
  unfold L2.putS
  exact List.getElem?_set_self (by simp only [List.length_append, List.length_replicate]; omega)
theorem putS_off {j l : Nat} {v w : V} {us : List (Option V)} (h : l ≠ j) (e : us[l]? = some (some w)) : (L2.putS j v us)[l]? = some (some w) := by
  unfold L2.putS
  rw [List.getElem?_set_ne (Ne.symm h), List.getElem?_append_left (List.getElem?_eq_some_iff.mp e).1]
  exact e
theorem nd_inj : ∀ {ps : List Nat} {i j : Nat} (_ : ps.Nodup) (h1 : i < ps.length) (h2 : j < ps.length), ps[i] = ps[j] → i = j
  | [], _, _, _, h1, _, _ => absurd h1 (Nat.not_lt_zero _)
  | p :: ps, 0, 0, _, _, _, _ => rfl
  | p :: ps, 0, j + 1, nd, _, h2, e => by
    exfalso
    have e : p = ps[j]'(Nat.lt_of_succ_lt_succ h2) := e
    exact (List.nodup_cons.mp nd).1 (by rw [e]; exact List.getElem_mem _)
  | p :: ps, i + 1, 0, nd, h1, _, e => by
    exfalso
    have e : ps[i]'(Nat.lt_of_succ_lt_succ h1) = p := e
    exact (List.nodup_cons.mp nd).1 (by rw [← e]; exact List.getElem_mem _)
  | p :: ps, i + 1, j + 1, nd, h1, h2, e => by
    rw [nd_inj (List.nodup_cons.mp nd).2 (Nat.lt_of_succ_lt_succ h1) (Nat.lt_of_succ_lt_succ h2) e]
theorem slots_set {ps : List Nat} {vs : List V} {us : List (Option V)} {i j : Nat} {v : V} (hi : i ≤ vs.length) (hj : ps[i]? = some j) (nd : ps.Nodup) (tv : ∀ (i : Nat) (v : V), vs[i]? = some v → ∃ j, ps[i]? = some j ∧ us[j]? = some (some v)) :
    ∀ (l : Nat) (w : V), (setV vs i v)[l]? = some w → ∃ j', ps[l]? = some j' ∧ (L2.putS j v us)[j']? = some (some w) := by
  intro l w e
  by_cases hl : l = i
  · subst hl
    have ew : w = v := by
      unfold setV at e
      split at e
      · rename_i h
        rw [List.getElem?_set_self h] at e
        exact (Option.some.inj e).symm
      · have : l = vs.length := by omega
        subst this
        rw [List.getElem?_append_right (Nat.le_refl _), Nat.sub_self] at e
        exact (Option.some.inj e).symm
    subst ew
    exact ⟨j, hj, putS_at _ _ _⟩
  · have e2 : vs[l]? = some w := by
      unfold setV at e
      split at e
      · rw [List.getElem?_set_ne (fun z => hl z.symm)] at e
        exact e
      · have hll : l < (vs ++ [v]).length := (List.getElem?_eq_some_iff.mp e).1
        rw [List.length_append] at hll
        have hll : l < vs.length + 1 := hll
        rw [List.getElem?_append_left (by omega)] at e
        exact e
    obtain ⟨j', e3, e4⟩ := tv l w e2
    refine ⟨j', e3, putS_off (fun z => ?_) e4⟩
    subst z
    have h1 := List.getElem?_eq_some_iff.mp e3
    have h2 := List.getElem?_eq_some_iff.mp hj
    obtain ⟨h1, q1⟩ := h1
    obtain ⟨h2, q2⟩ := h2
    exact hl (nd_inj nd h1 h2 (q1.trans q2.symm))
theorem putS_eq {i : Nat} {y : V} {vs : List V} (h : i ≤ vs.length) : L2.putS i y (vs.map some) = (setV vs i y).map some := by
  unfold L2.putS setV
  by_cases hi : i < vs.length
  · rw [if_pos hi, List.length_map, show i + 1 - vs.length = 0 by omega, List.replicate_zero, List.append_nil, List.map_set]
  · have e : i = vs.length := by omega
    subst e
    rw [if_neg hi, List.length_map, show vs.length + 1 - vs.length = 1 by omega, List.map_append]
    rw [show List.replicate 1 (none : Option V) = [none] from rfl, List.set_append_right _ _ (by simp)]
    simp
theorem RepL.setV {Z : Kx} {h : DH} {H : Hp} {ds : List D} {vs : List V} {d : D} {v : V} (r : RepL Z h H ds vs) (q : Rep Z h H d v) (i : Nat) : RepL Z h H (DL.setV ds i d) (DL.setV vs i v) := by
  unfold DL.setV
  rw [r.length]
  split
  · exact RepL.set q i r
  · exact r.append (.one q)
theorem sd_fld {value : Expr} {tv to : TED} {Cs : List (Addr × Nat)} (hC : ∀ q ∈ Cs, Fld X.K f q.1 q.2) (ha : ED X o to) (hv : ED X value tv) (hs : swapsWith value (some (.Attribute o f pos')) pos.line X.env = pure false := by rfl) :
    SDt X (.Assign [.Attribute o f pos'] value pos) (rSetF Cs to tv) := by
  obtain ⟨t, p, F⟩ := ha.ex
  obtain ⟨u, p2, F2⟩ := hv.ex
  refine ⟨_, ps_fA p p2 hs, fun σ H sd h Dd D rs R q w => ?_⟩
  refine F2 σ H sd h _ _ rs R q fun v H1 z h1 fr1 R1 r1 q1 => ?_
  refine F σ H1 sd h1 _ _ (rs.fr fr1) R1 q1 fun x H2 d h2 fr2 R2 r2 q2 => ?_
  cases d with
  | ref p =>
    · · obtain ⟨C, ds, i, e, hm, hi, q2⟩ := q2
        obtain ⟨_, vs, t, r⟩ := R2 p _ e
        have r1 := Rep.fr fr2 _ _ r1
        have fl := hC _ hm
        have hx : x = V.ref p := r2
        have hi' : i ≤ vs.length := by rw [← r.length]; exact hi
        have t0 := t
        unfold InsAt at t
        rcases fl with ⟨s, c, n, hf, nd, hl⟩ | ⟨s, c, pd, jp, k, hj, ndp⟩
        · have s' : ¬ FldTab.sl (kx X).K C = true := by show ¬ FldTab.sl X.K C = true; rw [s]; exact Bool.false_ne_true
          rw [if_neg s'] at t
          obtain ⟨dx, t, tl⟩ := t
          have hlz : ((FldTab.F X.K C).zip vs).length < 1000 := Nat.lt_of_le_of_lt (by rw [List.length_zip]; exact Nat.min_le_left _ _) hl
          refine .inl ⟨p, C, dx, _, hx, t, c, n, hlz, ?_⟩
          have ep : putF f v ((FldTab.F X.K C).zip vs) = (FldTab.F X.K C).zip (setV vs i v) := by
            unfold setV
            by_cases hlt : i < vs.length
            · rw [if_pos hlt, putF_set nd hf hlt]
            · have e : i = vs.length := by omega
              subst e
              rw [if_neg hlt, putF_app nd hf]
          rw [ep]
          have hlF : i < (FldTab.F X.K C).length := (List.getElem?_eq_some_iff.mp hf).1
          have rep : RepO (kx X) (up h2 p (.ins C (setV ds i z))) (upd H2 p (.ins C dx ((FldTab.F X.K C).zip (setV vs i v)))) p (.ins C (setV ds i z)) := by
            refine ⟨setV vs i v, ?_, RepL.fr (Fr.write e) _ _ (r.setV r1 i)⟩
            unfold InsAt
            rw [if_neg s']
            refine ⟨dx, upd_same, ?_⟩
            unfold setV
            have tl' : vs.length ≤ (FldTab.F X.K C).length := tl
            split
            · rw [List.length_set]; exact tl'
            · rw [List.length_append]; show vs.length + 1 ≤ (FldTab.F X.K C).length; omega
          exact w.nx σ _ sd _ ((fr1.trans fr2).trans (Fr.write e)) (RH.write e R2 rep) ((rs.fr (fr1.trans fr2)).fr (Fr.write e)) q2
        · have s' : FldTab.sl (kx X).K C = true := s
          rw [if_pos s'] at t
          obtain ⟨dx, us, nx, t, tv⟩ := t
          refine .inr ⟨p, C, dx, us, pd, jp, hx, c, k, t, ?_⟩
          have ndx : dx ≠ p := t.2.1
          have rep : RepO (kx X) (up h2 p (.ins C (setV ds i z))) (upd H2 p (L2.SlO C dx p (L2.putS jp v us))) p (.ins C (setV ds i z)) := by
            refine ⟨setV vs i v, ?_, RepL.fr (Fr.write e) _ _ (r.setV r1 i)⟩
            unfold InsAt
            rw [if_pos s']
            exact ⟨dx, _, by rw [up_ne ndx]; exact nx, t.here, slots_set hi' hj ndp tv⟩
          exact w.nx σ _ sd _ ((fr1.trans fr2).trans (Fr.write e)) (RH.write e R2 rep) ((rs.fr (fr1.trans fr2)).fr (Fr.write e)) q2
  | _ => exact q2.elim
/-! ### what a def promises -/
abbrev SpD := List D → DH → (D → DH → Prop) → Prop
def liftSp (Z : Kx) (sp : SpD) : Sp := fun vs H Q _ => ∃ ds h Qd, RepL Z h H ds vs ∧ RH Z h H ∧ sp ds h Qd ∧ WV Z h H Qd Q
/-- the def at f keeps the promise sp, k calls deep; dd: what fills up the parameters -/
structure FnD (Z : Kx) (mg : Str → Option Value) (base : Heap) (k : Nat) (f : Addr) (dd : List D) (sp : SpD) : Prop where
  ex : ∃ fd ps ds dvs, FnOk Z.P Z.w Z.K mg base CX0 k f fd ps (liftSp Z sp) ∧ Binds Z.K fd ps ds ∧ Vals dvs ds ∧ (∀ h H, RepL Z h H dd dvs)
  kp : PySem.W.keepIn Z.K (.ref f) = true
def rCall (sp : SpD) (dd : List D) (t : TAD) : TED := fun sd h Q => t sd h fun ds h1 => sp (ds ++ dd) h1 Q
variable {x : Str} {p : Pos} {sp : SpD} {dd : List D} {j k : Nat} {fa : Addr}
theorem ed_call (F : FnD (kx X) X.mg X.base j fa dd sp) (hr : Room k X.A) (hm : X.mg x = some (.ref fa)) (ha : AD X (e :: es) ta) (hj : j ≤ k := by decide) (hg : Gl X x := by rfl) (hdb : (x == ("__debug__" : Str)) = false := by decide)
    (he : starEach (e :: es) X.env = (false, eval e X.env) :: starEach es X.env := by rfl) (hpl : (backTo pos (starEach es X.env)).any (·.1) = false := by rfl) : ED X (.Call (.Name x p) (e :: es) [] pos) (rCall sp dd ta) := by
  obtain ⟨fd, ps, ds, dvs, G, hb, hv, hd⟩ := F.ex
  obtain ⟨t, pp, f⟩ := ha.ex
  refine ⟨_, pe_call G (hr.mono hj) hg hm F.kp hb hv pass0 pp hdb he hpl, fun σ H sd h Qd Q rs R q w => ?_⟩
  refine f σ H sd h _ _ rs R q fun vs H1 ds h1 fr1 R1 r1 q1 => ?_
  exact ⟨ds ++ dd, h1, Qd, r1.append (hd _ _), R1, q1, w.fr fr1⟩
theorem ed_call0 (F : FnD (kx X) X.mg X.base j fa dd sp) (hr : Room k X.A) (hm : X.mg x = some (.ref fa)) (hj : j ≤ k := by decide) (hg : Gl X x := by rfl) (hdb : (x == ("__debug__" : Str)) = false := by decide) : ED X (.Call (.Name x p) [] [] pos) (rCall sp dd rNil) := by
  obtain ⟨fd, ps, ds, dvs, G, hb, hv, hd⟩ := F.ex
  refine ⟨_, pe_call0 G (hr.mono hj) hg hm F.kp hb hv pass0 hdb, fun σ H sd h Qd Q rs R q w => ?_⟩
  exact ⟨dd, h, Qd, hd _ _, R, q, w⟩
/-- o.m(..), o an instance of the class at C (with a dict) -/
def rMeth (C : Addr) (sp : SpD) (dd : List D) (to : TED) (t : TAD) : TED := fun sd h Q => to sd h fun d h1 => insD d h1 fun C' _ => C' = C ∧ t sd h1 fun ds h2 => sp (d :: (ds ++ dd)) h2 Q
structure MethD (K : PySem.W.Frag) (C : Addr) (m : Str) (f : Addr) : Prop where
  cl : Cls K C
  me : Meth K C m f
  sl : FldTab.sl K C = false
  no : m ∉ FldTab.F K C
variable {C : Addr} {m : Str} {apos : Pos}
theorem ed_meth {pl : Sem Bool} (M : MethD X.K C m fa) (F : FnD (kx X) X.mg X.base j fa dd sp) (hr : Room k X.A) (ho : ED X o tA) (ha : AD X (e :: es) ta) (hj : j ≤ k := by decide)
    (hst : starEach (e :: es) X.env = (false, eval e X.env) :: starEach es X.env := by rfl) (hpl : (backTo pos (starEach es X.env)).any (·.1) = false := by rfl)
    (ht : eval (.Call (.Attribute o m apos) (e :: es) [] pos) X.env = (do
      let ov ← eval o X.env
      standAt apos.atName
      let (f, first) ← holding [ov] (getMethod ov m pl)
      callWith pos f first (backTo pos (starEach (e :: es) X.env)) (backToKw pos (keywordEach [] X.env))) := by rfl) : ED X (.Call (.Attribute o m apos) (e :: es) [] pos) (rMeth C sp dd tA ta) := by
  obtain ⟨fd, ps, ds, dvs, G, hb, hv, hd⟩ := F.ex
  obtain ⟨t0, p0, f0⟩ := ho.ex
  obtain ⟨t, pp, f⟩ := ha.ex
  refine ⟨_, pe_meth (pl := pl) p0 M.cl M.me G (hr.mono hj) hb hv pass0 pp hst hpl ht, fun σ H sd h Qd Q rs R q w => ?_⟩
  refine f0 σ H sd h _ _ rs R q fun v H1 d h1 fr1 R1 r1 q1 => ?_
  obtain ⟨a, C', ds', vs', rfl, tt, r, eC, q2⟩ := insD_ok r1 R1 q1
  subst eC
  unfold InsAt at tt
  rw [if_neg (by show ¬ FldTab.sl X.K C' = true; rw [M.sl]; exact Bool.false_ne_true)] at tt
  obtain ⟨dx, tt, _⟩ := tt
  refine ⟨a, dx, _, rfl, tt, lookup_none M.no, ?_⟩
  refine f σ H1 sd h1 _ _ (rs.fr fr1) R1 q2 fun us H2 es h2 fr2 R2 r2 q3 => ?_
  exact ⟨d :: (es ++ dd), h2, Qd, ⟨_, _, rfl, Rep.fr fr2 _ _ r1, r2.append (hd _ _)⟩, R2, q3, w.fr (fr1.trans fr2)⟩
theorem ed_meth0 {pl : Sem Bool} (M : MethD X.K C m fa) (F : FnD (kx X) X.mg X.base j fa dd sp) (hr : Room k X.A) (ho : ED X o tA) (hj : j ≤ k := by decide)
    (ht : eval (.Call (.Attribute o m apos) [] [] pos) X.env = (do
      let ov ← eval o X.env
      standAt apos.atName
      let (f, first) ← holding [ov] (getMethod ov m pl)
      callWith pos f first (backTo pos (starEach [] X.env)) (backToKw pos (keywordEach [] X.env))) := by rfl) : ED X (.Call (.Attribute o m apos) [] [] pos) (rMeth C sp dd tA rNil) := by
  obtain ⟨fd, ps, ds, dvs, G, hb, hv, hd⟩ := F.ex
  obtain ⟨t0, p0, f0⟩ := ho.ex
  refine ⟨_, pe_meth0 (pl := pl) p0 M.cl M.me G (hr.mono hj) hb hv pass0 ht, fun σ H sd h Qd Q rs R q w => ?_⟩
  refine f0 σ H sd h _ _ rs R q fun v H1 d h1 fr1 R1 r1 q1 => ?_
  obtain ⟨a, C', ds', vs', rfl, tt, r, eC, q2⟩ := insD_ok r1 R1 q1
  subst eC
  unfold InsAt at tt
  rw [if_neg (by show ¬ FldTab.sl X.K C' = true; rw [M.sl]; exact Bool.false_ne_true)] at tt
  obtain ⟨dx, tt, _⟩ := tt
  refine ⟨a, dx, _, rfl, tt, lookup_none M.no, ?_⟩
  exact ⟨d :: dd, h1, Qd, ⟨_, _, rfl, r1, hd _ _⟩, R1, q2, w.fr fr1⟩
/-- C(..), an object that will be changed; one that is not changed behind __init__ -/
def rMakeR (C : Addr) (sp : SpD) (dd : List D) (t : TAD) : TED := fun sd h Q => t sd h fun ds h1 => ∀ p, h1 p = none → sp (.ref p :: (ds ++ dd)) (up h1 p (.ins C [])) fun v h2 => isNon v = true ∧ Q (.ref p) h2
def rMake (C : Addr) (sp : SpD) (dd : List D) (t : TAD) : TED := fun sd h Q => t sd h fun ds h1 => ∀ p, h1 p = none → sp (.ref p :: (ds ++ dd)) (up h1 p (.ins C [])) fun v h2 => isNon v = true ∧ ∃ vs, h2 p = some (.ins C vs) ∧ Q (.iv C vs) (del h2 p)
theorem ins_new {Z : Kx} {h : DH} {H : Hp} {x dx C : Addr} (nx : H x = none) (nd : H dx = none) (ne : dx ≠ x) (R : RH Z h H) :
    Fr h H (up h x (.ins C [])) (upd (upd H dx (.own x)) x (.ins C dx [])) ∧ RH Z (up h x (.ins C [])) (upd (upd H dx (.own x)) x (.ins C dx [])) := by
  have R1 : RH Z h (upd H dx (.own x)) := RH.hid nd R
  have n1 : (upd H dx (.own x)) x = none := by rw [upd_ne (Ne.symm ne)]; exact nx
  refine ⟨(Fr.hid nd R).trans (Fr.new n1 R1), RH.new n1 R1 ⟨[], ?_, rfl⟩⟩
  unfold InsAt
  split
  · exact ⟨dx, [], by rw [up_ne ne]; exact R.free nd, SlAt.made ne, fun i v e => by simp at e⟩
  · exact ⟨dx, by rw [upd_same]; simp, Nat.zero_le _⟩
theorem ed_makeR (M : Mk X.K C fa) (F : FnD (kx X) X.mg X.base j fa dd sp) (hr : Room k X.A) (hm : X.mg x = some (.ref C)) (ha : AD X (e :: es) ta) (hj : j + 1 ≤ k := by decide) (hg : Gl X x := by rfl) (hdb : (x == ("__debug__" : Str)) = false := by decide)
    (he : starEach (e :: es) X.env = (false, eval e X.env) :: starEach es X.env := by rfl) (hpl : (backTo pos (starEach es X.env)).any (·.1) = false := by rfl) : ED X (.Call (.Name x p) (e :: es) [] pos) (rMakeR C sp dd ta) := by
  obtain ⟨fd, ps, ds, dvs, G, hb, hv, hd⟩ := F.ex
  obtain ⟨t, pp, f⟩ := ha.ex
  refine ⟨_, pe_make M G (hr.mono hj) hg hm hb hv pass0 pp hdb he hpl, fun σ H sd h Qd Q rs R q w => ?_⟩
  refine f σ H sd h _ _ rs R q fun vs H1 ds h1 fr1 R1 r1 q1 => ?_
  intro y dx ny nd ne
  obtain ⟨fr2, R2⟩ := ins_new (C := C) ny nd ne R1
  refine ⟨.ref y :: (ds ++ dd), _, _, ⟨_, _, rfl, rfl, (RepL.fr fr2 _ _ r1).append (hd _ _)⟩, R2, q1 y (R1.free ny), fun v H3 d h3 fr3 R3 r3 q3 => ⟨?_, ?_⟩⟩
  · exact of_decide_eq_true ((isNon_eq r3).trans q3.1)
  · exact w _ H3 (.ref y) h3 ((fr1.trans fr2).trans fr3) R3 rfl q3.2
theorem ed_make (M : Mk X.K C fa) (F : FnD (kx X) X.mg X.base j fa dd sp) (hr : Room k X.A) (hm : X.mg x = some (.ref C)) (ha : AD X (e :: es) ta) (hj : j + 1 ≤ k := by decide) (hg : Gl X x := by rfl) (hdb : (x == ("__debug__" : Str)) = false := by decide)
    (he : starEach (e :: es) X.env = (false, eval e X.env) :: starEach es X.env := by rfl) (hpl : (backTo pos (starEach es X.env)).any (·.1) = false := by rfl) : ED X (.Call (.Name x p) (e :: es) [] pos) (rMake C sp dd ta) := by
  obtain ⟨fd, ps, ds, dvs, G, hb, hv, hd⟩ := F.ex
  obtain ⟨t, pp, f⟩ := ha.ex
  refine ⟨_, pe_make M G (hr.mono hj) hg hm hb hv pass0 pp hdb he hpl, fun σ H sd h Qd Q rs R q w => ?_⟩
  refine f σ H sd h _ _ rs R q fun vs H1 ds h1 fr1 R1 r1 q1 => ?_
  intro y dx ny nd ne
  obtain ⟨fr2, R2⟩ := ins_new (C := C) ny nd ne R1
  refine ⟨.ref y :: (ds ++ dd), _, _, ⟨_, _, rfl, rfl, (RepL.fr fr2 _ _ r1).append (hd _ _)⟩, R2, q1 y (R1.free ny), fun v H3 d h3 fr3 R3 r3 q3 => ⟨?_, ?_⟩⟩
  · exact of_decide_eq_true ((isNon_eq r3).trans q3.1)
  · obtain ⟨_, vs, e3, q3⟩ := q3
    obtain ⟨_, us, t, r⟩ := R3 y _ e3
    exact w _ H3 (.iv C vs) _ (((fr1.trans fr2).trans fr3).trans Fr.del) R3.del ⟨y, us, rfl, del_same, t.fr Fr.del rfl, RepL.fr Fr.del _ _ r⟩ q3
/-- f(..), f an instance of C with a dict -/
structure CallD (K : PySem.W.Frag) (C f : Addr) : Prop where
  co : StX.CallO K C f
  sl : FldTab.sl K C = false
def rCallO (C : Addr) (sp : SpD) (to : TED) (t : TAD) : TED := fun sd h Q => to sd h fun d h1 => (match d with | .iv C' _ => C' = C | _ => False) ∧ t sd h1 fun ds h2 => sp (d :: ds) h2 Q
theorem ed_callO (c : CallD X.K C fa) (F : FnD (kx X) X.mg X.base j fa [] sp) (hr : Room k X.A) (ho : ED X o tA) (ha : AD X (e :: es) ta) (hj : j ≤ k := by decide)
    (ht : eval (.Call o (e :: es) [] pos) X.env = (do callWith pos (← eval o X.env) [] (backTo pos (starEach (e :: es) X.env)) (backToKw pos (keywordEach [] X.env))) := by rfl)
    (he : starEach (e :: es) X.env = (false, eval e X.env) :: starEach es X.env := by rfl) (hpl : (backTo pos (starEach es X.env)).any (·.1) = false := by rfl) : ED X (.Call o (e :: es) [] pos) (rCallO C sp tA ta) := by
  obtain ⟨fd, ps, ds, dvs, G, hb, hv, hd⟩ := F.ex
  obtain ⟨t0, p0, f0⟩ := ho.ex
  obtain ⟨t, pp, f⟩ := ha.ex
  have e0 : dvs = [] := hd (fun _ => none) (fun _ => none)
  subst e0
  cases hv
  have FR : FnR X.prog X.w X.K X.mg X.base CX0 j fa (liftSp (kx X) sp) := (FnOk.raw G hb .nil).imp fun vs H Q E z => by rw [List.append_nil]; exact z
  refine ⟨_, StX.pe_callO p0 c.co FR (hr.mono hj) pass0 pp ht he hpl, fun σ H sd h Qd Q rs R q w => ?_⟩
  refine f0 σ H sd h _ _ rs R q fun v H1 d h1 fr1 R1 r1 q1 => ?_
  cases d with
  | iv C' vs =>
    obtain ⟨e1, q1⟩ := q1
    subst e1
    obtain ⟨a, us, rfl, n, tt, r⟩ := r1
    refine ⟨a, rfl, ?_⟩
    refine f σ H1 sd h1 _ _ (rs.fr fr1) R1 q1 fun ws H2 es h2 fr2 R2 r2 q2 => ?_
    have r1' : Rep (kx X) h2 H2 (.iv C' vs) (.ref a) := Rep.fr fr2 _ _ ⟨a, us, rfl, n, tt, r⟩
    obtain ⟨a', us', ea, n', tt', r'⟩ := id r1'
    cases ea
    unfold InsAt at tt'
    rw [if_neg (by show ¬ FldTab.sl X.K C' = true; rw [c.sl]; exact Bool.false_ne_true)] at tt'
    obtain ⟨dx, tt', _⟩ := tt'
    exact ⟨.inr ⟨dx, _, tt'⟩, .iv C' vs :: es, h2, Qd, ⟨_, _, rfl, r1', r2⟩, R2, q2, w.fr (fr1.trans fr2)⟩
  | _ => exact q1.1.elim
end
end DL
set_option Elab.async false
set_option linter.all false
set_option maxRecDepth 100000
set_option maxHeartbeats 1000000
namespace DL
open PySem PySem.Spec PyProof.Rows L2
variable [FldTab]
/-! ### a def's body -/
/-- the slots at the entry -/
def st0 : Nat → List D → SD
  | 0, _ => []
  | n + 1, d :: ds => some d :: st0 n ds
  | n + 1, [] => none :: st0 n []
theorem st0_nil : ∀ n : Nat, st0 n [] = List.replicate n none
  | 0 => rfl
  | n + 1 => by rw [st0, st0_nil n]; rfl
theorem st0_rep {Z : Kx} {h : DH} {H : Hp} : ∀ {N : List Str} {ds : List D} {vs : List V}, RepL Z h H ds vs → ds.length ≤ N.length → RepS Z h H (st0 N.length ds) (L2.start N vs)
  | [], [], _, r, _ => by
    cases (show _ = [] from r)
    exact ⟨rfl, fun i d e => by simp [st0] at e⟩
  | [], _ :: _, _, _, h => absurd h (by simp)
  | x :: N, [], _, r, _ => by
    cases (show _ = [] from r)
    refine ⟨by rw [st0_nil]; unfold L2.start; simp, fun i d e => ?_⟩
    rw [st0_nil, List.getElem?_replicate] at e
    split at e <;> cases e
  | x :: N, d :: ds, _, r, hl => by
    obtain ⟨v, us, rfl, q, t⟩ := r
    have ih := st0_rep (N := N) t (by simpa using hl)
    have e : L2.start (x :: N) (v :: us) = some v :: L2.start N us := by
      unfold L2.start
      rw [List.map_cons, List.length_cons, List.length_cons, Nat.add_sub_add_right]
      rfl
    rw [e]
    refine ⟨by show (st0 N.length ds).length + 1 = (L2.start N us).length + 1; rw [ih.1], fun i c ec => ?_⟩
    cases i with
    | zero =>
      have ec : some (some d) = some (some c) := ec
      cases ec
      exact ⟨v, rfl, q⟩
    | succ i =>
      obtain ⟨u, h1, h2⟩ := ih.2 i c (by simpa [st0] using ec)
      exact ⟨u, by simpa using h1, h2⟩
section
variable {P : Program} {w : World} {K : PySem.W.Frag} {mg : Str → Option Value} {base : Heap} {name qual : Str} {params : Arguments} {body : List Stmt} {scope : Scope} {dvs : List V} {kws : List (Str × V)} {f : Addr} {fd : FuncData}
/-- THE RULE for a def: its derivation (in whatever frame), its reading -/
theorem fn_okD {N ps : List Str} {k : Nat} {sp : SpD} {tb : TSD} (F : FunD K name qual params body scope dvs kws f fd) (S : FnScope N ps scope)
    (der : ∀ (cdv : Value) (A : Around) (outer : List Env) (s : Shared) (H : Hp) (E : XK), Room k (A.deeper (envOfC qual scope s.heap.objs.size f cdv)) → SsD (cxOf CX0 P w K mg base N qual scope f cdv A outer s H E).nox body tb)
    (len : ∀ ds h Qd, sp ds h Qd → ds.length = ps.length) (read : ∀ ds h Qd, sp ds h Qd → tb ⟨fun _ h' => Qd .non h', Qd, fun _ _ => False, fun _ _ => False⟩ (st0 N.length ds) h) :
    FnOk P w K mg base CX0 (k + 1) f fd ps (liftSp ⟨P, w, K⟩ sp) := by
  refine F.ok S (fun vs H Q E h => ?_) (fun cdv A outer s H vs Q E hr h => ?_)
  · obtain ⟨ds, h', Qd, r, _, q, _⟩ := h
    rw [← r.length]
    exact len ds h' Qd q
  · obtain ⟨ds, h', Qd, r, R, q, wv⟩ := h
    obtain ⟨t, p, fr⟩ := (der cdv A outer s H E hr).ex
    refine ⟨t, p.nox, ?_⟩
    have hl : ds.length ≤ N.length := by
      rw [len ds h' Qd q]
      have := congrArg List.length S.pre
      rw [List.length_take] at this
      omega
    refine fr _ H _ h' _ _ (st0_rep r hl) R (read ds h' Qd q) ⟨fun σ1 H1 sd1 h1 fr1 R1 rs1 q1 => ?_, wv, fun σ1 H1 sd1 h1 fr1 R1 rs1 q1 => q1.elim, fun σ1 H1 sd1 h1 fr1 R1 rs1 q1 => q1.elim⟩
    exact wv .non H1 .non h1 fr1 R1 rfl q1
/-- .. of no defaults, called by values -/
theorem fnD0 {N ps : List Str} {k : Nat} {sp : SpD} {tb : TSD} (F : FunD K name qual params body scope [] kws f fd) (S : FnScope N ps scope)
    (hb : ∀ (kV doc pm : Value) (an : Option Addr) (cdv ct : Value) (us : List Value), us.length = ps.length → bindArgs (PySem.W.fnOf name qual params body scope .none kV doc pm an cdv ct) ⟨us, []⟩ = pure (ps.zip us))
    (der : ∀ (cdv : Value) (A : Around) (outer : List Env) (s : Shared) (H : Hp) (E : XK), Room k (A.deeper (envOfC qual scope s.heap.objs.size f cdv)) → SsD (cxOf CX0 P w K mg base N qual scope f cdv A outer s H E).nox body tb)
    (len : ∀ ds h Qd, sp ds h Qd → ds.length = ps.length) (read : ∀ ds h Qd, sp ds h Qd → tb ⟨fun _ h' => Qd .non h', Qd, fun _ _ => False, fun _ _ => False⟩ (st0 N.length ds) h) :
    FnD ⟨P, w, K⟩ mg base (k + 1) f [] sp := ⟨⟨fd, ps, [], [], fn_okD F S der len read, F.bindsN hb, .nil, fun _ _ => rfl⟩, F.kp⟩
end
/-! ### built-in functions and types, called by values -/
section
variable {X : Cx} {e a b : Expr} {es : List Expr} {te tA tB : TED} {ta : TAD} {x : Str} {p pos : Pos} {id T : String}
abbrev RcD := List D → DH → (D → DH → Prop) → Prop
structure CaD (X : Cx) (f : Value) (rd : RcD) : Prop where
  ex : ∃ r, CallR X f r ∧ ∀ vs ds H h Qd Q, RepL (kx X) h H ds vs → RH (kx X) h H → rd ds h Qd → WV (kx X) h H Qd Q → r vs H Q
def rCB (rd : RcD) (t : TAD) : TED := fun sd h Q => t sd h fun ds h1 => rd ds h1 Q
theorem ed_callB {rd : RcD} (c : CaD X (.builtin id) rd) (hm : X.mg x = none) (ha : AD X (e :: es) ta) (hv : bootBuiltins x = some (.builtin id) := by decide +kernel) (hg : Gl X x := by rfl) (hn : x ≠ "__name__" := by decide) (hdb : (x == ("__debug__" : Str)) = false := by decide)
    (he : starEach (e :: es) X.env = (false, eval e X.env) :: starEach es X.env := by rfl) (hpl : (backTo pos (starEach es X.env)).any (·.1) = false := by rfl) : ED X (.Call (.Name x p) (e :: es) [] pos) (rCB rd ta) := by
  obtain ⟨r, hc, hr⟩ := c.ex
  obtain ⟨t, pp, f⟩ := ha.ex
  refine ⟨_, pe_callB hc hg hm hv pp hn hdb he hpl, fun σ H sd h Qd Q rs R q w => ?_⟩
  exact f σ H sd h _ _ rs R q fun vs H1 ds h1 fr1 R1 r1 q1 => hr vs ds H1 h1 _ _ r1 R1 q1 (w.fr fr1)
theorem ed_callTy {rd : RcD} (c : CaD X (.type T) rd) (hm : X.mg x = none) (ha : AD X (e :: es) ta) (hv : bootBuiltins x = some (.type T) := by decide +kernel) (hg : Gl X x := by rfl) (hn : x ≠ "__name__" := by decide) (hdb : (x == ("__debug__" : Str)) = false := by decide)
    (he : starEach (e :: es) X.env = (false, eval e X.env) :: starEach es X.env := by rfl) (hpl : (backTo pos (starEach es X.env)).any (·.1) = false := by rfl) : ED X (.Call (.Name x p) (e :: es) [] pos) (rCB rd ta) := by
  obtain ⟨r, hc, hr⟩ := c.ex
  obtain ⟨t, pp, f⟩ := ha.ex
  refine ⟨_, pe_callTy hc hg hm hv pp hn hdb he hpl, fun σ H sd h Qd Q rs R q w => ?_⟩
  exact f σ H sd h _ _ rs R q fun vs H1 ds h1 fr1 R1 r1 q1 => hr vs ds H1 h1 _ _ r1 R1 q1 (w.fr fr1)
theorem RepL.one_of {Z : Kx} {h : DH} {H : Hp} {d : D} {vs : List V} (r : RepL Z h H [d] vs) : ∃ v, vs = [v] ∧ Rep Z h H d v := by
  obtain ⟨v, us, rfl, q, t⟩ := r
  cases (show us = [] from t)
  exact ⟨v, rfl, q⟩
theorem RepL.two_of {Z : Kx} {h : DH} {H : Hp} {d e : D} {vs : List V} (r : RepL Z h H [d, e] vs) : ∃ v u, vs = [v, u] ∧ Rep Z h H d v ∧ Rep Z h H e u := by
  obtain ⟨v, us, rfl, q, t⟩ := r
  obtain ⟨u, rfl, q2⟩ := RepL.one_of t
  exact ⟨v, u, rfl, q, q2⟩
/-! len -/
def seqR (d : D) (h : DH) (k : List D → Prop) : Prop := match d with
  | .tup ds => k ds
  | .lv ds => k ds
  | .ref p => (∃ ds, h p = some (.lst ds) ∧ k ds) ∨ (∃ ds, h p = some (.rol ds) ∧ k ds)
  | _ => False
theorem seqR_ok {Z : Kx} {h : DH} {H : Hp} {d : D} {v : V} {k : List D → Prop} (r : Rep Z h H d v) (R : RH Z h H) (q : seqR d h k) : ∃ p ds vs, v = .ref p ∧ (SqT Z.K H p vs ∨ SqL Z.K H p vs) ∧ RepL Z h H ds vs ∧ k ds := by
  cases d with
  | tup ds =>
    obtain ⟨a, vs, e, t, r⟩ := r
    exact ⟨a, ds, vs, e, .inl t.sq, r, q⟩
  | lv ds =>
    obtain ⟨a, vs, e, t, r⟩ := r
    exact ⟨a, ds, vs, e, .inr t.sq, r, q⟩
  | ref p =>
    rcases q with ⟨ds, e, q⟩ | ⟨ds, e, q⟩
    · obtain ⟨_, vs, q1, q2⟩ := R p _ e
      exact ⟨p, ds, vs, r, .inr (SqL.of q1), q2, q⟩
    · obtain ⟨_, o, vs, q1, q2⟩ := R p _ e
      exact ⟨p, ds, vs, r, .inr (.inl (.inr ⟨o, q1⟩)), q2, q⟩
  | _ => exact q.elim
def dLen : RcD := fun ds h Q => match ds with
  | [.str z] => z.length ≤ sizeLine ∧ Q (.int z.length) h
  | [d] => seqR d h fun xs => Q (.int xs.length) h
  | _ => False
theorem ca_len : CaD X (.builtin "len") dLen := ⟨_, call_len, fun vs ds H h Qd Q r R q w => by
  unfold dLen at q
  split at q
  · obtain ⟨v, rfl, rv⟩ := r.one_of
    exact ⟨v, _, rfl, (by rw [show v = V.str _ from rv]; exact ⟨q.1, rfl⟩), w _ H (.int _) h Fr.refl R rfl q.2⟩
  · obtain ⟨v, rfl, rv⟩ := r.one_of
    obtain ⟨p, xs, us, rfl, sq, ru, q⟩ := seqR_ok rv R q
    refine ⟨_, us.length, rfl, ?_, ?_⟩
    · rcases sq with sq | sq
      · exact .inr ⟨us, sq, rfl⟩
      · exact .inl ⟨us, sq, rfl⟩
    · exact w _ H (.int _) h Fr.refl R (by rw [ru.length]; rfl) q
  · exact q.elim⟩
/-! int, abs, min, max -/
def dInt : RcD := fun ds h Q => match ds with
  | [.int i] => Q (.int i) h
  | [.bl b] => Q (.int (if b = true then 1 else 0)) h
  | _ => False
theorem ca_int : CaD X (.type "int") dInt := ⟨_, call_int1, fun vs ds H h Qd Q r R q w => by
  unfold dInt at q
  split at q
  · obtain ⟨v, rfl, rv⟩ := r.one_of
    cases (show v = _ from rv)
    exact .inl ⟨_, rfl, w _ H (.int _) h Fr.refl R rfl q⟩
  · obtain ⟨v, rfl, rv⟩ := r.one_of
    cases (show v = _ from rv)
    exact .inr ⟨_, rfl, w _ H (.int _) h Fr.refl R rfl q⟩
  · exact q.elim⟩
def dAbs : RcD := fun ds h Q => match ds with
  | [.int i] => Q (.int (if i < 0 then -i else i)) h
  | _ => False
theorem ca_abs : CaD X (.builtin "abs") dAbs := ⟨_, call_abs, fun vs ds H h Qd Q r R q w => by
  unfold dAbs at q
  split at q
  · obtain ⟨v, rfl, rv⟩ := r.one_of
    cases (show v = _ from rv)
    exact ⟨_, rfl, w _ H (.int _) h Fr.refl R rfl q⟩
  · exact q.elim⟩
def dMax2 : RcD := fun ds h Q => match ds with
  | [.int i, .int j] => Q (.int (if j > i then j else i)) h
  | _ => False
def dMin2 : RcD := fun ds h Q => match ds with
  | [.int i, .int j] => Q (.int (if j < i then j else i)) h
  | _ => False
theorem ca_max2 (hc : X.calm = true := by rfl) : CaD X (.builtin "max") dMax2 := ⟨_, call_max2 hc, fun vs ds H h Qd Q r R q w => by
  unfold dMax2 at q
  split at q
  · obtain ⟨v, u, rfl, rv, ru⟩ := r.two_of
    cases (show v = _ from rv)
    cases (show u = _ from ru)
    exact ⟨_, _, rfl, w _ H (.int _) h Fr.refl R rfl q⟩
  · exact q.elim⟩
theorem ca_min2 (hc : X.calm = true := by rfl) : CaD X (.builtin "min") dMin2 := ⟨_, call_min2 hc, fun vs ds H h Qd Q r R q w => by
  unfold dMin2 at q
  split at q
  · obtain ⟨v, u, rfl, rv, ru⟩ := r.two_of
    cases (show v = _ from rv)
    cases (show u = _ from ru)
    exact ⟨_, _, rfl, w _ H (.int _) h Fr.refl R rfl q⟩
  · exact q.elim⟩
/-! list, tuple of a sequence -/
def dListOf : RcD := fun ds h Q => match ds with
  | [d] => seqR d h fun xs => Q (.lv xs) h
  | _ => False
def dListOfR : RcD := fun ds h Q => match ds with
  | [d] => seqR d h fun xs => ∀ p, h p = none → Q (.ref p) (up h p (.lst xs))
  | _ => False
theorem ca_list : CaD X (.type "list") dListOf := ⟨_, call_list_of, fun vs ds H h Qd Q r R q w => by
  unfold dListOf at q
  split at q
  · obtain ⟨v, rfl, rv⟩ := r.one_of
    obtain ⟨p, xs, us, rfl, sq, ru, q⟩ := seqR_ok rv R q
    exact ⟨p, us, rfl, sq.symm, fun l n => w _ _ _ h (Fr.hid n R) (RH.hid n R) (lv_new n R ru) q⟩
  · exact q.elim⟩
theorem ca_listR : CaD X (.type "list") dListOfR := ⟨_, call_list_of, fun vs ds H h Qd Q r R q w => by
  unfold dListOfR at q
  split at q
  · obtain ⟨v, rfl, rv⟩ := r.one_of
    obtain ⟨p, xs, us, rfl, sq, ru, q⟩ := seqR_ok rv R q
    exact ⟨p, us, rfl, sq.symm, fun l n => w _ _ (.ref l) _ (Fr.new n R) (lst_new n R ru) rfl (q l (R.free n))⟩
  · exact q.elim⟩
def dTupOf : RcD := fun ds h Q => match ds with
  | [d] => seqD d h fun xs => Q (.tup xs) h
  | _ => False
theorem ca_tuple : CaD X (.type "tuple") dTupOf := ⟨_, call_tuple_of, fun vs ds H h Qd Q r R q w => by
  unfold dTupOf at q
  split at q
  · obtain ⟨v, rfl, rv⟩ := r.one_of
    rename_i d
    cases d with
    | tup ds =>
      obtain ⟨a, us, rfl, t, r⟩ := rv
      exact ⟨a, us, rfl, .inr ⟨t.sq, w _ H (.tup ds) h Fr.refl R ⟨a, us, rfl, t, r⟩ q⟩⟩
    | lv ds =>
      obtain ⟨a, us, rfl, t, r⟩ := rv
      exact ⟨a, us, rfl, .inl ⟨t.sq, fun l n => w _ _ (.tup ds) h (Fr.hid n R) (RH.hid n R) (tup_new n R r) q⟩⟩
    | ref p =>
      obtain ⟨ds, e, q⟩ := q
      obtain ⟨_, us, q1, q2⟩ := R p _ e
      cases (show v = _ from rv)
      exact ⟨p, us, rfl, .inl ⟨SqL.of q1, fun l n => w _ _ (.tup ds) h (Fr.hid n R) (RH.hid n R) (tup_new n R q2) q⟩⟩
    | _ => exact q.elim
  · exact q.elim⟩
/-! all, any of a list of bools -/
def dAll : RcD := fun ds h Q => match ds with
  | [d] => lstD d h fun xs => ∃ bs : List Bool, xs = bs.map D.bl ∧ Q (.bl (bs.all fun b => b)) h
  | _ => False
def dAny : RcD := fun ds h Q => match ds with
  | [d] => lstD d h fun xs => ∃ bs : List Bool, xs = bs.map D.bl ∧ Q (.bl (bs.any fun b => b)) h
  | _ => False
theorem rep_bls {Z : Kx} {h : DH} {H : Hp} : ∀ {bs : List Bool} {vs : List V}, RepL Z h H (bs.map D.bl) vs → vs = bs.map V.bl
  | [], _, r => r
  | b :: bs, _, r => by
    obtain ⟨v, us, rfl, q, t⟩ := r
    rw [rep_bls t, show v = V.bl b from q]; rfl
theorem ca_all (hc : X.calm = true := by rfl) : CaD X (.builtin "all") dAll := ⟨_, cr_all hc, fun vs ds H h Qd Q r R q w => by
  unfold dAll at q
  split at q
  · obtain ⟨v, rfl, rv⟩ := r.one_of
    obtain ⟨p, xs, us, rfl, hp, ru, bs, rfl, q⟩ := lstD_ok rv R q
    rw [rep_bls ru] at hp
    exact ⟨p, bs, rfl, SqL.of hp, w _ H (.bl _) h Fr.refl R rfl q⟩
  · exact q.elim⟩
theorem ca_any (hc : X.calm = true := by rfl) : CaD X (.builtin "any") dAny := ⟨_, cr_any hc, fun vs ds H h Qd Q r R q w => by
  unfold dAny at q
  split at q
  · obtain ⟨v, rfl, rv⟩ := r.one_of
    obtain ⟨p, xs, us, rfl, hp, ru, bs, rfl, q⟩ := lstD_ok rv R q
    rw [rep_bls ru] at hp
    exact ⟨p, bs, rfl, SqL.of hp, w _ H (.bl _) h Fr.refl R rfl q⟩
  · exact q.elim⟩
/-! sorted of alike data -/
def sortD (ds : List D) : List D := ds.mergeSort (PySem.W.dataLe false py)
def dSort : RcD := fun ds h Q => match ds with
  | [d] => lstD d h fun xs => PySem.W.AllAlike (xs.map py) ∧ PySem.W.Sortable (xs.map py) ∧ xs.all (fun d => SeqAt.shaped (py d)) = true ∧ Q (.lv (sortD xs)) h
  | _ => False
theorem each_vals {Z : Kx} {h : DH} {H : Hp} : ∀ {ds : List D} {vs : List V} {us : List Value}, RepL Z h H ds vs → Vals vs us → PySem.W.EachIs (fun u d => ∃ v, RelV v u ∧ Rep Z h H d v) us ds
  | [], _, _, r, t => by cases (show _ = [] from r); cases t; exact .nil
  | d :: ds, _, _, r, t => by
    obtain ⟨v, us, rfl, q, r⟩ := r
    cases t with
    | cons t1 t2 => exact .cons ⟨v, t1, q⟩ (each_vals r t2)
theorem vals_each {Z : Kx} {h : DH} {H : Hp} : ∀ {ds : List D} {us : List Value}, PySem.W.EachIs (fun u d => ∃ v, RelV v u ∧ Rep Z h H d v) us ds → ∃ vs, Vals vs us ∧ RepL Z h H ds vs
  | [], _, e => by cases e; exact ⟨[], .nil, rfl⟩
  | d :: ds, _, e => by
    cases e with
    | cons e1 e2 =>
      obtain ⟨v, t, q⟩ := e1
      obtain ⟨vs, t2, r⟩ := vals_each e2
      exact ⟨v :: vs, .cons t t2, v, vs, rfl, q, r⟩
theorem ca_sorted {k : Nat} (hr : Room k X.A) : CaD X (.builtin "sorted") dSort := by
  refine ⟨fun vs H Q => ∃ ds h Qd, RepL (kx X) h H ds vs ∧ RH (kx X) h H ∧ dSort ds h Qd ∧ WV (kx X) h H Qd Q, ?_, fun vs ds H h Qd Q r R q w => ⟨ds, h, Qd, r, R, q, w⟩⟩
  intro pins s σ H xs us Q I rv h
  obtain ⟨ds, h, Qd, r, R, q, w⟩ := h
  unfold dSort at q
  split at q
  · obtain ⟨v, rfl, r1⟩ := r.one_of
    obtain ⟨p, xs, ws, rfl, hp, ru, al, so, sh, q⟩ := lstD_ok r1 R q
    obtain ⟨u, rfl, eu⟩ := vals1 rv
    cases (show u = Value.ref p from eu)
    obtain ⟨its, rt, pl, hz⟩ := I.list (SqL.of (K := X.K) hp)
    have ev := each_vals ru rt
    have sh' : ∀ d ∈ xs, SeqAt.shaped (py d) = true := List.all_eq_true.mp sh
    have evr : PySem.W.EachIs (fun v b => ∃ as, Reads s.heap v (py b) as) its xs := by
      have z := PySem.W.each_mem ev
      refine z.mono fun u d hd => ?_
      obtain ⟨⟨v, rv, rd⟩, hm⟩ := hd
      exact Dp.reads I _ v u (rep_dp d v rd (SeqAt.canLay_of_shaped (sh' d hm))) rv
    refine PySem.W.sorted_data (enc := py) (bs := xs) pl.isList ev evr al so (by rw [ru.length]; exact hz) (fun b hb => ?_) fun out hlen eo => ?_
    · have h1 := SeqAt.depth_of_shaped (sh' b hb)
      have h2 := hr.un
      omega
    · obtain ⟨ep, he'⟩ := PyProof.Rows.sortedAll_at s.heap its out.toArray
      obtain ⟨zs, rz, rr⟩ := vals_each eo
      have n : H (s.heap.objs.size + 1) = none := I.hok.fresh (Nat.le_succ _)
      have hl2 : zs.length ≤ sizeLine := by rw [rz.length, hlen, ru.length]; exact hz
      have I2 : Inv X pins σ (upd H (s.heap.objs.size + 1) (.lst zs)) { s with heap := sortedAll s.heap its out.toArray } :=
        I.laid (t' := s.toks) (fun _ _ => PyProof.Rows.sortedAll_old) (Nat.le_succ _) ⟨hl2, out, ep, rz, he'⟩
      exact ⟨.ref _, _, I2, rfl, w _ _ (.lv _) h (Fr.hid n R) (RH.hid n R) (lv_new n R rr) q⟩
  · exact q.elim
/-! isinstance -/
def tyOfD (d : D) (h : DH) : Option Value := match d with
  | .non => some (.type "NoneType")
  | .bl _ => some (.type "bool")
  | .int _ => some (.type "int")
  | .str _ => some (.type "str")
  | .tup _ => some (.type "tuple")
  | .lv _ => some (.type "list")
  | .dv _ _ => some (.type "dict")
  | .iv C _ => some (.ref C)
  | .ref p => (match h p with
    | some (.lst _) => some (.type "list")
    | some (.dic _ _) => some (.type "dict")
    | some (.ins C _) => some (.ref C)
    | _ => none)
  | .ty _ => none
def clsOf (d : D) : Option Value := match d with
  | .ty n => some (.type n)
  | .ref a => some (.ref a)
  | _ => none
/-- what isinstance asks of a class of the text -/
structure ClsI (K : PySem.W.Frag) (C : Addr) : Prop where
  ic : PySem.W.isClsIn K C = true
  pg : PySem.W.plainGet K C Str.empty = true
  ca : PySem.W.findIn K (.ref C) "__class__" = some (some (.builtin "object.__class__"))
  cn : PySem.W.specialIn K (.builtin "object.__class__") "__get__" = some (some (.builtin "getset_descriptor.__get__"))
  ct : PySem.W.takesIn K (.builtin "object.__class__") = some true
  cm : PySem.W.mroIn K C (.type "object") = some true
def dIsi (K : PySem.W.Frag) : RcD := fun ds h Q => match ds with
  | [d, c] => ∃ t u b, tyOfD d h = some t ∧ clsOf c = some u ∧ (∀ C, t = .ref C → ClsI K C) ∧ PySem.W.kitOne K t u = some b ∧ Q (.bl b) h
  | _ => False
theorem insAt_inst {pins : List (Addr × Obj)} {σ : L2.St} {H : Hp} {s : Shared} {h : DH} {a C : Addr} {vs : List V} (I : Inv X pins σ H s) (t : InsAt (kx X) h H a C vs) : ∃ ox od, PySem.W.InstAt s.heap a ox C (some od) := by
  unfold InsAt at t
  split at t
  · obtain ⟨dx, _, _, t, _⟩ := t
    obtain ⟨us, od, _, _, J⟩ := slAt_get I t
    exact ⟨_, _, J⟩
  · obtain ⟨dx, t, _⟩ := t
    obtain ⟨mA, O, _⟩ := ins_get I.hok t
    obtain ⟨od, J, _⟩ := O.look
    exact ⟨_, _, J⟩
theorem dicAt_cls {pins : List (Addr × Obj)} {σ : L2.St} {H : Hp} {s : Shared} {a : Addr} {ks : List D} {us vs : List V} (I : Inv X pins σ H s) (t : DicAt (kx X) H a ks us vs) : PySem.W.KitAt a "dict" s.heap := by
  obtain ⟨_, o, e, r⟩ := t
  exact ⟨o, (I.hok a _ e).1, r.cls.1⟩
theorem ca_isi : CaD X (.builtin "isinstance") (dIsi X.K) := by
  refine ⟨fun vs H Q => ∃ ds h Qd, RepL (kx X) h H ds vs ∧ RH (kx X) h H ∧ dIsi X.K ds h Qd ∧ WV (kx X) h H Qd Q, ?_, fun vs ds H h Qd Q r R q w => ⟨ds, h, Qd, r, R, q, w⟩⟩
  intro pins s σ H xs us Q I rv h
  obtain ⟨ds, h, Qd, r, R, q, w⟩ := h
  unfold dIsi at q
  split at q
  · rename_i d c
    obtain ⟨v, y, rfl, r1, r2⟩ := r.two_of
    obtain ⟨u1, u2, rfl, e1, e2⟩ := vals2 rv
    obtain ⟨t, u, b, ht, hc, hC, hk, q⟩ := q
    have eu : u2 = u := by
      cases c with
      | ty n => cases hc; cases (show y = _ from r2); exact e2
      | ref a => cases hc; cases (show y = _ from r2); exact e2
      | _ => cases hc
    subst eu
    have fin : ∀ tk, EP X pins σ Q (.bool b) { s with toks := tk } := fun tk => ⟨.bl b, H, I.tok tk, rfl, w _ H (.bl b) h Fr.refl R rfl q⟩
    have inst : ∀ a C vs, InsAt (kx X) h H a C vs → u1 = Value.ref a → t = .ref C → wpAny (model X.prog X.w) X.A (call (.builtin "isinstance") [u1, u2]) (EP X pins σ Q) X.xe s := fun a C vs tt eu et => by
      subst eu et
      have ci := hC C rfl
      obtain ⟨ox, od, J⟩ := insAt_inst I tt
      exact PySem.W.kia_one (OwX.kitx_slt (ox := ox) (od := od) ci.ic ci.pg ci.ca ci.cn ci.ct ci.cm) I.kIn J hk (fun z => nomatch z) fin
    cases d with
    | non => cases ht; cases (show v = _ from r1); cases (show u1 = Value.none from e1); exact PySem.W.kia_one PySem.W.kitx_none I.kIn True.intro hk (fun z => nomatch z) fin
    | bl k => cases ht; cases (show v = _ from r1); cases (show u1 = Value.bool k from e1); exact PySem.W.kia_one PySem.W.kitx_bool I.kIn True.intro hk (fun z => nomatch z) fin
    | int k => cases ht; cases (show v = _ from r1); obtain ⟨tk, e1⟩ := (show ∃ t, u1 = Value.int k t from e1); cases e1; exact PySem.W.kia_one PySem.W.kitx_int I.kIn True.intro hk (fun z => nomatch z) fin
    | str k => cases ht; cases (show v = _ from r1); obtain ⟨tk, e1⟩ := (show ∃ t, u1 = Value.str k t from e1); cases e1; exact PySem.W.kia_one PySem.W.kitx_str I.kIn True.intro hk (fun z => nomatch z) fin
    | ty k => cases ht
    | tup k =>
      cases ht
      obtain ⟨a, vs, rfl, tt, _⟩ := r1
      cases (show u1 = Value.ref a from e1)
      obtain ⟨its, _, ⟨o, h1, h2, _⟩, _⟩ := I.tuple tt.sq
      exact PySem.W.kia_one PySem.W.kitx_tuple I.kIn ⟨o, h1, h2⟩ hk (fun z => nomatch z) fin
    | lv k =>
      cases ht
      obtain ⟨a, vs, rfl, tt, _⟩ := r1
      cases (show u1 = Value.ref a from e1)
      obtain ⟨its, _, ⟨o, n, h1, h2, _⟩, _⟩ := I.list (tt.sq (K := X.K))
      exact PySem.W.kia_one PySem.W.kitx_list I.kIn ⟨o, h1, h2⟩ hk (fun z => nomatch z) fin
    | dv k l =>
      cases ht
      obtain ⟨a, ws, vs, rfl, _, tt, _⟩ := r1
      cases (show u1 = Value.ref a from e1)
      exact PySem.W.kia_one PySem.W.kitx_dict I.kIn (dicAt_cls I tt) hk (fun z => nomatch z) fin
    | iv C k =>
      cases ht
      obtain ⟨a, vs, rfl, _, tt, _⟩ := r1
      exact inst a C vs tt e1 rfl
    | ref p =>
      cases (show v = _ from r1)
      have ht : (match h p with | some (.lst _) => some (Value.type "list") | some (.dic _ _) => some (.type "dict") | some (.ins C _) => some (.ref C) | _ => none) = some t := ht
      cases e : h p with
      | none => rw [e] at ht; cases ht
      | some o =>
        obtain ⟨_, ro⟩ := R p o e
        rw [e] at ht
        cases o with
        | lst ds =>
          cases ht
          obtain ⟨vs, q1, _⟩ := ro
          cases (show u1 = Value.ref p from e1)
          obtain ⟨its, _, ⟨o, n, h1, h2, _⟩, _⟩ := I.list (SqL.of (K := X.K) q1)
          exact PySem.W.kia_one PySem.W.kitx_list I.kIn ⟨o, h1, h2⟩ hk (fun z => nomatch z) fin
        | dic ks ds =>
          cases ht
          obtain ⟨ws, vs, tt, _⟩ := ro
          cases (show u1 = Value.ref p from e1)
          exact PySem.W.kia_one PySem.W.kitx_dict I.kIn (dicAt_cls I tt) hk (fun z => nomatch z) fin
        | ins C ds =>
          cases ht
          obtain ⟨vs, tt, _⟩ := ro
          exact inst p C vs tt e1 rfl
        | rol ds => cases ht
  · exact q.elim
end
end DL
set_option Elab.async false
set_option linter.all false
set_option maxRecDepth 100000
set_option maxHeartbeats 1000000
namespace DL
open PySem PySem.Spec PyProof.Rows L2
variable [FldTab]
/-! ### keys: where one stands, what stands behind it, a store -/
def ixK : List D → D → Option Nat
  | [], _ => none
  | z :: zs, k => if nk z = nk k then some 0 else (ixK zs k).map (· + 1)
def lookA {α : Type} (ks : List D) (vs : List α) (k : D) : Option α := (ixK ks k).bind fun i => vs[i]?
def putKs (ks : List D) (k : D) : List D := match ixK ks k with
  | some _ => ks
  | none => ks ++ [k]
def putU {α : Type} (ks : List D) (us : List α) (k : D) (u : α) : List α := match ixK ks k with
  | some _ => us
  | none => us ++ [u]
def putA {α : Type} (ks : List D) (vs : List α) (k : D) (v : α) : List α := match ixK ks k with
  | some i => vs.set i v
  | none => vs ++ [v]
def keyOk (ks : List D) (k : D) : Bool := (ks.all isSk && isSk k) || (ks.all isTk && isTk k)
theorem ixK_cons {z : D} {zs : List D} {k : D} : ixK (z :: zs) k = if nk z = nk k then some 0 else (ixK zs k).map (· + 1) := rfl
theorem ixK_lt : ∀ {ks : List D} {k : D} {i : Nat}, ixK ks k = some i → i < ks.length
  | [], _, _, e => by cases e
  | z :: zs, k, i, e => by
    unfold ixK at e
    split at e
    · cases e; exact Nat.zero_lt_succ _
    · obtain ⟨j, hj, rfl⟩ := Option.map_eq_some_iff.mp e
      exact Nat.succ_lt_succ (ixK_lt hj)
theorem ixK_none : ∀ {ks : List D} {k : D}, ixK ks k = none → nk k ∉ ks.map nk
  | [], _, _ => by simp
  | z :: zs, k, e => by
    unfold ixK at e
    split at e
    · cases e
    · rename_i ne
      rw [List.map_cons, List.mem_cons]
      exact fun q => q.elim (fun y => ne y.symm) (ixK_none (Option.map_eq_none_iff.mp e))
def toKey : D → Key
  | .int i => .inl i
  | .str x => .inr x
  | _ => .inl 0
def kOfN : NestedKey → Key
  | .num i => .inl i
  | .text x => .inr x
  | _ => .inl 0
theorem toKey_nk {d : D} (h : isSk d = true) : toKey d = kOfN (nk d) := by cases d <;> first | rfl | cases h
theorem toKey_inj {d e : D} (h : isSk d = true) (h2 : isSk e = true) : toKey d = toKey e ↔ nk d = nk e := by
  cases d with
  | int i =>
    cases e with
    | int j => exact ⟨fun q => by cases q; rfl, fun q => by cases q; rfl⟩
    | str y => exact ⟨fun q => (by cases q), fun q => (by cases q)⟩
    | _ => cases h2
  | str x =>
    cases e with
    | int j => exact ⟨fun q => (by cases q), fun q => (by cases q)⟩
    | str y => exact ⟨fun q => by cases q; rfl, fun q => by cases q; rfl⟩
    | _ => cases h2
  | _ => cases h
theorem nd_K : ∀ {ks : List D}, ks.all isSk = true → ((ks.map toKey).Nodup ↔ (ks.map nk).Nodup)
  | [], _ => by simp
  | k :: ks, h => by
    rw [List.all_cons, Bool.and_eq_true] at h
    have hm : toKey k ∈ ks.map toKey ↔ nk k ∈ ks.map nk := by
      constructor
      · intro q
        obtain ⟨z, hz, e⟩ := List.mem_map.mp q
        exact List.mem_map.mpr ⟨z, hz, (toKey_inj (List.all_eq_true.mp h.2 z hz) h.1).mp e⟩
      · intro q
        obtain ⟨z, hz, e⟩ := List.mem_map.mp q
        exact List.mem_map.mpr ⟨z, hz, (toKey_inj (List.all_eq_true.mp h.2 z hz) h.1).mpr e⟩
    rw [List.map_cons, List.map_cons, List.nodup_cons, List.nodup_cons, hm, nd_K h.2]
section
variable {Z : Kx} {h : DH} {H : Hp} {P : Program} {w : World}
theorem RepL.atI {ds : List D} {vs : List V} {i : Int} {d : D} (r : RepL Z h H ds vs) (e : L2.atI ds i = some d) : ∃ v, L2.atI vs i = some v ∧ Rep Z h H d v := by
  unfold L2.atI at e ⊢
  rw [← r.length]
  cases q : ixN ds.length i with
  | none => rw [q] at e; cases e
  | some j =>
    rw [q] at e
    exact r.get e
theorem lookA_rep {ks ds : List D} {vs : List V} {k d : D} (r : RepL Z h H ds vs) (e : lookA ks ds k = some d) : ∃ v, lookA ks vs k = some v ∧ Rep Z h H d v := by
  unfold lookA at e ⊢
  cases q : ixK ks k with
  | none => rw [q] at e; cases e
  | some j =>
    rw [q] at e
    exact r.get e
theorem lookA_none {ks ds : List D} {vs : List V} {k : D} (r : RepL Z h H ds vs) (e : lookA ks ds k = none) : lookA ks vs k = none := by
  unfold lookA at e ⊢
  cases q : ixK ks k with
  | none => rfl
  | some j =>
    rw [q] at e
    have e' : ds[j]? = none := e
    show vs[j]? = none
    rw [List.getElem?_eq_none_iff] at e' ⊢
    rw [← r.length]; exact e'
theorem lookA_val {ks : List D} {vs : List V} {ws : List Value} {k : D} {v : V} (r : Vals vs ws) (e : lookA ks vs k = some v) : ∃ u, lookA ks ws k = some u ∧ RelV v u := by
  unfold lookA at e ⊢
  cases q : ixK ks k with
  | none => rw [q] at e; cases e
  | some j =>
    rw [q] at e
    exact r.get e
theorem lookA_valN {ks : List D} {vs : List V} {ws : List Value} {k : D} (r : Vals vs ws) (e : lookA ks vs k = none) : lookA ks ws k = none := by
  unfold lookA at e ⊢
  cases q : ixK ks k with
  | none => rfl
  | some j =>
    rw [q] at e
    have e' : vs[j]? = none := e
    show ws[j]? = none
    rw [List.getElem?_eq_none_iff] at e' ⊢
    rw [← r.length]; exact e'
theorem put_rep {ks ds : List D} {vs : List V} {k d : D} {v : V} (r : RepL Z h H ds vs) (q : Rep Z h H d v) : RepL Z h H (putA ks ds k d) (putA ks vs k v) := by
  unfold putA
  split
  · exact RepL.set q _ r
  · exact r.append (.one q)
theorem putK_rep {ks : List D} {us : List V} {k : D} {u : V} (r : RepL Z h H ks us) (q : Rep Z h H k u) : RepL Z h H (putKs ks k) (putU ks us k u) := by
  unfold putKs putU
  split
  · exact r
  · exact r.append (.one q)
theorem put_nd {ks : List D} {k : D} (nd : (ks.map nk).Nodup) : ((putKs ks k).map nk).Nodup := by
  unfold putKs
  split
  · exact nd
  · rename_i e
    rw [List.map_append, List.nodup_append]
    refine ⟨nd, by simp, fun x hx y hy => ?_⟩
    simp only [List.map_cons, List.map_nil, List.mem_singleton] at hy
    subst hy
    exact fun q => ixK_none e (q ▸ hx)
theorem put_all {p : D → Bool} {ks : List D} {k : D} (a : ks.all p = true) (b : p k = true) : (putKs ks k).all p = true := by
  unfold putKs
  split
  · exact a
  · rw [List.all_append, a]; simp [b]
/-! ### the two kinds of the library -/
theorem K_of : ∀ {ks : List D} {us vs : List V} {es : List DictEntry}, EntL w ks us vs es → RepL Z h H ks us → ks.all isSk = true →
    ∃ kvs : List (Key × Value), kvs.map (·.1) = ks.map toKey ∧ Vals vs (kvs.map (·.2)) ∧ Pairs (mixKind P w) es kvs ∧ ∀ e ∈ es, ∃ k, keyIs k e.key = true ∧ e.hash = keyH w k
  | [], _, _, _, ⟨rfl, rfl, rfl⟩, _, _ => ⟨[], rfl, .nil, .nil, fun _ q => by simp at q⟩
  | k :: ks, _, _, _, ⟨u, ur, v, vr, e, er, rfl, rfl, rfl, hh, hu, hv, t⟩, r, hk => by
    rw [List.all_cons, Bool.and_eq_true] at hk
    obtain ⟨u', ur', q, rk, rt⟩ := r
    cases q
    obtain ⟨kvs, h1, h2, h3, h4⟩ := K_of t rt hk.2
    have z : keyIs (toKey k) e.key = true ∧ e.hash = keyH w (toKey k) := by
      cases k with
      | int i =>
        cases (show u = _ from rk)
        obtain ⟨tk, q⟩ := (show ∃ t, e.key = Value.int i t from hu)
        exact ⟨by rw [q]; exact keyIs_int i tk, hh⟩
      | str x =>
        cases (show u = _ from rk)
        obtain ⟨tk, q⟩ := (show ∃ t, e.key = Value.str x t from hu)
        exact ⟨by rw [q]; exact keyIs_str x tk, hh⟩
      | _ => cases hk.1
    refine ⟨(toKey k, e.val) :: kvs, by rw [List.map_cons, h1]; rfl, .cons hv h2, .cons z.1 rfl h3, fun e' he => ?_⟩
    rcases List.mem_cons.mp he with q | q
    · rw [q]; exact ⟨_, z⟩
    · exact h4 e' q
theorem K_to : ∀ {ks : List D} {us vs : List V} {es : List DictEntry} {kvs : List (Key × Value)}, kvs.map (·.1) = ks.map toKey → Vals vs (kvs.map (·.2)) → Pairs (mixKind P w) es kvs → (∀ e ∈ es, ∃ k, keyIs k e.key = true ∧ e.hash = keyH w k) →
    RepL Z h H ks us → ks.all isSk = true → EntL w ks us vs es
  | [], us, vs, es, kvs, h1, h2, h3, _, r, _ => by
    have e : kvs = [] := by simpa using h1
    subst e
    cases h2; cases h3
    exact ⟨r, rfl, rfl⟩
  | k :: ks, us, vs, es, kvs, h1, h2, h3, h4, r, hk => by
    rw [List.all_cons, Bool.and_eq_true] at hk
    obtain ⟨u, ur, rfl, rk, rt⟩ := r
    cases kvs with
    | nil => simp at h1
    | cons kv kvs =>
      rw [List.map_cons, List.map_cons] at h1
      injection h1 with h1 h1'
      cases h2 with
      | cons hv hvt =>
        cases h3 with
        | @cons e _ es _ h5 h6 h7 =>
          rw [show kv.1 = toKey k from h1] at h5
          obtain ⟨k', hk1, hk2⟩ := h4 e List.mem_cons_self
          have ek : k' = toKey k := (mixKind P w).inj e.key k' (toKey k) hk1 h5
          rw [ek] at hk2
          refine ⟨u, ur, _, _, e, es, rfl, rfl, rfl, ?_, ?_, by rw [h6]; exact hv, K_to h1' hvt h7 (fun e he => h4 e (List.mem_cons_of_mem _ he)) rt hk.2⟩
          · cases k with
            | int i => exact hk2
            | str x => exact hk2
            | _ => cases hk.1
          · rcases keyIs_shape h5 with ⟨i, t, q1, q2⟩ | ⟨x, t, q1, q2⟩
            · cases k with
              | int j => cases (show u = _ from rk); cases q1; exact ⟨t, q2⟩
              | str j => cases q1
              | _ => cases hk.1
            · cases k with
              | int j => cases q1
              | str j => cases (show u = _ from rk); cases q1; exact ⟨t, q2⟩
              | _ => cases hk.1
theorem K_look : ∀ {ks : List D} {kvs : List (Key × Value)} {k : D}, kvs.map (·.1) = ks.map toKey → ks.all isSk = true → isSk k = true → valueAt kvs (toKey k) = lookA ks (kvs.map (·.2)) k
  | [], kvs, k, h1, _, _ => by
    have e : kvs = [] := by simpa using h1
    subst e; rfl
  | z :: ks, kvs, k, h1, hk, hs => by
    rw [List.all_cons, Bool.and_eq_true] at hk
    cases kvs with
    | nil => simp at h1
    | cons kv kvs =>
      rw [List.map_cons, List.map_cons] at h1
      injection h1 with h1 h1'
      have ih := K_look (k := k) h1' hk.2 hs
      have e1 : kv.1 = toKey z := h1
      unfold valueAt lookA at ih ⊢
      rw [List.find?_cons, ixK_cons]
      by_cases q : nk z = nk k
      · rw [if_pos q, decide_eq_true (show kv.1 = toKey k by rw [e1]; exact (toKey_inj hk.1 hs).mpr q)]; rfl
      · rw [if_neg q, decide_eq_false (show ¬ kv.1 = toKey k by rw [e1]; exact fun y => q ((toKey_inj hk.1 hs).mp y))]
        show (List.find? _ kvs).map _ = _
        rw [ih]
        cases ixK ks k <;> rfl
theorem stored_cons {K : Type} [DecidableEq K] {p : K × Value} {kvs : List (K × Value)} {k : K} {v : Value} (nd : ((p :: kvs).map (·.1)).Nodup) : stored (p :: kvs) k v = if p.1 = k then (p.1, v) :: kvs else p :: stored kvs k v := by
  rw [List.map_cons, List.nodup_cons] at nd
  unfold stored
  by_cases q : p.1 = k
  · rw [if_pos q, if_pos (by simp [q]), List.map_cons, if_pos q, map_store_of_not_mem kvs k v (by rw [← q]; exact nd.1)]
  · rw [if_neg q, List.any_cons, decide_eq_false q, Bool.false_or, List.map_cons, if_neg q]
    split <;> rfl
theorem K_stored : ∀ {ks : List D} {kvs : List (Key × Value)} {k : D} {v : Value}, kvs.map (·.1) = ks.map toKey → ks.all isSk = true → isSk k = true → (ks.map nk).Nodup →
    (stored kvs (toKey k) v).map (·.1) = (putKs ks k).map toKey ∧ (stored kvs (toKey k) v).map (·.2) = putA ks (kvs.map (·.2)) k v
  | [], kvs, k, v, h1, _, _, _ => by
    have e : kvs = [] := by simpa using h1
    subst e; exact ⟨rfl, rfl⟩
  | z :: ks, kvs, k, v, h1, hk, hs, nd => by
    rw [List.all_cons, Bool.and_eq_true] at hk
    cases kvs with
    | nil => simp at h1
    | cons kv kvs =>
      have nd2 : ((kv :: kvs).map (·.1)).Nodup := by rw [h1]; exact (nd_K (by rw [List.all_cons, hk.1, hk.2]; rfl)).mpr nd
      rw [List.map_cons, List.map_cons] at h1
      injection h1 with h1 h1'
      have e1 : kv.1 = toKey z := h1
      obtain ⟨i1, i2⟩ := K_stored (k := k) (v := v) h1' hk.2 hs (List.nodup_cons.mp nd).2
      rw [stored_cons nd2]
      unfold putKs at i1 ⊢
      unfold putA at i2 ⊢
      rw [ixK_cons]
      by_cases q : nk z = nk k
      · rw [if_pos q, if_pos (show kv.1 = toKey k by rw [e1]; exact (toKey_inj hk.1 hs).mpr q)]
        refine ⟨?_, rfl⟩
        rw [List.map_cons, List.map_cons, h1', e1]
      · rw [if_neg q, if_neg (show ¬ kv.1 = toKey k by rw [e1]; exact fun y => q ((toKey_inj hk.1 hs).mp y))]
        rw [List.map_cons, List.map_cons, i1, i2]
        cases ixK ks k with
        | none => exact ⟨congrArg (· :: _) e1, rfl⟩
        | some j => exact ⟨congrArg (· :: _) e1, rfl⟩
theorem T_of : ∀ {ks : List D} {us vs : List V} {es : List DictEntry}, EntL w ks us vs es → RepL Z h H ks us → ks.all isTk = true →
    ∃ xs : List (NestedKey × Addr × Value), xs.map (·.1) = ks.map nk ∧ us = xs.map (fun x => V.ref x.2.1) ∧ Vals vs (xs.map fun x => x.2.2) ∧ es = xs.map (entryOfKey (nestedKind P w))
  | [], _, _, _, ⟨rfl, rfl, rfl⟩, _, _ => ⟨[], rfl, rfl, .nil, rfl⟩
  | k :: ks, _, _, _, ⟨u, ur, v, vr, e, er, rfl, rfl, rfl, hh, hu, hv, t⟩, r, hk => by
    rw [List.all_cons, Bool.and_eq_true] at hk
    obtain ⟨u', ur', q, rk, rt⟩ := r
    cases q
    obtain ⟨xs, h1, h2, h3, h4⟩ := T_of t rt hk.2
    cases k with
    | tup ds =>
      obtain ⟨a, ws, rfl, _⟩ := rk
      have ek : e.key = Value.ref a := hu
      refine ⟨(nk (.tup ds), a, e.val) :: xs, by rw [List.map_cons, h1]; rfl, by rw [List.map_cons, h2], .cons hv h3, ?_⟩
      rw [List.map_cons, h4]
      have e2 : e = entryOfKey (nestedKind P w) (nk (.tup ds), a, e.val) := by
        obtain ⟨e1, e2, e3⟩ := e
        show (⟨e1, e2, e3⟩ : DictEntry) = ⟨_, _, _⟩
        rw [show e1 = _ from hh, show e2 = _ from ek]; rfl
      exact congrArg (· :: _) e2
    | _ => exact absurd hk.1 (by simp [isTk])
theorem T_to : ∀ {ks : List D} {us vs : List V} {xs : List (NestedKey × Addr × Value)}, xs.map (·.1) = ks.map nk → us = xs.map (fun x => V.ref x.2.1) → Vals vs (xs.map fun x => x.2.2) → EntL w ks us vs (xs.map (entryOfKey (nestedKind P w)))
  | [], us, vs, xs, h1, h2, h3 => by
    have e : xs = [] := by simpa using h1
    subst e
    cases h3
    exact ⟨h2, rfl, rfl⟩
  | k :: ks, us, vs, xs, h1, h2, h3 => by
    cases xs with
    | nil => simp at h1
    | cons x xs =>
      rw [List.map_cons, List.map_cons] at h1
      injection h1 with h1 h1'
      cases h3 with
      | cons hv hvt =>
        exact ⟨_, _, _, _, _, _, h2, rfl, rfl, by show (nestedKind P w).hash x.1 = _; rw [show x.1 = nk k from h1]; rfl, rfl, hv, T_to h1' rfl hvt⟩
theorem T_look : ∀ {ks : List D} {xs : List (NestedKey × Addr × Value)} {k : D}, xs.map (·.1) = ks.map nk → (atKey xs (nk k)).map (·.2) = lookA ks (xs.map fun x => x.2.2) k
  | [], xs, k, h1 => by
    have e : xs = [] := by simpa using h1
    subst e; rfl
  | z :: ks, xs, k, h1 => by
    cases xs with
    | nil => simp at h1
    | cons x xs =>
      rw [List.map_cons, List.map_cons] at h1
      injection h1 with h1 h1'
      have ih := T_look (k := k) h1'
      have e1 : x.1 = nk z := h1
      unfold atKey lookA at ih ⊢
      rw [List.find?_cons, ixK_cons, e1]
      by_cases q : nk z = nk k
      · rw [if_pos q, decide_eq_true q]; rfl
      · rw [if_neg q, decide_eq_false q]
        show Option.map _ (Option.map _ (List.find? _ xs)) = _
        rw [ih]
        cases ixK ks k <;> rfl
theorem storedH_cons {K : Type} [DecidableEq K] {p : K × Addr × Value} {xs : List (K × Addr × Value)} {k : K} {a : Addr} {v : Value} (nd : ((p :: xs).map (·.1)).Nodup) : storedH (p :: xs) k a v = if p.1 = k then (p.1, p.2.1, v) :: xs else p :: storedH xs k a v := by
  rw [List.map_cons, List.nodup_cons] at nd
  unfold storedH
  have e : atKey (p :: xs) k = if p.1 = k then some p.2 else atKey xs k := by
    unfold atKey
    rw [List.find?_cons]
    by_cases q : p.1 = k
    · rw [if_pos q, decide_eq_true q]; rfl
    · rw [if_neg q, decide_eq_false q]
  rw [e]
  by_cases q : p.1 = k
  · rw [if_pos q, if_pos q, if_pos (show (some p.2).isSome = true from rfl), List.map_cons, map_putAt_of_not_mem xs k v (by rw [← q]; exact nd.1)]
    unfold putAt
    rw [if_pos q]
  · rw [if_neg q, if_neg q, List.map_cons]
    unfold putAt
    rw [if_neg q]
    split <;> rfl
theorem T_stored : ∀ {ks : List D} {xs : List (NestedKey × Addr × Value)} {k : D} {a : Addr} {v : Value}, xs.map (·.1) = ks.map nk → (ks.map nk).Nodup →
    (storedH xs (nk k) a v).map (·.1) = (putKs ks k).map nk ∧ (storedH xs (nk k) a v).map (fun x => V.ref x.2.1) = putU ks (xs.map fun x => V.ref x.2.1) k (.ref a) ∧ (storedH xs (nk k) a v).map (fun x => x.2.2) = putA ks (xs.map fun x => x.2.2) k v
  | [], xs, k, a, v, h1, _ => by
    have e : xs = [] := by simpa using h1
    subst e; exact ⟨rfl, rfl, rfl⟩
  | z :: ks, xs, k, a, v, h1, nd => by
    cases xs with
    | nil => simp at h1
    | cons x xs =>
      have nd2 : ((x :: xs).map (·.1)).Nodup := by rw [h1]; exact nd
      rw [List.map_cons, List.map_cons] at h1
      injection h1 with h1 h1'
      have e1 : x.1 = nk z := h1
      obtain ⟨i1, i2, i3⟩ := T_stored (k := k) (a := a) (v := v) h1' (List.nodup_cons.mp nd).2
      rw [storedH_cons nd2]
      unfold putKs putA putU at *
      rw [ixK_cons]
      by_cases q : nk z = nk k
      · rw [if_pos q, if_pos (e1.trans q)]
        exact ⟨by rw [List.map_cons, List.map_cons, h1', e1], rfl, rfl⟩
      · rw [if_neg q, if_neg (fun y => q (e1.symm.trans y))]
        refine ⟨?_, ?_, ?_⟩
        · rw [List.map_cons, i1]
          cases ixK ks k with
          | none => exact congrArg (· :: _) e1
          | some j => exact congrArg (· :: _) e1
        · rw [List.map_cons, i2]
          cases ixK ks k <;> rfl
        · rw [List.map_cons, i3]
          cases ixK ks k <;> rfl
end
/-! ### behind the invariant -/
section
variable {X : Cx} {pins : List (Addr × Obj)} {σ : L2.St} {H : Hp} {s : Shared} {h : DH} {a : Addr} {ks : List D} {us vs : List V} {k : D} {y : V} {u : Value} {A : Around} {E : Value → Shared → Prop}
mutual
theorem rep_nk (I : Inv X pins σ H s) : ∀ (d : D) (v : V) (u : Value), isNk d = true → Rep (kx X) h H d v → RelV v u → NestedIs s.heap (nk d) u
  | .non, _, u, _, r, e => by cases (show _ = V.non from r); cases (show u = .none from e); exact .none
  | .int i, _, u, _, r, e => by cases (show _ = V.int i from r); obtain ⟨t, rfl⟩ := (show ∃ t, u = Value.int i t from e); exact .int i t
  | .str x, _, u, _, r, e => by cases (show _ = V.str x from r); obtain ⟨t, rfl⟩ := (show ∃ t, u = Value.str x t from e); exact .text x t
  | .tup ds, _, u, n, r, e => by
    obtain ⟨a, vs, rfl, t, r⟩ := r
    cases (show u = .ref a from e)
    obtain ⟨its, rv, ⟨o, h1, h2, m, h3⟩, _⟩ := I.tuple t.sq
    exact .tup h1 h2 h3 (repL_nk I ds vs its n r rv)
  | .bl b, _, u, _, r, e => by cases (show _ = V.bl b from r); cases (show u = .bool b from e); exact .bool rfl
  | .ty _, _, _, n, _, _ => by cases n
  | .ref _, _, _, n, _, _ => by cases n
  | .lv _, _, _, n, _, _ => by cases n
  | .dv _ _, _, _, n, _, _ => by cases n
  | .iv _ _, _, _, n, _, _ => by cases n
theorem repL_nk (I : Inv X pins σ H s) : ∀ (ds : List D) (vs : List V) (us : List Value), isNkL ds = true → RepL (kx X) h H ds vs → Vals vs us → NestedAll s.heap (nkL ds) us
  | [], _, _, _, r, e => by cases (show _ = [] from r); cases e; exact .nil
  | d :: ds, _, _, n, r, e => by
    obtain ⟨v, vs, rfl, q, t⟩ := r
    have n' : (isNk d && isNkL ds) = true := n
    obtain ⟨n1, n2⟩ := Bool.and_eq_true_iff.mp n'
    cases e with
    | cons e1 e2 => exact .cons (rep_nk I d v _ n1 q e1) (repL_nk I ds vs _ n2 t e2)
end
theorem isTk_is (I : Inv X pins σ H s) {d : D} (n : isTk d = true) (r : Rep (kx X) h H d y) (e : RelV y u) : ∃ a, y = .ref a ∧ u = .ref a ∧ (nestedKind X.prog X.w).is s.heap (nk d) a := by
  unfold isTk at n
  obtain ⟨n1, n2⟩ := Bool.and_eq_true_iff.mp n
  cases d with
  | tup ds =>
    have z := rep_nk I _ _ _ n1 r e
    obtain ⟨a, ws, rfl, _⟩ := r
    cases (show u = .ref a from e)
    exact ⟨a, rfl, rfl, z, of_decide_eq_true n2⟩
  | _ => cases n1
theorem isSk_is {P : Program} {w : World} {d : D} (n : isSk d = true) (r : Rep (kx X) h H d y) (e : RelV y u) : (mixKind P w).is (toKey d) u = true := by
  cases d with
  | int i => cases (show y = _ from r); obtain ⟨t, rfl⟩ := (show ∃ t, u = Value.int i t from e); exact keyIs_int i t
  | str x => cases (show y = _ from r); obtain ⟨t, rfl⟩ := (show ∃ t, u = Value.str x t from e); exact keyIs_str x t
  | _ => cases n
theorem dicK (I : Inv X pins σ H s) (q : DicAt (kx X) H a ks us vs) (r : RepL (kx X) h H ks us) (hk : ks.all isSk = true) :
    ∃ kvs : List (Key × Value), kvs.map (·.1) = ks.map toKey ∧ Vals vs (kvs.map (·.2)) ∧ s.heap.DictOf (mixKind X.prog X.w) a kvs := by
  obtain ⟨_, o, e, ⟨cl, ⟨es, ep, hd, en⟩, nd, _, _⟩⟩ := q
  obtain ⟨kvs, h1, h2, h3, h4⟩ := K_of (P := X.prog) en r hk
  exact ⟨kvs, h1, h2, o, es, ep, (I.hok a _ e).1, cl, hd, fun x hx => h4 x (Array.mem_toList_iff.mpr hx), h3, by rw [h1]; exact (nd_K hk).mpr nd⟩
theorem dicT (I : Inv X pins σ H s) (q : DicAt (kx X) H a ks us vs) (r : RepL (kx X) h H ks us) (hk : ks.all isTk = true) :
    ∃ xs : List (NestedKey × Addr × Value), xs.map (·.1) = ks.map nk ∧ us = xs.map (fun x => V.ref x.2.1) ∧ Vals vs (xs.map fun x => x.2.2) ∧ s.heap.DictOfH (nestedKind X.prog X.w) a xs := by
  obtain ⟨_, o, e, ⟨cl, ⟨es, ep, hd, en⟩, nd, _, _⟩⟩ := q
  obtain ⟨xs, h1, h2, h3, h4⟩ := T_of (P := X.prog) en r hk
  refine ⟨xs, h1, h2, h3, o, es, ep, (I.hok a _ e).1, cl, hd, h4, fun x hx => ?_, by rw [h1]; exact nd⟩
  obtain ⟨i, hi⟩ := List.mem_iff_getElem?.mp hx
  have z1 : (ks.map nk)[i]? = some x.1 := by rw [← h1, List.getElem?_map, hi]; rfl
  rw [List.getElem?_map] at z1
  obtain ⟨d, hd1, hd2⟩ := Option.map_eq_some_iff.mp z1
  obtain ⟨v, hv, rv⟩ := r.get hd1
  rw [h2, List.getElem?_map, hi] at hv
  cases hv
  obtain ⟨b, e1, e2, e3⟩ := isTk_is I (List.all_eq_true.mp hk d (List.mem_of_getElem? hd1)) rv (u := .ref x.2.1) rfl
  cases e1
  rw [← hd2]; exact e3
/-- the object of a dict is written -/
theorem dic_write {h' : Heap} {t' : Nat} {o' : Obj} {x : HO} (I : Inv X pins σ H s) (e : H a = some x) (mu : Mut (some x)) (hs : Heap.SameBut a s.heap h') (eo : h'.get? a = some o') : Inv X pins σ (upd H a (ObX a o')) { s with heap := h', toks := t' } :=
  d_write I (by rw [e]; exact mu) hs ⟨o', eo⟩ ⟨eo, ⟨o', eo⟩, fun _ _ e1 k => k _ e1⟩
theorem K_done {h' : Heap} {kvs : List (Key × Value)} (r : RepL (kx X) h H ks us) (hk : ks.all isSk = true) (h1 : kvs.map (·.1) = ks.map toKey) (h2 : Vals vs (kvs.map (·.2))) (sz : ks.length ≤ sizeLine) (dd : h'.DictOf (mixKind X.prog X.w) a kvs) :
    ∃ o', h'.get? a = some o' ∧ DicO X.w o' ks us vs := by
  obtain ⟨o', es, ep, e, cl, hd, k1, k2, nd⟩ := dd
  exact ⟨o', e, cl, ⟨es, ep, hd, K_to h1 h2 k2 (fun x hx => k1 x (Array.mem_toList_iff.mp hx)) r hk⟩, (nd_K hk).mp (by rw [← h1]; exact nd), sz, .inl hk⟩
theorem T_done {h' : Heap} {xs : List (NestedKey × Addr × Value)} (hk : ks.all isTk = true) (h1 : xs.map (·.1) = ks.map nk) (h2 : us = xs.map (fun x => V.ref x.2.1)) (h3 : Vals vs (xs.map fun x => x.2.2)) (sz : ks.length ≤ sizeLine) (dd : h'.DictOfH (nestedKind X.prog X.w) a xs) :
    ∃ o', h'.get? a = some o' ∧ DicO X.w o' ks us vs := by
  obtain ⟨o', es, ep, e, cl, hd, he, _, nd⟩ := dd
  exact ⟨o', e, cl, ⟨es, ep, hd, by rw [he]; exact T_to h1 h2 h3⟩, by rw [← h1]; exact nd, sz, .inr hk⟩
theorem Vals.put {vs : List V} {ws : List Value} {v : V} {r : Value} (q : Vals vs ws) (rv : RelV v r) (ks : List D) (k : D) : Vals (putA ks vs k v) (putA ks ws k r) := by
  unfold putA
  split
  · exact q.set rv _
  · exact q.append (.cons rv .nil)
/-- d[k] -/
theorem x_getItem {v : V} {Q : Value → Shared → Prop} (hu : A.units + 16 < cLine) (I : Inv X pins σ H s) (q : DicAt (kx X) H a ks us vs) (r : RepL (kx X) h H ks us) (rk : Rep (kx X) h H k y) (ry : RelV y u) (ok : keyOk ks k = true) (l : lookA ks vs k = some v)
    (w : ∀ w' s', Inv X pins σ H s' → RelV v w' → Q w' s') : wpAny (model X.prog X.w) A (getItem (.ref a) u) Q E s := by
  unfold keyOk at ok
  rcases Bool.or_eq_true_iff.mp ok with ok | ok
  · obtain ⟨o1, o2⟩ := Bool.and_eq_true_iff.mp ok
    obtain ⟨kvs, h1, h2, dd⟩ := dicK I q r o1
    obtain ⟨x, l2, rx⟩ := lookA_val h2 l
    exact wpAny_getItem_of (isSk_is o2 rk ry) dd.mapOf ((K_look h1 o1 o2).trans l2) (w x _ (I.tok _) rx)
  · obtain ⟨o1, o2⟩ := Bool.and_eq_true_iff.mp ok
    obtain ⟨xs, h1, h2, h3, dd⟩ := dicT I q r o1
    obtain ⟨b, e1, e2, e3⟩ := isTk_is I o2 rk ry
    subst e2
    obtain ⟨x, l2, rx⟩ := lookA_val h3 l
    have l3 := (T_look (k := k) h1).trans l2
    obtain ⟨p, hp, hx⟩ := Option.map_eq_some_iff.mp l3
    subst hx
    exact wpAny_getItem_heap (by show A.units + 1 + 8 < cLine; omega) e3 dd hp (w _ _ (I.tok _) rx)
/-- d.get(k, x) -/
theorem x_get2 {v : V} {r' : Value} {Q : Value → Shared → Prop} (hu : A.units + 16 < cLine) (I : Inv X pins σ H s) (q : DicAt (kx X) H a ks us vs) (r : RepL (kx X) h H ks us) (rk : Rep (kx X) h H k y) (ry : RelV y u) (rv : RelV v r') (ok : keyOk ks k = true)
    (w : ∀ w' s', Inv X pins σ H s' → RelV ((lookA ks vs k).getD v) w' → Q w' s') : wpAny (model X.prog X.w) A (call (.builtin "dict.get") [.ref a, u, r']) Q E s := by
  have fin : ∀ ws : List Value, Vals vs ws → RelV ((lookA ks vs k).getD v) ((lookA ks ws k).getD r') := fun ws hv => by
    cases l : lookA ks vs k with
    | none => rw [lookA_valN hv l]; exact rv
    | some z => obtain ⟨x, l2, rx⟩ := lookA_val hv l; rw [l2]; exact rx
  unfold keyOk at ok
  rcases Bool.or_eq_true_iff.mp ok with ok | ok
  · obtain ⟨o1, o2⟩ := Bool.and_eq_true_iff.mp ok
    obtain ⟨kvs, h1, h2, dd⟩ := dicK I q r o1
    refine call_meetsIn PySem.F.slot_dict_get dd.typeIs PySem.F.entry_dict_get (PySem.F.args_dict_get_3 _ _ _) (meets_dict_get_default (mixKind X.prog X.w) a (isSk_is o2 rk ry) q.1 r') ⟨_, dd.mapOf, w _ _ (I.tok _) ?_⟩
    rw [K_look h1 o1 o2]
    exact fin _ h2
  · obtain ⟨o1, o2⟩ := Bool.and_eq_true_iff.mp ok
    obtain ⟨xs, h1, h2, h3, dd⟩ := dicT I q r o1
    obtain ⟨b, e1, e2, e3⟩ := isTk_is I o2 rk ry
    subst e2
    refine call_meetsIn PySem.F.slot_dict_get dd.typeIs PySem.F.entry_dict_get (PySem.F.args_dict_get_3 _ _ _) (meetsH_dict_get_default (nestedKind X.prog X.w) a b q.1 r') ⟨by show A.units + 1 + 8 < cLine; omega, _, xs, e3, dd, w _ _ (I.tok _) ?_⟩
    rw [T_look h1]
    exact fin _ h3
/-- d.get(k) -/
theorem x_get1 {Q : Value → Shared → Prop} (hu : A.units + 16 < cLine) (I : Inv X pins σ H s) (q : DicAt (kx X) H a ks us vs) (r : RepL (kx X) h H ks us) (rk : Rep (kx X) h H k y) (ry : RelV y u) (ok : keyOk ks k = true)
    (w : ∀ w' s', Inv X pins σ H s' → RelV ((lookA ks vs k).getD .non) w' → Q w' s') : wpAny (model X.prog X.w) A (call (.builtin "dict.get") [.ref a, u]) Q E s := by
  have fin : ∀ ws : List Value, Vals vs ws → RelV ((lookA ks vs k).getD .non) ((lookA ks ws k).getD .none) := fun ws hv => by
    cases l : lookA ks vs k with
    | none => rw [lookA_valN hv l]; rfl
    | some z => obtain ⟨x, l2, rx⟩ := lookA_val hv l; rw [l2]; exact rx
  unfold keyOk at ok
  rcases Bool.or_eq_true_iff.mp ok with ok | ok
  · obtain ⟨o1, o2⟩ := Bool.and_eq_true_iff.mp ok
    obtain ⟨kvs, h1, h2, dd⟩ := dicK I q r o1
    refine call_meetsIn PySem.F.slot_dict_get dd.typeIs PySem.F.entry_dict_get (PySem.F.args_dict_get_2 _ _) (meets_dict_get (mixKind X.prog X.w) a (isSk_is o2 rk ry) q.1) ⟨_, dd.mapOf, w _ _ (I.tok _) ?_⟩
    rw [K_look h1 o1 o2]
    exact fin _ h2
  · obtain ⟨o1, o2⟩ := Bool.and_eq_true_iff.mp ok
    obtain ⟨xs, h1, h2, h3, dd⟩ := dicT I q r o1
    obtain ⟨b, e1, e2, e3⟩ := isTk_is I o2 rk ry
    subst e2
    refine call_meetsIn PySem.F.slot_dict_get dd.typeIs PySem.F.entry_dict_get (PySem.F.args_dict_get_2 _ _) (meetsH_dict_get (nestedKind X.prog X.w) a b q.1) ⟨by show A.units + 1 + 8 < cLine; omega, _, xs, e3, dd, w _ _ (I.tok _) ?_⟩
    rw [T_look h1]
    exact fin _ h3
/-- k in d -/
theorem x_in {Q : Value → Shared → Prop} (hu : A.units + 16 < cLine) (I : Inv X pins σ H s) (q : DicAt (kx X) H a ks us vs) (r : RepL (kx X) h H ks us) (rk : Rep (kx X) h H k y) (ry : RelV y u) (ok : keyOk ks k = true)
    (w : ∀ s', Inv X pins σ H s' → Q (.bool (lookA ks vs k).isSome) s') : wpAny (model X.prog X.w) A (compareOp .In u (.ref a)) Q E s := by
  have fin : ∀ ws : List Value, Vals vs ws → (lookA ks vs k).isSome = (lookA ks ws k).isSome := fun ws hv => by
    cases l : lookA ks vs k with
    | none => rw [lookA_valN hv l]; rfl
    | some z => obtain ⟨x, l2, rx⟩ := lookA_val hv l; rw [l2]; rfl
  unfold keyOk at ok
  rcases Bool.or_eq_true_iff.mp ok with ok | ok
  · obtain ⟨o1, o2⟩ := Bool.and_eq_true_iff.mp ok
    obtain ⟨kvs, h1, h2, dd⟩ := dicK I q r o1
    refine wpAny_in_of (isSk_is o2 rk ry) q.1 dd.mapOf ?_
    rw [K_look h1 o1 o2, ← fin _ h2]
    exact w _ (I.tok _)
  · obtain ⟨o1, o2⟩ := Bool.and_eq_true_iff.mp ok
    obtain ⟨xs, h1, h2, h3, dd⟩ := dicT I q r o1
    obtain ⟨b, e1, e2, e3⟩ := isTk_is I o2 rk ry
    subst e2
    refine wpAny_in_heap (by show A.units + 1 + 8 < cLine; omega) e3 q.1 dd ?_
    rw [← Option.isSome_map (f := fun x : Addr × Value => x.2), T_look h1, ← fin _ h3]
    exact w _ (I.tok _)
theorem x_notIn {Q : Value → Shared → Prop} (hu : A.units + 16 < cLine) (I : Inv X pins σ H s) (q : DicAt (kx X) H a ks us vs) (r : RepL (kx X) h H ks us) (rk : Rep (kx X) h H k y) (ry : RelV y u) (ok : keyOk ks k = true)
    (w : ∀ s', Inv X pins σ H s' → Q (.bool (!(lookA ks vs k).isSome)) s') : wpAny (model X.prog X.w) A (compareOp .NotIn u (.ref a)) Q E s := by
  have fin : ∀ ws : List Value, Vals vs ws → (lookA ks vs k).isSome = (lookA ks ws k).isSome := fun ws hv => by
    cases l : lookA ks vs k with
    | none => rw [lookA_valN hv l]; rfl
    | some z => obtain ⟨x, l2, rx⟩ := lookA_val hv l; rw [l2]; rfl
  unfold keyOk at ok
  rcases Bool.or_eq_true_iff.mp ok with ok | ok
  · obtain ⟨o1, o2⟩ := Bool.and_eq_true_iff.mp ok
    obtain ⟨kvs, h1, h2, dd⟩ := dicK I q r o1
    refine wpAny_notIn_of (isSk_is o2 rk ry) q.1 dd.mapOf ?_
    rw [K_look h1 o1 o2, ← fin _ h2]
    exact w _ (I.tok _)
  · obtain ⟨o1, o2⟩ := Bool.and_eq_true_iff.mp ok
    obtain ⟨xs, h1, h2, h3, dd⟩ := dicT I q r o1
    obtain ⟨b, e1, e2, e3⟩ := isTk_is I o2 rk ry
    subst e2
    refine wpAny_notIn_heap (by show A.units + 1 + 8 < cLine; omega) e3 q.1 dd ?_
    rw [← Option.isSome_map (f := fun x : Addr × Value => x.2), T_look h1, ← fin _ h3]
    exact w _ (I.tok _)
theorem EntL.lens {w : World} : ∀ {ks : List D} {us vs : List V} {es : List DictEntry}, EntL w ks us vs es → us.length = ks.length ∧ vs.length = ks.length ∧ es.length = ks.length
  | [], _, _, _, ⟨rfl, rfl, rfl⟩ => ⟨rfl, rfl, rfl⟩
  | k :: ks, _, _, _, ⟨u, ur, v, vr, e, er, rfl, rfl, rfl, _, _, _, t⟩ => let z := EntL.lens t; ⟨congrArg Nat.succ z.1, congrArg Nat.succ z.2.1, congrArg Nat.succ z.2.2⟩
/-- d[k] = v -/
theorem x_set {v : V} {r' : Value} {Q : Unit → Shared → Prop} (hu : A.units + 16 < cLine) (I : Inv X pins σ H s) (q : DicAt (kx X) H a ks us vs) (r : RepL (kx X) h H ks us) (rk : Rep (kx X) h H k y) (ry : RelV y u) (rv : RelV v r') (ok : keyOk ks k = true) (sz : (putKs ks k).length ≤ sizeLine)
    (w : ∀ o' s', Inv X pins σ (upd H a (ObX a o')) s' → DicO X.w o' (putKs ks k) (putU ks us k y) (putA ks vs k v) → Q () s') : wpAny (model X.prog X.w) A (setItem (.ref a) u r') Q E s := by
  have q0 := q
  obtain ⟨hna, o, e, dO⟩ := q
  unfold keyOk at ok
  rcases Bool.or_eq_true_iff.mp ok with ok | ok
  · obtain ⟨o1, o2⟩ := Bool.and_eq_true_iff.mp ok
    obtain ⟨kvs, h1, h2, dd⟩ := dicK I q0 r o1
    have hl : kvs.length ≤ sizeLine := by have z := congrArg List.length h1; rw [List.length_map, List.length_map] at z; rw [z]; exact dO.sz
    refine wpAny_setItem_pairs (hsz := hl) (isSk_is o2 rk ry) dd fun h' dd' hs => ?_
    obtain ⟨i1, i2⟩ := K_stored (k := k) (v := r') h1 o1 o2 dO.nd
    obtain ⟨o', eo, d'⟩ := K_done (vs := putA ks vs k v) (putK_rep r rk) (put_all o1 o2) i1 (by rw [i2]; exact Vals.put h2 rv ks k) sz dd'
    exact w o' _ (dic_write I e True.intro hs eo) d'
  · obtain ⟨o1, o2⟩ := Bool.and_eq_true_iff.mp ok
    obtain ⟨xs, h1, h2, h3, dd⟩ := dicT I q0 r o1
    obtain ⟨b, e1, e2, e3⟩ := isTk_is I o2 rk ry
    subst e1 e2
    have hl : xs.length ≤ sizeLine := by have z := congrArg List.length h1; rw [List.length_map, List.length_map] at z; rw [z]; exact dO.sz
    refine wpAny_setItem_heap (hsz := hl) (by show A.units + 1 + 8 < cLine; omega) e3 dd fun h' dd' hs => ?_
    obtain ⟨i1, i2, i3⟩ := T_stored (k := k) (a := b) (v := r') h1 dO.nd
    obtain ⟨o', eo, d'⟩ := T_done (us := putU ks us k (.ref b)) (vs := putA ks vs k v) (put_all o1 o2) i1 (by rw [i2, h2]) (by rw [i3]; exact Vals.put h3 rv ks k) sz dd'
    exact w o' _ (dic_write I e True.intro hs eo) d'
/-- .. by a comprehension -/
theorem x_dictSet {v : V} {r' : Value} {Q : Unit → Shared → Prop} (hu : A.units + 16 < cLine) (I : Inv X pins σ H s) (q : DicAt (kx X) H a ks us vs) (r : RepL (kx X) h H ks us) (rk : Rep (kx X) h H k y) (ry : RelV y u) (rv : RelV v r') (ok : keyOk ks k = true) (sz : (putKs ks k).length ≤ sizeLine)
    (w : ∀ o' s', Inv X pins σ (upd H a (ObX a o')) s' → DicO X.w o' (putKs ks k) (putU ks us k y) (putA ks vs k v) → Q () s') : wpAny (model X.prog X.w) A (dictSet a u r') Q E s := by
  have q0 := q
  obtain ⟨hna, o, e, dO⟩ := q
  unfold keyOk at ok
  rcases Bool.or_eq_true_iff.mp ok with ok | ok
  · obtain ⟨o1, o2⟩ := Bool.and_eq_true_iff.mp ok
    obtain ⟨kvs, h1, h2, dd⟩ := dicK I q0 r o1
    have hl : kvs.length ≤ sizeLine := by have z := congrArg List.length h1; rw [List.length_map, List.length_map] at z; rw [z]; exact dO.sz
    refine wpAny_dictSet_pairs (hsz := hl) (isSk_is o2 rk ry) dd fun h' dd' hs => ?_
    obtain ⟨i1, i2⟩ := K_stored (k := k) (v := r') h1 o1 o2 dO.nd
    obtain ⟨o', eo, d'⟩ := K_done (vs := putA ks vs k v) (putK_rep r rk) (put_all o1 o2) i1 (by rw [i2]; exact Vals.put h2 rv ks k) sz dd'
    exact w o' _ (dic_write I e True.intro hs eo) d'
  · obtain ⟨o1, o2⟩ := Bool.and_eq_true_iff.mp ok
    obtain ⟨xs, h1, h2, h3, dd⟩ := dicT I q0 r o1
    obtain ⟨b, e1, e2, e3⟩ := isTk_is I o2 rk ry
    subst e1 e2
    have hl : xs.length ≤ sizeLine := by have z := congrArg List.length h1; rw [List.length_map, List.length_map] at z; rw [z]; exact dO.sz
    refine wpAny_dictSet_heap (hsz := hl) (by show A.units + 8 < cLine; omega) e3 dd fun h' dd' hs => ?_
    obtain ⟨i1, i2, i3⟩ := T_stored (k := k) (a := b) (v := r') h1 dO.nd
    obtain ⟨o', eo, d'⟩ := T_done (us := putU ks us k (.ref b)) (vs := putA ks vs k v) (put_all o1 o2) i1 (by rw [i2, h2]) (by rw [i3]; exact Vals.put h3 rv ks k) sz dd'
    exact w o' _ (dic_write I e True.intro hs eo) d'
end
end DL
set_option Elab.async false
set_option linter.all false
set_option maxRecDepth 100000
set_option maxHeartbeats 1000000
namespace DL
open PySem PySem.Spec PyProof.Rows L2
variable [FldTab]
/-- the keys and values of a dict -/
def dctD (d : D) (h : DH) (k : List D → List D → Prop) : Prop := match d with
  | .dv ks vs => k ks vs
  | .ref p => ∃ ks vs, h p = some (.dic ks vs) ∧ k ks vs
  | _ => False
theorem dctD_ok {Z : Kx} {h : DH} {H : Hp} {d : D} {v : V} {k : List D → List D → Prop} (r : Rep Z h H d v) (R : RH Z h H) (q : dctD d h k) : ∃ a ks ds us vs, v = .ref a ∧ DicAt Z H a ks us vs ∧ RepL Z h H ks us ∧ RepL Z h H ds vs ∧ k ks ds := by
  cases d with
  | dv ks ds =>
    obtain ⟨a, us, vs, e, _, t, r1, r2⟩ := r
    exact ⟨a, ks, ds, us, vs, e, t, r1, r2, q⟩
  | ref p =>
    obtain ⟨ks, ds, e, q⟩ := q
    obtain ⟨_, us, vs, t, r1, r2⟩ := R p _ e
    exact ⟨p, ks, ds, us, vs, r, t, r1, r2, q⟩
  | _ => exact q.elim
theorem room16 {k : Nat} {A : Around} (hr : Room k A) : A.units + 16 < cLine := by have := hr.un; omega
section
variable {X : Cx} {pos : Pos} {a b o i e : Expr} {tA tB to ti : TED}
/-! ### d[k] -/
def sqIx (ds : List D) (k : D) (h : DH) (Q : D → DH → Prop) : Prop := match k with
  | .int i => ∃ v, L2.atI ds i = some v ∧ Q v h
  | _ => False
def dcIx (ks vs : List D) (k : D) (h : DH) (Q : D → DH → Prop) : Prop := keyOk ks k = true ∧ ∃ v, lookA ks vs k = some v ∧ Q v h
def dIx : R2D := fun d k h Q => match d with
  | .tup ds => sqIx ds k h Q
  | .lv ds => sqIx ds k h Q
  | .dv ks vs => dcIx ks vs k h Q
  | .ref p => (∃ ds, h p = some (.lst ds) ∧ sqIx ds k h Q) ∨ (∃ ds, h p = some (.rol ds) ∧ sqIx ds k h Q) ∨ (∃ ks vs, h p = some (.dic ks vs) ∧ dcIx ks vs k h Q)
  | .str z => (match k with
    | .int i => z.length ≤ sizeLine ∧ ∃ c, L2.atI z.cps.toList i = some c ∧ Q (.str ⟨#[c]⟩) h
    | _ => False)
  | _ => False
/-- what is wanted of a pair of values, over trees -/
def liftR2 (Z : Kx) (rd : R2D) : R2 := fun x y H Q => ∃ d e h Qd, Rep Z h H d x ∧ Rep Z h H e y ∧ RH Z h H ∧ rd d e h Qd ∧ WV Z h H Qd Q
theorem ix_all {k : Nat} (hr : Room k X.A) : IxR X (liftR2 (kx X) dIx) := by
  intro value slice pins s σ H x y v u Q I rx ry ⟨d, e, h, Qd, rd, re, R, q, w⟩ hs
  have sq : ∀ (p : Addr) (ds : List D) (vs : List V), x = .ref p → (SqT X.K H p vs ∨ SqL X.K H p vs) → RepL (kx X) h H ds vs → sqIx ds e h Qd → wpAny (model X.prog X.w) X.A (subscriptTail value slice v u) (EP X pins σ Q) X.xe s := fun p ds vs ex sq rl q => by
    unfold sqIx at q
    split at q
    · obtain ⟨z, hz, q⟩ := q
      obtain ⟨z', hz', rz⟩ := rl.atI hz
      cases (show y = V.int _ from re)
      have fin : Q z' H := w z' H z h Fr.refl R rz q
      refine ix_seq value slice pins s σ H x _ v u Q I rx ry ?_ hs
      rcases sq with sq | sq
      · exact .inr (.inl ⟨p, vs, _, z', ex, rfl, sq, hz', fin⟩)
      · exact .inl ⟨p, vs, _, z', ex, rfl, sq, hz', fin⟩
    · exact q.elim
  have dc : ∀ (p : Addr) (ks ds : List D) (us vs : List V), x = .ref p → DicAt (kx X) H p ks us vs → RepL (kx X) h H ks us → RepL (kx X) h H ds vs → dcIx ks ds e h Qd → wpAny (model X.prog X.w) X.A (subscriptTail value slice v u) (EP X pins σ Q) X.xe s := fun p ks ds us vs ex dd r1 r2 q => by
    subst ex
    cases (show v = Value.ref p from rx)
    obtain ⟨ok, z, hz, q⟩ := q
    obtain ⟨z', hz', rz⟩ := lookA_rep r2 hz
    obtain ⟨_, ob, eo, dO⟩ := id dd
    exact tail_any ⟨ob, (I.hok p _ eo).1, dO.cls.1⟩ slot_dict_getitem.lookup (x_getItem (room16 hr) I dd r1 re ry ok hz' fun w' s' I' rw' => ⟨z', H, I', rw', w z' H z h Fr.refl R rz q⟩) hs
  cases d with
  | tup ds => obtain ⟨p, vs, ex, t, r⟩ := rd; exact sq p ds vs ex (.inl t.sq) r q
  | lv ds => obtain ⟨p, vs, ex, t, r⟩ := rd; exact sq p ds vs ex (.inr t.sq) r q
  | dv ks ds => obtain ⟨p, us, vs, ex, _, t, r1, r2⟩ := rd; exact dc p ks ds us vs ex t r1 r2 q
  | str z =>
    unfold dIx at q
    dsimp only at q
    split at q
    · obtain ⟨hz, c, hc, q⟩ := q
      cases (show y = V.int _ from re)
      cases (show x = V.str _ from rd)
      exact ix_seq value slice pins s σ H _ _ v u Q I rx ry (.inr (.inr ⟨z, _, c, rfl, rfl, hz, hc, w _ H (.str _) h Fr.refl R rfl q⟩)) hs
    · exact q.elim
  | ref p =>
    rcases q with ⟨ds, ep, q⟩ | ⟨ds, ep, q⟩ | ⟨ks, ds, ep, q⟩
    · obtain ⟨_, vs, q1, q2⟩ := R p _ ep; exact sq p ds vs rd (.inr (SqL.of q1)) q2 q
    · obtain ⟨_, o, vs, q1, q2⟩ := R p _ ep; exact sq p ds vs rd (.inr (.inl (.inr ⟨o, q1⟩))) q2 q
    · obtain ⟨_, us, vs, t, r1, r2⟩ := R p _ ep; exact dc p ks ds us vs rd t r1 r2 q
  | _ => exact q.elim
theorem ed_ix {k : Nat} (hr : Room k X.A) (ha : ED X a tA) (hb : ED X b tB) (hs : PlainIx b := by intro _ _; rfl) : ED X (.Subscript a b pos) (rOp dIx tA tB) := by
  obtain ⟨t, p, f⟩ := ha.ex
  obtain ⟨u, p2, f2⟩ := hb.ex
  exact ⟨_, pe_ix (ix_all hr) p p2 hs, rOp_ref (fun x y d e H h Qd Q rx ry R q w => ⟨d, e, h, Qd, rx, ry, R, q, w⟩) f f2⟩
/-! ### o[i] = v -/
theorem lst_put0 {Z : Kx} {h : DH} {H : Hp} {p : Addr} {O : DO} {es : List D} {us : List V} (R : RH Z h H) (e : h p = some O) (r : RepL Z h H es us) : RH Z (up h p (.lst es)) (upd H p (.lst us)) :=
  RH.write e R ⟨us, upd_same, RepL.fr (Fr.write e) _ _ r⟩
theorem dic_put {Z : Kx} {h : DH} {H : Hp} {p : Addr} {O : DO} {o' : Obj} {ks es : List D} {us vs : List V} (R : RH Z h H) (e : h p = some O) (ns : (p == sysModules) = false) (d : DicO Z.w o' ks us vs) (r1 : RepL Z h H ks us) (r2 : RepL Z h H es vs) : RH Z (up h p (.dic ks es)) (upd H p (ObX p o')) :=
  RH.write (O := .dic ks es) e R ⟨us, vs, ⟨ns, o', upd_same, d⟩, RepL.fr (Fr.write e) _ _ r1, RepL.fr (Fr.write e) _ _ r2⟩
theorem dic_new {Z : Kx} {h : DH} {H : Hp} {p : Addr} {o' : Obj} {ks es : List D} {us vs : List V} (n : H p = none) (R : RH Z h H) (ns : (p == sysModules) = false) (d : DicO Z.w o' ks us vs) (r1 : RepL Z h H ks us) (r2 : RepL Z h H es vs) : RH Z (up h p (.dic ks es)) (upd H p (ObX p o')) :=
  RH.new (O := .dic ks es) n R ⟨us, vs, ⟨ns, o', upd_same, d⟩, RepL.fr (Fr.new n R) _ _ r1, RepL.fr (Fr.new n R) _ _ r2⟩
theorem dv_new {Z : Kx} {h : DH} {H : Hp} {p : Addr} {o' : Obj} {ks es : List D} {us vs : List V} (n : H p = none) (R : RH Z h H) (ns : (p == sysModules) = false) (d : DicO Z.w o' ks us vs) (r1 : RepL Z h H ks us) (r2 : RepL Z h H es vs) : Rep Z h (upd H p (ObX p o')) (.dv ks es) (.ref p) :=
  ⟨p, us, vs, rfl, R.free n, ⟨ns, o', upd_same, d⟩, RepL.fr (Fr.hid n R) _ _ r1, RepL.fr (Fr.hid n R) _ _ r2⟩
def dSet (d k z : D) (h : DH) (Q : DH → Prop) : Prop := match d with
  | .ref p => (∃ ds i j, h p = some (.lst ds) ∧ k = .int i ∧ ixN ds.length i = some j ∧ Q (up h p (.lst (ds.set j z)))) ∨
    (∃ ks vs, h p = some (.dic ks vs) ∧ keyOk ks k = true ∧ (putKs ks k).length ≤ sizeLine ∧ Q (up h p (.dic (putKs ks k) (putA ks vs k z))))
  | _ => False
theorem set_all {k : Nat} (hr : Room k X.A) : PSet X (fun o i v H Q => ∃ d k z h Qd, Rep (kx X) h H d o ∧ Rep (kx X) h H k i ∧ Rep (kx X) h H z v ∧ RH (kx X) h H ∧ dSet d k z h Qd ∧ ∀ H' h', Fr h H h' H' → RH (kx X) h' H' → Qd h' → Q H') := by
  intro pins s σ H o i v ov iv u Q I ro ri rv ⟨d, k, z, h, Qd, rd, rk, rz, R, q, w⟩
  unfold dSet at q
  cases d with
  | ref p =>
    cases (show o = V.ref p from rd)
    rcases q with ⟨ds, j, n, ep, rfl, hn, q⟩ | ⟨ks, ds, ep, ok, sz, q⟩
    · obtain ⟨_, vs, q1, q2⟩ := R p _ ep
      cases (show i = V.int j from rk)
      refine set_list pins s σ H _ _ v ov iv u Q I ro ri rv ⟨p, vs, j, n, rfl, rfl, q1, by rw [← q2.length]; exact hn, ?_⟩
      exact w _ _ (Fr.write ep) (lst_put0 R ep (RepL.set rz n q2)) q
    · obtain ⟨_, us, vs, t, r1, r2⟩ := R p _ ep
      cases (show ov = Value.ref p from ro)
      refine x_set (room16 hr) I t r1 rk ri rv ok sz fun o' s' I' d' => ⟨_, I', ?_⟩
      exact w _ _ (Fr.write ep) (dic_put R ep t.1 d' (putK_rep r1 rk) (put_rep r2 rz)) q
  | _ => exact q.elim
def rgSub (to ti : TED) : TGD := fun z sd h Q => to sd h fun d h1 => ti sd h1 fun k h2 => dSet d k z h2 fun h3 => Q sd h3
theorem gd_sub {k : Nat} (hr : Room k X.A) (ho : ED X o to) (hi : ED X i ti)
    (ha : ∀ v, assign (.Subscript o i pos) X.env v = (do
      let ov ← holding [v] (eval o X.env)
      let iv ← holding [v, ov] (eval i X.env)
      standAt pos
      holding [v, ov, iv] (setItem ov iv v)
      release [v, ov, iv] []) := by intro _; rfl) : GD X (.Subscript o i pos) (rgSub to ti) := by
  obtain ⟨t, p, f⟩ := ho.ex
  obtain ⟨u, p2, f2⟩ := hi.ex
  refine ⟨_, pg_sub p p2 (set_all hr) ha, fun v z σ H sd h Qd Q r rs R q w => ?_⟩
  refine f σ H sd h _ _ rs R q fun x H1 d h1 fr1 R1 r1 q1 => ?_
  refine f2 σ H1 sd h1 _ _ (rs.fr fr1) R1 q1 fun y H2 k h2 fr2 R2 r2 q2 => ?_
  refine ⟨d, k, z, h2, _, Rep.fr fr2 _ _ r1, r2, Rep.fr (fr1.trans fr2) _ _ r, R2, q2, fun H' h' fr3 R3 q3 => ?_⟩
  exact w σ H' sd h' ((fr1.trans fr2).trans fr3) R3 (rs.fr ((fr1.trans fr2).trans fr3)) q3
/-! ### in a dict -/
def dInD : R2D := fun y d h Q => dctD d h fun ks vs => keyOk ks y = true ∧ Q (.bl (lookA ks vs y).isSome) h
def dNotInD : R2D := fun y d h Q => dctD d h fun ks vs => keyOk ks y = true ∧ Q (.bl (!(lookA ks vs y).isSome)) h
theorem lookA_isSome {Z : Kx} {h : DH} {H : Hp} {ks ds : List D} {vs : List V} {k : D} (r : RepL Z h H ds vs) : (lookA ks vs k).isSome = (lookA ks ds k).isSome := by
  cases e : lookA ks ds k with
  | none => rw [lookA_none r e]; rfl
  | some d => obtain ⟨v, e2, _⟩ := lookA_rep r e; rw [e2]; rfl
theorem od_inD {k : Nat} (hr : Room k X.A) : OpD X (compareOp .In) dInD := by
  refine ⟨liftR2 (kx X) dInD, ?_, fun x y d e H h Qd Q rx ry R q w => ⟨d, e, h, Qd, rx, ry, R, q, w⟩⟩
  intro pins s σ H x y v u Q I rx ry ⟨d, e, h, Qd, rd, re, R, q, w⟩
  obtain ⟨a, ks, ds, us, vs, rfl, t, r1, r2, ok, q⟩ := dctD_ok re R q
  cases (show u = Value.ref a from ry)
  refine x_in (room16 hr) I t r1 rd rx ok fun s' I' => ⟨.bl _, H, I', rfl, ?_⟩
  rw [lookA_isSome r2]
  exact w _ H (.bl _) h Fr.refl R rfl q
theorem od_notInD {k : Nat} (hr : Room k X.A) : OpD X (compareOp .NotIn) dNotInD := by
  refine ⟨liftR2 (kx X) dNotInD, ?_, fun x y d e H h Qd Q rx ry R q w => ⟨d, e, h, Qd, rx, ry, R, q, w⟩⟩
  intro pins s σ H x y v u Q I rx ry ⟨d, e, h, Qd, rd, re, R, q, w⟩
  obtain ⟨a, ks, ds, us, vs, rfl, t, r1, r2, ok, q⟩ := dctD_ok re R q
  cases (show u = Value.ref a from ry)
  refine x_notIn (room16 hr) I t r1 rd rx ok fun s' I' => ⟨.bl _, H, I', rfl, ?_⟩
  rw [lookA_isSome r2]
  exact w _ H (.bl _) h Fr.refl R rfl q
/-! ### methods of built-in types -/
abbrev RmD := D → List D → DH → (D → DH → Prop) → Prop
structure MtD (X : Cx) (id : String) (rd : RmD) : Prop where
  ex : ∃ r, MtR X id r ∧ ∀ x xs d ds H h Qd Q, Rep (kx X) h H d x → RepL (kx X) h H ds xs → RH (kx X) h H → rd d ds h Qd → WV (kx X) h H Qd Q → r x xs H Q
/-- the value's type, as the machine sees it -/
def tyE (X : Cx) (T : String) (x : V) (H : Hp) : Prop := ∀ (pins : List (Addr × Obj)) (σ : L2.St) (s : Shared) (v : Value), Inv X pins σ H s → RelV x v → s.TypeIs v T ∧ ∀ a, v = .ref a → ∃ ob, s.heap.get? a = some ob ∧ ob.dict = none
def isTy (T : String) (d : D) (h : DH) : Prop := match d with
  | .str _ => T = "str"
  | .lv _ => T = "list"
  | .dv _ _ => T = "dict"
  | .ref p => (∃ ds, h p = some (.lst ds) ∧ T = "list") ∨ (∃ ks vs, h p = some (.dic ks vs) ∧ T = "dict")
  | _ => False
theorem tyE_of {T : String} {d : D} {x : V} {h : DH} {H : Hp} (r : Rep (kx X) h H d x) (R : RH (kx X) h H) (t : isTy T d h) : tyE X T x H := by
  intro pins σ s v I rx
  have lst : ∀ (p : Addr) (vs : List V), x = .ref p → SqL X.K H p vs → T = "list" → s.TypeIs v T ∧ ∀ a, v = .ref a → ∃ ob, s.heap.get? a = some ob ∧ ob.dict = none := fun p vs ex q et => by
    subst ex et
    exact tyV_is I rx (.inl ⟨rfl, vs, q⟩)
  have dic : ∀ (p : Addr) (ks : List D) (us vs : List V), x = .ref p → DicAt (kx X) H p ks us vs → T = "dict" → s.TypeIs v T ∧ ∀ a, v = .ref a → ∃ ob, s.heap.get? a = some ob ∧ ob.dict = none := fun p ks us vs ex dd et => by
    subst ex et
    cases (show v = Value.ref p from rx)
    obtain ⟨_, ob, eo, dO⟩ := dd
    have e := (I.hok p _ eo).1
    exact ⟨⟨ob, e, dO.cls.1⟩, fun a ea => by cases ea; exact ⟨ob, e, dO.cls.2.1⟩⟩
  cases d with
  | str z => cases (show x = V.str z from r); cases (show T = "str" from t); exact tyV_is (X := X) (T := "str") I rx (show tyV X.K "str" (V.str z) H from rfl)
  | lv ds => obtain ⟨p, vs, ex, q, _⟩ := r; exact lst p vs ex q.sq t
  | dv ks ds => obtain ⟨p, us, vs, ex, _, q, _⟩ := r; exact dic p ks us vs ex q t
  | ref p =>
    rcases t with ⟨ds, ep, t⟩ | ⟨ks, ds, ep, t⟩
    · obtain ⟨_, vs, q1, q2⟩ := R p _ ep; exact lst p vs r (SqL.of q1) t
    · obtain ⟨_, us, vs, q, _⟩ := R p _ ep; exact dic p ks us vs r q t
  | _ => exact t.elim
variable {es : List Expr} {ta : TAD} {name : Str} {apos cpos : Pos} {T id : String} {rd : RmD}
def rMt0 (T : String) (rd : RmD) (to : TED) : TED := fun sd h Q => to sd h fun d h1 => isTy T d h1 ∧ rd d [] h1 Q
def rMt (T : String) (rd : RmD) (to : TED) (ta : TAD) : TED := fun sd h Q => to sd h fun d h1 => isTy T d h1 ∧ ta sd h1 fun ds h2 => rd d ds h2 Q
theorem ed_mt0 (m : MtD X id rd) (ho : ED X o to) (pa : PlainAttrs T) (slot : Slot T name id) (hty : typeOf (.builtin id) = pure (.type "method_descriptor"))
    (hbase : attributeBase o name X.env (eval o X.env) = eval o X.env := by rfl) (hline : (apos.endLine == cpos.line) = true := by rfl) : ED X (.Call (.Attribute o name apos) [] [] cpos) (rMt0 T rd to) := by
  obtain ⟨r, hm, hr⟩ := m.ex
  obtain ⟨t, p, f⟩ := ho.ex
  refine ⟨fun σ H Q => t σ H fun x H1 => tyE X T x H1 ∧ r x [] H1 Q, ⟨fun pins s σ H Q I q => ?_⟩, fun σ H sd h Qd Q rs R q w => ?_⟩
  · refine wpAny_Call_method0_late hbase hline (thn (p.run pins s σ H _ I q) fun v s1 ⟨x, H1, I1, r1, ty, q1⟩ => ?_)
    have z := ty pins σ s1 v I1 r1
    exact ⟨T, id, pa, slot, hty, z.1, z.2, Calls.callWith_builtin rfl (PySem.evalArgs_none (hm pins s1 σ H1 x [] v [] Q I1 r1 .nil q1))⟩
  · exact f σ H sd h _ _ rs R q fun v H1 d h1 fr1 R1 r1 q1 => ⟨tyE_of r1 R1 q1.1, hr v [] d [] H1 h1 Qd Q r1 rfl R1 q1.2 (w.fr fr1)⟩
theorem ed_mt (m : MtD X id rd) (ho : ED X o to) (ha : AD X (e :: es) ta) (pa : PlainAttrs T) (slot : Slot T name id) (hty : typeOf (.builtin id) = pure (.type "method_descriptor"))
    (hbase : attributeBase o name X.env (eval o X.env) = eval o X.env := by rfl)
    (hfew : ((backTo cpos (starEach (e :: es) X.env)).all (fun x => !x.1) && (backToKw cpos (keywordEach [] X.env)).all (fun x => x.1.isSome) && decide ((e :: es).length + ([] : List Keyword).length + (if ([] : List Keyword).isEmpty then 0 else 1) < 30)) = true := by rfl)
    (hline : (apos.endLine == cpos.line) = true := by rfl) (hs : starEach (e :: es) X.env = (false, eval e X.env) :: starEach es X.env := by rfl) (hplain : (backTo cpos (starEach es X.env)).any (·.1) = false := by rfl) :
    ED X (.Call (.Attribute o name apos) (e :: es) [] cpos) (rMt T rd to ta) := by
  obtain ⟨r, hm, hr⟩ := m.ex
  obtain ⟨t, p, f⟩ := ho.ex
  obtain ⟨u, p2, f2⟩ := ha.ex
  refine ⟨fun σ H Q => t σ H fun x H1 => tyE X T x H1 ∧ u σ H1 fun xs H2 => r x xs H2 Q, ⟨fun pins s σ H Q I q => ?_⟩, fun σ H sd h Qd Q rs R q w => ?_⟩
  · refine wpAny_Call_method_late hbase hfew hline rfl (thn (p.run pins s σ H _ I q) fun v s1 ⟨x, H1, I1, r1, ty, q1⟩ => ?_)
    have z := ty pins σ s1 v I1 r1
    refine ⟨T, id, pa, slot, hty, z.1, z.2, ?_⟩
    have hA := p2.run cpos pins s1 σ H1 _ I1 q1
    rw [hs] at hA ⊢
    refine Calls.callWith_builtin (show (false || (backTo cpos (starEach es X.env)).any (·.1)) = false by rw [hplain]; rfl) (Calls.evalArgs_plain ?_)
    exact thn hA fun us s2 ⟨vs, H2, I2, r2, q2⟩ => hm pins s2 σ H2 x vs v us Q I2 r1 r2 q2
  · refine f σ H sd h _ _ rs R q fun v H1 d h1 fr1 R1 r1 q1 => ⟨tyE_of r1 R1 q1.1, ?_⟩
    exact f2 σ H1 sd h1 _ _ (rs.fr fr1) R1 q1.2 fun vs H2 ds h2 fr2 R2 r2 q2 => hr v vs d ds H2 h2 Qd Q (Rep.fr fr2 _ _ r1) r2 R2 q2 (w.fr (fr1.trans fr2))
/-- the items of a list in reach -/
def lstR (d : D) (h : DH) (k : Addr → List D → Prop) : Prop := match d with
  | .ref p => ∃ ds, h p = some (.lst ds) ∧ k p ds
  | _ => False
theorem lstR_ok {Z : Kx} {h : DH} {H : Hp} {d : D} {v : V} {k : Addr → List D → Prop} (r : Rep Z h H d v) (R : RH Z h H) (q : lstR d h k) : ∃ p ds vs, d = .ref p ∧ v = .ref p ∧ h p = some (.lst ds) ∧ H p = some (.lst vs) ∧ RepL Z h H ds vs ∧ k p ds := by
  cases d with
  | ref p =>
    obtain ⟨ds, e, q⟩ := q
    obtain ⟨_, vs, q1, q2⟩ := R p _ e
    exact ⟨p, ds, vs, rfl, r, e, q1, q2, q⟩
  | _ => exact q.elim
theorem lst_put {Z : Kx} {h : DH} {H : Hp} {p : Addr} {ds es : List D} {us : List V} (R : RH Z h H) (e : h p = some (.lst ds)) (r : RepL Z h H es us) : RH Z (up h p (.lst es)) (upd H p (.lst us)) :=
  RH.write e R ⟨us, upd_same, RepL.fr (Fr.write e) _ _ r⟩
def dAppend : RmD := fun d ds h Q => match ds with
  | [y] => lstR d h fun p xs => xs.length < sizeLine ∧ Q .non (up h p (.lst (xs ++ [y])))
  | _ => False
theorem md_append : MtD X "list.append" dAppend := ⟨_, mt_append, fun x xs d ds H h Qd Q r rs R q w => by
  unfold dAppend at q
  split at q
  · obtain ⟨y, rfl, ry⟩ := rs.one_of
    obtain ⟨p, ds, vs, rfl, rfl, e, eH, rl, z, q⟩ := lstR_ok r R q
    exact ⟨p, vs, y, rfl, rfl, eH, by rw [← rl.length]; exact z, w _ _ .non _ (Fr.write e) (lst_put R e (rl.append (.one ry))) rfl q⟩
  · exact q.elim⟩
def dExtend : RmD := fun d ds h Q => match ds with
  | [y] => lstR d h fun p xs => lstD y h fun ys => xs.length + ys.length ≤ sizeLine ∧ Q .non (up h p (.lst (xs ++ ys)))
  | _ => False
theorem md_extend : MtD X "list.extend" dExtend := ⟨_, mt_extend, fun x xs d ds H h Qd Q r rs R q w => by
  unfold dExtend at q
  split at q
  · obtain ⟨y, rfl, ry⟩ := rs.one_of
    obtain ⟨p, ds, vs, rfl, rfl, e, eH, rl, q⟩ := lstR_ok r R q
    obtain ⟨b, ys, us, rfl, eB, ru, z, q⟩ := lstD_ok ry R q
    exact ⟨p, b, vs, us, rfl, rfl, eH, eB, by rw [← rl.length, ← ru.length]; exact z, w _ _ .non _ (Fr.write e) (lst_put R e (rl.append ru)) rfl q⟩
  · exact q.elim⟩
theorem RepL.dropLast {Z : Kx} {h : DH} {H : Hp} {ds : List D} {vs : List V} (r : RepL Z h H ds vs) : RepL Z h H ds.dropLast vs.dropLast := by
  rw [List.dropLast_eq_take, List.dropLast_eq_take, r.length]
  exact r.take _
theorem RepL.erase {Z : Kx} {h : DH} {H : Hp} : ∀ {ds : List D} {vs : List V} (i : Nat), RepL Z h H ds vs → RepL Z h H (ds.eraseIdx i) (vs.eraseIdx i)
  | [], _, _, r => by cases (show _ = [] from r); rfl
  | _ :: _, _, 0, r => by obtain ⟨v, u, rfl, _, t⟩ := r; exact t
  | _ :: _, _, i + 1, r => by obtain ⟨v, u, rfl, q, t⟩ := r; exact ⟨v, _, rfl, q, RepL.erase i t⟩
def dPop : RmD := fun d ds h Q => match ds with
  | [] => lstR d h fun p xs => ∃ y, xs.getLast? = some y ∧ Q y (up h p (.lst xs.dropLast))
  | [.int i] => lstR d h fun p xs => -(2 ^ 63) ≤ i ∧ i < 2 ^ 63 ∧ ∃ k y, seqIndex? i xs.length = some k ∧ xs[k]? = some y ∧ Q y (up h p (.lst (xs.eraseIdx k)))
  | _ => False
theorem md_pop : MtD X "list.pop" dPop := ⟨_, MtR.or mt_pop mt_popAt, fun x xs d ds H h Qd Q r rs R q w => by
  unfold dPop at q
  split at q
  · cases (show xs = [] from rs)
    obtain ⟨p, ds, vs, rfl, rfl, e, eH, rl, y, hy, q⟩ := lstR_ok r R q
    rw [List.getLast?_eq_getElem?, rl.length] at hy
    obtain ⟨y', hy', ry⟩ := rl.get hy
    exact .inl ⟨p, vs, y', rfl, rfl, eH, hy', w _ _ y _ (Fr.write e) (lst_put R e rl.dropLast) (Rep.fr (Fr.write e) _ _ ry) q⟩
  · obtain ⟨i, rfl, ri⟩ := rs.one_of
    obtain ⟨p, ds, vs, rfl, rfl, e, eH, rl, z1, z2, k, y, hk, hy, q⟩ := lstR_ok r R q
    cases (show i = V.int _ from ri)
    obtain ⟨y', hy', ry⟩ := rl.get hy
    exact .inr ⟨p, vs, _, k, y', rfl, rfl, eH, z1, z2, by rw [← rl.length]; exact hk, hy', w _ _ y _ (Fr.write e) (lst_put R e (rl.erase k)) (Rep.fr (Fr.write e) _ _ ry) q⟩
  · exact q.elim⟩
def dGet : RmD := fun d ds h Q => match ds with
  | [k, z] => dctD d h fun ks vs => keyOk ks k = true ∧ Q ((lookA ks vs k).getD z) h
  | [k] => dctD d h fun ks vs => keyOk ks k = true ∧ Q ((lookA ks vs k).getD .non) h
  | _ => False
theorem md_get {k : Nat} (hr : Room k X.A) : MtD X "dict.get" dGet := by
  refine ⟨fun x xs H Q => ∃ d ds h Qd, Rep (kx X) h H d x ∧ RepL (kx X) h H ds xs ∧ RH (kx X) h H ∧ dGet d ds h Qd ∧ WV (kx X) h H Qd Q, ?_, fun x xs d ds H h Qd Q r rs R q w => ⟨d, ds, h, Qd, r, rs, R, q, w⟩⟩
  intro pins s σ H x xs v us Q I rx rv ⟨d, ds, h, Qd, r, rs, R, q, w⟩
  have fin : ∀ {ks vs : List D} {ws : List V} {k z : D} {z' : V}, RepL (kx X) h H vs ws → Rep (kx X) h H z z' → Qd ((lookA ks vs k).getD z) h → Q ((lookA ks ws k).getD z') H := fun {ks vs ws k z z'} r2 rz q => by
    cases e : lookA ks vs k with
    | none => rw [e] at q; rw [lookA_none r2 e]; exact w _ H z h Fr.refl R rz q
    | some y => rw [e] at q; obtain ⟨y', e2, ry⟩ := lookA_rep r2 e; rw [e2]; exact w _ H y h Fr.refl R ry q
  unfold dGet at q
  split at q
  · obtain ⟨k', z', rfl, rk, rz⟩ := rs.two_of
    obtain ⟨u1, u2, rfl, e1, e2⟩ := vals2 rv
    obtain ⟨a, ks, ds, us, vs, rfl, t, r1, r2, ok, q⟩ := dctD_ok r R q
    cases (show v = Value.ref a from rx)
    exact x_get2 (room16 hr) I t r1 rk e1 e2 ok fun w' s' I' rw' => ⟨_, H, I', rw', fin r2 rz q⟩
  · obtain ⟨k', rfl, rk⟩ := rs.one_of
    obtain ⟨u1, rfl, e1⟩ := vals1 rv
    obtain ⟨a, ks, ds, us, vs, rfl, t, r1, r2, ok, q⟩ := dctD_ok r R q
    cases (show v = Value.ref a from rx)
    exact x_get1 (room16 hr) I t r1 rk e1 ok fun w' s' I' rw' => ⟨_, H, I', rw', fin (z := .non) r2 rfl q⟩
  · exact q.elim
/-! texts -/
theorem rep_strs {Z : Kx} {h : DH} {H : Hp} : ∀ (ys : List Str), RepL Z h H (ys.map D.str) (ys.map V.str)
  | [] => rfl
  | y :: ys => ⟨.str y, _, rfl, rfl, rep_strs ys⟩
def dSplit : RmD := fun d ds h Q => match d, ds with
  | .str a, [.str b] => (b.length == 0) = false ∧ a.length + 2 ≤ sizeLine ∧ Q (.lv ((Txt.split a b).map D.str)) h
  | _, _ => False
theorem md_split : MtD X "str.split" dSplit := ⟨_, mt_split, fun x xs d ds H h Qd Q r rs R q w => by
  unfold dSplit at q
  split at q
  · obtain ⟨y, rfl, ry⟩ := rs.one_of
    cases (show x = V.str _ from r)
    cases (show y = V.str _ from ry)
    exact ⟨_, _, rfl, rfl, q.1, q.2.1, fun p n => w _ _ (.lv _) h (Fr.hid n R) (RH.hid n R) (lv_new n R (rep_strs _)) q.2.2⟩
  · exact q.elim⟩
/-! ### {} -/
theorem dicO_new {w : World} : DicO w { cls := .type "dict", data := .dict #[] } [] [] [] := ⟨⟨rfl, rfl, rfl⟩, ⟨#[], 0, rfl, rfl, rfl, rfl⟩, List.nodup_nil, Nat.zero_le _, .inl rfl⟩
theorem obX_new {P : Program} {w : World} {H : Hp} (h : Heap) : ObjOk P w H (h.push { cls := .type "dict", data := .dict #[] }) h.objs.size (ObX h.objs.size { cls := .type "dict", data := .dict #[] }) :=
  ⟨Heap.get?_push_size _ rfl, ⟨_, Heap.get?_push_size _ rfl⟩, fun _ _ e k => k _ e⟩
def rDict0 : TED := fun _ h Q => ∀ p, h p = none → Q (.ref p) (up h p (.dic [] []))
def rDict0V : TED := fun _ h Q => Q (.dv [] []) h
/-- a new dict's place -/
def tNewX : TE := fun _ H Q => ∀ p, H p = none → (p == sysModules) = false → Q (.ref p) (upd H p (ObX p { cls := .type "dict", data := .dict #[] }))
theorem pe_newX : PE X (.Dict [] [] pos) tNewX := ⟨fun pins s σ H Q I q =>
  wpAny_Dict_empty ⟨.ref s.heap.objs.size, _, I.laid (a := s.heap.objs.size) (o := ObX s.heap.objs.size { cls := .type "dict", data := .dict #[] }) (t' := s.toks) (fun _ _ q => Heap.get?_push_of_some _ q) (Nat.le_refl _) (obX_new s.heap), rfl,
    q _ (I.hok.fresh (Nat.le_refl _)) (beq_eq_false_iff_ne.mpr (Ne.symm (Nat.ne_of_lt I.big)))⟩⟩
theorem ed_dict0 : ED X (.Dict [] [] pos) rDict0 := ⟨_, pe_newX, fun σ H sd h Qd Q rs R q w p n ns =>
  w _ _ (.ref p) _ (Fr.new n R) (dic_new (ks := []) (es := []) n R ns dicO_new rfl rfl) rfl (q p (R.free n))⟩
theorem ed_dict0V : ED X (.Dict [] [] pos) rDict0V := ⟨_, pe_newX, fun σ H sd h Qd Q rs R q w p n ns =>
  w _ _ (.dv [] []) h (Fr.hid n R) (RH.hid n R) (dv_new (ks := []) (es := []) n R ns dicO_new rfl rfl) q⟩
end
end DL
set_option Elab.async false
set_option linter.all false
set_option maxRecDepth 100000
set_option maxHeartbeats 1000000
namespace DL
open PySem PySem.Spec PyProof.Rows L2
variable [FldTab]
theorem EntL.at' {w : World} : ∀ {ks : List D} {us vs : List V} {es : List DictEntry} {i : Nat}, EntL w ks us vs es → i < ks.length → ∃ u v e, us[i]? = some u ∧ vs[i]? = some v ∧ es[i]? = some e ∧ RelV u e.key ∧ RelV v e.val
  | [], _, _, _, _, _, h => absurd h (Nat.not_lt_zero _)
  | k :: ks, _, _, _, 0, ⟨u, ur, v, vr, e, er, rfl, rfl, rfl, _, h1, h2, _⟩, _ => ⟨u, v, e, rfl, rfl, rfl, h1, h2⟩
  | k :: ks, _, _, _, i + 1, ⟨u, ur, v, vr, e, er, rfl, rfl, rfl, _, _, _, t⟩, h => by
    obtain ⟨u, v, e, a, b, c, d, f⟩ := EntL.at' (i := i) t (Nat.lt_of_succ_lt_succ h)
    exact ⟨u, v, e, by simpa using a, by simpa using b, by simpa using c, d, f⟩
theorem at_arr {es : Array DictEntry} {i : Nat} {e : DictEntry} (h : es.toList[i]? = some e) : ∃ hi : i < es.size, es[i] = e := by
  rw [Array.getElem?_toList] at h
  exact Array.getElem?_eq_some_iff.mp h
/-! ### the pairs, the keys of a dict, walked -/
def ItiX (d : Addr) (o : Obj) (us vs : List V) : It :=
  ⟨fun i H => H d = some (ObX d o) ∧ i < us.length, fun i H v H' => ∃ T k x, us[i]? = some k ∧ vs[i]? = some x ∧ v = .ref T ∧ H T = none ∧ H' = upd H T (.tup [k, x]), fun i H => H d = some (ObX d o) ∧ us.length ≤ i⟩
def ItkX (d : Addr) (o : Obj) (us : List V) : It :=
  ⟨fun i H => H d = some (ObX d o) ∧ i < us.length, fun i H v H' => H' = H ∧ us[i]? = some v, fun i H => H d = some (ObX d o) ∧ us.length ≤ i⟩
def ItvX (d : Addr) (o : Obj) (vs : List V) : It :=
  ⟨fun i H => H d = some (ObX d o) ∧ i < vs.length, fun i H v H' => H' = H ∧ vs[i]? = some v, fun i H => H d = some (ObX d o) ∧ vs.length ≤ i⟩
section
variable {P : Program} {w : World} {K : PySem.W.Frag} {d : Addr} {o : Obj} {us vs : List V} {ks : List D} {es : Array DictEntry} {ep : Nat} {tg : Expr}
theorem turn_itX {elts : List Expr} {kk : Nat} {tpos : Pos} (it : Addr) (hx : o.ExactDict) (hod : o.data = .dict es ep) (en : EntL w ks us vs es.toList) :
    Turn P w K (.Tuple elts kk tpos) (ItiX d o us vs) [it] it (fun i h => ∃ ok ov, IsItemIter h it d i es.size ep ok ov) where
  mem := List.mem_singleton.mpr rfl
  obj := fun i h ⟨ok, ov, e⟩ b hb => by cases List.mem_singleton.mp hb; exact ⟨_, e, fun v z => nomatch z⟩
  keep := fun i h h' ⟨ok, ov, e⟩ k => ⟨ok, ov, k it (List.mem_singleton.mpr rfl) _ e⟩
  item := by
    intro X hP hw hK hc i pins s σ H E I hf ⟨ok, ov, he⟩ ⟨hd, hi⟩
    subst hP hw hK
    obtain ⟨l1, l2, l3⟩ := en.lens
    obtain ⟨k, x, e, q1, q2, q3, r1, r2⟩ := en.at' (i := i) (by omega)
    obtain ⟨hlt, q3⟩ := at_arr q3
    have hil : it < s.heap.objs.size := Heap.lt_size he
    refine wpAny_pyNext_items_item_raw he ⟨o, (I.hok d _ hd).1, hx, hod⟩ hlt fun h1 ho hT hz hk => ⟨_, rfl, wpAny_letOwnedTupleGo_items (s := { s with heap := h1 }) ho fun h2 he2 sb => ?_⟩
    rw [q3] at hT
    have hT2 := (sb.2 _ (Nat.ne_of_gt hil)).trans hT
    have I1 : Inv X pins σ (upd H s.heap.objs.size (.tup [k, x])) { s with heap := h2 } :=
      I.turnedNew (t' := s.toks) (ch := [it]) (fun b ob hb e => (sb.2 b fun z => hb (by rw [z]; exact List.mem_singleton.mpr rfl)).trans (hk b ob (fun z => hb (by rw [z]; exact List.mem_singleton.mpr rfl)) e)) hf (Nat.le_refl _)
        ⟨(by decide : 2 ≤ sizeLine), [e.key, e.val], .cons r1 (.cons r2 .nil), ⟨_, hT2, rfl, _, rfl⟩⟩
    refine ⟨.ref s.heap.objs.size, _, I1, rfl, ⟨_, k, x, q1, q2, rfl, I.hok.fresh (Nat.le_refl _), rfl⟩, ⟨_, _, he2⟩, fun b hb => ?_⟩
    cases List.mem_singleton.mp hb
    rw [upd_ne (Nat.ne_of_lt hil)]
    exact (hf it (List.mem_singleton.mpr rfl)).1
  done := by
    intro X hP hw hK hc i pins s σ H E I hf ⟨ok, ov, he⟩ ⟨hd, hi⟩
    subst hP hw hK
    obtain ⟨f0, f1, f2, f3, f4, f5⟩ := hf it (List.mem_singleton.mpr rfl)
    obtain ⟨l1, l2, l3⟩ := en.lens
    rw [Array.length_toList] at l3
    exact wpAny_pyNext_items_end_raw (I.ok.hd hc) he ⟨o, (I.hok d _ hd).1, hx, hod⟩ (by omega) fun h' eb => ⟨rfl, I.turned (t' := s.toks) (fun b ob hb e => eb b ob hb e) f0 f1 f3 f4 f5⟩
  self := fun A i s Q E ⟨_, _, e⟩ h => PySem.W.kcp_self e h
theorem turn_keyX (it : Addr) (hx : o.ExactDict) (hod : o.data = .dict es ep) (en : EntL w ks us vs es.toList) : Turn P w K tg (ItkX d o us) [it] it (fun i h => h.IsKeyIter it d i es.size ep) where
  mem := List.mem_singleton.mpr rfl
  obj := fun i h ⟨oi, e, c, dd⟩ b hb => by cases List.mem_singleton.mp hb; exact ⟨oi, e, fun v z => by rw [dd] at z; cases z⟩
  keep := fun i h h' st k => st.at fun oi e => k it (List.mem_singleton.mpr rfl) oi e
  item := by
    intro X hP hw hK hc i pins s σ H E I hf st ⟨hd, hi⟩
    subst hP hw hK
    obtain ⟨f0, f1, f2, f3, f4, f5⟩ := hf it (List.mem_singleton.mpr rfl)
    obtain ⟨l1, l2, l3⟩ := en.lens
    obtain ⟨k, x, e, q1, q2, q3, r1, r2⟩ := en.at' (i := i) (by omega)
    obtain ⟨hlt, q3⟩ := at_arr q3
    refine wpAny_pyNext_keys_item_raw st ⟨o, (I.hok d _ hd).1, hx, hod⟩ hlt fun h1 st1 sb => ?_
    have I1 : Inv X pins σ H { s with heap := h1 } := I.turned (t' := s.toks) (fun b ob hb e => (sb.2 b hb).trans e) f0 f1 f3 f4 f5
    obtain ⟨oi, e1, c, dd⟩ := id st1
    exact ⟨_, rfl, go_of (s := { s with heap := h1 }) e1 c dd (by decide) ⟨k, H, I1, by rw [q3]; exact r1, ⟨rfl, q1⟩, st1, fun b hb => (hf b hb).1⟩⟩
  done := by
    intro X hP hw hK hc i pins s σ H E I hf st ⟨hd, hi⟩
    subst hP hw hK
    obtain ⟨f0, f1, f2, f3, f4, f5⟩ := hf it (List.mem_singleton.mpr rfl)
    obtain ⟨l1, l2, l3⟩ := en.lens
    rw [Array.length_toList] at l3
    exact wpAny_pyNext_keys_end_raw (I.ok.hd hc) st ⟨o, (I.hok d _ hd).1, hx, hod⟩ (by omega) fun h' eb => ⟨rfl, I.turned (t' := s.toks) (fun b ob hb e => eb b ob hb e) f0 f1 f3 f4 f5⟩
  self := fun A i s Q E st h => wpAny_pyIter_keyiter st h
end
/-- a dict out of reach is walked -/
def tDicT (td : TE) (X : Cx) : L2.St → Hp → (Addr → Obj → List D → List V → List V → Hp → Prop) → Prop := fun σ H R => td σ H fun x H1 => ∃ d o ks us vs, x = .ref d ∧ (d == sysModules) = false ∧ H1 d = some (ObX d o) ∧ DicO X.w o ks us vs ∧ R d o ks us vs H1
section
variable {X : Cx} {tg e : Expr} {td : TE} {te : TED} {apos cpos pos p : Pos}
theorem pi_itX {elts : List Expr} {kk : Nat} {tpos : Pos} (he : PE X e td) (hbase : attributeBase e "items" X.env (eval e X.env) = eval e X.env := by rfl) (hline : (apos.endLine == cpos.line) = true := by rfl) :
    PI X (.Tuple elts kk tpos) (.Call (.Attribute e "items" apos) [] [] cpos) (fun σ H R => tDicT td X σ H fun d o ks us vs H1 => R (ItiX d o us vs) H1) := by
  refine ⟨fun pins s σ H R I h => ?_⟩
  refine wpAny_Call_method (T := "dict") (id := "dict.items") hbase rfl hline F.plainAttrs_dict F.slot_dict_items F.type_dict_items (thn (he.run pins s σ H _ I h) fun u s1 ⟨x, H1, I1, rx, d, o, ks, us, vs, ex, hs, hd, dO, q⟩ => ?_)
  subst ex
  cases (show u = Value.ref d from rx)
  have eo := (I1.hok d _ hd).1
  obtain ⟨hx, ⟨es, ep, hod, en⟩, _, _, _⟩ := dO
  have tI : s1.TypeIs (.ref d) "dict" := ⟨o, eo, hx.1⟩
  refine ⟨tI, fun b q => by cases q; exact ⟨o, eo, hx.2.1⟩, ?_⟩
  have I2 : Inv X pins σ H1 { s1 with heap := s1.heap.push { cls := .type "dict_items", data := .fields #[.ref d] } } := I1.kept (t' := s1.toks) fun b ob q => Heap.get?_push_of_some _ q
  have raw : s1.heap.DictRaw d es ep := ⟨o, eo, hx, hod⟩
  refine method_meetsIn F.slot_dict_items F.entry_dict_items rfl (PySem.evalArgs_none ⟨rfl, tI, F.args_dict_items_1 _, _, meets_dict_items_raw d hs, ⟨⟨es, ep, raw⟩, ?_⟩⟩)
  exact wpAny_pyIter_items_raw (d := d) ⟨_, Heap.get?_push_size _ rfl, rfl, rfl⟩ (raw.push _) (pi_one (tk := s1.toks) I2 _ (turn_itX _ hx hod en) ⟨.none, .none, Heap.get?_push_size _ rfl⟩ q)
theorem pi_keyX (he : PE X e td) : PI X tg e (fun σ H R => tDicT td X σ H fun d o ks us vs H1 => R (ItkX d o us) H1) := by
  refine ⟨fun pins s σ H R I h => ?_⟩
  refine thn (he.run pins s σ H _ I h) fun u s1 ⟨x, H1, I1, rx, d, o, ks, us, vs, ex, hs, hd, dO, q⟩ => ?_
  subst ex
  cases (show u = Value.ref d from rx)
  have eo := (I1.hok d _ hd).1
  obtain ⟨hx, ⟨es, ep, hod, en⟩, _, _, _⟩ := dO
  exact wpAny_pyIter_dict_raw hs ⟨o, eo, hx, hod⟩ (pi_one (tk := s1.toks) I1 _ (turn_keyX _ hx hod en) ⟨_, Heap.get?_push_size _ rfl, rfl, rfl⟩ q)
/-- the pairs (key, value) as trees -/
def rItems (te : TED) : TID := fun sd h R => te sd h fun d h1 => match d with
  | .dv ks vs => R (pairD ks vs) (fun _ => True) h1
  | _ => False
def rKeys (te : TED) : TID := fun sd h R => te sd h fun d h1 => match d with
  | .dv ks vs => R ks (fun _ => True) h1
  | _ => False
theorem pairD_get {ks ds : List D} {i : Nat} {k d : D} (a : ks[i]? = some k) (b : ds[i]? = some d) : (pairD ks ds)[i]? = some (.tup [k, d]) := by
  unfold pairD
  rw [List.getElem?_zipWith, a, b]
theorem pairD_len {ks ds : List D} (e : ks.length = ds.length) : (pairD ks ds).length = ks.length := by unfold pairD; rw [List.length_zipWith, ← e, Nat.min_self]
theorem id_items {elts : List Expr} {kk : Nat} {tpos : Pos} (he : ED X e te) (hbase : attributeBase e "items" X.env (eval e X.env) = eval e X.env := by rfl) (hline : (apos.endLine == cpos.line) = true := by rfl) :
    ID X (.Tuple elts kk tpos) (.Call (.Attribute e "items" apos) [] [] cpos) (rItems te) := by
  obtain ⟨t, pp, f⟩ := he.ex
  refine ⟨_, pi_itX pp hbase hline, fun σ H sd h Rd R' rs R q w => ?_⟩
  refine f σ H sd h _ _ rs R q fun v H1 d h1 fr1 R1 r1 q1 => ?_
  cases d with
  | dv ks ds =>
    obtain ⟨a, us, vs, rfl, na, ⟨ns, o, eo, dO⟩, r1, r2⟩ := r1
    refine ⟨a, o, ks, us, vs, rfl, ns, eo, dO, w _ H1 _ _ h1 fr1 R1 ?_ q1⟩
    have l1 := r1.length
    have l2 := r2.length
    obtain ⟨_, ⟨es, ep, _, en⟩, _, _, _⟩ := dO
    obtain ⟨m1, m2, _⟩ := en.lens
    have lp : (pairD ks ds).length = us.length := by rw [pairD_len (by omega), l1]
    refine ⟨fun i H' h' hi fr _ _ => ⟨(fr a _ eo na).1, by rw [← lp]; exact hi⟩, fun H' h' fr _ _ => ⟨(fr a _ eo na).1, by rw [lp]; exact Nat.le_refl _⟩, fun i H' h' x H2 hi fr R' _ y => ?_⟩
    obtain ⟨T, k, z, e1, e2, rfl, nT, rfl⟩ := y
    have hi1 : i < ks.length := by rw [lp, ← l1] at hi; exact hi
    have hi2 : i < ds.length := by omega
    obtain ⟨k', f1, rk⟩ := (RepL.fr fr _ _ r1).get (List.getElem?_eq_getElem hi1)
    obtain ⟨z', f2, rz⟩ := (RepL.fr fr _ _ r2).get (List.getElem?_eq_getElem hi2)
    rw [e1] at f1; cases f1
    rw [e2] at f2; cases f2
    obtain ⟨g1, g2, g3⟩ := pair_new nT R' rk rz
    exact ⟨g1, g2, _, pairD_get (List.getElem?_eq_getElem hi1) (List.getElem?_eq_getElem hi2), g3⟩
  | _ => exact q1.elim
theorem id_keys (he : ED X e te) : ID X tg e (rKeys te) := by
  obtain ⟨t, pp, f⟩ := he.ex
  refine ⟨_, pi_keyX pp, fun σ H sd h Rd R' rs R q w => ?_⟩
  refine f σ H sd h _ _ rs R q fun v H1 d h1 fr1 R1 r1 q1 => ?_
  cases d with
  | dv ks ds =>
    obtain ⟨a, us, vs, rfl, na, ⟨ns, o, eo, dO⟩, r1, r2⟩ := r1
    refine ⟨a, o, ks, us, vs, rfl, ns, eo, dO, w _ H1 _ _ h1 fr1 R1 ?_ q1⟩
    have l1 := r1.length
    refine ⟨fun i H' h' hi fr _ _ => ⟨(fr a _ eo na).1, by rw [← l1]; exact hi⟩, fun H' h' fr _ _ => ⟨(fr a _ eo na).1, by rw [l1]; exact Nat.le_refl _⟩, fun i H' h' x H2 hi fr R' _ y => ?_⟩
    obtain ⟨rfl, e1⟩ := y
    obtain ⟨k', f1, rk⟩ := (RepL.fr fr _ _ r1).get (List.getElem?_eq_getElem hi)
    rw [e1] at f1; cases f1
    exact ⟨Fr.refl, R', _, List.getElem?_eq_getElem hi, rk⟩
  | _ => exact q1.elim
/-! ### list(d), dict(pairs), list(d.items()) -/
def dListD : RcD := fun ds h Q => match ds with
  | [d] => dctD d h fun ks vs => Q (.lv ks) h
  | _ => False
theorem ca_listD (hc : X.calm = true := by rfl) : CaD X (.type "list") dListD := by
  refine ⟨fun xs H Q => ∃ ds h Qd, RepL (kx X) h H ds xs ∧ RH (kx X) h H ∧ dListD ds h Qd ∧ WV (kx X) h H Qd Q, ?_, fun vs ds H h Qd Q r R q w => ⟨ds, h, Qd, r, R, q, w⟩⟩
  intro pins s σ H xs us Q I rv ⟨ds, h, Qd, r, R, q, w⟩
  unfold dListD at q
  split at q
  · obtain ⟨v, rfl, r1⟩ := r.one_of
    obtain ⟨a, ks, ds, ws, vs, rfl, ⟨ns, o, eo, dO⟩, r1, r2, q⟩ := dctD_ok r1 R q
    obtain ⟨u, rfl, eu⟩ := vals1 rv
    cases (show u = Value.ref a from eu)
    have dO' := dO
    obtain ⟨hx, ⟨es, ep, hod, en⟩, _, sz, _⟩ := dO
    obtain ⟨l1, l2, l3⟩ := en.lens
    rw [Array.length_toList] at l3
    refine PySem.W.kdl_call (KdlSrc.rawDict (es := es) (ep := ep) ns) (I.ok.hd hc) ⟨o, (I.hok a _ eo).1, hx, hod⟩ (by omega) fun h1 tk acc c hk hS hacc => ?_
    have hv : Vals ws acc.toList := by
      have z0 : acc.toList.length = acc.size := Array.length_toList
      have z1 := hacc.1
      refine vals_of_at (by omega) fun j x u h2 h3 => ?_
      obtain ⟨hj, e⟩ := hacc.2 j u (by rw [← Array.getElem?_toList]; exact h3)
      subst e
      obtain ⟨k, z, e, q1, q2, q3, g1, g2⟩ := en.at' (i := j) (by omega)
      obtain ⟨_, q3⟩ := at_arr q3
      rw [q1] at h2; cases h2
      rw [q3]; exact g1
    have n : H s.heap.objs.size = none := I.hok.fresh (Nat.le_refl _)
    exact ⟨.ref _, _, I.laid hk (Nat.le_refl _) (show ObjOk X.prog X.w _ _ _ (.lst ws) from ⟨by omega, acc.toList, c, hv, by rw [Array.toArray_toList]; exact hS⟩), rfl, w _ _ (.lv ks) h (Fr.hid n R) (RH.hid n R) (lv_new n R r1) q⟩
  · exact q.elim
end
end DL
set_option Elab.async false
set_option linter.all false
set_option maxRecDepth 100000
set_option maxHeartbeats 1000000
namespace DL
open PySem PySem.Spec PyProof.Rows L2
open AutoSeq1 (wpAny_loadPart')
variable [FldTab]
/-! ### enumerate of a tuple -/
theorem meets_enumT (l : Addr) (items : Array Value) (n : Nat) (dct : Option Addr) (sl : Array (Option Value)) :
    Meets (Builtin.«enumerate.__new__» ⟨[.type "enumerate", .ref l], []⟩) (fun _ R s => s.heap.get? l = some { cls := .type "tuple", data := .seq items n, dict := dct, slots := sl } ∧
      R (.ok (.ret (.ref (s.heap.push { cls := .type "tuple_iterator", data := .fields #[.ref l, .int 0 0] }).objs.size)))
        { s with heap := (s.heap.push { cls := .type "tuple_iterator", data := .fields #[.ref l, .int 0 0] }).push { cls := .type "enumerate", data := .fields #[.none, .bool false, .ref s.heap.objs.size, rawInt 0, .none, .none] } }) :=
  .of_wp fun prog w A R s h => by
    obtain ⟨hp, gg, dd, tt, os⟩ := s
    obtain ⟨hl, h⟩ := h
    have hsub := sub_enumerate
    have hT : Heap.IsTuple (Shared.heap ⟨hp, gg, dd, tt, os⟩) l items := ⟨_, hl, rfl, n, rfl⟩
    wp_walk using wpAny_loadPart' hl
    refine wpAny_stack_any fun st => wpAny_pure ?_
    split
    · rename_i c _ _ _ _ _
      cases (c == Value.type "enumerate") <;> (wp_walk using wpAny_loadPart' hl, wpAny_pyIter_tuple hT; exact ⟨_, rfl, h⟩)
    · wp_walk using wpAny_loadPart' hl, wpAny_pyIter_tuple hT
      exact ⟨_, rfl, h⟩
section
variable {prog : Program} {w : World} {A : Around} {E : Value → Shared → Prop} {s : Shared}
theorem call_enumT {l : Addr} {items : Array Value} {Q : Value → Shared → Prop} (hL : s.heap.IsTuple l items)
    (h : ∀ h', IsEnum h' (s.heap.objs.size + 1) s.heap.objs.size ((0 : Nat) : Int) .none → h'.IsTupleIter s.heap.objs.size l 0 → (∀ b o, s.heap.get? b = some o → h'.get? b = some o) → Q (.ref (s.heap.objs.size + 1)) { s with heap := h' }) :
    wpAny (model prog w) A (call (.type "enumerate") [.ref l]) Q E s := by
  obtain ⟨⟨c, dct, dt, sl⟩, hl, hc, n, hd⟩ := hL
  cases (show c = .type "tuple" from hc)
  cases (show dt = .seq items n from hd)
  refine callType_new F.called_enumerate (by decide) (F.typeCall_enumerate_1 _) (F.newCall_enumerate_1 _) (fun obj => F.args_object_init_2 obj _) F.entry_enumerate_new (meets_enumT l items n dct sl) ⟨hl, ?_⟩
  generalize hi : s.heap.push { cls := .type "tuple_iterator", data := .fields #[.ref l, .int 0 0] } = h1
  have hz : h1.objs.size = s.heap.objs.size + 1 := by rw [← hi]; exact Heap.size_push ..
  have hg : h1.get? s.heap.objs.size = some { cls := .type "tuple_iterator", data := .fields #[.ref l, .int 0 0] } := by rw [← hi]; exact Heap.get?_push_size _ rfl
  show _ ∧ _
  have he : IsEnum (h1.push { cls := .type "enumerate", data := .fields #[.none, .bool false, .ref s.heap.objs.size, rawInt 0, .none, .none] }) (s.heap.objs.size + 1) s.heap.objs.size ((0 : Nat) : Int) .none := by
    rw [← hz]; exact Heap.get?_push_size h1 rfl
  rw [hz]
  exact ⟨⟨_, he, rfl⟩, h _ he ⟨_, Heap.get?_push_of_some _ hg, rfl, rfl⟩ fun b o x => Heap.get?_push_of_some _ (by rw [← hi]; exact Heap.get?_push_of_some _ x)⟩
end
/-- the tuple at a, each item in a new pair with its number -/
def IteT (K : PySem.W.Frag) (a : Addr) : It :=
  ⟨fun i H => ∃ (xs : List V) (x : V), SqT K H a xs ∧ xs[i]? = some x, fun i H v H' => ∃ T x, v = .ref T ∧ H T = none ∧ H' = upd H T (.tup [.int (i : Nat), x]) ∧ ∀ xs, SqT K H a xs → xs[i]? = some x, fun i H => ∃ xs : List V, SqT K H a xs ∧ xs.length = i⟩
theorem turn_enumT {P : Program} {w : World} {K : PySem.W.Frag} {elts : List Expr} {kk : Nat} {tpos : Pos} (a e it : Addr) :
    Turn P w K (.Tuple elts kk tpos) (IteT K a) [e, it] e (fun i h => (∃ old, IsEnum h e it ((i : Nat) : Int) old) ∧ h.IsTupleIter it a i ∧ e ≠ it ∧ a ≠ it ∧ a ≠ e) where
  mem := List.mem_cons_self
  obj := fun i h ⟨⟨old, he⟩, ⟨o, ho, hc, hd⟩, _⟩ b hb => by
    rcases List.mem_cons.mp hb with z | z
    · rw [z]; exact ⟨_, he, fun v q => nomatch q⟩
    · rw [List.mem_singleton.mp z]; exact ⟨o, ho, fun v q => by rw [hd] at q; cases q⟩
  keep := fun i h h' ⟨⟨old, he⟩, hi, hne⟩ k => ⟨⟨old, k e List.mem_cons_self _ he⟩, hi.at fun o q => k it (List.mem_cons_of_mem _ List.mem_cons_self) o q, hne⟩
  item := by
    intro X hP hw hK hc i pins s σ H E I hf ⟨⟨old, he⟩, hit, hne, hai, hae⟩ ⟨xs, x, hq, hx⟩
    subst hP hw hK
    obtain ⟨its, rv, p, hz⟩ := I.tuple hq
    obtain ⟨u, hu, ru⟩ := rv.get hx
    have hel : e < s.heap.objs.size := Heap.lt_size he
    have hil : it < s.heap.objs.size := by obtain ⟨_, q, _⟩ := hit; exact Heap.lt_size q
    have hlt : i < its.toArray.size := by rw [List.size_toArray]; exact (List.getElem?_eq_some_iff.mp hu).1
    have hef : e ∉ [it, a] := fun z => by
      rcases List.mem_cons.mp z with z | z
      · exact hne z
      · exact hae (List.mem_singleton.mp z).symm
    have mem2 : ∀ b, b ∉ [e, it] → b ≠ e ∧ b ≠ it := fun b hb => ⟨fun z => hb (by rw [z]; exact List.mem_cons_self), fun z => hb (by rw [z]; exact List.mem_cons_of_mem _ List.mem_cons_self)⟩
    refine wpAny_pyNext_enum_itemD (Draws.tuple (A := X.A.in1) (I.ok.hd hc) it a hai its.toArray) he ⟨hit, p⟩ hlt hne hef fun y h1 tk hy ho hst hT hsz hk => ?_
    have ey : y = u := by
      have z : its.toArray[i]? = some y := hy
      rw [List.getElem?_toArray, hu] at z
      exact (Option.some.inj z).symm
    subst ey
    refine ⟨_, rfl, wpAny_letOwnedTupleGo_enum (s := { s with heap := h1, toks := tk + 1 }) ho fun h2 he2 sb => ?_⟩
    have hT2 := (sb.2 _ (Nat.ne_of_gt hel)).trans hT
    have I1 : Inv X pins σ (upd H s.heap.objs.size (.tup [.int (i : Nat), x])) { s with heap := h2, toks := tk + 1 } :=
      I.turnedNew (ch := [e, it]) (fun b ob hb q => (sb.2 b (mem2 b hb).1).trans (hk b ob (mem2 b hb).1 (mem2 b hb).2 q)) hf (Nat.le_refl _)
        ⟨(by decide : 2 ≤ sizeLine), [.int i tk, y], .cons ⟨_, rfl⟩ (.cons ru .nil), ⟨_, hT2, rfl, _, rfl⟩⟩
    refine ⟨.ref s.heap.objs.size, _, I1, rfl, ⟨_, x, rfl, I.hok.fresh (Nat.le_refl _), rfl, fun ys hy => ?_⟩, ⟨⟨y, ?_⟩, hst.1.at fun o q => (sb.2 it (Ne.symm hne)).trans q, hne, hai, hae⟩, fun b hb => ?_⟩
    · rw [I.tuple_inj hy hq]; exact hx
    · rw [show ((i + 1 : Nat) : Int) = (i : Int) + 1 by omega]; exact he2
    · rcases List.mem_cons.mp hb with z | z
      · rw [z, upd_ne (Nat.ne_of_lt hel)]; exact (hf e List.mem_cons_self).1
      · rw [List.mem_singleton.mp z, upd_ne (Nat.ne_of_lt hil)]; exact (hf it (List.mem_cons_of_mem _ List.mem_cons_self)).1
  done := by
    intro X hP hw hK hc i pins s σ H E I hf ⟨⟨old, he⟩, hit, hne, hai, hae⟩ ⟨xs, hq, hx⟩
    subst hP hw hK
    obtain ⟨its, rv, p, hz⟩ := I.tuple hq
    obtain ⟨f0, f1, f2, f3, f4, f5⟩ := hf it (List.mem_cons_of_mem _ List.mem_cons_self)
    have hst : i = its.toArray.size := by rw [List.size_toArray, ← rv.length]; exact hx.symm
    subst hst
    exact wpAny_pyNext_enum_endD (Draws.tuple (A := X.A.in1) (I.ok.hd hc) it a hai its.toArray) he ⟨hit, p⟩ fun h' eb => ⟨rfl, I.turned (t' := s.toks) (fun b o hb q => eb b o hb q) f0 f1 f3 f4 f5⟩
  self := fun A i s Q E ⟨⟨_, he⟩, _⟩ h => wpAny_pyIter_enum he h
end DL
set_option Elab.async false
set_option linter.all false
set_option maxRecDepth 100000
set_option maxHeartbeats 1000000
namespace DL
open PySem PySem.Spec PyProof.Rows L2
variable [FldTab]
section
variable {X : Cx} {tg e a b elt iter : Expr} {td : TE} {te tA tB : TED} {ta : TAD} {apos cpos pos p : Pos}
/-! ### enumerate -/
theorem pi_enumA {elts : List Expr} {kk : Nat} {tpos : Pos} {t : TA} (hg : Gl X "enumerate") (hm : X.mg "enumerate" = none) (ha : PA X [e] t) (hs : starEach [e] X.env = [(false, eval e X.env)] := by rfl) :
    PI X (.Tuple elts kk tpos) (.Call (.Name "enumerate" p) [e] [] pos) (fun σ H R => t σ H fun vs H1 => ∃ a, vs = [.ref a] ∧ ((∃ xs, SqT X.K H1 a xs ∧ R (IteT X.K a) H1) ∨ ∃ xs, SqL X.K H1 a xs ∧ R (Ite X.K a) H1)) := by
  refine ⟨fun pins s σ H R I h => ?_⟩
  refine Call_ (ld_blt I hg hm boot_enumerate (PyProof.Rows.callWith_type1 (thn (ha.run pos pins s σ H _ I h) fun us s1 ⟨vs, H1, I1, r1, a, ex, hq⟩ => ?_) hs rfl))
  subst ex
  obtain ⟨u, rfl, r⟩ := vals1 r1
  cases (show u = .ref a from r)
  have fp : ∀ b ∈ [s1.heap.objs.size + 1, s1.heap.objs.size], FpOk X pins H1 b := fun b hb => by
    have hle : s1.heap.objs.size ≤ b := by
      rcases List.mem_cons.mp hb with z | z
      · rw [z]; exact Nat.le_succ _
      · rw [List.mem_singleton.mp z]; exact Nat.le_refl _
    exact I1.fpOk hle (I1.hok.fresh hle)
  rcases hq with ⟨xs, hq, q⟩ | ⟨xs, hq, q⟩
  · obtain ⟨its, rv, tt, hz⟩ := I1.tuple hq
    have hal : a < s1.heap.objs.size := by obtain ⟨_, z, _⟩ := tt; exact Heap.lt_size z
    refine call_enumT tt fun h1 he hit hk => wpAny_pyIter_enum he ?_
    exact ⟨s1.heap.objs.size + 1, _, _, _, H1, rfl, I1.kept (t' := s1.toks) hk, turn_enumT a (s1.heap.objs.size + 1) s1.heap.objs.size, ⟨⟨.none, he⟩, hit, Nat.succ_ne_self _, Nat.ne_of_lt hal, Nat.ne_of_lt (Nat.lt_succ_of_lt hal)⟩, fp, q⟩
  · obtain ⟨its, rv, tt, hz⟩ := I1.list hq
    refine call_enumerate_list tt.isList fun h1 he hit hsz hk => wpAny_pyIter_enum he ?_
    exact ⟨s1.heap.objs.size + 1, _, _, _, H1, rfl, I1.kept (t' := s1.toks) hk, turn_enum a (s1.heap.objs.size + 1) s1.heap.objs.size, ⟨⟨.none, he⟩, hit, Nat.succ_ne_self _⟩, fp, q⟩
/-- the items with their numbers -/
def enumF : Nat → List D → List D
  | _, [] => []
  | i, d :: ds => .tup [.int (i : Nat), d] :: enumF (i + 1) ds
theorem enumF_len : ∀ (ds : List D) (k : Nat), (enumF k ds).length = ds.length
  | [], _ => rfl
  | d :: ds, k => congrArg Nat.succ (enumF_len ds (k + 1))
theorem enumF_get : ∀ (ds : List D) (k i : Nat) (d : D), ds[i]? = some d → (enumF k ds)[i]? = some (.tup [.int ((k + i : Nat) : Int), d])
  | [], _, _, _, e => by simp at e
  | z :: ds, k, 0, d, e => by cases (show some z = some d from e); rfl
  | z :: ds, k, i + 1, d, e => by
    have ih := enumF_get ds (k + 1) i d (by simpa using e)
    rw [show k + 1 + i = k + (i + 1) by omega] at ih
    exact ih
def rEnum (ta : TAD) : TID := fun sd h R => ta sd h fun ds h1 => match ds with
  | [d] => walkS d h1 fun items G => R (enumF 0 items) G h1
  | _ => False
theorem walk_eT {Z : Kx} {h : DH} {H : Hp} {a : Addr} {ds : List D} {vs : List V} (t : TupAt Z.K h H a vs) (r : RepL Z h H ds vs) : WalkD Z (IteT Z.K a) (enumF 0 ds) (fun _ => True) h H := by
  have l := r.length
  have le := enumF_len ds 0
  refine ⟨fun i H' h' hi fr R _ => ⟨vs, vs[i]'(by omega), (t.fr fr).sq, List.getElem?_eq_getElem _⟩, fun H' h' fr R _ => ⟨vs, (t.fr fr).sq, by omega⟩, fun i H' h' x H2 hi fr R _ y => ?_⟩
  obtain ⟨T, z, rfl, n, rfl, hz⟩ := y
  have e1 := hz vs (t.fr fr).sq
  have hi' : i < ds.length := by omega
  obtain ⟨v, e3, r3⟩ := (RepL.fr fr _ _ r).get (List.getElem?_eq_getElem hi')
  rw [e1] at e3; cases e3
  obtain ⟨g1, g2, g3⟩ := pair_new (x := .int (i : Nat)) (v := .int (i : Nat)) n R rfl r3
  exact ⟨g1, g2, _, by have z := enumF_get ds 0 i _ (List.getElem?_eq_getElem hi'); rw [Nat.zero_add] at z; exact z, g3⟩
theorem walk_eL {Z : Kx} {h : DH} {H : Hp} {a : Addr} {ds : List D} {G : DH → Prop} (hs : ∀ H' h', Fr h H h' H' → RH Z h' H' → G h' → ∃ vs, SqL Z.K H' a vs ∧ RepL Z h' H' ds vs) : WalkD Z (Ite Z.K a) (enumF 0 ds) G h H := by
  have le := enumF_len ds 0
  refine ⟨fun i H' h' hi fr R g => ?_, fun H' h' fr R g => ?_, fun i H' h' x H2 hi fr R g y => ?_⟩
  · obtain ⟨vs, q, r⟩ := hs H' h' fr R g
    have l := r.length
    exact ⟨vs, vs[i]'(by omega), q, List.getElem?_eq_getElem _⟩
  · obtain ⟨vs, q, r⟩ := hs H' h' fr R g
    have l := r.length
    exact ⟨vs, q, by omega⟩
  · obtain ⟨vs, q, r⟩ := hs H' h' fr R g
    obtain ⟨T, z, rfl, n, rfl, hz⟩ := y
    have e1 := hz vs q
    have hi' : i < ds.length := by omega
    obtain ⟨v, e3, r3⟩ := r.get (List.getElem?_eq_getElem hi')
    rw [e1] at e3; cases e3
    obtain ⟨g1, g2, g3⟩ := pair_new (x := .int (i : Nat)) (v := .int (i : Nat)) n R rfl r3
    exact ⟨g1, g2, _, by have z := enumF_get ds 0 i _ (List.getElem?_eq_getElem hi'); rw [Nat.zero_add] at z; exact z, g3⟩
theorem id_enum {elts : List Expr} {kk : Nat} {tpos : Pos} (ha : AD X [e] ta) (hm : X.mg "enumerate" = none) (hg : Gl X "enumerate" := by rfl) (hs : starEach [e] X.env = [(false, eval e X.env)] := by rfl) :
    ID X (.Tuple elts kk tpos) (.Call (.Name "enumerate" p) [e] [] pos) (rEnum ta) := by
  obtain ⟨t, pp, f⟩ := ha.ex
  refine ⟨_, pi_enumA hg hm pp hs, fun σ H sd h Rd R' rs R q w => ?_⟩
  · refine f σ H sd h _ _ rs R q fun vs H1 ds h1 fr1 R1 r1 q1 => ?_
    match ds, r1, q1 with
    | [d], r1, q1 =>
      obtain ⟨v, rfl, rv⟩ := r1.one_of
      unfold walkS at q1
      cases d with
      | tup ds =>
        obtain ⟨a, vs, rfl, t, r⟩ := rv
        exact ⟨a, rfl, .inl ⟨vs, t.sq, w _ H1 _ _ h1 fr1 R1 (walk_eT t r) q1⟩⟩
      | lv ds =>
        obtain ⟨a, vs, rfl, t, r⟩ := rv
        exact ⟨a, rfl, .inr ⟨vs, t.sq, w _ H1 _ _ h1 fr1 R1 (walk_eL fun H' h' fr _ _ => ⟨vs, (t.fr fr).sq, RepL.fr fr _ _ r⟩) q1⟩⟩
      | ref p =>
        obtain ⟨ds, ep, q1⟩ := q1
        cases (show v = .ref p from rv)
        obtain ⟨_, vs, e2, r⟩ := R1 p _ ep
        refine ⟨p, rfl, .inr ⟨vs, SqL.of e2, w _ H1 _ _ h1 fr1 R1 (walk_eL fun H' h' fr R2 g => ?_) q1⟩⟩
        obtain ⟨_, us, e3, r3⟩ := R2 p _ g
        exact ⟨us, SqL.of e3, r3⟩
      | _ => exact q1.elim
end
end DL
set_option Elab.async false
set_option linter.all false
set_option maxRecDepth 100000
set_option maxHeartbeats 1000000
namespace DL
open PySem PySem.Spec PyProof.Rows L2
variable [FldTab]
section
variable {Z : Kx} {h : DH} {H H' : Hp}
/-- more is tracked -/
theorem Fr.more (e : ∀ b o, H b = some o → H' b = some o) : Fr h H h H' := fun a o q n => ⟨e a o q, n⟩
theorem RH.more (e : ∀ b o, H b = some o → H' b = some o) (R : RH Z h H) : RH Z h H' := fun a o q => by
  obtain ⟨⟨y, ey⟩, r⟩ := R a o q
  exact ⟨⟨y, e a y ey⟩, r.fr (Fr.more e) ((e a y ey).trans ey.symm)⟩
end
section
variable {X : Cx} {tg e a b elt iter : Expr} {td : TE} {te tA tB : TED} {ta : TAD} {apos cpos pos p : Pos}
/-! ### list(d.items()) -/
def tItL (td : TE) (X : Cx) : TE := fun σ H Q => tDicT td X σ H fun d o ks us vs H1 => ∀ (H2 : Hp) (l : Addr) (as : List Addr), H1 l = none → (∀ b o, H1 b = some o → H2 b = some o) → as.length = ks.length → (∀ a ∈ as, H1 a = none) →
  (∀ (j : Nat) (a : Addr) (u v : V), as[j]? = some a → us[j]? = some u → vs[j]? = some v → H2 a = some (.tup [u, v])) → H2 l = some (.lst (as.map V.ref)) → Q (.ref l) H2
theorem pe_itL (hc : X.calm = true) (hg : Gl X "list") (hm : X.mg "list" = none) (he : PE X e td) (hbase : attributeBase e "items" X.env (eval e X.env) = eval e X.env := by rfl) (hline : (apos.endLine == cpos.line) = true := by rfl)
    (na : starEach [.Call (.Attribute e "items" apos) [] [] cpos] X.env = (false, eval (.Call (.Attribute e "items" apos) [] [] cpos) X.env) :: starEach [] X.env := by rfl) : PE X (.Call (.Name "list" p) [.Call (.Attribute e "items" apos) [] [] cpos] [] pos) (tItL td X) := by
  refine ⟨fun pins s σ H Q I q => ?_⟩
  refine Call_ (ld_blt I hg hm boot_list (PyProof.Rows.callWith_type1 (args_cons ?_ na) na))
  refine wpAny_Call_method (T := "dict") (id := "dict.items") hbase rfl hline F.plainAttrs_dict F.slot_dict_items F.type_dict_items (thn (he.run pins s σ H _ I q) fun u s1 ⟨x, H1, I1, rx, d, o, ks, us, vs, ex, hs, hd, dO, q⟩ => ?_)
  subst ex
  cases (show u = Value.ref d from rx)
  have eo := (I1.hok d _ hd).1
  have sz := dO.sz
  obtain ⟨hx, ⟨es, ep, hod, en⟩, _, _, _⟩ := dO
  have tI : s1.TypeIs (.ref d) "dict" := ⟨o, eo, hx.1⟩
  refine ⟨tI, fun b q => by cases q; exact ⟨o, eo, hx.2.1⟩, ?_⟩
  have raw : s1.heap.DictRaw d es ep := ⟨o, eo, hx, hod⟩
  refine method_meetsIn F.slot_dict_items F.entry_dict_items rfl (PySem.evalArgs_none ⟨rfl, tI, F.args_dict_items_1 _, _, meets_dict_items_raw d hs, ⟨⟨es, ep, raw⟩, args_nil ?_⟩⟩)
  have I2 : Inv X pins σ H1 { s1 with heap := s1.heap.push { cls := .type "dict_items", data := .fields #[.ref d] } } := I1.kept (t' := s1.toks) fun b ob q => Heap.get?_push_of_some _ q
  generalize hs2 : ({ s1 with heap := s1.heap.push { cls := .type "dict_items", data := .fields #[.ref d] } } : Shared) = s2 at I2 ⊢
  have hv : s2.heap.IsItemsView s1.heap.objs.size d := by rw [← hs2]; exact ⟨_, Heap.get?_push_size _ rfl, rfl, rfl⟩
  have raw2 : s2.heap.DictRaw d es ep := by rw [← hs2]; exact raw.push _
  obtain ⟨l1, l2, l3⟩ := en.lens
  rw [Array.length_toList] at l3
  refine PySem.W.dil_call (es := es) (ep := ep) (I2.ok.hd hc) hv raw2 (by omega) fun h1 tk acc c as hk hS hl hG hacc => ?_
  have I3 : Inv X pins σ H1 { s2 with heap := h1, toks := tk } := I2.kept hk
  have nd : as.Nodup := List.Pairwise.imp (fun z => Nat.ne_of_lt z) hG.rise
  have nl : H1 s2.heap.objs.size = none := I2.hok.fresh (Nat.le_refl _)
  have hvals : ∀ l : List Addr, Vals (l.map V.ref) (l.map Value.ref) := fun l => by
    induction l with
    | nil => exact .nil
    | cons b l ih => exact .cons rfl ih
  have I4 : Inv X pins σ (upd H1 s2.heap.objs.size (.lst (as.map V.ref))) { s2 with heap := h1, toks := tk } :=
    I3.take (h' := h1) (t' := tk) (fun b ob _ e => e) (I2.fpOk (Nat.le_refl _) nl) ⟨by rw [List.length_map]; omega, acc.toList, c, by rw [hacc]; exact hvals as, by rw [Array.toArray_toList]; exact hS⟩
  obtain ⟨H2, I5, ext, got⟩ := DX.takeT (P := fun a xs => ∃ (j : Nat) (u v : V), as[j]? = some a ∧ us[j]? = some u ∧ vs[j]? = some v ∧ xs = [u, v]) I2 as _ I4 nd fun b hb => by
    obtain ⟨j, hj⟩ := List.mem_iff_getElem?.mp hb
    obtain ⟨hjs, eg⟩ := hG.pairs j b hj
    obtain ⟨u, v, e1, q1, q2, q3, r1, r2⟩ := en.at' (i := j) (by omega)
    obtain ⟨_, q3⟩ := at_arr q3
    rw [q3] at eg
    have hge := hG.above b hb
    exact ⟨Nat.le_of_lt hge, by rw [upd_ne (Nat.ne_of_gt hge)]; exact I2.hok.fresh (Nat.le_of_lt hge), [u, v], ⟨j, u, v, hj, q1, q2, rfl⟩, fun H3 => ⟨(by decide : 2 ≤ sizeLine), [e1.key, e1.val], .cons r1 (.cons r2 .nil), ⟨_, eg, rfl, _, rfl⟩⟩⟩
  refine ⟨.ref s2.heap.objs.size, H2, I5, rfl, q H2 _ as nl (fun b o e => ext b o (by rw [upd_ne (ne_of_none e nl)]; exact e)) (by omega) (fun b hb => I2.hok.fresh (Nat.le_of_lt (hG.above b hb))) (fun j b u v hj hu hv => ?_) (ext _ _ upd_same)⟩
  obtain ⟨xs, ⟨j', u', v', e1, e2, e3, rfl⟩, e4⟩ := got b (List.mem_of_getElem? hj)
  have ej : j' = j := (List.getElem?_inj (List.getElem?_eq_some_iff.mp e1).1 nd).mp (e1.trans hj.symm)
  subst ej
  rw [hu] at e2; cases e2
  rw [hv] at e3; cases e3
  exact e4
theorem repL_at : ∀ {ds : List D} {vs : List V} {Z : Kx} {h : DH} {H : Hp}, ds.length = vs.length → (∀ (i : Nat) (d : D) (v : V), ds[i]? = some d → vs[i]? = some v → Rep Z h H d v) → RepL Z h H ds vs
  | [], [], _, _, _, _, _ => rfl
  | [], _ :: _, _, _, _, l, _ => by simp at l
  | _ :: _, [], _, _, _, l, _ => by simp at l
  | d :: ds, v :: vs, _, _, _, l, f => ⟨v, vs, rfl, f 0 d v rfl rfl, repL_at (by simpa using l) fun i d v a b => f (i + 1) d v (by simpa using a) (by simpa using b)⟩
/-- list(d.items()) -/
def rItL (te : TED) : TED := fun sd h Q => te sd h fun d h1 => dctD d h1 fun ks vs => Q (.lv (pairD ks vs)) h1
theorem ed_itL (he : ED X e te) (hm : X.mg "list" = none) (hg : Gl X "list" := by rfl) (hc : X.calm = true := by rfl) (hbase : attributeBase e "items" X.env (eval e X.env) = eval e X.env := by rfl) (hline : (apos.endLine == cpos.line) = true := by rfl)
    (na : starEach [.Call (.Attribute e "items" apos) [] [] cpos] X.env = (false, eval (.Call (.Attribute e "items" apos) [] [] cpos) X.env) :: starEach [] X.env := by rfl) : ED X (.Call (.Name "list" p) [.Call (.Attribute e "items" apos) [] [] cpos] [] pos) (rItL te) := by
  obtain ⟨t, pp, f⟩ := he.ex
  refine ⟨_, pe_itL hc hg hm pp hbase hline na, fun σ H sd h Qd Q rs R q w => ?_⟩
  refine f σ H sd h _ _ rs R q fun v H1 d h1 fr1 R1 r1 q1 => ?_
  obtain ⟨a, ks, ds, us, vs, rfl, ⟨ns, o, eo, dO⟩, r1, r2, q1⟩ := dctD_ok r1 R1 q1
  refine ⟨a, o, ks, us, vs, rfl, ns, eo, dO, fun H2 l as nl ext hl na' tr hL => ?_⟩
  have R2 : RH (kx X) h1 H2 := RH.more ext R1
  have l1 := r1.length
  have l2 := r2.length
  obtain ⟨_, ⟨es, ep, _, en⟩, _, _, _⟩ := dO
  obtain ⟨m1, m2, _⟩ := en.lens
  refine w _ H2 (.lv (pairD ks ds)) h1 (fr1.trans (Fr.more ext)) R2 ⟨l, _, rfl, ⟨R1.free nl, hL⟩, repL_at ?_ fun i d v hd hv => ?_⟩ q1
  · rw [pairD_len (by omega), List.length_map]; omega
  · have hi : i < ks.length := by have z := (List.getElem?_eq_some_iff.mp hd).1; rw [pairD_len (by omega)] at z; exact z
    have hi2 : i < ds.length := by omega
    rw [pairD_get (List.getElem?_eq_getElem hi) (List.getElem?_eq_getElem hi2)] at hd
    cases hd
    rw [List.getElem?_map] at hv
    obtain ⟨b, hb, rfl⟩ := Option.map_eq_some_iff.mp hv
    obtain ⟨k', f1, rk⟩ := r1.get (List.getElem?_eq_getElem hi)
    obtain ⟨z', f2, rz⟩ := r2.get (List.getElem?_eq_getElem hi2)
    exact ⟨b, [k', z'], rfl, .inl ⟨R1.free (na' b (List.mem_of_getElem? hb)), .inl (tr i b k' z' hb f1 f2)⟩, ⟨k', _, rfl, Rep.fr (Fr.more ext) _ _ rk, .one (Rep.fr (Fr.more ext) _ _ rz)⟩⟩
/-! ### dict(pairs): no key twice -/
theorem pairs_at {pins : List (Addr × Obj)} {σ : L2.St} {H : Hp} {s : Shared} {h : DH} (I : Inv X pins σ H s) : ∀ {ks ds : List D} {vs : List V}, ks.length = ds.length → RepL (kx X) h H (pairD ks ds) vs →
    ∃ (bs : List Addr) (us ws : List V) (uv xv : List Value), vs = bs.map V.ref ∧ RepL (kx X) h H ks us ∧ RepL (kx X) h H ds ws ∧ Vals us uv ∧ Vals ws xv ∧ bs.length = ks.length ∧
      ∀ (j : Nat) (b : Addr) (u x : Value), bs[j]? = some b → uv[j]? = some u → xv[j]? = some x → IsTup s.heap b #[u, x]
  | [], [], vs, _, r => ⟨[], [], [], [], [], r, rfl, rfl, .nil, .nil, rfl, fun j b u x e => by simp at e⟩
  | [], _ :: _, _, l, _ => by simp at l
  | _ :: _, [], _, l, _ => by simp at l
  | k :: ks, d :: ds, vs, l, r => by
    obtain ⟨v, vr, rfl, q, t⟩ := r
    obtain ⟨bs, us, ws, uv, xv, rfl, r1, r2, v1, v2, lb, tt⟩ := pairs_at I (by simpa using l) t
    obtain ⟨b, ys, rfl, tp, ry⟩ := q
    obtain ⟨ku, zu, rfl, rk, rz⟩ := ry.two_of
    obtain ⟨its, rv, it, _⟩ := I.tuple tp.sq
    obtain ⟨u, x, rfl, e1, e2⟩ := vals2 rv
    refine ⟨b :: bs, ku :: us, zu :: ws, u :: uv, x :: xv, rfl, ⟨ku, us, rfl, rk, r1⟩, ⟨zu, ws, rfl, rz, r2⟩, .cons e1 v1, .cons e2 v2, congrArg Nat.succ lb, fun j b' u' x' h1 h2 h3 => ?_⟩
    cases j with
    | zero =>
      cases (show some b = some b' from h1)
      cases (show some u = some u' from h2)
      cases (show some x = some x' from h3)
      exact it
    | succ j => exact tt j b' u' x' (by simpa using h1) (by simpa using h2) (by simpa using h3)
def keysOk (ks : List D) : Bool := ks.all isSk || ks.all isTk
/-- the new dict's object -/
theorem dictP_obj {pins : List (Addr × Obj)} {σ : L2.St} {H : Hp} {s : Shared} {h : DH} {k : Nat} {Q : Value → Shared → Prop} {ks ds : List D} {vs : List V} {l : Addr} (hr : Room k X.A) (I : Inv X pins σ H s) (hl : SqL X.K H l vs) (hlen : ks.length = ds.length)
    (r : RepL (kx X) h H (pairD ks ds) vs) (nd : (ks.map nk).Nodup) (ok : keysOk ks = true) (sz : ks.length ≤ sizeLine)
    (w : ∀ o' s' us ws, Inv X pins σ (upd H s.heap.objs.size (ObX s.heap.objs.size o')) s' → DicO X.w o' ks us ws → RepL (kx X) h H ks us → RepL (kx X) h H ds ws → Q (.ref s.heap.objs.size) s') :
    wpAny (model X.prog X.w) X.A (call (.type "dict") [.ref l]) Q X.xe s := by
  obtain ⟨bs, us, ws, uv, xv, rfl, r1, r2, v1, v2, lb, tt⟩ := pairs_at I hlen r
  obtain ⟨its, rv, ⟨o, n, eo, hc, hd, hdat⟩, hz⟩ := I.list hl
  have ei := refs_at rv
  subst ei
  have lu : uv.length = ks.length := by rw [← v1.length, ← r1.length]
  have lx : xv.length = ks.length := by rw [← v2.length, ← r2.length, hlen]
  have hh := hr.hd
  unfold keysOk at ok
  rcases Bool.or_eq_true_iff.mp ok with ok | ok
  · have lp : ((ks.map toKey).zip xv).length = ks.length := by rw [List.length_zip, List.length_map, lx, Nat.min_self]
    have p1 : ((ks.map toKey).zip xv).map (·.1) = ks.map toKey := List.map_fst_zip (by rw [List.length_map, lx]; exact Nat.le_refl _)
    have p2 : ((ks.map toKey).zip xv).map (·.2) = xv := List.map_snd_zip (by rw [List.length_map, lx]; exact Nat.le_refl _)
    refine L2.call_dict_pairs (prs := (ks.map toKey).zip xv) hh eo hc hd hdat (by rw [List.size_toArray, List.length_map, lp, lb]) (by rw [lp]; exact sz) (fun j q e => ?_) fun h1 tk dd hk => ?_
    · have hj : j < ks.length := by have z := (List.getElem?_eq_some_iff.mp e).1; rw [lp] at z; exact z
      have e1 : (ks.map toKey)[j]? = some q.1 := by rw [← p1, List.getElem?_map, e]; rfl
      have e2 : xv[j]? = some q.2 := by rw [← p2, List.getElem?_map, e]; rfl
      have hb : bs[j]? = some (bs[j]'(by omega)) := List.getElem?_eq_getElem _
      have hu : uv[j]? = some (uv[j]'(by omega)) := List.getElem?_eq_getElem _
      refine ⟨_, _, by rw [List.getElem?_toArray, List.getElem?_map, hb]; rfl, tt j _ _ _ hb hu e2, ?_⟩
      obtain ⟨y, hy, ry⟩ := r1.get (List.getElem?_eq_getElem hj)
      obtain ⟨u', hu', ru⟩ := v1.get hy
      rw [hu] at hu'; cases hu'
      rw [List.getElem?_map, List.getElem?_eq_getElem hj] at e1
      have e3 : q.1 = toKey ks[j] := (Option.some.inj e1).symm
      rw [e3]
      exact isSk_is (P := X.prog) (w := X.w) (List.all_eq_true.mp ok _ (List.getElem_mem hj)) ry ru
    · rw [merged_nil_of_nodup _ (by rw [p1]; exact (nd_K ok).mpr nd)] at dd
      obtain ⟨o', eo', d'⟩ := K_done r1 ok p1 (by rw [p2]; exact v2) sz dd
      exact w o' _ us ws (I.laid (t' := tk) hk (Nat.le_refl _) ⟨eo', ⟨o', eo'⟩, fun _ _ e k => k _ e⟩) d' r1 r2
  · have hk : ∀ j, j < ks.length → ∃ b, uv[j]? = some (.ref b) ∧ us[j]? = some (.ref b) ∧ ∃ d, ks[j]? = some d ∧ (nestedKind X.prog X.w).is s.heap (nk d) b := fun j hj => by
      obtain ⟨y, hy, ry⟩ := r1.get (List.getElem?_eq_getElem hj)
      obtain ⟨u', hu', ru⟩ := v1.get hy
      obtain ⟨b, rfl, rfl, is⟩ := isTk_is I (List.all_eq_true.mp ok _ (List.getElem_mem hj)) ry ru
      exact ⟨b, hu', hy, _, List.getElem?_eq_getElem hj, is⟩
    have lus : us.length = ks.length := r1.length.symm
    let adr : Value → Addr := fun v => match v with | .ref b => b | _ => 0
    let xs : List (NestedKey × Addr × Value) := (ks.map nk).zip ((uv.map adr).zip xv)
    have lq : ((uv.map adr).zip xv).length = ks.length := by rw [List.length_zip, List.length_map, lu, lx, Nat.min_self]
    have p1 : xs.map (·.1) = ks.map nk := List.map_fst_zip (by rw [List.length_map, lq]; exact Nat.le_refl _)
    have p0 : xs.map (·.2) = (uv.map adr).zip xv := List.map_snd_zip (by rw [List.length_map, lq]; exact Nat.le_refl _)
    have p3 : xs.map (fun x => x.2.2) = xv := by
      have z : (xs.map (·.2)).map (·.2) = xv := by rw [p0]; exact List.map_snd_zip (by rw [List.length_map, lu, lx]; exact Nat.le_refl _)
      rw [List.map_map] at z; exact z
    have p2a : xs.map (fun x => x.2.1) = uv.map adr := by
      have z : (xs.map (·.2)).map (·.1) = uv.map adr := by rw [p0]; exact List.map_fst_zip (by rw [List.length_map, lu, lx]; exact Nat.le_refl _)
      rw [List.map_map] at z; exact z
    have p2 : us = xs.map (fun x => V.ref x.2.1) := by
      have z : xs.map (fun x => V.ref x.2.1) = (uv.map adr).map V.ref := by rw [← p2a, List.map_map]; rfl
      rw [z, List.map_map]
      apply List.ext_getElem?
      intro j
      by_cases hj : j < ks.length
      · obtain ⟨b, h1, h2, _⟩ := hk j hj
        rw [h2, List.getElem?_map, h1]; rfl
      · rw [List.getElem?_eq_none (by omega), List.getElem?_eq_none (by rw [List.length_map]; omega)]
    have lxs : xs.length = ks.length := by have z := congrArg List.length p1; rw [List.length_map, List.length_map] at z; exact z
    have gx : ∀ (i : Nat) (u x : Value), uv[i]? = some u → xv[i]? = some x → ∃ k b, xs[i]? = some (k, b, x) ∧ u = .ref b ∧ ks[i]?.map nk = some k := fun i u x hu hx => by
      have hi : i < ks.length := by have z := (List.getElem?_eq_some_iff.mp hu).1; omega
      obtain ⟨b, h1, _, d, hd, _⟩ := hk i hi
      rw [hu] at h1; cases h1
      refine ⟨nk d, b, ?_, rfl, by rw [hd]; rfl⟩
      show ((ks.map nk).zip ((uv.map adr).zip xv))[i]? = _
      rw [List.getElem?_zip_eq_some]
      refine ⟨by rw [List.getElem?_map, hd]; rfl, ?_⟩
      rw [List.getElem?_zip_eq_some]
      exact ⟨by rw [List.getElem?_map, hu]; rfl, hx⟩
    have lps : (uv.zip xv).length = ks.length := by rw [List.length_zip, lu, lx, Nat.min_self]
    have sp : ∀ i k v, (uv.zip xv)[i]? = some (k, v) → uv[i]? = some k ∧ xv[i]? = some v := fun i k v e => by rw [List.getElem?_zip_eq_some] at e; exact e
    refine PySem.call_dict_pairsH (knd := nestedKind X.prog X.w) (ps := xs) (PairArg.list l ((bs.map Value.ref).toArray) (fun j => bs.getD j 0) (uv.zip xv)) hh (by show X.A.units + 1 + 1 + 8 < cLine; have := hr.un; omega)
      ⟨⟨o, n, eo, hc, hd, hdat⟩, by rw [List.size_toArray, List.length_map, lps, lb], fun j k v e => ?_⟩ ⟨by rw [lxs, lps], fun i key v e => ?_⟩ (fun h1 hk1 x hx => ?_) (by rw [lps]; exact sz) fun h1 tk dd hk1 => ?_
    · obtain ⟨e1, e2⟩ := sp j k v e
      have hj : j < bs.length := by have z := (List.getElem?_eq_some_iff.mp e1).1; omega
      have hb : bs[j]? = some (bs[j]) := List.getElem?_eq_getElem hj
      have hbd : bs.getD j 0 = bs[j] := by rw [List.getD_eq_getElem?_getD, hb]; rfl
      show _ = some (Value.ref (bs.getD j 0)) ∧ PairAt s.heap (bs.getD j 0) k v
      rw [hbd]
      exact ⟨by rw [List.getElem?_toArray, List.getElem?_map, hb]; rfl, .inl (tt j _ _ _ hb e1 e2)⟩
    · obtain ⟨e1, e2⟩ := sp i key v e
      obtain ⟨k, b, h1, h2, _⟩ := gx i key v e1 e2
      exact ⟨k, b, h1, h2⟩
    · obtain ⟨i, hi⟩ := List.mem_iff_getElem?.mp hx
      have hik : i < ks.length := by have z := (List.getElem?_eq_some_iff.mp hi).1; omega
      obtain ⟨b, h1u, _, d, hd', is⟩ := hk i hik
      obtain ⟨k, b', h2, h3, h4⟩ := gx i _ _ h1u (List.getElem?_eq_getElem (by omega : i < xv.length))
      cases h3
      rw [hi] at h2; cases h2
      rw [hd'] at h4
      cases h4
      exact ⟨NestedIs.at (fun c oc vs m e _ => hk1 c oc (Nat.ne_of_lt (Heap.lt_size e)) (fun z => nomatch z) e) _ _ is.1, is.2⟩
    · rw [storedAllH_nil_of_nodup _ (by rw [p1]; exact nd)] at dd
      obtain ⟨o', eo', d'⟩ := T_done ok p1 p2 (by rw [p3]; exact v2) sz dd
      exact w o' _ us ws (I.laid (t' := tk) (fun b o e => hk1 b o (fun z => nomatch z) e) (Nat.le_refl _) ⟨eo', ⟨o', eo'⟩, fun _ _ e k => k _ e⟩) d' r1 r2
/-- dict(xs) of a list of pairs, no key twice -/
def dDictP : RcD := fun ds h Q => match ds with
  | [d] => lstD d h fun xs => ∃ ks vs, xs = pairD ks vs ∧ ks.length = vs.length ∧ (ks.map nk).Nodup ∧ keysOk ks = true ∧ ks.length ≤ sizeLine ∧ Q (.dv ks vs) h
  | _ => False
def dDictPR : RcD := fun ds h Q => match ds with
  | [d] => lstD d h fun xs => ∃ ks vs, xs = pairD ks vs ∧ ks.length = vs.length ∧ (ks.map nk).Nodup ∧ keysOk ks = true ∧ ks.length ≤ sizeLine ∧ ∀ p, h p = none → Q (.ref p) (up h p (.dic ks vs))
  | _ => False
theorem big_ne {pins : List (Addr × Obj)} {σ : L2.St} {H : Hp} {s : Shared} (I : Inv X pins σ H s) : (s.heap.objs.size == sysModules) = false := beq_eq_false_iff_ne.mpr (Ne.symm (Nat.ne_of_lt I.big))
theorem ca_dictP {k : Nat} (hr : Room k X.A) : CaD X (.type "dict") dDictP := by
  refine ⟨fun xs H Q => ∃ ds h Qd, RepL (kx X) h H ds xs ∧ RH (kx X) h H ∧ dDictP ds h Qd ∧ WV (kx X) h H Qd Q, ?_, fun vs ds H h Qd Q r R q w => ⟨ds, h, Qd, r, R, q, w⟩⟩
  intro pins s σ H xs us Q I rv ⟨ds, h, Qd, r, R, q, w⟩
  unfold dDictP at q
  split at q
  · obtain ⟨v, rfl, r1⟩ := r.one_of
    obtain ⟨a, xs, vs, rfl, ha, r2, ks, es, rfl, hl, nd, ok, sz, q⟩ := lstD_ok r1 R q
    obtain ⟨u, rfl, eu⟩ := vals1 rv
    cases (show u = Value.ref a from eu)
    refine dictP_obj hr I (SqL.of ha) hl r2 nd ok sz fun o' s' us ws I' d' q1 q2 => ⟨.ref _, _, I', rfl, ?_⟩
    have n : H s.heap.objs.size = none := I.hok.fresh (Nat.le_refl _)
    exact w _ _ (.dv ks es) h (Fr.hid n R) (RH.hid n R) (dv_new n R (big_ne I) d' q1 q2) q
  · exact q.elim
theorem ca_dictPR {k : Nat} (hr : Room k X.A) : CaD X (.type "dict") dDictPR := by
  refine ⟨fun xs H Q => ∃ ds h Qd, RepL (kx X) h H ds xs ∧ RH (kx X) h H ∧ dDictPR ds h Qd ∧ WV (kx X) h H Qd Q, ?_, fun vs ds H h Qd Q r R q w => ⟨ds, h, Qd, r, R, q, w⟩⟩
  intro pins s σ H xs us Q I rv ⟨ds, h, Qd, r, R, q, w⟩
  unfold dDictPR at q
  split at q
  · obtain ⟨v, rfl, r1⟩ := r.one_of
    obtain ⟨a, xs, vs, rfl, ha, r2, ks, es, rfl, hl, nd, ok, sz, q⟩ := lstD_ok r1 R q
    obtain ⟨u, rfl, eu⟩ := vals1 rv
    cases (show u = Value.ref a from eu)
    refine dictP_obj hr I (SqL.of ha) hl r2 nd ok sz fun o' s' us ws I' d' q1 q2 => ⟨.ref _, _, I', rfl, ?_⟩
    have n : H s.heap.objs.size = none := I.hok.fresh (Nat.le_refl _)
    exact w _ _ (.ref _) _ (Fr.new n R) (dic_new n R (big_ne I) d' q1 q2) rfl (q _ (R.free n))
  · exact q.elim
end
end DL
set_option Elab.async false
set_option linter.all false
set_option maxRecDepth 100000
set_option maxHeartbeats 1000000
namespace DL
open PySem PySem.Spec PyProof.Rows L2
variable [FldTab]
/-! ### displays of dicts -/
def rPairs : List (TED × TED) → SD → DH → (List D → List D → DH → Prop) → Prop
  | [], _, h, Q => Q [] [] h
  | (tk, tv) :: r, sd, h, Q => tk sd h fun x h1 => tv sd h1 fun y h2 => rPairs r sd h2 fun ks vs h3 => Q (x :: ks) (y :: vs) h3
abbrev dEmpty : Obj := { cls := .type "dict", data := .dict #[] }
theorem upd_upd {H : Hp} {a : Addr} {o u : HO} : upd (upd H a o) a u = upd H a u := by funext b; unfold upd; split <;> rfl
theorem upd_self {H : Hp} {a : Addr} {o : HO} (e : H a = some o) : upd H a o = H := by
  funext b; unfold upd; split
  · rename_i q; rw [q, e]
  · rfl
theorem ixK_fresh : ∀ {ks : List D} {k : D}, nk k ∉ ks.map nk → ixK ks k = none
  | [], _, _ => rfl
  | z :: zs, k, h => by
    rw [List.map_cons, List.mem_cons, not_or] at h
    rw [ixK_cons, if_neg fun e => h.1 e.symm, ixK_fresh h.2]; rfl
section
variable {X : Cx} {pins : List (Addr × Obj)} {σ : L2.St} {h : DH} {p : Addr} {U : DO} {A : Around} {E : Value → Shared → Prop}
theorem store_loop (hu : A.units + 16 < cLine) (e : h p = some U) : ∀ (ks1 : List D) (us1 vs1 : List V) (pv : List (Value × Value)) (ks0 : List D) (us0 vs0 : List V) (s : Shared) (H : Hp) (Q : PUnit → Shared → Prop), Inv X pins σ H s → DicAt (kx X) H p ks0 us0 vs0 → RepL (kx X) h H ks0 us0 → RepL (kx X) h H ks1 us1 →
    Vals us1 (pv.map (·.1)) → Vals vs1 (pv.map (·.2)) → ((ks0 ++ ks1).map nk).Nodup → keysOk (ks0 ++ ks1) = true → (ks0 ++ ks1).length ≤ sizeLine →
    (∀ o' s', Inv X pins σ (upd H p (ObX p o')) s' → DicO X.w o' (ks0 ++ ks1) (us0 ++ us1) (vs0 ++ vs1) → Q PUnit.unit s') →
    wpAny (model X.prog X.w) A (forIn pv PUnit.unit fun (x : Value × Value) (_ : PUnit) => (do dictSet p x.1 x.2; pure (ForInStep.yield PUnit.unit) : Sem (ForInStep PUnit))) Q E s
  | [], us1, vs1, [], ks0, us0, vs0, s, H, Q, I, da, r0, r1, v1, v2, nd, ok, sz, w => by
    cases v1; cases v2
    obtain ⟨ns, o, eo, d⟩ := da
    rw [List.forIn_nil]
    refine wpAny_pure (w o s (by rw [upd_self eo]; exact I) ?_)
    rw [List.append_nil, List.append_nil, List.append_nil]; exact d
  | [], us1, _, _ :: _, _, _, _, _, _, _, _, _, _, r1, v1, _, _, _, _, _ => by cases (show us1 = [] from r1); cases v1
  | _ :: _, us1, _, [], _, _, _, _, _, _, _, _, _, r1, v1, _, _, _, _, _ => by obtain ⟨_, _, rfl, _, _⟩ := r1; cases v1
  | k :: ks, us1, vs1, (kv, vv) :: pv, ks0, us0, vs0, s, H, Q, I, da, r0, r1, v1, v2, nd, ok, sz, w => by
    obtain ⟨u, us, rfl, rk, rt⟩ := r1
    cases v1 with
    | cons e1 t1 =>
      cases v2 with
      | @cons y _ vs _ e2 t2 =>
        have nd' : ((ks0 ++ [k] ++ ks).map nk).Nodup := by rw [List.append_assoc]; exact nd
        have fr : nk k ∉ ks0.map nk := fun q => by
          rw [List.map_append, List.nodup_append] at nd
          exact nd.2.2 _ q (nk k) List.mem_cons_self rfl
        have ix := ixK_fresh fr
        have pk : putKs ks0 k = ks0 ++ [k] := by unfold putKs; rw [ix]
        have pu : putU ks0 us0 k u = us0 ++ [u] := by unfold putU; rw [ix]
        have pa : putA ks0 vs0 k y = vs0 ++ [y] := by unfold putA; rw [ix]
        have kok : keyOk ks0 k = true := by
          unfold keysOk at ok
          unfold keyOk
          rcases Bool.or_eq_true_iff.mp ok with z | z <;> rw [List.all_append, List.all_cons] at z <;> obtain ⟨z1, z2⟩ := Bool.and_eq_true_iff.mp z <;> obtain ⟨z2, _⟩ := Bool.and_eq_true_iff.mp z2
          · rw [z1, z2]; rfl
          · rw [z1, z2]; simp
        have hl : (ks0 ++ [k] ++ ks).length ≤ sizeLine := by rw [List.append_assoc]; exact sz
        rw [List.forIn_cons]
        refine wpAny_bind (wpAny_bind (x_dictSet hu I da r0 rk e1 e2 kok (by rw [pk]; rw [List.length_append] at hl; omega) fun o1 s1 I1 d1 => wpAny_pure ?_))
        rw [pk, pu, pa] at d1
        have fw : Fr h H h (upd H p (ObX p o1)) := by have z : Fr h H (up h p U) (upd H p (ObX p o1)) := Fr.write e; rw [up_self e] at z; exact z
        refine store_loop hu e ks us vs pv (ks0 ++ [k]) (us0 ++ [u]) (vs0 ++ [y]) s1 _ Q I1 ⟨da.1, o1, upd_same, d1⟩ (RepL.fr fw _ _ (r0.append (.one rk))) (RepL.fr fw _ _ rt) t1 t2 nd' (by rw [List.append_assoc]; exact ok) hl fun o' s' I' d' => w o' s' (by rw [upd_upd] at I'; exact I') ?_
        rw [List.append_assoc, List.append_assoc, List.append_assoc] at d'
        exact d'
end
section
variable {X : Cx} {pos : Pos} {keys : List (Option Expr)} {values : List Expr} {e a b : Expr} {te tA tB : TED} {p : Pos}
structure PDs (X : Cx) (pos : Pos) (keys : List (Option Expr)) (values : List Expr) (trs : List (TED × TED)) : Prop where
  ex : ∃ ts, PPs X pos keys values ts ∧ ∀ σ H sd h Qd (Q : List (V × V) → Hp → Prop), RepS (kx X) h H sd σ → RH (kx X) h H → rPairs trs sd h Qd →
    (∀ ps H' ks vs h', Fr h H h' H' → RH (kx X) h' H' → RepL (kx X) h' H' ks (ps.map (·.1)) → RepL (kx X) h' H' vs (ps.map (·.2)) → Qd ks vs h' → Q ps H') → tPairs ts σ H Q
theorem pd_nil : PDs X pos [] [] [] := ⟨_, pps_nil, fun σ H sd h Qd Q rs R q w => w [] H [] [] h Fr.refl R rfl rfl q⟩
theorem pd_cons {k v : Expr} {ks : List (Option Expr)} {vs : List Expr} {tk tv : TED} {trs : List (TED × TED)} (hk : ED X k tk) (hv : ED X v tv) (hr : PDs X pos ks vs trs) : PDs X pos (some k :: ks) (v :: vs) ((tk, tv) :: trs) := by
  obtain ⟨t1, p1, f1⟩ := hk.ex
  obtain ⟨t2, p2, f2⟩ := hv.ex
  obtain ⟨ts, p3, f3⟩ := hr.ex
  refine ⟨_, pps_cons p1 p2 p3, fun σ H sd h Qd Q rs R q w => ?_⟩
  refine f1 σ H sd h _ _ rs R q fun x H1 d1 h1 fr1 R1 r1 q1 => ?_
  refine f2 σ H1 sd h1 _ _ (rs.fr fr1) R1 q1 fun y H2 d2 h2 fr2 R2 r2 q2 => ?_
  refine f3 σ H2 sd h2 _ _ (rs.fr (fr1.trans fr2)) R2 q2 fun ps H3 es fs h3 fr3 R3 r3 r4 q3 => ?_
  exact w ((x, y) :: ps) H3 (d1 :: es) (d2 :: fs) h3 ((fr1.trans fr2).trans fr3) R3 ⟨x, _, rfl, Rep.fr (fr2.trans fr3) _ _ r1, r3⟩ ⟨y, _, rfl, Rep.fr fr3 _ _ r2, r4⟩ q3
/-- {k: v, ..}: no key twice -/
def rDisp (trs : List (TED × TED)) : TED := fun sd h Q => ∀ p, h p = none → rPairs trs sd (up h p (.dic [] [])) fun ks vs h1 => h1 p = some (.dic [] []) ∧ (ks.map nk).Nodup ∧ keysOk ks = true ∧ Q (.dv ks vs) (del h1 p)
def rDispR (trs : List (TED × TED)) : TED := fun sd h Q => ∀ p, h p = none → rPairs trs sd (up h p (.dic [] [])) fun ks vs h1 => h1 p = some (.dic [] []) ∧ (ks.map nk).Nodup ∧ keysOk ks = true ∧ Q (.ref p) (up h1 p (.dic ks vs))
/-- the display, up to the last word -/
def tDispX (X : Cx) (ts : List (TE × TE)) : TE := fun σ H Q => ∀ p, H p = none → (p == sysModules) = false → tPairs ts σ (upd H p (ObX p dEmpty)) fun ps H2 => ∃ h U ks, h p = some U ∧ DicAt (kx X) H2 p [] [] [] ∧ RepL (kx X) h H2 ks (ps.map (·.1)) ∧ (ks.map nk).Nodup ∧ keysOk ks = true ∧
  ∀ o', DicO X.w o' ks (ps.map (·.1)) (ps.map (·.2)) → Q (.ref p) (upd H2 p (ObX p o'))
theorem vv_split {ps : List (V × V)} {pv : List (Value × Value)} (r : VV ps pv) : Vals (ps.map (·.1)) (pv.map (·.1)) ∧ Vals (ps.map (·.2)) (pv.map (·.2)) := by
  unfold VV at r
  induction r with
  | nil => exact ⟨.nil, .nil⟩
  | cons h t ih => exact ⟨.cons h.1 ih.1, .cons h.2 ih.2⟩
theorem pe_dispX {k : Nat} (hr : Room k X.A) {ts : List (TE × TE)} (hp : PPs X pos keys values ts) (hall : keys.all (·.isSome) = true) (hl : keys.length = values.length) (h0 : keys ≠ []) (h15 : keys.length ≤ 15) : PE X (.Dict keys values pos) (tDispX X ts) := by
  refine ⟨fun pins s σ H Q I q => ?_⟩
  have hn := I.hok.fresh (Nat.le_refl s.heap.objs.size)
  have I1 := I.laid (a := s.heap.objs.size) (o := ObX s.heap.objs.size dEmpty) (h' := s.heap.push dEmpty) (t' := s.toks) (fun _ _ q => Heap.get?_push_of_some _ q) (Nat.le_refl _) (obX_new s.heap)
  have hlen := pairTrees_length keys values X.env pos hall hl
  rw [arm_eval_Dict, zip_pairTrees keys values X.env pos hall hl, dictDisplay_pairs _ (fun z => h0 (List.length_eq_zero_iff.mp (by rw [← hlen, z]; rfl))) (by omega)]
  refine wpAny_bind (wpAny_standAt (wpAny_bind ?_))
  unfold subDict
  refine wpAny_bind (wpAny_alloc (wpAny_bind (wpAny_holding ?_)))
  rw [if_pos (by omega)]
  refine wpAny_bind (thn (wpAny_evalPairs_len (hp.run pins _ σ _ _ I1 (q _ hn (big_ne I)))) fun pv s2 ⟨lpv, ps, H2, I2, rel, h, U, ks, e, da, rk, nd, ok, w⟩ => ?_)
  obtain ⟨v1, v2⟩ := vv_split rel
  have z := rk.length
  have z2 := v1.length
  rw [List.length_map, List.length_map] at z2
  rw [List.length_map] at z
  refine wpAny_holding (wpAny_bind (store_loop (room16 hr) e ks _ _ pv [] [] [] s2 H2 _ I2 da rfl rk v1 v2 nd ok ?_ fun o' s' I' d' => ?_))
  · rw [List.nil_append, z, z2, lpv, sizeLine_eq]; omega
  · exact wpAny_pure (wpAny_pure (wpAny_pure ⟨.ref _, _, I', rfl, w o' d'⟩))
theorem disp_ref {ts : List (TE × TE)} {trs : List (TED × TED)} {σ : L2.St} {H : Hp} {sd : SD} {h : DH} {Q : VK} {K : List D → List D → Addr → DH → Prop}
    (f : ∀ σ H sd h Qd (Q : List (V × V) → Hp → Prop), RepS (kx X) h H sd σ → RH (kx X) h H → rPairs trs sd h Qd →
      (∀ ps H' ks vs h', Fr h H h' H' → RH (kx X) h' H' → RepL (kx X) h' H' ks (ps.map (·.1)) → RepL (kx X) h' H' vs (ps.map (·.2)) → Qd ks vs h' → Q ps H') → tPairs ts σ H Q)
    (rs : RepS (kx X) h H sd σ) (R : RH (kx X) h H) (q : ∀ p, h p = none → rPairs trs sd (up h p (.dic [] [])) fun ks vs h1 => h1 p = some (.dic [] []) ∧ (ks.map nk).Nodup ∧ keysOk ks = true ∧ K ks vs p h1)
    (w : ∀ p H2 ks vs h1 o' (us ws : List V), Fr h H h1 H2 → h1 p = some (.dic [] []) → (p == sysModules) = false → RH (kx X) h1 H2 → RepL (kx X) h1 H2 ks us → RepL (kx X) h1 H2 vs ws → DicO X.w o' ks us ws → K ks vs p h1 → Q (.ref p) (upd H2 p (ObX p o'))) :
    tDispX X ts σ H Q := by
  intro p n ns
  have fn : Fr h H (up h p (.dic [] [])) (upd H p (ObX p dEmpty)) := Fr.new n R
  have Rn : RH (kx X) (up h p (.dic [] [])) (upd H p (ObX p dEmpty)) := dic_new (ks := []) (es := []) n R ns dicO_new rfl rfl
  refine f σ _ sd _ _ _ (rs.fr fn) Rn (q p (R.free n)) fun ps H2 ks vs h1 fr R1 r1 r2 ⟨e, nd, ok, qk⟩ => ?_
  obtain ⟨_, us, ws, da, ru, rw'⟩ := R1 p _ e
  cases (show us = [] from ru)
  cases (show ws = [] from rw')
  exact ⟨h1, _, ks, e, da, r1, nd, ok, fun o' d' => w p H2 ks vs h1 o' _ _ (fn.trans fr) e ns R1 r1 r2 d' qk⟩
theorem ed_disp {k : Nat} (hr : Room k X.A) {trs : List (TED × TED)} (hp : PDs X pos keys values trs) (hall : keys.all (·.isSome) = true := by rfl) (hl : keys.length = values.length := by rfl) (h0 : keys ≠ [] := by simp) (h15 : keys.length ≤ 15 := by decide) : ED X (.Dict keys values pos) (rDisp trs) := by
  obtain ⟨ts, pp, f⟩ := hp.ex
  refine ⟨_, pe_dispX hr pp hall hl h0 h15, fun σ H sd h Qd Q rs R q w => ?_⟩
  refine disp_ref (K := fun ks vs p h1 => Qd (.dv ks vs) (del h1 p)) f rs R q fun p H2 ks vs h1 o' us ws fr e ns R1 r1 r2 d' qk => ?_
  exact w _ _ (.dv ks vs) _ (fr.trans (Fr.delW e)) (RH.delW e R1) ⟨p, us, ws, rfl, del_same, ⟨ns, o', upd_same, d'⟩, RepL.fr (Fr.delW e) _ _ r1, RepL.fr (Fr.delW e) _ _ r2⟩ qk
theorem ed_dispR {k : Nat} (hr : Room k X.A) {trs : List (TED × TED)} (hp : PDs X pos keys values trs) (hall : keys.all (·.isSome) = true := by rfl) (hl : keys.length = values.length := by rfl) (h0 : keys ≠ [] := by simp) (h15 : keys.length ≤ 15 := by decide) : ED X (.Dict keys values pos) (rDispR trs) := by
  obtain ⟨ts, pp, f⟩ := hp.ex
  refine ⟨_, pe_dispX hr pp hall hl h0 h15, fun σ H sd h Qd Q rs R q w => ?_⟩
  refine disp_ref (K := fun ks vs p h1 => Qd (.ref p) (up h1 p (.dic ks vs))) f rs R q fun p H2 ks vs h1 o' us ws fr e ns R1 r1 r2 d' qk => ?_
  exact w _ _ (.ref p) _ (fr.trans (Fr.write e)) (dic_put R1 e ns d' r1 r2) rfl qk
/-! ### tuple(range(..)), list(range(..)) -/
theorem rep_ints {Z : Kx} {h : DH} {H : Hp} (f : Nat → Int) : ∀ l : List Nat, RepL Z h H (l.map fun i => D.int (f i)) (l.map fun i => V.int (f i))
  | [] => rfl
  | i :: l => ⟨.int (f i), _, rfl, rfl, rep_ints f l⟩
def rTupRg (te : TED) : TED := fun sd h Q => te sd h fun d h1 => match d with
  | .int n => RgOk 0 n ∧ Q (.tup (rangeD 0 n.toNat)) h1
  | _ => False
def rLstRg (te : TED) : TED := fun sd h Q => te sd h fun d h1 => match d with
  | .int n => RgOk 0 n ∧ Q (.lv (rangeD 0 n.toNat)) h1
  | _ => False
def rLstRgR (te : TED) : TED := fun sd h Q => te sd h fun d h1 => match d with
  | .int n => RgOk 0 n ∧ ∀ p, h1 p = none → Q (.ref p) (up h1 p (.lst (rangeD 0 n.toNat)))
  | _ => False
theorem rg_rep {Z : Kx} {h : DH} {H : Hp} (n : Int) : RepL Z h H (rangeD 0 n.toNat) (rgV 0 n) := by
  unfold rangeD rgV
  rw [Int.sub_zero]
  exact rep_ints (fun i => 0 + (i : Int)) _
variable {q q2 : Pos}
theorem ed_tupRg (he : ED X e te) (hm : X.mg "tuple" = none) (hm2 : X.mg "range" = none) (hg : Gl X "tuple" := by rfl) (hg2 : Gl X "range" := by rfl) (hc : X.calm = true := by rfl) (na : starEach [e] X.env = (false, eval e X.env) :: starEach [] X.env := by rfl)
    (na2 : starEach [.Call (.Name "range" p) [e] [] q] X.env = (false, eval (.Call (.Name "range" p) [e] [] q) X.env) :: starEach [] X.env := by rfl) : ED X (.Call (.Name "tuple" q2) [.Call (.Name "range" p) [e] [] q] [] pos) (rTupRg te) := by
  obtain ⟨t, pp, f⟩ := he.ex
  refine ⟨_, pe_tupRg hc hg hm (prg_1 hg2 hm2 pp na) na2, fun σ H sd h Qd Q rs R q w => ?_⟩
  refine f σ H sd h _ _ rs R q fun v H1 d h1 fr1 R1 r1 q1 => ?_
  cases d with
  | int n => exact ⟨n, r1, q1.1, fun l nl => w _ _ (.tup _) h1 (fr1.trans (Fr.hid nl R1)) (RH.hid nl R1) (tup_new nl R1 (rg_rep n)) q1.2⟩
  | _ => exact q1.elim
theorem ed_lstRg (he : ED X e te) (hm : X.mg "list" = none) (hm2 : X.mg "range" = none) (hg : Gl X "list" := by rfl) (hg2 : Gl X "range" := by rfl) (hc : X.calm = true := by rfl) (na : starEach [e] X.env = (false, eval e X.env) :: starEach [] X.env := by rfl)
    (na2 : starEach [.Call (.Name "range" p) [e] [] q] X.env = (false, eval (.Call (.Name "range" p) [e] [] q) X.env) :: starEach [] X.env := by rfl) : ED X (.Call (.Name "list" q2) [.Call (.Name "range" p) [e] [] q] [] pos) (rLstRg te) := by
  obtain ⟨t, pp, f⟩ := he.ex
  refine ⟨_, pe_listRg hc hg hm (prg_1 hg2 hm2 pp na) na2, fun σ H sd h Qd Q rs R q w => ?_⟩
  refine f σ H sd h _ _ rs R q fun v H1 d h1 fr1 R1 r1 q1 => ?_
  cases d with
  | int n => exact ⟨n, r1, q1.1, fun l nl => w _ _ (.lv _) h1 (fr1.trans (Fr.hid nl R1)) (RH.hid nl R1) (lv_new nl R1 (rg_rep n)) q1.2⟩
  | _ => exact q1.elim
theorem ed_lstRgR (he : ED X e te) (hm : X.mg "list" = none) (hm2 : X.mg "range" = none) (hg : Gl X "list" := by rfl) (hg2 : Gl X "range" := by rfl) (hc : X.calm = true := by rfl) (na : starEach [e] X.env = (false, eval e X.env) :: starEach [] X.env := by rfl)
    (na2 : starEach [.Call (.Name "range" p) [e] [] q] X.env = (false, eval (.Call (.Name "range" p) [e] [] q) X.env) :: starEach [] X.env := by rfl) : ED X (.Call (.Name "list" q2) [.Call (.Name "range" p) [e] [] q] [] pos) (rLstRgR te) := by
  obtain ⟨t, pp, f⟩ := he.ex
  refine ⟨_, pe_listRg hc hg hm (prg_1 hg2 hm2 pp na) na2, fun σ H sd h Qd Q rs R q w => ?_⟩
  refine f σ H sd h _ _ rs R q fun v H1 d h1 fr1 R1 r1 q1 => ?_
  cases d with
  | int n => exact ⟨n, r1, q1.1, fun l nl => w _ _ (.ref l) _ (fr1.trans (Fr.new nl R1)) (lst_new nl R1 (rg_rep n)) rfl (q1.2 l (R1.free nl))⟩
  | _ => exact q1.elim
end
end DL
set_option Elab.async false
set_option linter.all false
set_option maxRecDepth 100000
set_option maxHeartbeats 1000000
namespace DL
open PySem PySem.Spec PyProof.Rows L2
variable [FldTab]
section
variable {X : Cx} {tg e a b elt iter : Expr} {te tA tB : TED} {p pos : Pos}
/-! ### [e for x in xs if c for y in ys if d] -/
def liftI (Z : Kx) (td : TID) : TI := fun σ H R => ∃ sd h Rd, RepS Z h H sd σ ∧ RH Z h H ∧ td sd h Rd ∧ ∀ J H1 items G h1, Fr h H h1 H1 → RH Z h1 H1 → WalkD Z J items G h1 H1 → Rd items G h1 → R J H1
theorem ID.canon {wi : TID} (hi : ID X tg iter wi) : PI X tg iter (liftI (kx X) wi) := by
  obtain ⟨t, p, f⟩ := hi.ex
  exact ⟨fun pins s σ H R I ⟨sd, h, Rd, rs, R0, q, w⟩ => p.run pins s σ H R I (f σ H sd h Rd R rs R0 q w)⟩
def rIn (g : TGD) (tt : TTD) (te : TED) (sw : SD) (G : DH → Prop) (L : Addr) (k : List D → DH → Prop) : List D → List D → DH → Prop
  | [], acc, h => G h ∧ k acc h
  | x :: xs, acc, h => G h ∧ g x sw h fun s2 h2 => tt s2 h2 fun b h3 => bC b (te s2 h3 fun y h4 => h4 L = some (.lst acc) ∧ acc.length < sizeLine ∧ rIn g tt te sw G L k xs (acc ++ [y]) (up h4 L (.lst (acc ++ [y])))) (rIn g tt te sw G L k xs acc h3)
def rOut (g : TGD) (tt : TTD) (wi1 : TID) (g1 : TGD) (tt1 : TTD) (te : TED) (sw : SD) (vs1 : List Nat) (G : DH → Prop) (L : Addr) (k : List D → DH → Prop) : List D → List D → DH → Prop
  | [], acc, h => G h ∧ h L = some (.lst acc) ∧ k acc (del h L)
  | x :: xs, acc, h => G h ∧ g x sw h fun s2 h2 => tt s2 h2 fun b h3 => bC b (wi1 s2 h3 fun items1 G1 h4 => rIn g1 tt1 te (wipeD s2 vs1) G1 L (rOut g tt wi1 g1 tt1 te sw vs1 G L k xs) items1 acc h4) (rOut g tt wi1 g1 tt1 te sw vs1 G L k xs acc h3)
def rComp2 (wi : TID) (g : TGD) (tt : TTD) (wi1 : TID) (g1 : TGD) (tt1 : TTD) (te : TED) (vs vs1 : List Nat) : TED := fun sd h Q => wi sd h fun items G h1 => ∀ L, h1 L = none → rOut g tt wi1 g1 tt1 te (wipeD sd vs) vs1 G L (fun acc h2 => Q (.lv acc) h2) items [] (up h1 L (.lst []))
theorem comp2_core {wi wi1 : TID} {g g1 : TGD} {tt tt1 : TTD} {tE : TED} {vs vs1 : List Nat} {wi' : TI} {sd : SD} {σ : L2.St} {h : DH} {H : Hp} {Q : VK} {Qd : D → DH → Prop} (f0 : RI (kx X) wi' wi) (rs : RepS (kx X) h H sd σ) (R : RH (kx X) h H)
    (q : rComp2 wi g tt wi1 g1 tt1 tE vs vs1 sd h Qd) (w : WV (kx X) h H Qd Q) : tLc2 wi' (liftG (kx X) vs g) (liftT (kx X) tt) (liftI (kx X) wi1) (liftG (kx X) vs1 g1) (liftT (kx X) tt1) (liftE (kx X) tE) vs vs1 σ H Q := by
  refine f0 σ H sd h _ _ rs R q fun J H1 items G h1 fr1 R1 wk q1 => ?_
  intro L nL
  have q1 := q1 L (R1.free nL)
  generalize hk : (fun acc h2 => Qd (D.lv acc) h2) = kk at q1
  let W : Nat → Hp → Prop := fun i H' => ∃ h' acc, Fr h1 H1 h' H' ∧ RH (kx X) h' H' ∧ rOut g tt wi1 g1 tt1 tE (wipeD sd vs) vs1 G L kk (items.drop i) acc h'
  refine ⟨fun i m H' => m = items.length - i ∧ i ≤ items.length ∧ W i H', ⟨items.length, by simp, Nat.zero_le _, up h1 L (.lst []), [], Fr.new nL R1, lst_new nL R1 rfl, q1⟩, ?_⟩
  rintro i m H2 ⟨rfl, hi, h2, acc, fr2, R2, q2⟩
  by_cases hlt : i < items.length
  · rw [List.drop_eq_getElem_cons hlt] at q2
    obtain ⟨hG, q2⟩ := q2
    refine .inr ⟨wk.goes i H2 h2 hlt fr2 R2 hG, W (i + 1), fun H' x => ⟨items.length - (i + 1), by omega, rfl, hlt, x⟩, fun x H' y => ?_⟩
    obtain ⟨fr3, R3, d, e, r3⟩ := wk.yields i H2 h2 x H' hlt fr2 R2 hG y
    rw [List.getElem?_eq_getElem hlt] at e
    cases e
    refine ⟨_, wipeD sd vs, h2, _, r3, (rs.wipe vs).fr ((fr1.trans fr2).trans fr3), R3, q2, fun σ4 H4 sd4 h4 hw fr4 R4 rs4 q4 => ⟨by rw [hw, wipe_wipe], ?_⟩⟩
    have frA := (fr2.trans fr3).trans fr4
    refine ⟨sd4, h4, _, rs4, R4, q4, fun b H5 h5 fr5 R5 q5 => ?_⟩
    have frB := frA.trans fr5
    cases b with
    | false =>
      replace q5 := q5.2 rfl
      show ite (false = true) _ _
      rw [if_neg Bool.false_ne_true]
      exact ⟨h5, acc, frB, R5, q5⟩
    | true =>
      replace q5 := q5.1 rfl
      show ite (true = true) _ _
      rw [if_pos rfl]
      refine ⟨sd4, h5, _, rs4.fr fr5, R5, q5, fun J1 H6 items1 G1 h6 fr6 R6 wk1 q6 => ?_⟩
      let W1 : Nat → Hp → Prop := fun j H' => ∃ h' acc, Fr h6 H6 h' H' ∧ RH (kx X) h' H' ∧ rIn g1 tt1 tE (wipeD sd4 vs1) G1 L (rOut g tt wi1 g1 tt1 tE (wipeD sd vs) vs1 G L kk (items.drop (i + 1))) (items1.drop j) acc h'
      refine ⟨fun j m H' => m = items1.length - j ∧ j ≤ items1.length ∧ W1 j H', ⟨items1.length, by simp, Nat.zero_le _, h6, acc, Fr.refl, R6, q6⟩, ?_⟩
      rintro j m H7 ⟨rfl, hj, h7, acc7, fr7, R7, q7⟩
      by_cases hlj : j < items1.length
      · rw [List.drop_eq_getElem_cons hlj] at q7
        obtain ⟨hG1, q7⟩ := q7
        refine .inr ⟨wk1.goes j H7 h7 hlj fr7 R7 hG1, W1 (j + 1), fun H' x => ⟨items1.length - (j + 1), by omega, rfl, hlj, x⟩, fun x1 H8 y1 => ?_⟩
        obtain ⟨fr8, R8, d1, e1, r8⟩ := wk1.yields j H7 h7 x1 H8 hlj fr7 R7 hG1 y1
        rw [List.getElem?_eq_getElem hlj] at e1
        cases e1
        have rs8 : RepS (kx X) h7 H8 sd4 σ4 := rs4.fr (((fr5.trans fr6).trans fr7).trans fr8)
        refine ⟨_, wipeD sd4 vs1, h7, _, r8, rs8.wipe vs1, R8, q7, fun σ9 H9 sd9 h9 hw9 fr9 R9 rs9 q9 => ⟨by rw [hw9, wipe_wipe], ?_⟩⟩
        have frC := (fr7.trans fr8).trans fr9
        refine ⟨sd9, h9, _, rs9, R9, q9, fun b1 HA hA frA1 RA qA => ?_⟩
        cases b1 with
        | false =>
          replace qA := qA.2 rfl
          show ite (false = true) _ _
          rw [if_neg Bool.false_ne_true]
          exact ⟨hA, acc7, frC.trans frA1, RA, qA⟩
        | true =>
          replace qA := qA.1 rfl
          show ite (true = true) _ _
          rw [if_pos rfl]
          refine ⟨sd9, hA, _, rs9.fr frA1, RA, qA, fun v HB dB hB frB1 RB rB qB => ?_⟩
          obtain ⟨eB, lB, qB⟩ := qB
          obtain ⟨_, us, eu, ru⟩ := RB L _ eB
          exact ⟨us, eu, by rw [← ru.length]; exact lB, up hB L (.lst (acc7 ++ [dB])), acc7 ++ [dB], ((frC.trans frA1).trans frB1).trans (Fr.write eB), lst_put RB eB (ru.append (.one rB)), qB⟩
      · have ej : j = items1.length := by omega
        subst ej
        rw [List.drop_length] at q7
        exact .inl ⟨wk1.stops H7 h7 fr7 R7 q7.1, h7, acc7, (frB.trans fr6).trans fr7, R7, q7.2⟩
  · have e : i = items.length := by omega
    subst e
    rw [List.drop_length] at q2
    obtain ⟨g2, e2, q2⟩ := q2
    obtain ⟨_, us, eu, ru⟩ := R2 L _ e2
    subst hk
    exact .inl ⟨wk.stops H2 h2 fr2 R2 g2, w _ H2 (.lv acc) _ ((fr1.trans fr2).trans Fr.del) R2.del ⟨L, us, rfl, ⟨del_same, eu⟩, RepL.fr Fr.del _ _ ru⟩ q2⟩
variable {tg1 iter1 : Expr} {ifs ifs1 : List Expr} {scope : Scope} {own : List (Str × Nat)} {vs1 : List Nat} {wi wi1 : TID} {g g1 : TGD} {tt tt1 : TTD} {tE : TED}
abbrev Blk (X : Cx) (scope : Scope) (F : Cx → Prop) : Prop := ∀ (s : Shared) (H : Hp) (C : Addr) (cl : List (Str × Addr)) (fp : List Addr), F (X.blk s H scope (compEnvC scope cl C X.env) fp)
theorem ed_comp2 (ok : BlkOk X.N X.env.scope scope own) (hN : X.N.Nodup) (hi : ID X tg iter wi) (hv : ∀ i ∈ vs1, i ∈ own.map (·.2)) (hg : Blk X scope fun Y => GC Y (own.map (·.2)) tg g) (ht : Blk X scope fun Y => CsD Y ifs tt)
    (hi1 : Blk X scope fun Y => ID Y tg1 iter1 wi1) (hg1 : Blk X scope fun Y => GC Y vs1 tg1 g1) (ht1 : Blk X scope fun Y => CsD Y ifs1 tt1) (he : Blk X scope fun Y => ED Y elt tE) (hc : X.calm = true := by rfl)
    (hs : ∀ x, foldedSetIterable iter X.env x = pure x := by intro _; rfl) (hs1 : ∀ env x, foldedSetIterable iter1 env x = pure x := by intro _ _; rfl) :
    ED X (.ListComp elt [⟨tg, iter, ifs, 0⟩, ⟨tg1, iter1, ifs1, 0⟩] scope pos) (rComp2 wi g tt wi1 g1 tt1 tE (own.map (·.2)) vs1) := by
  obtain ⟨wi', p0, f0⟩ := hi.ex
  exact ⟨_, pe_lc2 (te := liftE (kx X) tE) (tt := liftT (kx X) tt) (g := liftG (kx X) (own.map (·.2)) g) (wi1 := liftI (kx X) wi1) (g1 := liftG (kx X) vs1 g1) (tt1 := liftT (kx X) tt1) hc hN p0 ok hv (fun s H C cl fp => (hg s H C cl fp).canon) (fun s H C cl fp => (ht s H C cl fp).ex)
    (fun s H C cl fp => (hi1 s H C cl fp).canon) (fun s H C cl fp => (hg1 s H C cl fp).canon) (fun s H C cl fp => (ht1 s H C cl fp).ex) (fun s H C cl fp => (he s H C cl fp).canon) hs hs1, fun σ H sd h Qd Q rs R q w => comp2_core f0 rs R q w⟩
theorem sd_setComp2 (i : Nat) {y : Str} {py spos : Pos} (ok : BlkOk X.N X.env.scope scope own) (hN : X.N.Nodup) (hi : ID X tg iter wi) (hv : ∀ i ∈ vs1, i ∈ own.map (·.2)) (hg : Blk X scope fun Y => GC Y (own.map (·.2)) tg g) (ht : Blk X scope fun Y => CsD Y ifs tt)
    (hi1 : Blk X scope fun Y => ID Y tg1 iter1 wi1) (hg1 : Blk X scope fun Y => GC Y vs1 tg1 g1) (ht1 : Blk X scope fun Y => CsD Y ifs1 tt1) (he : Blk X scope fun Y => ED Y elt tE)
    (hsw : swapsWith (.ListComp elt [⟨tg, iter, ifs, 0⟩, ⟨tg1, iter1, ifs1, 0⟩] scope pos) (some (.Name y py)) spos.line X.env = pure true) (hy : X.N[i]? = some y := by rfl) (hyl : X.env.scope.names.lookup y = some .local := by rfl) (hc : X.calm = true := by rfl)
    (hs : ∀ x, foldedSetIterable iter X.env x = pure x := by intro _; rfl) (hs1 : ∀ env x, foldedSetIterable iter1 env x = pure x := by intro _ _; rfl) :
    SDt X (.Assign [.Name y py] (.ListComp elt [⟨tg, iter, ifs, 0⟩, ⟨tg1, iter1, ifs1, 0⟩] scope pos) spos) (rAsg (rComp2 wi g tt wi1 g1 tt1 tE (own.map (·.2)) vs1) (dName i)) := by
  obtain ⟨wi', p0, f0⟩ := hi.ex
  refine ⟨_, ps_setLc2 (te := liftE (kx X) tE) (tt := liftT (kx X) tt) (g := liftG (kx X) (own.map (·.2)) g) (wi1 := liftI (kx X) wi1) (g1 := liftG (kx X) vs1 g1) (tt1 := liftT (kx X) tt1) hc hN hy hyl hsw p0 ok hv (fun s H C cl fp => (hg s H C cl fp).canon) (fun s H C cl fp => (ht s H C cl fp).ex)
    (fun s H C cl fp => (hi1 s H C cl fp).canon) (fun s H C cl fp => (hg1 s H C cl fp).canon) (fun s H C cl fp => (ht1 s H C cl fp).ex) (fun s H C cl fp => (he s H C cl fp).canon) hs hs1, fun σ H sd h Dd D rs R q w => ?_⟩
  refine comp2_core f0 rs R q fun v H1 d h1 fr1 R1 r1 q1 => ?_
  unfold dName at q1
  rw [ss_eq] at q1
  exact w.nx _ H1 _ h1 fr1 R1 ((rs.fr fr1).set r1) q1
/-- the common case -/
theorem rIn_pure {sw : SD} {G : DH → Prop} {h : DH} {L : Addr} {k : List D → DH → Prop} (f : D → Option D) (hL : h L = none) (hG : ∀ h', (∀ a o, h a = some o → h' a = some o) → G h') : ∀ (items acc : List D), acc.length + (items.filterMap f).length ≤ sizeLine →
    (∀ x ∈ items, ∀ (h' : DH) (Q1 : Option D → DH → Prop), (∀ a o, h a = some o → h' a = some o) → Q1 (f x) h' → g1 x sw h' fun s2 h2 => tt1 s2 h2 fun b h3 => bC b (tE s2 h3 fun y h4 => Q1 (some y) h4) (Q1 none h3)) →
    k (acc ++ items.filterMap f) (up h L (.lst (acc ++ items.filterMap f))) → rIn g1 tt1 tE sw G L k items acc (up h L (.lst acc))
  | [], acc, _, _, q => by
    refine ⟨hG _ fun a o e => by rw [up_ne (fun z => by rw [z, hL] at e; cases e)]; exact e, ?_⟩
    rw [List.filterMap_nil, List.append_nil] at q; exact q
  | x :: xs, acc, hl, st, q => by
    have hs : ∀ a o, h a = some o → (up h L (.lst acc)) a = some o := fun a o e => by rw [up_ne (fun z => by rw [z, hL] at e; cases e)]; exact e
    refine ⟨hG _ hs, ?_⟩
    refine st x List.mem_cons_self (up h L (.lst acc)) (fun o h4 => match o with
      | some y => h4 L = some (.lst acc) ∧ acc.length < sizeLine ∧ rIn g1 tt1 tE sw G L k xs (acc ++ [y]) (up h4 L (.lst (acc ++ [y])))
      | none => rIn g1 tt1 tE sw G L k xs acc h4) hs ?_
    cases e : f x with
    | none =>
      rw [List.filterMap_cons_none e] at q hl
      exact rIn_pure f hL hG xs acc hl (fun x hx => st x (List.mem_cons_of_mem _ hx)) q
    | some y =>
      rw [List.filterMap_cons_some e] at q hl
      rw [List.length_cons] at hl
      refine ⟨up_same, by omega, ?_⟩
      rw [up_up]
      exact rIn_pure f hL hG xs (acc ++ [y]) (by rw [List.length_append, List.length_singleton]; omega) (fun x hx => st x (List.mem_cons_of_mem _ hx)) (by rw [List.append_assoc]; exact q)
end
end DL
set_option Elab.async false
set_option linter.all false
set_option maxRecDepth 100000
set_option maxHeartbeats 1000000
namespace DL
open PySem PySem.Spec PyProof.Rows L2
variable [FldTab]
section
variable {X : Cx} {tg e a b kx' vx iter : Expr} {p pos : Pos} {ifs : List Expr} {scope : Scope} {own : List (Str × Nat)}
/-- {k: v for target in iter if ..}: the new dict at D, its keys and values told by trees -/
def tDcX (X : Cx) (wi : TI) (g : TG) (tt : TT) (tk tv : TE) (vs : List Nat) : TE := fun σ H Q => wi σ H fun J H1 => ∀ D, H1 D = none → (D == sysModules) = false → ∃ W : Nat → Nat → Hp → Prop, (∃ m, W 0 m (upd H1 D (ObX D dEmpty))) ∧ ∀ i m H, W i m H →
  (J.stop i H ∧ Q (.ref D) H) ∨ (J.go i H ∧ ∃ Nx : Hp → Prop, (∀ H', Nx H' → ∃ m', m' < m ∧ W (i + 1) m' H') ∧ ∀ x H', J.yld i H x H' → g x (L2.wipe σ vs) H' fun σ2 H2 => L2.wipe σ2 vs = L2.wipe σ vs ∧ tt σ2 H2 fun b H3 =>
    if b = true then tk σ2 H3 fun y H4 => tv σ2 H4 fun z H5 => ∃ h ks us ws k, DicAt (kx X) H5 D ks us ws ∧ RepL (kx X) h H5 ks us ∧ Rep (kx X) h H5 k y ∧ keyOk ks k = true ∧ (putKs ks k).length ≤ sizeLine ∧
      ∀ o', DicO X.w o' (putKs ks k) (putU ks us k y) (putA ks ws k z) → Nx (upd H5 D (ObX D o')) else Nx H3)
theorem dcX_core {n : Nat} {pins : List (Addr × Obj)} {s : Shared} {σ : L2.St} {H : Hp} {Q : VK} {pos' : Pos} {wi : TI} {g : TG} {tt : TT} {tk tv : TE} {use : Option (Value → Sem Unit)} {Qf : Value → Shared → Prop}
    (hr : Room n X.A) (hN : X.N.Nodup) (I : Inv X pins σ H s) (hi : PI X tg iter wi) (ok : BlkOk X.N X.env.scope scope own)
    (hg : Blk X scope fun Y => PG Y tg g) (ht : Blk X scope fun Y => PTs Y ifs tt) (hk : Blk X scope fun Y => PE Y kx' tk) (he : Blk X scope fun Y => PE Y vx tv) (hs : ∀ x, foldedSetIterable iter X.env x = pure x) (hc : X.calm = true)
    (h : tDcX X wi g tt tk tv (own.map (·.2)) σ H Q)
    (fin : ∀ D C s' m H', Inv X pins σ H' s' → Q (.ref D) H' → s'.heap.Ns C m → FpOk X pins H' C → compPost (model X.prog X.w) X.A X.xe use Qf (.ref D) C (.ok .next) s') :
    wpAny (model X.prog X.w) X.A (comprehension (.DictComp kx' vx [⟨tg, iter, ifs, 0⟩] scope pos) scope X.env pos' newDict false (eval iter X.env) use) Qf X.xe s := by
  have frees : ∀ y ∈ scope.names, y.2 = .free → ∃ c, X.env.cells.lookup y.1 = some c := fun y hy e => (ok.free y hy e).elim (fun z => I.ok.has _ (.inl z)) fun z => I.ok.has _ (.inr z)
  refine wpAny_comprehension_free (use := use) rfl hs (closure_ok frees) ok.kind (fun y hy e => by rw [ok.uniq y hy, e]) (thn (hi.run pins s σ H _ I h) fun _ _ z => thn z fun iv s2 ⟨it, fp, tn, J, H2, ei, I2, T, st2, f2, q⟩ => ?_)
  subst ei
  refine wpAny_newObj_type (newEnv_comp ?_)
  generalize eD : s2.heap.objs.size = D
  have nD : H2 D = none := I2.hok.fresh (Nat.le_of_eq eD)
  have sD : (D == sysModules) = false := by rw [← eD]; exact big_ne I2
  obtain ⟨W, ⟨m0, w0⟩, turn⟩ := q D nD sD
  generalize e3 : ({ s2 with heap := s2.heap.push dEmpty } : Shared) = s3
  have I3 : Inv X pins σ (upd H2 D (ObX D dEmpty)) s3 := by
    rw [← e3]
    refine I2.laid (t' := s2.toks) (fun b o e => Heap.get?_push_of_some _ e) (Nat.le_of_eq eD) ?_
    rw [← eD]
    exact obX_new s2.heap
  have h3 : s3.heap = s2.heap.push dEmpty := by rw [← e3]
  have f3 : ∀ b ∈ fp, FpOk X pins (upd H2 D (ObX D dEmpty)) b ∧ b < s3.heap.objs.size := fun b hb => by
    obtain ⟨o, eo, _⟩ := T.obj _ _ st2 b hb
    have lt := Heap.lt_size eo
    refine ⟨⟨?_, (f2 b hb).2⟩, by rw [h3, Heap.size_push]; exact Nat.lt_succ_of_lt lt⟩
    rw [upd_ne (by rw [← eD]; exact Nat.ne_of_lt lt)]
    exact (f2 b hb).1
  have st3 : tn 0 s3.heap := T.keep _ _ _ st2 fun b _ o e => by rw [h3]; exact Heap.get?_push_of_some _ e
  have I4 := block_start I3 ok hN f3
  generalize eC : s3.heap.objs.size = C at I4
  have Pg := hg s3 (upd H2 D (ObX D dEmpty)) C (cellsFrom (C + 1) scope.names (cloFrom X.env.cells scope.names [])) fp
  have Pt := ht s3 (upd H2 D (ObX D dEmpty)) C (cellsFrom (C + 1) scope.names (cloFrom X.env.cells scope.names [])) fp
  have Pk := hk s3 (upd H2 D (ObX D dEmpty)) C (cellsFrom (C + 1) scope.names (cloFrom X.env.cells scope.names [])) fp
  have Pv := he s3 (upd H2 D (ObX D dEmpty)) C (cellsFrom (C + 1) scope.names (cloFrom X.env.cells scope.names [])) fp
  show codeAny _ _ (.compStart (.DictComp kx' vx [⟨tg, iter, ifs, 0⟩] scope pos) 0 (.ref it) (.ref D) (compEnvC scope (cellsFrom (C + 1) scope.names (cloFrom X.env.cells scope.names [])) C X.env)) (compPost (model X.prog X.w) X.A X.xe use Qf (.ref D) C) { s3 with heap := pushCells (s3.heap.push dEmpty) scope.names }
  have nfp : ∀ b ∈ fp, (upd H2 D (ObX D dEmpty)) b = none := fun b hb => (f3 b hb).1.1
  generalize ece : compEnvC scope (cellsFrom (C + 1) scope.names (cloFrom X.env.cells scope.names [])) C X.env = ce at I4 Pg Pt Pk Pv ⊢
  have cL : ce.locals = C := by rw [← ece]; rfl
  generalize eH3 : upd H2 D (ObX D dEmpty) = H3 at I3 I4 Pg Pt Pk Pv w0 nfp f3
  generalize e4 : ({ s3 with heap := pushCells (s3.heap.push dEmpty) scope.names } : Shared) = s4 at I4 ⊢
  have st4 : tn 0 s4.heap := T.keep _ _ _ st3 fun b _ o e => by rw [← e4]; exact pushCells_keeps _ _ _ _ (Heap.get?_push_of_some _ e)
  have stat : ∀ {σ' : L2.St} {H' : Hp} {s' : Shared}, Inv (X.blk s3 H3 scope ce fp) [] σ' H' s' → (∀ b ∈ fp, H' b = none) → ∀ b ∈ fp, FpOk (X.blk s3 H3 scope ce fp) [] H' b := fun {σ' H' s'} I' hn b hb =>
    ⟨hn b hb, (I'.ok.exf b hb).1, I'.ok.exfs b hb, .inl hb, fun x c e => (I'.ok.exf b hb).2 x c e, fun p hp => absurd (show p ∈ ([] : List (Addr × Obj)) ++ [] from hp) (by simp)⟩
  have loop : codeAny (model X.prog X.w) X.A (.compLoop (.DictComp kx' vx [⟨tg, iter, ifs, 0⟩] scope pos) 0 (.ref it) (.ref D) ce) (compPost (model X.prog X.w) X.A X.xe use Qf (.ref D) C) s4 := by
    refine compLoop_anyD (fun n s' => ∃ i H', Inv (X.blk s3 H3 scope ce fp) [] (L2.wipe σ (own.map (·.2))) H' s' ∧ tn i s'.heap ∧ (∀ b ∈ fp, H' b = none) ∧ W i n H') ?_ m0 ⟨0, H3, I4, st4, nfp, w0⟩
    rintro m s5 ⟨i, H5, I5, st5, n5, w5⟩
    rcases turn i m H5 w5 with ⟨stop, qq⟩ | ⟨go, Nx, hNx, step⟩
    · refine thnF (T.done (X.blk s3 H3 scope ce fp) rfl rfl rfl hc i [] s5 _ H5 (fun _ _ => False) I5 (stat I5 n5) st5 stop) fun r s6 ⟨er, I6⟩ => ?_
      subst er
      have I7 : Inv X pins σ H5 s6 := I3.call' (ch := fp) I6.os I6.base I6.hok I6.bare fun b hb => ⟨(f3 b hb).1.2.2.2.1, (f3 b hb).1.2.1, (f3 b hb).1.2.2.2.2.1, (f3 b hb).1.2.2.2.2.2⟩
      have nC : H5 C = none := by have z : H5 ce.locals = none := I6.free; rw [cL] at z; exact z
      obtain ⟨mm, hn, _⟩ := I6.loc
      have hn : s6.heap.Ns ce.locals mm := hn
      rw [cL] at hn
      exact fin D C s6 mm H5 I7 qq hn (I3.fpOk (by rw [eC]; exact Nat.le_refl _) nC)
    · refine thnF (T.item (X.blk s3 H3 scope ce fp) rfl rfl rfl hc i [] s5 _ H5 (fun _ _ => False) I5 (stat I5 n5) st5 go) fun r s6 ⟨u, er, h6⟩ => ?_
      subst er
      refine thnF h6 fun _ s7 ⟨x, H7, I7, r7, y7, st7, n7⟩ => ?_
      refine thnF (Pg.run _ s7 _ H7 x u _ (I7.pinned (stat I7 n7) (T.obj _ _ st7)) r7 (step x H7 y7)) fun _ s8 ⟨σ8, H8, I8, hw8, q8⟩ => ?_
      have goOn : ∀ {s' : Shared} {H' : Hp}, Inv (X.blk s3 H3 scope ce fp) ([] ++ pinsAt fp s7.heap) σ8 H' s' → Nx H' → ∃ m', m' < m ∧ ∃ i H', Inv (X.blk s3 H3 scope ce fp) [] (L2.wipe σ (own.map (·.2))) H' s' ∧ tn i s'.heap ∧ (∀ b ∈ fp, H' b = none) ∧ W i m' H' := fun {s' H'} I' nx => by
        obtain ⟨m', lm, w'⟩ := hNx H' nx
        have kp : ∀ b ∈ fp, ∀ o, s7.heap.get? b = some o → s'.heap.get? b = some o ∧ H' b = none := fun b hb o e => let z := I'.pin (b, o) (List.mem_append_right _ (List.mem_append_right _ (mem_pinsAt hb e))); ⟨z.1, z.2.1⟩
        refine ⟨m', lm, i + 1, H', (I'.unpinned (pins := [])).weak (by rw [← hw8, L2.wipe_length]) fun j v e => ?_, T.keep _ _ _ st7 fun b hb o e => (kp b hb o e).1, fun b hb => ?_, w'⟩
        · rw [← hw8] at e; exact (wipe_some e).1
        · obtain ⟨o, e, _⟩ := T.obj _ _ st7 b hb; exact (kp b hb o e).2
      refine thnF (Pt.run _ s8 σ8 H8 _ I8 q8) fun b s9 ⟨H9, I9, q9⟩ => ?_
      cases b with
      | false =>
        simp only [Bool.false_eq_true, if_false] at q9 ⊢
        exact goOn I9 q9
      | true =>
        simp only [if_true] at q9 ⊢
        refine thnF (Pk.run _ s9 σ8 H9 _ I9 q9) fun zk s10 ⟨yk, H10, I10, r10, q10⟩ => ?_
        refine thnF (Pv.run _ s10 σ8 H10 _ I10 q10) fun zv s11 ⟨yv, H11, I11, r11, hh, ks, us, ws, k, da, rl, rk, kok, sz, nx⟩ => ?_
        exact x_dictSet (X := X.blk s3 H3 scope ce fp) (h := hh) (room16 hr) I11 da rl rk r10 r11 kok sz fun o' s12 I12 d12 => goOn I12 (nx o' d12)
  exact codeAny_compStart_dict loop (T.self X.A 0 _ _ _ st4 loop)
theorem pe_dcX {n : Nat} {wi : TI} {g : TG} {tt : TT} {tk tv : TE} (hr : Room n X.A) (hN : X.N.Nodup) (hi : PI X tg iter wi) (ok : BlkOk X.N X.env.scope scope own)
    (hg : Blk X scope fun Y => PG Y tg g) (ht : Blk X scope fun Y => PTs Y ifs tt) (hk : Blk X scope fun Y => PE Y kx' tk) (he : Blk X scope fun Y => PE Y vx tv) (hc : X.calm = true) (hs : ∀ x, foldedSetIterable iter X.env x = pure x) :
    PE X (.DictComp kx' vx [⟨tg, iter, ifs, 0⟩] scope pos) (tDcX X wi g tt tk tv (own.map (·.2))) := by
  refine ⟨fun pins s σ H Q I q => ?_⟩
  rw [arm_eval_DictComp]
  refine dcX_core hr hN I hi ok hg ht hk he hs hc q fun D C s' m H' I' q hn ⟨f0, f1, f2, f3, f4, f5⟩ => ⟨m, hn, fun h'' sb => ?_⟩
  exact ⟨.ref D, H', I'.turned (t' := s'.toks) (fun b o hb e => (sb.2 b hb).trans e) f0 f1 f3 f4 f5, rfl, q⟩
/-- over trees: the new dict at L -/
def rDcL (g : TGD) (tt : TTD) (tk tv : TED) (sw : SD) (G : DH → Prop) (k : List D → List D → DH → Prop) (L : Addr) : List D → List D → List D → DH → Prop
  | [], ks, vs, h => G h ∧ h L = some (.dic ks vs) ∧ k ks vs (del h L)
  | x :: xs, ks, vs, h => G h ∧ g x sw h fun s2 h2 => tt s2 h2 fun b h3 => bC b (tk s2 h3 fun y h4 => tv s2 h4 fun z h5 => h5 L = some (.dic ks vs) ∧ keyOk ks y = true ∧ rDcL g tt tk tv sw G k L xs (putKs ks y) (putA ks vs y z) (up h5 L (.dic (putKs ks y) (putA ks vs y z)))) (rDcL g tt tk tv sw G k L xs ks vs h3)
def rDc (wi : TID) (g : TGD) (tt : TTD) (tk tv : TED) (vs : List Nat) : TED := fun sd h Q => wi sd h fun items G h1 => items.length ≤ sizeLine ∧ ∀ L, h1 L = none → rDcL g tt tk tv (wipeD sd vs) G (fun ks vs h2 => Q (.dv ks vs) h2) L items [] [] (up h1 L (.dic [] []))
theorem putKs_len (ks : List D) (k : D) : (putKs ks k).length ≤ ks.length + 1 := by
  unfold putKs
  split
  · exact Nat.le_succ _
  · rw [List.length_append]; exact Nat.le_refl _
theorem dc_coreD {wi : TID} {g : TGD} {tt : TTD} {tK tV : TED} {vs : List Nat} {wi' : TI} {sd : SD} {σ : L2.St} {h : DH} {H : Hp} {Q : VK} {Qd : D → DH → Prop} (f0 : RI (kx X) wi' wi) (rs : RepS (kx X) h H sd σ) (R : RH (kx X) h H)
    (q : rDc wi g tt tK tV vs sd h Qd) (w : WV (kx X) h H Qd Q) : tDcX X wi' (liftG (kx X) vs g) (liftT (kx X) tt) (liftE (kx X) tK) (liftE (kx X) tV) vs σ H Q := by
  refine f0 σ H sd h _ _ rs R q fun J H1 items G h1 fr1 R1 wk ⟨hz, q1⟩ => ?_
  intro L nL sL
  have q1 := q1 L (R1.free nL)
  generalize hk : (fun ks vs h2 => Qd (D.dv ks vs) h2) = kk at q1
  let W : Nat → Hp → Prop := fun i H' => ∃ h' ks vs', Fr h1 H1 h' H' ∧ RH (kx X) h' H' ∧ ks.length ≤ i ∧ rDcL g tt tK tV (wipeD sd vs) G kk L (items.drop i) ks vs' h'
  refine ⟨fun i m H' => m = items.length - i ∧ i ≤ items.length ∧ W i H', ⟨items.length, by simp, Nat.zero_le _, up h1 L (.dic [] []), [], [], Fr.new nL R1, dic_new (ks := []) (es := []) nL R1 sL dicO_new rfl rfl, Nat.le_refl _, q1⟩, ?_⟩
  rintro i m H2 ⟨rfl, hi, h2, ks, vs', fr2, R2, la, q2⟩
  by_cases hlt : i < items.length
  · rw [List.drop_eq_getElem_cons hlt] at q2
    obtain ⟨hG, q2⟩ := q2
    refine .inr ⟨wk.goes i H2 h2 hlt fr2 R2 hG, W (i + 1), fun H' x => ⟨items.length - (i + 1), by omega, rfl, hlt, x⟩, fun x H' y => ?_⟩
    obtain ⟨fr3, R3, d, e, r3⟩ := wk.yields i H2 h2 x H' hlt fr2 R2 hG y
    rw [List.getElem?_eq_getElem hlt] at e
    cases e
    refine ⟨_, wipeD sd vs, h2, _, r3, (rs.wipe vs).fr ((fr1.trans fr2).trans fr3), R3, q2, fun σ4 H4 sd4 h4 hw fr4 R4 rs4 q4 => ⟨by rw [hw, wipe_wipe], ?_⟩⟩
    have frA := (fr2.trans fr3).trans fr4
    refine ⟨sd4, h4, _, rs4, R4, q4, fun b H5 h5 fr5 R5 q5 => ?_⟩
    cases b with
    | false =>
      show ite (false = true) _ _
      rw [if_neg Bool.false_ne_true]
      replace q5 := q5.2 rfl
      exact ⟨h5, ks, vs', frA.trans fr5, R5, Nat.le_succ_of_le la, q5⟩
    | true =>
      show ite (true = true) _ _
      rw [if_pos rfl]
      replace q5 := q5.1 rfl
      refine ⟨sd4, h5, _, rs4.fr fr5, R5, q5, fun yv H6 yd h6 fr6 R6 r6 q6 => ?_⟩
      refine ⟨sd4, h6, _, rs4.fr (fr5.trans fr6), R6, q6, fun zv H7 zd h7 fr7 R7 r7 ⟨e7, kok, q7⟩ => ?_⟩
      obtain ⟨_, us, ws, da, ru, rw'⟩ := R7 L _ e7
      have rk := Rep.fr fr7 _ _ r6
      refine ⟨h7, ks, us, ws, yd, da, ru, rk, kok, by have := putKs_len ks yd; omega, fun o' d' => ?_⟩
      exact ⟨_, _, _, ((frA.trans fr5).trans (fr6.trans fr7)).trans (Fr.write e7), dic_put R7 e7 sL d' (putK_rep ru rk) (put_rep rw' r7), by have := putKs_len ks yd; omega, q7⟩
  · have e : i = items.length := by omega
    subst e
    rw [List.drop_length] at q2
    obtain ⟨g2, e2, q2⟩ := q2
    obtain ⟨_, us, ws, da, ru, rw'⟩ := R2 L _ e2
    subst hk
    exact .inl ⟨wk.stops H2 h2 fr2 R2 g2, w _ H2 (.dv ks vs') _ ((fr1.trans fr2).trans Fr.del) R2.del ⟨L, us, ws, rfl, del_same, da, RepL.fr Fr.del _ _ ru, RepL.fr Fr.del _ _ rw'⟩ q2⟩
variable {wi : TID} {g : TGD} {tt : TTD} {tK tV : TED}
theorem ed_dc {n : Nat} (hr : Room n X.A) (ok : BlkOk X.N X.env.scope scope own) (hN : X.N.Nodup) (hi : ID X tg iter wi) (hg : Blk X scope fun Y => GC Y (own.map (·.2)) tg g) (ht : Blk X scope fun Y => CsD Y ifs tt)
    (hk : Blk X scope fun Y => ED Y kx' tK) (he : Blk X scope fun Y => ED Y vx tV) (hc : X.calm = true := by rfl) (hs : ∀ x, foldedSetIterable iter X.env x = pure x := by intro _; rfl) :
    ED X (.DictComp kx' vx [⟨tg, iter, ifs, 0⟩] scope pos) (rDc wi g tt tK tV (own.map (·.2))) := by
  obtain ⟨wi', p0, f0⟩ := hi.ex
  exact ⟨_, pe_dcX (g := liftG (kx X) (own.map (·.2)) g) (tt := liftT (kx X) tt) (tk := liftE (kx X) tK) (tv := liftE (kx X) tV) hr hN p0 ok (fun s H C cl fp => (hg s H C cl fp).canon) (fun s H C cl fp => (ht s H C cl fp).ex) (fun s H C cl fp => (hk s H C cl fp).canon) (fun s H C cl fp => (he s H C cl fp).canon) hc hs,
    fun σ H sd h Qd Q rs R q w => dc_coreD f0 rs R q w⟩
/-- the common case: each item is looked at without a change, its key is new -/
theorem dc_pure {sw : SD} {G : DH → Prop} {h : DH} {L : Addr} {k : List D → List D → DH → Prop} (fk fv : D → D) (hL : h L = none) (hG : ∀ h', (∀ a o, h a = some o → h' a = some o) → G h') : ∀ (items ks vs : List D),
    ((ks ++ items.map fk).map nk).Nodup → keysOk (ks ++ items.map fk) = true →
    (∀ x ∈ items, ∀ (h' : DH) (Q1 : D → D → DH → Prop) (Q2 : DH → Prop), (∀ a o, h a = some o → h' a = some o) → Q1 (fk x) (fv x) h' → g x sw h' fun s2 h2 => tt s2 h2 fun b h3 => bC b (tK s2 h3 fun y h4 => tV s2 h4 fun z h5 => Q1 y z h5) (Q2 h3)) →
    k (ks ++ items.map fk) (vs ++ items.map fv) h → rDcL g tt tK tV sw G k L items ks vs (up h L (.dic ks vs))
  | [], ks, vs, _, _, _, q => by
    refine ⟨hG _ fun a o e => by rw [up_ne (fun z => by rw [z, hL] at e; cases e)]; exact e, up_same, ?_⟩
    rw [del_up hL]
    rw [List.map_nil, List.map_nil, List.append_nil, List.append_nil] at q
    exact q
  | x :: xs, ks, vs, nd, ok, st, q => by
    have hs : ∀ a o, h a = some o → (up h L (.dic ks vs)) a = some o := fun a o e => by rw [up_ne (fun z => by rw [z, hL] at e; cases e)]; exact e
    rw [List.map_cons] at nd ok
    have fr : nk (fk x) ∉ ks.map nk := fun q => by
      rw [List.map_append, List.nodup_append] at nd
      exact nd.2.2 _ q (nk (fk x)) List.mem_cons_self rfl
    have ix := ixK_fresh fr
    have pk : putKs ks (fk x) = ks ++ [fk x] := by unfold putKs; rw [ix]
    have pa : putA ks vs (fk x) (fv x) = vs ++ [fv x] := by unfold putA; rw [ix]
    have kok : keyOk ks (fk x) = true := by
      unfold keysOk at ok
      unfold keyOk
      rcases Bool.or_eq_true_iff.mp ok with z | z <;> rw [List.all_append, List.all_cons] at z <;> obtain ⟨z1, z2⟩ := Bool.and_eq_true_iff.mp z <;> obtain ⟨z2, _⟩ := Bool.and_eq_true_iff.mp z2
      · rw [z1, z2]; rfl
      · rw [z1, z2]; simp
    refine ⟨hG _ hs, ?_⟩
    refine st x List.mem_cons_self (up h L (.dic ks vs)) (fun y z h5 => h5 L = some (.dic ks vs) ∧ keyOk ks y = true ∧ rDcL g tt tK tV sw G k L xs (putKs ks y) (putA ks vs y z) (up h5 L (.dic (putKs ks y) (putA ks vs y z)))) (fun h3 => rDcL g tt tK tV sw G k L xs ks vs h3) hs ⟨up_same, kok, ?_⟩
    rw [pk, pa, up_up]
    exact dc_pure fk fv hL hG xs (ks ++ [fk x]) (vs ++ [fv x]) (by rw [List.append_assoc]; exact nd) (by rw [List.append_assoc]; exact ok) (fun x hx => st x (List.mem_cons_of_mem _ hx)) (by rw [List.append_assoc, List.append_assoc]; exact q)
end
end DL
set_option Elab.async false
set_option linter.all false
set_option maxRecDepth 100000
set_option maxHeartbeats 1000000
namespace DL
open PySem PySem.Spec PyProof.Rows L2
abbrev dSub [FldTab] : R2D := dI (fun _ _ => True) fun i j => .int (i - j)
abbrev dFdiv [FldTab] : R2D := dI CDivW fun i j => .int (i / j)
abbrev dMod [FldTab] : R2D := dI (fun _ j => 0 < j) fun i j => .int (i % j)
abbrev dPow [FldTab] : R2D := dI CPowW fun i j => .int (i ^ j.toNat)
/-! ### facts of the written part -/
variable [FldTab]
mutual
theorem repK_ok {K : PySem.W.Frag} : ∀ (d : D) (u : Value), repK K d u = true → ∃ v, RelV v u ∧ ∀ P w h H, Rep ⟨P, w, K⟩ h H d v
  | .non, u, e => by cases u <;> first | exact ⟨.non, rfl, fun _ _ _ _ => rfl⟩ | cases e
  | .bl b, u, e => by
    cases u with
    | bool c => have z : (b == c) = true := e; cases (beq_iff_eq.mp z); exact ⟨.bl b, rfl, fun _ _ _ _ => rfl⟩
    | _ => cases e
  | .int i, u, e => by
    cases u with
    | int j t => cases (of_decide_eq_true (show decide (i = j) = true from e)); exact ⟨.int i, ⟨t, rfl⟩, fun _ _ _ _ => rfl⟩
    | _ => cases e
  | .str x, u, e => by
    cases u with
    | str y t => cases (of_decide_eq_true (show decide (x = y) = true from e)); exact ⟨.str x, ⟨t, rfl⟩, fun _ _ _ _ => rfl⟩
    | _ => cases e
  | .ref a, u, e => by
    cases u with
    | ref b => cases (of_decide_eq_true (show decide (a = b) = true from e)); exact ⟨.ref a, rfl, fun _ _ _ _ => rfl⟩
    | _ => cases e
  | .tup ds, u, e => by
    cases u with
    | ref a =>
      have e : (match K.lookup a with
        | some ⟨.type c, _, .seq its _, _⟩ => decide (c = "tuple") && (decide (its.size ≤ sizeLine) && repKL K ds its.toList)
        | _ => false) = true := by unfold repK at e; exact e
      cases q : K.lookup a with
      | none => rw [q] at e; cases e
      | some o =>
        obtain ⟨oc, od, dt, sl⟩ := o
        rw [q] at e
        cases oc with
        | type c =>
          cases dt with
          | seq its n =>
            obtain ⟨e1, e2⟩ := Bool.and_eq_true_iff.mp (show (decide (c = "tuple") && (decide (its.size ≤ sizeLine) && repKL K ds its.toList)) = true from e)
            obtain ⟨e3, e4⟩ := Bool.and_eq_true_iff.mp e2
            obtain ⟨vs, r, f⟩ := repKL_ok ds its.toList e4
            exact ⟨.ref a, rfl, fun P w h H => ⟨a, vs, rfl, .inr ⟨_, its, n, q, congrArg Value.type (of_decide_eq_true e1), rfl, of_decide_eq_true e3, r⟩, f P w h H⟩⟩
          | _ => cases e
        | _ => cases dt <;> cases e
    | _ => cases e
  | .ty _, _, e => by cases e
  | .lv _, _, e => by cases e
  | .dv _ _, _, e => by cases e
  | .iv _ _, _, e => by cases e
theorem repKL_ok {K : PySem.W.Frag} : ∀ (ds : List D) (us : List Value), repKL K ds us = true → ∃ vs, Vals vs us ∧ ∀ P w h H, RepL ⟨P, w, K⟩ h H ds vs
  | [], us, e => by
    cases us with
    | nil => exact ⟨[], .nil, fun _ _ _ _ => rfl⟩
    | cons _ _ => cases e
  | d :: ds, us, e => by
    cases us with
    | nil => cases e
    | cons u r =>
      obtain ⟨e1, e2⟩ := Bool.and_eq_true_iff.mp (show (repK K d u && repKL K ds r) = true from e)
      obtain ⟨v, r1, f⟩ := repK_ok d u e1
      obtain ⟨vs, r2, g⟩ := repKL_ok ds r e2
      exact ⟨v :: vs, .cons r1 r2, fun P w h H => ⟨v, vs, rfl, f P w h H, g P w h H⟩⟩
end
section
variable {K : PySem.W.Frag} {h : Heap} {mg : Str → Option Value}
theorem ba' {a b : Bool} (h : (a && b) = true) : a = true ∧ b = true := Bool.and_eq_true_iff.mp h
theorem Fx.con_ok {P : Program} {w : World} (kx : K.In h) (G : h.Ns mainGlobals mg) {x : Str} {d : D} (c : (Fx.con x d).ok K = true) : GVal ⟨P, w, K⟩ mg x d := by
  simp only [Fx.ok] at c
  split at c
  · rename_i u e
    obtain ⟨v, r, f⟩ := repK_ok d u c
    exact ⟨v, u, PySem.W.mg_of kx G e, r, f P w⟩
  · cases c
theorem oF_ok {C : Addr} {m : Str} {o : Option (Option Value)} (h : oF K C m o = true) : PySem.W.findIn K (.ref C) m = o := of_decide_eq_true h
theorem Fx.fld_ok {f cn : Str} {i : Nat} (c : (Fx.fld f cn i).ok K = true) : Fld K f (He.ga K cn) i := by
  simp only [Fx.ok] at c
  split at c
  · rename_i s
    obtain ⟨c1, c⟩ := ba' c; obtain ⟨c2, c⟩ := ba' c; obtain ⟨c3, c⟩ := ba' c; obtain ⟨c4, c⟩ := ba' c; obtain ⟨c5, c⟩ := ba' c
    split at c
    · rename_i j ej
      unfold slB at c
      split at c
      · rename_i p e
        obtain ⟨d1, c⟩ := ba' c; obtain ⟨d2, c⟩ := ba' c; obtain ⟨d3, c⟩ := ba' c; obtain ⟨d4, d5⟩ := ba' c
        exact .inr ⟨s, ⟨c1, c2, c3, of_decide_eq_true c4⟩, p, j, ⟨e, of_decide_eq_true d1, of_decide_eq_true d2, of_decide_eq_true d3, of_decide_eq_true d4, of_decide_eq_true d5⟩, ej, of_decide_eq_true c5⟩
      · cases c
    · cases c
  · rename_i s
    obtain ⟨c1, c⟩ := ba' c; obtain ⟨c2, c⟩ := ba' c; obtain ⟨c3, c⟩ := ba' c; obtain ⟨c4, c⟩ := ba' c; obtain ⟨c5, c⟩ := ba' c; obtain ⟨c6, c⟩ := ba' c; obtain ⟨c7, c8⟩ := ba' c
    exact .inl ⟨Bool.eq_false_iff.mpr s, ⟨c1, c2, c3, of_decide_eq_true c4⟩, oF_ok c5, of_decide_eq_true c6, of_decide_eq_true c7, of_decide_eq_true c8⟩
theorem slF {b : Bool} (h : (!b) = true) : b = false := by cases b <;> first | rfl | cases h
theorem Fx.meth_ok {cn m : Str} (c : (Fx.meth cn m).ok K = true) : MethD K (He.ga K cn) m (He.ma K (He.ga K cn) m) := by
  simp only [Fx.ok] at c
  obtain ⟨c0, c⟩ := ba' c; obtain ⟨c1, c⟩ := ba' c; obtain ⟨c2, c⟩ := ba' c; obtain ⟨c3, c⟩ := ba' c; obtain ⟨c4, c⟩ := ba' c; obtain ⟨c5, c⟩ := ba' c; obtain ⟨c6, c⟩ := ba' c; obtain ⟨c7, c8⟩ := ba' c
  exact ⟨⟨c1, c2, c3, of_decide_eq_true c4⟩, ⟨of_decide_eq_true c5, c6, c7⟩, slF c0, of_decide_eq_true c8⟩
theorem Fx.mk_ok {cn : Str} (c : (Fx.mk cn).ok K = true) : Mk K (He.ga K cn) (He.ma K (He.ga K cn) "__init__") := by
  simp only [Fx.ok] at c
  obtain ⟨c1, c⟩ := ba' c; obtain ⟨c2, c⟩ := ba' c; obtain ⟨c3, c4⟩ := ba' c
  exact ⟨c1, of_decide_eq_true c2, c3, c4⟩
theorem Fx.call_ok {cn : Str} (c : (Fx.call cn).ok K = true) : CallD K (He.ga K cn) (He.ma K (He.ga K cn) "__call__") := by
  simp only [Fx.ok] at c
  obtain ⟨c0, c⟩ := ba' c; obtain ⟨c1, c⟩ := ba' c; obtain ⟨c2, c3⟩ := ba' c
  exact ⟨⟨of_decide_eq_true c1, c2, c3⟩, slF c0⟩
theorem Fx.ci_ok {cn : Str} (c : (Fx.ci cn).ok K = true) : ClsI K (He.ga K cn) := by
  simp only [Fx.ok] at c
  obtain ⟨c1, c⟩ := ba' c; obtain ⟨c2, c⟩ := ba' c; obtain ⟨c3, c⟩ := ba' c; obtain ⟨c4, c⟩ := ba' c; obtain ⟨c5, c6⟩ := ba' c
  exact ⟨c1, c2, of_decide_eq_true c3, of_decide_eq_true c4, of_decide_eq_true c5, of_decide_eq_true c6⟩
theorem Fx.kit_ok {t u : KT} {b : Bool} (c : (Fx.kit t u b).ok K = true) : PySem.W.kitOne K (t.v K) (u.v K) = some b := of_decide_eq_true c
theorem Fx.dis_ok {x y : Str} (c : (Fx.dis x y).ok K = true) : He.ga K x ≠ He.ga K y := of_decide_eq_true c
theorem fx_at {fx : List Fx} (e : (fx.all fun f => f.ok K) = true) (i : Nat) {f : Fx} (h : fx[i]? = some f := by rfl) : f.ok K = true := List.all_eq_true.mp e f (List.mem_of_getElem? h)
end
end DL
namespace DL
open PySem PySem.Spec PyProof.Rows L2
variable [FldTab]
section
variable {P : Program} {w : World} {K : PySem.W.Frag} {mg : Str → Option Value} {base : Heap} {name qual : Str} {params : Arguments} {body : List Stmt} {scope : Scope} {dvs : List V} {f : Addr} {fd : FuncData}
/-- a def whose defaults are all given -/
theorem fnD1 {N ps : List Str} {k : Nat} {sp : SpD} {tb : TSD} (F : FunD K name qual params body scope dvs [] f fd) (S : FnScope N ps scope) (hd : dvs ≠ [])
    (hb : ∀ (T : Addr) (kV doc pm : Value) (an : Option Addr) (cdv ct : Value) (us its : List Value), us.length = ps.length → its.length = dvs.length →
      ∃ k, bindArgs (PySem.W.fnOf name qual params body scope (.ref T) kV doc pm an cdv ct) ⟨us, []⟩ = seqItems? (.ref T) >>= k ∧ k (some its.toArray) = pure (ps.zip (us ++ its.drop dvs.length)))
    (der : ∀ (cdv : Value) (A : Around) (outer : List Env) (s : Shared) (H : Hp) (E : XK), Room k (A.deeper (envOfC qual scope s.heap.objs.size f cdv)) → SsD (cxOf CX0 P w K mg base N qual scope f cdv A outer s H E).nox body tb)
    (len : ∀ ds h Qd, sp ds h Qd → ds.length = ps.length) (read : ∀ ds h Qd, sp ds h Qd → tb ⟨fun _ h' => Qd .non h', Qd, fun _ _ => False, fun _ _ => False⟩ (st0 N.length ds) h) :
    FnD ⟨P, w, K⟩ mg base (k + 1) f [] sp := by
  obtain ⟨ds, v, b⟩ := FunD.binds1 F ps.length dvs.length hd (by omega) hb
  rw [List.drop_length] at v
  exact ⟨⟨fd, ps, ds, [], fn_okD F S der len read, b, v, fun _ _ => rfl⟩, F.kp⟩
end
end DL
namespace DL
open PySem PySem.Spec PyProof.Rows L2
variable [FldTab]
/-! ### objects forgotten -/
def Less (h h' : DH) : Prop := ∀ a o, h a = some o → h' a = some o
theorem Less.refl {h : DH} : Less h h := fun _ _ e => e
theorem Less.trans {a b c : DH} (x : Less a b) (y : Less b c) : Less a c := fun p o e => y p o (x p o e)
theorem Less.up {h : DH} {a : Addr} {o : DO} (n : h a = none) : Less h (up h a o) := fun b u e => by rw [up_ne (fun z => by rw [z, n] at e; cases e)]; exact e
def fo (Qd : D → DH → Prop) : D → DH → Prop := fun d h' => ∃ h, Less h h' ∧ Qd d h
section
variable {Z : Kx} {h h' : DH} {H : Hp}
theorem Less.fr (l : Less h h') : Fr h' H h H := fun a o e n => ⟨e, by
  cases z : h a with
  | none => rfl
  | some u => rw [l a u z] at n; cases n⟩
theorem Less.rh (l : Less h h') (R : RH Z h' H) : RH Z h H := fun a o e => let ⟨y, r⟩ := R a o (l a o e); ⟨y, r.fr l.fr rfl⟩
theorem WV.fo {h0 : DH} {H0 : Hp} {Qd : D → DH → Prop} {Q : VK} (w : WV Z h0 H0 Qd Q) : WV Z h0 H0 (fo Qd) Q := fun v H' d h' fr R r ⟨h2, l, q⟩ => w v H' d h2 (fr.trans l.fr) (l.rh R) (Rep.fr l.fr _ _ r) q
end
section
variable {P : Program} {w : World} {K : PySem.W.Frag} {mg : Str → Option Value} {base : Heap} {name qual : Str} {params : Arguments} {body : List Stmt} {scope : Scope} {kws : List (Str × V)} {f : Addr} {fd : FuncData}
/-- .. what is not in reach of the caller is forgotten -/
theorem fnD0F {N ps : List Str} {k : Nat} {sp : SpD} {tb : TSD} (F : FunD K name qual params body scope [] kws f fd) (S : FnScope N ps scope)
    (hb : ∀ (kV doc pm : Value) (an : Option Addr) (cdv ct : Value) (us : List Value), us.length = ps.length → bindArgs (PySem.W.fnOf name qual params body scope .none kV doc pm an cdv ct) ⟨us, []⟩ = pure (ps.zip us))
    (der : ∀ (cdv : Value) (A : Around) (outer : List Env) (s : Shared) (H : Hp) (E : XK), Room k (A.deeper (envOfC qual scope s.heap.objs.size f cdv)) → SsD (cxOf CX0 P w K mg base N qual scope f cdv A outer s H E).nox body tb)
    (len : ∀ ds h Qd, sp ds h Qd → ds.length = ps.length) (read : ∀ ds h Qd, sp ds h Qd → tb ⟨fun _ h' => fo Qd .non h', fo Qd, fun _ _ => False, fun _ _ => False⟩ (st0 N.length ds) h) :
    FnD ⟨P, w, K⟩ mg base (k + 1) f [] sp := by
  let sp2 : SpD := fun ds h Q => ∃ Qd, sp ds h Qd ∧ Q = fo Qd
  have G := fn_okD (P := P) (w := w) (mg := mg) (base := base) (sp := sp2) F S der (fun ds h Qd ⟨Q0, q, _⟩ => len ds h Q0 q) fun ds h Qd ⟨Q0, q, e⟩ => by subst e; exact read ds h Q0 q
  exact ⟨⟨fd, ps, [], [], G.imp fun vs H Q E ⟨ds, h, Qd, r, R, q, wv⟩ => ⟨ds, h, fo Qd, r, R, ⟨Qd, q, rfl⟩, WV.fo wv⟩, F.bindsN hb, .nil, fun _ _ => rfl⟩, F.kp⟩
end
end DL
set_option Elab.async false
set_option linter.all false
set_option maxRecDepth 100000
set_option maxHeartbeats 1000000
namespace DL
open PySem PySem.Spec PyProof.Rows L2
variable [FldTab]
section
variable {X : Cx} {e o a b c : Expr} {f m x : Str} {pos pos' p : Pos} {te tA tB : TED} {ta : TAD} {es : List Expr} {j k : Nat} {fa C : Addr} {sp : SpD}
/-- the promise at given values, of a def without defaults -/
theorem FnD.raw {Z : Kx} {mg : Str → Option Value} {base : Heap} (F : FnD Z mg base j fa [] sp) : FnR Z.P Z.w Z.K mg base CX0 j fa (liftSp Z sp) := by
  obtain ⟨fd, ps, ds, dvs, G, hb, hv, hd⟩ := F.ex
  have e0 : dvs = [] := hd (fun _ => none) (fun _ => none)
  subst e0
  exact (G.raw hb hv).imp fun vs H Q E q => by rw [List.append_nil]; exact q
/-- an object with a dict, of the class at C -/
theorem ins_at {Z : Kx} {h : DH} {H : Hp} {p : Addr} {vs : List V} (sl : FldTab.sl Z.K C = false) (t : InsAt Z h H p C vs) : ∃ dx fs, H p = some (.ins C dx fs) := by
  unfold InsAt at t
  rw [if_neg (by rw [sl]; exact Bool.false_ne_true)] at t
  obtain ⟨dx, t, _⟩ := t
  exact ⟨dx, _, t⟩
/-! ### a property -/
structure PropD (K : PySem.W.Frag) (C : Addr) (m : Str) (f : Addr) : Prop where
  cl : Cls K C
  pr : ∃ p, PropOf K C m p f
  sl : FldTab.sl K C = false
def rProp (C : Addr) (sp : SpD) (to : TED) : TED := fun sd h Q => to sd h fun d h1 => insD d h1 fun C' _ => C' = C ∧ sp [d] h1 Q
theorem ed_prop (M : PropD X.K C m fa) (F : FnD (kx X) X.mg X.base j fa [] sp) (hr : Room k X.A) (ho : ED X o tA) (hj : j + 1 ≤ k := by decide) (hab : attributeBase o m X.env (eval o X.env) = eval o X.env := by rfl) : ED X (.Attribute o m pos) (rProp C sp tA) := by
  obtain ⟨fd, ps, ds, dvs, G, hb, hv, hd⟩ := F.ex
  have e0 : dvs = [] := hd (fun _ => none) (fun _ => none)
  subst e0
  obtain ⟨t0, p0, f0⟩ := ho.ex
  obtain ⟨p, pr⟩ := M.pr
  refine ⟨_, pe_prop p0 M.cl pr G (hr.mono hj) hb hv pass0 hab, fun σ H sd h Qd Q rs R q w => ?_⟩
  refine f0 σ H sd h _ _ rs R q fun v H1 d h1 fr1 R1 r1 q1 => ?_
  obtain ⟨a, C', ds', vs', rfl, tt, r, eC, q2⟩ := insD_ok r1 R1 q1
  subst eC
  obtain ⟨dx, fs, e⟩ := ins_at M.sl tt
  exact ⟨a, dx, fs, rfl, e, [d], h1, Qd, ⟨_, _, rfl, r1, rfl⟩, R1, q2, w.fr fr1⟩
/-! ### == and != by the text's own def -/
structure OwnD (K : PySem.W.Frag) (C : Addr) (m : Str) (f : Addr) : Prop where
  at_ : PySem.W.findIn K (.ref C) m = some (some (.ref f))
  fn : PySem.W.isFn K (.ref f) = true
  sl : FldTab.sl K C = false
structure OwnE (K : PySem.W.Frag) (C f : Addr) : Prop where
  eq : OwnD K C "__eq__" f
  ne : PySem.W.findIn K (.ref C) "__ne__" = some (some (.builtin "object.__ne__"))
  ob : PySem.W.mroIn K C (.type "object") = some true
def rTwo (C : Addr) (g : Addr → Addr → Sp) : R2 := fun x y H Q => ∃ a b dx dy fs gs, x = .ref a ∧ y = .ref b ∧ H a = some (.ins C dx fs) ∧ H b = some (.ins C dy gs) ∧ g a b [x, y] H Q fun _ _ _ => False
theorem op_eqI {n : Nat} {sp : Sp} (M : OwnD X.K C "__eq__" fa) (F : FnR X.prog X.w X.K X.mg X.base CX0 n fa sp) (hr : Room n X.A) : OpR X (compareOp .Eq) (rTwo C fun _ _ => sp) := by
  intro pins s σ H x y v u Q I rx ry h
  obtain ⟨a, b, dx, dy, fs, gs, rfl, rfl, ha, hb, q⟩ := h
  cases (show v = Value.ref a from rx)
  cases (show u = Value.ref b from ry)
  obtain ⟨mA, J, _⟩ := ins_get I.hok ha
  obtain ⟨mB, J', _⟩ := ins_get I.hok hb
  obtain ⟨od, J, _⟩ := J.look
  obtain ⟨od', J', _⟩ := J'.look
  obtain ⟨m, hF⟩ := I.fr
  show wpAny _ _ (richCompare .Eq (.ref a) (.ref b)) _ _ _
  refine PySem.W.cmp_K (op := .Eq) (tb := .ref C) hr.units0 hF I.ok.mod.kin J J'.type (by simp [PySem.W.notFirst]) M.at_ M.fn ?_
  refine wpAny_mono (wpAny_call (run_fnR (us := [.ref a, .ref b]) (vs := [.ref a, .ref b]) F hr pass0 I (.cons rfl (.cons rfl .nil)) q)) (fun w s' z => ?_) fun _ _ x => x
  obtain ⟨z', H', I', rz, qz⟩ := z
  exact SlX.cmpback rz ⟨z', H', I', rz, qz⟩
theorem op_neI {n : Nat} {sp : Sp} (M : OwnE X.K C fa) (F : FnR X.prog X.w X.K X.mg X.base CX0 n fa sp) (hr : Room (n + 2) X.A) :
    OpR X (compareOp .NotEq) (rTwo C fun _ _ vs H Q E => sp vs H (fun z H' => ∃ t, z = .bl t ∧ Q (.bl (!t)) H') E) := by
  intro pins s σ H x y v u Q I rx ry h
  obtain ⟨a, b, dx, dy, fs, gs, rfl, rfl, ha, hb, q⟩ := h
  cases (show v = Value.ref a from rx)
  cases (show u = Value.ref b from ry)
  obtain ⟨mA, J, _⟩ := ins_get I.hok ha
  obtain ⟨mB, J', _⟩ := ins_get I.hok hb
  obtain ⟨od, J, _⟩ := J.look
  obtain ⟨od', J', _⟩ := J'.look
  have hr1 : Room (n + 1) X.A.in1 := Room.in1 hr
  have hr2 : Room n X.A.in1.in1 := Room.in1 hr1
  have kin := I.kIn
  have inner : wpAny (model X.prog X.w) X.A.in1 (Builtin.«object.__ne__» ⟨[.ref a, .ref b], []⟩) (fun fin s' => ∃ t, fin = .done (.ret (.bool (!t))) ∧ EP X pins σ (fun z H' => z = .bl (!t) ∧ Q z H') (.bool (!t)) s') X.xe s := by
    unfold Builtin.«object.__ne__»
    repeat (first
      | with_reducible refine wpAny_cRoomFor hr1.units0 ?_
      | (refine wpAny_bind (m := callSpecialIfBound? (.ref a) (Str.ofString "__eq__") [.ref b])
          (PySem.W.ifBound_K kin J M.eq.at_ M.eq.fn (wpAny_mono (wpAny_call (SlX.run_at (us := [.ref a, .ref b]) (ws := [.ref a, .ref b]) F ((hr1.mono (Nat.le_succ n))) I.env0.in1 pass0 I (.cons rfl (.cons rfl .nil)) q)) (fun r s' z => ?_) fun _ _ e => e)))
      | wp_step)
    obtain ⟨z', H', I', rz, t, ez, qz⟩ := z
    subst ez
    cases (show r = Value.bool t from rz)
    repeat (first | exact wpAny_pure ⟨t, rfl, .bl (!t), H', I', rfl, rfl, qz⟩ | exact ⟨t, rfl, .bl (!t), H', I', rfl, rfl, qz⟩ | exact wpAny_truthy_bool ⟨t, rfl, .bl (!t), H', I', rfl, rfl, qz⟩ | (refine wpAny_bind (m := truthy (.bool _)) (wpAny_truthy_bool ?_)) | wp_step)
  have tr : wpAny (model X.prog X.w) X.A (tryCompare (.ref a) "__ne__" (.ref b)) (fun r s' => ∃ t, r = some (.bool (!t)) ∧ EP X pins σ (fun z H' => z = .bl (!t) ∧ Q z H') (.bool (!t)) s') X.xe s := by
    unfold tryCompare
    refine wpAny_bind (NtL.csib (J.type.andThen (PySem.W.looks_findIn kin M.ne)) (PySem.F.cmp_object.ne.bind _) (wpAny_call (codeAny_call_builtin PySem.F.cmp_object.ne.plain PySem.F.cmpEntry_ne
      (PySem.W.check_slot PySem.F.cmpKind_ne PySem.F.cmpSplit_ne (J.type.andThen (PySem.W.looks_mroIn kin M.ob)) (PySem.F.cmpArgs_ne _ _) (wpAny_mono inner (fun fin s' z => ?_) fun _ _ e => e)))))
    obtain ⟨t, ef, z⟩ := z
    subst ef
    first | exact wpAny_pure ⟨t, rfl, z⟩ | exact wpAny_pure (wpAny_pure ⟨t, rfl, z⟩) | exact ⟨t, rfl, z⟩
  show wpAny _ _ (richCompare .NotEq (.ref a) (.ref b)) _ _ _
  unfold richCompare
  simp only [oneThing_ref]
  refine wpAny_holding ?_
  refine wpAny_bind (wpAny_cRoomFor hr.units0 ?_)
  rw [cmpInfo_NotEq]
  dsimp only
  refine wpAny_bind (J.type.here ?_)
  refine wpAny_bind (J'.type.here ?_)
  rw [show (Value.ref C != Value.ref C) = false from by simp]
  simp only [Bool.false_eq_true, if_false]
  refine wpAny_bind (wpAny_pure ?_)
  simp only [Bool.false_eq_true, if_false]
  refine wpAny_bind (wpAny_mono tr (fun v s' hv => ?_) fun _ _ e => e)
  obtain ⟨t, rfl, z', H', I', rz, ez, qz⟩ := hv
  subst ez
  first | exact ⟨.bl (!t), H', I', rfl, qz⟩ | exact wpAny_pure ⟨.bl (!t), H', I', rfl, qz⟩ | exact wpAny_pure (wpAny_pure ⟨.bl (!t), H', I', rfl, qz⟩)
/-- x == y, x != y: two objects of the class at C -/
def dOwn (C : Addr) (sp : SpD) : R2D := fun x y h Q => insD x h fun C' _ => C' = C ∧ insD y h fun C2 _ => C2 = C ∧ sp [x, y] h Q
def dOwnN (C : Addr) (sp : SpD) : R2D := fun x y h Q => insD x h fun C' _ => C' = C ∧ insD y h fun C2 _ => C2 = C ∧ sp [x, y] h fun z h' => match z with
  | .bl t => Q (.bl (!t)) h'
  | _ => False
theorem od_own (M : OwnE X.K C fa) (F : FnD (kx X) X.mg X.base j fa [] sp) (hr : Room k X.A) (hj : j ≤ k := by decide) : OpD X (compareOp .Eq) (dOwn C sp) :=
  ⟨_, op_eqI M.eq F.raw (hr.mono hj), fun x y d e H h Qd Q rx ry R q w => by
    obtain ⟨a, C', _, _, rfl, t, _, eC, q2⟩ := insD_ok rx R q
    obtain ⟨b, C2, _, _, rfl, t2, _, eC2, q3⟩ := insD_ok ry R q2
    subst eC
    subst eC2
    obtain ⟨dx, fs, e1⟩ := ins_at M.eq.sl t
    obtain ⟨dy, gs, e2⟩ := ins_at M.eq.sl t2
    exact ⟨a, b, dx, dy, fs, gs, rfl, rfl, e1, e2, [d, e], h, Qd, ⟨_, _, rfl, rx, _, _, rfl, ry, rfl⟩, R, q3, w⟩⟩
theorem od_ownN (M : OwnE X.K C fa) (F : FnD (kx X) X.mg X.base j fa [] sp) (hr : Room k X.A) (hj : j + 2 ≤ k := by decide) : OpD X (compareOp .NotEq) (dOwnN C sp) :=
  ⟨_, op_neI M F.raw (hr.mono hj), fun x y d e H h Qd Q rx ry R q w => by
    obtain ⟨a, C', _, _, rfl, t, _, eC, q2⟩ := insD_ok rx R q
    obtain ⟨b, C2, _, _, rfl, t2, _, eC2, q3⟩ := insD_ok ry R q2
    subst eC
    subst eC2
    obtain ⟨dx, fs, e1⟩ := ins_at M.eq.sl t
    obtain ⟨dy, gs, e2⟩ := ins_at M.eq.sl t2
    refine ⟨a, b, dx, dy, fs, gs, rfl, rfl, e1, e2, [d, e], h, _, ⟨_, _, rfl, rx, _, _, rfl, ry, rfl⟩, R, q3, fun v H' z h' fr R' r q' => ?_⟩
    cases z with
    | bl t =>
      cases (show v = V.bl t from r)
      exact ⟨t, rfl, w _ H' (.bl (!t)) h' fr R' rfl q'⟩
    | _ => exact q'.elim⟩
/-! ### len, str by the text's own def -/
theorem call_lenI {n : Nat} {sp : Sp} (M : OwnD X.K C "__len__" fa) (F : FnR X.prog X.w X.K X.mg X.base CX0 n fa sp) (hr : Room (n + 1) X.A) :
    CallR X (.builtin "len") (fun xs H Q => ∃ a dx fs, xs = [.ref a] ∧ H a = some (.ins C dx fs) ∧ sp [.ref a] H (fun z H' => ∃ i, z = .int i ∧ 0 ≤ i ∧ i < 2 ^ 63 ∧ Q (.int i) H') fun _ _ _ => False) := by
  intro pins s σ H xs us Q I r h
  obtain ⟨a, dx, fs, rfl, ha, q⟩ := h
  obtain ⟨u, rfl, ru⟩ := r.one
  cases (show u = Value.ref a from ru)
  obtain ⟨mA, J, _⟩ := ins_get I.hok ha
  obtain ⟨od, J, _⟩ := J.look
  obtain ⟨m, hF⟩ := I.fr
  refine PySem.W.len_K hF I.ok.mod.kin J M.at_ M.fn ?_
  refine wpAny_mono (wpAny_call (SlX.run_at (us := [.ref a]) (ws := [.ref a]) F (Room.in1 hr) I.env0.in1 pass0 I (.cons rfl .nil) q)) (fun w s' z => ?_) fun _ _ x => x
  obtain ⟨z', H', I', rz, i, ez, i0, i1, qz⟩ := z
  subst ez
  obtain ⟨t, e⟩ := (show ∃ t, w = Value.int i t from rz)
  subst e
  exact ⟨⟨i0, i1⟩, .int i, H', I'.tok _, ⟨_, rfl⟩, qz⟩
theorem call_strI {n : Nat} {sp : Sp} (M : OwnD X.K C "__str__" fa) (F : FnR X.prog X.w X.K X.mg X.base CX0 n fa sp) (hr : Room (n + 2) X.A) :
    CallR X (.type "str") (fun xs H Q => ∃ a dx fs, xs = [.ref a] ∧ H a = some (.ins C dx fs) ∧ sp [.ref a] H (fun z H' => ∃ y, z = .str y ∧ Q (.str y) H') fun _ _ _ => False) := by
  intro pins s σ H xs us Q I r h
  obtain ⟨a, dx, fs, rfl, ha, q⟩ := h
  obtain ⟨u, rfl, ru⟩ := r.one
  cases (show u = Value.ref a from ru)
  obtain ⟨mA, J, _⟩ := ins_get I.hok ha
  obtain ⟨od, J, _⟩ := J.look
  have hr2 : Room n X.A.in1.in1 := Room.in1 (show Room (n + 1) X.A.in1 from Room.in1 hr)
  refine PySem.W.kso_call hr2.units0 I.kIn J M.at_ M.fn ?_
  refine wpAny_mono (wpAny_call (SlX.run_at (us := [.ref a]) (ws := [.ref a]) F hr2 I.env0.in1.in1 pass0 I (.cons rfl .nil) q)) (fun w s' z => ?_) fun _ _ x => x
  obtain ⟨z', H', I', rz, y, ez, qz⟩ := z
  subst ez
  obtain ⟨t, e⟩ := (show ∃ t, w = Value.str y t from rz)
  subst e
  exact ⟨.str y, H', I', ⟨t, rfl⟩, qz⟩
def dLenO (C : Addr) (sp : SpD) : RcD := fun ds h Q => match ds with
  | [d] => insD d h fun C' _ => C' = C ∧ sp [d] h fun z h' => match z with
    | .int i => 0 ≤ i ∧ i < 2 ^ 63 ∧ Q (.int i) h'
    | _ => False
  | _ => False
theorem ca_lenO (M : OwnD X.K C "__len__" fa) (F : FnD (kx X) X.mg X.base j fa [] sp) (hr : Room k X.A) (hj : j + 1 ≤ k := by decide) : CaD X (.builtin "len") (dLenO C sp) :=
  ⟨_, call_lenI M F.raw (hr.mono hj), fun vs ds H h Qd Q r R q w => by
    match ds, q with
    | [d], q =>
      obtain ⟨v, _, rfl, rd, rfl⟩ := r
      have q : insD d h fun C' _ => C' = C ∧ sp [d] h fun z h' => match z with
        | .int i => 0 ≤ i ∧ i < 2 ^ 63 ∧ Qd (.int i) h'
        | _ => False := q
      obtain ⟨a, C', _, _, rfl, t, _, eC, q2⟩ := insD_ok rd R q
      subst eC
      obtain ⟨dx, fs, e1⟩ := ins_at M.sl t
      refine ⟨a, dx, fs, rfl, e1, [d], h, _, ⟨_, _, rfl, rd, rfl⟩, R, q2, fun v H' z h' fr R' r q' => ?_⟩
      cases z with
      | int i =>
        cases (show v = V.int i from r)
        exact ⟨i, rfl, q'.1, q'.2.1, w _ H' (.int i) h' fr R' rfl q'.2.2⟩
      | _ => exact q'.elim⟩
def dStrO (C : Addr) (sp : SpD) : RcD := fun ds h Q => match ds with
  | [d] => insD d h fun C' _ => C' = C ∧ sp [d] h fun z h' => match z with
    | .str y => Q (.str y) h'
    | _ => False
  | _ => False
theorem ca_strO (M : OwnD X.K C "__str__" fa) (F : FnD (kx X) X.mg X.base j fa [] sp) (hr : Room k X.A) (hj : j + 2 ≤ k := by decide) : CaD X (.type "str") (dStrO C sp) :=
  ⟨_, call_strI M F.raw (hr.mono hj), fun vs ds H h Qd Q r R q w => by
    match ds, q with
    | [d], q =>
      obtain ⟨v, _, rfl, rd, rfl⟩ := r
      have q : insD d h fun C' _ => C' = C ∧ sp [d] h fun z h' => match z with
        | .str y => Qd (.str y) h'
        | _ => False := q
      obtain ⟨a, C', _, _, rfl, t, _, eC, q2⟩ := insD_ok rd R q
      subst eC
      obtain ⟨dx, fs, e1⟩ := ins_at M.sl t
      refine ⟨a, dx, fs, rfl, e1, [d], h, _, ⟨_, _, rfl, rd, rfl⟩, R, q2, fun v H' z h' fr R' r q' => ?_⟩
      cases z with
      | str y =>
        cases (show v = V.str y from r)
        exact ⟨y, rfl, w _ H' (.str y) h' fr R' rfl q'⟩
      | _ => exact q'.elim⟩
/-- str(i) -/
def dStrI : RcD := fun ds h Q => match ds with
  | [.int i] => i.natAbs.log2 < 1920 ∧ Q (.str (toString i)) h
  | _ => False
theorem ca_strI : CaD X (.type "str") dStrI := ⟨_, call_str_int, fun vs ds H h Qd Q r R q w => by
  match ds, q with
  | [.int i], q =>
    obtain ⟨v, _, rfl, rd, rfl⟩ := r
    cases (show v = V.int i from rd)
    exact ⟨i, rfl, q.1, w _ H (.str (toString i)) h Fr.refl R rfl q.2⟩⟩
/-! ### f-strings -/
def rFmt (te : TED) : TED := fun sd h Q => te sd h fun d h1 => match d with
  | .str y => y.length ≤ sizeLine ∧ Q (.str y) h1
  | .int i => i.natAbs.log2 < 1920 ∧ Q (.str (toString i)) h1
  | _ => False
theorem ed_fmt (he : ED X e te) : ED X (.FormattedValue e (-1) none pos) (rFmt te) := by
  obtain ⟨t, p, f⟩ := he.ex
  refine ⟨_, pe_fmt p, fun σ H sd h Qd Q rs R q w => ?_⟩
  refine f σ H sd h _ _ rs R q fun v H1 d h1 fr1 R1 r1 q1 => ?_
  cases d with
  | str y =>
    cases (show v = V.str y from r1)
    exact .inl ⟨y, rfl, q1.1, w _ H1 (.str y) h1 fr1 R1 rfl q1.2⟩
  | int i =>
    cases (show v = V.int i from r1)
    exact .inr ⟨i, rfl, q1.1, w _ H1 (.str (toString i)) h1 fr1 R1 rfl q1.2⟩
  | _ => exact q1.elim
inductive PJD (X : Cx) : List Expr → List TED → Prop where
  | nil : PJD X [] []
  | cons {e : Expr} {t : TED} {es : List Expr} {ts : List TED} (h : ED X e t) (r : PJD X es ts) : PJD X (e :: es) (t :: ts)
def rJs : List TED → Str → SD → DH → (Str → DH → Prop) → Prop
  | [], acc, _, h, Q => Q acc h
  | t :: ts, acc, sd, h, Q => t sd h fun d h1 => match d with
    | .str y => (acc ++ y).length ≤ sizeLine ∧ rJs ts (acc ++ y) sd h1 Q
    | _ => False
theorem PJD.ex {es : List Expr} {tds : List TED} (q : PJD X es tds) : ∃ ts, PJ X es ts ∧ ∀ acc σ H sd h (Qd : Str → DH → Prop) (Q : Str → Hp → Prop), RepS (kx X) h H sd σ → RH (kx X) h H → rJs tds acc sd h Qd → (∀ y H' h', Fr h H h' H' → RH (kx X) h' H' → Qd y h' → Q y H') → tJs ts acc σ H Q := by
  induction q with
  | nil => exact ⟨[], .nil, fun acc σ H sd h Qd Q rs R q w => w acc H h Fr.refl R q⟩
  | @cons e td es tds he _ ih =>
    obtain ⟨t, p, f⟩ := he.ex
    obtain ⟨ts, pj, g⟩ := ih
    refine ⟨t :: ts, .cons p pj, fun acc σ H sd h Qd Q rs R q w => ?_⟩
    refine f σ H sd h _ _ rs R q fun v H1 d h1 fr1 R1 r1 q1 => ?_
    cases d with
    | str y =>
      cases (show v = V.str y from r1)
      exact ⟨y, rfl, q1.1, g _ σ H1 sd h1 Qd Q (rs.fr fr1) R1 q1.2 fun y' H' h' fr R' q' => w y' H' h' (fr1.trans fr) R' q'⟩
    | _ => exact q1.elim
def rJoin (ts : List TED) : TED := fun sd h Q => rJs ts Str.empty sd h fun out h1 => Q (.str out) h1
theorem ed_join {v1 v2 : Expr} {rest : List Expr} {ts : List TED} (q : PJD X (v1 :: v2 :: rest) ts) : ED X (.JoinedStr (v1 :: v2 :: rest) pos) (rJoin ts) := by
  obtain ⟨us, pj, g⟩ := q.ex
  exact ⟨_, pe_joined pj, fun σ H sd h Qd Q rs R q w => g _ σ H sd h _ _ rs R q fun y H' h' fr R' q' => w _ H' (.str y) h' fr R' rfl q'⟩
/-! ### a field as one of several targets -/
def putsF (K : PySem.W.Frag) (f : Str) (y x : V) (H2 : Hp) (Q : Hp → Prop) : Prop := (∃ a C dx fs, x = .ref a ∧ H2 a = some (.ins C dx fs) ∧ Cls K C ∧ NoAttr K C f ∧ fs.length < 1000 ∧ Q (upd H2 a (.ins C dx (putF f y fs)))) ∨
  (∃ a C dx vs p i, x = .ref a ∧ L2.SCls K C ∧ L2.Slt K C f i p ∧ SlAt H2 a C dx vs ∧ Q (upd H2 a (L2.SlO C dx a (L2.putS i y vs))))
def gFA (K : PySem.W.Frag) (f : Str) (to : TE) : TG := fun y σ H Q => to σ H fun x H2 => putsF K f y x H2 (Q σ)
theorem pg_fA {to : TE} (ha : PE X o to)
    (hs : ∀ v, assign (.Attribute o f pos') X.env v = (do
      let ov ← holding [v] (eval o X.env)
      standAt pos'.atName
      holding [v, ov] (setAttr ov f v)
      release [v, ov] [])) : PG X (.Attribute o f pos') (gFA X.K f to) := by
  refine ⟨fun pins s σ H v u Q I ru h => ?_⟩
  rw [hs]
  refine wpAny_bind (wpAny_holding (thn (ha.run pins s σ H _ I h) fun ov s2 ⟨x, H2, I2, rx, q2⟩ => ?_))
  refine wpAny_bind (wpAny_standAt (wpAny_bind (wpAny_holding ?_)))
  rcases q2 with ⟨a, C, dx, fs, ex, ea, c, n, l, q2⟩ | ⟨a, C, dx, vs, p, i, ex, c, k, ea, q2⟩
  · subst ex
    obtain rfl : ov = Value.ref a := rx
    exact setattr_ok I2 ea c n l ru fun s3 I3 => wpAny_release ⟨σ, _, I3, q2⟩
  · subst ex
    obtain rfl : ov = Value.ref a := rx
    exact setslot_ok I2 ea c k ru fun s3 I3 => wpAny_release ⟨σ, _, I3, q2⟩
theorem setF_core {Cs : List (Addr × Nat)} (hC : ∀ q ∈ Cs, Fld X.K f q.1 q.2) {d z : D} {x v : V} {h2 : DH} {H2 : Hp} {Qd : DH → Prop} {Q : Hp → Prop} (R2 : RH (kx X) h2 H2) (r2 : Rep (kx X) h2 H2 d x) (r1 : Rep (kx X) h2 H2 z v)
    (q2 : match d with
      | .ref p => ∃ C vs i, h2 p = some (.ins C vs) ∧ (C, i) ∈ Cs ∧ i ≤ vs.length ∧ Qd (up h2 p (.ins C (setV vs i z)))
      | _ => False) (w : ∀ H' h', Fr h2 H2 h' H' → RH (kx X) h' H' → Qd h' → Q H') : putsF X.K f v x H2 Q := by
  cases d with
  | ref p =>
    · · obtain ⟨C, ds, i, e, hm, hi, q2⟩ := q2
        obtain ⟨_, vs, t, r⟩ := R2 p _ e
        have fl := hC _ hm
        have hx : x = V.ref p := r2
        have hi' : i ≤ vs.length := by rw [← r.length]; exact hi
        have t0 := t
        unfold InsAt at t
        rcases fl with ⟨s, c, n, hf, nd, hl⟩ | ⟨s, c, pd, jp, k, hj, ndp⟩
        · have s' : ¬ FldTab.sl (kx X).K C = true := by show ¬ FldTab.sl X.K C = true; rw [s]; exact Bool.false_ne_true
          rw [if_neg s'] at t
          obtain ⟨dx, t, tl⟩ := t
          have hlz : ((FldTab.F X.K C).zip vs).length < 1000 := Nat.lt_of_le_of_lt (by rw [List.length_zip]; exact Nat.min_le_left _ _) hl
          refine .inl ⟨p, C, dx, _, hx, t, c, n, hlz, ?_⟩
          have ep : putF f v ((FldTab.F X.K C).zip vs) = (FldTab.F X.K C).zip (setV vs i v) := by
            unfold setV
            by_cases hlt : i < vs.length
            · rw [if_pos hlt, putF_set nd hf hlt]
            · have e : i = vs.length := by omega
              subst e
              rw [if_neg hlt, putF_app nd hf]
          rw [ep]
          have hlF : i < (FldTab.F X.K C).length := (List.getElem?_eq_some_iff.mp hf).1
          have rep : RepO (kx X) (up h2 p (.ins C (setV ds i z))) (upd H2 p (.ins C dx ((FldTab.F X.K C).zip (setV vs i v)))) p (.ins C (setV ds i z)) := by
            refine ⟨setV vs i v, ?_, RepL.fr (Fr.write e) _ _ (r.setV r1 i)⟩
            unfold InsAt
            rw [if_neg s']
            refine ⟨dx, upd_same, ?_⟩
            unfold setV
            have tl' : vs.length ≤ (FldTab.F X.K C).length := tl
            split
            · rw [List.length_set]; exact tl'
            · rw [List.length_append]; show vs.length + 1 ≤ (FldTab.F X.K C).length; omega
          exact w _ _ (Fr.write e) (RH.write e R2 rep) q2
        · have s' : FldTab.sl (kx X).K C = true := s
          rw [if_pos s'] at t
          obtain ⟨dx, us, nx, t, tv⟩ := t
          refine .inr ⟨p, C, dx, us, pd, jp, hx, c, k, t, ?_⟩
          have ndx : dx ≠ p := t.2.1
          have rep : RepO (kx X) (up h2 p (.ins C (setV ds i z))) (upd H2 p (L2.SlO C dx p (L2.putS jp v us))) p (.ins C (setV ds i z)) := by
            refine ⟨setV vs i v, ?_, RepL.fr (Fr.write e) _ _ (r.setV r1 i)⟩
            unfold InsAt
            rw [if_pos s']
            exact ⟨dx, _, by rw [up_ne ndx]; exact nx, t.here, slots_set hi' hj ndp tv⟩
          exact w _ _ (Fr.write e) (RH.write e R2 rep) q2
  | _ => exact q2.elim
def rgFld (Cs : List (Addr × Nat)) (to : TED) : TGD := fun z sd h Q => to sd h fun d h2 => match d with
  | .ref p => ∃ C vs i, h2 p = some (.ins C vs) ∧ (C, i) ∈ Cs ∧ i ≤ vs.length ∧ Q sd (up h2 p (.ins C (setV vs i z)))
  | _ => False
theorem gd_fld {Cs : List (Addr × Nat)} (hC : ∀ q ∈ Cs, Fld X.K f q.1 q.2) (ha : ED X o tA)
    (hs : ∀ v, assign (.Attribute o f pos') X.env v = (do
      let ov ← holding [v] (eval o X.env)
      standAt pos'.atName
      holding [v, ov] (setAttr ov f v)
      release [v, ov] []) := by intro _; rfl) : GD X (.Attribute o f pos') (rgFld Cs tA) := by
  obtain ⟨t, p, F⟩ := ha.ex
  refine ⟨_, pg_fA p hs, fun v z σ H sd h Qd Q r rs R q w => ?_⟩
  refine F σ H sd h _ _ rs R q fun x H2 d h2 fr2 R2 r2 q2 => ?_
  refine setF_core (Qd := fun h' => Qd sd h') hC R2 r2 (Rep.fr fr2 _ _ r) ?_ fun H' h' fr R' q' => w σ H' sd h' (fr2.trans fr) R' (rs.fr (fr2.trans fr)) q'
  cases d with
  | ref p => exact q2
  | _ => exact q2.elim
end
end DL
set_option Elab.async false
set_option linter.all false
set_option maxRecDepth 100000
set_option maxHeartbeats 1000000
namespace DL
open PySem PySem.Spec PyProof.Rows L2
/-! ### the getter behind a property -/
theorem gt_fun {K : PySem.W.Frag} {d : He.DefD} (e : gtW K d = d.val) (c : gtOk K d = true) : ∃ fd, FunD K d.name d.qual d.params d.body d.scope [] [] (gtAt K d) fd := by
  obtain ⟨kp, c2⟩ := Bool.and_eq_true_iff.mp c
  unfold gtW at e
  cases q : K.lookup (gtAt K d) with
  | none =>
    rw [q] at c2
    cases c2
  | some o =>
    obtain ⟨oc, od, dt, osl⟩ := o
    rw [q] at c2 e
    cases dt with
    | func fd =>
      obtain ⟨n1, n2, n3, n4, n5, n6, n7, n8, n9, n10, n11, n12, n13, n14, n15⟩ := fd
      have e2 : (some (n1, n2, n3, n4, n5, n6, n7, n15) : He.FnW) = some (d.name, d.qual, d.params, .stmts d.body, d.scope, mainGlobals, [], builtinsNs) := e
      simp only [Option.some.injEq, Prod.mk.injEq] at e2
      obtain ⟨h1, h2, h3, h4, h5, h6, h7, h8⟩ := e2
      subst h1 h2 h3 h4 h5 h6 h7 h8
      have c3 : (PySem.W.codeIn K n13 d.qual && (He.dflB K n8 [] && He.kwdB K n9 [])) = true := c2
      obtain ⟨k1, k2⟩ := Bool.and_eq_true_iff.mp c3
      obtain ⟨k3, k4⟩ := Bool.and_eq_true_iff.mp k2
      exact ⟨_, ⟨oc, od, n8, n9, n10, n11, n12, n13, n14, osl, rfl, q, k1, He.dflB_ok k3, He.kwdB_ok k4⟩, kp⟩
    | _ => cases c2
/-- all getters: what the head tells -/
structure Gts (K : PySem.W.Frag) (gn : List He.DefD) : Prop where
  w : gn.map (gtW K) = gn.map He.DefD.val
  o : (gn.all fun d => gtOk K d) = true
theorem Gts.def_ {K : PySem.W.Frag} {gn : List He.DefD} (c : Gts K gn) (i : Nat) {d : He.DefD} (h : gn[i]? = some d := by rfl) : ∃ fd, FunD K d.name d.qual d.params d.body d.scope [] [] (gtAt K d) fd := by
  have e2 : (gn.map (gtW K))[i]? = (gn.map He.DefD.val)[i]? := by rw [c.w]
  rw [List.getElem?_map, List.getElem?_map, h] at e2
  exact gt_fun (Option.some.inj e2) (List.all_eq_true.mp c.o d (List.mem_of_getElem? h))
/-! ### more facts -/
variable [FldTab]
section
variable {K : PySem.W.Frag}
theorem Fy.prop_ok {cn m : Str} (c : (Fy.prop cn m).ok K = true) : PropD K (He.ga K cn) m (gtAd K (He.ga K cn) m) := by
  simp only [Fy.ok] at c
  obtain ⟨c0, c⟩ := ba' c; obtain ⟨c1, c⟩ := ba' c; obtain ⟨c2, c⟩ := ba' c; obtain ⟨c3, c⟩ := ba' c; obtain ⟨c4, c⟩ := ba' c
  split at c
  · rename_i p e
    obtain ⟨d1, c⟩ := ba' c; obtain ⟨d2, c⟩ := ba' c
    split at c
    · rename_i g rest e2
      have eg : gtAd K (He.ga K cn) m = g := by
        unfold gtAd
        rw [e]
        show (match PySem.W.recIn K p "property" with
          | some (.ref g :: _) => g
          | _ => 0) = g
        rw [e2]
      exact ⟨⟨c1, c2, c3, of_decide_eq_true c4⟩, ⟨p, ⟨e, of_decide_eq_true d1, of_decide_eq_true d2, rest, by rw [eg]; exact e2⟩⟩, slF c0⟩
    · cases c
  · cases c
theorem Fy.own_ok {cn m : Str} (c : (Fy.own cn m).ok K = true) : OwnD K (He.ga K cn) m (He.ma K (He.ga K cn) m) := by
  simp only [Fy.ok] at c
  obtain ⟨c0, c⟩ := ba' c; obtain ⟨c1, c2⟩ := ba' c
  exact ⟨of_decide_eq_true c1, c2, slF c0⟩
theorem Fy.owe_ok {cn : Str} (c : (Fy.owe cn).ok K = true) : OwnE K (He.ga K cn) (He.ma K (He.ga K cn) "__eq__") := by
  simp only [Fy.ok] at c
  obtain ⟨c0, c⟩ := ba' c; obtain ⟨c1, c⟩ := ba' c; obtain ⟨c2, c⟩ := ba' c; obtain ⟨c3, c4⟩ := ba' c
  exact ⟨⟨of_decide_eq_true c1, c2, slF c0⟩, of_decide_eq_true c3, of_decide_eq_true c4⟩
theorem fy_at {fy : List Fy} (e : (fy.all fun f => f.ok K) = true) (i : Nat) {f : Fy} (h : fy[i]? = some f := by rfl) : f.ok K = true := List.all_eq_true.mp e f (List.mem_of_getElem? h)
end
end DL
set_option Elab.async false
set_option linter.all false
set_option maxRecDepth 100000
set_option maxHeartbeats 1000000
/-! == of nested trees with dicts in them -/
namespace DL
open PySem PySem.Spec PyProof.Rows L2 PySem.SeqAt
section
variable {prog : Program} {w : World} {A : Around} {E : Value → Shared → Prop} {s : Shared}
/-- the pairs of two dicts, where each key of the one is found in the other -/
theorem same_len {nm : String} {a b : Addr} {oa ob : Obj} {es es' : Array DictEntry} {ep ep' : Nat} {Q : Bool → Shared → Prop} (ha : (a == sysModules) = false) (hb : (b == sysModules) = false)
    (hoa : s.heap.get? a = some oa) (hda : oa.data = .dict es ep) (hob : s.heap.get? b = some ob) (hdb : ob.data = .dict es' ep') (hsz : es.size ≠ es'.size) (h : Q false s) :
    wpAny (model prog w) A (Builtin.Dict.samePairs nm a b) Q E s := by
  unfold Builtin.Dict.samePairs Builtin.Dict.showsAll
  rw [if_neg (show ¬ (a == sysModules) = true by rw [ha]; exact Bool.false_ne_true), if_neg (show ¬ (b == sysModules) = true by rw [hb]; exact Bool.false_ne_true)]
  refine wpAny_bind (wpAny_pure (wpAny_bind (wpAny_pure ?_)))
  refine wpAny_bind (wpAny_dictEntries hoa hda ?_)
  dsimp only
  refine wpAny_bind (wpAny_dictEntries hob hdb ?_)
  rw [if_pos (by simpa using hsz)]
  exact wpAny_bind (wpAny_rule (wpAny_pure h))
theorem same_all {nm : String} {a b : Addr} {oa ob : Obj} {es es' : Array DictEntry} {ep ep' : Nat} {Q : Bool → Shared → Prop} (ha : (a == sysModules) = false) (hb : (b == sysModules) = false)
    (hoa : s.heap.get? a = some oa) (hda : oa.data = .dict es ep) (hob : s.heap.get? b = some ob) (hdb : ob.data = .dict es' ep') (hsz : es.size = es'.size)
    (ent : ∀ (i : Nat) (hi : i < es.size), ∃ (j : Nat) (hj : j < es'.size), (∀ (E : Value → Shared → Prop) (Q : Option Nat → Shared → Prop), Q (some j) s → wpAny (model prog w) A (dictFind b es[i].key es[i].hash) Q E s) ∧ EqIn prog w A s es[i].val es'[j].val true)
    (h : Q true s) : wpAny (model prog w) A (Builtin.Dict.samePairs nm a b) Q E s := by
  unfold Builtin.Dict.samePairs Builtin.Dict.showsAll
  rw [if_neg (show ¬ (a == sysModules) = true by rw [ha]; exact Bool.false_ne_true), if_neg (show ¬ (b == sysModules) = true by rw [hb]; exact Bool.false_ne_true)]
  refine wpAny_bind (wpAny_pure (wpAny_bind (wpAny_pure ?_)))
  refine wpAny_bind (wpAny_dictEntries hoa hda ?_)
  dsimp only
  refine wpAny_bind (wpAny_dictEntries hob hdb ?_)
  rw [if_neg (by rw [hsz]; simp)]
  refine wpAny_bind (wpAny_dictEpoch hoa hda ?_)
  refine wpAny_bind ?_
  rw [Std.Legacy.Range.forIn_eq_forIn_range']
  simp only [Std.Legacy.Range.size, Nat.sub_zero, Nat.add_sub_cancel, Nat.div_one]
  refine wpAny_forIn_list _ (fun rest q s' => s' = s ∧ q = (none, ()) ∧ ∃ i, rest = List.range' i (es.size - i) ∧ i ≤ es.size) _ ?_ ?_ _ _ ⟨rfl, rfl, 0, by simp, Nat.zero_le _⟩
  · rintro x rest q s' ⟨rfl, rfl, i, hr, hi⟩
    have hlt : i < es.size := by
      rcases Nat.lt_or_ge i es.size with h | h
      · exact h
      · rw [Nat.sub_eq_zero_of_le h] at hr; simp at hr
    obtain ⟨rfl, hrest⟩ : x = i ∧ rest = List.range' (i + 1) (es.size - (i + 1)) := by
      have e : es.size - i = (es.size - (i + 1)) + 1 := by omega
      rw [e, List.range'_succ] at hr
      injection hr with h1 h2
      exact ⟨h1, h2⟩
    obtain ⟨j, hj, fnd, he⟩ := ent x hlt
    refine wpAny_bind (wpAny_dictEntries hoa hda ?_)
    rw [Array.getElem?_eq_getElem hlt]
    show wpAny _ _ (holding [es[x].key, es[x].val] _ >>= _) _ _ _
    refine wpAny_bind (wpAny_holding (wpAny_bind (fnd _ _ ?_)))
    refine wpAny_bind (wpAny_dictEntries hob hdb ?_)
    rw [Array.getElem?_eq_getElem hj]
    refine wpAny_holding (he _ _ ?_)
    show wpAny _ _ (if (!true) = true then _ else _) _ _ _
    rw [if_neg (by decide)]
    refine wpAny_bind (wpAny_dictEpoch hoa hda ?_)
    rw [if_neg (by simp)]
    exact wpAny_pure ⟨rfl, rfl, x + 1, hrest, hlt⟩
  · rintro q s' ⟨rfl, rfl, i, hr, hi⟩
    exact wpAny_pure h
/-- == of two dicts, from what their pairs say -/
theorem dict_rc {a b : Addr} {r : Bool} {Q : Value → Shared → Prop} (ta : s.TypeIs (.ref a) "dict") (tb : s.TypeIs (.ref b) "dict") (hu : A.units < cLine)
    (sp : ∀ (E : Value → Shared → Prop) (Q : Bool → Shared → Prop), Q r s → wpAny (model prog w) A.in1 (Builtin.Dict.samePairs "dict.__eq__" a b) Q E s) (h : Q (.bool r) s) :
    wpAny (model prog w) A (richCompare .Eq (.ref a) (.ref b)) Q E s := by
  refine wpAny_richCompare_same_room (op := .Eq) ta tb PySem.F.slot_dict_eq (wpAny_call_entry PySem.F.slot_dict_eq ta PySem.F.entry_dict_eq ?_ (PySem.F.args_dict_eq_2 _ _)) hu
  show wpAny _ _ (Builtin.Dict.dictSlotArgs "__eq__" ⟨[.ref a, .ref b], []⟩ >>= _) _ _ s
  refine wpAny_bind ?_
  unfold Builtin.Dict.dictSlotArgs
  refine wpAny_bind (wpAny_notOrdered_dict ta ?_)
  show wpAny _ _ (pure (Value.ref a, Value.ref b)) _ _ s
  refine wpAny_pure ?_
  refine wpAny_bind (wpAny_isInstance (T := "dict") tb PySem.F.sub_dict_dict ?_)
  simp only [Bool.not_true, Bool.false_eq_true, if_false]
  refine wpAny_bind (wpAny_pure (wpAny_bind (wpAny_pure ?_)))
  refine wpAny_bind (sp _ _ ?_)
  refine wpAny_pure ⟨_, rfl, ?_, ?_⟩
  · exact fun x => nomatch x
  · simpa using h
end
variable [FldTab]
/-- x == y answers b: trees at most n deep; dicts of one length must be equal -/
def EqT : Nat → D → D → Bool → Prop
  | 0, x, y, b => flatD x = true ∧ flatD y = true ∧ b = deq x y
  | n + 1, x, y, b => (flatD x = true ∧ flatD y = true ∧ b = deq x y) ∨ (match x, y with
    | .tup xs, .tup ys => ∃ e : Nat → Bool, (∀ i u v, xs[i]? = some u → ys[i]? = some v → EqT n u v (e i)) ∧ b = ((List.range (min xs.length ys.length)).all e && xs.length == ys.length)
    | .lv xs, .lv ys => xs.length = ys.length ∧ ∃ e : Nat → Bool, (∀ i u v, xs[i]? = some u → ys[i]? = some v → EqT n u v (e i)) ∧ b = (List.range xs.length).all e
    | .dv ks vs, .dv ks' vs' => (ks.length ≠ ks'.length ∧ b = false) ∨ (ks.length = ks'.length ∧ b = true ∧ ∀ (i : Nat) k v, ks[i]? = some k → vs[i]? = some v → keyOk ks' k = true ∧ ∃ v', lookA ks' vs' k = some v' ∧ EqT n v v' true)
    | _, _ => False)
section
variable {X : Cx} {pins : List (Addr × Obj)} {σ : L2.St} {H : Hp} {s : Shared} {h : DH}
theorem ent_at {w : World} : ∀ {ks : List D} {us vs : List V} {es : List DictEntry} {i : Nat} {e : DictEntry}, EntL w ks us vs es → es[i]? = some e → ∃ k u v, ks[i]? = some k ∧ us[i]? = some u ∧ vs[i]? = some v ∧ e.hash = (nk k).hash w ∧ RelV u e.key ∧ RelV v e.val
  | [], _, _, _, i, e, ⟨_, _, rfl⟩, q => by simp at q
  | k :: ks, _, _, _, 0, e, ⟨u, ur, v, vr, e', er, rfl, rfl, rfl, h1, h2, h3, _⟩, q => by cases (Option.some.inj q); exact ⟨k, u, v, rfl, rfl, rfl, h1, h2, h3⟩
  | k :: ks, _, _, _, i + 1, e, ⟨u, ur, v, vr, e', er, rfl, rfl, rfl, _, _, _, t⟩, q => ent_at (i := i) t (by simpa using q)
theorem dic_type (I : Inv X pins σ H s) {a : Addr} {ks : List D} {us vs : List V} (q : DicAt (kx X) H a ks us vs) : s.TypeIs (.ref a) "dict" := by
  obtain ⟨_, o, e, r⟩ := q
  exact ⟨o, (I.hok a _ e).1, r.cls.1⟩
theorem eqV_self {x : V} (f : flatV x = true) : eqV x x = true := by
  cases x with
  | non => rfl
  | bl b => simp [eqV]
  | int b => simp [eqV]
  | str b => simp [eqV]
  | _ => cases f
theorem RepL.at {Z : Kx} {h : DH} {H : Hp} {ds : List D} {vs : List V} {i : Nat} {v : V} (r : RepL Z h H ds vs) (e : vs[i]? = some v) : ∃ d, ds[i]? = some d ∧ Rep Z h H d v := by
  have hl := (List.getElem?_eq_some_iff.mp e).1
  rw [← r.length] at hl
  obtain ⟨v', e', q⟩ := r.get (List.getElem?_eq_getElem hl)
  rw [e] at e'
  cases e'
  exact ⟨_, List.getElem?_eq_getElem hl, q⟩
theorem eqT_self (I : Inv X pins σ H s) : ∀ (n : Nat) (x y : D) (b : Bool) (v : V), EqT n x y b → Rep (kx X) h H x v → Rep (kx X) h H y v → b = true := by
  have flt : ∀ (x y : D) (b : Bool) (v : V), (flatD x = true ∧ flatD y = true ∧ b = deq x y) → Rep (kx X) h H x v → Rep (kx X) h H y v → b = true := by
    rintro x y b v ⟨f1, f2, rfl⟩ r1 r2
    rw [← eqV_of r1 r2 f1 f2]
    exact eqV_self (flat_of r1 f1)
  intro n
  induction n with
  | zero => exact flt
  | succ n ih =>
    intro x y b v q r1 r2
    rcases q with q | q
    · exact flt x y b v q r1 r2
    · cases x with
      | tup xs =>
        cases y with
        | tup ys =>
          obtain ⟨e, he, rfl⟩ := q
          obtain ⟨a, vs, rfl, t1, l1⟩ := r1
          obtain ⟨a', vs', ea, t2, l2⟩ := r2
          cases ea
          have ev := I.tuple_inj t1.sq t2.sq
          subst ev
          have len : xs.length = ys.length := l1.length.trans l2.length.symm
          rw [len, Nat.min_self, Bool.and_eq_true]
          refine ⟨List.all_eq_true.mpr fun i hi => ?_, by simp⟩
          have hi := List.mem_range.mp hi
          obtain ⟨w, e1, q1⟩ := l2.get (List.getElem?_eq_getElem hi)
          obtain ⟨d, e2, q2⟩ := l1.at e1
          exact ih _ _ _ w (he i _ _ e2 (List.getElem?_eq_getElem hi)) q2 q1
        | _ => exact q.elim
      | lv xs =>
        cases y with
        | lv ys =>
          obtain ⟨len, e, he, rfl⟩ := q
          obtain ⟨a, vs, rfl, t1, l1⟩ := r1
          obtain ⟨a', vs', ea, t2, l2⟩ := r2
          cases ea
          have ev : vs = vs' := by
            have z := t1.2.symm.trans t2.2
            injection z with z
            injection z
          subst ev
          refine List.all_eq_true.mpr fun i hi => ?_
          have hi := List.mem_range.mp hi
          rw [len] at hi
          obtain ⟨w, e1, q1⟩ := l2.get (List.getElem?_eq_getElem hi)
          obtain ⟨d, e2, q2⟩ := l1.at e1
          exact ih _ _ _ w (he i _ _ e2 (List.getElem?_eq_getElem hi)) q2 q1
        | _ => exact q.elim
      | dv ks ds =>
        cases y with
        | dv ks' ds' =>
          rcases q with ⟨ne, rfl⟩ | ⟨_, rfl, _⟩
          · exfalso
            obtain ⟨a, us, vs, rfl, _, t1, _, _⟩ := r1
            obtain ⟨a', us', vs', ea, _, t2, _, _⟩ := r2
            cases ea
            obtain ⟨_, o, e1, d1⟩ := t1
            obtain ⟨_, o', e2, d2⟩ := t2
            have h1 := (I.hok _ _ e1).1
            have h2 := (I.hok _ _ e2).1
            have eo := Option.some.inj (h1.symm.trans h2)
            subst eo
            obtain ⟨es, ep, ed, en⟩ := d1.ent
            obtain ⟨es', ep', ed', en'⟩ := d2.ent
            rw [ed] at ed'
            injection ed' with ee _
            subst ee
            exact ne (en.lens.2.2.symm.trans en'.lens.2.2)
          · rfl
        | _ => exact q.elim
      | _ => cases y <;> exact q.elim
theorem ixK_hit : ∀ {ks : List D} {k : D} {i : Nat}, ixK ks k = some i → ∃ z, ks[i]? = some z ∧ nk z = nk k
  | [], _, _, e => by cases e
  | z :: zs, k, i, e => by
    unfold ixK at e
    split at e
    · rename_i q
      cases e
      exact ⟨z, rfl, q⟩
    · obtain ⟨j, hj, rfl⟩ := Option.map_eq_some_iff.mp e
      exact ixK_hit (ks := zs) hj
theorem K_idx : ∀ {ks : List D} {kvs : List (Key × Value)} {k : D}, kvs.map (·.1) = ks.map toKey → ks.all isSk = true → isSk k = true → (kvs.findIdx? fun kv => decide (kv.1 = toKey k)) = ixK ks k
  | [], kvs, k, h1, _, _ => by
    have e : kvs = [] := by simpa using h1
    subst e; rfl
  | z :: ks, kvs, k, h1, hk, hs => by
    rw [List.all_cons, Bool.and_eq_true] at hk
    cases kvs with
    | nil => simp at h1
    | cons kv kvs =>
      rw [List.map_cons, List.map_cons] at h1
      injection h1 with h1 h1'
      have ih := K_idx (k := k) h1' hk.2 hs
      have e1 : kv.1 = toKey z := h1
      rw [List.findIdx?_cons, ixK_cons, ih]
      by_cases q : nk z = nk k
      · rw [if_pos q, decide_eq_true (show kv.1 = toKey k by rw [e1]; exact (toKey_inj hk.1 hs).mpr q)]; rfl
      · rw [if_neg q, decide_eq_false (show ¬ kv.1 = toKey k by rw [e1]; exact fun y => q ((toKey_inj hk.1 hs).mp y))]
        rfl
theorem nd_at {α : Type} : ∀ {ps : List α} {i j : Nat} {a : α} (_ : ps.Nodup), ps[i]? = some a → ps[j]? = some a → i = j
  | [], _, _, _, _, e, _ => by simp at e
  | p :: ps, 0, 0, _, _, _, _ => rfl
  | p :: ps, 0, j + 1, a, nd, e1, e2 => by
    have e1 : p = a := Option.some.inj e1
    subst e1
    exact absurd (List.mem_of_getElem? (show ps[j]? = some p from e2)) (List.nodup_cons.mp nd).1
  | p :: ps, i + 1, 0, a, nd, e1, e2 => by
    have e2 : p = a := Option.some.inj e2
    subst e2
    exact absurd (List.mem_of_getElem? (show ps[i]? = some p from e1)) (List.nodup_cons.mp nd).1
  | p :: ps, i + 1, j + 1, a, nd, e1, e2 => by
    rw [nd_at (List.nodup_cons.mp nd).2 (show ps[i]? = some a from e1) (show ps[j]? = some a from e2)]
/-- a key of one dict is looked up in another -/
theorem find_at {A : Around} (hu : A.units + 16 < cLine) (I : Inv X pins σ H s) {c : Addr} {oc : Obj} {es' : Array DictEntry} {ep' : Nat} {ks' : List D} {us' vs' : List V} (q : DicAt (kx X) H c ks' us' vs') (r : RepL (kx X) h H ks' us') (hoc : s.heap.get? c = some oc) (hdc : oc.data = .dict es' ep')
    {k : D} {u : V} {key : Value} (rk : Rep (kx X) h H k u) (ru : RelV u key) (ok : keyOk ks' k = true) {j : Nat} (hj : ixK ks' k = some j) (E : Value → Shared → Prop) (Q : Option Nat → Shared → Prop) (hq : Q (some j) s) :
    wpAny (model X.prog X.w) A (dictFind c key ((nk k).hash X.w)) Q E s := by
  unfold keyOk at ok
  rcases Bool.or_eq_true_iff.mp ok with ok | ok
  · obtain ⟨o1, o2⟩ := Bool.and_eq_true_iff.mp ok
    obtain ⟨kvs, h1, h2, o, es, ep, ho, cl, hd, k1, k2, nd⟩ := dicK I q r o1
    rw [hoc] at ho
    cases ho
    rw [hdc] at hd
    injection hd with ee _
    subst ee
    have hh : (nk k).hash X.w = (mixKind X.prog X.w).hash (toKey k) := by
      cases k with
      | int i => rfl
      | str x => rfl
      | _ => cases o2
    rw [hh]
    refine wpAny_dictFind_of (isSk_is o2 rk ru) hoc hdc k1 ?_
    have e1 : (es'.findIdx? fun e => (mixKind X.prog X.w).is (toKey k) e.key) = some j := by
      have z := (k2.findIdx (toKey k)).trans ((K_idx h1 o1 o2).trans hj)
      obtain ⟨l⟩ := es'
      simpa using z
    rw [e1]
    exact hq
  · obtain ⟨o1, o2⟩ := Bool.and_eq_true_iff.mp ok
    obtain ⟨xs, h1, h2, h3, o, es, ep, ho, cl, hd, k1, k2, nd⟩ := dicT I q r o1
    rw [hoc] at ho
    cases ho
    rw [hdc] at hd
    injection hd with ee _
    subst ee
    obtain ⟨b, e1, e2, e3⟩ := isTk_is I o2 rk ru
    subst e2
    obtain ⟨z, hz, ez⟩ := ixK_hit hj
    have hx : (xs.map (·.1))[j]? = some (nk k) := by rw [h1, List.getElem?_map, hz]; exact congrArg some ez
    refine wpAny_dictFind_heap (knd := nestedKind X.prog X.w) (by show A.units + 8 < cLine; omega) e3 hoc hdc k1 k2 nd (fun hn => ?_) fun j' p hp => ?_
    · exfalso
      rw [List.getElem?_map] at hx
      obtain ⟨x, hx1, hx2⟩ := Option.map_eq_some_iff.mp hx
      obtain ⟨x1, x2⟩ := x
      cases hx2
      exact hn j _ hx1
    · have hx' : (xs.map (·.1))[j']? = some (nk k) := by rw [List.getElem?_map, hp]; rfl
      rw [nd_at nd hx' hx]
      exact hq
/-- one level: richly compared, where the items are compared -/
theorem eqT_step (I : Inv X pins σ H s) {n : Nat} (ih : ∀ (x y : D) (b : Bool), EqT n x y b → ∀ (v u : V) (v' u' : Value) (A : Around), Rep (kx X) h H x v → Rep (kx X) h H y u → RelV v v' → RelV u u' → A.units + n + 20 < cLine → EqIn X.prog X.w A s v' u' b)
    {x y : D} {b : Bool} (q : EqT (n + 1) x y b) (nf : ¬ (flatD x = true ∧ flatD y = true)) {v u : V} {v' u' : Value} {A : Around} (r1 : Rep (kx X) h H x v) (r2 : Rep (kx X) h H y u) (e1 : RelV v v') (e2 : RelV u u') (hu : A.units + (n + 1) + 20 < cLine) :
    ∃ a c : Addr, v = .ref a ∧ u = .ref c ∧ v' = .ref a ∧ u' = .ref c ∧ ∀ (E Q : Value → Shared → Prop), Q (.bool b) s → wpAny (model X.prog X.w) A (richCompare .Eq v' u') Q E s := by
  rcases q with q | q
  · exact absurd ⟨q.1, q.2.1⟩ nf
  · cases x with
    | tup xs =>
      cases y with
      | tup ys =>
        obtain ⟨e, he, rfl⟩ := q
        obtain ⟨a, vs, rfl, t1, l1⟩ := r1
        obtain ⟨c, us, rfl, t2, l2⟩ := r2
        cases (show v' = .ref a from e1)
        cases (show u' = .ref c from e2)
        refine ⟨a, c, rfl, rfl, rfl, rfl, fun E Q hq => ?_⟩
        obtain ⟨its, rv, h1, _⟩ := I.tuple t1.sq
        obtain ⟨its2, rv2, h2, _⟩ := I.tuple t2.sq
        have z1 : its.toArray.size = xs.length := by rw [List.size_toArray, ← rv.length, ← l1.length]
        have z2 : its2.toArray.size = ys.length := by rw [List.size_toArray, ← rv2.length, ← l2.length]
        refine rcIn_tuples (e := e) h1 h2 (by omega) (fun j j1 j2 => ?_) (by rw [z1, z2]; exact hq)
        have j1' : j < xs.length := z1 ▸ j1
        have j2' : j < ys.length := z2 ▸ j2
        obtain ⟨w1, ew1, q1⟩ := l1.get (List.getElem?_eq_getElem j1')
        obtain ⟨w2, ew2, q2⟩ := l2.get (List.getElem?_eq_getElem j2')
        obtain ⟨y1, ey1, rr1⟩ := rv.get ew1
        obtain ⟨y2, ey2, rr2⟩ := rv2.get ew2
        have g1 : its.toArray[j] = y1 := by
          have := List.getElem?_eq_some_iff.mp ey1
          obtain ⟨p1, p2⟩ := this
          simpa using p2
        have g2 : its2.toArray[j] = y2 := by
          have := List.getElem?_eq_some_iff.mp ey2
          obtain ⟨p1, p2⟩ := this
          simpa using p2
        rw [g1, g2]
        exact ih _ _ _ (he j _ _ (List.getElem?_eq_getElem j1') (List.getElem?_eq_getElem j2')) _ _ _ _ A.in1 q1 q2 rr1 rr2 (by show A.units + 1 + n + 20 < cLine; omega)
      | _ => exact q.elim
    | lv xs =>
      cases y with
      | lv ys =>
        obtain ⟨len, e, he, rfl⟩ := q
        obtain ⟨a, vs, rfl, t1, l1⟩ := r1
        obtain ⟨c, us, rfl, t2, l2⟩ := r2
        cases (show v' = .ref a from e1)
        cases (show u' = .ref c from e2)
        refine ⟨a, c, rfl, rfl, rfl, rfl, fun E Q hq => ?_⟩
        obtain ⟨its, m1, rv, h1, _⟩ := I.lst t1.2
        obtain ⟨its2, m2, rv2, h2, _⟩ := I.lst t2.2
        have z1 : its.toArray.size = xs.length := by rw [List.size_toArray, ← rv.length, ← l1.length]
        have z2 : its2.toArray.size = ys.length := by rw [List.size_toArray, ← rv2.length, ← l2.length]
        refine rcIn_lists (e := e) ⟨_, h1, rfl, m1, rfl⟩ ⟨_, h2, rfl, m2, rfl⟩ (by rw [z1, z2, len]) (by omega) (fun j j1 j2 => ?_) (by rw [z1]; exact hq)
        have j1' : j < xs.length := z1 ▸ j1
        have j2' : j < ys.length := z2 ▸ j2
        obtain ⟨w1, ew1, q1⟩ := l1.get (List.getElem?_eq_getElem j1')
        obtain ⟨w2, ew2, q2⟩ := l2.get (List.getElem?_eq_getElem j2')
        obtain ⟨y1, ey1, rr1⟩ := rv.get ew1
        obtain ⟨y2, ey2, rr2⟩ := rv2.get ew2
        have g1 : its.toArray[j] = y1 := by
          have := List.getElem?_eq_some_iff.mp ey1
          obtain ⟨p1, p2⟩ := this
          simpa using p2
        have g2 : its2.toArray[j] = y2 := by
          have := List.getElem?_eq_some_iff.mp ey2
          obtain ⟨p1, p2⟩ := this
          simpa using p2
        rw [g1, g2]
        exact ih _ _ _ (he j _ _ (List.getElem?_eq_getElem j1') (List.getElem?_eq_getElem j2')) _ _ _ _ A.in1 q1 q2 rr1 rr2 (by show A.units + 1 + n + 20 < cLine; omega)
      | _ => exact q.elim
    | dv ks ds =>
      cases y with
      | dv ks' ds' =>
        obtain ⟨a, us, vs, rfl, _, t1, k1, l1⟩ := r1
        obtain ⟨c, us', vs', rfl, _, t2, k2, l2⟩ := r2
        cases (show v' = .ref a from e1)
        cases (show u' = .ref c from e2)
        refine ⟨a, c, rfl, rfl, rfl, rfl, fun E Q hq => ?_⟩
        obtain ⟨na, oa, ea, da⟩ := id t1
        obtain ⟨nc, oc, ec, dc⟩ := id t2
        have ha := (I.hok _ _ ea).1
        have hc := (I.hok _ _ ec).1
        obtain ⟨es, ep, eda, en⟩ := da.ent
        obtain ⟨es', ep', edc, en'⟩ := dc.ent
        have z1 : es.size = ks.length := by rw [← Array.length_toList]; exact en.lens.2.2
        have z2 : es'.size = ks'.length := by rw [← Array.length_toList]; exact en'.lens.2.2
        refine dict_rc (dic_type I t1) (dic_type I t2) (by omega) (fun E' Q' hq' => ?_) hq
        rcases q with ⟨ne, rfl⟩ | ⟨len, rfl, pairs⟩
        · exact same_len na nc ha eda hc edc (by rw [z1, z2]; exact ne) hq'
        · refine same_all na nc ha eda hc edc (by rw [z1, z2]; exact len) (fun i hi => ?_) hq'
          have hi' : i < es.toList.length := by rw [Array.length_toList]; exact hi
          obtain ⟨k, ku, kv, ek, eu, ev, hh, ru, rv⟩ := ent_at en (List.getElem?_eq_getElem hi')
          obtain ⟨u2, eu2, rk⟩ := k1.get ek
          rw [eu] at eu2
          cases eu2
          obtain ⟨d, ed, rd⟩ := l1.at ev
          obtain ⟨ok, z, lz, qz⟩ := pairs i k d ek ed
          unfold lookA at lz
          cases hj : ixK ks' k with
          | none => rw [hj] at lz; cases lz
          | some j =>
            rw [hj] at lz
            have lz : ds'[j]? = some z := lz
            obtain ⟨z', ez, rz⟩ := l2.get lz
            have hj2 : j < es'.size := by rw [z2]; exact ixK_lt hj
            have hj2' : j < es'.toList.length := by rw [Array.length_toList]; exact hj2
            obtain ⟨k2', ku2, kv2, _, _, ev2, _, _, rv2⟩ := ent_at en' (List.getElem?_eq_getElem hj2')
            rw [ez] at ev2
            cases ev2
            have g1 : es.toList[i] = es[i] := by simp
            have g2 : es'.toList[j] = es'[j] := by simp
            rw [g1] at hh ru rv
            rw [g2] at rv2
            refine ⟨j, hj2, fun E2 Q2 h2 => ?_, ?_⟩
            · rw [hh]
              exact find_at (by show A.units + 1 + 16 < cLine; omega) I t2 k2 hc edc rk ru ok hj E2 Q2 h2
            · exact ih _ _ _ qz _ _ _ _ A.in1 rd rz rv rv2 (by show A.units + 1 + n + 20 < cLine; omega)
      | _ => exact q.elim
    | _ => cases y <;> exact q.elim
/-- THE RULE: a comparison of trees, inside whatever runs -/
theorem eqT_in (I : Inv X pins σ H s) : ∀ (n : Nat) (x y : D) (b : Bool), EqT n x y b → ∀ (v u : V) (v' u' : Value) (A : Around), Rep (kx X) h H x v → Rep (kx X) h H y u → RelV v v' → RelV u u' → A.units + n + 20 < cLine → EqIn X.prog X.w A s v' u' b := by
  have flt : ∀ (x y : D) (b : Bool), (flatD x = true ∧ flatD y = true ∧ b = deq x y) → ∀ (v u : V) (v' u' : Value) (A : Around), Rep (kx X) h H x v → Rep (kx X) h H y u → RelV v v' → RelV u u' → EqIn X.prog X.w A s v' u' b := by
    rintro x y b ⟨f1, f2, rfl⟩ v u v' u' A r1 r2 e1 e2
    rw [← eqV_of r1 r2 f1 f2]
    exact (eqAt_V e1 e2 (flat_of r1 f1) (flat_of r2 f2)).inModel _ _
  intro n
  induction n with
  | zero => exact fun x y b q v u v' u' A r1 r2 e1 e2 _ => flt x y b q v u v' u' A r1 r2 e1 e2
  | succ n ih =>
    intro x y b q v u v' u' A r1 r2 e1 e2 hu
    by_cases nf : flatD x = true ∧ flatD y = true
    · rcases q with q | q
      · exact flt x y b q v u v' u' A r1 r2 e1 e2
      · cases x with
        | tup _ => exact absurd nf.1 Bool.false_ne_true
        | lv _ => exact absurd nf.1 Bool.false_ne_true
        | dv _ _ => exact absurd nf.1 Bool.false_ne_true
        | _ => cases y <;> exact q.elim
    · obtain ⟨a, c, ea, ec, ea', ec', rc⟩ := eqT_step I ih q nf r1 r2 e1 e2 hu
      by_cases hac : a = c
      · subst hac
        rw [eqT_self I (n + 1) x y b v q r1 (by rw [ea, ← ec]; exact r2), ea', ec']
        exact (SeqAt.EqAt.same _).inModel _ _
      · rw [ea', ec'] at rc ⊢
        exact EqIn.of_refs hac fun E Q hq => rc E Q hq
end
/-! ### the operator -/
/-- x == y for two trees with items -/
def dEqT (n : Nat) : R2D := fun x y h Q => ∃ b, EqT (n + 1) x y b ∧ ¬ (flatD x = true ∧ flatD y = true) ∧ Q (.bl b) h
theorem od_eqT {X : Cx} (n : Nat) {k : Nat} (hr : Room k X.A) (hn : n ≤ 20 := by decide) : OpD X (compareOp .Eq) (dEqT n) := by
  refine ⟨liftR2 (kx X) (dEqT n), fun pins s σ H x y v u Q I rx ry q => ?_, fun x y d e H h Qd Q rx ry R q w => ⟨d, e, h, Qd, rx, ry, R, q, w⟩⟩
  obtain ⟨d, e, h, Qd, r1, r2, R, ⟨b, q, nf, qd⟩, w⟩ := q
  have hu := hr.units
  obtain ⟨a, c, _, _, ea, ec, rc⟩ := eqT_step (h := h) (A := X.A) I (eqT_in I n) q nf r1 r2 rx ry (by omega)
  show wpAny _ _ (richCompare .Eq v u) _ _ _
  exact rc _ _ ⟨.bl b, H, I, rfl, w (.bl b) H (.bl b) h Fr.refl R rfl qd⟩
/-! ### a tree is equal to itself -/
mutual
def wfD : Nat → D → Bool
  | _, .non => true
  | _, .bl _ => true
  | _, .int _ => true
  | _, .str _ => true
  | n + 1, .tup xs => wfL n xs
  | n + 1, .lv xs => wfL n xs
  | n + 1, .dv ks vs => decide (ks.length = vs.length) && (decide ((ks.map nk).Nodup) && ((ks.all isSk || ks.all isTk) && wfL n vs))
  | _, _ => false
def wfL : Nat → List D → Bool
  | _, [] => true
  | n, x :: xs => wfD n x && wfL n xs
end
theorem wfL_at : ∀ {n : Nat} {xs : List D} {x : D}, wfL n xs = true → x ∈ xs → wfD n x = true
  | n, [], _, _, h => by cases h
  | n, y :: xs, x, w, h => by
    rw [wfL, Bool.and_eq_true] at w
    rcases List.mem_cons.mp h with rfl | h
    · exact w.1
    · exact wfL_at w.2 h
theorem wfL_of {n : Nat} : ∀ {xs : List D}, (∀ x ∈ xs, wfD n x = true) → wfL n xs = true
  | [], _ => by rw [wfL]
  | y :: xs, h => by
    rw [wfL, h y List.mem_cons_self, wfL_of fun x hx => h x (List.mem_cons_of_mem _ hx)]
    rfl
theorem deq_self {x : D} (f : flatD x = true) : deq x x = true := by
  cases x with
  | non => rfl
  | bl b => cases b <;> rfl
  | int b => simp [deq, py, PyData.eqv]
  | str b => simp [deq, py, PyData.eqv]
  | _ => cases f
theorem ixK_own : ∀ {ks : List D} {i : Nat} {k : D}, (ks.map nk).Nodup → ks[i]? = some k → ixK ks k = some i
  | [], _, _, _, e => by simp at e
  | z :: ks, 0, k, _, e => by
    have e : z = k := Option.some.inj e
    subst e
    rw [ixK_cons, if_pos rfl]
  | z :: ks, i + 1, k, nd, e => by
    have e : ks[i]? = some k := e
    rw [List.map_cons, List.nodup_cons] at nd
    rw [ixK_cons, if_neg (fun q => nd.1 (by rw [q]; exact List.mem_map.mpr ⟨k, List.mem_of_getElem? e, rfl⟩)), ixK_own nd.2 e]
    rfl
theorem eqT_refl : ∀ (n : Nat) (x : D), wfD n x = true → EqT n x x true
  | 0, x, w => by
    have f : flatD x = true := by cases x <;> first | rfl | (simp [wfD] at w)
    exact ⟨f, f, (deq_self f).symm⟩
  | n + 1, x, w => by
    cases x with
    | tup xs =>
      rw [wfD] at w
      refine .inr ⟨fun _ => true, fun i u v e1 e2 => ?_, by simp⟩
      rw [e1] at e2
      cases e2
      exact eqT_refl n u (wfL_at w (List.mem_of_getElem? e1))
    | lv xs =>
      rw [wfD] at w
      refine .inr ⟨rfl, fun _ => true, fun i u v e1 e2 => ?_, by simp⟩
      rw [e1] at e2
      cases e2
      exact eqT_refl n u (wfL_at w (List.mem_of_getElem? e1))
    | dv ks vs =>
      rw [wfD, Bool.and_eq_true, Bool.and_eq_true, Bool.and_eq_true] at w
      obtain ⟨w1, w2, w3, w4⟩ := w
      have nd := of_decide_eq_true w2
      refine .inr (.inr ⟨rfl, rfl, fun i k v ek ev => ⟨?_, v, ?_, eqT_refl n v (wfL_at w4 (List.mem_of_getElem? ev))⟩⟩)
      · unfold keyOk
        rcases Bool.or_eq_true_iff.mp w3 with z | z
        · rw [z, List.all_eq_true.mp z k (List.mem_of_getElem? ek)]; rfl
        · rw [z, List.all_eq_true.mp z k (List.mem_of_getElem? ek)]; simp
      · unfold lookA
        rw [ixK_own nd ek]
        exact ev
    | non => exact .inl ⟨rfl, rfl, rfl⟩
    | bl b => exact .inl ⟨rfl, rfl, (deq_self rfl).symm⟩
    | int b => exact .inl ⟨rfl, rfl, (deq_self rfl).symm⟩
    | str b => exact .inl ⟨rfl, rfl, (deq_self rfl).symm⟩
    | _ => simp [wfD] at w
theorem wfD_mono : ∀ {n m : Nat} {x : D}, n ≤ m → wfD n x = true → wfD m x = true
  | n, m, x, h, w => by
    cases x with
    | tup xs =>
      cases n with
      | zero => simp [wfD] at w
      | succ n =>
        cases m with
        | zero => omega
        | succ m =>
          rw [wfD] at w ⊢
          exact wfL_of fun y hy => wfD_mono (Nat.le_of_succ_le_succ h) (wfL_at w hy)
    | lv xs =>
      cases n with
      | zero => simp [wfD] at w
      | succ n =>
        cases m with
        | zero => omega
        | succ m =>
          rw [wfD] at w ⊢
          exact wfL_of fun y hy => wfD_mono (Nat.le_of_succ_le_succ h) (wfL_at w hy)
    | dv ks vs =>
      cases n with
      | zero => simp [wfD] at w
      | succ n =>
        cases m with
        | zero => omega
        | succ m =>
          rw [wfD, Bool.and_eq_true, Bool.and_eq_true, Bool.and_eq_true] at w ⊢
          exact ⟨w.1, w.2.1, w.2.2.1, wfL_of fun y hy => wfD_mono (Nat.le_of_succ_le_succ h) (wfL_at w.2.2.2 hy)⟩
    | non => cases m <;> rfl
    | bl b => cases m <;> rfl
    | int b => cases m <;> rfl
    | str b => cases m <;> rfl
    | _ => cases n <;> simp [wfD] at w
end DL
set_option Elab.async false
set_option linter.all false
set_option maxRecDepth 100000
set_option maxHeartbeats 1000000
/-! d.setdefault(k, x) -/
namespace DL
open PySem PySem.Spec PyProof.Rows L2
variable [FldTab]
section
variable {X : Cx} {pins : List (Addr × Obj)} {σ : L2.St} {H : Hp} {s : Shared} {h : DH} {A : Around} {E : Value → Shared → Prop} {a : Addr} {ks : List D} {us vs : List V} {k : D} {y : V} {u : Value}
theorem x_setd {v : V} {r' : Value} {Q : Value → Shared → Prop} (hu : A.units + 16 < cLine) (I : Inv X pins σ H s) (q : DicAt (kx X) H a ks us vs) (r : RepL (kx X) h H ks us) (rk : Rep (kx X) h H k y) (ry : RelV y u) (rv : RelV v r') (ok : keyOk ks k = true) (sz : (putKs ks k).length ≤ sizeLine)
    (w1 : ∀ z w' s', lookA ks vs k = some z → Inv X pins σ H s' → RelV z w' → Q w' s')
    (w2 : lookA ks vs k = none → ∀ o' s', Inv X pins σ (upd H a (ObX a o')) s' → DicO X.w o' (putKs ks k) (putU ks us k y) (putA ks vs k v) → Q r' s') : wpAny (model X.prog X.w) A (call (.builtin "dict.setdefault") [.ref a, u, r']) Q E s := by
  have q0 := q
  obtain ⟨hna, o, e, dO⟩ := q
  have fin : ∀ {ws : List Value}, Vals vs ws → ∀ x, lookA ks ws k = some x → ∃ z, lookA ks vs k = some z ∧ RelV z x := fun {ws} hv x l => by
    cases l2 : lookA ks vs k with
    | none => rw [lookA_valN hv l2] at l; cases l
    | some z => obtain ⟨x2, l3, rx⟩ := lookA_val hv l2; rw [l] at l3; cases l3; exact ⟨z, rfl, rx⟩
  have fin2 : ∀ {ws : List Value}, Vals vs ws → lookA ks ws k = none → lookA ks vs k = none := fun {ws} hv l => by
    cases l2 : lookA ks vs k with
    | none => rfl
    | some z => obtain ⟨x2, l3, rx⟩ := lookA_val hv l2; rw [l] at l3; cases l3
  unfold keyOk at ok
  rcases Bool.or_eq_true_iff.mp ok with ok | ok
  · obtain ⟨o1, o2⟩ := Bool.and_eq_true_iff.mp ok
    obtain ⟨kvs, h1, h2, dd⟩ := dicK I q0 r o1
    have hl : kvs.length ≤ sizeLine := by have z := congrArg List.length h1; rw [List.length_map, List.length_map] at z; rw [z]; exact dO.sz
    refine call_meetsIn PySem.F.slot_dict_setdefault dd.typeIs PySem.F.entry_dict_setdefault (PySem.F.args_dict_setdefault_3 _ _ _) (kt_meets_setdefault (mixKind X.prog X.w) a (isSk_is o2 rk ry) hna r') ⟨kvs, dd, hl, fun x hx => ?_, fun hn h' dd' hs => ?_⟩
    · rw [K_look h1 o1 o2] at hx
      obtain ⟨z, lz, rz⟩ := fin h2 x hx
      exact w1 z x _ lz (I.tok _) rz
    · rw [K_look h1 o1 o2] at hn
      obtain ⟨i1, i2⟩ := K_stored (k := k) (v := r') h1 o1 o2 dO.nd
      obtain ⟨o', eo, d'⟩ := K_done (vs := putA ks vs k v) (putK_rep r rk) (put_all o1 o2) i1 (by rw [i2]; exact Vals.put h2 rv ks k) sz dd'
      exact w2 (fin2 h2 hn) o' _ (dic_write I e True.intro hs eo) d'
  · obtain ⟨o1, o2⟩ := Bool.and_eq_true_iff.mp ok
    obtain ⟨xs, h1, h2, h3, dd⟩ := dicT I q0 r o1
    obtain ⟨b, e1, e2, e3⟩ := isTk_is I o2 rk ry
    subst e1 e2
    have hl : xs.length ≤ sizeLine := by have z := congrArg List.length h1; rw [List.length_map, List.length_map] at z; rw [z]; exact dO.sz
    refine call_setdefault_heap (hsz := hl) (by show A.units + 1 + 8 < cLine; omega) e3 hna dd (fun p hp => ?_) fun hn h' dd' hs => ?_
    · have l : lookA ks (xs.map fun x => x.2.2) k = some p.2 := by rw [← T_look h1, hp]; rfl
      obtain ⟨z, lz, rz⟩ := fin h3 _ l
      exact w1 z _ _ lz (I.tok _) rz
    · have l : lookA ks (xs.map fun x => x.2.2) k = none := by rw [← T_look h1, hn]; rfl
      obtain ⟨i1, i2, i3⟩ := T_stored (k := k) (a := b) (v := r') h1 dO.nd
      obtain ⟨o', eo, d'⟩ := T_done (us := putU ks us k (.ref b)) (vs := putA ks vs k v) (put_all o1 o2) i1 (by rw [i2, h2]) (by rw [i3]; exact Vals.put h3 rv ks k) sz dd'
      exact w2 (fin2 h3 l) o' _ (dic_write I e True.intro hs eo) d'
end
def dSetd : RmD := fun d ds h Q => match d, ds with
  | .ref p, [k, z] => ∃ ks vs, h p = some (.dic ks vs) ∧ keyOk ks k = true ∧ (putKs ks k).length ≤ sizeLine ∧ (∀ x, lookA ks vs k = some x → Q x h) ∧ (lookA ks vs k = none → Q z (up h p (.dic (putKs ks k) (putA ks vs k z))))
  | _, _ => False
theorem md_setd {X : Cx} {k : Nat} (hr : Room k X.A) : MtD X "dict.setdefault" dSetd := by
  refine ⟨fun x xs H Q => ∃ d ds h Qd, Rep (kx X) h H d x ∧ RepL (kx X) h H ds xs ∧ RH (kx X) h H ∧ dSetd d ds h Qd ∧ WV (kx X) h H Qd Q, ?_, fun x xs d ds H h Qd Q r rs R q w => ⟨d, ds, h, Qd, r, rs, R, q, w⟩⟩
  intro pins s σ H x xs v us Q I rx rv ⟨d, ds, h, Qd, r, rs, R, q, w⟩
  unfold dSetd at q
  split at q
  · rename_i p k' z'
    obtain ⟨ky, zv, rfl, rk, rz⟩ := rs.two_of
    obtain ⟨u1, u2, rfl, e1, e2⟩ := vals2 rv
    obtain ⟨ks, dv, hp, ok, sz, q1, q2⟩ := q
    have ex : x = .ref p := r
    subst ex
    cases (show v = Value.ref p from rx)
    obtain ⟨_, uk, wv, t, r1, r2⟩ := R p _ hp
    refine x_setd (room16 hr) I t r1 rk e1 e2 ok sz (fun z w' s' l I' rw' => ?_) fun l o' s' I' d' => ?_
    · cases l2 : lookA ks dv k' with
      | none => rw [lookA_none r2 l2] at l; cases l
      | some y =>
        obtain ⟨y', l3, ry⟩ := lookA_rep r2 l2
        rw [l] at l3
        cases l3
        exact ⟨_, H, I', rw', w _ H y h Fr.refl R ry (q1 y l2)⟩
    · have l2 : lookA ks dv k' = none := by
        cases l2 : lookA ks dv k' with
        | none => rfl
        | some y => obtain ⟨y', l3, _⟩ := lookA_rep r2 l2; rw [l] at l3; cases l3
      exact ⟨_, _, I', e2, w _ _ z' _ (Fr.write hp) (dic_put R hp t.1 d' (putK_rep r1 rk) (put_rep r2 rz)) (Rep.fr (Fr.write hp) _ _ rz) (q2 l2)⟩
  · exact q.elim
end DL
set_option Elab.async false
set_option linter.all false
set_option maxRecDepth 100000
set_option maxHeartbeats 2000000
/-! sets of trees of numbers: set(xs), len(set(xs)). The table's theory is the library's (L2.TabOk, L2.go_spec ..); here it is asked of nested keys -/
namespace SN
open PySem PySem.Spec PyProof.Rows L2
mutual
def noTx : NestedKey → Bool
  | .text _ => false
  | .tup ks => noTxs ks
  | _ => true
def noTxs : List NestedKey → Bool
  | [] => true
  | k :: ks => noTx k && noTxs ks
end
/-- the tuple at b is the key k, of numbers alone -/
structure Ky (h : Heap) (k : NestedKey) (b : Addr) : Prop where
  is : NestedIs h k (.ref b)
  dp : k.depth ≤ 8
  nt : noTx k = true
theorem Ky.kd {P : Program} {w : World} {h : Heap} {k : NestedKey} {b : Addr} (q : Ky h k b) : (nestedKind P w).is h k b := ⟨q.is, q.dp⟩
section
variable {P : Program} {w : World} {A : Around} {E : Value → Shared → Prop} {s : Shared}
theorem all_at {ks : List NestedKey} {vs : List Value} (q : NestedAll s.heap ks vs) : ∀ v ∈ vs, ∃ k ∈ ks, NestedIs s.heap k v := by
  induction vs generalizing ks with
  | nil => exact fun v hv => by cases hv
  | cons u us ih =>
    cases q with
    | cons q1 q2 =>
      intro v hv
      rcases List.mem_cons.mp hv with rfl | hv
      · exact ⟨_, List.mem_cons_self, q1⟩
      · obtain ⟨k, hk, q⟩ := ih q2 v hv
        exact ⟨k, List.mem_cons_of_mem _ hk, q⟩
theorem noTxs_at : ∀ {ks : List NestedKey}, noTxs ks = true → ∀ k ∈ ks, noTx k = true
  | [], _, k, h => by cases h
  | z :: ks, q, k, h => by
    rw [noTxs, Bool.and_eq_true] at q
    rcases List.mem_cons.mp h with rfl | h
    · exact q.1
    · exact noTxs_at q.2 k h
theorem depth_at : ∀ {ks : List NestedKey} {n : Nat}, NestedKey.depthAll ks ≤ n → ∀ k ∈ ks, k.depth ≤ n
  | [], _, _, k, h => by cases h
  | z :: ks, n, q, k, h => by
    simp only [NestedKey.depthAll] at q
    rcases List.mem_cons.mp h with rfl | h
    · omega
    · exact depth_at (by omega) k h
/-- a key's tree is no class statement's -/
theorem no_class : ∀ (n : Nat) (k : NestedKey) (v : Value) (Q : Bool → Shared → Prop), NestedIs s.heap k v → k.depth ≤ n → Q false s → wpAny (model P w) A (ofAClassStatement n v) Q E s := by
  intro n
  induction n with
  | zero =>
    intro k v Q q hd h
    cases q with
    | tup _ _ _ _ => simp only [NestedKey.depth] at hd; omega
    | none => exact wpAny_pure h
    | bool _ => exact wpAny_pure h
    | int _ _ => exact wpAny_pure h
    | text _ _ => exact wpAny_pure h
  | succ n ih =>
    intro k v Q q hd h
    cases q with
    | none => exact wpAny_pure h
    | bool _ => exact wpAny_pure h
    | int _ _ => exact wpAny_pure h
    | text _ _ => exact wpAny_pure h
    | @tup b o vs m ks ho hc hdt hall =>
      simp only [NestedKey.depth] at hd
      unfold ofAClassStatement
      refine wpAny_bind (wpAny_typeOf (show s.TypeIs (.ref b) "tuple" from ⟨o, ho, hc⟩) ?_)
      dsimp only
      have et : (("tuple" : String) == "tuple") = true := by decide
      simp only [et, if_true, Bool.not_true, Bool.false_eq_true, if_false]
      try refine wpAny_bind (wpAny_pure ?_)
      try simp only [Bool.not_true, Bool.false_eq_true, if_false]
      show wpAny _ _ (seqItems? (.ref b) >>= _) _ _ s
      refine wpAny_bind (wpAny_seqItems ho hdt ?_)
      dsimp only
      refine wpAny_bind ?_
      show wpAny _ _ (forIn vs _ _) _ _ s
      rw [← Array.forIn_toList]
      refine wpAny_forIn_list _ (fun left r t => r.1 = none ∧ t = s ∧ ∀ u ∈ left, ∃ k ∈ ks, NestedIs s.heap k u) _ ?_ ?_ _ _ ⟨rfl, rfl, all_at hall⟩
      · rintro u left r t ⟨hr, rfl, each⟩
        obtain ⟨k, hk, q⟩ := each u List.mem_cons_self
        refine wpAny_bind (ih k u _ q (depth_at (by omega) k hk) ?_)
        simp only [Bool.false_eq_true, if_false]
        exact wpAny_pure ⟨rfl, rfl, fun z hz => each z (List.mem_cons_of_mem _ hz)⟩
      · rintro ⟨r1, r2⟩ t ⟨hr, rfl, _⟩
        simp only at hr
        subst hr
        exact wpAny_pure h
/-- a key of numbers is hashed by its value -/
theorem by_value : ∀ (n : Nat) (k : NestedKey) (v : Value) (Q : Bool → Shared → Prop), NestedIs s.heap k v → k.depth ≤ n → noTx k = true → Q true s → wpAny (model P w) A (hashByValue n v) Q E s := by
  intro n
  induction n with
  | zero =>
    intro k v Q q hd nt h
    cases q with
    | tup _ _ _ _ => simp only [NestedKey.depth] at hd; omega
    | none => exact wpAny_pure h
    | bool _ => exact wpAny_pure h
    | int _ _ => exact wpAny_pure h
    | text _ _ => cases nt
  | succ n ih =>
    intro k v Q q hd nt h
    cases q with
    | none => exact wpAny_pure h
    | bool _ => exact wpAny_pure h
    | int _ _ => exact wpAny_pure h
    | text _ _ => cases nt
    | @tup b o vs m ks ho hc hdt hall =>
      simp only [NestedKey.depth] at hd
      have nt : noTxs ks = true := by rw [noTx] at nt; exact nt
      unfold hashByValue
      refine wpAny_bind (wpAny_specialOf (show s.TypeIs (.ref b) "tuple" from ⟨o, ho, hc⟩) PySem.F.slot_tuple_hash.lookup ?_)
      show wpAny _ _ (seqItems? (.ref b) >>= _) _ _ s
      refine wpAny_bind (wpAny_seqItems ho hdt ?_)
      refine wpAny_bind ?_
      show wpAny _ _ (forIn vs _ _) _ _ s
      rw [← Array.forIn_toList]
      refine wpAny_forIn_list _ (fun left r t => r.1 = none ∧ t = s ∧ ∀ u ∈ left, ∃ k ∈ ks, NestedIs s.heap k u) _ ?_ ?_ _ _ ⟨rfl, rfl, all_at hall⟩
      · rintro u left r t ⟨hr, rfl, each⟩
        obtain ⟨k, hk, q⟩ := each u List.mem_cons_self
        refine wpAny_bind (ih k u _ q (depth_at (by omega) k hk) (noTxs_at nt k hk) ?_)
        simp only [Bool.not_true, Bool.false_eq_true, if_false]
        exact wpAny_pure ⟨rfl, rfl, fun z hz => each z (List.mem_cons_of_mem _ hz)⟩
      · rintro ⟨r1, r2⟩ t ⟨hr, rfl, _⟩
        simp only at hr
        subst hr
        exact wpAny_pure h
/-- a search among keys shows nothing -/
theorem unseen {k : NestedKey} {b : Addr} {Q : Bool → Shared → Prop} (q : Ky s.heap k b) {ys : List Value} (hy : ∀ y ∈ ys, ∃ k' c, y = Value.ref c ∧ Ky s.heap k' c) (h : Q false s) : wpAny (model P w) A (searchCouldBeSeen (.ref b) ys) Q E s := by
  unfold searchCouldBeSeen
  refine wpAny_bind ?_
  refine wpAny_forIn_list _ (fun left r t => r.1 = none ∧ t = s ∧ ∀ y ∈ left, ∃ k' c, y = Value.ref c ∧ Ky s.heap k' c) _ ?_ ?_ _ _ ⟨rfl, rfl, hy⟩
  · rintro v left r t ⟨hr, rfl, each⟩
    obtain ⟨k', c, rfl, qc⟩ := each v List.mem_cons_self
    have tl : ∀ y ∈ left, ∃ k' c, y = Value.ref c ∧ Ky t.heap k' c := fun u hu => each u (List.mem_cons_of_mem _ hu)
    dsimp only
    by_cases hv : (b == c || (carriedByValue (.ref b) && carriedByValue (.ref c))) = true
    · exact wp_if_pos hv (wpAny_pure ⟨rfl, rfl, tl⟩)
    · refine wp_if_neg hv (wpAny_bind ((nestedKind P w).quiet q.kd ?_))
      simp only [Bool.not_true, Bool.false_eq_true, if_false]
      refine wpAny_bind ((nestedKind P w).quiet qc.kd ?_)
      simp only [Bool.not_true, Bool.false_eq_true, if_false]
      refine wpAny_bind (no_class 8 k _ _ q.is q.dp ?_)
      simp only [Bool.false_eq_true, if_false]
      refine wpAny_bind (no_class 8 k' _ _ qc.is qc.dp ?_)
      simp only [Bool.false_eq_true, if_false]
      exact wpAny_pure ⟨rfl, rfl, tl⟩
  · rintro ⟨r1, r2⟩ t ⟨hr, rfl, _⟩
    simp only at hr
    subst hr
    exact wpAny_pure h
end
end SN
set_option Elab.async false
set_option linter.all false
set_option maxRecDepth 100000
set_option maxHeartbeats 2000000
/-! a set of keys of numbers: the search, one key more, the table laid anew, set(xs) -/
namespace SN
open PySem PySem.Spec PyProof.Rows L2
/-! ### the way of a hash through a table, without a heap -/
/-- where the search stands behind c steps -/
abbrev stp (m : Nat) (h : Int) (c : Nat) : SetTable.Probe := nth m (runAt m (SetTable.bits h % (m + 1)) (SetTable.bits h)) c
theorem no_dummy (m : Nat) : ∀ (n : Nat) (p : SetTable.Probe), p.dummy = none → (nth m p n).dummy = none
  | 0, _, e => e
  | n + 1, p, e => no_dummy m n (adv m p) (by unfold adv; split <;> exact e)
theorem probe_at {t : SetTable} {hs : List Int} (T : TabOk t hs) (at' : Nat → Int) (h : Int) {K : Nat} (big : K < 10 * SetTable.turns t.mask) (free : way t.mask h K ∉ t.place.toList) (full : ∀ c, c < K → way t.mask h c ∈ t.place.toList)
    {c : Nat} (hc : c ≤ K) :
    (∃ e i, c ≤ e ∧ e < K ∧ t.place.toList[i]? = some (way t.mask h e) ∧ (∀ e' i', c ≤ e' → e' < e → t.place.toList[i']? = some (way t.mask h e') → at' i' ≠ h) ∧
      t.probe at' h (stp t.mask h c) = some (.candidate (way t.mask h e) i (stp t.mask h (e + 1)))) ∨
    ((∀ e' i', c ≤ e' → e' < K → t.place.toList[i']? = some (way t.mask h e') → at' i' ≠ h) ∧ t.probe at' h (stp t.mask h c) = some (.empty (way t.mask h K) none)) := by
  have sh : ∀ q, nth t.mask (stp t.mask h c) q = stp t.mask h (c + q) := fun q => (nth_add t.mask c _ q).symm
  have wy : ∀ q, (nth t.mask (stp t.mask h c) q).j = way t.mask h (c + q) := fun q => by rw [sh]
  have g := go_spec t T.ris T.dm at' h (10 * SetTable.turns t.mask) (K - c) (stp t.mask h c) (no_dummy _ _ _ rfl) (by omega)
    (fun q hq => by rw [wy]; exact full _ (by omega)) (by rw [wy, Nat.add_sub_cancel' hc]; exact free)
  rcases g with ⟨q, i, h1, h2, h3, h4, h5⟩ | ⟨h4, h5⟩
  · refine .inl ⟨c + q, i, Nat.le_add_right _ _, by omega, by rw [← wy]; exact h2, fun e' i' a b d => h4 (e' - c) i' (by omega) (by rw [wy, Nat.add_sub_cancel' a]; exact d), ?_⟩
    rw [← wy, Nat.add_assoc, ← sh]
    exact h5
  · refine .inr ⟨fun e' i' a b d => h4 (e' - c) i' (by omega) (by rw [wy, Nat.add_sub_cancel' a]; exact d), ?_⟩
    have e := wy (K - c)
    rw [Nat.add_sub_cancel' hc] at e
    rw [← e]
    exact h5
/-! ### the set -/
def row (w : World) (p : NestedKey × Addr) : Int × Value := (p.1.hash w, .ref p.2)
/-- at a stands a set of the keys of L, in the order of its slots -/
structure Held (w : World) (h : Heap) (a : Addr) (L : List (NestedKey × Addr)) (es : Array (Int × Value)) (ep : Nat) (t : SetTable) : Prop where
  here : ∃ o, h.get? a = some o ∧ o.ExactSet ∧ o.data = .set es ep t
  rows : es.toList = L.map (row w)
  tab : TabOk t (L.map fun p => p.1.hash w)
  once : (L.map (·.1)).Nodup
  keys : ∀ p ∈ L, Ky h p.1 p.2
  plain : t.plain = true
  led : w.params.followText "set-order" = true ∨ t.led = true
  room : L.length * 5 < t.mask * 3
  few : L.length < 64
section
variable {P : Program} {w : World} {A : Around} {E : Value → Shared → Prop} {s : Shared} {a : Addr} {L : List (NestedKey × Addr)} {es : Array (Int × Value)} {ep : Nat} {t : SetTable}
theorem rows_size (e : es.toList = L.map (row w)) : es.size = L.length := by
  have q := congrArg List.length e
  rwa [Array.length_toList, List.length_map] at q
theorem fits_of (dm : t.dummies = #[]) (ps : t.place.size = es.size) (le : es.size ≤ t.mask) : t.fits es.size = true := by
  unfold SetTable.fits SetTable.fill
  rw [dm, Bool.and_eq_true, beq_iff_eq, decide_eq_true_eq]
  show t.place.size = es.size ∧ t.place.size + 0 ≤ t.mask
  omega
theorem Held.slots (R : Held w s.heap a L es ep t) : t.place.size = L.length := by
  have q := R.tab.sz
  rwa [List.length_map] at q
theorem Held.fit (R : Held w s.heap a L es ep t) : t.fits es.size = true := by
  have e1 := rows_size R.rows
  have e2 := R.slots
  have e3 := R.room
  exact fits_of R.tab.dm (by omega) (by omega)
theorem row_at (e : es.toList = L.map (row w)) {i : Nat} {p : NestedKey × Addr} (h : L[i]? = some p) : es[i]? = some (row w p) := by
  rw [← Array.getElem?_toList, e, List.getElem?_map, h]; rfl
theorem Held.stays (R : Held w s.heap a L es ep t) : ¬ t.gaveWay = true := by
  unfold SetTable.gaveWay
  rw [mask_odd R.tab.mok]
  decide
theorem sure {b : Bool} {α : Type} {x y : Sem α} {Q : α → Shared → Prop} (e : b = true) (h : wpAny (model P w) A x Q E s) : wpAny (model P w) A (if b then x else y) Q E s := by subst e; exact h
theorem unsure {b : Bool} {α : Type} {x y : Sem α} {Q : α → Shared → Prop} (e : b = false) (h : wpAny (model P w) A y Q E s) : wpAny (model P w) A (if b then x else y) Q E s := by subst e; exact h
/-- the search, from the c-th step on; what equals the key lies ahead -/
theorem seek (R : Held w s.heap a L es ep t) {x : Addr} {k : NestedKey} (hx : Ky s.heap k x) (hu : A.units + 8 < cLine) {K : Nat} (big : K < 10 * SetTable.turns t.mask)
    (free : way t.mask (k.hash w) K ∉ t.place.toList) (full : ∀ c, c < K → way t.mask (k.hash w) c ∈ t.place.toList) {Q : SetFound → Shared → Prop}
    (got : k ∈ L.map (·.1) → Q (.there none) s) (new : k ∉ L.map (·.1) → Q (.free (way t.mask (k.hash w) K) false) s) (f : Nat) :
    ∀ (c : Nat) (st : Option SetTable.Probe), st.getD (t.probeStart (k.hash w)) = stp t.mask (k.hash w) c → c ≤ K → K < f + c →
      (∀ (i : Nat) p, L[i]? = some p → p.1 = k → ∃ e, c ≤ e ∧ e < K ∧ t.place.toList[i]? = some (way t.mask (k.hash w) e)) →
      wpAny (model P w) A (setSearchFrom a (.ref x) (k.hash w) true f st) Q E s := by
  induction f with
  | zero => intro c st _ h1 h2 _; omega
  | succ f ih =>
    intro c st est hc hf ahead
    obtain ⟨o, ho, hex, hd⟩ := R.here
    have hash_at : ∀ (i : Nat) p, L[i]? = some p → (fun i => (es[i]?.map (·.1)).getD 0) i = p.1.hash w := fun i p hp => by
      show (es[i]?.map (·.1)).getD 0 = _
      rw [row_at R.rows hp]; rfl
    rw [setSearchFrom_succ]
    refine wpAny_bind (wpAny_setState_of ho hd R.fit ?_)
    dsimp only
    refine wp_if_neg R.stays ?_
    rw [est]
    rcases probe_at R.tab (fun i => (es[i]?.map (·.1)).getD 0) (k.hash w) big free full hc with ⟨e, i, g1, g2, g3, g4, g5⟩ | ⟨g4, g5⟩
    · rw [g5]
      dsimp only
      have il : i < L.length := by
        have z := (List.getElem?_eq_some_iff.mp g3).1
        rw [Array.length_toList, R.slots] at z
        exact z
      obtain ⟨p, hp⟩ : ∃ p, L[i]? = some p := ⟨_, List.getElem?_eq_getElem il⟩
      have pm : p ∈ L := List.mem_of_getElem? hp
      have on : wpAny (model P w) A (searchRest a (.ref x) (k.hash w) true f es t (way t.mask (k.hash w) e) i (stp t.mask (k.hash w) (e + 1))) Q E s := by
        unfold searchRest
        rw [row_at R.rows hp]
        dsimp only [row]
        refine wpAny_bind (wpAny_holding ((nestedKind P w).eqBool hu (R.keys p pm).kd hx.kd ?_))
        refine wpAny_bind (wpAny_setState_of ho hd R.fit ?_)
        dsimp only
        by_cases ek : p.1 = k
        · exact wp_if_pos (by simp [ek]) (wpAny_pure (got (List.mem_map.mpr ⟨p, pm, ek⟩)))
        · refine wp_if_neg (by simp [ek]) ?_
          have sl : t.slot (way t.mask (k.hash w) e) = .live i := slot_live R.tab.ris g3
          rw [sameMem]
          dsimp only
          simp only [if_true, sl, row_at R.rows hp, row]
          refine wpAny_bind (wpAny_isSame_ref_self (wpAny_bind (wpAny_pure ?_)))
          simp only [if_true]
          refine wp_if_neg (by simp [ek]) ?_
          refine ih (e + 1) _ rfl (by omega) (by omega) fun i' p' hp' ek' => ?_
          obtain ⟨e', a1, a2, a3⟩ := ahead i' p' hp' ek'
          refine ⟨e', ?_, a2, a3⟩
          rcases Nat.lt_trichotomy e' e with z | z | z
          · exact absurd ((hash_at i' p' hp').trans (by rw [ek'])) (g4 e' i' a1 z a3)
          · subst z
            have s2 := slot_live R.tab.ris a3
            rw [sl] at s2
            injection s2 with s2
            subst s2
            rw [hp] at hp'
            exact absurd (by rw [Option.some.inj hp']; exact ek') ek
          · exact z
      cases hl : t.led with
      | true =>
        refine wp_if_neg (by simp) ?_
        exact on
      | false =>
        refine wp_if_pos (by simp) ?_
        refine wpAny_bind (unseen hx (fun y hy => ?_) ?_)
        · obtain ⟨r, hr, er⟩ := List.mem_map.mp hy
          have r1 : r ∈ es ∧ r.1 = k.hash w := by simpa using hr
          have r2 : r ∈ es.toList := by simpa using r1.1
          rw [R.rows] at r2
          obtain ⟨p2, hp2, e2⟩ := List.mem_map.mp r2
          exact ⟨p2.1, p2.2, by rw [← er, ← e2]; rfl, R.keys p2 hp2⟩
        · refine wp_if_neg (by decide) ?_
          exact on
    · rw [g5]
      dsimp only
      refine wpAny_pure (new fun hm => ?_)
      obtain ⟨p, hp, ek⟩ := List.mem_map.mp hm
      obtain ⟨i, hi⟩ := List.getElem?_of_mem hp
      obtain ⟨e, a1, a2, a3⟩ := ahead i p hi ek
      exact g4 e i a1 a2 a3 ((hash_at i p hi).trans (by rw [ek]))
/-- the whole search, as adding asks for it -/
theorem seek_all (R : Held w s.heap a L es ep t) {x : Addr} {k : NestedKey} (hx : Ky s.heap k x) (hu : A.units + 8 < cLine) {Q : SetFound → Shared → Prop}
    (got : k ∈ L.map (·.1) → Q (.there none) s)
    (new : ∀ K, k ∉ L.map (·.1) → way t.mask (k.hash w) K ∉ t.place.toList → (∀ c, c < K → way t.mask (k.hash w) c ∈ t.place.toList) → Q (.free (way t.mask (k.hash w) K) false) s) :
    wpAny (model P w) A (setSearch a (.ref x) (k.hash w) true) Q E s := by
  have rm := R.room
  obtain ⟨K, big, free, full⟩ := R.tab.first (by rw [List.length_map]; omega) (k.hash w)
  have kb : K < 2000 := by
    unfold SetTable.turns at big
    rcases R.tab.mok with e | e | e <;> omega
  unfold setSearch
  refine seek R hx hu big free full got (fun h => new K h free full) 100000 0 none rfl (Nat.zero_le _) (by omega) fun i p hp ek => ?_
  have il : i < t.place.toList.length := by
    rw [Array.length_toList, R.slots]
    exact (List.getElem?_eq_some_iff.mp hp).1
  have hj := List.getElem?_eq_getElem il
  obtain ⟨c, c1, c2⟩ := R.tab.before free (i := i) (by rw [List.getElem?_map, hp, ← ek]; rfl) hj
  exact ⟨c, Nat.zero_le _, c1, by rw [hj, c2]⟩
/-- a key's tuple is not the set's object -/
theorem Ky.but {h h' : Heap} {k : NestedKey} {b : Addr} {o : Obj} (q : Ky h k b) (ho : h.get? a = some o) (hd : o.data = .set es ep t) (sb : Heap.SameBut a h h') : Ky h' k b :=
  ⟨NestedIs.at (fun c oc vs n hc dc => by
    refine (sb.2 c fun e => ?_).trans hc
    subst e
    rw [ho] at hc
    cases hc
    rw [hd] at dc
    cases dc) k _ q.is, q.dp, q.nt⟩
theorem Ky.keep {h h' : Heap} {k : NestedKey} {b : Addr} (q : Ky h k b) (hk : ∀ c o, h.get? c = some o → h'.get? c = some o) : Ky h' k b :=
  ⟨NestedIs.at (fun c oc vs n hc _ => hk c oc hc) k _ q.is, q.dp, q.nt⟩
/-- rows picked by an order of their places -/
theorem pick_rows (e : es.toList = L.map (row w)) : ∀ (l : List Nat), (∀ i ∈ l, i < L.length) →
    l.filterMap (fun i => es[i]?) = (l.filterMap fun i => L[i]?).map (row w) ∧ (l.filterMap fun i => L[i]?).map (fun p => p.1.hash w) = l.map fun i => (es.map (·.1)).getD i 0
  | [], _ => ⟨rfl, rfl⟩
  | i :: l, hl => by
    obtain ⟨p, hp⟩ : ∃ p, L[i]? = some p := ⟨_, List.getElem?_eq_getElem (hl i List.mem_cons_self)⟩
    have hr := row_at e hp
    obtain ⟨e1, e2⟩ := pick_rows e l fun j hj => hl j (List.mem_cons_of_mem _ hj)
    have hh : (es.map (·.1))[i]? = some (p.1.hash w) := by rw [Array.getElem?_map, hr]; rfl
    constructor
    · rw [List.filterMap_cons_some hr, List.filterMap_cons_some hp, e1]; rfl
    · rw [List.filterMap_cons_some hp, List.map_cons, List.map_cons, e2]
      congr 1
      simp [Array.getD_eq_getD_getElem?, hh]
theorem all_from {α : Type} : ∀ (B A : List α), (List.range' A.length B.length).filterMap (fun i => (A ++ B)[i]?) = B
  | [], A => rfl
  | b :: B, A => by
    have e : (A ++ b :: B)[A.length]? = some b := by simp
    rw [List.length_cons, List.range'_succ, List.filterMap_cons_some e]
    have z := all_from B (A ++ [b])
    rw [List.length_append, List.append_assoc] at z
    exact congrArg (b :: ·) z
theorem all_places {α : Type} (L : List α) : (List.range L.length).filterMap (fun i => L[i]?) = L := by
  rw [List.range_eq_range']
  exact all_from L []
/-- THE TABLE LAID ANEW -/
theorem relay {o : Obj} (ho : s.heap.get? a = some o) (hex : o.ExactSet) (hd : o.data = .set es ep t) (rows : es.toList = L.map (row w)) (ps : t.place.size = es.size) (dm : t.dummies = #[]) (le : es.size ≤ t.mask)
    (once : (L.map (·.1)).Nodup) (keys : ∀ p ∈ L, Ky s.heap p.1 p.2) (pl : t.plain = true) (ld : w.params.followText "set-order" = true ∨ t.led = true) (few : L.length < 64) {n M : Nat}
    (hn : SetTable.sizeAbove n = M + 1) (hM : MaskOk M) (hr : L.length * 5 < M * 3) {Q : Unit → Shared → Prop}
    (q : ∀ h' L' es' ep' t', Heap.SameBut a s.heap h' → Held w h' a L' es' ep' t' → L'.Perm L → Q () { s with heap := h' }) : wpAny (model P w) A (setRelay a n) Q E s := by
  have sz := rows_size rows
  have m1 : M ≤ 127 := by rcases hM with e | e | e <;> omega
  obtain ⟨t', od, e1, pm, T, e2, e3, e4, e5⟩ := relaid_ok t (hs := es.map (·.1)) (wanted := n) (M := M) (by rw [hn]; rfl) hM (by rw [Array.size_map, sz]; omega)
  rw [Array.size_map, sz] at pm
  obtain ⟨p1, p2⟩ := pick_rows rows od.toList fun i hi => List.mem_range.mp (pm.mem_iff.mp hi)
  have pm2 : (od.toList.filterMap fun i => L[i]?).Perm L := by
    have z := pm.filterMap fun i => L[i]?
    rwa [all_places] at z
  generalize od.toList.filterMap (fun i => L[i]?) = L2 at p1 p2 pm2
  rw [← p2] at T
  have r1 : (od.filterMap (es[·]?)).toList = L2.map (row w) := by first | (rw [Array.toList_filterMap]; exact p1) | simpa using p1
  have r2 : (od.filterMap (es[·]?)).size = es.size := by rw [rows_size r1, pm2.length_eq, sz]
  rw [setRelay_eq]
  refine wpAny_bind (wpAny_setState_of ho hd (fits_of dm ps le) ?_)
  dsimp only
  refine wp_if_neg (by rw [hn, sizeLine_eq]; omega) ?_
  rw [e1]
  dsimp only
  refine wpAny_bind ?_
  refine wp_if_neg (by rw [r2]; simp) ?_
  refine wpAny_pure ?_
  dsimp only
  generalize od.filterMap (es[·]?) = es2 at r1 r2 ⊢
  refine wpAny_storeSet_of ho hd ?_ (by rw [r2, sz, sizeLine_eq]; omega)
  have sb : Heap.SameBut a s.heap (s.heap.update a (Obj.putSet es2 t')) := Heap.SameBut.update ..
  refine q _ L2 es2 (ep + 1) t' sb ⟨⟨_, store_at ho hd, ⟨hex.1, hex.2.1, hex.2.2⟩, rfl⟩, r1, T, (pm2.map _).nodup_iff.mpr once, fun p hp => (keys p (pm2.mem_iff.mp hp)).but ho hd sb, by rw [e4]; exact pl, by rw [e3]; exact ld, by rw [pm2.length_eq, e2]; exact hr, by rw [pm2.length_eq]; exact few⟩ pm2
/-- when a table gets full, and how large the next one is -/
theorem grow_at {m n : Nat} (hm : MaskOk m) (r : n * 5 < m * 3) (f : (n + 1) * 5 ≥ m * 3) (few : n + 1 < 64) : ∃ M, SetTable.sizeAbove (SetTable.grown (n + 1)) = M + 1 ∧ MaskOk M ∧ (n + 1) * 5 < M * 3 ∧ n + 1 ≤ m := by
  rcases hm with e | e | e
  · have z : n = 4 := by omega
    subst z
    exact ⟨31, size_20, .inr (.inl rfl), by omega, by omega⟩
  · have z : n = 18 := by omega
    subst z
    exact ⟨127, size_76, .inr (.inr rfl), by omega, by omega⟩
  · omega
/-- ONE KEY MORE -/
theorem put_in (R : Held w s.heap a L es ep t) {x : Addr} {k : NestedKey} (hx : Ky s.heap k x) (hu : A.units + 8 < cLine) (few0 : k ∉ L.map (·.1) → L.length + 1 < 64) {Q : Bool → Shared → Prop}
    (old : k ∈ L.map (·.1) → Q false s)
    (new : k ∉ L.map (·.1) → ∀ h' L' es' ep' t', Heap.SameBut a s.heap h' → Held w h' a L' es' ep' t' → L'.Perm ((k, x) :: L) → Q true { s with heap := h' }) :
    wpAny (model P w) A (setAddHashed a (.ref x) (k.hash w)) Q E s := by
  obtain ⟨o, ho, hex, hd⟩ := R.here
  have sl := R.slots
  have rm := R.room
  have sz := rows_size R.rows
  unfold setAddHashed
  refine wpAny_holding ?_
  rw [show (100000 : Nat) = 99999 + 1 from rfl, setAddHashedIn_succ]
  refine wpAny_bind (wpAny_setState_of ho hd R.fit ?_)
  dsimp only
  refine wp_if_neg (by simp [byScan, Value.scannable]) ?_
  refine wpAny_bind (seek_all R hx hu (fun hm => ?_) fun K hm free full => ?_)
  · dsimp only
    exact wpAny_pure (old hm)
  have few := few0 hm
  dsimp only
  refine wpAny_bind (wpAny_setState_of ho hd R.fit ?_)
  dsimp only
  obtain ⟨q1, q2, q3, q4, q5, q6, q7, q8, q9⟩ := R.tab.put free full
  generalize t.put (way t.mask (k.hash w) K) = pt at q1 q3 q4 q5 q6 q7 q8 q9 ⊢
  obtain ⟨t1, p⟩ := pt
  dsimp only at q1 q3 q4 q5 q6 q7 q8 q9 ⊢
  subst q1
  rw [R.plain] at q6
  generalize SetTable.below t.place (way t.mask (k.hash w) K) = p at q2 q3 ⊢
  have pm := put_perm L p (k, x)
  have rows1 : (SetTable.insertAt es p (k.hash w, Value.ref x)).toList = (L.take p ++ (k, x) :: L.drop p).map (row w) := by
    rw [SetTable.toList_insertAt, R.rows, List.map_append, List.map_cons, List.map_take, List.map_drop]; rfl
  have hs1 : (L.take p ++ (k, x) :: L.drop p).map (fun p => p.1.hash w) = (L.map fun p => p.1.hash w).take p ++ k.hash w :: (L.map fun p => p.1.hash w).drop p := by
    rw [List.map_append, List.map_cons, List.map_take, List.map_drop]
  rw [← hs1] at q3
  have once1 : ((L.take p ++ (k, x) :: L.drop p).map (·.1)).Nodup := (pm.map (·.1)).nodup_iff.mpr (List.nodup_cons.mpr ⟨hm, R.once⟩)
  generalize SetTable.insertAt es p (k.hash w, Value.ref x) = es1 at rows1 ⊢
  generalize L.take p ++ (k, x) :: L.drop p = L1 at pm q3 once1 rows1
  have l1 : L1.length = L.length + 1 := pm.length_eq
  have sz1 := rows_size rows1
  have sl1 : t1.place.size = es1.size := by
    have z := q3.sz
    rwa [List.length_map, ← sz1] at z
  first
    | (refine wpAny_bind ?_; refine wp_if_pos q6 ?_; refine by_value 8 k _ _ hx.is hx.dp hx.nt ?_)
    | refine wp_if_pos q6 (wpAny_bind (by_value 8 k _ _ hx.is hx.dp hx.nt ?_))
  simp only [if_true]
  refine wpAny_bind (wpAny_storeSet_of ho hd ?_ (by rw [sz1, sizeLine_eq]; omega))
  have sb : Heap.SameBut a s.heap (s.heap.update a (Obj.putSet es1 t1)) := Heap.SameBut.update ..
  have ho1 := store_at (es' := es1) (t' := t1) ho hd
  generalize s.heap.update a (Obj.putSet es1 t1) = h1 at sb ho1 ⊢
  have keys1 : ∀ p ∈ L1, Ky h1 p.1 p.2 := fun p hp => by
    rcases List.mem_cons.mp (pm.mem_iff.mp hp) with e | hp
    · rw [e]; exact hx.but ho hd sb
    · exact (R.keys p hp).but ho hd sb
  have led1 : w.params.followText "set-order" = true ∨ t1.led = true := by rw [q5]; exact R.led
  have full_iff : t1.tooFull = true ↔ (L.length + 1) * 5 ≥ t.mask * 3 := by
    unfold SetTable.tooFull
    rw [decide_eq_true_eq, q9, List.length_map, q4]
  by_cases hf : t1.tooFull = true
  · obtain ⟨M, m1, m2, m3, m4⟩ := grow_at R.tab.mok rm (full_iff.mp hf) few
    first
      | (refine wpAny_bind ?_; refine wp_if_pos (by simp [hf]) ?_)
      | (refine wp_if_pos (by simp [hf]) ?_; refine wpAny_bind ?_)
    rw [sz]
    exact relay (s := { s with heap := h1 }) ho1 ⟨hex.1, hex.2.1, hex.2.2⟩ rfl rows1 sl1 q3.dm (by rw [sz1, l1, q4]; exact m4) once1 keys1 q6 led1 (by rw [l1]; exact few) m1 m2 (by rw [l1]; exact m3)
      fun h2 L2 es2 ep2 t2 sb2 R2 pm2 => wpAny_pure (new hm h2 L2 es2 ep2 t2 (sb.trans sb2) R2 (pm2.trans pm))
  · have nf : ¬ (L.length + 1) * 5 ≥ t.mask * 3 := fun z => hf (full_iff.mpr z)
    first
      | refine wp_if_neg (by simp [hf]) ?_
      | (refine wpAny_bind ?_; refine wp_if_neg (by simp [hf]) ?_; refine wpAny_pure ?_)
    exact wpAny_pure (new hm h1 L1 es1 (ep + 1) t1 sb ⟨⟨_, ho1, ⟨hex.1, hex.2.1, hex.2.2⟩, rfl⟩, rows1, q3, once1, keys1, q6, led1, by rw [l1, q4]; omega, by rw [l1]; exact few⟩ pm)
end
end SN
set_option Elab.async false
set_option linter.all false
set_option maxRecDepth 100000
set_option maxHeartbeats 4000000
/-! set(xs), xs a list of keys of numbers, fewer than 64 different ones -/
namespace SN
open PySem PySem.Spec PyProof.Rows L2
/-- no more different ones than U has -/
theorem once_len : ∀ {l : List NestedKey} {U : List NestedKey}, l.Nodup → (∀ k ∈ l, k ∈ U) → l.length ≤ U.length
  | [], _, _, _ => Nat.zero_le _
  | k :: l, U, nd, h => by
    obtain ⟨n1, n2⟩ := List.nodup_cons.mp nd
    have z := once_len (l := l) (U := U.erase k) n2 fun k' hk' => (List.mem_erase_of_ne (fun e => n1 (by rw [← e]; exact hk'))).mpr (h k' (List.mem_cons_of_mem _ hk'))
    have hk := h k List.mem_cons_self
    rw [List.length_erase_of_mem hk] at z
    have pos : 0 < U.length := List.length_pos_of_mem hk
    rw [List.length_cons]
    omega
abbrev freshSet (w : World) : Obj := { cls := .type "set", dict := none, data := .set #[] 0 (.fresh 0 0 (!w.params.followText "set-order")) }
section
variable {P : Program} {w : World} {A : Around} {E : Value → Shared → Prop} {s : Shared} {U : List NestedKey}
theorem Held.keep {h h' : Heap} {a : Addr} {L : List (NestedKey × Addr)} {es : Array (Int × Value)} {ep : Nat} {t : SetTable} (R : Held w h a L es ep t) (ha : ∀ o, h.get? a = some o → h'.get? a = some o) (hk : ∀ p ∈ L, Ky h' p.1 p.2) : Held w h' a L es ep t :=
  let ⟨o, ho, r⟩ := R.here
  ⟨⟨o, ha o ho, r⟩, R.rows, R.tab, R.once, hk, R.plain, R.led, R.room, R.few⟩
theorem held_new {h : Heap} {a : Addr} (ho : h.get? a = some (freshSet w)) : Held w h a [] #[] 0 (.fresh 0 0 (!w.params.followText "set-order")) where
  here := ⟨_, ho, ⟨rfl, rfl, rfl⟩, rfl⟩
  rows := rfl
  tab := ⟨List.Pairwise.nil, rfl, rfl, .inl rfl, fun x hx => (by cases hx), fun i h j hi => (by simp at hi)⟩
  once := List.nodup_nil
  keys := fun p hp => (by cases hp)
  plain := rfl
  led := by
    show _ ∨ (!w.params.followText "set-order") = true
    cases w.params.followText "set-order"
    · exact .inr rfl
    · exact .inl rfl
  room := by show 0 * 5 < 7 * 3; decide
  few := by show 0 < 64; decide
/-- the loop that takes from an iterator and puts in -/
theorem fill {I : Addr} {fp wr : List Addr} {G : Array GenState → Array GenState → Prop} {n : Nat} {Pv : Nat → Value → Prop} {St : Nat → Shared → Prop} {R : Result → Shared → Prop} (W : WalksS P w A.in1 I fp wr G n Pv St) (S : Addr) (out : S ∉ fp)
    (h0 : Heap) (val : ∀ i v, Pv i v → ∃ k b, v = .ref b ∧ Ky h0 k b ∧ k ∈ U) (few : U.length < 64) (nS : h0.get? S = none) (nw : ∀ b ∈ wr, h0.get? b = none) (hu : A.in1.units + 8 < cLine) (left : Nat) :
    ∀ (i : Nat) (s : Shared), i + left = n → St i s → (∀ b o, h0.get? b = some o → s.heap.get? b = some o) → (∃ L es ep t, Held w s.heap S L es ep t ∧ ∀ p ∈ L, p.1 ∈ U ∧ Ky h0 p.1 p.2) →
      (∀ s', Moved (S :: wr) G s s' → (∃ L es ep t, Held w s'.heap S L es ep t ∧ ∀ p ∈ L, p.1 ∈ U) → (∀ b o, h0.get? b = some o → s'.heap.get? b = some o) → R (.ok (.ret .none)) s') →
      codeAny (model P w) A (.builtin "set.update.loop" ⟨[.ref S, .ref I], []⟩) R s := by
  have nin : S ∉ wr := fun h => out (W.sub _ h)
  have sub : ∀ b ∈ wr, b ∈ S :: wr := fun b hb => List.mem_cons_of_mem _ hb
  have old : ∀ {s s' : Shared}, Moved wr G s s' → (∀ b o, h0.get? b = some o → s.heap.get? b = some o) → ∀ b o, h0.get? b = some o → s'.heap.get? b = some o :=
    fun m k b o e => m.heap b o (fun hb => by rw [nw b hb] at e; cases e) (k b o e)
  induction left with
  | zero =>
    intro i s hi st kp ⟨L, es, ep, t, H, hL⟩ q
    obtain rfl : i = n := by omega
    refine codeAny_builtin F.entry_set_update_loop ?_
    rw [Around.under_plainId F.plain_set_update_loop _]
    show wpAny _ A.in1 (pyNext (.ref I) >>= _) _ _ s
    refine wpAny_bind (W.done s _ _ st fun s' m => ?_)
    show wpAny _ A.in1 (ret Value.none) _ _ s'
    have kp' := old m kp
    exact wpAny_pure (q s' (m.mono sub) ⟨L, es, ep, t, H.keep (fun o e => m.heap S o nin e) fun p hp => (hL p hp).2.keep kp', fun p hp => (hL p hp).1⟩ kp')
  | succ left ih =>
    intro i s hi st kp ⟨L, es, ep, t, H, hL⟩ q
    refine codeAny_builtin F.entry_set_update_loop ?_
    rw [Around.under_plainId F.plain_set_update_loop _]
    show wpAny _ A.in1 (pyNext (.ref I) >>= _) _ _ s
    refine wpAny_bind (W.item i s _ _ (by omega) st fun v s' pv st' m => ?_)
    obtain ⟨k, b, rfl, kb, kU⟩ := val i v pv
    have kp' := old m kp
    have H' : Held w s'.heap S L es ep t := H.keep (fun o e => m.heap S o nin e) fun p hp => (hL p hp).2.keep kp'
    have x : Ky s'.heap k b := kb.keep kp'
    show wpAny _ A.in1 (holding [Value.ref b] (setAdd S (.ref b)) >>= _) _ _ s'
    refine wpAny_bind (wpAny_holding ?_)
    unfold setAdd
    refine wpAny_holding ?_
    refine wpAny_bind ((nestedKind P w).pyHash hu x.kd ?_)
    have nx : ∀ (h' : Heap) (L' : List (NestedKey × Addr)) (es' : Array (Int × Value)) (ep' : Nat) (t' : SetTable), Heap.SameBut S s'.heap h' → Held w h' S L' es' ep' t' → (∀ p ∈ L', p.1 ∈ U ∧ Ky h0 p.1 p.2) →
        codeAny (model P w) A (.builtin "set.update.loop" ⟨[.ref S, .ref I], []⟩) R { s' with heap := h', toks := s'.toks + (nestedKind P w).draws k } := fun h' L' es' ep' t' sb H2 hL' => by
      have kp2 : ∀ b o, h0.get? b = some o → h'.get? b = some o := fun c o e => (sb.2 c (fun z => by rw [z, nS] at e; cases e)).trans (kp' c o e)
      refine ih (i + 1) _ (by omega) (W.frame _ s' _ _ st' (Nat.le_add_right _ _) fun c hc o e => ?_) kp2 ⟨L', es', ep', t', H2, hL'⟩ fun s2 m2 r2 kp3 => ?_
      · rw [sb.2 c (fun z : c = S => out (by rw [← z]; exact hc))]; exact e
      · refine q s2 (Moved.trans W.gtrans ((m.mono sub).then_heap (Nat.le_add_right _ _) fun c o hc e => ?_) m2) r2 kp3
        rw [sb.2 c (fun z : c = S => hc (by rw [z]; exact List.mem_cons_self))]; exact e
    by_cases hm : k ∈ L.map (·.1)
    · refine put_in (s := { s' with toks := s'.toks + (nestedKind P w).draws k }) H' x hu (fun z => absurd hm z) (fun _ => ?_) fun z => absurd hm z
      exact wpAny_pure ⟨plainId_quiet F.plain_set_update_loop _, nx s'.heap L es ep t (Heap.SameBut.refl S _) H' hL⟩
    · have l1 := once_len (l := k :: L.map (·.1)) (U := U) (List.nodup_cons.mpr ⟨hm, H'.once⟩) fun k' hk' => by
        rcases List.mem_cons.mp hk' with e | hk'
        · rw [e]; exact kU
        · obtain ⟨p, hp, e⟩ := List.mem_map.mp hk'; rw [← e]; exact (hL p hp).1
      rw [List.length_cons, List.length_map] at l1
      refine put_in (s := { s' with toks := s'.toks + (nestedKind P w).draws k }) H' x hu (fun _ => by omega) (fun z => absurd z hm) fun _ h' L' es' ep' t' sb H2 pm => ?_
      refine wpAny_pure ⟨plainId_quiet F.plain_set_update_loop _, nx h' L' es' ep' t' sb H2 fun p hp => ?_⟩
      rcases List.mem_cons.mp (pm.mem_iff.mp hp) with e | hp
      · rw [e]; exact ⟨kU, kb⟩
      · exact hL p hp
theorem none_at {h : Heap} {b : Addr} (hb : h.objs.size ≤ b) : h.get? b = none := by
  cases q : h.get? b with
  | none => rfl
  | some o => exact absurd (Nat.lt_of_lt_of_le (Heap.lt_size q) hb) (Nat.lt_irrefl _)
/-- what set(xs) has made -/
abbrev Made (w : World) (s : Shared) (U : List NestedKey) (s' : Shared) : Prop := ∃ h' tk, s' = { s with heap := h', toks := tk } ∧ (∃ L es ep t, Held w h' s.heap.objs.size L es ep t ∧ ∀ p ∈ L, p.1 ∈ U) ∧ ∀ b o, s.heap.get? b = some o → h'.get? b = some o
/-- set(xs) -/
theorem call_set {l : Addr} {items : Array Value} {Q : Value → Shared → Prop} (hh : A.handled = none) (hl : s.heap.IsList l items) (val : ∀ (i : Nat) v, items[i]? = some v → ∃ k b, v = .ref b ∧ Ky s.heap k b ∧ k ∈ U) (few : U.length < 64) (hu : A.units + 12 < cLine)
    (q : ∀ s', Made w s U s' → Q (.ref s.heap.objs.size) s') : wpAny (model P w) A (call (.type "set") [.ref l]) Q E s := by
  obtain ⟨_, _, hmro⟩ := F.called_set.mro
  have hmade := F.called_set.made
  have hsub := F.called_set.sub
  refine wpAny_call (codeAny_of_tree ?_)
  show wpAny _ _ (callAny (.type "set") _) _ _ _
  refine wpAny_pure ⟨Code.quiet_builtin _ (by decide +kernel), codeAny_builtin F.entry_type_call ?_⟩
  rw [Around.under_plain (weight_type_call_type "set" [.ref l] []) rfl]
  have f1 := F.called_set.notType
  have f2 := F.called_set.canCreate
  have f3 := F.typeCall_set_1 (.ref l)
  repeat (any_goals (first | assumption | wp_step))
  refine codeAny_mono (code_set_led1 (.ref l) (E := E) (Q₁ := fun v s1 => v = .ref s.heap.objs.size ∧ s1 = { s with heap := s.heap.push (freshSet w) }) ⟨rfl, rfl⟩) fun r s1 hr => ?_
  cases r with
  | error e => exact hr
  | ok fl =>
    cases fl with
    | ret v =>
      obtain ⟨rfl, rfl⟩ := hr
      have g0 : (s.heap.push (freshSet w)).get? s.heap.objs.size = some (freshSet w) := Heap.get?_push_size _ rfl
      have ty : Shared.TypeIs { s with heap := s.heap.push (freshSet w) } (.ref s.heap.objs.size) "set" := ⟨_, g0, rfl⟩
      have f4 := F.called_set.init.lookup
      have f5 := F.called_set.init.bind (.ref s.heap.objs.size)
      repeat (any_goals (first | assumption | wp_step))
      refine codeAny_mono (codeAny_call_builtin (R := wants (fun r s2 => r = .none ∧ Made w s U s2) E) F.called_set.init.plain F.entry_set_init (check_set_init_1 ty ?_)) fun r s2 hr => ?_
      · have in2 : (s.heap.push (freshSet w)).IsList l items := hl.push _
        have sl1 := F.sub_list_set
        have sl2 := F.sub_list_frozenset
        have sl3 : (Value.type "list" == Value.type "dict") = false := by decide
        have lt : l < s.heap.objs.size := Heap.lt_size hl.choose_spec.1
        have ne1 : l ≠ (s.heap.push (freshSet w)).objs.size := by rw [Heap.size_push]; exact Nat.ne_of_lt (Nat.lt_succ_of_lt lt)
        have out : s.heap.objs.size ∉ [(s.heap.push (freshSet w)).objs.size, l] := by
          rw [Heap.size_push]
          simp only [List.mem_cons, List.not_mem_nil, or_false, not_or]
          exact ⟨Nat.ne_of_lt (Nat.lt_succ_self _), Nat.ne_of_gt lt⟩
        obtain ⟨⟨c1, d1, dat1, sl1'⟩, g1, hc1, n1, hd1⟩ := id in2
        simp only at hc1 hd1
        subst hc1; subst hd1
        unfold Builtin.«set.__init__» noKeywords Builtin.Frozenset.updateFrom
        generalize ePI : pyIter = PI
        wp_walk
        subst ePI
        refine wpAny_pyIter_list in2 ?_
        refine wpAny_bind (wpAny_runValue ?_)
        refine fill ((Walks.list (show A.in1.in1.in1.handled = none by simp [hh]) _ l ne1 items).toS) s.heap.objs.size out s.heap val few (none_at (Nat.le_refl _))
          (fun b hb => none_at (by rw [List.mem_singleton.mp hb, Heap.size_push]; exact Nat.le_succ _)) (by show A.units + 1 + 1 + 1 + 8 < cLine; omega) items.size 0 _ (Nat.zero_add _)
          ⟨⟨_, Heap.get?_push_size _ rfl, rfl, rfl⟩, in2.push _⟩ (fun b o e => Heap.get?_push_of_some _ (Heap.get?_push_of_some _ e)) ⟨[], #[], 0, _, held_new (Heap.get?_push_of_some _ g0), fun p hp => by cases hp⟩ fun s' m H kp => ?_
        obtain ⟨h', g2, d', tk', os'⟩ := s'
        have eg : g2 = s.gens := m.gens
        have ed : d' = s.drawn := m.drawn
        have eo : os' = s.os := m.os
        subst eg ed eo
        show wpAny _ _ _ _ _ _
        refine wpAny_pure ?_
        show wpAny _ _ (ret Value.none) _ _ _
        exact wpAny_pure ⟨rfl, h', tk', rfl, H, kp⟩
      · cases r with
        | error e => exact hr
        | ok fl2 =>
          cases fl2 with
          | ret r =>
            obtain ⟨rfl, md⟩ := hr
            repeat (any_goals (first | assumption | wp_step))
            exact q _ md
          | _ => exact hr.elim
    | _ => exact hr.elim
end
end SN
set_option Elab.async false
set_option linter.all false
set_option maxRecDepth 100000
set_option maxHeartbeats 2000000
/-! len(set(xs)): no more than the different keys among xs -/
namespace DL
open PySem PySem.Spec PyProof.Rows L2
variable [FldTab]
section
variable {X : Cx}
theorem repL_at2 {h : DH} {H : Hp} : ∀ {ds : List D} {vs : List V} {us : List Value} {i : Nat} {u : Value}, RepL (kx X) h H ds vs → Vals vs us → us[i]? = some u → ∃ d v, d ∈ ds ∧ Rep (kx X) h H d v ∧ RelV v u
  | [], _, us, i, u, r, rv, e => by
    rw [show _ = [] from r] at rv
    cases rv
    simp at e
  | d :: ds, _, us, i, u, r, rv, e => by
    obtain ⟨v, vs', rfl, r1, r2⟩ := r
    cases rv with
    | cons a b =>
      cases i with
      | zero => cases e; exact ⟨d, v, List.mem_cons_self, r1, a⟩
      | succ i =>
        obtain ⟨d', v', m, q⟩ := repL_at2 r2 b (show _ = _ from e)
        exact ⟨d', v', List.mem_cons_of_mem _ m, q⟩
def tLenS (X : Cx) (ta : TE) : TE := fun σ H Q => ta σ H fun x H1 => ∃ (h : DH) (l : Addr) (ds : List D) (vs : List V) (U : List NestedKey), x = .ref l ∧ SqL X.K H1 l vs ∧ RepL (kx X) h H1 ds vs ∧
  (∀ d ∈ ds, isTk d = true ∧ SN.noTx (nk d) = true ∧ nk d ∈ U) ∧ U.length < 64 ∧ ∀ m : Nat, m ≤ U.length → Q (.int m) H1
theorem pe_lenS {a : Expr} {ta : TE} {p p2 q pos : Pos} {k : Nat} (hr : Room k X.A) (hc : X.calm = true) (hg : Gl X "len") (hm : X.mg "len" = none) (hg2 : Gl X "set") (hm2 : X.mg "set" = none) (ha : PE X a ta)
    (na : starEach [a] X.env = (false, eval a X.env) :: starEach [] X.env := by rfl) : PE X (.Call (.Name "len" p) [.Call (.Name "set" p2) [a] [] q] [] pos) (tLenS X ta) := by
  refine ⟨fun pins s σ H Q I h => ?_⟩
  refine Call_ (ld_blt I hg hm PySem.boot_len ?_)
  refine PyProof.Rows.callWith_builtin1 (PyProof.Rows.args_cons ?_ rfl) rfl rfl
  refine Call_ (ld_blt I hg2 hm2 PyProof.Rows.boot_set ?_)
  refine PyProof.Rows.callWith_type1 (PyProof.Rows.args_cons (thn (ha.run pins s σ H _ I h) fun v s1 ⟨x, H1, I1, r1, q1⟩ => PyProof.Rows.args_nil ?_) na) na rfl
  obtain ⟨h1, l, ds, vs, U, rfl, hq, rp, ok, few, q1⟩ := q1
  cases r1
  obtain ⟨its, r, pl, hz⟩ := I1.list hq
  refine SN.call_set (U := U) (I1.ok.hd hc) pl.isList (fun i v hv => ?_) few (by have z := room16 hr; omega) fun s2 md => ?_
  · obtain ⟨d, y, dm, ry, rv⟩ := repL_at2 rp r (i := i) (u := v) (by simpa using hv)
    obtain ⟨o1, o2, o3⟩ := ok d dm
    obtain ⟨b, e1, e2, e3⟩ := isTk_is I1 o1 ry rv
    exact ⟨nk d, b, e2, ⟨e3.1, e3.2, o2⟩, o3⟩
  obtain ⟨h', tk, rfl, ⟨L, es, ep, t, Hd, hL⟩, keep⟩ := md
  refine PyProof.Rows.args_nil ?_
  obtain ⟨o, ho, hex, hd⟩ := Hd.here
  have sz := SN.rows_size Hd.rows
  have le := SN.once_len (l := L.map (·.1)) (U := U) Hd.once fun k hk => by obtain ⟨p, hp, e⟩ := List.mem_map.mp hk; rw [← e]; exact hL p hp
  rw [List.length_map] at le
  have I2 : Inv X pins σ H1 { s1 with heap := h', toks := tk } := I1.kept keep
  have fit : t.fits es.size = true := SN.Held.fit (s := { s1 with heap := h', toks := tk }) Hd
  refine call_len_set ho hex hd fit (by rw [sz]; omega) ⟨.int L.length, H1, I2.tok _, ⟨_, by rw [sz]⟩, q1 _ le⟩
def rLenS (ta : TED) : TED := fun sd h Q => ta sd h fun d h1 => lstD d h1 fun ds => ∃ U : List NestedKey, (∀ d ∈ ds, isTk d = true ∧ SN.noTx (nk d) = true ∧ nk d ∈ U) ∧ U.length < 64 ∧ ∀ m : Nat, m ≤ U.length → Q (.int m) h1
theorem ed_lenS {a : Expr} {ta : TED} {p p2 q pos : Pos} {k : Nat} (hr : Room k X.A) (ha : ED X a ta) (hm : X.mg "len" = none := by rfl) (hm2 : X.mg "set" = none := by rfl) (hc : X.calm = true := by rfl) (hg : Gl X "len" := by rfl) (hg2 : Gl X "set" := by rfl)
    (na : starEach [a] X.env = (false, eval a X.env) :: starEach [] X.env := by rfl) : ED X (.Call (.Name "len" p) [.Call (.Name "set" p2) [a] [] q] [] pos) (rLenS ta) := by
  obtain ⟨t, pe, re⟩ := ha.ex
  refine ⟨_, pe_lenS hr hc hg hm hg2 hm2 pe na, fun σ H sd h Qd Q rs R q w => ?_⟩
  refine re σ H sd h _ _ rs R q fun v H1 d h1 f R1 r1 q1 => ?_
  obtain ⟨l, ds, vs, rfl, hl, rp, U, ok, few, q1⟩ := lstD_ok r1 R1 q1
  exact ⟨h1, l, ds, vs, U, rfl, SqL.of hl, rp, ok, few, fun m hm => w _ H1 (.int m) h1 f R1 rfl (q1 m hm)⟩
end
end DL
set_option Elab.async false
set_option linter.all false
set_option maxRecDepth 100000
set_option maxHeartbeats 1000000
/-! a statement before which a dict of a name goes out of reach of all writing: from there on it is a tree -/
namespace DL
open PySem PySem.Spec PyProof.Rows L2
variable [FldTab]
section
variable {X : Cx}
def rHide (i : Nat) (t : TSD) : TSD := fun Dd sd h => ∃ p ks vs, gs sd i = some (.ref p) ∧ h p = some (.dic ks vs) ∧ t Dd (ss sd i (.dv ks vs)) (del h p)
theorem sd_hide (i : Nat) {st : Stmt} {td : TSD} (hs : SDt X st td) : SDt X st (rHide i td) := by
  obtain ⟨t, ps, f⟩ := hs.ex
  refine ⟨t, ps, fun σ H sd h Dd D rs R q w => ?_⟩
  obtain ⟨p, ks, ds, e1, e2, q⟩ := q
  obtain ⟨v, e3, r⟩ := rs.2 i _ (gs_eq sd i _ e1)
  have ev : v = .ref p := r
  subst ev
  obtain ⟨_, us, vs, q1, q2, q3⟩ := R p _ e2
  refine f σ H _ _ Dd D ?_ R.del q (w.fr Fr.del)
  rw [ss_eq]
  have rs2 : RepS (kx X) (del h p) H sd σ := rs.fr (Fr.del (p := p))
  refine ⟨by rw [List.length_set]; exact rs2.1, fun j d hj => ?_⟩
  by_cases hij : i = j
  · subst hij
    have hl : i < sd.length := by
      rcases Nat.lt_or_ge i sd.length with z | z
      · exact z
      · rw [List.getElem?_eq_none (by rw [List.length_set]; exact z)] at hj; cases hj
    rw [List.getElem?_set_self hl] at hj
    cases hj
    exact ⟨.ref p, e3, p, us, vs, rfl, del_same, q1, RepL.fr Fr.del _ _ q2, RepL.fr Fr.del _ _ q3⟩
  · rw [List.getElem?_set_ne hij] at hj
    exact rs2.2 j d hj
end
end DL
set_option Elab.async false
set_option linter.all false
set_option maxRecDepth 100000
set_option maxHeartbeats 4000000
namespace LK
open PySem PySem.Spec PyProof.Rows L2 DL
def N__law_dice : List Str := ["_law_script", "_law_at", "_law_cell", "_law_great", "_law_left", "_law_mixed_here"]
theorem sc__law_dice : FnScope N__law_dice ["_law_script", "_law_at"] (defScope s__law_dice) := ⟨rfl, rfl, rfl, by decide +kernel, rfl, by decide +kernel, by decide +kernel⟩
def N__law_roll : List Str := ["_law_dice_here", "_law_total", "_law_number", "_law_drawn", "_law_one", "_law_two"]
theorem sc__law_roll : FnScope N__law_roll ["_law_dice_here", "_law_total"] (defScope s__law_roll) := ⟨rfl, rfl, rfl, by decide +kernel, rfl, by decide +kernel, by decide +kernel⟩
def N__law_one_of : List Str := ["_law_dice_here", "_law_items"]
theorem sc__law_one_of : FnScope N__law_one_of ["_law_dice_here", "_law_items"] (defScope s__law_one_of) := ⟨rfl, rfl, rfl, by decide +kernel, rfl, by decide +kernel, by decide +kernel⟩
def N__law_some_mode : List Str := ["_law_dice_here"]
theorem sc__law_some_mode : FnScope N__law_some_mode ["_law_dice_here"] (defScope s__law_some_mode) := ⟨rfl, rfl, rfl, by decide +kernel, rfl, by decide +kernel, by decide +kernel⟩
def N__law_mixed : List Str := ["_law_dice_here", "_law_items", "_law_left", "_law_found"]
theorem sc__law_mixed : FnScope N__law_mixed ["_law_dice_here", "_law_items"] (defScope s__law_mixed) := ⟨rfl, rfl, rfl, by decide +kernel, rfl, by decide +kernel, by decide +kernel⟩
def N__law_labels : List Str := ["_law_dice_here", "_law_total"]
theorem sc__law_labels : FnScope N__law_labels ["_law_dice_here", "_law_total"] (defScope s__law_labels) := ⟨rfl, rfl, rfl, by decide +kernel, rfl, by decide +kernel, by decide +kernel⟩
def N_is_mode : List Str := ["value"]
theorem sc_is_mode : FnScope N_is_mode ["value"] (defScope s_is_mode) := ⟨rfl, rfl, rfl, by decide +kernel, rfl, by decide +kernel, by decide +kernel⟩
def N_is_index : List Str := ["value", "total"]
theorem sc_is_index : FnScope N_is_index ["value", "total"] (defScope s_is_index) := ⟨rfl, rfl, rfl, by decide +kernel, rfl, by decide +kernel, by decide +kernel⟩
def N_is_name : List Str := ["value", "letter"]
theorem sc_is_name : FnScope N_is_name ["value"] (defScope s_is_name) := ⟨rfl, rfl, rfl, by decide +kernel, rfl, by decide +kernel, by decide +kernel⟩
def N_is_ascending : List Str := ["items", "one", "other"]
theorem sc_is_ascending : FnScope N_is_ascending ["items"] (defScope s_is_ascending) := ⟨rfl, rfl, rfl, by decide +kernel, rfl, by decide +kernel, by decide +kernel⟩
def N_is_marks : List Str := ["value", "marks", "mark"]
theorem sc_is_marks : FnScope N_is_marks ["value", "marks"] (defScope s_is_marks) := ⟨rfl, rfl, rfl, by decide +kernel, rfl, by decide +kernel, by decide +kernel⟩
def N_is_dotted : List Str := ["value", "name"]
theorem sc_is_dotted : FnScope N_is_dotted ["value"] (defScope s_is_dotted) := ⟨rfl, rfl, rfl, by decide +kernel, rfl, by decide +kernel, by decide +kernel⟩
def N_is_colour : List Str := ["value"]
theorem sc_is_colour : FnScope N_is_colour ["value"] (defScope s_is_colour) := ⟨rfl, rfl, rfl, by decide +kernel, rfl, by decide +kernel, by decide +kernel⟩
def N_is_open_rule : List Str := ["value", "mode", "marks", "total"]
theorem sc_is_open_rule : FnScope N_is_open_rule ["value", "mode", "marks", "total"] (defScope s_is_open_rule) := ⟨rfl, rfl, rfl, by decide +kernel, rfl, by decide +kernel, by decide +kernel⟩
def N_are_opens : List Str := ["value", "mode", "marks", "row", "rules", "label", "rule"]
theorem sc_are_opens : FnScope N_are_opens ["value", "mode", "marks"] (defScope s_are_opens) := ⟨rfl, rfl, rfl, by decide +kernel, rfl, by decide +kernel, by decide +kernel⟩
def N_is_close_key : List Str := ["value", "mode", "marks"]
theorem sc_is_close_key : FnScope N_is_close_key ["value", "mode", "marks"] (defScope s_is_close_key) := ⟨rfl, rfl, rfl, by decide +kernel, rfl, by decide +kernel, by decide +kernel⟩
def N_is_close_rule : List Str := ["value", "mode", "total"]
theorem sc_is_close_rule : FnScope N_is_close_rule ["value", "mode", "total"] (defScope s_is_close_rule) := ⟨rfl, rfl, rfl, by decide +kernel, rfl, by decide +kernel, by decide +kernel⟩
def N_are_closes : List Str := ["value", "mode", "marks", "total", "row", "rules", "key", "rule"]
theorem sc_are_closes : FnScope N_are_closes ["value", "mode", "marks", "total"] (defScope s_are_closes) := ⟨rfl, rfl, rfl, by decide +kernel, rfl, by decide +kernel, by decide +kernel⟩
def N_Rules_u__init_u_ : List Str := ["self", "mode", "marks", "opens", "closes", "label", "row", "key"]
theorem sc_Rules_u__init_u_ : FnScope N_Rules_u__init_u_ ["self", "mode", "marks", "opens", "closes"] (defScope s_Rules_u__init_u_) := ⟨rfl, rfl, rfl, by decide +kernel, rfl, by decide +kernel, by decide +kernel⟩
def N_checked_readers : List Str := ["mode", "marks", "opens", "closes"]
theorem sc_checked_readers : FnScope N_checked_readers ["mode", "marks", "opens", "closes"] (defScope s_checked_readers) := ⟨rfl, rfl, rfl, by decide +kernel, rfl, by decide +kernel, by decide +kernel⟩
def N_Reader_u__init_u_ : List Str := ["self", "mode", "marks", "opens", "closes", "rules"]
theorem sc_Reader_u__init_u_ : FnScope N_Reader_u__init_u_ ["self", "mode", "marks", "opens", "closes"] (defScope s_Reader_u__init_u_) := ⟨rfl, rfl, rfl, by decide +kernel, rfl, by decide +kernel, by decide +kernel⟩
def N__law_made_reader : List Str := ["_law_plain", "_law_opens", "_law_row", "_law_closes"]
theorem sc__law_made_reader : FnScope N__law_made_reader ["_law_plain"] (defScope s__law_made_reader) := ⟨rfl, rfl, rfl, by decide +kernel, rfl, by decide +kernel, by decide +kernel⟩
def N__law_reader : List Str := ["_law_dice_here", "_law_labels_here", "_law_mode", "_law_states", "_law_marks", "_law_colours", "_law_sets", "_law_mark", "_law_opens", "_law_closes", "_law_state", "_law_row", "_law_behind", "_law_label", "_law_rule", "_law_lying", "_law_key", "_law_later"]
theorem sc__law_reader : FnScope N__law_reader ["_law_dice_here", "_law_labels_here", "_law_mode", "_law_states", "_law_marks", "_law_colours"] (defScope s__law_reader) := ⟨rfl, rfl, rfl, by decide +kernel, rfl, by decide +kernel, by decide +kernel⟩
def N_Run_u__init_u_ : List Str := ["self", "reader", "events", "standing", "stack", "told"]
theorem sc_Run_u__init_u_ : FnScope N_Run_u__init_u_ ["self", "reader", "events", "standing", "stack", "told"] (defScope s_Run_u__init_u_) := ⟨rfl, rfl, rfl, by decide +kernel, rfl, by decide +kernel, by decide +kernel⟩
def N_every_mark : List Str := ["reader"]
theorem sc_every_mark : FnScope N_every_mark ["reader"] (defScope s_every_mark) := ⟨rfl, rfl, rfl, by decide +kernel, rfl, by decide +kernel, by decide +kernel⟩
def N_Reader_run : List Str := ["self"]
theorem sc_Reader_run : FnScope N_Reader_run ["self"] (defScope s_Reader_run) := ⟨rfl, rfl, rfl, by decide +kernel, rfl, by decide +kernel, by decide +kernel⟩
def N_Run_is_done : List Str := ["self"]
theorem sc_Run_is_done : FnScope N_Run_is_done ["self"] (defScope s_Run_is_done) := ⟨rfl, rfl, rfl, by decide +kernel, rfl, by decide +kernel, by decide +kernel⟩
def N_Run_way : List Str := ["self"]
theorem sc_Run_way : FnScope N_Run_way ["self"] (defScope s_Run_way) := ⟨rfl, rfl, rfl, by decide +kernel, rfl, by decide +kernel, by decide +kernel⟩
def N__law_close : List Str := ["_law_label", "_law_mode"]
theorem sc__law_close : FnScope N__law_close ["_law_label", "_law_mode"] (defScope s__law_close) := ⟨rfl, rfl, rfl, by decide +kernel, rfl, by decide +kernel, by decide +kernel⟩
def N_Run_reader : List Str := ["self"]
theorem sc_Run_reader : FnScope N_Run_reader ["self"] (defScope s_Run_reader) := ⟨rfl, rfl, rfl, by decide +kernel, rfl, by decide +kernel, by decide +kernel⟩
def N_Reader_mode : List Str := ["self"]
theorem sc_Reader_mode : FnScope N_Reader_mode ["self"] (defScope s_Reader_mode) := ⟨rfl, rfl, rfl, by decide +kernel, rfl, by decide +kernel, by decide +kernel⟩
def N__law_further : List Str := ["_law_run", "_law_labels_here", "_law_found", "_law_label"]
theorem sc__law_further : FnScope N__law_further ["_law_run", "_law_labels_here"] (defScope s__law_further) := ⟨rfl, rfl, rfl, by decide +kernel, rfl, by decide +kernel, by decide +kernel⟩
def N_is_event : List Str := ["value", "mode"]
theorem sc_is_event : FnScope N_is_event ["value", "mode"] (defScope s_is_event) := ⟨rfl, rfl, rfl, by decide +kernel, rfl, by decide +kernel, by decide +kernel⟩
def N_close_of : List Str := ["label", "mode"]
theorem sc_close_of : FnScope N_close_of ["label", "mode"] (defScope s_close_of) := ⟨rfl, rfl, rfl, by decide +kernel, rfl, by decide +kernel, by decide +kernel⟩
def N_can_come : List Str := ["event", "mode", "top", "is_first"]
theorem sc_can_come : FnScope N_can_come ["event", "mode", "top", "is_first"] (defScope s_can_come) := ⟨rfl, rfl, rfl, by decide +kernel, rfl, by decide +kernel, by decide +kernel⟩
def N_opened : List Str := ["reader", "state", "free", "label", "rule", "laid", "mark", "left"]
theorem sc_opened : FnScope N_opened ["reader", "state", "free", "label"] (defScope s_opened) := ⟨rfl, rfl, rfl, by decide +kernel, rfl, by decide +kernel, by decide +kernel⟩
def N_closed : List Str := ["reader", "state", "lying", "label", "key"]
theorem sc_closed : FnScope N_closed ["reader", "state", "lying", "label"] (defScope s_closed) := ⟨rfl, rfl, rfl, by decide +kernel, rfl, by decide +kernel, by decide +kernel⟩
def N_run_behind : List Str := ["run", "event", "reader", "late", "state", "free", "laid", "colour", "stack", "told"]
theorem sc_run_behind : FnScope N_run_behind ["run", "event"] (defScope s_run_behind) := ⟨rfl, rfl, rfl, by decide +kernel, rfl, by decide +kernel, by decide +kernel⟩
def N_Run_after : List Str := ["self", "event", "top"]
theorem sc_Run_after : FnScope N_Run_after ["self", "event"] (defScope s_Run_after) := ⟨rfl, rfl, rfl, by decide +kernel, rfl, by decide +kernel, by decide +kernel⟩
def N__law_all_runs : List Str := ["_law_made", "_law_labels_here", "_law_most", "_law_found", "_law_layer", "_law_turn", "_law_longer", "_law_run", "_law_step"]
theorem sc__law_all_runs : FnScope N__law_all_runs ["_law_made", "_law_labels_here", "_law_most"] (defScope s__law_all_runs) := ⟨rfl, rfl, rfl, by decide +kernel, rfl, by decide +kernel, by decide +kernel⟩
def N_Run_state : List Str := ["self"]
theorem sc_Run_state : FnScope N_Run_state ["self"] (defScope s_Run_state) := ⟨rfl, rfl, rfl, by decide +kernel, rfl, by decide +kernel, by decide +kernel⟩
def N_Run_lying : List Str := ["self"]
theorem sc_Run_lying : FnScope N_Run_lying ["self"] (defScope s_Run_lying) := ⟨rfl, rfl, rfl, by decide +kernel, rfl, by decide +kernel, by decide +kernel⟩
def N__law_standing : List Str := ["_law_run"]
theorem sc__law_standing : FnScope N__law_standing ["_law_run"] (defScope s__law_standing) := ⟨rfl, rfl, rfl, by decide +kernel, rfl, by decide +kernel, by decide +kernel⟩
def N_Run_free : List Str := ["self"]
theorem sc_Run_free : FnScope N_Run_free ["self"] (defScope s_Run_free) := ⟨rfl, rfl, rfl, by decide +kernel, rfl, by decide +kernel, by decide +kernel⟩
def N_Run_told : List Str := ["self"]
theorem sc_Run_told : FnScope N_Run_told ["self"] (defScope s_Run_told) := ⟨rfl, rfl, rfl, by decide +kernel, rfl, by decide +kernel, by decide +kernel⟩
def N__law_next_right : List Str := ["_law_run", "_law_other", "_law_labels_here", "_law_steps", "_law_step", "_law_one", "_law_two"]
theorem sc__law_next_right : FnScope N__law_next_right ["_law_run", "_law_other", "_law_labels_here"] (defScope s__law_next_right) := ⟨rfl, rfl, rfl, by decide +kernel, rfl, by decide +kernel, by decide +kernel⟩
def N__law_right : List Str := ["_law_dice_here", "_law_labels_here", "_law_mode", "_law_states", "_law_marks", "_law_made", "_law_first", "_law_depths", "_law_run", "_law_known", "_law_depth"]
theorem sc__law_right : FnScope N__law_right ["_law_dice_here"] (defScope s__law_right) := ⟨rfl, rfl, rfl, by decide +kernel, rfl, by decide +kernel, by decide +kernel⟩
def N_Run_through : List Str := ["self", "events", "found", "event"]
theorem sc_Run_through : FnScope N_Run_through ["self", "events"] (defScope s_Run_through) := ⟨rfl, rfl, rfl, by decide +kernel, rfl, by decide +kernel, by decide +kernel⟩
def N_law : List Str := ["_law_script", "_law_at", "_law_dice_here", "_law_turn", "_law_one", "_law_done"]
theorem sc_law : FnScope N_law ["_law_script"] (defScope s_law) := ⟨rfl, rfl, rfl, by decide +kernel, rfl, by decide +kernel, by decide +kernel⟩
/-- what the head tells -/
structure Md (K : PySem.W.Frag) (mg : Str → Option Value) : Prop where
  c : He.SaysD fa fn K
  e : exB K = true
  g : ∃ h : Heap, K.In h ∧ h.Ns mainGlobals mg
  gw : gn.map (DL.gtW K) = gn.map He.DefD.val
section
variable {P : Program} {w : World} {K : PySem.W.Frag} {mg : Str → Option Value} {base : Heap}
theorem Md.ex (M : Md K mg) : (fx.all fun f => f.ok K) = true := (Bool.and_eq_true_iff.mp M.e).1
theorem Md.ey (M : Md K mg) : (fy.all fun f => f.ok K) = true := (Bool.and_eq_true_iff.mp (Bool.and_eq_true_iff.mp M.e).2).1
theorem Md.gt (M : Md K mg) : DL.Gts K gn := ⟨M.gw, (Bool.and_eq_true_iff.mp (Bool.and_eq_true_iff.mp M.e).2).2⟩
theorem Md.glo__law_dice (M : Md K mg) : mg "_law_dice" = some (.ref (He.ga K "_law_dice")) := let ⟨_, kx, G⟩ := M.g; He.glo_ok kx G (M.c.fact 0 (f := .glo "_law_dice") rfl)
theorem Md.glo__law_roll (M : Md K mg) : mg "_law_roll" = some (.ref (He.ga K "_law_roll")) := let ⟨_, kx, G⟩ := M.g; He.glo_ok kx G (M.c.fact 1 (f := .glo "_law_roll") rfl)
theorem Md.glo__law_one_of (M : Md K mg) : mg "_law_one_of" = some (.ref (He.ga K "_law_one_of")) := let ⟨_, kx, G⟩ := M.g; He.glo_ok kx G (M.c.fact 2 (f := .glo "_law_one_of") rfl)
theorem Md.glo__law_some_mode (M : Md K mg) : mg "_law_some_mode" = some (.ref (He.ga K "_law_some_mode")) := let ⟨_, kx, G⟩ := M.g; He.glo_ok kx G (M.c.fact 3 (f := .glo "_law_some_mode") rfl)
theorem Md.glo__law_mixed (M : Md K mg) : mg "_law_mixed" = some (.ref (He.ga K "_law_mixed")) := let ⟨_, kx, G⟩ := M.g; He.glo_ok kx G (M.c.fact 4 (f := .glo "_law_mixed") rfl)
theorem Md.glo__law_labels (M : Md K mg) : mg "_law_labels" = some (.ref (He.ga K "_law_labels")) := let ⟨_, kx, G⟩ := M.g; He.glo_ok kx G (M.c.fact 5 (f := .glo "_law_labels") rfl)
theorem Md.glo_is_mode (M : Md K mg) : mg "is_mode" = some (.ref (He.ga K "is_mode")) := let ⟨_, kx, G⟩ := M.g; He.glo_ok kx G (M.c.fact 6 (f := .glo "is_mode") rfl)
theorem Md.glo_is_index (M : Md K mg) : mg "is_index" = some (.ref (He.ga K "is_index")) := let ⟨_, kx, G⟩ := M.g; He.glo_ok kx G (M.c.fact 7 (f := .glo "is_index") rfl)
theorem Md.glo_is_name (M : Md K mg) : mg "is_name" = some (.ref (He.ga K "is_name")) := let ⟨_, kx, G⟩ := M.g; He.glo_ok kx G (M.c.fact 8 (f := .glo "is_name") rfl)
theorem Md.glo_is_ascending (M : Md K mg) : mg "is_ascending" = some (.ref (He.ga K "is_ascending")) := let ⟨_, kx, G⟩ := M.g; He.glo_ok kx G (M.c.fact 9 (f := .glo "is_ascending") rfl)
theorem Md.glo_is_marks (M : Md K mg) : mg "is_marks" = some (.ref (He.ga K "is_marks")) := let ⟨_, kx, G⟩ := M.g; He.glo_ok kx G (M.c.fact 10 (f := .glo "is_marks") rfl)
theorem Md.glo_is_dotted (M : Md K mg) : mg "is_dotted" = some (.ref (He.ga K "is_dotted")) := let ⟨_, kx, G⟩ := M.g; He.glo_ok kx G (M.c.fact 11 (f := .glo "is_dotted") rfl)
theorem Md.glo_is_colour (M : Md K mg) : mg "is_colour" = some (.ref (He.ga K "is_colour")) := let ⟨_, kx, G⟩ := M.g; He.glo_ok kx G (M.c.fact 12 (f := .glo "is_colour") rfl)
theorem Md.glo_is_open_rule (M : Md K mg) : mg "is_open_rule" = some (.ref (He.ga K "is_open_rule")) := let ⟨_, kx, G⟩ := M.g; He.glo_ok kx G (M.c.fact 13 (f := .glo "is_open_rule") rfl)
theorem Md.glo_are_opens (M : Md K mg) : mg "are_opens" = some (.ref (He.ga K "are_opens")) := let ⟨_, kx, G⟩ := M.g; He.glo_ok kx G (M.c.fact 14 (f := .glo "are_opens") rfl)
theorem Md.glo_is_close_key (M : Md K mg) : mg "is_close_key" = some (.ref (He.ga K "is_close_key")) := let ⟨_, kx, G⟩ := M.g; He.glo_ok kx G (M.c.fact 15 (f := .glo "is_close_key") rfl)
theorem Md.glo_is_close_rule (M : Md K mg) : mg "is_close_rule" = some (.ref (He.ga K "is_close_rule")) := let ⟨_, kx, G⟩ := M.g; He.glo_ok kx G (M.c.fact 16 (f := .glo "is_close_rule") rfl)
theorem Md.glo_are_closes (M : Md K mg) : mg "are_closes" = some (.ref (He.ga K "are_closes")) := let ⟨_, kx, G⟩ := M.g; He.glo_ok kx G (M.c.fact 17 (f := .glo "are_closes") rfl)
theorem Md.glo_checked_readers (M : Md K mg) : mg "checked_readers" = some (.ref (He.ga K "checked_readers")) := let ⟨_, kx, G⟩ := M.g; He.glo_ok kx G (M.c.fact 18 (f := .glo "checked_readers") rfl)
theorem Md.glo__law_made_reader (M : Md K mg) : mg "_law_made_reader" = some (.ref (He.ga K "_law_made_reader")) := let ⟨_, kx, G⟩ := M.g; He.glo_ok kx G (M.c.fact 19 (f := .glo "_law_made_reader") rfl)
theorem Md.glo__law_reader (M : Md K mg) : mg "_law_reader" = some (.ref (He.ga K "_law_reader")) := let ⟨_, kx, G⟩ := M.g; He.glo_ok kx G (M.c.fact 20 (f := .glo "_law_reader") rfl)
theorem Md.glo_every_mark (M : Md K mg) : mg "every_mark" = some (.ref (He.ga K "every_mark")) := let ⟨_, kx, G⟩ := M.g; He.glo_ok kx G (M.c.fact 21 (f := .glo "every_mark") rfl)
theorem Md.glo__law_close (M : Md K mg) : mg "_law_close" = some (.ref (He.ga K "_law_close")) := let ⟨_, kx, G⟩ := M.g; He.glo_ok kx G (M.c.fact 22 (f := .glo "_law_close") rfl)
theorem Md.glo__law_further (M : Md K mg) : mg "_law_further" = some (.ref (He.ga K "_law_further")) := let ⟨_, kx, G⟩ := M.g; He.glo_ok kx G (M.c.fact 23 (f := .glo "_law_further") rfl)
theorem Md.glo_is_event (M : Md K mg) : mg "is_event" = some (.ref (He.ga K "is_event")) := let ⟨_, kx, G⟩ := M.g; He.glo_ok kx G (M.c.fact 24 (f := .glo "is_event") rfl)
theorem Md.glo_close_of (M : Md K mg) : mg "close_of" = some (.ref (He.ga K "close_of")) := let ⟨_, kx, G⟩ := M.g; He.glo_ok kx G (M.c.fact 25 (f := .glo "close_of") rfl)
theorem Md.glo_can_come (M : Md K mg) : mg "can_come" = some (.ref (He.ga K "can_come")) := let ⟨_, kx, G⟩ := M.g; He.glo_ok kx G (M.c.fact 26 (f := .glo "can_come") rfl)
theorem Md.glo_opened (M : Md K mg) : mg "opened" = some (.ref (He.ga K "opened")) := let ⟨_, kx, G⟩ := M.g; He.glo_ok kx G (M.c.fact 27 (f := .glo "opened") rfl)
theorem Md.glo_closed (M : Md K mg) : mg "closed" = some (.ref (He.ga K "closed")) := let ⟨_, kx, G⟩ := M.g; He.glo_ok kx G (M.c.fact 28 (f := .glo "closed") rfl)
theorem Md.glo_run_behind (M : Md K mg) : mg "run_behind" = some (.ref (He.ga K "run_behind")) := let ⟨_, kx, G⟩ := M.g; He.glo_ok kx G (M.c.fact 29 (f := .glo "run_behind") rfl)
theorem Md.glo__law_all_runs (M : Md K mg) : mg "_law_all_runs" = some (.ref (He.ga K "_law_all_runs")) := let ⟨_, kx, G⟩ := M.g; He.glo_ok kx G (M.c.fact 30 (f := .glo "_law_all_runs") rfl)
theorem Md.glo__law_standing (M : Md K mg) : mg "_law_standing" = some (.ref (He.ga K "_law_standing")) := let ⟨_, kx, G⟩ := M.g; He.glo_ok kx G (M.c.fact 31 (f := .glo "_law_standing") rfl)
theorem Md.glo__law_next_right (M : Md K mg) : mg "_law_next_right" = some (.ref (He.ga K "_law_next_right")) := let ⟨_, kx, G⟩ := M.g; He.glo_ok kx G (M.c.fact 32 (f := .glo "_law_next_right") rfl)
theorem Md.glo__law_right (M : Md K mg) : mg "_law_right" = some (.ref (He.ga K "_law_right")) := let ⟨_, kx, G⟩ := M.g; He.glo_ok kx G (M.c.fact 33 (f := .glo "_law_right") rfl)
theorem Md.glo_law (M : Md K mg) : mg "law" = some (.ref (He.ga K "law")) := let ⟨_, kx, G⟩ := M.g; He.glo_ok kx G (M.c.fact 34 (f := .glo "law") rfl)
theorem Md.glo_Reader (M : Md K mg) : mg "Reader" = some (.ref (He.ga K "Reader")) := let ⟨_, kx, G⟩ := M.g; He.glo_ok kx G (M.c.fact 35 (f := .glo "Reader") rfl)
theorem Md.glo_Rules (M : Md K mg) : mg "Rules" = some (.ref (He.ga K "Rules")) := let ⟨_, kx, G⟩ := M.g; He.glo_ok kx G (M.c.fact 36 (f := .glo "Rules") rfl)
theorem Md.glo_Run (M : Md K mg) : mg "Run" = some (.ref (He.ga K "Run")) := let ⟨_, kx, G⟩ := M.g; He.glo_ok kx G (M.c.fact 37 (f := .glo "Run") rfl)
theorem Md.free_abs (M : Md K mg) : mg "abs" = none := let ⟨_, kx, G⟩ := M.g; He.free_ok kx G (M.c.fact 38 (f := .free "abs") rfl)
theorem Md.free_all (M : Md K mg) : mg "all" = none := let ⟨_, kx, G⟩ := M.g; He.free_ok kx G (M.c.fact 39 (f := .free "all") rfl)
theorem Md.free_bool (M : Md K mg) : mg "bool" = none := let ⟨_, kx, G⟩ := M.g; He.free_ok kx G (M.c.fact 40 (f := .free "bool") rfl)
theorem Md.free_dict (M : Md K mg) : mg "dict" = none := let ⟨_, kx, G⟩ := M.g; He.free_ok kx G (M.c.fact 41 (f := .free "dict") rfl)
theorem Md.free_int (M : Md K mg) : mg "int" = none := let ⟨_, kx, G⟩ := M.g; He.free_ok kx G (M.c.fact 42 (f := .free "int") rfl)
theorem Md.free_isinstance (M : Md K mg) : mg "isinstance" = none := let ⟨_, kx, G⟩ := M.g; He.free_ok kx G (M.c.fact 43 (f := .free "isinstance") rfl)
theorem Md.free_len (M : Md K mg) : mg "len" = none := let ⟨_, kx, G⟩ := M.g; He.free_ok kx G (M.c.fact 44 (f := .free "len") rfl)
theorem Md.free_list (M : Md K mg) : mg "list" = none := let ⟨_, kx, G⟩ := M.g; He.free_ok kx G (M.c.fact 45 (f := .free "list") rfl)
theorem Md.free_max (M : Md K mg) : mg "max" = none := let ⟨_, kx, G⟩ := M.g; He.free_ok kx G (M.c.fact 46 (f := .free "max") rfl)
theorem Md.free_min (M : Md K mg) : mg "min" = none := let ⟨_, kx, G⟩ := M.g; He.free_ok kx G (M.c.fact 47 (f := .free "min") rfl)
theorem Md.free_range (M : Md K mg) : mg "range" = none := let ⟨_, kx, G⟩ := M.g; He.free_ok kx G (M.c.fact 48 (f := .free "range") rfl)
theorem Md.free_set (M : Md K mg) : mg "set" = none := let ⟨_, kx, G⟩ := M.g; He.free_ok kx G (M.c.fact 49 (f := .free "set") rfl)
theorem Md.free_sorted (M : Md K mg) : mg "sorted" = none := let ⟨_, kx, G⟩ := M.g; He.free_ok kx G (M.c.fact 50 (f := .free "sorted") rfl)
theorem Md.free_str (M : Md K mg) : mg "str" = none := let ⟨_, kx, G⟩ := M.g; He.free_ok kx G (M.c.fact 51 (f := .free "str") rfl)
theorem Md.free_tuple (M : Md K mg) : mg "tuple" = none := let ⟨_, kx, G⟩ := M.g; He.free_ok kx G (M.c.fact 52 (f := .free "tuple") rfl)
theorem Md.free_zip (M : Md K mg) : mg "zip" = none := let ⟨_, kx, G⟩ := M.g; He.free_ok kx G (M.c.fact 53 (f := .free "zip") rfl)
theorem Md.ref_Reader (M : Md K mg) : DL.GVal ⟨P, w, K⟩ mg "Reader" (.ref (He.ga K "Reader")) := ⟨.ref _, _, M.glo_Reader, rfl, fun _ _ => rfl⟩
theorem Md.ref_Rules (M : Md K mg) : DL.GVal ⟨P, w, K⟩ mg "Rules" (.ref (He.ga K "Rules")) := ⟨.ref _, _, M.glo_Rules, rfl, fun _ _ => rfl⟩
theorem Md.ref_Run (M : Md K mg) : DL.GVal ⟨P, w, K⟩ mg "Run" (.ref (He.ga K "Run")) := ⟨.ref _, _, M.glo_Run, rfl, fun _ _ => rfl⟩
theorem Md.con_CLOSE (M : Md K mg) : DL.GVal ⟨P, w, K⟩ mg "CLOSE" (.str "close") := let ⟨_, kx, G⟩ := M.g; DL.Fx.con_ok kx G (DL.fx_at M.ex 0 (f := .con "CLOSE" (.str "close")) rfl)
theorem Md.con_LATE (M : Md K mg) : DL.GVal ⟨P, w, K⟩ mg "LATE" (.str "late") := let ⟨_, kx, G⟩ := M.g; DL.Fx.con_ok kx G (DL.fx_at M.ex 1 (f := .con "LATE" (.str "late")) rfl)
theorem Md.con_MAX_COLOUR (M : Md K mg) : DL.GVal ⟨P, w, K⟩ mg "MAX_COLOUR" (.int 4) := let ⟨_, kx, G⟩ := M.g; DL.Fx.con_ok kx G (DL.fx_at M.ex 2 (f := .con "MAX_COLOUR" (.int 4)) rfl)
theorem Md.con_MAX_LETTERS (M : Md K mg) : DL.GVal ⟨P, w, K⟩ mg "MAX_LETTERS" (.int 8) := let ⟨_, kx, G⟩ := M.g; DL.Fx.con_ok kx G (DL.fx_at M.ex 3 (f := .con "MAX_LETTERS" (.int 8)) rfl)
theorem Md.con_MAX_MARKS (M : Md K mg) : DL.GVal ⟨P, w, K⟩ mg "MAX_MARKS" (.int 2) := let ⟨_, kx, G⟩ := M.g; DL.Fx.con_ok kx G (DL.fx_at M.ex 4 (f := .con "MAX_MARKS" (.int 2)) rfl)
theorem Md.con_MAX_READER (M : Md K mg) : DL.GVal ⟨P, w, K⟩ mg "MAX_READER" (.int 10) := let ⟨_, kx, G⟩ := M.g; DL.Fx.con_ok kx G (DL.fx_at M.ex 5 (f := .con "MAX_READER" (.int 10)) rfl)
theorem Md.con_MODES (M : Md K mg) : DL.GVal ⟨P, w, K⟩ mg "MODES" (.tup [(.str "bare"), (.str "late"), (.str "named")]) := let ⟨_, kx, G⟩ := M.g; DL.Fx.con_ok kx G (DL.fx_at M.ex 6 (f := .con "MODES" (.tup [(.str "bare"), (.str "late"), (.str "named")])) rfl)
theorem Md.con_NAMED (M : Md K mg) : DL.GVal ⟨P, w, K⟩ mg "NAMED" (.str "named") := let ⟨_, kx, G⟩ := M.g; DL.Fx.con_ok kx G (DL.fx_at M.ex 7 (f := .con "NAMED" (.str "named")) rfl)
theorem Md.con_OPEN (M : Md K mg) : DL.GVal ⟨P, w, K⟩ mg "OPEN" (.str "open") := let ⟨_, kx, G⟩ := M.g; DL.Fx.con_ok kx G (DL.fx_at M.ex 8 (f := .con "OPEN" (.str "open")) rfl)
theorem Md.md_Reader_run (M : Md K mg) : DL.MethD K (He.ga K "Reader") "run" (He.ma K (He.ga K "Reader") "run") := DL.Fx.meth_ok (DL.fx_at M.ex 24 (f := .meth "Reader" "run") rfl)
theorem Md.md_Run_after (M : Md K mg) : DL.MethD K (He.ga K "Run") "after" (He.ma K (He.ga K "Run") "after") := DL.Fx.meth_ok (DL.fx_at M.ex 25 (f := .meth "Run" "after") rfl)
theorem Md.md_Run_through (M : Md K mg) : DL.MethD K (He.ga K "Run") "through" (He.ma K (He.ga K "Run") "through") := DL.Fx.meth_ok (DL.fx_at M.ex 26 (f := .meth "Run" "through") rfl)
theorem Md.mk_Reader (M : Md K mg) : Mk K (He.ga K "Reader") (He.ma K (He.ga K "Reader") "__init__") := DL.Fx.mk_ok (DL.fx_at M.ex 27 (f := .mk "Reader") rfl)
theorem Md.mk_Rules (M : Md K mg) : Mk K (He.ga K "Rules") (He.ma K (He.ga K "Rules") "__init__") := DL.Fx.mk_ok (DL.fx_at M.ex 28 (f := .mk "Rules") rfl)
theorem Md.mk_Run (M : Md K mg) : Mk K (He.ga K "Run") (He.ma K (He.ga K "Run") "__init__") := DL.Fx.mk_ok (DL.fx_at M.ex 29 (f := .mk "Run") rfl)
theorem Md.ci_Reader (M : Md K mg) : DL.ClsI K (He.ga K "Reader") := DL.Fx.ci_ok (DL.fx_at M.ex 30 (f := .ci "Reader") rfl)
theorem Md.ci_Rules (M : Md K mg) : DL.ClsI K (He.ga K "Rules") := DL.Fx.ci_ok (DL.fx_at M.ex 31 (f := .ci "Rules") rfl)
theorem Md.ci_Run (M : Md K mg) : DL.ClsI K (He.ga K "Run") := DL.Fx.ci_ok (DL.fx_at M.ex 32 (f := .ci "Run") rfl)
theorem Md.kit_int_int (M : Md K mg) : PySem.W.kitOne K (DL.KT.v K (.ty "int")) (DL.KT.v K (.ty "int")) = some true := DL.Fx.kit_ok (DL.fx_at M.ex 33 (f := .kit (.ty "int") (.ty "int") true) rfl)
theorem Md.kit_int_bool (M : Md K mg) : PySem.W.kitOne K (DL.KT.v K (.ty "int")) (DL.KT.v K (.ty "bool")) = some false := DL.Fx.kit_ok (DL.fx_at M.ex 34 (f := .kit (.ty "int") (.ty "bool") false) rfl)
theorem Md.kit_str_str (M : Md K mg) : PySem.W.kitOne K (DL.KT.v K (.ty "str")) (DL.KT.v K (.ty "str")) = some true := DL.Fx.kit_ok (DL.fx_at M.ex 35 (f := .kit (.ty "str") (.ty "str") true) rfl)
theorem Md.kit_tuple_tuple (M : Md K mg) : PySem.W.kitOne K (DL.KT.v K (.ty "tuple")) (DL.KT.v K (.ty "tuple")) = some true := DL.Fx.kit_ok (DL.fx_at M.ex 36 (f := .kit (.ty "tuple") (.ty "tuple") true) rfl)
theorem Md.kit_dict_dict (M : Md K mg) : PySem.W.kitOne K (DL.KT.v K (.ty "dict")) (DL.KT.v K (.ty "dict")) = some true := DL.Fx.kit_ok (DL.fx_at M.ex 37 (f := .kit (.ty "dict") (.ty "dict") true) rfl)
theorem Md.kit_str_Rules (M : Md K mg) : PySem.W.kitOne K (DL.KT.v K (.ty "str")) (DL.KT.v K (.cl "Rules")) = some false := DL.Fx.kit_ok (DL.fx_at M.ex 38 (f := .kit (.ty "str") (.cl "Rules") false) rfl)
theorem Md.kit_Rules_Rules (M : Md K mg) : PySem.W.kitOne K (DL.KT.v K (.cl "Rules")) (DL.KT.v K (.cl "Rules")) = some true := DL.Fx.kit_ok (DL.fx_at M.ex 39 (f := .kit (.cl "Rules") (.cl "Rules") true) rfl)
theorem Md.kit_Run_Run (M : Md K mg) : PySem.W.kitOne K (DL.KT.v K (.cl "Run")) (DL.KT.v K (.cl "Run")) = some true := DL.Fx.kit_ok (DL.fx_at M.ex 40 (f := .kit (.cl "Run") (.cl "Run") true) rfl)
theorem Md.kit_Reader_Reader (M : Md K mg) : PySem.W.kitOne K (DL.KT.v K (.cl "Reader")) (DL.KT.v K (.cl "Reader")) = some true := DL.Fx.kit_ok (DL.fx_at M.ex 41 (f := .kit (.cl "Reader") (.cl "Reader") true) rfl)
theorem Md.dis_Rules_Reader (M : Md K mg) : He.ga K "Rules" ≠ He.ga K "Reader" := DL.Fx.dis_ok (DL.fx_at M.ex 42 (f := .dis "Rules" "Reader") rfl)
theorem Md.dis_Rules_Run (M : Md K mg) : He.ga K "Rules" ≠ He.ga K "Run" := DL.Fx.dis_ok (DL.fx_at M.ex 43 (f := .dis "Rules" "Run") rfl)
theorem Md.dis_Reader_Run (M : Md K mg) : He.ga K "Reader" ≠ He.ga K "Run" := DL.Fx.dis_ok (DL.fx_at M.ex 44 (f := .dis "Reader" "Run") rfl)
theorem Md.pr_Reader_mode (M : Md K mg) : DL.PropD K (He.ga K "Reader") "mode" (DL.gtAd K (He.ga K "Reader") "mode") := DL.Fy.prop_ok (DL.fy_at M.ey 0 (f := .prop "Reader" "mode") rfl)
theorem Md.pr_Run_free (M : Md K mg) : DL.PropD K (He.ga K "Run") "free" (DL.gtAd K (He.ga K "Run") "free") := DL.Fy.prop_ok (DL.fy_at M.ey 1 (f := .prop "Run" "free") rfl)
theorem Md.pr_Run_is_done (M : Md K mg) : DL.PropD K (He.ga K "Run") "is_done" (DL.gtAd K (He.ga K "Run") "is_done") := DL.Fy.prop_ok (DL.fy_at M.ey 2 (f := .prop "Run" "is_done") rfl)
theorem Md.pr_Run_lying (M : Md K mg) : DL.PropD K (He.ga K "Run") "lying" (DL.gtAd K (He.ga K "Run") "lying") := DL.Fy.prop_ok (DL.fy_at M.ey 3 (f := .prop "Run" "lying") rfl)
theorem Md.pr_Run_reader (M : Md K mg) : DL.PropD K (He.ga K "Run") "reader" (DL.gtAd K (He.ga K "Run") "reader") := DL.Fy.prop_ok (DL.fy_at M.ey 4 (f := .prop "Run" "reader") rfl)
theorem Md.pr_Run_state (M : Md K mg) : DL.PropD K (He.ga K "Run") "state" (DL.gtAd K (He.ga K "Run") "state") := DL.Fy.prop_ok (DL.fy_at M.ey 5 (f := .prop "Run" "state") rfl)
theorem Md.pr_Run_told (M : Md K mg) : DL.PropD K (He.ga K "Run") "told" (DL.gtAd K (He.ga K "Run") "told") := DL.Fy.prop_ok (DL.fy_at M.ey 6 (f := .prop "Run" "told") rfl)
theorem Md.pr_Run_way (M : Md K mg) : DL.PropD K (He.ga K "Run") "way" (DL.gtAd K (He.ga K "Run") "way") := DL.Fy.prop_ok (DL.fy_at M.ey 7 (f := .prop "Run" "way") rfl)
def cs_own_closes (K : PySem.W.Frag) : List (Addr × Nat) := [(He.ga K "Rules", 3), (He.ga K "Reader", 3)]
theorem Md.fld_own_closes (M : Md K mg) : ∀ q ∈ cs_own_closes K, DL.Fld K "own_closes" q.1 q.2 := (List.forall_mem_cons.mpr ⟨DL.Fx.fld_ok (DL.fx_at M.ex 9 (f := .fld "own_closes" "Rules" 3) rfl), (List.forall_mem_cons.mpr ⟨DL.Fx.fld_ok (DL.fx_at M.ex 10 (f := .fld "own_closes" "Reader" 3) rfl), fun q hq => absurd hq List.not_mem_nil⟩)⟩)
def cs_own_events (K : PySem.W.Frag) : List (Addr × Nat) := [(He.ga K "Run", 1)]
theorem Md.fld_own_events (M : Md K mg) : ∀ q ∈ cs_own_events K, DL.Fld K "own_events" q.1 q.2 := (List.forall_mem_cons.mpr ⟨DL.Fx.fld_ok (DL.fx_at M.ex 11 (f := .fld "own_events" "Run" 1) rfl), fun q hq => absurd hq List.not_mem_nil⟩)
def cs_own_free (K : PySem.W.Frag) : List (Addr × Nat) := [(He.ga K "Run", 3)]
theorem Md.fld_own_free (M : Md K mg) : ∀ q ∈ cs_own_free K, DL.Fld K "own_free" q.1 q.2 := (List.forall_mem_cons.mpr ⟨DL.Fx.fld_ok (DL.fx_at M.ex 12 (f := .fld "own_free" "Run" 3) rfl), fun q hq => absurd hq List.not_mem_nil⟩)
def cs_own_lying (K : PySem.W.Frag) : List (Addr × Nat) := [(He.ga K "Run", 5)]
theorem Md.fld_own_lying (M : Md K mg) : ∀ q ∈ cs_own_lying K, DL.Fld K "own_lying" q.1 q.2 := (List.forall_mem_cons.mpr ⟨DL.Fx.fld_ok (DL.fx_at M.ex 13 (f := .fld "own_lying" "Run" 5) rfl), fun q hq => absurd hq List.not_mem_nil⟩)
def cs_own_marks (K : PySem.W.Frag) : List (Addr × Nat) := [(He.ga K "Rules", 1), (He.ga K "Reader", 1)]
theorem Md.fld_own_marks (M : Md K mg) : ∀ q ∈ cs_own_marks K, DL.Fld K "own_marks" q.1 q.2 := (List.forall_mem_cons.mpr ⟨DL.Fx.fld_ok (DL.fx_at M.ex 14 (f := .fld "own_marks" "Rules" 1) rfl), (List.forall_mem_cons.mpr ⟨DL.Fx.fld_ok (DL.fx_at M.ex 15 (f := .fld "own_marks" "Reader" 1) rfl), fun q hq => absurd hq List.not_mem_nil⟩)⟩)
def cs_own_mode (K : PySem.W.Frag) : List (Addr × Nat) := [(He.ga K "Rules", 0), (He.ga K "Reader", 0)]
theorem Md.fld_own_mode (M : Md K mg) : ∀ q ∈ cs_own_mode K, DL.Fld K "own_mode" q.1 q.2 := (List.forall_mem_cons.mpr ⟨DL.Fx.fld_ok (DL.fx_at M.ex 16 (f := .fld "own_mode" "Rules" 0) rfl), (List.forall_mem_cons.mpr ⟨DL.Fx.fld_ok (DL.fx_at M.ex 17 (f := .fld "own_mode" "Reader" 0) rfl), fun q hq => absurd hq List.not_mem_nil⟩)⟩)
def cs_own_opens (K : PySem.W.Frag) : List (Addr × Nat) := [(He.ga K "Rules", 2), (He.ga K "Reader", 2)]
theorem Md.fld_own_opens (M : Md K mg) : ∀ q ∈ cs_own_opens K, DL.Fld K "own_opens" q.1 q.2 := (List.forall_mem_cons.mpr ⟨DL.Fx.fld_ok (DL.fx_at M.ex 18 (f := .fld "own_opens" "Rules" 2) rfl), (List.forall_mem_cons.mpr ⟨DL.Fx.fld_ok (DL.fx_at M.ex 19 (f := .fld "own_opens" "Reader" 2) rfl), fun q hq => absurd hq List.not_mem_nil⟩)⟩)
def cs_own_reader (K : PySem.W.Frag) : List (Addr × Nat) := [(He.ga K "Run", 0)]
theorem Md.fld_own_reader (M : Md K mg) : ∀ q ∈ cs_own_reader K, DL.Fld K "own_reader" q.1 q.2 := (List.forall_mem_cons.mpr ⟨DL.Fx.fld_ok (DL.fx_at M.ex 20 (f := .fld "own_reader" "Run" 0) rfl), fun q hq => absurd hq List.not_mem_nil⟩)
def cs_own_state (K : PySem.W.Frag) : List (Addr × Nat) := [(He.ga K "Run", 2)]
theorem Md.fld_own_state (M : Md K mg) : ∀ q ∈ cs_own_state K, DL.Fld K "own_state" q.1 q.2 := (List.forall_mem_cons.mpr ⟨DL.Fx.fld_ok (DL.fx_at M.ex 21 (f := .fld "own_state" "Run" 2) rfl), fun q hq => absurd hq List.not_mem_nil⟩)
def cs_own_told (K : PySem.W.Frag) : List (Addr × Nat) := [(He.ga K "Run", 6)]
theorem Md.fld_own_told (M : Md K mg) : ∀ q ∈ cs_own_told K, DL.Fld K "own_told" q.1 q.2 := (List.forall_mem_cons.mpr ⟨DL.Fx.fld_ok (DL.fx_at M.ex 22 (f := .fld "own_told" "Run" 6) rfl), fun q hq => absurd hq List.not_mem_nil⟩)
def cs_own_way (K : PySem.W.Frag) : List (Addr × Nat) := [(He.ga K "Run", 4)]
theorem Md.fld_own_way (M : Md K mg) : ∀ q ∈ cs_own_way K, DL.Fld K "own_way" q.1 q.2 := (List.forall_mem_cons.mpr ⟨DL.Fx.fld_ok (DL.fx_at M.ex 23 (f := .fld "own_way" "Run" 4) rfl), fun q hq => absurd hq List.not_mem_nil⟩)
end
end LK
set_option Elab.async false
set_option linter.all false
set_option maxRecDepth 100000
set_option maxHeartbeats 4000000
namespace LK
open PySem PySem.Spec PyProof.Rows L2 DL
variable {P : Program} {w : World} {K : PySem.W.Frag} {mg : Str → Option Value} {base : Heap}
def t__law_dice (K : PySem.W.Frag) : TSD := (rSeq (rAsg (rOp dAdd (rOp dMul (rC (.int 59)) (rVar 1)) (rC (.int 23))) (dName 2))
  (rSeq (rIfS (rTest (rOp dLt (rVar 1) (rCB dLen (rCons (rVar 0) rNil)))) (rAsg (rOp dIx (rVar 0) (rVar 1)) (dName 2)) rNext)
  (rSeq (rAsg (rOp dMod (rCB dInt (rCons (rCB dAbs (rCons (rVar 2) rNil)) rNil)) (rOp dPow (rOp dPow (rC (.int 10)) (rC (.int 60))) (rC (.int 10)))) (dName 3))
  (rSeq (rAsg (rOp dFdiv (rVar 3) (rOp dPow (rC (.int 10)) (rC (.int 18)))) (dName 4))
  (rSeq (rAsg (rOp dAdd (rOp dAdd (rOp dAdd (rOp dMul (rOp dMod (rVar 3) (rC (.int 2147483409))) (rC (.int 50053))) (rOp dMul (rC (.int 2801)) (rVar 1))) (rOp dMul (rC (.int 41)) (rCB dInt (rCons (rOp dLt (rVar 2) (rC (.int 0))) rNil)))) (rC (.int 67))) (dName 5))
  (rRet (rLstR (rCons (rVar 4) (rCons (rOp dMod (rVar 5) (rC (.int 2147483399))) (rCons (rC (.int 0)) rNil))))))))))
theorem der__law_dice {f : Addr} {cdv : Value} {A : Around} {outer : List Env} {s : Shared} {H : Hp} {E : XK} (M : Md K mg) (hr : Room 0 (A.deeper (envOfC "_law_dice" (defScope s__law_dice) s.heap.objs.size f cdv)))  :
    SsD (cxOf CX0 P w K mg base N__law_dice "_law_dice" (defScope s__law_dice) f cdv A outer s H E).nox (defBody s__law_dice) (t__law_dice K) :=
  have nd := sc__law_dice.nd
  (ss_cons (sd_set 2 nd (ed_op od_add (ed_op od_mul (ed_int) (ed_var 1)) (ed_int)))
  (ss_cons (sd_if (cd_cmp od_lt (ed_var 1) (ed_callB ca_len M.free_len (ad_cons (ed_var 0) ad_nil))) (ss_one (sd_set 2 nd (ed_ix hr (ed_var 0) (ed_var 1)))) ss_nil)
  (ss_cons (sd_set 3 nd (ed_op od_mod (ed_callTy ca_int M.free_int (ad_cons (ed_callB ca_abs M.free_abs (ad_cons (ed_var 2) ad_nil)) ad_nil)) (ed_op od_pow (ed_op od_pow (ed_int) (ed_int)) (ed_int))))
  (ss_cons (sd_set 4 nd (ed_op od_fdiv (ed_var 3) (ed_op od_pow (ed_int) (ed_int))))
  (ss_cons (sd_set 5 nd (ed_op od_add (ed_op od_add (ed_op od_add (ed_op od_mul (ed_op od_mod (ed_var 3) (ed_int)) (ed_int)) (ed_op od_mul (ed_int) (ed_var 1))) (ed_op od_mul (ed_int) (ed_callTy ca_int M.free_int (ad_cons (ed_cmp od_lt (ed_var 2) (ed_int)) ad_nil)))) (ed_int)))
  (ss_one (sd_ret (ed_lstR (ad_cons (ed_var 4) (ad_cons (ed_op od_mod (ed_var 5) (ed_int)) (ad_cons (ed_int) ad_nil)))))))))))
def t__law_roll (K : PySem.W.Frag) : TSD := (rSeq (rAsg (rCB dInt (rCons (rVar 1) rNil)) (dName 2))
  (rSeq (rIfS (rTest (rOp dGt (rOp dIx (rVar 0) (rC (.int 0))) (rC (.int 0)))) (rSeq (rAsg (rOp dMod (rOp dIx (rVar 0) (rC (.int 0))) (rVar 2)) (dName 3))
  (rSeq (rAsg (rOp dFdiv (rOp dIx (rVar 0) (rC (.int 0))) (rVar 2)) (rgSub (rVar 0) (rC (.int 0))))
  (rRet (rCB dInt (rCons (rVar 3) rNil))))) rNext)
  (rSeq (rAsg (rOp dAdd (rOp dIx (rVar 0) (rC (.int 2))) (rC (.int 1))) (rgSub (rVar 0) (rC (.int 2))))
  (rSeq (rAsg (rOp dMod (rOp dAdd (rOp dIx (rVar 0) (rC (.int 1))) (rOp dMul (rC (.int 1000117)) (rOp dIx (rVar 0) (rC (.int 2))))) (rC (.int 2305843009213693951))) (dName 4))
  (rSeq (rAsg (rOp dAdd (rOp dMul (rOp dMod (rOp dMul (rVar 4) (rVar 4)) (rC (.int 2305843009213693921))) (rVar 4)) (rOp dMul (rC (.int 9421)) (rOp dIx (rVar 0) (rC (.int 2))))) (dName 5))
  (rSeq (rAsg (rOp dMod (rVar 5) (rC (.int 2305843009213693907))) (dName 5))
  (rRet (rCB dInt (rCons (rOp dMod (rOp dFdiv (rVar 5) (rC (.int 4096))) (rVar 2)) rNil)))))))))
theorem der__law_roll {f : Addr} {cdv : Value} {A : Around} {outer : List Env} {s : Shared} {H : Hp} {E : XK} (M : Md K mg) (hr : Room 0 (A.deeper (envOfC "_law_roll" (defScope s__law_roll) s.heap.objs.size f cdv)))  :
    SsD (cxOf CX0 P w K mg base N__law_roll "_law_roll" (defScope s__law_roll) f cdv A outer s H E).nox (defBody s__law_roll) (t__law_roll K) :=
  have nd := sc__law_roll.nd
  (ss_cons (sd_set 2 nd (ed_callTy ca_int M.free_int (ad_cons (ed_var 1) ad_nil)))
  (ss_cons (sd_if (cd_cmp od_gt (ed_ix hr (ed_var 0) (ed_int)) (ed_int)) (ss_cons (sd_set 3 nd (ed_op od_mod (ed_ix hr (ed_var 0) (ed_int)) (ed_var 2)))
  (ss_cons (sd_asg (ed_op od_fdiv (ed_ix hr (ed_var 0) (ed_int)) (ed_var 2)) (gd_sub hr (ed_var 0) (ed_int)))
  (ss_one (sd_ret (ed_callTy ca_int M.free_int (ad_cons (ed_var 3) ad_nil)))))) ss_nil)
  (ss_cons (sd_asg (ed_op od_add (ed_ix hr (ed_var 0) (ed_int)) (ed_int)) (gd_sub hr (ed_var 0) (ed_int)))
  (ss_cons (sd_set 4 nd (ed_op od_mod (ed_op od_add (ed_ix hr (ed_var 0) (ed_int)) (ed_op od_mul (ed_int) (ed_ix hr (ed_var 0) (ed_int)))) (ed_int)))
  (ss_cons (sd_set 5 nd (ed_op od_add (ed_op od_mul (ed_op od_mod (ed_op od_mul (ed_var 4) (ed_var 4)) (ed_int)) (ed_var 4)) (ed_op od_mul (ed_int) (ed_ix hr (ed_var 0) (ed_int)))))
  (ss_cons (sd_set 5 nd (ed_op od_mod (ed_var 5) (ed_int)))
  (ss_one (sd_ret (ed_callTy ca_int M.free_int (ad_cons (ed_op od_mod (ed_op od_fdiv (ed_var 5) (ed_int)) (ed_var 2)) ad_nil))))))))))
def t__law_one_of (K : PySem.W.Frag) (sp__law_roll : SpD) : TSD := (rRet (rOp dIx (rVar 1) (rCall sp__law_roll [] (rCons (rVar 0) (rCons (rCB dLen (rCons (rVar 1) rNil)) rNil)))))
theorem der__law_one_of {f : Addr} {cdv : Value} {A : Around} {outer : List Env} {s : Shared} {H : Hp} {E : XK} {sp__law_roll : SpD} (M : Md K mg) (hr : Room 1 (A.deeper (envOfC "_law_one_of" (defScope s__law_one_of) s.heap.objs.size f cdv))) (F__law_roll : FnD ⟨P, w, K⟩ mg base 1 (He.ga K "_law_roll") [] sp__law_roll) :
    SsD (cxOf CX0 P w K mg base N__law_one_of "_law_one_of" (defScope s__law_one_of) f cdv A outer s H E).nox (defBody s__law_one_of) (t__law_one_of K sp__law_roll) :=
  have nd := sc__law_one_of.nd
  (ss_one (sd_ret (ed_ix hr (ed_var 1) (ed_call F__law_roll hr M.glo__law_roll (ad_cons (ed_var 0) (ad_cons (ed_callB ca_len M.free_len (ad_cons (ed_var 1) ad_nil)) ad_nil))))))
def t__law_some_mode (K : PySem.W.Frag) (sp__law_one_of : SpD) : TSD := (rRet (rCall sp__law_one_of [] (rCons (rVar 0) (rCons (rLst (rCons (rC (.str "named")) (rCons (rC (.str "bare")) (rCons (rC (.str "late")) rNil)))) rNil))))
theorem der__law_some_mode {f : Addr} {cdv : Value} {A : Around} {outer : List Env} {s : Shared} {H : Hp} {E : XK} {sp__law_one_of : SpD} (M : Md K mg) (hr : Room 2 (A.deeper (envOfC "_law_some_mode" (defScope s__law_some_mode) s.heap.objs.size f cdv))) (F__law_one_of : FnD ⟨P, w, K⟩ mg base 2 (He.ga K "_law_one_of") [] sp__law_one_of) :
    SsD (cxOf CX0 P w K mg base N__law_some_mode "_law_some_mode" (defScope s__law_some_mode) f cdv A outer s H E).nox (defBody s__law_some_mode) (t__law_some_mode K sp__law_one_of) :=
  have nd := sc__law_some_mode.nd
  (ss_one (sd_ret (ed_call F__law_one_of hr M.glo__law_one_of (ad_cons (ed_var 0) (ad_cons (ed_lst (ad_cons (ed_str) (ad_cons (ed_str) (ad_cons (ed_str) ad_nil)))) ad_nil)))))
def t__law_mixed (K : PySem.W.Frag) (sp__law_roll : SpD) : TSD := (rSeq (rPar 2 3 (rCons (rCB dListOfR (rCons (rVar 1) rNil)) (rCons (rLstR rNil) rNil)))
  (rSeq (rWhile (rTest (rOp dNe (rVar 2) (rLst rNil))) (rDrop (rMt "list" dAppend (rVar 3) (rCons (rMt "list" dPop (rVar 2) (rCons (rCall sp__law_roll [] (rCons (rVar 0) (rCons (rCB dLen (rCons (rVar 2) rNil)) rNil))) rNil)) rNil))))
  (rRet (rVarH 3))))
theorem der__law_mixed {f : Addr} {cdv : Value} {A : Around} {outer : List Env} {s : Shared} {H : Hp} {E : XK} {sp__law_roll : SpD} (M : Md K mg) (hr : Room 1 (A.deeper (envOfC "_law_mixed" (defScope s__law_mixed) s.heap.objs.size f cdv))) (F__law_roll : FnD ⟨P, w, K⟩ mg base 1 (He.ga K "_law_roll") [] sp__law_roll) :
    SsD (cxOf CX0 P w K mg base N__law_mixed "_law_mixed" (defScope s__law_mixed) f cdv A outer s H E).nox (defBody s__law_mixed) (t__law_mixed K sp__law_roll) :=
  have nd := sc__law_mixed.nd
  (ss_cons (sd_par 2 3 nd (ad_cons (ed_callTy ca_listR M.free_list (ad_cons (ed_var 1) ad_nil)) (ad_cons (ed_lstR ad_nil) ad_nil)))
  (ss_cons (sd_while PassesOwn.never (cd_cmp (od_ne hr) (ed_var 2) (ed_lst ad_nil)) (ss_one (sd_expr (ed_mt md_append (ed_var 3) (ad_cons (ed_mt md_pop (ed_var 2) (ad_cons (ed_call F__law_roll hr M.glo__law_roll (ad_cons (ed_var 0) (ad_cons (ed_callB ca_len M.free_len (ad_cons (ed_var 2) ad_nil)) ad_nil))) ad_nil) F.plainAttrs_list F.slot_list_pop F.type_list_pop) ad_nil) F.plainAttrs_list F.slot_list_append F.type_list_append))))
  (ss_one (sd_ret (ed_varH 3)))))
def t__law_labels (K : PySem.W.Frag) (sp__law_mixed : SpD) : TSD := (rRet (rCB dSort (rCons (rSlice (rCall sp__law_mixed [] (rCons (rVar 0) (rCons (rLst (rCons (rC (.str "a")) (rCons (rC (.str "b")) (rCons (rC (.str "c")) (rCons (rC (.str "node")) (rCons (rC (.str "x")) (rCons (rC (.str "zz")) rNil))))))) rNil))) rNoPart (rPart (rVar 1))) rNil)))
theorem der__law_labels {f : Addr} {cdv : Value} {A : Around} {outer : List Env} {s : Shared} {H : Hp} {E : XK} {sp__law_mixed : SpD} (M : Md K mg) (hr : Room 2 (A.deeper (envOfC "_law_labels" (defScope s__law_labels) s.heap.objs.size f cdv))) (F__law_mixed : FnD ⟨P, w, K⟩ mg base 2 (He.ga K "_law_mixed") [] sp__law_mixed) :
    SsD (cxOf CX0 P w K mg base N__law_labels "_law_labels" (defScope s__law_labels) f cdv A outer s H E).nox (defBody s__law_labels) (t__law_labels K sp__law_mixed) :=
  have nd := sc__law_labels.nd
  (ss_one (sd_ret (ed_callB (ca_sorted hr) M.free_sorted (ad_cons (ed_slice (ed_call F__law_mixed hr M.glo__law_mixed (ad_cons (ed_var 0) (ad_cons (ed_lst (ad_cons (ed_str) (ad_cons (ed_str) (ad_cons (ed_str) (ad_cons (ed_str) (ad_cons (ed_str) (ad_cons (ed_str) ad_nil))))))) ad_nil))) od_none (od_some (ed_var 1))) ad_nil))))
def t_is_mode (K : PySem.W.Frag) : TSD := (rRet (rAnd (rCB (dIsi K) (rCons (rVar 0) (rCons (rC (.ty "str")) rNil))) (rOp dIn (rVar 0) (rC (.tup [(.str "bare"), (.str "late"), (.str "named")])))))
theorem der_is_mode {f : Addr} {cdv : Value} {A : Around} {outer : List Env} {s : Shared} {H : Hp} {E : XK} (M : Md K mg) (hr : Room 0 (A.deeper (envOfC "is_mode" (defScope s_is_mode) s.heap.objs.size f cdv)))  :
    SsD (cxOf CX0 P w K mg base N_is_mode "is_mode" (defScope s_is_mode) f cdv A outer s H E).nox (defBody s_is_mode) (t_is_mode K) :=
  have nd := sc_is_mode.nd
  (ss_one (sd_ret (ed_and (ed_callB ca_isi M.free_isinstance (ad_cons (ed_var 0) (ad_cons (ed_type M.free_str) ad_nil))) (ed_one (ed_cmp od_inF (ed_var 0) (ed_glob (M.con_MODES)))))))
def t_is_index (K : PySem.W.Frag) : TSD := (rRet (rAnd (rCB (dIsi K) (rCons (rVar 0) (rCons (rC (.ty "int")) rNil))) (rAnd (rNot (rCB (dIsi K) (rCons (rVar 0) (rCons (rC (.ty "bool")) rNil)))) (rChain dLe dLt (rC (.int 0)) (rVar 0) (rVar 1)))))
theorem der_is_index {f : Addr} {cdv : Value} {A : Around} {outer : List Env} {s : Shared} {H : Hp} {E : XK} (M : Md K mg) (hr : Room 0 (A.deeper (envOfC "is_index" (defScope s_is_index) s.heap.objs.size f cdv)))  :
    SsD (cxOf CX0 P w K mg base N_is_index "is_index" (defScope s_is_index) f cdv A outer s H E).nox (defBody s_is_index) (t_is_index K) :=
  have nd := sc_is_index.nd
  (ss_one (sd_ret (ed_and (ed_callB ca_isi M.free_isinstance (ad_cons (ed_var 0) (ad_cons (ed_type M.free_int) ad_nil))) (ed_and (ed_not (ed_callB ca_isi M.free_isinstance (ad_cons (ed_var 0) (ad_cons (ed_type M.free_bool) ad_nil)))) (ed_one (ed_chain od_le od_lt (ed_int) (ed_var 0) (ed_var 1)))))))
def t_is_name (K : PySem.W.Frag) : TSD := (rSeq (rIfS (bOr (bNot (rTest (rCB (dIsi K) (rCons (rVar 0) (rCons (rC (.ty "str")) rNil))))) (bNot (rTest (rChain dLe dLe (rC (.int 1)) (rCB dLen (rCons (rVar 0) rNil)) (rC (.int 8)))))) (rRet (rC (.bl false))) rNext)
  (rRet (rCB dAll (rCons (rComp (rIterS (rVar 0)) (dName 1) bYes (rChain dLe dLe (rC (.str "a")) (rVar 1) (rC (.str "z"))) [1]) rNil))))
theorem der_is_name {f : Addr} {cdv : Value} {A : Around} {outer : List Env} {s : Shared} {H : Hp} {E : XK} (M : Md K mg) (hr : Room 0 (A.deeper (envOfC "is_name" (defScope s_is_name) s.heap.objs.size f cdv)))  :
    SsD (cxOf CX0 P w K mg base N_is_name "is_name" (defScope s_is_name) f cdv A outer s H E).nox (defBody s_is_name) (t_is_name K) :=
  have nd := sc_is_name.nd
  (ss_cons (sd_if (CWD.cd (cw_or (cd_not (cd_val (ed_callB ca_isi M.free_isinstance (ad_cons (ed_var 0) (ad_cons (ed_type M.free_str) ad_nil))))) (cw_or1 (cd_not (cd_chain od_le od_le (ed_int) (ed_callB ca_len M.free_len (ad_cons (ed_var 0) ad_nil)) (ed_glob (M.con_MAX_LETTERS))))))) (ss_one (sd_ret (ed_bl))) ss_nil)
  (ss_one (sd_ret (ed_callB ca_all M.free_all (ad_cons (ed_comp (own := [("letter", 1)]) (blkOk_by (by rfl)) nd (id_str (ed_var 0)) (fun _ _ _ _ _ => (gc_name 1 nd)) (fun _ _ _ _ _ => cs_nil) (fun _ _ _ _ _ => (ed_chain od_le od_le (ed_str) (ed_var 1) (ed_str)))) ad_nil)))))
def t_is_ascending (K : PySem.W.Frag) : TSD := (rRet (rCB dAll (rCons (rComp (rZip (rCons (rVar 0) (rCons (rSlice (rVar 0) (rPart (rC (.int 1))) rNoPart) rNil))) (dTup 2 (dCons (dName 1) (dCons (dName 2) dNil))) bYes (rOp dLt (rVar 1) (rVar 2)) [1, 2]) rNil)))
theorem der_is_ascending {f : Addr} {cdv : Value} {A : Around} {outer : List Env} {s : Shared} {H : Hp} {E : XK} (M : Md K mg) (hr : Room 0 (A.deeper (envOfC "is_ascending" (defScope s_is_ascending) s.heap.objs.size f cdv)))  :
    SsD (cxOf CX0 P w K mg base N_is_ascending "is_ascending" (defScope s_is_ascending) f cdv A outer s H E).nox (defBody s_is_ascending) (t_is_ascending K) :=
  have nd := sc_is_ascending.nd
  (ss_one (sd_ret (ed_callB ca_all M.free_all (ad_cons (ed_comp (own := [("one", 1), ("other", 2)]) (blkOk_by (by rfl)) nd (id_zip (ad_cons (ed_var 0) (ad_cons (ed_slice (ed_var 0) (od_some (ed_int)) od_none) ad_nil)) M.free_zip) (fun _ _ _ _ _ => (gc_tup 2 (gcs_cons (gc_name 1 nd) (gcs_cons (gc_name 2 nd) gcs_nil)))) (fun _ _ _ _ _ => cs_nil) (fun _ _ _ _ _ => (ed_cmp od_lt (ed_var 1) (ed_var 2)))) ad_nil))))
def t_is_marks (K : PySem.W.Frag) (sp_is_index sp_is_ascending : SpD) : TSD := (rRet (rAnd (rCB (dIsi K) (rCons (rVar 0) (rCons (rC (.ty "tuple")) rNil))) (rAnd (rCB dAll (rCons (rComp (rIter (rVar 0)) (dName 2) bYes (rCall sp_is_index [] (rCons (rVar 2) (rCons (rVar 1) rNil))) [2]) rNil)) (rCall sp_is_ascending [] (rCons (rVar 0) rNil)))))
theorem der_is_marks {f : Addr} {cdv : Value} {A : Around} {outer : List Env} {s : Shared} {H : Hp} {E : XK} {sp_is_index sp_is_ascending : SpD} (M : Md K mg) (hr : Room 1 (A.deeper (envOfC "is_marks" (defScope s_is_marks) s.heap.objs.size f cdv))) (F_is_index : FnD ⟨P, w, K⟩ mg base 1 (He.ga K "is_index") [] sp_is_index) (F_is_ascending : FnD ⟨P, w, K⟩ mg base 1 (He.ga K "is_ascending") [] sp_is_ascending) :
    SsD (cxOf CX0 P w K mg base N_is_marks "is_marks" (defScope s_is_marks) f cdv A outer s H E).nox (defBody s_is_marks) (t_is_marks K sp_is_index sp_is_ascending) :=
  have nd := sc_is_marks.nd
  (ss_one (sd_ret (ed_and (ed_callB ca_isi M.free_isinstance (ad_cons (ed_var 0) (ad_cons (ed_type M.free_tuple) ad_nil))) (ed_and (ed_callB ca_all M.free_all (ad_cons (ed_comp (own := [("mark", 2)]) (blkOk_by (by rfl)) nd (id_seq (ed_var 0)) (fun _ _ _ _ _ => (gc_name 2 nd)) (fun _ _ _ _ _ => cs_nil) (fun _ _ _ _ _ => (ed_call F_is_index hr M.glo_is_index (ad_cons (ed_var 2) (ad_cons (ed_var 1) ad_nil))))) ad_nil)) (ed_one (ed_call F_is_ascending hr M.glo_is_ascending (ad_cons (ed_var 0) ad_nil)))))))
def t_is_dotted (K : PySem.W.Frag) (sp_is_name : SpD) : TSD := (rRet (rAnd (rCB (dIsi K) (rCons (rVar 0) (rCons (rC (.ty "str")) rNil))) (rCB dAll (rCons (rComp (rIter (rMt "str" dSplit (rVar 0) (rCons (rC (.str ".")) rNil))) (dName 1) bYes (rCall sp_is_name [] (rCons (rVar 1) rNil)) [1]) rNil))))
theorem der_is_dotted {f : Addr} {cdv : Value} {A : Around} {outer : List Env} {s : Shared} {H : Hp} {E : XK} {sp_is_name : SpD} (M : Md K mg) (hr : Room 1 (A.deeper (envOfC "is_dotted" (defScope s_is_dotted) s.heap.objs.size f cdv))) (F_is_name : FnD ⟨P, w, K⟩ mg base 1 (He.ga K "is_name") [] sp_is_name) :
    SsD (cxOf CX0 P w K mg base N_is_dotted "is_dotted" (defScope s_is_dotted) f cdv A outer s H E).nox (defBody s_is_dotted) (t_is_dotted K sp_is_name) :=
  have nd := sc_is_dotted.nd
  (ss_one (sd_ret (ed_and (ed_callB ca_isi M.free_isinstance (ad_cons (ed_var 0) (ad_cons (ed_type M.free_str) ad_nil))) (ed_one (ed_callB ca_all M.free_all (ad_cons (ed_comp (own := [("name", 1)]) (blkOk_by (by rfl)) nd (id_seq (ed_mt md_split (ed_var 0) (ad_cons (ed_str) ad_nil) F.plainAttrs_str F.slot_str_split F.type_str_split)) (fun _ _ _ _ _ => (gc_name 1 nd)) (fun _ _ _ _ _ => cs_nil) (fun _ _ _ _ _ => (ed_call F_is_name hr M.glo_is_name (ad_cons (ed_var 1) ad_nil)))) ad_nil))))))
def t_is_colour (K : PySem.W.Frag) (sp_is_dotted : SpD) : TSD := (rRet (rAnd (rCall sp_is_dotted [] (rCons (rVar 0) rNil)) (rOp dLe (rCB dLen (rCons (rMt "str" dSplit (rVar 0) (rCons (rC (.str ".")) rNil)) rNil)) (rC (.int 4)))))
theorem der_is_colour {f : Addr} {cdv : Value} {A : Around} {outer : List Env} {s : Shared} {H : Hp} {E : XK} {sp_is_dotted : SpD} (M : Md K mg) (hr : Room 2 (A.deeper (envOfC "is_colour" (defScope s_is_colour) s.heap.objs.size f cdv))) (F_is_dotted : FnD ⟨P, w, K⟩ mg base 2 (He.ga K "is_dotted") [] sp_is_dotted) :
    SsD (cxOf CX0 P w K mg base N_is_colour "is_colour" (defScope s_is_colour) f cdv A outer s H E).nox (defBody s_is_colour) (t_is_colour K sp_is_dotted) :=
  have nd := sc_is_colour.nd
  (ss_one (sd_ret (ed_and (ed_call F_is_dotted hr M.glo_is_dotted (ad_cons (ed_var 0) ad_nil)) (ed_one (ed_cmp od_le (ed_callB ca_len M.free_len (ad_cons (ed_mt md_split (ed_var 0) (ad_cons (ed_str) ad_nil) F.plainAttrs_str F.slot_str_split F.type_str_split) ad_nil)) (ed_glob (M.con_MAX_COLOUR)))))))
def t_is_open_rule (K : PySem.W.Frag) (sp_is_index sp_is_marks sp_is_colour : SpD) : TSD := (rSeq (rIfS (bOr (bNot (rTest (rCB (dIsi K) (rCons (rVar 0) (rCons (rC (.ty "tuple")) rNil))))) (rTest (rOp dNe (rCB dLen (rCons (rVar 0) rNil)) (rIf (rTest (rOp dEq (rVar 1) (rC (.str "late")))) (rC (.int 2)) (rC (.int 3)))))) (rRet (rC (.bl false))) rNext)
  (rSeq (rIfS (bOr (bNot (rTest (rCall sp_is_index [] (rCons (rOp dIx (rVar 0) (rC (.int 0))) (rCons (rVar 3) rNil))))) (bNot (rTest (rCall sp_is_marks [] (rCons (rOp dIx (rVar 0) (rC (.int 1))) (rCons (rVar 2) rNil)))))) (rRet (rC (.bl false))) rNext)
  (rRet (rOr (rOp dEq (rVar 1) (rC (.str "late"))) (rCall sp_is_colour [] (rCons (rOp dIx (rVar 0) (rC (.int 2))) rNil))))))
theorem der_is_open_rule {f : Addr} {cdv : Value} {A : Around} {outer : List Env} {s : Shared} {H : Hp} {E : XK} {sp_is_index sp_is_marks sp_is_colour : SpD} (M : Md K mg) (hr : Room 3 (A.deeper (envOfC "is_open_rule" (defScope s_is_open_rule) s.heap.objs.size f cdv))) (F_is_index : FnD ⟨P, w, K⟩ mg base 1 (He.ga K "is_index") [] sp_is_index) (F_is_marks : FnD ⟨P, w, K⟩ mg base 2 (He.ga K "is_marks") [] sp_is_marks) (F_is_colour : FnD ⟨P, w, K⟩ mg base 3 (He.ga K "is_colour") [] sp_is_colour) :
    SsD (cxOf CX0 P w K mg base N_is_open_rule "is_open_rule" (defScope s_is_open_rule) f cdv A outer s H E).nox (defBody s_is_open_rule) (t_is_open_rule K sp_is_index sp_is_marks sp_is_colour) :=
  have nd := sc_is_open_rule.nd
  (ss_cons (sd_if (CWD.cd (cw_or (cd_not (cd_val (ed_callB ca_isi M.free_isinstance (ad_cons (ed_var 0) (ad_cons (ed_type M.free_tuple) ad_nil))))) (cw_or1 (cd_cmp (od_ne hr) (ed_callB ca_len M.free_len (ad_cons (ed_var 0) ad_nil)) (ed_if (cd_cmp (od_eq hr) (ed_var 1) (ed_glob (M.con_LATE))) (ed_int) (ed_int)))))) (ss_one (sd_ret (ed_bl))) ss_nil)
  (ss_cons (sd_if (CWD.cd (cw_or (cd_not (cd_val (ed_call F_is_index hr M.glo_is_index (ad_cons (ed_ix hr (ed_var 0) (ed_int)) (ad_cons (ed_var 3) ad_nil))))) (cw_or1 (cd_not (cd_val (ed_call F_is_marks hr M.glo_is_marks (ad_cons (ed_ix hr (ed_var 0) (ed_int)) (ad_cons (ed_var 2) ad_nil)))))))) (ss_one (sd_ret (ed_bl))) ss_nil)
  (ss_one (sd_ret (ed_or (ed_cmp (od_eq hr) (ed_var 1) (ed_glob (M.con_LATE))) (ed_one (ed_call F_is_colour hr M.glo_is_colour (ad_cons (ed_ix hr (ed_var 0) (ed_int)) ad_nil))))))))
def t_are_opens (K : PySem.W.Frag) (sp_is_name sp_is_open_rule : SpD) : TSD := (rSeq (rIfS (bOr (bNot (rTest (rCB (dIsi K) (rCons (rVar 0) (rCons (rC (.ty "tuple")) rNil))))) (bNot (rTest (rChain dLe dLe (rC (.int 1)) (rCB dLen (rCons (rVar 0) rNil)) (rC (.int 10)))))) (rRet (rC (.bl false))) rNext)
  (rSeq (rIfS (bNot (rTest (rCB dAll (rCons (rComp (rIter (rVar 0)) (dName 3) bYes (rCB (dIsi K) (rCons (rVar 3) (rCons (rC (.ty "dict")) rNil))) [3]) rNil)))) (rRet (rC (.bl false))) rNext)
  (rSeq (rAsg (rComp2 (rIter (rVar 0)) (dName 3) bYes (rItems (rVar 3)) (dTup 2 (dCons (dName 5) (dCons (dName 6) dNil))) bYes (rTup (rCons (rVar 5) (rCons (rVar 6) rNil))) [3, 5, 6] [5, 6]) (dName 4))
  (rRet (rCB dAll (rCons (rComp (rIter (rVar 4)) (dTup 2 (dCons (dName 5) (dCons (dName 6) dNil))) bYes (rAnd (rCall sp_is_name [] (rCons (rVar 5) rNil)) (rCall sp_is_open_rule [] (rCons (rVar 6) (rCons (rVar 1) (rCons (rVar 2) (rCons (rCB dLen (rCons (rVar 0) rNil)) rNil)))))) [5, 6]) rNil))))))
theorem der_are_opens {f : Addr} {cdv : Value} {A : Around} {outer : List Env} {s : Shared} {H : Hp} {E : XK} {sp_is_name sp_is_open_rule : SpD} (M : Md K mg) (hr : Room 4 (A.deeper (envOfC "are_opens" (defScope s_are_opens) s.heap.objs.size f cdv))) (F_is_name : FnD ⟨P, w, K⟩ mg base 1 (He.ga K "is_name") [] sp_is_name) (F_is_open_rule : FnD ⟨P, w, K⟩ mg base 4 (He.ga K "is_open_rule") [] sp_is_open_rule) :
    SsD (cxOf CX0 P w K mg base N_are_opens "are_opens" (defScope s_are_opens) f cdv A outer s H E).nox (defBody s_are_opens) (t_are_opens K sp_is_name sp_is_open_rule) :=
  have nd := sc_are_opens.nd
  (ss_cons (sd_if (CWD.cd (cw_or (cd_not (cd_val (ed_callB ca_isi M.free_isinstance (ad_cons (ed_var 0) (ad_cons (ed_type M.free_tuple) ad_nil))))) (cw_or1 (cd_not (cd_chain od_le od_le (ed_int) (ed_callB ca_len M.free_len (ad_cons (ed_var 0) ad_nil)) (ed_glob (M.con_MAX_READER))))))) (ss_one (sd_ret (ed_bl))) ss_nil)
  (ss_cons (sd_if (cd_not (cd_val (ed_callB ca_all M.free_all (ad_cons (ed_comp (own := [("row", 3)]) (blkOk_by (by rfl)) nd (id_seq (ed_var 0)) (fun _ _ _ _ _ => (gc_name 3 nd)) (fun _ _ _ _ _ => cs_nil) (fun _ _ _ _ _ => (ed_callB ca_isi M.free_isinstance (ad_cons (ed_var 3) (ad_cons (ed_type M.free_dict) ad_nil))))) ad_nil)))) (ss_one (sd_ret (ed_bl))) ss_nil)
  (ss_cons (sd_setComp2 4 (own := [("row", 3), ("label", 5), ("rule", 6)]) (vs1 := [5, 6]) (blkOk_by (by rfl)) nd (id_seq (ed_var 0)) (by decide) (fun _ _ _ _ _ => (gc_name 3 nd)) (fun _ _ _ _ _ => cs_nil) (fun _ _ _ _ _ => (id_items (ed_var 3))) (fun _ _ _ _ _ => (gc_tup 2 (gcs_cons (gc_name 5 nd) (gcs_cons (gc_name 6 nd) gcs_nil)))) (fun _ _ _ _ _ => cs_nil) (fun _ _ _ _ _ => (ed_tup (ad_cons (ed_var 5) (ad_cons (ed_var 6) ad_nil)))) (by rfl))
  (ss_one (sd_ret (ed_callB ca_all M.free_all (ad_cons (ed_comp (own := [("label", 5), ("rule", 6)]) (blkOk_by (by rfl)) nd (id_seq (ed_var 4)) (fun _ _ _ _ _ => (gc_tup 2 (gcs_cons (gc_name 5 nd) (gcs_cons (gc_name 6 nd) gcs_nil)))) (fun _ _ _ _ _ => cs_nil) (fun _ _ _ _ _ => (ed_and (ed_call F_is_name hr M.glo_is_name (ad_cons (ed_var 5) ad_nil)) (ed_one (ed_call F_is_open_rule hr M.glo_is_open_rule (ad_cons (ed_var 6) (ad_cons (ed_var 1) (ad_cons (ed_var 2) (ad_cons (ed_callB ca_len M.free_len (ad_cons (ed_var 0) ad_nil)) ad_nil))))))))) ad_nil)))))))
def t_is_close_key (K : PySem.W.Frag) (sp_is_marks sp_is_name : SpD) : TSD := (rSeq (rIfS (bOr (bNot (rTest (rCB (dIsi K) (rCons (rVar 0) (rCons (rC (.ty "tuple")) rNil))))) (rTest (rOp dNe (rCB dLen (rCons (rVar 0) rNil)) (rIf (rTest (rOp dEq (rVar 1) (rC (.str "named")))) (rC (.int 2)) (rC (.int 1)))))) (rRet (rC (.bl false))) rNext)
  (rRet (rAnd (rCall sp_is_marks [] (rCons (rOp dIx (rVar 0) (rC (.int 0))) (rCons (rVar 2) rNil))) (rOr (rOp dNe (rVar 1) (rC (.str "named"))) (rCall sp_is_name [] (rCons (rOp dIx (rVar 0) (rC (.int 1))) rNil))))))
theorem der_is_close_key {f : Addr} {cdv : Value} {A : Around} {outer : List Env} {s : Shared} {H : Hp} {E : XK} {sp_is_marks sp_is_name : SpD} (M : Md K mg) (hr : Room 2 (A.deeper (envOfC "is_close_key" (defScope s_is_close_key) s.heap.objs.size f cdv))) (F_is_marks : FnD ⟨P, w, K⟩ mg base 2 (He.ga K "is_marks") [] sp_is_marks) (F_is_name : FnD ⟨P, w, K⟩ mg base 1 (He.ga K "is_name") [] sp_is_name) :
    SsD (cxOf CX0 P w K mg base N_is_close_key "is_close_key" (defScope s_is_close_key) f cdv A outer s H E).nox (defBody s_is_close_key) (t_is_close_key K sp_is_marks sp_is_name) :=
  have nd := sc_is_close_key.nd
  (ss_cons (sd_if (CWD.cd (cw_or (cd_not (cd_val (ed_callB ca_isi M.free_isinstance (ad_cons (ed_var 0) (ad_cons (ed_type M.free_tuple) ad_nil))))) (cw_or1 (cd_cmp (od_ne hr) (ed_callB ca_len M.free_len (ad_cons (ed_var 0) ad_nil)) (ed_if (cd_cmp (od_eq hr) (ed_var 1) (ed_glob (M.con_NAMED))) (ed_int) (ed_int)))))) (ss_one (sd_ret (ed_bl))) ss_nil)
  (ss_one (sd_ret (ed_and (ed_call F_is_marks hr M.glo_is_marks (ad_cons (ed_ix hr (ed_var 0) (ed_int)) (ad_cons (ed_var 2) ad_nil))) (ed_one (ed_or (ed_cmp (od_ne hr) (ed_var 1) (ed_glob (M.con_NAMED))) (ed_one (ed_call F_is_name hr M.glo_is_name (ad_cons (ed_ix hr (ed_var 0) (ed_int)) ad_nil)))))))))
def t_is_close_rule (K : PySem.W.Frag) (sp_is_index sp_is_colour : SpD) : TSD := (rSeq (rIfS (rTest (rOp dNe (rVar 1) (rC (.str "late")))) (rRet (rCall sp_is_index [] (rCons (rVar 0) (rCons (rVar 2) rNil)))) rNext)
  (rRet (rAnd (rCB (dIsi K) (rCons (rVar 0) (rCons (rC (.ty "tuple")) rNil))) (rAnd (rOp dEq (rCB dLen (rCons (rVar 0) rNil)) (rC (.int 2))) (rAnd (rCall sp_is_index [] (rCons (rOp dIx (rVar 0) (rC (.int 0))) (rCons (rVar 2) rNil))) (rCall sp_is_colour [] (rCons (rOp dIx (rVar 0) (rC (.int 1))) rNil)))))))
theorem der_is_close_rule {f : Addr} {cdv : Value} {A : Around} {outer : List Env} {s : Shared} {H : Hp} {E : XK} {sp_is_index sp_is_colour : SpD} (M : Md K mg) (hr : Room 3 (A.deeper (envOfC "is_close_rule" (defScope s_is_close_rule) s.heap.objs.size f cdv))) (F_is_index : FnD ⟨P, w, K⟩ mg base 1 (He.ga K "is_index") [] sp_is_index) (F_is_colour : FnD ⟨P, w, K⟩ mg base 3 (He.ga K "is_colour") [] sp_is_colour) :
    SsD (cxOf CX0 P w K mg base N_is_close_rule "is_close_rule" (defScope s_is_close_rule) f cdv A outer s H E).nox (defBody s_is_close_rule) (t_is_close_rule K sp_is_index sp_is_colour) :=
  have nd := sc_is_close_rule.nd
  (ss_cons (sd_if (cd_cmp (od_ne hr) (ed_var 1) (ed_glob (M.con_LATE))) (ss_one (sd_ret (ed_call F_is_index hr M.glo_is_index (ad_cons (ed_var 0) (ad_cons (ed_var 2) ad_nil))))) ss_nil)
  (ss_one (sd_ret (ed_and (ed_callB ca_isi M.free_isinstance (ad_cons (ed_var 0) (ad_cons (ed_type M.free_tuple) ad_nil))) (ed_and (ed_cmp (od_eq hr) (ed_callB ca_len M.free_len (ad_cons (ed_var 0) ad_nil)) (ed_int)) (ed_and (ed_call F_is_index hr M.glo_is_index (ad_cons (ed_ix hr (ed_var 0) (ed_int)) (ad_cons (ed_var 2) ad_nil))) (ed_one (ed_call F_is_colour hr M.glo_is_colour (ad_cons (ed_ix hr (ed_var 0) (ed_int)) ad_nil)))))))))
def t_are_closes (K : PySem.W.Frag) (sp_is_close_key sp_is_close_rule : SpD) : TSD := (rSeq (rIfS (bOr (bNot (rTest (rCB (dIsi K) (rCons (rVar 0) (rCons (rC (.ty "tuple")) rNil))))) (bOr (rTest (rOp dNe (rCB dLen (rCons (rVar 0) rNil)) (rVar 3))) (bNot (rTest (rCB dAll (rCons (rComp (rIter (rVar 0)) (dName 4) bYes (rCB (dIsi K) (rCons (rVar 4) (rCons (rC (.ty "dict")) rNil))) [4]) rNil)))))) (rRet (rC (.bl false))) rNext)
  (rSeq (rAsg (rComp2 (rIter (rVar 0)) (dName 4) bYes (rItems (rVar 4)) (dTup 2 (dCons (dName 6) (dCons (dName 7) dNil))) bYes (rTup (rCons (rVar 6) (rCons (rVar 7) rNil))) [4, 6, 7] [6, 7]) (dName 5))
  (rRet (rCB dAll (rCons (rComp (rIter (rVar 5)) (dTup 2 (dCons (dName 6) (dCons (dName 7) dNil))) bYes (rAnd (rCall sp_is_close_key [] (rCons (rVar 6) (rCons (rVar 1) (rCons (rVar 2) rNil)))) (rCall sp_is_close_rule [] (rCons (rVar 7) (rCons (rVar 1) (rCons (rVar 3) rNil))))) [6, 7]) rNil)))))
theorem der_are_closes {f : Addr} {cdv : Value} {A : Around} {outer : List Env} {s : Shared} {H : Hp} {E : XK} {sp_is_close_key sp_is_close_rule : SpD} (M : Md K mg) (hr : Room 4 (A.deeper (envOfC "are_closes" (defScope s_are_closes) s.heap.objs.size f cdv))) (F_is_close_key : FnD ⟨P, w, K⟩ mg base 3 (He.ga K "is_close_key") [] sp_is_close_key) (F_is_close_rule : FnD ⟨P, w, K⟩ mg base 4 (He.ga K "is_close_rule") [] sp_is_close_rule) :
    SsD (cxOf CX0 P w K mg base N_are_closes "are_closes" (defScope s_are_closes) f cdv A outer s H E).nox (defBody s_are_closes) (t_are_closes K sp_is_close_key sp_is_close_rule) :=
  have nd := sc_are_closes.nd
  (ss_cons (sd_if (CWD.cd (cw_or (cd_not (cd_val (ed_callB ca_isi M.free_isinstance (ad_cons (ed_var 0) (ad_cons (ed_type M.free_tuple) ad_nil))))) (cw_or (cd_cmp (od_ne hr) (ed_callB ca_len M.free_len (ad_cons (ed_var 0) ad_nil)) (ed_var 3)) (cw_or1 (cd_not (cd_val (ed_callB ca_all M.free_all (ad_cons (ed_comp (own := [("row", 4)]) (blkOk_by (by rfl)) nd (id_seq (ed_var 0)) (fun _ _ _ _ _ => (gc_name 4 nd)) (fun _ _ _ _ _ => cs_nil) (fun _ _ _ _ _ => (ed_callB ca_isi M.free_isinstance (ad_cons (ed_var 4) (ad_cons (ed_type M.free_dict) ad_nil))))) ad_nil)))))))) (ss_one (sd_ret (ed_bl))) ss_nil)
  (ss_cons (sd_setComp2 5 (own := [("row", 4), ("key", 6), ("rule", 7)]) (vs1 := [6, 7]) (blkOk_by (by rfl)) nd (id_seq (ed_var 0)) (by decide) (fun _ _ _ _ _ => (gc_name 4 nd)) (fun _ _ _ _ _ => cs_nil) (fun _ _ _ _ _ => (id_items (ed_var 4))) (fun _ _ _ _ _ => (gc_tup 2 (gcs_cons (gc_name 6 nd) (gcs_cons (gc_name 7 nd) gcs_nil)))) (fun _ _ _ _ _ => cs_nil) (fun _ _ _ _ _ => (ed_tup (ad_cons (ed_var 6) (ad_cons (ed_var 7) ad_nil)))) (by rfl))
  (ss_one (sd_ret (ed_callB ca_all M.free_all (ad_cons (ed_comp (own := [("key", 6), ("rule", 7)]) (blkOk_by (by rfl)) nd (id_seq (ed_var 5)) (fun _ _ _ _ _ => (gc_tup 2 (gcs_cons (gc_name 6 nd) (gcs_cons (gc_name 7 nd) gcs_nil)))) (fun _ _ _ _ _ => cs_nil) (fun _ _ _ _ _ => (ed_and (ed_call F_is_close_key hr M.glo_is_close_key (ad_cons (ed_var 6) (ad_cons (ed_var 1) (ad_cons (ed_var 2) ad_nil)))) (ed_one (ed_call F_is_close_rule hr M.glo_is_close_rule (ad_cons (ed_var 7) (ad_cons (ed_var 1) (ad_cons (ed_var 3) ad_nil)))))))) ad_nil))))))
def t_Rules_u__init_u_ (K : PySem.W.Frag) : TSD := (rSeq (rSetF (cs_own_mode K) (rVar 0) (rVar 1))
  (rSeq (rSetF (cs_own_marks K) (rVar 0) (rVar 2))
  (rSeq (rSetF (cs_own_opens K) (rVar 0) (rCB dTupOf (rCons (rComp (rIter (rVar 3)) (dName 6) bYes (rDc (rIter (rCB dSort (rCons (rCB dListD (rCons (rVar 6) rNil)) rNil))) (dName 5) bYes (rVar 5) (rOp dIx (rVar 6) (rVar 5)) [5]) [6]) rNil)))
  (rSetF (cs_own_closes K) (rVar 0) (rCB dTupOf (rCons (rComp (rIter (rVar 4)) (dName 6) bYes (rDc (rIter (rCB dSort (rCons (rCB dListD (rCons (rVar 6) rNil)) rNil))) (dName 7) bYes (rVar 7) (rOp dIx (rVar 6) (rVar 7)) [7]) [6]) rNil))))))
theorem der_Rules_u__init_u_ {f : Addr} {cdv : Value} {A : Around} {outer : List Env} {s : Shared} {H : Hp} {E : XK} (M : Md K mg) (hr : Room 0 (A.deeper (envOfC "Rules.__init__" (defScope s_Rules_u__init_u_) s.heap.objs.size f cdv)))  :
    SsD (cxOf CX0 P w K mg base N_Rules_u__init_u_ "Rules.__init__" (defScope s_Rules_u__init_u_) f cdv A outer s H E).nox (defBody s_Rules_u__init_u_) (t_Rules_u__init_u_ K) :=
  have nd := sc_Rules_u__init_u_.nd
  (ss_cons (sd_fld M.fld_own_mode (ed_var 0) (ed_var 1))
  (ss_cons (sd_fld M.fld_own_marks (ed_var 0) (ed_var 2))
  (ss_cons (sd_fld M.fld_own_opens (ed_var 0) (ed_callTy ca_tuple M.free_tuple (ad_cons (ed_comp (own := [("row", 6)]) (blkOk_by (by rfl)) nd (id_seq (ed_var 3)) (fun _ _ _ _ _ => (gc_name 6 nd)) (fun _ _ _ _ _ => cs_nil) (fun _ _ _ _ _ => (ed_dc (own := [("label", 5)]) hr (blkOk_by (by rfl)) nd (id_seq (ed_callB (ca_sorted hr) M.free_sorted (ad_cons (ed_callTy ca_listD M.free_list (ad_cons (ed_var 6) ad_nil)) ad_nil))) (fun _ _ _ _ _ => (gc_name 5 nd)) (fun _ _ _ _ _ => cs_nil) (fun _ _ _ _ _ => (ed_var 5)) (fun _ _ _ _ _ => (ed_ix hr (ed_var 6) (ed_var 5)))))) ad_nil)))
  (ss_one (sd_fld M.fld_own_closes (ed_var 0) (ed_callTy ca_tuple M.free_tuple (ad_cons (ed_comp (own := [("row", 6)]) (blkOk_by (by rfl)) nd (id_seq (ed_var 4)) (fun _ _ _ _ _ => (gc_name 6 nd)) (fun _ _ _ _ _ => cs_nil) (fun _ _ _ _ _ => (ed_dc (own := [("key", 7)]) hr (blkOk_by (by rfl)) nd (id_seq (ed_callB (ca_sorted hr) M.free_sorted (ad_cons (ed_callTy ca_listD M.free_list (ad_cons (ed_var 6) ad_nil)) ad_nil))) (fun _ _ _ _ _ => (gc_name 7 nd)) (fun _ _ _ _ _ => cs_nil) (fun _ _ _ _ _ => (ed_var 7)) (fun _ _ _ _ _ => (ed_ix hr (ed_var 6) (ed_var 7)))))) ad_nil)))))))
def t_checked_readers (K : PySem.W.Frag) (sp_is_mode sp_is_index sp_are_opens sp_are_closes sp_Rules_u__init_u_ : SpD) : TSD := (rSeq (rIfS (bNot (rTest (rCall sp_is_mode [] (rCons (rVar 0) rNil)))) (rNever) rNext)
  (rSeq (rIfS (bNot (rTest (rCall sp_is_index [] (rCons (rVar 1) (rCons (rOp dAdd (rC (.int 2)) (rC (.int 1))) rNil))))) (rNever) rNext)
  (rSeq (rIfS (bNot (rTest (rCall sp_are_opens [] (rCons (rVar 2) (rCons (rVar 0) (rCons (rVar 1) rNil)))))) (rNever) rNext)
  (rSeq (rIfS (bNot (rTest (rCall sp_are_closes [] (rCons (rVar 3) (rCons (rVar 0) (rCons (rVar 1) (rCons (rCB dLen (rCons (rVar 2) rNil)) rNil))))))) (rNever) rNext)
  (rRet (rMake (He.ga K "Rules") sp_Rules_u__init_u_ [] (rCons (rVar 0) (rCons (rVar 1) (rCons (rVar 2) (rCons (rVar 3) rNil))))))))))
theorem der_checked_readers {f : Addr} {cdv : Value} {A : Around} {outer : List Env} {s : Shared} {H : Hp} {E : XK} {sp_is_mode sp_is_index sp_are_opens sp_are_closes sp_Rules_u__init_u_ : SpD} (M : Md K mg) (hr : Room 5 (A.deeper (envOfC "checked" (defScope s_checked_readers) s.heap.objs.size f cdv))) (F_is_mode : FnD ⟨P, w, K⟩ mg base 1 (He.ga K "is_mode") [] sp_is_mode) (F_is_index : FnD ⟨P, w, K⟩ mg base 1 (He.ga K "is_index") [] sp_is_index) (F_are_opens : FnD ⟨P, w, K⟩ mg base 5 (He.ga K "are_opens") [] sp_are_opens) (F_are_closes : FnD ⟨P, w, K⟩ mg base 5 (He.ga K "are_closes") [] sp_are_closes) (F_Rules_u__init_u_ : FnD ⟨P, w, K⟩ mg base 1 (He.ma K (He.ga K "Rules") "__init__") [] sp_Rules_u__init_u_) :
    SsD (cxOf CX0 P w K mg base N_checked_readers "checked" (defScope s_checked_readers) f cdv A outer s H E).nox (defBody s_checked_readers) (t_checked_readers K sp_is_mode sp_is_index sp_are_opens sp_are_closes sp_Rules_u__init_u_) :=
  have nd := sc_checked_readers.nd
  (ss_cons (sd_if (cd_not (cd_val (ed_call F_is_mode hr M.glo_is_mode (ad_cons (ed_var 0) ad_nil)))) (ss_one (sd_never)) ss_nil)
  (ss_cons (sd_if (cd_not (cd_val (ed_call F_is_index hr M.glo_is_index (ad_cons (ed_var 1) (ad_cons (ed_op od_add (ed_glob (M.con_MAX_MARKS)) (ed_int)) ad_nil))))) (ss_one (sd_never)) ss_nil)
  (ss_cons (sd_if (cd_not (cd_val (ed_call F_are_opens hr M.glo_are_opens (ad_cons (ed_var 2) (ad_cons (ed_var 0) (ad_cons (ed_var 1) ad_nil)))))) (ss_one (sd_never)) ss_nil)
  (ss_cons (sd_if (cd_not (cd_val (ed_call F_are_closes hr M.glo_are_closes (ad_cons (ed_var 3) (ad_cons (ed_var 0) (ad_cons (ed_var 1) (ad_cons (ed_callB ca_len M.free_len (ad_cons (ed_var 2) ad_nil)) ad_nil))))))) (ss_one (sd_never)) ss_nil)
  (ss_one (sd_ret (ed_make M.mk_Rules F_Rules_u__init_u_ hr M.glo_Rules (ad_cons (ed_var 0) (ad_cons (ed_var 1) (ad_cons (ed_var 2) (ad_cons (ed_var 3) ad_nil)))))))))))
def t_Reader_u__init_u_ (K : PySem.W.Frag) (sp_checked_readers : SpD) : TSD := (rSeq (rAsg (rIf (rTest (rCB (dIsi K) (rCons (rVar 1) (rCons (rC (.ref (He.ga K "Rules"))) rNil)))) (rVar 1) (rCall sp_checked_readers [] (rCons (rVar 1) (rCons (rVar 2) (rCons (rVar 3) (rCons (rVar 4) rNil)))))) (dName 5))
  (rSeq (rSetF (cs_own_mode K) (rVar 0) (rFld (cs_own_mode K) (rVar 5)))
  (rSeq (rSetF (cs_own_marks K) (rVar 0) (rFld (cs_own_marks K) (rVar 5)))
  (rSeq (rSetF (cs_own_opens K) (rVar 0) (rFld (cs_own_opens K) (rVar 5)))
  (rSetF (cs_own_closes K) (rVar 0) (rFld (cs_own_closes K) (rVar 5)))))))
theorem der_Reader_u__init_u_ {f : Addr} {cdv : Value} {A : Around} {outer : List Env} {s : Shared} {H : Hp} {E : XK} {sp_checked_readers : SpD} (M : Md K mg) (hr : Room 6 (A.deeper (envOfC "Reader.__init__" (defScope s_Reader_u__init_u_) s.heap.objs.size f cdv))) (F_checked_readers : FnD ⟨P, w, K⟩ mg base 6 (He.ga K "checked_readers") [] sp_checked_readers) :
    SsD (cxOf CX0 P w K mg base N_Reader_u__init_u_ "Reader.__init__" (defScope s_Reader_u__init_u_) f cdv A outer s H E).nox (defBody s_Reader_u__init_u_) (t_Reader_u__init_u_ K sp_checked_readers) :=
  have nd := sc_Reader_u__init_u_.nd
  (ss_cons (sd_set 5 nd (ed_if (cd_val (ed_callB ca_isi M.free_isinstance (ad_cons (ed_var 1) (ad_cons (ed_glob (M.ref_Rules)) ad_nil)))) (ed_var 1) (ed_call F_checked_readers hr M.glo_checked_readers (ad_cons (ed_var 1) (ad_cons (ed_var 2) (ad_cons (ed_var 3) (ad_cons (ed_var 4) ad_nil)))))))
  (ss_cons (sd_fld M.fld_own_mode (ed_var 0) (ed_fld M.fld_own_mode (ed_var 5)))
  (ss_cons (sd_fld M.fld_own_marks (ed_var 0) (ed_fld M.fld_own_marks (ed_var 5)))
  (ss_cons (sd_fld M.fld_own_opens (ed_var 0) (ed_fld M.fld_own_opens (ed_var 5)))
  (ss_one (sd_fld M.fld_own_closes (ed_var 0) (ed_fld M.fld_own_closes (ed_var 5))))))))
def t__law_made_reader (K : PySem.W.Frag) (sp_Reader_u__init_u_ : SpD) : TSD := (rSeq (rAsg (rCB dTupOf (rCons (rComp (rIter (rOp dIx (rVar 0) (rC (.str "opens")))) (dName 2) bYes (rCB dDictP (rCons (rItL (rVar 2)) rNil)) [2]) rNil)) (dName 1))
  (rSeq (rAsg (rCB dTupOf (rCons (rComp (rIter (rOp dIx (rVar 0) (rC (.str "closes")))) (dName 2) bYes (rCB dDictP (rCons (rItL (rVar 2)) rNil)) [2]) rNil)) (dName 3))
  (rRet (rMake (He.ga K "Reader") sp_Reader_u__init_u_ [] (rCons (rOp dIx (rVar 0) (rC (.str "mode"))) (rCons (rOp dIx (rVar 0) (rC (.str "marks"))) (rCons (rVar 1) (rCons (rVar 3) rNil))))))))
theorem der__law_made_reader {f : Addr} {cdv : Value} {A : Around} {outer : List Env} {s : Shared} {H : Hp} {E : XK} {sp_Reader_u__init_u_ : SpD} (M : Md K mg) (hr : Room 8 (A.deeper (envOfC "_law_made_reader" (defScope s__law_made_reader) s.heap.objs.size f cdv))) (F_Reader_u__init_u_ : FnD ⟨P, w, K⟩ mg base 7 (He.ma K (He.ga K "Reader") "__init__") [] sp_Reader_u__init_u_) :
    SsD (cxOf CX0 P w K mg base N__law_made_reader "_law_made_reader" (defScope s__law_made_reader) f cdv A outer s H E).nox (defBody s__law_made_reader) (t__law_made_reader K sp_Reader_u__init_u_) :=
  have nd := sc__law_made_reader.nd
  (ss_cons (sd_set 1 nd (ed_callTy ca_tuple M.free_tuple (ad_cons (ed_comp (own := [("_law_row", 2)]) (blkOk_by (by rfl)) nd (id_seq (ed_ix hr (ed_var 0) (ed_str))) (fun _ _ _ _ _ => (gc_name 2 nd)) (fun _ _ _ _ _ => cs_nil) (fun _ _ _ _ _ => (ed_callTy (ca_dictP hr) M.free_dict (ad_cons (ed_itL (ed_var 2) M.free_list) ad_nil)))) ad_nil)))
  (ss_cons (sd_set 3 nd (ed_callTy ca_tuple M.free_tuple (ad_cons (ed_comp (own := [("_law_row", 2)]) (blkOk_by (by rfl)) nd (id_seq (ed_ix hr (ed_var 0) (ed_str))) (fun _ _ _ _ _ => (gc_name 2 nd)) (fun _ _ _ _ _ => cs_nil) (fun _ _ _ _ _ => (ed_callTy (ca_dictP hr) M.free_dict (ad_cons (ed_itL (ed_var 2) M.free_list) ad_nil)))) ad_nil)))
  (ss_one (sd_ret (ed_make M.mk_Reader F_Reader_u__init_u_ hr M.glo_Reader (ad_cons (ed_ix hr (ed_var 0) (ed_str)) (ad_cons (ed_ix hr (ed_var 0) (ed_str)) (ad_cons (ed_var 1) (ad_cons (ed_var 3) ad_nil)))))))))
def t__law_reader (K : PySem.W.Frag) (sp__law_roll sp__law_one_of : SpD) : TSD := (rSeq (rAsg (rOp dAdd (rOp dAdd (rLst (rCons (rTup rNil) rNil)) (rComp (rRange fun sd h Q => (rCons (rVar 4) rNil) sd h fun ds h1 => ds.length = 1 ∧ Q ds h1) (dName 7) bYes (rTup (rCons (rVar 7) rNil)) [7])) (rOp dMul (rLst (rCons (rTup (rCons (rC (.int 0)) (rCons (rC (.int 1)) rNil))) rNil)) (rCB dInt (rCons (rOp dGt (rVar 4) (rC (.int 1))) rNil)))) (dName 6))
  (rSeq (rPar 8 9 (rCons (rLstR rNil) (rCons (rLstR rNil) rNil)))
  (rSeq (rFor (rRange fun sd h Q => (rCons (rVar 3) rNil) sd h fun ds h1 => ds.length = 1 ∧ Q ds h1) (dName 10) (rSeq (rPar 11 12 (rCons (rDict0) (rCons (rDict0) rNil)))
  (rSeq (rFor (rIter (rVar 1)) (dName 13) (rSeq (rAsg (rTup (rCons (rCall sp__law_roll [] (rCons (rVar 0) (rCons (rVar 3) rNil))) (rCons (rCall sp__law_one_of [] (rCons (rVar 0) (rCons (rVar 6) rNil))) rNil))) (dName 14))
  (rSeq (rAsg (rIf (rTest (rOp dEq (rVar 2) (rC (.str "late")))) (rVar 14) (rOp dAdd (rVar 14) (rTup (rCons (rCall sp__law_one_of [] (rCons (rVar 0) (rCons (rVar 5) rNil))) rNil)))) (dName 14))
  (rIfS (rTest (rOp dGt (rCall sp__law_roll [] (rCons (rVar 0) (rCons (rC (.int 12)) rNil))) (rC (.int 0)))) (rAsg (rVar 14) (rgSub (rVar 11) (rVar 13))) rNext))))
  (rSeq (rFor (rIter (rVar 6)) (dName 15) (rFor (rIter (rIf (rTest (rOp dEq (rVar 2) (rC (.str "named")))) (rVar 1) (rLst (rCons (rC (.str "")) rNil)))) (dName 13) (rSeq (rAsg (rIf (rTest (rOp dEq (rVar 2) (rC (.str "named")))) (rTup (rCons (rVar 15) (rCons (rVar 13) rNil))) (rTup (rCons (rVar 15) rNil))) (dName 16))
  (rSeq (rAsg (rCall sp__law_roll [] (rCons (rVar 0) (rCons (rVar 3) rNil))) (dName 17))
  (rIfS (rTest (rOp dGt (rCall sp__law_roll [] (rCons (rVar 0) (rCons (rC (.int 12)) rNil))) (rC (.int 0)))) (rAsg (rIf (rTest (rOp dEq (rVar 2) (rC (.str "late")))) (rTup (rCons (rVar 17) (rCons (rCall sp__law_one_of [] (rCons (rVar 0) (rCons (rVar 5) rNil))) rNil))) (rVar 17)) (rgSub (rVar 12) (rVar 16))) rNext)))))
  (rSeq (rDrop (rMt "list" dAppend (rVar 8) (rCons (rVarH 11) rNil)))
  (rDrop (rMt "list" dAppend (rVar 9) (rCons (rVarH 12) rNil))))))))
  (rRet (rDisp [((rC (.str "mode")), (rVar 2)), ((rC (.str "marks")), (rVar 4)), ((rC (.str "opens")), (rVarH 8)), ((rC (.str "closes")), (rVarH 9))])))))
theorem der__law_reader {f : Addr} {cdv : Value} {A : Around} {outer : List Env} {s : Shared} {H : Hp} {E : XK} {sp__law_roll sp__law_one_of : SpD} (M : Md K mg) (hr : Room 2 (A.deeper (envOfC "_law_reader" (defScope s__law_reader) s.heap.objs.size f cdv))) (F__law_roll : FnD ⟨P, w, K⟩ mg base 1 (He.ga K "_law_roll") [] sp__law_roll) (F__law_one_of : FnD ⟨P, w, K⟩ mg base 2 (He.ga K "_law_one_of") [] sp__law_one_of) :
    SsD (cxOf CX0 P w K mg base N__law_reader "_law_reader" (defScope s__law_reader) f cdv A outer s H E).nox (defBody s__law_reader) (t__law_reader K sp__law_roll sp__law_one_of) :=
  have nd := sc__law_reader.nd
  (ss_cons (sd_set 6 nd (ed_op od_add (ed_op od_add (ed_lst (ad_cons (ed_tup ad_nil) ad_nil)) (ed_comp (own := [("_law_mark", 7)]) (blkOk_by (by rfl)) nd (id_range1 (ad_cons (ed_var 4) ad_nil) M.free_range) (fun _ _ _ _ _ => (gc_name 7 nd)) (fun _ _ _ _ _ => cs_nil) (fun _ _ _ _ _ => (ed_tup (ad_cons (ed_var 7) ad_nil))))) (ed_op od_mul (ed_lst (ad_cons (ed_tup (ad_cons (ed_int) (ad_cons (ed_int) ad_nil))) ad_nil)) (ed_callTy ca_int M.free_int (ad_cons (ed_cmp od_gt (ed_var 4) (ed_int)) ad_nil)))))
  (ss_cons (sd_par 8 9 nd (ad_cons (ed_lstR ad_nil) (ad_cons (ed_lstR ad_nil) ad_nil)))
  (ss_cons (sd_for PassesOwn.never (id_range1 (ad_cons (ed_var 3) ad_nil) M.free_range) (gd_name 10 nd) (ss_cons (sd_par 11 12 nd (ad_cons (ed_dict0) (ad_cons (ed_dict0) ad_nil)))
  (ss_cons (sd_for PassesOwn.never (id_seq (ed_var 1)) (gd_name 13 nd) (ss_cons (sd_set 14 nd (ed_tup (ad_cons (ed_call F__law_roll hr M.glo__law_roll (ad_cons (ed_var 0) (ad_cons (ed_var 3) ad_nil))) (ad_cons (ed_call F__law_one_of hr M.glo__law_one_of (ad_cons (ed_var 0) (ad_cons (ed_var 6) ad_nil))) ad_nil))))
  (ss_cons (sd_set 14 nd (ed_if (cd_cmp (od_eq hr) (ed_var 2) (ed_str)) (ed_var 14) (ed_op od_add (ed_var 14) (ed_tup (ad_cons (ed_call F__law_one_of hr M.glo__law_one_of (ad_cons (ed_var 0) (ad_cons (ed_var 5) ad_nil))) ad_nil)))))
  (ss_one (sd_if (cd_cmp od_gt (ed_call F__law_roll hr M.glo__law_roll (ad_cons (ed_var 0) (ad_cons (ed_int) ad_nil))) (ed_int)) (ss_one (sd_asg (ed_var 14) (gd_sub hr (ed_var 11) (ed_var 13)))) ss_nil)))))
  (ss_cons (sd_for PassesOwn.never (id_seq (ed_var 6)) (gd_name 15 nd) (ss_one (sd_for PassesOwn.never (id_seq (ed_if (cd_cmp (od_eq hr) (ed_var 2) (ed_str)) (ed_var 1) (ed_lst (ad_cons (ed_str) ad_nil)))) (gd_name 13 nd) (ss_cons (sd_set 16 nd (ed_if (cd_cmp (od_eq hr) (ed_var 2) (ed_str)) (ed_tup (ad_cons (ed_var 15) (ad_cons (ed_var 13) ad_nil))) (ed_tup (ad_cons (ed_var 15) ad_nil))))
  (ss_cons (sd_set 17 nd (ed_call F__law_roll hr M.glo__law_roll (ad_cons (ed_var 0) (ad_cons (ed_var 3) ad_nil))))
  (ss_one (sd_if (cd_cmp od_gt (ed_call F__law_roll hr M.glo__law_roll (ad_cons (ed_var 0) (ad_cons (ed_int) ad_nil))) (ed_int)) (ss_one (sd_asg (ed_if (cd_cmp (od_eq hr) (ed_var 2) (ed_str)) (ed_tup (ad_cons (ed_var 17) (ad_cons (ed_call F__law_one_of hr M.glo__law_one_of (ad_cons (ed_var 0) (ad_cons (ed_var 5) ad_nil))) ad_nil))) (ed_var 17)) (gd_sub hr (ed_var 12) (ed_var 16)))) ss_nil)))))))
  (ss_cons (sd_expr (ed_mt md_append (ed_var 8) (ad_cons (ed_varH 11) ad_nil) F.plainAttrs_list F.slot_list_append F.type_list_append))
  (ss_one (sd_expr (ed_mt md_append (ed_var 9) (ad_cons (ed_varH 12) ad_nil) F.plainAttrs_list F.slot_list_append F.type_list_append))))))))
  (ss_one (sd_ret (ed_disp hr (pd_cons (ed_str) (ed_var 2) (pd_cons (ed_str) (ed_var 4) (pd_cons (ed_str) (ed_varH 8) (pd_cons (ed_str) (ed_varH 9) pd_nil))))))))))
def t_Run_u__init_u_ (K : PySem.W.Frag) : TSD := (rSeq (rSetF (cs_own_reader K) (rVar 0) (rVar 1))
  (rSeq (rSetF (cs_own_events K) (rVar 0) (rVar 2))
  (rSeq (rAsg (rVar 3) (dTup 2 (dCons (rgFld (cs_own_state K) (rVar 0)) (dCons (rgFld (cs_own_free K) (rVar 0)) dNil))))
  (rSeq (rAsg (rVar 4) (dTup 2 (dCons (rgFld (cs_own_way K) (rVar 0)) (dCons (rgFld (cs_own_lying K) (rVar 0)) dNil))))
  (rSetF (cs_own_told K) (rVar 0) (rVar 5))))))
theorem der_Run_u__init_u_ {f : Addr} {cdv : Value} {A : Around} {outer : List Env} {s : Shared} {H : Hp} {E : XK} (M : Md K mg) (hr : Room 0 (A.deeper (envOfC "Run.__init__" (defScope s_Run_u__init_u_) s.heap.objs.size f cdv)))  :
    SsD (cxOf CX0 P w K mg base N_Run_u__init_u_ "Run.__init__" (defScope s_Run_u__init_u_) f cdv A outer s H E).nox (defBody s_Run_u__init_u_) (t_Run_u__init_u_ K) :=
  have nd := sc_Run_u__init_u_.nd
  (ss_cons (sd_fld M.fld_own_reader (ed_var 0) (ed_var 1))
  (ss_cons (sd_fld M.fld_own_events (ed_var 0) (ed_var 2))
  (ss_cons (sd_asg (ed_var 3) (gd_tup 2 (by rfl) (gds_cons (gd_fld M.fld_own_state (ed_var 0)) (gds_cons (gd_fld M.fld_own_free (ed_var 0)) gds_nil))))
  (ss_cons (sd_asg (ed_var 4) (gd_tup 2 (by rfl) (gds_cons (gd_fld M.fld_own_way (ed_var 0)) (gds_cons (gd_fld M.fld_own_lying (ed_var 0)) gds_nil))))
  (ss_one (sd_fld M.fld_own_told (ed_var 0) (ed_var 5)))))))
def t_every_mark (K : PySem.W.Frag) : TSD := (rRet (rTupRg (rFld (cs_own_marks K) (rVar 0))))
theorem der_every_mark {f : Addr} {cdv : Value} {A : Around} {outer : List Env} {s : Shared} {H : Hp} {E : XK} (M : Md K mg) (hr : Room 0 (A.deeper (envOfC "every_mark" (defScope s_every_mark) s.heap.objs.size f cdv)))  :
    SsD (cxOf CX0 P w K mg base N_every_mark "every_mark" (defScope s_every_mark) f cdv A outer s H E).nox (defBody s_every_mark) (t_every_mark K) :=
  have nd := sc_every_mark.nd
  (ss_one (sd_ret (ed_tupRg (ed_fld M.fld_own_marks (ed_var 0)) M.free_tuple M.free_range)))
def t_Reader_run (K : PySem.W.Frag) (sp_Run_u__init_u_ sp_every_mark : SpD) : TSD := (rRet (rMake (He.ga K "Run") sp_Run_u__init_u_ [] (rCons (rVar 0) (rCons (rTup rNil) (rCons (rTup (rCons (rC (.int 0)) (rCons (rCall sp_every_mark [] (rCons (rVar 0) rNil)) rNil))) (rCons (rTup (rCons (rTup rNil) (rCons (rTup rNil) rNil))) (rCons (rTup rNil) rNil)))))))
theorem der_Reader_run {f : Addr} {cdv : Value} {A : Around} {outer : List Env} {s : Shared} {H : Hp} {E : XK} {sp_Run_u__init_u_ sp_every_mark : SpD} (M : Md K mg) (hr : Room 2 (A.deeper (envOfC "Reader.run" (defScope s_Reader_run) s.heap.objs.size f cdv))) (F_Run_u__init_u_ : FnD ⟨P, w, K⟩ mg base 1 (He.ma K (He.ga K "Run") "__init__") [] sp_Run_u__init_u_) (F_every_mark : FnD ⟨P, w, K⟩ mg base 1 (He.ga K "every_mark") [] sp_every_mark) :
    SsD (cxOf CX0 P w K mg base N_Reader_run "Reader.run" (defScope s_Reader_run) f cdv A outer s H E).nox (defBody s_Reader_run) (t_Reader_run K sp_Run_u__init_u_ sp_every_mark) :=
  have nd := sc_Reader_run.nd
  (ss_one (sd_ret (ed_make M.mk_Run F_Run_u__init_u_ hr M.glo_Run (ad_cons (ed_var 0) (ad_cons (ed_tup ad_nil) (ad_cons (ed_tup (ad_cons (ed_int) (ad_cons (ed_call F_every_mark hr M.glo_every_mark (ad_cons (ed_var 0) ad_nil)) ad_nil))) (ad_cons (ed_tup (ad_cons (ed_tup ad_nil) (ad_cons (ed_tup ad_nil) ad_nil))) (ad_cons (ed_tup ad_nil) ad_nil))))))))
def t_Run_is_done (K : PySem.W.Frag) : TSD := (rRet (rAnd (rOp dNe (rFld (cs_own_events K) (rVar 0)) (rTup rNil)) (rOp dEq (rFld (cs_own_way K) (rVar 0)) (rTup rNil))))
theorem der_Run_is_done {f : Addr} {cdv : Value} {A : Around} {outer : List Env} {s : Shared} {H : Hp} {E : XK} (M : Md K mg) (hr : Room 0 (A.deeper (envOfC "Run.is_done" (defScope s_Run_is_done) s.heap.objs.size f cdv)))  :
    SsD (cxOf CX0 P w K mg base N_Run_is_done "Run.is_done" (defScope s_Run_is_done) f cdv A outer s H E).nox (defBody s_Run_is_done) (t_Run_is_done K) :=
  have nd := sc_Run_is_done.nd
  (ss_one (sd_ret (ed_and (ed_cmp (od_ne hr) (ed_fld M.fld_own_events (ed_var 0)) (ed_tup ad_nil)) (ed_one (ed_cmp (od_eq hr) (ed_fld M.fld_own_way (ed_var 0)) (ed_tup ad_nil))))))
def t_Run_way (K : PySem.W.Frag) : TSD := (rRet (rFld (cs_own_way K) (rVar 0)))
theorem der_Run_way {f : Addr} {cdv : Value} {A : Around} {outer : List Env} {s : Shared} {H : Hp} {E : XK} (M : Md K mg) (hr : Room 0 (A.deeper (envOfC "Run.way" (defScope s_Run_way) s.heap.objs.size f cdv)))  :
    SsD (cxOf CX0 P w K mg base N_Run_way "Run.way" (defScope s_Run_way) f cdv A outer s H E).nox (defBody s_Run_way) (t_Run_way K) :=
  have nd := sc_Run_way.nd
  (ss_one (sd_ret (ed_fld M.fld_own_way (ed_var 0))))
def t__law_close (K : PySem.W.Frag) : TSD := (rRet (rIf (rTest (rOp dEq (rVar 1) (rC (.str "named")))) (rTup (rCons (rC (.str "close")) (rCons (rVar 0) rNil))) (rTup (rCons (rC (.str "close")) rNil))))
theorem der__law_close {f : Addr} {cdv : Value} {A : Around} {outer : List Env} {s : Shared} {H : Hp} {E : XK} (M : Md K mg) (hr : Room 0 (A.deeper (envOfC "_law_close" (defScope s__law_close) s.heap.objs.size f cdv)))  :
    SsD (cxOf CX0 P w K mg base N__law_close "_law_close" (defScope s__law_close) f cdv A outer s H E).nox (defBody s__law_close) (t__law_close K) :=
  have nd := sc__law_close.nd
  (ss_one (sd_ret (ed_if (cd_cmp (od_eq hr) (ed_var 1) (ed_str)) (ed_tup (ad_cons (ed_str) (ad_cons (ed_var 0) ad_nil))) (ed_tup (ad_cons (ed_str) ad_nil)))))
def t_Run_reader (K : PySem.W.Frag) : TSD := (rRet (rFld (cs_own_reader K) (rVar 0)))
theorem der_Run_reader {f : Addr} {cdv : Value} {A : Around} {outer : List Env} {s : Shared} {H : Hp} {E : XK} (M : Md K mg) (hr : Room 0 (A.deeper (envOfC "Run.reader" (defScope s_Run_reader) s.heap.objs.size f cdv)))  :
    SsD (cxOf CX0 P w K mg base N_Run_reader "Run.reader" (defScope s_Run_reader) f cdv A outer s H E).nox (defBody s_Run_reader) (t_Run_reader K) :=
  have nd := sc_Run_reader.nd
  (ss_one (sd_ret (ed_fld M.fld_own_reader (ed_var 0))))
def t_Reader_mode (K : PySem.W.Frag) : TSD := (rRet (rFld (cs_own_mode K) (rVar 0)))
theorem der_Reader_mode {f : Addr} {cdv : Value} {A : Around} {outer : List Env} {s : Shared} {H : Hp} {E : XK} (M : Md K mg) (hr : Room 0 (A.deeper (envOfC "Reader.mode" (defScope s_Reader_mode) s.heap.objs.size f cdv)))  :
    SsD (cxOf CX0 P w K mg base N_Reader_mode "Reader.mode" (defScope s_Reader_mode) f cdv A outer s H E).nox (defBody s_Reader_mode) (t_Reader_mode K) :=
  have nd := sc_Reader_mode.nd
  (ss_one (sd_ret (ed_fld M.fld_own_mode (ed_var 0))))
def t__law_further (K : PySem.W.Frag) (sp_Run_is_done sp_Run_way sp__law_close sp_Run_reader sp_Reader_mode : SpD) : TSD := (rSeq (rIfS (rTest (rProp (He.ga K "Run") sp_Run_is_done (rVar 0))) (rRet (rLst rNil)) rNext)
  (rSeq (rAsg (rComp (rIter (rVar 1)) (dName 3) bYes (rTup (rCons (rC (.str "open")) (rCons (rVar 3) rNil))) [3]) (dName 2))
  (rSeq (rIfS (rTest (rOp dEq (rProp (He.ga K "Run") sp_Run_way (rVar 0)) (rTup rNil))) (rRet (rVar 2)) rNext)
  (rRet (rOp dAdd (rVar 2) (rLst (rCons (rCall sp__law_close [] (rCons (rOp dIx (rProp (He.ga K "Run") sp_Run_way (rVar 0)) (rNeg (rC (.int 1)))) (rCons (rProp (He.ga K "Reader") sp_Reader_mode (rProp (He.ga K "Run") sp_Run_reader (rVar 0))) rNil))) rNil)))))))
theorem der__law_further {f : Addr} {cdv : Value} {A : Around} {outer : List Env} {s : Shared} {H : Hp} {E : XK} {sp_Run_is_done sp_Run_way sp__law_close sp_Run_reader sp_Reader_mode : SpD} (M : Md K mg) (hr : Room 2 (A.deeper (envOfC "_law_further" (defScope s__law_further) s.heap.objs.size f cdv))) (F_Run_is_done : FnD ⟨P, w, K⟩ mg base 1 (DL.gtAd K (He.ga K "Run") "is_done") [] sp_Run_is_done) (F_Run_way : FnD ⟨P, w, K⟩ mg base 1 (DL.gtAd K (He.ga K "Run") "way") [] sp_Run_way) (F__law_close : FnD ⟨P, w, K⟩ mg base 1 (He.ga K "_law_close") [] sp__law_close) (F_Run_reader : FnD ⟨P, w, K⟩ mg base 1 (DL.gtAd K (He.ga K "Run") "reader") [] sp_Run_reader) (F_Reader_mode : FnD ⟨P, w, K⟩ mg base 1 (DL.gtAd K (He.ga K "Reader") "mode") [] sp_Reader_mode) :
    SsD (cxOf CX0 P w K mg base N__law_further "_law_further" (defScope s__law_further) f cdv A outer s H E).nox (defBody s__law_further) (t__law_further K sp_Run_is_done sp_Run_way sp__law_close sp_Run_reader sp_Reader_mode) :=
  have nd := sc__law_further.nd
  (ss_cons (sd_if (cd_val (ed_prop M.pr_Run_is_done F_Run_is_done hr (ed_var 0))) (ss_one (sd_ret (ed_lst ad_nil))) ss_nil)
  (ss_cons (sd_setComp 2 (own := [("_law_label", 3)]) (blkOk_by (by rfl)) nd (id_seq (ed_var 1)) (fun _ _ _ _ _ => (gc_name 3 nd)) (fun _ _ _ _ _ => cs_nil) (fun _ _ _ _ _ => (ed_tup (ad_cons (ed_str) (ad_cons (ed_var 3) ad_nil)))) (by rfl))
  (ss_cons (sd_if (cd_cmp (od_eq hr) (ed_prop M.pr_Run_way F_Run_way hr (ed_var 0)) (ed_tup ad_nil)) (ss_one (sd_ret (ed_var 2))) ss_nil)
  (ss_one (sd_ret (ed_op od_add (ed_var 2) (ed_lst (ad_cons (ed_call F__law_close hr M.glo__law_close (ad_cons (ed_ix hr (ed_prop M.pr_Run_way F_Run_way hr (ed_var 0)) (ed_neg (ed_int))) (ad_cons (ed_prop M.pr_Reader_mode F_Reader_mode hr (ed_prop M.pr_Run_reader F_Run_reader hr (ed_var 0))) ad_nil))) ad_nil))))))))
def t_is_event (K : PySem.W.Frag) (sp_is_name : SpD) : TSD := (rSeq (rIfS (bOr (bNot (rTest (rCB (dIsi K) (rCons (rVar 0) (rCons (rC (.ty "tuple")) rNil))))) (bOr (rTest (rOp dEq (rVar 0) (rTup rNil))) (bNot (rTest (rCB (dIsi K) (rCons (rOp dIx (rVar 0) (rC (.int 0))) (rCons (rC (.ty "str")) rNil))))))) (rRet (rC (.bl false))) rNext)
  (rSeq (rIfS (bOr (rTest (rOp dEq (rOp dIx (rVar 0) (rC (.int 0))) (rC (.str "open")))) (bAnd (rTest (rOp dEq (rOp dIx (rVar 0) (rC (.int 0))) (rC (.str "close")))) (rTest (rOp dEq (rVar 1) (rC (.str "named")))))) (rRet (rAnd (rOp dEq (rCB dLen (rCons (rVar 0) rNil)) (rC (.int 2))) (rCall sp_is_name [] (rCons (rOp dIx (rVar 0) (rC (.int 1))) rNil)))) rNext)
  (rRet (rOp dEq (rVar 0) (rTup (rCons (rC (.str "close")) rNil))))))
theorem der_is_event {f : Addr} {cdv : Value} {A : Around} {outer : List Env} {s : Shared} {H : Hp} {E : XK} {sp_is_name : SpD} (M : Md K mg) (hr : Room 1 (A.deeper (envOfC "is_event" (defScope s_is_event) s.heap.objs.size f cdv))) (F_is_name : FnD ⟨P, w, K⟩ mg base 1 (He.ga K "is_name") [] sp_is_name) :
    SsD (cxOf CX0 P w K mg base N_is_event "is_event" (defScope s_is_event) f cdv A outer s H E).nox (defBody s_is_event) (t_is_event K sp_is_name) :=
  have nd := sc_is_event.nd
  (ss_cons (sd_if (CWD.cd (cw_or (cd_not (cd_val (ed_callB ca_isi M.free_isinstance (ad_cons (ed_var 0) (ad_cons (ed_type M.free_tuple) ad_nil))))) (cw_or (cd_cmp (od_eq hr) (ed_var 0) (ed_tup ad_nil)) (cw_or1 (cd_not (cd_val (ed_callB ca_isi M.free_isinstance (ad_cons (ed_ix hr (ed_var 0) (ed_int)) (ad_cons (ed_type M.free_str) ad_nil))))))))) (ss_one (sd_ret (ed_bl))) ss_nil)
  (ss_cons (sd_if (CWD.cd (cw_or (cd_cmp (od_eq hr) (ed_ix hr (ed_var 0) (ed_int)) (ed_glob (M.con_OPEN))) (cw_or1 (CWD.cd (cw_and (cd_cmp (od_eq hr) (ed_ix hr (ed_var 0) (ed_int)) (ed_glob (M.con_CLOSE))) (cw_and1 (cd_cmp (od_eq hr) (ed_var 1) (ed_glob (M.con_NAMED))))))))) (ss_one (sd_ret (ed_and (ed_cmp (od_eq hr) (ed_callB ca_len M.free_len (ad_cons (ed_var 0) ad_nil)) (ed_int)) (ed_one (ed_call F_is_name hr M.glo_is_name (ad_cons (ed_ix hr (ed_var 0) (ed_int)) ad_nil)))))) ss_nil)
  (ss_one (sd_ret (ed_cmp (od_eq hr) (ed_var 0) (ed_tup (ad_cons (ed_glob (M.con_CLOSE)) ad_nil)))))))
def t_close_of (K : PySem.W.Frag) : TSD := (rRet (rIf (rTest (rOp dEq (rVar 1) (rC (.str "named")))) (rTup (rCons (rC (.str "close")) (rCons (rVar 0) rNil))) (rTup (rCons (rC (.str "close")) rNil))))
theorem der_close_of {f : Addr} {cdv : Value} {A : Around} {outer : List Env} {s : Shared} {H : Hp} {E : XK} (M : Md K mg) (hr : Room 0 (A.deeper (envOfC "close_of" (defScope s_close_of) s.heap.objs.size f cdv)))  :
    SsD (cxOf CX0 P w K mg base N_close_of "close_of" (defScope s_close_of) f cdv A outer s H E).nox (defBody s_close_of) (t_close_of K) :=
  have nd := sc_close_of.nd
  (ss_one (sd_ret (ed_if (cd_cmp (od_eq hr) (ed_var 1) (ed_glob (M.con_NAMED))) (ed_tup (ad_cons (ed_glob (M.con_CLOSE)) (ad_cons (ed_var 0) ad_nil))) (ed_tup (ad_cons (ed_glob (M.con_CLOSE)) ad_nil)))))
def t_can_come (K : PySem.W.Frag) (sp_is_event sp_close_of : SpD) : TSD := (rSeq (rIfS (bNot (rTest (rCall sp_is_event [] (rCons (rVar 0) (rCons (rVar 1) rNil))))) (rRet (rC (.bl false))) rNext)
  (rSeq (rIfS (rTest (rOp dEq (rOp dIx (rVar 0) (rC (.int 0))) (rC (.str "open")))) (rRet (rOr (rOp dIsNot (rVar 2) (rC .non)) (rVar 3))) rNext)
  (rRet (rAnd (rOp dIsNot (rVar 2) (rC .non)) (rOp dEq (rCall sp_close_of [] (rCons (rVar 2) (rCons (rVar 1) rNil))) (rVar 0))))))
theorem der_can_come {f : Addr} {cdv : Value} {A : Around} {outer : List Env} {s : Shared} {H : Hp} {E : XK} {sp_is_event sp_close_of : SpD} (M : Md K mg) (hr : Room 2 (A.deeper (envOfC "can_come" (defScope s_can_come) s.heap.objs.size f cdv))) (F_is_event : FnD ⟨P, w, K⟩ mg base 2 (He.ga K "is_event") [] sp_is_event) (F_close_of : FnD ⟨P, w, K⟩ mg base 1 (He.ga K "close_of") [] sp_close_of) :
    SsD (cxOf CX0 P w K mg base N_can_come "can_come" (defScope s_can_come) f cdv A outer s H E).nox (defBody s_can_come) (t_can_come K sp_is_event sp_close_of) :=
  have nd := sc_can_come.nd
  (ss_cons (sd_if (cd_not (cd_val (ed_call F_is_event hr M.glo_is_event (ad_cons (ed_var 0) (ad_cons (ed_var 1) ad_nil))))) (ss_one (sd_ret (ed_bl))) ss_nil)
  (ss_cons (sd_if (cd_cmp (od_eq hr) (ed_ix hr (ed_var 0) (ed_int)) (ed_glob (M.con_OPEN))) (ss_one (sd_ret (ed_or (ed_cmp od_isnot (ed_var 2) (ed_non)) (ed_one (ed_var 3))))) ss_nil)
  (ss_one (sd_ret (ed_and (ed_cmp od_isnot (ed_var 2) (ed_non)) (ed_one (ed_cmp (od_eq hr) (ed_call F_close_of hr M.glo_close_of (ad_cons (ed_var 2) (ad_cons (ed_var 1) ad_nil))) (ed_var 0))))))))
def t_opened (K : PySem.W.Frag) : TSD := (rSeq (rAsg (rMt "dict" dGet (rOp dIx (rFld (cs_own_opens K) (rVar 0)) (rVar 1)) (rCons (rVar 3) (rCons (rTup (rCons (rVar 1) (rCons (rTup rNil) (rCons (rC .non) rNil)))) rNil))) (dName 4))
  (rSeq (rAsg (rCB dTupOf (rCons (rComp (rIter (rOp dIx (rVar 4) (rC (.int 1)))) (dName 6) (rTest (rOp dIn (rVar 6) (rVar 2))) (rVar 6) [6]) rNil)) (dName 5))
  (rSeq (rAsg (rCB dTupOf (rCons (rComp (rIter (rVar 2)) (dName 6) (rTest (rOp dNotIn (rVar 6) (rVar 5))) (rVar 6) [6]) rNil)) (dName 7))
  (rRet (rTup (rCons (rOp dIx (rVar 4) (rC (.int 0))) (rCons (rVar 7) (rCons (rVar 5) (rCons (rIf (rTest (rOp dEq (rFld (cs_own_mode K) (rVar 0)) (rC (.str "late")))) (rC .non) (rOp dIx (rVar 4) (rC (.int 2)))) rNil)))))))))
theorem der_opened {f : Addr} {cdv : Value} {A : Around} {outer : List Env} {s : Shared} {H : Hp} {E : XK} (M : Md K mg) (hr : Room 0 (A.deeper (envOfC "opened" (defScope s_opened) s.heap.objs.size f cdv)))  :
    SsD (cxOf CX0 P w K mg base N_opened "opened" (defScope s_opened) f cdv A outer s H E).nox (defBody s_opened) (t_opened K) :=
  have nd := sc_opened.nd
  (ss_cons (sd_set 4 nd (ed_mt (md_get hr) (ed_ix hr (ed_fld M.fld_own_opens (ed_var 0)) (ed_var 1)) (ad_cons (ed_var 3) (ad_cons (ed_tup (ad_cons (ed_var 1) (ad_cons (ed_tup ad_nil) (ad_cons (ed_non) ad_nil)))) ad_nil)) F.plainAttrs_dict F.slot_dict_get F.type_dict_get))
  (ss_cons (sd_set 5 nd (ed_callTy ca_tuple M.free_tuple (ad_cons (ed_comp (own := [("mark", 6)]) (blkOk_by (by rfl)) nd (id_seq (ed_ix hr (ed_var 4) (ed_int))) (fun _ _ _ _ _ => (gc_name 6 nd)) (fun _ _ _ _ _ => (cs_one (cd_cmp od_inF (ed_var 6) (ed_var 2)))) (fun _ _ _ _ _ => (ed_var 6))) ad_nil)))
  (ss_cons (sd_set 7 nd (ed_callTy ca_tuple M.free_tuple (ad_cons (ed_comp (own := [("mark", 6)]) (blkOk_by (by rfl)) nd (id_seq (ed_var 2)) (fun _ _ _ _ _ => (gc_name 6 nd)) (fun _ _ _ _ _ => (cs_one (cd_cmp od_notInF (ed_var 6) (ed_var 5)))) (fun _ _ _ _ _ => (ed_var 6))) ad_nil)))
  (ss_one (sd_ret (ed_tup (ad_cons (ed_ix hr (ed_var 4) (ed_int)) (ad_cons (ed_var 7) (ad_cons (ed_var 5) (ad_cons (ed_if (cd_cmp (od_eq hr) (ed_fld M.fld_own_mode (ed_var 0)) (ed_glob (M.con_LATE))) (ed_non) (ed_ix hr (ed_var 4) (ed_int))) ad_nil))))))))))
def t_closed (K : PySem.W.Frag) : TSD := (rSeq (rAsg (rIf (rTest (rOp dEq (rFld (cs_own_mode K) (rVar 0)) (rC (.str "named")))) (rTup (rCons (rVar 2) (rCons (rVar 3) rNil))) (rTup (rCons (rVar 2) rNil))) (dName 4))
  (rSeq (rIfS (rTest (rOp dEq (rFld (cs_own_mode K) (rVar 0)) (rC (.str "late")))) (rRet (rMt "dict" dGet (rOp dIx (rFld (cs_own_closes K) (rVar 0)) (rVar 1)) (rCons (rVar 4) (rCons (rTup (rCons (rVar 1) (rCons (rC .non) rNil))) rNil)))) rNext)
  (rRet (rTup (rCons (rMt "dict" dGet (rOp dIx (rFld (cs_own_closes K) (rVar 0)) (rVar 1)) (rCons (rVar 4) (rCons (rVar 1) rNil))) (rCons (rC .non) rNil))))))
theorem der_closed {f : Addr} {cdv : Value} {A : Around} {outer : List Env} {s : Shared} {H : Hp} {E : XK} (M : Md K mg) (hr : Room 0 (A.deeper (envOfC "closed" (defScope s_closed) s.heap.objs.size f cdv)))  :
    SsD (cxOf CX0 P w K mg base N_closed "closed" (defScope s_closed) f cdv A outer s H E).nox (defBody s_closed) (t_closed K) :=
  have nd := sc_closed.nd
  (ss_cons (sd_set 4 nd (ed_if (cd_cmp (od_eq hr) (ed_fld M.fld_own_mode (ed_var 0)) (ed_glob (M.con_NAMED))) (ed_tup (ad_cons (ed_var 2) (ad_cons (ed_var 3) ad_nil))) (ed_tup (ad_cons (ed_var 2) ad_nil))))
  (ss_cons (sd_if (cd_cmp (od_eq hr) (ed_fld M.fld_own_mode (ed_var 0)) (ed_glob (M.con_LATE))) (ss_one (sd_ret (ed_mt (md_get hr) (ed_ix hr (ed_fld M.fld_own_closes (ed_var 0)) (ed_var 1)) (ad_cons (ed_var 4) (ad_cons (ed_tup (ad_cons (ed_var 1) (ad_cons (ed_non) ad_nil))) ad_nil)) F.plainAttrs_dict F.slot_dict_get F.type_dict_get))) ss_nil)
  (ss_one (sd_ret (ed_tup (ad_cons (ed_mt (md_get hr) (ed_ix hr (ed_fld M.fld_own_closes (ed_var 0)) (ed_var 1)) (ad_cons (ed_var 4) (ad_cons (ed_var 1) ad_nil)) F.plainAttrs_dict F.slot_dict_get F.type_dict_get) (ad_cons (ed_non) ad_nil)))))))
def t_run_behind (K : PySem.W.Frag) (sp_opened sp_closed sp_Run_u__init_u_ : SpD) : TSD := (rSeq (rPar 2 3 (rCons (rFld (cs_own_reader K) (rVar 0)) (rCons (rOp dEq (rFld (cs_own_mode K) (rFld (cs_own_reader K) (rVar 0))) (rC (.str "late"))) rNil)))
  (rSeq (rIfS (rTest (rOp dEq (rOp dIx (rVar 1) (rC (.int 0))) (rC (.str "open")))) (rSeq (rAsg (rCall sp_opened [] (rCons (rVar 2) (rCons (rFld (cs_own_state K) (rVar 0)) (rCons (rFld (cs_own_free K) (rVar 0)) (rCons (rOp dIx (rVar 1) (rC (.int 1))) rNil))))) (dTup 4 (dCons (dName 4) (dCons (dName 5) (dCons (dName 6) (dCons (dName 7) dNil))))))
  (rAsg (rTup (rCons (rTup (rStar (rFld (cs_own_way K) (rVar 0)) (rCons (rOp dIx (rVar 1) (rC (.int 1))) rNil))) (rCons (rTup (rStar (rFld (cs_own_lying K) (rVar 0)) (rCons (rVar 6) rNil))) rNil))) (dName 8))) (rSeq (rAsg (rCall sp_closed [] (rCons (rVar 2) (rCons (rFld (cs_own_state K) (rVar 0)) (rCons (rOp dIx (rFld (cs_own_lying K) (rVar 0)) (rNeg (rC (.int 1)))) (rCons (rOp dIx (rFld (cs_own_way K) (rVar 0)) (rNeg (rC (.int 1)))) rNil))))) (dTup 2 (dCons (dName 4) (dCons (dName 7) dNil))))
  (rSeq (rAsg (rCB dTupOf (rCons (rCB dSort (rCons (rLst (rStar (rFld (cs_own_free K) (rVar 0)) (rStar (rOp dIx (rFld (cs_own_lying K) (rVar 0)) (rNeg (rC (.int 1)))) rNil))) rNil)) rNil)) (dName 5))
  (rAsg (rTup (rCons (rSlice (rFld (cs_own_way K) (rVar 0)) rNoPart (rPart (rNeg (rC (.int 1))))) (rCons (rSlice (rFld (cs_own_lying K) (rVar 0)) rNoPart (rPart (rNeg (rC (.int 1))))) rNil))) (dName 8)))))
  (rSeq (rAsg (rIf (rTest (rOp dNe (rOp dEq (rOp dIx (rVar 1) (rC (.int 0))) (rC (.str "open"))) (rVar 3))) (rTup (rStar (rFld (cs_own_told K) (rVar 0)) (rCons (rVar 7) rNil))) (rFld (cs_own_told K) (rVar 0))) (dName 9))
  (rRet (rMake (He.ga K "Run") sp_Run_u__init_u_ [] (rCons (rVar 2) (rCons (rTup (rStar (rFld (cs_own_events K) (rVar 0)) (rCons (rVar 1) rNil))) (rCons (rTup (rCons (rVar 4) (rCons (rVar 5) rNil))) (rCons (rVar 8) (rCons (rVar 9) rNil))))))))))
theorem der_run_behind {f : Addr} {cdv : Value} {A : Around} {outer : List Env} {s : Shared} {H : Hp} {E : XK} {sp_opened sp_closed sp_Run_u__init_u_ : SpD} (M : Md K mg) (hr : Room 2 (A.deeper (envOfC "run_behind" (defScope s_run_behind) s.heap.objs.size f cdv))) (F_opened : FnD ⟨P, w, K⟩ mg base 1 (He.ga K "opened") [] sp_opened) (F_closed : FnD ⟨P, w, K⟩ mg base 1 (He.ga K "closed") [] sp_closed) (F_Run_u__init_u_ : FnD ⟨P, w, K⟩ mg base 1 (He.ma K (He.ga K "Run") "__init__") [] sp_Run_u__init_u_) :
    SsD (cxOf CX0 P w K mg base N_run_behind "run_behind" (defScope s_run_behind) f cdv A outer s H E).nox (defBody s_run_behind) (t_run_behind K sp_opened sp_closed sp_Run_u__init_u_) :=
  have nd := sc_run_behind.nd
  (ss_cons (sd_par 2 3 nd (ad_cons (ed_fld M.fld_own_reader (ed_var 0)) (ad_cons (ed_cmp (od_eq hr) (ed_fld M.fld_own_mode (ed_fld M.fld_own_reader (ed_var 0))) (ed_glob (M.con_LATE))) ad_nil)))
  (ss_cons (sd_if (cd_cmp (od_eq hr) (ed_ix hr (ed_var 1) (ed_int)) (ed_glob (M.con_OPEN))) (ss_cons (sd_asg (ed_call F_opened hr M.glo_opened (ad_cons (ed_var 2) (ad_cons (ed_fld M.fld_own_state (ed_var 0)) (ad_cons (ed_fld M.fld_own_free (ed_var 0)) (ad_cons (ed_ix hr (ed_var 1) (ed_int)) ad_nil))))) (gd_tup 4 (by rfl) (gds_cons (gd_name 4 nd) (gds_cons (gd_name 5 nd) (gds_cons (gd_name 6 nd) (gds_cons (gd_name 7 nd) gds_nil))))))
  (ss_one (sd_set 8 nd (ed_tup (ad_cons (ed_tup (ad_star (ed_fld M.fld_own_way (ed_var 0)) (ad_cons (ed_ix hr (ed_var 1) (ed_int)) ad_nil))) (ad_cons (ed_tup (ad_star (ed_fld M.fld_own_lying (ed_var 0)) (ad_cons (ed_var 6) ad_nil))) ad_nil)))))) (ss_cons (sd_asg (ed_call F_closed hr M.glo_closed (ad_cons (ed_var 2) (ad_cons (ed_fld M.fld_own_state (ed_var 0)) (ad_cons (ed_ix hr (ed_fld M.fld_own_lying (ed_var 0)) (ed_neg (ed_int))) (ad_cons (ed_ix hr (ed_fld M.fld_own_way (ed_var 0)) (ed_neg (ed_int))) ad_nil))))) (gd_tup 2 (by rfl) (gds_cons (gd_name 4 nd) (gds_cons (gd_name 7 nd) gds_nil))))
  (ss_cons (sd_set 5 nd (ed_callTy ca_tuple M.free_tuple (ad_cons (ed_callB (ca_sorted hr) M.free_sorted (ad_cons (ed_lst (ad_star (ed_fld M.fld_own_free (ed_var 0)) (ad_star (ed_ix hr (ed_fld M.fld_own_lying (ed_var 0)) (ed_neg (ed_int))) ad_nil))) ad_nil)) ad_nil)))
  (ss_one (sd_set 8 nd (ed_tup (ad_cons (ed_slice (ed_fld M.fld_own_way (ed_var 0)) od_none (od_some (ed_neg (ed_int)))) (ad_cons (ed_slice (ed_fld M.fld_own_lying (ed_var 0)) od_none (od_some (ed_neg (ed_int)))) ad_nil))))))))
  (ss_cons (sd_set 9 nd (ed_if (cd_cmp (od_ne hr) (ed_cmp (od_eq hr) (ed_ix hr (ed_var 1) (ed_int)) (ed_glob (M.con_OPEN))) (ed_var 3)) (ed_tup (ad_star (ed_fld M.fld_own_told (ed_var 0)) (ad_cons (ed_var 7) ad_nil))) (ed_fld M.fld_own_told (ed_var 0))))
  (ss_one (sd_ret (ed_make M.mk_Run F_Run_u__init_u_ hr M.glo_Run (ad_cons (ed_var 2) (ad_cons (ed_tup (ad_star (ed_fld M.fld_own_events (ed_var 0)) (ad_cons (ed_var 1) ad_nil))) (ad_cons (ed_tup (ad_cons (ed_var 4) (ad_cons (ed_var 5) ad_nil))) (ad_cons (ed_var 8) (ad_cons (ed_var 9) ad_nil)))))))))))
def t_Run_after (K : PySem.W.Frag) (sp_can_come sp_run_behind : SpD) : TSD := (rSeq (rAsg (rIf (rTest (rOp dNe (rFld (cs_own_way K) (rVar 0)) (rTup rNil))) (rOp dIx (rFld (cs_own_way K) (rVar 0)) (rNeg (rC (.int 1)))) (rC .non)) (dName 2))
  (rSeq (rIfS (bNot (rTest (rCall sp_can_come [] (rCons (rVar 1) (rCons (rFld (cs_own_mode K) (rFld (cs_own_reader K) (rVar 0))) (rCons (rVar 2) (rCons (rOp dEq (rFld (cs_own_events K) (rVar 0)) (rTup rNil)) rNil))))))) (rNever) rNext)
  (rRet (rCall sp_run_behind [] (rCons (rVar 0) (rCons (rVar 1) rNil))))))
theorem der_Run_after {f : Addr} {cdv : Value} {A : Around} {outer : List Env} {s : Shared} {H : Hp} {E : XK} {sp_can_come sp_run_behind : SpD} (M : Md K mg) (hr : Room 3 (A.deeper (envOfC "Run.after" (defScope s_Run_after) s.heap.objs.size f cdv))) (F_can_come : FnD ⟨P, w, K⟩ mg base 3 (He.ga K "can_come") [] sp_can_come) (F_run_behind : FnD ⟨P, w, K⟩ mg base 3 (He.ga K "run_behind") [] sp_run_behind) :
    SsD (cxOf CX0 P w K mg base N_Run_after "Run.after" (defScope s_Run_after) f cdv A outer s H E).nox (defBody s_Run_after) (t_Run_after K sp_can_come sp_run_behind) :=
  have nd := sc_Run_after.nd
  (ss_cons (sd_set 2 nd (ed_if (cd_cmp (od_ne hr) (ed_fld M.fld_own_way (ed_var 0)) (ed_tup ad_nil)) (ed_ix hr (ed_fld M.fld_own_way (ed_var 0)) (ed_neg (ed_int))) (ed_non)))
  (ss_cons (sd_if (cd_not (cd_val (ed_call F_can_come hr M.glo_can_come (ad_cons (ed_var 1) (ad_cons (ed_fld M.fld_own_mode (ed_fld M.fld_own_reader (ed_var 0))) (ad_cons (ed_var 2) (ad_cons (ed_cmp (od_eq hr) (ed_fld M.fld_own_events (ed_var 0)) (ed_tup ad_nil)) ad_nil))))))) (ss_one (sd_never)) ss_nil)
  (ss_one (sd_ret (ed_call F_run_behind hr M.glo_run_behind (ad_cons (ed_var 0) (ad_cons (ed_var 1) ad_nil)))))))
def t__law_all_runs (K : PySem.W.Frag) (sp_Reader_run sp__law_further sp_Run_after : SpD) : TSD := (rSeq (rPar 3 4 (rCons (rLst (rCons (rMeth (He.ga K "Reader") sp_Reader_run [] (rVar 0) rNil) rNil)) (rCons (rLst (rCons (rMeth (He.ga K "Reader") sp_Reader_run [] (rVar 0) rNil) rNil)) rNil)))
  (rSeq (rFor (rRange fun sd h Q => (rCons (rVar 2) rNil) sd h fun ds h1 => ds.length = 1 ∧ Q ds h1) (dName 5) (rSeq (rAsg (rLstR rNil) (dName 6))
  (rSeq (rFor (rIter (rVar 4)) (dName 7) (rDrop (rMt "list" dExtend (rVar 6) (rCons (rComp (rIter (rCall sp__law_further [] (rCons (rVar 7) (rCons (rVar 1) rNil)))) (dName 8) bYes (rMeth (He.ga K "Run") sp_Run_after [] (rVar 7) (rCons (rVar 8) rNil)) [8]) rNil))))
  (rPar 3 4 (rCons (rOp dAdd (rVar 3) (rVar 6)) (rCons (rVarH 6) rNil))))))
  (rRet (rVar 3))))
theorem der__law_all_runs {f : Addr} {cdv : Value} {A : Around} {outer : List Env} {s : Shared} {H : Hp} {E : XK} {sp_Reader_run sp__law_further sp_Run_after : SpD} (M : Md K mg) (hr : Room 4 (A.deeper (envOfC "_law_all_runs" (defScope s__law_all_runs) s.heap.objs.size f cdv))) (F_Reader_run : FnD ⟨P, w, K⟩ mg base 3 (He.ma K (He.ga K "Reader") "run") [] sp_Reader_run) (F__law_further : FnD ⟨P, w, K⟩ mg base 3 (He.ga K "_law_further") [] sp__law_further) (F_Run_after : FnD ⟨P, w, K⟩ mg base 4 (He.ma K (He.ga K "Run") "after") [] sp_Run_after) :
    SsD (cxOf CX0 P w K mg base N__law_all_runs "_law_all_runs" (defScope s__law_all_runs) f cdv A outer s H E).nox (defBody s__law_all_runs) (t__law_all_runs K sp_Reader_run sp__law_further sp_Run_after) :=
  have nd := sc__law_all_runs.nd
  (ss_cons (sd_par 3 4 nd (ad_cons (ed_lst (ad_cons (ed_meth0 M.md_Reader_run F_Reader_run hr (ed_var 0)) ad_nil)) (ad_cons (ed_lst (ad_cons (ed_meth0 M.md_Reader_run F_Reader_run hr (ed_var 0)) ad_nil)) ad_nil)))
  (ss_cons (sd_for PassesOwn.never (id_range1 (ad_cons (ed_var 2) ad_nil) M.free_range) (gd_name 5 nd) (ss_cons (sd_set 6 nd (ed_lstR ad_nil))
  (ss_cons (sd_for PassesOwn.never (id_seq (ed_var 4)) (gd_name 7 nd) (ss_one (sd_expr (ed_mt md_extend (ed_var 6) (ad_cons (ed_comp (own := [("_law_step", 8)]) (blkOk_by (by rfl)) nd (id_seq (ed_call F__law_further hr M.glo__law_further (ad_cons (ed_var 7) (ad_cons (ed_var 1) ad_nil)))) (fun _ _ _ _ _ => (gc_name 8 nd)) (fun _ _ _ _ _ => cs_nil) (fun _ _ _ _ _ => (ed_meth M.md_Run_after F_Run_after hr (ed_var 7) (ad_cons (ed_var 8) ad_nil)))) ad_nil) F.plainAttrs_list F.slot_list_extend F.type_list_extend))))
  (ss_one (sd_par 3 4 nd (ad_cons (ed_op od_add (ed_var 3) (ed_var 6)) (ad_cons (ed_varH 6) ad_nil)))))))
  (ss_one (sd_ret (ed_var 3)))))
def t_Run_state (K : PySem.W.Frag) : TSD := (rRet (rFld (cs_own_state K) (rVar 0)))
theorem der_Run_state {f : Addr} {cdv : Value} {A : Around} {outer : List Env} {s : Shared} {H : Hp} {E : XK} (M : Md K mg) (hr : Room 0 (A.deeper (envOfC "Run.state" (defScope s_Run_state) s.heap.objs.size f cdv)))  :
    SsD (cxOf CX0 P w K mg base N_Run_state "Run.state" (defScope s_Run_state) f cdv A outer s H E).nox (defBody s_Run_state) (t_Run_state K) :=
  have nd := sc_Run_state.nd
  (ss_one (sd_ret (ed_fld M.fld_own_state (ed_var 0))))
def t_Run_lying (K : PySem.W.Frag) : TSD := (rRet (rFld (cs_own_lying K) (rVar 0)))
theorem der_Run_lying {f : Addr} {cdv : Value} {A : Around} {outer : List Env} {s : Shared} {H : Hp} {E : XK} (M : Md K mg) (hr : Room 0 (A.deeper (envOfC "Run.lying" (defScope s_Run_lying) s.heap.objs.size f cdv)))  :
    SsD (cxOf CX0 P w K mg base N_Run_lying "Run.lying" (defScope s_Run_lying) f cdv A outer s H E).nox (defBody s_Run_lying) (t_Run_lying K) :=
  have nd := sc_Run_lying.nd
  (ss_one (sd_ret (ed_fld M.fld_own_lying (ed_var 0))))
def t__law_standing (K : PySem.W.Frag) (sp_Run_reader sp_Reader_mode sp_Run_state sp_Run_lying sp_Run_is_done sp_Run_way : SpD) : TSD := (rSeq (rIfS (rTest (rOp dEq (rProp (He.ga K "Reader") sp_Reader_mode (rProp (He.ga K "Run") sp_Run_reader (rVar 0))) (rC (.str "named")))) (rRet (rTup (rCons (rProp (He.ga K "Run") sp_Run_state (rVar 0)) (rCons (rProp (He.ga K "Run") sp_Run_lying (rVar 0)) (rCons (rProp (He.ga K "Run") sp_Run_is_done (rVar 0)) (rCons (rProp (He.ga K "Run") sp_Run_way (rVar 0)) rNil)))))) rNext)
  (rRet (rTup (rCons (rProp (He.ga K "Run") sp_Run_state (rVar 0)) (rCons (rProp (He.ga K "Run") sp_Run_lying (rVar 0)) (rCons (rProp (He.ga K "Run") sp_Run_is_done (rVar 0)) (rCons (rCB dLen (rCons (rProp (He.ga K "Run") sp_Run_way (rVar 0)) rNil)) rNil)))))))
theorem der__law_standing {f : Addr} {cdv : Value} {A : Around} {outer : List Env} {s : Shared} {H : Hp} {E : XK} {sp_Run_reader sp_Reader_mode sp_Run_state sp_Run_lying sp_Run_is_done sp_Run_way : SpD} (M : Md K mg) (hr : Room 2 (A.deeper (envOfC "_law_standing" (defScope s__law_standing) s.heap.objs.size f cdv))) (F_Run_reader : FnD ⟨P, w, K⟩ mg base 1 (DL.gtAd K (He.ga K "Run") "reader") [] sp_Run_reader) (F_Reader_mode : FnD ⟨P, w, K⟩ mg base 1 (DL.gtAd K (He.ga K "Reader") "mode") [] sp_Reader_mode) (F_Run_state : FnD ⟨P, w, K⟩ mg base 1 (DL.gtAd K (He.ga K "Run") "state") [] sp_Run_state) (F_Run_lying : FnD ⟨P, w, K⟩ mg base 1 (DL.gtAd K (He.ga K "Run") "lying") [] sp_Run_lying) (F_Run_is_done : FnD ⟨P, w, K⟩ mg base 1 (DL.gtAd K (He.ga K "Run") "is_done") [] sp_Run_is_done) (F_Run_way : FnD ⟨P, w, K⟩ mg base 1 (DL.gtAd K (He.ga K "Run") "way") [] sp_Run_way) :
    SsD (cxOf CX0 P w K mg base N__law_standing "_law_standing" (defScope s__law_standing) f cdv A outer s H E).nox (defBody s__law_standing) (t__law_standing K sp_Run_reader sp_Reader_mode sp_Run_state sp_Run_lying sp_Run_is_done sp_Run_way) :=
  have nd := sc__law_standing.nd
  (ss_cons (sd_if (cd_cmp (od_eq hr) (ed_prop M.pr_Reader_mode F_Reader_mode hr (ed_prop M.pr_Run_reader F_Run_reader hr (ed_var 0))) (ed_str)) (ss_one (sd_ret (ed_tup (ad_cons (ed_prop M.pr_Run_state F_Run_state hr (ed_var 0)) (ad_cons (ed_prop M.pr_Run_lying F_Run_lying hr (ed_var 0)) (ad_cons (ed_prop M.pr_Run_is_done F_Run_is_done hr (ed_var 0)) (ad_cons (ed_prop M.pr_Run_way F_Run_way hr (ed_var 0)) ad_nil))))))) ss_nil)
  (ss_one (sd_ret (ed_tup (ad_cons (ed_prop M.pr_Run_state F_Run_state hr (ed_var 0)) (ad_cons (ed_prop M.pr_Run_lying F_Run_lying hr (ed_var 0)) (ad_cons (ed_prop M.pr_Run_is_done F_Run_is_done hr (ed_var 0)) (ad_cons (ed_callB ca_len M.free_len (ad_cons (ed_prop M.pr_Run_way F_Run_way hr (ed_var 0)) ad_nil)) ad_nil))))))))
def t_Run_free (K : PySem.W.Frag) : TSD := (rRet (rFld (cs_own_free K) (rVar 0)))
theorem der_Run_free {f : Addr} {cdv : Value} {A : Around} {outer : List Env} {s : Shared} {H : Hp} {E : XK} (M : Md K mg) (hr : Room 0 (A.deeper (envOfC "Run.free" (defScope s_Run_free) s.heap.objs.size f cdv)))  :
    SsD (cxOf CX0 P w K mg base N_Run_free "Run.free" (defScope s_Run_free) f cdv A outer s H E).nox (defBody s_Run_free) (t_Run_free K) :=
  have nd := sc_Run_free.nd
  (ss_one (sd_ret (ed_fld M.fld_own_free (ed_var 0))))
def t_Run_told (K : PySem.W.Frag) : TSD := (rRet (rFld (cs_own_told K) (rVar 0)))
theorem der_Run_told {f : Addr} {cdv : Value} {A : Around} {outer : List Env} {s : Shared} {H : Hp} {E : XK} (M : Md K mg) (hr : Room 0 (A.deeper (envOfC "Run.told" (defScope s_Run_told) s.heap.objs.size f cdv)))  :
    SsD (cxOf CX0 P w K mg base N_Run_told "Run.told" (defScope s_Run_told) f cdv A outer s H E).nox (defBody s_Run_told) (t_Run_told K) :=
  have nd := sc_Run_told.nd
  (ss_one (sd_ret (ed_fld M.fld_own_told (ed_var 0))))
def t__law_next_right (K : PySem.W.Frag) (sp__law_further sp_Run_after sp_Run_told sp__law_standing : SpD) : TSD := (rSeq (rAsg (rCall sp__law_further [] (rCons (rVar 0) (rCons (rVar 2) rNil))) (dName 3))
  (rSeq (rIfS (rTest (rOp dNe (rVar 3) (rCall sp__law_further [] (rCons (rVar 1) (rCons (rVar 2) rNil))))) (rRet (rC (.bl false))) rNext)
  (rSeq (rFor (rIter (rVar 3)) (dName 4) (rSeq (rPar 5 6 (rCons (rMeth (He.ga K "Run") sp_Run_after [] (rVar 0) (rCons (rVar 4) rNil)) (rCons (rMeth (He.ga K "Run") sp_Run_after [] (rVar 1) (rCons (rVar 4) rNil)) rNil)))
  (rIfS (bOr (rTest (rOp dNe (rSlice (rProp (He.ga K "Run") sp_Run_told (rVar 5)) (rPart (rCB dLen (rCons (rProp (He.ga K "Run") sp_Run_told (rVar 0)) rNil))) rNoPart) (rSlice (rProp (He.ga K "Run") sp_Run_told (rVar 6)) (rPart (rCB dLen (rCons (rProp (He.ga K "Run") sp_Run_told (rVar 1)) rNil))) rNoPart))) (rTest (rOp dNe (rCall sp__law_standing [] (rCons (rVar 5) rNil)) (rCall sp__law_standing [] (rCons (rVar 6) rNil))))) (rRet (rC (.bl false))) rNext)))
  (rRet (rC (.bl true))))))
theorem der__law_next_right {f : Addr} {cdv : Value} {A : Around} {outer : List Env} {s : Shared} {H : Hp} {E : XK} {sp__law_further sp_Run_after sp_Run_told sp__law_standing : SpD} (M : Md K mg) (hr : Room 4 (A.deeper (envOfC "_law_next_right" (defScope s__law_next_right) s.heap.objs.size f cdv))) (F__law_further : FnD ⟨P, w, K⟩ mg base 3 (He.ga K "_law_further") [] sp__law_further) (F_Run_after : FnD ⟨P, w, K⟩ mg base 4 (He.ma K (He.ga K "Run") "after") [] sp_Run_after) (F_Run_told : FnD ⟨P, w, K⟩ mg base 1 (DL.gtAd K (He.ga K "Run") "told") [] sp_Run_told) (F__law_standing : FnD ⟨P, w, K⟩ mg base 3 (He.ga K "_law_standing") [] sp__law_standing) :
    SsD (cxOf CX0 P w K mg base N__law_next_right "_law_next_right" (defScope s__law_next_right) f cdv A outer s H E).nox (defBody s__law_next_right) (t__law_next_right K sp__law_further sp_Run_after sp_Run_told sp__law_standing) :=
  have nd := sc__law_next_right.nd
  (ss_cons (sd_set 3 nd (ed_call F__law_further hr M.glo__law_further (ad_cons (ed_var 0) (ad_cons (ed_var 2) ad_nil))))
  (ss_cons (sd_if (cd_cmp (od_ne hr) (ed_var 3) (ed_call F__law_further hr M.glo__law_further (ad_cons (ed_var 1) (ad_cons (ed_var 2) ad_nil)))) (ss_one (sd_ret (ed_bl))) ss_nil)
  (ss_cons (sd_for PassesOwn.never (id_seq (ed_var 3)) (gd_name 4 nd) (ss_cons (sd_par 5 6 nd (ad_cons (ed_meth M.md_Run_after F_Run_after hr (ed_var 0) (ad_cons (ed_var 4) ad_nil)) (ad_cons (ed_meth M.md_Run_after F_Run_after hr (ed_var 1) (ad_cons (ed_var 4) ad_nil)) ad_nil)))
  (ss_one (sd_if (CWD.cd (cw_or (cd_cmp (od_ne hr) (ed_slice (ed_prop M.pr_Run_told F_Run_told hr (ed_var 5)) (od_some (ed_callB ca_len M.free_len (ad_cons (ed_prop M.pr_Run_told F_Run_told hr (ed_var 0)) ad_nil))) od_none) (ed_slice (ed_prop M.pr_Run_told F_Run_told hr (ed_var 6)) (od_some (ed_callB ca_len M.free_len (ad_cons (ed_prop M.pr_Run_told F_Run_told hr (ed_var 1)) ad_nil))) od_none)) (cw_or1 (cd_cmp (od_ne hr) (ed_call F__law_standing hr M.glo__law_standing (ad_cons (ed_var 5) ad_nil)) (ed_call F__law_standing hr M.glo__law_standing (ad_cons (ed_var 6) ad_nil)))))) (ss_one (sd_ret (ed_bl))) ss_nil))))
  (ss_one (sd_ret (ed_bl))))))
def t__law_right (K : PySem.W.Frag) (sp__law_some_mode sp__law_labels sp__law_roll sp__law_made_reader sp__law_reader sp__law_all_runs sp__law_standing sp_Run_free sp__law_next_right sp_Run_way sp_Run_state sp_Run_lying : SpD) : TSD := (rSeq (rPar 1 2 (rCons (rCall sp__law_labels [] (rCons (rVar 0) (rCons (rOp dAdd (rC (.int 1)) (rCall sp__law_roll [] (rCons (rVar 0) (rCons (rC (.int 2)) rNil)))) rNil))) (rCons (rCall sp__law_some_mode [] (rCons (rVar 0) rNil)) rNil)))
  (rSeq (rPar 3 4 (rCons (rOp dAdd (rC (.int 1)) (rCall sp__law_roll [] (rCons (rVar 0) (rCons (rC (.int 3)) rNil)))) (rCons (rCall sp__law_roll [] (rCons (rVar 0) (rCons (rC (.int 2)) rNil))) rNil)))
  (rSeq (rAsg (rCall sp__law_made_reader [] (rCons (rCall sp__law_reader [] (rCons (rVar 0) (rCons (rVar 1) (rCons (rVar 2) (rCons (rVar 3) (rCons (rVar 4) (rCons (rLst (rCons (rC (.str "x")) (rCons (rC (.str "y")) rNil))) rNil))))))) rNil)) (dName 5))
  (rSeq (rPar 6 7 (rCons (rDict0) (rCons (rDict0) rNil)))
  (rSeq (rFor (rIter (rCall sp__law_all_runs [] (rCons (rVar 5) (rCons (rVar 1) (rCons (rIf (rTest (rOp dGt (rCB dLen (rCons (rVar 1) rNil)) (rC (.int 1)))) (rC (.int 5)) (rC (.int 7))) rNil))))) (dName 8) (rSeq (rAsg (rMt "dict" dSetd (rVar 6) (rCons (rCall sp__law_standing [] (rCons (rVar 8) rNil)) (rCons (rVar 8) rNil))) (dName 9))
  (rSeq (rIfS (bOr (rTest (rOp dNe (rProp (He.ga K "Run") sp_Run_free (rVar 9)) (rProp (He.ga K "Run") sp_Run_free (rVar 8)))) (bNot (rTest (rCall sp__law_next_right [] (rCons (rVar 9) (rCons (rVar 8) (rCons (rVar 1) rNil))))))) (rRet (rC (.bl false))) rNext)
  (rDrop (rMt "list" dAppend (rMt "dict" dSetd (rVar 7) (rCons (rCB dLen (rCons (rProp (He.ga K "Run") sp_Run_way (rVar 8)) rNil)) (rCons (rLstR rNil) rNil))) (rCons (rTup (rCons (rProp (He.ga K "Run") sp_Run_state (rVar 8)) (rCons (rProp (He.ga K "Run") sp_Run_lying (rVar 8)) rNil))) rNil))))))
  (rSeq (rHide 7 (rFor (rKeys (rVar 7)) (dName 10) (rIfS (rTest (rOp dGt (rLenS (rOp dIx (rVar 7) (rVar 10))) (rOp dMul (rVar 3) (rOp dAdd (rC (.int 1)) (rOp dMul (rVar 10) (rVar 4)))))) (rRet (rC (.bl false))) rNext)))
  (rRet (rC (.bl true)))))))))
theorem der__law_right {f : Addr} {cdv : Value} {A : Around} {outer : List Env} {s : Shared} {H : Hp} {E : XK} {sp__law_some_mode sp__law_labels sp__law_roll sp__law_made_reader sp__law_reader sp__law_all_runs sp__law_standing sp_Run_free sp__law_next_right sp_Run_way sp_Run_state sp_Run_lying : SpD} (M : Md K mg) (hr : Room 9 (A.deeper (envOfC "_law_right" (defScope s__law_right) s.heap.objs.size f cdv))) (F__law_some_mode : FnD ⟨P, w, K⟩ mg base 3 (He.ga K "_law_some_mode") [] sp__law_some_mode) (F__law_labels : FnD ⟨P, w, K⟩ mg base 3 (He.ga K "_law_labels") [] sp__law_labels) (F__law_roll : FnD ⟨P, w, K⟩ mg base 1 (He.ga K "_law_roll") [] sp__law_roll) (F__law_made_reader : FnD ⟨P, w, K⟩ mg base 9 (He.ga K "_law_made_reader") [] sp__law_made_reader) (F__law_reader : FnD ⟨P, w, K⟩ mg base 3 (He.ga K "_law_reader") [] sp__law_reader) (F__law_all_runs : FnD ⟨P, w, K⟩ mg base 5 (He.ga K "_law_all_runs") [] sp__law_all_runs) (F__law_standing : FnD ⟨P, w, K⟩ mg base 3 (He.ga K "_law_standing") [] sp__law_standing) (F_Run_free : FnD ⟨P, w, K⟩ mg base 1 (DL.gtAd K (He.ga K "Run") "free") [] sp_Run_free) (F__law_next_right : FnD ⟨P, w, K⟩ mg base 5 (He.ga K "_law_next_right") [] sp__law_next_right) (F_Run_way : FnD ⟨P, w, K⟩ mg base 1 (DL.gtAd K (He.ga K "Run") "way") [] sp_Run_way) (F_Run_state : FnD ⟨P, w, K⟩ mg base 1 (DL.gtAd K (He.ga K "Run") "state") [] sp_Run_state) (F_Run_lying : FnD ⟨P, w, K⟩ mg base 1 (DL.gtAd K (He.ga K "Run") "lying") [] sp_Run_lying) :
    SsD (cxOf CX0 P w K mg base N__law_right "_law_right" (defScope s__law_right) f cdv A outer s H E).nox (defBody s__law_right) (t__law_right K sp__law_some_mode sp__law_labels sp__law_roll sp__law_made_reader sp__law_reader sp__law_all_runs sp__law_standing sp_Run_free sp__law_next_right sp_Run_way sp_Run_state sp_Run_lying) :=
  have nd := sc__law_right.nd
  (ss_cons (sd_par 1 2 nd (ad_cons (ed_call F__law_labels hr M.glo__law_labels (ad_cons (ed_var 0) (ad_cons (ed_op od_add (ed_int) (ed_call F__law_roll hr M.glo__law_roll (ad_cons (ed_var 0) (ad_cons (ed_int) ad_nil)))) ad_nil))) (ad_cons (ed_call F__law_some_mode hr M.glo__law_some_mode (ad_cons (ed_var 0) ad_nil)) ad_nil)))
  (ss_cons (sd_par 3 4 nd (ad_cons (ed_op od_add (ed_int) (ed_call F__law_roll hr M.glo__law_roll (ad_cons (ed_var 0) (ad_cons (ed_int) ad_nil)))) (ad_cons (ed_call F__law_roll hr M.glo__law_roll (ad_cons (ed_var 0) (ad_cons (ed_int) ad_nil))) ad_nil)))
  (ss_cons (sd_set 5 nd (ed_call F__law_made_reader hr M.glo__law_made_reader (ad_cons (ed_call F__law_reader hr M.glo__law_reader (ad_cons (ed_var 0) (ad_cons (ed_var 1) (ad_cons (ed_var 2) (ad_cons (ed_var 3) (ad_cons (ed_var 4) (ad_cons (ed_lst (ad_cons (ed_str) (ad_cons (ed_str) ad_nil))) ad_nil))))))) ad_nil)))
  (ss_cons (sd_par 6 7 nd (ad_cons (ed_dict0) (ad_cons (ed_dict0) ad_nil)))
  (ss_cons (sd_for PassesOwn.never (id_seq (ed_call F__law_all_runs hr M.glo__law_all_runs (ad_cons (ed_var 5) (ad_cons (ed_var 1) (ad_cons (ed_if (cd_cmp od_gt (ed_callB ca_len M.free_len (ad_cons (ed_var 1) ad_nil)) (ed_int)) (ed_int) (ed_int)) ad_nil))))) (gd_name 8 nd) (ss_cons (sd_set 9 nd (ed_mt (md_setd hr) (ed_var 6) (ad_cons (ed_call F__law_standing hr M.glo__law_standing (ad_cons (ed_var 8) ad_nil)) (ad_cons (ed_var 8) ad_nil)) F.plainAttrs_dict F.slot_dict_setdefault F.type_dict_setdefault))
  (ss_cons (sd_if (CWD.cd (cw_or (cd_cmp (od_ne hr) (ed_prop M.pr_Run_free F_Run_free hr (ed_var 9)) (ed_prop M.pr_Run_free F_Run_free hr (ed_var 8))) (cw_or1 (cd_not (cd_val (ed_call F__law_next_right hr M.glo__law_next_right (ad_cons (ed_var 9) (ad_cons (ed_var 8) (ad_cons (ed_var 1) ad_nil))))))))) (ss_one (sd_ret (ed_bl))) ss_nil)
  (ss_one (sd_expr (ed_mt md_append (ed_mt (md_setd hr) (ed_var 7) (ad_cons (ed_callB ca_len M.free_len (ad_cons (ed_prop M.pr_Run_way F_Run_way hr (ed_var 8)) ad_nil)) (ad_cons (ed_lstR ad_nil) ad_nil)) F.plainAttrs_dict F.slot_dict_setdefault F.type_dict_setdefault) (ad_cons (ed_tup (ad_cons (ed_prop M.pr_Run_state F_Run_state hr (ed_var 8)) (ad_cons (ed_prop M.pr_Run_lying F_Run_lying hr (ed_var 8)) ad_nil))) ad_nil) F.plainAttrs_list F.slot_list_append F.type_list_append))))))
  (ss_cons (sd_hide 7 (sd_for PassesOwn.never (id_keys (ed_var 7)) (gd_name 10 nd) (ss_one (sd_if (cd_cmp od_gt (ed_lenS hr (ed_ix hr (ed_var 7) (ed_var 10)) M.free_len M.free_set) (ed_op od_mul (ed_var 3) (ed_op od_add (ed_int) (ed_op od_mul (ed_var 10) (ed_var 4))))) (ss_one (sd_ret (ed_bl))) ss_nil))))
  (ss_one (sd_ret (ed_bl)))))))))
def t_Run_through (K : PySem.W.Frag) (sp_Run_after : SpD) : TSD := (rSeq (rIfS (bNot (rTest (rCB (dIsi K) (rCons (rVar 1) (rCons (rC (.ty "tuple")) rNil))))) (rNever) rNext)
  (rSeq (rAsg (rVar 0) (dName 2))
  (rSeq (rFor (rIter (rVar 1)) (dName 3) (rAsg (rMeth (He.ga K "Run") sp_Run_after [] (rVar 2) (rCons (rVar 3) rNil)) (dName 2)))
  (rRet (rVar 2)))))
theorem der_Run_through {f : Addr} {cdv : Value} {A : Around} {outer : List Env} {s : Shared} {H : Hp} {E : XK} {sp_Run_after : SpD} (M : Md K mg) (hr : Room 4 (A.deeper (envOfC "Run.through" (defScope s_Run_through) s.heap.objs.size f cdv))) (F_Run_after : FnD ⟨P, w, K⟩ mg base 4 (He.ma K (He.ga K "Run") "after") [] sp_Run_after) :
    SsD (cxOf CX0 P w K mg base N_Run_through "Run.through" (defScope s_Run_through) f cdv A outer s H E).nox (defBody s_Run_through) (t_Run_through K sp_Run_after) :=
  have nd := sc_Run_through.nd
  (ss_cons (sd_if (cd_not (cd_val (ed_callB ca_isi M.free_isinstance (ad_cons (ed_var 1) (ad_cons (ed_type M.free_tuple) ad_nil))))) (ss_one (sd_never)) ss_nil)
  (ss_cons (sd_set 2 nd (ed_var 0))
  (ss_cons (sd_for PassesOwn.never (id_seq (ed_var 1)) (gd_name 3 nd) (ss_one (sd_set 2 nd (ed_meth M.md_Run_after F_Run_after hr (ed_var 2) (ad_cons (ed_var 3) ad_nil)))))
  (ss_one (sd_ret (ed_var 2))))))
def t_law (K : PySem.W.Frag) (sp__law_dice sp__law_right sp_Reader_u__init_u_ sp_Run_through sp_Reader_run sp_Run_state sp_Run_lying sp_Run_is_done : SpD) : TSD := (rSeq (rFor (rRange fun sd h Q => (rCons (rCB dMax2 (rCons (rC (.int 1)) (rCons (rCB dMin2 (rCons (rC (.int 5)) (rCons (rCB dLen (rCons (rVar 0) rNil)) rNil))) rNil))) rNil) sd h fun ds h1 => ds.length = 1 ∧ Q ds h1) (dName 1) (rSeq (rAsg (rCall sp__law_dice [] (rCons (rVar 0) (rCons (rVar 1) rNil))) (dName 2))
  (rFor (rRange fun sd h Q => (rCons (rC (.int 3)) rNil) sd h fun ds h1 => ds.length = 1 ∧ Q ds h1) (dName 3) (rIfS (bNot (rTest (rCall sp__law_right [] (rCons (rVar 2) rNil)))) (rRet (rC (.bl false))) rNext))))
  (rSeq (rAsg (rMake (He.ga K "Reader") sp_Reader_u__init_u_ [] (rCons (rC (.str "bare")) (rCons (rC (.int 0)) (rCons (rTup (rCons (rDisp [((rC (.str "a")), (rTup (rCons (rC (.int 0)) (rCons (rTup rNil) (rCons (rC (.str "x")) rNil)))))]) rNil)) (rCons (rTup (rCons (rDict0V) rNil)) rNil))))) (dName 4))
  (rSeq (rAsg (rMeth (He.ga K "Run") sp_Run_through [] (rMeth (He.ga K "Reader") sp_Reader_run [] (rVar 4) rNil) (rCons (rTup (rCons (rTup (rCons (rC (.str "open")) (rCons (rC (.str "a")) rNil))) (rCons (rTup (rCons (rC (.str "close")) rNil)) rNil))) rNil)) (dName 5))
  (rRet (rOp dEq (rLst (rCons (rProp (He.ga K "Run") sp_Run_state (rVar 5)) (rCons (rProp (He.ga K "Run") sp_Run_lying (rVar 5)) (rCons (rProp (He.ga K "Run") sp_Run_is_done (rVar 5)) (rCons (rProp (He.ga K "Run") sp_Run_is_done (rMeth (He.ga K "Reader") sp_Reader_run [] (rVar 4) rNil)) rNil))))) (rLst (rCons (rC (.int 0)) (rCons (rTup rNil) (rCons (rC (.bl true)) (rCons (rC (.bl false)) rNil))))))))))
theorem der_law {f : Addr} {cdv : Value} {A : Around} {outer : List Env} {s : Shared} {H : Hp} {E : XK} {sp__law_dice sp__law_right sp_Reader_u__init_u_ sp_Run_through sp_Reader_run sp_Run_state sp_Run_lying sp_Run_is_done : SpD} (M : Md K mg) (hr : Room 10 (A.deeper (envOfC "law" (defScope s_law) s.heap.objs.size f cdv))) (F__law_dice : FnD ⟨P, w, K⟩ mg base 1 (He.ga K "_law_dice") [] sp__law_dice) (F__law_right : FnD ⟨P, w, K⟩ mg base 10 (He.ga K "_law_right") [] sp__law_right) (F_Reader_u__init_u_ : FnD ⟨P, w, K⟩ mg base 7 (He.ma K (He.ga K "Reader") "__init__") [] sp_Reader_u__init_u_) (F_Run_through : FnD ⟨P, w, K⟩ mg base 5 (He.ma K (He.ga K "Run") "through") [] sp_Run_through) (F_Reader_run : FnD ⟨P, w, K⟩ mg base 3 (He.ma K (He.ga K "Reader") "run") [] sp_Reader_run) (F_Run_state : FnD ⟨P, w, K⟩ mg base 1 (DL.gtAd K (He.ga K "Run") "state") [] sp_Run_state) (F_Run_lying : FnD ⟨P, w, K⟩ mg base 1 (DL.gtAd K (He.ga K "Run") "lying") [] sp_Run_lying) (F_Run_is_done : FnD ⟨P, w, K⟩ mg base 1 (DL.gtAd K (He.ga K "Run") "is_done") [] sp_Run_is_done) :
    SsD (cxOf CX0 P w K mg base N_law "law" (defScope s_law) f cdv A outer s H E).nox (defBody s_law) (t_law K sp__law_dice sp__law_right sp_Reader_u__init_u_ sp_Run_through sp_Reader_run sp_Run_state sp_Run_lying sp_Run_is_done) :=
  have nd := sc_law.nd
  (ss_cons (sd_for PassesOwn.never (id_range1 (ad_cons (ed_callB ca_max2 M.free_max (ad_cons (ed_int) (ad_cons (ed_callB ca_min2 M.free_min (ad_cons (ed_int) (ad_cons (ed_callB ca_len M.free_len (ad_cons (ed_var 0) ad_nil)) ad_nil))) ad_nil))) ad_nil) M.free_range) (gd_name 1 nd) (ss_cons (sd_set 2 nd (ed_call F__law_dice hr M.glo__law_dice (ad_cons (ed_var 0) (ad_cons (ed_var 1) ad_nil))))
  (ss_one (sd_for PassesOwn.never (id_range1 (ad_cons (ed_int) ad_nil) M.free_range) (gd_name 3 nd) (ss_one (sd_if (cd_not (cd_val (ed_call F__law_right hr M.glo__law_right (ad_cons (ed_var 2) ad_nil)))) (ss_one (sd_ret (ed_bl))) ss_nil))))))
  (ss_cons (sd_set 4 nd (ed_make M.mk_Reader F_Reader_u__init_u_ hr M.glo_Reader (ad_cons (ed_str) (ad_cons (ed_int) (ad_cons (ed_tup (ad_cons (ed_disp hr (pd_cons (ed_str) (ed_tup (ad_cons (ed_int) (ad_cons (ed_tup ad_nil) (ad_cons (ed_str) ad_nil)))) pd_nil)) ad_nil)) (ad_cons (ed_tup (ad_cons (ed_dict0V) ad_nil)) ad_nil))))))
  (ss_cons (sd_set 5 nd (ed_meth M.md_Run_through F_Run_through hr (ed_meth0 M.md_Reader_run F_Reader_run hr (ed_var 4)) (ad_cons (ed_tup (ad_cons (ed_tup (ad_cons (ed_str) (ad_cons (ed_str) ad_nil))) (ad_cons (ed_tup (ad_cons (ed_str) ad_nil)) ad_nil))) ad_nil)))
  (ss_one (sd_ret (ed_cmp (od_eq hr) (ed_lst (ad_cons (ed_prop M.pr_Run_state F_Run_state hr (ed_var 5)) (ad_cons (ed_prop M.pr_Run_lying F_Run_lying hr (ed_var 5)) (ad_cons (ed_prop M.pr_Run_is_done F_Run_is_done hr (ed_var 5)) (ad_cons (ed_prop M.pr_Run_is_done F_Run_is_done hr (ed_meth0 M.md_Reader_run F_Reader_run hr (ed_var 4))) ad_nil))))) (ed_lst (ad_cons (ed_int) (ad_cons (ed_tup ad_nil) (ad_cons (ed_bl) (ad_cons (ed_bl) ad_nil)))))))))))
end LK
set_option Elab.async false
set_option linter.all false
set_option maxRecDepth 100000
set_option maxHeartbeats 4000000
namespace LK
open PySem PySem.Spec PyProof.Rows L2 DL
/-! ### small facts -/
theorem log2_lt {x : Int} {k : Nat} (h0 : 0 ≤ x) (h : x < ((2 ^ k : Nat) : Int)) (hk : 0 < k) : x.natAbs.log2 < k := by
  by_cases z : x.natAbs = 0
  · rw [z]; simp [Nat.log2_zero]; exact hk
  · exact (Nat.log2_lt z).mpr (by generalize 2 ^ k = m at *; omega)
theorem atI_l0 {α : Type} {a : α} {l : List α} : L2.atI (a :: l) 0 = some a := atI_nat (j := 0) rfl
theorem atI_l1 {α : Type} {a b : α} {l : List α} : L2.atI (a :: b :: l) 1 = some b := atI_nat (j := 1) rfl
theorem atI_l2 {α : Type} {a b c : α} {l : List α} : L2.atI (a :: b :: c :: l) 2 = some c := atI_nat (j := 2) rfl
theorem ixN_nat {n i : Nat} (h : i < n) : ixN n (i : Int) = some i := by unfold ixN; rw [if_pos (by omega), if_pos (by omega)]; simp
theorem mulW {i j : Int} {a b : Nat} (h1 : i.natAbs.log2 < a) (h2 : j.natAbs.log2 < b) (h : a + b < 1000000) : CMulW i j := by unfold CMulW; omega
theorem dT {p : Prop} [Decidable p] (h : p) : decide p = true := decide_eq_true h
theorem dF {p : Prop} [Decidable p] (h : ¬ p) : decide p = false := decide_eq_false h
theorem no_tf {p : Prop} {b : Bool} (h : b = true) (e : b = false) : p := by rw [h] at e; cases e
abbrev nums (is : List Int) : List D := is.map D.int
abbrev txs (zs : List Str) : List D := zs.map D.str
/-! ### names, colours, marks -/
def goodName (z : Str) : Prop := 1 ≤ z.length ∧ z.length ≤ 8 ∧ ∀ c ∈ z.cps.toList, 97 ≤ c ∧ c ≤ 122
def goodCol (z : Str) : Prop := z.length + 2 ≤ sizeLine ∧ (Txt.split z ".").length ≤ 4 ∧ (∀ y ∈ Txt.split z ".", goodName y) ∧ PyData.strOk z = true
def okMode (m : Str) : Prop := m = "bare" ∨ m = "late" ∨ m = "named"
def MarksOk (m : Nat) (ms : List D) : Prop := ∃ is : List Int, ms = nums is ∧ is.length ≤ 2 ∧ is.Pairwise (· < ·) ∧ ∀ i ∈ is, 0 ≤ i ∧ i < m
def sOk (z : Str) : Prop := PyData.strOk z = true
theorem okMode.s {m : Str} (h : okMode m) : sOk m := by rcases h with rfl | rfl | rfl <;> (unfold sOk; decide +kernel)
theorem goodName.s {z : Str} (h : goodName z) : sOk z := by
  unfold sOk PyData.strOk
  rw [Array.all_eq_true_iff_forall_mem]
  exact fun c hc => dT (by have := h.2.2 c (Array.mem_toList_iff.mpr hc); omega)
/-! ### readers -/
structure RF where
  mode : Str
  marks : Nat
  n : Nat
  o : Nat → D → Option D
  c : Nat → D → Option D
/-- a key of the rules for opens; for closes -/
def okO (k : D) : Bool := match k with
  | .str _ => true
  | _ => false
def RowRep (kp : D → Prop) (f : D → Option D) (d : D) : Prop := ∃ ks vs, d = .dv ks vs ∧ ks.length = vs.length ∧ (∀ k ∈ ks, kp k) ∧ (ks.map nk).Nodup ∧ ks.length ≤ 100 ∧ ∀ k, kp k → lookA ks vs k = f k
def Rows (kp : D → Prop) (f : Nat → D → Option D) (ds : List D) : Prop := ∀ i d, ds[i]? = some d → RowRep kp (f i) d
def keyO (k : D) : Prop := ∃ z, k = .str z ∧ goodName z
def keyC (mode : Str) (m : Nat) (k : D) : Prop := ∃ ms, MarksOk m ms ∧ if mode = "named" then ∃ z, goodName z ∧ k = .tup [.tup ms, .str z] else k = .tup [.tup ms]
def ruleO (R : RF) (v : D) : Prop := ∃ (s : Nat) (ms : List D), s < R.n ∧ MarksOk R.marks ms ∧ if R.mode = "late" then v = .tup [.int s, .tup ms] else ∃ col, goodCol col ∧ v = .tup [.int s, .tup ms, .str col]
def ruleC (R : RF) (v : D) : Prop := ∃ s : Nat, s < R.n ∧ if R.mode = "late" then ∃ col, goodCol col ∧ v = .tup [.int s, .str col] else v = .int s
structure WF (R : RF) : Prop where
  md : okMode R.mode
  mks : R.marks ≤ 2
  n0 : 1 ≤ R.n
  n1 : R.n ≤ 10
  o : ∀ i k v, keyO k → R.o i k = some v → ruleO R v
  c : ∀ i k v, keyC R.mode R.marks k → R.c i k = some v → ruleC R v
/-- the rules as they stand: for opens, for closes -/
structure Rls (R : RF) (os cs : List D) : Prop where
  lo : os.length = R.n
  lc : cs.length = R.n
  o : Rows keyO R.o os
  c : Rows (keyC R.mode R.marks) R.c cs
def plainD (R : RF) (d : D) : Prop := ∃ os cs, d = .dv [.str "mode", .str "marks", .str "opens", .str "closes"] [.str R.mode, .int R.marks, .lv os, .lv cs] ∧ Rls R os cs
def readerD (K : PySem.W.Frag) (R : RF) (d : D) : Prop := ∃ os cs, d = .iv (He.ga K "Reader") [.str R.mode, .int R.marks, .tup os, .tup cs] ∧ Rls R os cs
/-! ### what a reader does -/
def openF (R : RF) (s : Nat) (l : D) : D × List D × D := match R.o s l with
  | some (.tup [s', .tup ms]) => (s', ms, .non)
  | some (.tup [s', .tup ms, c]) => (s', ms, c)
  | _ => (.int s, [], .non)
def laidF (free ms : List D) : List D := ms.filter fun m => free.any fun z => deq z m
def leftF (free laid : List D) : List D := free.filter fun m => !laid.any fun z => deq z m
def keyF (mode : Str) (laid : List D) (lab : Str) : D := if mode = "named" then .tup [.tup laid, .str lab] else .tup [.tup laid]
def closeF (R : RF) (s : Nat) (laid : List D) (lab : Str) : D × D := match R.c s (keyF R.mode laid lab) with
  | some (.tup [s', c]) => (s', c)
  | some s' => (s', .non)
  | none => (.int s, .non)
def natD : D → Nat
  | .int i => i.toNat
  | _ => 0
inductive Ev where
  | op (l : Str) | cl (l : Str)
def evD (mode : Str) : Ev → D
  | .op l => .tup [.str "open", .str l]
  | .cl l => if mode = "named" then .tup [.str "close", .str l] else .tup [.str "close"]
structure TS where
  st : Nat
  free : List D
  stk : List (Str × List D)
  told : List D
def stepF (R : RF) (t : TS) : Ev → TS
  | .op l =>
    let r := openF R t.st (.str l)
    let laid := laidF t.free r.2.1
    ⟨natD r.1, leftF t.free laid, (l, laid) :: t.stk, if R.mode = "late" then t.told else t.told ++ [r.2.2]⟩
  | .cl _ => match t.stk with
    | [] => t
    | (lab, laid) :: rest =>
      let r := closeF R t.st laid lab
      ⟨natD r.1, sortD (t.free ++ laid), rest, if R.mode = "late" then t.told ++ [r.2] else t.told⟩
def ts0 (R : RF) : TS := ⟨0, rangeD 0 R.marks, [], []⟩
def runF (R : RF) (t : TS) (es : List Ev) : TS := es.foldl (stepF R) t
def tellF (R : RF) (es : List Ev) : List D := (runF R (ts0 R) es).told
/-- events with which a document can go on: the open labels, whether none has come -/
def Valid : Bool → List Str → List Ev → Prop
  | _, _, [] => True
  | fst, stk, .op l :: es => (stk ≠ [] ∨ fst = true) ∧ goodName l ∧ Valid false (l :: stk) es
  | _, stk, .cl l :: es => ∃ rest, stk = l :: rest ∧ Valid false rest es
/-! ### documents -/
def nodeD (n : Str × Nat) : D := .tup [.str n.1, .int n.2]
/-- the events of nodes behind one another, the open labels so far -/
def evF : List Str → List (Str × Nat) → List Ev
  | stk, [] => stk.map .cl
  | stk, (l, d) :: r => (stk.take (stk.length + 1 - d)).map .cl ++ .op l :: evF (l :: stk.drop (stk.length + 1 - d)) r
/-- depths as they must be, behind depth p -/
def Deps : Nat → List (Str × Nat) → Prop
  | _, [] => True
  | p, (l, d) :: r => goodName l ∧ 2 ≤ d ∧ d ≤ p + 1 ∧ Deps d r
def DocN (ns : List (Str × Nat)) : Prop := ∃ l r, ns = (l, 1) :: r ∧ goodName l ∧ Deps 1 r ∧ ns.length ≤ 40
/-! ### dice -/
/-- dice: the third number counts the mixed draws -/
def DiceL (n : Nat) (d : List D) : Prop := ∃ a b c : Int, d = [.int a, .int b, .int c] ∧ 0 ≤ c ∧ c ≤ n
def DN : Nat := 1000000000
theorem DiceL.mono {n m : Nat} {d : List D} (h : n ≤ m) (q : DiceL n d) : DiceL m d := let ⟨a, b, c, e, x, y⟩ := q; ⟨a, b, c, e, x, by omega⟩
section
def sp__law_dice (K : PySem.W.Frag) : SpD := fun ds h Q => ∃ s at' is, ds = [.ref s, .int at'] ∧ h s = some (.rol (nums is)) ∧ is.length ≤ 63 ∧ 0 ≤ at' ∧ at' < 100 ∧ ∀ p d, h p = none → DiceL 0 d → Q (.ref p) (up h p (.lst d))
def sp__law_roll (K : PySem.W.Frag) : SpD := fun ds h Q => ∃ p k n d, ds = [.ref p, .int k] ∧ h p = some (.lst d) ∧ DiceL n d ∧ n ≤ DN ∧ 0 < k ∧ k < DN ∧ ∀ (r : Nat) d', r < k → DiceL (n + 1) d' → Q (.int r) (up h p (.lst d'))
def sp__law_one_of (K : PySem.W.Frag) : SpD := fun ds h Q => ∃ p xs n d, ds = [.ref p, .lv xs] ∧ h p = some (.lst d) ∧ DiceL n d ∧ n ≤ DN ∧ xs ≠ [] ∧ xs.length < 1000 ∧ ∀ x d', x ∈ xs → DiceL (n + 1) d' → Q x (up h p (.lst d'))
def sp__law_mixed (K : PySem.W.Frag) : SpD := fun ds h Q => ∃ p zs n d, ds = [.ref p, .lv (txs zs)] ∧ h p = some (.lst d) ∧ DiceL n d ∧ n + zs.length ≤ DN ∧ zs.length < 1000 ∧ (∀ z ∈ zs, goodName z) ∧ ∀ ys d', ys.Perm zs → DiceL (n + zs.length) d' → Q (.lv (txs ys)) (up h p (.lst d'))
def sp__law_labels (K : PySem.W.Frag) : SpD := fun ds h Q => ∃ p t n d, ds = [.ref p, .int (t : Nat)] ∧ h p = some (.lst d) ∧ DiceL n d ∧ n + 6 ≤ DN ∧ t ≤ 6 ∧ ∀ ys d', ys.length = t → ys.Nodup → (∀ y ∈ ys, goodName y) → DiceL (n + 6) d' → Q (.lv (txs ys)) (up h p (.lst d'))
def sp__law_some_mode (K : PySem.W.Frag) : SpD := fun ds h Q => ∃ p n d, ds = [.ref p] ∧ h p = some (.lst d) ∧ DiceL n d ∧ n ≤ DN ∧ ∀ m d', okMode m → DiceL (n + 1) d' → Q (.str m) (up h p (.lst d'))
def sp__law_reader (K : PySem.W.Frag) : SpD := fun ds h Q => ∃ p zs m st mk n d, ds = [.ref p, .lv (txs zs), .str m, .int (st : Nat), .int (mk : Nat), .lv [.str "x", .str "y"]] ∧ h p = some (.lst d) ∧ DiceL n d ∧ n + 1000 ≤ DN ∧ zs.length ≤ 3 ∧ zs.Nodup ∧ (∀ z ∈ zs, goodName z) ∧ okMode m ∧ 1 ≤ st ∧ st ≤ 5 ∧ mk ≤ 2 ∧
  ∀ R v d', WF R → R.mode = m → R.marks = mk → R.n = st → plainD R v → DiceL (n + 1000) d' → Q v (up h p (.lst d'))
def sp__law_made_reader (K : PySem.W.Frag) : SpD := fun ds h Q => ∃ R v, ds = [v] ∧ WF R ∧ plainD R v ∧ ∀ r, readerD K R r → Q r h
def sp__law_close (K : PySem.W.Frag) : SpD := fun ds h Q => ∃ l m, ds = [.str l, .str m] ∧ okMode m ∧ Q (evD m (.cl l)) h
def sp_law (K : PySem.W.Frag) : SpD := fun ds h Q => ∃ s is, ds = [.ref s] ∧ h s = some (.rol (nums is)) ∧ is.length ≤ 63 ∧ ∀ h', Q (.bl true) h'
/-! the program -/
def sp_is_mode (K : PySem.W.Frag) : SpD := fun ds h Q => ∃ m, ds = [.str m] ∧ okMode m ∧ Q (.bl true) h
def sp_is_index (K : PySem.W.Frag) : SpD := fun ds h Q => ∃ i t, ds = [.int i, .int t] ∧ 0 ≤ i ∧ i < t ∧ Q (.bl true) h
def sp_is_name (K : PySem.W.Frag) : SpD := fun ds h Q => ∃ z, ds = [.str z] ∧ goodName z ∧ Q (.bl true) h
def sp_is_ascending (K : PySem.W.Frag) : SpD := fun ds h Q => ∃ is, ds = [.tup (nums is)] ∧ is.length < 1000 ∧ is.Pairwise (· < ·) ∧ Q (.bl true) h
def sp_is_marks (K : PySem.W.Frag) : SpD := fun ds h Q => ∃ ms m, ds = [.tup ms, .int (m : Nat)] ∧ MarksOk m ms ∧ Q (.bl true) h
def sp_is_dotted (K : PySem.W.Frag) : SpD := fun ds h Q => ∃ z, ds = [.str z] ∧ goodCol z ∧ Q (.bl true) h
def sp_is_colour (K : PySem.W.Frag) : SpD := fun ds h Q => ∃ z, ds = [.str z] ∧ goodCol z ∧ Q (.bl true) h
def sp_is_open_rule (K : PySem.W.Frag) : SpD := fun ds h Q => ∃ R v, ds = [v, .str R.mode, .int R.marks, .int R.n] ∧ WF R ∧ ruleO R v ∧ Q (.bl true) h
def sp_are_opens (K : PySem.W.Frag) : SpD := fun ds h Q => ∃ R os, ds = [.tup os, .str R.mode, .int R.marks] ∧ WF R ∧ os.length = R.n ∧ Rows keyO R.o os ∧ Q (.bl true) h
def sp_is_close_key (K : PySem.W.Frag) : SpD := fun ds h Q => ∃ k m mk, ds = [k, .str m, .int (mk : Nat)] ∧ keyC m mk k ∧ okMode m ∧ Q (.bl true) h
def sp_is_close_rule (K : PySem.W.Frag) : SpD := fun ds h Q => ∃ R v, ds = [v, .str R.mode, .int R.n] ∧ WF R ∧ ruleC R v ∧ Q (.bl true) h
def sp_are_closes (K : PySem.W.Frag) : SpD := fun ds h Q => ∃ R cs, ds = [.tup cs, .str R.mode, .int R.marks, .int R.n] ∧ WF R ∧ cs.length = R.n ∧ Rows (keyC R.mode R.marks) R.c cs ∧ Q (.bl true) h
def sp_Rules_u__init_u_ (K : PySem.W.Frag) : SpD := fun ds h Q => ∃ p R os cs, ds = [.ref p, .str R.mode, .int R.marks, .tup os, .tup cs] ∧ h p = some (.ins (He.ga K "Rules") []) ∧ WF R ∧ Rls R os cs ∧ ∀ os' cs', Rls R os' cs' → Q .non (up h p (.ins (He.ga K "Rules") [.str R.mode, .int R.marks, .tup os', .tup cs']))
def sp_checked_readers (K : PySem.W.Frag) : SpD := fun ds h Q => ∃ R os cs, ds = [.str R.mode, .int R.marks, .tup os, .tup cs] ∧ WF R ∧ Rls R os cs ∧ ∀ os' cs', Rls R os' cs' → Q (.iv (He.ga K "Rules") [.str R.mode, .int R.marks, .tup os', .tup cs']) h
def sp_Reader_u__init_u_ (K : PySem.W.Frag) : SpD := fun ds h Q => ∃ p R os cs, ds = [.ref p, .str R.mode, .int R.marks, .tup os, .tup cs] ∧ h p = some (.ins (He.ga K "Reader") []) ∧ WF R ∧ Rls R os cs ∧ ∀ os' cs', Rls R os' cs' → Q .non (up h p (.ins (He.ga K "Reader") [.str R.mode, .int R.marks, .tup os', .tup cs']))
def sp_require_document (K : PySem.W.Frag) : SpD := fun ds h Q => ∃ vs, ds = [.iv (He.ga K "Document") vs] ∧ Q .non h
def sp_every_mark (K : PySem.W.Frag) : SpD := fun ds h Q => ∃ R r, ds = [r] ∧ WF R ∧ readerD K R r ∧ Q (.tup (rangeD 0 R.marks)) h
def sp_is_event (K : PySem.W.Frag) : SpD := fun ds h Q => ∃ m l e, ds = [evD m e, .str m] ∧ (e = .op l ∨ e = .cl l) ∧ goodName l ∧ okMode m ∧ Q (.bl true) h
def sp_close_of (K : PySem.W.Frag) : SpD := fun ds h Q => ∃ l m, ds = [.str l, .str m] ∧ okMode m ∧ Q (evD m (.cl l)) h
/-- the open label on top -/
def topD : List Str → D
  | [] => .non
  | l :: _ => .str l
def sp_can_come (K : PySem.W.Frag) : SpD := fun ds h Q => ∃ m e fst stk, ds = [evD m e, .str m, topD stk, .bl fst] ∧ Valid fst stk [e] ∧ (∀ l ∈ stk, goodName l) ∧ okMode m ∧ Q (.bl true) h
def sp_opened (K : PySem.W.Frag) : SpD := fun ds h Q => ∃ R r s free l, ds = [r, .int (s : Nat), .tup (nums free), .str l] ∧ WF R ∧ readerD K R r ∧ s < R.n ∧ goodName l ∧ free.length ≤ 1000 ∧
  Q (.tup [(openF R s (.str l)).1, .tup (leftF (nums free) (laidF (nums free) (openF R s (.str l)).2.1)), .tup (laidF (nums free) (openF R s (.str l)).2.1), (openF R s (.str l)).2.2]) h
def sp_closed (K : PySem.W.Frag) : SpD := fun ds h Q => ∃ R r s ms l, ds = [r, .int (s : Nat), .tup ms, .str l] ∧ WF R ∧ readerD K R r ∧ s < R.n ∧ MarksOk R.marks ms ∧ goodName l ∧ Q (.tup [(closeF R s ms l).1, (closeF R s ms l).2]) h
def sp_told_by (K : PySem.W.Frag) : SpD := fun ds h Q => ∃ R r evs es, ds = [r, evs] ∧ (evs = .lv (es.map (evD R.mode)) ∨ evs = .tup (es.map (evD R.mode))) ∧ WF R ∧ readerD K R r ∧ Valid true [] es ∧ es.length ≤ 100 ∧ Q (.lv (tellF R es)) h
def sp_events_in (K : PySem.W.Frag) : SpD := fun ds h Q => ∃ ns m, ds = [.tup (ns.map nodeD), .str m] ∧ DocN ns ∧ okMode m ∧ Q (.lv ((evF [] ns).map (evD m))) h
def sp_Reader_tells (K : PySem.W.Frag) : SpD := fun ds h Q => ∃ R r ns x y, ds = [r, .iv (He.ga K "Document") [.tup (ns.map nodeD), x, y]] ∧ WF R ∧ readerD K R r ∧ DocN ns ∧ Q (.tup (tellF R (evF [] ns))) h
def sp_Reader_u__call_u_ (K : PySem.W.Frag) : SpD := fun ds h Q => ∃ R r es, ds = [r, .tup (es.map (evD R.mode))] ∧ WF R ∧ readerD K R r ∧ Valid true [] es ∧ es.length ≤ 100 ∧ Q (.tup (tellF R es)) h
def sp_is_node (K : PySem.W.Frag) : SpD := fun ds h Q => ∃ n, ds = [nodeD n] ∧ goodName n.1 ∧ Q (.bl true) h
def sp_are_depths (K : PySem.W.Frag) : SpD := fun ds h Q => ∃ ns, ds = [.lv (ns.map fun n : Str × Nat => D.int n.2)] ∧ DocN ns ∧ Q (.bl true) h
def sp_Nodes_u__init_u_ (K : PySem.W.Frag) : SpD := fun ds h Q => ∃ p d, ds = [.ref p, d] ∧ h p = some (.ins (He.ga K "Nodes") []) ∧ Q .non (up h p (.ins (He.ga K "Nodes") [d]))
def sp_checked_documents (K : PySem.W.Frag) : SpD := fun ds h Q => ∃ ns, ds = [.tup (ns.map nodeD)] ∧ DocN ns ∧ Q (.iv (He.ga K "Nodes") [.tup (ns.map nodeD)]) h
def sp_ways_in (K : PySem.W.Frag) : SpD := fun ds h Q => ∃ ns, ds = [.tup (ns.map nodeD)] ∧ DocN ns ∧ ∀ xs, Q (.lv xs) h
def sp_closings_in (K : PySem.W.Frag) : SpD := fun ds h Q => ∃ ns, ds = [.tup (ns.map nodeD)] ∧ DocN ns ∧ ∀ xs, Q (.lv xs) h
def sp_Document_u__init_u_ (K : PySem.W.Frag) : SpD := fun ds h Q => ∃ p ns, ds = [.ref p, .tup (ns.map nodeD)] ∧ h p = some (.ins (He.ga K "Document") []) ∧ DocN ns ∧ ∀ x y, Q .non (up h p (.ins (He.ga K "Document") [.tup (ns.map nodeD), x, y]))
/-! runs -/
def wayD (stk : List (Str × List D)) : List D := stk.reverse.map fun p => .str p.1
def lyD (stk : List (Str × List D)) : List D := stk.reverse.map fun p => .tup p.2
def runD (K : PySem.W.Frag) (r : D) (m : Str) (es : List Ev) (t : TS) : D := .iv (He.ga K "Run") [r, .tup (es.map (evD m)), .int (t.st : Nat), .tup t.free, .tup (wayD t.stk), .tup (lyD t.stk), .tup t.told]
/-- the run behind the events es -/
def runX (K : PySem.W.Frag) (r : D) (R : RF) (es : List Ev) : D := runD K r R.mode es (runF R (ts0 R) es)
/-- a moment: what the law reckons -/
def momD (t : TS) (n : Nat) : D := .dv [.str "state", .str "free", .str "stack", .str "told", .str "many"] [.int (t.st : Nat), .lv t.free, .lv (t.stk.reverse.map fun p => .tup [.str p.1, .tup p.2]), .lv t.told, .int (n : Nat)]
def momX (R : RF) (es : List Ev) : D := momD (runF R (ts0 R) es) es.length
/-- events that a document can begin with, not too many -/
def EvOk (es : List Ev) : Prop := Valid true [] es ∧ es.length ≤ 100
def strRun (n d : Nat) : Str := ((("run of " : Str) ++ (toString (n : Int) : Str)) ++ (" events, depth " : Str)) ++ (toString (d : Int) : Str)
def sp_Run_state (K : PySem.W.Frag) : SpD := fun ds h Q => ∃ a b c d e f g, ds = [.iv (He.ga K "Run") [a, b, c, d, e, f, g]] ∧ Q c h
def sp_Run_free (K : PySem.W.Frag) : SpD := fun ds h Q => ∃ a b c d e f g, ds = [.iv (He.ga K "Run") [a, b, c, d, e, f, g]] ∧ Q d h
def sp_Run_way (K : PySem.W.Frag) : SpD := fun ds h Q => ∃ a b c d e f g, ds = [.iv (He.ga K "Run") [a, b, c, d, e, f, g]] ∧ Q e h
def sp_Run_lying (K : PySem.W.Frag) : SpD := fun ds h Q => ∃ a b c d e f g, ds = [.iv (He.ga K "Run") [a, b, c, d, e, f, g]] ∧ Q f h
def sp_Run_told (K : PySem.W.Frag) : SpD := fun ds h Q => ∃ a b c d e f g, ds = [.iv (He.ga K "Run") [a, b, c, d, e, f, g]] ∧ Q g h
def sp_Run_past (K : PySem.W.Frag) : SpD := fun ds h Q => ∃ a b c d e f g, ds = [.iv (He.ga K "Run") [a, b, c, d, e, f, g]] ∧ Q b h
def sp_Run_reader (K : PySem.W.Frag) : SpD := fun ds h Q => ∃ a b c d e f g, ds = [.iv (He.ga K "Run") [a, b, c, d, e, f, g]] ∧ Q a h
def sp_Run_is_done (K : PySem.W.Frag) : SpD := fun ds h Q => ∃ r R es, ds = [runX K r R es] ∧ WF R ∧ EvOk es ∧ Q (.bl (!es.isEmpty && (runF R (ts0 R) es).stk.isEmpty)) h
def sp_Run_u__len_u_ (K : PySem.W.Frag) : SpD := fun ds h Q => ∃ r R es, ds = [runX K r R es] ∧ EvOk es ∧ Q (.int es.length) h
def sp_Run_u__str_u_ (K : PySem.W.Frag) : SpD := fun ds h Q => ∃ r R es, ds = [runX K r R es] ∧ WF R ∧ EvOk es ∧ Q (.str (strRun es.length (runF R (ts0 R) es).stk.length)) h
def sp_Reader_u__eq_u_ (K : PySem.W.Frag) : SpD := fun ds h Q => ∃ m k os cs os' cs' b b', ds = [.iv (He.ga K "Reader") [.str m, .int k, .tup os, .tup cs], .iv (He.ga K "Reader") [.str m, .int k, .tup os', .tup cs']] ∧ sOk m ∧ EqT 6 (.tup os) (.tup os') b ∧ EqT 6 (.tup cs) (.tup cs') b' ∧ Q (.bl (b && b')) h
def sp_Reader_run (K : PySem.W.Frag) : SpD := fun ds h Q => ∃ R r, ds = [r] ∧ WF R ∧ readerD K R r ∧ Q (runX K r R []) h
def sp_Run_u__init_u_ (K : PySem.W.Frag) : SpD := fun ds h Q => ∃ p a b c d e f g, ds = [.ref p, a, b, .tup [c, d], .tup [e, f], g] ∧ h p = some (.ins (He.ga K "Run") []) ∧ Q .non (up h p (.ins (He.ga K "Run") [a, b, c, d, e, f, g]))
def sp_run_behind (K : PySem.W.Frag) : SpD := fun ds h Q => ∃ r R es e, ds = [runX K r R es, evD R.mode e] ∧ WF R ∧ readerD K R r ∧ EvOk (es ++ [e]) ∧ Q (runX K r R (es ++ [e])) h
def sp_Run_after (K : PySem.W.Frag) : SpD := fun ds h Q => ∃ r R es e, ds = [runX K r R es, evD R.mode e] ∧ WF R ∧ readerD K R r ∧ EvOk (es ++ [e]) ∧ Q (runX K r R (es ++ [e])) h
def sp_Run_through (K : PySem.W.Frag) : SpD := fun ds h Q => ∃ r R es fs, ds = [runX K r R es, .tup (fs.map (evD R.mode))] ∧ WF R ∧ readerD K R r ∧ EvOk (es ++ fs) ∧ Q (runX K r R (es ++ fs)) h
def sp_Run_u__eq_u_ (K : PySem.W.Frag) : SpD := fun ds h Q => ∃ m r r' es fs us vs, ds = [.iv (He.ga K "Run") (r :: .tup (es.map (evD m)) :: us), .iv (He.ga K "Run") (r' :: .tup (fs.map (evD m)) :: vs)] ∧ okMode m ∧ EvOk es ∧ EvOk fs ∧
  ((es.length ≠ fs.length ∧ Q (.bl false) h) ∨ (es = fs ∧ sp_Reader_u__eq_u_ K [r, r'] h Q))
def sp__law_document (K : PySem.W.Frag) : SpD := fun ds h Q => ∃ p zs mo n d, ds = [.ref p, .lv (txs zs), .int (mo : Nat)] ∧ 1 ≤ mo ∧ mo ≤ 20 ∧ h p = some (.lst d) ∧ DiceL n d ∧ n + 1000 ≤ DN ∧ zs ≠ [] ∧ zs.length < 1000 ∧ (∀ z ∈ zs, goodName z) ∧ ∀ ns d', DocN ns → DiceL (n + 1000) d' → Q (.lv (ns.map nodeD)) (up h p (.lst d'))
def sp__law_sort_of_reader (K : PySem.W.Frag) : SpD := fun ds h Q => ∃ p n d, ds = [.ref p, .int 5] ∧ h p = some (.lst d) ∧ DiceL n d ∧ n + 2000 ≤ DN ∧ ∀ R v zs d', WF R → plainD R v → zs ≠ [] → zs.length ≤ 3 → (∀ z ∈ zs, goodName z) → DiceL (n + 2000) d' → Q (.tup [v, .lv (txs zs)]) (up h p (.lst d'))
def sp__law_events (K : PySem.W.Frag) : SpD := fun ds h Q => ∃ ns m, ds = [.lv (ns.map nodeD), .str m] ∧ DocN ns ∧ okMode m ∧ Q (.lv ((evF [] ns).map (evD m))) h
def sp__law_open (K : PySem.W.Frag) : SpD := fun ds h Q => ∃ R v s free l, ds = [v, .int (s : Nat), .lv (nums free), .str l] ∧ WF R ∧ plainD R v ∧ s < R.n ∧ goodName l ∧ free.length ≤ 1000 ∧ Q (.tup [(openF R s (.str l)).1, .tup (laidF (nums free) (openF R s (.str l)).2.1), (openF R s (.str l)).2.2]) h
def sp__law_shut (K : PySem.W.Frag) : SpD := fun ds h Q => ∃ R v s ms l, ds = [v, .int (s : Nat), .tup ms, .str l] ∧ WF R ∧ plainD R v ∧ s < R.n ∧ MarksOk R.marks ms ∧ goodName l ∧ Q (.tup [(closeF R s ms l).1, (closeF R s ms l).2]) h
def sp__law_told (K : PySem.W.Frag) : SpD := fun ds h Q => ∃ R v es, ds = [v, .lv (es.map (evD R.mode))] ∧ WF R ∧ plainD R v ∧ Valid true [] es ∧ es.length ≤ 100 ∧ Q (.lv (tellF R es)) h
def sp__law_made_document (K : PySem.W.Frag) : SpD := fun ds h Q => ∃ ns, ds = [.lv (ns.map nodeD)] ∧ DocN ns ∧ ∀ x y, Q (.iv (He.ga K "Document") [.tup (ns.map nodeD), x, y]) h
/-! k34 -/
/-- the open labels behind the events -/
def stkE : List Str → List Ev → List Str
  | stk, [] => stk
  | stk, .op l :: es => stkE (l :: stk) es
  | stk, .cl _ :: es => stkE stk.tail es
/-- all events that can come next -/
def furE (zs : List Str) (es : List Ev) : List Ev := match stkE [] es with
  | [] => if es.isEmpty then zs.map .op else []
  | l :: _ => zs.map .op ++ [.cl l]
/-- all rows of so many events; of up to so many -/
def layE (zs : List Str) : Nat → List (List Ev)
  | 0 => [[]]
  | n + 1 => (layE zs n).flatMap fun es => (furE zs es).map fun e => es ++ [e]
def allE (zs : List Str) : Nat → List (List Ev)
  | 0 => [[]]
  | n + 1 => allE zs n ++ layE zs (n + 1)
/-- what a run tells of its standing -/
def stdD (R : RF) (es : List Ev) : D := .tup [.int ((runF R (ts0 R) es).st : Nat), .tup (lyD (runF R (ts0 R) es).stk), .bl (!es.isEmpty && (runF R (ts0 R) es).stk.isEmpty),
  if R.mode = "named" then .tup (wayD (runF R (ts0 R) es).stk) else .int ((runF R (ts0 R) es).stk.length : Nat)]
/-- two runs that go on alike -/
structure Alk (R : RF) (es fs : List Ev) : Prop where
  st : (runF R (ts0 R) es).st = (runF R (ts0 R) fs).st
  free : (runF R (ts0 R) es).free = (runF R (ts0 R) fs).free
  ly : (runF R (ts0 R) es).stk.map (·.2) = (runF R (ts0 R) fs).stk.map (·.2)
  dn : es.isEmpty = fs.isEmpty ∨ (runF R (ts0 R) es).stk ≠ []
  lab : R.mode = "named" → (runF R (ts0 R) es).stk.map (·.1) = (runF R (ts0 R) fs).stk.map (·.1)
def sp_Reader_mode (K : PySem.W.Frag) : SpD := fun ds h Q => ∃ a b c d, ds = [.iv (He.ga K "Reader") [a, b, c, d]] ∧ Q a h
def sp__law_further (K : PySem.W.Frag) : SpD := fun ds h Q => ∃ r R es zs, ds = [runX K r R es, .lv (txs zs)] ∧ WF R ∧ readerD K R r ∧ EvOk es ∧ zs.length ≤ 100 ∧ Q (.lv ((furE zs es).map (evD R.mode))) h
def sp__law_standing (K : PySem.W.Frag) : SpD := fun ds h Q => ∃ r R es, ds = [runX K r R es] ∧ WF R ∧ readerD K R r ∧ EvOk es ∧ Q (stdD R es) h
def sp__law_all_runs (K : PySem.W.Frag) : SpD := fun ds h Q => ∃ r R zs mo, ds = [r, .lv (txs zs), .int (mo : Nat)] ∧ WF R ∧ readerD K R r ∧ (∀ z ∈ zs, goodName z) ∧ zs.length ≤ 2 ∧ mo ≤ 7 ∧ Q (.lv ((allE zs mo).map (runX K r R))) h
def sp__law_next_right (K : PySem.W.Frag) : SpD := fun ds h Q => ∃ r R es fs zs, ds = [runX K r R es, runX K r R fs, .lv (txs zs)] ∧ WF R ∧ readerD K R r ∧ EvOk es ∧ EvOk fs ∧ es.length ≤ 90 ∧ fs.length ≤ 90 ∧ (∀ z ∈ zs, goodName z) ∧ zs.length ≤ 2 ∧ Alk R es fs ∧ Q (.bl true) h
def sp__law_right (K : PySem.W.Frag) : SpD := fun ds h Q => ∃ p n d, ds = [.ref p] ∧ h p = some (.lst d) ∧ DiceL n d ∧ n + 4000 ≤ DN ∧ ∀ d', DiceL (n + 4000) d' → Q (.bl true) (up h p (.lst d'))
end
end LK
set_option Elab.async false
set_option linter.all false
set_option maxRecDepth 100000
set_option maxHeartbeats 4000000
namespace DL
open PySem PySem.Spec PyProof.Rows L2
variable [FldTab]
theorem sIx_none (n d : Nat) : HT.sIx n d none = d := rfl
theorem sIx_nat (n d i : Nat) (h : (i : Int) < 2 ^ 63) : HT.sIx n d (some (i : Int)) = min i n := by
  unfold HT.sIx; simp; omega
theorem cutD_from (ds : List D) (i : Nat) (h : (i : Int) < 2 ^ 63) : cutD ds (some (i : Int)) none = ds.drop i := by
  unfold cutD
  rw [sIx_none, sIx_nat _ _ _ h]
  by_cases z : i ≤ ds.length
  · rw [Nat.min_eq_left z, List.take_of_length_le (by rw [List.length_drop]; exact Nat.le_refl _)]
  · rw [Nat.min_eq_right (by omega), List.drop_length, List.drop_of_length_le (by omega)]; simp
theorem cutD_to (ds : List D) (i : Nat) (h : (i : Int) < 2 ^ 63) : cutD ds none (some (i : Int)) = ds.take i := by
  unfold cutD
  rw [sIx_none, sIx_nat _ _ _ h, List.drop_zero, Nat.sub_zero]
  by_cases z : i ≤ ds.length
  · rw [Nat.min_eq_left z]
  · rw [Nat.min_eq_right (by omega), List.take_of_length_le (Nat.le_refl _), List.take_of_length_le (by omega)]
theorem cutD_1 (ds : List D) : cutD ds (some 1) none = ds.drop 1 := cutD_from ds 1 (by decide)
/-- a comprehension all of whose items are true -/
theorem comp_true {g : TGD} {tt : TTD} {tE : TED} {sw : SD} {G : DH → Prop} {k : List D → DH → Prop} {h : DH} {L : Addr} {items : List D} (hL : h L = none) (hG : ∀ h', (∀ a o, h a = some o → h' a = some o) → G h')
    (st : ∀ x ∈ items, ∀ (h' : DH) (Q1 : D → DH → Prop) (Q2 : DH → Prop), (∀ a o, h a = some o → h' a = some o) → Q1 (.bl true) h' → g x sw h' fun s2 h2 => tt s2 h2 fun b h3 => bC b (tE s2 h3 Q1) (Q2 h3)) (q : ∀ bs : List Bool, bs.all (fun b => b) = true → k (bs.map D.bl) h) :
    rCompL g tt tE sw G k L items [] (up h L (.lst [])) := by
  refine comp_map (fun _ => some (.bl true)) hL hG items [] (fun x hx h' Q1 hm q1 => st x hx h' (fun y h4 => Q1 (some y) h4) (fun h4 => Q1 none h4) hm q1) ?_
  have e : ([] : List D) ++ items.filterMap (fun _ => some (D.bl true)) = (items.map fun _ => true).map D.bl := by
    rw [List.nil_append, List.map_map, ← List.filterMap_eq_map]; rfl
  rw [e]
  exact q _ (by rw [List.all_map]; exact List.all_eq_true.mpr fun _ _ => rfl)
/-- all the items made by a function -/
theorem comp_each {g : TGD} {tt : TTD} {tE : TED} {sw : SD} {G : DH → Prop} {k : List D → DH → Prop} {h : DH} {L : Addr} {items : List D} (f : D → D) (hL : h L = none) (hG : ∀ h', (∀ a o, h a = some o → h' a = some o) → G h')
    (st : ∀ x ∈ items, ∀ (h' : DH) (Q1 : D → DH → Prop) (Q2 : DH → Prop), (∀ a o, h a = some o → h' a = some o) → Q1 (f x) h' → g x sw h' fun s2 h2 => tt s2 h2 fun b h3 => bC b (tE s2 h3 Q1) (Q2 h3)) (q : k (items.map f) h) :
    rCompL g tt tE sw G k L items [] (up h L (.lst [])) := by
  refine comp_map (fun x => some (f x)) hL hG items [] (fun x hx h' Q1 hm q1 => st x hx h' (fun y h4 => Q1 (some y) h4) (fun h4 => Q1 none h4) hm q1) ?_
  have e : ([] : List D) ++ items.filterMap (fun x => some (f x)) = items.map f := by
    rw [List.nil_append, ← List.filterMap_eq_map]; rfl
  rw [e]; exact q
theorem fm_if {α : Type} (c : α → Bool) : ∀ l : List α, l.filterMap (fun x => if c x = true then some x else none) = l.filter c
  | [] => rfl
  | x :: l => by
    have ih := fm_if c l
    by_cases z : c x = true
    · rw [List.filterMap_cons_some (by rw [if_pos z]), List.filter_cons_of_pos z, ih]
    · rw [List.filterMap_cons_none (by rw [if_neg z]), List.filter_cons_of_neg z, ih]
/-- the items that pass -/
theorem comp_keep {g : TGD} {tt : TTD} {tE : TED} {sw : SD} {G : DH → Prop} {k : List D → DH → Prop} {h : DH} {L : Addr} {items : List D} (c : D → Bool) (hL : h L = none) (hG : ∀ h', (∀ a o, h a = some o → h' a = some o) → G h')
    (st : ∀ x ∈ items, ∀ (h' : DH) (Q1 : D → DH → Prop) (Q2 : DH → Prop), (∀ a o, h a = some o → h' a = some o) → (c x = true → Q1 x h') → (c x = false → Q2 h') → g x sw h' fun s2 h2 => tt s2 h2 fun b h3 => bC b (tE s2 h3 Q1) (Q2 h3)) (q : k (items.filter c) h) :
    rCompL g tt tE sw G k L items [] (up h L (.lst [])) := by
  refine comp_map (fun x => if c x = true then some x else none) hL hG items [] (fun x hx h' Q1 hm q1 => st x hx h' (fun y h4 => Q1 (some y) h4) (fun h4 => Q1 none h4) hm (fun e => by rw [if_pos e] at q1; exact q1) fun e => by rw [if_neg (by rw [e]; exact Bool.false_ne_true)] at q1; exact q1) ?_
  have e : ([] : List D) ++ items.filterMap (fun x => if c x = true then some x else none) = items.filter c := by
    rw [List.nil_append]
    exact fm_if c items
  rw [e]; exact q
/-- a comprehension over two walks, nothing changed on the way -/
theorem out_pure {g g1 : TGD} {tt tt1 : TTD} {wi1 : TID} {tE : TED} {sw : SD} {vs1 : List Nat} {G : DH → Prop} {k : List D → DH → Prop} {h : DH} {L : Addr} (s2 : D → SD) (i1 : D → List D) (f1 : D → D → D) (hL : h L = none) (hG : ∀ h', (∀ a o, h a = some o → h' a = some o) → G h') : ∀ (items acc : List D),
    acc.length + (items.flatMap fun x => (i1 x).map (f1 x)).length ≤ sizeLine →
    (∀ x ∈ items, ∀ (h' : DH) (K : SD → List D → (DH → Prop) → DH → Prop) (Q2 : DH → Prop), (∀ a o, h a = some o → h' a = some o) → K (s2 x) (i1 x) (fun _ => True) h' → g x sw h' fun s h2 => tt s h2 fun b h3 => bC b (wi1 s h3 (K s)) (Q2 h3)) →
    (∀ x ∈ items, ∀ y ∈ i1 x, ∀ (h' : DH) (Q1 : D → DH → Prop) (Q2 : DH → Prop), (∀ a o, h a = some o → h' a = some o) → Q1 (f1 x y) h' → g1 y (wipeD (s2 x) vs1) h' fun s h2 => tt1 s h2 fun b h3 => bC b (tE s h3 Q1) (Q2 h3)) →
    k (acc ++ items.flatMap fun x => (i1 x).map (f1 x)) h → rOut g tt wi1 g1 tt1 tE sw vs1 G L k items acc (up h L (.lst acc))
  | [], acc, _, _, _, q => by
    refine ⟨hG _ fun a o e => by rw [up_ne (fun z => by rw [z, hL] at e; cases e)]; exact e, up_same, ?_⟩
    rw [del_up hL]
    simpa using q
  | x :: xs, acc, hl, st, st1, q => by
    have hs : ∀ a o, h a = some o → (up h L (.lst acc)) a = some o := fun a o e => by rw [up_ne (fun z => by rw [z, hL] at e; cases e)]; exact e
    rw [List.flatMap_cons] at hl q
    refine ⟨hG _ hs, ?_⟩
    refine st x List.mem_cons_self (up h L (.lst acc)) (fun s items1 G1 h4 => rIn g1 tt1 tE (wipeD s vs1) G1 L (rOut g tt wi1 g1 tt1 tE sw vs1 G L k xs) items1 acc h4) (fun h3 => rOut g tt wi1 g1 tt1 tE sw vs1 G L k xs acc h3) hs ?_
    have e : (i1 x).filterMap (fun y => some (f1 x y)) = (i1 x).map (f1 x) := by rw [← List.filterMap_eq_map]; rfl
    rw [List.length_append] at hl
    refine rIn_pure (fun y => some (f1 x y)) hL (fun _ _ => trivial) (i1 x) acc (by rw [e]; omega) (fun y hy h' Q1 hm q1 => st1 x List.mem_cons_self y hy h' (fun z h4 => Q1 (some z) h4) (fun h3 => Q1 none h3) hm q1) ?_
    rw [e]
    exact out_pure s2 i1 f1 hL hG xs _ (by rw [List.length_append]; omega) (fun y hy => st y (List.mem_cons_of_mem _ hy)) (fun y hy => st1 y (List.mem_cons_of_mem _ hy)) (by rw [List.append_assoc]; exact q)
/-- the place of a key -/
theorem ixK_at : ∀ {ks : List D} {i : Nat} {k : D}, (ks.map nk).Nodup → ks[i]? = some k → ixK ks k = some i
  | [], _, _, _, e => by simp at e
  | z :: zs, 0, k, _, e => by
    cases (show some z = some k from e)
    rw [ixK_cons, if_pos rfl]
  | z :: zs, i + 1, k, nd, e => by
    rw [List.map_cons, List.nodup_cons] at nd
    have e' : zs[i]? = some k := by simpa using e
    have ne : nk z ≠ nk k := fun q => nd.1 (List.mem_map.mpr ⟨k, List.mem_of_getElem? e', q.symm⟩)
    rw [ixK_cons, if_neg ne, ixK_at nd.2 e']; rfl
theorem lookA_at {ks vs : List D} {i : Nat} {k v : D} (nd : (ks.map nk).Nodup) (e : ks[i]? = some k) (e2 : vs[i]? = some v) : lookA ks vs k = some v := by
  unfold lookA; rw [ixK_at nd e]; exact e2
theorem pairD_mem {ks vs : List D} {x : D} (h : x ∈ DL.pairD ks vs) : ∃ (i : Nat) (k v : D), ks[i]? = some k ∧ vs[i]? = some v ∧ x = .tup [k, v] := by
  obtain ⟨i, hi⟩ := List.mem_iff_getElem?.mp h
  unfold pairD at hi
  rw [List.getElem?_zipWith] at hi
  cases e1 : ks[i]? with
  | none => rw [e1] at hi; simp at hi
  | some k =>
    cases e2 : vs[i]? with
    | none => rw [e1, e2] at hi; simp at hi
    | some v =>
      rw [e1, e2] at hi
      exact ⟨i, k, v, e1, e2, (Option.some.inj hi).symm⟩
theorem ixK_some : ∀ {ks : List D} {i : Nat} {k : D}, ixK ks k = some i → ∃ z, ks[i]? = some z ∧ nk z = nk k
  | [], _, _, e => by cases e
  | z :: zs, i, k, e => by
    rw [ixK_cons] at e
    split at e
    · rename_i q; cases e; exact ⟨z, rfl, q⟩
    · obtain ⟨j, hj, rfl⟩ := Option.map_eq_some_iff.mp e
      obtain ⟨y, h1, h2⟩ := ixK_some hj
      exact ⟨y, by simpa using h1, h2⟩
theorem ixK_nk {a b : D} (h : nk a = nk b) : ∀ ks : List D, ixK ks a = ixK ks b
  | [] => rfl
  | z :: zs => by rw [ixK_cons, ixK_cons, h, ixK_nk h zs]
theorem lookA_nk {α : Type} {a b : D} (h : nk a = nk b) (ks : List D) (vs : List α) : lookA ks vs a = lookA ks vs b := by unfold lookA; rw [ixK_nk h ks]
theorem ixK_mem {ks : List D} {k : D} {i : Nat} (h : ixK ks k = some i) : nk k ∈ ks.map nk := by
  obtain ⟨z, h1, h2⟩ := ixK_some h
  exact List.mem_map.mpr ⟨z, List.mem_of_getElem? h1, h2⟩
/-- a dict with its keys in another order -/
theorem look_perm {ks ks' vs : List D} (p : ks'.Perm ks) (nd : (ks.map nk).Nodup) (hl : ks.length = vs.length) (k : D) : lookA ks' (ks'.map fun z => (lookA ks vs z).getD .non) k = lookA ks vs k := by
  cases e : ixK ks' k with
  | none =>
    have n : nk k ∉ ks.map nk := fun q => ixK_none e ((p.map nk).mem_iff.mpr q)
    unfold lookA
    rw [e, ixK_fresh n]; rfl
  | some i =>
    obtain ⟨z, h1, h2⟩ := ixK_some e
    have m : nk k ∈ ks.map nk := (p.map nk).mem_iff.mp (ixK_mem e)
    have e2 : lookA ks' (ks'.map fun z => (lookA ks vs z).getD .non) k = some ((lookA ks vs z).getD .non) := by
      show (ixK ks' k).bind _ = _
      rw [e]
      show (ks'.map fun z => (lookA ks vs z).getD .non)[i]? = _
      rw [List.getElem?_map, h1]; rfl
    rw [e2, lookA_nk h2]
    cases e3 : ixK ks k with
    | none => exact absurd m (ixK_none e3)
    | some j =>
      have hj := ixK_lt e3
      have e4 : lookA ks vs k = some (vs[j]'(by omega)) := by
        show (ixK ks k).bind _ = _
        rw [e3]
        exact List.getElem?_eq_getElem _
      rw [e4]; rfl
theorem sortD_perm (ds : List D) : (sortD ds).Perm ds := List.mergeSort_perm ds _
end DL
set_option Elab.async false
set_option linter.all false
set_option maxRecDepth 100000
set_option maxHeartbeats 4000000
namespace LK
open PySem PySem.Spec PyProof.Rows L2 DL
variable {K : PySem.W.Frag} {mg : Str → Option Value}
theorem nc {K : PySem.W.Frag} {x : String} : ∀ C : Addr, Value.type x = .ref C → ClsI K C := fun _ e => nomatch e
/-! ### the small checks -/
theorem len_is_mode (ds : List D) (h : DH) (Qd : D → DH → Prop) (q : sp_is_mode K ds h Qd) : ds.length = 1 := by
  unfold sp_is_mode at q
  repeat (first | (obtain ⟨e, _⟩ := q; subst e; rfl) | obtain ⟨_, q⟩ := q)
theorem read_is_mode (M : Md K mg) (ds : List D) (h : DH) (Qd : D → DH → Prop) (q : sp_is_mode K ds h Qd) : t_is_mode K ⟨fun _ h' => Qd .non h', Qd, fun _ _ => False, fun _ _ => False⟩ (st0 N_is_mode.length ds) h := by
  obtain ⟨m, rfl, hm, q⟩ := q
  refine ⟨_, _, _, rfl, rfl, nc, M.kit_str_str, ?_⟩
  refine ⟨fun _ => ?_, fun e => (by cases e)⟩
  refine ⟨rfl, rfl, ?_⟩
  have e : ([D.str "bare", D.str "late", D.str "named"].any fun z => deq z (.str m)) = true := by rcases hm with rfl | rfl | rfl <;> rfl
  rw [e]; exact q
theorem len_is_index (ds : List D) (h : DH) (Qd : D → DH → Prop) (q : sp_is_index K ds h Qd) : ds.length = 2 := by
  unfold sp_is_index at q
  repeat (first | (obtain ⟨e, _⟩ := q; subst e; rfl) | obtain ⟨_, q⟩ := q)
theorem read_is_index (M : Md K mg) (ds : List D) (h : DH) (Qd : D → DH → Prop) (q : sp_is_index K ds h Qd) : t_is_index K ⟨fun _ h' => Qd .non h', Qd, fun _ _ => False, fun _ _ => False⟩ (st0 N_is_index.length ds) h := by
  obtain ⟨i, t, rfl, h0, h1, q⟩ := q
  refine ⟨_, _, _, rfl, rfl, nc, M.kit_int_int, ?_⟩
  refine ⟨fun _ => ?_, fun e => (by cases e)⟩
  refine ⟨_, _, _, rfl, rfl, nc, M.kit_int_bool, ?_⟩
  refine ⟨fun _ => ?_, fun e => (by cases e)⟩
  refine ⟨fun _ => ?_, fun e => no_tf (dT h0) e⟩
  show Qd (.bl (decide (i < t))) h
  rw [dT h1]; exact q
theorem ofCps (c : Nat) : (⟨#[c]⟩ : Str).cps.toList = [c] := rfl
theorem sl1 {P : Prop} {a b : Nat} (h : ([a] : List Nat) < [b]) (n : ¬ a < b) : P := by
  cases h with
  | rel hh => exact absurd hh n
  | cons hh => exact nomatch hh
theorem all_fin {bs : List Bool} {Q : D → DH → Prop} {h : DH} (e : bs.all (fun b => b) = true) (q : Q (.bl true) h) : ∃ cs : List Bool, bs.map D.bl = cs.map D.bl ∧ Q (.bl (cs.all fun b => b)) h := ⟨bs, rfl, by rw [e]; exact q⟩
theorem small {n : Nat} (h : n ≤ 1000) : n ≤ sizeLine := by rw [sizeLine_eq]; omega
theorem len_is_ascending (ds : List D) (h : DH) (Qd : D → DH → Prop) (q : sp_is_ascending K ds h Qd) : ds.length = 1 := by
  unfold sp_is_ascending at q
  repeat (first | (obtain ⟨e, _⟩ := q; subst e; rfl) | obtain ⟨_, q⟩ := q)
theorem read_is_ascending (M : Md K mg) (ds : List D) (h : DH) (Qd : D → DH → Prop) (q : sp_is_ascending K ds h Qd) : t_is_ascending K ⟨fun _ h' => Qd .non h', Qd, fun _ _ => False, fun _ _ => False⟩ (st0 N_is_ascending.length ds) h := by
  obtain ⟨is, rfl, hl, ha, q⟩ := q
  refine ⟨?_, fun L hL => comp_true hL (fun _ _ => trivial) (fun x hx h' Q1 Q2 hm q1 => ?_) fun bs e => all_fin e q⟩
  · rw [cutD_1]
    refine small ?_
    unfold DL.pairD
    rw [List.length_zipWith]
    have : (nums is).length = is.length := List.length_map _
    omega
  · rw [cutD_1] at hx
    have key : ∀ is : List Int, is.Pairwise (· < ·) → ∀ x ∈ DL.pairD (nums is) ((nums is).drop 1), ∃ i j, x = .tup [.int i, .int j] ∧ i < j := by
      intro is
      induction is with
      | nil => intro _ x hx; simp [DL.pairD] at hx
      | cons a r ih =>
        intro hp x hx
        cases r with
        | nil => simp [DL.pairD] at hx
        | cons b r =>
          rcases List.mem_cons.mp (show x ∈ D.tup [.int a, .int b] :: DL.pairD (nums (b :: r)) ((nums (b :: r)).drop 1) from hx) with e | e
          · exact ⟨a, b, e, (List.pairwise_cons.mp hp).1 b List.mem_cons_self⟩
          · exact ih (List.pairwise_cons.mp hp).2 x e
    obtain ⟨i, j, rfl, hij⟩ := key is ha x hx
    refine ⟨rfl, fun _ => ?_, fun e => nomatch e⟩
    show Q1 (.bl (decide (i < j))) h'
    rw [dT hij]; exact q1
theorem len_is_name (ds : List D) (h : DH) (Qd : D → DH → Prop) (q : sp_is_name K ds h Qd) : ds.length = 1 := by
  unfold sp_is_name at q
  repeat (first | (obtain ⟨e, _⟩ := q; subst e; rfl) | obtain ⟨_, q⟩ := q)
theorem read_is_name (M : Md K mg) (ds : List D) (h : DH) (Qd : D → DH → Prop) (q : sp_is_name K ds h Qd) : t_is_name K ⟨fun _ h' => Qd .non h', Qd, fun _ _ => False, fun _ _ => False⟩ (st0 N_is_name.length ds) h := by
  obtain ⟨z, rfl, ⟨h1, h2, h3⟩, q⟩ := q
  refine ⟨_, _, _, rfl, rfl, nc, M.kit_str_str, ?_⟩
  refine ⟨fun e => (nomatch e), fun _ => ?_⟩
  refine ⟨small (by omega), ⟨fun _ => ?_, fun e => no_tf (dT (show (1 : Int) ≤ z.length by omega)) e⟩⟩
  refine ⟨fun e => ?_, fun _ => ?_⟩
  · have : (z.length : Int) ≤ 8 := by omega
    exact no_tf (dT this) (by simpa using e)
  · refine ⟨small ?_, fun L hL => comp_true hL (fun _ _ => trivial) (fun x hx h' Q1 Q2 hm q1 => ?_) fun bs e => all_fin e q⟩
    · unfold signsD
      rw [List.length_map]
      show z.cps.size ≤ 1000
      have : z.length = z.cps.size := rfl
      omega
    · obtain ⟨c, hc, rfl⟩ := List.mem_map.mp hx
      obtain ⟨c1, c2⟩ := h3 c hc
      refine ⟨fun _ => ?_, fun e => nomatch e⟩
      refine ⟨fun _ => ?_, fun e => ?_⟩
      · show Q1 (.bl (!decide (("z" : Str).cps.toList < [c]))) h'
        have e : decide (("z" : Str).cps.toList < [c]) = false := dF fun z => sl1 (a := 122) z (by omega)
        rw [e]; exact q1
      · have e2 : decide (([c] : List Nat) < ("a" : Str).cps.toList) = false := dF fun z => sl1 (b := 97) z (by omega)
        have e3 : (!decide (([c] : List Nat) < ("a" : Str).cps.toList)) = false := e
        rw [e2] at e3; cases e3
theorem len_is_marks (ds : List D) (h : DH) (Qd : D → DH → Prop) (q : sp_is_marks K ds h Qd) : ds.length = 2 := by
  unfold sp_is_marks at q
  repeat (first | (obtain ⟨e, _⟩ := q; subst e; rfl) | obtain ⟨_, q⟩ := q)
theorem read_is_marks (M : Md K mg) (ds : List D) (h : DH) (Qd : D → DH → Prop) (q : sp_is_marks K ds h Qd) : t_is_marks K (sp_is_index K) (sp_is_ascending K) ⟨fun _ h' => Qd .non h', Qd, fun _ _ => False, fun _ _ => False⟩ (st0 N_is_marks.length ds) h := by
  obtain ⟨ms, m, rfl, ⟨is, rfl, hl, ha, hb⟩, q⟩ := q
  refine ⟨_, _, _, rfl, rfl, nc, M.kit_tuple_tuple, ?_⟩
  refine ⟨fun _ => ?_, fun e => nomatch e⟩
  have l0 : (nums is).length = is.length := List.length_map _
  refine ⟨small (by omega), fun L hL => comp_true hL (fun _ _ => trivial) (fun x hx h' Q1 Q2 hm q1 => ?_) fun bs e => ⟨bs, rfl, ?_⟩⟩
  · obtain ⟨i, hi, rfl⟩ := List.mem_map.mp hx
    refine ⟨fun _ => ?_, fun e => nomatch e⟩
    exact ⟨i, m, rfl, (hb i hi).1, (hb i hi).2, q1⟩
  · rw [e]
    refine ⟨fun _ => ?_, fun e => nomatch e⟩
    exact ⟨is, rfl, by omega, ha, q⟩
theorem len_is_dotted (ds : List D) (h : DH) (Qd : D → DH → Prop) (q : sp_is_dotted K ds h Qd) : ds.length = 1 := by
  unfold sp_is_dotted at q
  repeat (first | (obtain ⟨e, _⟩ := q; subst e; rfl) | obtain ⟨_, q⟩ := q)
theorem read_is_dotted (M : Md K mg) (ds : List D) (h : DH) (Qd : D → DH → Prop) (q : sp_is_dotted K ds h Qd) : t_is_dotted K (sp_is_name K) ⟨fun _ h' => Qd .non h', Qd, fun _ _ => False, fun _ _ => False⟩ (st0 N_is_dotted.length ds) h := by
  obtain ⟨z, rfl, ⟨h1, h2, h3⟩, q⟩ := q
  refine ⟨_, _, _, rfl, rfl, nc, M.kit_str_str, ?_⟩
  refine ⟨fun _ => ?_, fun e => nomatch e⟩
  refine ⟨rfl, rfl, h1, ?_⟩
  refine ⟨small (by rw [List.length_map]; omega), fun L hL => comp_true hL (fun _ _ => trivial) (fun x hx h' Q1 Q2 hm q1 => ?_) fun bs e => all_fin e q⟩
  obtain ⟨y, hy, rfl⟩ := List.mem_map.mp hx
  exact ⟨fun _ => ⟨y, rfl, h3.1 y hy, q1⟩, fun e => nomatch e⟩
theorem len_is_colour (ds : List D) (h : DH) (Qd : D → DH → Prop) (q : sp_is_colour K ds h Qd) : ds.length = 1 := by
  unfold sp_is_colour at q
  repeat (first | (obtain ⟨e, _⟩ := q; subst e; rfl) | obtain ⟨_, q⟩ := q)
theorem read_is_colour (M : Md K mg) (ds : List D) (h : DH) (Qd : D → DH → Prop) (q : sp_is_colour K ds h Qd) : t_is_colour K (sp_is_dotted K) ⟨fun _ h' => Qd .non h', Qd, fun _ _ => False, fun _ _ => False⟩ (st0 N_is_colour.length ds) h := by
  obtain ⟨z, rfl, hz, q⟩ := q
  refine ⟨z, rfl, hz, fun _ => ?_, fun e => nomatch e⟩
  obtain ⟨h1, h2, h3⟩ := hz
  refine ⟨rfl, rfl, h1, ?_⟩
  show Qd (.bl (decide ((((Txt.split z ".").map D.str).length : Int) ≤ 4))) h
  rw [dT (by rw [List.length_map]; omega)]; exact q
end LK
set_option Elab.async false
set_option linter.all false
set_option maxRecDepth 100000
set_option maxHeartbeats 4000000
namespace LK
open PySem PySem.Spec PyProof.Rows L2 DL
variable {K : PySem.W.Frag} {mg : Str → Option Value}
theorem shS {h : DH} {z : Str} (s : sOk z) : SeqAt.shaped (pyH h (.str z)) = true := by simp [pyH, py, SeqAt.shaped, PyData.canLay0, PyData.depth]; exact s
theorem sLate : sOk "late" := by unfold sOk; decide +kernel
theorem sNamed : sOk "named" := by unfold sOk; decide +kernel
theorem shI {h : DH} {z : Int} : SeqAt.shaped (pyH h (.int z)) = true := by simp [pyH, py, SeqAt.shaped, PyData.canLay0, PyData.depth]
theorem eqS (a b : Str) : PyData.eqv (.str a) (.str b) = decide (a = b) := by
  by_cases e : a = b
  · subst e; simp [PyData.eqv]
  · rw [dF e]; simp [PyData.eqv, e]
theorem no1 {P : Prop} {a b : Str} (h : a ≠ b) (e : PyData.eqv (.str a) (.str b) = true) : P := by rw [eqS] at e; exact absurd (of_decide_eq_true e) h
theorem no2 {P : Prop} {a : Str} (e : PyData.eqv (.str a) (.str a) = false) : P := by rw [eqS, decide_eq_true rfl] at e; cases e
theorem len_is_open_rule (ds : List D) (h : DH) (Qd : D → DH → Prop) (q : sp_is_open_rule K ds h Qd) : ds.length = 4 := by
  unfold sp_is_open_rule at q
  repeat (first | (obtain ⟨e, _⟩ := q; subst e; rfl) | obtain ⟨_, q⟩ := q)
theorem read_is_open_rule (M : Md K mg) (ds : List D) (h : DH) (Qd : D → DH → Prop) (q : sp_is_open_rule K ds h Qd) : t_is_open_rule K (sp_is_index K) (sp_is_marks K) (sp_is_colour K) ⟨fun _ h' => Qd .non h', Qd, fun _ _ => False, fun _ _ => False⟩ (st0 N_is_open_rule.length ds) h := by
  obtain ⟨R, v, rfl, W, hv, q⟩ := q
  obtain ⟨s, ms, hs, hms, hv⟩ := hv
  have i1 : L2.atI [D.int s, D.tup ms] 0 = some (D.int s) := atI_l0
  by_cases hl : R.mode = "late"
  · rw [if_pos hl] at hv
    subst hv
    refine ⟨_, _, _, rfl, rfl, nc, M.kit_tuple_tuple, ⟨fun e => (nomatch e), fun _ => ?_⟩⟩
    refine ⟨shS W.md.s, shS sLate, ⟨fun _ => ⟨rfl, rfl, ⟨fun e => (nomatch e), fun _ => ?_⟩⟩, fun e => ?_⟩⟩
    · refine ⟨_, atI_l0, s, R.n, rfl, by omega, by omega, ⟨fun e => (nomatch e), fun _ => ?_⟩⟩
      refine ⟨_, atI_l1, ms, R.marks, rfl, hms, ⟨fun e => (nomatch e), fun _ => ?_⟩⟩
      refine ⟨shS W.md.s, shS sLate, ⟨fun _ => q, fun e => ?_⟩⟩
      rw [hl] at e; exact no2 e
    · rw [hl] at e; exact no2 e
  · rw [if_neg hl] at hv
    obtain ⟨col, hc, rfl⟩ := hv
    refine ⟨_, _, _, rfl, rfl, nc, M.kit_tuple_tuple, ⟨fun e => (nomatch e), fun _ => ?_⟩⟩
    refine ⟨shS W.md.s, shS sLate, ⟨fun e => no1 hl e, fun _ => ⟨rfl, rfl, ⟨fun e => (nomatch e), fun _ => ?_⟩⟩⟩⟩
    refine ⟨_, atI_l0, s, R.n, rfl, by omega, by omega, ⟨fun e => (nomatch e), fun _ => ?_⟩⟩
    refine ⟨_, atI_l1, ms, R.marks, rfl, hms, ⟨fun e => (nomatch e), fun _ => ?_⟩⟩
    refine ⟨shS W.md.s, shS sLate, ⟨fun e => no1 hl e, fun _ => ?_⟩⟩
    exact ⟨_, atI_l2, col, rfl, hc, q⟩
theorem len_is_close_key (ds : List D) (h : DH) (Qd : D → DH → Prop) (q : sp_is_close_key K ds h Qd) : ds.length = 3 := by
  unfold sp_is_close_key at q
  repeat (first | (obtain ⟨e, _⟩ := q; subst e; rfl) | obtain ⟨_, q⟩ := q)
theorem read_is_close_key (M : Md K mg) (ds : List D) (h : DH) (Qd : D → DH → Prop) (q : sp_is_close_key K ds h Qd) : t_is_close_key K (sp_is_marks K) (sp_is_name K) ⟨fun _ h' => Qd .non h', Qd, fun _ _ => False, fun _ _ => False⟩ (st0 N_is_close_key.length ds) h := by
  obtain ⟨k, m, mk, rfl, ⟨ms, hms, hk⟩, hom, q⟩ := q
  by_cases hn : m = "named"
  · rw [if_pos hn] at hk
    obtain ⟨z, hz, rfl⟩ := hk
    subst hn
    refine ⟨_, _, _, rfl, rfl, nc, M.kit_tuple_tuple, ⟨fun e => (nomatch e), fun _ => ?_⟩⟩
    refine ⟨shS hom.s, shS sNamed, ⟨fun _ => ⟨rfl, rfl, ⟨fun e => (nomatch e), fun _ => ?_⟩⟩, fun e => no2 e⟩⟩
    refine ⟨_, atI_l0, ms, mk, rfl, hms, ⟨fun _ => ?_, fun e => (nomatch e)⟩⟩
    refine ⟨shS hom.s, shS sNamed, ⟨fun e => (nomatch e), fun _ => ?_⟩⟩
    exact ⟨_, atI_l1, z, rfl, hz, q⟩
  · rw [if_neg hn] at hk
    subst hk
    refine ⟨_, _, _, rfl, rfl, nc, M.kit_tuple_tuple, ⟨fun e => (nomatch e), fun _ => ?_⟩⟩
    refine ⟨shS hom.s, shS sNamed, ⟨fun e => no1 hn e, fun _ => ⟨rfl, rfl, ⟨fun e => (nomatch e), fun _ => ?_⟩⟩⟩⟩
    refine ⟨_, atI_l0, ms, mk, rfl, hms, ⟨fun _ => ?_, fun e => (nomatch e)⟩⟩
    refine ⟨shS hom.s, shS sNamed, ⟨fun _ => ?_, fun e => ?_⟩⟩
    · exact q
    · have e2 : PyData.eqv (.str m) (.str "named") = false := by rw [eqS]; exact dF hn
      have e3 : (!PyData.eqv (.str m) (.str "named")) = false := e
      rw [e2] at e3; cases e3
theorem len_is_close_rule (ds : List D) (h : DH) (Qd : D → DH → Prop) (q : sp_is_close_rule K ds h Qd) : ds.length = 3 := by
  unfold sp_is_close_rule at q
  repeat (first | (obtain ⟨e, _⟩ := q; subst e; rfl) | obtain ⟨_, q⟩ := q)
theorem read_is_close_rule (M : Md K mg) (ds : List D) (h : DH) (Qd : D → DH → Prop) (q : sp_is_close_rule K ds h Qd) : t_is_close_rule K (sp_is_index K) (sp_is_colour K) ⟨fun _ h' => Qd .non h', Qd, fun _ _ => False, fun _ _ => False⟩ (st0 N_is_close_rule.length ds) h := by
  obtain ⟨R, v, rfl, W, ⟨s, hs, hv⟩, q⟩ := q
  by_cases hl : R.mode = "late"
  · rw [if_pos hl] at hv
    obtain ⟨col, hc, rfl⟩ := hv
    have e1 : PyData.eqv (.str R.mode) (.str "late") = true := by rw [eqS]; exact dT hl
    refine ⟨shS W.md.s, shS sLate, ⟨fun e => ?_, fun _ => ?_⟩⟩
    · have e3 : (!PyData.eqv (.str R.mode) (.str "late")) = true := e
      rw [e1] at e3; cases e3
    · refine ⟨_, _, _, rfl, rfl, nc, M.kit_tuple_tuple, ⟨fun _ => ?_, fun e => (nomatch e)⟩⟩
      refine ⟨rfl, rfl, ⟨fun _ => ?_, fun e => (nomatch e)⟩⟩
      refine ⟨_, atI_l0, s, R.n, rfl, by omega, by omega, ⟨fun _ => ?_, fun e => (nomatch e)⟩⟩
      exact ⟨_, atI_l1, col, rfl, hc, q⟩
  · rw [if_neg hl] at hv
    subst hv
    have e1 : PyData.eqv (.str R.mode) (.str "late") = false := by rw [eqS]; exact dF hl
    refine ⟨shS W.md.s, shS sLate, ⟨fun _ => ?_, fun e => ?_⟩⟩
    · exact ⟨s, R.n, rfl, by omega, by omega, q⟩
    · have e3 : (!PyData.eqv (.str R.mode) (.str "late")) = false := e
      rw [e1] at e3; cases e3
end LK
set_option Elab.async false
set_option linter.all false
set_option maxRecDepth 100000
set_option maxHeartbeats 4000000
namespace LK
open PySem PySem.Spec PyProof.Rows L2 DL
variable {K : PySem.W.Frag} {mg : Str → Option Value}
def pairsOf : D → List D
  | .dv ks vs => DL.pairD ks vs
  | _ => []
theorem rows_pairs {kp : D → Prop} {f : Nat → D → Option D} {ds : List D} (h : Rows kp f ds) {x : D} (hx : x ∈ ds.flatMap fun d => (pairsOf d).map id) : ∃ (i : Nat) (k v : D), kp k ∧ f i k = some v ∧ x = .tup [k, v] := by
  obtain ⟨d, hd, hx⟩ := List.mem_flatMap.mp hx
  rw [List.map_id] at hx
  obtain ⟨i, hi⟩ := List.mem_iff_getElem?.mp hd
  obtain ⟨ks, vs, rfl, hl, hk, nd, _, lk⟩ := h i d hi
  obtain ⟨j, k, v, e1, e2, rfl⟩ := pairD_mem hx
  exact ⟨i, k, v, hk k (List.mem_of_getElem? e1), by rw [← lk k (hk k (List.mem_of_getElem? e1))]; exact lookA_at nd e1 e2, rfl⟩
theorem rows_len {kp : D → Prop} {f : Nat → D → Option D} : ∀ {ds : List D}, (∀ d ∈ ds, ∃ i, RowRep kp (f i) d) → (ds.flatMap fun d => (pairsOf d).map id).length ≤ 100 * ds.length
  | [], _ => by simp
  | d :: ds, h => by
    obtain ⟨i, ks, vs, rfl, hl, _, _, l, _⟩ := h d List.mem_cons_self
    have ih := rows_len (fun d hd => h d (List.mem_cons_of_mem _ hd))
    rw [List.flatMap_cons, List.length_append, List.length_cons, List.map_id]
    have : (pairsOf (.dv ks vs)).length ≤ 100 := by show (DL.pairD ks vs).length ≤ 100; rw [pairD_len hl]; exact l
    omega
theorem Rows.each {kp : D → Prop} {f : Nat → D → Option D} {ds : List D} (h : Rows kp f ds) : ∀ d ∈ ds, ∃ i, RowRep kp (f i) d := fun d hd => by
  obtain ⟨i, hi⟩ := List.mem_iff_getElem?.mp hd
  exact ⟨i, h i d hi⟩
theorem len_are_opens (ds : List D) (h : DH) (Qd : D → DH → Prop) (q : sp_are_opens K ds h Qd) : ds.length = 3 := by
  unfold sp_are_opens at q
  repeat (first | (obtain ⟨e, _⟩ := q; subst e; rfl) | obtain ⟨_, q⟩ := q)
theorem read_are_opens (M : Md K mg) (ds : List D) (h : DH) (Qd : D → DH → Prop) (q : sp_are_opens K ds h Qd) : t_are_opens K (sp_is_name K) (sp_is_open_rule K) ⟨fun _ h' => Qd .non h', Qd, fun _ _ => False, fun _ _ => False⟩ (st0 N_are_opens.length ds) h := by
  obtain ⟨R, os, rfl, W, hl, hr, q⟩ := q
  have n0 := W.n0
  have n1 := W.n1
  refine ⟨_, _, _, rfl, rfl, nc, M.kit_tuple_tuple, ⟨fun e => (nomatch e), fun _ => ?_⟩⟩
  refine ⟨fun _ => ⟨fun e => ?_, fun _ => ?_⟩, fun e => ?_⟩
  · exact no_tf (dT (show (os.length : Int) ≤ 10 by omega)) (by simpa using e)
  · refine ⟨small (by omega), fun L hL => comp_true hL (fun _ _ => trivial) (fun x hx h' Q1 Q2 hm q1 => ?_) fun bs e => ⟨bs, rfl, ?_⟩⟩
    · obtain ⟨i, ks, vs, rfl, _⟩ := hr.each x hx
      exact ⟨fun _ => ⟨_, _, _, rfl, rfl, nc, M.kit_dict_dict, q1⟩, fun e => nomatch e⟩
    · rw [e]
      refine ⟨fun e => (nomatch e), fun _ => ?_⟩
      intro L hL
      refine out_pure (s2 := fun d => [some (.tup os), some (.str R.mode), some (.int R.marks), some d, none, none, none]) pairsOf (fun _ y => y) hL (fun _ _ => trivial) os [] ?_ (fun x hx h' K' Q2 hm q1 => ?_) (fun x hx y hy h' Q1 Q2 hm q1 => ?_) ?_
      · have := rows_len hr.each
        have e : (os.flatMap fun x => (pairsOf x).map fun y => y) = os.flatMap fun d => (pairsOf d).map id := rfl
        rw [e]
        refine small ?_
        show 0 + _ ≤ 1000
        omega
      · obtain ⟨i, ks, vs, rfl, _⟩ := hr.each x hx
        exact ⟨fun _ => q1, fun e => nomatch e⟩
      · obtain ⟨i, ks, vs, rfl, _⟩ := hr.each x hx
        obtain ⟨j, k, v, e1, e2, rfl⟩ := pairD_mem hy
        exact ⟨rfl, fun _ => ⟨small (show 2 ≤ 1000 by decide), q1⟩, fun e => nomatch e⟩
      · refine ⟨?_, fun L hL => comp_true hL (fun _ _ => trivial) (fun x hx h' Q1 Q2 hm q1 => ?_) fun bs e => ⟨bs, rfl, ?_⟩⟩
        · have := rows_len hr.each
          refine small ?_
          show (os.flatMap fun d => (pairsOf d).map id).length ≤ 1000
          omega
        · obtain ⟨i, k, v, ⟨z, rfl, hz⟩, hf, rfl⟩ := rows_pairs hr hx
          refine ⟨rfl, fun _ => ?_, fun e => nomatch e⟩
          refine ⟨z, rfl, hz, fun _ => ?_, fun e => nomatch e⟩
          exact ⟨R, v, by rw [← hl]; rfl, W, W.o i _ v ⟨z, rfl, hz⟩ hf, q1⟩
        · rw [e]; exact q
  · exact no_tf (dT (show (1 : Int) ≤ os.length by omega)) e
theorem eqI (a b : Int) : PyData.eqv (.int a) (.int b) = decide (a = b) := by
  by_cases e : a = b
  · subst e; simp [PyData.eqv]
  · rw [dF e]; simp [PyData.eqv, e]
theorem len_are_closes (ds : List D) (h : DH) (Qd : D → DH → Prop) (q : sp_are_closes K ds h Qd) : ds.length = 4 := by
  unfold sp_are_closes at q
  repeat (first | (obtain ⟨e, _⟩ := q; subst e; rfl) | obtain ⟨_, q⟩ := q)
theorem read_are_closes (M : Md K mg) (ds : List D) (h : DH) (Qd : D → DH → Prop) (q : sp_are_closes K ds h Qd) : t_are_closes K (sp_is_close_key K) (sp_is_close_rule K) ⟨fun _ h' => Qd .non h', Qd, fun _ _ => False, fun _ _ => False⟩ (st0 N_are_closes.length ds) h := by
  obtain ⟨R, os, rfl, W, hl, hr, q⟩ := q
  have n0 := W.n0
  have n1 := W.n1
  refine ⟨_, _, _, rfl, rfl, nc, M.kit_tuple_tuple, ⟨fun e => (nomatch e), fun _ => ?_⟩⟩
  refine ⟨shI, shI, ⟨fun e => ?_, fun _ => ?_⟩⟩
  · have e2 : (!PyData.eqv (.int (os.length : Int)) (.int (R.n : Int))) = true := e
    rw [eqI, dT (show (os.length : Int) = R.n by omega)] at e2
    cases e2
  · refine ⟨small (by omega), fun L hL => comp_true hL (fun _ _ => trivial) (fun x hx h' Q1 Q2 hm q1 => ?_) fun bs e => ⟨bs, rfl, ?_⟩⟩
    · obtain ⟨i, ks, vs, rfl, _⟩ := hr.each x hx
      exact ⟨fun _ => ⟨_, _, _, rfl, rfl, nc, M.kit_dict_dict, q1⟩, fun e => nomatch e⟩
    · rw [e]
      refine ⟨fun e => (nomatch e), fun _ => ?_⟩
      intro L hL
      refine out_pure (s2 := fun d => [some (.tup os), some (.str R.mode), some (.int R.marks), some (.int R.n), some d, none, none, none]) pairsOf (fun _ y => y) hL (fun _ _ => trivial) os [] ?_ (fun x hx h' K' Q2 hm q1 => ?_) (fun x hx y hy h' Q1 Q2 hm q1 => ?_) ?_
      · have := rows_len hr.each
        have e : (os.flatMap fun x => (pairsOf x).map fun y => y) = os.flatMap fun d => (pairsOf d).map id := rfl
        rw [e]
        refine small ?_
        show 0 + _ ≤ 1000
        omega
      · obtain ⟨i, ks, vs, rfl, _⟩ := hr.each x hx
        exact ⟨fun _ => q1, fun e => nomatch e⟩
      · obtain ⟨i, ks, vs, rfl, _⟩ := hr.each x hx
        obtain ⟨j, k, v, e1, e2, rfl⟩ := pairD_mem hy
        exact ⟨rfl, fun _ => ⟨small (show 2 ≤ 1000 by decide), q1⟩, fun e => nomatch e⟩
      · refine ⟨?_, fun L hL => comp_true hL (fun _ _ => trivial) (fun x hx h' Q1 Q2 hm q1 => ?_) fun bs e => ⟨bs, rfl, ?_⟩⟩
        · have := rows_len hr.each
          refine small ?_
          show (os.flatMap fun d => (pairsOf d).map id).length ≤ 1000
          omega
        · obtain ⟨i, k, v, hk, hf, rfl⟩ := rows_pairs hr hx
          refine ⟨rfl, fun _ => ?_, fun e => nomatch e⟩
          refine ⟨k, R.mode, R.marks, rfl, hk, W.md, fun _ => ?_, fun e => nomatch e⟩
          exact ⟨R, v, rfl, W, W.c i _ v hk hf, q1⟩
        · rw [e]; exact q
end LK
set_option Elab.async false
set_option linter.all false
set_option maxRecDepth 100000
set_option maxHeartbeats 4000000
namespace LK
open PySem PySem.Spec PyProof.Rows L2 DL
variable {K : PySem.W.Frag} {mg : Str → Option Value}
/-- keys that can be sorted -/
structure KeyKd (kp : D → Prop) : Prop where
  al : ∀ a b, kp a → kp b → PySem.W.alike (py a) (py b) = true
  so : (∀ a, kp a → ∃ x r, py a = .tuple (x :: r)) ∨ ∀ a, kp a → py a ≠ .none ∧ ∀ xs, py a ≠ .tuple xs
  sh : ∀ a, kp a → SeqAt.shaped (py a) = true
  ok : (∀ a, kp a → isSk a = true) ∨ ∀ a, kp a → isTk a = true
theorem KeyKd.keys {kp : D → Prop} (c : KeyKd kp) {ks : List D} (h : ∀ k ∈ ks, kp k) : keysOk ks = true := by
  unfold keysOk
  rcases c.ok with o | o
  · rw [List.all_eq_true.mpr fun k hk => o k (h k hk)]; rfl
  · rw [List.all_eq_true.mpr fun k hk => o k (h k hk)]; simp
theorem KeyKd.key {kp : D → Prop} (c : KeyKd kp) {ks : List D} (h : ∀ k ∈ ks, kp k) {k : D} (hk : kp k) : keyOk ks k = true := by
  unfold keyOk
  rcases c.ok with o | o
  · rw [List.all_eq_true.mpr fun k hk => o k (h k hk), o k hk]; rfl
  · rw [List.all_eq_true.mpr fun k hk => o k (h k hk), o k hk]; simp
theorem KeyKd.sort {kp : D → Prop} (c : KeyKd kp) {ks : List D} (h : ∀ k ∈ ks, kp k) : PySem.W.AllAlike (ks.map py) ∧ PySem.W.Sortable (ks.map py) ∧ ks.all (fun d => SeqAt.shaped (py d)) = true := by
  refine ⟨fun d hd d' hd' => ?_, ?_, List.all_eq_true.mpr fun k hk => c.sh k (h k hk)⟩
  · obtain ⟨a, ha, rfl⟩ := List.mem_map.mp hd
    obtain ⟨b, hb, rfl⟩ := List.mem_map.mp hd'
    exact c.al a b (h a ha) (h b hb)
  · rcases c.so with o | o
    · exact .inl fun d hd => by obtain ⟨a, ha, rfl⟩ := List.mem_map.mp hd; exact o a (h a ha)
    · exact .inr fun d hd => by obtain ⟨a, ha, rfl⟩ := List.mem_map.mp hd; exact o a (h a ha)
theorem kdO : KeyKd keyO := by
  refine ⟨?_, .inr ?_, ?_, .inl ?_⟩
  · rintro a b ⟨z, rfl, _⟩ ⟨y, rfl, _⟩; simp [py, PySem.W.alike]
  · rintro a ⟨z, rfl, _⟩; exact ⟨by simp [py], fun xs => by simp [py]⟩
  · rintro a ⟨z, rfl, hz⟩; exact shS (h := fun _ => none) hz.s
  · rintro a ⟨z, rfl, _⟩; rfl
theorem alike_nums : ∀ is js : List Int, PySem.W.alikeAll (pyL (nums is)) (pyL (nums js)) = true
  | [], _ => by simp [pyL, PySem.W.alikeAll]
  | _ :: _, [] => by simp [pyL, PySem.W.alikeAll]
  | i :: is, j :: js => by
    have ih := alike_nums is js
    simp only [List.map_cons, pyL, PySem.W.alikeAll, py, PySem.W.alike, Bool.true_and]
    exact ih
theorem lay_nums : ∀ is : List Int, PyData.canLayAll0 (pyL (nums is)) = true
  | [] => by simp [pyL, PyData.canLayAll0]
  | i :: is => by
    have ih := lay_nums is
    simp only [List.map_cons, pyL, PyData.canLayAll0, py, PyData.canLay0, Bool.true_and]
    exact ih
theorem dep_nums : ∀ is : List Int, PyData.depthAll (pyL (nums is)) = 0
  | [] => by simp [pyL, PyData.depthAll]
  | i :: is => by
    have ih := dep_nums is
    simp only [List.map_cons, pyL, PyData.depthAll, py, PyData.depth]
    simpa using ih
theorem nk_nums : ∀ is : List Int, isNkL (nums is) = true
  | [] => rfl
  | i :: is => by
    have ih := nk_nums is
    show (isNk (.int i) && isNkL (nums is)) = true
    rw [ih]; rfl
theorem nkd_nums : ∀ is : List Int, NestedKey.depthAll (nkL (nums is)) = 0
  | [] => by simp [nkL, NestedKey.depthAll]
  | i :: is => by
    have ih := nkd_nums is
    simp only [List.map_cons, nkL, NestedKey.depthAll, nk, NestedKey.depth]
    simpa using ih
theorem kdC (m : Str) (mk : Nat) : KeyKd (keyC m mk) := by
  by_cases hm : m = "named"
  · have un : ∀ a, keyC m mk a → ∃ is z, goodName z ∧ a = .tup [.tup (nums is), .str z] := by
      rintro a ⟨ms, ⟨is, rfl, _⟩, h⟩
      rw [if_pos hm] at h
      obtain ⟨z, hz, rfl⟩ := h
      exact ⟨is, z, hz, rfl⟩
    refine ⟨?_, .inl ?_, ?_, .inr ?_⟩
    · intro a b ha hb
      obtain ⟨is, z, _, rfl⟩ := un a ha
      obtain ⟨js, y, _, rfl⟩ := un b hb
      simp only [py, pyL, PySem.W.alike, PySem.W.alikeAll, alike_nums, Bool.true_and]
    · intro a ha
      obtain ⟨is, z, _, rfl⟩ := un a ha
      exact ⟨_, _, by simp only [py, pyL]; rfl⟩
    · intro a ha
      obtain ⟨is, z, hz, rfl⟩ := un a ha
      have hs : PyData.strOk z = true := hz.s
      simp only [SeqAt.shaped, py, pyL, PyData.canLay0, PyData.canLayAll0, lay_nums, hs, PyData.depth, PyData.depthAll, dep_nums]
      decide
    · intro a ha
      obtain ⟨is, z, hz, rfl⟩ := un a ha
      simp only [isTk, isNk, isNkL, nk_nums, nk, nkL, NestedKey.depth, NestedKey.depthAll, nkd_nums]
      decide
  · have un : ∀ a, keyC m mk a → ∃ is, a = .tup [.tup (nums is)] := by
      rintro a ⟨ms, ⟨is, rfl, _⟩, h⟩
      rw [if_neg hm] at h
      exact ⟨is, h⟩
    refine ⟨?_, .inl ?_, ?_, .inr ?_⟩
    · intro a b ha hb
      obtain ⟨is, rfl⟩ := un a ha
      obtain ⟨js, rfl⟩ := un b hb
      simp only [py, pyL, PySem.W.alike, PySem.W.alikeAll, alike_nums, Bool.true_and]
    · intro a ha
      obtain ⟨is, rfl⟩ := un a ha
      exact ⟨_, _, by simp only [py, pyL]; rfl⟩
    · intro a ha
      obtain ⟨is, rfl⟩ := un a ha
      simp only [SeqAt.shaped, py, pyL, PyData.canLay0, PyData.canLayAll0, lay_nums, PyData.depth, PyData.depthAll, dep_nums]
      decide
    · intro a ha
      obtain ⟨is, rfl⟩ := un a ha
      simp only [isTk, isNk, isNkL, nk_nums, nk, nkL, NestedKey.depth, NestedKey.depthAll, nkd_nums]
      decide
/-- a row with its keys sorted -/
def sdict : D → D
  | .dv ks vs => .dv (sortD ks) ((sortD ks).map fun z => (lookA ks vs z).getD .non)
  | d => d
theorem RowRep.sort {kp : D → Prop} {f : D → Option D} {d : D} (h : RowRep kp f d) : RowRep kp f (sdict d) := by
  obtain ⟨ks, vs, rfl, hl, hk, nd, l, lk⟩ := h
  have p := sortD_perm ks
  exact ⟨_, _, rfl, by rw [List.length_map], fun k hk' => hk k (p.mem_iff.mp hk'), (p.map nk).nodup_iff.mpr nd, by rw [p.length_eq]; exact l, fun k hk' => by rw [look_perm p nd hl k]; exact lk k hk'⟩
theorem Rows.sort {kp : D → Prop} {f : Nat → D → Option D} {ds : List D} (h : Rows kp f ds) : Rows kp f (ds.map sdict) := fun i d e => by
  rw [List.getElem?_map] at e
  obtain ⟨d0, h0, rfl⟩ := Option.map_eq_some_iff.mp e
  exact (h i d0 h0).sort
theorem len_Rules_u__init_u_ (ds : List D) (h : DH) (Qd : D → DH → Prop) (q : sp_Rules_u__init_u_ K ds h Qd) : ds.length = 5 := by
  unfold sp_Rules_u__init_u_ at q
  repeat (first | (obtain ⟨e, _⟩ := q; subst e; rfl) | obtain ⟨_, q⟩ := q)
theorem read_Rules_u__init_u_ (M : Md K mg) (ds : List D) (h : DH) (Qd : D → DH → Prop) (q : sp_Rules_u__init_u_ K ds h Qd) : t_Rules_u__init_u_ K ⟨fun _ h' => Qd .non h', Qd, fun _ _ => False, fun _ _ => False⟩ (st0 N_Rules_u__init_u_.length ds) h := by
  obtain ⟨p, R, os, cs, rfl, hp, W, rl, q⟩ := q
  have n1 := W.n1
  refine ⟨_, _, 0, hp, by simp [cs_own_mode], Nat.zero_le _, ?_⟩
  refine ⟨_, _, 1, up_same, by simp [cs_own_marks], Nat.le_refl 1, ?_⟩
  refine ⟨?_, fun L hL => comp_each sdict hL (fun _ _ => trivial) (fun x hx h' Q1 Q2 hm q1 => ?_) ?_⟩
  · exact small (by rw [rl.lo]; omega)
  · obtain ⟨i, ks, vs, rfl, hl, hk, nd, l, lk⟩ := rl.o.each x hx
    obtain ⟨s1, s2, s3⟩ := kdO.sort hk
    have pp := sortD_perm ks
    have hk' : ∀ k ∈ sortD ks, keyO k := fun k h => hk k (pp.mem_iff.mp h)
    refine ⟨fun _ => ?_, fun e => (nomatch e)⟩
    refine ⟨s1, s2, s3, small (by rw [pp.length_eq]; omega), fun L2 hL2 => ?_⟩
    refine dc_pure (fun k => k) (fun z => (lookA ks vs z).getD .non) hL2 (fun _ _ => trivial) (sortD ks) [] [] ?_ ?_ (fun y hy h2 Q3 Q4 hm2 q3 => ?_) ?_
    · rw [List.nil_append, List.map_id']; exact (pp.map nk).nodup_iff.mpr nd
    · rw [List.nil_append, List.map_id']; exact kdO.keys hk'
    · refine ⟨fun _ => ⟨kdO.key hk (hk' y hy), ?_⟩, fun e => (nomatch e)⟩
      obtain ⟨j, hj⟩ := List.mem_iff_getElem?.mp (pp.mem_iff.mp hy)
      have hj2 : j < vs.length := by rw [← hl]; exact (List.getElem?_eq_some_iff.mp hj).1
      have e := lookA_at nd hj (List.getElem?_eq_getElem hj2)
      refine ⟨_, e, ?_⟩
      rw [e] at q3; exact q3
    · rw [List.nil_append, List.map_id', List.nil_append]; exact q1
  · refine ⟨_, _, 2, up_same, by simp [cs_own_opens], Nat.le_refl 2, ?_⟩
    refine ⟨?_, fun L hL => comp_each sdict hL (fun _ _ => trivial) (fun x hx h' Q1 Q2 hm q1 => ?_) ?_⟩
    · exact small (by rw [rl.lc]; omega)
    · obtain ⟨i, ks, vs, rfl, hl, hk, nd, l, lk⟩ := rl.c.each x hx
      have kd := kdC R.mode R.marks
      obtain ⟨s1, s2, s3⟩ := kd.sort hk
      have pp := sortD_perm ks
      have hk' : ∀ k ∈ sortD ks, keyC R.mode R.marks k := fun k h => hk k (pp.mem_iff.mp h)
      refine ⟨fun _ => ?_, fun e => (nomatch e)⟩
      refine ⟨s1, s2, s3, small (by rw [pp.length_eq]; omega), fun L2 hL2 => ?_⟩
      refine dc_pure (fun k => k) (fun z => (lookA ks vs z).getD .non) hL2 (fun _ _ => trivial) (sortD ks) [] [] ?_ ?_ (fun y hy h2 Q3 Q4 hm2 q3 => ?_) ?_
      · rw [List.nil_append, List.map_id']; exact (pp.map nk).nodup_iff.mpr nd
      · rw [List.nil_append, List.map_id']; exact kd.keys hk'
      · refine ⟨fun _ => ⟨kd.key hk (hk' y hy), ?_⟩, fun e => (nomatch e)⟩
        obtain ⟨j, hj⟩ := List.mem_iff_getElem?.mp (pp.mem_iff.mp hy)
        have hj2 : j < vs.length := by rw [← hl]; exact (List.getElem?_eq_some_iff.mp hj).1
        have e := lookA_at nd hj (List.getElem?_eq_getElem hj2)
        refine ⟨_, e, ?_⟩
        rw [e] at q3; exact q3
      · rw [List.nil_append, List.map_id', List.nil_append]; exact q1
    · refine ⟨_, _, 3, up_same, by simp [cs_own_closes], Nat.le_refl 3, ?_⟩
      have z := q (os.map sdict) (cs.map sdict) ⟨by rw [List.length_map]; exact rl.lo, by rw [List.length_map]; exact rl.lc, rl.o.sort, rl.c.sort⟩
      show Qd .non (up (up (up (up h p _) p _) p _) p (.ins (He.ga K "Rules") [.str R.mode, .int R.marks, .tup (os.map sdict), .tup (cs.map sdict)]))
      rw [up_up, up_up, up_up]
      exact z
theorem len_checked_readers (ds : List D) (h : DH) (Qd : D → DH → Prop) (q : sp_checked_readers K ds h Qd) : ds.length = 4 := by
  unfold sp_checked_readers at q
  repeat (first | (obtain ⟨e, _⟩ := q; subst e; rfl) | obtain ⟨_, q⟩ := q)
theorem read_checked_readers (M : Md K mg) (ds : List D) (h : DH) (Qd : D → DH → Prop) (q : sp_checked_readers K ds h Qd) : t_checked_readers K (sp_is_mode K) (sp_is_index K) (sp_are_opens K) (sp_are_closes K) (sp_Rules_u__init_u_ K) ⟨fun _ h' => Qd .non h', Qd, fun _ _ => False, fun _ _ => False⟩ (st0 N_checked_readers.length ds) h := by
  obtain ⟨R, os, cs, rfl, W, rl, q⟩ := q
  have n0 := W.n0
  refine ⟨_, rfl, W.md, ⟨fun e => (nomatch e), fun _ => ?_⟩⟩
  refine ⟨R.marks, 3, rfl, by omega, by have := W.mks; omega, ⟨fun e => (nomatch e), fun _ => ?_⟩⟩
  refine ⟨R, os, rfl, W, rl.lo, rl.o, ⟨fun e => (nomatch e), fun _ => ?_⟩⟩
  refine ⟨R, cs, by rw [← rl.lo]; rfl, W, rl.lc, rl.c, ⟨fun e => (nomatch e), fun _ => ?_⟩⟩
  intro p hp
  refine ⟨p, R, os, cs, rfl, up_same, W, rl, fun os' cs' rl' => ⟨rfl, _, up_same, ?_⟩⟩
  rw [up_up, del_up hp]
  exact q os' cs' rl'
theorem len_Reader_u__init_u_ (ds : List D) (h : DH) (Qd : D → DH → Prop) (q : sp_Reader_u__init_u_ K ds h Qd) : ds.length = 5 := by
  unfold sp_Reader_u__init_u_ at q
  repeat (first | (obtain ⟨e, _⟩ := q; subst e; rfl) | obtain ⟨_, q⟩ := q)
theorem read_Reader_u__init_u_ (M : Md K mg) (ds : List D) (h : DH) (Qd : D → DH → Prop) (q : sp_Reader_u__init_u_ K ds h Qd) : t_Reader_u__init_u_ K (sp_checked_readers K) ⟨fun _ h' => Qd .non h', Qd, fun _ _ => False, fun _ _ => False⟩ (st0 N_Reader_u__init_u_.length ds) h := by
  obtain ⟨p, R, os, cs, rfl, hp, W, rl, q⟩ := q
  refine ⟨_, _, _, rfl, rfl, nc, M.kit_str_Rules, ⟨fun e => (nomatch e), fun _ => ?_⟩⟩
  refine ⟨R, os, cs, rfl, W, rl, fun os' cs' rl' => ?_⟩
  refine ⟨0, _, by simp [cs_own_mode], rfl, _, _, 0, hp, by simp [cs_own_mode], Nat.zero_le _, ?_⟩
  refine ⟨1, _, by simp [cs_own_marks], rfl, _, _, 1, up_same, by simp [cs_own_marks], Nat.le_refl 1, ?_⟩
  refine ⟨2, _, by simp [cs_own_opens], rfl, _, _, 2, up_same, by simp [cs_own_opens], Nat.le_refl 2, ?_⟩
  refine ⟨3, _, by simp [cs_own_closes], rfl, _, _, 3, up_same, by simp [cs_own_closes], Nat.le_refl 3, ?_⟩
  have z := q os' cs' rl'
  show Qd .non (up (up (up (up h p _) p _) p _) p (.ins (He.ga K "Reader") [.str R.mode, .int R.marks, .tup os', .tup cs']))
  rw [up_up, up_up, up_up]
  exact z
end LK
set_option Elab.async false
set_option linter.all false
set_option maxRecDepth 100000
set_option maxHeartbeats 4000000
namespace LK
open PySem PySem.Spec PyProof.Rows L2 DL
variable {K : PySem.W.Frag} {mg : Str → Option Value}
/-! ### two lists under way -/
abbrev HP (h : DH) (A B : Addr) (x y : List D) : DH := up (up h A (.lst x)) B (.lst y)
theorem HP.a {h : DH} {A B : Addr} {x y : List D} (ne : A ≠ B) : HP h A B x y A = some (.lst x) := by
  show up (up h A (.lst x)) B (.lst y) A = _
  rw [up_ne ne]; exact up_same
theorem HP.b {h : DH} {A B : Addr} {x y : List D} : HP h A B x y B = some (.lst y) := up_same
theorem HP.sa {h : DH} {A B : Addr} {x y z : List D} (ne : A ≠ B) : up (HP h A B x y) A (.lst z) = HP h A B z y := by
  show up (up (up h A (.lst x)) B (.lst y)) A (.lst z) = _
  rw [up_comm ne, up_up, up_comm ne.symm]
theorem HP.sb {h : DH} {A B : Addr} {x y z : List D} : up (HP h A B x y) B (.lst z) = HP h A B x z := up_up
theorem HP.less {h : DH} {A B : Addr} {x y : List D} (hA : h A = none) (hB : up h A (.lst []) B = none) : Less h (HP h A B x y) := by
  have ne : A ≠ B := fun e => by rw [← e, up_same] at hB; cases hB
  rw [up_ne ne.symm] at hB
  exact (Less.up hA).trans (Less.up (by rw [up_ne ne.symm]; exact hB))
theorem ne_of {h : DH} {A B : Addr} {o : DO} (hB : up h A o B = none) : A ≠ B := fun e => by rw [← e, up_same] at hB; cases hB
/-! ### closes and events -/
theorem close_core {l m : Str} {h : DH} {Q : D → DH → Prop} (hm : okMode m) (q : Q (evD m (.cl l)) h) : t_close_of K ⟨fun _ h' => Q .non h', Q, fun _ _ => False, fun _ _ => False⟩ (st0 2 [.str l, .str m]) h := by
  refine ⟨shS hm.s, shS sNamed, ⟨fun e => ?_, fun e => ?_⟩⟩
  · refine ⟨small (by simp), ?_⟩
    have e2 : m = "named" := of_decide_eq_true (by rw [← eqS]; exact e)
    unfold evD at q
    simp only [e2, if_true] at q
    exact q
  · refine ⟨small (by simp), ?_⟩
    have e2 : m ≠ "named" := fun x => by rw [x] at e; exact no2 e
    unfold evD at q
    simp only [e2, if_false] at q
    exact q
theorem len_close_of (ds : List D) (h : DH) (Qd : D → DH → Prop) (q : sp_close_of K ds h Qd) : ds.length = 2 := by
  unfold sp_close_of at q
  repeat (first | (obtain ⟨e, _⟩ := q; subst e; rfl) | obtain ⟨_, q⟩ := q)
theorem read_close_of (M : Md K mg) (ds : List D) (h : DH) (Qd : D → DH → Prop) (q : sp_close_of K ds h Qd) : t_close_of K ⟨fun _ h' => Qd .non h', Qd, fun _ _ => False, fun _ _ => False⟩ (st0 N_close_of.length ds) h := by
  obtain ⟨l, m, rfl, hm, q⟩ := q
  exact close_core hm q
theorem len__law_close (ds : List D) (h : DH) (Qd : D → DH → Prop) (q : sp__law_close K ds h Qd) : ds.length = 2 := by
  unfold sp__law_close at q
  repeat (first | (obtain ⟨e, _⟩ := q; subst e; rfl) | obtain ⟨_, q⟩ := q)
theorem read__law_close (M : Md K mg) (ds : List D) (h : DH) (Qd : D → DH → Prop) (q : sp__law_close K ds h Qd) : t__law_close K ⟨fun _ h' => Qd .non h', Qd, fun _ _ => False, fun _ _ => False⟩ (st0 N__law_close.length ds) h := by
  obtain ⟨l, m, rfl, hm, q⟩ := q
  exact close_core (K := K) hm q
abbrev evC : TTD := rTest (rOp dGe (rCB dLen (rCons (rVar 3) rNil)) (rVar 5))
abbrev evP (sp : SpD) : TSD := rDrop (rMt "list" dAppend (rVar 2) (rCons (rCall sp [] (rCons (rMt0 "list" dPop (rVar 3)) (rCons (rVar 1) rNil))) rNil))
abbrev evB (sp : SpD) : TSD := rSeq (rWhile evC (evP sp)) (rSeq (rDrop (rMt "list" dAppend (rVar 2) (rCons (rTup (rCons (rC (.str "open")) (rCons (rVar 4) rNil))) rNil))) (rDrop (rMt "list" dAppend (rVar 3) (rCons (rVar 4) rNil))))
abbrev evS (v : D) (m : Str) (A B : Addr) (x y : Option D) : SD := [some v, some (.str m), some (.ref A), some (.ref B), x, y]
theorem evs_while {sp : SpD} {m : Str} (hsp : ∀ l h Q, Q (evD m (.cl l)) h → sp [.str l, .str m] h Q) {Dd : EndsD} {v : D} {x : Option D} {A B : Addr} (ne : A ≠ B) {h : DH} {d : Nat} (d1 : 1 ≤ d) :
    ∀ (j : Nat) (stk : List Str) (acc : List Ev), acc.length + stk.length ≤ 900 → j = stk.length + 1 - d →
      Dd.nx (evS v m A B x (some (.int d))) (HP h A B ((acc ++ (stk.take j).map Ev.cl).map (evD m)) (txs (stk.drop j).reverse)) →
      rWhileN evC (evP sp) Dd (j + 1) (evS v m A B x (some (.int d))) (HP h A B (acc.map (evD m)) (txs stk.reverse)) := by
  intro j
  induction j with
  | zero =>
    intro stk acc hl hj q
    refine .inl ⟨_, HP.b, ?_⟩
    refine ⟨fun e => ?_, fun _ => ?_⟩
    · have := of_decide_eq_true e
      simp at this
      omega
    · simpa using q
  | succ j ih =>
    intro stk acc hl hj q
    cases stk with
    | nil => simp at hj; omega
    | cons l stk =>
      simp only [List.length_cons] at hl hj
      refine .inl ⟨_, HP.b, ?_⟩
      refine ⟨fun _ => ?_, fun e => no_tf (dT (show (d : Int) ≤ _ by simp; omega)) e⟩
      refine ⟨.inl ⟨_, HP.a ne, rfl⟩, ⟨.inl ⟨_, HP.b, rfl⟩, ⟨_, HP.b, .str l, by simp, ?_⟩⟩⟩
      refine hsp _ _ _ ?_
      refine ⟨_, (by rw [HP.sb]; exact HP.a ne), Nat.lt_of_lt_of_le (show _ < 1000 by simp; omega) (small (Nat.le_refl _)), ?_⟩
      rw [HP.sb, HP.sa ne]
      have e1 : (txs (l :: stk).reverse).dropLast = txs stk.reverse := by simp
      have e2 : acc.map (evD m) ++ [evD m (.cl l)] = (acc ++ [Ev.cl l]).map (evD m) := by simp
      rw [e1, e2]
      refine ih stk _ (by simp; omega) (by omega) ?_
      have e3 : acc ++ [Ev.cl l] ++ (stk.take j).map Ev.cl = acc ++ ((l :: stk).take (j + 1)).map Ev.cl := by simp
      rw [e3]
      exact q
theorem evs_loop {sp : SpD} {m : Str} (hsp : ∀ l h Q, Q (evD m (.cl l)) h → sp [.str l, .str m] h Q) {Dd : EndsD} {v : D} {A B : Addr} (ne : A ≠ B) {h : DH} :
    ∀ (ns : List (Str × Nat)) (stk : List Str) (acc : List Ev) (x y : Option D), acc.length + stk.length + 2 * ns.length ≤ 900 → (∀ n ∈ ns, 1 ≤ n.2) →
      (∀ (acc' : List Ev) (stk' : List Str) (x y : Option D), acc ++ evF stk ns = acc' ++ stk'.map Ev.cl → acc'.length + stk'.length ≤ 900 → Dd.nx (evS v m A B x y) (HP h A B (acc'.map (evD m)) (txs stk'.reverse))) →
      rForL (dTup 2 (dCons (dName 4) (dCons (dName 5) dNil))) (evB sp) Dd (fun _ => True) (ns.map nodeD) (evS v m A B x y) (HP h A B (acc.map (evD m)) (txs stk.reverse)) := by
  intro ns
  induction ns with
  | nil => intro stk acc x y hl _ q; exact ⟨trivial, q acc stk x y (by simp [evF]) (by simpa using hl)⟩
  | cons n ns ih =>
    intro stk acc x y hl hd q
    obtain ⟨l, d⟩ := n
    simp only [List.length_cons] at hl
    have d1 : 1 ≤ d := hd (l, d) List.mem_cons_self
    refine ⟨trivial, ⟨rfl, stk.length + 1 - d + 1, ?_⟩⟩
    refine evs_while hsp ne d1 _ stk acc (by omega) rfl ?_
    have l1 : (acc ++ (stk.take (stk.length + 1 - d)).map Ev.cl).length + (stk.drop (stk.length + 1 - d)).length = acc.length + stk.length := by simp; omega
    generalize hj : stk.length + 1 - d = j at *
    refine ⟨.inl ⟨_, HP.a ne, rfl⟩, ⟨small (by simp), ⟨_, HP.a ne, Nat.lt_of_lt_of_le (show _ < 1000 by rw [List.length_map]; omega) (small (Nat.le_refl _)), ?_⟩⟩⟩
    rw [HP.sa ne]
    refine ⟨.inl ⟨_, HP.b, rfl⟩, ⟨_, HP.b, Nat.lt_of_lt_of_le (show _ < 1000 by simp at *; omega) (small (Nat.le_refl _)), ?_⟩⟩
    rw [HP.sb]
    have e2 : ∀ z : List Ev, z.map (evD m) ++ [.tup [.str "open", .str l]] = (z ++ [Ev.op l]).map (evD m) := fun z => by simp [evD]
    have e1 : txs (stk.drop j).reverse ++ [.str l] = txs (l :: stk.drop j).reverse := by simp
    rw [e2, e1]
    refine ih _ _ _ _ (by simp at l1 ⊢; omega) (fun n hn => hd n (List.mem_cons_of_mem _ hn)) fun acc' stk' x y e el => q acc' stk' x y ?_ el
    rw [← e]
    simp [evF, hj]
theorem DocN.pos {ns : List (Str × Nat)} (h : DocN ns) : ∀ n ∈ ns, 1 ≤ n.2 := by
  obtain ⟨l, r, rfl, _, d, _⟩ := h
  have key : ∀ (r : List (Str × Nat)) (p : Nat), Deps p r → ∀ n ∈ r, 1 ≤ n.2 := by
    intro r
    induction r with
    | nil => intro p _ n hn; cases hn
    | cons a r ih =>
      intro p hp n hn
      obtain ⟨l, d⟩ := a
      obtain ⟨_, h2, _, h4⟩ := hp
      rcases List.mem_cons.mp hn with rfl | hn
      · exact Nat.le_of_succ_le h2
      · exact ih d h4 n hn
  intro n hn
  rcases List.mem_cons.mp hn with rfl | hn
  · exact Nat.le_refl 1
  · exact key r 1 d n hn
end LK
set_option Elab.async false
set_option linter.all false
set_option maxRecDepth 100000
set_option maxHeartbeats 4000000
namespace LK
open PySem PySem.Spec PyProof.Rows L2 DL
variable {K : PySem.W.Frag} {mg : Str → Option Value}
theorem sOpen : sOk "open" := by unfold sOk; decide +kernel
theorem sClose : sOk "close" := by unfold sOk; decide +kernel
theorem shE {h : DH} {m l : Str} {e : Ev} (hl : goodName l) (he : e = .op l ∨ e = .cl l) : SeqAt.shaped (pyH h (evD m e)) = true := by
  have s1 : PyData.strOk l = true := hl.s
  have s2 : PyData.strOk "open" = true := sOpen
  have s3 : PyData.strOk "close" = true := sClose
  rcases he with rfl | rfl
  · simp [evD, pyH, py, pyL, SeqAt.shaped, PyData.canLay0, PyData.canLayAll0, PyData.depth, PyData.depthAll, s1, s2]
  · by_cases hm : m = "named"
    · simp [evD, hm, pyH, py, pyL, SeqAt.shaped, PyData.canLay0, PyData.canLayAll0, PyData.depth, PyData.depthAll, s1, s3]
    · simp [evD, hm, pyH, py, pyL, SeqAt.shaped, PyData.canLay0, PyData.canLayAll0, PyData.depth, PyData.depthAll, s3]
theorem shT0 {h : DH} : SeqAt.shaped (pyH h (.tup [])) = true := by simp [pyH, py, pyL, SeqAt.shaped, PyData.canLay0, PyData.canLayAll0, PyData.depth, PyData.depthAll]
theorem shC {h : DH} : SeqAt.shaped (pyH h (.tup [.str "close"])) = true := by
  have s3 : PyData.strOk "close" = true := sClose
  simp [pyH, py, pyL, SeqAt.shaped, PyData.canLay0, PyData.canLayAll0, PyData.depth, PyData.depthAll, s3]
theorem eqE {h : DH} {m l : Str} : PyData.eqv (pyH h (evD m (.cl l))) (pyH h (evD m (.cl l))) = true := by
  by_cases hm : m = "named"
  · simp [evD, hm, pyH, py, pyL, PyData.eqv, PyData.eqvAll]
  · simp [evD, hm, pyH, py, pyL, PyData.eqv, PyData.eqvAll]
theorem neOC {P : Prop} (e : PyData.eqv (.str "close") (.str "open") = true) : P := no1 (by decide) e
theorem len_is_event (ds : List D) (h : DH) (Qd : D → DH → Prop) (q : sp_is_event K ds h Qd) : ds.length = 2 := by
  unfold sp_is_event at q
  repeat (first | (obtain ⟨e, _⟩ := q; subst e; rfl) | obtain ⟨_, q⟩ := q)
theorem read_is_event (M : Md K mg) (ds : List D) (h : DH) (Qd : D → DH → Prop) (q : sp_is_event K ds h Qd) : t_is_event K (sp_is_name K) ⟨fun _ h' => Qd .non h', Qd, fun _ _ => False, fun _ _ => False⟩ (st0 N_is_event.length ds) h := by
  obtain ⟨m, l, e, rfl, he, hl, hm, q⟩ := q
  rcases he with rfl | rfl
  · have sE : SeqAt.shaped (pyH h (evD m (.op l))) = true := shE hl (.inl rfl)
    refine ⟨_, _, _, rfl, rfl, nc, M.kit_tuple_tuple, ⟨fun e => (nomatch e), fun _ => ?_⟩⟩
    refine ⟨small (by simp), sE, shT0, ⟨fun e => ?_, fun _ => ?_⟩⟩
    · simp [evD, pyH, py, pyL, PyData.eqv, PyData.eqvAll] at e
    refine ⟨_, atI_l0, _, _, _, rfl, rfl, nc, M.kit_str_str, ⟨fun e => (nomatch e), fun _ => ?_⟩⟩
    refine ⟨_, atI_l0, shS sOpen, shS sOpen, ⟨fun _ => ?_, fun e => no2 e⟩⟩
    refine ⟨fun _ => ?_, fun e => nomatch e⟩
    refine ⟨rfl, rfl, ⟨fun _ => ?_, fun e => ?_⟩⟩
    · exact ⟨_, atI_l1, l, rfl, hl, q⟩
    · simp [pyH, py, PyData.eqv] at e
  · by_cases hn : m = "named"
    · have ev : evD m (.cl l) = .tup [.str "close", .str l] := by simp [evD, hn]
      have sE : SeqAt.shaped (pyH h (evD m (.cl l))) = true := shE hl (.inr rfl)
      rw [ev] at sE ⊢
      refine ⟨_, _, _, rfl, rfl, nc, M.kit_tuple_tuple, ⟨fun e => (nomatch e), fun _ => ?_⟩⟩
      refine ⟨small (by simp), sE, shT0, ⟨fun e => ?_, fun _ => ?_⟩⟩
      · simp [pyH, py, pyL, PyData.eqv, PyData.eqvAll] at e
      refine ⟨_, atI_l0, _, _, _, rfl, rfl, nc, M.kit_str_str, ⟨fun e => (nomatch e), fun _ => ?_⟩⟩
      refine ⟨_, atI_l0, shS sClose, shS sOpen, ⟨fun e => neOC e, fun _ => ?_⟩⟩
      refine ⟨_, atI_l0, shS sClose, shS sClose, ⟨fun _ => ?_, fun e => no2 e⟩⟩
      refine ⟨shS hm.s, shS sNamed, ⟨fun _ => ?_, fun e => by rw [hn] at e; exact no2 e⟩⟩
      refine ⟨rfl, rfl, ⟨fun _ => ?_, fun e => ?_⟩⟩
      · exact ⟨_, atI_l1, l, rfl, hl, q⟩
      · simp [pyH, py, PyData.eqv] at e
    · have ev : evD m (.cl l) = .tup [.str "close"] := by simp [evD, hn]
      rw [ev]
      refine ⟨_, _, _, rfl, rfl, nc, M.kit_tuple_tuple, ⟨fun e => (nomatch e), fun _ => ?_⟩⟩
      refine ⟨small (by simp), shC, shT0, ⟨fun e => ?_, fun _ => ?_⟩⟩
      · simp [pyH, py, pyL, PyData.eqv, PyData.eqvAll] at e
      refine ⟨_, atI_l0, _, _, _, rfl, rfl, nc, M.kit_str_str, ⟨fun e => (nomatch e), fun _ => ?_⟩⟩
      refine ⟨_, atI_l0, shS sClose, shS sOpen, ⟨fun e => neOC e, fun _ => ?_⟩⟩
      refine ⟨_, atI_l0, shS sClose, shS sClose, ⟨fun _ => ?_, fun e => no2 e⟩⟩
      refine ⟨shS hm.s, shS sNamed, ⟨fun e => no1 hn e, fun _ => ?_⟩⟩
      refine ⟨small (by simp), shC, shC, ?_⟩
      have e : PyData.eqv (pyH h (.tup [.str "close"])) (pyH h (.tup [.str "close"])) = true := by simp [pyH, py, pyL, PyData.eqv, PyData.eqvAll]
      rw [e]; exact q
theorem len_can_come (ds : List D) (h : DH) (Qd : D → DH → Prop) (q : sp_can_come K ds h Qd) : ds.length = 4 := by
  unfold sp_can_come at q
  repeat (first | (obtain ⟨e, _⟩ := q; subst e; rfl) | obtain ⟨_, q⟩ := q)
theorem read_can_come (M : Md K mg) (ds : List D) (h : DH) (Qd : D → DH → Prop) (q : sp_can_come K ds h Qd) : t_can_come K (sp_is_event K) (sp_close_of K) ⟨fun _ h' => Qd .non h', Qd, fun _ _ => False, fun _ _ => False⟩ (st0 N_can_come.length ds) h := by
  obtain ⟨m, e, fst, stk, rfl, hv, hs, hm, q⟩ := q
  cases e with
  | op l =>
    obtain ⟨h1, hl, _⟩ := hv
    refine ⟨m, l, _, rfl, .inl rfl, hl, hm, ⟨fun e => (nomatch e), fun _ => ?_⟩⟩
    refine ⟨_, atI_l0, shS sOpen, shS sOpen, ⟨fun _ => ?_, fun e => no2 e⟩⟩
    cases stk with
    | nil =>
      have : fst = true := by rcases h1 with h1 | h1; exact absurd rfl h1; exact h1
      subst this
      exact ⟨rfl, ⟨fun _ => q, fun _ => q⟩⟩
    | cons z r => exact ⟨rfl, ⟨fun _ => q, fun e => nomatch e⟩⟩
  | cl l =>
    obtain ⟨rest, rfl, _⟩ := hv
    have hl : goodName l := hs l List.mem_cons_self
    refine ⟨m, l, _, rfl, .inr rfl, hl, hm, ⟨fun e => (nomatch e), fun _ => ?_⟩⟩
    have sE : SeqAt.shaped (pyH h (evD m (.cl l))) = true := shE hl (.inr rfl)
    have ix : ∃ xs, evD m (.cl l) = .tup (.str "close" :: xs) := by by_cases hn : m = "named" <;> simp [evD, hn]
    obtain ⟨xs, ex⟩ := ix
    have fin : rAnd (rOp dIsNot (rVar 2) (rC .non)) (rOp dEq (rCall (sp_close_of K) [] (rCons (rVar 2) (rCons (rVar 1) rNil))) (rVar 0)) (st0 4 [evD m (.cl l), .str m, topD (l :: rest), .bl fst]) h Qd := by
      refine ⟨rfl, ⟨fun _ => ?_, fun e => (nomatch e)⟩⟩
      refine ⟨l, m, rfl, hm, sE, sE, ?_⟩
      rw [eqE]; exact q
    have op : rTest (rOp dEq (rOp dIx (rVar 0) (rC (.int 0))) (rC (.str "open"))) (st0 4 [evD m (.cl l), .str m, topD (l :: rest), .bl fst]) h fun k h1 => bC k (rOr (rOp dIsNot (rVar 2) (rC .non)) (rVar 3) (st0 4 [evD m (.cl l), .str m, topD (l :: rest), .bl fst]) h1 Qd) (rAnd (rOp dIsNot (rVar 2) (rC .non)) (rOp dEq (rCall (sp_close_of K) [] (rCons (rVar 2) (rCons (rVar 1) rNil))) (rVar 0)) (st0 4 [evD m (.cl l), .str m, topD (l :: rest), .bl fst]) h1 Qd) := by
      rw [ex] at fin ⊢
      exact ⟨_, atI_l0, shS sClose, shS sOpen, ⟨fun e => neOC e, fun _ => fin⟩⟩
    exact op
theorem deps_pairs : ∀ (r : List (Str × Nat)) (p : Nat), Deps p r → ∀ x ∈ DL.pairD ((p :: r.map (·.2)).map fun n : Nat => D.int n) (r.map fun n => D.int n.2), ∃ a b : Nat, x = .tup [.int a, .int b] ∧ 2 ≤ b ∧ b ≤ a + 1 := by
  intro r
  induction r with
  | nil => intro p _ x hx; simp [DL.pairD] at hx
  | cons n r ih =>
    intro p hp x hx
    obtain ⟨l, d⟩ := n
    obtain ⟨_, h2, h3, h4⟩ := hp
    rcases List.mem_cons.mp (show x ∈ D.tup [.int p, .int d] :: DL.pairD ((d :: r.map (·.2)).map fun n : Nat => D.int n) (r.map fun n => D.int n.2) from hx) with e | e
    · exact ⟨p, d, e, h2, h3⟩
    · exact ih d h4 x e
theorem DocN.good {ns : List (Str × Nat)} (h : DocN ns) : ∀ n ∈ ns, goodName n.1 := by
  obtain ⟨l, r, rfl, g, d, _⟩ := h
  have key : ∀ (r : List (Str × Nat)) (p : Nat), Deps p r → ∀ n ∈ r, goodName n.1 := by
    intro r
    induction r with
    | nil => intro p _ n hn; cases hn
    | cons a r ih =>
      intro p hp n hn
      obtain ⟨l, d⟩ := a
      obtain ⟨h1, h2, _, h4⟩ := hp
      rcases List.mem_cons.mp hn with rfl | hn
      · exact h1
      · exact ih d h4 n hn
  intro n hn
  rcases List.mem_cons.mp hn with rfl | hn
  · exact g
  · exact key r 1 d n hn
theorem DocN.len {ns : List (Str × Nat)} (h : DocN ns) : 1 ≤ ns.length ∧ ns.length ≤ 40 := by obtain ⟨_, _, rfl, _, _, z⟩ := h; exact ⟨by simp, z⟩
end LK
set_option Elab.async false
set_option linter.all false
set_option maxRecDepth 100000
set_option maxHeartbeats 4000000
namespace LK
open PySem PySem.Spec PyProof.Rows L2 DL
variable {K : PySem.W.Frag} {mg : Str → Option Value}
theorem lt_size {n : Nat} (h : n < 1000) : n < sizeLine := Nat.lt_of_lt_of_le h (small (Nat.le_refl _))
abbrev wyB : TSD := rSeq (rAsg (rTup (rStar (rSlice (rVar 2) rNoPart (rPart (rOp dSub (rVar 4) (rC (.int 1))))) (rCons (rVar 3) rNil))) (dName 2)) (rDrop (rMt "list" dAppend (rVar 1) (rCons (rVar 2) rNil)))
theorem ways_loop {Dd : EndsD} {v : D} {A : Addr} {h : DH} : ∀ (ns : List (Str × Nat)) (way acc : List D) (x y : Option D), way.length + ns.length ≤ 100 → acc.length + ns.length ≤ 100 → (∀ n ∈ ns, 1 ≤ n.2) →
    (∀ way' acc' x y, Dd.nx [some v, some (.ref A), some (.tup way'), x, y] (up h A (.lst acc'))) →
    rForL (dTup 2 (dCons (dName 3) (dCons (dName 4) dNil))) wyB Dd (fun _ => True) (ns.map nodeD) [some v, some (.ref A), some (.tup way), x, y] (up h A (.lst acc)) := by
  intro ns
  induction ns with
  | nil => intro way acc x y _ _ _ q; exact ⟨trivial, q way acc x y⟩
  | cons n ns ih =>
    intro way acc x y h1 h2 hd q
    obtain ⟨l, d⟩ := n
    simp only [List.length_cons] at h1 h2
    have d1 : 1 ≤ d := hd (l, d) List.mem_cons_self
    refine ⟨trivial, ⟨rfl, trivial, ?_⟩⟩
    show (DL.cutD way none (some ((d : Int) - 1)) ++ [D.str l]).length ≤ sizeLine ∧ _
    have lc : (DL.cutD way none (some ((d : Int) - 1)) ++ [D.str l]).length ≤ way.length + 1 := by
      by_cases z : ((d - 1 : Nat) : Int) < 2 ^ 63
      · rw [show ((d : Int) - 1) = ((d - 1 : Nat) : Int) by omega, cutD_to _ _ z]
        simp; omega
      · unfold DL.cutD
        simp; omega
    generalize DL.cutD way none (some ((d : Int) - 1)) ++ [D.str l] = way2 at lc ⊢
    refine ⟨small (by omega), ⟨.inl ⟨_, up_same, rfl⟩, ⟨_, up_same, lt_size (by omega), ?_⟩⟩⟩
    rw [up_up]
    exact ih way2 _ _ _ (by omega) (by simp; omega) (fun n hn => hd n (List.mem_cons_of_mem _ hn)) q
abbrev clC : TTD := rTest (rOp dGe (rCB dLen (rCons (rVar 2) rNil)) (rVar 5))
abbrev clP : TSD := rDrop (rMt "list" dAppend (rVar 1) (rCons (rMt0 "list" dPop (rVar 2)) rNil))
abbrev clS (v : D) (A B : Addr) (x y z : Option D) : SD := [some v, some (.ref A), some (.ref B), x, y, z]
theorem cls_while {Dd : EndsD} {v : D} {A B : Addr} (ne : A ≠ B) {h : DH} {d : Nat} (d1 : 1 ≤ d) {x y : Option D} : ∀ (j : Nat) (acc stk : List D), acc.length + stk.length ≤ 900 → stk.length < d + j →
    (∀ acc' stk', acc'.length + stk'.length = acc.length + stk.length → Dd.nx (clS v A B x y (some (.int d))) (HP h A B acc' stk')) →
    rWhileN clC clP Dd (j + 1) (clS v A B x y (some (.int d))) (HP h A B acc stk) := by
  intro j
  induction j with
  | zero =>
    intro acc stk hl hj q
    refine .inl ⟨_, HP.b, ?_⟩
    refine ⟨fun e => ?_, fun _ => q acc stk rfl⟩
    have := of_decide_eq_true e
    omega
  | succ j ih =>
    intro acc stk hl hj q
    refine .inl ⟨_, HP.b, ?_⟩
    refine ⟨fun e => ?_, fun _ => q acc stk rfl⟩
    have hd := of_decide_eq_true e
    have ln : stk ≠ [] := fun e => by subst e; simp at hd; omega
    obtain ⟨s2, z, rfl⟩ : ∃ s2 z, stk = s2 ++ [z] := ⟨_, _, (List.dropLast_concat_getLast ln).symm⟩
    simp only [List.length_append, List.length_singleton] at hl hj
    refine ⟨.inl ⟨_, HP.a ne, rfl⟩, ⟨.inl ⟨_, HP.b, rfl⟩, ⟨_, HP.b, z, by simp, ?_⟩⟩⟩
    refine ⟨_, (by rw [HP.sb]; exact HP.a ne), lt_size (by omega), ?_⟩
    rw [HP.sb, HP.sa ne]
    have e1 : (s2 ++ [z]).dropLast = s2 := by simp
    rw [e1]
    refine ih _ _ (by simp; omega) (by omega) fun acc' stk' e => q acc' stk' ?_
    rw [e]; simp; omega
theorem cls_loop {Dd : EndsD} {v : D} {A B : Addr} (ne : A ≠ B) {h : DH} : ∀ (ns : List (Str × Nat)) (k : Nat) (acc stk : List D) (x y z : Option D), acc.length + stk.length + ns.length ≤ 100 → (∀ n ∈ ns, 1 ≤ n.2) →
    (∀ acc' stk' x y z, acc'.length + stk'.length ≤ 100 → Dd.nx (clS v A B x y z) (HP h A B acc' stk')) →
    rForL (dTup 2 (dCons (dName 3) (dCons (dTup 2 (dCons (dName 4) (dCons (dName 5) dNil))) dNil))) (rSeq (rWhile clC clP) (rDrop (rMt "list" dAppend (rVar 2) (rCons (rVar 3) rNil)))) Dd (fun _ => True) (enumF k (ns.map nodeD)) (clS v A B x y z) (HP h A B acc stk) := by
  intro ns
  induction ns with
  | nil => intro k acc stk x y z hl _ q; exact ⟨trivial, q acc stk x y z (by simpa using hl)⟩
  | cons n ns ih =>
    intro k acc stk x y z hl hd q
    obtain ⟨l, d⟩ := n
    simp only [List.length_cons] at hl
    have d1 : 1 ≤ d := hd (l, d) List.mem_cons_self
    refine ⟨trivial, ⟨rfl, rfl, stk.length + 1, ?_⟩⟩
    refine cls_while ne d1 _ acc stk (by omega) (by omega) fun acc' stk' e => ?_
    refine ⟨.inl ⟨_, HP.b, rfl⟩, ⟨_, HP.b, lt_size (by omega), ?_⟩⟩
    rw [HP.sb]
    exact ih (k + 1) _ _ _ _ _ (by simp; omega) (fun n hn => hd n (List.mem_cons_of_mem _ hn)) q
end LK
set_option Elab.async false
set_option linter.all false
set_option maxRecDepth 100000
set_option maxHeartbeats 4000000
namespace LK
open PySem PySem.Spec PyProof.Rows L2 DL
variable {K : PySem.W.Frag} {mg : Str → Option Value}
/-! ### events of a document can come -/
theorem valid_closes {es : List Ev} : ∀ (j : Nat) (stk : List Str), j ≤ stk.length → Valid false (stk.drop j) es → Valid false stk ((stk.take j).map Ev.cl ++ es) := by
  intro j
  induction j with
  | zero => intro stk _ q; simpa using q
  | succ j ih =>
    intro stk hj q
    cases stk with
    | nil => simp at hj
    | cons l stk => exact ⟨stk, rfl, ih stk (by simpa using hj) (by simpa using q)⟩
theorem valid_ev : ∀ (r : List (Str × Nat)) (stk : List Str), stk ≠ [] → Deps stk.length r → Valid false stk (evF stk r) := by
  intro r
  induction r with
  | nil =>
    intro stk _ _
    have := valid_closes (es := []) stk.length stk (Nat.le_refl _) (by simp [Valid])
    simpa [evF] using this
  | cons n r ih =>
    intro stk hne hd
    obtain ⟨l, d⟩ := n
    obtain ⟨g, h2, h3, h4⟩ := hd
    refine valid_closes _ _ (by omega) ?_
    have ne2 : stk.drop (stk.length + 1 - d) ≠ [] := by
      intro e
      have := congrArg List.length e
      simp at this
      have : stk.length ≠ 0 := fun z => hne (List.length_eq_zero_iff.mp z)
      omega
    refine ⟨.inl ne2, g, ih _ (by simp) ?_⟩
    have : (l :: stk.drop (stk.length + 1 - d)).length = d := by simp; omega
    rw [this]; exact h4
theorem DocN.valid {ns : List (Str × Nat)} (h : DocN ns) : Valid true [] (evF [] ns) := by
  obtain ⟨l, r, rfl, g, d, _⟩ := h
  exact ⟨.inr rfl, g, valid_ev r [l] (by simp) d⟩
theorem evF_len : ∀ (ns : List (Str × Nat)) (stk : List Str), (evF stk ns).length = stk.length + 2 * ns.length := by
  intro ns
  induction ns with
  | nil => intro stk; simp [evF]
  | cons n r ih =>
    intro stk
    obtain ⟨l, d⟩ := n
    simp [evF, ih]
    omega
/-! ### rules -/
theorem atI_at {α : Type} {ds : List α} {i : Nat} {d : α} (h : ds[i]? = some d) : L2.atI ds (i : Int) = some d := atI_nat h
theorem marks0 (m : Nat) : MarksOk m (nums []) := ⟨[], rfl, by simp, by simp, by simp⟩
theorem open_rule {R : RF} (W : WF R) {s : Nat} {l : Str} (hl : goodName l) (hs : s < R.n) : ∃ (s' : Nat) (is : List Int) (rest : List D) (c : D), (R.o s (.str l)).getD (.tup [.int s, .tup [], .non]) = .tup (.int s' :: .tup (nums is) :: rest) ∧
    openF R s (.str l) = (.int s', nums is, c) ∧ s' < R.n ∧ MarksOk R.marks (nums is) ∧ ((rest = [c] ∧ (R.mode = "late" → c = .non)) ∨ (rest = [] ∧ R.mode = "late" ∧ c = .non)) := by
  cases e : R.o s (.str l) with
  | none => exact ⟨s, [], [.non], .non, rfl, by unfold openF; rw [e]; rfl, hs, marks0 _, .inl ⟨rfl, fun _ => rfl⟩⟩
  | some v =>
    obtain ⟨s', ms, h1, h2, h3⟩ := W.o s (.str l) v ⟨l, rfl, hl⟩ e
    obtain ⟨is, rfl, h2'⟩ := id h2
    by_cases hm : R.mode = "late"
    · rw [if_pos hm] at h3
      subst h3
      exact ⟨s', is, [], .non, rfl, by unfold openF; rw [e], h1, h2, .inr ⟨rfl, hm, rfl⟩⟩
    · rw [if_neg hm] at h3
      obtain ⟨col, _, rfl⟩ := h3
      exact ⟨s', is, [.str col], .str col, rfl, by unfold openF; rw [e], h1, h2, .inl ⟨rfl, fun z => absurd z hm⟩⟩
theorem key_ok {R : RF} {ms : List D} {l : Str} (hms : MarksOk R.marks ms) (hl : goodName l) : keyC R.mode R.marks (keyF R.mode ms l) := by
  refine ⟨ms, hms, ?_⟩
  by_cases hm : R.mode = "named"
  · rw [if_pos hm]; exact ⟨l, hl, by unfold keyF; rw [if_pos hm]⟩
  · rw [if_neg hm]; unfold keyF; rw [if_neg hm]
theorem close_late {R : RF} (W : WF R) {s : Nat} {ms : List D} {l : Str} (hms : MarksOk R.marks ms) (hl : goodName l) (hs : s < R.n) (hm : R.mode = "late") : ∃ (s' : Nat) (c : D), s' < R.n ∧ (R.c s (keyF R.mode ms l)).getD (.tup [.int s, .non]) = .tup [.int s', c] ∧ closeF R s ms l = (.int s', c) := by
  cases e : R.c s (keyF R.mode ms l) with
  | none => exact ⟨s, .non, hs, rfl, by unfold closeF; rw [e]⟩
  | some v =>
    obtain ⟨s', h1, h2⟩ := W.c s _ v (key_ok hms hl) e
    rw [if_pos hm] at h2
    obtain ⟨col, _, rfl⟩ := h2
    exact ⟨s', .str col, h1, rfl, by unfold closeF; rw [e]⟩
theorem close_now {R : RF} (W : WF R) {s : Nat} {ms : List D} {l : Str} (hms : MarksOk R.marks ms) (hl : goodName l) (hs : s < R.n) (hm : R.mode ≠ "late") : ∃ s' : Nat, s' < R.n ∧ (R.c s (keyF R.mode ms l)).getD (.int s) = .int s' ∧ closeF R s ms l = (.int s', .non) := by
  cases e : R.c s (keyF R.mode ms l) with
  | none => exact ⟨s, hs, rfl, by unfold closeF; rw [e]⟩
  | some v =>
    obtain ⟨s', h1, h2⟩ := W.c s _ v (key_ok hms hl) e
    rw [if_neg hm] at h2
    subst h2
    exact ⟨s', h1, rfl, by unfold closeF; rw [e]⟩
theorem flat_nums : ∀ is : List Int, (nums is).all flatD = true := fun is => List.all_eq_true.mpr fun d hd => by obtain ⟨i, _, rfl⟩ := List.mem_map.mp hd; rfl
theorem flat_laid (free is : List Int) : (laidF (nums free) (nums is)).all flatD = true := List.all_eq_true.mpr fun d hd => List.all_eq_true.mp (flat_nums is) d (List.mem_filter.mp hd).1
theorem MarksOk.len {m : Nat} {ms : List D} (h : MarksOk m ms) : ms.length ≤ 2 := by obtain ⟨is, rfl, l, _⟩ := h; rw [List.length_map]; exact l
/-- the marks laid, the marks left -/
theorem rVar_at {sd : SD} {h : DH} {i : Nat} {d : D} {Q : D → DH → Prop} (e : gs sd i = some d) (q : Q d h) : rVar i sd h Q := by unfold rVar; rw [e]; exact q
theorem laid_comp {sw : SD} {G : DH → Prop} {k : List D → DH → Prop} {h : DH} {L : Addr} {free is : List Int} {j f : Nat} {fr : D} (hfr : fr = .tup (nums free) ∨ fr = .lv (nums free)) (hL : h L = none) (hG : ∀ h', (∀ a o, h a = some o → h' a = some o) → G h')
    (h1 : ∀ d, gs (ss sw j d) j = some d) (h2 : ∀ d, gs (ss sw j d) f = some fr) (q : k (laidF (nums free) (nums is)) h) :
    rCompL (dName j) (rTest (rOp dIn (rVar j) (rVar f))) (rVar j) sw G k L (nums is) [] (up h L (.lst [])) := by
  refine comp_keep (fun m => (nums free).any fun z => deq z m) hL hG (fun x hx h' Q1 Q2 hm q1 q2 => ?_) q
  obtain ⟨i, _, rfl⟩ := List.mem_map.mp hx
  have q3 : bC ((nums free).any fun z => deq z (.int i)) (Q1 (.int i) h') (Q2 h') := ⟨q1, q2⟩
  rcases hfr with rfl | rfl
  · simp only [dName, rTest, rOp, rVar, h1, h2]
    exact ⟨rfl, flat_nums free, q3⟩
  · simp only [dName, rTest, rOp, rVar, h1, h2]
    exact ⟨rfl, flat_nums free, q3⟩
theorem left_comp {sw : SD} {G : DH → Prop} {k : List D → DH → Prop} {h : DH} {L : Addr} {free : List Int} {laid : List D} {j f : Nat} (hfl : laid.all flatD = true) (hL : h L = none) (hG : ∀ h', (∀ a o, h a = some o → h' a = some o) → G h')
    (h1 : ∀ d, gs (ss sw j d) j = some d) (h2 : ∀ d, gs (ss sw j d) f = some (.tup laid)) (q : k (leftF (nums free) laid) h) :
    rCompL (dName j) (rTest (rOp dNotIn (rVar j) (rVar f))) (rVar j) sw G k L (nums free) [] (up h L (.lst [])) := by
  refine comp_keep (fun m => !laid.any fun z => deq z m) hL hG (fun x hx h' Q1 Q2 hm q1 q2 => ?_) q
  obtain ⟨i, _, rfl⟩ := List.mem_map.mp hx
  have q3 : bC (!laid.any fun z => deq z (.int i)) (Q1 (.int i) h') (Q2 h') := ⟨q1, q2⟩
  simp only [dName, rTest, rOp, rVar, h1, h2]
  exact ⟨rfl, hfl, q3⟩
theorem Rls.rowO {R : RF} {os cs : List D} (r : Rls R os cs) {s : Nat} (hs : s < R.n) : ∃ ks vs, os[s]? = some (.dv ks vs) ∧ (∀ k ∈ ks, keyO k) ∧ ∀ k, keyO k → lookA ks vs k = R.o s k := by
  have e := List.getElem?_eq_getElem (show s < os.length by rw [r.lo]; exact hs)
  obtain ⟨ks, vs, e2, _, hk, _, _, lk⟩ := r.o s _ e
  exact ⟨ks, vs, by rw [e, e2], hk, lk⟩
theorem Rls.rowC {R : RF} {os cs : List D} (r : Rls R os cs) {s : Nat} (hs : s < R.n) : ∃ ks vs, cs[s]? = some (.dv ks vs) ∧ (∀ k ∈ ks, keyC R.mode R.marks k) ∧ ∀ k, keyC R.mode R.marks k → lookA ks vs k = R.c s k := by
  have e := List.getElem?_eq_getElem (show s < cs.length by rw [r.lc]; exact hs)
  obtain ⟨ks, vs, e2, _, hk, _, _, lk⟩ := r.c s _ e
  exact ⟨ks, vs, by rw [e, e2], hk, lk⟩
theorem len_opened (ds : List D) (h : DH) (Qd : D → DH → Prop) (q : sp_opened K ds h Qd) : ds.length = 4 := by
  unfold sp_opened at q
  repeat (first | (obtain ⟨e, _⟩ := q; subst e; rfl) | obtain ⟨_, q⟩ := q)
theorem read_opened (M : Md K mg) (ds : List D) (h : DH) (Qd : D → DH → Prop) (q : sp_opened K ds h Qd) : t_opened K ⟨fun _ h' => Qd .non h', Qd, fun _ _ => False, fun _ _ => False⟩ (st0 N_opened.length ds) h := by
  obtain ⟨R, r, s, free, l, rfl, W, ⟨os, cs, rfl, rl⟩, hs, hl, hf, q⟩ := q
  obtain ⟨ks, vs, e1, hk, lk⟩ := rl.rowO hs
  have ky : keyO (.str l) := ⟨l, rfl, hl⟩
  obtain ⟨s', is, rest, c, e2, e3, hs', hms, hr⟩ := open_rule W hl hs
  have l1 : (nums is).length ≤ 2 := hms.len
  have l2 : (nums free).length ≤ 1000 := by rw [List.length_map]; exact hf
  refine ⟨2, _, by simp [cs_own_opens], rfl, _, atI_at e1, rfl, small (by simp), small (by simp), kdO.key hk ky, ?_⟩
  rw [lk _ ky, e2]
  rw [e3] at q
  refine ⟨_, atI_l1, small (by omega), fun L hL => ?_⟩
  refine laid_comp (.inl rfl) hL (fun _ _ => trivial) (fun _ => rfl) (fun _ => rfl) ?_
  refine ⟨small l2, fun L hL => ?_⟩
  refine left_comp (flat_laid _ _) hL (fun _ _ => trivial) (fun _ => rfl) (fun _ => rfl) ?_
  refine ⟨_, atI_l0, 0, _, by simp [cs_own_mode], rfl, shS W.md.s, shS sLate, ⟨fun e => ?_, fun e => ?_⟩⟩
  · have hm : R.mode = "late" := of_decide_eq_true (by rw [← eqS]; exact e)
    have hc : c = .non := by rcases hr with ⟨_, z⟩ | ⟨_, _, z⟩; exact z hm; exact z
    subst hc
    exact ⟨small (by simp), q⟩
  · have hm : R.mode ≠ "late" := fun x => by rw [x] at e; exact no2 e
    rcases hr with ⟨rfl, _⟩ | ⟨_, z, _⟩
    · exact ⟨_, atI_l2, small (by simp), q⟩
    · exact absurd z hm
end LK
set_option Elab.async false
set_option linter.all false
set_option maxRecDepth 100000
set_option maxHeartbeats 4000000
namespace LK
open PySem PySem.Spec PyProof.Rows L2 DL
variable {K : PySem.W.Frag} {mg : Str → Option Value}
theorem sMode : sOk "mode" := by unfold sOk; decide +kernel
abbrev pKs : List D := [.str "mode", .str "marks", .str "opens", .str "closes"]
theorem lk0 {a b c d : D} : lookA pKs [a, b, c, d] (.str "mode") = some a := rfl
theorem lk1 {a b c d : D} : lookA pKs [a, b, c, d] (.str "marks") = some b := rfl
theorem lk2 {a b c d : D} : lookA pKs [a, b, c, d] (.str "opens") = some c := rfl
theorem lk3 {a b c d : D} : lookA pKs [a, b, c, d] (.str "closes") = some d := rfl
theorem len_closed (ds : List D) (h : DH) (Qd : D → DH → Prop) (q : sp_closed K ds h Qd) : ds.length = 4 := by
  unfold sp_closed at q
  repeat (first | (obtain ⟨e, _⟩ := q; subst e; rfl) | obtain ⟨_, q⟩ := q)
theorem read_closed (M : Md K mg) (ds : List D) (h : DH) (Qd : D → DH → Prop) (q : sp_closed K ds h Qd) : t_closed K ⟨fun _ h' => Qd .non h', Qd, fun _ _ => False, fun _ _ => False⟩ (st0 N_closed.length ds) h := by
  obtain ⟨R, r, s, ms, l, rfl, W, ⟨os, cs, rfl, rl⟩, hs, hms, hl, q⟩ := q
  obtain ⟨ks, vs, e1, hk, lk⟩ := rl.rowC hs
  have ky := key_ok hms hl
  have kk := (kdC R.mode R.marks).key hk ky
  have rest : ∀ kd, kd = keyF R.mode ms l → rSeq (rIfS (rTest (rOp dEq (rFld (cs_own_mode K) (rVar 0)) (rC (.str "late")))) (rRet (rMt "dict" dGet (rOp dIx (rFld (cs_own_closes K) (rVar 0)) (rVar 1)) (rCons (rVar 4) (rCons (rTup (rCons (rVar 1) (rCons (rC .non) rNil))) rNil)))) rNext)
    (rRet (rTup (rCons (rMt "dict" dGet (rOp dIx (rFld (cs_own_closes K) (rVar 0)) (rVar 1)) (rCons (rVar 4) (rCons (rVar 1) rNil))) (rCons (rC .non) rNil)))) ⟨fun _ h' => Qd .non h', Qd, fun _ _ => False, fun _ _ => False⟩ [some (.iv (He.ga K "Reader") [.str R.mode, .int R.marks, .tup os, .tup cs]), some (.int s), some (.tup ms), some (.str l), some kd] h := by
    rintro kd rfl
    refine ⟨0, _, by simp [cs_own_mode], rfl, shS W.md.s, shS sLate, ⟨fun e => ?_, fun e => ?_⟩⟩
    · have hm : R.mode = "late" := of_decide_eq_true (by rw [← eqS]; exact e)
      obtain ⟨s', c, _, e2, e3⟩ := close_late W hms hl hs hm
      refine ⟨3, _, by simp [cs_own_closes], rfl, _, atI_at e1, rfl, small (by simp), kk, ?_⟩
      rw [lk _ ky, e2]
      rw [e3] at q
      exact q
    · have hm : R.mode ≠ "late" := fun x => by rw [x] at e; exact no2 e
      obtain ⟨s', _, e2, e3⟩ := close_now W hms hl hs hm
      refine ⟨3, _, by simp [cs_own_closes], rfl, _, atI_at e1, rfl, kk, ?_⟩
      rw [lk _ ky, e2]
      rw [e3] at q
      exact ⟨small (by simp), q⟩
  refine ⟨0, _, by simp [cs_own_mode], rfl, shS W.md.s, shS sNamed, ⟨fun e => ?_, fun e => ?_⟩⟩
  · have hm : R.mode = "named" := of_decide_eq_true (by rw [← eqS]; exact e)
    exact ⟨small (by simp), rest _ (by unfold keyF; rw [if_pos hm])⟩
  · have hm : R.mode ≠ "named" := fun x => by rw [x] at e; exact no2 e
    exact ⟨small (by simp), rest _ (by unfold keyF; rw [if_neg hm])⟩
theorem len_every_mark (ds : List D) (h : DH) (Qd : D → DH → Prop) (q : sp_every_mark K ds h Qd) : ds.length = 1 := by
  unfold sp_every_mark at q
  repeat (first | (obtain ⟨e, _⟩ := q; subst e; rfl) | obtain ⟨_, q⟩ := q)
theorem read_every_mark (M : Md K mg) (ds : List D) (h : DH) (Qd : D → DH → Prop) (q : sp_every_mark K ds h Qd) : t_every_mark K ⟨fun _ h' => Qd .non h', Qd, fun _ _ => False, fun _ _ => False⟩ (st0 N_every_mark.length ds) h := by
  obtain ⟨R, r, rfl, W, ⟨os, cs, rfl, rl⟩, q⟩ := q
  have := W.mks
  exact ⟨1, _, by simp [cs_own_marks], rfl, (by unfold RgOk; omega), q⟩
theorem len__law_made_reader (ds : List D) (h : DH) (Qd : D → DH → Prop) (q : sp__law_made_reader K ds h Qd) : ds.length = 1 := by
  unfold sp__law_made_reader at q
  repeat (first | (obtain ⟨e, _⟩ := q; subst e; rfl) | obtain ⟨_, q⟩ := q)
theorem read__law_made_reader (M : Md K mg) (ds : List D) (h : DH) (Qd : D → DH → Prop) (q : sp__law_made_reader K ds h Qd) : t__law_made_reader K (sp_Reader_u__init_u_ K) ⟨fun _ h' => Qd .non h', Qd, fun _ _ => False, fun _ _ => False⟩ (st0 N__law_made_reader.length ds) h := by
  obtain ⟨R, v, rfl, W, ⟨os, cs, rfl, rl⟩, q⟩ := q
  have n1 := W.n1
  refine ⟨rfl, _, lk2, small (by rw [rl.lo]; omega), fun L hL => ?_⟩
  refine comp_each (fun d => d) hL (fun _ _ => trivial) (fun x hx h' Q1 Q2 hm q1 => ?_) ?_
  · obtain ⟨i, ks, vs, rfl, hl, hk, nd, l, lk⟩ := rl.o.each x hx
    exact ⟨fun _ => ⟨ks, vs, rfl, hl, nd, kdO.keys hk, small (by omega), q1⟩, fun e => (nomatch e)⟩
  refine ⟨rfl, _, lk3, small (by rw [rl.lc]; omega), fun L hL => ?_⟩
  refine comp_each (fun d => d) hL (fun _ _ => trivial) (fun x hx h' Q1 Q2 hm q1 => ?_) ?_
  · obtain ⟨i, ks, vs, rfl, hl, hk, nd, l, lk⟩ := rl.c.each x hx
    exact ⟨fun _ => ⟨ks, vs, rfl, hl, nd, (kdC R.mode R.marks).keys hk, small (by omega), q1⟩, fun e => (nomatch e)⟩
  refine ⟨rfl, _, lk0, rfl, _, lk1, ?_⟩
  intro p hp
  refine ⟨p, R, os, cs, by rw [List.map_id', List.map_id']; rfl, up_same, W, rl, fun os' cs' rl' => ⟨rfl, _, up_same, ?_⟩⟩
  rw [up_up, del_up hp]
  exact q _ ⟨os', cs', rfl, rl'⟩
end LK
set_option Elab.async false
set_option linter.all false
set_option maxRecDepth 100000
set_option maxHeartbeats 4000000
namespace LK
open PySem PySem.Spec PyProof.Rows L2 DL
variable {K : PySem.W.Frag} {mg : Str → Option Value}
/-! ### the run of a reader -/
abbrev stD (stk : List (Str × List D)) : List D := stk.reverse.map fun p => .tup [.str p.1, .tup p.2]
theorem stD_cons (p : Str × List D) (stk : List (Str × List D)) : stD (p :: stk) = stD stk ++ [.tup [.str p.1, .tup p.2]] := by simp [stD]
structure Stands (R : RF) (t : TS) (fi : List Int) (k : Nat) : Prop where
  st : t.st < R.n
  fr : t.free = nums fi
  fl : fi.length ≤ 2 + 2 * k
  sk : ∀ p ∈ t.stk, goodName p.1 ∧ MarksOk R.marks p.2
  sl : t.stk.length ≤ k
  tl : t.told.length ≤ k
theorem nums_sub {is : List Int} {ds : List D} (h : ds.Sublist (nums is)) : ∃ js : List Int, ds = nums js ∧ js.Sublist is := by
  obtain ⟨js, h1, h2⟩ := List.sublist_map_iff.mp h
  exact ⟨js, h2, h1⟩
theorem laid_marks {m : Nat} {free : List D} {ms : List D} (h : MarksOk m ms) : MarksOk m (laidF free ms) := by
  obtain ⟨is, rfl, hl, hp, hb⟩ := h
  obtain ⟨js, e, s⟩ := nums_sub (is := is) (ds := laidF free (nums is)) List.filter_sublist
  exact ⟨js, e, Nat.le_trans s.length_le hl, hp.sublist s, fun i hi => hb i (s.subset hi)⟩
theorem left_nums (fi : List Int) (laid : List D) : ∃ js : List Int, leftF (nums fi) laid = nums js ∧ js.length ≤ fi.length := by
  obtain ⟨js, e, s⟩ := nums_sub (is := fi) (ds := leftF (nums fi) laid) List.filter_sublist
  exact ⟨js, e, s.length_le⟩
theorem nums_of : ∀ {ds : List D}, (∀ d ∈ ds, ∃ i : Int, d = .int i) → ∃ js : List Int, ds = nums js
  | [], _ => ⟨[], rfl⟩
  | d :: ds, h => by
    obtain ⟨i, rfl⟩ := h d List.mem_cons_self
    obtain ⟨js, rfl⟩ := nums_of (fun d hd => h d (List.mem_cons_of_mem _ hd))
    exact ⟨i :: js, rfl⟩
theorem sort_nums (is : List Int) : ∃ js : List Int, sortD (nums is) = nums js ∧ js.length = is.length := by
  have p := sortD_perm (nums is)
  obtain ⟨js, e⟩ := nums_of (ds := sortD (nums is)) fun d hd => by obtain ⟨i, _, rfl⟩ := List.mem_map.mp (p.mem_iff.mp hd); exact ⟨i, rfl⟩
  refine ⟨js, e, ?_⟩
  have := p.length_eq
  rw [e] at this
  simpa using this
theorem nums_sort (is : List Int) : PySem.W.AllAlike ((nums is).map py) ∧ PySem.W.Sortable ((nums is).map py) ∧ (nums is).all (fun d => SeqAt.shaped (py d)) = true := by
  refine ⟨fun d hd d' hd' => ?_, .inr fun d hd => ?_, List.all_eq_true.mpr fun d hd => ?_⟩
  · obtain ⟨a, ha, rfl⟩ := List.mem_map.mp hd
    obtain ⟨i, _, rfl⟩ := List.mem_map.mp ha
    obtain ⟨b, hb, rfl⟩ := List.mem_map.mp hd'
    obtain ⟨j, _, rfl⟩ := List.mem_map.mp hb
    simp [py, PySem.W.alike]
  · obtain ⟨a, ha, rfl⟩ := List.mem_map.mp hd
    obtain ⟨i, _, rfl⟩ := List.mem_map.mp ha
    exact ⟨by simp [py], fun xs => by simp [py]⟩
  · obtain ⟨i, _, rfl⟩ := List.mem_map.mp hd
    exact shI (h := fun _ => none)
theorem stands_op {R : RF} (W : WF R) {t : TS} {fi : List Int} {k : Nat} (h : Stands R t fi k) {l : Str} (hl : goodName l) : ∃ (s' : Nat) (ms : List D) (c : D) (js : List Int), openF R t.st (.str l) = (.int s', ms, c) ∧ MarksOk R.marks (laidF (nums fi) ms) ∧ leftF (nums fi) (laidF (nums fi) ms) = nums js ∧
    stepF R t (.op l) = ⟨s', nums js, (l, laidF (nums fi) ms) :: t.stk, if R.mode = "late" then t.told else t.told ++ [c]⟩ ∧ Stands R (stepF R t (.op l)) js (k + 1) := by
  obtain ⟨s', is, rest, c, e2, e3, hs', hms, hr⟩ := open_rule W hl h.st
  have hm := laid_marks (free := nums fi) hms
  obtain ⟨js, ej, lj⟩ := left_nums fi (laidF (nums fi) (nums is))
  have es : stepF R t (.op l) = ⟨s', nums js, (l, laidF (nums fi) (nums is)) :: t.stk, if R.mode = "late" then t.told else t.told ++ [c]⟩ := by
    simp only [stepF, e3, h.fr, ej, natD, Int.toNat_natCast]
  refine ⟨s', nums is, c, js, e3, hm, ej, es, ?_⟩
  rw [es]
  refine ⟨hs', rfl, by have := h.fl; omega, fun p hp => ?_, by have := h.sl; simp; omega, ?_⟩
  · rcases List.mem_cons.mp hp with rfl | hp
    · exact ⟨hl, hm⟩
    · exact h.sk p hp
  · have := h.tl
    show (if R.mode = "late" then t.told else t.told ++ [c]).length ≤ k + 1
    split
    · omega
    · simp; omega
theorem stands_cl {R : RF} (W : WF R) {t : TS} {fi : List Int} {k : Nat} (h : Stands R t fi k) {l : Str} {laid : List D} {rest : List (Str × List D)} (hs : t.stk = (l, laid) :: rest) : ∃ (s' : Nat) (c : D) (li js : List Int), closeF R t.st laid l = (.int s', c) ∧ laid = nums li ∧ li.length ≤ 2 ∧ sortD (nums (fi ++ li)) = nums js ∧
    stepF R t (.cl l) = ⟨s', nums js, rest, if R.mode = "late" then t.told ++ [c] else t.told⟩ ∧ Stands R (stepF R t (.cl l)) js (k + 1) := by
  obtain ⟨gl, hms⟩ := h.sk (l, laid) (by rw [hs]; exact List.mem_cons_self)
  obtain ⟨li, rfl, l2, _⟩ := id hms
  have ex : ∃ (s' : Nat) (c : D), s' < R.n ∧ closeF R t.st (nums li) l = (.int s', c) := by
    by_cases hm : R.mode = "late"
    · obtain ⟨s', c, a, _, b⟩ := close_late W hms gl h.st hm; exact ⟨s', c, a, b⟩
    · obtain ⟨s', a, _, b⟩ := close_now W hms gl h.st hm; exact ⟨s', .non, a, b⟩
  obtain ⟨s', c, hs', e3⟩ := ex
  obtain ⟨js, ej, lj⟩ := sort_nums (fi ++ li)
  have ej2 : sortD (nums fi ++ nums li) = nums js := by rw [← ej, show nums (fi ++ li) = nums fi ++ nums li from List.map_append]
  have es : stepF R t (.cl l) = ⟨s', nums js, rest, if R.mode = "late" then t.told ++ [c] else t.told⟩ := by
    simp only [stepF, hs, e3, h.fr, ej2, natD, Int.toNat_natCast]
  refine ⟨s', c, li, js, e3, rfl, l2, ej, es, ?_⟩
  rw [es]
  refine ⟨hs', rfl, by have := h.fl; simp at lj; omega, fun p hp => h.sk p (by rw [hs]; exact List.mem_cons_of_mem _ hp), ?_, ?_⟩
  · have := h.sl; rw [hs] at this; simp at this; show rest.length ≤ k + 1; omega
  · have := h.tl
    show (if R.mode = "late" then t.told ++ [c] else t.told).length ≤ k + 1
    split
    · simp; omega
    · omega
theorem evD_0 (m : Str) (l : Str) : ∃ xs, evD m (.cl l) = .tup (.str "close" :: xs) := by by_cases hn : m = "named" <;> simp [evD, hn]
theorem atI_last {xs : List D} {y : D} : L2.atI (xs ++ [y]) (-1) = some y := by
  have e : (-1 + ((xs.length : Int) + 1)).toNat = xs.length := by omega
  have e2 : (1 : Int) ≤ (xs.length : Int) + 1 := by omega
  simp [L2.atI, ixN, e, e2]
theorem stD_lay (m : Nat) : ∀ (stk : List (Str × List D)), (∀ p ∈ stk, goodName p.1 ∧ MarksOk m p.2) → PyData.canLayAll0 (pyL (stk.map fun p => .tup [.str p.1, .tup p.2])) = true ∧ PyData.depthAll (pyL (stk.map fun p => D.tup [.str p.1, .tup p.2])) ≤ 10
  | [], _ => by simp [pyL, PyData.canLayAll0, PyData.depthAll]
  | p :: stk, h => by
    obtain ⟨i1, i2⟩ := stD_lay m stk fun p hp => h p (List.mem_cons_of_mem _ hp)
    obtain ⟨g, is, e, _⟩ := h p List.mem_cons_self
    have s1 : PyData.strOk p.1 = true := g.s
    simp only [List.map_cons, pyL, py, e, PyData.canLayAll0, PyData.canLay0, PyData.depthAll, PyData.depth, lay_nums, dep_nums, i1, s1]
    refine ⟨rfl, ?_⟩
    omega
theorem shStk {h : DH} {A B : Addr} {y : List D} (ne : A ≠ B) {m : Nat} {stk : List (Str × List D)} (hs : ∀ p ∈ stk, goodName p.1 ∧ MarksOk m p.2) : SeqAt.shaped (pyH (HP h A B (stD stk) y) (.ref A)) = true := by
  have e : pyH (HP h A B (stD stk) y) (.ref A) = .list (pyL (stD stk)) := by
    show pyO (HP h A B (stD stk) y A) = _
    rw [HP.a ne]; rfl
  obtain ⟨i1, i2⟩ := stD_lay m stk.reverse fun p hp => hs p (List.mem_reverse.mp hp)
  have i2 : PyData.depthAll (pyL (stD stk)) ≤ 10 := i2
  rw [e]
  simp only [SeqAt.shaped, PyData.canLay0, PyData.depth, i1, Bool.true_and]
  exact dT (by omega)
theorem shL0 {h : DH} : SeqAt.shaped (pyH h (.lv [])) = true := by simp [pyH, py, pyL, SeqAt.shaped, PyData.canLay0, PyData.canLayAll0, PyData.depth, PyData.depthAll]
theorem eqStk {h : DH} {A B : Addr} {y : List D} (ne : A ≠ B) {stk : List (Str × List D)} : PyData.eqv (pyH (HP h A B (stD stk) y) (.ref A)) (pyH (HP h A B (stD stk) y) (.lv [])) = stk.isEmpty := by
  have e : pyH (HP h A B (stD stk) y) (.ref A) = .list (pyL (stD stk)) := by
    show pyO (HP h A B (stD stk) y A) = _
    rw [HP.a ne]; rfl
  rw [e]
  cases stk with
  | nil => simp [pyH, py, pyL, PyData.eqv, PyData.eqvAll]
  | cons p r =>
    rw [stD_cons]
    cases e2 : stD r with
    | nil => simp [pyH, py, pyL, PyData.eqv, PyData.eqvAll]
    | cons a b => simp [pyH, py, pyL, PyData.eqv, PyData.eqvAll]
end LK
set_option Elab.async false
set_option linter.all false
set_option maxRecDepth 100000
set_option maxHeartbeats 4000000
namespace LK
open PySem PySem.Spec PyProof.Rows L2 DL
variable {K : PySem.W.Frag} {mg : Str → Option Value}
abbrev tbOpen (so : SpD) : TSD := rSeq (rAsg (rCall so [] (rCons (rVar 0) (rCons (rVar 2) (rCons (rVar 3) (rCons (rOp dIx (rVar 7) (rC (.int 1))) rNil))))) (dTup 4 (dCons (dName 2) (dCons (dName 3) (dCons (dName 9) (dCons (dName 10) dNil))))))
  (rDrop (rMt "list" dAppend (rVar 4) (rCons (rTup (rCons (rOp dIx (rVar 7) (rC (.int 1))) (rCons (rVar 9) rNil))) rNil)))
abbrev tbClose (sc : SpD) : TSD := rSeq (rAsg (rMt0 "list" dPop (rVar 4)) (dTup 2 (dCons (dName 11) (dCons (dName 9) dNil))))
  (rSeq (rAsg (rCall sc [] (rCons (rVar 0) (rCons (rVar 2) (rCons (rVar 9) (rCons (rVar 11) rNil))))) (dTup 2 (dCons (dName 2) (dCons (dName 10) dNil))))
  (rAsg (rCB dTupOf (rCons (rCB dSort (rCons (rLst (rStar (rVar 3) (rStar (rVar 9) rNil))) rNil)) rNil)) (dName 3)))
abbrev tbTail (K : PySem.W.Frag) : TSD := rIfS (rTest (rOp dEq (rOp dEq (rOp dIx (rVar 7) (rC (.int 0))) (rC (.str "open"))) (rOp dNe (rFld (cs_own_mode K) (rVar 0)) (rC (.str "late"))))) (rDrop (rMt "list" dAppend (rVar 5) (rCons (rVar 10) rNil))) rNext
abbrev tbBody (K : PySem.W.Frag) (scc so sc : SpD) : TSD := rSeq (rAsg (rIf (rTest (rOp dNe (rVar 4) (rLst rNil))) (rOp dIx (rOp dIx (rVar 4) (rNeg (rC (.int 1)))) (rC (.int 0))) (rC .non)) (dName 8))
  (rSeq (rIfS (bNot (rTest (rCall scc [] (rCons (rVar 7) (rCons (rFld (cs_own_mode K) (rVar 0)) (rCons (rVar 8) (rCons (rOp dEq (rVar 6) (rC (.int 0))) rNil))))))) (rRet (rC .non)) rNext)
  (rSeq (rIfS (rTest (rOp dEq (rOp dIx (rVar 7) (rC (.int 0))) (rC (.str "open")))) (tbOpen so) (tbClose sc))
  (tbTail K)))
theorem bl_eqv {h : DH} (a b : Bool) : PyData.eqv (pyH h (.bl a)) (pyH h (.bl b)) = (a == b) := by cases a <;> cases b <;> rfl
theorem shB {h : DH} (a : Bool) : SeqAt.shaped (pyH h (.bl a)) = true := by cases a <;> rfl
theorem size_of {n : Nat} (h : n < 900) : n < sizeLine := lt_size (by omega)
/-- the last line of a turn -/
theorem tb_tail {Dd : EndsD} {R : RF} {r0 : D} {A B : Addr} (ne : A ≠ B) {h : DH} {x y : List D} {s1 s2 s3 s6 s8 s9 s11 : Option D} {z : Str} {xs : List D} {c : D} {isO : Bool} (W : WF R) (hr : readerD K R r0) (hz : sOk z) (ho : PyData.eqv (.str z) (.str "open") = isO) (hy : y.length < 900)
    (q : Dd.nx [some r0, s1, s2, s3, some (.ref A), some (.ref B), s6, some (.tup (.str z :: xs)), s8, s9, some c, s11] (HP h A B x (if (isO == !decide (R.mode = "late")) = true then y ++ [c] else y))) :
    tbTail K Dd [some r0, s1, s2, s3, some (.ref A), some (.ref B), s6, some (.tup (.str z :: xs)), s8, s9, some c, s11] (HP h A B x y) := by
  obtain ⟨os, cs, rfl, rl⟩ := hr
  refine ⟨_, atI_l0, shS hz, shS sOpen, 0, _, by simp [cs_own_mode], rfl, shS W.md.s, shS sLate, shB _, shB _, ?_⟩
  rw [bl_eqv]
  have e1 : (PyData.eqv (pyH (HP h A B x y) (.str z)) (pyH (HP h A B x y) (.str "open")) == !PyData.eqv (pyH (HP h A B x y) (.str R.mode)) (pyH (HP h A B x y) (.str "late"))) = (isO == !decide (R.mode = "late")) := by
    show (PyData.eqv (.str z) (.str "open") == !PyData.eqv (.str R.mode) (.str "late")) = _
    rw [ho, eqS]
  rw [e1]
  refine ⟨fun e => ?_, fun e => ?_⟩
  · rw [if_pos e] at q
    refine ⟨.inl ⟨_, HP.b, rfl⟩, ⟨_, HP.b, size_of hy, ?_⟩⟩
    rw [HP.sb]; exact q
  · rw [if_neg (by rw [e]; exact Bool.false_ne_true)] at q
    exact q
theorem tb_loop {Dd : EndsD} {R : RF} {r0 : D} {A B : Addr} (ne : A ≠ B) {h : DH} {v1 : Option D} (W : WF R) (hr : readerD K R r0) : ∀ (es : List Ev) (k : Nat) (fst : Bool) (t : TS) (fi : List Int) (s6 s7 s8 s9 s10 s11 : Option D),
    k + es.length ≤ 400 → fst = decide (k = 0) → Stands R t fi k → Valid fst (t.stk.map (·.1)) es →
    (∀ t' s2 s3 s6 s7 s8 s9 s10 s11, t' = es.foldl (stepF R) t → Dd.nx [some r0, v1, s2, s3, some (.ref A), some (.ref B), s6, s7, s8, s9, s10, s11] (HP h A B (stD t'.stk) t'.told)) →
    rForL (dTup 2 (dCons (dName 6) (dCons (dName 7) dNil))) (tbBody K (sp_can_come K) (sp_opened K) (sp_closed K)) Dd (fun _ => True) (enumF k (es.map (evD R.mode))) [some r0, v1, some (.int t.st), some (.tup (nums fi)), some (.ref A), some (.ref B), s6, s7, s8, s9, s10, s11] (HP h A B (stD t.stk) t.told) := by
  intro es
  induction es with
  | nil => intro k fst t fi s6 s7 s8 s9 s10 s11 _ _ _ _ q; exact ⟨trivial, q t _ _ _ _ _ _ _ _ rfl⟩
  | cons e es ih =>
    intro k fst t fi s6 s7 s8 s9 s10 s11 hk hf hS hv q
    simp only [List.length_cons] at hk
    obtain ⟨os, cs, er0, rl⟩ := id hr
    have hsk := hS.sk
    have lsl := hS.sl
    have ltl := hS.tl
    have lfl := hS.fl
    have v1' : Valid fst (t.stk.map (·.1)) [e] := by
      cases e with
      | op l => exact ⟨hv.1, hv.2.1, trivial⟩
      | cl l => obtain ⟨r, e, _⟩ := hv; exact ⟨r, e, trivial⟩
    have hgl : ∀ l ∈ t.stk.map (·.1), goodName l := fun l hl => by obtain ⟨p, hp, rfl⟩ := List.mem_map.mp hl; exact (hsk p hp).1
    refine ⟨trivial, ⟨rfl, ?_⟩⟩
    -- the top of the stack
    have after : ∀ top, top = topD (t.stk.map (·.1)) → (rSeq (rIfS (bNot (rTest (rCall (sp_can_come K) [] (rCons (rVar 7) (rCons (rFld (cs_own_mode K) (rVar 0)) (rCons (rVar 8) (rCons (rOp dEq (rVar 6) (rC (.int 0))) rNil))))))) (rRet (rC .non)) rNext)
      (rSeq (rIfS (rTest (rOp dEq (rOp dIx (rVar 7) (rC (.int 0))) (rC (.str "open")))) (tbOpen (sp_opened K)) (tbClose (sp_closed K))) (tbTail K)))
      ⟨rForL (dTup 2 (dCons (dName 6) (dCons (dName 7) dNil))) (tbBody K (sp_can_come K) (sp_opened K) (sp_closed K)) Dd (fun _ => True) (enumF (k + 1) (es.map (evD R.mode))), Dd.rt, Dd.nx, rForL (dTup 2 (dCons (dName 6) (dCons (dName 7) dNil))) (tbBody K (sp_can_come K) (sp_opened K) (sp_closed K)) Dd (fun _ => True) (enumF (k + 1) (es.map (evD R.mode)))⟩
      [some r0, v1, some (.int t.st), some (.tup (nums fi)), some (.ref A), some (.ref B), some (.int k), some (evD R.mode e), some top, s9, s10, s11] (HP h A B (stD t.stk) t.told) := by
      rintro top rfl
      subst er0
      refine ⟨0, _, by simp [cs_own_mode], rfl, shI, shI, ?_⟩
      have ef : PyData.eqv (pyH (HP h A B (stD t.stk) t.told) (.int k)) (pyH (HP h A B (stD t.stk) t.told) (.int 0)) = fst := by
        rw [hf]
        show PyData.eqv (.int k) (.int 0) = _
        by_cases z : k = 0
        · subst z; rfl
        · rw [dF z]; simp [PyData.eqv]; omega
      rw [ef]
      refine ⟨R.mode, e, fst, t.stk.map (·.1), rfl, v1', hgl, W.md, ⟨fun e => (nomatch e), fun _ => ?_⟩⟩
      cases e with
      | op l =>
        obtain ⟨_, gl, hv'⟩ := hv
        obtain ⟨s', ms, c, js, e1, e2, e3, e4, e5⟩ := stands_op W hS gl
        refine ⟨_, atI_l0, shS sOpen, shS sOpen, ⟨fun _ => ?_, fun e => no2 e⟩⟩
        refine ⟨_, atI_l1, R, _, t.st, fi, l, rfl, W, hr, hS.st, gl, by omega, ?_⟩
        rw [e1]
        refine ⟨rfl, ?_⟩
        refine ⟨.inl ⟨_, HP.a ne, rfl⟩, ⟨_, atI_l1, small (by simp), _, HP.a ne, size_of (by simp; omega), ?_⟩⟩
        rw [HP.sa ne]
        refine tb_tail (isO := true) ne W hr sOpen (by rw [eqS]; exact dT rfl) (by omega) ?_
        have q' := ih (k + 1) false (stepF R t (.op l)) js (some (.int k)) (some (evD R.mode (.op l))) (some (topD (t.stk.map (·.1)))) (some (.tup (laidF (nums fi) ms))) (some c) s11 (by omega) (by simp) e5 (by rw [e4]; exact hv') (fun t' s2 s3 s6 s7 s8 s9 s10 s11 et => q t' s2 s3 s6 s7 s8 s9 s10 s11 et)
        rw [e4] at q'
        have eT : (if (true == !decide (R.mode = "late")) = true then t.told ++ [c] else t.told) = if R.mode = "late" then t.told else t.told ++ [c] := by
          by_cases hm : R.mode = "late"
          · rw [if_pos hm, dT hm]; rfl
          · rw [if_neg hm, dF hm]; rfl
        rw [eT, ← stD_cons (l, laidF (nums fi) ms), show (D.tup (leftF (nums fi) (laidF (nums fi) ms))) = .tup (nums js) by rw [e3]]
        exact q'
      | cl l =>
        obtain ⟨rl', er, hv'⟩ := hv
        obtain ⟨p, rest, es2⟩ : ∃ p rest, t.stk = p :: rest := by
          cases hh : t.stk with
          | nil => rw [hh] at er; cases er
          | cons p rest => exact ⟨p, rest, rfl⟩
        obtain ⟨l2, laid⟩ := p
        have el : l2 = l ∧ rest.map (·.1) = rl' := by rw [es2] at er; simpa using er
        obtain ⟨rfl, rfl⟩ := el
        obtain ⟨gl, hms⟩ := hsk (l2, laid) (by rw [es2]; exact List.mem_cons_self)
        obtain ⟨s', c, li, js, e1, e2, e2', e3, e4, e5⟩ := stands_cl W hS es2
        obtain ⟨xs, ex⟩ := evD_0 R.mode l2
        have goal : (rSeq (rIfS (rTest (rOp dEq (rOp dIx (rVar 7) (rC (.int 0))) (rC (.str "open")))) (tbOpen (sp_opened K)) (tbClose (sp_closed K))) (tbTail K))
          ⟨rForL (dTup 2 (dCons (dName 6) (dCons (dName 7) dNil))) (tbBody K (sp_can_come K) (sp_opened K) (sp_closed K)) Dd (fun _ => True) (enumF (k + 1) (es.map (evD R.mode))), Dd.rt, Dd.nx, rForL (dTup 2 (dCons (dName 6) (dCons (dName 7) dNil))) (tbBody K (sp_can_come K) (sp_opened K) (sp_closed K)) Dd (fun _ => True) (enumF (k + 1) (es.map (evD R.mode)))⟩
          [some (.iv (He.ga K "Reader") [.str R.mode, .int R.marks, .tup os, .tup cs]), v1, some (.int t.st), some (.tup (nums fi)), some (.ref A), some (.ref B), some (.int k), some (.tup (.str "close" :: xs)), some (topD (t.stk.map (·.1))), s9, s10, s11] (HP h A B (stD t.stk) t.told) := by
          refine ⟨_, atI_l0, shS sClose, shS sOpen, ⟨fun e => neOC e, fun _ => ?_⟩⟩
          rw [es2, stD_cons]
          refine ⟨.inl ⟨_, HP.a ne, rfl⟩, ⟨_, HP.a ne, _, List.getLast?_concat, ?_⟩⟩
          rw [List.dropLast_concat, HP.sa ne]
          refine ⟨rfl, ?_⟩
          refine ⟨R, _, t.st, laid, l2, rfl, W, hr, hS.st, hms, gl, ?_⟩
          rw [e1]
          refine ⟨rfl, ?_⟩
          subst e2
          have e6 : nums fi ++ (nums li ++ []) = nums (fi ++ li) := by simp [nums]
          obtain ⟨n1, n2, n3⟩ := nums_sort (fi ++ li)
          have go : (nums fi ++ (nums li ++ [])).length ≤ sizeLine ∧ PySem.W.AllAlike ((nums fi ++ (nums li ++ [])).map py) ∧ PySem.W.Sortable ((nums fi ++ (nums li ++ [])).map py) ∧ (nums fi ++ (nums li ++ [])).all (fun d => SeqAt.shaped (py d)) = true ∧
            tbTail K ⟨rForL (dTup 2 (dCons (dName 6) (dCons (dName 7) dNil))) (tbBody K (sp_can_come K) (sp_opened K) (sp_closed K)) Dd (fun _ => True) (enumF (k + 1) (es.map (evD R.mode))), Dd.rt, Dd.nx, rForL (dTup 2 (dCons (dName 6) (dCons (dName 7) dNil))) (tbBody K (sp_can_come K) (sp_opened K) (sp_closed K)) Dd (fun _ => True) (enumF (k + 1) (es.map (evD R.mode)))⟩
              [some (.iv (He.ga K "Reader") [.str R.mode, .int R.marks, .tup os, .tup cs]), v1, some (.int s'), some (.tup (sortD (nums fi ++ (nums li ++ [])))), some (.ref A), some (.ref B), some (.int k), some (.tup (.str "close" :: xs)), some (topD (((l2, nums li) :: rest).map (·.1))), some (.tup (nums li)), some c, some (.str l2)] (HP h A B (stD rest) t.told) := by
            rw [e6]
            refine ⟨small (by simp; omega), n1, n2, n3, ?_⟩
            refine tb_tail (isO := false) ne W hr sClose (by rw [eqS]; exact dF (by decide)) (by omega) ?_
            have q' := ih (k + 1) false (stepF R t (.cl l2)) js (some (.int k)) (some (.tup (.str "close" :: xs))) (some (topD (((l2, nums li) :: rest).map (·.1)))) (some (.tup (nums li))) (some c) (some (.str l2)) (by omega) (by simp) e5 (by rw [e4]; exact hv') (fun t' s2 s3 s6 s7 s8 s9 s10 s11 et => q t' s2 s3 s6 s7 s8 s9 s10 s11 et)
            rw [e4] at q'
            have eT : (if (false == !decide (R.mode = "late")) = true then t.told ++ [c] else t.told) = if R.mode = "late" then t.told ++ [c] else t.told := by
              by_cases hm : R.mode = "late"
              · rw [if_pos hm, dT hm]; rfl
              · rw [if_neg hm, dF hm]; rfl
            rw [eT, e3]
            exact q'
          exact go
        rw [← ex] at goal
        exact goal
    -- where the top comes from
    have sh := shStk (h := h) (y := t.told) ne hsk
    refine ⟨small (by simp), sh, shL0, ?_⟩
    rw [eqStk ne]
    refine ⟨fun e => ?_, fun e => ?_⟩
    · cases hh : t.stk with
      | nil => rw [hh] at e; cases e
      | cons p rest =>
        have a := after _ rfl
        rw [hh] at a
        refine .inl ⟨_, HP.a ne, ?_⟩
        rw [stD_cons]
        refine ⟨_, atI_last, _, atI_l0, ?_⟩
        rw [← stD_cons]
        exact a
    · cases hh : t.stk with
      | nil =>
        have a := after _ rfl
        rw [hh] at a
        exact a
      | cons p rest => rw [hh] at e; cases e
end LK
set_option Elab.async false
set_option linter.all false
set_option maxRecDepth 100000
set_option maxHeartbeats 4000000
namespace LK
open PySem PySem.Spec PyProof.Rows L2 DL
variable {K : PySem.W.Frag} {mg : Str → Option Value}
abbrev tlOpen (so : SpD) : TSD := rSeq (rAsg (rCall so [] (rCons (rVar 0) (rCons (rVar 2) (rCons (rVar 3) (rCons (rOp dIx (rVar 6) (rC (.int 1))) rNil))))) (dTup 3 (dCons (dName 2) (dCons (dName 7) (dCons (dName 8) dNil)))))
  (rSeq (rAsg (rComp (rIter (rVar 3)) (dName 9) (rTest (rOp dNotIn (rVar 9) (rVar 7))) (rVar 9) [9]) (dName 3))
  (rDrop (rMt "list" dAppend (rVar 4) (rCons (rTup (rCons (rOp dIx (rVar 6) (rC (.int 1))) (rCons (rVar 7) rNil))) rNil))))
abbrev tlClose (sc : SpD) : TSD := rSeq (rAsg (rMt0 "list" dPop (rVar 4)) (dTup 2 (dCons (dName 10) (dCons (dName 7) dNil))))
  (rSeq (rAsg (rCall sc [] (rCons (rVar 0) (rCons (rVar 2) (rCons (rVar 7) (rCons (rVar 10) rNil))))) (dTup 2 (dCons (dName 2) (dCons (dName 8) dNil))))
  (rAsg (rCB dSort (rCons (rOp dAdd (rVar 3) (rCB dListOf (rCons (rVar 7) rNil))) rNil)) (dName 3)))
abbrev tlTail : TSD := rIfS (rTest (rOp dEq (rOp dEq (rOp dIx (rVar 6) (rC (.int 0))) (rC (.str "close"))) (rOp dEq (rOp dIx (rVar 0) (rC (.str "mode"))) (rC (.str "late"))))) (rDrop (rMt "list" dAppend (rVar 5) (rCons (rVar 8) rNil))) rNext
abbrev tlBody (so sc : SpD) : TSD := rSeq (rIfS (rTest (rOp dEq (rOp dIx (rVar 6) (rC (.int 0))) (rC (.str "open")))) (tlOpen so) (tlClose sc)) tlTail
theorem tl_tail {Dd : EndsD} {R : RF} {r0 : D} {A B : Addr} (ne : A ≠ B) {h : DH} {x y : List D} {s1 s2 s3 s7 s9 s10 : Option D} {z : Str} {xs : List D} {c : D} {isC : Bool} (W : WF R) (hr : plainD R r0) (hz : sOk z) (ho : PyData.eqv (.str z) (.str "close") = isC) (hy : y.length < 900)
    (q : Dd.nx [some r0, s1, s2, s3, some (.ref A), some (.ref B), some (.tup (.str z :: xs)), s7, some c, s9, s10] (HP h A B x (if (isC == decide (R.mode = "late")) = true then y ++ [c] else y))) :
    tlTail Dd [some r0, s1, s2, s3, some (.ref A), some (.ref B), some (.tup (.str z :: xs)), s7, some c, s9, s10] (HP h A B x y) := by
  obtain ⟨os, cs, rfl, rl⟩ := hr
  refine ⟨_, atI_l0, shS hz, shS sClose, rfl, _, lk0, shS W.md.s, shS sLate, shB _, shB _, ?_⟩
  rw [bl_eqv]
  have e1 : (PyData.eqv (pyH (HP h A B x y) (.str z)) (pyH (HP h A B x y) (.str "close")) == PyData.eqv (pyH (HP h A B x y) (.str R.mode)) (pyH (HP h A B x y) (.str "late"))) = (isC == decide (R.mode = "late")) := by
    show (PyData.eqv (.str z) (.str "close") == PyData.eqv (.str R.mode) (.str "late")) = _
    rw [ho, eqS]
  rw [e1]
  refine ⟨fun e => ?_, fun e => ?_⟩
  · rw [if_pos e] at q
    refine ⟨.inl ⟨_, HP.b, rfl⟩, ⟨_, HP.b, size_of hy, ?_⟩⟩
    rw [HP.sb]; exact q
  · rw [if_neg (by rw [e]; exact Bool.false_ne_true)] at q
    exact q
theorem tl_loop {Dd : EndsD} {R : RF} {r0 : D} {A B : Addr} (ne : A ≠ B) {h : DH} {v1 : Option D} (W : WF R) (hr : plainD R r0) : ∀ (es : List Ev) (k : Nat) (fst : Bool) (t : TS) (fi : List Int) (s6 s7 s8 s9 s10 : Option D),
    k + es.length ≤ 400 → Stands R t fi k → Valid fst (t.stk.map (·.1)) es →
    (∀ t' s2 s3 s6 s7 s8 s9 s10, t' = es.foldl (stepF R) t → Dd.nx [some r0, v1, s2, s3, some (.ref A), some (.ref B), s6, s7, s8, s9, s10] (HP h A B (stD t'.stk) t'.told)) →
    rForL (dName 6) (tlBody (sp__law_open K) (sp__law_shut K)) Dd (fun _ => True) (es.map (evD R.mode)) [some r0, v1, some (.int t.st), some (.lv (nums fi)), some (.ref A), some (.ref B), s6, s7, s8, s9, s10] (HP h A B (stD t.stk) t.told) := by
  intro es
  induction es with
  | nil => intro k fst t fi s6 s7 s8 s9 s10 _ _ _ q; exact ⟨trivial, q t _ _ _ _ _ _ _ rfl⟩
  | cons e es ih =>
    intro k fst t fi s6 s7 s8 s9 s10 hk hS hv q
    simp only [List.length_cons] at hk
    have hsk := hS.sk
    have lsl := hS.sl
    have ltl := hS.tl
    have lfl := hS.fl
    refine ⟨trivial, ?_⟩
    cases e with
    | op l =>
      obtain ⟨_, gl, hv'⟩ := hv
      obtain ⟨s', ms, c, js, e1, e2, e3, e4, e5⟩ := stands_op W hS gl
      obtain ⟨li, e6, l6, _⟩ := id e2
      refine ⟨_, atI_l0, shS sOpen, shS sOpen, ⟨fun _ => ?_, fun e => no2 e⟩⟩
      refine ⟨_, atI_l1, R, _, t.st, fi, l, rfl, W, hr, hS.st, gl, by omega, ?_⟩
      rw [e1]
      refine ⟨rfl, ?_⟩
      refine ⟨small (by simp; omega), fun L hL => ?_⟩
      refine left_comp (by show (laidF (nums fi) ms).all flatD = true; rw [e6]; exact flat_nums li) hL (fun _ _ => trivial) (fun _ => rfl) (fun _ => rfl) ?_
      refine ⟨.inl ⟨_, HP.a ne, rfl⟩, ⟨_, atI_l1, small (by simp), _, HP.a ne, size_of (by simp; omega), ?_⟩⟩
      rw [HP.sa ne]
      refine tl_tail (isC := false) ne W hr sOpen (by rw [eqS]; exact dF (by decide)) (by omega) ?_
      have q' := ih (k + 1) false (stepF R t (.op l)) js (some (evD R.mode (.op l))) (some (.tup (laidF (nums fi) ms))) (some c) s9 s10 (by omega) e5 (by rw [e4]; exact hv') (fun t' s2 s3 s6 s7 s8 s9 s10 et => q t' s2 s3 s6 s7 s8 s9 s10 et)
      rw [e4] at q'
      have eT : (if (false == decide (R.mode = "late")) = true then t.told ++ [c] else t.told) = if R.mode = "late" then t.told else t.told ++ [c] := by
        by_cases hm : R.mode = "late"
        · rw [if_pos hm, dT hm]; rfl
        · rw [if_neg hm, dF hm]; rfl
      rw [eT, ← stD_cons (l, laidF (nums fi) ms)]
      show rForL _ _ _ _ _ [some r0, v1, some (.int s'), some (.lv (leftF (nums fi) (laidF (nums fi) ms))), _, _, _, _, _, _, _] _
      rw [e3]
      exact q'
    | cl l =>
      obtain ⟨rl', er, hv'⟩ := hv
      obtain ⟨p, rest, es2⟩ : ∃ p rest, t.stk = p :: rest := by
        cases hh : t.stk with
        | nil => rw [hh] at er; cases er
        | cons p rest => exact ⟨p, rest, rfl⟩
      obtain ⟨l2, laid⟩ := p
      have el : l2 = l ∧ rest.map (·.1) = rl' := by rw [es2] at er; simpa using er
      obtain ⟨rfl, rfl⟩ := el
      obtain ⟨gl, hms⟩ := hsk (l2, laid) (by rw [es2]; exact List.mem_cons_self)
      obtain ⟨s', c, li, js, e1, e2, e2', e3, e4, e5⟩ := stands_cl W hS es2
      obtain ⟨xs, ex⟩ := evD_0 R.mode l2
      have goal : tlBody (sp__law_open K) (sp__law_shut K)
        ⟨rForL (dName 6) (tlBody (sp__law_open K) (sp__law_shut K)) Dd (fun _ => True) (es.map (evD R.mode)), Dd.rt, Dd.nx, rForL (dName 6) (tlBody (sp__law_open K) (sp__law_shut K)) Dd (fun _ => True) (es.map (evD R.mode))⟩
        [some r0, v1, some (.int t.st), some (.lv (nums fi)), some (.ref A), some (.ref B), some (.tup (.str "close" :: xs)), s7, s8, s9, s10] (HP h A B (stD t.stk) t.told) := by
        refine ⟨_, atI_l0, shS sClose, shS sOpen, ⟨fun e => neOC e, fun _ => ?_⟩⟩
        rw [es2, stD_cons]
        refine ⟨.inl ⟨_, HP.a ne, rfl⟩, ⟨_, HP.a ne, _, List.getLast?_concat, ?_⟩⟩
        rw [List.dropLast_concat, HP.sa ne]
        refine ⟨rfl, ?_⟩
        refine ⟨R, _, t.st, laid, l2, rfl, W, hr, hS.st, hms, gl, ?_⟩
        rw [e1]
        refine ⟨rfl, ?_⟩
        subst e2
        have e6 : nums fi ++ nums li = nums (fi ++ li) := by simp [nums]
        obtain ⟨n1, n2, n3⟩ := nums_sort (fi ++ li)
        have go : (nums fi).length + (nums li).length ≤ sizeLine ∧ PySem.W.AllAlike ((nums fi ++ nums li).map py) ∧ PySem.W.Sortable ((nums fi ++ nums li).map py) ∧ (nums fi ++ nums li).all (fun d => SeqAt.shaped (py d)) = true ∧
          tlTail ⟨rForL (dName 6) (tlBody (sp__law_open K) (sp__law_shut K)) Dd (fun _ => True) (es.map (evD R.mode)), Dd.rt, Dd.nx, rForL (dName 6) (tlBody (sp__law_open K) (sp__law_shut K)) Dd (fun _ => True) (es.map (evD R.mode))⟩
            [some r0, v1, some (.int s'), some (.lv (sortD (nums fi ++ nums li))), some (.ref A), some (.ref B), some (.tup (.str "close" :: xs)), some (.tup (nums li)), some c, s9, some (.str l2)] (HP h A B (stD rest) t.told) := by
          rw [e6]
          refine ⟨small (by simp; omega), n1, n2, n3, ?_⟩
          refine tl_tail (isC := true) ne W hr sClose (by rw [eqS]; exact dT rfl) (by omega) ?_
          have q' := ih (k + 1) false (stepF R t (.cl l2)) js (some (.tup (.str "close" :: xs))) (some (.tup (nums li))) (some c) s9 (some (.str l2)) (by omega) e5 (by rw [e4]; exact hv') (fun t' s2 s3 s6 s7 s8 s9 s10 et => q t' s2 s3 s6 s7 s8 s9 s10 et)
          rw [e4] at q'
          have eT : (if (true == decide (R.mode = "late")) = true then t.told ++ [c] else t.told) = if R.mode = "late" then t.told ++ [c] else t.told := by
            by_cases hm : R.mode = "late"
            · rw [if_pos hm, dT hm]; rfl
            · rw [if_neg hm, dF hm]; rfl
          rw [eT, e3]
          exact q'
        exact go
      rw [← ex] at goal
      exact goal
end LK
set_option Elab.async false
set_option linter.all false
set_option maxRecDepth 100000
set_option maxHeartbeats 4000000
namespace LK
open PySem PySem.Spec PyProof.Rows L2 DL
variable {K : PySem.W.Frag} {mg : Str → Option Value}
/-! ### dice -/
theorem toN {x : Int} (h : 0 ≤ x) : x = ((x.toNat : Nat) : Int) := by omega
theorem len__law_roll (ds : List D) (h : DH) (Qd : D → DH → Prop) (q : sp__law_roll K ds h Qd) : ds.length = 2 := by
  unfold sp__law_roll at q
  repeat (first | (obtain ⟨e, _⟩ := q; subst e; rfl) | obtain ⟨_, q⟩ := q)
theorem read__law_roll (M : Md K mg) (ds : List D) (h : DH) (Qd : D → DH → Prop) (q : sp__law_roll K ds h Qd) : t__law_roll K ⟨fun _ h' => Qd .non h', Qd, fun _ _ => False, fun _ _ => False⟩ (st0 N__law_roll.length ds) h := by
  obtain ⟨p, k, n, d, rfl, hp, ⟨a, b, c, rfl, c0, c1⟩, hn, k0, k1, q⟩ := q
  have k1 : k < 1000000000 := k1
  have hn : n ≤ 1000000000 := hn
  have q' : ∀ (x : Int) d', 0 ≤ x → x < k → DiceL (n + 1) d' → Qd (.int x) (up h p (.lst d')) := fun x d' h1 h2 h3 => by rw [toN h1]; exact q _ d' (by omega) h3
  refine .inl ⟨_, hp, _, atI_l0, fun e => ?_, fun e => ?_⟩
  · have ha : 0 < a := of_decide_eq_true e
    refine .inl ⟨_, hp, _, atI_l0, k0, .inl ⟨_, hp, _, atI_l0, ⟨k0, ?_⟩, .inl ⟨_, _, _, hp, rfl, ixN_nat (i := 0) (by simp), ?_⟩⟩⟩
    · exact Nat.lt_trans (log2_lt (k := 40) (by omega) (by omega) (by decide)) (by decide)
    · exact q' _ _ (Int.emod_nonneg _ (by omega)) (Int.emod_lt_of_pos _ k0) ⟨_, _, _, rfl, c0, by omega⟩
  · refine .inl ⟨_, hp, _, atI_l2, .inl ⟨_, _, _, hp, rfl, ixN_nat (i := 2) (by simp), ?_⟩⟩
    refine .inl ⟨_, up_same, _, atI_l1, .inl ⟨_, up_same, _, atI_l2, ?_, ?_⟩⟩
    · exact mulW (log2_lt (k := 40) (by omega) (by decide) (by decide)) (log2_lt (k := 40) (by omega) (by omega) (by decide)) (by decide)
    refine ⟨show (0 : Int) < 2305843009213693951 by decide, ?_⟩
    have o0 : 0 ≤ (b + 1000117 * (c + 1)) % 2305843009213693951 := by omega
    have o1 : (b + 1000117 * (c + 1)) % 2305843009213693951 < 2305843009213693951 := by omega
    have lo := log2_lt (k := 64) o0 (by omega) (by decide)
    refine ⟨mulW lo lo (by decide), show (0 : Int) < 2305843009213693921 by decide, mulW (log2_lt (k := 64) (Int.emod_nonneg _ (by decide)) (Int.lt_trans (Int.emod_lt_of_pos _ (by decide)) (by decide)) (by decide)) lo (by decide), ?_⟩
    refine .inl ⟨_, up_same, _, atI_l2, mulW (log2_lt (k := 40) (by decide) (by decide) (by decide)) (log2_lt (k := 40) (by omega) (by omega) (by decide)) (by decide), show (0 : Int) < 2305843009213693907 by decide, ⟨show (0 : Int) < 4096 by decide, by decide +kernel⟩, k0, ?_⟩
    exact q' _ _ (Int.emod_nonneg _ (by omega)) (Int.emod_lt_of_pos _ k0) ⟨a, b, c + 1, rfl, by omega, by omega⟩
theorem len__law_one_of (ds : List D) (h : DH) (Qd : D → DH → Prop) (q : sp__law_one_of K ds h Qd) : ds.length = 2 := by
  unfold sp__law_one_of at q
  repeat (first | (obtain ⟨e, _⟩ := q; subst e; rfl) | obtain ⟨_, q⟩ := q)
theorem read__law_one_of (M : Md K mg) (ds : List D) (h : DH) (Qd : D → DH → Prop) (q : sp__law_one_of K ds h Qd) : t__law_one_of K (sp__law_roll K) ⟨fun _ h' => Qd .non h', Qd, fun _ _ => False, fun _ _ => False⟩ (st0 N__law_one_of.length ds) h := by
  obtain ⟨p, xs, n, d, rfl, hp, hd, hn, hx, hl, q⟩ := q
  have l0 : 0 < xs.length := List.length_pos_iff.mpr hx
  refine ⟨p, xs.length, n, d, rfl, hp, hd, hn, by omega, by show (xs.length : Int) < (1000000000 : Nat); omega, fun r d' hr hd' => ?_⟩
  have hr' : r < xs.length := by omega
  exact ⟨_, atI_at (List.getElem?_eq_getElem hr'), q _ d' (List.getElem_mem hr') hd'⟩
theorem len__law_some_mode (ds : List D) (h : DH) (Qd : D → DH → Prop) (q : sp__law_some_mode K ds h Qd) : ds.length = 1 := by
  unfold sp__law_some_mode at q
  repeat (first | (obtain ⟨e, _⟩ := q; subst e; rfl) | obtain ⟨_, q⟩ := q)
theorem read__law_some_mode (M : Md K mg) (ds : List D) (h : DH) (Qd : D → DH → Prop) (q : sp__law_some_mode K ds h Qd) : t__law_some_mode K (sp__law_one_of K) ⟨fun _ h' => Qd .non h', Qd, fun _ _ => False, fun _ _ => False⟩ (st0 N__law_some_mode.length ds) h := by
  obtain ⟨p, n, d, rfl, hp, hd, hn, q⟩ := q
  refine ⟨small (by simp), p, _, n, d, rfl, hp, hd, hn, by simp, by simp, fun x d' hx hd' => ?_⟩
  rcases List.mem_cons.mp hx with rfl | hx
  · exact q _ d' (.inr (.inr rfl)) hd'
  rcases List.mem_cons.mp hx with rfl | hx
  · exact q _ d' (.inl rfl) hd'
  rcases List.mem_cons.mp hx with rfl | hx
  · exact q _ d' (.inr (.inl rfl)) hd'
  · cases hx
theorem pow_ten : (0 : Int) < ((10 : Int) ^ (60 : Int).toNat) ^ (10 : Int).toNat := Int.pow_pos (Int.pow_pos (by decide))
theorem atI_in {is : List Int} {i : Nat} (h : i < is.length) : ∃ x, L2.atI (nums is) (i : Int) = some (.int x) := by
  refine ⟨is[i], atI_at ?_⟩
  rw [List.getElem?_map, List.getElem?_eq_getElem h]; rfl
theorem len__law_dice (ds : List D) (h : DH) (Qd : D → DH → Prop) (q : sp__law_dice K ds h Qd) : ds.length = 2 := by
  unfold sp__law_dice at q
  repeat (first | (obtain ⟨e, _⟩ := q; subst e; rfl) | obtain ⟨_, q⟩ := q)
theorem read__law_dice (M : Md K mg) (ds : List D) (h : DH) (Qd : D → DH → Prop) (q : sp__law_dice K ds h Qd) : t__law_dice K ⟨fun _ h' => Qd .non h', Qd, fun _ _ => False, fun _ _ => False⟩ (st0 N__law_dice.length ds) h := by
  obtain ⟨s, at', is, rfl, hs, hl, a0, a1, q⟩ := q
  have fin : ∀ cell : Int, rSeq (rAsg (rOp dMod (rCB dInt (rCons (rCB dAbs (rCons (rVar 2) rNil)) rNil)) (rOp dPow (rOp dPow (rC (.int 10)) (rC (.int 60))) (rC (.int 10)))) (dName 3))
    (rSeq (rAsg (rOp dFdiv (rVar 3) (rOp dPow (rC (.int 10)) (rC (.int 18)))) (dName 4))
    (rSeq (rAsg (rOp dAdd (rOp dAdd (rOp dAdd (rOp dMul (rOp dMod (rVar 3) (rC (.int 2147483409))) (rC (.int 50053))) (rOp dMul (rC (.int 2801)) (rVar 1))) (rOp dMul (rC (.int 41)) (rCB dInt (rCons (rOp dLt (rVar 2) (rC (.int 0))) rNil)))) (rC (.int 67))) (dName 5))
    (rRet (rLstR (rCons (rVar 4) (rCons (rOp dMod (rVar 5) (rC (.int 2147483399))) (rCons (rC (.int 0)) rNil))))))) ⟨fun _ h' => Qd .non h', Qd, fun _ _ => False, fun _ _ => False⟩ [some (.ref s), some (.int at'), some (.int cell), none, none, none] h := by
    intro cell
    refine ⟨⟨by decide, by decide +kernel⟩, ⟨by decide, by decide +kernel⟩, pow_ten, ?_⟩
    refine ⟨⟨by decide, by decide +kernel⟩, ⟨by decide, by decide +kernel⟩, ?_⟩
    refine ⟨show (0 : Int) < 2147483409 by decide, mulW (a := 100) (b := 100) (log2_lt (k := 100) (Int.emod_nonneg _ (by decide)) (Int.lt_trans (Int.emod_lt_of_pos _ (by decide)) (by decide)) (by decide)) (by decide +kernel) (by decide), ?_⟩
    refine ⟨mulW (a := 100) (b := 100) (by decide +kernel) (log2_lt (k := 100) a0 (Int.lt_trans a1 (by decide)) (by decide)) (by decide), ?_⟩
    refine ⟨mulW (a := 100) (b := 100) (by decide +kernel) (by split <;> decide +kernel) (by decide), ?_⟩
    refine ⟨show (0 : Int) < 2147483399 by decide, small (by simp), fun p hp => q p _ hp ⟨_, _, 0, rfl, by decide, by decide⟩⟩
  refine ⟨mulW (a := 100) (b := 100) (by decide +kernel) (log2_lt (k := 100) a0 (Int.lt_trans a1 (by decide)) (by decide)) (by decide), ?_⟩
  refine .inr ⟨_, hs, ⟨fun e => ?_, fun e => fin _⟩⟩
  have lt : at' < ((nums is).length : Int) := of_decide_eq_true e
  have l2 : (nums is).length = is.length := List.length_map _
  obtain ⟨x, ex⟩ := atI_in (is := is) (i := at'.toNat) (by omega)
  rw [← toN a0] at ex
  exact .inr (.inl ⟨_, hs, _, ex, fin x⟩)
end LK
set_option Elab.async false
set_option linter.all false
set_option maxRecDepth 100000
set_option maxHeartbeats 4000000
namespace LK
open PySem PySem.Spec PyProof.Rows L2 DL
variable {K : PySem.W.Frag} {mg : Str → Option Value}
theorem txs_lay : ∀ zs : List Str, (∀ z ∈ zs, goodName z) → PyData.canLayAll0 (pyL (txs zs)) = true ∧ PyData.depthAll (pyL (txs zs)) ≤ 10
  | [], _ => by simp [pyL, PyData.canLayAll0, PyData.depthAll]
  | z :: zs, h => by
    obtain ⟨i1, i2⟩ := txs_lay zs fun p hp => h p (List.mem_cons_of_mem _ hp)
    have s1 : PyData.strOk z = true := (h z List.mem_cons_self).s
    have i2 : PyData.depthAll (pyL (zs.map D.str)) ≤ 10 := i2
    simp only [List.map_cons, pyL, py, PyData.canLayAll0, PyData.canLay0, PyData.depthAll, PyData.depth, i1, s1]
    refine ⟨rfl, ?_⟩
    omega
theorem pyHP {h : DH} {A B : Addr} {x y : List D} (ne : A ≠ B) : pyH (HP h A B x y) (.ref A) = .list (pyL x) := by
  show pyO (HP h A B x y A) = _
  rw [HP.a ne]; rfl
theorem shTxs {h : DH} {A B : Addr} {y : List D} (ne : A ≠ B) {zs : List Str} (hz : ∀ z ∈ zs, goodName z) : SeqAt.shaped (pyH (HP h A B (txs zs) y) (.ref A)) = true := by
  obtain ⟨i1, i2⟩ := txs_lay zs hz
  rw [pyHP ne]
  simp only [SeqAt.shaped, PyData.canLay0, PyData.depth, i1, Bool.true_and]
  exact dT (by omega)
theorem eqL {h : DH} {A B : Addr} {x y : List D} (ne : A ≠ B) : PyData.eqv (pyH (HP h A B x y) (.ref A)) (pyH (HP h A B x y) (.lv [])) = x.isEmpty := by
  rw [pyHP ne]
  cases x <;> simp [pyH, py, pyL, PyData.eqv, PyData.eqvAll]
theorem HP.out {h : DH} {A B p : Addr} {x y : List D} {o : DO} (hA : p ≠ A) (hB : p ≠ B) : up (HP h A B x y) p o = HP (up h p o) A B x y := by
  show up (up (up h A _) B _) p o = up (up (up h p o) A _) B _
  rw [up_comm hB.symm, up_comm hA.symm]
theorem HP.at {h : DH} {A B p : Addr} {x y : List D} (hA : p ≠ A) (hB : p ≠ B) : HP h A B x y p = h p := by
  show up (up h A _) B _ p = _
  rw [up_ne hB, up_ne hA]
theorem erase_map {α β : Type} (f : α → β) : ∀ (l : List α) (i : Nat), (l.map f).eraseIdx i = (l.eraseIdx i).map f
  | [], _ => rfl
  | _ :: _, 0 => rfl
  | a :: l, i + 1 => congrArg (f a :: ·) (erase_map f l i)
theorem erase_perm {α : Type} : ∀ (l : List α) (i : Nat) (h : i < l.length), (l[i] :: l.eraseIdx i).Perm l
  | a :: l, 0, _ => List.Perm.refl _
  | a :: l, i + 1, h => by
    have hi : i < l.length := by simpa using h
    have ih := erase_perm l i hi
    exact (List.Perm.swap a l[i] (l.eraseIdx i)).trans (ih.cons a)
theorem seqI {n i : Nat} (h : i < n) : seqIndex? (i : Int) n = some i := by
  have e : ¬ ((i : Int) < 0) := by omega
  simp only [seqIndex?, e, if_false]
  rw [if_pos (by simp; omega)]
  simp
abbrev mxC : TTD := rTest (rOp dNe (rVar 2) (rLst rNil))
abbrev mxB (sp : SpD) : TSD := rDrop (rMt "list" dAppend (rVar 3) (rCons (rMt "list" dPop (rVar 2) (rCons (rCall sp [] (rCons (rVar 0) (rCons (rCB dLen (rCons (rVar 2) rNil)) rNil))) rNil)) rNil))
theorem mixed_loop {Dd : EndsD} {p A B : Addr} (ne : A ≠ B) (hA : p ≠ A) (hB : p ≠ B) {v : Option D} : ∀ (j n : Nat) (h : DH) (d : List D) (left found : List Str), left.length = j → h p = some (.lst d) → DiceL n d → n + j ≤ DN → (∀ z ∈ left, goodName z) → left.length + found.length < 1000 →
    (∀ h' d' found', h' = up h p (.lst d') → DiceL (n + j) d' → found'.Perm (found ++ left) → Dd.nx [some (.ref p), v, some (.ref A), some (.ref B)] (HP h' A B [] (txs found'))) →
    rWhileN mxC (mxB (sp__law_roll K)) Dd (j + 1) [some (.ref p), v, some (.ref A), some (.ref B)] (HP h A B (txs left) (txs found)) := by
  intro j
  induction j with
  | zero =>
    intro n h d left found hl hp hd hn hg ht q
    have : left = [] := List.length_eq_zero_iff.mp hl
    subst this
    refine ⟨small (by simp), shTxs ne hg, shL0, ?_⟩
    rw [eqL ne]
    refine ⟨fun e => (nomatch e), fun _ => ?_⟩
    have := q h d found (up_self hp).symm hd (by simp)
    exact this
  | succ j ih =>
    intro n h d left found hl hp hd hn hg ht q
    refine ⟨small (by simp), shTxs ne hg, shL0, ?_⟩
    rw [eqL ne]
    have nl : txs left ≠ [] := fun e => by have := congrArg List.length e; simp at this; rw [this] at hl; simp at hl
    have hne : (txs left).isEmpty = false := by
      cases hh : txs left with
      | nil => exact absurd hh nl
      | cons a b => rfl
    rw [hne]
    refine ⟨fun _ => ?_, fun e => (nomatch e)⟩
    have lt : (txs left).length = left.length := List.length_map _
    refine ⟨.inl ⟨_, HP.b, rfl⟩, ⟨.inl ⟨_, HP.a ne, rfl⟩, .inl ⟨_, HP.a ne, ?_⟩⟩⟩
    refine ⟨p, (txs left).length, n, d, rfl, by rw [HP.at hA hB]; exact hp, hd, by omega, by omega, by show ((txs left).length : Int) < (1000000000 : Nat); omega, fun r d' hr hd' => ?_⟩
    have hr' : r < left.length := by omega
    rw [HP.out hA hB]
    have r3 : (r : Int) < 2 ^ 63 := Int.lt_trans (show (r : Int) < 1000 by omega) (by decide)
    refine ⟨_, HP.a ne, by omega, r3, r, .str left[r], ?_, ?_, ?_⟩
    · exact seqI (by omega)
    · rw [List.getElem?_map, List.getElem?_eq_getElem hr']; rfl
    refine ⟨_, (by rw [HP.sa ne]; exact HP.b), lt_size (by simp; omega), ?_⟩
    rw [HP.sa ne, HP.sb]
    have e1 : (txs left).eraseIdx r = txs (left.eraseIdx r) := erase_map _ _ _
    have e2 : txs found ++ [.str left[r]] = txs (found ++ [left[r]]) := by simp
    rw [e1, e2]
    have l2 : (left.eraseIdx r).length = j := by rw [List.length_eraseIdx, if_pos hr']; omega
    refine ih (n + 1) (up h p (.lst d')) d' _ _ l2 up_same hd' (by omega) (fun z hz => hg z (List.mem_of_mem_eraseIdx hz)) (by rw [l2]; simp; omega) fun h' d2 found' eh hd2 pm => ?_
    refine q h' d2 found' (by rw [eh, up_up]) (by rw [show n + (j + 1) = n + 1 + j by omega]; exact hd2) (pm.trans ?_)
    rw [List.append_assoc]
    refine List.Perm.append_left _ ?_
    exact erase_perm left r hr'
theorem len__law_mixed (ds : List D) (h : DH) (Qd : D → DH → Prop) (q : sp__law_mixed K ds h Qd) : ds.length = 2 := by
  unfold sp__law_mixed at q
  repeat (first | (obtain ⟨e, _⟩ := q; subst e; rfl) | obtain ⟨_, q⟩ := q)
theorem read__law_mixed (M : Md K mg) (ds : List D) (h : DH) (Qd : D → DH → Prop) (q : sp__law_mixed K ds h Qd) : t__law_mixed K (sp__law_roll K) ⟨fun _ h' => fo Qd .non h', fo Qd, fun _ _ => False, fun _ _ => False⟩ (st0 N__law_mixed.length ds) h := by
  obtain ⟨p, zs, n, d, rfl, hp, hd, hn, hl, hg, q⟩ := q
  intro A hA
  refine ⟨small (by simp), fun B hB => ?_⟩
  have ne := ne_of hB
  have pA : p ≠ A := fun e => by rw [e, hA] at hp; cases hp
  have hB' : h B = none := by rw [up_ne ne.symm] at hB; exact hB
  have pB : p ≠ B := fun e => by rw [e, hB'] at hp; cases hp
  refine ⟨zs.length + 1, ?_⟩
  refine mixed_loop (K := K) ne pA pB zs.length n h d zs [] rfl hp hd hn hg (by simpa using hl) fun h' d' found' eh hd' pm => ?_
  subst eh
  refine .inl ⟨_, HP.b, up h p (.lst d'), ?_, q found' d' (by simpa using pm) hd'⟩
  show Less _ (del (up (up (up h p _) A _) B _) B)
  rw [del_up (by rw [up_ne ne.symm, up_ne pB.symm]; exact hB')]
  exact Less.up (by rw [up_ne pA.symm]; exact hA)
theorem sort_txs (zs : List Str) : ∃ ys : List Str, sortD (txs zs) = txs ys ∧ ys.Perm zs := by
  have p := sortD_perm (txs zs)
  obtain ⟨ys, e⟩ : ∃ ys : List Str, sortD (txs zs) = txs ys := by
    have key : ∀ ds : List D, (∀ d ∈ ds, ∃ z : Str, d = .str z) → ∃ js : List Str, ds = txs js := by
      intro ds
      induction ds with
      | nil => intro _; exact ⟨[], rfl⟩
      | cons d ds ih =>
        intro h
        obtain ⟨i, rfl⟩ := h d List.mem_cons_self
        obtain ⟨js, rfl⟩ := ih (fun d hd => h d (List.mem_cons_of_mem _ hd))
        exact ⟨i :: js, rfl⟩
    exact key _ fun d hd => by obtain ⟨i, _, rfl⟩ := List.mem_map.mp (p.mem_iff.mp hd); exact ⟨i, rfl⟩
  refine ⟨ys, e, ?_⟩
  rw [e] at p
  have f : ∀ l : List Str, l = (txs l).filterMap fun d => match d with | .str z => some z | _ => none := by
    intro l
    induction l with
    | nil => rfl
    | cons a l ih => simp [txs] at ih ⊢; exact ih
  rw [f ys, f zs]
  exact p.filterMap _
abbrev sixL : List Str := ["a", "b", "c", "node", "x", "zz"]
theorem six_good : ∀ z ∈ sixL, goodName z := by
  intro z hz
  unfold goodName
  simp only [List.mem_cons, List.not_mem_nil, or_false] at hz
  rcases hz with rfl | rfl | rfl | rfl | rfl | rfl <;> decide +kernel
theorem six_nodup : sixL.Nodup := by decide +kernel
theorem len__law_labels (ds : List D) (h : DH) (Qd : D → DH → Prop) (q : sp__law_labels K ds h Qd) : ds.length = 2 := by
  unfold sp__law_labels at q
  repeat (first | (obtain ⟨e, _⟩ := q; subst e; rfl) | obtain ⟨_, q⟩ := q)
theorem read__law_labels (M : Md K mg) (ds : List D) (h : DH) (Qd : D → DH → Prop) (q : sp__law_labels K ds h Qd) : t__law_labels K (sp__law_mixed K) ⟨fun _ h' => Qd .non h', Qd, fun _ _ => False, fun _ _ => False⟩ (st0 N__law_labels.length ds) h := by
  obtain ⟨p, t, n, d, rfl, hp, hd, hn, ht, q⟩ := q
  refine ⟨small (by simp), p, sixL, n, d, rfl, hp, hd, hn, by simp, six_good, fun ys d' pm hd' => ?_⟩
  have ly : ys.length = 6 := pm.length_eq
  have e0 : DL.cutD (txs ys) none (some (t : Int)) = txs (ys.take t) := by
    rw [cutD_to _ _ (Int.lt_trans (show (t : Int) < 1000 by omega) (by decide))]
    simp [txs, List.map_take]
  have g : ∀ y ∈ ys.take t, goodName y := fun y hy => six_good y (pm.mem_iff.mp (List.mem_of_mem_take hy))
  obtain ⟨s1, s2, s3⟩ := kdO.sort (ks := txs (ys.take t)) fun k hk => by obtain ⟨z, hz, rfl⟩ := List.mem_map.mp hk; exact ⟨z, rfl, g z hz⟩
  obtain ⟨zs, e2, pz⟩ := sort_txs (ys.take t)
  have fin : PySem.W.AllAlike ((DL.cutD (txs ys) none (some (t : Int))).map py) ∧ PySem.W.Sortable ((DL.cutD (txs ys) none (some (t : Int))).map py) ∧ (DL.cutD (txs ys) none (some (t : Int))).all (fun d => SeqAt.shaped (py d)) = true ∧ Qd (.lv (sortD (DL.cutD (txs ys) none (some (t : Int))))) (up h p (.lst d')) := by
    rw [e0]
    refine ⟨s1, s2, s3, ?_⟩
    rw [e2]
    refine q zs d' (by rw [pz.length_eq, List.length_take]; omega) ?_ (fun y hy => g y (pz.mem_iff.mp hy)) hd'
    exact pz.nodup_iff.mpr ((pm.nodup_iff.mpr six_nodup).sublist (List.take_sublist _ _))
  exact fin
end LK
set_option Elab.async false
set_option linter.all false
set_option maxRecDepth 100000
set_option maxHeartbeats 4000000
namespace LK
open PySem PySem.Spec PyProof.Rows L2 DL
variable {K : PySem.W.Frag} {mg : Str → Option Value}
/-! ### documents drawn -/
def lastDp : Nat → List (Str × Nat) → Nat
  | p, [] => p
  | _, n :: r => lastDp n.2 r
theorem deps_snoc {l : Str} {d : Nat} (hl : goodName l) (h2 : 2 ≤ d) : ∀ (r : List (Str × Nat)) (p : Nat), Deps p r → d ≤ lastDp p r + 1 → Deps p (r ++ [(l, d)])
  | [], p, _, h3 => ⟨hl, h2, h3, trivial⟩
  | (l', d') :: r, p, ⟨a, b, c, e⟩, h3 => ⟨a, b, c, deps_snoc hl h2 r d' e h3⟩
theorem last_split : ∀ (r : List (Str × Nat)) (l : Str) (p : Nat), ∃ xs l', (l, p) :: r = xs ++ [(l', lastDp p r)]
  | [], l, p => ⟨[], l, rfl⟩
  | (l2, d) :: r, l, p => by
    obtain ⟨xs, l', e⟩ := last_split r l2 d
    exact ⟨(l, p) :: xs, l', congrArg ((l, p) :: ·) e⟩
theorem last_le : ∀ (r : List (Str × Nat)) (p : Nat), 1 ≤ p → Deps p r → 1 ≤ lastDp p r ∧ lastDp p r ≤ p + r.length
  | [], p, h, _ => ⟨h, Nat.le_refl _⟩
  | (l, d) :: r, p, h, ⟨_, b, c, e⟩ => by
    obtain ⟨x, y⟩ := last_le r d (by omega) e
    exact ⟨x, by show lastDp d r ≤ p + (r.length + 1); omega⟩
abbrev dcC (sr : SpD) : TTD := bAnd (rTest (rOp dGt (rVar 5) (rC (.int 2)))) (rTest (rOp dEq (rCall sr [] (rCons (rVar 0) (rCons (rC (.int 3)) rNil))) (rC (.int 0))))
abbrev dcW : TSD := rAsg (rOp dSub (rVar 5) (rC (.int 1))) (dName 5)
abbrev dcB (so sr : SpD) : TSD := rSeq (rAsg (rOp dAdd (rOp dIx (rOp dIx (rVar 3) (rNeg (rC (.int 1)))) (rC (.int 1))) (rC (.int 1))) (dName 5))
  (rSeq (rWhile (dcC sr) dcW)
  (rDrop (rMt "list" dAppend (rVar 3) (rCons (rTup (rCons (rCall so [] (rCons (rVar 0) (rCons (rVar 1) rNil))) (rCons (rVar 5) rNil))) rNil))))
theorem doc_while {Dd : EndsD} {p : Addr} {s1 s2 s3 s4 : Option D} : ∀ (j n : Nat) (h : DH) (d : List D), h p = some (.lst d) → DiceL n d → n + j ≤ DN →
    (∀ (m : Nat) h' d', m ≤ j → h' = up h p (.lst d') → DiceL (n + j) d' → Dd.nx [some (.ref p), s1, s2, s3, s4, some (.int ((m + 2 : Nat) : Int))] h') →
    rWhileN (dcC (sp__law_roll K)) dcW Dd (j + 1) [some (.ref p), s1, s2, s3, s4, some (.int ((j + 2 : Nat) : Int))] h := by
  intro j
  induction j with
  | zero =>
    intro n h d hp hd hn q
    refine ⟨fun e => ?_, fun _ => ⟨fun e => (nomatch e), fun _ => q 0 h d (Nat.le_refl _) (up_self hp).symm hd⟩⟩
    have := of_decide_eq_true e
    omega
  | succ j ih =>
    intro n h d hp hd hn q
    refine ⟨fun _ => ?_, fun e => no_tf (dT (show (2 : Int) < ((j + 1 + 2 : Nat) : Int) by omega)) e⟩
    refine ⟨p, 3, n, d, rfl, hp, hd, by omega, by decide, by show (3 : Int) < (1000000000 : Nat); decide, fun r d' hr hd' => ?_⟩
    refine ⟨shI, shI, ⟨fun _ => ?_, fun _ => q (j + 1) _ d' (Nat.le_refl _) rfl (hd'.mono (by omega))⟩⟩
    refine ⟨trivial, ?_⟩
    have e : ((j + 1 + 2 : Nat) : Int) - 1 = ((j + 2 : Nat) : Int) := by omega
    show rWhileN _ _ _ _ [some (.ref p), s1, s2, s3, s4, some (.int (((j + 1 + 2 : Nat) : Int) - 1))] _
    rw [e]
    exact ih (n + 1) _ d' up_same hd' (by omega) fun m h' d2 hm eh hd2 => q m h' d2 (by omega) (by rw [eh, up_up]) (hd2.mono (by omega))
theorem doc_loop {Dd : EndsD} {p A : Addr} (ne : p ≠ A) {zs : List Str} (z0 : zs ≠ []) (z1 : zs.length < 1000) (hz : ∀ z ∈ zs, goodName z) {l0 : Str} {s2 : Option D} : ∀ (its : List D) (n : Nat) (h : DH) (d : List D) (r : List (Str × Nat)) (s4 s5 : Option D),
    h p = some (.lst d) → DiceL n d → n + 45 * its.length ≤ DN → Deps 1 r → r.length + its.length ≤ 39 →
    (∀ h' d' r' s4 s5, h' = up h p (.lst d') → DiceL (n + 45 * its.length) d' → Deps 1 r' → r'.length ≤ 39 → Dd.nx [some (.ref p), some (.lv (txs zs)), s2, some (.ref A), s4, s5] (up h' A (.lst (((l0, 1) :: r').map nodeD)))) →
    rForL (dName 4) (dcB (sp__law_one_of K) (sp__law_roll K)) Dd (fun _ => True) its [some (.ref p), some (.lv (txs zs)), s2, some (.ref A), s4, s5] (up h A (.lst (((l0, 1) :: r).map nodeD))) := by
  intro its
  induction its with
  | nil => intro n h d r s4 s5 hp hd hn hr hl q; exact ⟨trivial, q h d r s4 s5 (up_self hp).symm (by simpa using hd) hr (by simpa using hl)⟩
  | cons it its ih =>
    intro n h d r s4 s5 hp hd hn hr hl q
    simp only [List.length_cons] at hn hl q
    obtain ⟨xs, l', es⟩ := last_split r l0 1
    obtain ⟨b1, b2⟩ := last_le r 1 (Nat.le_refl _) hr
    have ex : ((l0, 1) :: r).map nodeD = xs.map nodeD ++ [nodeD (l', lastDp 1 r)] := by rw [es]; simp
    refine ⟨trivial, .inl ⟨_, up_same, ?_⟩⟩
    rw [ex]
    refine ⟨_, atI_last, _, atI_l1, ?_⟩
    refine ⟨lastDp 1 r - 1 + 1, ?_⟩
    have ed : ((lastDp 1 r : Nat) : Int) + 1 = ((lastDp 1 r - 1 + 2 : Nat) : Int) := by omega
    show rWhileN _ _ _ _ [some (.ref p), some (.lv (txs zs)), s2, some (.ref A), some it, some (.int (((lastDp 1 r : Nat) : Int) + 1))] _
    rw [ed, ← ex]
    refine doc_while (K := K) (lastDp 1 r - 1) n _ d (by rw [up_ne ne]; exact hp) hd (by omega) fun m h' d' hm eh hd' => ?_
    subst eh
    rw [up_comm ne.symm]
    refine ⟨.inl ⟨_, up_same, rfl⟩, ?_⟩
    refine ⟨p, txs zs, _, d', rfl, (by rw [up_ne ne]; exact up_same), hd', by omega, by simpa [txs] using z0, by simpa [txs] using z1, fun x d2 hx hd2 => ?_⟩
    obtain ⟨l, hl2, rfl⟩ := List.mem_map.mp hx
    refine ⟨small (by simp), ?_⟩
    rw [up_comm ne.symm, up_up]
    refine ⟨_, up_same, lt_size (by simp; omega), ?_⟩
    rw [up_up]
    have e3 : ((l0, 1) :: r).map nodeD ++ [.tup [.str l, .int ((m + 2 : Nat) : Int)]] = ((l0, 1) :: (r ++ [(l, m + 2)])).map nodeD := by simp [nodeD]
    rw [e3]
    refine ih (n + 45) (up h p (.lst d2)) d2 (r ++ [(l, m + 2)]) _ _ up_same (hd2.mono (by omega)) (by omega) (deps_snoc (hz l hl2) (by omega) r 1 hr (by omega)) (by simp; omega) fun h' d3 r' s4 s5 eh hd3 hr' hl' => ?_
    exact q h' d3 r' s4 s5 (by rw [eh, up_up]) (by rw [show n + 45 * (its.length + 1) = n + 45 + 45 * its.length by omega]; exact hd3) hr' hl'
end LK
set_option Elab.async false
set_option linter.all false
set_option maxRecDepth 100000
set_option maxHeartbeats 4000000
namespace LK
open PySem PySem.Spec PyProof.Rows L2 DL
variable {K : PySem.W.Frag} {mg : Str → Option Value}
/-! ### rows that are filled -/
structure DI (kp rp : D → Prop) (c : Nat) (ks vs : List D) : Prop where
  l : ks.length = vs.length
  k : ∀ k ∈ ks, kp k
  nd : (ks.map nk).Nodup
  v : ∀ v ∈ vs, rp v
  c : ks.length ≤ c
theorem DI.nil {kp rp : D → Prop} : DI kp rp 0 [] [] := ⟨rfl, fun _ h => (nomatch h), by simp, fun _ h => (nomatch h), Nat.le_refl _⟩
theorem DI.mono {kp rp : D → Prop} {c c' : Nat} {ks vs : List D} (d : DI kp rp c ks vs) (h : c ≤ c') : DI kp rp c' ks vs := ⟨d.l, d.k, d.nd, d.v, Nat.le_trans d.c h⟩
theorem DI.put {kp rp : D → Prop} {c : Nat} {ks vs : List D} (d : DI kp rp c ks vs) {k v : D} (hk : kp k) (hv : rp v) : DI kp rp (c + 1) (putKs ks k) (putA ks vs k v) := by
  have hl := d.l
  have hc := d.c
  refine ⟨?_, ?_, put_nd d.nd, ?_, Nat.le_trans (putKs_len ks k) (by omega)⟩
  · unfold putKs putA
    cases e : ixK ks k with
    | none => simp [hl]
    | some i => simp [hl]
  · intro z hz
    unfold putKs at hz
    cases e : ixK ks k with
    | none =>
      rw [e] at hz
      rcases List.mem_append.mp hz with hz | hz
      · exact d.k z hz
      · cases List.mem_singleton.mp hz; exact hk
    | some i => rw [e] at hz; exact d.k z hz
  · intro z hz
    unfold putA at hz
    cases e : ixK ks k with
    | none =>
      rw [e] at hz
      rcases List.mem_append.mp hz with hz | hz
      · exact d.v z hz
      · cases List.mem_singleton.mp hz; exact hv
    | some i =>
      rw [e] at hz
      rcases List.mem_or_eq_of_mem_set hz with hz | hz
      · exact d.v z hz
      · rw [hz]; exact hv
abbrev P2 (g : DH) (p C : Addr) (o u : DO) : DH := up (up g p o) C u
theorem P2.p {g : DH} {p C : Addr} {o u : DO} (ne : p ≠ C) : P2 g p C o u p = some o := by
  show up (up g p o) C u p = _
  rw [up_ne ne]; exact up_same
theorem P2.c {g : DH} {p C : Addr} {o u : DO} : P2 g p C o u C = some u := up_same
theorem P2.sp {g : DH} {p C : Addr} {o u o' : DO} (ne : p ≠ C) : up (P2 g p C o u) p o' = P2 g p C o' u := by
  show up (up (up g p o) C u) p o' = _
  rw [up_comm ne, up_up, up_comm ne.symm]
theorem P2.sc {g : DH} {p C : Addr} {o u u' : DO} : up (P2 g p C o u) C u' = P2 g p C o u' := up_up
abbrev cols3 : List D := [.str "x", .str "y"]
theorem cols_good : ∀ x ∈ cols3, ∃ z, x = .str z ∧ goodCol z := by
  intro x hx
  simp only [List.mem_cons, List.not_mem_nil, or_false] at hx
  have one : ∀ z : Str, z.length ≤ 10 → (Txt.split z ".").length ≤ 4 → (∀ y ∈ Txt.split z ".", 1 ≤ y.length ∧ y.length ≤ 8 ∧ ∀ c ∈ y.cps.toList, 97 ≤ c ∧ c ≤ 122) → PyData.strOk z = true → goodCol z := fun z a b c d => ⟨small (by omega), b, c, d⟩
  rcases hx with rfl | rfl
  · exact ⟨_, rfl, one _ (by decide +kernel) (by decide +kernel) (by decide +kernel) (by decide +kernel)⟩
  · exact ⟨_, rfl, one _ (by decide +kernel) (by decide +kernel) (by decide +kernel) (by decide +kernel)⟩
abbrev rdS (p A B C E : Addr) (zs : List Str) (m : Str) (st mk : Nat) (S : List D) (s7 s10 s13 s14 s15 s16 s17 : Option D) : SD :=
  [some (.ref p), some (.lv (txs zs)), some (.str m), some (.int st), some (.int mk), some (.lv cols3), some (.lv S), s7, some (.ref A), some (.ref B), s10, some (.ref C), some (.ref E), s13, s14, s15, s16, s17]
abbrev R0 (m : Str) (st mk : Nat) : RF := ⟨m, mk, st, fun _ _ => none, fun _ _ => none⟩
abbrev rdP (sr : SpD) : TSD := rIfS (rTest (rOp dGt (rCall sr [] (rCons (rVar 0) (rCons (rC (.int 12)) rNil))) (rC (.int 0)))) (rAsg (rVar 14) (rgSub (rVar 11) (rVar 13))) rNext
abbrev rd1 (sr so : SpD) : TSD := rSeq (rAsg (rTup (rCons (rCall sr [] (rCons (rVar 0) (rCons (rVar 3) rNil))) (rCons (rCall so [] (rCons (rVar 0) (rCons (rVar 6) rNil))) rNil))) (dName 14))
  (rSeq (rAsg (rIf (rTest (rOp dEq (rVar 2) (rC (.str "late")))) (rVar 14) (rOp dAdd (rVar 14) (rTup (rCons (rCall so [] (rCons (rVar 0) (rCons (rVar 5) rNil))) rNil)))) (dName 14))
  (rdP sr))
theorem rd_loop1 {Dd : EndsD} {p A B C E : Addr} (ne : p ≠ C) {g : DH} {zs : List Str} {m : Str} {st mk : Nat} {S : List D} {s7 s10 s15 s16 s17 : Option D} (hm : okMode m) (h1 : 1 ≤ st) (h5 : st ≤ 5) (hS : ∀ x ∈ S, ∃ ms, x = .tup ms ∧ MarksOk mk ms) (S0 : S ≠ []) (S4 : S.length ≤ 4) :
    ∀ (its : List Str) (n c : Nat) (d ks vs : List D) (s13 s14 : Option D), DiceL n d → n + 4 * its.length ≤ DN → DI keyO (ruleO (R0 m st mk)) c ks vs → c + its.length ≤ 100 → (∀ z ∈ its, goodName z) →
    (∀ d' ks' vs' s13 s14, DiceL (n + 4 * its.length) d' → DI keyO (ruleO (R0 m st mk)) (c + its.length) ks' vs' → Dd.nx (rdS p A B C E zs m st mk S s7 s10 s13 s14 s15 s16 s17) (P2 g p C (.lst d') (.dic ks' vs'))) →
    rForL (dName 13) (rd1 (sp__law_roll K) (sp__law_one_of K)) Dd (fun _ => True) (txs its) (rdS p A B C E zs m st mk S s7 s10 s13 s14 s15 s16 s17) (P2 g p C (.lst d) (.dic ks vs)) := by
  intro its
  induction its with
  | nil => intro n c d ks vs s13 s14 hd hn hI hc hz q; exact ⟨trivial, q d ks vs s13 s14 (by simpa using hd) (by simpa using hI)⟩
  | cons l its ih =>
    intro n c d ks vs s13 s14 hd hn hI hc hz q
    simp only [List.length_cons] at hn hc q
    have gl := hz l List.mem_cons_self
    have tail : ∀ (d3 : List D) (v : D), DiceL (n + 3) d3 → ruleO (R0 m st mk) v → rdP (sp__law_roll K) ⟨rForL (dName 13) (rd1 (sp__law_roll K) (sp__law_one_of K)) Dd (fun _ => True) (txs its), Dd.rt, Dd.nx, rForL (dName 13) (rd1 (sp__law_roll K) (sp__law_one_of K)) Dd (fun _ => True) (txs its)⟩
        (rdS p A B C E zs m st mk S s7 s10 (some (.str l)) (some v) s15 s16 s17) (P2 g p C (.lst d3) (.dic ks vs)) := by
      intro d3 v hd3 hv
      refine ⟨p, 12, n + 3, d3, rfl, P2.p ne, hd3, by omega, by decide, by show (12 : Int) < (1000000000 : Nat); decide, fun r d4 hr hd4 => ?_⟩
      rw [P2.sp ne]
      refine ⟨fun _ => ?_, fun _ => ?_⟩
      · refine .inr ⟨ks, vs, P2.c, kdO.key hI.k ⟨l, rfl, gl⟩, small (Nat.le_trans (putKs_len _ _) (by have := hI.c; omega)), ?_⟩
        rw [P2.sc]
        refine ih (n + 4) (c + 1) d4 _ _ _ _ hd4 (by omega) (hI.put ⟨l, rfl, gl⟩ hv) (by omega) (fun z hz' => hz z (List.mem_cons_of_mem _ hz')) fun d' ks' vs' s13 s14 a b => q d' ks' vs' s13 s14 ?_ ?_
        · rw [show n + 4 * (its.length + 1) = n + 4 + 4 * its.length by omega]; exact a
        · rw [show c + (its.length + 1) = c + 1 + its.length by omega]; exact b
      · refine ih (n + 4) (c + 1) d4 _ _ _ _ hd4 (by omega) (hI.mono (by omega)) (by omega) (fun z hz' => hz z (List.mem_cons_of_mem _ hz')) fun d' ks' vs' s13 s14 a b => q d' ks' vs' s13 s14 ?_ ?_
        · rw [show n + 4 * (its.length + 1) = n + 4 + 4 * its.length by omega]; exact a
        · rw [show c + (its.length + 1) = c + 1 + its.length by omega]; exact b
    refine ⟨trivial, ?_⟩
    refine ⟨p, st, n, d, rfl, P2.p ne, hd, by omega, by omega, by show (st : Int) < (1000000000 : Nat); omega, fun r d1 hr hd1 => ?_⟩
    rw [P2.sp ne]
    refine ⟨p, S, n + 1, d1, rfl, P2.p ne, hd1, by omega, S0, by omega, fun x d2 hx hd2 => ?_⟩
    rw [P2.sp ne]
    obtain ⟨ms, rfl, hms⟩ := hS x hx
    refine ⟨small (by simp), ?_⟩
    refine ⟨shS hm.s, shS sLate, ⟨fun e => ?_, fun e => ?_⟩⟩
    · have em : m = "late" := of_decide_eq_true (by rw [← eqS]; exact e)
      exact tail d2 _ (hd2.mono (by omega)) ⟨r, ms, by show r < st; omega, hms, by rw [if_pos em]⟩
    · have em : m ≠ "late" := fun x => by rw [x] at e; exact no2 e
      refine ⟨p, cols3, n + 2, d2, rfl, P2.p ne, hd2, by omega, by simp, by simp, fun x d3 hx hd3 => ?_⟩
      rw [P2.sp ne]
      obtain ⟨z, rfl, gz⟩ := cols_good x hx
      refine ⟨small (by simp), small (by simp), ?_⟩
      exact tail d3 _ hd3 ⟨r, ms, by show r < st; omega, hms, by rw [if_neg em]; exact ⟨z, gz, rfl⟩⟩
end LK
set_option Elab.async false
set_option linter.all false
set_option maxRecDepth 100000
set_option maxHeartbeats 4000000
namespace LK
open PySem PySem.Spec PyProof.Rows L2 DL
variable {K : PySem.W.Frag} {mg : Str → Option Value}
abbrev rd2 (sr so : SpD) : TSD := rSeq (rAsg (rIf (rTest (rOp dEq (rVar 2) (rC (.str "named")))) (rTup (rCons (rVar 15) (rCons (rVar 13) rNil))) (rTup (rCons (rVar 15) rNil))) (dName 16))
  (rSeq (rAsg (rCall sr [] (rCons (rVar 0) (rCons (rVar 3) rNil))) (dName 17))
  (rIfS (rTest (rOp dGt (rCall sr [] (rCons (rVar 0) (rCons (rC (.int 12)) rNil))) (rC (.int 0)))) (rAsg (rIf (rTest (rOp dEq (rVar 2) (rC (.str "late")))) (rTup (rCons (rVar 17) (rCons (rCall so [] (rCons (rVar 0) (rCons (rVar 5) rNil))) rNil))) (rVar 17)) (rgSub (rVar 12) (rVar 16))) rNext))
theorem rd_loop2 {Dd : EndsD} {p A B C E : Addr} (ne : p ≠ E) {g : DH} {zs : List Str} {m : Str} {st mk : Nat} {S : List D} {s7 s10 s14 : Option D} {ms : List D} (hm : okMode m) (h1 : 1 ≤ st) (h5 : st ≤ 5) (hms : MarksOk mk ms) :
    ∀ (its : List Str) (n c : Nat) (d ks vs : List D) (s13 s16 s17 : Option D), DiceL n d → n + 3 * its.length ≤ DN → DI (keyC m mk) (ruleC (R0 m st mk)) c ks vs → c + its.length ≤ 100 → (m = "named" → ∀ z ∈ its, goodName z) →
    (∀ d' ks' vs' s13 s16 s17, DiceL (n + 3 * its.length) d' → DI (keyC m mk) (ruleC (R0 m st mk)) (c + its.length) ks' vs' → Dd.nx (rdS p A B C E zs m st mk S s7 s10 s13 s14 (some (.tup ms)) s16 s17) (P2 g p E (.lst d') (.dic ks' vs'))) →
    rForL (dName 13) (rd2 (sp__law_roll K) (sp__law_one_of K)) Dd (fun _ => True) (txs its) (rdS p A B C E zs m st mk S s7 s10 s13 s14 (some (.tup ms)) s16 s17) (P2 g p E (.lst d) (.dic ks vs)) := by
  intro its
  induction its with
  | nil => intro n c d ks vs s13 s16 s17 hd hn hI hc hz q; exact ⟨trivial, q d ks vs s13 s16 s17 (by simpa using hd) (by simpa using hI)⟩
  | cons l its ih =>
    intro n c d ks vs s13 s16 s17 hd hn hI hc hz q
    simp only [List.length_cons] at hn hc q
    have kd := kdC m mk
    have rest : ∀ kk, keyC m mk kk → (rSeq (rAsg (rCall (sp__law_roll K) [] (rCons (rVar 0) (rCons (rVar 3) rNil))) (dName 17))
      (rIfS (rTest (rOp dGt (rCall (sp__law_roll K) [] (rCons (rVar 0) (rCons (rC (.int 12)) rNil))) (rC (.int 0)))) (rAsg (rIf (rTest (rOp dEq (rVar 2) (rC (.str "late")))) (rTup (rCons (rVar 17) (rCons (rCall (sp__law_one_of K) [] (rCons (rVar 0) (rCons (rVar 5) rNil))) rNil))) (rVar 17)) (rgSub (rVar 12) (rVar 16))) rNext))
      ⟨rForL (dName 13) (rd2 (sp__law_roll K) (sp__law_one_of K)) Dd (fun _ => True) (txs its), Dd.rt, Dd.nx, rForL (dName 13) (rd2 (sp__law_roll K) (sp__law_one_of K)) Dd (fun _ => True) (txs its)⟩
      (rdS p A B C E zs m st mk S s7 s10 (some (.str l)) s14 (some (.tup ms)) (some kk) s17) (P2 g p E (.lst d) (.dic ks vs)) := by
      intro kk hkk
      refine ⟨p, st, n, d, rfl, P2.p ne, hd, by omega, by omega, by show (st : Int) < (1000000000 : Nat); omega, fun r d1 hr hd1 => ?_⟩
      rw [P2.sp ne]
      refine ⟨p, 12, n + 1, d1, rfl, P2.p ne, hd1, by omega, by decide, by show (12 : Int) < (1000000000 : Nat); decide, fun r2 d2 hr2 hd2 => ?_⟩
      rw [P2.sp ne]
      have put : ∀ d3 v, DiceL (n + 3) d3 → ruleC (R0 m st mk) v → dSet (.ref E) kk v (P2 g p E (.lst d3) (.dic ks vs)) fun h3 => rForL (dName 13) (rd2 (sp__law_roll K) (sp__law_one_of K)) Dd (fun _ => True) (txs its) (rdS p A B C E zs m st mk S s7 s10 (some (.str l)) s14 (some (.tup ms)) (some kk) (some (.int r))) h3 := by
        intro d3 v hd3 hv
        refine .inr ⟨ks, vs, P2.c, kd.key hI.k hkk, small (Nat.le_trans (putKs_len _ _) (by have := hI.c; omega)), ?_⟩
        rw [P2.sc]
        refine ih (n + 3) (c + 1) d3 _ _ _ _ _ hd3 (by omega) (hI.put hkk hv) (by omega) (fun e z hz' => hz e z (List.mem_cons_of_mem _ hz')) fun d' ks' vs' s13 s16 s17 a b => q d' ks' vs' s13 s16 s17 ?_ ?_
        · rw [show n + 3 * (its.length + 1) = n + 3 + 3 * its.length by omega]; exact a
        · rw [show c + (its.length + 1) = c + 1 + its.length by omega]; exact b
      refine ⟨fun _ => ?_, fun _ => ?_⟩
      · refine ⟨shS hm.s, shS sLate, ⟨fun e => ?_, fun e => ?_⟩⟩
        · have em : m = "late" := of_decide_eq_true (by rw [← eqS]; exact e)
          refine ⟨p, cols3, n + 2, d2, rfl, P2.p ne, hd2, by omega, by simp, by simp, fun x d3 hx hd3 => ?_⟩
          rw [P2.sp ne]
          obtain ⟨z, rfl, gz⟩ := cols_good x hx
          refine ⟨small (by simp), ?_⟩
          exact put d3 _ hd3 ⟨r, by show r < st; omega, by rw [if_pos em]; exact ⟨z, gz, rfl⟩⟩
        · have em : m ≠ "late" := fun x => by rw [x] at e; exact no2 e
          exact put d2 _ (hd2.mono (by omega)) ⟨r, by show r < st; omega, by rw [if_neg em]⟩
      · refine ih (n + 3) (c + 1) d2 _ _ _ _ _ (hd2.mono (by omega)) (by omega) (hI.mono (by omega)) (by omega) (fun e z hz' => hz e z (List.mem_cons_of_mem _ hz')) fun d' ks' vs' s13 s16 s17 a b => q d' ks' vs' s13 s16 s17 ?_ ?_
        · rw [show n + 3 * (its.length + 1) = n + 3 + 3 * its.length by omega]; exact a
        · rw [show c + (its.length + 1) = c + 1 + its.length by omega]; exact b
    refine ⟨trivial, ?_⟩
    refine ⟨shS hm.s, shS sNamed, ⟨fun e => ?_, fun e => ?_⟩⟩
    · have em : m = "named" := of_decide_eq_true (by rw [← eqS]; exact e)
      exact ⟨small (by simp), rest _ ⟨ms, hms, by rw [if_pos em]; exact ⟨l, hz em l List.mem_cons_self, rfl⟩⟩⟩
    · have em : m ≠ "named" := fun x => by rw [x] at e; exact no2 e
      exact ⟨small (by simp), rest _ ⟨ms, hms, by rw [if_neg em]⟩⟩
abbrev rdI : TID := rIter (rIf (rTest (rOp dEq (rVar 2) (rC (.str "named")))) (rVar 1) (rLst (rCons (rC (.str "")) rNil)))
theorem rd_loop3 {Dd : EndsD} {p A B C E : Addr} (ne : p ≠ E) {g : DH} {zs : List Str} {m : Str} {st mk : Nat} {S : List D} {s7 s10 s14 : Option D} (hm : okMode m) (h1 : 1 ≤ st) (h5 : st ≤ 5) (hz : ∀ z ∈ zs, goodName z) (hz3 : zs.length ≤ 3) :
    ∀ (its : List D) (n c : Nat) (d ks vs : List D) (s13 s15 s16 s17 : Option D), (∀ x ∈ its, ∃ ms, x = .tup ms ∧ MarksOk mk ms) → DiceL n d → n + 9 * its.length ≤ DN → DI (keyC m mk) (ruleC (R0 m st mk)) c ks vs → c + 3 * its.length ≤ 100 →
    (∀ d' ks' vs' s13 s15 s16 s17, DiceL (n + 9 * its.length) d' → DI (keyC m mk) (ruleC (R0 m st mk)) (c + 3 * its.length) ks' vs' → Dd.nx (rdS p A B C E zs m st mk S s7 s10 s13 s14 s15 s16 s17) (P2 g p E (.lst d') (.dic ks' vs'))) →
    rForL (dName 15) (rFor rdI (dName 13) (rd2 (sp__law_roll K) (sp__law_one_of K))) Dd (fun _ => True) its (rdS p A B C E zs m st mk S s7 s10 s13 s14 s15 s16 s17) (P2 g p E (.lst d) (.dic ks vs)) := by
  intro its
  induction its with
  | nil => intro n c d ks vs s13 s15 s16 s17 _ hd hn hI hc q; exact ⟨trivial, q d ks vs s13 s15 s16 s17 (by simpa using hd) (by simpa using hI)⟩
  | cons x its ih =>
    intro n c d ks vs s13 s15 s16 s17 hS hd hn hI hc q
    simp only [List.length_cons] at hn hc q
    obtain ⟨ms, rfl, hms⟩ := hS x List.mem_cons_self
    have run : ∀ labs : List Str, labs.length ≤ 3 → (m = "named" → ∀ z ∈ labs, goodName z) → rForL (dName 13) (rd2 (sp__law_roll K) (sp__law_one_of K)) ⟨rForL (dName 15) (rFor rdI (dName 13) (rd2 (sp__law_roll K) (sp__law_one_of K))) Dd (fun _ => True) its, Dd.rt, Dd.nx, rForL (dName 15) (rFor rdI (dName 13) (rd2 (sp__law_roll K) (sp__law_one_of K))) Dd (fun _ => True) its⟩ (fun _ => True) (txs labs)
        (rdS p A B C E zs m st mk S s7 s10 s13 s14 (some (.tup ms)) s16 s17) (P2 g p E (.lst d) (.dic ks vs)) := by
      intro labs h3 hg
      refine rd_loop2 (K := K) ne hm h1 h5 hms labs n c d ks vs _ _ _ hd (by omega) hI (by omega) hg fun d' ks' vs' s13 s16 s17 a b => ?_
      refine ih (n + 9) (c + 3) d' ks' vs' _ _ _ _ (fun x hx => hS x (List.mem_cons_of_mem _ hx)) (a.mono (by omega)) (by omega) (b.mono (by omega)) (by omega) fun d' ks' vs' s13 s15 s16 s17 a b => q d' ks' vs' s13 s15 s16 s17 ?_ ?_
      · rw [show n + 9 * (its.length + 1) = n + 9 + 9 * its.length by omega]; exact a
      · rw [show c + 3 * (its.length + 1) = c + 3 + 3 * its.length by omega]; exact b
    refine ⟨trivial, ?_⟩
    refine ⟨shS hm.s, shS sNamed, ⟨fun e => ?_, fun e => ?_⟩⟩
    · exact run zs hz3 fun _ => hz
    · have em : m ≠ "named" := fun x => by rw [x] at e; exact no2 e
      exact ⟨small (by simp), run [""] (by simp) fun e => absurd e em⟩
end LK
set_option Elab.async false
set_option linter.all false
set_option maxRecDepth 100000
set_option maxHeartbeats 4000000
namespace LK
open PySem PySem.Spec PyProof.Rows L2 DL
variable {K : PySem.W.Frag} {mg : Str → Option Value}
theorem F1 {h : DH} {p A B C E : Addr} {a u w : DO} {x y : List D} (pA : p ≠ A) (pB : p ≠ B) (pE : p ≠ E) (CE : C ≠ E) : up (up (HP (up h p a) A B x y) C u) E w = P2 (up (HP h A B x y) E w) p C a u := by
  rw [← HP.out pA pB, up_comm CE, up_comm pE]
theorem F2 {h : DH} {p A B C E : Addr} {a u w : DO} {x y : List D} (pA : p ≠ A) (pB : p ≠ B) (pC : p ≠ C) : up (up (HP (up h p a) A B x y) C u) E w = P2 (up (HP h A B x y) C u) p E a w := by
  rw [← HP.out pA pB, up_comm pC]
theorem HP.no {h : DH} {p A B C : Addr} {a : DO} {x y : List D} (hC : h C = none) (pC : p ≠ C) (AC : A ≠ C) (BC : B ≠ C) : HP (up h p a) A B x y C = none := by
  show up (up (up h p a) A _) B _ C = none
  rw [up_ne BC.symm, up_ne AC.symm, up_ne pC.symm, hC]
abbrev rdB (sr so : SpD) : TSD := rSeq (rPar 11 12 (rCons (rDict0) (rCons (rDict0) rNil)))
  (rSeq (rFor (rIter (rVar 1)) (dName 13) (rd1 sr so))
  (rSeq (rFor (rIter (rVar 6)) (dName 15) (rFor rdI (dName 13) (rd2 sr so)))
  (rSeq (rDrop (rMt "list" dAppend (rVar 8) (rCons (rVarH 11) rNil)))
  (rDrop (rMt "list" dAppend (rVar 9) (rCons (rVarH 12) rNil))))))
abbrev rdT (p A B : Addr) (zs : List Str) (m : Str) (st mk : Nat) (S : List D) (s7 s10 s11 s12 s13 s14 s15 s16 s17 : Option D) : SD :=
  [some (.ref p), some (.lv (txs zs)), some (.str m), some (.int st), some (.int mk), some (.lv cols3), some (.lv S), s7, some (.ref A), some (.ref B), s10, s11, s12, s13, s14, s15, s16, s17]
structure RowsI (m : Str) (st mk k : Nat) (os cs : List D) : Prop where
  lo : os.length = k
  lc : cs.length = k
  o : ∀ x ∈ os, ∃ ks vs, x = .dv ks vs ∧ DI keyO (ruleO (R0 m st mk)) 100 ks vs
  c : ∀ x ∈ cs, ∃ ks vs, x = .dv ks vs ∧ DI (keyC m mk) (ruleC (R0 m st mk)) 100 ks vs
theorem rd_loop4 {Dd : EndsD} {p A B : Addr} (ne : A ≠ B) (pA : p ≠ A) (pB : p ≠ B) {h : DH} (hp : ∃ o, h p = some o) {zs : List Str} {m : Str} {st mk : Nat} {S : List D} {s7 : Option D} (hm : okMode m) (h1 : 1 ≤ st) (h5 : st ≤ 5) (hz : ∀ z ∈ zs, goodName z) (hz3 : zs.length ≤ 3)
    (hS : ∀ x ∈ S, ∃ ms, x = .tup ms ∧ MarksOk mk ms) (S0 : S ≠ []) (S4 : S.length ≤ 4) :
    ∀ (its : List D) (n k : Nat) (d os cs : List D) (s10 s11 s12 s13 s14 s15 s16 s17 : Option D), DiceL n d → n + 50 * its.length ≤ DN → RowsI m st mk k os cs → k + its.length ≤ 10 →
    (∀ d' os' cs' s10 s11 s12 s13 s14 s15 s16 s17, DiceL (n + 50 * its.length) d' → RowsI m st mk (k + its.length) os' cs' → Dd.nx (rdT p A B zs m st mk S s7 s10 s11 s12 s13 s14 s15 s16 s17) (HP (up h p (.lst d')) A B os' cs')) →
    rForL (dName 10) (rdB (sp__law_roll K) (sp__law_one_of K)) Dd (fun _ => True) its (rdT p A B zs m st mk S s7 s10 s11 s12 s13 s14 s15 s16 s17) (HP (up h p (.lst d)) A B os cs) := by
  intro its
  induction its with
  | nil => intro n k d os cs s10 s11 s12 s13 s14 s15 s16 s17 hd hn hI hk q; exact ⟨trivial, q d os cs _ _ _ _ _ _ _ _ (by simpa using hd) (by simpa using hI)⟩
  | cons it its ih =>
    intro n k d os cs s10 s11 s12 s13 s14 s15 s16 s17 hd hn hI hk q
    simp only [List.length_cons] at hn hk q
    have lo := hI.lo
    have lc := hI.lc
    refine ⟨trivial, fun C hC => fun E hE => ?_⟩
    have CE : C ≠ E := ne_of hE
    rw [up_ne CE.symm] at hE
    have nA : ∀ X, HP (up h p (.lst d)) A B os cs X = none → A ≠ X ∧ B ≠ X ∧ p ≠ X ∧ h X = none := by
      intro X hX
      have a : A ≠ X := fun e => by rw [← e, HP.a ne] at hX; cases hX
      have b : B ≠ X := fun e => by rw [← e, HP.b] at hX; cases hX
      have c : p ≠ X := fun e => by rw [← e, HP.at pA pB, up_same] at hX; cases hX
      refine ⟨a, b, c, ?_⟩
      rw [HP.at a.symm b.symm, up_ne c.symm] at hX
      exact hX
    obtain ⟨AC, BC, pC, hC0⟩ := nA C hC
    obtain ⟨AE, BE, pE, hE0⟩ := nA E hE
    rw [F1 pA pB pE CE]
    refine rd_loop1 (K := K) (Dd := ⟨_, Dd.rt, Dd.nx, _⟩) (A := A) (B := B) (E := E) (g := up (HP h A B os cs) E (.dic [] [])) (zs := zs) (S := S) pC hm h1 h5 hS S0 S4 zs n 0 d [] [] _ _ hd (by omega) DI.nil (by omega) hz fun d1 ks vs t13 t14 hd1 hI1 => ?_
    rw [← F1 pA pB pE CE, F2 pA pB pC]
    refine rd_loop3 (K := K) (Dd := ⟨_, Dd.rt, Dd.nx, _⟩) (A := A) (B := B) (C := C) (g := up (HP h A B os cs) C (.dic ks vs)) (zs := zs) (S := S) pE hm h1 h5 hz hz3 S (n + 12) 0 d1 [] [] _ _ _ _ hS (hd1.mono (by omega)) (by omega) DI.nil (by omega) fun d2 ks2 vs2 t13 t15 t16 t17 hd2 hI2 => ?_
    rw [← F2 pA pB pC]
    have e1 : del (up (up (HP (up h p (.lst d2)) A B os cs) C (.dic ks vs)) E (.dic ks2 vs2)) C = up (HP (up h p (.lst d2)) A B os cs) E (.dic ks2 vs2) := by
      rw [del_up_ne CE.symm, del_up (HP.no hC0 pC AC BC)]
    have e2 : up (up (HP (up h p (.lst d2)) A B os cs) E (.dic ks2 vs2)) A (.lst (os ++ [.dv ks vs])) = up (HP (up h p (.lst d2)) A B (os ++ [.dv ks vs]) cs) E (.dic ks2 vs2) := by
      rw [up_comm AE.symm, HP.sa ne]
    have e3 : del (up (HP (up h p (.lst d2)) A B (os ++ [.dv ks vs]) cs) E (.dic ks2 vs2)) E = HP (up h p (.lst d2)) A B (os ++ [.dv ks vs]) cs := del_up (HP.no hE0 pE AE BE)
    refine ⟨.inl ⟨os, by rw [up_ne AE, up_ne AC]; exact HP.a ne, rfl⟩, .inr (.inl ⟨ks, vs, by rw [up_ne CE]; exact up_same, ?_⟩)⟩
    rw [e1]
    refine ⟨os, by rw [up_ne AE]; exact HP.a ne, lt_size (by omega), ?_⟩
    rw [e2]
    refine ⟨.inl ⟨cs, by rw [up_ne BE]; exact HP.b, rfl⟩, .inr (.inl ⟨ks2, vs2, up_same, ?_⟩)⟩
    rw [e3]
    refine ⟨cs, HP.b, lt_size (by omega), ?_⟩
    rw [HP.sb]
    refine ih (n + 50) (k + 1) d2 _ _ _ _ _ _ _ _ _ _ (hd2.mono (by omega)) (by omega) ⟨by simp [lo], by simp [lc], fun x hx => ?_, fun x hx => ?_⟩ (by omega) fun d' os' cs' s10 s11 s12 s13 s14 s15 s16 s17 a b => q d' os' cs' s10 s11 s12 s13 s14 s15 s16 s17 ?_ ?_
    · rcases List.mem_append.mp hx with hx | hx
      · exact hI.o x hx
      · cases List.mem_singleton.mp hx; exact ⟨ks, vs, rfl, hI1.mono (by omega)⟩
    · rcases List.mem_append.mp hx with hx | hx
      · exact hI.c x hx
      · cases List.mem_singleton.mp hx; exact ⟨ks2, vs2, rfl, hI2.mono (by omega)⟩
    · rw [show n + 50 * (its.length + 1) = n + 50 + 50 * its.length by omega]; exact a
    · rw [show k + (its.length + 1) = k + 1 + its.length by omega]; exact b
end LK
set_option Elab.async false
set_option linter.all false
set_option maxRecDepth 100000
set_option maxHeartbeats 4000000
namespace LK
open PySem PySem.Spec PyProof.Rows L2 DL
variable {K : PySem.W.Frag} {mg : Str → Option Value}
/-- the reader that rows make -/
def rfOf (m : Str) (st mk : Nat) (os cs : List D) : RF := ⟨m, mk, st,
  fun i k => match os[i]? with
    | some (.dv ks vs) => lookA ks vs k
    | _ => none,
  fun i k => match cs[i]? with
    | some (.dv ks vs) => lookA ks vs k
    | _ => none⟩
theorem look_mem {ks vs : List D} {k v : D} (h : lookA ks vs k = some v) : v ∈ vs := by
  unfold lookA at h
  obtain ⟨i, _, e⟩ := Option.bind_eq_some_iff.mp h
  exact List.mem_of_getElem? e
theorem rf_ok {m : Str} {st mk : Nat} {os cs : List D} (hm : okMode m) (h1 : 1 ≤ st) (h5 : st ≤ 10) (hk : mk ≤ 2) (h : RowsI m st mk st os cs) : WF (rfOf m st mk os cs) ∧ Rls (rfOf m st mk os cs) os cs := by
  refine ⟨⟨hm, hk, h1, h5, fun i k v ky e => ?_, fun i k v ky e => ?_⟩, ⟨h.lo, h.lc, fun i d e => ?_, fun i d e => ?_⟩⟩
  · cases z : os[i]? with
    | none => simp [rfOf, z] at e
    | some x =>
      obtain ⟨ks, vs, rfl, hI⟩ := h.o x (List.mem_of_getElem? z)
      simp only [rfOf, z] at e
      exact hI.v v (look_mem e)
  · cases z : cs[i]? with
    | none => simp [rfOf, z] at e
    | some x =>
      obtain ⟨ks, vs, rfl, hI⟩ := h.c x (List.mem_of_getElem? z)
      simp only [rfOf, z] at e
      exact hI.v v (look_mem e)
  · obtain ⟨ks, vs, rfl, hI⟩ := h.o d (List.mem_of_getElem? e)
    exact ⟨ks, vs, rfl, hI.l, hI.k, hI.nd, hI.c, fun k _ => by simp only [rfOf, e]⟩
  · obtain ⟨ks, vs, rfl, hI⟩ := h.c d (List.mem_of_getElem? e)
    exact ⟨ks, vs, rfl, hI.l, hI.k, hI.nd, hI.c, fun k _ => by simp only [rfOf, e]⟩
abbrev setsD (mk : Nat) : List D := [D.tup []] ++ (rangeD 0 mk).map (fun x => D.tup [x]) ++ (List.replicate (if 1 < mk then 1 else 0) [D.tup [.int 0, .int 1]]).flatten
theorem sets_ok {mk : Nat} (h : mk ≤ 2) : (∀ x ∈ setsD mk, ∃ ms, x = .tup ms ∧ MarksOk mk ms) ∧ setsD mk ≠ [] ∧ (setsD mk).length ≤ 4 := by
  have a0 : ∀ k, MarksOk k [] := fun k => marks0 k
  have a1 : ∀ (k : Nat) (i : Int), 0 ≤ i → i < k → MarksOk k [.int i] := fun k i h1 h2 => ⟨[i], rfl, by simp, by simp, by simp; exact ⟨h1, h2⟩⟩
  have a2 : MarksOk 2 [.int 0, .int 1] := ⟨[0, 1], rfl, by simp, by simp, by simp⟩
  match mk, h with
  | 0, _ =>
    refine ⟨fun x hx => ?_, by simp, by simp [rangeD]⟩
    simp [rangeD] at hx
    subst hx; exact ⟨_, rfl, a0 _⟩
  | 1, _ =>
    refine ⟨fun x hx => ?_, by simp, by simp [rangeD]⟩
    simp [rangeD] at hx
    rcases hx with rfl | rfl
    · exact ⟨_, rfl, a0 _⟩
    · exact ⟨_, rfl, a1 1 0 (by decide) (by decide)⟩
  | 2, _ =>
    have e : setsD 2 = [.tup [], .tup [.int 0], .tup [.int 1], .tup [.int 0, .int 1]] := by rfl
    rw [e]
    refine ⟨fun x hx => ?_, by simp, by simp⟩
    simp only [List.mem_cons, List.not_mem_nil, or_false] at hx
    rcases hx with rfl | rfl | rfl | rfl
    · exact ⟨_, rfl, a0 _⟩
    · exact ⟨_, rfl, a1 2 0 (by decide) (by decide)⟩
    · exact ⟨_, rfl, a1 2 1 (by decide) (by decide)⟩
    · exact ⟨_, rfl, a2⟩
theorem len__law_reader (ds : List D) (h : DH) (Qd : D → DH → Prop) (q : sp__law_reader K ds h Qd) : ds.length = 6 := by
  unfold sp__law_reader at q
  repeat (first | (obtain ⟨e, _⟩ := q; subst e; rfl) | obtain ⟨_, q⟩ := q)
theorem read__law_reader (M : Md K mg) (ds : List D) (h : DH) (Qd : D → DH → Prop) (q : sp__law_reader K ds h Qd) : t__law_reader K (sp__law_roll K) (sp__law_one_of K) ⟨fun _ h' => Qd .non h', Qd, fun _ _ => False, fun _ _ => False⟩ (st0 N__law_reader.length ds) h := by
  obtain ⟨p, zs, m, st, mk, n, d, rfl, hp, hd, hn, hz3, _, hz, hm, h1, h5, hk, q⟩ := q
  obtain ⟨hS, S0, S4⟩ := sets_ok hk
  have k1 : (mk : Int) < 2 ^ 62 := Int.lt_trans (show (mk : Int) < 1000 by omega) (by decide)
  have tl : ∀ sets, sets = setsD mk → (rSeq (rPar 8 9 (rCons (rLstR rNil) (rCons (rLstR rNil) rNil)))
    (rSeq (rFor (rRange fun sd h Q => (rCons (rVar 3) rNil) sd h fun ds h1 => ds.length = 1 ∧ Q ds h1) (dName 10) (rdB (sp__law_roll K) (sp__law_one_of K)))
    (rRet (rDisp [((rC (.str "mode")), (rVar 2)), ((rC (.str "marks")), (rVar 4)), ((rC (.str "opens")), (rVarH 8)), ((rC (.str "closes")), (rVarH 9))])))) ⟨fun _ h' => Qd .non h', Qd, fun _ _ => False, fun _ _ => False⟩
    [some (.ref p), some (.lv (txs zs)), some (.str m), some (.int st), some (.int mk), some (.lv cols3), some (.lv sets), none, none, none, none, none, none, none, none, none, none, none] h := by
    rintro _ rfl
    refine ⟨small (by simp), fun A hA => ⟨small (by simp), fun B hB => ?_⟩⟩
    have ne := ne_of hB
    have pA : p ≠ A := fun e => by rw [e, hA] at hp; cases hp
    have hB' : h B = none := by rw [up_ne ne.symm] at hB; exact hB
    have pB : p ≠ B := fun e => by rw [e, hB'] at hp; cases hp
    refine ⟨rfl, ⟨by omega, Int.lt_trans (show (st : Int) < 1000 by omega) (by decide)⟩, ?_⟩
    have lr : (rangeD 0 ((st : Int).toNat)).length = st := by simp [rangeD]
    have go := rd_loop4 (K := K) (Dd := ⟨rRet (rDisp [((rC (.str "mode")), (rVar 2)), ((rC (.str "marks")), (rVar 4)), ((rC (.str "opens")), (rVarH 8)), ((rC (.str "closes")), (rVarH 9))]) ⟨fun _ h' => Qd .non h', Qd, fun _ _ => False, fun _ _ => False⟩, Qd, fun _ _ => False, fun _ _ => False⟩)
      ne pA pB ⟨_, hp⟩ (s7 := none) hm h1 h5 hz hz3 hS S0 S4 (rangeD 0 ((st : Int).toNat)) n 0 d [] [] none none none none none none none none hd (by rw [lr]; omega) ⟨rfl, rfl, fun _ h => (nomatch h), fun _ h => (nomatch h)⟩ (by rw [lr]; omega) (fun d' os' cs' s10 s11 s12 s13 s14 s15 s16 s17 hd' hI => ?_)
    · rw [up_self hp] at go; exact go
    rw [lr, Nat.zero_add] at hI
    obtain ⟨W, rl⟩ := rf_ok hm h1 (by omega) hk hI
    intro L hL
    have gA : up h p (.lst d') A = none := by rw [up_ne pA.symm]; exact hA
    have gB : up h p (.lst d') B = none := by rw [up_ne pB.symm]; exact hB'
    have AL : A ≠ L := fun e => by rw [← e, HP.a ne] at hL; cases hL
    have BL : B ≠ L := fun e => by rw [← e, HP.b] at hL; cases hL
    have gL : up h p (.lst d') L = none := by
      rw [HP.at AL.symm BL.symm] at hL; exact hL
    refine .inl ⟨os', by rw [up_ne AL]; exact HP.a ne, ?_⟩
    have e1 : del (up (HP (up h p (.lst d')) A B os' cs') L (.dic [] [])) A = up (up (up h p (.lst d')) B (.lst cs')) L (.dic [] []) := by
      rw [del_up_ne AL.symm, del_up_ne ne.symm, del_up gA]
    rw [e1]
    refine .inl ⟨cs', by rw [up_ne BL]; exact up_same, ?_⟩
    have e2 : del (up (up (up h p (.lst d')) B (.lst cs')) L (.dic [] [])) B = up (up h p (.lst d')) L (.dic [] []) := by
      rw [del_up_ne BL.symm, del_up gB]
    rw [e2]
    refine ⟨up_same, by decide, by decide, ?_⟩
    rw [del_up gL]
    exact q (rfOf m st mk os' cs') _ d' W rfl rfl rfl ⟨os', cs', rfl, rl⟩ (hd'.mono (by rw [lr]; omega))
  refine ⟨small (by simp), small (by simp), rfl, ⟨by omega, k1⟩, ?_⟩
  refine ⟨small (by simp [rangeD]; omega), fun L hL => comp_each (fun x => D.tup [x]) hL (fun _ _ => trivial) (fun x hx h' Q1 Q2 hm q1 => ⟨fun _ => ⟨small (by simp), q1⟩, fun e => (nomatch e)⟩) ?_⟩
  refine ⟨small (by simp [rangeD]; omega), ?_⟩
  refine ⟨small (by simp), small (by simp), ?_⟩
  have : mk = 0 ∨ mk = 1 ∨ mk = 2 := by omega
  rcases this with rfl | rfl | rfl
  · exact ⟨by decide, by decide, small (by decide), small (by decide), tl _ rfl⟩
  · exact ⟨by decide, by decide, small (by decide), small (by decide), tl _ rfl⟩
  · exact ⟨by decide, by decide, small (by decide), small (by decide), tl _ rfl⟩
end LK
set_option Elab.async false
set_option linter.all false
set_option maxRecDepth 100000
set_option maxHeartbeats 4000000
namespace LK
open PySem PySem.Spec PyProof.Rows L2 DL
variable {K : PySem.W.Frag} {mg : Str → Option Value}
/-! ### what is told -/
def saidD (d : D) : Prop := d = .non ∨ ∃ z, d = .str z ∧ PyData.strOk z = true
theorem step_told {R : RF} (W : WF R) {t : TS} {fi : List Int} {k : Nat} (h : Stands R t fi k) {e : Ev} {fst : Bool} {es : List Ev} (hv : Valid fst (t.stk.map (·.1)) (e :: es)) :
    ∃ c js, saidD c ∧ (stepF R t e).told = (match e with | .op _ => if R.mode = "late" then t.told else t.told ++ [c] | .cl _ => if R.mode = "late" then t.told ++ [c] else t.told) ∧ Stands R (stepF R t e) js (k + 1) ∧ Valid false ((stepF R t e).stk.map (·.1)) es := by
  cases e with
  | op l =>
    obtain ⟨_, gl, hv'⟩ := hv
    obtain ⟨s', ms, c, js, e1, e2, e3, e4, e5⟩ := stands_op W h gl
    refine ⟨c, js, ?_, by rw [e4], e5, by rw [e4]; exact hv'⟩
    obtain ⟨s2, is, rest, c2, f1, f2, _, _, hr⟩ := open_rule W gl h.st
    have : c = c2 := by rw [e1] at f2; exact (Prod.mk.inj (Prod.mk.inj f2).2).2
    subst this
    cases z : R.o t.st (.str l) with
    | none =>
      unfold openF at e1; rw [z] at e1
      exact .inl (Prod.mk.inj (Prod.mk.inj e1).2).2.symm
    | some v =>
      obtain ⟨s3, ms3, _, _, h3⟩ := W.o t.st (.str l) v ⟨l, rfl, gl⟩ z
      by_cases hm : R.mode = "late"
      · rw [if_pos hm] at h3; subst h3
        unfold openF at e1; rw [z] at e1
        exact .inl (Prod.mk.inj (Prod.mk.inj e1).2).2.symm
      · rw [if_neg hm] at h3
        obtain ⟨col, hc, rfl⟩ := h3
        unfold openF at e1; rw [z] at e1
        exact .inr ⟨col, (Prod.mk.inj (Prod.mk.inj e1).2).2.symm, hc.2.2.2⟩
  | cl l =>
    obtain ⟨rl', er, hv'⟩ := hv
    obtain ⟨p, rest, es2⟩ : ∃ p rest, t.stk = p :: rest := by
      cases hh : t.stk with
      | nil => rw [hh] at er; cases er
      | cons p rest => exact ⟨p, rest, rfl⟩
    obtain ⟨l2, laid⟩ := p
    have el : l2 = l ∧ rest.map (·.1) = rl' := by rw [es2] at er; simpa using er
    obtain ⟨rfl, rfl⟩ := el
    obtain ⟨s', c, li, js, e1, e2, e2', e3, e4, e5⟩ := stands_cl W h es2
    refine ⟨c, js, ?_, by rw [e4], e5, by rw [e4]; exact hv'⟩
    obtain ⟨gl, hms⟩ := h.sk (l2, laid) (by rw [es2]; exact List.mem_cons_self)
    cases z : R.c t.st (keyF R.mode laid l2) with
    | none =>
      unfold closeF at e1; rw [z] at e1
      exact .inl (Prod.mk.inj e1).2.symm
    | some v =>
      obtain ⟨s3, _, h3⟩ := W.c t.st _ v (key_ok hms gl) z
      by_cases hm : R.mode = "late"
      · rw [if_pos hm] at h3
        obtain ⟨col, hc, rfl⟩ := h3
        unfold closeF at e1; rw [z] at e1
        exact .inr ⟨col, (Prod.mk.inj e1).2.symm, hc.2.2.2⟩
      · rw [if_neg hm] at h3; subst h3
        unfold closeF at e1; rw [z] at e1
        exact .inl (Prod.mk.inj e1).2.symm
/-- does the event tell -/
def tellsE (mode : Str) : Ev → Bool
  | .op _ => !decide (mode = "late")
  | .cl _ => decide (mode = "late")
theorem run_told {R : RF} (W : WF R) : ∀ (es : List Ev) (t : TS) (fi : List Int) (k : Nat) (fst : Bool), Stands R t fi k → Valid fst (t.stk.map (·.1)) es → ∃ cs : List D, (∀ c ∈ cs, saidD c) ∧ (runF R t es).told = t.told ++ cs ∧ cs.length = (es.filter (tellsE R.mode)).length
  | [], t, fi, k, fst, _, _ => ⟨[], fun _ h => (nomatch h), by simp [runF], rfl⟩
  | e :: es, t, fi, k, fst, h, hv => by
    obtain ⟨c, js, hc, e1, e2, e3⟩ := step_told W h hv
    obtain ⟨cs, h1, h2, h3⟩ := run_told W es (stepF R t e) js (k + 1) false e2 e3
    have e4 : runF R t (e :: es) = runF R (stepF R t e) es := rfl
    rw [e4, h2, e1]
    cases e with
    | op l =>
      by_cases hm : R.mode = "late"
      · refine ⟨cs, h1, by rw [if_pos hm], ?_⟩
        rw [List.filter_cons_of_neg (by simp [tellsE, hm])]; exact h3
      · refine ⟨c :: cs, fun x hx => ?_, by rw [if_neg hm]; simp, ?_⟩
        · rcases List.mem_cons.mp hx with rfl | hx
          · exact hc
          · exact h1 x hx
        · rw [List.filter_cons_of_pos (by simp [tellsE, hm])]; simp [h3]
    | cl l =>
      by_cases hm : R.mode = "late"
      · refine ⟨c :: cs, fun x hx => ?_, by show (if R.mode = "late" then t.told ++ [c] else t.told) ++ cs = _; rw [if_pos hm]; simp, ?_⟩
        · rcases List.mem_cons.mp hx with rfl | hx
          · exact hc
          · exact h1 x hx
        · rw [List.filter_cons_of_pos (by simp [tellsE, hm])]; simp [h3]
      · refine ⟨cs, h1, by show (if R.mode = "late" then t.told ++ [c] else t.told) ++ cs = _; rw [if_neg hm], ?_⟩
        rw [List.filter_cons_of_neg (by simp [tellsE, hm])]; exact h3
theorem valid_pre : ∀ (a b : List Ev) (fst : Bool) (stk : List Str), Valid fst stk (a ++ b) → Valid fst stk a
  | [], _, _, _, _ => trivial
  | .op l :: a, b, _, _, h => ⟨h.1, h.2.1, valid_pre a b _ _ h.2.2⟩
  | .cl l :: a, b, _, _, ⟨r, e, h⟩ => ⟨r, e, valid_pre a b _ _ h⟩
theorem ts0_ok {R : RF} (W : WF R) : Stands R (ts0 R) ((List.range R.marks).map fun i : Nat => (0 : Int) + i) 0 := by
  have n0 := W.n0
  have hmk := W.mks
  exact ⟨n0, by simp [ts0, rangeD, nums], by simp; exact hmk, fun p hp => by simp [ts0] at hp, by simp [ts0], by simp [ts0]⟩
theorem tell_said {R : RF} (W : WF R) {es : List Ev} (hv : Valid true [] es) : (∀ c ∈ tellF R es, saidD c) ∧ (tellF R es).length = (es.filter (tellsE R.mode)).length := by
  obtain ⟨cs, h1, h2, h3⟩ := run_told W es (ts0 R) _ 0 true (ts0_ok W) hv
  have e : tellF R es = cs := by
    show (runF R (ts0 R) es).told = cs
    rw [h2]; rfl
  rw [e]; exact ⟨h1, h3⟩
theorem told_grows {R : RF} : ∀ (b : List Ev) (t : TS), ∃ cs, (runF R t b).told = t.told ++ cs
  | [], t => ⟨[], by simp [runF]⟩
  | e :: b, t => by
    obtain ⟨cs, h⟩ := told_grows (R := R) b (stepF R t e)
    have e4 : runF R t (e :: b) = runF R (stepF R t e) b := rfl
    have st : ∃ c, (stepF R t e).told = t.told ++ c := by
      cases e with
      | op l =>
        by_cases hm : R.mode = "late"
        · exact ⟨[], by simp [stepF, hm]⟩
        · exact ⟨[(openF R t.st (.str l)).2.2], by simp [stepF, hm]⟩
      | cl l =>
        cases hs : t.stk with
        | nil => exact ⟨[], by simp [stepF, hs]⟩
        | cons p r =>
          by_cases hm : R.mode = "late"
          · exact ⟨[(closeF R t.st p.2 p.1).2], by simp [stepF, hs, hm]⟩
          · exact ⟨[], by simp [stepF, hs, hm]⟩
    obtain ⟨c, ec⟩ := st
    exact ⟨c ++ cs, by rw [e4, h, ec, List.append_assoc]⟩
theorem tell_take {R : RF} (W : WF R) {es : List Ev} (hv : Valid true [] es) (i : Nat) : tellF R (es.take i) = (tellF R es).take ((es.take i).filter (tellsE R.mode)).length := by
  have hv2 : Valid true [] (es.take i) := valid_pre _ (es.drop i) _ _ (by rw [List.take_append_drop]; exact hv)
  obtain ⟨_, l⟩ := tell_said W hv2
  obtain ⟨cs, e⟩ := told_grows (R := R) (es.drop i) (runF R (ts0 R) (es.take i))
  have e2 : tellF R es = tellF R (es.take i) ++ cs := by
    show (runF R (ts0 R) es).told = _
    rw [show runF R (ts0 R) es = runF R (runF R (ts0 R) (es.take i)) (es.drop i) by unfold runF; rw [← List.foldl_append, List.take_append_drop], e]; rfl
  rw [e2, ← l, List.take_left']; rfl
theorem said_lay : ∀ ds : List D, (∀ d ∈ ds, saidD d) → PyData.canLayAll0 (pyL ds) = true ∧ PyData.depthAll (pyL ds) ≤ 10 ∧ PyData.eqvAll (pyL ds) (pyL ds) = true
  | [], _ => by simp [pyL, PyData.canLayAll0, PyData.depthAll, PyData.eqvAll]
  | d :: ds, h => by
    obtain ⟨i1, i2, i3⟩ := said_lay ds fun p hp => h p (List.mem_cons_of_mem _ hp)
    rcases h d List.mem_cons_self with rfl | ⟨z, rfl, hz⟩
    · simp only [pyL, py, PyData.canLayAll0, PyData.canLay0, PyData.depthAll, PyData.depth, PyData.eqvAll, PyData.eqv, i1, i3]
      exact ⟨rfl, by omega, rfl⟩
    · simp only [pyL, py, PyData.canLayAll0, PyData.canLay0, PyData.depthAll, PyData.depth, PyData.eqvAll, PyData.eqv, i1, i3, hz]
      exact ⟨rfl, by omega, by simp⟩
theorem shSaid {h : DH} {ds : List D} (hd : ∀ d ∈ ds, saidD d) : SeqAt.shaped (pyH h (.tup ds)) = true := by
  obtain ⟨i1, i2, _⟩ := said_lay ds hd
  show SeqAt.shaped (.tuple (pyL ds)) = true
  simp only [SeqAt.shaped, PyData.canLay0, PyData.depth, i1, Bool.true_and]
  exact dT (by omega)
theorem eqSaid {h : DH} {ds : List D} (hd : ∀ d ∈ ds, saidD d) : PyData.eqv (pyH h (.tup ds)) (pyH h (.tup ds)) = true := by
  obtain ⟨_, _, i3⟩ := said_lay ds hd
  show PyData.eqv (.tuple (pyL ds)) (.tuple (pyL ds)) = true
  simp only [PyData.eqv, i3]
end LK
set_option Elab.async false
set_option linter.all false
set_option maxRecDepth 100000
set_option maxHeartbeats 4000000
namespace LK
open PySem PySem.Spec PyProof.Rows L2 DL
variable {K : PySem.W.Frag} {mg : Str → Option Value}
/-! ### runs: their parts -/
theorem len_Run_state (ds : List D) (h : DH) (Qd : D → DH → Prop) (q : sp_Run_state K ds h Qd) : ds.length = 1 := by
  unfold sp_Run_state at q
  repeat (first | (obtain ⟨e, _⟩ := q; subst e; rfl) | obtain ⟨_, q⟩ := q)
theorem read_Run_state (M : Md K mg) (ds : List D) (h : DH) (Qd : D → DH → Prop) (q : sp_Run_state K ds h Qd) : t_Run_state K ⟨fun _ h' => Qd .non h', Qd, fun _ _ => False, fun _ _ => False⟩ (st0 N_Run_state.length ds) h := by
  obtain ⟨a, b, c, d, e, f, g, rfl, q⟩ := q
  exact ⟨2, _, by simp [cs_own_state], rfl, q⟩
theorem len_Run_free (ds : List D) (h : DH) (Qd : D → DH → Prop) (q : sp_Run_free K ds h Qd) : ds.length = 1 := by
  unfold sp_Run_free at q
  repeat (first | (obtain ⟨e, _⟩ := q; subst e; rfl) | obtain ⟨_, q⟩ := q)
theorem read_Run_free (M : Md K mg) (ds : List D) (h : DH) (Qd : D → DH → Prop) (q : sp_Run_free K ds h Qd) : t_Run_free K ⟨fun _ h' => Qd .non h', Qd, fun _ _ => False, fun _ _ => False⟩ (st0 N_Run_free.length ds) h := by
  obtain ⟨a, b, c, d, e, f, g, rfl, q⟩ := q
  exact ⟨3, _, by simp [cs_own_free], rfl, q⟩
theorem len_Run_way (ds : List D) (h : DH) (Qd : D → DH → Prop) (q : sp_Run_way K ds h Qd) : ds.length = 1 := by
  unfold sp_Run_way at q
  repeat (first | (obtain ⟨e, _⟩ := q; subst e; rfl) | obtain ⟨_, q⟩ := q)
theorem read_Run_way (M : Md K mg) (ds : List D) (h : DH) (Qd : D → DH → Prop) (q : sp_Run_way K ds h Qd) : t_Run_way K ⟨fun _ h' => Qd .non h', Qd, fun _ _ => False, fun _ _ => False⟩ (st0 N_Run_way.length ds) h := by
  obtain ⟨a, b, c, d, e, f, g, rfl, q⟩ := q
  exact ⟨4, _, by simp [cs_own_way], rfl, q⟩
theorem len_Run_lying (ds : List D) (h : DH) (Qd : D → DH → Prop) (q : sp_Run_lying K ds h Qd) : ds.length = 1 := by
  unfold sp_Run_lying at q
  repeat (first | (obtain ⟨e, _⟩ := q; subst e; rfl) | obtain ⟨_, q⟩ := q)
theorem read_Run_lying (M : Md K mg) (ds : List D) (h : DH) (Qd : D → DH → Prop) (q : sp_Run_lying K ds h Qd) : t_Run_lying K ⟨fun _ h' => Qd .non h', Qd, fun _ _ => False, fun _ _ => False⟩ (st0 N_Run_lying.length ds) h := by
  obtain ⟨a, b, c, d, e, f, g, rfl, q⟩ := q
  exact ⟨5, _, by simp [cs_own_lying], rfl, q⟩
theorem len_Run_told (ds : List D) (h : DH) (Qd : D → DH → Prop) (q : sp_Run_told K ds h Qd) : ds.length = 1 := by
  unfold sp_Run_told at q
  repeat (first | (obtain ⟨e, _⟩ := q; subst e; rfl) | obtain ⟨_, q⟩ := q)
theorem read_Run_told (M : Md K mg) (ds : List D) (h : DH) (Qd : D → DH → Prop) (q : sp_Run_told K ds h Qd) : t_Run_told K ⟨fun _ h' => Qd .non h', Qd, fun _ _ => False, fun _ _ => False⟩ (st0 N_Run_told.length ds) h := by
  obtain ⟨a, b, c, d, e, f, g, rfl, q⟩ := q
  exact ⟨6, _, by simp [cs_own_told], rfl, q⟩
theorem len_Run_reader (ds : List D) (h : DH) (Qd : D → DH → Prop) (q : sp_Run_reader K ds h Qd) : ds.length = 1 := by
  unfold sp_Run_reader at q
  repeat (first | (obtain ⟨e, _⟩ := q; subst e; rfl) | obtain ⟨_, q⟩ := q)
theorem read_Run_reader (M : Md K mg) (ds : List D) (h : DH) (Qd : D → DH → Prop) (q : sp_Run_reader K ds h Qd) : t_Run_reader K ⟨fun _ h' => Qd .non h', Qd, fun _ _ => False, fun _ _ => False⟩ (st0 N_Run_reader.length ds) h := by
  obtain ⟨a, b, c, d, e, f, g, rfl, q⟩ := q
  exact ⟨0, _, by simp [cs_own_reader], rfl, q⟩
theorem len_Run_u__init_u_ (ds : List D) (h : DH) (Qd : D → DH → Prop) (q : sp_Run_u__init_u_ K ds h Qd) : ds.length = 6 := by
  unfold sp_Run_u__init_u_ at q
  repeat (first | (obtain ⟨e, _⟩ := q; subst e; rfl) | obtain ⟨_, q⟩ := q)
theorem read_Run_u__init_u_ (M : Md K mg) (ds : List D) (h : DH) (Qd : D → DH → Prop) (q : sp_Run_u__init_u_ K ds h Qd) : t_Run_u__init_u_ K ⟨fun _ h' => Qd .non h', Qd, fun _ _ => False, fun _ _ => False⟩ (st0 N_Run_u__init_u_.length ds) h := by
  obtain ⟨p, a, b, c, d, e, f, g, rfl, hp, q⟩ := q
  refine ⟨_, _, 0, hp, by simp [cs_own_reader], by simp, ?_⟩
  refine ⟨_, _, 1, up_same, by simp [cs_own_events], by simp [setV], ?_⟩
  refine ⟨rfl, _, _, 2, up_same, by simp [cs_own_state], by simp [setV], _, _, 3, up_same, by simp [cs_own_free], by simp [setV], ?_⟩
  refine ⟨rfl, _, _, 4, up_same, by simp [cs_own_way], by simp [setV], _, _, 5, up_same, by simp [cs_own_lying], by simp [setV], ?_⟩
  refine ⟨_, _, 6, up_same, by simp [cs_own_told], by simp [setV], ?_⟩
  rw [up_up, up_up, up_up, up_up, up_up, up_up]
  exact q
/-! ### the run behind some events -/
theorem run_stands {R : RF} (W : WF R) : ∀ (es : List Ev) (t : TS) (fi : List Int) (k : Nat) (fst : Bool), Stands R t fi k → Valid fst (t.stk.map (·.1)) es → ∃ gi, Stands R (runF R t es) gi (k + es.length)
  | [], t, fi, k, _, h, _ => ⟨fi, h⟩
  | .op l :: es, t, fi, k, fst, h, hv => by
    obtain ⟨_, gl, hv'⟩ := hv
    obtain ⟨s', ms, c, js, e1, e2, e3, e4, e5⟩ := stands_op W h gl
    obtain ⟨gi, q⟩ := run_stands W es (stepF R t (.op l)) js (k + 1) false e5 (by rw [e4]; exact hv')
    refine ⟨gi, ?_⟩
    rw [List.length_cons, show k + (es.length + 1) = k + 1 + es.length by omega]
    exact q
  | .cl l :: es, t, fi, k, fst, h, hv => by
    obtain ⟨rl, er, hv'⟩ := hv
    obtain ⟨p, rest, es2⟩ : ∃ p rest, t.stk = p :: rest := by
      cases hh : t.stk with
      | nil => rw [hh] at er; cases er
      | cons p rest => exact ⟨p, rest, rfl⟩
    obtain ⟨l2, laid⟩ := p
    have el : l2 = l ∧ rest.map (·.1) = rl := by rw [es2] at er; simpa using er
    obtain ⟨rfl, rfl⟩ := el
    obtain ⟨s', c, li, js, e1, e2, e2', e3, e4, e5⟩ := stands_cl W h es2
    obtain ⟨gi, q⟩ := run_stands W es (stepF R t (.cl l2)) js (k + 1) false e5 (by rw [e4]; exact hv')
    refine ⟨gi, ?_⟩
    rw [List.length_cons, show k + (es.length + 1) = k + 1 + es.length by omega]
    exact q
theorem ts0_stands {R : RF} (W : WF R) : Stands R (ts0 R) ((List.range R.marks).map fun i : Nat => (0 : Int) + i) 0 := by
  have hmk := W.mks
  exact ⟨W.n0, by simp [ts0, rangeD, nums], by simp; exact hmk, fun p hp => by simp [ts0] at hp, by simp [ts0], by simp [ts0]⟩
theorem runX_stands {R : RF} (W : WF R) {es : List Ev} (h : EvOk es) : ∃ fi, Stands R (runF R (ts0 R) es) fi es.length := by
  obtain ⟨fi, q⟩ := run_stands W es (ts0 R) _ 0 true (ts0_stands W) h.1
  exact ⟨fi, by rw [Nat.zero_add] at q; exact q⟩
theorem runF_app {R : RF} {t : TS} {es fs : List Ev} : runF R t (es ++ fs) = runF R (runF R t es) fs := List.foldl_append
/-- the labels on the stack as the events say -/
theorem valid_split : ∀ (es fs : List Ev) (fst : Bool) (stk : List Str) {R : RF} {t : TS}, stk = t.stk.map (·.1) → Valid fst stk (es ++ fs) → Valid (fst && es.isEmpty) ((runF R t es).stk.map (·.1)) fs
  | [], fs, fst, stk, R, t, e, h => by
    subst e
    show Valid (fst && true) (t.stk.map (·.1)) fs
    rw [Bool.and_true]; exact h
  | .op l :: es, fs, fst, stk, R, t, e, h => by
    obtain ⟨_, _, h'⟩ := h
    have := valid_split es fs false (l :: stk) (R := R) (t := stepF R t (.op l)) (by rw [e]; rfl) h'
    show Valid (fst && false) ((runF R (stepF R t (.op l)) es).stk.map (·.1)) fs
    rw [Bool.and_false]; exact this
  | .cl l :: es, fs, fst, stk, R, t, e, h => by
    obtain ⟨rest, er, h'⟩ := h
    have es2 : ∃ p r, t.stk = p :: r ∧ r.map (·.1) = rest := by
      subst e
      cases hh : t.stk with
      | nil => rw [hh] at er; cases er
      | cons p r => rw [hh] at er; exact ⟨p, r, rfl, by simpa using (List.cons.inj er).2⟩
    obtain ⟨p, r, e1, e2⟩ := es2
    have := valid_split es fs false rest (R := R) (t := stepF R t (.cl l)) (by rw [← e2]; obtain ⟨l2, laid⟩ := p; simp only [stepF, e1]) h'
    show Valid (fst && false) ((runF R (stepF R t (.cl l)) es).stk.map (·.1)) fs
    rw [Bool.and_false]; exact this
/-! ### shapes -/
theorem evD_lay {m : Str} {e : Ev} {l : Str} (he : e = .op l ∨ e = .cl l) (hl : goodName l) : PyData.canLay0 (py (evD m e)) = true ∧ (py (evD m e)).depth ≤ 2 := by
  have s1 : PyData.strOk l = true := hl.s
  have s2 : PyData.strOk "open" = true := by decide +kernel
  have s3 : PyData.strOk "close" = true := by decide +kernel
  rcases he with rfl | rfl
  · simp [evD, py, pyL, PyData.canLay0, PyData.canLayAll0, PyData.depth, PyData.depthAll, s1, s2]
  · by_cases hm : m = "named" <;> simp [evD, hm, py, pyL, PyData.canLay0, PyData.canLayAll0, PyData.depth, PyData.depthAll, s1, s3]
/-- the label of an event -/
def evL : Ev → Str
  | .op l => l
  | .cl l => l
theorem evL_or (e : Ev) : e = .op (evL e) ∨ e = .cl (evL e) := by cases e <;> simp [evL]
theorem valid_good : ∀ (es : List Ev) (fst : Bool) (stk : List Str), (∀ l ∈ stk, goodName l) → Valid fst stk es → ∀ e ∈ es, goodName (evL e)
  | [], _, _, _, _, e, he => by cases he
  | .op l :: es, fst, stk, hs, ⟨_, gl, hv⟩, e, he => by
    rcases List.mem_cons.mp he with rfl | he
    · exact gl
    · exact valid_good es false (l :: stk) (fun x hx => by rcases List.mem_cons.mp hx with rfl | hx; exact gl; exact hs x hx) hv e he
  | .cl l :: es, fst, stk, hs, ⟨rest, er, hv⟩, e, he => by
    subst er
    rcases List.mem_cons.mp he with rfl | he
    · exact hs l List.mem_cons_self
    · exact valid_good es false rest (fun x hx => hs x (List.mem_cons_of_mem _ hx)) hv e he
theorem lay_evs (m : Str) : ∀ es : List Ev, (∀ e ∈ es, goodName (evL e)) → PyData.canLayAll0 (pyL (es.map (evD m))) = true ∧ PyData.depthAll (pyL (es.map (evD m))) ≤ 3
  | [], _ => by simp [pyL, PyData.canLayAll0, PyData.depthAll]
  | e :: es, h => by
    obtain ⟨i1, i2⟩ := lay_evs m es fun e he => h e (List.mem_cons_of_mem _ he)
    obtain ⟨h1, h2⟩ := evD_lay (m := m) (evL_or e) (h e List.mem_cons_self)
    simp only [List.map_cons, pyL, PyData.canLayAll0, PyData.depthAll, h1, i1]
    exact ⟨rfl, by omega⟩
theorem shEvs {h : DH} {m : Str} {es : List Ev} (he : ∀ e ∈ es, goodName (evL e)) : SeqAt.shaped (pyH h (.tup (es.map (evD m)))) = true := by
  obtain ⟨i1, i2⟩ := lay_evs m es he
  simp only [pyH, py, SeqAt.shaped, PyData.canLay0, PyData.depth, i1, Bool.true_and]
  exact dT (by omega)
theorem EvOk.good {es : List Ev} (h : EvOk es) : ∀ e ∈ es, goodName (evL e) := valid_good es true [] (fun _ hx => by cases hx) h.1
theorem eqvT0 {h : DH} {ds : List D} : PyData.eqv (pyH h (.tup ds)) (pyH h (.tup [])) = ds.isEmpty := by
  cases ds <;> simp [pyH, py, pyL, PyData.eqv, PyData.eqvAll]
theorem lay_txs : ∀ zs : List Str, (∀ z ∈ zs, goodName z) → PyData.canLayAll0 (pyL (txs zs)) = true ∧ PyData.depthAll (pyL (txs zs)) ≤ 1
  | [], _ => by simp [pyL, PyData.canLayAll0, PyData.depthAll]
  | z :: zs, h => by
    obtain ⟨i1, i2⟩ := lay_txs zs fun e he => h e (List.mem_cons_of_mem _ he)
    have s1 : PyData.strOk z = true := (h z List.mem_cons_self).s
    simp only [txs, List.map_cons, pyL, py, PyData.canLay0, PyData.canLayAll0, PyData.depthAll, PyData.depth, s1, i1] at *
    exact ⟨rfl, by omega⟩
theorem wayD_eq (stk : List (Str × List D)) : wayD stk = txs (stk.reverse.map (·.1)) := by simp [wayD, txs]
theorem shWay {h : DH} {R : RF} {t : TS} {fi : List Int} {k : Nat} (H : Stands R t fi k) : SeqAt.shaped (pyH h (.tup (wayD t.stk))) = true := by
  obtain ⟨i1, i2⟩ := lay_txs (t.stk.reverse.map (·.1)) fun z hz => by
    obtain ⟨p, hp, rfl⟩ := List.mem_map.mp hz
    exact (H.sk p (List.mem_reverse.mp hp)).1
  rw [wayD_eq]
  simp only [pyH, py, SeqAt.shaped, PyData.canLay0, PyData.depth, i1, Bool.true_and]
  exact dT (by omega)
theorem wayD_nil (stk : List (Str × List D)) : (wayD stk).isEmpty = stk.isEmpty := by cases stk <;> simp [wayD]
theorem len_Run_is_done (ds : List D) (h : DH) (Qd : D → DH → Prop) (q : sp_Run_is_done K ds h Qd) : ds.length = 1 := by
  unfold sp_Run_is_done at q
  repeat (first | (obtain ⟨e, _⟩ := q; subst e; rfl) | obtain ⟨_, q⟩ := q)
theorem read_Run_is_done (M : Md K mg) (ds : List D) (h : DH) (Qd : D → DH → Prop) (q : sp_Run_is_done K ds h Qd) : t_Run_is_done K ⟨fun _ h' => Qd .non h', Qd, fun _ _ => False, fun _ _ => False⟩ (st0 N_Run_is_done.length ds) h := by
  obtain ⟨r, R, es, rfl, W, ok, q⟩ := q
  obtain ⟨fi, S⟩ := runX_stands W ok
  refine ⟨1, _, by simp [cs_own_events], rfl, small (by simp), shEvs ok.good, shT0, ?_⟩
  rw [eqvT0]
  cases es with
  | nil => exact ⟨fun e => (nomatch e), fun _ => q⟩
  | cons e es =>
    refine ⟨fun _ => ⟨4, _, by simp [cs_own_way], rfl, small (by simp), shWay S, shT0, ?_⟩, fun e => (nomatch e)⟩
    rw [eqvT0, wayD_nil]
    exact q
end LK
set_option Elab.async false
set_option linter.all false
set_option maxRecDepth 100000
set_option maxHeartbeats 4000000
namespace LK
open PySem PySem.Spec PyProof.Rows L2 DL
/-! ### trees that can be compared: their shape, their equality to themselves -/
def Lay (n : Nat) (d : D) : Prop := PyData.canLay0 (py d) = true ∧ (py d).depth ≤ n ∧ PyData.eqv (py d) (py d) = true
theorem Lay.mono {n m : Nat} {d : D} (l : Lay n d) (h : n ≤ m) : Lay m d := ⟨l.1, Nat.le_trans l.2.1 h, l.2.2⟩
theorem layN {n : Nat} : Lay n .non := by refine ⟨?_, ?_, ?_⟩ <;> simp [py, PyData.canLay0, PyData.depth, PyData.eqv]
theorem layB {n : Nat} (b : Bool) : Lay n (.bl b) := by refine ⟨?_, ?_, ?_⟩ <;> simp [py, PyData.canLay0, PyData.depth, PyData.eqv]
theorem layI {n : Nat} (i : Int) : Lay n (.int i) := by refine ⟨?_, ?_, ?_⟩ <;> simp [py, PyData.canLay0, PyData.depth, PyData.eqv]
theorem layS {n : Nat} {z : Str} (h : sOk z) : Lay n (.str z) := by
  have h : PyData.strOk z = true := h
  refine ⟨?_, ?_, ?_⟩ <;> simp [py, PyData.canLay0, PyData.depth, PyData.eqv, h]
theorem layAll {n : Nat} : ∀ {xs : List D}, (∀ x ∈ xs, Lay n x) → PyData.canLayAll0 (pyL xs) = true ∧ PyData.depthAll (pyL xs) ≤ n ∧ PyData.eqvAll (pyL xs) (pyL xs) = true
  | [], _ => by simp [pyL, PyData.canLayAll0, PyData.depthAll, PyData.eqvAll]
  | x :: xs, h => by
    obtain ⟨a1, a2, a3⟩ := layAll fun y hy => h y (List.mem_cons_of_mem _ hy)
    obtain ⟨b1, b2, b3⟩ := h x List.mem_cons_self
    simp only [pyL, PyData.canLayAll0, PyData.depthAll, PyData.eqvAll, a1, a3, b1, b3]
    exact ⟨rfl, by omega, rfl⟩
theorem layT {n : Nat} {xs : List D} (h : ∀ x ∈ xs, Lay n x) : Lay (n + 1) (.tup xs) := by
  obtain ⟨a1, a2, a3⟩ := layAll h
  refine ⟨?_, ?_, ?_⟩
  · simpa only [py, PyData.canLay0] using a1
  · simp only [py, PyData.depth]; omega
  · simpa only [py, PyData.eqv] using a3
theorem layL {n : Nat} {xs : List D} (h : ∀ x ∈ xs, Lay n x) : Lay (n + 1) (.lv xs) := by
  obtain ⟨a1, a2, a3⟩ := layAll h
  refine ⟨?_, ?_, ?_⟩
  · simpa only [py, PyData.canLay0] using a1
  · simp only [py, PyData.depth]; omega
  · simpa only [py, PyData.eqv] using a3
theorem Lay.py_eq {n : Nat} {d : D} (l : Lay n d) {h : DH} : pyH h d = py d := by
  cases d with
  | ref p => exact absurd l.1 (by simp [py, PyData.canLay0])
  | _ => rfl
theorem Lay.sh {n : Nat} {d : D} (l : Lay n d) {h : DH} (hn : n ≤ 60 := by decide) : SeqAt.shaped (pyH h d) = true := by
  rw [l.py_eq]
  have := l.2.1
  simp only [SeqAt.shaped, l.1, Bool.true_and]
  exact dT (by omega)
theorem Lay.eq {n : Nat} {d : D} (l : Lay n d) {h : DH} : PyData.eqv (pyH h d) (pyH h d) = true := by rw [l.py_eq]; exact l.2.2
theorem Lay.ne {n : Nat} {d : D} (l : Lay n d) {h : DH} : (!PyData.eqv (pyH h d) (pyH h d)) = false := by rw [l.eq]; rfl
theorem all_nil {α : Type} {P : α → Prop} : ∀ x ∈ ([] : List α), P x := fun _ h => by cases h
theorem all_cons {α : Type} {P : α → Prop} {a : α} {l : List α} (h : P a) (t : ∀ x ∈ l, P x) : ∀ x ∈ a :: l, P x := fun x hx => by rcases List.mem_cons.mp hx with rfl | hx; exact h; exact t x hx
theorem layNums {n : Nat} (is : List Int) : ∀ x ∈ nums is, Lay n x := fun x hx => by obtain ⟨i, _, rfl⟩ := List.mem_map.mp hx; exact layI i
theorem layTxs {n : Nat} {zs : List Str} (h : ∀ z ∈ zs, sOk z) : ∀ x ∈ txs zs, Lay n x := fun x hx => by obtain ⟨z, hz, rfl⟩ := List.mem_map.mp hx; exact layS (h z hz)
theorem laySaid {n : Nat} {ds : List D} (h : ∀ d ∈ ds, saidD d) : ∀ d ∈ ds, Lay n d := fun d hd => by
  rcases h d hd with rfl | ⟨z, rfl, hz⟩
  · exact layN
  · exact layS hz
theorem layEv {m : Str} {e : Ev} (he : goodName (evL e)) : Lay 1 (evD m e) := by
  have s2 : sOk "open" := by unfold sOk; decide +kernel
  have s3 : sOk "close" := by unfold sOk; decide +kernel
  rcases evL_or e with h | h
  · rw [h]; exact layT (all_cons (layS s2) (all_cons (layS he.s) all_nil))
  · rw [h]
    by_cases hm : m = "named"
    · rw [show evD m (.cl (evL e)) = .tup [.str "close", .str (evL e)] by simp [evD, hm]]
      exact layT (all_cons (layS s3) (all_cons (layS he.s) all_nil))
    · rw [show evD m (.cl (evL e)) = .tup [.str "close"] by simp [evD, hm]]
      exact layT (all_cons (layS s3) all_nil)
theorem layEvs {m : Str} {es : List Ev} (he : ∀ e ∈ es, goodName (evL e)) : ∀ x ∈ es.map (evD m), Lay 1 x := fun x hx => by obtain ⟨e, h, rfl⟩ := List.mem_map.mp hx; exact layEv (he e h)
theorem layMs {m : Nat} {ms : List D} (h : MarksOk m ms) : Lay 1 (.tup ms) := by obtain ⟨is, rfl, _⟩ := h; exact layT (layNums is)
/-! ### numbers as texts -/
theorem num_ok {n : Nat} (h : n ≤ 100) : ((toString (n : Int) : Str)).length ≤ 10 ∧ sOk (toString (n : Int) : Str) := by
  have key : ∀ n ∈ List.range 101, (decide (((toString (n : Int) : Str)).length ≤ 10) && PyData.strOk (toString (n : Int) : Str)) = true := by decide +kernel
  have z := key n (List.mem_range.mpr (by omega))
  obtain ⟨a, b⟩ := Bool.and_eq_true_iff.mp z
  exact ⟨of_decide_eq_true a, b⟩
theorem sOk_app {a b : Str} (ha : sOk a) (hb : sOk b) : sOk (a ++ b) := by
  unfold sOk PyData.strOk at *
  rw [Str.cps_append, Array.all_append, ha, hb]; rfl
theorem app_len (a b : Str) : (a ++ b).length = a.length + b.length := Str.length_append a b
theorem nlog {n : Nat} (h : n ≤ 100) : (n : Int).natAbs.log2 < 1920 := by
  have : n < 2 ^ 1920 := Nat.lt_of_le_of_lt h (by decide)
  by_cases z : n = 0
  · subst z; decide
  · exact (Nat.log2_lt (by simpa using z)).mpr (by simpa using this)
end LK
set_option Elab.async false
set_option linter.all false
set_option maxRecDepth 100000
set_option maxHeartbeats 4000000
namespace LK
open PySem PySem.Spec PyProof.Rows L2 DL
variable {K : PySem.W.Frag} {mg : Str → Option Value}
theorem wayD_len (stk : List (Str × List D)) : (wayD stk).length = stk.length := by simp [wayD]
theorem lyD_len (stk : List (Str × List D)) : (lyD stk).length = stk.length := by simp [lyD]
theorem stD_len (stk : List (Str × List D)) : (stD stk).length = stk.length := by simp [stD]
theorem lit_len : ("run of " : Str).length = 7 ∧ (" events, depth " : Str).length = 15 ∧ sOk ("run of " : Str) ∧ sOk (" events, depth " : Str) ∧ Str.empty ++ ("run of " : Str) = ("run of " : Str) ∧ Str.empty.length = 0 := by
  unfold sOk; refine ⟨?_, ?_, ?_, ?_, ?_, ?_⟩ <;> decide +kernel
theorem strRun_ok {n d : Nat} (hn : n ≤ 100) (hd : d ≤ 100) : sOk (strRun n d) := by
  obtain ⟨l1, l2, s1, s2, e0, l0⟩ := lit_len
  exact sOk_app (sOk_app (sOk_app s1 (num_ok hn).2) s2) (num_ok hd).2
theorem len_Reader_run (ds : List D) (h : DH) (Qd : D → DH → Prop) (q : sp_Reader_run K ds h Qd) : ds.length = 1 := by
  unfold sp_Reader_run at q
  repeat (first | (obtain ⟨e, _⟩ := q; subst e; rfl) | obtain ⟨_, q⟩ := q)
theorem read_Reader_run (M : Md K mg) (ds : List D) (h : DH) (Qd : D → DH → Prop) (q : sp_Reader_run K ds h Qd) : t_Reader_run K (sp_Run_u__init_u_ K) (sp_every_mark K) ⟨fun _ h' => Qd .non h', Qd, fun _ _ => False, fun _ _ => False⟩ (st0 N_Reader_run.length ds) h := by
  obtain ⟨R, r, rfl, W, hr, q⟩ := q
  refine ⟨small (by simp), ?_⟩
  refine ⟨R, r, rfl, W, hr, small (by simp), small (by simp), small (by simp), small (by simp), small (by simp), ?_⟩
  intro p hp
  refine ⟨p, _, _, _, _, _, _, _, rfl, up_same, rfl, _, up_same, ?_⟩
  rw [up_up, del_up hp]
  exact q
end LK
set_option Elab.async false
set_option linter.all false
set_option maxRecDepth 100000
set_option maxHeartbeats 4000000
namespace LK
open PySem PySem.Spec PyProof.Rows L2 DL
variable {K : PySem.W.Frag} {mg : Str → Option Value}
theorem eqvEvs {m : Str} : ∀ {es fs : List Ev}, es.length ≠ fs.length → PyData.eqvAll (pyL (es.map (evD m))) (pyL (fs.map (evD m))) = false
  | [], [], h => absurd rfl h
  | [], _ :: _, _ => by simp [pyL, PyData.eqvAll]
  | _ :: _, [], _ => by simp [pyL, PyData.eqvAll]
  | e :: es, f :: fs, h => by
    have := eqvEvs (m := m) (es := es) (fs := fs) (by simpa using h)
    simp only [List.map_cons, pyL, PyData.eqvAll, this, Bool.and_false]
/-! ### the run behind one more event -/
abbrev rbTail (K : PySem.W.Frag) (si : SpD) : TSD := rSeq (rAsg (rIf (rTest (rOp dNe (rOp dEq (rOp dIx (rVar 1) (rC (.int 0))) (rC (.str "open"))) (rVar 3))) (rTup (rStar (rFld (cs_own_told K) (rVar 0)) (rCons (rVar 7) rNil))) (rFld (cs_own_told K) (rVar 0))) (dName 9))
  (rRet (rMake (He.ga K "Run") si [] (rCons (rVar 2) (rCons (rTup (rStar (rFld (cs_own_events K) (rVar 0)) (rCons (rVar 1) rNil))) (rCons (rTup (rCons (rVar 4) (rCons (rVar 5) rNil))) (rCons (rVar 8) (rCons (rVar 9) rNil)))))))
theorem rb_tail {Dd : EndsD} {h : DH} {r a c d e s' f' col w' l' : D} {x6 : Option D} {evs told xs : List D} {z : Str} {isO late : Bool} (hz : sOk z) (ho : PyData.eqv (.str z) (.str "open") = isO) (l1 : evs.length ≤ 900) (l2 : told.length ≤ 900)
    (q : Dd.rt (.iv (He.ga K "Run") [r, .tup (evs ++ [.tup (.str z :: xs)]), s', f', w', l', .tup (if (isO == late) = true then told else told ++ [col])]) h) :
    rbTail K (sp_Run_u__init_u_ K) Dd [some (.iv (He.ga K "Run") [r, .tup evs, a, c, d, e, .tup told]), some (.tup (.str z :: xs)), some r, some (.bl late), some s', some f', x6, some col, some (.tup [w', l']), none] h := by
  refine ⟨_, atI_l0, shS hz, shS sOpen, shB _, shB _, ?_⟩
  rw [bl_eqv]
  have e1 : PyData.eqv (pyH h (.str z)) (pyH h (.str "open")) = isO := ho
  rw [e1]
  have fin : ∀ t : List D, t = (if (isO == late) = true then told else told ++ [col]) → rRet (rMake (He.ga K "Run") (sp_Run_u__init_u_ K) [] (rCons (rVar 2) (rCons (rTup (rStar (rFld (cs_own_events K) (rVar 0)) (rCons (rVar 1) rNil))) (rCons (rTup (rCons (rVar 4) (rCons (rVar 5) rNil))) (rCons (rVar 8) (rCons (rVar 9) rNil)))))) Dd
      [some (.iv (He.ga K "Run") [r, .tup evs, a, c, d, e, .tup told]), some (.tup (.str z :: xs)), some r, some (.bl late), some s', some f', x6, some col, some (.tup [w', l']), some (.tup t)] h := by
    rintro t rfl
    refine ⟨1, _, by simp [cs_own_events], rfl, small (by simp; omega), small (by simp), ?_⟩
    intro p hp
    refine ⟨p, _, _, _, _, _, _, _, rfl, up_same, rfl, _, up_same, ?_⟩
    rw [up_up, del_up hp]
    exact q
  refine ⟨fun eb => ?_, fun eb => ?_⟩
  · have eb' : (isO == late) = false := by simpa using eb
    exact ⟨6, _, by simp [cs_own_told], rfl, small (by simp; omega), fin _ (by rw [eb']; rfl)⟩
  · have eb' : (isO == late) = true := by simpa using eb
    exact ⟨6, _, by simp [cs_own_told], rfl, fin _ (by rw [if_pos eb'])⟩
theorem wayD_cons (p : Str × List D) (stk : List (Str × List D)) : wayD (p :: stk) = wayD stk ++ [.str p.1] := by simp [wayD]
theorem lyD_cons (p : Str × List D) (stk : List (Str × List D)) : lyD (p :: stk) = lyD stk ++ [.tup p.2] := by simp [lyD]
theorem runX_app {r : D} {R : RF} {es : List Ev} {e : Ev} : runX K r R (es ++ [e]) = runD K r R.mode (es ++ [e]) (stepF R (runF R (ts0 R) es) e) := by unfold runX; rw [runF_app]; rfl
theorem EvOk.pre {es fs : List Ev} (h : EvOk (es ++ fs)) : EvOk es := ⟨valid_pre _ _ _ _ h.1, by have := h.2; simp at this; omega⟩
theorem cutLast (xs : List D) (y : D) (hl : xs.length ≤ 900) : DL.cutD (xs ++ [y]) none (some (-1)) = xs := by
  have e : HT.sIx (xs ++ [y]).length (xs ++ [y]).length (some (-1)) = xs.length := by
    simp [HT.sIx]
    omega
  have e0 : HT.sIx (xs ++ [y]).length 0 none = 0 := by simp [HT.sIx]
  unfold DL.cutD
  rw [e, e0]
  simp
end LK
set_option Elab.async false
set_option linter.all false
set_option maxRecDepth 100000
set_option maxHeartbeats 4000000
namespace LK
open PySem PySem.Spec PyProof.Rows L2 DL
variable {K : PySem.W.Frag} {mg : Str → Option Value}
theorem len_run_behind (ds : List D) (h : DH) (Qd : D → DH → Prop) (q : sp_run_behind K ds h Qd) : ds.length = 2 := by
  unfold sp_run_behind at q
  repeat (first | (obtain ⟨e, _⟩ := q; subst e; rfl) | obtain ⟨_, q⟩ := q)
theorem read_run_behind (M : Md K mg) (ds : List D) (h : DH) (Qd : D → DH → Prop) (q : sp_run_behind K ds h Qd) : t_run_behind K (sp_opened K) (sp_closed K) (sp_Run_u__init_u_ K) ⟨fun _ h' => Qd .non h', Qd, fun _ _ => False, fun _ _ => False⟩ (st0 N_run_behind.length ds) h := by
  obtain ⟨r, R, es, e, rfl, W, hr, ok, q⟩ := q
  rw [runX_app] at q
  obtain ⟨fi, S⟩ := runX_stands W ok.pre
  have hv := valid_split es [e] true [] (R := R) (t := ts0 R) rfl ok.1
  have k1 := ok.pre.2
  have ltl := S.tl
  have lfl := S.fl
  have lsl := S.sl
  have hsk := S.sk
  unfold runX
  generalize runF R (ts0 R) es = t at *
  obtain ⟨os, cs, er, rl⟩ := id hr
  unfold runD at q ⊢
  have go : ∀ rr, rr = r → rSeq (rPar 2 3 (rCons (rFld (cs_own_reader K) (rVar 0)) (rCons (rOp dEq (rFld (cs_own_mode K) (rFld (cs_own_reader K) (rVar 0))) (rC (.str "late"))) rNil))) rNext
      ⟨fun sd h' => sd = [some (.iv (He.ga K "Run") [rr, .tup (es.map (evD R.mode)), .int (t.st : Nat), .tup t.free, .tup (wayD t.stk), .tup (lyD t.stk), .tup t.told]), some (evD R.mode e), some rr, some (.bl (decide (R.mode = "late"))), none, none, none, none, none, none] ∧ h' = h, fun _ _ => False, fun _ _ => False, fun _ _ => False⟩
      [some (.iv (He.ga K "Run") [rr, .tup (es.map (evD R.mode)), .int (t.st : Nat), .tup t.free, .tup (wayD t.stk), .tup (lyD t.stk), .tup t.told]), some (evD R.mode e), none, none, none, none, none, none, none, none] h := by
    rintro rr rfl
    subst er
    refine ⟨0, _, by simp [cs_own_reader], rfl, 0, _, by simp [cs_own_reader], rfl, 0, _, by simp [cs_own_mode], rfl, shS W.md.s, shS sLate, ?_⟩
    have e1 : PyData.eqv (pyH h (.str R.mode)) (pyH h (.str "late")) = decide (R.mode = "late") := eqS _ _
    rw [e1]
    exact ⟨rfl, rfl⟩
  cases e with
  | op l =>
    obtain ⟨_, gl, _⟩ := hv
    obtain ⟨s', ms, c, js, e1, e2, e3, e4, e5⟩ := stands_op W S gl
    subst er
    refine ⟨0, _, by simp [cs_own_reader], rfl, 0, _, by simp [cs_own_reader], rfl, 0, _, by simp [cs_own_mode], rfl, shS W.md.s, shS sLate, ?_⟩
    have em : PyData.eqv (pyH h (.str R.mode)) (pyH h (.str "late")) = decide (R.mode = "late") := eqS _ _
    rw [em]
    refine ⟨_, atI_l0, shS sOpen, shS sOpen, ⟨fun _ => ?_, fun e => no2 e⟩⟩
    refine ⟨2, _, by simp [cs_own_state], rfl, 3, _, by simp [cs_own_free], rfl, _, atI_l1, R, _, t.st, fi, l, congrArg (fun z => [_, _, D.tup z, _]) S.fr, W, hr, S.st, gl, by omega, ?_⟩
    rw [e1]
    refine ⟨rfl, ?_⟩
    refine ⟨4, _, by simp [cs_own_way], rfl, _, atI_l1, small (by simp [wayD_len]; omega), 5, _, by simp [cs_own_lying], rfl, small (by simp [lyD_len]; omega), small (by simp), ?_⟩
    refine rb_tail (isO := true) sOpen (by rw [eqS]; exact dT rfl) (by simp; omega) (by omega) ?_
    rw [e4] at q
    simp only [wayD_cons, lyD_cons] at q
    have eT : (if (true == decide (R.mode = "late")) = true then t.told else t.told ++ [c]) = if R.mode = "late" then t.told else t.told ++ [c] := by
      by_cases hm : R.mode = "late"
      · rw [if_pos hm, dT hm]; rfl
      · rw [if_neg hm, dF hm]; rfl
    rw [eT, e3]
    rw [List.map_append] at q
    exact q
  | cl l =>
    obtain ⟨rl', er', _⟩ := hv
    obtain ⟨p, rest, es2⟩ : ∃ p rest, t.stk = p :: rest := by
      cases hh : t.stk with
      | nil => rw [hh] at er'; cases er'
      | cons p rest => exact ⟨p, rest, rfl⟩
    obtain ⟨l2, laid⟩ := p
    have el : l2 = l ∧ rest.map (·.1) = rl' := by rw [es2] at er'; simpa using er'
    obtain ⟨rfl, rfl⟩ := el
    obtain ⟨gl, hms⟩ := hsk (l2, laid) (by rw [es2]; exact List.mem_cons_self)
    obtain ⟨s', c, li, js, e1, e2, e2', e3, e4, e5⟩ := stands_cl W S es2
    obtain ⟨xs, ex⟩ := evD_0 R.mode l2
    rw [ex]
    rw [List.map_append, show [Ev.cl l2].map (evD R.mode) = [.tup (.str "close" :: xs)] from congrArg (fun z => [z]) ex] at q
    subst er
    refine ⟨0, _, by simp [cs_own_reader], rfl, 0, _, by simp [cs_own_reader], rfl, 0, _, by simp [cs_own_mode], rfl, shS W.md.s, shS sLate, ?_⟩
    have em : PyData.eqv (pyH h (.str R.mode)) (pyH h (.str "late")) = decide (R.mode = "late") := eqS _ _
    rw [em]
    refine ⟨_, atI_l0, shS sClose, shS sOpen, ⟨fun e => neOC e, fun _ => ?_⟩⟩
    have l2s : rest.length + 1 ≤ 100 := by rw [es2] at lsl; simp at lsl; omega
    have ew : wayD t.stk = wayD rest ++ [.str l2] := by rw [es2, wayD_cons]
    have ey : lyD t.stk = lyD rest ++ [.tup laid] := by rw [es2, lyD_cons]
    have cw := cutLast (wayD rest) (.str l2) (by rw [wayD_len]; omega)
    have cy := cutLast (lyD rest) (.tup laid) (by rw [lyD_len]; omega)
    rw [ew, ey]
    subst e2
    refine ⟨2, _, by simp [cs_own_state], rfl, 5, _, by simp [cs_own_lying], rfl, _, atI_last, 4, _, by simp [cs_own_way], rfl, _, atI_last, R, _, t.st, nums li, l2, rfl, W, hr, S.st, hms, gl, ?_⟩
    rw [e1]
    refine ⟨rfl, ?_⟩
    have e6 : t.free ++ (nums li ++ []) = nums (fi ++ li) := by rw [S.fr]; simp [nums]
    obtain ⟨n1, n2, n3⟩ := nums_sort (fi ++ li)
    refine ⟨3, _, by simp [cs_own_free], rfl, 5, _, by simp [cs_own_lying], rfl, _, atI_last, ?_⟩
    have go2 : ∀ zs : List D, zs = nums (fi ++ li) → (rAsg (rTup (rCons (rSlice (rFld (cs_own_way K) (rVar 0)) rNoPart (rPart (rNeg (rC (.int 1))))) (rCons (rSlice (rFld (cs_own_lying K) (rVar 0)) rNoPart (rPart (rNeg (rC (.int 1))))) rNil))) (dName 8))
        ⟨rbTail K (sp_Run_u__init_u_ K) ⟨fun _ h' => Qd .non h', Qd, fun _ _ => False, fun _ _ => False⟩, Qd, fun _ _ => False, fun _ _ => False⟩
        [some (.iv (He.ga K "Run") [.iv (He.ga K "Reader") [.str R.mode, .int R.marks, .tup os, .tup cs], .tup (es.map (evD R.mode)), .int (t.st : Nat), .tup t.free, .tup (wayD rest ++ [.str l2]), .tup (lyD rest ++ [.tup (nums li)]), .tup t.told]), some (.tup (.str "close" :: xs)), some (.iv (He.ga K "Reader") [.str R.mode, .int R.marks, .tup os, .tup cs]), some (.bl (decide (R.mode = "late"))), some (.int s'), some (.tup (sortD zs)), none, some c, none, none] h := by
      rintro zs rfl
      refine ⟨4, _, by simp [cs_own_way], rfl, 5, _, by simp [cs_own_lying], rfl, small (by simp), ?_⟩
      have goal2 : ∀ w' l', w' = wayD rest → l' = lyD rest → rbTail K (sp_Run_u__init_u_ K) ⟨fun _ h' => Qd .non h', Qd, fun _ _ => False, fun _ _ => False⟩
        [some (.iv (He.ga K "Run") [.iv (He.ga K "Reader") [.str R.mode, .int R.marks, .tup os, .tup cs], .tup (es.map (evD R.mode)), .int (t.st : Nat), .tup t.free, .tup (wayD rest ++ [.str l2]), .tup (lyD rest ++ [.tup (nums li)]), .tup t.told]), some (.tup (.str "close" :: xs)), some (.iv (He.ga K "Reader") [.str R.mode, .int R.marks, .tup os, .tup cs]), some (.bl (decide (R.mode = "late"))), some (.int s'), some (.tup (sortD (nums (fi ++ li)))), none, some c, some (.tup [.tup w', .tup l']), none] h := by
        rintro w' l' rfl rfl
        refine rb_tail (isO := false) sClose (by rw [eqS]; exact dF (by decide)) (by simp; omega) (by omega) ?_
        rw [e4] at q
        have eT : (if (false == decide (R.mode = "late")) = true then t.told else t.told ++ [c]) = if R.mode = "late" then t.told ++ [c] else t.told := by
          by_cases hm : R.mode = "late"
          · rw [if_pos hm, dT hm]; rfl
          · rw [if_neg hm, dF hm]; rfl
        rw [eT, e3]
        exact q
      exact goal2 _ _ cw cy
    have g0 : (t.free ++ (nums li ++ [])).length ≤ 1000 := by rw [e6]; simp; omega
    have g1 : PySem.W.AllAlike ((t.free ++ (nums li ++ [])).map py) := by rw [e6]; exact n1
    have g2 : PySem.W.Sortable ((t.free ++ (nums li ++ [])).map py) := by rw [e6]; exact n2
    have g3 : (t.free ++ (nums li ++ [])).all (fun d => SeqAt.shaped (py d)) = true := by rw [e6]; exact n3
    exact ⟨small g0, g1, g2, g3, go2 _ e6⟩
theorem len_Run_after (ds : List D) (h : DH) (Qd : D → DH → Prop) (q : sp_Run_after K ds h Qd) : ds.length = 2 := by
  unfold sp_Run_after at q
  repeat (first | (obtain ⟨e, _⟩ := q; subst e; rfl) | obtain ⟨_, q⟩ := q)
theorem read_Run_after (M : Md K mg) (ds : List D) (h : DH) (Qd : D → DH → Prop) (q : sp_Run_after K ds h Qd) : t_Run_after K (sp_can_come K) (sp_run_behind K) ⟨fun _ h' => Qd .non h', Qd, fun _ _ => False, fun _ _ => False⟩ (st0 N_Run_after.length ds) h := by
  obtain ⟨r, R, es, e, rfl, W, hr, ok, q⟩ := q
  have q0 : sp_run_behind K [runX K r R es, evD R.mode e] h Qd := ⟨r, R, es, e, rfl, W, hr, ok, q⟩
  obtain ⟨fi, S⟩ := runX_stands W ok.pre
  have hv := valid_split es [e] true [] (R := R) (t := ts0 R) rfl ok.1
  have l1 : Lay 2 (.tup (es.map (evD R.mode))) := layT (layEvs ok.pre.good)
  have sw := shWay (h := h) S
  have hsk := S.sk
  have hgl : ∀ l ∈ (runF R (ts0 R) es).stk.map (·.1), goodName l := fun l hl => by obtain ⟨p, hp, rfl⟩ := List.mem_map.mp hl; exact (hsk p hp).1
  obtain ⟨os, cs, er, rl⟩ := id hr
  unfold runX runD at q0 ⊢
  generalize runF R (ts0 R) es = t at *
  refine ⟨4, _, by simp [cs_own_way], rfl, small (by simp), sw, shT0, ?_⟩
  rw [eqvT0, wayD_nil]
  have after : ∀ top, top = topD (t.stk.map (·.1)) → (rSeq (rIfS (bNot (rTest (rCall (sp_can_come K) [] (rCons (rVar 1) (rCons (rFld (cs_own_mode K) (rFld (cs_own_reader K) (rVar 0))) (rCons (rVar 2) (rCons (rOp dEq (rFld (cs_own_events K) (rVar 0)) (rTup rNil)) rNil))))))) (rNever) rNext)
      (rRet (rCall (sp_run_behind K) [] (rCons (rVar 0) (rCons (rVar 1) rNil))))) ⟨fun _ h' => Qd .non h', Qd, fun _ _ => False, fun _ _ => False⟩
      [some (.iv (He.ga K "Run") [r, .tup (es.map (evD R.mode)), .int (t.st : Nat), .tup t.free, .tup (wayD t.stk), .tup (lyD t.stk), .tup t.told]), some (evD R.mode e), some top] h := by
    rintro top rfl
    subst er
    refine ⟨0, _, by simp [cs_own_reader], rfl, 0, _, by simp [cs_own_mode], rfl, 1, _, by simp [cs_own_events], rfl, small (by simp), l1.sh, shT0, ?_⟩
    rw [eqvT0]
    refine ⟨R.mode, e, (es.map (evD R.mode)).isEmpty, t.stk.map (·.1), rfl, ?_, hgl, W.md, ⟨fun e => (nomatch e), fun _ => q0⟩⟩
    have : (es.map (evD R.mode)).isEmpty = (true && es.isEmpty) := by cases es <;> rfl
    rw [this]
    exact hv
  cases hh : t.stk with
  | nil =>
    rw [hh] at after
    exact ⟨fun e => (nomatch e), fun _ => after _ rfl⟩
  | cons p rest =>
    rw [hh] at after
    refine ⟨fun _ => ?_, fun e => (nomatch e)⟩
    refine ⟨4, _, by simp [cs_own_way], rfl, ?_⟩
    rw [wayD_cons] at after ⊢
    exact ⟨_, atI_last, after _ rfl⟩
theorem thr_loop {Dd : EndsD} {r : D} {R : RF} (W : WF R) (hr : readerD K R r) {h : DH} {x0 x1 : Option D} : ∀ (fs es : List Ev) (x3 : Option D), EvOk (es ++ fs) →
    (∀ x3, Dd.nx [x0, x1, some (runX K r R (es ++ fs)), x3] h) →
    rForL (dName 3) (rAsg (rMeth (He.ga K "Run") (sp_Run_after K) [] (rVar 2) (rCons (rVar 3) rNil)) (dName 2)) Dd (fun _ => True) (fs.map (evD R.mode)) [x0, x1, some (runX K r R es), x3] h := by
  intro fs
  induction fs with
  | nil => intro es x3 _ q; exact ⟨trivial, by have := q x3; rw [List.append_nil] at this; exact this⟩
  | cons f fs ih =>
    intro es x3 ok q
    have ea : es ++ f :: fs = (es ++ [f]) ++ fs := by simp
    rw [ea] at ok q
    refine ⟨trivial, ⟨rfl, ?_⟩⟩
    exact ⟨r, R, es, f, rfl, W, hr, ok.pre, ih (es ++ [f]) _ ok q⟩
theorem len_Run_through (ds : List D) (h : DH) (Qd : D → DH → Prop) (q : sp_Run_through K ds h Qd) : ds.length = 2 := by
  unfold sp_Run_through at q
  repeat (first | (obtain ⟨e, _⟩ := q; subst e; rfl) | obtain ⟨_, q⟩ := q)
theorem read_Run_through (M : Md K mg) (ds : List D) (h : DH) (Qd : D → DH → Prop) (q : sp_Run_through K ds h Qd) : t_Run_through K (sp_Run_after K) ⟨fun _ h' => Qd .non h', Qd, fun _ _ => False, fun _ _ => False⟩ (st0 N_Run_through.length ds) h := by
  obtain ⟨r, R, es, fs, rfl, W, hr, ok, q⟩ := q
  refine ⟨_, _, _, rfl, rfl, nc, M.kit_tuple_tuple, ⟨fun e => (nomatch e), fun _ => ?_⟩⟩
  exact thr_loop W hr fs es none ok fun _ => q
end LK
set_option Elab.async false
set_option linter.all false
set_option maxRecDepth 100000
set_option maxHeartbeats 4000000
namespace LK
open PySem PySem.Spec PyProof.Rows L2 DL
/-! ### the open labels, what can come next, all rows of events -/
theorem stk_labels {R : RF} : ∀ (es : List Ev) (t : TS), (runF R t es).stk.map (·.1) = stkE (t.stk.map (·.1)) es
  | [], t => rfl
  | .op l :: es, t => by
    show (runF R (stepF R t (.op l)) es).stk.map (·.1) = stkE (l :: t.stk.map (·.1)) es
    rw [stk_labels es]; rfl
  | .cl l :: es, t => by
    show (runF R (stepF R t (.cl l)) es).stk.map (·.1) = stkE (t.stk.map (·.1)).tail es
    rw [stk_labels es]
    cases hh : t.stk with
    | nil => simp only [stepF, hh]; rfl
    | cons p rest => obtain ⟨a, b⟩ := p; simp only [stepF, hh]; rfl
theorem stk0 {R : RF} {es : List Ev} : (runF R (ts0 R) es).stk.map (·.1) = stkE [] es := stk_labels es (ts0 R)
theorem stkE_app : ∀ (es : List Ev) (stk : List Str) (e : Ev), stkE stk (es ++ [e]) = stkE (stkE stk es) [e]
  | [], _, _ => rfl
  | .op l :: es, stk, e => stkE_app es (l :: stk) e
  | .cl l :: es, stk, e => stkE_app es stk.tail e
theorem valid_app : ∀ (es : List Ev) (fst : Bool) (stk : List Str) (e : Ev), Valid fst stk es → Valid (fst && es.isEmpty) (stkE stk es) [e] → Valid fst stk (es ++ [e])
  | [], fst, stk, e, _, h => by simpa [stkE] using h
  | .op l :: es, fst, stk, e, ⟨a, b, c⟩, h => ⟨a, b, valid_app es false (l :: stk) e c (by simpa [stkE] using h)⟩
  | .cl l :: es, fst, stk, e, ⟨rest, er, c⟩, h => ⟨rest, er, valid_app es false rest e c (by subst er; simpa [stkE] using h)⟩
theorem fur_ok {zs : List Str} (hz : ∀ z ∈ zs, goodName z) {es : List Ev} (ok : EvOk es) (hl : es.length < 100) {e : Ev} (he : e ∈ furE zs es) : EvOk (es ++ [e]) := by
  refine ⟨valid_app es true [] e ok.1 ?_, by simp; omega⟩
  unfold furE at he
  cases hs : stkE [] es with
  | nil =>
    rw [hs] at he
    cases hE : es.isEmpty with
    | false => rw [hE] at he; simp at he
    | true =>
      rw [hE] at he
      obtain ⟨z, hz', rfl⟩ := List.mem_map.mp he
      exact ⟨.inr rfl, hz z hz', trivial⟩
  | cons l rest =>
    rw [hs] at he
    rcases List.mem_append.mp he with he | he
    · obtain ⟨z, hz', rfl⟩ := List.mem_map.mp he
      exact ⟨.inl (by simp), hz z hz', trivial⟩
    · cases List.mem_singleton.mp he
      exact ⟨rest, rfl, trivial⟩
theorem fur_len {zs : List Str} {es : List Ev} : (furE zs es).length ≤ zs.length + 1 := by
  unfold furE
  cases stkE [] es with
  | nil => cases es.isEmpty <;> simp
  | cons l rest => simp
theorem lay_ok {zs : List Str} (hz : ∀ z ∈ zs, goodName z) : ∀ (n : Nat), n ≤ 90 → ∀ es ∈ layE zs n, EvOk es ∧ es.length = n
  | 0, _, es, h => by cases List.mem_singleton.mp h; exact ⟨⟨trivial, by simp⟩, rfl⟩
  | n + 1, hn, es, h => by
    obtain ⟨fs, h1, h2⟩ := List.mem_flatMap.mp h
    obtain ⟨e, h3, rfl⟩ := List.mem_map.mp h2
    obtain ⟨o1, o2⟩ := lay_ok hz n (by omega) fs h1
    exact ⟨fur_ok hz o1 (by omega) h3, by simp [o2]⟩
theorem all_ok {zs : List Str} (hz : ∀ z ∈ zs, goodName z) : ∀ (n : Nat), n ≤ 90 → ∀ es ∈ allE zs n, EvOk es ∧ es.length ≤ n
  | 0, _, es, h => by cases List.mem_singleton.mp h; exact ⟨⟨trivial, by simp⟩, Nat.le_refl _⟩
  | n + 1, hn, es, h => by
    rcases List.mem_append.mp h with h | h
    · obtain ⟨o1, o2⟩ := all_ok hz n (by omega) es h
      exact ⟨o1, by omega⟩
    · obtain ⟨o1, o2⟩ := lay_ok hz (n + 1) hn es h
      exact ⟨o1, by omega⟩
theorem flat_len {α β : Type} {f : α → List β} {k : Nat} : ∀ (l : List α), (∀ x ∈ l, (f x).length ≤ k) → (l.flatMap f).length ≤ l.length * k
  | [], _ => by simp
  | x :: l, h => by
    have i := flat_len l fun y hy => h y (List.mem_cons_of_mem _ hy)
    have i0 := h x List.mem_cons_self
    rw [List.flatMap_cons, List.length_append, List.length_cons, Nat.succ_mul]
    omega
theorem lay_len {zs : List Str} (h2 : zs.length ≤ 2) : ∀ n, (layE zs n).length ≤ 3 ^ n
  | 0 => by simp [layE]
  | n + 1 => by
    have i := lay_len h2 n
    have j := flat_len (f := fun es => (furE zs es).map fun e => es ++ [e]) (k := 3) (layE zs n) fun es _ => by rw [List.length_map]; exact Nat.le_trans fur_len (by omega)
    show ((layE zs n).flatMap _).length ≤ _
    rw [Nat.pow_succ]
    exact Nat.le_trans j (Nat.mul_le_mul_right 3 i)
theorem all_len {zs : List Str} (h2 : zs.length ≤ 2) : ∀ n, (allE zs n).length ≤ 2 * 3 ^ n
  | 0 => by simp [allE]
  | n + 1 => by
    have i := all_len h2 n
    have j := lay_len h2 (n + 1)
    show (allE zs n ++ layE zs (n + 1)).length ≤ _
    rw [List.length_append]
    rw [Nat.pow_succ] at j ⊢
    omega
theorem pow3 {n : Nat} (h : n ≤ 7) : 3 ^ n ≤ 2187 := by
  have := Nat.pow_le_pow_right (n := 3) (by decide) h
  exact this
theorem all_small {zs : List Str} (h2 : zs.length ≤ 2) {n : Nat} (hn : n ≤ 7) : (allE zs n).length ≤ 4374 := by
  have a := all_len h2 n
  have b := pow3 hn
  omega
theorem lay_small {zs : List Str} (h2 : zs.length ≤ 2) {n : Nat} (hn : n ≤ 7) : (layE zs n).length ≤ 2187 := Nat.le_trans (lay_len h2 n) (pow3 hn)
theorem sz24 {n : Nat} (h : n ≤ 16000000) : n ≤ sizeLine := Nat.le_trans h (by decide)
/-! ### marks: none, or one -/
structure Mk1 (R : RF) (t : TS) : Prop where
  fr : t.free = [] ∨ t.free = [.int 0]
  ly : ∀ p ∈ t.stk, p.2 = [] ∨ p.2 = [.int 0]
  sum : t.free.length + (t.stk.map fun p => p.2.length).sum = R.marks
theorem marks1 {m : Nat} (hm : m ≤ 1) {ms : List D} (h : MarksOk m ms) : ms = [] ∨ ms = [.int 0] := by
  obtain ⟨is, rfl, _, pw, bd⟩ := h
  match is, pw, bd with
  | [], _, _ => exact .inl rfl
  | [i], _, bd => have := bd i List.mem_cons_self; exact .inr (by rw [show i = 0 by omega]; rfl)
  | i :: j :: _, pw, bd =>
    have a := bd i List.mem_cons_self
    have b := bd j (List.mem_cons_of_mem _ List.mem_cons_self)
    have c := (List.pairwise_cons.mp pw).1 j List.mem_cons_self
    omega
theorem mk1_0 {R : RF} (hm : R.marks ≤ 1) : Mk1 R (ts0 R) := by
  refine ⟨?_, fun p hp => by simp [ts0] at hp, by simp [ts0, rangeD]⟩
  rcases (show R.marks = 0 ∨ R.marks = 1 by omega) with h | h <;> simp [ts0, rangeD, h]
theorem laid_nil {ms : List D} : laidF [] ms = [] := by simp [laidF]
theorem deq00 : deq (.int 0) (.int 0) = true := by decide
theorem mk1_op {R : RF} (W : WF R) (hm : R.marks ≤ 1) {t : TS} (M : Mk1 R t) {l : Str} (gl : goodName l) (hs : t.st < R.n) : Mk1 R (stepF R t (.op l)) := by
  obtain ⟨s', is, rest, c, e2, e3, hs', hms, hr⟩ := open_rule W gl hs
  have h1 := marks1 hm hms
  have e : stepF R t (.op l) = ⟨natD (openF R t.st (.str l)).1, leftF t.free (laidF t.free (openF R t.st (.str l)).2.1), (l, laidF t.free (openF R t.st (.str l)).2.1) :: t.stk, if R.mode = "late" then t.told else t.told ++ [(openF R t.st (.str l)).2.2]⟩ := rfl
  have e4 : (openF R t.st (.str l)).2.1 = nums is := by first | (rw [e3]) | (rw [e2])
  rw [e, e4]
  have sum := M.sum
  rcases M.fr with hf | hf
  · rw [hf, laid_nil]
    rw [hf] at sum
    exact ⟨.inl (by simp [leftF]), fun p hp => by rcases List.mem_cons.mp hp with rfl | hp; exact .inl rfl; exact M.ly p hp, by simpa [leftF] using sum⟩
  · rw [hf] at sum ⊢
    rcases h1 with h1 | h1
    · rw [h1]
      exact ⟨.inr (by simp [leftF, laidF]), fun p hp => by rcases List.mem_cons.mp hp with rfl | hp; exact .inl rfl; exact M.ly p hp, by simpa [leftF, laidF] using sum⟩
    · rw [h1]
      have a : laidF [.int 0] [.int 0] = [.int 0] := by simp [laidF, deq00]
      have b : leftF [.int 0] [.int 0] = [] := by simp [leftF, deq00]
      rw [a, b]
      refine ⟨.inl rfl, fun p hp => by rcases List.mem_cons.mp hp with rfl | hp; exact .inr rfl; exact M.ly p hp, ?_⟩
      simp at sum ⊢
      omega
theorem sort_nil : sortD [] = [] := by simp [sortD]
theorem sort_one : sortD [.int 0] = [.int 0] := by simp [sortD]
theorem mk1_cl {R : RF} (hm : R.marks ≤ 1) {t : TS} (M : Mk1 R t) {l : Str} : Mk1 R (stepF R t (.cl l)) := by
  cases hh : t.stk with
  | nil => simp only [stepF, hh]; exact M
  | cons p rest =>
    obtain ⟨l2, laid⟩ := p
    have sum := M.sum
    have hp := M.ly (l2, laid) (by rw [hh]; exact List.mem_cons_self)
    have hr : ∀ q ∈ rest, q.2 = [] ∨ q.2 = [.int 0] := fun q hq => M.ly q (by rw [hh]; exact List.mem_cons_of_mem _ hq)
    simp only [stepF, hh]
    rw [hh] at sum
    simp only [List.map_cons, List.sum_cons] at sum
    have s0 : sortD [] = [] := sort_nil
    have s1 : sortD [.int 0] = [.int 0] := sort_one
    rcases M.fr with hf | hf <;> rcases hp with hp | hp
    · have hp : laid = [] := hp
      subst hp
      rw [hf] at sum ⊢
      exact ⟨.inl s0, hr, by show (sortD []).length + _ = _; rw [s0]; simpa using sum⟩
    · have hp : laid = [.int 0] := hp
      subst hp
      rw [hf] at sum ⊢
      exact ⟨.inr s1, hr, by show (sortD [.int 0]).length + _ = _; rw [s1]; simpa using sum⟩
    · have hp : laid = [] := hp
      subst hp
      rw [hf] at sum ⊢
      exact ⟨.inr s1, hr, by show (sortD [.int 0]).length + _ = _; rw [s1]; simpa using sum⟩
    · have hp : laid = [.int 0] := hp
      subst hp
      rw [hf] at sum
      simp at sum
      omega
theorem mk1_run {R : RF} (W : WF R) (hm : R.marks ≤ 1) : ∀ (es : List Ev) (t : TS) (fi : List Int) (k : Nat) (fst : Bool), Stands R t fi k → Mk1 R t → Valid fst (t.stk.map (·.1)) es → Mk1 R (runF R t es)
  | [], t, _, _, _, _, M, _ => M
  | .op l :: es, t, fi, k, fst, S, M, ⟨_, gl, hv⟩ => by
    obtain ⟨s', ms, c, js, e1, e2, e3, e4, e5⟩ := stands_op W S gl
    exact mk1_run W hm es (stepF R t (.op l)) js (k + 1) false e5 (mk1_op W hm M gl S.st) (by rw [e4]; exact hv)
  | .cl l :: es, t, fi, k, fst, S, M, ⟨rl, er, hv⟩ => by
    obtain ⟨p, rest, es2⟩ : ∃ p rest, t.stk = p :: rest := by
      cases hh : t.stk with
      | nil => rw [hh] at er; cases er
      | cons p rest => exact ⟨p, rest, rfl⟩
    obtain ⟨l2, laid⟩ := p
    have el : l2 = l ∧ rest.map (·.1) = rl := by rw [es2] at er; simpa using er
    obtain ⟨rfl, rfl⟩ := el
    obtain ⟨s', c, li, js, e1, e2, e2', e3, e4, e5⟩ := stands_cl W S es2
    exact mk1_run W hm es (stepF R t (.cl l2)) js (k + 1) false e5 (mk1_cl hm M) (by rw [e4]; exact hv)
theorem mk1_ev {R : RF} (W : WF R) (hm : R.marks ≤ 1) {es : List Ev} (ok : EvOk es) : Mk1 R (runF R (ts0 R) es) := mk1_run W hm es (ts0 R) _ 0 true (ts0_stands W) (mk1_0 hm) ok.1
end LK
set_option Elab.async false
set_option linter.all false
set_option maxRecDepth 100000
set_option maxHeartbeats 4000000
namespace LK
open PySem PySem.Spec PyProof.Rows L2 DL
variable {K : PySem.W.Frag} {mg : Str → Option Value}
/-! ### runs that stand alike go on alike -/
section
variable {R : RF} {es fs : List Ev} {zs : List Str}
theorem Alk.len (A : Alk R es fs) : (runF R (ts0 R) es).stk.length = (runF R (ts0 R) fs).stk.length := by
  have := congrArg List.length A.ly
  simpa using this
theorem evD_cl {m l l' : Str} (h : m = "named" → l = l') : evD m (.cl l) = evD m (.cl l') := by
  by_cases hm : m = "named"
  · rw [h hm]
  · simp [evD, hm]
/-- the two rows of what can come next, side by side -/
theorem alk_rows (A : Alk R es fs) : (stkE [] es = [] ∧ stkE [] fs = [] ∧ es.isEmpty = fs.isEmpty) ∨
    ∃ l r l' r', stkE [] es = l :: r ∧ stkE [] fs = l' :: r' ∧ (R.mode = "named" → l = l') := by
  have hl := A.len
  have e1 := stk0 (R := R) (es := es)
  have e2 := stk0 (R := R) (es := fs)
  cases h1 : (runF R (ts0 R) es).stk with
  | nil =>
    rw [h1] at hl e1
    have h2 : (runF R (ts0 R) fs).stk = [] := List.length_eq_zero_iff.mp hl.symm
    rw [h2] at e2
    refine .inl ⟨e1.symm, e2.symm, ?_⟩
    rcases A.dn with d | d
    · exact d
    · exact absurd h1 d
  | cons p r =>
    cases h2 : (runF R (ts0 R) fs).stk with
    | nil => rw [h1, h2] at hl; cases hl
    | cons p' r' =>
      rw [h1] at e1
      rw [h2] at e2
      refine .inr ⟨p.1, _, p'.1, _, e1.symm, e2.symm, fun hm => ?_⟩
      have := A.lab hm
      rw [h1, h2] at this
      exact (List.cons.inj this).1
theorem alk_fur (A : Alk R es fs) : (furE zs es).map (evD R.mode) = (furE zs fs).map (evD R.mode) := by
  unfold furE
  rcases alk_rows A with ⟨h1, h2, h3⟩ | ⟨l, r, l', r', h1, h2, h3⟩
  · rw [h1, h2, h3]
  · rw [h1, h2]
    simp only [List.map_append, List.map_cons, List.map_nil, evD_cl h3]
theorem alk_std (A : Alk R es fs) : stdD R es = stdD R fs := by
  have e1 : lyD (runF R (ts0 R) es).stk = lyD (runF R (ts0 R) fs).stk := by
    have := congrArg (fun l : List (List D) => (l.reverse.map D.tup)) A.ly
    simpa [lyD, Function.comp_def] using this
  have e2 : (runF R (ts0 R) es).stk.isEmpty = (runF R (ts0 R) fs).stk.isEmpty := by
    have := A.len
    cases h1 : (runF R (ts0 R) es).stk <;> cases h2 : (runF R (ts0 R) fs).stk <;> rw [h1, h2] at this <;> simp at this ⊢
  have e3 : (!es.isEmpty && (runF R (ts0 R) es).stk.isEmpty) = (!fs.isEmpty && (runF R (ts0 R) fs).stk.isEmpty) := by
    rcases A.dn with d | d
    · rw [d, e2]
    · rw [← e2]
      have : (runF R (ts0 R) es).stk.isEmpty = false := by cases h : (runF R (ts0 R) es).stk with
        | nil => exact absurd h d
        | cons _ _ => rfl
      rw [this, Bool.and_false, Bool.and_false]
  unfold stdD
  rw [A.st, e1, e3, A.len]
  by_cases hm : R.mode = "named"
  · rw [if_pos hm, if_pos hm]
    have := congrArg (fun l : List Str => (l.reverse.map D.str)) (A.lab hm)
    have e4 : wayD (runF R (ts0 R) es).stk = wayD (runF R (ts0 R) fs).stk := by simpa [wayD, Function.comp_def] using this
    rw [e4]
  · rw [if_neg hm, if_neg hm]
theorem run_one {e : Ev} : runF R (ts0 R) (es ++ [e]) = stepF R (runF R (ts0 R) es) e := by rw [runF_app]; rfl
theorem closeF_lab {s : Nat} {laid : List D} {l l' : Str} (h : R.mode = "named" → l = l') : closeF R s laid l = closeF R s laid l' := by
  unfold closeF keyF
  by_cases hm : R.mode = "named"
  · rw [h hm]
  · rw [if_neg hm, if_neg hm]
theorem alk_step (A : Alk R es fs) {e : Ev} (he : e ∈ furE zs es) : ∃ f ∈ furE zs fs, evD R.mode f = evD R.mode e ∧ Alk R (es ++ [e]) (fs ++ [f]) ∧
    ∃ suf, (runF R (ts0 R) (es ++ [e])).told = (runF R (ts0 R) es).told ++ suf ∧ (runF R (ts0 R) (fs ++ [f])).told = (runF R (ts0 R) fs).told ++ suf := by
  have rows := alk_rows A
  have emp : ∀ (xs : List Ev) (x : Ev), (xs ++ [x]).isEmpty = false := fun xs x => by cases xs <;> rfl
  have A1 := A.st
  have A2 := A.free
  have A3 := A.ly
  have A5 := A.lab
  cases e with
  | op l =>
    have hf : Ev.op l ∈ furE zs fs := by
      unfold furE at he ⊢
      rcases rows with ⟨h1, h2, h3⟩ | ⟨a, r, a', r', h1, h2, h3⟩
      · rw [h1] at he; rw [h2, ← h3]; exact he
      · rw [h1] at he; rw [h2]
        rcases List.mem_append.mp he with he | he
        · exact List.mem_append_left _ he
        · cases List.mem_singleton.mp he
    refine ⟨_, hf, rfl, ?_, ?_⟩
    · constructor
      · rw [run_one, run_one]; show natD (openF R _ _).1 = natD (openF R _ _).1; rw [A1]
      · rw [run_one, run_one]
        show leftF _ (laidF _ (openF R _ _).2.1) = leftF _ (laidF _ (openF R _ _).2.1)
        rw [A1, A2]
      · rw [run_one, run_one]
        show laidF _ (openF R _ _).2.1 :: (runF R (ts0 R) es).stk.map (·.2) = laidF _ (openF R _ _).2.1 :: (runF R (ts0 R) fs).stk.map (·.2)
        rw [A1, A2, A3]
      · exact .inl (by rw [emp, emp])
      · intro hm
        rw [run_one, run_one]
        show l :: (runF R (ts0 R) es).stk.map (·.1) = l :: (runF R (ts0 R) fs).stk.map (·.1)
        rw [A5 hm]
    · by_cases hm : R.mode = "late"
      · refine ⟨[], ?_, ?_⟩ <;> rw [run_one] <;> simp [stepF, hm]
      · refine ⟨[(openF R (runF R (ts0 R) es).st (.str l)).2.2], ?_, ?_⟩
        · rw [run_one]; simp [stepF, hm]
        · rw [run_one]; simp [stepF, hm, A1]
  | cl l =>
    rcases rows with ⟨h1, h2, h3⟩ | ⟨a, r, a', r', h1, h2, h3⟩
    · exfalso
      unfold furE at he
      rw [h1] at he
      cases hE : es.isEmpty <;> rw [hE] at he <;> simp at he
    · have ea : l = a := by
        unfold furE at he
        rw [h1] at he
        simpa using he
      subst ea
      have hf : Ev.cl a' ∈ furE zs fs := by unfold furE; rw [h2]; simp
      have k1 := stk0 (R := R) (es := es)
      have k2 := stk0 (R := R) (es := fs)
      rw [h1] at k1
      rw [h2] at k2
      obtain ⟨⟨l1, laid⟩, rest, s1⟩ : ∃ p rest, (runF R (ts0 R) es).stk = p :: rest := by
        cases hh : (runF R (ts0 R) es).stk with
        | nil => rw [hh] at k1; cases k1
        | cons p rest => exact ⟨p, rest, rfl⟩
      obtain ⟨⟨l2, laid'⟩, rest', s2⟩ : ∃ p rest, (runF R (ts0 R) fs).stk = p :: rest := by
        cases hh : (runF R (ts0 R) fs).stk with
        | nil => rw [hh] at k2; cases k2
        | cons p rest => exact ⟨p, rest, rfl⟩
      rw [s1] at k1 A3 A5
      rw [s2] at k2 A3 A5
      have b1 : l1 = l := (List.cons.inj k1).1
      have b2 : l2 = a' := (List.cons.inj k2).1
      have b3 : laid = laid' := (List.cons.inj A3).1
      have b4 : rest.map (·.2) = rest'.map (·.2) := (List.cons.inj A3).2
      subst b1 b2 b3
      have c := closeF_lab (R := R) (s := (runF R (ts0 R) fs).st) (laid := laid) h3
      refine ⟨_, hf, (evD_cl h3).symm, ?_, ?_⟩
      · have f1 : stepF R (runF R (ts0 R) es) (.cl l1) = ⟨natD (closeF R (runF R (ts0 R) fs).st laid l2).1, sortD ((runF R (ts0 R) fs).free ++ laid), rest, if R.mode = "late" then (runF R (ts0 R) es).told ++ [(closeF R (runF R (ts0 R) fs).st laid l2).2] else (runF R (ts0 R) es).told⟩ := by
          rw [← c, ← A1, ← A2]; simp only [stepF, s1]
        have f2 : stepF R (runF R (ts0 R) fs) (.cl l2) = ⟨natD (closeF R (runF R (ts0 R) fs).st laid l2).1, sortD ((runF R (ts0 R) fs).free ++ laid), rest', if R.mode = "late" then (runF R (ts0 R) fs).told ++ [(closeF R (runF R (ts0 R) fs).st laid l2).2] else (runF R (ts0 R) fs).told⟩ := by
          simp only [stepF, s2]
        constructor
        · rw [run_one, run_one, f1, f2]
        · rw [run_one, run_one, f1, f2]
        · rw [run_one, run_one, f1, f2]; exact b4
        · exact .inl (by rw [emp, emp])
        · intro hm
          rw [run_one, run_one, f1, f2]
          exact (List.cons.inj (A5 hm)).2
      · by_cases hm : R.mode = "late"
        · refine ⟨[(closeF R (runF R (ts0 R) fs).st laid l2).2], ?_, ?_⟩
          · rw [run_one, ← c, ← A1]; simp [stepF, s1, hm]
          · rw [run_one]; simp [stepF, s2, hm]
        · refine ⟨[], ?_, ?_⟩
          · rw [run_one]; simp [stepF, s1, hm]
          · rw [run_one]; simp [stepF, s2, hm]
/-! ### standings told alike are alike -/
theorem nkL_map : ∀ ds : List D, nkL ds = ds.map nk
  | [] => rfl
  | d :: ds => by rw [nkL, nkL_map ds]; rfl
theorem lists_eq : ∀ {xs ys : List (List D)}, (∀ x ∈ xs, x = [] ∨ x = [.int 0]) → (∀ y ∈ ys, y = [] ∨ y = [.int 0]) → (xs.map fun x => nk (.tup x)) = (ys.map fun y => nk (.tup y)) → xs = ys
  | [], [], _, _, _ => rfl
  | [], _ :: _, _, _, e => by cases e
  | _ :: _, [], _, _, e => by cases e
  | x :: xs, y :: ys, hx, hy, e => by
    have e1 := (List.cons.inj e).1
    have e2 := lists_eq (fun z hz => hx z (List.mem_cons_of_mem _ hz)) (fun z hz => hy z (List.mem_cons_of_mem _ hz)) (List.cons.inj e).2
    rcases hx x List.mem_cons_self with rfl | rfl <;> rcases hy y List.mem_cons_self with rfl | rfl
    · rw [e2]
    · simp [nk, nkL] at e1
    · simp [nk, nkL] at e1
    · rw [e2]
theorem texts_eq : ∀ {xs ys : List Str}, (xs.map fun x => nk (.str x)) = (ys.map fun y => nk (.str y)) → xs = ys
  | [], [], _ => rfl
  | [], _ :: _, e => by cases e
  | _ :: _, [], e => by cases e
  | x :: xs, y :: ys, e => by
    have e1 := (List.cons.inj e).1
    have e2 := texts_eq (List.cons.inj e).2
    rw [e2, show x = y by simpa [nk] using e1]
theorem std_alk (W : WF R) (hm : R.marks ≤ 1) (ok : EvOk es) (ok' : EvOk fs) (e : nk (stdD R es) = nk (stdD R fs)) : Alk R es fs := by
  have M := mk1_ev W hm ok
  have M' := mk1_ev W hm ok'
  unfold stdD at e
  simp only [nk, nkL, NestedKey.tup.injEq, List.cons.injEq, NestedKey.num.injEq, and_true] at e
  obtain ⟨e1, e2, e3, e4⟩ := e
  have ly : (runF R (ts0 R) es).stk.map (·.2) = (runF R (ts0 R) fs).stk.map (·.2) := by
    rw [nkL_map, nkL_map] at e2
    have e5 : ((runF R (ts0 R) es).stk.reverse.map (·.2)) = ((runF R (ts0 R) fs).stk.reverse.map (·.2)) := by
      refine lists_eq (fun x hx => ?_) (fun x hx => ?_) ?_
      · obtain ⟨p, hp, rfl⟩ := List.mem_map.mp hx; exact M.ly p (List.mem_reverse.mp hp)
      · obtain ⟨p, hp, rfl⟩ := List.mem_map.mp hx; exact M'.ly p (List.mem_reverse.mp hp)
      · simpa [lyD, Function.comp_def] using e2
    have := congrArg List.reverse e5
    simpa using this
  have len : (runF R (ts0 R) es).stk.length = (runF R (ts0 R) fs).stk.length := by
    have := congrArg List.length ly
    simpa using this
  have sums : ((runF R (ts0 R) es).stk.map fun p => p.2.length).sum = ((runF R (ts0 R) fs).stk.map fun p => p.2.length).sum := by
    have := congrArg (fun l : List (List D) => (l.map List.length).sum) ly
    simpa [Function.comp_def] using this
  refine ⟨by omega, ?_, ly, ?_, fun hn => ?_⟩
  · have s1 := M.sum
    have s2 := M'.sum
    rw [sums] at s1
    rcases M.fr with a | a <;> rcases M'.fr with b | b
    · rw [a, b]
    · rw [a] at s1; rw [b] at s2; simp at s1 s2; omega
    · rw [a] at s1; rw [b] at s2; simp at s1 s2; omega
    · rw [a, b]
  · cases h : (runF R (ts0 R) es).stk with
    | cons p r => exact .inr (by simp)
    | nil =>
      have h2 : (runF R (ts0 R) fs).stk = [] := List.length_eq_zero_iff.mp (by rw [← len, h]; rfl)
      rw [h, h2] at e3
      left
      cases es <;> cases fs <;> simp at e3 ⊢
  · rw [if_pos hn, if_pos hn] at e4
    simp only [nk, NestedKey.tup.injEq] at e4
    rw [nkL_map, nkL_map] at e4
    have e5 : ((runF R (ts0 R) es).stk.reverse.map (·.1)) = ((runF R (ts0 R) fs).stk.reverse.map (·.1)) := by
      refine texts_eq ?_
      simpa [wayD, Function.comp_def] using e4
    have := congrArg List.reverse e5
    simpa using this
end
end LK
set_option Elab.async false
set_option linter.all false
set_option maxRecDepth 100000
set_option maxHeartbeats 4000000
namespace LK
open PySem PySem.Spec PyProof.Rows L2 DL
variable {K : PySem.W.Frag} {mg : Str → Option Value}
theorem len_Reader_mode (ds : List D) (h : DH) (Qd : D → DH → Prop) (q : sp_Reader_mode K ds h Qd) : ds.length = 1 := by
  unfold sp_Reader_mode at q
  repeat (first | (obtain ⟨e, _⟩ := q; subst e; rfl) | obtain ⟨_, q⟩ := q)
theorem read_Reader_mode (M : Md K mg) (ds : List D) (h : DH) (Qd : D → DH → Prop) (q : sp_Reader_mode K ds h Qd) : t_Reader_mode K ⟨fun _ h' => Qd .non h', Qd, fun _ _ => False, fun _ _ => False⟩ (st0 N_Reader_mode.length ds) h := by
  obtain ⟨a, b, c, d, rfl, q⟩ := q
  exact ⟨0, _, by simp [cs_own_mode], rfl, q⟩
theorem layWay {R : RF} {t : TS} {fi : List Int} {k : Nat} (S : Stands R t fi k) : Lay 2 (.tup (wayD t.stk)) := by
  rw [wayD_eq]
  exact layT fun x hx => (layTxs (n := 0) (fun z hz => by obtain ⟨p, hp, rfl⟩ := List.mem_map.mp hz; exact (S.sk p (List.mem_reverse.mp hp)).1.s) x hx).mono (by omega)
theorem layLy {R : RF} {t : TS} {fi : List Int} {k : Nat} (S : Stands R t fi k) : Lay 2 (.tup (lyD t.stk)) :=
  layT fun x hx => by obtain ⟨p, hp, rfl⟩ := List.mem_map.mp hx; exact layMs (S.sk p (List.mem_reverse.mp hp)).2
theorem layStd {R : RF} (W : WF R) {es : List Ev} (ok : EvOk es) : Lay 3 (stdD R es) := by
  obtain ⟨fi, S⟩ := runX_stands W ok
  refine layT (all_cons (layI _) (all_cons (layLy S) (all_cons (layB _) (all_cons ?_ all_nil))))
  by_cases hm : R.mode = "named"
  · rw [if_pos hm]; exact layWay S
  · rw [if_neg hm]; exact layI _
theorem fur_done {R : RF} {zs : List Str} {es : List Ev} (h : (!es.isEmpty && (runF R (ts0 R) es).stk.isEmpty) = true) : furE zs es = [] := by
  obtain ⟨h1, h2⟩ := Bool.and_eq_true_iff.mp h
  have e := stk0 (R := R) (es := es)
  rw [List.isEmpty_iff.mp h2] at e
  unfold furE
  rw [← e]
  have : es.isEmpty = false := by simpa using h1
  rw [this]; rfl
theorem fur_top {R : RF} {zs : List Str} {es : List Ev} (h : (!es.isEmpty && (runF R (ts0 R) es).stk.isEmpty) = false) (h2 : (runF R (ts0 R) es).stk = []) : furE zs es = zs.map .op := by
  have e := stk0 (R := R) (es := es)
  rw [h2] at e h
  unfold furE
  rw [← e]
  have : es.isEmpty = true := by simpa using h
  rw [this]; rfl
theorem fur_in {R : RF} {zs : List Str} {es : List Ev} {p : Str × List D} {rest : List (Str × List D)} (h2 : (runF R (ts0 R) es).stk = p :: rest) : furE zs es = zs.map .op ++ [.cl p.1] := by
  have e := stk0 (R := R) (es := es)
  rw [h2] at e
  unfold furE
  rw [← e]; rfl
theorem opD {m : Str} {zs : List Str} : (txs zs).map (fun z => D.tup [.str "open", z]) = (zs.map Ev.op).map (evD m) := by
  rw [List.map_map, List.map_map]; rfl
theorem len__law_further (ds : List D) (h : DH) (Qd : D → DH → Prop) (q : sp__law_further K ds h Qd) : ds.length = 2 := by
  unfold sp__law_further at q
  repeat (first | (obtain ⟨e, _⟩ := q; subst e; rfl) | obtain ⟨_, q⟩ := q)
theorem read__law_further (M : Md K mg) (ds : List D) (h : DH) (Qd : D → DH → Prop) (q : sp__law_further K ds h Qd) : t__law_further K (sp_Run_is_done K) (sp_Run_way K) (sp__law_close K) (sp_Run_reader K) (sp_Reader_mode K) ⟨fun _ h' => Qd .non h', Qd, fun _ _ => False, fun _ _ => False⟩ (st0 N__law_further.length ds) h := by
  obtain ⟨r, R, es, zs, rfl, W, hr, ok, hz, q⟩ := q
  obtain ⟨fi, S⟩ := runX_stands W ok
  have lw := layWay S
  have lsl := S.sl
  refine ⟨rfl, r, R, es, rfl, W, ok, ⟨fun eb => ?_, fun eb => ?_⟩⟩
  · refine ⟨small (by simp), ?_⟩
    rw [fur_done eb] at q
    exact q
  refine ⟨small (by simp; omega), fun L hL => ?_⟩
  refine comp_each (fun z => D.tup [.str "open", z]) hL (fun _ _ => trivial) (fun x hx h' Q1 Q2 hm q1 => ⟨fun _ => ⟨small (by simp), q1⟩, fun e => (nomatch e)⟩) ?_
  rw [opD (m := R.mode)]
  refine ⟨rfl, _, _, _, _, _, _, _, rfl, small (by simp), lw.sh, shT0, ?_⟩
  rw [eqvT0, wayD_nil]
  cases hh : (runF R (ts0 R) es).stk with
  | nil =>
    rw [fur_top eb hh] at q
    exact ⟨fun _ => q, fun e => (nomatch e)⟩
  | cons p rest =>
    rw [fur_in hh, List.map_append] at q
    refine ⟨fun e => (nomatch e), fun _ => ?_⟩
    obtain ⟨os, cs, rfl, rl⟩ := hr
    refine ⟨rfl, _, _, _, _, _, _, _, rfl, ?_⟩
    rw [hh, wayD_cons]
    refine ⟨_, atI_last, rfl, _, _, _, _, _, _, _, rfl, rfl, _, _, _, _, rfl, p.1, R.mode, rfl, W.md, small (by simp), small (by simp; omega), q⟩
theorem len__law_standing (ds : List D) (h : DH) (Qd : D → DH → Prop) (q : sp__law_standing K ds h Qd) : ds.length = 1 := by
  unfold sp__law_standing at q
  repeat (first | (obtain ⟨e, _⟩ := q; subst e; rfl) | obtain ⟨_, q⟩ := q)
theorem read__law_standing (M : Md K mg) (ds : List D) (h : DH) (Qd : D → DH → Prop) (q : sp__law_standing K ds h Qd) : t__law_standing K (sp_Run_reader K) (sp_Reader_mode K) (sp_Run_state K) (sp_Run_lying K) (sp_Run_is_done K) (sp_Run_way K) ⟨fun _ h' => Qd .non h', Qd, fun _ _ => False, fun _ _ => False⟩ (st0 N__law_standing.length ds) h := by
  obtain ⟨r, R, es, rfl, W, hr, ok, q⟩ := q
  obtain ⟨os, cs, rfl, rl⟩ := hr
  refine ⟨rfl, _, _, _, _, _, _, _, rfl, rfl, _, _, _, _, rfl, shS W.md.s, shS sNamed, ?_⟩
  unfold stdD at q
  refine ⟨fun e => ?_, fun e => ?_⟩
  · have em : R.mode = "named" := of_decide_eq_true (by rw [← eqS]; exact e)
    rw [if_pos em] at q
    refine ⟨rfl, _, _, _, _, _, _, _, rfl, rfl, _, _, _, _, _, _, _, rfl, rfl, _, R, es, rfl, W, ok, rfl, _, _, _, _, _, _, _, rfl, small (by simp), q⟩
  · have em : R.mode ≠ "named" := fun x => by rw [x] at e; exact no2 e
    rw [if_neg em] at q
    refine ⟨rfl, _, _, _, _, _, _, _, rfl, rfl, _, _, _, _, _, _, _, rfl, rfl, _, R, es, rfl, W, ok, rfl, _, _, _, _, _, _, _, rfl, ?_⟩
    have e2 : (((wayD (runF R (ts0 R) es).stk).length : Nat) : Int) = (((runF R (ts0 R) es).stk.length : Nat) : Int) := by rw [wayD_len]
    have goal : ∀ i : Int, i = (((runF R (ts0 R) es).stk.length : Nat) : Int) → ([D.int (runF R (ts0 R) es).st, .tup (lyD (runF R (ts0 R) es).stk), .bl (!es.isEmpty && (runF R (ts0 R) es).stk.isEmpty), .int i].length ≤ sizeLine ∧ Qd (.tup [D.int (runF R (ts0 R) es).st, .tup (lyD (runF R (ts0 R) es).stk), .bl (!es.isEmpty && (runF R (ts0 R) es).stk.isEmpty), .int i]) h) := by
      rintro i rfl
      exact ⟨small (by simp), q⟩
    exact goal _ e2
end LK
set_option Elab.async false
set_option linter.all false
set_option maxRecDepth 100000
set_option maxHeartbeats 4000000
namespace LK
open PySem PySem.Spec PyProof.Rows L2 DL
variable {K : PySem.W.Frag} {mg : Str → Option Value}
theorem comp_over {α : Type} {g : TGD} {tt : TTD} {tE : TED} {sw : SD} {G : DH → Prop} {k : List D → DH → Prop} {h : DH} {L : Addr} (a f : α → D) (hL : h L = none) (hG : ∀ h', (∀ a o, h a = some o → h' a = some o) → G h') :
    ∀ (xs : List α) (acc : List D), (∀ x ∈ xs, ∀ (h' : DH) (Q1 : D → DH → Prop) (Q2 : DH → Prop), (∀ a o, h a = some o → h' a = some o) → Q1 (f x) h' → g (a x) sw h' fun s2 h2 => tt s2 h2 fun b h3 => bC b (tE s2 h3 Q1) (Q2 h3)) →
    k (acc ++ xs.map f) h → rCompL g tt tE sw G k L (xs.map a) acc (up h L (.lst acc)) := by
  have less : ∀ acc : List D, ∀ b o, h b = some o → up h L (.lst acc) b = some o := fun acc b o e => Less.up hL b o e
  intro xs
  induction xs with
  | nil =>
    intro acc _ q
    refine ⟨hG _ (less acc), up_same, ?_⟩
    rw [del_up hL]
    simpa using q
  | cons x xs ih =>
    intro acc st q
    refine ⟨hG _ (less acc), st x List.mem_cons_self _ _ _ (less acc) ⟨up_same, ?_⟩⟩
    rw [up_up]
    refine ih _ (fun y hy => st y (List.mem_cons_of_mem _ hy)) ?_
    rw [List.append_assoc]
    exact q
abbrev arB (K : PySem.W.Frag) : TSD := rDrop (rMt "list" dExtend (rVar 6) (rCons (rComp (rIter (rCall (sp__law_further K) [] (rCons (rVar 7) (rCons (rVar 1) rNil)))) (dName 8) bYes (rMeth (He.ga K "Run") (sp_Run_after K) [] (rVar 7) (rCons (rVar 8) rNil)) [8]) rNil))
abbrev longer (zs : List Str) (l : List (List Ev)) : List (List Ev) := l.flatMap fun es => (furE zs es).map fun e => es ++ [e]
theorem ar_in {Dd : EndsD} {r : D} {R : RF} (W : WF R) (hr : readerD K R r) {zs : List Str} (hz : ∀ z ∈ zs, goodName z) (h2 : zs.length ≤ 2) {B : Addr} {h : DH} (hB : h B = none) {x0 x2 x3 x4 x5 : Option D} :
    ∀ (its acc : List (List Ev)) (x7 x8 : Option D), (∀ es ∈ its, EvOk es ∧ es.length ≤ 80) → acc.length + 3 * its.length ≤ 1000000 →
    (∀ x7 x8, Dd.nx [x0, some (.lv (txs zs)), x2, x3, x4, x5, some (.ref B), x7, x8] (up h B (.lst ((acc ++ longer zs its).map (runX K r R))))) →
    rForL (dName 7) (arB K) Dd (fun _ => True) (its.map (runX K r R)) [x0, some (.lv (txs zs)), x2, x3, x4, x5, some (.ref B), x7, x8] (up h B (.lst (acc.map (runX K r R)))) := by
  intro its
  induction its with
  | nil => intro acc x7 x8 _ _ q; exact ⟨trivial, by have := q x7 x8; simpa [longer] using this⟩
  | cons es its ih =>
    intro acc x7 x8 ok hl q
    obtain ⟨o1, o2⟩ := ok es List.mem_cons_self
    simp only [List.length_cons] at hl
    have fl : (furE zs es).length ≤ 3 := Nat.le_trans fur_len (by omega)
    refine ⟨trivial, ⟨.inl ⟨_, up_same, rfl⟩, ⟨r, R, es, zs, rfl, W, hr, o1, by omega, ?_⟩⟩⟩
    refine ⟨small (by simp; omega), fun L hL => ?_⟩
    refine comp_over (evD R.mode) (fun e => runX K r R (es ++ [e])) hL (fun _ _ => trivial) (furE zs es) [] (fun e he h' Q1 Q2 hm q1 => ⟨fun _ => ?_, fun e => (nomatch e)⟩) ?_
    · exact ⟨rfl, r, R, es, e, rfl, W, hr, fur_ok hz o1 (by omega) he, q1⟩
    rw [List.nil_append]
    refine ⟨_, up_same, ?_⟩
    refine ⟨sz24 (by simp; omega), ?_⟩
    rw [up_up]
    have e1 : acc.map (runX K r R) ++ (furE zs es).map (fun e => runX K r R (es ++ [e])) = (acc ++ (furE zs es).map fun e => es ++ [e]).map (runX K r R) := by
      rw [List.map_append, List.map_map]; rfl
    rw [e1]
    refine ih _ _ _ (fun fs hf => ok fs (List.mem_cons_of_mem _ hf)) (by simp; omega) fun x7 x8 => ?_
    have e2 : acc ++ (furE zs es).map (fun e => es ++ [e]) ++ longer zs its = acc ++ longer zs (es :: its) := by simp [longer]
    rw [e2]
    exact q x7 x8
abbrev arO (K : PySem.W.Frag) : TSD := rSeq (rAsg (rLstR rNil) (dName 6))
  (rSeq (rFor (rIter (rVar 4)) (dName 7) (arB K))
  (rPar 3 4 (rCons (rOp dAdd (rVar 3) (rVar 6)) (rCons (rVarH 6) rNil))))
theorem ar_out {Dd : EndsD} {r : D} {R : RF} (W : WF R) (hr : readerD K R r) {zs : List Str} (hz : ∀ z ∈ zs, goodName z) (h2 : zs.length ≤ 2) {h : DH} {x0 x2 : Option D} :
    ∀ (its : List D) (n : Nat) (x5 x6 x7 x8 : Option D), n + its.length ≤ 7 →
    (∀ x5 x6 x7 x8, Dd.nx [x0, some (.lv (txs zs)), x2, some (.lv ((allE zs (n + its.length)).map (runX K r R))), some (.lv ((layE zs (n + its.length)).map (runX K r R))), x5, x6, x7, x8] h) →
    rForL (dName 5) (arO K) Dd (fun _ => True) its [x0, some (.lv (txs zs)), x2, some (.lv ((allE zs n).map (runX K r R))), some (.lv ((layE zs n).map (runX K r R))), x5, x6, x7, x8] h := by
  intro its
  induction its with
  | nil => intro n x5 x6 x7 x8 _ q; exact ⟨trivial, q _ _ _ _⟩
  | cons i its ih =>
    intro n x5 x6 x7 x8 hn q
    simp only [List.length_cons] at hn q
    have l1 := lay_small h2 (n := n) (by omega)
    have l2 := lay_small h2 (n := n + 1) (by omega)
    have l3 := all_small h2 (n := n) (by omega)
    refine ⟨trivial, small (by simp), fun B hB => ?_⟩
    refine ar_in W hr hz h2 hB (layE zs n) [] x7 x8 (fun es he => ?_) (by simp; omega) fun x7 x8 => ?_
    · obtain ⟨a, b⟩ := lay_ok hz n (by omega) es he
      exact ⟨a, by omega⟩
    rw [List.nil_append]
    refine ⟨_, up_same, sz24 (by rw [List.length_map, List.length_map]; show _ + (layE zs (n + 1)).length ≤ _; omega), .inl ⟨_, up_same, ?_⟩⟩
    rw [del_up hB, ← List.map_append]
    refine ih (n + 1) _ _ _ _ (by omega) fun x5 x6 x7 x8 => ?_
    rw [show n + 1 + its.length = n + (its.length + 1) by omega]
    exact q _ _ _ _
theorem len__law_all_runs (ds : List D) (h : DH) (Qd : D → DH → Prop) (q : sp__law_all_runs K ds h Qd) : ds.length = 3 := by
  unfold sp__law_all_runs at q
  repeat (first | (obtain ⟨e, _⟩ := q; subst e; rfl) | obtain ⟨_, q⟩ := q)
theorem read__law_all_runs (M : Md K mg) (ds : List D) (h : DH) (Qd : D → DH → Prop) (q : sp__law_all_runs K ds h Qd) : t__law_all_runs K (sp_Reader_run K) (sp__law_further K) (sp_Run_after K) ⟨fun _ h' => Qd .non h', Qd, fun _ _ => False, fun _ _ => False⟩ (st0 N__law_all_runs.length ds) h := by
  obtain ⟨r, R, zs, mo, rfl, W, hr, hz, h2, h7, q⟩ := q
  obtain ⟨os, cs, er, rl⟩ := id hr
  subst er
  refine ⟨rfl, R, _, rfl, W, hr, small (by simp), rfl, R, _, rfl, W, hr, small (by simp), ?_⟩
  refine ⟨rfl, ⟨by omega, Int.lt_trans (show (mo : Int) < 1000 by omega) (by decide)⟩, ?_⟩
  have lr : (rangeD 0 ((mo : Int).toNat)).length = mo := by simp [rangeD]
  refine ar_out W hr hz h2 (rangeD 0 ((mo : Int).toNat)) 0 none none none none (by rw [lr]; omega) fun x5 x6 x7 x8 => ?_
  rw [lr, Nat.zero_add]
  exact q
end LK
set_option Elab.async false
set_option linter.all false
set_option maxRecDepth 100000
set_option maxHeartbeats 4000000
namespace LK
open PySem PySem.Spec PyProof.Rows L2 DL
variable {K : PySem.W.Frag} {mg : Str → Option Value}
theorem run_said34 {R : RF} (W : WF R) {es : List Ev} (ok : EvOk es) : ∀ d ∈ (runF R (ts0 R) es).told, saidD d := (tell_said W ok.1).1
abbrev nrB (K : PySem.W.Frag) : TSD := rSeq (rPar 5 6 (rCons (rMeth (He.ga K "Run") (sp_Run_after K) [] (rVar 0) (rCons (rVar 4) rNil)) (rCons (rMeth (He.ga K "Run") (sp_Run_after K) [] (rVar 1) (rCons (rVar 4) rNil)) rNil)))
  (rIfS (bOr (rTest (rOp dNe (rSlice (rProp (He.ga K "Run") (sp_Run_told K) (rVar 5)) (rPart (rCB dLen (rCons (rProp (He.ga K "Run") (sp_Run_told K) (rVar 0)) rNil))) rNoPart) (rSlice (rProp (He.ga K "Run") (sp_Run_told K) (rVar 6)) (rPart (rCB dLen (rCons (rProp (He.ga K "Run") (sp_Run_told K) (rVar 1)) rNil))) rNoPart))) (rTest (rOp dNe (rCall (sp__law_standing K) [] (rCons (rVar 5) rNil)) (rCall (sp__law_standing K) [] (rCons (rVar 6) rNil))))) (rRet (rC (.bl false))) rNext)
theorem i63' {i : Nat} (h : i < 1000) : (i : Int) < 2 ^ 63 := Int.lt_trans (show (i : Int) < 1000 by omega) (by decide)
theorem dne_same {h : DH} {n : Nat} {d d1 d2 : D} {Q : D → DH → Prop} (l : Lay n d) (e1 : d1 = d) (e2 : d2 = d) (q : Q (.bl false) h) (hn : n ≤ 60 := by decide) : dNe d1 d2 h Q := by
  subst e1 e2
  refine ⟨l.sh hn, l.sh hn, ?_⟩
  rw [l.ne]; exact q
theorem nr_loop {Dd : EndsD} {r : D} {R : RF} (W : WF R) (hr : readerD K R r) {zs : List Str} (hz : ∀ z ∈ zs, goodName z) {es fs : List Ev} (ok : EvOk es) (ok' : EvOk fs) (l1 : es.length ≤ 90) (l2 : fs.length ≤ 90) (A : Alk R es fs) {h : DH} {x2 x3 : Option D} :
    ∀ (its : List Ev) (x4 x5 x6 : Option D), (∀ e ∈ its, e ∈ furE zs es) → (∀ x4 x5 x6, Dd.nx [some (runX K r R es), some (runX K r R fs), x2, x3, x4, x5, x6] h) →
    rForL (dName 4) (nrB K) Dd (fun _ => True) (its.map (evD R.mode)) [some (runX K r R es), some (runX K r R fs), x2, x3, x4, x5, x6] h := by
  intro its
  induction its with
  | nil => intro x4 x5 x6 _ q; exact ⟨trivial, q x4 x5 x6⟩
  | cons e its ih =>
    intro x4 x5 x6 hi q
    have he := hi e List.mem_cons_self
    obtain ⟨f, hf, ef, A2, suf, t1, t2⟩ := alk_step A he
    have oe := fur_ok hz ok (by omega) he
    have of' := fur_ok hz ok' (by omega) hf
    have st := alk_std A2
    obtain ⟨fi, S⟩ := runX_stands W ok
    obtain ⟨gi, S'⟩ := runX_stands W ok'
    have tl := S.tl
    have tl' := S'.tl
    have said : ∀ d ∈ suf, saidD d := fun d hd => run_said34 W oe d (by rw [t1]; exact List.mem_append_right _ hd)
    have ls : Lay 1 (.tup suf) := layT (laySaid said)
    have L3 := layStd W oe
    have c1 : DL.cutD (runF R (ts0 R) (es ++ [e])).told (some (((runF R (ts0 R) es).told.length : Nat) : Int)) none = suf := by
      rw [cutD_from _ _ (i63' (by omega)), t1]; simp
    have c2 : DL.cutD (runF R (ts0 R) (fs ++ [f])).told (some (((runF R (ts0 R) fs).told.length : Nat) : Int)) none = suf := by
      rw [cutD_from _ _ (i63' (by omega)), t2]; simp
    refine ⟨trivial, rfl, r, R, es, e, rfl, W, hr, oe, rfl, r, R, fs, f, by rw [ef]; rfl, W, hr, of', ?_⟩
    refine ⟨rfl, _, _, _, _, _, _, _, rfl, rfl, _, _, _, _, _, _, _, rfl, ?_⟩
    refine ⟨rfl, _, _, _, _, _, _, _, rfl, rfl, _, _, _, _, _, _, _, rfl, ?_⟩
    refine (show _ ∧ _ ∧ _ from ?_)
    rw [c1, c2]
    refine ⟨ls.sh, ls.sh, ?_⟩
    rw [ls.ne]
    refine ⟨fun e => (nomatch e), fun _ => ?_⟩
    refine ⟨r, R, es ++ [e], rfl, W, hr, oe, r, R, fs ++ [f], rfl, W, hr, of', ?_⟩
    rw [← st]
    refine ⟨L3.sh, L3.sh, ?_⟩
    rw [L3.ne]
    refine ⟨fun e => (nomatch e), fun _ => ?_⟩
    exact ih _ _ _ (fun x hx => hi x (List.mem_cons_of_mem _ hx)) q
theorem len__law_next_right (ds : List D) (h : DH) (Qd : D → DH → Prop) (q : sp__law_next_right K ds h Qd) : ds.length = 3 := by
  unfold sp__law_next_right at q
  repeat (first | (obtain ⟨e, _⟩ := q; subst e; rfl) | obtain ⟨_, q⟩ := q)
theorem read__law_next_right (M : Md K mg) (ds : List D) (h : DH) (Qd : D → DH → Prop) (q : sp__law_next_right K ds h Qd) : t__law_next_right K (sp__law_further K) (sp_Run_after K) (sp_Run_told K) (sp__law_standing K) ⟨fun _ h' => Qd .non h', Qd, fun _ _ => False, fun _ _ => False⟩ (st0 N__law_next_right.length ds) h := by
  obtain ⟨r, R, es, fs, zs, rfl, W, hr, ok, ok', l1, l2, hz, h2, A, q⟩ := q
  have ef := alk_fur (zs := zs) A
  have fl : (furE zs es).length ≤ 3 := Nat.le_trans fur_len (by omega)
  have gl : ∀ e ∈ furE zs es, goodName (evL e) := fun e he => (fur_ok hz ok (by omega) he).good e (by simp)
  have lf : Lay 2 (.lv ((furE zs es).map (evD R.mode))) := layL (layEvs gl)
  refine ⟨r, R, es, zs, rfl, W, hr, ok, by omega, ?_⟩
  refine ⟨r, R, fs, zs, rfl, W, hr, ok', by omega, ?_⟩
  rw [← ef]
  refine ⟨lf.sh, lf.sh, ⟨fun e => no_tf e lf.ne, fun _ => ?_⟩⟩
  exact nr_loop W hr hz ok ok' l1 l2 A (furE zs es) none none none (fun _ h => h) fun _ _ _ => q
end LK
set_option Elab.async false
set_option linter.all false
set_option maxRecDepth 100000
set_option maxHeartbeats 4000000
namespace LK
open PySem PySem.Spec PyProof.Rows L2 DL
variable {K : PySem.W.Frag} {mg : Str → Option Value}
/-! ### how many standings there are at a depth -/
def oneP : Nat → List (List (List D))
  | 0 => []
  | d + 1 => ([.int 0] :: List.replicate d []) :: (oneP d).map ([] :: ·)
def patP (d m : Nat) : List (List (List D)) := List.replicate d [] :: (if m = 0 then [] else oneP d)
theorem oneP_len : ∀ d, (oneP d).length = d
  | 0 => rfl
  | d + 1 => by simp [oneP, oneP_len d]
theorem patP_len {d m : Nat} (hm : m ≤ 1) : (patP d m).length = 1 + d * m := by
  unfold patP
  rcases (show m = 0 ∨ m = 1 by omega) with rfl | rfl <;> simp [oneP_len] <;> omega
theorem pat0 : ∀ {xs : List (List D)}, (xs.map List.length).sum = 0 → xs = List.replicate xs.length []
  | [], _ => rfl
  | x :: xs, h => by
    simp only [List.map_cons, List.sum_cons] at h
    have e : x = [] := List.length_eq_zero_iff.mp (by omega)
    have i := pat0 (xs := xs) (by omega)
    rw [e, List.length_cons, List.replicate_succ, ← i]
theorem pat1 : ∀ {xs : List (List D)}, (∀ x ∈ xs, x = [] ∨ x = [.int 0]) → (xs.map List.length).sum = 1 → xs ∈ oneP xs.length
  | [], _, h => by simp at h
  | x :: xs, hx, h => by
    simp only [List.map_cons, List.sum_cons] at h
    rcases hx x List.mem_cons_self with rfl | rfl
    · have i := pat1 (xs := xs) (fun y hy => hx y (List.mem_cons_of_mem _ hy)) (by simpa using h)
      exact List.mem_cons_of_mem _ (List.mem_map.mpr ⟨xs, i, rfl⟩)
    · have i := pat0 (xs := xs) (by simp at h; simpa using h)
      rw [List.length_cons]
      show _ ∈ (_ :: _)
      rw [← i]
      exact List.mem_cons_self
theorem pat_in {m : Nat} (hm : m ≤ 1) {xs : List (List D)} (hx : ∀ x ∈ xs, x = [] ∨ x = [.int 0]) (hs : (xs.map List.length).sum ≤ m) : xs ∈ patP xs.length m := by
  unfold patP
  rcases (show (xs.map List.length).sum = 0 ∨ (xs.map List.length).sum = 1 by omega) with h | h
  · have e := pat0 h
    have : xs ∈ [List.replicate xs.length ([] : List D)] := by rw [← e]; exact List.mem_cons_self
    exact List.mem_append_left _ this
  · rw [if_neg (by omega)]
    exact List.mem_cons_of_mem _ (pat1 hx h)
/-- the key of a state and what lies on the open nodes -/
def prD (R : RF) (es : List Ev) : D := .tup [.int ((runF R (ts0 R) es).st : Nat), .tup (lyD (runF R (ts0 R) es).stk)]
def univ (n m d : Nat) : List NestedKey := (List.range n).flatMap fun s => (patP d m).map fun p => nk (.tup [.int (s : Nat), .tup (p.map D.tup)])
theorem univ_len {n m d : Nat} (hm : m ≤ 1) : (univ n m d).length = n * (1 + d * m) := by
  unfold univ
  rw [List.length_flatMap]
  simp only [List.length_map, patP_len hm]
  rw [List.map_const', List.sum_replicate_nat, List.length_range]
theorem lyD_eq (stk : List (Str × List D)) : lyD stk = (stk.reverse.map (·.2)).map D.tup := by simp [lyD, Function.comp_def]
theorem pr_univ {R : RF} (W : WF R) (hm : R.marks ≤ 1) {es : List Ev} (ok : EvOk es) : nk (prD R es) ∈ univ R.n R.marks (runF R (ts0 R) es).stk.length := by
  obtain ⟨fi, S⟩ := runX_stands W ok
  have M := mk1_ev W hm ok
  have sum := M.sum
  have s1 : (((runF R (ts0 R) es).stk.reverse.map (·.2)).map List.length).sum ≤ R.marks := by
    rw [List.map_map, List.map_reverse, List.sum_reverse]
    have : ((runF R (ts0 R) es).stk.map (List.length ∘ fun x => x.2)).sum = ((runF R (ts0 R) es).stk.map fun p => p.2.length).sum := rfl
    omega
  have p := pat_in hm (xs := (runF R (ts0 R) es).stk.reverse.map (·.2)) (fun x hx => by obtain ⟨p, hp, rfl⟩ := List.mem_map.mp hx; exact M.ly p (List.mem_reverse.mp hp)) s1
  rw [List.length_map, List.length_reverse] at p
  refine List.mem_flatMap.mpr ⟨(runF R (ts0 R) es).st, List.mem_range.mpr S.st, List.mem_map.mpr ⟨_, p, ?_⟩⟩
  unfold prD
  rw [lyD_eq]
/-! ### keys -/
theorem nk_nums3 (is : List Int) : isNkL (nums is) = true ∧ SN.noTxs (nkL (nums is)) = true ∧ NestedKey.depthAll (nkL (nums is)) = 0 := by
  induction is with
  | nil => exact ⟨rfl, rfl, rfl⟩
  | cons i is ih =>
    obtain ⟨a, b, c⟩ := ih
    refine ⟨?_, ?_, ?_⟩
    · simpa [isNkL, isNk] using a
    · simpa [nkL, nk, SN.noTxs, SN.noTx] using b
    · simpa [nkL, nk, NestedKey.depthAll, NestedKey.depth] using c
theorem nk_txs (zs : List Str) : isNkL (txs zs) = true ∧ NestedKey.depthAll (nkL (txs zs)) = 0 := by
  induction zs with
  | nil => exact ⟨rfl, rfl⟩
  | cons i is ih =>
    obtain ⟨a, c⟩ := ih
    refine ⟨?_, ?_⟩
    · simpa [isNkL, isNk] using a
    · simpa [nkL, nk, NestedKey.depthAll, NestedKey.depth] using c
theorem nk_ly {m : Nat} : ∀ (ds : List D), (∀ d ∈ ds, ∃ ms, d = .tup ms ∧ MarksOk m ms) → isNkL ds = true ∧ SN.noTxs (nkL ds) = true ∧ NestedKey.depthAll (nkL ds) ≤ 1
  | [], _ => ⟨rfl, rfl, Nat.zero_le _⟩
  | d :: ds, h => by
    obtain ⟨a, b, c⟩ := nk_ly ds fun x hx => h x (List.mem_cons_of_mem _ hx)
    obtain ⟨ms, rfl, is, rfl, _⟩ := h d List.mem_cons_self
    obtain ⟨x, y, z⟩ := nk_nums3 is
    refine ⟨?_, ?_, ?_⟩
    · simp only [isNkL, isNk, a, x, Bool.and_true]
    · simp only [nkL, nk, SN.noTxs, SN.noTx, b, y, Bool.and_true]
    · simp only [nkL, nk, NestedKey.depthAll, NestedKey.depth, z]
      omega
theorem ly_marks {R : RF} {t : TS} {fi : List Int} {k : Nat} (S : Stands R t fi k) : ∀ d ∈ lyD t.stk, ∃ ms, d = .tup ms ∧ MarksOk R.marks ms := fun d hd => by
  obtain ⟨p, hp, rfl⟩ := List.mem_map.mp hd
  exact ⟨p.2, rfl, (S.sk p (List.mem_reverse.mp hp)).2⟩
theorem pr_key {R : RF} (W : WF R) {es : List Ev} (ok : EvOk es) : isTk (prD R es) = true ∧ SN.noTx (nk (prD R es)) = true := by
  obtain ⟨fi, S⟩ := runX_stands W ok
  obtain ⟨a, b, c⟩ := nk_ly _ (ly_marks S)
  constructor
  · unfold isTk prD
    refine Bool.and_eq_true_iff.mpr ⟨?_, dT ?_⟩
    · simp only [isNk, isNkL, a, Bool.and_true]
    · simp only [nk, nkL, NestedKey.depth, NestedKey.depthAll]
      omega
  · unfold prD
    simp only [nk, nkL, SN.noTx, SN.noTxs, b, Bool.and_true]
theorem std_key {R : RF} (W : WF R) {es : List Ev} (ok : EvOk es) : isTk (stdD R es) = true := by
  obtain ⟨fi, S⟩ := runX_stands W ok
  obtain ⟨a, b, c⟩ := nk_ly _ (ly_marks S)
  have w : ∃ x, x = (if R.mode = "named" then D.tup (wayD (runF R (ts0 R) es).stk) else .int ((runF R (ts0 R) es).stk.length : Nat)) ∧ isNk x = true ∧ (nk x).depth ≤ 1 := by
    refine ⟨_, rfl, ?_⟩
    by_cases hm : R.mode = "named"
    · rw [if_pos hm, wayD_eq]
      obtain ⟨x, z⟩ := nk_txs ((runF R (ts0 R) es).stk.reverse.map (·.1))
      exact ⟨by simpa only [isNk] using x, by simp only [nk, NestedKey.depth, z]; omega⟩
    · rw [if_neg hm]
      exact ⟨rfl, by simp only [nk, NestedKey.depth]; omega⟩
  obtain ⟨x, ex, x1, x2⟩ := w
  unfold isTk stdD
  rw [← ex]
  refine Bool.and_eq_true_iff.mpr ⟨?_, dT ?_⟩
  · simp only [isNk, isNkL, a, x1, Bool.and_true]
  · simp only [nk, nkL, NestedKey.depth, NestedKey.depthAll]
    omega
theorem Alk.refl {R : RF} {es : List Ev} : Alk R es es := ⟨rfl, rfl, rfl, .inl rfl, fun _ => rfl⟩
end LK
set_option Elab.async false
set_option linter.all false
set_option maxRecDepth 100000
set_option maxHeartbeats 4000000
namespace LK
open PySem PySem.Spec PyProof.Rows L2 DL
variable {K : PySem.W.Frag} {mg : Str → Option Value}
/-! ### the two dicts of the loop -/
/-- the dict of first runs -/
def Fst (K : PySem.W.Frag) (R : RF) (r : D) (h : DH) (A : Addr) (n : Nat) : Prop := ∃ ks vs, h A = some (.dic ks vs) ∧ ks.length = vs.length ∧ ks.length ≤ n ∧ (∀ k ∈ ks, isTk k = true) ∧
  ∀ (i : Nat) k v, ks[i]? = some k → vs[i]? = some v → ∃ fs, EvOk fs ∧ fs.length ≤ 7 ∧ k = stdD R fs ∧ v = runX K r R fs
/-- one entry of the dict of depths -/
def Ent (R : RF) (hb h : DH) (A B : Addr) (n : Nat) (k v : D) : Prop := ∃ (d : Nat) (a : Addr) (ds : List D), k = .int d ∧ d ≤ 7 ∧ v = .ref a ∧ hb a = none ∧ a ≠ A ∧ a ≠ B ∧ h a = some (.lst ds) ∧ ds.length ≤ n ∧
  ∀ x ∈ ds, ∃ fs, EvOk fs ∧ fs.length ≤ 7 ∧ (runF R (ts0 R) fs).stk.length = d ∧ x = prD R fs
def Dps (R : RF) (hb h : DH) (A B : Addr) (n : Nat) : Prop := ∃ ks vs, h B = some (.dic ks vs) ∧ ks.length = vs.length ∧ ks.length ≤ n ∧ (ks.map nk).Nodup ∧ (∀ k ∈ ks, isSk k = true) ∧ vs.Nodup ∧
  ∀ (i : Nat) k v, ks[i]? = some k → vs[i]? = some v → Ent R hb h A B n k v
theorem Fst.frame {R : RF} {r : D} {h h' : DH} {A : Addr} {n m : Nat} (f : Fst K R r h A n) (e : h' A = h A) (hm : n ≤ m) : Fst K R r h' A m := by
  obtain ⟨ks, vs, a, b, c, d, g⟩ := f
  exact ⟨ks, vs, by rw [e]; exact a, b, by omega, d, g⟩
theorem Ent.frame {R : RF} {hb h h' : DH} {A B : Addr} {n m : Nat} {k v : D} (f : Ent R hb h A B n k v) (e : ∀ a, a ≠ A → a ≠ B → h a ≠ none → v = .ref a → h' a = h a) (hm : n ≤ m) : Ent R hb h' A B m k v := by
  obtain ⟨d, a, ds, f1, f2, f3, f4, f5, f6, f7, f8, f9⟩ := f
  exact ⟨d, a, ds, f1, f2, f3, f4, f5, f6, by rw [e a f5 f6 (by rw [f7]; exact fun z => nomatch z) f3]; exact f7, by omega, f9⟩
theorem lookA_hit {ks vs : List D} {k x : D} (e : lookA ks vs k = some x) : ∃ (i : Nat) (z : D), ks[i]? = some z ∧ vs[i]? = some x ∧ nk z = nk k := by
  unfold lookA at e
  cases h : ixK ks k with
  | none => rw [h] at e; cases e
  | some i =>
    rw [h] at e
    obtain ⟨z, h1, h2⟩ := ixK_hit h
    exact ⟨i, z, h1, e, h2⟩
theorem lookA_miss {ks vs : List D} {k : D} (l : ks.length = vs.length) (e : lookA ks vs k = none) : ixK ks k = none := by
  cases h : ixK ks k with
  | none => rfl
  | some i =>
    have lt := ixK_lt h
    unfold lookA at e
    rw [h] at e
    have e : vs[i]? = none := e
    rw [List.getElem?_eq_getElem (by omega)] at e
    cases e
theorem put_miss {ks vs : List D} {k v : D} (e : ixK ks k = none) : putKs ks k = ks ++ [k] ∧ putA ks vs k v = vs ++ [v] := by
  unfold putKs putA
  rw [e]
  exact ⟨rfl, rfl⟩
theorem app_at {α : Type} {l : List α} {x y : α} {i : Nat} (h : (l ++ [x])[i]? = some y) : l[i]? = some y ∨ (i = l.length ∧ y = x) := by
  rcases Nat.lt_trichotomy i l.length with c | c | c
  · rw [List.getElem?_append_left c] at h; exact .inl h
  · subst c; rw [List.getElem?_append_right (Nat.le_refl _)] at h; simp at h; exact .inr ⟨rfl, h.symm⟩
  · rw [List.getElem?_append_right (by omega), List.getElem?_eq_none (by simp; omega)] at h; cases h
/-- a first run is put in -/
theorem fst_put {R : RF} (W : WF R) {r : D} {h : DH} {A : Addr} {n : Nat} {ks vs : List D} (hA : h A = some (.dic ks vs)) (f2 : ks.length = vs.length) (f3 : ks.length ≤ n) (f4 : ∀ k ∈ ks, isTk k = true)
    (f5 : ∀ (i : Nat) k v, ks[i]? = some k → vs[i]? = some v → ∃ fs, EvOk fs ∧ fs.length ≤ 7 ∧ k = stdD R fs ∧ v = runX K r R fs) {es : List Ev} (ok : EvOk es) (l7 : es.length ≤ 7) (e : ixK ks (stdD R es) = none) :
    Fst K R r (up h A (.dic (putKs ks (stdD R es)) (putA ks vs (stdD R es) (runX K r R es)))) A (n + 1) := by
  obtain ⟨p1, p2⟩ := put_miss (vs := vs) (v := runX K r R es) e
  rw [p1, p2]
  refine ⟨_, _, up_same, by simp [f2], by simp; omega, fun k hk => ?_, fun i k v hk hv => ?_⟩
  · rcases List.mem_append.mp hk with hk | hk
    · exact f4 k hk
    · cases List.mem_singleton.mp hk; exact std_key W ok
  · rcases app_at hk with a | ⟨a, b⟩
    · rcases app_at hv with c | ⟨c, d⟩
      · exact f5 i k v a c
      · rw [List.getElem?_eq_none (by omega)] at a; cases a
    · rcases app_at hv with c | ⟨c, d⟩
      · rw [List.getElem?_eq_none (by omega)] at c; cases c
      · exact ⟨es, ok, l7, b, d⟩
/-- one more standing at a depth that is known -/
theorem dps_old {R : RF} {hb h : DH} {A B L a : Addr} {n : Nat} {ks vs ds : List D} (hB : h B = some (.dic ks vs)) (f2 : ks.length = vs.length) (f3 : ks.length ≤ n) (f4 : (ks.map nk).Nodup) (f5 : ∀ k ∈ ks, isSk k = true) (f6 : vs.Nodup)
    (f7 : ∀ (i : Nat) k v, ks[i]? = some k → vs[i]? = some v → Ent R hb h A B n k v) (hL : h L = none) {i : Nat} {k : D} (hk : ks[i]? = some k) (hv : vs[i]? = some (.ref a)) (ha : h a = some (.lst ds)) {es : List Ev} (ok : EvOk es) (l7 : es.length ≤ 7)
    (ek : k = .int ((runF R (ts0 R) es).stk.length : Nat)) : Dps R hb (up (up h L (.lst [])) a (.lst (ds ++ [prD R es]))) A B (n + 1) := by
  obtain ⟨d, a', ds', g1, g2, g3, g4, g5, g6, g7, g8, g9⟩ := f7 i k _ hk hv
  cases g3
  have eds : ds' = ds := by rw [ha] at g7; cases g7; rfl
  subst eds
  have BL : B ≠ L := fun e => by rw [e, hL] at hB; cases hB
  have aL : a ≠ L := fun e => by rw [e, hL] at ha; cases ha
  have ed : d = (runF R (ts0 R) es).stk.length := by
    rw [g1] at ek
    injection ek with ek
    omega
  refine ⟨ks, vs, by rw [up_ne g6.symm, up_ne BL]; exact hB, f2, by omega, f4, f5, f6, fun j k' v' hk' hv' => ?_⟩
  by_cases hj : v' = .ref a
  · subst hj
    have ij : j = i := by
      have li : i < vs.length := (List.getElem?_eq_some_iff.mp hv).1
      have lj : j < vs.length := (List.getElem?_eq_some_iff.mp hv').1
      refine (List.getElem_inj (xs := vs) (h₀ := lj) (h₁ := li) f6).mp ?_
      rw [(List.getElem?_eq_some_iff.mp hv).2, (List.getElem?_eq_some_iff.mp hv').2]
    subst ij
    rw [hk] at hk'
    cases hk'
    refine ⟨d, a, ds' ++ [prD R es], g1, g2, rfl, g4, g5, g6, up_same, by simp; omega, fun x hx => ?_⟩
    rcases List.mem_append.mp hx with hx | hx
    · exact g9 x hx
    · cases List.mem_singleton.mp hx; exact ⟨es, ok, l7, ed.symm, rfl⟩
  · refine (f7 j k' v' hk' hv').frame (fun b b1 b2 b3 b4 => ?_) (Nat.le_succ n)
    have ba : b ≠ a := fun e => hj (by rw [b4, e])
    have bL : b ≠ L := fun e => b3 (by rw [e]; exact hL)
    rw [up_ne ba, up_ne bL]
/-- the first standing at a depth -/
theorem dps_new {R : RF} {hb h : DH} (less : Less hb h) {A B L : Addr} {n : Nat} {ks vs : List D} (hB : h B = some (.dic ks vs)) (hA : ∃ o, h A = some o) (f2 : ks.length = vs.length) (f3 : ks.length ≤ n) (f4 : (ks.map nk).Nodup) (f5 : ∀ k ∈ ks, isSk k = true) (f6 : vs.Nodup)
    (f7 : ∀ (i : Nat) k v, ks[i]? = some k → vs[i]? = some v → Ent R hb h A B n k v) (hL : h L = none) {es : List Ev} (ok : EvOk es) (l7 : es.length ≤ 7) {k : D} (dl : (runF R (ts0 R) es).stk.length ≤ 7)
    (ek : k = .int ((runF R (ts0 R) es).stk.length : Nat)) (e : ixK ks k = none) : Dps R hb (up (up (up h L (.lst [])) B (.dic (putKs ks k) (putA ks vs k (.ref L)))) L (.lst ([] ++ [prD R es]))) A B (n + 1) := by
  obtain ⟨p1, p2⟩ := put_miss (vs := vs) (v := .ref L) e
  have BL : B ≠ L := fun e => by rw [e, hL] at hB; cases hB
  obtain ⟨o, hA⟩ := hA
  have AL : A ≠ L := fun e => by rw [e, hL] at hA; cases hA
  have hbL : hb L = none := by
    cases q : hb L with
    | none => rfl
    | some o => rw [less L o q] at hL; cases hL
  have nd := put_nd (k := k) f4
  rw [p1] at nd
  rw [p1, p2]
  refine ⟨ks ++ [k], vs ++ [.ref L], by rw [up_ne BL]; exact up_same, by simp [f2], by simp; omega, nd, fun z hz => ?_, ?_, fun j k' v' hk' hv' => ?_⟩
  · rcases List.mem_append.mp hz with hz | hz
    · exact f5 z hz
    · cases List.mem_singleton.mp hz; rw [ek]; rfl
  · rw [List.nodup_append]
    refine ⟨f6, by simp, fun x hx y hy => ?_⟩
    cases List.mem_singleton.mp hy
    rintro rfl
    obtain ⟨i, hi⟩ := List.getElem?_of_mem hx
    have li : i < ks.length := by rw [f2]; exact (List.getElem?_eq_some_iff.mp hi).1
    obtain ⟨d, a, ds, g1, g2, g3, g4, g5, g6, g7, _⟩ := f7 i _ _ (List.getElem?_eq_getElem li) hi
    cases g3
    rw [hL] at g7
    cases g7
  · have old : ks[j]? = some k' → vs[j]? = some v' → Ent R hb (up (up (up h L (.lst [])) B (.dic (ks ++ [k]) (vs ++ [.ref L]))) L (.lst ([] ++ [prD R es]))) A B (n + 1) k' v' := fun a b => by
      refine (f7 j k' v' a b).frame (fun b b1 b2 b3 b4 => ?_) (Nat.le_succ n)
      have bL : b ≠ L := fun e => b3 (by rw [e]; exact hL)
      rw [up_ne bL, up_ne b2, up_ne bL]
    rcases app_at hk' with a | ⟨a, b⟩
    · rcases app_at hv' with c | ⟨c, d⟩
      · exact old a c
      · rw [List.getElem?_eq_none (by omega)] at a; cases a
    · rcases app_at hv' with c | ⟨c, d⟩
      · rw [List.getElem?_eq_none (by omega)] at c; cases c
      · refine ⟨(runF R (ts0 R) es).stk.length, L, [prD R es], by rw [b, ek], dl, d, hbL, AL.symm, BL.symm, up_same, by simp, fun x hx => ?_⟩
        cases List.mem_singleton.mp hx
        exact ⟨es, ok, l7, rfl, rfl⟩
theorem less_up2 {hb h : DH} {a : Addr} {o : DO} (l : Less hb h) (n : hb a = none) : Less hb (up h a o) := fun b u e => by rw [up_ne (fun z => by rw [z, n] at e; cases e)]; exact l b u e
theorem less_no {hb h : DH} {a : Addr} (l : Less hb h) (n : h a = none) : hb a = none := by
  cases q : hb a with
  | none => rfl
  | some o => rw [l a o q] at n; cases n
abbrev lrS (p A B : Addr) (zs : List Str) (m : Str) (st mk : Nat) (r : D) (x8 x9 x10 : Option D) : SD := [some (.ref p), some (.lv (txs zs)), some (.str m), some (.int st), some (.int mk), some r, some (.ref A), some (.ref B), x8, x9, x10]
abbrev lrB (K : PySem.W.Frag) : TSD := rSeq (rAsg (rMt "dict" dSetd (rVar 6) (rCons (rCall (sp__law_standing K) [] (rCons (rVar 8) rNil)) (rCons (rVar 8) rNil))) (dName 9))
  (rSeq (rIfS (bOr (rTest (rOp dNe (rProp (He.ga K "Run") (sp_Run_free K) (rVar 9)) (rProp (He.ga K "Run") (sp_Run_free K) (rVar 8)))) (bNot (rTest (rCall (sp__law_next_right K) [] (rCons (rVar 9) (rCons (rVar 8) (rCons (rVar 1) rNil))))))) (rRet (rC (.bl false))) rNext)
  (rDrop (rMt "list" dAppend (rMt "dict" dSetd (rVar 7) (rCons (rCB dLen (rCons (rProp (He.ga K "Run") (sp_Run_way K) (rVar 8)) rNil)) (rCons (rLstR rNil) rNil))) (rCons (rTup (rCons (rProp (He.ga K "Run") (sp_Run_state K) (rVar 8)) (rCons (rProp (He.ga K "Run") (sp_Run_lying K) (rVar 8)) rNil))) rNil))))
theorem all_Tk {ks : List D} (h : ∀ k ∈ ks, isTk k = true) {k : D} (hk : isTk k = true) : keyOk ks k = true := by
  unfold keyOk
  rw [List.all_eq_true.mpr h, hk]
  simp
theorem all_Sk {ks : List D} (h : ∀ k ∈ ks, isSk k = true) {k : D} (hk : isSk k = true) : keyOk ks k = true := by
  unfold keyOk
  rw [List.all_eq_true.mpr h, hk]
  simp
theorem lr_loop {Dd : EndsD} {r : D} {R : RF} (W : WF R) (hr : readerD K R r) (m1 : R.marks ≤ 1) {zs : List Str} (hz : ∀ z ∈ zs, goodName z) (h2 : zs.length ≤ 2) {p A B : Addr} {hb : DH} {m : Str} {st mk : Nat} {x10 : Option D} (hbA : hb A = none) (hbB : hb B = none) (AB : A ≠ B) :
    ∀ (its : List (List Ev)) (n : Nat) (h : DH) (x8 x9 : Option D), (∀ es ∈ its, EvOk es ∧ es.length ≤ 7) → n + its.length ≤ 5000 → Less hb h → Fst K R r h A n → Dps R hb h A B n →
    (∀ h' x8 x9, Less hb h' → Dps R hb h' A B (n + its.length) → Dd.nx (lrS p A B zs m st mk r x8 x9 x10) h') →
    rForL (dName 8) (lrB K) Dd (fun _ => True) (its.map (runX K r R)) (lrS p A B zs m st mk r x8 x9 x10) h := by
  intro its
  induction its with
  | nil => intro n h x8 x9 _ _ less f g q; exact ⟨trivial, q h x8 x9 less g⟩
  | cons es its ih =>
    intro n h x8 x9 hi hn less f g q
    simp only [List.length_cons] at hn q
    obtain ⟨ok, l7⟩ := hi es List.mem_cons_self
    obtain ⟨fi, S⟩ := runX_stands W ok
    have dl : (runF R (ts0 R) es).stk.length ≤ 7 := Nat.le_trans S.sl l7
    have next : ∀ (h1 : DH) x8 x9, Less hb h1 → Fst K R r h1 A (n + 1) → Dps R hb h1 A B (n + 1) → rForL (dName 8) (lrB K) Dd (fun _ => True) (its.map (runX K r R)) (lrS p A B zs m st mk r x8 x9 x10) h1 := fun h1 x8 x9 a b c => by
      refine ih (n + 1) h1 x8 x9 (fun fs hf => hi fs (List.mem_cons_of_mem _ hf)) (by omega) a b c fun h' x8 x9 a' b' => q h' x8 x9 a' ?_
      rw [show n + (its.length + 1) = n + 1 + its.length by omega]
      exact b'
    have cont : ∀ (fs : List Ev) (h1 : DH), EvOk fs → fs.length ≤ 7 → Alk R fs es → Less hb h1 → Fst K R r h1 A (n + 1) → Dps R hb h1 A B n →
        (rSeq (rIfS (bOr (rTest (rOp dNe (rProp (He.ga K "Run") (sp_Run_free K) (rVar 9)) (rProp (He.ga K "Run") (sp_Run_free K) (rVar 8)))) (bNot (rTest (rCall (sp__law_next_right K) [] (rCons (rVar 9) (rCons (rVar 8) (rCons (rVar 1) rNil))))))) (rRet (rC (.bl false))) rNext)
        (rDrop (rMt "list" dAppend (rMt "dict" dSetd (rVar 7) (rCons (rCB dLen (rCons (rProp (He.ga K "Run") (sp_Run_way K) (rVar 8)) rNil)) (rCons (rLstR rNil) rNil))) (rCons (rTup (rCons (rProp (He.ga K "Run") (sp_Run_state K) (rVar 8)) (rCons (rProp (He.ga K "Run") (sp_Run_lying K) (rVar 8)) rNil))) rNil))))
        ⟨rForL (dName 8) (lrB K) Dd (fun _ => True) (its.map (runX K r R)), Dd.rt, Dd.nx, rForL (dName 8) (lrB K) Dd (fun _ => True) (its.map (runX K r R))⟩ (lrS p A B zs m st mk r (some (runX K r R es)) (some (runX K r R fs)) x10) h1 := by
      intro fs h1 ok' l7' Al less1 F1 D1
      have lf : Lay 1 (.tup (runF R (ts0 R) es).free) := by rw [S.fr]; exact layT (layNums fi)
      refine ⟨rfl, _, _, _, _, _, _, _, rfl, rfl, _, _, _, _, _, _, _, rfl, ?_⟩
      refine (show _ ∧ _ ∧ _ from ?_)
      rw [Al.free]
      refine ⟨lf.sh, lf.sh, ?_⟩
      rw [lf.ne]
      refine ⟨fun e => (nomatch e), fun _ => ?_⟩
      refine ⟨r, R, fs, es, zs, rfl, W, hr, ok', ok, by omega, by omega, hz, h2, Al, ⟨fun e => (nomatch e), fun _ => ?_⟩⟩
      obtain ⟨ks, vs, hB, f2, f3, f4, f5, f6, f7⟩ := D1
      refine ⟨.inr ⟨ks, vs, hB, rfl⟩, ⟨rfl, _, _, _, _, _, _, _, rfl, ?_⟩⟩
      refine ⟨small (by simp), fun L hL => ?_⟩
      have BL : B ≠ L := fun e => by rw [e, hL] at hB; cases hB
      have app : ∀ (a : Addr) (ds : List D) (h2 : DH), h2 a = some (.lst ds) → ds.length ≤ 5000 → rForL (dName 8) (lrB K) Dd (fun _ => True) (its.map (runX K r R)) (lrS p A B zs m st mk r (some (runX K r R es)) (some (runX K r R fs)) x10) (up h2 a (.lst (ds ++ [prD R es]))) →
          isTy "list" (.ref a) h2 ∧ (rCons (rTup (rCons (rProp (He.ga K "Run") (sp_Run_state K) (rVar 8)) (rCons (rProp (He.ga K "Run") (sp_Run_lying K) (rVar 8)) rNil))) rNil) (lrS p A B zs m st mk r (some (runX K r R es)) (some (runX K r R fs)) x10) h2 fun ds' h3 => dAppend (.ref a) ds' h3 fun _ h4 => rForL (dName 8) (lrB K) Dd (fun _ => True) (its.map (runX K r R)) (lrS p A B zs m st mk r (some (runX K r R es)) (some (runX K r R fs)) x10) h4 := by
        intro a ds h2 ha hl nx
        exact ⟨.inl ⟨ds, ha, rfl⟩, rfl, _, _, _, _, _, _, _, rfl, rfl, _, _, _, _, _, _, _, rfl, small (by simp), ds, ha, Nat.lt_of_lt_of_le (show ds.length < 10000 by omega) (by decide), nx⟩
      have key : ∀ k : D, k = .int ((runF R (ts0 R) es).stk.length : Nat) → ∃ ks vs, (up h1 L (.lst [])) B = some (.dic ks vs) ∧ keyOk ks k = true ∧ (putKs ks k).length ≤ sizeLine ∧
          (∀ x, lookA ks vs k = some x → isTy "list" x (up h1 L (.lst [])) ∧ (rCons (rTup (rCons (rProp (He.ga K "Run") (sp_Run_state K) (rVar 8)) (rCons (rProp (He.ga K "Run") (sp_Run_lying K) (rVar 8)) rNil))) rNil) (lrS p A B zs m st mk r (some (runX K r R es)) (some (runX K r R fs)) x10) (up h1 L (.lst [])) fun ds' h3 => dAppend x ds' h3 fun _ h4 => rForL (dName 8) (lrB K) Dd (fun _ => True) (its.map (runX K r R)) (lrS p A B zs m st mk r (some (runX K r R es)) (some (runX K r R fs)) x10) h4) ∧
          (lookA ks vs k = none → isTy "list" (.ref L) (up (up h1 L (.lst [])) B (.dic (putKs ks k) (putA ks vs k (.ref L)))) ∧ (rCons (rTup (rCons (rProp (He.ga K "Run") (sp_Run_state K) (rVar 8)) (rCons (rProp (He.ga K "Run") (sp_Run_lying K) (rVar 8)) rNil))) rNil) (lrS p A B zs m st mk r (some (runX K r R es)) (some (runX K r R fs)) x10) (up (up h1 L (.lst [])) B (.dic (putKs ks k) (putA ks vs k (.ref L)))) fun ds' h3 => dAppend (.ref L) ds' h3 fun _ h4 => rForL (dName 8) (lrB K) Dd (fun _ => True) (its.map (runX K r R)) (lrS p A B zs m st mk r (some (runX K r R es)) (some (runX K r R fs)) x10) h4) := by
        intro k ek
        have hbL := less_no less1 hL
        have AL : A ≠ L := by
          obtain ⟨_, _, a, _⟩ := F1
          exact fun e => by rw [e, hL] at a; cases a
        have hsk : isSk k = true := by rw [ek]; rfl
        refine ⟨ks, vs, by rw [up_ne BL]; exact hB, all_Sk f5 hsk, sz24 (Nat.le_trans (putKs_len _ _) (by omega)), fun x hx => ?_, fun hx => ?_⟩
        · obtain ⟨i, z, i1, i2, i3⟩ := lookA_hit hx
          obtain ⟨d, a, ds, g1, g2, g3, g4, g5, g6, g7, g8, g9⟩ := f7 i z x i1 i2
          subst g3
          have ez : z = k := by
            rw [g1, ek] at i3
            rw [g1, ek]
            simpa [nk] using i3
          have aL : a ≠ L := fun e => by rw [e, hL] at g7; cases g7
          refine app a ds _ (by rw [up_ne aL]; exact g7) (by omega) ?_
          refine next _ _ _ (less_up2 (less_up2 less1 hbL) g4) (F1.frame ?_ (Nat.le_refl _)) (dps_old hB f2 f3 f4 f5 f6 f7 hL i1 i2 g7 ok l7 (by rw [ez]; exact ek))
          rw [up_ne g5.symm, up_ne AL]
        · have e := lookA_miss f2 hx
          refine app L [] _ (by rw [up_ne BL.symm]; exact up_same) (by simp) ?_
          refine next _ _ _ (less_up2 (less_up2 (less_up2 less1 hbL) hbB) hbL) (F1.frame ?_ (Nat.le_refl _)) (dps_new less1 hB (by obtain ⟨_, _, a, _⟩ := F1; exact ⟨_, a⟩) f2 f3 f4 f5 f6 f7 hL ok l7 dl ek e)
          rw [up_ne AL, up_ne AB, up_ne AL]
      have e2 : (((wayD (runF R (ts0 R) es).stk).length : Nat) : Int) = (((runF R (ts0 R) es).stk.length : Nat) : Int) := by rw [wayD_len]
      exact key _ (congrArg D.int e2)
    obtain ⟨ks, vs, hA, f2, f3, f4, f5⟩ := id f
    refine ⟨trivial, .inr ⟨ks, vs, hA, rfl⟩, ?_⟩
    refine ⟨r, R, es, rfl, W, hr, ok, ?_⟩
    refine ⟨ks, vs, hA, all_Tk f4 (std_key W ok), sz24 (Nat.le_trans (putKs_len _ _) (by omega)), fun x hx => ?_, fun hx => ?_⟩
    · obtain ⟨i, z, i1, i2, i3⟩ := lookA_hit hx
      obtain ⟨fs, g1, g2, rfl, rfl⟩ := f5 i z x i1 i2
      exact cont fs h g1 g2 (std_alk W m1 g1 ok i3) less (f.frame rfl (Nat.le_succ n)) g
    · have e := lookA_miss f2 hx
      refine cont es _ ok l7 Alk.refl (less_up2 less hbA) (fst_put W hA f2 f3 f4 f5 ok l7 e) ?_
      obtain ⟨ks', vs', b1, b2, b3, b4, b5, b6, b7⟩ := g
      exact ⟨ks', vs', by rw [up_ne AB.symm]; exact b1, b2, b3, b4, b5, b6, fun i k v a c => (b7 i k v a c).frame (fun b c1 c2 c3 c4 => by rw [up_ne c1]) (Nat.le_refl _)⟩
end LK
set_option Elab.async false
set_option linter.all false
set_option maxRecDepth 100000
set_option maxHeartbeats 4000000
namespace LK
open PySem PySem.Spec PyProof.Rows L2 DL
variable {K : PySem.W.Frag} {mg : Str → Option Value}
abbrev ldB : TSD := rIfS (rTest (rOp dGt (rLenS (rOp dIx (rVar 7) (rVar 10))) (rOp dMul (rVar 3) (rOp dAdd (rC (.int 1)) (rOp dMul (rVar 10) (rVar 4)))))) (rRet (rC (.bl false))) rNext
theorem ld_loop {Dd : EndsD} {R : RF} (W : WF R) (m1 : R.marks ≤ 1) (n3 : R.n ≤ 3) {hb h : DH} {A B : Addr} {n : Nat} {x0 x1 x2 x5 x6 x8 x9 : Option D} {ks vs : List D} (f2 : ks.length = vs.length) (f4 : (ks.map nk).Nodup) (f5 : ∀ k ∈ ks, isSk k = true)
    (f7 : ∀ (i : Nat) k v, ks[i]? = some k → vs[i]? = some v → Ent R hb h A B n k v) :
    ∀ (its : List D) (x10 : Option D), (∀ k ∈ its, k ∈ ks) → (∀ x10, Dd.nx [x0, x1, x2, some (.int R.n), some (.int R.marks), x5, x6, some (.dv ks vs), x8, x9, x10] (del h B)) →
    rForL (dName 10) ldB Dd (fun _ => True) its [x0, x1, x2, some (.int R.n), some (.int R.marks), x5, x6, some (.dv ks vs), x8, x9, x10] (del h B) := by
  intro its
  induction its with
  | nil => intro x10 _ q; exact ⟨trivial, q x10⟩
  | cons k its ih =>
    intro x10 hk q
    have kin := hk k List.mem_cons_self
    obtain ⟨i, hi⟩ := List.getElem?_of_mem kin
    have li : i < vs.length := by rw [← f2]; exact (List.getElem?_eq_some_iff.mp hi).1
    have hv := List.getElem?_eq_getElem li
    generalize vs[i] = v at hv
    obtain ⟨d, a, ds, rfl, d7, rfl, g4, g5, g6, g7, g8, g9⟩ := f7 i k v hi hv
    have ul : (univ R.n R.marks d).length = R.n * (1 + d * R.marks) := univ_len m1
    have few : R.n * (1 + d * R.marks) ≤ 24 := by
      have a1 : d * R.marks ≤ 7 := by
        have := Nat.mul_le_mul d7 m1
        omega
      have := Nat.mul_le_mul n3 (show 1 + d * R.marks ≤ 8 by omega)
      omega
    refine ⟨trivial, all_Sk f5 rfl, _, lookA_at f4 hi hv, ds, by rw [del_ne g6]; exact g7, univ R.n R.marks d, fun x hx => ?_, by rw [ul]; omega, fun c hc => ?_⟩
    · obtain ⟨fs, o1, o2, o3, rfl⟩ := g9 x hx
      obtain ⟨p1, p2⟩ := pr_key W o1
      have := pr_univ W m1 o1
      rw [o3] at this
      exact ⟨p1, p2, this⟩
    rw [ul] at hc
    have w1 : CMulW (d : Int) (R.marks : Int) := mulW (a := 10) (b := 10) (log2_lt (k := 10) (by omega) (show (d : Int) < (1024 : Nat) by omega) (by omega)) (log2_lt (k := 10) (by omega) (show (R.marks : Int) < (1024 : Nat) by omega) (by omega)) (by decide)
    have c1 : (1 : Int) + (d : Int) * (R.marks : Int) = ((1 + d * R.marks : Nat) : Int) := by push_cast; rfl
    have dm : d * R.marks ≤ 7 := by
      have := Nat.mul_le_mul d7 m1
      omega
    have w2 : CMulW (R.n : Int) ((1 : Int) + (d : Int) * (R.marks : Int)) := by
      rw [c1]
      exact mulW (a := 10) (b := 10) (log2_lt (k := 10) (by omega) (show (R.n : Int) < (1024 : Nat) by omega) (by omega)) (log2_lt (k := 10) (by omega) (show ((1 + d * R.marks : Nat) : Int) < (1024 : Nat) by omega) (by omega)) (by decide)
    refine ⟨w1, w2, ?_⟩
    have c2 : (R.n : Int) * ((1 : Int) + (d : Int) * (R.marks : Int)) = ((R.n * (1 + d * R.marks) : Nat) : Int) := by rw [c1]; push_cast; rfl
    have no : decide ((R.n : Int) * ((1 : Int) + (d : Int) * (R.marks : Int)) < (c : Int)) = false := by
      rw [c2]
      exact decide_eq_false (by omega)
    refine ⟨fun e => no_tf e no, fun _ => ?_⟩
    exact ih _ (fun z hz => hk z (List.mem_cons_of_mem _ hz)) q
abbrev lrR (K : PySem.W.Frag) : TSD :=
  rSeq (rPar 6 7 (rCons (rDict0) (rCons (rDict0) rNil)))
  (rSeq (rFor (rIter (rCall (sp__law_all_runs K) [] (rCons (rVar 5) (rCons (rVar 1) (rCons (rIf (rTest (rOp dGt (rCB dLen (rCons (rVar 1) rNil)) (rC (.int 1)))) (rC (.int 5)) (rC (.int 7))) rNil))))) (dName 8) (lrB K))
  (rSeq (rHide 7 (rFor (rKeys (rVar 7)) (dName 10) ldB))
  (rRet (rC (.bl true)))))
theorem lr_rest {Qd : D → DH → Prop} {r : D} {R : RF} (W : WF R) (hr : readerD K R r) (m1 : R.marks ≤ 1) (n3 : R.n ≤ 3) {zs : List Str} (hz : ∀ z ∈ zs, goodName z) (h2 : zs.length ≤ 2) {p : Addr} {hb : DH} {m : Str} {x6 x7 : Option D} (q : Qd (.bl true) hb) :
    lrR K ⟨fun _ h' => fo Qd .non h', fo Qd, fun _ _ => False, fun _ _ => False⟩ [some (.ref p), some (.lv (txs zs)), some (.str m), some (.int R.n), some (.int R.marks), some r, x6, x7, none, none, none] hb := by
  intro A hA B hB
  have AB : A ≠ B := fun e => by rw [← e, up_same] at hB; cases hB
  have hB' : hb B = none := by rw [up_ne AB.symm] at hB; exact hB
  have less : Less hb (up (up hb A (.dic [] [])) B (.dic [] [])) := less_up2 (less_up2 Less.refl hA) hB'
  have go : ∀ mo : Nat, mo ≤ 7 → sp__law_all_runs K [r, .lv (txs zs), .int (mo : Nat)] (up (up hb A (.dic [] [])) B (.dic [] [])) fun d h1 => walkS d h1 fun items G => rForL (dName 8) (lrB K) ⟨rSeq (rHide 7 (rFor (rKeys (rVar 7)) (dName 10) ldB)) (rRet (rC (.bl true))) ⟨fun _ h' => fo Qd .non h', fo Qd, fun _ _ => False, fun _ _ => False⟩, fo Qd, fun _ _ => False, fun _ _ => False⟩ G items
      (lrS p A B zs m R.n R.marks r none none none) h1 := by
    intro mo hmo
    refine ⟨r, R, zs, mo, rfl, W, hr, hz, h2, hmo, ?_⟩
    have al := all_small h2 hmo
    refine lr_loop W hr m1 hz h2 hA hB' AB (allE zs mo) 0 _ none none (fun es he => ?_) (by omega) less ?_ ?_ fun h' x8 x9 less' g => ?_
    · obtain ⟨a, b⟩ := all_ok hz mo (by omega) es he
      exact ⟨a, by omega⟩
    · exact ⟨[], [], by rw [up_ne AB]; exact up_same, rfl, Nat.le_refl _, all_nil, fun i k v h => by simp at h⟩
    · exact ⟨[], [], up_same, rfl, Nat.zero_le _, by simp, all_nil, by simp, fun i k v h => by simp at h⟩
    · obtain ⟨ks, vs, b1, b2, b3, b4, b5, b6, b7⟩ := g
      refine ⟨B, ks, vs, rfl, b1, ?_⟩
      refine ld_loop W m1 n3 b2 b4 b5 b7 ks _ (fun _ h => h) fun x10 => ?_
      refine ⟨hb, fun a o e => ?_, q⟩
      have aB : a ≠ B := fun z => by rw [z, hB'] at e; cases e
      rw [del_ne aB]
      exact less' a o e
  exact ⟨fun _ => go 5 (by decide), fun _ => go 7 (by decide)⟩
theorem len__law_right (ds : List D) (h : DH) (Qd : D → DH → Prop) (q : sp__law_right K ds h Qd) : ds.length = 1 := by
  unfold sp__law_right at q
  repeat (first | (obtain ⟨e, _⟩ := q; subst e; rfl) | obtain ⟨_, q⟩ := q)
theorem read__law_right (M : Md K mg) (ds : List D) (h : DH) (Qd : D → DH → Prop) (q : sp__law_right K ds h Qd) : t__law_right K (sp__law_some_mode K) (sp__law_labels K) (sp__law_roll K) (sp__law_made_reader K) (sp__law_reader K) (sp__law_all_runs K) (sp__law_standing K) (sp_Run_free K) (sp__law_next_right K) (sp_Run_way K) (sp_Run_state K) (sp_Run_lying K) ⟨fun _ h' => fo Qd .non h', fo Qd, fun _ _ => False, fun _ _ => False⟩ (st0 N__law_right.length ds) h := by
  obtain ⟨p, n, d, rfl, hp, hd, hn, q⟩ := q
  refine ⟨p, 2, n, d, rfl, hp, hd, by omega, by decide, by show (2 : Int) < (1000000000 : Nat); decide, fun a1 d1 h1 hd1 => ?_⟩
  have h1' : a1 < 2 := by omega
  refine ⟨p, 1 + a1, n + 1, d1, by simp, up_same, hd1, by omega, by omega, fun zs d2 hl nd hg hd2 => ?_⟩
  rw [up_up]
  refine ⟨p, n + 7, d2, rfl, up_same, hd2, by omega, fun m d3 hm hd3 => ?_⟩
  rw [up_up]
  refine ⟨p, 3, n + 8, d3, rfl, up_same, hd3, by omega, by decide, by show (3 : Int) < (1000000000 : Nat); decide, fun a2 d4 h2 hd4 => ?_⟩
  have h2' : a2 < 3 := by omega
  rw [up_up]
  refine ⟨p, 2, n + 9, d4, rfl, up_same, hd4, by omega, by decide, by show (2 : Int) < (1000000000 : Nat); decide, fun mk d5 h3 hd5 => ?_⟩
  have h3' : mk < 2 := by omega
  rw [up_up]
  refine ⟨small (by simp), ?_⟩
  refine ⟨p, zs, m, 1 + a2, mk, n + 10, d5, by simp, up_same, hd5, by omega, by omega, nd, hg, hm, by omega, by omega, by omega, fun R v d6 W em e1 e2 hv hd6 => ?_⟩
  rw [up_up]
  refine ⟨R, v, rfl, W, hv, fun r hr => ?_⟩
  have q' := q d6 (hd6.mono (by omega))
  have c1 : ((1 : Int) + (a2 : Int)) = ((R.n : Nat) : Int) := by rw [e2]; push_cast; rfl
  have c2 : ((mk : Nat) : Int) = ((R.marks : Nat) : Int) := by rw [e1]
  have fin : ∀ s k : Int, s = ((R.n : Nat) : Int) → k = ((R.marks : Nat) : Int) → lrR K ⟨fun _ h' => fo Qd .non h', fo Qd, fun _ _ => False, fun _ _ => False⟩ [some (.ref p), some (.lv (txs zs)), some (.str m), some (.int s), some (.int k), some r, none, none, none, none, none] (up h p (.lst d6)) := by
    rintro s k rfl rfl
    exact lr_rest W hr (by omega) (by omega) hg (by omega) q'
  exact fin _ _ c1 c2
end LK
set_option Elab.async false
set_option linter.all false
set_option maxRecDepth 100000
set_option maxHeartbeats 4000000
namespace LK
open PySem PySem.Spec PyProof.Rows L2 DL
variable {K : PySem.W.Frag} {mg : Str → Option Value}
/-! ### the reader at the end -/
abbrev os5 : List D := [.dv [.str "a"] [.tup [.int 0, .tup [], .str "x"]]]
abbrev cs5 : List D := [.dv [] []]
abbrev R5 : RF := rfOf "bare" 1 0 os5 cs5
abbrev way5 : List Ev := [.op "a", .cl "a"]
theorem run5 : runF R5 (ts0 R5) way5 = ⟨0, [], [], [.str "x"]⟩ := by
  have e : runF R5 (ts0 R5) way5 = ⟨0, sortD [], [], [.str "x"]⟩ := rfl
  rw [e, sort_nil]
theorem name_a : goodName "a" := by unfold goodName; decide +kernel
theorem col_of (z : Str) (a : z.length ≤ 10) (b : (Txt.split z ".").length ≤ 4) (c : ∀ y ∈ Txt.split z ".", 1 ≤ y.length ∧ y.length ≤ 8 ∧ ∀ c ∈ y.cps.toList, 97 ≤ c ∧ c ≤ 122) (d : PyData.strOk z = true) : goodCol z := ⟨small (by omega), b, c, d⟩
theorem col_x : goodCol "x" := col_of _ (by decide +kernel) (by decide +kernel) (by decide +kernel) (by decide +kernel)
theorem ko (z : Str) (h : goodName z) : keyO (.str z) := ⟨z, rfl, h⟩
theorem ok5 : EvOk way5 := ⟨⟨.inr rfl, name_a, _, rfl, trivial⟩, by simp⟩
theorem ok5n : EvOk [] := ⟨trivial, by simp⟩
theorem rows5 : RowsI "bare" 1 0 1 os5 cs5 := by
  refine ⟨rfl, rfl, fun x hx => ?_, fun x hx => ?_⟩
  · simp only [List.mem_cons, List.not_mem_nil, or_false] at hx
    subst hx
    have nl : ("bare" : Str) ≠ "late" := by decide
    have ro : ruleO (R0 "bare" 1 0) (.tup [.int 0, .tup [], .str "x"]) := ⟨0, [], by show 0 < 1; omega, ⟨[], rfl, by simp, by simp, by simp⟩, by rw [if_neg nl]; exact ⟨"x", col_x, rfl⟩⟩
    exact ⟨_, _, rfl, rfl, by simp; exact ko _ name_a, by simp, by simp; exact ro, by simp⟩
  · simp only [List.mem_cons, List.not_mem_nil, or_false] at hx
    subst hx
    exact ⟨_, _, rfl, rfl, by simp, by simp, by simp, by simp⟩
theorem wf5 : WF R5 ∧ Rls R5 os5 cs5 := rf_ok (.inl rfl) (by decide) (by decide) (by decide) rows5
theorem sm {n : Nat} (h : n ≤ 1000 := by decide) : n ≤ sizeLine := small h
abbrev lwEnd (K : PySem.W.Frag) : TSD :=
  (rSeq (rAsg (rMake (He.ga K "Reader") (sp_Reader_u__init_u_ K) [] (rCons (rC (.str "bare")) (rCons (rC (.int 0)) (rCons (rTup (rCons (rDisp [((rC (.str "a")), (rTup (rCons (rC (.int 0)) (rCons (rTup rNil) (rCons (rC (.str "x")) rNil)))))]) rNil)) (rCons (rTup (rCons (rDict0V) rNil)) rNil))))) (dName 4))
  (rSeq (rAsg (rMeth (He.ga K "Run") (sp_Run_through K) [] (rMeth (He.ga K "Reader") (sp_Reader_run K) [] (rVar 4) rNil) (rCons (rTup (rCons (rTup (rCons (rC (.str "open")) (rCons (rC (.str "a")) rNil))) (rCons (rTup (rCons (rC (.str "close")) rNil)) rNil))) rNil)) (dName 5))
  (rRet (rOp dEq (rLst (rCons (rProp (He.ga K "Run") (sp_Run_state K) (rVar 5)) (rCons (rProp (He.ga K "Run") (sp_Run_lying K) (rVar 5)) (rCons (rProp (He.ga K "Run") (sp_Run_is_done K) (rVar 5)) (rCons (rProp (He.ga K "Run") (sp_Run_is_done K) (rMeth (He.ga K "Reader") (sp_Reader_run K) [] (rVar 4) rNil)) rNil))))) (rLst (rCons (rC (.int 0)) (rCons (rTup rNil) (rCons (rC (.bl true)) (rCons (rC (.bl false)) rNil)))))))))
theorem law_end {Qd : D → DH → Prop} {h : DH} {s0 x1 x2 x3 x4 x5 : Option D} (q : ∀ h', Qd (.bl true) h') : lwEnd K ⟨fun _ h' => Qd .non h', Qd, fun _ _ => False, fun _ _ => False⟩ [s0, x1, x2, x3, x4, x5] h := by
  refine fun p hp => ⟨sm, sm, up_same, by decide, by decide, ?_⟩
  rw [del_up hp]
  refine ⟨sm, sm, fun p hp => ⟨p, R5, os5, cs5, rfl, up_same, wf5.1, wf5.2, fun os cs rl => ⟨rfl, _, up_same, ?_⟩⟩⟩
  rw [up_up, del_up hp]
  have hr : readerD K R5 (.iv (He.ga K "Reader") [.str R5.mode, .int R5.marks, .tup os, .tup cs]) := ⟨os, cs, rfl, rl⟩
  refine ⟨rfl, R5, _, rfl, wf5.1, hr, rfl, sm, sm, sm, _, R5, [], way5, rfl, wf5.1, hr, ok5, ?_⟩
  refine ⟨rfl, _, _, _, _, _, _, _, rfl, rfl, _, _, _, _, _, _, _, rfl, rfl, _, R5, way5, rfl, wf5.1, ok5, ?_⟩
  refine ⟨rfl, R5, _, rfl, wf5.1, hr, rfl, _, R5, [], rfl, wf5.1, ok5n, sm, sm, sm, ?_⟩
  have L : Lay 3 (.lv [.int 0, .tup [], .bl true, .bl false]) := layL (all_cons (layI _) (all_cons (layT all_nil) (all_cons (layB _) (all_cons (layB _) all_nil))))
  have fin : ∀ d : D, d = D.lv [.int 0, .tup [], .bl true, .bl false] → SeqAt.shaped (pyH h d) = true ∧ SeqAt.shaped (pyH h (D.lv [.int 0, .tup [], .bl true, .bl false])) = true ∧ Qd (.bl (PyData.eqv (pyH h d) (pyH h (D.lv [.int 0, .tup [], .bl true, .bl false])))) h := by
    rintro d rfl
    refine ⟨L.sh, L.sh, ?_⟩
    rw [L.eq]
    exact q _
  refine fin _ ?_
  show D.lv [.int ((runF R5 (ts0 R5) way5).st : Nat), .tup (lyD (runF R5 (ts0 R5) way5).stk), .bl (!way5.isEmpty && (runF R5 (ts0 R5) way5).stk.isEmpty), _] = _
  rw [run5]
  rfl
abbrev lwI (sr : SpD) : TSD := rIfS (bNot (rTest (rCall sr [] (rCons (rVar 2) rNil)))) (rRet (rC (.bl false))) rNext
theorem law_in {Dd : EndsD} {s p : Addr} {v : DO} (sp : s ≠ p) {x1 x4 x5 : Option D} : ∀ (its : List D) (n : Nat) (h : DH) (d : List D) (x3 : Option D), h s = some v → h p = some (.lst d) → DiceL n d → n + 4000 * its.length ≤ DN →
    (∀ h' x3, h' s = some v → Dd.nx [some (.ref s), x1, some (.ref p), x3, x4, x5] h') →
    rForL (dName 3) (lwI (sp__law_right K)) Dd (fun _ => True) its [some (.ref s), x1, some (.ref p), x3, x4, x5] h := by
  intro its
  induction its with
  | nil => intro n h d x3 hs hp hd hn q; exact ⟨trivial, q h x3 hs⟩
  | cons i its ih =>
    intro n h d x3 hs hp hd hn q
    simp only [List.length_cons] at hn
    refine ⟨trivial, p, n, d, rfl, hp, hd, by omega, fun d' hd' => ⟨fun e => (nomatch e), fun _ => ?_⟩⟩
    exact ih (n + 4000) _ d' _ (by rw [up_ne sp]; exact hs) up_same hd' (by omega) q
abbrev lwO (sd sr : SpD) : TSD := rSeq (rAsg (rCall sd [] (rCons (rVar 0) (rCons (rVar 1) rNil))) (dName 2))
  (rFor (rRange fun sd h Q => (rCons (rC (.int 3)) rNil) sd h fun ds h1 => ds.length = 1 ∧ Q ds h1) (dName 3) (lwI sr))
theorem law_out {Dd : EndsD} {s : Addr} {is : List Int} (hl : is.length ≤ 63) {x4 x5 : Option D} : ∀ (its : List Nat) (h : DH) (x1 x2 x3 : Option D), (∀ i ∈ its, i < 100) → h s = some (.rol (nums is)) →
    (∀ h' x1 x2 x3, Dd.nx [some (.ref s), x1, x2, x3, x4, x5] h') →
    rForL (dName 1) (lwO (sp__law_dice K) (sp__law_right K)) Dd (fun _ => True) (its.map fun i : Nat => D.int (0 + (i : Int))) [some (.ref s), x1, x2, x3, x4, x5] h := by
  intro its
  induction its with
  | nil => intro h x1 x2 x3 _ hs q; exact ⟨trivial, q h x1 x2 x3⟩
  | cons i its ih =>
    intro h x1 x2 x3 hi hs q
    have hi0 := hi i List.mem_cons_self
    refine ⟨trivial, s, _, is, rfl, hs, hl, by omega, by omega, fun p d hp hd => ?_⟩
    have sp : s ≠ p := fun e => by rw [e, hp] at hs; cases hs
    refine ⟨rfl, ⟨by decide, by decide⟩, ?_⟩
    refine law_in (K := K) sp (rangeD 0 3) 0 _ d x3 (by rw [up_ne sp]; exact hs) up_same hd (by decide) fun h' x3 hs' => ?_
    exact ih h' _ _ _ (fun i hi' => hi i (List.mem_cons_of_mem _ hi')) hs' q
theorem len_law (ds : List D) (h : DH) (Qd : D → DH → Prop) (q : sp_law K ds h Qd) : ds.length = 1 := by
  unfold sp_law at q
  repeat (first | (obtain ⟨e, _⟩ := q; subst e; rfl) | obtain ⟨_, q⟩ := q)
theorem read_law (M : Md K mg) (ds : List D) (h : DH) (Qd : D → DH → Prop) (q : sp_law K ds h Qd) : t_law K (sp__law_dice K) (sp__law_right K) (sp_Reader_u__init_u_ K) (sp_Run_through K) (sp_Reader_run K) (sp_Run_state K) (sp_Run_lying K) (sp_Run_is_done K) ⟨fun _ h' => Qd .non h', Qd, fun _ _ => False, fun _ _ => False⟩ (st0 N_law.length ds) h := by
  obtain ⟨s, is, rfl, hs, hl, q⟩ := q
  refine .inr ⟨_, hs, ?_⟩
  have lm : (nums is).length = is.length := List.length_map _
  have go : ∀ k : Int, k = (if (if ((nums is).length : Int) < 5 then ((nums is).length : Int) else 5) > 1 then (if ((nums is).length : Int) < 5 then ((nums is).length : Int) else 5) else 1) → (-(2 ^ 62) ≤ k ∧ k < 2 ^ 62) ∧ rForL (dName 1) (lwO (sp__law_dice K) (sp__law_right K)) ⟨lwEnd K ⟨fun _ h' => Qd .non h', Qd, fun _ _ => False, fun _ _ => False⟩, Qd, fun _ _ => False, fun _ _ => False⟩ (fun _ => True) (rangeD 0 k.toNat) [some (.ref s), none, none, none, none, none] h := by
    intro k hk
    have k1 : 0 ≤ k ∧ k ≤ 8 := by
      subst hk
      split <;> split <;> omega
    refine ⟨⟨by omega, Int.lt_trans (show k < 1000 by omega) (by decide)⟩, ?_⟩
    exact law_out (K := K) hl (List.range k.toNat) h none none none (fun i hi => by have := List.mem_range.mp hi; omega) hs fun h' x1 x2 x3 => law_end q
  exact ⟨rfl, go _ rfl⟩
end LK
set_option Elab.async false
set_option linter.all false
set_option maxRecDepth 100000
set_option maxHeartbeats 4000000
namespace LK
open PySem PySem.Spec PyProof.Rows L2 DL
variable {P : Program} {w : World} {K : PySem.W.Frag} {mg : Str → Option Value} {base : Heap}
theorem ok__law_dice (M : Md K mg) : FnD ⟨P, w, K⟩ mg base 1 (He.ga K "_law_dice") [] (sp__law_dice K) :=
  let ⟨_, F⟩ := M.c.def_ 0 (d := fn.getD 0 ⟨("", none), "", "", defArgs (top 0), [], defScope (top 0), [], []⟩) rfl
  fnD0 F sc__law_dice (fun _ _ _ _ _ _ us hl => match us, hl with | [_, _], _ => rfl) (fun _ _ _ _ _ _ hr => der__law_dice M hr) (len__law_dice) (fun ds h Qd q => read__law_dice M ds h Qd q)
theorem ok__law_roll (M : Md K mg) : FnD ⟨P, w, K⟩ mg base 1 (He.ga K "_law_roll") [] (sp__law_roll K) :=
  let ⟨_, F⟩ := M.c.def_ 1 (d := fn.getD 1 ⟨("", none), "", "", defArgs (top 0), [], defScope (top 0), [], []⟩) rfl
  fnD0 F sc__law_roll (fun _ _ _ _ _ _ us hl => match us, hl with | [_, _], _ => rfl) (fun _ _ _ _ _ _ hr => der__law_roll M hr) (len__law_roll) (fun ds h Qd q => read__law_roll M ds h Qd q)
theorem ok__law_one_of (M : Md K mg) : FnD ⟨P, w, K⟩ mg base 2 (He.ga K "_law_one_of") [] (sp__law_one_of K) :=
  let ⟨_, F⟩ := M.c.def_ 2 (d := fn.getD 2 ⟨("", none), "", "", defArgs (top 0), [], defScope (top 0), [], []⟩) rfl
  fnD0 F sc__law_one_of (fun _ _ _ _ _ _ us hl => match us, hl with | [_, _], _ => rfl) (fun _ _ _ _ _ _ hr => der__law_one_of M hr (ok__law_roll M)) (len__law_one_of) (fun ds h Qd q => read__law_one_of M ds h Qd q)
theorem ok__law_some_mode (M : Md K mg) : FnD ⟨P, w, K⟩ mg base 3 (He.ga K "_law_some_mode") [] (sp__law_some_mode K) :=
  let ⟨_, F⟩ := M.c.def_ 3 (d := fn.getD 3 ⟨("", none), "", "", defArgs (top 0), [], defScope (top 0), [], []⟩) rfl
  fnD0 F sc__law_some_mode (fun _ _ _ _ _ _ us hl => match us, hl with | [_], _ => rfl) (fun _ _ _ _ _ _ hr => der__law_some_mode M hr (ok__law_one_of M)) (len__law_some_mode) (fun ds h Qd q => read__law_some_mode M ds h Qd q)
theorem ok__law_mixed (M : Md K mg) : FnD ⟨P, w, K⟩ mg base 2 (He.ga K "_law_mixed") [] (sp__law_mixed K) :=
  let ⟨_, F⟩ := M.c.def_ 4 (d := fn.getD 4 ⟨("", none), "", "", defArgs (top 0), [], defScope (top 0), [], []⟩) rfl
  fnD0F F sc__law_mixed (fun _ _ _ _ _ _ us hl => match us, hl with | [_, _], _ => rfl) (fun _ _ _ _ _ _ hr => der__law_mixed M hr (ok__law_roll M)) (len__law_mixed) (fun ds h Qd q => read__law_mixed M ds h Qd q)
theorem ok__law_labels (M : Md K mg) : FnD ⟨P, w, K⟩ mg base 3 (He.ga K "_law_labels") [] (sp__law_labels K) :=
  let ⟨_, F⟩ := M.c.def_ 5 (d := fn.getD 5 ⟨("", none), "", "", defArgs (top 0), [], defScope (top 0), [], []⟩) rfl
  fnD0 F sc__law_labels (fun _ _ _ _ _ _ us hl => match us, hl with | [_, _], _ => rfl) (fun _ _ _ _ _ _ hr => der__law_labels M hr (ok__law_mixed M)) (len__law_labels) (fun ds h Qd q => read__law_labels M ds h Qd q)
theorem ok_is_mode (M : Md K mg) : FnD ⟨P, w, K⟩ mg base 1 (He.ga K "is_mode") [] (sp_is_mode K) :=
  let ⟨_, F⟩ := M.c.def_ 6 (d := fn.getD 6 ⟨("", none), "", "", defArgs (top 0), [], defScope (top 0), [], []⟩) rfl
  fnD0 F sc_is_mode (fun _ _ _ _ _ _ us hl => match us, hl with | [_], _ => rfl) (fun _ _ _ _ _ _ hr => der_is_mode M hr) (len_is_mode) (fun ds h Qd q => read_is_mode M ds h Qd q)
theorem ok_is_index (M : Md K mg) : FnD ⟨P, w, K⟩ mg base 1 (He.ga K "is_index") [] (sp_is_index K) :=
  let ⟨_, F⟩ := M.c.def_ 7 (d := fn.getD 7 ⟨("", none), "", "", defArgs (top 0), [], defScope (top 0), [], []⟩) rfl
  fnD0 F sc_is_index (fun _ _ _ _ _ _ us hl => match us, hl with | [_, _], _ => rfl) (fun _ _ _ _ _ _ hr => der_is_index M hr) (len_is_index) (fun ds h Qd q => read_is_index M ds h Qd q)
theorem ok_is_name (M : Md K mg) : FnD ⟨P, w, K⟩ mg base 1 (He.ga K "is_name") [] (sp_is_name K) :=
  let ⟨_, F⟩ := M.c.def_ 8 (d := fn.getD 8 ⟨("", none), "", "", defArgs (top 0), [], defScope (top 0), [], []⟩) rfl
  fnD0 F sc_is_name (fun _ _ _ _ _ _ us hl => match us, hl with | [_], _ => rfl) (fun _ _ _ _ _ _ hr => der_is_name M hr) (len_is_name) (fun ds h Qd q => read_is_name M ds h Qd q)
theorem ok_is_ascending (M : Md K mg) : FnD ⟨P, w, K⟩ mg base 1 (He.ga K "is_ascending") [] (sp_is_ascending K) :=
  let ⟨_, F⟩ := M.c.def_ 9 (d := fn.getD 9 ⟨("", none), "", "", defArgs (top 0), [], defScope (top 0), [], []⟩) rfl
  fnD0 F sc_is_ascending (fun _ _ _ _ _ _ us hl => match us, hl with | [_], _ => rfl) (fun _ _ _ _ _ _ hr => der_is_ascending M hr) (len_is_ascending) (fun ds h Qd q => read_is_ascending M ds h Qd q)
theorem ok_is_marks (M : Md K mg) : FnD ⟨P, w, K⟩ mg base 2 (He.ga K "is_marks") [] (sp_is_marks K) :=
  let ⟨_, F⟩ := M.c.def_ 10 (d := fn.getD 10 ⟨("", none), "", "", defArgs (top 0), [], defScope (top 0), [], []⟩) rfl
  fnD0 F sc_is_marks (fun _ _ _ _ _ _ us hl => match us, hl with | [_, _], _ => rfl) (fun _ _ _ _ _ _ hr => der_is_marks M hr (ok_is_index M) (ok_is_ascending M)) (len_is_marks) (fun ds h Qd q => read_is_marks M ds h Qd q)
theorem ok_is_dotted (M : Md K mg) : FnD ⟨P, w, K⟩ mg base 2 (He.ga K "is_dotted") [] (sp_is_dotted K) :=
  let ⟨_, F⟩ := M.c.def_ 11 (d := fn.getD 11 ⟨("", none), "", "", defArgs (top 0), [], defScope (top 0), [], []⟩) rfl
  fnD0 F sc_is_dotted (fun _ _ _ _ _ _ us hl => match us, hl with | [_], _ => rfl) (fun _ _ _ _ _ _ hr => der_is_dotted M hr (ok_is_name M)) (len_is_dotted) (fun ds h Qd q => read_is_dotted M ds h Qd q)
theorem ok_is_colour (M : Md K mg) : FnD ⟨P, w, K⟩ mg base 3 (He.ga K "is_colour") [] (sp_is_colour K) :=
  let ⟨_, F⟩ := M.c.def_ 12 (d := fn.getD 12 ⟨("", none), "", "", defArgs (top 0), [], defScope (top 0), [], []⟩) rfl
  fnD0 F sc_is_colour (fun _ _ _ _ _ _ us hl => match us, hl with | [_], _ => rfl) (fun _ _ _ _ _ _ hr => der_is_colour M hr (ok_is_dotted M)) (len_is_colour) (fun ds h Qd q => read_is_colour M ds h Qd q)
theorem ok_is_open_rule (M : Md K mg) : FnD ⟨P, w, K⟩ mg base 4 (He.ga K "is_open_rule") [] (sp_is_open_rule K) :=
  let ⟨_, F⟩ := M.c.def_ 13 (d := fn.getD 13 ⟨("", none), "", "", defArgs (top 0), [], defScope (top 0), [], []⟩) rfl
  fnD0 F sc_is_open_rule (fun _ _ _ _ _ _ us hl => match us, hl with | [_, _, _, _], _ => rfl) (fun _ _ _ _ _ _ hr => der_is_open_rule M hr (ok_is_index M) (ok_is_marks M) (ok_is_colour M)) (len_is_open_rule) (fun ds h Qd q => read_is_open_rule M ds h Qd q)
theorem ok_are_opens (M : Md K mg) : FnD ⟨P, w, K⟩ mg base 5 (He.ga K "are_opens") [] (sp_are_opens K) :=
  let ⟨_, F⟩ := M.c.def_ 14 (d := fn.getD 14 ⟨("", none), "", "", defArgs (top 0), [], defScope (top 0), [], []⟩) rfl
  fnD0 F sc_are_opens (fun _ _ _ _ _ _ us hl => match us, hl with | [_, _, _], _ => rfl) (fun _ _ _ _ _ _ hr => der_are_opens M hr (ok_is_name M) (ok_is_open_rule M)) (len_are_opens) (fun ds h Qd q => read_are_opens M ds h Qd q)
theorem ok_is_close_key (M : Md K mg) : FnD ⟨P, w, K⟩ mg base 3 (He.ga K "is_close_key") [] (sp_is_close_key K) :=
  let ⟨_, F⟩ := M.c.def_ 15 (d := fn.getD 15 ⟨("", none), "", "", defArgs (top 0), [], defScope (top 0), [], []⟩) rfl
  fnD0 F sc_is_close_key (fun _ _ _ _ _ _ us hl => match us, hl with | [_, _, _], _ => rfl) (fun _ _ _ _ _ _ hr => der_is_close_key M hr (ok_is_marks M) (ok_is_name M)) (len_is_close_key) (fun ds h Qd q => read_is_close_key M ds h Qd q)
theorem ok_is_close_rule (M : Md K mg) : FnD ⟨P, w, K⟩ mg base 4 (He.ga K "is_close_rule") [] (sp_is_close_rule K) :=
  let ⟨_, F⟩ := M.c.def_ 16 (d := fn.getD 16 ⟨("", none), "", "", defArgs (top 0), [], defScope (top 0), [], []⟩) rfl
  fnD0 F sc_is_close_rule (fun _ _ _ _ _ _ us hl => match us, hl with | [_, _, _], _ => rfl) (fun _ _ _ _ _ _ hr => der_is_close_rule M hr (ok_is_index M) (ok_is_colour M)) (len_is_close_rule) (fun ds h Qd q => read_is_close_rule M ds h Qd q)
theorem ok_are_closes (M : Md K mg) : FnD ⟨P, w, K⟩ mg base 5 (He.ga K "are_closes") [] (sp_are_closes K) :=
  let ⟨_, F⟩ := M.c.def_ 17 (d := fn.getD 17 ⟨("", none), "", "", defArgs (top 0), [], defScope (top 0), [], []⟩) rfl
  fnD0 F sc_are_closes (fun _ _ _ _ _ _ us hl => match us, hl with | [_, _, _, _], _ => rfl) (fun _ _ _ _ _ _ hr => der_are_closes M hr (ok_is_close_key M) (ok_is_close_rule M)) (len_are_closes) (fun ds h Qd q => read_are_closes M ds h Qd q)
theorem ok_Rules_u__init_u_ (M : Md K mg) : FnD ⟨P, w, K⟩ mg base 1 (He.ma K (He.ga K "Rules") "__init__") [] (sp_Rules_u__init_u_ K) :=
  let ⟨_, F⟩ := M.c.def_ 18 (d := fn.getD 18 ⟨("", none), "", "", defArgs (top 0), [], defScope (top 0), [], []⟩) rfl
  fnD0 F sc_Rules_u__init_u_ (fun _ _ _ _ _ _ us hl => match us, hl with | [_, _, _, _, _], _ => rfl) (fun _ _ _ _ _ _ hr => der_Rules_u__init_u_ M hr) (len_Rules_u__init_u_) (fun ds h Qd q => read_Rules_u__init_u_ M ds h Qd q)
theorem ok_checked_readers (M : Md K mg) : FnD ⟨P, w, K⟩ mg base 6 (He.ga K "checked_readers") [] (sp_checked_readers K) :=
  let ⟨_, F⟩ := M.c.def_ 19 (d := fn.getD 19 ⟨("", none), "", "", defArgs (top 0), [], defScope (top 0), [], []⟩) rfl
  fnD0 F sc_checked_readers (fun _ _ _ _ _ _ us hl => match us, hl with | [_, _, _, _], _ => rfl) (fun _ _ _ _ _ _ hr => der_checked_readers M hr (ok_is_mode M) (ok_is_index M) (ok_are_opens M) (ok_are_closes M) (ok_Rules_u__init_u_ M)) (len_checked_readers) (fun ds h Qd q => read_checked_readers M ds h Qd q)
theorem ok_Reader_u__init_u_ (M : Md K mg) : FnD ⟨P, w, K⟩ mg base 7 (He.ma K (He.ga K "Reader") "__init__") [] (sp_Reader_u__init_u_ K) :=
  let ⟨_, F⟩ := M.c.def_ 20 (d := fn.getD 20 ⟨("", none), "", "", defArgs (top 0), [], defScope (top 0), [], []⟩) rfl
  fnD1 F sc_Reader_u__init_u_ (fun h => List.cons_ne_nil _ _ h) (fun _ _ _ _ _ _ _ us its hl h2 => match us, its, hl, h2 with | [_, _, _, _, _], [_, _, _], _, _ => ⟨_, rfl, rfl⟩) (fun _ _ _ _ _ _ hr => der_Reader_u__init_u_ M hr (ok_checked_readers M)) (len_Reader_u__init_u_) (fun ds h Qd q => read_Reader_u__init_u_ M ds h Qd q)
theorem ok__law_made_reader (M : Md K mg) : FnD ⟨P, w, K⟩ mg base 9 (He.ga K "_law_made_reader") [] (sp__law_made_reader K) :=
  let ⟨_, F⟩ := M.c.def_ 21 (d := fn.getD 21 ⟨("", none), "", "", defArgs (top 0), [], defScope (top 0), [], []⟩) rfl
  fnD0 F sc__law_made_reader (fun _ _ _ _ _ _ us hl => match us, hl with | [_], _ => rfl) (fun _ _ _ _ _ _ hr => der__law_made_reader M hr (ok_Reader_u__init_u_ M)) (len__law_made_reader) (fun ds h Qd q => read__law_made_reader M ds h Qd q)
theorem ok__law_reader (M : Md K mg) : FnD ⟨P, w, K⟩ mg base 3 (He.ga K "_law_reader") [] (sp__law_reader K) :=
  let ⟨_, F⟩ := M.c.def_ 22 (d := fn.getD 22 ⟨("", none), "", "", defArgs (top 0), [], defScope (top 0), [], []⟩) rfl
  fnD0 F sc__law_reader (fun _ _ _ _ _ _ us hl => match us, hl with | [_, _, _, _, _, _], _ => rfl) (fun _ _ _ _ _ _ hr => der__law_reader M hr (ok__law_roll M) (ok__law_one_of M)) (len__law_reader) (fun ds h Qd q => read__law_reader M ds h Qd q)
theorem ok_Run_u__init_u_ (M : Md K mg) : FnD ⟨P, w, K⟩ mg base 1 (He.ma K (He.ga K "Run") "__init__") [] (sp_Run_u__init_u_ K) :=
  let ⟨_, F⟩ := M.c.def_ 23 (d := fn.getD 23 ⟨("", none), "", "", defArgs (top 0), [], defScope (top 0), [], []⟩) rfl
  fnD0 F sc_Run_u__init_u_ (fun _ _ _ _ _ _ us hl => match us, hl with | [_, _, _, _, _, _], _ => rfl) (fun _ _ _ _ _ _ hr => der_Run_u__init_u_ M hr) (len_Run_u__init_u_) (fun ds h Qd q => read_Run_u__init_u_ M ds h Qd q)
theorem ok_every_mark (M : Md K mg) : FnD ⟨P, w, K⟩ mg base 1 (He.ga K "every_mark") [] (sp_every_mark K) :=
  let ⟨_, F⟩ := M.c.def_ 24 (d := fn.getD 24 ⟨("", none), "", "", defArgs (top 0), [], defScope (top 0), [], []⟩) rfl
  fnD0 F sc_every_mark (fun _ _ _ _ _ _ us hl => match us, hl with | [_], _ => rfl) (fun _ _ _ _ _ _ hr => der_every_mark M hr) (len_every_mark) (fun ds h Qd q => read_every_mark M ds h Qd q)
theorem ok_Reader_run (M : Md K mg) : FnD ⟨P, w, K⟩ mg base 3 (He.ma K (He.ga K "Reader") "run") [] (sp_Reader_run K) :=
  let ⟨_, F⟩ := M.c.def_ 25 (d := fn.getD 25 ⟨("", none), "", "", defArgs (top 0), [], defScope (top 0), [], []⟩) rfl
  fnD0 F sc_Reader_run (fun _ _ _ _ _ _ us hl => match us, hl with | [_], _ => rfl) (fun _ _ _ _ _ _ hr => der_Reader_run M hr (ok_Run_u__init_u_ M) (ok_every_mark M)) (len_Reader_run) (fun ds h Qd q => read_Reader_run M ds h Qd q)
theorem ok_Run_is_done (M : Md K mg) : FnD ⟨P, w, K⟩ mg base 1 (DL.gtAd K (He.ga K "Run") "is_done") [] (sp_Run_is_done K) :=
  let ⟨_, F⟩ := M.gt.def_ 0 (d := gn.getD 0 ⟨("", none), "", "", defArgs (top 0), [], defScope (top 0), [], []⟩) rfl
  fnD0 F sc_Run_is_done (fun _ _ _ _ _ _ us hl => match us, hl with | [_], _ => rfl) (fun _ _ _ _ _ _ hr => der_Run_is_done M hr) (len_Run_is_done) (fun ds h Qd q => read_Run_is_done M ds h Qd q)
theorem ok_Run_way (M : Md K mg) : FnD ⟨P, w, K⟩ mg base 1 (DL.gtAd K (He.ga K "Run") "way") [] (sp_Run_way K) :=
  let ⟨_, F⟩ := M.gt.def_ 1 (d := gn.getD 1 ⟨("", none), "", "", defArgs (top 0), [], defScope (top 0), [], []⟩) rfl
  fnD0 F sc_Run_way (fun _ _ _ _ _ _ us hl => match us, hl with | [_], _ => rfl) (fun _ _ _ _ _ _ hr => der_Run_way M hr) (len_Run_way) (fun ds h Qd q => read_Run_way M ds h Qd q)
theorem ok__law_close (M : Md K mg) : FnD ⟨P, w, K⟩ mg base 1 (He.ga K "_law_close") [] (sp__law_close K) :=
  let ⟨_, F⟩ := M.c.def_ 26 (d := fn.getD 26 ⟨("", none), "", "", defArgs (top 0), [], defScope (top 0), [], []⟩) rfl
  fnD0 F sc__law_close (fun _ _ _ _ _ _ us hl => match us, hl with | [_, _], _ => rfl) (fun _ _ _ _ _ _ hr => der__law_close M hr) (len__law_close) (fun ds h Qd q => read__law_close M ds h Qd q)
theorem ok_Run_reader (M : Md K mg) : FnD ⟨P, w, K⟩ mg base 1 (DL.gtAd K (He.ga K "Run") "reader") [] (sp_Run_reader K) :=
  let ⟨_, F⟩ := M.gt.def_ 2 (d := gn.getD 2 ⟨("", none), "", "", defArgs (top 0), [], defScope (top 0), [], []⟩) rfl
  fnD0 F sc_Run_reader (fun _ _ _ _ _ _ us hl => match us, hl with | [_], _ => rfl) (fun _ _ _ _ _ _ hr => der_Run_reader M hr) (len_Run_reader) (fun ds h Qd q => read_Run_reader M ds h Qd q)
theorem ok_Reader_mode (M : Md K mg) : FnD ⟨P, w, K⟩ mg base 1 (DL.gtAd K (He.ga K "Reader") "mode") [] (sp_Reader_mode K) :=
  let ⟨_, F⟩ := M.gt.def_ 3 (d := gn.getD 3 ⟨("", none), "", "", defArgs (top 0), [], defScope (top 0), [], []⟩) rfl
  fnD0 F sc_Reader_mode (fun _ _ _ _ _ _ us hl => match us, hl with | [_], _ => rfl) (fun _ _ _ _ _ _ hr => der_Reader_mode M hr) (len_Reader_mode) (fun ds h Qd q => read_Reader_mode M ds h Qd q)
theorem ok__law_further (M : Md K mg) : FnD ⟨P, w, K⟩ mg base 3 (He.ga K "_law_further") [] (sp__law_further K) :=
  let ⟨_, F⟩ := M.c.def_ 27 (d := fn.getD 27 ⟨("", none), "", "", defArgs (top 0), [], defScope (top 0), [], []⟩) rfl
  fnD0 F sc__law_further (fun _ _ _ _ _ _ us hl => match us, hl with | [_, _], _ => rfl) (fun _ _ _ _ _ _ hr => der__law_further M hr (ok_Run_is_done M) (ok_Run_way M) (ok__law_close M) (ok_Run_reader M) (ok_Reader_mode M)) (len__law_further) (fun ds h Qd q => read__law_further M ds h Qd q)
theorem ok_is_event (M : Md K mg) : FnD ⟨P, w, K⟩ mg base 2 (He.ga K "is_event") [] (sp_is_event K) :=
  let ⟨_, F⟩ := M.c.def_ 28 (d := fn.getD 28 ⟨("", none), "", "", defArgs (top 0), [], defScope (top 0), [], []⟩) rfl
  fnD0 F sc_is_event (fun _ _ _ _ _ _ us hl => match us, hl with | [_, _], _ => rfl) (fun _ _ _ _ _ _ hr => der_is_event M hr (ok_is_name M)) (len_is_event) (fun ds h Qd q => read_is_event M ds h Qd q)
theorem ok_close_of (M : Md K mg) : FnD ⟨P, w, K⟩ mg base 1 (He.ga K "close_of") [] (sp_close_of K) :=
  let ⟨_, F⟩ := M.c.def_ 29 (d := fn.getD 29 ⟨("", none), "", "", defArgs (top 0), [], defScope (top 0), [], []⟩) rfl
  fnD0 F sc_close_of (fun _ _ _ _ _ _ us hl => match us, hl with | [_, _], _ => rfl) (fun _ _ _ _ _ _ hr => der_close_of M hr) (len_close_of) (fun ds h Qd q => read_close_of M ds h Qd q)
theorem ok_can_come (M : Md K mg) : FnD ⟨P, w, K⟩ mg base 3 (He.ga K "can_come") [] (sp_can_come K) :=
  let ⟨_, F⟩ := M.c.def_ 30 (d := fn.getD 30 ⟨("", none), "", "", defArgs (top 0), [], defScope (top 0), [], []⟩) rfl
  fnD0 F sc_can_come (fun _ _ _ _ _ _ us hl => match us, hl with | [_, _, _, _], _ => rfl) (fun _ _ _ _ _ _ hr => der_can_come M hr (ok_is_event M) (ok_close_of M)) (len_can_come) (fun ds h Qd q => read_can_come M ds h Qd q)
theorem ok_opened (M : Md K mg) : FnD ⟨P, w, K⟩ mg base 1 (He.ga K "opened") [] (sp_opened K) :=
  let ⟨_, F⟩ := M.c.def_ 31 (d := fn.getD 31 ⟨("", none), "", "", defArgs (top 0), [], defScope (top 0), [], []⟩) rfl
  fnD0 F sc_opened (fun _ _ _ _ _ _ us hl => match us, hl with | [_, _, _, _], _ => rfl) (fun _ _ _ _ _ _ hr => der_opened M hr) (len_opened) (fun ds h Qd q => read_opened M ds h Qd q)
theorem ok_closed (M : Md K mg) : FnD ⟨P, w, K⟩ mg base 1 (He.ga K "closed") [] (sp_closed K) :=
  let ⟨_, F⟩ := M.c.def_ 32 (d := fn.getD 32 ⟨("", none), "", "", defArgs (top 0), [], defScope (top 0), [], []⟩) rfl
  fnD0 F sc_closed (fun _ _ _ _ _ _ us hl => match us, hl with | [_, _, _, _], _ => rfl) (fun _ _ _ _ _ _ hr => der_closed M hr) (len_closed) (fun ds h Qd q => read_closed M ds h Qd q)
theorem ok_run_behind (M : Md K mg) : FnD ⟨P, w, K⟩ mg base 3 (He.ga K "run_behind") [] (sp_run_behind K) :=
  let ⟨_, F⟩ := M.c.def_ 33 (d := fn.getD 33 ⟨("", none), "", "", defArgs (top 0), [], defScope (top 0), [], []⟩) rfl
  fnD0 F sc_run_behind (fun _ _ _ _ _ _ us hl => match us, hl with | [_, _], _ => rfl) (fun _ _ _ _ _ _ hr => der_run_behind M hr (ok_opened M) (ok_closed M) (ok_Run_u__init_u_ M)) (len_run_behind) (fun ds h Qd q => read_run_behind M ds h Qd q)
theorem ok_Run_after (M : Md K mg) : FnD ⟨P, w, K⟩ mg base 4 (He.ma K (He.ga K "Run") "after") [] (sp_Run_after K) :=
  let ⟨_, F⟩ := M.c.def_ 34 (d := fn.getD 34 ⟨("", none), "", "", defArgs (top 0), [], defScope (top 0), [], []⟩) rfl
  fnD0 F sc_Run_after (fun _ _ _ _ _ _ us hl => match us, hl with | [_, _], _ => rfl) (fun _ _ _ _ _ _ hr => der_Run_after M hr (ok_can_come M) (ok_run_behind M)) (len_Run_after) (fun ds h Qd q => read_Run_after M ds h Qd q)
theorem ok__law_all_runs (M : Md K mg) : FnD ⟨P, w, K⟩ mg base 5 (He.ga K "_law_all_runs") [] (sp__law_all_runs K) :=
  let ⟨_, F⟩ := M.c.def_ 35 (d := fn.getD 35 ⟨("", none), "", "", defArgs (top 0), [], defScope (top 0), [], []⟩) rfl
  fnD0 F sc__law_all_runs (fun _ _ _ _ _ _ us hl => match us, hl with | [_, _, _], _ => rfl) (fun _ _ _ _ _ _ hr => der__law_all_runs M hr (ok_Reader_run M) (ok__law_further M) (ok_Run_after M)) (len__law_all_runs) (fun ds h Qd q => read__law_all_runs M ds h Qd q)
theorem ok_Run_state (M : Md K mg) : FnD ⟨P, w, K⟩ mg base 1 (DL.gtAd K (He.ga K "Run") "state") [] (sp_Run_state K) :=
  let ⟨_, F⟩ := M.gt.def_ 4 (d := gn.getD 4 ⟨("", none), "", "", defArgs (top 0), [], defScope (top 0), [], []⟩) rfl
  fnD0 F sc_Run_state (fun _ _ _ _ _ _ us hl => match us, hl with | [_], _ => rfl) (fun _ _ _ _ _ _ hr => der_Run_state M hr) (len_Run_state) (fun ds h Qd q => read_Run_state M ds h Qd q)
theorem ok_Run_lying (M : Md K mg) : FnD ⟨P, w, K⟩ mg base 1 (DL.gtAd K (He.ga K "Run") "lying") [] (sp_Run_lying K) :=
  let ⟨_, F⟩ := M.gt.def_ 5 (d := gn.getD 5 ⟨("", none), "", "", defArgs (top 0), [], defScope (top 0), [], []⟩) rfl
  fnD0 F sc_Run_lying (fun _ _ _ _ _ _ us hl => match us, hl with | [_], _ => rfl) (fun _ _ _ _ _ _ hr => der_Run_lying M hr) (len_Run_lying) (fun ds h Qd q => read_Run_lying M ds h Qd q)
theorem ok__law_standing (M : Md K mg) : FnD ⟨P, w, K⟩ mg base 3 (He.ga K "_law_standing") [] (sp__law_standing K) :=
  let ⟨_, F⟩ := M.c.def_ 36 (d := fn.getD 36 ⟨("", none), "", "", defArgs (top 0), [], defScope (top 0), [], []⟩) rfl
  fnD0 F sc__law_standing (fun _ _ _ _ _ _ us hl => match us, hl with | [_], _ => rfl) (fun _ _ _ _ _ _ hr => der__law_standing M hr (ok_Run_reader M) (ok_Reader_mode M) (ok_Run_state M) (ok_Run_lying M) (ok_Run_is_done M) (ok_Run_way M)) (len__law_standing) (fun ds h Qd q => read__law_standing M ds h Qd q)
theorem ok_Run_free (M : Md K mg) : FnD ⟨P, w, K⟩ mg base 1 (DL.gtAd K (He.ga K "Run") "free") [] (sp_Run_free K) :=
  let ⟨_, F⟩ := M.gt.def_ 6 (d := gn.getD 6 ⟨("", none), "", "", defArgs (top 0), [], defScope (top 0), [], []⟩) rfl
  fnD0 F sc_Run_free (fun _ _ _ _ _ _ us hl => match us, hl with | [_], _ => rfl) (fun _ _ _ _ _ _ hr => der_Run_free M hr) (len_Run_free) (fun ds h Qd q => read_Run_free M ds h Qd q)
theorem ok_Run_told (M : Md K mg) : FnD ⟨P, w, K⟩ mg base 1 (DL.gtAd K (He.ga K "Run") "told") [] (sp_Run_told K) :=
  let ⟨_, F⟩ := M.gt.def_ 7 (d := gn.getD 7 ⟨("", none), "", "", defArgs (top 0), [], defScope (top 0), [], []⟩) rfl
  fnD0 F sc_Run_told (fun _ _ _ _ _ _ us hl => match us, hl with | [_], _ => rfl) (fun _ _ _ _ _ _ hr => der_Run_told M hr) (len_Run_told) (fun ds h Qd q => read_Run_told M ds h Qd q)
theorem ok__law_next_right (M : Md K mg) : FnD ⟨P, w, K⟩ mg base 5 (He.ga K "_law_next_right") [] (sp__law_next_right K) :=
  let ⟨_, F⟩ := M.c.def_ 37 (d := fn.getD 37 ⟨("", none), "", "", defArgs (top 0), [], defScope (top 0), [], []⟩) rfl
  fnD0 F sc__law_next_right (fun _ _ _ _ _ _ us hl => match us, hl with | [_, _, _], _ => rfl) (fun _ _ _ _ _ _ hr => der__law_next_right M hr (ok__law_further M) (ok_Run_after M) (ok_Run_told M) (ok__law_standing M)) (len__law_next_right) (fun ds h Qd q => read__law_next_right M ds h Qd q)
theorem ok__law_right (M : Md K mg) : FnD ⟨P, w, K⟩ mg base 10 (He.ga K "_law_right") [] (sp__law_right K) :=
  let ⟨_, F⟩ := M.c.def_ 38 (d := fn.getD 38 ⟨("", none), "", "", defArgs (top 0), [], defScope (top 0), [], []⟩) rfl
  fnD0F F sc__law_right (fun _ _ _ _ _ _ us hl => match us, hl with | [_], _ => rfl) (fun _ _ _ _ _ _ hr => der__law_right M hr (ok__law_some_mode M) (ok__law_labels M) (ok__law_roll M) (ok__law_made_reader M) (ok__law_reader M) (ok__law_all_runs M) (ok__law_standing M) (ok_Run_free M) (ok__law_next_right M) (ok_Run_way M) (ok_Run_state M) (ok_Run_lying M)) (len__law_right) (fun ds h Qd q => read__law_right M ds h Qd q)
theorem ok_Run_through (M : Md K mg) : FnD ⟨P, w, K⟩ mg base 5 (He.ma K (He.ga K "Run") "through") [] (sp_Run_through K) :=
  let ⟨_, F⟩ := M.c.def_ 39 (d := fn.getD 39 ⟨("", none), "", "", defArgs (top 0), [], defScope (top 0), [], []⟩) rfl
  fnD0 F sc_Run_through (fun _ _ _ _ _ _ us hl => match us, hl with | [_, _], _ => rfl) (fun _ _ _ _ _ _ hr => der_Run_through M hr (ok_Run_after M)) (len_Run_through) (fun ds h Qd q => read_Run_through M ds h Qd q)
theorem ok_law (M : Md K mg) : FnD ⟨P, w, K⟩ mg base 11 (He.ga K "law") [] (sp_law K) :=
  let ⟨_, F⟩ := M.c.def_ 40 (d := fn.getD 40 ⟨("", none), "", "", defArgs (top 0), [], defScope (top 0), [], []⟩) rfl
  fnD0 F sc_law (fun _ _ _ _ _ _ us hl => match us, hl with | [_], _ => rfl) (fun _ _ _ _ _ _ hr => der_law M hr (ok__law_dice M) (ok__law_right M) (ok_Reader_u__init_u_ M) (ok_Run_through M) (ok_Reader_run M) (ok_Run_state M) (ok_Run_lying M) (ok_Run_is_done M)) (len_law) (fun ds h Qd q => read_law M ds h Qd q)
end LK
set_option Elab.async false
set_option linter.all false
set_option maxRecDepth 100000
set_option maxHeartbeats 0
namespace LK
open PySem PySem.Spec PyProof.Rows L2 DL
theorem rep_nums {Z : Kx} {h : DH} {H : Hp} : ∀ ns : List Int, RepL Z h H (nums ns) (ns.map V.int)
  | [] => rfl
  | n :: r => ⟨_, _, rfl, rfl, rep_nums r⟩
theorem law_starts {Z : Kx} {H : Hp} {a : Addr} {ns : List Int} (n : ∀ a o, Z.K.lookup a = some o → isL o = false) (hl : ns.length ≤ 63) (hO : Only H) (hS : SqL Z.K H a (ns.map V.int)) :
    liftSp Z (sp_law Z.K) [.ref a] H (fun v _ => v = .bl true) fun _ _ _ => False := by
  rcases hS with (e | ⟨o, e⟩) | ⟨o, _, _, lk, cl, _⟩
  · rcases hO a with z | ⟨_, _, z⟩ <;> rw [e] at z <;> cases z
  · refine ⟨[.ref a], up (fun _ => none) a (.rol (nums ns)), fun d _ => d = .bl true, ⟨_, _, rfl, rfl, rfl⟩, ?_, ⟨a, ns, rfl, if_pos rfl, hl, fun _ => rfl⟩, ?_⟩
    · intro b x q
      by_cases hb : b = a
      · subst hb
        have q2 := (if_pos rfl).symm.trans q
        cases q2
        exact ⟨⟨_, e⟩, _, _, e, rep_nums ns⟩
      · have q2 := (if_neg hb).symm.trans q
        cases q2
    · intro v _ d _ _ _ r q
      subst q
      exact r
  · have z := n a o lk
    unfold isL at z
    rw [cl] at z
    cases z
end LK
open PySem PySem.W PySem.Calls PyProof.Rows
theorem PySem.Challenge.cw_depthmarks_k34_whole_equal_standings_go_holds : PySem.Challenge.rw_depthmarks_k34_whole_equal_standings_go.Holds := by
  w_on; o_law
  refine HandSHeadRun.head_any (r := OpenLaw.row PySem.Challenge.rw_depthmarks_k34_whole_equal_standings_go) (q := view (OpenLaw.row PySem.Challenge.rw_depthmarks_k34_whole_equal_standings_go).prog [73]) (H := LK.hookK) (ob := LK.obK) (M := 7000) (loose := LK.loose) (d := HandSHeadRun.topDef (OpenLaw.row PySem.Challenge.rw_depthmarks_k34_whole_equal_standings_go).prog 73) (kwd := []) LK.obK_eq
    (by kernel_rfl) (fun s => by kernel_rfl) LK.runK (by kernel_rfl) (by kernel_rfl) (by kernel_rfl) (by rfl) (by first | assumption | decide +kernel) (by decide +kernel) ⟨rfl, rfl, rfl, rfl, rfl, by decide +kernel⟩ ?hw ?hc
  case hw => w_witness2
  case hc =>
    refine L2.walk_ofE (l := PySem.Challenge.rw_depthmarks_k34_whole_equal_standings_go) (n := 63) (k := 11) (x := "_law_script") (CX := L2.CX0) rfl (by decide) (by kernel_rfl) ⟨rfl, by decide, by decide⟩ ?F (fun _ _ _ _ z => z)
    intro w mg at1 h Y G hm0
    obtain ⟨K, KX, c⟩ := Y
    have hm : mg ("law" : PySem.Str) = some (.ref at1) := by
      have e : (HandSHeadRun.topDef (OpenLaw.row PySem.Challenge.rw_depthmarks_k34_whole_equal_standings_go).prog 73).name = ("law" : PySem.Str) := by kernel_rfl
      rw [← e]
      exact hm0
    have M : LK.Md K mg := ⟨c.d, c.e, ⟨h, KX, G⟩, c.w⟩
    have e1 := hm.symm.trans M.glo_law
    cases e1
    obtain ⟨fd, F⟩ := M.c.def_ 40 (d := LK.fn.getD 40 ⟨("", none), "", "", L2.defArgs (LK.top 0), [], L2.defScope (LK.top 0), [], []⟩) rfl
    have b := L2.FunD.bindsA (ps := ["_law_script"]) F fun _ _ _ _ _ _ us hl => match us, hl with | [_], _ => rfl
    exact ⟨K, fd, DL.liftSp ⟨(PySem.Challenge.rw_depthmarks_k34_whole_equal_standings_go).prog, w, K⟩ (LK.sp_law K), KX, fun s v => b s [v] rfl, fun H a ns hl hO hS => LK.law_starts (Z := ⟨(PySem.Challenge.rw_depthmarks_k34_whole_equal_standings_go).prog, w, K⟩) c.n hl hO hS,
      fun base _ _ => DL.fn_okD F LK.sc_law (fun _ _ _ _ _ _ hr => LK.der_law M hr (LK.ok__law_dice M) (LK.ok__law_right M) (LK.ok_Reader_u__init_u_ M) (LK.ok_Run_through M) (LK.ok_Reader_run M) (LK.ok_Run_state M) (LK.ok_Run_lying M) (LK.ok_Run_is_done M)) LK.len_law fun ds h Qd q => LK.read_law M ds h Qd q⟩
