import PyProof.Rows.All
import Wide.All
import OpenK.AllK
import Wide.FinOn
import HandS.HeadHook3
import HandS.Dict
import HandS.Head0
import HandS.Head1
import HandS.Head2
import HandS.HeadEnd
import HandS.Words
import PySem.Challenge.RW_shadowroom_k12_whole_what_marks_must_tel
import Open.Pieces
import HandS.ForMost
import HandS.Exc
import HandS.ExcOwn
import HandS.TryOnly
import HandS.WordsExc
import HandS.IsInst
import HandS.Deep
import HandS.TupAny
import HandS.TupMul
import HandS.SetFor
import HandS.Small
import HandS.NoneIn
import HandS.Style
import HandS.Zip
import HandS.Flow
import HandS.HeadHook2
import HandS.Iter
import KE.GoesMore
import HandS.SortInts
import HandS.More
import HandS.Conv
set_option Elab.async false
set_option linter.all false
set_option maxRecDepth 100000
set_option maxHeartbeats 1000000
/-! Sw, part 0: what the head's run needs, so that it can stand first in a claim's file. -/
namespace Sw
open PySem PySem.Spec L2
def kvOf (e : DictEntry) : Option (Str × Str) := match e.key, e.val with
  | .str x _, .str y _ => some (x, y)
  | _, _ => none
def tabB (K : PySem.W.Frag) (x : Str) (tab : List (Str × Str)) : Bool := match K.lookup (He.ga K x) with
  | some ⟨_, _, .dict es _, _⟩ => decide (es.toList.map kvOf = tab.map some)
  | _ => false
theorem tabB_ok {K : PySem.W.Frag} {x : Str} {tab : List (Str × Str)} {oc : Value} {od : Option Addr} {es : Array DictEntry} {n : Nat} {sl : Array (Option Value)} (h : tabB K x tab = true) (e : K.lookup (He.ga K x) = some ⟨oc, od, .dict es n, sl⟩) : es.toList.map kvOf = tab.map some := by
  unfold tabB at h
  rw [e] at h
  exact of_decide_eq_true h
abbrev AlZ : Type := He.AlT × Bool
def obsZ (fa : List He.Fa) (fn : List He.DefD) (ts : List He.Tab) (ck : PySem.W.Frag → Bool) (K : PySem.W.Frag) : AlZ := (He.obsT fa fn ts K, ck K)
def obsZG (as : List Addr) (fa : List He.Fa) (fn : List He.DefD) (ts : List He.Tab) (ck : PySem.W.Frag → Bool) (g : Addr → Option Obj) : AlZ := obsZ fa fn ts ck (He.frG g as)
structure SaysZ (fa : List He.Fa) (fn : List He.DefD) (ts : List He.Tab) (ck : PySem.W.Frag → Bool) (w : World) (K : PySem.W.Frag) : Prop where
  t : He.SaysT fa fn ts w K
  c : ck K = true
def hookZ (as : List Addr) (fa : List He.Fa) (fn : List He.DefD) (ts : List He.Tab) (ck : PySem.W.Frag → Bool) : PySem.W.Hook where
  α := AlZ
  obs := fun s => obsZG as fa fn ts ck s.heap.get?
  val := fun w => (He.valT fn ts w, true)
  says := fun w h => ∃ K : PySem.W.Frag, K.In h ∧ SaysZ fa fn ts ck w K
  of := fun _ _ e => ⟨_, He.frG_in, congrArg (fun z : AlZ => z.1) e, congrArg (fun z : AlZ => z.2) e⟩
  keeps := fun _ _ _ ⟨K, hK, c⟩ k => ⟨K, PySem.W.Frag.In.keeps hK k, c⟩
end Sw

set_option maxHeartbeats 4000000
/-! k12: shadows of the defs. Printed by gen.py. -/
namespace GK12
open PySem PySem.Spec L2 Sw
def top (i : Nat) : Stmt := PySem.Challenge.pw_shadowroom_k12_whole_what_marks_must_tel.main.body.getD i (.Pass ⟨0, 0, 0, 0⟩)
def inC (s : Stmt) (j : Nat) : Stmt := match s with
  | .ClassDef _ _ _ b _ _ _ _ _ _ _ => b.getD j (.Pass ⟨0, 0, 0, 0⟩)
  | _ => s
abbrev st__law_alike : Stmt := top 70
abbrev st__law_rooms : Stmt := top 71
abbrev st__law_taken : Stmt := top 69
abbrev st_Run_ended : Stmt := inC (top 63) 3
abbrev st_Run_is_long : Stmt := inC (top 63) 1
abbrev st_cut : Stmt := top 61
abbrev st_State_lead : Stmt := inC (top 62) 5
abbrev st_State_reckon : Stmt := inC (top 62) 4
abbrev st_State_handle_of : Stmt := inC (top 62) 1
abbrev st_State_index_of : Stmt := inC (top 62) 2
abbrev st_Store_born : Stmt := inC (top 46) 3
abbrev st_Store_place : Stmt := inC (top 46) 8
abbrev st_State_cell_of : Stmt := inC (top 62) 3
abbrev st_Store_is_living : Stmt := inC (top 46) 4
abbrev st_Store_living : Stmt := inC (top 46) 6
abbrev st_Store_beginning : Stmt := inC (top 46) 11
abbrev st_Store_free : Stmt := inC (top 46) 5
abbrev st_Room_new : Stmt := inC (top 45) 0
abbrev st_Store_is_clear : Stmt := inC (top 46) 1
abbrev st_Store_room : Stmt := inC (top 46) 2
abbrev st_Room_has : Stmt := inC (top 45) 1
abbrev st_Store_owner : Stmt := inC (top 46) 10
abbrev st_Store_write : Stmt := inC (top 46) 12
abbrev st_State_touch : Stmt := inC (top 62) 6
abbrev st_State_do : Stmt := inC (top 62) 7
abbrev st_Store_mark : Stmt := inC (top 46) 13
abbrev st_Store_size : Stmt := inC (top 46) 9
abbrev st_by_bounds : Stmt := top 54
abbrev st_by_marks : Stmt := top 55
abbrev st_by_tags : Stmt := top 56
abbrev st_look : Stmt := top 57
abbrev st_Run_go_through : Stmt := inC (top 63) 2
abbrev st_is_number : Stmt := top 20
abbrev st_need_setting : Stmt := top 31
abbrev st_Store_new : Stmt := inC (top 46) 0
abbrev st_State_new : Stmt := inC (top 62) 0
abbrev st_Run_new : Stmt := inC (top 63) 0
abbrev st_is_touch : Stmt := top 26
abbrev st_unchecked : Stmt := top 32
abbrev st_with_checks : Stmt := top 33
abbrev st_by_itself : Stmt := top 65
abbrev st_need_input : Stmt := top 30
abbrev st_is_part : Stmt := top 21
abbrev st_has_form : Stmt := top 22
abbrev st_is_worded : Stmt := top 23
abbrev st_is_row : Stmt := top 24
abbrev st_is_ahead_of_touch : Stmt := top 27
abbrev st_bad_row : Stmt := top 28
abbrev st_is_end : Stmt := top 25
abbrev st_need_program : Stmt := top 29
abbrev st_need_run : Stmt := top 64
abbrev st_judged : Stmt := top 66
abbrev st_need_way : Stmt := top 53
abbrev st_missed : Stmt := top 67
abbrev st_law : Stmt := top 72
def tab_FORMS : List (Str × Str) := [("put", "nc"), ("add", "nnn"), ("less", "nnn"), ("ask", "n"), ("say", "n"), ("room", "hn"), ("free", "h"), ("get", "nhn"), ("set", "hnn"), ("shift", "hhn"), ("move", "hh"), ("check", "")]
def tab_ENDS : List (Str × Str) := [("go", "b"), ("if", "nbb"), ("end", "")]
end GK12

set_option maxHeartbeats 0
/-! k12: the head. Printed by gen.py. -/
namespace GK12
open PySem PySem.Spec L2 Sw
def D__law_alike : He.DefD := ⟨("_law_alike", none), "_law_alike", "_law_alike", defArgs st__law_alike, defBody st__law_alike, defScope st__law_alike, [], []⟩
def D__law_rooms : He.DefD := ⟨("_law_rooms", none), "_law_rooms", "_law_rooms", defArgs st__law_rooms, defBody st__law_rooms, defScope st__law_rooms, [], []⟩
def D__law_taken : He.DefD := ⟨("_law_taken", none), "_law_taken", "_law_taken", defArgs st__law_taken, defBody st__law_taken, defScope st__law_taken, [], []⟩
def D_Run_ended : He.DefD := ⟨("Run", some "ended"), "ended", "Run.ended", defArgs st_Run_ended, defBody st_Run_ended, defScope st_Run_ended, [], []⟩
def D_Run_is_long : He.DefD := ⟨("Run", some "is_long"), "is_long", "Run.is_long", defArgs st_Run_is_long, defBody st_Run_is_long, defScope st_Run_is_long, [], []⟩
def D_cut : He.DefD := ⟨("cut", none), "cut", "cut", defArgs st_cut, defBody st_cut, defScope st_cut, [], []⟩
def D_State_lead : He.DefD := ⟨("State", some "lead"), "lead", "State.lead", defArgs st_State_lead, defBody st_State_lead, defScope st_State_lead, [], []⟩
def D_State_reckon : He.DefD := ⟨("State", some "reckon"), "reckon", "State.reckon", defArgs st_State_reckon, defBody st_State_reckon, defScope st_State_reckon, [], []⟩
def D_State_handle_of : He.DefD := ⟨("State", some "handle_of"), "handle_of", "State.handle_of", defArgs st_State_handle_of, defBody st_State_handle_of, defScope st_State_handle_of, [], []⟩
def D_State_index_of : He.DefD := ⟨("State", some "index_of"), "index_of", "State.index_of", defArgs st_State_index_of, defBody st_State_index_of, defScope st_State_index_of, [], []⟩
def D_Store_born : He.DefD := ⟨("Store", some "born"), "born", "Store.born", defArgs st_Store_born, defBody st_Store_born, defScope st_Store_born, [], []⟩
def D_Store_place : He.DefD := ⟨("Store", some "place"), "place", "Store.place", defArgs st_Store_place, defBody st_Store_place, defScope st_Store_place, [], []⟩
def D_State_cell_of : He.DefD := ⟨("State", some "cell_of"), "cell_of", "State.cell_of", defArgs st_State_cell_of, defBody st_State_cell_of, defScope st_State_cell_of, [], []⟩
def D_Store_is_living : He.DefD := ⟨("Store", some "is_living"), "is_living", "Store.is_living", defArgs st_Store_is_living, defBody st_Store_is_living, defScope st_Store_is_living, [], []⟩
def D_Store_living : He.DefD := ⟨("Store", some "living"), "living", "Store.living", defArgs st_Store_living, defBody st_Store_living, defScope st_Store_living, [], []⟩
def D_Store_beginning : He.DefD := ⟨("Store", some "beginning"), "beginning", "Store.beginning", defArgs st_Store_beginning, defBody st_Store_beginning, defScope st_Store_beginning, [], []⟩
def D_Store_free : He.DefD := ⟨("Store", some "free"), "free", "Store.free", defArgs st_Store_free, defBody st_Store_free, defScope st_Store_free, [], []⟩
def D_Room_new : He.DefD := ⟨("Room", some "__init__"), "__init__", "Room.__init__", defArgs st_Room_new, defBody st_Room_new, defScope st_Room_new, [], []⟩
def D_Store_is_clear : He.DefD := ⟨("Store", some "is_clear"), "is_clear", "Store.is_clear", defArgs st_Store_is_clear, defBody st_Store_is_clear, defScope st_Store_is_clear, [], []⟩
def D_Store_room : He.DefD := ⟨("Store", some "room"), "room", "Store.room", defArgs st_Store_room, defBody st_Store_room, defScope st_Store_room, [], []⟩
def D_Room_has : He.DefD := ⟨("Room", some "has"), "has", "Room.has", defArgs st_Room_has, defBody st_Room_has, defScope st_Room_has, [], []⟩
def D_Store_owner : He.DefD := ⟨("Store", some "owner"), "owner", "Store.owner", defArgs st_Store_owner, defBody st_Store_owner, defScope st_Store_owner, [], []⟩
def D_Store_write : He.DefD := ⟨("Store", some "write"), "write", "Store.write", defArgs st_Store_write, defBody st_Store_write, defScope st_Store_write, [], []⟩
def D_State_touch : He.DefD := ⟨("State", some "touch"), "touch", "State.touch", defArgs st_State_touch, defBody st_State_touch, defScope st_State_touch, [], []⟩
def D_State_do : He.DefD := ⟨("State", some "do"), "do", "State.do", defArgs st_State_do, defBody st_State_do, defScope st_State_do, [], []⟩
def D_Store_mark : He.DefD := ⟨("Store", some "mark"), "mark", "Store.mark", defArgs st_Store_mark, defBody st_Store_mark, defScope st_Store_mark, [], []⟩
def D_Store_size : He.DefD := ⟨("Store", some "size"), "size", "Store.size", defArgs st_Store_size, defBody st_Store_size, defScope st_Store_size, [], []⟩
def D_by_bounds : He.DefD := ⟨("by_bounds", none), "by_bounds", "by_bounds", defArgs st_by_bounds, defBody st_by_bounds, defScope st_by_bounds, [], []⟩
def D_by_marks : He.DefD := ⟨("by_marks", none), "by_marks", "by_marks", defArgs st_by_marks, defBody st_by_marks, defScope st_by_marks, [], []⟩
def D_by_tags : He.DefD := ⟨("by_tags", none), "by_tags", "by_tags", defArgs st_by_tags, defBody st_by_tags, defScope st_by_tags, [], []⟩
def D_look : He.DefD := ⟨("look", none), "look", "look", defArgs st_look, defBody st_look, defScope st_look, [], []⟩
def D_Run_go_through : He.DefD := ⟨("Run", some "go_through"), "go_through", "Run.go_through", defArgs st_Run_go_through, defBody st_Run_go_through, defScope st_Run_go_through, [], []⟩
def D_is_number : He.DefD := ⟨("is_number", none), "is_number", "is_number", defArgs st_is_number, defBody st_is_number, defScope st_is_number, [], []⟩
def D_need_setting : He.DefD := ⟨("need_setting", none), "need_setting", "need_setting", defArgs st_need_setting, defBody st_need_setting, defScope st_need_setting, [], []⟩
def D_Store_new : He.DefD := ⟨("Store", some "__init__"), "__init__", "Store.__init__", defArgs st_Store_new, defBody st_Store_new, defScope st_Store_new, [], []⟩
def D_State_new : He.DefD := ⟨("State", some "__init__"), "__init__", "State.__init__", defArgs st_State_new, defBody st_State_new, defScope st_State_new, [], []⟩
def D_Run_new : He.DefD := ⟨("Run", some "__init__"), "__init__", "Run.__init__", defArgs st_Run_new, defBody st_Run_new, defScope st_Run_new, [], []⟩
def D_is_touch : He.DefD := ⟨("is_touch", none), "is_touch", "is_touch", defArgs st_is_touch, defBody st_is_touch, defScope st_is_touch, [], []⟩
def D_unchecked : He.DefD := ⟨("unchecked", none), "unchecked", "unchecked", defArgs st_unchecked, defBody st_unchecked, defScope st_unchecked, [], []⟩
def D_with_checks : He.DefD := ⟨("with_checks", none), "with_checks", "with_checks", defArgs st_with_checks, defBody st_with_checks, defScope st_with_checks, [], []⟩
def D_by_itself : He.DefD := ⟨("by_itself", none), "by_itself", "by_itself", defArgs st_by_itself, defBody st_by_itself, defScope st_by_itself, [], []⟩
def D_need_input : He.DefD := ⟨("need_input", none), "need_input", "need_input", defArgs st_need_input, defBody st_need_input, defScope st_need_input, [], []⟩
def D_is_part : He.DefD := ⟨("is_part", none), "is_part", "is_part", defArgs st_is_part, defBody st_is_part, defScope st_is_part, [], []⟩
def D_has_form : He.DefD := ⟨("has_form", none), "has_form", "has_form", defArgs st_has_form, defBody st_has_form, defScope st_has_form, [], []⟩
def D_is_worded : He.DefD := ⟨("is_worded", none), "is_worded", "is_worded", defArgs st_is_worded, defBody st_is_worded, defScope st_is_worded, [], []⟩
def D_is_row : He.DefD := ⟨("is_row", none), "is_row", "is_row", defArgs st_is_row, defBody st_is_row, defScope st_is_row, [], []⟩
def D_is_ahead_of_touch : He.DefD := ⟨("is_ahead_of_touch", none), "is_ahead_of_touch", "is_ahead_of_touch", defArgs st_is_ahead_of_touch, defBody st_is_ahead_of_touch, defScope st_is_ahead_of_touch, [], []⟩
def D_bad_row : He.DefD := ⟨("bad_row", none), "bad_row", "bad_row", defArgs st_bad_row, defBody st_bad_row, defScope st_bad_row, [], []⟩
def D_is_end : He.DefD := ⟨("is_end", none), "is_end", "is_end", defArgs st_is_end, defBody st_is_end, defScope st_is_end, [], []⟩
def D_need_program : He.DefD := ⟨("need_program", none), "need_program", "need_program", defArgs st_need_program, defBody st_need_program, defScope st_need_program, [], []⟩
def D_need_run : He.DefD := ⟨("need_run", none), "need_run", "need_run", defArgs st_need_run, defBody st_need_run, defScope st_need_run, [], []⟩
def D_judged : He.DefD := ⟨("judged", none), "judged", "judged", defArgs st_judged, defBody st_judged, defScope st_judged, [], []⟩
def D_need_way : He.DefD := ⟨("need_way", none), "need_way", "need_way", defArgs st_need_way, defBody st_need_way, defScope st_need_way, [], []⟩
def D_missed : He.DefD := ⟨("missed", none), "missed", "missed", defArgs st_missed, defBody st_missed, defScope st_missed, [], []⟩
def D_law : He.DefD := ⟨("law", none), "law", "law", defArgs st_law, defBody st_law, defScope st_law, [], []⟩
def fn : List He.DefD := [D__law_alike, D__law_rooms, D__law_taken, D_Run_ended, D_Run_is_long, D_cut, D_State_lead, D_State_reckon, D_State_handle_of, D_State_index_of, D_Store_born, D_Store_place, D_State_cell_of, D_Store_is_living, D_Store_living, D_Store_beginning, D_Store_free, D_Room_new, D_Store_is_clear, D_Store_room, D_Room_has, D_Store_owner, D_Store_write, D_State_touch, D_State_do, D_Store_mark, D_Store_size, D_by_bounds, D_by_marks, D_by_tags, D_look, D_Run_go_through, D_is_number, D_need_setting, D_Store_new, D_State_new, D_Run_new, D_is_touch, D_unchecked, D_with_checks, D_by_itself, D_need_input, D_is_part, D_has_form, D_is_worded, D_is_row, D_is_ahead_of_touch, D_bad_row, D_is_end, D_need_program, D_need_run, D_judged, D_need_way, D_missed, D_law]
def fa : List He.Fa := [.free "isinstance", .free "int", .free "str", .free "bool", .free "list", .free "tuple", .free "len", .free "range", .glo "_law_alike", .glo "_law_rooms", .glo "_law_taken", .noat "Run" "word", .noat "Run" "why", .noat "Run" "way", .noat "Run" "stopped", .noat "Run" "steps", .noat "Run" "state", .noat "Run" "program", .cls "Run", .noat "State" "store", .noat "State" "said", .noat "State" "numbers", .noat "State" "handles", .noat "State" "given", .noat "State" "cells", .cls "State", .meth "Run" "ended", .int "MOST_STEPS" 400, .meth "Run" "is_long", .int "FARTHEST" 9999, .free "min", .free "max", .glo "cut", .meth "State" "lead", .meth "State" "reckon", .meth "State" "handle_of", .meth "State" "index_of", .noat "Store" "waiting", .noat "Store" "rooms", .noat "Store" "many", .noat "Store" "keep", .noat "Store" "gap", .cls "Store", .meth "Store" "born", .noat "Room" "wide", .noat "Room" "where", .noat "Room" "state", .noat "Room" "known", .cls "Room", .meth "Store" "place", .meth "State" "cell_of", .str "LIVING" "living", .meth "Store" "is_living", .meth "Store" "living", .meth "Store" "beginning", .free "sum", .str "GONE" "gone", .str "KEPT" "kept", .meth "Store" "free", .mkr "Room", .glo "Room", .meth "Store" "is_clear", .int "LEAST_SIZE" 1, .int "MOST_SIZE" 8, .meth "Store" "room", .meth "Room" "has", .meth "Store" "owner", .meth "Store" "write", .meth "State" "touch", .meth "State" "do", .str "OPEN" "open", .str "GAP" "gap", .str "SET" "set", .str "FRESH" "fresh", .str "FREED" "freed", .meth "Store" "mark", .meth "Store" "size", .glo "by_bounds", .glo "by_marks", .glo "COUNTS", .glo "by_tags", .str "MARKS" "marks", .str "BOUNDS" "bounds", .glo "look", .glo "CHECK", .meth "Run" "go_through", .glo "is_number", .glo "need_setting", .mkr "Store", .glo "Store", .int "HANDLES" 4, .int "NUMBERS" 6, .mkr "State", .glo "State", .mkr "Run", .glo "Run", .glo "TOUCHES", .glo "is_touch", .glo "unchecked", .free "enumerate", .glo "with_checks", .glo "by_itself", .int "MOST_PUT" 999, .int "LEAST_PUT" (-99), .int "MOST_INPUT" 20, .glo "need_input", .glo "is_part", .glo "has_form", .glo "is_worded", .glo "FORMS", .glo "is_row", .glo "is_ahead_of_touch", .glo "bad_row", .glo "ENDS", .glo "is_end", .int "MOST_ROWS" 60, .int "MOST_BLOCKS" 12, .glo "need_program", .glo "need_run", .glo "judged", .int "MOST_BITS" 4, .str "TAGS" "tags", .glo "need_way", .glo "missed", .glo "law"]
abbrev RowK : PySem.W.OpenRow := PySem.W.OpenLaw.row PySem.Challenge.rw_shadowroom_k12_whole_what_marks_must_tel
def ts : List He.Tab := [((fun K => He.ga K "FORMS"), ["put", "add", "less", "ask", "say", "room", "free", "get", "set", "shift", "move", "check"]), ((fun K => He.ga K "ENDS"), ["go", "if", "end"])]
def ck0 (K : PySem.W.Frag) : Bool := He.tupB K "COUNTS" [(.int 1), (.int 2), (.int 4), (.int 8), (.int 16)]
def ck1 (K : PySem.W.Frag) : Bool := He.tupB K "CHECK" [(.str "check")]
def ck2 (K : PySem.W.Frag) : Bool := He.tupB K "TOUCHES" [(.str "room"), (.str "free"), (.str "get"), (.str "set")]
def ck3 (K : PySem.W.Frag) : Bool := tabB K "FORMS" tab_FORMS
def ck4 (K : PySem.W.Frag) : Bool := tabB K "ENDS" tab_ENDS
def ck (K : PySem.W.Frag) : Bool := ck0 K && ck1 K && ck2 K && ck3 K && ck4 K
--@adr
def as_ : List PySem.Addr := [3, 107, 108, 109, 110, 117, 124, 129, 136, 143, 150, 157, 164, 171, 176, 181, 188, 193, 200, 224, 328, 333, 340, 347, 354, 361, 368, 375, 441, 483, 494, 501, 508, 515, 522, 527, 534, 539, 116, 123, 128, 135, 142, 149, 156, 163, 170, 175, 180, 187, 192, 199, 223, 327, 339, 346, 353, 360, 367, 374, 440, 482, 493, 500, 507, 514, 521, 526, 533, 538, 214, 221, 242, 249, 256, 263, 270, 275, 280, 294, 301, 306, 311, 318, 325, 389, 396, 403, 410, 417, 424, 431, 438, 459, 466, 473, 480, 213, 220, 241, 248, 255, 262, 269, 274, 279, 293, 300, 305, 310, 317, 324, 388, 395, 402, 409, 416, 423, 430, 437, 458, 465, 472, 479]
abbrev hk : PySem.W.Hook := hookZ as_ fa fn ts ck
end GK12

set_option maxHeartbeats 4000000
/-! Sw, part A: data trees, objects by numbers, the monad, and how they stand for the machine's heap. -/
namespace Sw
open PySem PySem.Spec PyProof.Rows L2

/-- data: a value with all that never changes; what changes is a number into the list of objects -/
inductive D where
  | non | bl (b : Bool) | int (i : Int) | str (s : Str) | tup (xs : List D) | lst (xs : List D) | ref (n : Nat) | rd (ns : List Int) | clo (k : Nat) (xs : List D)
  deriving Inhabited

/-- an object that may change -/
inductive Ob where
  | lst (xs : List D)
  | dct (kvs : List (Key × D))
  | dtu (kvs : List (List Key × D))
  | ins (C : Str) (fs : List (Str × D))

abbrev PH := List Ob
inductive R (α : Type) where
  | ok (a : α) (h : PH)
  | ex (c : Str) (xs : List D) (h : PH)
  | bad
abbrev M (α : Type) : Type := PH → R α
abbrev Env := List (Option D)
abbrev EM := Env → M D
abbrev LM := Env → M (List D)
abbrev TM := Env → M Bool

def pur {α : Type} (a : α) : M α := fun h => .ok a h
def bnd {α β : Type} (m : M α) (f : α → M β) : M β := fun h => match m h with
  | .ok a h' => f a h'
  | .ex c xs h' => .ex c xs h'
  | .bad => .bad
def bad {α : Type} : M α := fun _ => .bad

section
variable {α β γ : Type}
theorem pur_ap (a : α) (h : PH) : pur a h = .ok a h := rfl
theorem bnd_ap (m : M α) (f : α → M β) (h : PH) : bnd m f h = (match m h with
  | .ok a h' => f a h'
  | .ex c xs h' => .ex c xs h'
  | .bad => .bad) := rfl
theorem bnd_ok {m : M α} {f : α → M β} {h h' : PH} {a : α} (e : m h = .ok a h') : bnd m f h = f a h' := by
  unfold bnd
  rw [e]
end

/-! ### the world: how data stands for machine values -/
/-- K: the written part; cl: the classes' addresses; U: addresses held by one owner each; rho: the objects' addresses; H: the abstract heap -/
structure Wd where
  K : PySem.W.Frag
  cl : Str → Addr
  U : Addr → Prop
  ρ : List Addr
  H : Hp

def KT (K : PySem.W.Frag) (a : Addr) (xs : List V) : Prop := ∃ (o : Obj) (its : Array Value) (n : Nat), K.lookup a = some o ∧ o.cls = .type "tuple" ∧ o.data = .seq its n ∧ its.size ≤ sizeLine ∧ Vals xs its.toList

def AtT (G : Wd) (a : Addr) (vs : List V) : Prop := (G.H a = some (.tup vs) ∧ a ∉ G.ρ ∧ ¬ G.U a ∧ vs.length ≤ sizeLine) ∨ KT G.K a vs
def KL (K : PySem.W.Frag) (a : Addr) (xs : List V) : Prop := ∃ (o : Obj) (its : Array Value) (n : Nat), K.lookup a = some o ∧ o.cls = .type "list" ∧ o.dict = none ∧ o.data = .seq its n ∧ its.size ≤ sizeLine ∧ Vals xs its.toList
def AtL (G : Wd) (a : Addr) (vs : List V) : Prop := G.H a = some (.lst vs) ∧ a ∉ G.ρ ∧ ¬ G.U a ∧ vs.length ≤ sizeLine
/-- a list of ints that is only read: the script -/
def AtR (G : Wd) (a : Addr) (vs : List V) : Prop := ((G.H a = some (.lst vs) ∨ ∃ o, G.H a = some (.frz o (.lst vs))) ∧ a ∉ G.ρ ∧ ¬ G.U a ∧ vs.length ≤ sizeLine) ∨ KL G.K a vs

mutual
def Rep (G : Wd) : D → V → Prop
  | .non, v => v = .non
  | .bl b, v => v = .bl b
  | .int i, v => v = .int i
  | .str s, v => v = .str s ∧ PyData.strOk s = true
  | .tup xs, v => ∃ a vs, v = .ref a ∧ AtT G a vs ∧ Reps G xs vs
  | .lst xs, v => ∃ a vs, v = .ref a ∧ AtL G a vs ∧ Reps G xs vs
  | .ref n, v => ∃ a, G.ρ[n]? = some a ∧ v = .ref a
  | .rd ns, v => ∃ a, v = .ref a ∧ AtR G a (ns.map V.int)
  | .clo _ _, _ => False
def Reps (G : Wd) : List D → List V → Prop
  | [], vs => vs = []
  | x :: xs, vs => ∃ v r, vs = v :: r ∧ Rep G x v ∧ Reps G xs r
end

theorem Reps.len {G : Wd} : ∀ {xs : List D} {vs : List V}, Reps G xs vs → vs.length = xs.length
  | [], vs, h => by
    unfold Reps at h
    rw [h]
    all_goals rfl
  | x :: xs, vs, h => by
    unfold Reps at h
    obtain ⟨v, r, rfl, _, h2⟩ := h
    rw [List.length_cons, List.length_cons, Reps.len h2]
theorem Reps.get {G : Wd} : ∀ {xs : List D} {vs : List V}, Reps G xs vs → ∀ {i : Nat} {x : D}, xs[i]? = some x → ∃ v, vs[i]? = some v ∧ Rep G x v
  | [], _, _, _, _, e => by simp at e
  | x :: xs, vs, h, 0, y, e => by
    unfold Reps at h
    obtain ⟨v, r, rfl, h1, _⟩ := h
    simp at e
    subst e
    exact ⟨v, rfl, h1⟩
  | x :: xs, vs, h, i + 1, y, e => by
    unfold Reps at h
    obtain ⟨v, r, rfl, _, h2⟩ := h
    obtain ⟨u, e1, e2⟩ := Reps.get h2 (i := i) (x := y) (by simpa using e)
    exact ⟨u, by simpa using e1, e2⟩
theorem Reps.app {G : Wd} : ∀ {xs ys : List D} {vs us : List V}, Reps G xs vs → Reps G ys us → Reps G (xs ++ ys) (vs ++ us)
  | [], ys, vs, us, h, h' => by
    unfold Reps at h
    rw [h]
    exact h'
  | x :: xs, ys, vs, us, h, h' => by
    unfold Reps at h
    obtain ⟨v, r, rfl, h1, h2⟩ := h
    show Reps G (x :: (xs ++ ys)) (v :: (r ++ us))
    unfold Reps
    exact ⟨v, _, rfl, h1, Reps.app h2 h'⟩
theorem Reps.one {G : Wd} {x : D} {v : V} (h : Rep G x v) : Reps G [x] [v] := by
  unfold Reps
  exact ⟨v, [], rfl, h, by unfold Reps; rfl⟩
theorem Reps.nil {G : Wd} : Reps G [] [] := by
  unfold Reps
  rfl
theorem Reps.cons {G : Wd} {x : D} {v : V} {xs : List D} {vs : List V} (h : Rep G x v) (t : Reps G xs vs) : Reps G (x :: xs) (v :: vs) := by
  unfold Reps
  exact ⟨v, vs, rfl, h, t⟩
theorem Reps.nil_inv {G : Wd} {vs : List V} (h : Reps G [] vs) : vs = [] := by
  unfold Reps at h
  exact h
theorem Reps.cons_inv {G : Wd} {x : D} {xs : List D} {vs : List V} (h : Reps G (x :: xs) vs) : ∃ v r, vs = v :: r ∧ Rep G x v ∧ Reps G xs r := by
  unfold Reps at h
  exact h
theorem Reps.take {G : Wd} : ∀ {xs : List D} {vs : List V} (n : Nat), Reps G xs vs → Reps G (xs.take n) (vs.take n)
  | _, _, 0, _ => by
    simp only [List.take_zero]
    exact .nil
  | [], vs, n + 1, h => by
    rw [h.nil_inv]
    exact .nil
  | x :: xs, vs, n + 1, h => by
    obtain ⟨v, r, rfl, h1, h2⟩ := h.cons_inv
    simp only [List.take_succ_cons]
    exact .cons h1 (Reps.take n h2)
theorem Reps.drop {G : Wd} : ∀ {xs : List D} {vs : List V} (n : Nat), Reps G xs vs → Reps G (xs.drop n) (vs.drop n)
  | _, _, 0, h => by
    simp only [List.drop_zero]
    exact h
  | [], vs, n + 1, h => by
    rw [h.nil_inv]
    exact .nil
  | x :: xs, vs, n + 1, h => by
    obtain ⟨v, r, rfl, h1, h2⟩ := h.cons_inv
    simp only [List.drop_succ_cons]
    exact Reps.drop n h2
theorem Reps.set {G : Wd} : ∀ {xs : List D} {vs : List V} (n : Nat) {x : D} {v : V}, Reps G xs vs → Rep G x v → Reps G (xs.set n x) (vs.set n v)
  | [], vs, n, _, _, h, _ => by
    rw [h.nil_inv]
    exact .nil
  | y :: xs, vs, 0, x, v, h, q => by
    obtain ⟨u, r, rfl, h1, h2⟩ := h.cons_inv
    exact .cons q h2
  | y :: xs, vs, n + 1, x, v, h, q => by
    obtain ⟨u, r, rfl, h1, h2⟩ := h.cons_inv
    exact .cons h1 (Reps.set n h2 q)
theorem Reps.erase {G : Wd} : ∀ {xs : List D} {vs : List V} (n : Nat), Reps G xs vs → Reps G (xs.eraseIdx n) (vs.eraseIdx n)
  | [], vs, n, h => by
    rw [h.nil_inv]
    exact .nil
  | y :: xs, vs, 0, h => by
    obtain ⟨u, r, rfl, h1, h2⟩ := h.cons_inv
    exact h2
  | y :: xs, vs, n + 1, h => by
    obtain ⟨u, r, rfl, h1, h2⟩ := h.cons_inv
    exact .cons h1 (Reps.erase n h2)
theorem Reps.rev {G : Wd} : ∀ {xs : List D} {vs : List V}, Reps G xs vs → Reps G xs.reverse vs.reverse
  | [], vs, h => by
    rw [h.nil_inv]
    exact .nil
  | y :: xs, vs, h => by
    obtain ⟨u, r, rfl, h1, h2⟩ := h.cons_inv
    rw [List.reverse_cons, List.reverse_cons]
    exact (Reps.rev h2).app (.one h1)
theorem Reps.rep {G : Wd} {xs : List D} {vs : List V} (h : Reps G xs vs) : ∀ k : Nat, Reps G (List.replicate k xs).flatten (List.replicate k vs).flatten
  | 0 => .nil
  | k + 1 => by
    simp only [List.replicate_succ, List.flatten_cons]
    exact h.app (Reps.rep h k)

/-- what leans on a world stands in the next one -/
structure Wd.Le (G G' : Wd) : Prop where
  K : G'.K = G.K
  cl : G'.cl = G.cl
  ρ : G.ρ <+: G'.ρ
  st : ∀ a o, G.H a = some o → a ∉ G.ρ → ¬ G.U a → G'.H a = some o ∧ a ∉ G'.ρ ∧ ¬ G'.U a
theorem Wd.Le.refl (G : Wd) : G.Le G := ⟨rfl, rfl, List.prefix_refl _, fun _ _ h1 h2 h3 => ⟨h1, h2, h3⟩⟩
theorem Wd.Le.trans {G1 G2 G3 : Wd} (a : G1.Le G2) (b : G2.Le G3) : G1.Le G3 :=
  ⟨b.K.trans a.K, b.cl.trans a.cl, a.ρ.trans b.ρ, fun c o h1 h2 h3 => let ⟨q1, q2, q3⟩ := a.st c o h1 h2 h3; b.st c o q1 q2 q3⟩
theorem pre_get {α : Type} {l l' : List α} (h : l <+: l') {n : Nat} {a : α} (e : l[n]? = some a) : l'[n]? = some a := by
  obtain ⟨t, rfl⟩ := h
  rw [List.getElem?_append_left (by
    have := (List.getElem?_eq_some_iff.mp e).1
    exact this)]
  exact e
theorem AtT.le {G G' : Wd} (l : G.Le G') {a : Addr} {vs : List V} (h : AtT G a vs) : AtT G' a vs := by
  rcases h with ⟨h1, h2, h3, h4⟩ | h
  · obtain ⟨q1, q2, q3⟩ := l.st a _ h1 h2 h3
    exact .inl ⟨q1, q2, q3, h4⟩
  · exact .inr (by rw [l.K]; exact h)
theorem AtL.le {G G' : Wd} (l : G.Le G') {a : Addr} {vs : List V} (h : AtL G a vs) : AtL G' a vs := by
  obtain ⟨h1, h2, h3, h4⟩ := h
  obtain ⟨q1, q2, q3⟩ := l.st a _ h1 h2 h3
  exact ⟨q1, q2, q3, h4⟩
theorem AtR.le {G G' : Wd} (l : G.Le G') {a : Addr} {vs : List V} (h : AtR G a vs) : AtR G' a vs := by
  rcases h with ⟨h1, h2, h3, h4⟩ | h
  · rcases h1 with h1 | ⟨o, h1⟩
    · obtain ⟨q1, q2, q3⟩ := l.st a _ h1 h2 h3
      exact .inl ⟨.inl q1, q2, q3, h4⟩
    · obtain ⟨q1, q2, q3⟩ := l.st a _ h1 h2 h3
      exact .inl ⟨.inr ⟨o, q1⟩, q2, q3, h4⟩
  · exact .inr (by rw [l.K]; exact h)
mutual
theorem Rep.le {G G' : Wd} (l : G.Le G') : ∀ (d : D) {v : V}, Rep G d v → Rep G' d v
  | .non, v, h => by
    unfold Rep at h ⊢
    exact h
  | .bl b, v, h => by
    unfold Rep at h ⊢
    exact h
  | .int i, v, h => by
    unfold Rep at h ⊢
    exact h
  | .str s, v, h => by
    unfold Rep at h ⊢
    exact h
  | .tup xs, v, h => by
    unfold Rep at h ⊢
    obtain ⟨a, vs, e, h1, h2⟩ := h
    exact ⟨a, vs, e, h1.le l, Reps.le l xs h2⟩
  | .lst xs, v, h => by
    unfold Rep at h ⊢
    obtain ⟨a, vs, e, h1, h2⟩ := h
    exact ⟨a, vs, e, h1.le l, Reps.le l xs h2⟩
  | .ref n, v, h => by
    unfold Rep at h ⊢
    obtain ⟨a, e, h1⟩ := h
    exact ⟨a, pre_get l.ρ e, h1⟩
  | .rd ns, v, h => by
    unfold Rep at h ⊢
    obtain ⟨a, e, h1⟩ := h
    exact ⟨a, e, h1.le l⟩
  | .clo _ _, v, h => by
    unfold Rep at h
    exact h.elim
theorem Reps.le {G G' : Wd} (l : G.Le G') : ∀ (xs : List D) {vs : List V}, Reps G xs vs → Reps G' xs vs
  | [], vs, h => by
    unfold Reps at h ⊢
    exact h
  | x :: xs, vs, h => by
    unfold Reps at h ⊢
    obtain ⟨v, r, e, h1, h2⟩ := h
    exact ⟨v, r, e, Rep.le l x h1, Reps.le l xs h2⟩
end

/-- the pairs of a dict -/
def RepKV {κ : Type} (G : Wd) (kvs : List (κ × D)) (kvs' : List (κ × V)) : Prop := kvs'.map (·.1) = kvs.map (·.1) ∧ Reps G (kvs.map (·.2)) (kvs'.map (·.2))
theorem RepKV.le {κ : Type} {G G' : Wd} (l : G.Le G') {kvs : List (κ × D)} {kvs' : List (κ × V)} (h : RepKV G kvs kvs') : RepKV G' kvs kvs' := ⟨h.1, Reps.le l _ h.2⟩

def ObAt (G : Wd) (a : Addr) : Ob → Prop
  | .lst xs => ∃ vs, G.H a = some (.lst vs) ∧ vs.length ≤ sizeLine ∧ Reps G xs vs
  | .dct kvs => ∃ kvs', G.H a = some (.dK kvs') ∧ RepKV G kvs kvs'
  | .dtu kvs => ∃ kvs', G.H a = some (.dT kvs') ∧ RepKV G kvs kvs'
  | .ins C fs => ∃ dx fs', G.H a = some (.ins (G.cl C) dx fs') ∧ RepKV G fs fs'

structure Wd.Ok (G : Wd) (h : PH) : Prop where
  len : G.ρ.length = h.length
  nd : G.ρ.Nodup
  own : ∀ a, G.U a → a ∉ G.ρ ∧ ∃ vs, G.H a = some (.lst vs)
  obs : ∀ (n : Nat) a o, G.ρ[n]? = some a → h[n]? = some o → ObAt G a o

/-- an expression's step: owned addresses are as they were -/
structure Wd.To (G G' : Wd) : Prop where
  le : G.Le G'
  U : G'.U = G.U
  ow : ∀ a, G.U a → G'.H a = G.H a
theorem Wd.To.refl (G : Wd) : G.To G := ⟨.refl G, rfl, fun _ _ => rfl⟩
theorem Wd.To.trans {G1 G2 G3 : Wd} (a : G1.To G2) (b : G2.To G3) : G1.To G3 :=
  ⟨a.le.trans b.le, b.U.trans a.U, fun c h => (b.ow c (by rw [a.U]; exact h)).trans (a.ow c h)⟩
theorem ObAt.le {G G' : Wd} (l : G.Le G') {a : Addr} (e : G'.H a = G.H a) : ∀ {o : Ob}, ObAt G a o → ObAt G' a o
  | .lst xs, h => by
    obtain ⟨vs, h1, h2, h3⟩ := h
    exact ⟨vs, e.trans h1, h2, Reps.le l _ h3⟩
  | .dct kvs, h => by
    obtain ⟨vs, h1, h3⟩ := h
    exact ⟨vs, e.trans h1, h3.le l⟩
  | .dtu kvs, h => by
    obtain ⟨vs, h1, h3⟩ := h
    exact ⟨vs, e.trans h1, h3.le l⟩
  | .ins C fs, h => by
    obtain ⟨dx, vs, h1, h3⟩ := h
    exact ⟨dx, vs, e.trans (by rw [l.cl]; exact h1), h3.le l⟩
/-- what stands at an object's address -/
theorem Wd.Ok.at {G : Wd} {h : PH} (k : G.Ok h) {n : Nat} {a : Addr} (e : G.ρ[n]? = some a) : ∃ o, h[n]? = some o ∧ ObAt G a o := by
  have hn : n < h.length := by
    rw [← k.len]
    exact (List.getElem?_eq_some_iff.mp e).1
  exact ⟨h[n], List.getElem?_eq_getElem hn, k.obs n a _ e (List.getElem?_eq_getElem hn)⟩
theorem ObAt.some_ {G : Wd} {a : Addr} {o : Ob} (h : ObAt G a o) : ∃ u, G.H a = some u ∧ (∀ xs, u ≠ .tup xs) ∧ (∀ o x, u ≠ .frz o x) := by
  cases o with
  | lst xs =>
    obtain ⟨vs, h1, _⟩ := h
    exact ⟨_, h1, fun _ z => (by cases z), fun _ _ z => (by cases z)⟩
  | dct xs =>
    obtain ⟨vs, h1, _⟩ := h
    exact ⟨_, h1, fun _ z => (by cases z), fun _ _ z => (by cases z)⟩
  | dtu xs =>
    obtain ⟨vs, h1, _⟩ := h
    exact ⟨_, h1, fun _ z => (by cases z), fun _ _ z => (by cases z)⟩
  | ins C xs =>
    obtain ⟨dx, vs, h1, _⟩ := h
    exact ⟨_, h1, fun _ z => (by cases z), fun _ _ z => (by cases z)⟩

/-! ### steps of a world -/
/-- a thing that is not tracked as an object is laid at a free place -/
def Wd.lay (G : Wd) (p : Addr) (o : HO) : Wd := { G with H := upd G.H p o }
/-- the same, held by one owner -/
def Wd.layU (G : Wd) (p : Addr) (o : HO) : Wd := { G with H := upd G.H p o, U := fun a => a = p ∨ G.U a }
/-- .. as a new object -/
def Wd.layO (G : Wd) (p : Addr) (o : HO) : Wd := { G with H := upd G.H p o, ρ := G.ρ ++ [p] }
/-- the object at p is changed -/
def Wd.put (G : Wd) (p : Addr) (o : HO) : Wd := { G with H := upd G.H p o }

theorem Wd.Ok.in_ {G : Wd} {h : PH} (k : G.Ok h) {a : Addr} (e : a ∈ G.ρ) : ∃ u, G.H a = some u := by
  obtain ⟨n, hn, rfl⟩ := List.mem_iff_getElem.mp e
  obtain ⟨o, _, ho⟩ := k.at (n := n) (a := G.ρ[n]) (List.getElem?_eq_getElem hn)
  obtain ⟨u, hu, _⟩ := ho.some_
  exact ⟨u, hu⟩
theorem Wd.Ok.notin {G : Wd} {h : PH} (k : G.Ok h) {p : Addr} (e : G.H p = none) : p ∉ G.ρ := fun hm => by
  obtain ⟨u, hu⟩ := k.in_ hm
  rw [e] at hu
  cases hu
theorem Wd.Ok.notU {G : Wd} {h : PH} (k : G.Ok h) {p : Addr} (e : G.H p = none) : ¬ G.U p := fun hm => by
  obtain ⟨_, vs, hu⟩ := k.own p hm
  rw [e] at hu
  cases hu
theorem Wd.Ok.neU {G : Wd} {h : PH} (k : G.Ok h) {p a : Addr} (e : G.H p = none) (ha : G.U a) : a ≠ p := fun q => k.notU e (q ▸ ha)
theorem Wd.Ok.neR {G : Wd} {h : PH} (k : G.Ok h) {p a : Addr} (e : G.H p = none) (ha : a ∈ G.ρ) : a ≠ p := fun q => k.notin e (q ▸ ha)
theorem Wd.lay_to {G : Wd} {h : PH} (k : G.Ok h) {p : Addr} {o : HO} (e : G.H p = none) : G.To (G.lay p o) :=
  ⟨⟨rfl, rfl, List.prefix_refl _, fun a u h1 h2 h3 => ⟨(upd_ne (ne_of_none h1 e)).trans h1, h2, h3⟩⟩, rfl, fun a ha => upd_ne (k.neU e ha)⟩
theorem Wd.lay_ok {G : Wd} {h : PH} (k : G.Ok h) {p : Addr} {o : HO} (e : G.H p = none) : (G.lay p o).Ok h where
  len := k.len
  nd := k.nd
  own := fun a ha => by
    obtain ⟨h1, vs, h2⟩ := k.own a ha
    exact ⟨h1, vs, (upd_ne (k.neU e ha)).trans h2⟩
  obs := fun n a ob h1 h2 => (k.obs n a ob h1 h2).le (Wd.lay_to k e).le (upd_ne (k.neR e (List.mem_of_getElem? h1)))
/-- a new list with one owner -/
theorem Wd.layU_le {G : Wd} {p : Addr} {o : HO} (e : G.H p = none) : G.Le (G.layU p o) :=
  ⟨rfl, rfl, List.prefix_refl _, fun a u h1 h2 h3 => ⟨(upd_ne (ne_of_none h1 e)).trans h1, h2, fun q => q.elim (ne_of_none h1 e) h3⟩⟩
theorem Wd.layU_ok {G : Wd} {h : PH} (k : G.Ok h) {p : Addr} {vs : List V} (e : G.H p = none) : (G.layU p (.lst vs)).Ok h where
  len := k.len
  nd := k.nd
  own := fun a ha => by
    rcases ha with rfl | ha
    · exact ⟨k.notin e, vs, upd_same⟩
    · obtain ⟨h1, vs, h2⟩ := k.own a ha
      exact ⟨h1, vs, (upd_ne (k.neU e ha)).trans h2⟩
  obs := fun n a ob h1 h2 => (k.obs n a ob h1 h2).le (Wd.layU_le e) (upd_ne (k.neR e (List.mem_of_getElem? h1)))
/-- a new object -/
theorem Wd.layO_to {G : Wd} {h : PH} (k : G.Ok h) {p : Addr} {o : HO} (e : G.H p = none) : G.To (G.layO p o) :=
  ⟨⟨rfl, rfl, List.prefix_append _ _, fun a u h1 h2 h3 => ⟨(upd_ne (ne_of_none h1 e)).trans h1, fun q => by
    rcases List.mem_append.mp q with q | q
    · exact h2 q
    · exact ne_of_none h1 e (by simpa using q), h3⟩⟩, rfl, fun a ha => upd_ne (k.neU e ha)⟩
theorem Wd.layO_ok {G : Wd} {h : PH} (k : G.Ok h) {p : Addr} {o : HO} {ob : Ob} (e : G.H p = none) (new : ObAt (G.layO p o) p ob) : (G.layO p o).Ok (h ++ [ob]) where
  len := by
    show (G.ρ ++ [p]).length = _
    rw [List.length_append, List.length_append, k.len]
    all_goals rfl
  nd := by
    show (G.ρ ++ [p]).Nodup
    rw [List.nodup_append]
    refine ⟨k.nd, by simp, fun a ha b hb => ?_⟩
    have : b = p := by simpa using hb
    subst this
    exact k.neR e ha
  own := fun a ha => by
    obtain ⟨h1, vs, h2⟩ := k.own a ha
    refine ⟨fun q => ?_, vs, (upd_ne (k.neU e ha)).trans h2⟩
    rcases List.mem_append.mp q with q | q
    · exact h1 q
    · exact k.neU e ha (by simpa using q)
  obs := fun n a o' h1 h2 => by
    have h1 : (G.ρ ++ [p])[n]? = some a := h1
    by_cases hn : n < G.ρ.length
    · rw [List.getElem?_append_left hn] at h1
      rw [List.getElem?_append_left (by rw [← k.len]; exact hn)] at h2
      exact (k.obs n a o' h1 h2).le (Wd.layO_to k e).le (upd_ne (k.neR e (List.mem_of_getElem? h1)))
    · rw [List.getElem?_append_right (by omega)] at h1
      rw [List.getElem?_append_right (by rw [← k.len]; omega)] at h2
      have hz : n - G.ρ.length = 0 := by
        have := (List.getElem?_eq_some_iff.mp h1).1
        simp at this
        omega
      rw [hz] at h1
      rw [← k.len, hz] at h2
      simp at h1 h2
      subst h1 h2
      exact new
/-- an object changed -/
theorem Wd.put_to {G : Wd} {h : PH} (k : G.Ok h) {n : Nat} {p : Addr} {o : HO} (e : G.ρ[n]? = some p) : G.To (G.put p o) := by
  refine ⟨⟨rfl, rfl, List.prefix_refl _, fun a u h1 h2 h3 => ⟨?_, h2, h3⟩⟩, rfl, fun a ha => ?_⟩
  · have : a ≠ p := fun q => h2 (q ▸ List.mem_of_getElem? e)
    exact (upd_ne this).trans h1
  · have : a ≠ p := fun q => (k.own a ha).1 (q ▸ List.mem_of_getElem? e)
    exact upd_ne this
theorem nodup_ix2 {l : List Addr} (nd : l.Nodup) {i j : Nat} {a : Addr} (h1 : l[i]? = some a) (h2 : l[j]? = some a) : i = j := by
  obtain ⟨q1, e1⟩ := List.getElem?_eq_some_iff.mp h1
  obtain ⟨q2, e2⟩ := List.getElem?_eq_some_iff.mp h2
  exact (List.getElem_inj nd).mp (e1.trans e2.symm)
theorem Wd.put_ok {G : Wd} {h : PH} (k : G.Ok h) {n : Nat} {p : Addr} {o : HO} {ob : Ob} (e : G.ρ[n]? = some p) (new : ObAt (G.put p o) p ob) : (G.put p o).Ok (h.set n ob) where
  len := by
    rw [List.length_set]
    exact k.len
  nd := k.nd
  own := fun a ha => by
    obtain ⟨h1, vs, h2⟩ := k.own a ha
    have : a ≠ p := fun q => h1 (q ▸ List.mem_of_getElem? e)
    exact ⟨h1, vs, (upd_ne this).trans h2⟩
  obs := fun m a o' h1 h2 => by
    have h1 : G.ρ[m]? = some a := h1
    by_cases q : m = n
    · subst q
      rw [e] at h1
      cases h1
      have hm : m < h.length := by
        rw [← k.len]
        exact (List.getElem?_eq_some_iff.mp e).1
      rw [List.getElem?_set_self hm] at h2
      cases h2
      exact new
    · rw [List.getElem?_set_ne (fun z => q z.symm)] at h2
      have : a ≠ p := fun z => q (nodup_ix2 k.nd (z ▸ h1) e)
      exact (k.obs m a o' h1 h2).le (Wd.put_to k e).le (upd_ne this)
/-- an owned list changed -/
def Wd.putU (G : Wd) (p : Addr) (o : HO) : Wd := { G with H := upd G.H p o }
theorem Wd.putU_le {G : Wd} {p : Addr} {o : HO} (e : G.U p) : G.Le (G.putU p o) :=
  ⟨rfl, rfl, List.prefix_refl _, fun a u h1 h2 h3 => ⟨(upd_ne (fun q => h3 (by rw [q]; exact e))).trans h1, h2, h3⟩⟩
theorem Wd.putU_ok {G : Wd} {h : PH} (k : G.Ok h) {p : Addr} {vs : List V} (e : G.U p) : (G.putU p (.lst vs)).Ok h where
  len := k.len
  nd := k.nd
  own := fun a ha => by
    obtain ⟨h1, us, h2⟩ := k.own a ha
    refine ⟨h1, ?_⟩
    by_cases q : a = p
    · subst q
      exact ⟨vs, upd_same⟩
    · exact ⟨us, (upd_ne q).trans h2⟩
  obs := fun n a o' h1 h2 => by
    have : a ≠ p := fun z => (k.own p e).1 (z ▸ List.mem_of_getElem? h1)
    exact (k.obs n a o' h1 h2).le (Wd.putU_le e) (upd_ne this)
/-- owners give up what they hold -/
def Wd.drop (G : Wd) (B : Addr → Prop) : Wd := { G with U := B }
theorem Wd.drop_le {G : Wd} {B : Addr → Prop} (b : ∀ a, B a → G.U a) : G.Le (G.drop B) :=
  ⟨rfl, rfl, List.prefix_refl _, fun a u h1 h2 h3 => ⟨h1, h2, fun q => h3 (b a q)⟩⟩
theorem Wd.drop_ok {G : Wd} {h : PH} (k : G.Ok h) {B : Addr → Prop} (b : ∀ a, B a → G.U a) : (G.drop B).Ok h where
  len := k.len
  nd := k.nd
  own := fun a ha => k.own a (b a ha)
  obs := fun n a o' h1 h2 => (k.obs n a o' h1 h2).le (Wd.drop_le b) rfl
/-- a held list becomes an object -/
def Wd.pass (G : Wd) (p : Addr) (B : Addr → Prop) : Wd := { G with U := B, ρ := G.ρ ++ [p] }
theorem Wd.pass_le {G : Wd} {p : Addr} {B : Addr → Prop} (u : G.U p) (b : ∀ a, B a → G.U a) : G.Le (G.pass p B) :=
  ⟨rfl, rfl, List.prefix_append _ _, fun a u' h1 h2 h3 => ⟨h1, fun q => by
    rcases List.mem_append.mp q with q | q
    · exact h2 q
    · exact h3 ((show a = p by simpa using q) ▸ u), fun q => h3 (b a q)⟩⟩
theorem Wd.pass_ok {G : Wd} {h : PH} (k : G.Ok h) {p : Addr} {B : Addr → Prop} (u : G.U p) (b : ∀ a, B a → G.U a) (nb : ¬ B p) {xs : List D} {vs : List V} (e : G.H p = some (.lst vs)) (hl : vs.length ≤ sizeLine) (r : Reps G xs vs) : (G.pass p B).Ok (h ++ [.lst xs]) where
  len := by
    show (G.ρ ++ [p]).length = _
    rw [List.length_append, List.length_append, k.len]
    all_goals rfl
  nd := by
    show (G.ρ ++ [p]).Nodup
    rw [List.nodup_append]
    refine ⟨k.nd, by simp, fun a ha c hc => ?_⟩
    have : c = p := by simpa using hc
    subst this
    exact fun q => (k.own c u).1 (q ▸ ha)
  own := fun a ha => by
    obtain ⟨h1, vs, h2⟩ := k.own a (b a ha)
    refine ⟨fun q => ?_, vs, h2⟩
    rcases List.mem_append.mp q with q | q
    · exact h1 q
    · exact nb ((show a = p by simpa using q) ▸ ha)
  obs := fun n a o' h1 h2 => by
    have h1 : (G.ρ ++ [p])[n]? = some a := h1
    by_cases hn : n < G.ρ.length
    · rw [List.getElem?_append_left hn] at h1
      rw [List.getElem?_append_left (by rw [← k.len]; exact hn)] at h2
      exact (k.obs n a o' h1 h2).le (Wd.pass_le u b) rfl
    · rw [List.getElem?_append_right (by omega)] at h1
      rw [List.getElem?_append_right (by rw [← k.len]; omega)] at h2
      have hz : n - G.ρ.length = 0 := by
        have := (List.getElem?_eq_some_iff.mp h1).1
        simp at this
        omega
      rw [hz] at h1
      rw [← k.len, hz] at h2
      simp at h1 h2
      subst h1 h2
      exact ⟨vs, e, hl, Reps.le (Wd.pass_le u b) _ r⟩
end Sw

set_option maxHeartbeats 4000000
/-! Sw, part B: the judgements. -/
namespace Sw
open PySem PySem.Spec L2

/-! ### exceptions -/
/-- the own fields of an exception: as much as a law asks for -/
def XR (G : Wd) (xs : List D) (dx : Option Addr) : Prop := xs = [] ∨ ∃ a v w dv dw, dx = some a ∧ G.H a = some (.xd [("block", v), ("row", w)]) ∧ xs = [dv, dw] ∧ Rep G dv v ∧ Rep G dw w

/-- what is fixed for the whole text -/
structure Tx where
  P : Program
  w : World
  K : PySem.W.Frag
  mg : Str → Option Value
  base : Heap
  CX : CXT
  cl : Str → Addr
  xm : Bool
/-- what is fixed around a piece of text -/
structure Sx where
  T : Tx
  E : XK
  N : List Str
  sc : Scope
  k : Nat
  fa : Str → Bool
  rz : Bool
abbrev Sx.P (S : Sx) : Program := S.T.P
abbrev Sx.w (S : Sx) : World := S.T.w
abbrev Sx.K (S : Sx) : PySem.W.Frag := S.T.K
abbrev Sx.mg (S : Sx) : Str → Option Value := S.T.mg
abbrev Sx.base (S : Sx) : Heap := S.T.base
abbrev Sx.CX (S : Sx) : CXT := S.T.CX
abbrev Sx.cl (S : Sx) : Str → Addr := S.T.cl
/-- a context for a def's promise -/
def Tx.sx (T : Tx) (E : XK) : Sx := ⟨T, E, [], { kind := .function, names := [], isGenerator := false, isCoroutine := false }, 0, fun _ => false, false⟩

/-- a context of such a piece -/
structure InX (S : Sx) (X : Cx) : Prop where
  prog : X.prog = S.P
  w : X.w = S.w
  K : X.K = S.K
  mg : X.mg = S.mg
  base : X.base = S.base
  N : X.N = S.N
  sc : X.env.scope = S.sc
  room : Room S.k X.A
  calm : X.calm = true
  fn : ∀ x, S.fa x = true → X.fn x = true
  pass : Passes S.CX X S.E
  own : PassesOwn (model X.prog X.w) X.A X.env X.xe
  kind : X.env.scope.kind = .function
  blk : ∀ X' : Cx, X'.prog = S.P → X'.w = S.w → Passes S.CX X' E0
  tk : S.rz = true → Takes X (fun cls d _ H => S.E cls d H)

def Pst {α : Type} (S : Sx) (G : Wd) (r : R α) (Z : α → PH → Wd → Prop) : Prop := match r with
  | .ok a h' => ∀ G', G.To G' → G'.Ok h' → Z a h' G'
  | .ex c xs h' => S.T.xm = true ∧ ∀ G' dx, G.To G' → G'.Ok h' → XR G' xs dx → S.E (.ref (S.cl c)) dx G'.H
  | .bad => False
section
variable {α β : Type} {S : Sx} {G G1 : Wd} {r : R α} {Z Z' : α → PH → Wd → Prop}
theorem Pst.step (t : G.To G1) (p : Pst S G r Z) : Pst S G1 r Z := by
  cases r with
  | ok a h' => exact fun G' t' k => p G' (t.trans t') k
  | ex c xs h' => exact ⟨p.1, fun G' dx t' k x => p.2 G' dx (t.trans t') k x⟩
  | bad => exact p
theorem Pst.mono (p : Pst S G r Z) (f : ∀ a h' G', G.To G' → G'.Ok h' → Z a h' G' → Z' a h' G') : Pst S G r Z' := by
  cases r with
  | ok a h' => exact fun G' t' k => f a h' G' t' k (p G' t' k)
  | ex c xs h' => exact p
  | bad => exact p
theorem Pst.bnd {m : M β} {f : β → M α} {h : PH} (p : Pst S G (Sw.bnd m f h) Z) : Pst S G (m h) (fun a h1 G1 => Pst S G1 (f a h1) Z) := by
  unfold Sw.bnd at p
  cases e : m h with
  | ok a h1 =>
    rw [e] at p
    exact fun G1 t1 k1 => p.step t1
  | ex c xs h1 =>
    rw [e] at p
    exact p
  | bad =>
    rw [e] at p
    exact p
theorem Pst.pur {a : α} {h : PH} (p : Pst S G (Sw.pur a h) Z) (k : G.Ok h) : Z a h G := p G (.refl G) k
end

/-! ### the local names -/
/-- O: the places of the lists that this def alone holds; B: what others hold -/
structure EnvOk (O : List Nat) (B : Addr → Prop) (G : Wd) (σ : St) (Γ : Env) : Prop where
  len : σ.length = Γ.length
  val : ∀ (i : Nat) d, Γ[i]? = some (some d) → i ∉ O → ∃ v, σ[i]? = some (some v) ∧ Rep G d v
  own : ∀ (i : Nat) d, Γ[i]? = some (some d) → i ∈ O → ∃ xs a vs, d = .lst xs ∧ σ[i]? = some (some (.ref a)) ∧ G.U a ∧ ¬ B a ∧ G.H a = some (.lst vs) ∧ vs.length ≤ sizeLine ∧ Reps G xs vs
  sep : ∀ (i j : Nat) d d' a, i ∈ O → j ∈ O → Γ[i]? = some (some d) → Γ[j]? = some (some d') → σ[i]? = some (some (.ref a)) → σ[j]? = some (some (.ref a)) → i = j
  bU : ∀ a, B a → G.U a
theorem EnvOk.to {O : List Nat} {B : Addr → Prop} {G G' : Wd} {σ : St} {Γ : Env} (e : EnvOk O B G σ Γ) (t : G.To G') : EnvOk O B G' σ Γ where
  len := e.len
  val := fun i d h1 h2 => let ⟨v, q1, q2⟩ := e.val i d h1 h2; ⟨v, q1, q2.le t.le⟩
  own := fun i d h1 h2 => let ⟨xs, a, vs, q1, q2, q3, q4, q5, q6, q7⟩ := e.own i d h1 h2; ⟨xs, a, vs, q1, q2, by rw [t.U]; exact q3, q4, (t.ow a q3).trans q5, q6, Reps.le t.le _ q7⟩
  sep := e.sep
  bU := fun a h => by
    rw [t.U]
    exact e.bU a h
/-- a value that is only looked at -/
def BRep (G : Wd) (d : D) (v : V) : Prop := Rep G d v ∨ ∃ xs a vs, d = .lst xs ∧ v = .ref a ∧ G.U a ∧ G.H a = some (.lst vs) ∧ vs.length ≤ sizeLine ∧ Reps G xs vs
theorem BRep.to {G G' : Wd} (t : G.To G') {d : D} {v : V} (h : BRep G d v) : BRep G' d v := by
  rcases h with h | ⟨xs, a, vs, q1, q2, q3, q5, q6, q7⟩
  · exact .inl (h.le t.le)
  · exact .inr ⟨xs, a, vs, q1, q2, by rw [t.U]; exact q3, (t.ow a q3).trans q5, q6, Reps.le t.le _ q7⟩

structure Here (S : Sx) (O : List Nat) (B : Addr → Prop) (G : Wd) (h : PH) (σ : St) (Γ : Env) : Prop where
  K : G.K = S.K
  cl : G.cl = S.cl
  ok : G.Ok h
  env : EnvOk O B G σ Γ
theorem Here.to {S : Sx} {O : List Nat} {B : Addr → Prop} {G G' : Wd} {h h' : PH} {σ : St} {Γ : Env} (w : Here S O B G h σ Γ) (t : G.To G') (k : G'.Ok h') : Here S O B G' h' σ Γ :=
  ⟨t.le.K.trans w.K, t.le.cl.trans w.cl, k, w.env.to t⟩

/-! ### the judgements -/
def SE (S : Sx) (O : List Nat) (t : TE) (m : EM) : Prop := ∀ (B : Addr → Prop) (G : Wd) (h : PH) (σ : St) (Γ : Env) (Q : VK), Here S O B G h σ Γ → Pst S G (m Γ h) (fun d _ G' => ∀ v, Rep G' d v → Q v G'.H) → t σ G.H Q
def SB (S : Sx) (O : List Nat) (t : TE) (m : EM) : Prop := ∀ (B : Addr → Prop) (G : Wd) (h : PH) (σ : St) (Γ : Env) (Q : VK), Here S O B G h σ Γ → Pst S G (m Γ h) (fun d _ G' => ∀ v, BRep G' d v → Q v G'.H) → t σ G.H Q
def ST (S : Sx) (O : List Nat) (t : TT) (m : TM) : Prop := ∀ (B : Addr → Prop) (G : Wd) (h : PH) (σ : St) (Γ : Env) (Q : Bool → Hp → Prop), Here S O B G h σ Γ → Pst S G (m Γ h) (fun b _ G' => Q b G'.H) → t σ G.H Q
def SA (S : Sx) (O : List Nat) (t : TA) (m : LM) : Prop := ∀ (B : Addr → Prop) (G : Wd) (h : PH) (σ : St) (Γ : Env) (Q : List V → Hp → Prop), Here S O B G h σ Γ → Pst S G (m Γ h) (fun ds _ G' => ∀ vs, Reps G' ds vs → Q vs G'.H) → t σ G.H Q
/-- a list just made: one place holds it -/
def SF (S : Sx) (O : List Nat) (t : TE) (m : LM) : Prop := ∀ (B : Addr → Prop) (G : Wd) (h : PH) (σ : St) (Γ : Env) (Q : VK), Here S O B G h σ Γ →
  Pst S G (m Γ h) (fun ds h' G' => ∀ p vs, G'.H p = none → vs.length ≤ sizeLine → Reps G' ds vs → Q (.ref p) (upd G'.H p (.lst vs))) → t σ G.H Q

structure RE (S : Sx) (O : List Nat) (e : Expr) (m : EM) : Prop where
  ex : ∃ t, (∀ X, InX S X → PE X e t) ∧ SE S O t m
structure RB (S : Sx) (O : List Nat) (e : Expr) (m : EM) : Prop where
  ex : ∃ t, (∀ X, InX S X → PE X e t) ∧ SB S O t m
structure RT (S : Sx) (O : List Nat) (e : Expr) (m : TM) : Prop where
  ex : ∃ t, (∀ X, InX S X → PT X e t) ∧ ST S O t m
structure RW (S : Sx) (O : List Nat) (e : Expr) (m : TM) : Prop where
  ex : ∃ t, (∀ X, InX S X → PW X e t) ∧ ST S O t m
/-- several, from the left -/
def seqA : List EM → LM
  | [] => fun _ => pur []
  | m :: ms => fun Γ => bnd (m Γ) fun x => bnd (seqA ms Γ) fun xs => pur (x :: xs)
theorem seqA_len : ∀ {ms : List EM} {Γ : Env} {h h' : PH} {ds : List D}, seqA ms Γ h = .ok ds h' → ds.length = ms.length
  | [], Γ, h, h', ds, e => by
    unfold seqA pur at e
    cases e
    rfl
  | m :: ms, Γ, h, h', ds, e => by
    unfold seqA at e
    unfold bnd at e
    cases e1 : m Γ h with
    | ok x h1 =>
      rw [e1] at e
      have e : bnd (seqA ms Γ) (fun xs => pur (x :: xs)) h1 = .ok ds h' := e
      unfold bnd at e
      cases e2 : seqA ms Γ h1 with
      | ok xs h2 =>
        rw [e2] at e
        cases e
        rw [List.length_cons, List.length_cons, seqA_len e2]
      | ex c xs h2 =>
        rw [e2] at e
        cases e
      | bad =>
        rw [e2] at e
        cases e
    | ex c xs h2 =>
      rw [e1] at e
      cases e
    | bad =>
      rw [e1] at e
      cases e
structure RA (S : Sx) (O : List Nat) (es : List Expr) (ms : List EM) : Prop where
  ex : ∃ t, (∀ X, InX S X → PA X es t) ∧ SA S O t (seqA ms)
structure RF (S : Sx) (O : List Nat) (e : Expr) (m : LM) : Prop where
  ex : ∃ t, (∀ X, InX S X → PE X e t) ∧ SF S O t m

variable {S : Sx} {O : List Nat}
theorem RB.of {e : Expr} {m : EM} (r : RE S O e m) : RB S O e m := by
  obtain ⟨t, h1, h2⟩ := r.ex
  exact ⟨t, h1, fun B G h σ Γ Q w p => h2 B G h σ Γ Q w (p.mono fun d h' G' _ _ z v q => z v (.inl q))⟩

/-! ### names and constants -/
def gV (i : Nat) : EM := fun Γ h => match Γ[i]? with
  | some (some d) => .ok d h
  | _ => .bad
def gC (d : D) : EM := fun _ h => .ok d h
theorem sb_var {i : Nat} : SB S O (tVar i) (gV i) := by
  intro B G h σ Γ Q w p
  unfold gV at p
  cases e : Γ[i]? with
  | none =>
    rw [e] at p
    exact p.elim
  | some o =>
    cases o with
    | none =>
      rw [e] at p
      exact p.elim
    | some d =>
      rw [e] at p
      by_cases hi : i ∈ O
      · obtain ⟨xs, a, vs, q1, q2, q3, q4, q5, q6, q7⟩ := w.env.own i d e hi
        exact ⟨_, q2, p G (.refl G) w.ok _ (.inr ⟨xs, a, vs, q1, rfl, q3, q5, q6, q7⟩)⟩
      · obtain ⟨v, q1, q2⟩ := w.env.val i d e hi
        exact ⟨v, q1, p G (.refl G) w.ok v (.inl q2)⟩
theorem se_var {i : Nat} (hi : i ∉ O) : SE S O (tVar i) (gV i) := by
  intro B G h σ Γ Q w p
  unfold gV at p
  cases e : Γ[i]? with
  | none =>
    rw [e] at p
    exact p.elim
  | some o =>
    cases o with
    | none =>
      rw [e] at p
      exact p.elim
    | some d =>
      rw [e] at p
      obtain ⟨v, q1, q2⟩ := w.env.val i d e hi
      exact ⟨v, q1, p G (.refl G) w.ok v q2⟩
/-- a name in the i-th place -/
structure Nm (S : Sx) (i : Nat) (x : Str) : Prop where
  n : S.N[i]? = some x
  v : Vis S.sc x
  d1 : (x == ("__debug__" : Str)) = false
  d2 : (x == ("__classdict__" : Str)) = false
theorem Nm.pe {i : Nat} {x : Str} {pos : Pos} (n : Nm S i x) : ∀ X, InX S X → PE X (.Name x pos) (tVar i) := fun X hX => pe_var (by rw [hX.N]; exact n.n) (by rw [hX.sc]; exact n.v) n.d1 n.d2
theorem rb_var {i : Nat} {x : Str} {pos : Pos} (n : Nm S i x) : RB S O (.Name x pos) (gV i) := ⟨tVar i, n.pe, sb_var⟩
theorem re_var {i : Nat} {x : Str} {pos : Pos} (n : Nm S i x) (hi : i ∉ O) : RE S O (.Name x pos) (gV i) := ⟨tVar i, n.pe, se_var hi⟩
theorem se_c {d : D} {v : V} (r : ∀ G : Wd, G.K = S.K → Rep G d v) : SE S O (tC v) (gC d) := fun B G h σ Γ Q w p => p G (.refl G) w.ok v (r G w.K)
theorem re_int {i : Int} {j pos} : RE S O (.Constant (.int i) j pos) (gC (.int i)) := ⟨_, fun X _ => pe_int, se_c fun G _ => by unfold Rep; rfl⟩
theorem re_bl {b : Bool} {j pos} : RE S O (.Constant (.bool b) j pos) (gC (.bl b)) := ⟨_, fun X _ => pe_bl, se_c fun G _ => by unfold Rep; rfl⟩
theorem re_non {j pos} : RE S O (.Constant .none j pos) (gC .non) := ⟨_, fun X _ => pe_non, se_c fun G _ => by unfold Rep; rfl⟩
theorem re_str {x : Str} {j pos} (hx : PyData.strOk x = true) : RE S O (.Constant (.str x) j pos) (gC (.str x)) := ⟨_, fun X _ => pe_str, se_c fun G _ => by unfold Rep; exact ⟨rfl, hx⟩⟩
/-- a global name in this scope -/
def Gb (S : Sx) (x : Str) : Prop := S.sc.names.lookup x = some .globalImplicit
theorem Gb.gl {x : Str} (g : Gb S x) {X : Cx} (hX : InX S X) : Gl X x := by
  show X.env.scope.names.lookup x = _
  rw [hX.sc]
  exact g
/-- a module's constant -/
structure Mc (S : Sx) (x : Str) (d : D) : Prop where
  ex : ∃ v u, S.mg x = some u ∧ RelV v u ∧ ∀ G : Wd, G.K = S.K → Rep G d v
  nd : (x == ("__debug__" : Str)) = false
theorem re_glob {x : Str} {d : D} {pos : Pos} (g : Gb S x) (c : Mc S x d) : RE S O (.Name x pos) (gC d) := by
  obtain ⟨v, u, h1, h2, h3⟩ := c.ex
  exact ⟨_, fun X hX => pe_glob (g.gl hX) (by rw [hX.mg]; exact h1) h2 c.nd, se_c h3⟩

/-! ### operators -/
def g2 (f : D → D → M D) (a b : EM) : EM := fun Γ => bnd (a Γ) fun x => bnd (b Γ) fun y => f x y
def g1 (f : D → M D) (a : EM) : EM := fun Γ => bnd (a Γ) fun x => f x
/-- by values: what r asks follows -/
def S2 (S : Sx) (r : R2) (f : D → D → M D) : Prop := ∀ (G : Wd) (h : PH) (x y : V) (dx dy : D) (Q : VK), G.K = S.K → G.cl = S.cl → G.Ok h → BRep G dx x → BRep G dy y →
  Pst S G (f dx dy h) (fun d _ G' => ∀ v, Rep G' d v → Q v G'.H) → r x y G.H Q
theorem se_2 {r : R2} {f : D → D → M D} {ta tb : TE} {ma mb : EM} (hr : S2 S r f) (ha : SB S O ta ma) (hb : SB S O tb mb) : SE S O (tOp r ta tb) (g2 f ma mb) := by
  intro B G h σ Γ Q w p
  refine ha B G h σ Γ _ w (p.bnd.mono fun dx h1 G1 t1 k1 p1 x rx => ?_)
  refine hb B G1 h1 σ Γ _ (w.to t1 k1) (p1.bnd.mono fun dy h2 G2 t2 k2 p2 y ry => ?_)
  exact hr G2 h2 x y dx dy Q ((w.to t1 k1).to t2 k2).K ((w.to t1 k1).to t2 k2).cl k2 (rx.to t2) ry p2
structure Op2 (S : Sx) (o : Value → Value → Sem Value) (f : D → D → M D) : Prop where
  ex : ∃ r : R2, (∀ X, InX S X → OpR X o r) ∧ S2 S r f
theorem re_bin {a b : Expr} {op : Operator} {pos : Pos} {f : D → D → M D} {ma mb : EM} (o : Op2 S (binaryOp op) f) (ha : RB S O a ma) (hb : RB S O b mb) : RE S O (.BinOp a op b pos) (g2 f ma mb) := by
  obtain ⟨r, o1, o2⟩ := o.ex
  obtain ⟨ta, a1, a2⟩ := ha.ex
  obtain ⟨tb, b1, b2⟩ := hb.ex
  exact ⟨_, fun X hX => pe_op (o1 X hX) (a1 X hX) (b1 X hX), se_2 o2 a2 b2⟩
theorem re_cmp {a b : Expr} {op : CmpOp} {pos : Pos} {f : D → D → M D} {ma mb : EM} (o : Op2 S (compareOp op) f) (ha : RB S O a ma) (hb : RB S O b mb) (hm : behindInMarks op b = false) : RE S O (.Compare a [op] [b] pos) (g2 f ma mb) := by
  obtain ⟨r, o1, o2⟩ := o.ex
  obtain ⟨ta, a1, a2⟩ := ha.ex
  obtain ⟨tb, b1, b2⟩ := hb.ex
  exact ⟨_, fun X hX => pe_cmpR (o1 X hX) (a1 X hX) (b1 X hX) hm, se_2 o2 a2 b2⟩
/-- a value that is True or False, as a test -/
def isB (d : D) : M Bool := fun h => match d with
  | .bl b => .ok b h
  | _ => .bad
def tB (a : EM) : TM := fun Γ => bnd (a Γ) isB
theorem Rep.bl_inv {G : Wd} {b : Bool} {v : V} (h : Rep G (.bl b) v) : v = .bl b := by
  unfold Rep at h
  exact h
theorem st_b {t : TE} {m : EM} (h : SE S O t m) : ST S O (tTest t) (tB m) := by
  intro B G h0 σ Γ Q w p
  refine h B G h0 σ Γ _ w (p.bnd.mono fun d h1 G1 t1 k1 p1 v r => ?_)
  cases d with
  | bl b => exact ⟨b, r.bl_inv, p1 G1 (.refl G1) k1⟩
  | _ => exact p1.elim
theorem rt_cmp {a b : Expr} {op : CmpOp} {pos : Pos} {f : D → D → M D} {ma mb : EM} (o : Op2 S (compareOp op) f) (ha : RB S O a ma) (hb : RB S O b mb) (hm : behindInMarks op b = false) : RT S O (.Compare a [op] [b] pos) (tB (g2 f ma mb)) := by
  obtain ⟨r, o1, o2⟩ := o.ex
  obtain ⟨ta, a1, a2⟩ := ha.ex
  obtain ⟨tb, b1, b2⟩ := hb.ex
  exact ⟨_, fun X hX => pt_cmpR (o1 X hX) (a1 X hX) (b1 X hX) hm, st_b (se_2 o2 a2 b2)⟩
/-- e is no comparison, and, or, not: its value is asked -/
theorem rt_val {e : Expr} {m : EM} (h : RE S O e m) (he : ∀ env whole, isTrue e env whole = (do let v ← whole; standAt e.pos; holding [v] (truthy v))) : RT S O e (tB m) := by
  obtain ⟨t, h1, h2⟩ := h.ex
  exact ⟨_, fun X hX => pt_val (h1 X hX) (he _), st_b h2⟩
/-- chains a < b < c -/
def gChain (f f' : D → D → M D) (a b c : EM) : EM := fun Γ => bnd (a Γ) fun x => bnd (b Γ) fun y => bnd (bnd (f x y) isB) fun k => if k = true then bnd (c Γ) fun z => f' y z else pur (.bl false)
theorem se_chain {r r' : R2} {f f' : D → D → M D} {ta tb tc : TE} {ma mb mc : EM} (hr : S2 S r f) (hr' : S2 S r' f') (ha : SB S O ta ma) (hb : SB S O tb mb) (hc : SB S O tc mc) :
    SE S O (fun σ H Q => ta σ H fun x H1 => tb σ H1 fun y H2 => r x y H2 fun z H3 => ∃ k, z = .bl k ∧ if k = true then tc σ H3 (fun u H4 => r' y u H4 Q) else Q (.bl false) H3) (gChain f f' ma mb mc) := by
  intro B G h σ Γ Q w p
  refine ha B G h σ Γ _ w (p.bnd.mono fun dx h1 G1 t1 k1 p1 x rx => ?_)
  refine hb B G1 h1 σ Γ _ (w.to t1 k1) (p1.bnd.mono fun dy h2 G2 t2 k2 p2 y ry => ?_)
  have w2 := (w.to t1 k1).to t2 k2
  refine hr G2 h2 x y dx dy _ w2.K w2.cl k2 (rx.to t2) ry (p2.bnd.bnd.mono fun d h3 G3 t3 k3 p3 v rv => ?_)
  cases d with
  | bl b =>
    refine ⟨b, rv.bl_inv, ?_⟩
    have p3' : Pst S G3 ((if b = true then bnd (mc Γ) fun z => f' dy z else pur (.bl false)) h3) _ := p3 G3 (.refl G3) k3
    cases b with
    | true =>
      rw [if_pos rfl] at p3' ⊢
      have w3 := w2.to t3 k3
      refine hc B G3 h3 σ Γ _ w3 (p3'.bnd.mono fun dz h4 G4 t4 k4 p4 z rz => ?_)
      exact hr' G4 h4 y z dy dz Q (w3.to t4 k4).K (w3.to t4 k4).cl k4 ((ry.to t3).to t4) rz p4
    | false =>
      rw [if_neg Bool.false_ne_true] at p3' ⊢
      exact p3'.pur k3 (.bl false) (by unfold Rep; rfl)
  | _ => exact p3.elim
end Sw

set_option maxHeartbeats 4000000
/-! Sw, part C: tests, arguments, displays, operators by values. -/
namespace Sw
open PySem PySem.Spec L2
variable {S : Sx} {O : List Nat}

/-! ### inversions -/
section
variable {G : Wd} {v : V}
theorem Rep.int_inv {i : Int} (h : Rep G (.int i) v) : v = .int i := by
  unfold Rep at h
  exact h
theorem Rep.non_inv (h : Rep G .non v) : v = .non := by
  unfold Rep at h
  exact h
theorem Rep.str_inv {s : Str} (h : Rep G (.str s) v) : v = .str s ∧ PyData.strOk s = true := by
  unfold Rep at h
  exact h
theorem Rep.tup_inv {xs : List D} (h : Rep G (.tup xs) v) : ∃ a vs, v = .ref a ∧ AtT G a vs ∧ Reps G xs vs := by
  unfold Rep at h
  exact h
theorem Rep.lst_inv {xs : List D} (h : Rep G (.lst xs) v) : ∃ a vs, v = .ref a ∧ AtL G a vs ∧ Reps G xs vs := by
  unfold Rep at h
  exact h
theorem Rep.ref_inv {n : Nat} (h : Rep G (.ref n) v) : ∃ a, G.ρ[n]? = some a ∧ v = .ref a := by
  unfold Rep at h
  exact h
theorem Rep.of_int {i : Int} : Rep G (.int i) (.int i) := by
  unfold Rep
  rfl
theorem Rep.of_bl {b : Bool} : Rep G (.bl b) (.bl b) := by
  unfold Rep
  rfl
theorem Rep.of_non : Rep G .non .non := by
  unfold Rep
  rfl
theorem BRep.int_inv {i : Int} (h : BRep G (.int i) v) : v = .int i := by
  rcases h with h | ⟨_, _, _, e, _⟩
  · exact h.int_inv
  · cases e
theorem BRep.bl_inv {i : Bool} (h : BRep G (.bl i) v) : v = .bl i := by
  rcases h with h | ⟨_, _, _, e, _⟩
  · exact h.bl_inv
  · cases e
theorem BRep.non_inv (h : BRep G .non v) : v = .non := by
  rcases h with h | ⟨_, _, _, e, _⟩
  · exact h.non_inv
  · cases e
theorem BRep.str_inv {s : Str} (h : BRep G (.str s) v) : v = .str s ∧ PyData.strOk s = true := by
  rcases h with h | ⟨_, _, _, e, _⟩
  · exact h.str_inv
  · cases e
theorem BRep.tup_inv {xs : List D} (h : BRep G (.tup xs) v) : ∃ a vs, v = .ref a ∧ AtT G a vs ∧ Reps G xs vs := by
  rcases h with h | ⟨_, _, _, e, _⟩
  · exact h.tup_inv
  · cases e
theorem BRep.ref_inv {n : Nat} (h : BRep G (.ref n) v) : ∃ a, G.ρ[n]? = some a ∧ v = .ref a := by
  rcases h with h | ⟨_, _, _, e, _⟩
  · exact h.ref_inv
  · cases e
theorem AtT.seq {a : Addr} {vs : List V} (h : AtT G a vs) : SqT G.K G.H a vs := by
  rcases h with ⟨h, _⟩ | h
  · exact .inl (.inl h)
  · exact .inr h
theorem AtL.seq {a : Addr} {vs : List V} (h : AtL G a vs) : SqL G.K G.H a vs := .inl (.inl h.1)
theorem AtR.seq {a : Addr} {vs : List V} (h : AtR G a vs) : SqL G.K G.H a vs := by
  rcases h with ⟨h | ⟨o, h⟩, _⟩ | h
  · exact .inl (.inl h)
  · exact .inl (.inr ⟨o, h⟩)
  · exact .inr h
theorem KL.len {K : PySem.W.Frag} {a : Addr} {vs : List V} (h : KL K a vs) : vs.length ≤ sizeLine := by
  obtain ⟨o, its, n, _, _, _, _, h1, h2⟩ := h
  have := h2.length
  simp only [Array.length_toList] at this
  omega
theorem AtR.len {a : Addr} {vs : List V} (h : AtR G a vs) : vs.length ≤ sizeLine := by
  rcases h with ⟨_, _, _, h⟩ | h
  · exact h
  · exact h.len
theorem Rep.rd_inv {ns : List Int} (h : Rep G (.rd ns) v) : ∃ a, v = .ref a ∧ AtR G a (ns.map V.int) := by
  unfold Rep at h
  exact h
theorem BRep.rd_inv {ns : List Int} (h : BRep G (.rd ns) v) : ∃ a, v = .ref a ∧ AtR G a (ns.map V.int) := by
  rcases h with h | ⟨_, _, _, e, _⟩
  · exact h.rd_inv
  · cases e
theorem Reps.ints : ∀ ns : List Int, Reps G (ns.map D.int) (ns.map V.int)
  | [] => .nil
  | n :: ns => .cons .of_int (Reps.ints ns)
theorem KT.len {K : PySem.W.Frag} {a : Addr} {vs : List V} (h : KT K a vs) : vs.length ≤ sizeLine := by
  obtain ⟨o, its, n, _, _, _, h1, h2⟩ := h
  have := h2.length
  simp only [Array.length_toList] at this
  omega
theorem AtT.len {a : Addr} {vs : List V} (h : AtT G a vs) : vs.length ≤ sizeLine := by
  rcases h with ⟨_, _, _, h⟩ | h
  · exact h
  · exact h.len
end

/-! ### what may be walked, indexed, counted: a tuple, a list -/
def seqD (h : PH) : D → Option (List D)
  | .tup xs => some xs
  | .lst xs => some xs
  | .rd ns => some (ns.map D.int)
  | .ref n => match h[n]? with
    | some (.lst xs) => some xs
    | _ => none
  | _ => none
theorem seq_at {G : Wd} {h : PH} {d : D} {v : V} {xs : List D} (k : G.Ok h) (r : BRep G d v) (e : seqD h d = some xs) : ∃ a vs, v = .ref a ∧ (SqL G.K G.H a vs ∨ SqT G.K G.H a vs) ∧ vs.length ≤ sizeLine ∧ Reps G xs vs := by
  cases d with
  | tup ys =>
    cases e
    obtain ⟨a, vs, rfl, h1, h2⟩ := r.tup_inv
    exact ⟨a, vs, rfl, .inr h1.seq, h1.len, h2⟩
  | lst ys =>
    cases e
    rcases r with r | ⟨zs, a, vs, e, rfl, h1, h2, h3, h4⟩
    · obtain ⟨a, vs, rfl, h1, h2⟩ := r.lst_inv
      exact ⟨a, vs, rfl, .inl h1.seq, h1.2.2.2, h2⟩
    · cases e
      exact ⟨a, vs, rfl, .inl (SqL.of h2), h3, h4⟩
  | rd ns =>
    cases e
    obtain ⟨a, rfl, h1⟩ := r.rd_inv
    exact ⟨a, _, rfl, .inl h1.seq, h1.len, .ints ns⟩
  | ref n =>
    obtain ⟨a, h1, rfl⟩ := r.ref_inv
    obtain ⟨o, h2, h3⟩ := k.at h1
    have e : (match h[n]? with
      | some (.lst xs) => some xs
      | _ => none) = some xs := e
    rw [h2] at e
    cases o with
    | lst ys =>
      cases e
      obtain ⟨vs, q1, q2, q3⟩ := h3
      exact ⟨a, vs, rfl, .inl (SqL.of q1), q2, q3⟩
    | _ => cases e
  | _ => cases e

/-! ### data for == -/
mutual
def dat (rf : Nat → Option PyData) : D → Option PyData
  | .non => some .none
  | .bl b => some (.bool b)
  | .int i => some (.int i)
  | .str s => some (.str s)
  | .tup xs => (datL rf xs).map PyData.tuple
  | .lst xs => (datL rf xs).map PyData.list
  | .ref n => rf n
  | .rd _ => none
  | .clo _ _ => none
def datL (rf : Nat → Option PyData) : List D → Option (List PyData)
  | [] => some []
  | x :: xs => (dat rf x).bind fun a => (datL rf xs).map fun b => a :: b
end
def rfS (h : PH) (rf : Nat → Option PyData) (n : Nat) : Option PyData := match h[n]? with
  | some (.lst xs) => (datL rf xs).map PyData.list
  | _ => none
def rfH (h : PH) : Nat → Option PyData := rfS h (rfS h (rfS h fun _ => none))
def RfOk (G : Wd) (rf : Nat → Option PyData) : Prop := ∀ (n : Nat) a p, G.ρ[n]? = some a → rf n = some p → Dp G.K G.H (.ref a) p ∧ p.canLay0 = true
mutual
theorem dat_ok {G : Wd} {rf : Nat → Option PyData} (f : RfOk G rf) : ∀ (d : D) {v : V} {p : PyData}, Rep G d v → dat rf d = some p → Dp G.K G.H v p ∧ p.canLay0 = true
  | .non, v, p, r, e => by
    unfold dat at e
    cases e
    rw [r.non_inv]
    exact ⟨.non, by unfold PyData.canLay0; rfl⟩
  | .bl b, v, p, r, e => by
    unfold dat at e
    cases e
    rw [r.bl_inv]
    exact ⟨.bl b, by unfold PyData.canLay0; rfl⟩
  | .int i, v, p, r, e => by
    unfold dat at e
    cases e
    rw [r.int_inv]
    exact ⟨.int i, by unfold PyData.canLay0; rfl⟩
  | .str s, v, p, r, e => by
    unfold dat at e
    cases e
    rw [r.str_inv.1]
    exact ⟨.str s, by unfold PyData.canLay0; exact r.str_inv.2⟩
  | .tup xs, v, p, r, e => by
    unfold dat at e
    obtain ⟨ps, e1, e2⟩ := Option.map_eq_some_iff.mp e
    obtain ⟨a, vs, rfl, h1, h2⟩ := r.tup_inv
    obtain ⟨q1, q2⟩ := datL_ok f xs h2 e1
    rw [← e2]
    exact ⟨.tup h1.seq q1, by unfold PyData.canLay0; exact q2⟩
  | .lst xs, v, p, r, e => by
    unfold dat at e
    obtain ⟨ps, e1, e2⟩ := Option.map_eq_some_iff.mp e
    obtain ⟨a, vs, rfl, h1, h2⟩ := r.lst_inv
    obtain ⟨q1, q2⟩ := datL_ok f xs h2 e1
    rw [← e2]
    exact ⟨.lst h1.seq q1, by unfold PyData.canLay0; exact q2⟩
  | .ref n, v, p, r, e => by
    unfold dat at e
    obtain ⟨a, h1, rfl⟩ := r.ref_inv
    exact f n a p h1 e
  | .rd _, v, p, r, e => by
    unfold dat at e
    cases e
  | .clo _ _, v, p, r, e => by
    unfold dat at e
    cases e
theorem datL_ok {G : Wd} {rf : Nat → Option PyData} (f : RfOk G rf) : ∀ (xs : List D) {vs : List V} {ps : List PyData}, Reps G xs vs → datL rf xs = some ps → DpAll G.K G.H vs ps ∧ PyData.canLayAll0 ps = true
  | [], vs, ps, r, e => by
    unfold datL at e
    cases e
    rw [r.nil_inv]
    exact ⟨.nil, by unfold PyData.canLayAll0; rfl⟩
  | x :: xs, vs, ps, r, e => by
    unfold datL at e
    obtain ⟨p, e1, e2⟩ := Option.bind_eq_some_iff.mp e
    obtain ⟨qs, e3, e4⟩ := Option.map_eq_some_iff.mp e2
    obtain ⟨v, r', rfl, h1, h2⟩ := r.cons_inv
    obtain ⟨a1, a2⟩ := dat_ok f x h1 e1
    obtain ⟨b1, b2⟩ := datL_ok f xs h2 e3
    rw [← e4]
    refine ⟨.cons a1 b1, ?_⟩
    unfold PyData.canLayAll0
    rw [a2, b2]
    all_goals rfl
end
theorem rfS_ok {G : Wd} {h : PH} (k : G.Ok h) {rf : Nat → Option PyData} (f : RfOk G rf) : RfOk G (rfS h rf) := fun n a p h1 e => by
  obtain ⟨o, h2, h3⟩ := k.at h1
  unfold rfS at e
  rw [h2] at e
  cases o with
  | lst xs =>
    obtain ⟨ps, e1, e2⟩ := Option.map_eq_some_iff.mp e
    obtain ⟨vs, q1, q2, q3⟩ := h3
    obtain ⟨b1, b2⟩ := datL_ok f xs q3 e1
    rw [← e2]
    exact ⟨.lst (SqL.of q1) b1, by unfold PyData.canLay0; exact b2⟩
  | _ => cases e
theorem rfH_ok {G : Wd} {h : PH} (k : G.Ok h) : RfOk G (rfH h) := rfS_ok k (rfS_ok k (rfS_ok k fun _ _ _ _ e => by cases e))
theorem bdat_ok {G : Wd} {h : PH} (k : G.Ok h) {d : D} {v : V} {p : PyData} (r : BRep G d v) (e : dat (rfH h) d = some p) : Dp G.K G.H v p ∧ p.canLay0 = true := by
  rcases r with r | ⟨xs, a, vs, rfl, rfl, h1, h2, h3, h4⟩
  · exact dat_ok (rfH_ok k) d r e
  · unfold dat at e
    obtain ⟨ps, e1, e2⟩ := Option.map_eq_some_iff.mp e
    obtain ⟨q1, q2⟩ := datL_ok (rfH_ok k) xs h4 e1
    rw [← e2]
    exact ⟨.lst (SqL.of h2) q1, by unfold PyData.canLay0; exact q2⟩

def dEq : D → D → M D := fun a b h => match dat (rfH h) a, dat (rfH h) b with
  | some p, some q => if min p.depth q.depth ≤ 64 then .ok (.bl (PyData.eqv p q)) h else .bad
  | _, _ => .bad
def dNe : D → D → M D := fun a b h => match dat (rfH h) a, dat (rfH h) b with
  | some p, some q => if min p.depth q.depth ≤ 64 then .ok (.bl (!PyData.eqv p q)) h else .bad
  | _, _ => .bad
def rEqM (K : PySem.W.Frag) (f : Bool → Bool) : R2 := fun x y H Q => ∃ d e, Dp K H x d ∧ Dp K H y e ∧ d.canLay0 = true ∧ e.canLay0 = true ∧ min d.depth e.depth ≤ 64 ∧ Q (.bl (f (PyData.eqv d e))) H
theorem or_eqM {X : Cx} {k : Nat} (hr : Room k X.A) : OpR X (compareOp .Eq) (rEqM X.K id) := by
  intro pins s σ H x y v u Q I rx ry h
  obtain ⟨d, e, hd, he, sd, se, hm, q⟩ := h
  obtain ⟨as, r1⟩ := Dp.reads I d x v hd rx
  obtain ⟨bs, r2⟩ := Dp.reads I e y u he ry
  have := hr.units
  exact SeqAt.compareEq_reads r1 r2 sd se (by omega) ⟨.bl _, H, I, rfl, q⟩
theorem or_neM {X : Cx} {k : Nat} (hr : Room k X.A) : OpR X (compareOp .NotEq) (rEqM X.K not) := by
  intro pins s σ H x y v u Q I rx ry h
  obtain ⟨d, e, hd, he, sd, se, hm, q⟩ := h
  obtain ⟨as, r1⟩ := Dp.reads I d x v hd rx
  obtain ⟨bs, r2⟩ := Dp.reads I e y u he ry
  have := hr.units
  exact SeqAt.compareNe_reads r1 r2 sd se (by omega) ⟨.bl _, H, I, rfl, q⟩
theorem o_eq : Op2 S (compareOp .Eq) dEq := by
  refine ⟨rEqM S.K id, fun X hX => by rw [← hX.K]; exact or_eqM hX.room, fun G h x y dx dy Q gK gc k rx ry p => ?_⟩
  unfold dEq at p
  cases e1 : dat (rfH h) dx with
  | none =>
    rw [e1] at p
    exact p.elim
  | some a =>
    cases e2 : dat (rfH h) dy with
    | none =>
      rw [e1, e2] at p
      exact p.elim
    | some b =>
      rw [e1, e2] at p
      by_cases hd : min a.depth b.depth ≤ 64
      · simp only [if_pos hd] at p
        obtain ⟨a1, a2⟩ := bdat_ok k rx e1
        obtain ⟨b1, b2⟩ := bdat_ok k ry e2
        rw [← gK]
        exact ⟨a, b, a1, b1, a2, b2, hd, p G (.refl G) k _ .of_bl⟩
      · simp only [if_neg hd] at p
        exact p.elim
theorem o_ne : Op2 S (compareOp .NotEq) dNe := by
  refine ⟨rEqM S.K not, fun X hX => by rw [← hX.K]; exact or_neM hX.room, fun G h x y dx dy Q gK gc k rx ry p => ?_⟩
  unfold dNe at p
  cases e1 : dat (rfH h) dx with
  | none =>
    rw [e1] at p
    exact p.elim
  | some a =>
    cases e2 : dat (rfH h) dy with
    | none =>
      rw [e1, e2] at p
      exact p.elim
    | some b =>
      rw [e1, e2] at p
      by_cases hd : min a.depth b.depth ≤ 64
      · simp only [if_pos hd] at p
        obtain ⟨a1, a2⟩ := bdat_ok k rx e1
        obtain ⟨b1, b2⟩ := bdat_ok k ry e2
        rw [← gK]
        exact ⟨a, b, a1, b1, a2, b2, hd, p G (.refl G) k _ .of_bl⟩
      · simp only [if_neg hd] at p
        exact p.elim

/-! ### whole numbers -/
def i2 (g : Int → Int → D) : D → D → M D := fun a b h => match a, b with
  | .int i, .int j => .ok (g i j) h
  | _, _ => .bad
def i2c (c : Int → Int → Bool) (g : Int → Int → D) : D → D → M D := fun a b h => match a, b with
  | .int i, .int j => if c i j = true then .ok (g i j) h else .bad
  | _, _ => .bad
theorem s_i2 {gv : Int → Int → V} {g : Int → Int → D} (e : ∀ G i j, Rep G (g i j) (gv i j)) : S2 S (rI0 gv) (i2 g) := by
  intro G h x y dx dy Q gK gc k rx ry p
  cases dx with
  | int i =>
    cases dy with
    | int j => exact ⟨i, j, rx.int_inv, ry.int_inv, p G (.refl G) k _ (e G i j)⟩
    | _ => exact p.elim
  | _ => exact p.elim
theorem s_i2c {C : Int → Int → Prop} {c : Int → Int → Bool} {gv : Int → Int → V} {g : Int → Int → D} (hc : ∀ i j, c i j = true → C i j) (e : ∀ G i j, Rep G (g i j) (gv i j)) : S2 S (rI C gv) (i2c c g) := by
  intro G h x y dx dy Q gK gc k rx ry p
  cases dx with
  | int i =>
    cases dy with
    | int j =>
      have p : Pst S G (if c i j = true then R.ok (g i j) h else .bad) _ := p
      by_cases q : c i j = true
      · rw [if_pos q] at p
        exact ⟨i, j, rx.int_inv, ry.int_inv, hc i j q, p G (.refl G) k _ (e G i j)⟩
      · rw [if_neg q] at p
        exact p.elim
    | _ => exact p.elim
  | _ => exact p.elim
def dSub := i2 fun i j => .int (i - j)
def dMod := i2c (fun _ j => decide (0 < j)) fun i j => .int (i % j)
def dDiv := i2c (fun _ j => decide (0 < j ∧ j < 1073741824)) fun i j => .int (i / j)
def dPow := i2c (fun i j => decide (0 ≤ j ∧ j ≤ 1000000 ∧ i.natAbs < 2 ^ 64)) fun i j => .int (i ^ j.toNat)
def dLt := i2 fun i j => .bl (decide (i < j))
def dLe := i2 fun i j => .bl (decide (i ≤ j))
def dGt := i2 fun i j => .bl (decide (j < i))
def dGe := i2 fun i j => .bl (decide (j ≤ i))
theorem o_sub : Op2 S (binaryOp .Sub) dSub := ⟨_, fun X _ => op_sub, s_i2 fun _ _ _ => .of_int⟩
theorem o_mod : Op2 S (binaryOp .Mod) dMod := ⟨_, fun X _ => op_mod, s_i2c (fun i j h => of_decide_eq_true h) fun _ _ _ => .of_int⟩
theorem o_div : Op2 S (binaryOp .FloorDiv) dDiv := ⟨_, fun X _ => op_fdiv, s_i2c (C := CDiv) (fun i j h => (of_decide_eq_true h : 0 < j ∧ j < 1073741824)) fun _ _ _ => .of_int⟩
theorem o_pow : Op2 S (binaryOp .Pow) dPow := ⟨_, fun X _ => op_pow, s_i2c (C := CPow) (fun i j h => (of_decide_eq_true h : 0 ≤ j ∧ j ≤ 1000000 ∧ i.natAbs < 2 ^ 64)) fun _ _ _ => .of_int⟩
theorem o_lt : Op2 S (compareOp .Lt) dLt := ⟨_, fun X _ => op_lt, s_i2 fun _ _ _ => .of_bl⟩
theorem o_le : Op2 S (compareOp .LtE) dLe := ⟨_, fun X _ => op_le, s_i2 fun _ _ _ => .of_bl⟩
theorem o_gt : Op2 S (compareOp .Gt) dGt := ⟨_, fun X _ => op_gt, s_i2 fun _ _ _ => .of_bl⟩
theorem o_ge : Op2 S (compareOp .GtE) dGe := ⟨_, fun X _ => op_ge, s_i2 fun _ _ _ => .of_bl⟩
/-- is None -/
def dIsN : D → D → M D := fun a b h => match b, a with
  | .non, .non => .ok (.bl true) h
  | .non, _ => .ok (.bl false) h
  | _, _ => .bad
def dIsNot : D → D → M D := fun a b h => match b, a with
  | .non, .non => .ok (.bl false) h
  | .non, _ => .ok (.bl true) h
  | _, _ => .bad
def isNonD : D → Bool
  | .non => true
  | _ => false
theorem BRep.non_iff {G : Wd} {d : D} {v : V} (h : BRep G d v) : decide (v = .non) = isNonD d := by
  cases d with
  | non => rw [h.non_inv]; simp [isNonD]
  | bl b => rw [h.bl_inv]; simp [isNonD]
  | int b => rw [h.int_inv]; simp [isNonD]
  | str b => rw [h.str_inv.1]; simp [isNonD]
  | tup b =>
    obtain ⟨a, vs, rfl, _⟩ := h.tup_inv
    simp [isNonD]
  | lst b =>
    rcases h with h | ⟨xs, a, vs, e, rfl, _⟩
    · obtain ⟨a, vs, rfl, _⟩ := h.lst_inv
      simp [isNonD]
    · simp [isNonD]
  | ref b =>
    obtain ⟨a, _, rfl⟩ := h.ref_inv
    simp [isNonD]
  | rd b =>
    obtain ⟨a, rfl, _⟩ := h.rd_inv
    simp [isNonD]
  | clo _ _ =>
    rcases h with h | ⟨_, _, _, e, _⟩
    · unfold Rep at h
      exact h.elim
    · cases e
theorem o_isN : Op2 S (compareOp .Is) dIsN := by
  refine ⟨_, fun X _ => op_isN, fun G h x y dx dy Q gK gc k rx ry p => ?_⟩
  cases dy with
  | non =>
    refine ⟨ry.non_inv, ?_⟩
    rw [rx.non_iff]
    cases dx <;> exact p G (.refl G) k _ .of_bl
  | _ => exact p.elim
theorem o_isNot : Op2 S (compareOp .IsNot) dIsNot := by
  refine ⟨_, fun X _ => op_notN, fun G h x y dx dy Q gK gc k rx ry p => ?_⟩
  cases dy with
  | non =>
    refine ⟨ry.non_inv, ?_⟩
    rw [rx.non_iff]
    cases dx <;> exact p G (.refl G) k _ .of_bl
  | _ => exact p.elim

/-! ### chains -/
theorem re_chain {a b c : Expr} {op op' : CmpOp} {pos : Pos} {f f' : D → D → M D} {ma mb mc : EM} (o : Op2 S (compareOp op) f) (o' : Op2 S (compareOp op') f') (ha : RB S O a ma) (hb : RB S O b mb) (hc : RB S O c mc)
    (hm : lastMarks [op, op'] [b, c] = false) : RE S O (.Compare a [op, op'] [b, c] pos) (gChain f f' ma mb mc) := by
  obtain ⟨r, o1, o2⟩ := o.ex
  obtain ⟨r', p1, p2⟩ := o'.ex
  obtain ⟨ta, a1, a2⟩ := ha.ex
  obtain ⟨tb, b1, b2⟩ := hb.ex
  obtain ⟨tc, c1, c2⟩ := hc.ex
  exact ⟨_, fun X hX => pe_chain (o1 X hX) (p1 X hX) (a1 X hX) (b1 X hX) (c1 X hX) hm, se_chain o2 p2 a2 b2 c2⟩
theorem rt_chain {a b c : Expr} {op op' : CmpOp} {pos : Pos} {f f' : D → D → M D} {ma mb mc : EM} (o : Op2 S (compareOp op) f) (o' : Op2 S (compareOp op') f') (ha : RB S O a ma) (hb : RB S O b mb) (hc : RB S O c mc)
    (hm : lastMarks [op, op'] [b, c] = false) : RT S O (.Compare a [op, op'] [b, c] pos) (tB (gChain f f' ma mb mc)) := by
  obtain ⟨r, o1, o2⟩ := o.ex
  obtain ⟨r', p1, p2⟩ := o'.ex
  obtain ⟨ta, a1, a2⟩ := ha.ex
  obtain ⟨tb, b1, b2⟩ := hb.ex
  obtain ⟨tc, c1, c2⟩ := hc.ex
  exact ⟨_, fun X hX => pt_chain (o1 X hX) (p1 X hX) (a1 X hX) (b1 X hX) (c1 X hX) hm, st_b (se_chain o2 p2 a2 b2 c2)⟩

/-! ### and, or, not, if else -/
def tNt (a : TM) : TM := fun Γ => bnd (a Γ) fun b => pur (!b)
def tAn (a b : TM) : TM := fun Γ => bnd (a Γ) fun k => if k = true then b Γ else pur false
def tOrr (a b : TM) : TM := fun Γ => bnd (a Γ) fun k => if k = true then pur true else b Γ
def gOfT (a : TM) : EM := fun Γ => bnd (a Γ) fun b => pur (.bl b)
theorem rt_not {a : Expr} {m : TM} {pos : Pos} (h : RT S O a m) : RT S O (.UnaryOp .Not a pos) (tNt m) := by
  obtain ⟨t, h1, h2⟩ := h.ex
  refine ⟨_, fun X hX => pt_not (h1 X hX), fun B G h0 σ Γ Q w p => ?_⟩
  exact h2 B G h0 σ Γ _ w (p.bnd.mono fun b h1 G1 t1 k1 p1 => p1.pur k1)
theorem RW.rt {e : Expr} {m : TM} (h : RW S O e m) : RT S O e m := by
  obtain ⟨t, h1, h2⟩ := h.ex
  exact ⟨t, fun X hX => (h1 X hX).pt, h2⟩
theorem rw_and1 {a : Expr} {m : TM} {pos : Pos} (h : RT S O a m) : RW S O (.BoolOp .And [a] pos) m := by
  obtain ⟨t, h1, h2⟩ := h.ex
  exact ⟨t, fun X hX => pw_and1 (h1 X hX), h2⟩
theorem rw_or1 {a : Expr} {m : TM} {pos : Pos} (h : RT S O a m) : RW S O (.BoolOp .Or [a] pos) m := by
  obtain ⟨t, h1, h2⟩ := h.ex
  exact ⟨t, fun X hX => pw_or1 (h1 X hX), h2⟩
theorem rw_and {a b : Expr} {rest : List Expr} {ma mb : TM} {pos : Pos} (ha : RT S O a ma) (hb : RW S O (.BoolOp .And (b :: rest) pos) mb) : RW S O (.BoolOp .And (a :: b :: rest) pos) (tAn ma mb) := by
  obtain ⟨t, h1, h2⟩ := ha.ex
  obtain ⟨u, g1, g2⟩ := hb.ex
  refine ⟨_, fun X hX => pw_and (h1 X hX) (g1 X hX), fun B G h0 σ Γ Q w p => ?_⟩
  refine h2 B G h0 σ Γ _ w (p.bnd.mono fun b h1 G1 t1 k1 p1 => ?_)
  cases b with
  | true =>
    simp only [if_true] at p1 ⊢
    exact g2 B G1 h1 σ Γ _ (w.to t1 k1) p1
  | false =>
    simp only [Bool.false_eq_true, if_false] at p1 ⊢
    exact p1.pur k1
theorem rw_or {a b : Expr} {rest : List Expr} {ma mb : TM} {pos : Pos} (ha : RT S O a ma) (hb : RW S O (.BoolOp .Or (b :: rest) pos) mb) : RW S O (.BoolOp .Or (a :: b :: rest) pos) (tOrr ma mb) := by
  obtain ⟨t, h1, h2⟩ := ha.ex
  obtain ⟨u, g1, g2⟩ := hb.ex
  refine ⟨_, fun X hX => pw_or (h1 X hX) (g1 X hX), fun B G h0 σ Γ Q w p => ?_⟩
  refine h2 B G h0 σ Γ _ w (p.bnd.mono fun b h1 G1 t1 k1 p1 => ?_)
  cases b with
  | true =>
    simp only [if_true] at p1 ⊢
    exact p1.pur k1
  | false =>
    simp only [Bool.false_eq_true, if_false] at p1 ⊢
    exact g2 B G1 h1 σ Γ _ (w.to t1 k1) p1
/-- as values, all but the last True or False -/
def gAn (a b : EM) : EM := fun Γ => bnd (tB a Γ) fun k => if k = true then b Γ else pur (.bl false)
def gOr (a b : EM) : EM := fun Γ => bnd (tB a Γ) fun k => if k = true then pur (.bl true) else b Γ
def gNt (a : EM) : EM := fun Γ => bnd (tB a Γ) fun k => pur (.bl (!k))
theorem se_bool {t : TE} {m : EM} (h : SE S O t m) : ∀ (B : Addr → Prop) (G : Wd) (h0 : PH) (σ : St) (Γ : Env) (Q : VK), Here S O B G h0 σ Γ → Pst S G (tB m Γ h0) (fun b _ G' => Q (.bl b) G'.H) → t σ G.H Q := by
  intro B G h0 σ Γ Q w p
  refine h B G h0 σ Γ _ w (p.bnd.mono fun d h1 G1 t1 k1 p1 v r => ?_)
  cases d with
  | bl b =>
    rw [r.bl_inv]
    exact p1 G1 (.refl G1) k1
  | _ => exact p1.elim
theorem se_boolX {t : TE} {m : EM} (h : SE S O t m) {B : Addr → Prop} {G : Wd} {h0 : PH} {σ : St} {Γ : Env} {Q : Bool → Hp → Prop} (w : Here S O B G h0 σ Γ) (p : Pst S G (tB m Γ h0) (fun b _ G' => Q b G'.H)) : t σ G.H fun x H1 => ∃ c, x = .bl c ∧ Q c H1 :=
  se_bool h B G h0 σ Γ _ w (p.mono fun b h' G' _ _ z => ⟨b, rfl, z⟩)
theorem re_one {a : Expr} {op : BoolOp} {m : EM} {pos : Pos} (h : RE S O a m) : RE S O (.BoolOp op [a] pos) m := by
  obtain ⟨t, h1, h2⟩ := h.ex
  exact ⟨t, fun X hX => pe_one (h1 X hX), h2⟩
theorem re_and {a b : Expr} {rest : List Expr} {ma mb : EM} {pos : Pos} (ha : RE S O a ma) (hb : RE S O (.BoolOp .And (b :: rest) pos) mb) : RE S O (.BoolOp .And (a :: b :: rest) pos) (gAn ma mb) := by
  obtain ⟨t, h1, h2⟩ := ha.ex
  obtain ⟨u, g1, g2⟩ := hb.ex
  refine ⟨_, fun X hX => pe_and (h1 X hX) (g1 X hX), fun B G h0 σ Γ Q w p => ?_⟩
  refine se_boolX h2 w (p.bnd.mono fun b h1 G1 t1 k1 p1 => ?_)
  cases b with
  | true =>
    simp only [if_true] at p1 ⊢
    exact g2 B G1 h1 σ Γ _ (w.to t1 k1) p1
  | false =>
    simp only [Bool.false_eq_true, if_false] at p1 ⊢
    exact p1.pur k1 _ .of_bl
theorem re_or {a b : Expr} {rest : List Expr} {ma mb : EM} {pos : Pos} (ha : RE S O a ma) (hb : RE S O (.BoolOp .Or (b :: rest) pos) mb) : RE S O (.BoolOp .Or (a :: b :: rest) pos) (gOr ma mb) := by
  obtain ⟨t, h1, h2⟩ := ha.ex
  obtain ⟨u, g1, g2⟩ := hb.ex
  refine ⟨_, fun X hX => pe_or (h1 X hX) (g1 X hX), fun B G h0 σ Γ Q w p => ?_⟩
  refine se_boolX h2 w (p.bnd.mono fun b h1 G1 t1 k1 p1 => ?_)
  cases b with
  | true =>
    simp only [if_true] at p1 ⊢
    exact p1.pur k1 _ .of_bl
  | false =>
    simp only [Bool.false_eq_true, if_false] at p1 ⊢
    exact g2 B G1 h1 σ Γ _ (w.to t1 k1) p1
theorem re_not {a : Expr} {m : EM} {pos : Pos} (h : RE S O a m) : RE S O (.UnaryOp .Not a pos) (gNt m) := by
  obtain ⟨t, h1, h2⟩ := h.ex
  refine ⟨_, fun X hX => pe_not (h1 X hX), fun B G h0 σ Γ Q w p => ?_⟩
  exact se_boolX h2 w (p.bnd.mono fun b h1 G1 t1 k1 p1 => p1.pur k1 _ .of_bl)
def gIf (c : TM) (a b : EM) : EM := fun Γ => bnd (c Γ) fun k => if k = true then a Γ else b Γ
theorem re_if {c a b : Expr} {mc : TM} {ma mb : EM} {pos : Pos} (hc : RT S O c mc) (ha : RE S O a ma) (hb : RE S O b mb) : RE S O (.IfExp c a b pos) (gIf mc ma mb) := by
  obtain ⟨t, h1, h2⟩ := hc.ex
  obtain ⟨u, g1, g2⟩ := ha.ex
  obtain ⟨z, f1, f2⟩ := hb.ex
  refine ⟨_, fun X hX => pe_ifExp (h1 X hX) (g1 X hX) (f1 X hX), fun B G h0 σ Γ Q w p => ?_⟩
  refine h2 B G h0 σ Γ _ w (p.bnd.mono fun b h1 G1 t1 k1 p1 => ?_)
  cases b with
  | true =>
    simp only [if_true] at p1 ⊢
    exact g2 B G1 h1 σ Γ _ (w.to t1 k1) p1
  | false =>
    simp only [Bool.false_eq_true, if_false] at p1 ⊢
    exact f2 B G1 h1 σ Γ _ (w.to t1 k1) p1
end Sw

set_option maxHeartbeats 4000000
/-! Sw, part D: arguments, displays, subscripts, fields, calls. -/
namespace Sw
open PySem PySem.Spec L2
variable {S : Sx} {O : List Nat}

theorem ra_nil : RA S O [] [] := ⟨tNil, fun X _ => pa_nil, fun B G h σ Γ Q w p => (p.pur w.ok) [] .nil⟩
theorem ra_cons {e : Expr} {es : List Expr} {m : EM} {ms : List EM} (he : RE S O e m) (hs : RA S O es ms) (hst : ∀ env, starEach (e :: es) env = (false, eval e env) :: starEach es env := by intro _; rfl) : RA S O (e :: es) (m :: ms) := by
  obtain ⟨t, h1, h2⟩ := he.ex
  obtain ⟨u, g1, g2⟩ := hs.ex
  refine ⟨_, fun X hX => pa_cons (h1 X hX) (g1 X hX) (hst _), fun B G h σ Γ Q w p => ?_⟩
  unfold seqA at p
  refine h2 B G h σ Γ _ w (p.bnd.mono fun d h1 G1 t1 k1 p1 v r => ?_)
  refine g2 B G1 h1 σ Γ _ (w.to t1 k1) (p1.bnd.mono fun ds h3 G2 t2 k2 p2 vs rs => ?_)
  exact p2.pur k2 (v :: vs) (.cons (r.le t2.le) rs)

/-! ### new things -/
theorem rep_layT {G : Wd} {h : PH} (k : G.Ok h) {p : Addr} {ds : List D} {vs : List V} (e : G.H p = none) (hl : vs.length ≤ sizeLine) (r : Reps G ds vs) : Rep (G.lay p (.tup vs)) (.tup ds) (.ref p) := by
  unfold Rep
  exact ⟨p, vs, rfl, .inl ⟨upd_same, k.notin e, k.notU e, hl⟩, Reps.le (Wd.lay_to k e).le _ r⟩
theorem rep_layL {G : Wd} {h : PH} (k : G.Ok h) {p : Addr} {ds : List D} {vs : List V} (e : G.H p = none) (hl : vs.length ≤ sizeLine) (r : Reps G ds vs) : Rep (G.lay p (.lst vs)) (.lst ds) (.ref p) := by
  unfold Rep
  exact ⟨p, vs, rfl, ⟨upd_same, k.notin e, k.notU e, hl⟩, Reps.le (Wd.lay_to k e).le _ r⟩
theorem rep_layO {G : Wd} {h : PH} (k : G.Ok h) {p : Addr} {o : HO} : Rep (G.layO p o) (.ref h.length) (.ref p) := by
  unfold Rep
  refine ⟨p, ?_, rfl⟩
  show (G.ρ ++ [p])[h.length]? = some p
  rw [← k.len]
  simp
/-- a tuple is laid -/
theorem Pst.layT {S : Sx} {G : Wd} {h : PH} {ds : List D} {vs : List V} {Q : VK} (p : Pst S G (Sw.pur (.tup ds) h) (fun d _ G' => ∀ v, Rep G' d v → Q v G'.H)) (k : G.Ok h) (hl : vs.length ≤ sizeLine) (r : Reps G ds vs) : ∀ a, G.H a = none → Q (.ref a) (upd G.H a (.tup vs)) :=
  fun a e => p (G.lay a (.tup vs)) (Wd.lay_to k e) (Wd.lay_ok k e) _ (rep_layT k e hl r)
theorem Pst.layL {S : Sx} {G : Wd} {h : PH} {ds : List D} {vs : List V} {Q : VK} (p : Pst S G (Sw.pur (.lst ds) h) (fun d _ G' => ∀ v, Rep G' d v → Q v G'.H)) (k : G.Ok h) (hl : vs.length ≤ sizeLine) (r : Reps G ds vs) : ∀ a, G.H a = none → Q (.ref a) (upd G.H a (.lst vs)) :=
  fun a e => p (G.lay a (.lst vs)) (Wd.lay_to k e) (Wd.lay_ok k e) _ (rep_layL k e hl r)
def newL (ds : List D) : M D := fun h => .ok (.ref h.length) (h ++ [.lst ds])
theorem Pst.layO {S : Sx} {G : Wd} {h : PH} {ob : Ob} {ho : HO} {Q : VK} (p : Pst S G (.ok (.ref h.length) (h ++ [ob]) : R D) (fun d _ G' => ∀ v, Rep G' d v → Q v G'.H)) (k : G.Ok h)
    (new : ∀ a, G.H a = none → ObAt (G.layO a ho) a ob) : ∀ a, G.H a = none → Q (.ref a) (upd G.H a ho) :=
  fun a e => p (G.layO a ho) (Wd.layO_to k e) (Wd.layO_ok k e (new a e)) _ (rep_layO k)
theorem Pst.newL {S : Sx} {G : Wd} {h : PH} {ds : List D} {vs : List V} {Q : VK} (p : Pst S G (Sw.newL ds h) (fun d _ G' => ∀ v, Rep G' d v → Q v G'.H)) (k : G.Ok h) (hl : vs.length ≤ sizeLine) (r : Reps G ds vs) : ∀ a, G.H a = none → Q (.ref a) (upd G.H a (.lst vs)) :=
  Pst.layO (ob := .lst ds) p k fun a e => ⟨vs, upd_same, hl, Reps.le (Wd.layO_to k e).le _ r⟩

def gTup (ms : List EM) : EM := fun Γ => bnd (seqA ms Γ) fun ds => pur (.tup ds)
theorem Pst.ok_len {ms : List EM} {Γ : Env} {G : Wd} {h : PH} {Z : List D → PH → Wd → Prop} (p : Pst S G (seqA ms Γ h) Z) : Pst S G (seqA ms Γ h) (fun ds h' G' => ds.length = ms.length ∧ Z ds h' G') := by
  cases e : seqA ms Γ h with
  | ok ds h' =>
    rw [e] at p
    exact fun G' t k => ⟨seqA_len e, p G' t k⟩
  | ex c xs h' =>
    rw [e] at p
    exact p
  | bad =>
    rw [e] at p
    exact p
theorem line_small {n : Nat} (h : n ≤ 1000) : n ≤ sizeLine := by rw [sizeLine_eq]; omega
theorem re_tup {es : List Expr} {ms : List EM} {x1 pos} (h : RA S O es ms) (hl : ms.length ≤ 1000) : RE S O (.Tuple es x1 pos) (gTup ms) := by
  obtain ⟨t, h1, h2⟩ := h.ex
  refine ⟨_, fun X hX => pe_tup (h1 X hX), fun B G h σ Γ Q w p => ?_⟩
  unfold gTup at p
  refine h2 B G h σ Γ _ w (p.bnd.ok_len.mono fun ds h1 G1 t1 k1 ⟨hn, p1⟩ vs r => ?_)
  have hl' : vs.length ≤ sizeLine := line_small (by rw [r.len, hn]; exact hl)
  exact ⟨hl', p1.layT k1 hl' r⟩
theorem rf_lst {es : List Expr} {ms : List EM} {pos} (h : RA S O es ms) (hl : ms.length ≤ 1000) : RF S O (.List es pos) (seqA ms) := by
  obtain ⟨t, h1, h2⟩ := h.ex
  refine ⟨_, fun X hX => pe_lst (h1 X hX), fun B G h σ Γ Q w p => ?_⟩
  refine h2 B G h σ Γ _ w (p.ok_len.mono fun ds h1 G1 t1 k1 ⟨hn, p1⟩ vs r => ?_)
  have hl' : vs.length ≤ sizeLine := line_small (by rw [r.len, hn]; exact hl)
  exact ⟨hl', fun a e => p1 a vs e hl' r⟩
/-- a new list as a value; as an object -/
def gVal (m : LM) : EM := fun Γ => bnd (m Γ) fun ds => pur (.lst ds)
def gNew (m : LM) : EM := fun Γ => bnd (m Γ) newL
theorem re_val {e : Expr} {m : LM} (h : RF S O e m) : RE S O e (gVal m) := by
  obtain ⟨t, h1, h2⟩ := h.ex
  refine ⟨_, h1, fun B G h σ Γ Q w p => ?_⟩
  unfold gVal at p
  exact h2 B G h σ Γ _ w (p.bnd.mono fun ds h1 G1 t1 k1 p1 a vs e hl r => p1.layL k1 hl r a e)
theorem re_new {e : Expr} {m : LM} (h : RF S O e m) : RE S O e (gNew m) := by
  obtain ⟨t, h1, h2⟩ := h.ex
  refine ⟨_, h1, fun B G h σ Γ Q w p => ?_⟩
  unfold gNew at p
  exact h2 B G h σ Γ _ w (p.bnd.mono fun ds h1 G1 t1 k1 p1 a vs e hl r => p1.newL k1 hl r a e)

/-! ### dicts by keys -/
section
variable {κ : Type} [DecidableEq κ]
def getD_ (kvs : List (κ × D)) (k : κ) : Option D := (kvs.find? fun kv => decide (kv.1 = k)).map (·.2)
def putD_ (kvs : List (κ × D)) (k : κ) (v : D) : List (κ × D) :=
  if (kvs.any fun kv => decide (kv.1 = k)) = true then kvs.map (fun kv => if kv.1 = k then (kv.1, v) else kv) else kvs ++ [(k, v)]
theorem RepKV.nil {G : Wd} : RepKV G ([] : List (κ × D)) [] := ⟨rfl, .nil⟩
theorem RepKV.cons {G : Wd} {k : κ} {d : D} {v : V} {kvs : List (κ × D)} {kvs' : List (κ × V)} (r : Rep G d v) (t : RepKV G kvs kvs') : RepKV G ((k, d) :: kvs) ((k, v) :: kvs') :=
  ⟨by simp only [List.map_cons, t.1], .cons r t.2⟩
theorem RepKV.cons_inv {G : Wd} {k : κ} {d : D} {kvs : List (κ × D)} : ∀ {kvs' : List (κ × V)}, RepKV G ((k, d) :: kvs) kvs' → ∃ v r, kvs' = (k, v) :: r ∧ Rep G d v ∧ RepKV G kvs r
  | [], h => by
    have := h.1
    simp at this
  | (k', v) :: r, h => by
    obtain ⟨h1, h2⟩ := h
    simp only [List.map_cons, List.cons.injEq] at h1
    obtain ⟨u, t, e, q1, q2⟩ := Reps.cons_inv h2
    simp only [List.map_cons, List.cons.injEq] at e
    refine ⟨v, r, by rw [h1.1], ?_, h1.2, ?_⟩
    · rw [e.1]
      exact q1
    · rw [e.2]
      exact q2
theorem RepKV.nil_inv {G : Wd} {kvs' : List (κ × V)} (h : RepKV G [] kvs') : kvs' = [] := by
  have := h.1
  simpa using this
theorem RepKV.get {G : Wd} {k : κ} : ∀ {kvs : List (κ × D)} {kvs' : List (κ × V)}, RepKV G kvs kvs' → (getD_ kvs k = none ∧ valV kvs' k = none) ∨ ∃ d v, getD_ kvs k = some d ∧ valV kvs' k = some v ∧ Rep G d v
  | [], kvs', h => by
    rw [h.nil_inv]
    exact .inl ⟨rfl, rfl⟩
  | (j, d) :: kvs, kvs', h => by
    obtain ⟨v, r, rfl, h1, h2⟩ := h.cons_inv
    by_cases e : j = k
    · exact .inr ⟨d, v, by simp [getD_, e], valV_pos e, h1⟩
    · have e1 : getD_ ((j, d) :: kvs) k = getD_ kvs k := by simp [getD_, e]
      rw [e1, valV_neg e]
      exact RepKV.get h2
theorem RepKV.any_ {G : Wd} {k : κ} : ∀ {kvs : List (κ × D)} {kvs' : List (κ × V)}, RepKV G kvs kvs' → (kvs.any fun kv => decide (kv.1 = k)) = (kvs'.any fun kv => decide (kv.1 = k))
  | [], kvs', h => by
    rw [h.nil_inv]
    all_goals rfl
  | (j, d) :: kvs, kvs', h => by
    obtain ⟨v, r, rfl, h1, h2⟩ := h.cons_inv
    simp only [List.any_cons, RepKV.any_ h2]
theorem RepKV.app {G : Wd} : ∀ {kvs ls : List (κ × D)} {kvs' ls' : List (κ × V)}, RepKV G kvs kvs' → RepKV G ls ls' → RepKV G (kvs ++ ls) (kvs' ++ ls')
  | [], ls, kvs', ls', h, h' => by
    rw [h.nil_inv]
    exact h'
  | (j, d) :: kvs, ls, kvs', ls', h, h' => by
    obtain ⟨v, r, rfl, h1, h2⟩ := h.cons_inv
    exact .cons h1 (RepKV.app h2 h')
theorem RepKV.map_ {G : Wd} {k : κ} {x : D} {u : V} (q : Rep G x u) : ∀ {kvs : List (κ × D)} {kvs' : List (κ × V)}, RepKV G kvs kvs' → RepKV G (kvs.map fun kv => if kv.1 = k then (kv.1, x) else kv) (kvs'.map fun kv => if kv.1 = k then (kv.1, u) else kv)
  | [], kvs', h => by
    rw [h.nil_inv]
    exact .nil
  | (j, d) :: kvs, kvs', h => by
    obtain ⟨v, r, rfl, h1, h2⟩ := h.cons_inv
    simp only [List.map_cons]
    by_cases e : j = k
    · rw [if_pos e, if_pos e]
      exact .cons q (RepKV.map_ q h2)
    · rw [if_neg e, if_neg e]
      exact .cons h1 (RepKV.map_ q h2)
theorem RepKV.put {G : Wd} {k : κ} {kvs : List (κ × D)} {kvs' : List (κ × V)} {x : D} {u : V} (h : RepKV G kvs kvs') (q : Rep G x u) : RepKV G (putD_ kvs k x) (putK kvs' k u) := by
  unfold putD_ putK
  rw [h.any_]
  split
  · exact h.map_ q
  · exact h.app (.cons q .nil)
theorem RepKV.len {G : Wd} {kvs : List (κ × D)} {kvs' : List (κ × V)} (h : RepKV G kvs kvs') : kvs'.length = kvs.length := by
  have := congrArg List.length h.1
  simpa using this
end
def keyD : D → Option Key
  | .int i => some (.inl i)
  | .str s => some (.inr s)
  | _ => none
theorem keyD_v {G : Wd} {d : D} {v : V} {k : Key} (r : BRep G d v) (e : keyD d = some k) : v = kV k := by
  cases d with
  | int i =>
    cases e
    exact r.int_inv
  | str s =>
    cases e
    exact r.str_inv.1
  | _ => cases e

/-! ### o[i] -/
def ixS (xs : List D) (i : D) : M D := fun h => match i with
  | .int k => (match atI xs k with
    | some d => .ok d h
    | none => .bad)
  | _ => .bad
def ixK (kvs : List (Key × D)) (i : D) : M D := fun h => match keyD i with
  | some k => (match getD_ kvs k with
    | some d => .ok d h
    | none => .bad)
  | none => .bad
def ixZ (z : Str) (i : D) : M D := fun h => match i with
  | .int k => if z.cps.size ≤ 16777216 then (match atI z.cps.toList k with
    | some c => .ok (.str ⟨#[c]⟩) h
    | none => .bad) else .bad
  | _ => .bad
def dIx : D → D → M D
  | .tup xs, i => ixS xs i
  | .lst xs, i => ixS xs i
  | .str z, i => ixZ z i
  | .rd ns, i => ixS (ns.map D.int) i
  | .ref n, i => fun h => (match h[n]? with
    | some (.lst xs) => ixS xs i h
    | some (.dct kvs) => ixK kvs i h
    | _ => .bad)
  | _, _ => bad
/-- a dict's item, by values -/
def rIxD : R2 := fun x y H Q => ∃ a v, x = .ref a ∧ DGet H a y (some v) ∧ Q v H
theorem ix_dict {X : Cx} {k : Nat} (hr : Room k X.A) : IxR X rIxD := by
  intro value slice pins s σ H x y v u Q I rx ry h hs
  obtain ⟨a, z, rfl, g, q⟩ := h
  cases rx
  exact PyProof.Rows.tail_any (dict_typeIs I g) PySem.F.slot_dict_getitem.lookup (d_getItem (hu_of hr) I g ry fun w' s3 I3 rw' => ⟨z, H, I3, rw', q⟩) hs
def rIxA (K : PySem.W.Frag) : R2 := fun x y H Q => rIx K x y H Q ∨ rIxD x y H Q
theorem strOk_at {z : Str} {i : Int} {c : Nat} (h : PyData.strOk z = true) (e : atI z.cps.toList i = some c) : PyData.strOk ⟨#[c]⟩ = true := by
  obtain ⟨j, _, e1, _⟩ := atI_get e
  have hm : c ∈ z.cps := by
    have := List.mem_of_getElem? e1
    simpa using this
  unfold PyData.strOk at h ⊢
  simp only [Array.all_eq_true_iff_forall_mem] at h
  have := h c hm
  simpa using this
theorem atI_rep {G : Wd} {xs : List D} {vs : List V} {i : Int} {d : D} (r : Reps G xs vs) (e : atI xs i = some d) : ∃ v, atI vs i = some v ∧ Rep G d v := by
  unfold atI at e ⊢
  rw [r.len]
  cases q : ixN xs.length i with
  | none =>
    rw [q] at e
    cases e
  | some j =>
    rw [q] at e
    exact r.get e
structure IxOp (S : Sx) (f : D → D → M D) : Prop where
  ex : ∃ r : R2, (∀ X, InX S X → IxR X r) ∧ S2 S r f
theorem o_ix : IxOp S dIx := by
  refine ⟨rIxA S.K, fun X hX => by rw [← hX.K]; exact ix_seq.or (ix_dict hX.room), fun G h x y dx dy Q gK gc k rx ry p => ?_⟩
  have seq : ∀ {xs : List D} {vs : List V} {a : Addr}, (SqL G.K G.H a vs ∨ SqT G.K G.H a vs) → Reps G xs vs → Pst S G (ixS xs dy h) (fun d _ G' => ∀ v, Rep G' d v → Q v G'.H) → rIxA S.K (.ref a) y G.H Q := by
    intro xs vs a hs r p
    cases dy with
    | int i =>
      unfold ixS at p
      cases e : atI xs i with
      | none =>
        simp only [e] at p
        exact p.elim
      | some d =>
        simp only [e] at p
        obtain ⟨v, q1, q2⟩ := atI_rep r e
        rw [← gK]
        rcases hs with hs | hs
        · exact .inl (.inl ⟨a, vs, i, v, rfl, ry.int_inv, hs, q1, p G (.refl G) k v q2⟩)
        · exact .inl (.inr (.inl ⟨a, vs, i, v, rfl, ry.int_inv, hs, q1, p G (.refl G) k v q2⟩))
    | _ => exact p.elim
  cases dx with
  | tup xs =>
    obtain ⟨a, vs, rfl, h1, h2⟩ := rx.tup_inv
    exact seq (.inr h1.seq) h2 p
  | lst xs =>
    obtain ⟨a, vs, rfl, h1, _, h2⟩ := seq_at k rx (xs := xs) rfl
    exact seq h1 h2 p
  | rd ns =>
    obtain ⟨a, vs, rfl, h1, _, h2⟩ := seq_at k rx (xs := ns.map D.int) rfl
    exact seq h1 h2 p
  | str z =>
    cases dy with
    | int i =>
      have p : Pst S G (ixZ z (.int i) h) (fun d _ G' => ∀ v, Rep G' d v → Q v G'.H) := p
      unfold ixZ at p
      by_cases hz : z.cps.size ≤ 16777216
      · simp only [if_pos hz] at p
        cases e : atI z.cps.toList i with
        | none =>
          simp only [e] at p
          exact p.elim
        | some c =>
          simp only [e] at p
          obtain ⟨q1, q2⟩ := rx.str_inv
          refine .inl (.inr (.inr ⟨z, i, c, q1, ry.int_inv, ?_, e, p G (.refl G) k _ ?_⟩))
          · rw [sizeLine_eq]
            exact hz
          · unfold Rep
            exact ⟨rfl, strOk_at q2 e⟩
      · simp only [if_neg hz] at p
        exact p.elim
    | _ => exact p.elim
  | ref n =>
    obtain ⟨a, h1, rfl⟩ := rx.ref_inv
    obtain ⟨o, h2, h3⟩ := k.at h1
    have p : Pst S G (match h[n]? with
      | some (.lst xs) => ixS xs dy h
      | some (.dct kvs) => ixK kvs dy h
      | _ => .bad : R D) (fun d _ G' => ∀ v, Rep G' d v → Q v G'.H) := p
    rw [h2] at p
    cases o with
    | lst xs =>
      obtain ⟨vs, q1, q2, q3⟩ := h3
      exact seq (.inl (SqL.of q1)) q3 p
    | dct kvs =>
      obtain ⟨kvs', q1, q2⟩ := h3
      have p : Pst S G (ixK kvs dy h) (fun d _ G' => ∀ v, Rep G' d v → Q v G'.H) := p
      unfold ixK at p
      cases e : keyD dy with
      | none =>
        simp only [e] at p
        exact p.elim
      | some key =>
        simp only [e] at p
        rcases q2.get (k := key) with ⟨g1, _⟩ | ⟨d, v, g1, g2, g3⟩
        · simp only [g1] at p
          exact p.elim
        · simp only [g1] at p
          refine .inr ⟨a, v, rfl, ?_, p G (.refl G) k v g3⟩
          rw [keyD_v ry e, ← g2]
          exact DGet.k q1
    | _ => exact p.elim
  | _ => exact p.elim
theorem re_ix {a b : Expr} {ma mb : EM} {pos : Pos} (ha : RB S O a ma) (hb : RB S O b mb) (hs : PlainIx b) : RE S O (.Subscript a b pos) (g2 dIx ma mb) := by
  obtain ⟨r, o1, o2⟩ := o_ix (S := S).ex
  obtain ⟨ta, a1, a2⟩ := ha.ex
  obtain ⟨tb, b1, b2⟩ := hb.ex
  exact ⟨_, fun X hX => pe_ix (o1 X hX) (a1 X hX) (b1 X hX) hs, se_2 o2 a2 b2⟩

/-! ### in, not in -/
def rInM (K : PySem.W.Frag) (f : Bool → Bool) : R2 := fun x y H Q => ∃ d e es, Dp K H x d ∧ Dp K H y e ∧ (e = .list es ∨ e = .tuple es) ∧ d.canLay0 = true ∧ PyData.canLayAll0 es = true ∧ min (PyData.depthAll es) d.depth ≤ 60 ∧ Q (.bl (f (es.any fun z => PyData.eqv z d))) H
theorem or_inM {X : Cx} {k : Nat} (hr : Room k X.A) : OpR X (compareOp .In) (rInM X.K id) := by
  intro pins s σ H x y v u Q I rx ry h
  obtain ⟨d, e, es, hd, he, hc, sd, se, hm, q⟩ := h
  obtain ⟨as, r1⟩ := Dp.reads I d x v hd rx
  obtain ⟨bs, r2⟩ := Dp.reads I e y u he ry
  have := hr.units
  rcases hc with rfl | rfl
  · exact SeqAt.in_list_reads r2 r1 se sd (by omega) ⟨.bl _, H, I, rfl, q⟩
  · exact SeqAt.in_tuple_reads r2 r1 se sd (by omega) ⟨.bl _, H, I, rfl, q⟩
theorem or_ninM {X : Cx} {k : Nat} (hr : Room k X.A) : OpR X (compareOp .NotIn) (rInM X.K not) := by
  intro pins s σ H x y v u Q I rx ry h
  obtain ⟨d, e, es, hd, he, hc, sd, se, hm, q⟩ := h
  obtain ⟨as, r1⟩ := Dp.reads I d x v hd rx
  obtain ⟨bs, r2⟩ := Dp.reads I e y u he ry
  have := hr.units
  rcases hc with rfl | rfl
  · exact SeqAt.notIn_list_reads r2 r1 se sd (by omega) ⟨.bl _, H, I, rfl, q⟩
  · exact SeqAt.notIn_tuple_reads r2 r1 se sd (by omega) ⟨.bl _, H, I, rfl, q⟩
def rDIn (f : Bool → Bool) : R2 := fun x y H Q => ∃ a o, y = .ref a ∧ DGet H a x o ∧ Q (.bl (f o.isSome)) H
theorem or_din {X : Cx} {k : Nat} (hr : Room k X.A) : OpR X (compareOp .In) (rDIn id) := by
  intro pins s σ H x y v u Q I rx ry h
  obtain ⟨a, o, rfl, g, q⟩ := h
  cases ry
  exact d_in (hu_of hr) I g rx fun s3 I3 => ⟨.bl _, H, I3, rfl, q⟩
theorem or_dnin {X : Cx} {k : Nat} (hr : Room k X.A) : OpR X (compareOp .NotIn) (rDIn not) := by
  intro pins s σ H x y v u Q I rx ry h
  obtain ⟨a, o, rfl, g, q⟩ := h
  cases ry
  exact d_notIn (hu_of hr) I g rx fun s3 I3 => ⟨.bl _, H, I3, rfl, q⟩
def datS (h : PH) (d : D) : Option (List PyData) := (seqD h d).bind fun xs => datL (rfH h) xs
def inS (f : Bool → Bool) (a b : D) : M D := fun h => match dat (rfH h) a, datS h b with
  | some p, some qs => if min (PyData.depthAll qs) p.depth ≤ 60 then .ok (.bl (f (qs.any fun z => PyData.eqv z p))) h else .bad
  | _, _ => .bad
def inK (f : Bool → Bool) (a : D) (kvs : List (Key × D)) : M D := fun h => match keyD a with
  | some k => .ok (.bl (f (getD_ kvs k).isSome)) h
  | none => .bad
def dInB (f : Bool → Bool) : D → D → M D
  | a, .ref n => fun h => (match h[n]? with
    | some (.dct kvs) => inK f a kvs h
    | _ => inS f a (.ref n) h)
  | a, b => inS f a b
def dIn := dInB id
def dNotIn := dInB not
theorem datS_ok {G : Wd} {h : PH} (k : G.Ok h) {d : D} {v : V} {qs : List PyData} (r : BRep G d v) (e : datS h d = some qs) : ∃ p, Dp G.K G.H v p ∧ (p = .list qs ∨ p = .tuple qs) ∧ PyData.canLayAll0 qs = true := by
  unfold datS at e
  obtain ⟨xs, e1, e2⟩ := Option.bind_eq_some_iff.mp e
  obtain ⟨a, vs, rfl, h1, _, h2⟩ := seq_at k r e1
  obtain ⟨b1, b2⟩ := datL_ok (rfH_ok k) xs h2 e2
  rcases h1 with h1 | h1
  · exact ⟨_, .lst h1 b1, .inl rfl, b2⟩
  · exact ⟨_, .tup h1 b1, .inr rfl, b2⟩
theorem s_in (f : Bool → Bool) : S2 S (fun x y H Q => rInM S.K f x y H Q ∨ rDIn f x y H Q) (dInB f) := by
  intro G h x y dx dy Q gK gc k rx ry p
  have deep : Pst S G (inS f dx dy h) (fun d _ G' => ∀ v, Rep G' d v → Q v G'.H) → rInM S.K f x y G.H Q := by
    intro p
    unfold inS at p
    cases e1 : dat (rfH h) dx with
    | none =>
      simp only [e1] at p
      exact p.elim
    | some a =>
      cases e2 : datS h dy with
      | none =>
        simp only [e1, e2] at p
        exact p.elim
      | some qs =>
        simp only [e1, e2] at p
        by_cases hd : min (PyData.depthAll qs) a.depth ≤ 60
        · rw [if_pos hd] at p
          obtain ⟨a1, a2⟩ := bdat_ok k rx e1
          obtain ⟨b, b1, b2, b3⟩ := datS_ok k ry e2
          rw [← gK]
          exact ⟨a, b, qs, a1, b1, b2, a2, b3, hd, p G (.refl G) k _ .of_bl⟩
        · rw [if_neg hd] at p
          exact p.elim
  cases dy with
  | ref n =>
    obtain ⟨a, h1, rfl⟩ := ry.ref_inv
    obtain ⟨o, h2, h3⟩ := k.at h1
    have p : Pst S G (match h[n]? with
      | some (.dct kvs) => inK f dx kvs h
      | _ => inS f dx (.ref n) h : R D) (fun d _ G' => ∀ v, Rep G' d v → Q v G'.H) := p
    rw [h2] at p
    cases o with
    | dct kvs =>
      obtain ⟨kvs', q1, q2⟩ := h3
      have p : Pst S G (inK f dx kvs h) (fun d _ G' => ∀ v, Rep G' d v → Q v G'.H) := p
      unfold inK at p
      cases e : keyD dx with
      | none =>
        simp only [e] at p
        exact p.elim
      | some key =>
        simp only [e] at p
        refine .inr ⟨a, valV kvs' key, rfl, ?_, ?_⟩
        · rw [keyD_v rx e]
          exact DGet.k q1
        · rcases q2.get (k := key) with ⟨g1, g2⟩ | ⟨d, v, g1, g2, g3⟩
          · rw [g2]
            rw [g1] at p
            exact p G (.refl G) k _ .of_bl
          · rw [g2]
            rw [g1] at p
            exact p G (.refl G) k _ .of_bl
    | _ => exact .inl (deep p)
  | _ => exact .inl (deep p)
theorem o_in : Op2 S (compareOp .In) dIn := ⟨_, fun X hX => by rw [← hX.K]; exact (or_inM hX.room).or (or_din hX.room), s_in id⟩
theorem o_notin : Op2 S (compareOp .NotIn) dNotIn := ⟨_, fun X hX => by rw [← hX.K]; exact (or_ninM hX.room).or (or_dnin hX.room), s_in not⟩
end Sw

set_option maxHeartbeats 400000
/-! Sw, part E: +, *, slices, fields, calls, methods, instances, built-in functions. -/
namespace Sw
open PySem PySem.Spec L2
variable {S : Sx} {O : List Nat}

/-! ### a + b, a * b -/
def dAdd : D → D → M D
  | .int i, .int j => pur (.int (i + j))
  | .tup xs, .tup ys => fun h => if xs.length + ys.length ≤ 16777216 then .ok (.tup (xs ++ ys)) h else .bad
  | _, _ => bad
def rAdd2 (K : PySem.W.Frag) : R2 := fun x y H Q => (rI0 fun i j => .int (i + j)) x y H Q ∨ rCatA K x y H Q
theorem o_add : Op2 S (binaryOp .Add) dAdd := by
  refine ⟨rAdd2 S.K, fun X hX => by rw [← hX.K]; exact op_add.or op_catA, fun G h x y dx dy Q gK gc k rx ry p => ?_⟩
  cases dx with
  | int i =>
    cases dy with
    | int j => exact .inl ⟨i, j, rx.int_inv, ry.int_inv, p G (.refl G) k _ .of_int⟩
    | _ => exact p.elim
  | tup xs =>
    cases dy with
    | tup ys =>
      obtain ⟨a, vs, rfl, h1, h2⟩ := rx.tup_inv
      obtain ⟨b, us, rfl, g1, g2⟩ := ry.tup_inv
      have p : Pst S G (if xs.length + ys.length ≤ 16777216 then .ok (.tup (xs ++ ys)) h else .bad : R D) (fun d _ G' => ∀ v, Rep G' d v → Q v G'.H) := p
      by_cases hl : xs.length + ys.length ≤ 16777216
      · rw [if_pos hl] at p
        have hl' : vs.length + us.length ≤ sizeLine := by
          rw [h2.len, g2.len, sizeLine_eq]
          exact hl
        rw [← gK]
        refine .inr ⟨a, b, vs, us, rfl, rfl, h1.seq, g1.seq, hl', fun e => ?_, fun _ e => ?_, fun _ _ => ?_⟩
        · refine p G (.refl G) k _ ?_
          subst e
          have e2 : xs = [] := List.eq_nil_of_length_eq_zero (by rw [← h2.len]; rfl)
          subst e2
          unfold Rep
          exact ⟨b, us, rfl, g1, g2⟩
        · refine p G (.refl G) k _ ?_
          subst e
          have e2 : ys = [] := List.eq_nil_of_length_eq_zero (by rw [← g2.len]; rfl)
          subst e2
          unfold Rep
          rw [List.append_nil]
          exact ⟨a, vs, rfl, h1, h2⟩
        · exact Pst.layT (ds := xs ++ ys) p k (by rw [List.length_append]; exact hl') (h2.app g2)
      · rw [if_neg hl] at p
        exact p.elim
    | _ => exact p.elim
  | _ => exact p.elim
/-- list + list: a new list -/
def lAdd (a b : EM) : LM := fun Γ => bnd (a Γ) fun x => bnd (b Γ) fun y => fun h => match seqL h x, seqL h y with
  | some xs, some ys => if xs.length + ys.length ≤ 16777216 then .ok (xs ++ ys) h else .bad
  | _, _ => .bad
where
  seqL (h : PH) : D → Option (List D)
    | .lst xs => some xs
    | .ref n => match h[n]? with
      | some (.lst xs) => some xs
      | _ => none
    | _ => none
theorem seqL_at {G : Wd} {h : PH} {d : D} {v : V} {xs : List D} (k : G.Ok h) (r : BRep G d v) (e : lAdd.seqL h d = some xs) : ∃ a vs, v = .ref a ∧ G.H a = some (.lst vs) ∧ vs.length ≤ sizeLine ∧ Reps G xs vs := by
  cases d with
  | lst ys =>
    cases e
    rcases r with r | ⟨zs, a, vs, e, rfl, h1, h2, h3, h4⟩
    · obtain ⟨a, vs, rfl, h1, h2⟩ := r.lst_inv
      exact ⟨a, vs, rfl, h1.1, h1.2.2.2, h2⟩
    · cases e
      exact ⟨a, vs, rfl, h2, h3, h4⟩
  | ref n =>
    obtain ⟨a, h1, rfl⟩ := r.ref_inv
    obtain ⟨o, h2, h3⟩ := k.at h1
    have e : (match h[n]? with
      | some (.lst xs) => some xs
      | _ => none) = some xs := e
    rw [h2] at e
    cases o with
    | lst ys =>
      cases e
      obtain ⟨vs, q1, q2, q3⟩ := h3
      exact ⟨a, vs, rfl, q1, q2, q3⟩
    | _ => cases e
  | _ => cases e
theorem rf_add {a b : Expr} {ma mb : EM} {pos : Pos} (ha : RB S O a ma) (hb : RB S O b mb) : RF S O (.BinOp a .Add b pos) (lAdd ma mb) := by
  obtain ⟨ta, a1, a2⟩ := ha.ex
  obtain ⟨tb, b1, b2⟩ := hb.ex
  refine ⟨_, fun X hX => pe_op op_cat (a1 X hX) (b1 X hX), fun B G h σ Γ Q w p => ?_⟩
  unfold lAdd at p
  refine a2 B G h σ Γ _ w (p.bnd.mono fun dx h1 G1 t1 k1 p1 x rx => ?_)
  refine b2 B G1 h1 σ Γ _ (w.to t1 k1) (p1.bnd.mono fun dy h2 G2 t2 k2 p2 y ry => ?_)
  cases e1 : lAdd.seqL h2 dx with
  | none =>
    simp only [e1] at p2
    exact p2.elim
  | some xs =>
    cases e2 : lAdd.seqL h2 dy with
    | none =>
      simp only [e1, e2] at p2
      exact p2.elim
    | some ys =>
      simp only [e1, e2] at p2
      by_cases hl : xs.length + ys.length ≤ 16777216
      · rw [if_pos hl] at p2
        obtain ⟨a, vs, rfl, q1, q2, q3⟩ := seqL_at k2 (rx.to t2) e1
        obtain ⟨b, us, rfl, f1, f2, f3⟩ := seqL_at k2 ry e2
        have hl' : vs.length + us.length ≤ sizeLine := by
          rw [q3.len, f3.len, sizeLine_eq]
          exact hl
        refine ⟨a, b, vs, us, rfl, rfl, q1, f1, hl', fun c hc => ?_⟩
        exact p2 G2 (.refl G2) k2 c _ hc (by rw [List.length_append]; exact hl') (q3.app f3)
      · rw [if_neg hl] at p2
        exact p2.elim
def dMul : D → D → M D
  | .int i, .int j => fun h => if i.natAbs < 2 ^ 64 ∨ j.natAbs < 2 ^ 64 then .ok (.int (i * j)) h else .bad
  | .tup xs, .int k => fun h => if xs ≠ [] ∧ 2 ≤ k ∧ k ≤ 1000 ∧ xs.length ≤ 1000 then .ok (.tup (List.replicate k.toNat xs).flatten) h else .bad
  | _, _ => bad
theorem o_mul : Op2 S (binaryOp .Mult) dMul := by
  refine ⟨fun x y H Q => (rI CMul fun i j => .int (i * j)) x y H Q ∨ rRepT S.K x y H Q, fun X hX => by rw [← hX.K]; exact op_mul.or op_repT, fun G h x y dx dy Q gK gc k rx ry p => ?_⟩
  cases dx with
  | int i =>
    cases dy with
    | int j =>
      have p : Pst S G (if i.natAbs < 2 ^ 64 ∨ j.natAbs < 2 ^ 64 then .ok (.int (i * j)) h else .bad : R D) (fun d _ G' => ∀ v, Rep G' d v → Q v G'.H) := p
      by_cases hc : i.natAbs < 2 ^ 64 ∨ j.natAbs < 2 ^ 64
      · rw [if_pos hc] at p
        refine .inl ⟨i, j, rx.int_inv, ry.int_inv, ?_, p G (.refl G) k _ .of_int⟩
        unfold CMul
        rcases hc with hc | hc
        · exact .inl ⟨by omega, by omega⟩
        · exact .inr ⟨by omega, by omega⟩
      · rw [if_neg hc] at p
        exact p.elim
    | _ => exact p.elim
  | tup xs =>
    cases dy with
    | int j =>
      have p : Pst S G (if xs ≠ [] ∧ 2 ≤ j ∧ j ≤ 1000 ∧ xs.length ≤ 1000 then .ok (.tup (List.replicate j.toNat xs).flatten) h else .bad : R D) (fun d _ G' => ∀ v, Rep G' d v → Q v G'.H) := p
      obtain ⟨a, vs, rfl, h1, h2⟩ := rx.tup_inv
      by_cases hc : xs ≠ [] ∧ 2 ≤ j ∧ j ≤ 1000 ∧ xs.length ≤ 1000
      · rw [if_pos hc] at p
        obtain ⟨c1, c2, c3, c4⟩ := hc
        rw [← gK]
        refine .inr ⟨a, j, vs, rfl, ry.int_inv, h1.seq, fun e => c1 (List.eq_nil_of_length_eq_zero (by rw [← h2.len, e]; rfl)), c2, c3, by rw [h2.len]; exact c4, ?_⟩
        refine Pst.layT (ds := (List.replicate j.toNat xs).flatten) p k ?_ (h2.rep _)
        rw [PyProof.Rows.lm_len_rep_flat, sizeLine_eq, h2.len]
        have a1 : j.toNat * xs.length ≤ 1000 * 1000 := Nat.mul_le_mul (by omega) c4
        omega
      · rw [if_neg hc] at p
        exact p.elim
    | _ => exact p.elim
  | _ => exact p.elim
/-- list * int: a new list -/
def lMul (a b : EM) : LM := fun Γ => bnd (a Γ) fun x => bnd (b Γ) fun y => fun h => match lAdd.seqL h x, y with
  | some xs, .int k => if -(2 ^ 63) ≤ k ∧ k < 2 ^ 63 ∧ xs.length * k.toNat ≤ 16777216 then .ok (List.replicate k.toNat xs).flatten h else .bad
  | _, _ => .bad
theorem rf_mul {a b : Expr} {ma mb : EM} {pos : Pos} (ha : RB S O a ma) (hb : RB S O b mb) : RF S O (.BinOp a .Mult b pos) (lMul ma mb) := by
  obtain ⟨ta, a1, a2⟩ := ha.ex
  obtain ⟨tb, b1, b2⟩ := hb.ex
  refine ⟨_, fun X hX => pe_op op_rep (a1 X hX) (b1 X hX), fun B G h σ Γ Q w p => ?_⟩
  unfold lMul at p
  refine a2 B G h σ Γ _ w (p.bnd.mono fun dx h1 G1 t1 k1 p1 x rx => ?_)
  refine b2 B G1 h1 σ Γ _ (w.to t1 k1) (p1.bnd.mono fun dy h2 G2 t2 k2 p2 y ry => ?_)
  cases e1 : lAdd.seqL h2 dx with
  | none =>
    simp only [e1] at p2
    exact p2.elim
  | some xs =>
    cases dy with
    | int j =>
      simp only [e1] at p2
      by_cases hc : -(2 ^ 63) ≤ j ∧ j < 2 ^ 63 ∧ xs.length * j.toNat ≤ 16777216
      · rw [if_pos hc] at p2
        obtain ⟨a, vs, rfl, q1, q2, q3⟩ := seqL_at k2 (rx.to t2) e1
        have hl' : vs.length * j.toNat ≤ sizeLine := by
          rw [q3.len, sizeLine_eq]
          exact hc.2.2
        refine ⟨a, j, vs, rfl, ry.int_inv, q1, hc.1, hc.2.1, hl', fun c hc => ?_⟩
        exact p2 G2 (.refl G2) k2 c _ hc (by rw [PyProof.Rows.lm_len_rep_flat, Nat.mul_comm]; exact hl') (q3.rep _)
      · rw [if_neg hc] at p2
        exact p2.elim
    | _ =>
      simp only [e1] at p2
      exact p2.elim

/-! ### slices -/
def SO (S : Sx) (O : List Nat) (t : TO) (m : Env → M (Option Int)) : Prop := ∀ (B : Addr → Prop) (G : Wd) (h : PH) (σ : St) (Γ : Env) (Q : Option Int → Hp → Prop), Here S O B G h σ Γ → Pst S G (m Γ h) (fun o _ G' => Q o G'.H) → t σ G.H Q
structure RO (S : Sx) (O : List Nat) (e : Option Expr) (m : Env → M (Option Int)) : Prop where
  ex : ∃ t, (∀ X, InX S X → PO X e t) ∧ SO S O t m
def oNo : Env → M (Option Int) := fun _ => pur none
def oSome (a : EM) : Env → M (Option Int) := fun Γ => bnd (a Γ) fun d h => match d with
  | .int i => .ok (some i) h
  | _ => .bad
theorem ro_no : RO S O none oNo := ⟨tNoPart, fun X _ => po_none, fun B G h σ Γ Q w p => p.pur w.ok⟩
theorem ro_some {e : Expr} {m : EM} (h : RE S O e m) : RO S O (some e) (oSome m) := by
  obtain ⟨t, h1, h2⟩ := h.ex
  refine ⟨_, fun X hX => po_some (h1 X hX), fun B G h σ Γ Q w p => ?_⟩
  unfold oSome at p
  refine h2 B G h σ Γ _ w (p.bnd.mono fun d h1 G1 t1 k1 p1 v r => ?_)
  cases d with
  | int i => exact ⟨i, r.int_inv, p1 G1 (.refl G1) k1⟩
  | _ => exact p1.elim
def cutD (xs : List D) (lo hi : Option Int) : List D := (xs.drop (HT.sIx xs.length 0 lo)).take (HT.sIx xs.length xs.length hi - HT.sIx xs.length 0 lo)
theorem Reps.cut {G : Wd} {xs : List D} {vs : List V} (r : Reps G xs vs) (lo hi : Option Int) : Reps G (cutD xs lo hi) (cutV vs lo hi) := by
  unfold cutD cutV
  rw [r.len]
  exact (r.drop _).take _
theorem cutV_whole {xs : List V} {lo hi : Option Int} (h : HT.sIx xs.length 0 lo = 0 ∧ HT.sIx xs.length xs.length hi = xs.length) : cutV xs lo hi = xs := by
  unfold cutV
  rw [h.1, h.2]
  simp
/-- t[lo:hi] -/
def gSl (a : EM) (l u : Env → M (Option Int)) : EM := fun Γ => bnd (a Γ) fun x => bnd (l Γ) fun i => bnd (u Γ) fun j => fun h => match x with
  | .tup xs => .ok (.tup (cutD xs i j)) h
  | _ => .bad
theorem re_sl {e : Expr} {lo hi : Option Expr} {p2 pos : Pos} {m : EM} {l u : Env → M (Option Int)} (he : RE S O e m) (hl : RO S O lo l) (hu : RO S O hi u) : RE S O (.Subscript e (.Slice lo hi none p2) pos) (gSl m l u) := by
  obtain ⟨t, h1, h2⟩ := he.ex
  obtain ⟨tl, l1, l2⟩ := hl.ex
  obtain ⟨tu, u1, u2⟩ := hu.ex
  refine ⟨_, fun X hX => pe_slice (r := rSlA S.K) (by rw [← hX.K]; exact sl_tupA) (h1 X hX) (l1 X hX) (u1 X hX), fun B G h σ Γ Q w p => ?_⟩
  unfold gSl at p
  refine h2 B G h σ Γ _ w (p.bnd.mono fun d h1 G1 t1 k1 p1 v r => ?_)
  refine l2 B G1 h1 σ Γ _ (w.to t1 k1) (p1.bnd.mono fun i h2 G2 t2 k2 p2 => ?_)
  refine u2 B G2 h2 σ Γ _ ((w.to t1 k1).to t2 k2) (p2.bnd.mono fun j h3 G3 t3 k3 p3 => ?_)
  have r3 := (r.le t2.le).le t3.le
  have gK : G3.K = S.K := (((w.to t1 k1).to t2 k2).to t3 k3).K
  cases d with
  | tup xs =>
    obtain ⟨a, vs, rfl, q1, q2⟩ := r3.tup_inv
    rw [← gK]
    refine ⟨a, vs, rfl, q1.seq, fun e => ?_, fun e => ?_⟩
    · refine p3 G3 (.refl G3) k3 _ ?_
      unfold Rep
      refine ⟨a, vs, rfl, q1, ?_⟩
      have := q2.cut i j
      rw [cutV_whole e] at this
      exact this
    · exact Pst.layT (ds := cutD xs i j) p3 k3 (Nat.le_trans (cutV_length _ _ _) q1.len) (q2.cut i j)
  | _ => exact p3.elim
/-- xs[lo:hi]: a new list -/
def lSl (a : EM) (l u : Env → M (Option Int)) : LM := fun Γ => bnd (a Γ) fun x => bnd (l Γ) fun i => bnd (u Γ) fun j => fun h => match lAdd.seqL h x with
  | some xs => .ok (cutD xs i j) h
  | none => .bad
theorem rf_sl {e : Expr} {lo hi : Option Expr} {p2 pos : Pos} {m : EM} {l u : Env → M (Option Int)} (he : RB S O e m) (hl : RO S O lo l) (hu : RO S O hi u) : RF S O (.Subscript e (.Slice lo hi none p2) pos) (lSl m l u) := by
  obtain ⟨t, h1, h2⟩ := he.ex
  obtain ⟨tl, l1, l2⟩ := hl.ex
  obtain ⟨tu, u1, u2⟩ := hu.ex
  refine ⟨_, fun X hX => pe_slice (r := rSlL S.K) (by rw [← hX.K]; exact sl_list) (h1 X hX) (l1 X hX) (u1 X hX), fun B G h σ Γ Q w p => ?_⟩
  unfold lSl at p
  refine h2 B G h σ Γ _ w (p.bnd.mono fun d h1 G1 t1 k1 p1 v r => ?_)
  refine l2 B G1 h1 σ Γ _ (w.to t1 k1) (p1.bnd.mono fun i h2 G2 t2 k2 p2 => ?_)
  refine u2 B G2 h2 σ Γ _ ((w.to t1 k1).to t2 k2) (p2.bnd.mono fun j h3 G3 t3 k3 p3 => ?_)
  have r3 := (r.to t2).to t3
  cases e : lAdd.seqL h3 d with
  | none =>
    simp only [e] at p3
    exact p3.elim
  | some xs =>
    simp only [e] at p3
    obtain ⟨a, vs, rfl, q1, q2, q3⟩ := seqL_at k3 r3 e
    refine ⟨a, vs, rfl, SqL.of q1, fun c hc => ?_⟩
    exact p3 G3 (.refl G3) k3 c _ hc (Nat.le_trans (cutV_length _ _ _) q2) (q3.cut i j)


end Sw

set_option maxHeartbeats 400000
/-! Sw, part F: fields, calls, methods, instances, built-in functions. -/
namespace Sw
open PySem PySem.Spec L2
variable {S : Sx} {O : List Nat}

/-! ### fields, methods, calls -/
/-- the classes: where each stands, its fields -/
structure ClsOk (S : Sx) (C : Str) (fs : List Str) : Prop where
  cl : Cls S.K (S.cl C)
  no : ∀ f ∈ fs, NoAttr S.K (S.cl C) f
def gFld (C f : Str) (a : EM) : EM := fun Γ => bnd (a Γ) fun d h => match d with
  | .ref n => (match h[n]? with
    | some (.ins C' fs) => if C' = C then (match getD_ fs f with
      | some x => .ok x h
      | none => .bad) else .bad
    | _ => .bad)
  | _ => .bad
theorem lookup_valV {fs : List (Str × V)} {f : Str} : fs.lookup f = valV fs f := by
  induction fs with
  | nil => rfl
  | cons p r ih =>
    obtain ⟨g, v⟩ := p
    by_cases e : g = f
    · subst e
      rw [valV_pos rfl]
      simp [List.lookup]
    · rw [valV_neg e, ← ih]
      have : (f == g) = false := beq_eq_false_iff_ne.mpr (fun q => e q.symm)
      simp [List.lookup, this]
theorem re_fld {e : Expr} {C f : Str} {fs : List Str} {m : EM} {pos : Pos} (c : ClsOk S C fs) (hf : f ∈ fs) (he : RE S O e m) (hb : ∀ env, attributeBase e f env (eval e env) = eval e env) : RE S O (.Attribute e f pos) (gFld C f m) := by
  obtain ⟨t, h1, h2⟩ := he.ex
  refine ⟨tFld S.K t f, fun X hX => by rw [← hX.K]; exact pe_fld (h1 X hX) (hb _), fun B G h σ Γ Q w p => ?_⟩
  unfold gFld at p
  refine h2 B G h σ Γ _ w (p.bnd.mono fun d h1 G1 t1 k1 p1 v r => ?_)
  cases d with
  | ref n =>
    obtain ⟨a, q1, rfl⟩ := r.ref_inv
    obtain ⟨o, q2, q3⟩ := k1.at q1
    simp only [q2] at p1
    cases o with
    | ins C' gs =>
      simp only at p1
      by_cases hC : C' = C
      · subst hC
        rw [if_pos rfl] at p1
        obtain ⟨dx, gs', q4, q5⟩ := q3
        rcases q5.get (k := f) with ⟨g1, _⟩ | ⟨d, v, g1, g2, g3⟩
        · simp only [g1] at p1
          exact p1.elim
        · simp only [g1] at p1
          have gc : G1.cl = S.cl := (w.to t1 k1).cl
          refine ⟨a, S.cl C', dx, gs', v, rfl, by rw [← gc]; exact q4, c.cl, c.no f hf, by rw [lookup_valV]; exact g2, p1 G1 (.refl G1) k1 v g3⟩
      · rw [if_neg hC] at p1
        exact p1.elim
    | _ => exact p1.elim
  | _ => exact p1.elim

/-- what a def keeps to: its shadow -/
def spM (T : Tx) (n : Nat) (f : List D → M D) : Sp := fun vs H Q E => vs.length = n ∧ ∃ (G : Wd) (h : PH) (ds : List D), G.K = T.K ∧ G.cl = T.cl ∧ G.Ok h ∧ G.H = H ∧ Reps G ds vs ∧
  Pst (T.sx E) G (f ds h) (fun d _ G' => ∀ v, Rep G' d v → Q v G'.H)
theorem Pst.sx {α : Type} {S : Sx} {G : Wd} {r : R α} {Z : α → PH → Wd → Prop} (p : Pst S G r Z) : Pst (S.T.sx S.E) G r Z := by
  cases r with
  | ok a h' => exact p
  | ex c xs h' => exact p
  | bad => exact p
/-- a def of the module, by its name -/
structure FnS (T : Tx) (x : Str) (k n : Nat) (f : List D → M D) : Prop where
  ex : ∃ (a : Addr) (fd : FuncData) (ps : List Str), ps.length = n ∧ FnOk T.P T.w T.K T.mg T.base T.CX k a fd ps (spM T n f) ∧ T.mg x = some (.ref a) ∧ PySem.W.keepIn T.K (.ref a) = true ∧ Binds T.K fd ps []
  nd : (x == ("__debug__" : Str)) = false
/-- a method -/
structure MtS (T : Tx) (C m : Str) (k n : Nat) (f : List D → M D) : Prop where
  ex : ∃ (a : Addr) (fd : FuncData) (ps : List Str), ps.length = n ∧ FnOk T.P T.w T.K T.mg T.base T.CX k a fd ps (spM T n f) ∧ Meth T.K (T.cl C) m a ∧ Binds T.K fd ps []
  cl : Cls T.K (T.cl C)
/-- a class that is made -/
structure MkS (T : Tx) (C : Str) (k n : Nat) (f : List D → M D) : Prop where
  ex : ∃ (a : Addr) (fd : FuncData) (ps : List Str), ps.length = n + 1 ∧ FnOk T.P T.w T.K T.mg T.base T.CX k a fd ps (spM T (n + 1) f) ∧ Mk T.K (T.cl C) a ∧ Binds T.K fd ps []
  mg : T.mg C = some (.ref (T.cl C))
  nd : (C == ("__debug__" : Str)) = false
def gCall (f : List D → M D) (ms : List EM) : EM := fun Γ => bnd (seqA ms Γ) f
theorem here_sp {n : Nat} {f : List D → M D} {B : Addr → Prop} {G : Wd} {h : PH} {σ : St} {Γ : Env} {Q : VK} {ds : List D} {vs : List V} (w : Here S O B G h σ Γ) (hn : ds.length = n) (r : Reps G ds vs)
    (p : Pst S G (f ds h) (fun d _ G' => ∀ v, Rep G' d v → Q v G'.H)) : spM S.T n f vs G.H Q S.E :=
  ⟨by rw [r.len]; exact hn, G, h, ds, w.K, w.cl, w.ok, rfl, r, p.sx⟩
theorem fn_at {X : Cx} (hX : InX S X) {a : Addr} {fd : FuncData} {ps : List Str} {k : Nat} {sp : Sp} (F : FnOk S.P S.w S.K S.mg S.base S.CX k a fd ps sp) : FnOk X.prog X.w X.K X.mg X.base S.CX k a fd ps sp := by
  rw [hX.prog, hX.w, hX.K, hX.mg, hX.base]
  exact F
theorem re_call {x : Str} {n : Nat} {k0 : Nat} {f : List D → M D} {e : Expr} {es : List Expr} {ms : List EM} {p pos : Pos} (F : FnS S.T x k0 n f) (hk0 : k0 ≤ S.k) (g : Gb S x) (ha : RA S O (e :: es) ms) (hn : ms.length = n)
    (hst : ∀ env, starEach (e :: es) env = (false, eval e env) :: starEach es env) (hpl : ∀ env, (backTo pos (starEach es env)).any (·.1) = false) : RE S O (.Call (.Name x p) (e :: es) [] pos) (gCall f ms) := by
  obtain ⟨a, fd, ps, hps, FO, hm, hk, hb⟩ := F.ex
  obtain ⟨t, a1, a2⟩ := ha.ex
  refine ⟨tCall (spM S.T n f) [] S.E t, fun X hX => pe_call (fn_at hX FO) (hX.room.mono hk0) (g.gl hX) (by rw [hX.mg]; exact hm) (by rw [hX.K]; exact hk) (by rw [hX.K]; exact hb) .nil hX.pass (a1 X hX) F.nd (hst _) (hpl _), fun B G h σ Γ Q w p => ?_⟩
  unfold gCall at p
  refine a2 B G h σ Γ _ w (p.bnd.ok_len.mono fun ds h1 G1 t1 k1 ⟨hl, p1⟩ vs r => ?_)
  rw [List.append_nil]
  exact here_sp (w.to t1 k1) (hl.trans hn) r p1
theorem re_call0 {x : Str} {k0 : Nat} {f : List D → M D} {p pos : Pos} (F : FnS S.T x k0 0 f) (hk0 : k0 ≤ S.k) (g : Gb S x) : RE S O (.Call (.Name x p) [] [] pos) (gCall f []) := by
  obtain ⟨a, fd, ps, hps, FO, hm, hk, hb⟩ := F.ex
  refine ⟨tCall (spM S.T 0 f) [] S.E tNil, fun X hX => pe_call0 (fn_at hX FO) (hX.room.mono hk0) (g.gl hX) (by rw [hX.mg]; exact hm) (by rw [hX.K]; exact hk) (by rw [hX.K]; exact hb) .nil hX.pass F.nd, fun B G h σ Γ Q w p => ?_⟩
  unfold gCall at p
  have p1 := p.bnd.pur w.ok
  exact here_sp w rfl .nil p1
/-- o.m(..) -/
def gMeth (C m : Str) (f : List D → M D) (o : EM) (ms : List EM) : EM := fun Γ => bnd (o Γ) fun d => fun h => match d with
  | .ref n => (match h[n]? with
    | some (.ins C' fs) => if C' = C ∧ (getD_ fs m).isNone then bnd (seqA ms Γ) (fun ds => f (d :: ds)) h else .bad
    | _ => .bad)
  | _ => .bad
theorem se_meth {C m : Str} {n : Nat} {f : List D → M D} {o : EM} {ms : List EM} {to : TE} {t : TA} (ho : SE S O to o) (ha : SA S O t (seqA ms)) (hn : ms.length + 1 = n) : SE S O (tMeth (S.cl C) m (spM S.T n f) [] S.E to t) (gMeth C m f o ms) := by
  intro B G h σ Γ Q w p
  unfold gMeth at p
  refine ho B G h σ Γ _ w (p.bnd.mono fun d h1 G1 t1 k1 p1 v r => ?_)
  have w1 := w.to t1 k1
  cases d with
  | ref i =>
    obtain ⟨a, q1, rfl⟩ := r.ref_inv
    obtain ⟨ob, q2, q3⟩ := k1.at q1
    simp only [q2] at p1
    cases ob with
    | ins C' gs =>
      simp only at p1
      by_cases hC : C' = C ∧ (getD_ gs m).isNone = true
      · rw [if_pos hC] at p1
        obtain ⟨hC, hN⟩ := hC
        subst hC
        obtain ⟨dx, gs', q4, q5⟩ := q3
        refine ⟨a, dx, gs', rfl, by rw [← w1.cl]; exact q4, ?_, ?_⟩
        · rw [lookup_valV]
          rcases q5.get (k := m) with ⟨_, g1⟩ | ⟨d, v, g1, _⟩
          · exact g1
          · rw [g1] at hN
            cases hN
        · refine ha B G1 h1 σ Γ _ w1 (p1.bnd.ok_len.mono fun ds h2 G2 t2 k2 ⟨hl, p2⟩ vs rs => ?_)
          rw [List.append_nil]
          exact here_sp (w1.to t2 k2) (by rw [List.length_cons, hl]; exact hn) (.cons (r.le t2.le) rs) p2
      · rw [if_neg hC] at p1
        exact p1.elim
    | _ => exact p1.elim
  | _ => exact p1.elim
theorem re_meth {C m : Str} {n : Nat} {k0 : Nat} {f : List D → M D} {o : Expr} {mo : EM} {e : Expr} {es : List Expr} {ms : List EM} {apos pos : Pos} {pl : PySem.Env → Sem Bool} (F : MtS S.T C m k0 n f) (hk0 : k0 ≤ S.k) (ho : RE S O o mo) (ha : RA S O (e :: es) ms) (hn : ms.length + 1 = n)
    (hst : ∀ env, starEach (e :: es) env = (false, eval e env) :: starEach es env) (hpl : ∀ env, (backTo pos (starEach es env)).any (·.1) = false)
    (ht : ∀ env, eval (.Call (.Attribute o m apos) (e :: es) [] pos) env = (do
      let ov ← eval o env
      standAt apos.atName
      let (f, first) ← holding [ov] (getMethod ov m (pl env))
      callWith pos f first (backTo pos (starEach (e :: es) env)) (backToKw pos (keywordEach [] env)))) : RE S O (.Call (.Attribute o m apos) (e :: es) [] pos) (gMeth C m f mo ms) := by
  obtain ⟨a, fd, ps, hps, FO, hm, hb⟩ := F.ex
  obtain ⟨to, o1, o2⟩ := ho.ex
  obtain ⟨t, a1, a2⟩ := ha.ex
  exact ⟨tMeth (S.cl C) m (spM S.T n f) [] S.E to t, fun X hX => pe_meth (pl := pl X.env) (o1 X hX) (by rw [hX.K]; exact F.cl) (by rw [hX.K]; exact hm) (fn_at hX FO) (hX.room.mono hk0) (by rw [hX.K]; exact hb) .nil hX.pass (a1 X hX) (hst _) (hpl _) (ht _), se_meth o2 a2 hn⟩
theorem re_meth0 {C m : Str} {k0 : Nat} {f : List D → M D} {o : Expr} {mo : EM} {apos pos : Pos} {pl : PySem.Env → Sem Bool} (F : MtS S.T C m k0 1 f) (hk0 : k0 ≤ S.k) (ho : RE S O o mo)
    (ht : ∀ env, eval (.Call (.Attribute o m apos) [] [] pos) env = (do
      let ov ← eval o env
      standAt apos.atName
      let (f, first) ← holding [ov] (getMethod ov m (pl env))
      callWith pos f first (backTo pos (starEach [] env)) (backToKw pos (keywordEach [] env)))) : RE S O (.Call (.Attribute o m apos) [] [] pos) (gMeth C m f mo []) := by
  obtain ⟨a, fd, ps, hps, FO, hm, hb⟩ := F.ex
  obtain ⟨to, o1, o2⟩ := ho.ex
  exact ⟨tMeth (S.cl C) m (spM S.T 1 f) [] S.E to tNil, fun X hX => pe_meth0 (pl := pl X.env) (o1 X hX) (by rw [hX.K]; exact F.cl) (by rw [hX.K]; exact hm) (fn_at hX FO) (hX.room.mono hk0) (by rw [hX.K]; exact hb) .nil hX.pass (ht _), se_meth (t := tNil) (ms := []) o2 (fun B G h σ Γ Q w p => (p.pur w.ok) [] .nil) rfl⟩
/-- C(..) -/
def gMake (C : Str) (f : List D → M D) (ms : List EM) : EM := fun Γ => bnd (seqA ms Γ) fun ds => fun h => match f (.ref h.length :: ds) (h ++ [.ins C []]) with
  | .ok .non h' => .ok (.ref h.length) h'
  | .ok _ _ => .bad
  | .ex c xs h' => .ex c xs h'
  | .bad => .bad
theorem made_ob {G : Wd} {h : PH} (k : G.Ok h) {x dx : Addr} {C : Str} (hx : G.H x = none) (hd : G.H dx = none) (hne : dx ≠ x) :
    ((G.lay dx (.own x)).layO x (.ins (G.cl C) dx [])).Ok (h ++ [.ins C []]) ∧ G.To ((G.lay dx (.own x)).layO x (.ins (G.cl C) dx [])) ∧ Rep ((G.lay dx (.own x)).layO x (.ins (G.cl C) dx [])) (.ref h.length) (.ref x) := by
  have k1 := Wd.lay_ok k (o := .own x) hd
  have hx1 : (G.lay dx (.own x)).H x = none := (upd_ne (fun q => hne q.symm)).trans hx
  exact ⟨Wd.layO_ok k1 hx1 ⟨dx, [], upd_same, .nil⟩, (Wd.lay_to k hd).trans (Wd.layO_to k1 hx1), rep_layO k1⟩
theorem se_make {C : Str} {n : Nat} {f : List D → M D} {ms : List EM} {t : TA} (ha : SA S O t (seqA ms)) (hn : ms.length = n) : SE S O (tMake (S.cl C) (spM S.T (n + 1) f) [] S.E t) (gMake C f ms) := by
  intro B G h σ Γ Q w p
  unfold gMake at p
  refine ha B G h σ Γ _ w (p.bnd.ok_len.mono fun ds h1 G1 t1 k1 ⟨hl, p1⟩ vs r => ?_)
  intro x dx hx hd hne
  have w1 := w.to t1 k1
  obtain ⟨q1, q2, q3⟩ := made_ob k1 (C := C) hx hd hne
  rw [List.append_nil]
  have e : upd (upd G1.H dx (.own x)) x (.ins (S.cl C) dx []) = ((G1.lay dx (.own x)).layO x (.ins (G1.cl C) dx [])).H := by rw [w1.cl]; rfl
  rw [e]
  refine here_sp (w1.to q2 q1) (ds := .ref h1.length :: ds) (by rw [List.length_cons, hl, hn]) (.cons q3 (Reps.le q2.le _ r)) ?_
  cases e2 : f (.ref h1.length :: ds) (h1 ++ [.ins C []]) with
  | ok d h2 =>
    simp only [e2] at p1
    intro G2 t2 k2 v rv
    cases d with
    | non => exact ⟨rv.non_inv, p1 G2 (q2.trans t2) k2 _ (q3.le t2.le)⟩
    | _ => exact p1.elim
  | ex c xs h2 =>
    simp only [e2] at p1
    exact ⟨p1.1, fun G2 dx2 t2 k2 xr => p1.2 G2 dx2 (q2.trans t2) k2 xr⟩
  | bad =>
    simp only [e2] at p1
    exact p1
theorem re_make {C : Str} {n : Nat} {k0 : Nat} {f : List D → M D} {e : Expr} {es : List Expr} {ms : List EM} {p pos : Pos} (F : MkS S.T C k0 n f) (hk0 : k0 + 1 ≤ S.k) (g : Gb S C) (ha : RA S O (e :: es) ms) (hn : ms.length = n)
    (hst : ∀ env, starEach (e :: es) env = (false, eval e env) :: starEach es env) (hpl : ∀ env, (backTo pos (starEach es env)).any (·.1) = false) : RE S O (.Call (.Name C p) (e :: es) [] pos) (gMake C f ms) := by
  obtain ⟨a, fd, ps, hps, FO, mk, hb⟩ := F.ex
  obtain ⟨t, a1, a2⟩ := ha.ex
  exact ⟨tMake (S.cl C) (spM S.T (n + 1) f) [] S.E t, fun X hX => pe_make (by rw [hX.K]; exact mk) (fn_at hX FO) (hX.room.mono hk0) (g.gl hX) (by rw [hX.mg]; exact F.mg) (by rw [hX.K]; exact hb) .nil hX.pass (a1 X hX) F.nd (hst _) (hpl _), se_make a2 hn⟩

/-! ### built-in functions of values -/
structure BfS (S : Sx) (x : Str) (f : List D → M D) : Prop where
  ex : ∃ (id : String) (r : List V → Hp → VK → Prop), (∀ X, InX S X → CallR X (.builtin id) r) ∧ bootBuiltins x = some (.builtin id) ∧
    ∀ (G : Wd) (h : PH) (vs : List V) (ds : List D) (Q : VK), G.K = S.K → G.cl = S.cl → G.Ok h → Reps G ds vs → Pst S G (f ds h) (fun d _ G' => ∀ v, Rep G' d v → Q v G'.H) → r vs G.H Q
  mg : S.mg x = none
  n1 : x ≠ "__name__"
  n2 : (x == ("__debug__" : Str)) = false
theorem re_bf {x : Str} {f : List D → M D} {e : Expr} {es : List Expr} {ms : List EM} {p pos : Pos} (F : BfS S x f) (g : Gb S x) (ha : RA S O (e :: es) ms)
    (hst : ∀ env, starEach (e :: es) env = (false, eval e env) :: starEach es env) (hpl : ∀ env, (backTo pos (starEach es env)).any (·.1) = false) : RE S O (.Call (.Name x p) (e :: es) [] pos) (gCall f ms) := by
  obtain ⟨id, r, h1, h2, h3⟩ := F.ex
  obtain ⟨t, a1, a2⟩ := ha.ex
  refine ⟨tCB r t, fun X hX => pe_callB (h1 X hX) (g.gl hX) (by rw [hX.mg]; exact F.mg) h2 (a1 X hX) F.n1 F.n2 (hst _) (hpl _), fun B G h σ Γ Q w p => ?_⟩
  unfold gCall at p
  refine a2 B G h σ Γ _ w (p.bnd.mono fun ds h1 G1 t1 k1 p1 vs rs => ?_)
  have w1 := w.to t1 k1
  exact h3 G1 h1 vs ds Q w1.K w1.cl k1 rs p1
def bMax : List D → M D
  | [.int i, .int j] => pur (.int (if j > i then j else i))
  | _ => bad
def bMin : List D → M D
  | [.int i, .int j] => pur (.int (if j < i then j else i))
  | _ => bad
theorem reps2 {G : Wd} {a b : D} {vs : List V} (h : Reps G [a, b] vs) : ∃ u v, vs = [u, v] ∧ Rep G a u ∧ Rep G b v := by
  obtain ⟨u, r, rfl, h1, h2⟩ := h.cons_inv
  obtain ⟨v, r', rfl, h3, h4⟩ := h2.cons_inv
  rw [h4.nil_inv]
  exact ⟨u, v, rfl, h1, h3⟩
theorem reps1 {G : Wd} {a : D} {vs : List V} (h : Reps G [a] vs) : ∃ u, vs = [u] ∧ Rep G a u := by
  obtain ⟨u, r, rfl, h1, h2⟩ := h.cons_inv
  rw [h2.nil_inv]
  exact ⟨u, rfl, h1⟩
theorem bf_max (m : S.mg "max" = none) : BfS S "max" bMax := by
  refine ⟨⟨"max", _, fun X hX => call_max2 hX.calm, by decide +kernel, fun G h vs ds Q gK gc k r p => ?_⟩, m, by decide +kernel, by decide +kernel⟩
  unfold bMax at p
  split at p
  · rename_i i j
    obtain ⟨u, v, rfl, h1, h2⟩ := reps2 r
    exact ⟨i, j, by rw [h1.int_inv, h2.int_inv], p G (.refl G) k _ .of_int⟩
  · exact p.elim
theorem bf_min (m : S.mg "min" = none) : BfS S "min" bMin := by
  refine ⟨⟨"min", _, fun X hX => call_min2 hX.calm, by decide +kernel, fun G h vs ds Q gK gc k r p => ?_⟩, m, by decide +kernel, by decide +kernel⟩
  unfold bMin at p
  split at p
  · rename_i i j
    obtain ⟨u, v, rfl, h1, h2⟩ := reps2 r
    exact ⟨i, j, by rw [h1.int_inv, h2.int_inv], p G (.refl G) k _ .of_int⟩
  · exact p.elim
end Sw

set_option maxHeartbeats 400000
/-! Sw, part G: built-in functions of one thing, list methods. -/
namespace Sw
open PySem PySem.Spec L2
variable {S : Sx} {O : List Nat}

/-! ### a built-in called with one thing that is looked at -/
/-- by values -/
def C1 (S : Sx) (r : List V → Hp → VK → Prop) (f : D → M D) : Prop := ∀ (G : Wd) (h : PH) (x : V) (d : D) (Q : VK), G.K = S.K → G.cl = S.cl → G.Ok h → BRep G d x →
  Pst S G (f d h) (fun d _ G' => ∀ v, Rep G' d v → Q v G'.H) → r [x] G.H Q
/-- .. giving a new list -/
def C1F (S : Sx) (r : List V → Hp → VK → Prop) (f : D → M (List D)) : Prop := ∀ (G : Wd) (h : PH) (x : V) (d : D) (Q : VK), G.K = S.K → G.cl = S.cl → G.Ok h → BRep G d x →
  Pst S G (f d h) (fun ds _ G' => ∀ p vs, G'.H p = none → vs.length ≤ sizeLine → Reps G' ds vs → Q (.ref p) (upd G'.H p (.lst vs))) → r [x] G.H Q
theorem se_c1 {r : List V → Hp → VK → Prop} {f : D → M D} {t : TE} {m : EM} (c : C1 S r f) (h : SB S O t m) : SE S O (tCB r (tCons t tNil)) (g1 f m) := by
  intro B G h0 σ Γ Q w p
  unfold g1 at p
  refine h B G h0 σ Γ _ w (p.bnd.mono fun d h1 G1 t1 k1 p1 v rv => ?_)
  exact c G1 h1 v d Q (w.to t1 k1).K (w.to t1 k1).cl k1 rv p1
def l1 (f : D → M (List D)) (a : EM) : LM := fun Γ => bnd (a Γ) fun x => f x
theorem sf_c1 {r : List V → Hp → VK → Prop} {f : D → M (List D)} {t : TE} {m : EM} (c : C1F S r f) (h : SB S O t m) : SF S O (tCB r (tCons t tNil)) (l1 f m) := by
  intro B G h0 σ Γ Q w p
  unfold l1 at p
  refine h B G h0 σ Γ _ w (p.bnd.mono fun d h1 G1 t1 k1 p1 v rv => ?_)
  exact c G1 h1 v d Q (w.to t1 k1).K (w.to t1 k1).cl k1 rv p1
/-- the name of a built-in function, of a built-in class -/
structure BiF (S : Sx) (x : Str) (id : String) : Prop where
  g : Gb S x
  m : S.mg x = none
  v : bootBuiltins x = some (.builtin id)
  n1 : x ≠ "__name__"
  n2 : (x == ("__debug__" : Str)) = false
structure BiT (S : Sx) (x : Str) (T : String) : Prop where
  g : Gb S x
  m : S.mg x = none
  v : bootBuiltins x = some (.type T)
  n1 : x ≠ "__name__"
  n2 : (x == ("__debug__" : Str)) = false
/-- the rule that a built-in function keeps -/
structure F1 (S : Sx) (id : String) (f : D → M D) : Prop where
  ex : ∃ r, (∀ X, InX S X → CallR X (.builtin id) r) ∧ C1 S r f
structure T1 (S : Sx) (T : String) (f : D → M D) : Prop where
  ex : ∃ r, (∀ X, InX S X → CallR X (.type T) r) ∧ C1 S r f
structure F1F (S : Sx) (id : String) (f : D → M (List D)) : Prop where
  ex : ∃ r, (∀ X, InX S X → CallR X (.builtin id) r) ∧ C1F S r f
structure T1F (S : Sx) (T : String) (f : D → M (List D)) : Prop where
  ex : ∃ r, (∀ X, InX S X → CallR X (.type T) r) ∧ C1F S r f
section
variable {x : Str} {id T : String} {e : Expr} {m : EM} {p pos : Pos}
theorem pe_arg1 {t : TE} {X : Cx} (h : PE X e t) (hst : ∀ env, starEach [e] env = (false, eval e env) :: starEach [] env) : PA X [e] (tCons t tNil) := pa_cons h pa_nil (hst _)
theorem re_f1 {f : D → M D} (b : BiF S x id) (F : F1 S id f) (h : RB S O e m) (hst : ∀ env, starEach [e] env = (false, eval e env) :: starEach [] env) (hpl : ∀ env, (backTo pos (starEach [] env)).any (·.1) = false) : RE S O (.Call (.Name x p) [e] [] pos) (g1 f m) := by
  obtain ⟨r, r1, r2⟩ := F.ex
  obtain ⟨t, h1, h2⟩ := h.ex
  exact ⟨_, fun X hX => pe_callB (r1 X hX) (b.g.gl hX) (by rw [hX.mg]; exact b.m) b.v (pe_arg1 (h1 X hX) hst) b.n1 b.n2 (hst _) (hpl _), se_c1 r2 h2⟩
theorem re_t1 {f : D → M D} (b : BiT S x T) (F : T1 S T f) (h : RB S O e m) (hst : ∀ env, starEach [e] env = (false, eval e env) :: starEach [] env) (hpl : ∀ env, (backTo pos (starEach [] env)).any (·.1) = false) : RE S O (.Call (.Name x p) [e] [] pos) (g1 f m) := by
  obtain ⟨r, r1, r2⟩ := F.ex
  obtain ⟨t, h1, h2⟩ := h.ex
  exact ⟨_, fun X hX => pe_callTy (r1 X hX) (b.g.gl hX) (by rw [hX.mg]; exact b.m) b.v (pe_arg1 (h1 X hX) hst) b.n1 b.n2 (hst _) (hpl _), se_c1 r2 h2⟩
theorem rf_f1 {f : D → M (List D)} (b : BiF S x id) (F : F1F S id f) (h : RB S O e m) (hst : ∀ env, starEach [e] env = (false, eval e env) :: starEach [] env) (hpl : ∀ env, (backTo pos (starEach [] env)).any (·.1) = false) : RF S O (.Call (.Name x p) [e] [] pos) (l1 f m) := by
  obtain ⟨r, r1, r2⟩ := F.ex
  obtain ⟨t, h1, h2⟩ := h.ex
  exact ⟨_, fun X hX => pe_callB (r1 X hX) (b.g.gl hX) (by rw [hX.mg]; exact b.m) b.v (pe_arg1 (h1 X hX) hst) b.n1 b.n2 (hst _) (hpl _), sf_c1 r2 h2⟩
theorem rf_t1 {f : D → M (List D)} (b : BiT S x T) (F : T1F S T f) (h : RB S O e m) (hst : ∀ env, starEach [e] env = (false, eval e env) :: starEach [] env) (hpl : ∀ env, (backTo pos (starEach [] env)).any (·.1) = false) : RF S O (.Call (.Name x p) [e] [] pos) (l1 f m) := by
  obtain ⟨r, r1, r2⟩ := F.ex
  obtain ⟨t, h1, h2⟩ := h.ex
  exact ⟨_, fun X hX => pe_callTy (r1 X hX) (b.g.gl hX) (by rw [hX.mg]; exact b.m) b.v (pe_arg1 (h1 X hX) hst) b.n1 b.n2 (hst _) (hpl _), sf_c1 r2 h2⟩
end
/-! len -/
def dLen (d : D) : M D := fun h => match d with
  | .str z => if z.cps.size ≤ 16777216 then .ok (.int z.cps.size) h else .bad
  | d => (match seqD h d with
    | some xs => .ok (.int xs.length) h
    | none => .bad)
def rLen1 (K : PySem.W.Frag) : List V → Hp → VK → Prop := fun xs H Q => ∃ x n, xs = [x] ∧ LenV K x H n ∧ Q (.int (n : Nat)) H
theorem f_len : F1 S "len" dLen := by
  refine ⟨rLen1 S.K, fun X hX => by rw [← hX.K]; exact call_len, fun G h x d Q gK gc k r p => ?_⟩
  have seq : Pst S G (match seqD h d with
      | some xs => .ok (.int xs.length) h
      | none => .bad : R D) (fun d _ G' => ∀ v, Rep G' d v → Q v G'.H) → rLen1 S.K [x] G.H Q := by
    intro p
    cases e : seqD h d with
    | none =>
      rw [e] at p
      exact p.elim
    | some xs =>
      rw [e] at p
      obtain ⟨a, vs, rfl, h1, h2, h3⟩ := seq_at k r e
      refine ⟨_, vs.length, rfl, ?_, ?_⟩
      · rw [← gK]
        rcases h1 with h1 | h1
        · exact .inl ⟨vs, h1, rfl⟩
        · exact .inr ⟨vs, h1, rfl⟩
      · rw [h3.len]
        exact p G (.refl G) k _ .of_int
  unfold dLen at p
  cases d with
  | str z =>
    by_cases hz : z.cps.size ≤ 16777216
    · simp only [if_pos hz] at p
      refine ⟨x, z.cps.size, rfl, ?_, p G (.refl G) k _ .of_int⟩
      rw [r.str_inv.1]
      exact ⟨by rw [sizeLine_eq]; exact hz, rfl⟩
    · simp only [if_neg hz] at p
      exact p.elim
  | _ => exact seq p
/-! isinstance of a built-in class -/
def isTy (T : String) (d : D) : M D := fun h => match d with
  | .non => .ok (.bl false) h
  | .bl _ => .ok (.bl (T == "bool" || T == "int")) h
  | .int _ => .ok (.bl (T == "int")) h
  | .str _ => .ok (.bl (T == "str")) h
  | .tup _ => .ok (.bl (T == "tuple")) h
  | .lst _ => .ok (.bl (T == "list")) h
  | .rd _ => .ok (.bl (T == "list")) h
  | .ref n => (match h[n]? with
    | some (.lst _) => .ok (.bl (T == "list")) h
    | some (.dct _) => .ok (.bl false) h
    | some (.dtu _) => .ok (.bl false) h
    | _ => .bad)
  | .clo _ _ => .bad
/-- a built-in class that isinstance is asked of -/
structure IsT (T : String) : Prop where
  a : kitB "NoneType" T = some false
  b : kitB "bool" T = some (T == "bool" || T == "int")
  i : kitB "int" T = some (T == "int")
  s : kitB "str" T = some (T == "str")
  t : kitB "tuple" T = some (T == "tuple")
  l : kitB "list" T = some (T == "list")
  d : kitB "dict" T = some false
theorem ist_int : IsT "int" := ⟨by decide +kernel, by decide +kernel, by decide +kernel, by decide +kernel, by decide +kernel, by decide +kernel, by decide +kernel⟩
theorem ist_bool : IsT "bool" := ⟨by decide +kernel, by decide +kernel, by decide +kernel, by decide +kernel, by decide +kernel, by decide +kernel, by decide +kernel⟩
theorem ist_str : IsT "str" := ⟨by decide +kernel, by decide +kernel, by decide +kernel, by decide +kernel, by decide +kernel, by decide +kernel, by decide +kernel⟩
theorem ist_tuple : IsT "tuple" := ⟨by decide +kernel, by decide +kernel, by decide +kernel, by decide +kernel, by decide +kernel, by decide +kernel, by decide +kernel⟩
theorem ist_list : IsT "list" := ⟨by decide +kernel, by decide +kernel, by decide +kernel, by decide +kernel, by decide +kernel, by decide +kernel, by decide +kernel⟩
theorem AtT.ty {G : Wd} {a : Addr} {vs : List V} (h : AtT G a vs) : TyX G.K G.H (.ref a) (.type "tuple") := by
  rcases h with ⟨h, _⟩ | ⟨o, its, n, h1, h2, _⟩
  · exact .base (.tup h)
  · exact .kTuple h1 h2
theorem AtR.ty {G : Wd} {a : Addr} {vs : List V} (h : AtR G a vs) : TyX G.K G.H (.ref a) (.type "list") := by
  rcases h with ⟨h | ⟨o, h⟩, _⟩ | ⟨o, its, n, h1, h2, _⟩
  · exact .base (.lst h)
  · exact .base (.frz h)
  · exact .kList h1 h2
theorem rep_isTy {T : String} (it : IsT T) {G : Wd} {h : PH} {x : V} {d : D} {Q : VK} (k : G.Ok h) (r : BRep G d x) (p : Pst S G (isTy T d h) (fun d _ G' => ∀ v, Rep G' d v → Q v G'.H)) :
    ∃ t b, TyX G.K G.H x (.type t) ∧ kitB t T = some b ∧ Q (.bl b) G.H := by
  cases d with
  | non => exact ⟨_, _, by rw [r.non_inv]; exact .base .non, it.a, p G (.refl G) k _ .of_bl⟩
  | bl b => exact ⟨_, _, by rw [r.bl_inv]; exact .base (.bl b), it.b, p G (.refl G) k _ .of_bl⟩
  | int b => exact ⟨_, _, by rw [r.int_inv]; exact .base (.int b), it.i, p G (.refl G) k _ .of_bl⟩
  | str b => exact ⟨_, _, by rw [r.str_inv.1]; exact .base (.str b), it.s, p G (.refl G) k _ .of_bl⟩
  | tup b =>
    obtain ⟨a, vs, rfl, h1, _⟩ := r.tup_inv
    exact ⟨_, _, h1.ty, it.t, p G (.refl G) k _ .of_bl⟩
  | lst b =>
    rcases r with r | ⟨xs, a, vs, e, rfl, h1, h2, _⟩
    · obtain ⟨a, vs, rfl, h1, _⟩ := r.lst_inv
      exact ⟨_, _, .base (.lst h1.1), it.l, p G (.refl G) k _ .of_bl⟩
    · exact ⟨_, _, .base (.lst h2), it.l, p G (.refl G) k _ .of_bl⟩
  | rd b =>
    obtain ⟨a, rfl, h1⟩ := r.rd_inv
    exact ⟨_, _, h1.ty, it.l, p G (.refl G) k _ .of_bl⟩
  | ref n =>
    obtain ⟨a, h1, rfl⟩ := r.ref_inv
    obtain ⟨o, h2, h3⟩ := k.at h1
    unfold isTy at p
    simp only [h2] at p
    cases o with
    | lst xs =>
      obtain ⟨vs, q1, _⟩ := h3
      exact ⟨_, _, .base (.lst q1), it.l, p G (.refl G) k _ .of_bl⟩
    | dct xs =>
      obtain ⟨vs, q1, _⟩ := h3
      exact ⟨_, _, .base (.dK q1), it.d, p G (.refl G) k _ .of_bl⟩
    | dtu xs =>
      obtain ⟨vs, q1, _⟩ := h3
      exact ⟨_, _, .base (.dT q1), it.d, p G (.refl G) k _ .of_bl⟩
    | ins C fs => exact p.elim
  | clo _ _ => exact p.elim
theorem re_isi {x T : Str} {Tn : String} {e : Expr} {m : EM} {p p2 pos : Pos} (it : IsT Tn) (b : BiF S x "isinstance") (c : BiT S T Tn) (h : RB S O e m) (hst : ∀ env, starEach [e, .Name T p2] env = [(false, eval e env), (false, eval (.Name T p2) env)])
    (hs2 : ∀ env q, starEach [.Name T q] env = [(false, eval (.Name T q) env)]) : RE S O (.Call (.Name x p) [e, .Name T p2] [] pos) (g1 (isTy Tn) m) := by
  obtain ⟨t, h1, h2⟩ := h.ex
  refine ⟨tCB (rIsi S.K) (tCons t (tCons (tC (.ty Tn)) tNil)), fun X hX => ?_, fun B G h σ Γ Q w p => ?_⟩
  · refine pe_callB (by rw [← hX.K]; exact call_isi) (b.g.gl hX) (by rw [hX.mg]; exact b.m) b.v ?_ b.n1 b.n2 ?_ ?_
    · exact pa_cons (h1 X hX) (pa_cons (pe_bltn (c.g.gl hX) (by rw [hX.mg]; exact c.m) c.v (show RelV (.ty Tn) (.type Tn) from rfl) c.n1 c.n2) pa_nil (by rw [hs2] <;> rfl)) (by rw [hst, hs2])
    · rw [hst, hs2]
    · rw [hs2]
      rfl
  · unfold g1 at p
    refine h2 B G h σ Γ _ w (p.bnd.mono fun d h1 G1 t1 k1 p1 v r => ?_)
    obtain ⟨t, b, q1, q2, q3⟩ := rep_isTy it k1 r p1
    have w1 := w.to t1 k1
    rw [← w1.K]
    exact ⟨v, .ty Tn, .type t, .type Tn, b, rfl, .ty Tn, q1, kit_ty q2, q3⟩
/-! int(x), list(x), tuple(x), sum(x) -/
def dInt : D → M D
  | .int i => pur (.int i)
  | .bl b => pur (.int (if b then 1 else 0))
  | _ => bad
theorem t_int : T1 S "int" dInt := by
  refine ⟨_, fun X hX => call_int1, fun G h x d Q gK gc k r p => ?_⟩
  cases d with
  | int i => exact .inl ⟨i, by rw [r.int_inv], p G (.refl G) k _ .of_int⟩
  | bl i => exact .inr ⟨i, by rw [r.bl_inv], p G (.refl G) k _ .of_int⟩
  | _ => exact p.elim
def dList (d : D) : M (List D) := fun h => match seqD h d with
  | some xs => .ok xs h
  | none => .bad
def rListOf (K : PySem.W.Frag) : List V → Hp → VK → Prop := fun xs H Q => ∃ p ys, xs = [.ref p] ∧ (SqL K H p ys ∨ SqT K H p ys) ∧ ∀ l, H l = none → Q (.ref l) (upd H l (.lst ys))
theorem t_list : T1F S "list" dList := by
  refine ⟨rListOf S.K, fun X hX => by rw [← hX.K]; exact call_list_of, fun G h x d Q gK gc k r p => ?_⟩
  unfold dList at p
  cases e : seqD h d with
  | none =>
    rw [e] at p
    exact p.elim
  | some xs =>
    rw [e] at p
    obtain ⟨a, vs, rfl, h1, h2, h3⟩ := seq_at k r e
    rw [← gK]
    exact ⟨a, vs, rfl, h1, fun l hl => p G (.refl G) k l vs hl h2 h3⟩
def dTuple : D → M D
  | .tup xs => pur (.tup xs)
  | .lst xs => pur (.tup xs)
  | .ref n => fun h => (match h[n]? with
    | some (.lst xs) => .ok (.tup xs) h
    | _ => .bad)
  | _ => bad
def rTupOf (K : PySem.W.Frag) : List V → Hp → VK → Prop := fun xs H Q => ∃ p ys, xs = [.ref p] ∧ ((SqL K H p ys ∧ ∀ l, H l = none → Q (.ref l) (upd H l (.tup ys))) ∨ (SqT K H p ys ∧ Q (.ref p) H))
theorem t_tuple : T1 S "tuple" dTuple := by
  refine ⟨rTupOf S.K, fun X hX => by rw [← hX.K]; exact call_tuple_of, fun G h x d Q gK gc k r p => ?_⟩
  cases d with
  | tup xs =>
    obtain ⟨a, vs, rfl, h1, h2⟩ := r.tup_inv
    rw [← gK]
    refine ⟨a, vs, rfl, .inr ⟨h1.seq, p G (.refl G) k _ ?_⟩⟩
    unfold Rep
    exact ⟨a, vs, rfl, h1, h2⟩
  | lst xs =>
    obtain ⟨a, vs, rfl, h1, h2, h3⟩ := seqL_at k r (xs := xs) rfl
    exact ⟨a, vs, rfl, .inl ⟨SqL.of h1, Pst.layT p k h2 h3⟩⟩
  | ref n =>
    obtain ⟨a, h1, rfl⟩ := r.ref_inv
    obtain ⟨o, h2, h3⟩ := k.at h1
    have p : Pst S G (match h[n]? with
      | some (.lst xs) => .ok (.tup xs) h
      | _ => .bad : R D) (fun d _ G' => ∀ v, Rep G' d v → Q v G'.H) := p
    rw [h2] at p
    cases o with
    | lst xs =>
      obtain ⟨vs, q1, q2, q3⟩ := h3
      exact ⟨a, vs, rfl, .inl ⟨SqL.of q1, Pst.layT p k q2 q3⟩⟩
    | _ => exact p.elim
  | _ => exact p.elim
def intsD : List D → Option (List Int)
  | [] => some []
  | .int i :: r => (intsD r).map fun s => i :: s
  | _ :: _ => none
theorem intsD_v {G : Wd} : ∀ {xs : List D} {vs : List V} {ns : List Int}, Reps G xs vs → intsD xs = some ns → vs = ns.map V.int
  | [], vs, ns, r, e => by
    cases e
    rw [r.nil_inv]
    rfl
  | d :: xs, vs, ns, r, e => by
    obtain ⟨v, s, rfl, h1, h2⟩ := r.cons_inv
    cases d with
    | int i =>
      obtain ⟨ms, e1, e2⟩ := Option.map_eq_some_iff.mp (show (intsD xs).map (fun s => i :: s) = some ns from e)
      rw [← e2, intsD_v h2 e1, h1.int_inv]
      rfl
    | _ => cases e
def dSum (d : D) : M D := fun h => match lAdd.seqL h d with
  | some xs => (match intsD xs with
    | some ns => .ok (.int ns.sum) h
    | none => .bad)
  | none => .bad
theorem f_sum : F1 S "sum" dSum := by
  refine ⟨rSum S.K, fun X hX => by rw [← hX.K]; exact cr_sum hX.calm, fun G h x d Q gK gc k r p => ?_⟩
  unfold dSum at p
  cases e : lAdd.seqL h d with
  | none =>
    rw [e] at p
    exact p.elim
  | some xs =>
    rw [e] at p
    cases e2 : intsD xs with
    | none =>
      simp only [e2] at p
      exact p.elim
    | some ns =>
      simp only [e2] at p
      obtain ⟨a, vs, rfl, h1, h2, h3⟩ := seqL_at k r e
      rw [intsD_v h3 e2] at h1
      exact ⟨a, ns, rfl, SqL.of h1, p G (.refl G) k _ .of_int⟩

/-! ### the methods of lists -/
/-- a method of lists: what it gives back and what the list is then -/
structure LmS (S : Sx) (m : Str) (f : PH → List D → List D → Option (D × List D)) : Prop where
  ex : ∃ (id : String) (r : V → List V → Hp → VK → Prop), PlainAttrs "list" ∧ Slot "list" m id ∧ typeOf (.builtin id) = pure (.type "method_descriptor") ∧ (∀ X, InX S X → MtR X id r) ∧
    ∀ (G : Wd) (h : PH) (a : Addr) (vs us : List V) (xs ys zs : List D) (d : D) (Q : VK), G.K = S.K → G.Ok h → G.H a = some (.lst vs) → vs.length ≤ sizeLine → Reps G xs vs → Reps G ys us → f h xs ys = some (d, zs) →
      (∀ v ws, Rep G d v → Reps G zs ws → ws.length ≤ sizeLine → Q v (upd G.H a (.lst ws))) → r (.ref a) us G.H Q
end Sw

set_option maxHeartbeats 400000
/-! Sw, part H: list methods, statements, loops. -/
namespace Sw
open PySem PySem.Spec L2
variable {S : Sx} {O : List Nat}

def mApp (h : PH) (xs ys : List D) : Option (D × List D) := match ys with
  | [y] => if xs.length < 16777216 then some (.non, xs ++ [y]) else none
  | _ => none
theorem m_app : LmS S "append" mApp := by
  refine ⟨_, rAppend, PySem.F.plainAttrs_list, PySem.F.slot_list_append, PySem.F.type_list_append, fun X _ => mt_append, fun G h a vs us xs ys zs d Q gK k e hz r q f p => ?_⟩
  unfold mApp at f
  split at f
  · rename_i y
    split at f
    · rename_i hl
      cases f
      obtain ⟨u, rfl, hu⟩ := reps1 q
      have hl' : vs.length < sizeLine := by
        rw [r.len, sizeLine_eq]
        exact hl
      exact ⟨a, vs, u, rfl, rfl, e, hl', p _ _ .of_non (r.app (.one hu)) (by rw [List.length_append]; exact hl')⟩
    · cases f
  · cases f
def mExt (h : PH) (xs ys : List D) : Option (D × List D) := match ys with
  | [y] => (match lAdd.seqL h y with
    | some zs => if xs.length + zs.length ≤ 16777216 then some (.non, xs ++ zs) else none
    | none => none)
  | _ => none
theorem m_ext : LmS S "extend" mExt := by
  refine ⟨_, rExtend, PySem.F.plainAttrs_list, PySem.F.slot_list_extend, PySem.F.type_list_extend, fun X _ => mt_extend, fun G h a vs us xs ys zs d Q gK k e hz r q f p => ?_⟩
  unfold mExt at f
  split at f
  · rename_i y
    obtain ⟨u, rfl, hu⟩ := reps1 q
    cases e1 : lAdd.seqL h y with
    | none =>
      simp only [e1] at f
      cases f
    | some ws =>
      simp only [e1] at f
      split at f
      · rename_i hl
        cases f
        obtain ⟨b, ts, rfl, b1, b2, b3⟩ := seqL_at k (.inl hu) e1
        have hl' : vs.length + ts.length ≤ sizeLine := by
          rw [r.len, b3.len, sizeLine_eq]
          exact hl
        exact ⟨a, b, vs, ts, rfl, rfl, e, b1, hl', p _ _ .of_non (r.app b3) (by rw [List.length_append]; exact hl')⟩
      · cases f
  · cases f
def mPopAt (h : PH) (xs ys : List D) : Option (D × List D) := match ys with
  | [.int i] => if -(2 ^ 63) ≤ i ∧ i < 2 ^ 63 then (match seqIndex? i xs.length with
    | some k => (match xs[k]? with
      | some x => some (x, xs.eraseIdx k)
      | none => none)
    | none => none) else none
  | _ => none
theorem m_popAt : LmS S "pop" mPopAt := by
  refine ⟨_, rPopAt, PySem.F.plainAttrs_list, PySem.F.slot_list_pop, PySem.F.type_list_pop, fun X _ => mt_popAt, fun G h a vs us xs ys zs d Q gK k e hz r q f p => ?_⟩
  unfold mPopAt at f
  split at f
  · rename_i i
    split at f
    · rename_i hb
      cases e1 : seqIndex? i xs.length with
      | none =>
        simp only [e1] at f
        cases f
      | some j =>
        simp only [e1] at f
        cases e2 : xs[j]? with
        | none =>
          simp only [e2] at f
          cases f
        | some x =>
          simp only [e2] at f
          cases f
          obtain ⟨u, rfl, hu⟩ := reps1 q
          obtain ⟨v, v1, v2⟩ := r.get e2
          refine ⟨a, vs, i, j, v, rfl, by rw [hu.int_inv], e, hb.1, hb.2, by rw [r.len]; exact e1, v1, p _ _ v2 (r.erase j) ?_⟩
          have := len_erase vs j
          omega
    · cases f
  · cases f
def mRev (h : PH) (xs ys : List D) : Option (D × List D) := match ys with
  | [] => some (.non, xs.reverse)
  | _ => none
theorem m_rev : LmS S "reverse" mRev := by
  refine ⟨_, rReverse, PySem.F.plainAttrs_list, PySem.F.slot_list_reverse, PySem.F.type_list_reverse, fun X _ => mt_reverse, fun G h a vs us xs ys zs d Q gK k e hz r q f p => ?_⟩
  unfold mRev at f
  split at f
  · cases f
    rw [q.nil_inv]
    exact ⟨a, vs, rfl, rfl, e, p _ _ .of_non r.rev (by rw [List.length_reverse]; exact hz)⟩
  · cases f
/-- the first place of a number -/
def firstI (k : Int) : List Int → Option Nat
  | [] => none
  | n :: ns => if n = k then some 0 else (firstI k ns).map fun j => j + 1
theorem firstI_ok {k : Int} : ∀ {ns : List Int} {j : Nat}, firstI k ns = some j → ns[j]? = some k ∧ ∀ m : Nat, m < j → ns[m]? ≠ some k
  | [], _, e => by cases e
  | n :: ns, j, e => by
    unfold firstI at e
    split at e
    · rename_i q
      cases e
      exact ⟨by simp [q], fun m hm => absurd hm (Nat.not_lt_zero m)⟩
    · rename_i q
      obtain ⟨i, e1, rfl⟩ := Option.map_eq_some_iff.mp e
      obtain ⟨h1, h2⟩ := firstI_ok e1
      refine ⟨by simpa using h1, fun m hm => ?_⟩
      cases m with
      | zero => simpa using q
      | succ m => simpa using h2 m (by omega)
def mRem (h : PH) (xs ys : List D) : Option (D × List D) := match ys with
  | [.int i] => (match intsD xs with
    | some ns => (match firstI i ns with
      | some j => some (.non, xs.eraseIdx j)
      | none => none)
    | none => none)
  | _ => none
theorem m_rem : LmS S "remove" mRem := by
  refine ⟨_, rRemI, PySem.F.plainAttrs_list, PySem.F.slot_list_remove, PySem.F.type_list_remove, fun X _ => mt_remove, fun G h a vs us xs ys zs d Q gK k e hz r q f p => ?_⟩
  unfold mRem at f
  split at f
  · rename_i i
    cases e1 : intsD xs with
    | none =>
      simp only [e1] at f
      cases f
    | some ns =>
      simp only [e1] at f
      cases e2 : firstI i ns with
      | none =>
        simp only [e2] at f
        cases f
      | some j =>
        simp only [e2] at f
        cases f
        obtain ⟨u, rfl, hu⟩ := reps1 q
        obtain ⟨f1, f2⟩ := firstI_ok e2
        have ev := intsD_v r e1
        subst ev
        refine ⟨a, ns, i, j, rfl, by rw [hu.int_inv], e, f1, f2, ?_⟩
        rw [← erase_mapI]
        have := len_erase (ns.map V.int) j
        exact p _ _ .of_non (r.erase j) (by omega)
  · cases f
def isLstD (h : PH) : D → Bool
  | .ref n => (match h[n]? with
    | some (.lst _) => true
    | _ => false)
  | _ => false
/-- o.m(..) upon a list that is an object -/
def gLm (f : PH → List D → List D → Option (D × List D)) (o : EM) (ms : List EM) : EM := fun Γ => bnd (o Γ) fun d => fun h => if isLstD h d = true then bnd (seqA ms Γ) (fun ys => fun h => match d with
  | .ref n => (match h[n]? with
    | some (.lst xs) => (match f h xs ys with
      | some (x, zs) => .ok x (h.set n (.lst zs))
      | none => .bad)
    | _ => .bad)
  | _ => .bad) h else .bad
theorem se_lm {m : Str} {f : PH → List D → List D → Option (D × List D)} {r : V → List V → Hp → VK → Prop} {o : EM} {ms : List EM} {to : TE} {t : TA}
    (hr : ∀ (G : Wd) (h : PH) (a : Addr) (vs us : List V) (xs ys zs : List D) (d : D) (Q : VK), G.K = S.K → G.Ok h → G.H a = some (.lst vs) → vs.length ≤ sizeLine → Reps G xs vs → Reps G ys us → f h xs ys = some (d, zs) →
      (∀ v ws, Rep G d v → Reps G zs ws → ws.length ≤ sizeLine → Q v (upd G.H a (.lst ws))) → r (.ref a) us G.H Q)
    (ho : SE S O to o) (ha : SA S O t (seqA ms)) : SE S O (tBM S.K "list" r to t) (gLm f o ms) := by
  intro B G h σ Γ Q w p
  unfold gLm at p
  refine ho B G h σ Γ _ w (p.bnd.mono fun d h1 G1 t1 k1 p1 v rv => ?_)
  have w1 := w.to t1 k1
  cases d with
  | ref n =>
    obtain ⟨a, q1, rfl⟩ := rv.ref_inv
    obtain ⟨ob, q2, q3⟩ := k1.at q1
    by_cases hc : isLstD h1 (.ref n) = true
    · rw [if_pos hc] at p1
      have hc : (match h1[n]? with
        | some (.lst _) => true
        | _ => false) = true := hc
      rw [q2] at hc
      cases ob with
      | lst xs =>
        obtain ⟨vs, a1, a2, a3⟩ := q3
        refine ⟨.inl ⟨rfl, vs, SqL.of a1⟩, ?_⟩
        refine ha B G1 h1 σ Γ _ w1 (p1.bnd.mono fun ys h2 G2 t2 k2 p2 us rs => ?_)
        have e2 := pre_get t2.le.ρ q1
        obtain ⟨ob2, b2, b3⟩ := k2.at e2
        simp only [b2] at p2
        cases ob2 with
        | lst xs2 =>
          obtain ⟨vs2, c1, c2, c3⟩ := b3
          simp only at p2
          cases e3 : f h2 xs2 ys with
          | none =>
            simp only [e3] at p2
            exact p2.elim
          | some xz =>
            obtain ⟨x, zs⟩ := xz
            simp only [e3] at p2
            refine hr G2 h2 a vs2 us xs2 ys zs x Q (w1.to t2 k2).K k2 c1 c2 c3 rs e3 fun v ws rv rw_ hl => ?_
            have t3 := Wd.put_to k2 (o := .lst ws) e2
            exact p2 (G2.put a (.lst ws)) t3 (Wd.put_ok k2 e2 ⟨ws, upd_same, hl, Reps.le t3.le _ rw_⟩) v (rv.le t3.le)
        | _ => exact p2.elim
      | _ => cases hc
    · rw [if_neg hc] at p1
      exact p1.elim
  | _ =>
    rw [if_neg (by unfold isLstD; exact Bool.false_ne_true)] at p1
    exact p1.elim
theorem re_lm {m : Str} {f : PH → List D → List D → Option (D × List D)} {o e : Expr} {es : List Expr} {mo : EM} {ms : List EM} {apos cpos : Pos} (F : LmS S m f) (ho : RE S O o mo) (ha : RA S O (e :: es) ms)
    (hbase : ∀ env, attributeBase o m env (eval o env) = eval o env)
    (hfew : ∀ env, ((backTo cpos (starEach (e :: es) env)).all (fun x => !x.1) && (backToKw cpos (keywordEach [] env)).all (fun x => x.1.isSome)
      && decide ((e :: es).length + ([] : List Keyword).length + (if ([] : List Keyword).isEmpty then 0 else 1) < 30)) = true)
    (hline : (apos.endLine == cpos.line) = true) (hs : ∀ env, starEach (e :: es) env = (false, eval e env) :: starEach es env) (hplain : ∀ env, (backTo cpos (starEach es env)).any (·.1) = false) :
    RE S O (.Call (.Attribute o m apos) (e :: es) [] cpos) (gLm f mo ms) := by
  obtain ⟨id, r, p1, p2, p3, p4, p5⟩ := F.ex
  obtain ⟨to, o1, o2⟩ := ho.ex
  obtain ⟨t, a1, a2⟩ := ha.ex
  exact ⟨tBM S.K "list" r to t, fun X hX => by rw [← hX.K]; exact pe_bm p1 p2 p3 (p4 X hX) (o1 X hX) (a1 X hX) (hbase _) (hfew _) hline (hs _) (hplain _), se_lm (m := m) p5 o2 a2⟩
theorem re_lm0 {m : Str} {f : PH → List D → List D → Option (D × List D)} {o : Expr} {mo : EM} {apos cpos : Pos} (F : LmS S m f) (ho : RE S O o mo)
    (hbase : ∀ env, attributeBase o m env (eval o env) = eval o env) (hline : (apos.endLine == cpos.line) = true) : RE S O (.Call (.Attribute o m apos) [] [] cpos) (gLm f mo []) := by
  obtain ⟨id, r, p1, p2, p3, p4, p5⟩ := F.ex
  obtain ⟨to, o1, o2⟩ := ho.ex
  exact ⟨tBM S.K "list" r to tNil, fun X hX => by rw [← hX.K]; exact pe_bm0 p1 p2 p3 (p4 X hX) (o1 X hX) (hbase _) hline, se_lm (m := m) (ms := []) (t := tNil) p5 o2 (fun B G h σ Γ Q w p => (p.pur w.ok) [] .nil)⟩
end Sw

set_option maxHeartbeats 400000
/-! Sw, part I: statements. -/
namespace Sw
open PySem PySem.Spec L2
variable {S : Sx} {O : List Nat}

inductive Fl where
  | nx (Γ : Env)
  | rt (d : D)
abbrev SM := Env → M Fl

/-- a statement's step: what others hold is as it was -/
structure Wd.By (B : Addr → Prop) (G G' : Wd) : Prop where
  le : G.Le G'
  ow : ∀ a, B a → G'.H a = G.H a
theorem Wd.By.refl {B : Addr → Prop} (G : Wd) : G.By B G := ⟨.refl G, fun _ _ => rfl⟩
theorem Wd.By.trans {B : Addr → Prop} {G1 G2 G3 : Wd} (a : G1.By B G2) (b : G2.By B G3) : G1.By B G3 := ⟨a.le.trans b.le, fun c h => (b.ow c h).trans (a.ow c h)⟩
theorem Wd.To.by {B : Addr → Prop} {G G' : Wd} (t : G.To G') (b : ∀ a, B a → G.U a) : G.By B G' := ⟨t.le, fun a h => t.ow a (b a h)⟩

def PsS {α : Type} (S : Sx) (B : Addr → Prop) (G : Wd) (r : R α) (Z : α → PH → Wd → Prop) : Prop := match r with
  | .ok a h' => ∀ G', G.By B G' → G'.Ok h' → Z a h' G'
  | .ex c xs h' => S.T.xm = true ∧ ∀ G' dx, G.By B G' → G'.Ok h' → XR G' xs dx → S.E (.ref (S.cl c)) dx G'.H
  | .bad => False
section
variable {α β : Type} {B : Addr → Prop} {G G1 : Wd} {r : R α} {Z Z' : α → PH → Wd → Prop}
theorem PsS.step (t : G.By B G1) (p : PsS S B G r Z) : PsS S B G1 r Z := by
  cases r with
  | ok a h' => exact fun G' t' k => p G' (t.trans t') k
  | ex c xs h' => exact ⟨p.1, fun G' dx t' k x => p.2 G' dx (t.trans t') k x⟩
  | bad => exact p
theorem PsS.mono (p : PsS S B G r Z) (f : ∀ a h' G', G.By B G' → G'.Ok h' → Z a h' G' → Z' a h' G') : PsS S B G r Z' := by
  cases r with
  | ok a h' => exact fun G' t' k => f a h' G' t' k (p G' t' k)
  | ex c xs h' => exact p
  | bad => exact p
theorem PsS.bnd {m : M β} {f : β → M α} {h : PH} (p : PsS S B G (Sw.bnd m f h) Z) : PsS S B G (m h) (fun a h1 G1 => PsS S B G1 (f a h1) Z) := by
  unfold Sw.bnd at p
  cases e : m h with
  | ok a h1 =>
    rw [e] at p
    exact fun G1 t1 k1 => p.step t1
  | ex c xs h1 =>
    rw [e] at p
    exact p
  | bad =>
    rw [e] at p
    exact p
/-- an expression ahead -/
theorem PsS.ebnd {m : M β} {f : β → M α} {h : PH} (p : PsS S B G (Sw.bnd m f h) Z) (b : ∀ a, B a → G.U a) : Pst S G (m h) (fun a h1 G1 => PsS S B G1 (f a h1) Z) := by
  unfold Sw.bnd at p
  cases e : m h with
  | ok a h1 =>
    rw [e] at p
    exact fun G1 t1 k1 => p.step (t1.by b)
  | ex c xs h1 =>
    rw [e] at p
    exact ⟨p.1, fun G1 dx t1 k1 x => p.2 G1 dx (t1.by b) k1 x⟩
  | bad =>
    rw [e] at p
    exact p
theorem PsS.pur {a : α} {h : PH} (p : PsS S B G (Sw.pur a h) Z) (k : G.Ok h) : Z a h G := p G (.refl G) k
end

/-- what is wanted behind -/
def Zst (O : List Nat) (B : Addr → Prop) (E : Ends) : Fl → PH → Wd → Prop
  | .nx Γ', _, G' => ∀ σ', EnvOk O B G' σ' Γ' → E.nx σ' G'.H
  | .rt d, _, G' => ∀ v, (∀ a, B a → G'.U a) → Rep G' d v → E.rt v G'.H
def SSt (S : Sx) (O : List Nat) (t : TS) (m : SM) : Prop := ∀ (B : Addr → Prop) (G : Wd) (h : PH) (σ : St) (Γ : Env) (E : Ends), Here S O B G h σ Γ → PsS S B G (m Γ h) (Zst O B E) → t E σ G.H
structure RS (S : Sx) (O : List Nat) (st : Stmt) (m : SM) : Prop where
  ex : ∃ t, (∀ X, InX S X → PS X st t) ∧ SSt S O t m
structure RSs (S : Sx) (O : List Nat) (st : List Stmt) (m : SM) : Prop where
  ex : ∃ t, (∀ X, InX S X → PSs X st t) ∧ SSt S O t m
theorem Here.by {B : Addr → Prop} {G G' : Wd} {h h' : PH} {σ σ' : St} {Γ Γ' : Env} (w : Here S O B G h σ Γ) (t : G.By B G') (k : G'.Ok h') (e : EnvOk O B G' σ' Γ') : Here S O B G' h' σ' Γ' :=
  ⟨t.le.K.trans w.K, t.le.cl.trans w.cl, k, e⟩

def sNil : SM := fun Γ => pur (.nx Γ)
def sSeq (a b : SM) : SM := fun Γ => bnd (a Γ) fun f => match f with
  | .nx Γ' => b Γ'
  | .rt d => pur (.rt d)
theorem rss_nil : RSs S O [] sNil := ⟨tNext, fun X _ => pss_nil, fun B G h σ Γ E w p => p.pur w.ok σ w.env⟩
theorem rss_cons {st : Stmt} {rest : List Stmt} {a b : SM} (h1 : RS S O st a) (h2 : RSs S O rest b) : RSs S O (st :: rest) (sSeq a b) := by
  obtain ⟨t, t1, t2⟩ := h1.ex
  obtain ⟨u, u1, u2⟩ := h2.ex
  refine ⟨_, fun X hX => pss_cons (t1 X hX) (u1 X hX), fun B G h σ Γ E w p => ?_⟩
  unfold sSeq at p
  refine t2 B G h σ Γ _ w (p.bnd.mono fun f h1 G1 y1 k1 p1 => ?_)
  cases f with
  | nx Γ' => exact fun σ' e => u2 B G1 h1 σ' Γ' E (w.by y1 k1 e) p1
  | rt d => exact p1.pur k1
def sExpr (m : EM) : SM := fun Γ => bnd (m Γ) fun _ => pur (.nx Γ)
theorem rs_expr {e : Expr} {m : EM} {pos : Pos} (h : RE S O e m) (hs : ∀ env, swapsWith e none pos.line env = pure false) : RS S O (.Expr e pos) (sExpr m) := by
  obtain ⟨t, h1, h2⟩ := h.ex
  refine ⟨_, fun X hX => ps_expr (h1 X hX) (hs _), fun B G h σ Γ E w p => ?_⟩
  unfold sExpr at p
  refine h2 B G h σ Γ _ w ((p.ebnd w.env.bU).mono fun d h1 G1 t1 k1 p1 v r => ?_)
  exact p1.pur k1 σ (w.env.to t1)
def sRet (m : EM) : SM := fun Γ => bnd (m Γ) fun d => pur (.rt d)
theorem rs_ret {e : Expr} {m : EM} {pos : Pos} (h : RE S O e m) : RS S O (.Return (some e) pos) (sRet m) := by
  obtain ⟨t, h1, h2⟩ := h.ex
  refine ⟨_, fun X hX => ps_ret (h1 X hX), fun B G h σ Γ E w p => ?_⟩
  unfold sRet at p
  exact h2 B G h σ Γ _ w ((p.ebnd w.env.bU).mono fun d h1 G1 t1 k1 p1 v r => p1.pur k1 v (w.env.to t1).bU r)
def sRetN : SM := fun _ => pur (.rt .non)
theorem rs_retN {pos : Pos} : RS S O (.Return none pos) sRetN := ⟨_, fun X _ => ps_retN, fun B G h σ Γ E w p => p.pur w.ok _ w.env.bU .of_non⟩
/-- what is never come to -/
def sBad : SM := fun _ => bad
theorem rs_bad {st : Stmt} : RS S O st sBad := ⟨_, fun X _ => ps_never, fun B G h σ Γ E w p => p.elim⟩
def sIf (c : TM) (a b : SM) : SM := fun Γ => bnd (c Γ) fun k => if k = true then a Γ else b Γ
theorem rs_if {c : Expr} {a b : List Stmt} {mc : TM} {ma mb : SM} {pos : Pos} (hc : RT S O c mc) (ha : RSs S O a ma) (hb : RSs S O b mb) : RS S O (.If c a b pos) (sIf mc ma mb) := by
  obtain ⟨t, t1, t2⟩ := hc.ex
  obtain ⟨u, u1, u2⟩ := ha.ex
  obtain ⟨z, z1, z2⟩ := hb.ex
  refine ⟨_, fun X hX => ps_if (t1 X hX) (u1 X hX) (z1 X hX), fun B G h σ Γ E w p => ?_⟩
  unfold sIf at p
  refine t2 B G h σ Γ _ w ((p.ebnd w.env.bU).mono fun k h1 G1 y1 k1 p1 => ?_)
  cases k with
  | true =>
    simp only [if_true] at p1 ⊢
    exact u2 B G1 h1 σ Γ E (w.to y1 k1) p1
  | false =>
    simp only [Bool.false_eq_true, if_false] at p1 ⊢
    exact z2 B G1 h1 σ Γ E (w.to y1 k1) p1

/-! ### names that are stored -/
structure Lc (S : Sx) (i : Nat) (x : Str) : Prop where
  nd : S.N.Nodup
  n : S.N[i]? = some x
  l : Loc S.sc x
  f : S.fa x = true ∨ S.sc.names.lookup x = some .local
theorem Lc.fn {i : Nat} {x : Str} (l : Lc S i x) {X : Cx} (hX : InX S X) : X.fn x = true ∨ X.env.scope.names.lookup x = some .local := by
  rcases l.f with h | h
  · exact .inl (hX.fn x h)
  · exact .inr (by rw [hX.sc]; exact h)
theorem set_get {α : Type} {l : List α} {i j : Nat} {a b : α} (h : (l.set i a)[j]? = some b) : (j = i ∧ b = a) ∨ (j ≠ i ∧ l[j]? = some b) := by
  by_cases e : j = i
  · subst e
    have hj : j < l.length := by
      have := (List.getElem?_eq_some_iff.mp h).1
      simpa using this
    rw [List.getElem?_set_self hj] at h
    exact .inl ⟨rfl, (Option.some.inj h).symm⟩
  · rw [List.getElem?_set_ne (fun q => e q.symm)] at h
    exact .inr ⟨e, h⟩
theorem EnvOk.set {B : Addr → Prop} {G : Wd} {σ : St} {Γ : Env} (e : EnvOk O B G σ Γ) {i : Nat} (hi : i ∉ O) {d : D} {v : V} (r : Rep G d v) : EnvOk O B G (σ.set i (some v)) (Γ.set i (some d)) where
  len := by rw [List.length_set, List.length_set, e.len]
  val := fun j d' h1 h2 => by
    rcases set_get h1 with ⟨rfl, q⟩ | ⟨q1, q2⟩
    · cases q
      have hj : j < σ.length := by
        have := (List.getElem?_eq_some_iff.mp h1).1
        rw [List.length_set] at this
        rw [e.len]
        exact this
      exact ⟨v, by rw [List.getElem?_set_self hj], r⟩
    · obtain ⟨u, u1, u2⟩ := e.val j d' q2 h2
      exact ⟨u, by rw [List.getElem?_set_ne (fun q => q1 q.symm)]; exact u1, u2⟩
  own := fun j d' h1 h2 => by
    rcases set_get h1 with ⟨rfl, q⟩ | ⟨q1, q2⟩
    · exact absurd h2 hi
    · obtain ⟨xs, a, vs, u1, u2, u3⟩ := e.own j d' q2 h2
      exact ⟨xs, a, vs, u1, by rw [List.getElem?_set_ne (fun q => q1 q.symm)]; exact u2, u3⟩
  sep := fun j l d1 d2 a h1 h2 g1 g2 g3 g4 => by
    have nj : j ≠ i := fun q => hi (q ▸ h1)
    have nl : l ≠ i := fun q => hi (q ▸ h2)
    rw [List.getElem?_set_ne (fun q => nj q.symm)] at g1 g3
    rw [List.getElem?_set_ne (fun q => nl q.symm)] at g2 g4
    exact e.sep j l d1 d2 a h1 h2 g1 g2 g3 g4
  bU := e.bU
def sSet (i : Nat) (m : EM) : SM := fun Γ => bnd (m Γ) fun d => pur (.nx (Γ.set i (some d)))
theorem rs_set {i : Nat} {x : Str} {e : Expr} {m : EM} {pos pos' : Pos} (l : Lc S i x) (hi : i ∉ O) (h : RE S O e m) (hs : ∀ env : PySem.Env, env.scope = S.sc → swapsWith e (some (.Name x pos')) pos.line env = pure false) : RS S O (.Assign [.Name x pos'] e pos) (sSet i m) := by
  obtain ⟨t, h1, h2⟩ := h.ex
  refine ⟨_, fun X hX => ps_set (i := i) (by rw [hX.N]; exact l.nd) (by rw [hX.N]; exact l.n) (by rw [hX.sc]; exact l.l) (h1 X hX) (hs _ hX.sc) (l.fn hX), fun B G h σ Γ E w p => ?_⟩
  unfold sSet at p
  refine h2 B G h σ Γ _ w ((p.ebnd w.env.bU).mono fun d h1 G1 t1 k1 p1 v r => ?_)
  exact p1.pur k1 _ ((w.env.to t1).set hi r)
/-- a new list in a place of its own -/
theorem EnvOk.own_ {B : Addr → Prop} {G : Wd} {h : PH} {σ : St} {Γ : Env} (e : EnvOk O B G σ Γ) (k : G.Ok h) {i : Nat} (hi : i ∈ O) {xs : List D} {vs : List V} {p : Addr} (hp : G.H p = none) (hl : vs.length ≤ sizeLine) (r : Reps G xs vs) :
    EnvOk O B (G.layU p (.lst vs)) (σ.set i (some (.ref p))) (Γ.set i (some (.lst xs))) where
  len := by rw [List.length_set, List.length_set, e.len]
  val := fun j d' h1 h2 => by
    rcases set_get h1 with ⟨rfl, q⟩ | ⟨q1, q2⟩
    · exact absurd hi h2
    · obtain ⟨u, u1, u2⟩ := e.val j d' q2 h2
      exact ⟨u, by rw [List.getElem?_set_ne (fun q => q1 q.symm)]; exact u1, u2.le (Wd.layU_le hp)⟩
  own := fun j d' h1 h2 => by
    rcases set_get h1 with ⟨rfl, q⟩ | ⟨q1, q2⟩
    · cases q
      have hj : j < σ.length := by
        have := (List.getElem?_eq_some_iff.mp h1).1
        rw [List.length_set] at this
        rw [e.len]
        exact this
      exact ⟨xs, p, vs, rfl, by rw [List.getElem?_set_self hj], .inl rfl, fun b => k.notU hp (e.bU p b), upd_same, hl, Reps.le (Wd.layU_le hp) _ r⟩
    · obtain ⟨xs, a, vs, u1, u2, u3, u4, u5, u6, u7⟩ := e.own j d' q2 h2
      exact ⟨xs, a, vs, u1, by rw [List.getElem?_set_ne (fun q => q1 q.symm)]; exact u2, .inr u3, u4, (upd_ne (ne_of_none u5 hp)).trans u5, u6, Reps.le (Wd.layU_le hp) _ u7⟩
  sep := fun j l d1 d2 a h1 h2 g1 g2 g3 g4 => by
    have there : ∀ (j : Nat) d, (Γ.set i (some (D.lst xs)))[j]? = some (some d) → j ≠ i → j ∈ O → (σ.set i (some (.ref p)))[j]? = some (some (V.ref a)) → a ≠ p := fun j d q1 q2 q3 q4 => by
      rw [List.getElem?_set_ne (fun q => q2 q.symm)] at q1 q4
      obtain ⟨xs, b, vs, u1, u2, u3, u4, u5, _⟩ := e.own j d q1 q3
      rw [u2] at q4
      cases q4
      exact ne_of_none u5 hp
    have self : ∀ (j : Nat), j = i → (σ.set i (some (.ref p)))[j]? = some (some (V.ref a)) → a = p := fun j q q4 => by
      subst q
      rcases set_get q4 with ⟨_, q⟩ | ⟨q, _⟩
      · cases q
        rfl
      · exact absurd rfl q
    by_cases ej : j = i
    · by_cases el : l = i
      · rw [ej, el]
      · exact absurd (self j ej g3) (there l d2 g2 el h2 g4)
    · by_cases el : l = i
      · exact absurd (self l el g4) (there j d1 g1 ej h1 g3)
      · rw [List.getElem?_set_ne (fun q => ej q.symm)] at g1 g3
        rw [List.getElem?_set_ne (fun q => el q.symm)] at g2 g4
        exact e.sep j l d1 d2 a h1 h2 g1 g2 g3 g4
  bU := fun a b => .inr (e.bU a b)
theorem Wd.layU_by {B : Addr → Prop} {G : Wd} {h : PH} (k : G.Ok h) (b : ∀ a, B a → G.U a) {p : Addr} {o : HO} (hp : G.H p = none) : G.By B (G.layU p o) :=
  ⟨Wd.layU_le hp, fun a ha => upd_ne (k.neU hp (b a ha))⟩
def sOwn (i : Nat) (m : LM) : SM := fun Γ => bnd (m Γ) fun xs => pur (.nx (Γ.set i (some (.lst xs))))
theorem rs_own {i : Nat} {x : Str} {e : Expr} {m : LM} {pos pos' : Pos} (l : Lc S i x) (hi : i ∈ O) (h : RF S O e m) (hs : ∀ env : PySem.Env, env.scope = S.sc → swapsWith e (some (.Name x pos')) pos.line env = pure false) : RS S O (.Assign [.Name x pos'] e pos) (sOwn i m) := by
  obtain ⟨t, h1, h2⟩ := h.ex
  refine ⟨_, fun X hX => ps_set (i := i) (by rw [hX.N]; exact l.nd) (by rw [hX.N]; exact l.n) (by rw [hX.sc]; exact l.l) (h1 X hX) (hs _ hX.sc) (l.fn hX), fun B G h σ Γ E w p => ?_⟩
  unfold sOwn at p
  refine h2 B G h σ Γ _ w ((p.ebnd w.env.bU).mono fun d h1 G1 t1 k1 p1 a vs ha hl r => ?_)
  have w1 := w.to t1 k1
  exact p1 (G1.layU a (.lst vs)) (Wd.layU_by k1 w1.env.bU ha) (Wd.layU_ok k1 ha) _ (w1.env.own_ k1 hi ha hl r)
/-- an own list is changed by a method: x.append(..) -/
def sOwnM (f : PH → List D → List D → Option (D × List D)) (i : Nat) (ms : List EM) : SM := fun Γ => match Γ[i]? with
  | some (some (.lst xs)) => bnd (seqA ms Γ) fun ys => fun h => (match f h xs ys with
    | some (_, zs) => .ok (.nx (Γ.set i (some (.lst zs)))) h
    | none => .bad)
  | _ => bad
theorem EnvOk.putU {B : Addr → Prop} {G : Wd} {h : PH} {σ : St} {Γ : Env} (e : EnvOk O B G σ Γ) (k : G.Ok h) {i : Nat} (hi : i ∈ O) {d0 : D} (h0 : Γ[i]? = some (some d0)) {a : Addr} (h1 : σ[i]? = some (some (.ref a))) (u : G.U a) (nb : ¬ B a) {xs : List D} {vs : List V} (hl : vs.length ≤ sizeLine) (r : Reps G xs vs) :
    EnvOk O B (G.putU a (.lst vs)) σ (Γ.set i (some (.lst xs))) where
  len := by rw [List.length_set, e.len]
  val := fun j d' g1 g2 => by
    rcases set_get g1 with ⟨rfl, q⟩ | ⟨q1, q2⟩
    · exact absurd hi g2
    · obtain ⟨u, u1, u2⟩ := e.val j d' q2 g2
      exact ⟨u, u1, u2.le (Wd.putU_le ‹_›)⟩
  own := fun j d' g1 g2 => by
    rcases set_get g1 with ⟨rfl, q⟩ | ⟨q1, q2⟩
    · cases q
      exact ⟨xs, a, vs, rfl, h1, u, nb, upd_same, hl, Reps.le (Wd.putU_le u) _ r⟩
    · obtain ⟨ys, b, us, u1, u2, u3, u4, u5, u6, u7⟩ := e.own j d' q2 g2
      have hne : b ≠ a := fun q => q1 (e.sep j i d' d0 a g2 hi q2 h0 (q ▸ u2) h1)
      exact ⟨ys, b, us, u1, u2, u3, u4, (upd_ne hne).trans u5, u6, Reps.le (Wd.putU_le u) _ u7⟩
  sep := fun j l d1 d2 b q1 q2 g1 g2 g3 g4 => by
    have there : ∀ (j : Nat) d, (Γ.set i (some (D.lst xs)))[j]? = some (some d) → ∃ d', Γ[j]? = some (some d') := fun j d q => by
      rcases set_get q with ⟨rfl, _⟩ | ⟨_, q⟩
      · exact ⟨d0, h0⟩
      · exact ⟨d, q⟩
    obtain ⟨d3, f3⟩ := there j d1 g1
    obtain ⟨d4, f4⟩ := there l d2 g2
    exact e.sep j l d3 d4 b q1 q2 f3 f4 g3 g4
  bU := e.bU
theorem Wd.putU_by {B : Addr → Prop} {G : Wd} {p : Addr} {o : HO} (u : G.U p) (nb : ¬ B p) : G.By B (G.putU p o) :=
  ⟨Wd.putU_le u, fun a ha => upd_ne (fun q => nb (q ▸ ha))⟩
theorem rs_ownM {m x : Str} {i : Nat} {f : PH → List D → List D → Option (D × List D)} {e : Expr} {es : List Expr} {ms : List EM} {p0 apos cpos pos : Pos} (F : LmS S m f) (n : Nm S i x) (hi : i ∈ O) (ha : RA S O (e :: es) ms)
    (hbase : ∀ env, attributeBase (.Name x p0) m env (eval (.Name x p0) env) = eval (.Name x p0) env)
    (hfew : ∀ env, ((backTo cpos (starEach (e :: es) env)).all (fun x => !x.1) && (backToKw cpos (keywordEach [] env)).all (fun x => x.1.isSome)
      && decide ((e :: es).length + ([] : List Keyword).length + (if ([] : List Keyword).isEmpty then 0 else 1) < 30)) = true)
    (hline : (apos.endLine == cpos.line) = true) (hs : ∀ env, starEach (e :: es) env = (false, eval e env) :: starEach es env) (hplain : ∀ env, (backTo cpos (starEach es env)).any (·.1) = false)
    (hsw : ∀ env, swapsWith (.Call (.Attribute (.Name x p0) m apos) (e :: es) [] cpos) none pos.line env = pure false) :
    RS S O (.Expr (.Call (.Attribute (.Name x p0) m apos) (e :: es) [] cpos) pos) (sOwnM f i ms) := by
  obtain ⟨id, r, p1, p2, p3, p4, p5⟩ := F.ex
  obtain ⟨t, a1, a2⟩ := ha.ex
  refine ⟨tDrop (tBM S.K "list" r (tVar i) t), fun X hX => by rw [← hX.K]; exact ps_expr (pe_bm p1 p2 p3 (p4 X hX) (n.pe X hX) (a1 X hX) (hbase _) (hfew _) hline (hs _) (hplain _)) (hsw _), fun B G h σ Γ E w p => ?_⟩
  unfold sOwnM at p
  cases e0 : Γ[i]? with
  | none =>
    simp only [e0] at p
    exact p.elim
  | some o =>
    cases o with
    | none =>
      simp only [e0] at p
      exact p.elim
    | some d0 =>
      cases d0 with
      | lst xs =>
        simp only [e0] at p
        obtain ⟨xs', a, vs, q1, q2, q3, q4, q5, q6, q7⟩ := w.env.own i _ e0 hi
        cases q1
        refine ⟨_, q2, .inl ⟨rfl, vs, SqL.of q5⟩, ?_⟩
        refine a2 B G h σ Γ _ w ((p.ebnd w.env.bU).mono fun ys h1 G1 t1 k1 p1 us rs => ?_)
        have w1 := w.to t1 k1
        have r5 : G1.H a = some (.lst vs) := (t1.ow a q3).trans q5
        have u5 : G1.U a := by
          rw [t1.U]
          exact q3
        cases e3 : f h1 xs ys with
        | none =>
          simp only [e3] at p1
          exact p1.elim
        | some xz =>
          obtain ⟨x, zs⟩ := xz
          simp only [e3] at p1
          refine p5 G1 h1 a vs us xs ys zs x _ w1.K k1 r5 q6 (Reps.le t1.le _ q7) rs e3 fun v ws rv rw_ hl => ?_
          exact p1 (G1.putU a (.lst ws)) (Wd.putU_by u5 q4) (Wd.putU_ok k1 u5) σ (w1.env.putU k1 hi e0 q2 u5 q4 hl rw_)
      | _ =>
        simp only [e0] at p
        exact p.elim
/-! ### o.f = e, o[i] = e, several at once -/
def putFD (f : Str) (d : D) : List (Str × D) → List (Str × D)
  | [] => [(f, d)]
  | (g, x) :: r => if g = f then (g, d) :: r else (g, x) :: putFD f d r
theorem RepKV.putF_ {G : Wd} {f : Str} {d : D} {v : V} (q : Rep G d v) : ∀ {fs : List (Str × D)} {gs : List (Str × V)}, RepKV G fs gs → RepKV G (putFD f d fs) (putF f v gs)
  | [], gs, h => by
    rw [h.nil_inv]
    exact .cons q .nil
  | (g, x) :: r, gs, h => by
    obtain ⟨u, s, rfl, h1, h2⟩ := h.cons_inv
    show RepKV G (if g = f then (g, d) :: r else (g, x) :: putFD f d r) (if g = f then (g, v) :: s else (g, u) :: putF f v s)
    by_cases e : g = f
    · rw [if_pos e, if_pos e]
      exact .cons q h2
    · rw [if_neg e, if_neg e]
      exact .cons h1 (RepKV.putF_ q h2)
def putFld (C f : Str) (d : D) (o : D) : M Unit := fun h => match o with
  | .ref n => (match h[n]? with
    | some (.ins C' fs) => if C' = C ∧ fs.length < 1000 then .ok () (h.set n (.ins C (putFD f d fs))) else .bad
    | _ => .bad)
  | _ => .bad
theorem putFld_ok {α : Type} {C f : Str} {fs : List Str} (c : ClsOk S C fs) (hf : f ∈ fs) {B : Addr → Prop} {G : Wd} {h : PH} (gc : G.cl = S.cl) (k : G.Ok h) (bU : ∀ a, B a → G.U a) {d o : D} {v x : V} (rv : Rep G d v) (ro : Rep G o x) {K : Unit → M α} {Z : α → PH → Wd → Prop}
    (p : PsS S B G (bnd (putFld C f d o) K h) Z) : ∃ a dx gs h', x = .ref a ∧ G.H a = some (.ins (S.cl C) dx gs) ∧ gs.length < 1000 ∧ G.To (G.put a (.ins (S.cl C) dx (putF f v gs))) ∧ (G.put a (.ins (S.cl C) dx (putF f v gs))).Ok h' ∧
      PsS S B (G.put a (.ins (S.cl C) dx (putF f v gs))) (K () h') Z := by
  cases o with
  | ref n =>
    obtain ⟨a, q1, rfl⟩ := ro.ref_inv
    obtain ⟨ob, q2, q3⟩ := k.at q1
    unfold bnd putFld at p
    simp only [q2] at p
    cases ob with
    | ins C' gs =>
      simp only at p
      by_cases hc : C' = C ∧ gs.length < 1000
      · rw [if_pos hc] at p
        obtain ⟨hC, hl⟩ := hc
        subst hC
        obtain ⟨dx, gs', q4, q5⟩ := q3
        have t := Wd.put_to k (o := .ins (S.cl C') dx (putF f v gs')) q1
        refine ⟨a, dx, gs', _, rfl, by rw [← gc]; exact q4, by rw [q5.len]; exact hl, t, Wd.put_ok (ob := .ins C' (putFD f d gs)) k q1 ⟨dx, putF f v gs', ?_, (q5.putF_ rv).le t.le⟩, p.step (t.by bU)⟩
        show upd G.H a _ a = some (.ins (G.cl C') dx _)
        rw [gc]
        exact upd_same
      · rw [if_neg hc] at p
        exact p.elim
    | _ => exact p.elim
  | _ => exact p.elim
def sFld (C f : Str) (o e : EM) : SM := fun Γ => bnd (e Γ) fun d => bnd (o Γ) fun x => bnd (putFld C f d x) fun _ => pur (.nx Γ)
theorem rs_fld {C f : Str} {fs : List Str} {o value : Expr} {mo mv : EM} {pos' pos : Pos} (c : ClsOk S C fs) (hf : f ∈ fs) (ho : RE S O o mo) (hv : RE S O value mv) (hs : ∀ env, swapsWith value (some (.Attribute o f pos')) pos.line env = pure false) :
    RS S O (.Assign [.Attribute o f pos'] value pos) (sFld C f mo mv) := by
  obtain ⟨to, o1, o2⟩ := ho.ex
  obtain ⟨tv, v1, v2⟩ := hv.ex
  refine ⟨L2.sFld S.K to tv f, fun X hX => by rw [← hX.K]; exact ps_fld (o1 X hX) (v1 X hX) (hs _), fun B G h σ Γ E w p => ?_⟩
  unfold Sw.sFld at p
  refine v2 B G h σ Γ _ w ((p.ebnd w.env.bU).mono fun d h1 G1 t1 k1 p1 v rv => ?_)
  have w1 := w.to t1 k1
  refine o2 B G1 h1 σ Γ _ w1 ((p1.ebnd w1.env.bU).mono fun x h2 G2 t2 k2 p2 xv rx => ?_)
  have w2 := w1.to t2 k2
  obtain ⟨a, dx, gs, h', rfl, q1, q2, q3, q4, q5⟩ := putFld_ok c hf w2.cl k2 w2.env.bU (rv.le t2.le) rx p2
  exact ⟨a, S.cl C, dx, gs, rfl, q1, c.cl, c.no f hf, q2, q5.pur q4 σ (w2.env.to q3)⟩
/-- o[i] = d -/
def setIx (o i d : D) : M Unit := fun h => match o with
  | .ref n => (match h[n]? with
    | some (.lst xs) => (match i with
      | .int k => (match ixN xs.length k with
        | some j => .ok () (h.set n (.lst (xs.set j d)))
        | none => .bad)
      | _ => .bad)
    | some (.dct kvs) => (match keyD i with
      | some k => if kvs.length < 16777216 then .ok () (h.set n (.dct (putD_ kvs k d))) else .bad
      | none => .bad)
    | _ => .bad)
  | _ => .bad
def rSetA : TSet := fun o i v H Q => rSetL o i v H Q ∨ rSetD o i v H Q
theorem set_any {X : Cx} {k : Nat} (hr : Room k X.A) : PSet X rSetA := by
  intro pins s σ H o i v ov iv u Q I ro ri rv h
  rcases h with h | h
  · exact set_list pins s σ H o i v ov iv u Q I ro ri rv h
  · exact set_dict (hu_of hr) pins s σ H o i v ov iv u Q I ro ri rv h
theorem setIx_ok {α : Type} {B : Addr → Prop} {G : Wd} {h : PH} (k : G.Ok h) (bU : ∀ a, B a → G.U a) {d o i : D} {v x y : V} (rv : Rep G d v) (ro : Rep G o x) (ri : BRep G i y) {K : Unit → M α} {Z : α → PH → Wd → Prop} {Q : Hp → Prop}
    (p : PsS S B G (bnd (setIx o i d) K h) Z) (q : ∀ G' h', G.To G' → G'.Ok h' → PsS S B G' (K () h') Z → Q G'.H) : rSetA x y v G.H Q := by
  cases o with
  | ref n =>
    obtain ⟨a, q1, rfl⟩ := ro.ref_inv
    obtain ⟨ob, q2, q3⟩ := k.at q1
    unfold bnd setIx at p
    simp only [q2] at p
    cases ob with
    | lst xs =>
      obtain ⟨vs, a1, a2, a3⟩ := q3
      cases i with
      | int j =>
        simp only at p
        cases e : ixN xs.length j with
        | none =>
          simp only [e] at p
          exact p.elim
        | some l =>
          simp only [e] at p
          have t := Wd.put_to k (o := .lst (vs.set l v)) q1
          refine .inl ⟨a, vs, j, l, rfl, ri.int_inv, a1, by rw [a3.len]; exact e, ?_⟩
          exact q (G.put a (.lst (vs.set l v))) _ t (Wd.put_ok (ob := .lst (xs.set l d)) k q1 ⟨vs.set l v, upd_same, by rw [List.length_set]; exact a2, Reps.le t.le _ (a3.set l rv)⟩) (p.step (t.by bU))
      | _ => exact p.elim
    | dct kvs =>
      obtain ⟨kvs', a1, a2⟩ := q3
      simp only at p
      cases e : keyD i with
      | none =>
        simp only [e] at p
        exact p.elim
      | some key =>
        simp only [e] at p
        by_cases hl : kvs.length < 16777216
        · rw [if_pos hl] at p
          have t := Wd.put_to k (o := .dK (putK kvs' key v)) q1
          refine .inr ⟨a, _, rfl, ?_, q (G.put a (.dK (putK kvs' key v))) _ t (Wd.put_ok (ob := .dct (putD_ kvs key d)) k q1 ⟨_, upd_same, (a2.put rv).le t.le⟩) (p.step (t.by bU))⟩
          rw [keyD_v ri e]
          exact DPut.k a1 (by rw [a2.len, sizeLine_eq]; exact hl)
        · rw [if_neg hl] at p
          exact p.elim
    | _ => exact p.elim
  | _ => exact p.elim

/-! targets -/
abbrev GM := D → Env → M Env
def SG (S : Sx) (O : List Nat) (t : TG) (m : GM) : Prop := ∀ (B : Addr → Prop) (G : Wd) (h : PH) (σ : St) (Γ : Env) (v : V) (d : D) (Q : St → Hp → Prop), Here S O B G h σ Γ → Rep G d v →
  PsS S B G (m d Γ h) (fun Γ' _ G' => ∀ σ', EnvOk O B G' σ' Γ' → Q σ' G'.H) → t v σ G.H Q
structure RG (S : Sx) (O : List Nat) (tg : Expr) (m : GM) : Prop where
  ex : ∃ t, (∀ X, InX S X → PG X tg t) ∧ SG S O t m
def SGs (S : Sx) (O : List Nat) (t : TGs) (m : List D → Env → M Env) : Prop := ∀ (B : Addr → Prop) (G : Wd) (h : PH) (σ : St) (Γ : Env) (vs : List V) (ds : List D) (Q : St → Hp → Prop), Here S O B G h σ Γ → Reps G ds vs →
  PsS S B G (m ds Γ h) (fun Γ' _ G' => ∀ σ', EnvOk O B G' σ' Γ' → Q σ' G'.H) → t vs σ G.H Q
structure RGs (S : Sx) (O : List Nat) (tgs : List Expr) (m : List D → Env → M Env) : Prop where
  ex : ∃ t, (∀ X, InX S X → PGs X tgs t) ∧ SGs S O t m
def tgName (i : Nat) : GM := fun d Γ => pur (Γ.set i (some d))
theorem rg_name {i : Nat} {x : Str} {pos : Pos} (l : Lc S i x) (hi : i ∉ O) : RG S O (.Name x pos) (tgName i) :=
  ⟨gName i, fun X hX => pg_name (by rw [hX.N]; exact l.nd) (by rw [hX.N]; exact l.n) (by rw [hX.sc]; exact l.l) (l.fn hX), fun B G h σ Γ v d Q w r p => p.pur w.ok _ (w.env.set hi r)⟩
def tgNil : List D → Env → M Env := fun ds Γ => match ds with
  | [] => pur Γ
  | _ => bad
def tgCons (a : GM) (b : List D → Env → M Env) : List D → Env → M Env := fun ds Γ => match ds with
  | d :: r => bnd (a d Γ) fun Γ' => b r Γ'
  | [] => bad
theorem rgs_nil : RGs S O [] tgNil := by
  refine ⟨gNil, fun X _ => pgs_nil, fun B G h σ Γ vs ds Q w r p => ?_⟩
  cases ds with
  | nil => exact ⟨r.nil_inv, p.pur w.ok σ w.env⟩
  | cons d ds => exact p.elim
theorem rgs_cons {e : Expr} {es : List Expr} {a : GM} {b : List D → Env → M Env} (h1 : RG S O e a) (h2 : RGs S O es b) (hs : ∀ env, (assignEach (e :: es) env).map (·.2) = assign e env :: (assignEach es env).map (·.2)) : RGs S O (e :: es) (tgCons a b) := by
  obtain ⟨t, t1, t2⟩ := h1.ex
  obtain ⟨u, u1, u2⟩ := h2.ex
  refine ⟨_, fun X hX => pgs_cons (t1 X hX) (u1 X hX) (hs _), fun B G h σ Γ vs ds Q w r p => ?_⟩
  cases ds with
  | nil => exact p.elim
  | cons d ds =>
    obtain ⟨v, vr, rfl, r1, r2⟩ := r.cons_inv
    have p : PsS S B G (bnd (a d Γ) (fun Γ' => b ds Γ') h) _ := p
    refine ⟨v, vr, rfl, t2 B G h σ Γ v d _ w r1 (p.bnd.mono fun Γ1 h1 G1 y1 k1 p1 σ1 e1 => ?_)⟩
    exact u2 B G1 h1 σ1 Γ1 vr ds Q (w.by y1 k1 e1) (Reps.le y1.le _ r2) p1
def tgTup (n : Nat) (b : List D → Env → M Env) : GM := fun d Γ h => match seqD h d with
  | some xs => if xs.length = n then b xs Γ h else .bad
  | none => .bad
def gTupA (K : PySem.W.Frag) (n : Nat) (t : TGs) : TG := fun v σ H Q => L2.gTup K n t v σ H Q ∨ gUnl K n t v σ H Q
theorem rg_tup {es : List Expr} {k : Nat} {b : List D → Env → M Env} {pos : Pos} {n : Nat} (h : RGs S O es b) (hn : ∀ env, (assignEach es env).length = n) (hst : ∀ env, (assignEach es env).findIdx? (·.1) = none) : RG S O (.Tuple es k pos) (tgTup n b) := by
  obtain ⟨t, t1, t2⟩ := h.ex
  refine ⟨gTupA S.K n t, fun X hX => ⟨fun pins s σ H v u Q I r hw => ?_⟩, fun B G h σ Γ v d Q w r p => ?_⟩
  · rcases hw with hw | hw
    · exact (pg_tup hX.calm (t1 X hX) (hn _) (hst _)).run pins s σ H v u Q I r (by rw [hX.K]; exact hw)
    · exact (pg_unl hX.calm (t1 X hX) (hn _) (hst _)).run pins s σ H v u Q I r (by rw [hX.K]; exact hw)
  · unfold tgTup at p
    cases e : seqD h d with
    | none =>
      simp only [e] at p
      exact p.elim
    | some xs =>
      simp only [e] at p
      by_cases hl : xs.length = n
      · rw [if_pos hl] at p
        obtain ⟨a, vs, rfl, q1, q2, q3⟩ := seq_at w.ok (.inl r) e
        have fin := t2 B G h σ Γ vs xs Q w q3 p
        rw [← w.K]
        rcases q1 with q1 | q1
        · exact .inr ⟨a, vs, rfl, q1, q3.len.trans hl, fin⟩
        · exact .inl ⟨a, vs, rfl, q1, q3.len.trans hl, fin⟩
      · rw [if_neg hl] at p
        exact p.elim
def tgSub (o i : EM) : GM := fun d Γ => bnd (o Γ) fun x => bnd (i Γ) fun y => bnd (setIx x y d) fun _ => pur Γ
theorem rg_sub {o i : Expr} {mo mi : EM} {pos : Pos} (ho : RE S O o mo) (hi : RE S O i mi) (ha : ∀ env v, assign (.Subscript o i pos) env v = (do
      let ov ← holding [v] (eval o env)
      let iv ← holding [v, ov] (eval i env)
      standAt pos
      holding [v, ov, iv] (setItem ov iv v)
      release [v, ov, iv] [])) : RG S O (.Subscript o i pos) (tgSub mo mi) := by
  obtain ⟨to, o1, o2⟩ := ho.ex
  obtain ⟨ti, i1, i2⟩ := hi.ex
  refine ⟨_, fun X hX => pg_sub (o1 X hX) (i1 X hX) (set_any hX.room) (ha _), fun B G h σ Γ v d Q w r p => ?_⟩
  unfold tgSub at p
  refine o2 B G h σ Γ _ w ((p.ebnd w.env.bU).mono fun x h1 G1 t1 k1 p1 xv rx => ?_)
  have w1 := w.to t1 k1
  refine i2 B G1 h1 σ Γ _ w1 ((p1.ebnd w1.env.bU).mono fun y h2 G2 t2 k2 p2 yv ry => ?_)
  have w2 := w1.to t2 k2
  exact setIx_ok k2 w2.env.bU ((r.le t1.le).le t2.le) (rx.le t2.le) (.inl ry) p2 fun G' h' t k p3 => p3.pur k σ (w2.env.to t)
/-- o.f as a target -/
theorem pg_fld {X : Cx} {o : Expr} {f : Str} {pos : Pos} {to : TE} (ho : PE X o to) : PG X (.Attribute o f pos) (fun v σ H Q => to σ H fun x H1 => ∃ a C dx fs, x = .ref a ∧ H1 a = some (.ins C dx fs) ∧ Cls X.K C ∧ NoAttr X.K C f ∧ fs.length < 1000 ∧ Q σ (upd H1 a (.ins C dx (putF f v fs)))) := by
  refine ⟨fun pins s σ H v u Q I r h => ?_⟩
  rw [assign_Attribute]
  refine wpAny_bind (wpAny_holding (thn (ho.run pins s σ H _ I h) fun ov s1 ⟨x, H1, I1, r1, a, C, dx, fs, ex, ea, c, n, l, q⟩ => ?_))
  subst ex
  obtain rfl : ov = Value.ref a := r1
  refine wpAny_bind (wpAny_standAt (wpAny_bind (wpAny_holding (setattr_ok I1 ea c n l r fun s3 I3 => ?_))))
  exact wpAny_release ⟨σ, _, I3, q⟩
def tgFld (C f : Str) (o : EM) : GM := fun d Γ => bnd (o Γ) fun x => bnd (putFld C f d x) fun _ => pur Γ
theorem rg_fld {C f : Str} {fs : List Str} {o : Expr} {mo : EM} {pos : Pos} (c : ClsOk S C fs) (hf : f ∈ fs) (ho : RE S O o mo) : RG S O (.Attribute o f pos) (tgFld C f mo) := by
  obtain ⟨to, o1, o2⟩ := ho.ex
  refine ⟨fun v σ H Q => to σ H fun x H1 => ∃ a C dx fs, x = .ref a ∧ H1 a = some (.ins C dx fs) ∧ Cls S.K C ∧ NoAttr S.K C f ∧ fs.length < 1000 ∧ Q σ (upd H1 a (.ins C dx (putF f v fs))), fun X hX => by rw [← hX.K]; exact pg_fld (o1 X hX), fun B G h σ Γ v d Q w r p => ?_⟩
  unfold tgFld at p
  refine o2 B G h σ Γ _ w ((p.ebnd w.env.bU).mono fun x h1 G1 t1 k1 p1 xv rx => ?_)
  have w1 := w.to t1 k1
  obtain ⟨a, dx, gs, h', rfl, q1, q2, q3, q4, q5⟩ := putFld_ok c hf w1.cl k1 w1.env.bU (r.le t1.le) rx p1
  exact ⟨a, S.cl C, dx, gs, rfl, q1, c.cl, c.no f hf, q2, q5.pur q4 σ (w1.env.to q3)⟩
def sAsg (e : EM) (g : GM) : SM := fun Γ => bnd (e Γ) fun d => bnd (g d Γ) fun Γ' => pur (.nx Γ')
theorem rs_asg {tg e : Expr} {me : EM} {mg : GM} {pos : Pos} (he : RE S O e me) (hg : RG S O tg mg) (hs : ∀ env, swapsWithSole [tg] e pos.line env = pure false) (hw : ∀ env : PySem.Env, env.scope = S.sc → swappedStores [tg] e env = pure none)
    (h1 : ∀ env, (assignEach [tg] env).map (·.2) = [assign tg env]) : RS S O (.Assign [tg] e pos) (sAsg me mg) := by
  obtain ⟨te, e1, e2⟩ := he.ex
  obtain ⟨tt, g1, g2⟩ := hg.ex
  refine ⟨_, fun X hX => ps_asg (e1 X hX) (g1 X hX) (hs _) (hw _ hX.sc) (h1 _), fun B G h σ Γ E w p => ?_⟩
  unfold sAsg at p
  refine e2 B G h σ Γ _ w ((p.ebnd w.env.bU).mono fun d h1 G1 t1 k1 p1 v rv => ?_)
  refine g2 B G1 h1 σ Γ v d _ (w.to t1 k1) rv (p1.bnd.mono fun Γ' h2 G2 y2 k2 p2 σ' e' => p2.pur k2 σ' e')
end Sw

set_option maxHeartbeats 400000
/-! Sw, part J: loops, comprehensions, defs. -/
namespace Sw
open PySem PySem.Spec L2
variable {S : Sx} {O : List Nat}

/-- a walk of the things xs, from G on -/
structure IsIt (G : Wd) (xs : List D) (J : It) : Prop where
  go : ∀ (G' : Wd) (i : Nat), G.Le G' → i < xs.length → J.go i G'.H
  stop : ∀ (G' : Wd) (i : Nat), G.Le G' → xs.length ≤ i → J.stop i G'.H
  yld : ∀ (G' : Wd) (h' : PH) (i : Nat) x H' d, G.Le G' → G'.Ok h' → xs[i]? = some d → J.yld i G'.H x H' → ∃ G'' : Wd, G''.H = H' ∧ G'.To G'' ∧ G''.Ok h' ∧ Rep G'' d x
inductive Itm where
  | vals (xs : List D)
  | ref (n : Nat)
def ItOk (G : Wd) : Itm → It → Prop
  | .vals xs, J => IsIt G xs J ∧ xs.length ≤ 16777216
  | .ref n, J => ∃ a, G.ρ[n]? = some a ∧ J = Itl G.K a
def SI (S : Sx) (O : List Nat) (wi : TI) (m : Env → M Itm) : Prop := ∀ (B : Addr → Prop) (G : Wd) (h : PH) (σ : St) (Γ : Env) (R : It → Hp → Prop), Here S O B G h σ Γ → Pst S G (m Γ h) (fun it _ G' => ∀ J, ItOk G' it J → R J G'.H) → wi σ G.H R
structure RI (S : Sx) (O : List Nat) (tg iter : Expr) (m : Env → M Itm) : Prop where
  ex : ∃ wi, (∀ X, InX S X → PI X tg iter wi) ∧ SI S O wi m
theorem isIt_list {G : Wd} {a : Addr} {xs : List D} {vs : List V} (h : AtL G a vs) (r : Reps G xs vs) : IsIt G xs (Itl G.K a) where
  go := fun G' i l hi => by
    have hv : i < vs.length := by
      rw [r.len]
      exact hi
    exact ⟨vs, vs[i], by rw [← l.K]; exact (h.le l).seq, List.getElem?_eq_getElem hv⟩
  stop := fun G' i l hi => ⟨vs, by rw [← l.K]; exact (h.le l).seq, by rw [r.len]; exact hi⟩
  yld := fun G' h' i x H' d l k hd y => by
    obtain ⟨rfl, q⟩ := y
    have e := q vs (by rw [← l.K]; exact (h.le l).seq)
    obtain ⟨v, e1, e2⟩ := r.get hd
    rw [e] at e1
    cases e1
    exact ⟨G', rfl, .refl G', k, e2.le l⟩
theorem isIt_tup {G : Wd} {a : Addr} {xs : List D} {vs : List V} (h : AtT G a vs) (r : Reps G xs vs) : IsIt G xs (Itt G.K a) where
  go := fun G' i l hi => by
    have hv : i < vs.length := by
      rw [r.len]
      exact hi
    exact ⟨vs, vs[i], by rw [← l.K]; exact (h.le l).seq, List.getElem?_eq_getElem hv⟩
  stop := fun G' i l hi => ⟨vs, by rw [← l.K]; exact (h.le l).seq, by rw [r.len]; exact hi⟩
  yld := fun G' h' i x H' d l k hd y => by
    obtain ⟨rfl, q⟩ := y
    have e := q vs (by rw [← l.K]; exact (h.le l).seq)
    obtain ⟨v, e1, e2⟩ := r.get hd
    rw [e] at e1
    cases e1
    exact ⟨G', rfl, .refl G', k, e2.le l⟩
theorem isIt_rd {G : Wd} {a : Addr} {ns : List Int} (h : AtR G a (ns.map V.int)) : IsIt G (ns.map D.int) (Itl G.K a) where
  go := fun G' i l hi => by
    have hv : i < (ns.map V.int).length := by
      rw [List.length_map] at hi ⊢
      exact hi
    exact ⟨_, (ns.map V.int)[i], by rw [← l.K]; exact (h.le l).seq, List.getElem?_eq_getElem hv⟩
  stop := fun G' i l hi => ⟨_, by rw [← l.K]; exact (h.le l).seq, by rw [List.length_map] at hi ⊢; exact hi⟩
  yld := fun G' h' i x H' d l k hd y => by
    obtain ⟨rfl, q⟩ := y
    have e := q _ (by rw [← l.K]; exact (h.le l).seq)
    obtain ⟨v, e1, e2⟩ := (Reps.ints (G := G) ns).get hd
    rw [e] at e1
    cases e1
    exact ⟨G', rfl, .refl G', k, e2.le l⟩
def rngD (lo : Int) (n : Nat) : List D := (List.range n).map fun (i : Nat) => D.int (lo + (i : Int))
theorem isIt_rng {G : Wd} {lo : Int} {n : Nat} : IsIt G (rngD lo n) (Itr lo n) where
  go := fun G' i l hi => by
    unfold rngD at hi
    rw [List.length_map, List.length_range] at hi
    exact hi
  stop := fun G' i l hi => by
    unfold rngD at hi
    rw [List.length_map, List.length_range] at hi
    exact hi
  yld := fun G' h' i x H' d l k hd y => by
    obtain ⟨rfl, rfl⟩ := y
    unfold rngD at hd
    rw [List.getElem?_map] at hd
    obtain ⟨j, e1, rfl⟩ := Option.map_eq_some_iff.mp hd
    have : j = i := by
      have := List.getElem?_range (n := n) (i := i)
      obtain ⟨hi, e2⟩ := List.getElem?_eq_some_iff.mp e1
      simpa using e2.symm
    subst this
    exact ⟨G', rfl, .refl G', k, .of_int⟩

/-! what is walked -/
def itD (d : D) : M Itm := fun h => match d with
  | .lst xs => if xs.length ≤ 16777216 then .ok (.vals xs) h else .bad
  | .tup xs => if xs.length ≤ 16777216 then .ok (.vals xs) h else .bad
  | .rd ns => .ok (.vals (ns.map D.int)) h
  | .ref n => (match h[n]? with
    | some (.lst _) => .ok (.ref n) h
    | _ => .bad)
  | _ => .bad
def gIt (m : EM) : Env → M Itm := fun Γ => bnd (m Γ) itD
def iSeq (K : PySem.W.Frag) (tl : TE) : TI := fun σ H R => iList K tl σ H R ∨ iTup K tl σ H R
theorem itD_ok {G : Wd} {h : PH} (k : G.Ok h) {d : D} {v : V} (r : Rep G d v) {Z : Itm → PH → Wd → Prop} (p : Pst S G (itD d h) Z) :
    ∃ it, Z it h G ∧ ((∃ a vs, v = .ref a ∧ SqL G.K G.H a vs ∧ ItOk G it (Itl G.K a) ∧ ∀ xs, d ≠ .tup xs) ∨ ∃ a vs, v = .ref a ∧ SqT G.K G.H a vs ∧ ItOk G it (Itt G.K a) ∧ ∃ xs, d = .tup xs) := by
  cases d with
  | lst xs =>
    have p : Pst S G (if xs.length ≤ 16777216 then .ok (.vals xs) h else .bad : R Itm) Z := p
    by_cases hl : xs.length ≤ 16777216
    · rw [if_pos hl] at p
      obtain ⟨a, vs, rfl, h1, h2⟩ := r.lst_inv
      exact ⟨_, p G (.refl G) k, .inl ⟨a, vs, rfl, h1.seq, ⟨isIt_list h1 h2, hl⟩, fun _ z => by cases z⟩⟩
    · rw [if_neg hl] at p
      exact p.elim
  | tup xs =>
    have p : Pst S G (if xs.length ≤ 16777216 then .ok (.vals xs) h else .bad : R Itm) Z := p
    by_cases hl : xs.length ≤ 16777216
    · rw [if_pos hl] at p
      obtain ⟨a, vs, rfl, h1, h2⟩ := r.tup_inv
      exact ⟨_, p G (.refl G) k, .inr ⟨a, vs, rfl, h1.seq, ⟨isIt_tup h1 h2, hl⟩, xs, rfl⟩⟩
    · rw [if_neg hl] at p
      exact p.elim
  | rd ns =>
    obtain ⟨a, rfl, h1⟩ := r.rd_inv
    refine ⟨_, p G (.refl G) k, .inl ⟨a, _, rfl, h1.seq, ⟨isIt_rd h1, ?_⟩, fun _ z => by cases z⟩⟩
    have := h1.len
    rw [List.length_map] at this ⊢
    rw [sizeLine_eq] at this
    exact this
  | ref n =>
    obtain ⟨a, h1, rfl⟩ := r.ref_inv
    obtain ⟨o, h2, h3⟩ := k.at h1
    unfold itD at p
    simp only [h2] at p
    cases o with
    | lst xs =>
      obtain ⟨vs, q1, q2, q3⟩ := h3
      exact ⟨_, p G (.refl G) k, .inl ⟨a, vs, rfl, SqL.of q1, ⟨a, h1, rfl⟩, fun _ z => by cases z⟩⟩
    | _ => exact p.elim
  | _ => exact p.elim
theorem Pst.eq {α : Type} {S : Sx} {G : Wd} {r : R α} {Z : α → PH → Wd → Prop} (p : Pst S G r Z) : Pst S G r (fun a h' G' => r = .ok a h' ∧ Z a h' G') := by
  cases r with
  | ok a h' => exact fun G' t k => ⟨rfl, p G' t k⟩
  | ex c xs h' => exact p
  | bad => exact p
theorem ri_seq {tg e : Expr} {m : EM} (he : RE S O e m) : RI S O tg e (gIt m) := by
  obtain ⟨t, h1, h2⟩ := he.ex
  refine ⟨iSeq S.K t, fun X hX => ⟨fun pins s σ H R I hw => ?_⟩, fun B G h σ Γ R w p => ?_⟩
  · rcases hw with hw | hw
    · exact (pi_list (h1 X hX)).run pins s σ H R I (by rw [hX.K]; exact hw)
    · exact (pi_tup (h1 X hX)).run pins s σ H R I (by rw [hX.K]; exact hw)
  · unfold gIt at p
    by_cases ht : ∃ xs h', m Γ h = .ok (.tup xs) h'
    · right
      refine h2 B G h σ Γ _ w (p.bnd.eq.mono fun d h1 G1 t1 k1 ⟨pe, p1⟩ v r => ?_)
      obtain ⟨xs, h', e⟩ := ht
      rw [e] at pe
      cases pe
      obtain ⟨it, z, h⟩ := itD_ok k1 r p1
      rcases h with ⟨a, vs, _, _, _, h⟩ | ⟨a, vs, rfl, q1, q2, _⟩
      · exact absurd rfl (h xs)
      · rw [← (w.to t1 k1).K]
        exact ⟨a, rfl, ⟨vs, q1⟩, z _ q2⟩
    · left
      refine h2 B G h σ Γ _ w (p.bnd.eq.mono fun d h1 G1 t1 k1 ⟨pe, p1⟩ v r => ?_)
      obtain ⟨it, z, h⟩ := itD_ok k1 r p1
      rcases h with ⟨a, vs, rfl, q1, q2, _⟩ | ⟨a, vs, rfl, q1, q2, xs, rfl⟩
      · rw [← (w.to t1 k1).K]
        exact ⟨a, rfl, ⟨vs, q1⟩, z _ q2⟩
      · exact absurd ⟨xs, h1, pe⟩ ht
/-- a list just made is walked: a display, a sum, a comprehension -/
def lIt (m : LM) : Env → M Itm := fun Γ => bnd (m Γ) fun xs => fun h => if xs.length ≤ 16777216 then .ok (.vals xs) h else .bad
theorem ri_new {tg e : Expr} {m : LM} (he : RF S O e m) : RI S O tg e (lIt m) := by
  obtain ⟨t, h1, h2⟩ := he.ex
  refine ⟨iList S.K t, fun X hX => by rw [← hX.K]; exact pi_list (h1 X hX), fun B G h σ Γ R w p => ?_⟩
  unfold lIt at p
  refine h2 B G h σ Γ _ w (p.bnd.mono fun xs h1 G1 t1 k1 p1 a vs ha hl r => ?_)
  by_cases hx : xs.length ≤ 16777216
  · rw [if_pos hx] at p1
    have k2 := Wd.lay_ok k1 (o := .lst vs) ha
    have t2 := Wd.lay_to k1 (o := .lst vs) ha
    have r2 := rep_layL k1 ha hl r
    refine ⟨a, rfl, ⟨vs, SqL.of upd_same⟩, ?_⟩
    obtain ⟨b, us, e, q1, q2⟩ := r2.lst_inv
    cases e
    have z := p1 (G1.lay a (.lst vs)) t2 k2 _ ⟨isIt_list q1 q2, hx⟩
    rw [← (w.to t1 k1).K]
    exact z
  · rw [if_neg hx] at p1
    exact p1.elim
def rg1 (a : EM) : Env → M Itm := fun Γ => bnd (a Γ) fun d h => match d with
  | .int j => if -4611686018427387904 ≤ j ∧ j ≤ 16777216 then .ok (.vals (rngD 0 j.toNat)) h else .bad
  | _ => .bad
def rg2 (a b : EM) : Env → M Itm := fun Γ => bnd (a Γ) fun d => bnd (b Γ) fun e => fun h => match d, e with
  | .int i, .int j => if -4611686018427387904 ≤ i ∧ i < 4611686018427387904 ∧ -4611686018427387904 ≤ j ∧ j < 4611686018427387904 ∧ j - i ≤ 16777216 then .ok (.vals (rngD i (j - i).toNat)) h else .bad
  | _, _ => .bad
theorem ri_rg1 {tg a : Expr} {m : EM} {p pos : Pos} (g : Gb S "range") (mg : S.mg "range" = none) (he : RE S O a m) (hs : ∀ env, starEach [a] env = [(false, eval a env)]) : RI S O tg (.Call (.Name "range" p) [a] [] pos) (rg1 m) := by
  obtain ⟨t, h1, h2⟩ := he.ex
  refine ⟨iRng1 (tCons t tNil), fun X hX => pi_range1 (g.gl hX) (by rw [hX.mg]; exact mg) (pa_cons (h1 X hX) pa_nil (by rw [hs] <;> rfl)) (hs _), fun B G h σ Γ R w p => ?_⟩
  unfold rg1 at p
  refine h2 B G h σ Γ _ w (p.bnd.mono fun d h1 G1 t1 k1 p1 v r => ?_)
  cases d with
  | int j =>
    have p1 : Pst S G1 (if -4611686018427387904 ≤ j ∧ j ≤ 16777216 then .ok (.vals (rngD 0 j.toNat)) h1 else .bad : Sw.R Itm) _ := p1
    by_cases hj : -4611686018427387904 ≤ j ∧ j ≤ 16777216
    · rw [if_pos hj] at p1
      refine ⟨j, by rw [r.int_inv], by omega, by omega, p1 G1 (.refl G1) k1 _ ⟨isIt_rng, ?_⟩⟩
      unfold rngD
      rw [List.length_map, List.length_range]
      omega
    · rw [if_neg hj] at p1
      exact p1.elim
  | _ => exact p1.elim
theorem ri_rg2 {tg a b : Expr} {m m' : EM} {p pos : Pos} (g : Gb S "range") (mg : S.mg "range" = none) (he : RE S O a m) (hf : RE S O b m') (hs : ∀ env, starEach [a, b] env = [(false, eval a env), (false, eval b env)]) (hs2 : ∀ env, starEach [b] env = [(false, eval b env)]) :
    RI S O tg (.Call (.Name "range" p) [a, b] [] pos) (rg2 m m') := by
  obtain ⟨t, h1, h2⟩ := he.ex
  obtain ⟨u, u1, u2⟩ := hf.ex
  refine ⟨iRng2 (tCons t (tCons u tNil)), fun X hX => pi_range2 (g.gl hX) (by rw [hX.mg]; exact mg) (pa_cons (h1 X hX) (pa_cons (u1 X hX) pa_nil (by rw [hs2] <;> rfl)) (by rw [hs, hs2])) (hs _) (hs2 _), fun B G h σ Γ R w p => ?_⟩
  unfold rg2 at p
  refine h2 B G h σ Γ _ w (p.bnd.mono fun d h1 G1 t1 k1 p1 v r => ?_)
  refine u2 B G1 h1 σ Γ _ (w.to t1 k1) (p1.bnd.mono fun e h2 G2 t2 k2 p2 v' r' => ?_)
  cases d with
  | int i =>
    cases e with
    | int j =>
      have p2 : Pst S G2 (if -4611686018427387904 ≤ i ∧ i < 4611686018427387904 ∧ -4611686018427387904 ≤ j ∧ j < 4611686018427387904 ∧ j - i ≤ 16777216 then .ok (.vals (rngD i (j - i).toNat)) h2 else .bad : Sw.R Itm) _ := p2
      by_cases hj : -4611686018427387904 ≤ i ∧ i < 4611686018427387904 ∧ -4611686018427387904 ≤ j ∧ j < 4611686018427387904 ∧ j - i ≤ 16777216
      · rw [if_pos hj] at p2
        refine ⟨i, j, by rw [r.int_inv, r'.int_inv], by omega, p2 G2 (.refl G2) k2 _ ⟨isIt_rng, ?_⟩⟩
        unfold rngD
        rw [List.length_map, List.length_range]
        omega
      · rw [if_neg hj] at p2
        exact p2.elim
    | _ => exact p2.elim
  | _ => exact p2.elim

/-! ### for -/
def loopV (b : D → Env → M Fl) : List D → Env → M Fl
  | [], Γ => pur (.nx Γ)
  | x :: xs, Γ => bnd (b x Γ) fun f => match f with
    | .nx Γ' => loopV b xs Γ'
    | .rt d => pur (.rt d)
/-- over a list that is an object, as it stands at each turn -/
def loopR (b : D → Env → M Fl) (n : Nat) : Nat → Nat → Env → M Fl
  | fuel, i, Γ => fun h => match h[n]? with
    | some (.lst xs) => (match xs[i]? with
      | none => .ok (.nx Γ) h
      | some x => (match fuel with
        | 0 => .bad
        | fuel + 1 => bnd (b x Γ) (fun f => match f with
          | .nx Γ' => loopR b n fuel (i + 1) Γ'
          | .rt d => pur (.rt d)) h))
    | _ => .bad
def sFor (it : Env → M Itm) (tg : GM) (body : SM) : SM := fun Γ => bnd (it Γ) fun I => match I with
  | .vals xs => loopV (fun x Γ => bnd (tg x Γ) body) xs Γ
  | .ref n => fun h => (match h[n]? with
    | some (.lst xs) => loopR (fun x Γ => bnd (tg x Γ) body) n xs.length 0 Γ h
    | _ => .bad)
section
variable {wi : TI} {g : TG} {tb : TS} {tg : GM} {body : SM}
/-- one turn -/
theorem turn_ok (hg : SG S O g tg) (hb : SSt S O tb body) {B : Addr → Prop} {G : Wd} {h : PH} {σ : St} {Γ : Env} {E : Ends} {N : St → Hp → Prop} {d : D} {x : V} {k : Env → M Fl} (w : Here S O B G h σ Γ) (r : Rep G d x)
    (p : PsS S B G (bnd (bnd (tg d Γ) body) (fun f => match f with
      | .nx Γ' => k Γ'
      | .rt d => pur (.rt d)) h) (Zst O B E))
    (next : ∀ σ' Γ' G' h', G.By B G' → Here S O B G' h' σ' Γ' → PsS S B G' (k Γ' h') (Zst O B E) → N σ' G'.H) : g x σ G.H fun σ2 H2 => tb { E with nx := N, ct := N, bk := E.nx } σ2 H2 := by
  refine hg B G h σ Γ x d _ w r (p.bnd.bnd.mono fun Γ1 h1 G1 y1 k1 p1 σ1 e1 => ?_)
  have w1 := w.by y1 k1 e1
  refine hb B G1 h1 σ1 Γ1 _ w1 (p1.mono fun f h2 G2 y2 k2 p2 => ?_)
  cases f with
  | nx Γ2 => exact fun σ2 e2 => next σ2 Γ2 G2 h2 (y1.trans y2) (w1.by y2 k2 e2) p2
  | rt d => exact p2.pur k2
theorem ss_for {m : Env → M Itm} (hi : SI S O wi m) (hg : SG S O g tg) (hb : SSt S O tb body) : SSt S O (tFor wi g tb) (sFor m tg body) := by
  intro B G h σ Γ E w p
  unfold sFor at p
  refine hi B G h σ Γ _ w ((p.ebnd w.env.bU).mono fun it h1 G1 t1 k1 p1 J ij => ?_)
  have w1 := w.to t1 k1
  cases it with
  | vals xs =>
    obtain ⟨ij, _⟩ := ij
    refine ⟨fun i m σ H => ∃ G2 h2 Γ2, G2.H = H ∧ G1.Le G2 ∧ Here S O B G2 h2 σ Γ2 ∧ i ≤ xs.length ∧ m = xs.length - i ∧ PsS S B G2 (loopV (fun x Γ => bnd (tg x Γ) body) (xs.drop i) Γ2 h2) (Zst O B E), ⟨xs.length, G1, h1, Γ, rfl, .refl G1, w1, Nat.zero_le _, by simp, by simpa using p1⟩, ?_⟩
    rintro i m σ2 H2 ⟨G2, h2, Γ2, rfl, l2, w2, hi, rfl, p2⟩
    by_cases hlt : i < xs.length
    · right
      refine ⟨ij.go G2 i l2 hlt, fun σ' H' => ∃ G3 h3 Γ3, G3.H = H' ∧ G1.Le G3 ∧ Here S O B G3 h3 σ' Γ3 ∧ PsS S B G3 (loopV (fun x Γ => bnd (tg x Γ) body) (xs.drop (i + 1)) Γ3 h3) (Zst O B E), ?_, ?_⟩
      · rintro σ' H' ⟨G3, h3, Γ3, e3, l3, w3, p3⟩
        exact ⟨xs.length - (i + 1), by omega, G3, h3, Γ3, e3, l3, w3, hlt, rfl, p3⟩
      · intro x H' y
        have hd : xs[i]? = some xs[i] := List.getElem?_eq_getElem hlt
        obtain ⟨G3, e3, t3, k3, r3⟩ := ij.yld G2 h2 i x H' xs[i] l2 w2.ok hd y
        subst e3
        have w3 := w2.to t3 k3
        rw [List.drop_eq_getElem_cons hlt] at p2
        refine turn_ok hg hb (k := loopV (fun x Γ => bnd (tg x Γ) body) (xs.drop (i + 1))) w3 r3 (p2.step (t3.by w2.env.bU)) fun σ' Γ' G' h' y' w' p' => ?_
        exact ⟨G', h', Γ', rfl, (l2.trans t3.le).trans y'.le, w', p'⟩
    · left
      have e : i = xs.length := by omega
      subst e
      rw [List.drop_length] at p2
      exact ⟨ij.stop G2 _ l2 (Nat.le_refl _), (p2.pur w2.ok : Zst O B E (.nx Γ2) h2 G2) σ2 w2.env⟩
  | ref n =>
    obtain ⟨a, ha, rfl⟩ := ij
    obtain ⟨ob, q2, q3⟩ := k1.at ha
    simp only [q2] at p1
    cases ob with
    | lst xs0 =>
      simp only at p1
      refine ⟨fun i m σ H => ∃ G2 h2 Γ2, G2.H = H ∧ G1.Le G2 ∧ Here S O B G2 h2 σ Γ2 ∧ PsS S B G2 (loopR (fun x Γ => bnd (tg x Γ) body) n m i Γ2 h2) (Zst O B E), ⟨xs0.length, G1, h1, Γ, rfl, .refl G1, w1, p1⟩, ?_⟩
      rintro i m σ2 H2 ⟨G2, h2, Γ2, rfl, l2, w2, p2⟩
      have ha2 := pre_get l2.ρ ha
      obtain ⟨ob2, b2, b3⟩ := w2.ok.at ha2
      unfold loopR at p2
      simp only [b2] at p2
      cases ob2 with
      | lst xs =>
        obtain ⟨vs, c1, c2, c3⟩ := b3
        simp only at p2
        cases e : xs[i]? with
        | none =>
          simp only [e] at p2
          left
          refine ⟨⟨vs, by rw [← l2.K]; exact SqL.of c1, ?_⟩, p2 G2 (.refl G2) w2.ok σ2 w2.env⟩
          rw [c3.len]
          exact List.getElem?_eq_none_iff.mp e
        | some d =>
          simp only [e] at p2
          cases m with
          | zero => exact p2.elim
          | succ m =>
            simp only at p2
            right
            obtain ⟨v, v1, v2⟩ := c3.get e
            refine ⟨⟨vs, v, by rw [← l2.K]; exact SqL.of c1, v1⟩, fun σ' H' => ∃ G3 h3 Γ3, G3.H = H' ∧ G1.Le G3 ∧ Here S O B G3 h3 σ' Γ3 ∧ PsS S B G3 (loopR (fun x Γ => bnd (tg x Γ) body) n m (i + 1) Γ3 h3) (Zst O B E), ?_, ?_⟩
            · rintro σ' H' ⟨G3, h3, Γ3, e3, l3, w3, p3⟩
              exact ⟨m, Nat.lt_succ_self m, G3, h3, Γ3, e3, l3, w3, p3⟩
            · rintro x H' ⟨rfl, y⟩
              have ey := y vs (by rw [← l2.K]; exact SqL.of c1)
              rw [v1] at ey
              cases ey
              exact turn_ok hg hb (k := loopR (fun x Γ => bnd (tg x Γ) body) n m (i + 1)) w2 v2 p2 fun σ' Γ' G' h' y' w' p' => ⟨G', h', Γ', rfl, l2.trans y'.le, w', p'⟩
      | _ => exact p2.elim
    | _ => exact p1.elim
end
theorem rs_for {tge iter : Expr} {b : List Stmt} {m : Env → M Itm} {tg : GM} {body : SM} {pos : Pos} (hi : RI S O tge iter m) (hg : RG S O tge tg) (hb : RSs S O b body) (hs : ∀ env x, foldedSetIterable iter env x = pure x) : RS S O (.For tge iter b [] pos) (sFor m tg body) := by
  obtain ⟨wi, i1, i2⟩ := hi.ex
  obtain ⟨g, g1, g2⟩ := hg.ex
  obtain ⟨tb, b1, b2⟩ := hb.ex
  exact ⟨_, fun X hX => ps_for hX.own hX.calm (i1 X hX) (g1 X hX) (b1 X hX) (hs _), ss_for i2 g2 b2⟩

/-! ### while -/
def loopW (c : TM) (body : SM) : Nat → Env → M Fl
  | fuel, Γ => bnd (c Γ) fun k => if k = true then (match fuel with
    | 0 => bad
    | fuel + 1 => bnd (body Γ) fun f => match f with
      | .nx Γ' => loopW c body fuel Γ'
      | .rt d => pur (.rt d)) else pur (.nx Γ)
def sWhile (fuel : Nat) (c : TM) (body : SM) : SM := loopW c body fuel
theorem rs_while {c : Expr} {b : List Stmt} {mc : TM} {body : SM} {pos : Pos} (fuel : Nat) (hc : RT S O c mc) (hb : RSs S O b body) : RS S O (.While c b [] pos) (sWhile fuel mc body) := by
  obtain ⟨tc, c1, c2⟩ := hc.ex
  obtain ⟨tb, b1, b2⟩ := hb.ex
  refine ⟨_, fun X hX => ps_while hX.own (c1 X hX) (b1 X hX), fun B G h σ Γ E w p => ?_⟩
  refine ⟨fun m σ H => ∃ G2 h2 Γ2, G2.H = H ∧ Here S O B G2 h2 σ Γ2 ∧ PsS S B G2 (loopW mc body m Γ2 h2) (Zst O B E), ⟨fuel, G, h, Γ, rfl, w, p⟩, ?_⟩
  rintro m σ2 H2 ⟨G2, h2, Γ2, rfl, w2, p2⟩
  unfold loopW at p2
  refine c2 B G2 h2 σ2 Γ2 _ w2 ((p2.ebnd w2.env.bU).mono fun k h3 G3 t3 k3 p3 => ?_)
  have w3 := w2.to t3 k3
  cases k with
  | true =>
    simp only [if_true] at p3 ⊢
    cases m with
    | zero => exact p3.elim
    | succ m =>
      simp only at p3
      refine ⟨fun σ' H' => ∃ G4 h4 Γ4, G4.H = H' ∧ Here S O B G4 h4 σ' Γ4 ∧ PsS S B G4 (loopW mc body m Γ4 h4) (Zst O B E), ?_, ?_⟩
      · rintro σ' H' ⟨G4, h4, Γ4, e4, w4, p4⟩
        exact ⟨m, Nat.lt_succ_self m, G4, h4, Γ4, e4, w4, p4⟩
      · refine b2 B G3 h3 σ2 Γ2 _ w3 (p3.bnd.mono fun f h4 G4 y4 k4 p4 => ?_)
        cases f with
        | nx Γ4 => exact fun σ4 e4 => ⟨G4, h4, Γ4, rfl, w3.by y4 k4 e4, p4⟩
        | rt d => exact p4.pur k4
  | false =>
    simp only [Bool.false_eq_true, if_false] at p3 ⊢
    exact (p3.pur k3 : Zst O B E (.nx Γ2) h3 G3) σ2 w3.env
end Sw

set_option maxHeartbeats 400000
/-! Sw, part K: comprehensions, defs. -/
namespace Sw
open PySem PySem.Spec L2
variable {S : Sx} {O : List Nat}

theorem wipe_set {i : Nat} {o : Option V} : ∀ {vs : List Nat} {σ : St}, i ∈ vs → wipe (σ.set i o) vs = wipe σ vs := by
  intro vs
  induction vs with
  | nil => intro σ h; cases h
  | cons v r ih =>
    intro σ h
    show (wipe (σ.set i o) r).set v none = (wipe σ r).set v none
    by_cases e : i ∈ r
    · rw [ih e]
    · have hv : i = v := by
        rcases List.mem_cons.mp h with h | h
        · exact h
        · exact absurd h e
      subst hv
      have key : ∀ (r : List Nat) (σ : St), i ∉ r → wipe (σ.set i o) r = (wipe σ r).set i o := by
        intro r
        induction r with
        | nil => intro σ _; rfl
        | cons w s ih2 =>
          intro σ hn
          show (wipe (σ.set i o) s).set w none = ((wipe σ s).set w none).set i o
          rw [ih2 σ (fun q => hn (List.mem_cons_of_mem _ q))]
          rw [List.set_comm _ _ (show w ≠ i from fun q => hn (by rw [q]; exact List.mem_cons_self))]
      rw [key r σ e, List.set_set]
def wipeE (Γ : Env) : List Nat → Env
  | [] => Γ
  | v :: vs => (wipeE Γ vs).set v none
theorem EnvOk.unset {B : Addr → Prop} {G : Wd} {σ : St} {Γ : Env} (e : EnvOk O B G σ Γ) (i : Nat) : EnvOk O B G (σ.set i none) (Γ.set i none) where
  len := by rw [List.length_set, List.length_set, e.len]
  val := fun j d h1 h2 => by
    rcases set_get h1 with ⟨rfl, q⟩ | ⟨q1, q2⟩
    · cases q
    · obtain ⟨u, u1, u2⟩ := e.val j d q2 h2
      exact ⟨u, by rw [List.getElem?_set_ne (fun q => q1 q.symm)]; exact u1, u2⟩
  own := fun j d h1 h2 => by
    rcases set_get h1 with ⟨rfl, q⟩ | ⟨q1, q2⟩
    · cases q
    · obtain ⟨xs, a, vs, u1, u2, u3⟩ := e.own j d q2 h2
      exact ⟨xs, a, vs, u1, by rw [List.getElem?_set_ne (fun q => q1 q.symm)]; exact u2, u3⟩
  sep := fun j l d1 d2 a h1 h2 g1 g2 g3 g4 => by
    rcases set_get g1 with ⟨rfl, q⟩ | ⟨q1, q2⟩
    · cases q
    rcases set_get g2 with ⟨rfl, q⟩ | ⟨q3, q4⟩
    · cases q
    rw [List.getElem?_set_ne (fun q => q1 q.symm)] at g3
    rw [List.getElem?_set_ne (fun q => q3 q.symm)] at g4
    exact e.sep j l d1 d2 a h1 h2 q2 q4 g3 g4
  bU := e.bU
theorem EnvOk.wipe {B : Addr → Prop} {G : Wd} {σ : St} {Γ : Env} (e : EnvOk O B G σ Γ) : ∀ vs : List Nat, EnvOk O B G (L2.wipe σ vs) (wipeE Γ vs)
  | [] => e
  | v :: vs => (EnvOk.wipe e vs).unset v
/-! targets of a comprehension: its own names -/
def SCt (S : Sx) (O vs : List Nat) (t : TG) (m : GM) : Prop := ∀ (B : Addr → Prop) (G : Wd) (h : PH) (σ : St) (Γ : Env) (v : V) (d : D) (Q : St → Hp → Prop), Here S O B G h σ Γ → Rep G d v →
  Pst S G (m d Γ h) (fun Γ' _ G' => ∀ σ', EnvOk O B G' σ' Γ' → wipe σ' vs = wipe σ vs → Q σ' G'.H) → t v σ G.H Q
structure RC (S : Sx) (O vs : List Nat) (tg : Expr) (m : GM) : Prop where
  ex : ∃ t, (∀ X, InX S X → PG X tg t) ∧ SCt S O vs t m
def SCts (S : Sx) (O vs : List Nat) (t : TGs) (m : List D → Env → M Env) : Prop := ∀ (B : Addr → Prop) (G : Wd) (h : PH) (σ : St) (Γ : Env) (us : List V) (ds : List D) (Q : St → Hp → Prop), Here S O B G h σ Γ → Reps G ds us →
  Pst S G (m ds Γ h) (fun Γ' _ G' => ∀ σ', EnvOk O B G' σ' Γ' → wipe σ' vs = wipe σ vs → Q σ' G'.H) → t us σ G.H Q
structure RCs (S : Sx) (O vs : List Nat) (tgs : List Expr) (m : List D → Env → M Env) : Prop where
  ex : ∃ t, (∀ X, InX S X → PGs X tgs t) ∧ SCts S O vs t m
theorem rc_name {vs : List Nat} {i : Nat} {x : Str} {pos : Pos} (l : Lc S i x) (hi : i ∉ O) (hv : i ∈ vs) : RC S O vs (.Name x pos) (tgName i) :=
  ⟨gName i, fun X hX => pg_name (by rw [hX.N]; exact l.nd) (by rw [hX.N]; exact l.n) (by rw [hX.sc]; exact l.l) (l.fn hX), fun B G h σ Γ v d Q w r p => p.pur w.ok _ (w.env.set hi r) (wipe_set hv)⟩
theorem rcs_nil {vs : List Nat} : RCs S O vs [] tgNil := by
  refine ⟨gNil, fun X _ => pgs_nil, fun B G h σ Γ us ds Q w r p => ?_⟩
  cases ds with
  | nil => exact ⟨r.nil_inv, p.pur w.ok σ w.env rfl⟩
  | cons d ds => exact p.elim
theorem rcs_cons {vs : List Nat} {e : Expr} {es : List Expr} {a : GM} {b : List D → Env → M Env} (h1 : RC S O vs e a) (h2 : RCs S O vs es b) (hs : ∀ env, (assignEach (e :: es) env).map (·.2) = assign e env :: (assignEach es env).map (·.2)) : RCs S O vs (e :: es) (tgCons a b) := by
  obtain ⟨t, t1, t2⟩ := h1.ex
  obtain ⟨u, u1, u2⟩ := h2.ex
  refine ⟨_, fun X hX => pgs_cons (t1 X hX) (u1 X hX) (hs _), fun B G h σ Γ us ds Q w r p => ?_⟩
  cases ds with
  | nil => exact p.elim
  | cons d ds =>
    obtain ⟨v, vr, rfl, r1, r2⟩ := r.cons_inv
    have p : Pst S G (bnd (a d Γ) (fun Γ' => b ds Γ') h) _ := p
    refine ⟨v, vr, rfl, t2 B G h σ Γ v d _ w r1 (p.bnd.mono fun Γ1 h1 G1 y1 k1 p1 σ1 e1 q1 => ?_)⟩
    exact u2 B G1 h1 σ1 Γ1 vr ds Q ⟨y1.le.K.trans w.K, y1.le.cl.trans w.cl, k1, e1⟩ (Reps.le y1.le _ r2) (p1.mono fun Γ2 h2 G2 y2 k2 p2 σ2 e2 q2 => p2 σ2 e2 (q2.trans q1))
theorem rc_tup {vs : List Nat} {es : List Expr} {k : Nat} {b : List D → Env → M Env} {pos : Pos} {n : Nat} (h : RCs S O vs es b) (hn : ∀ env, (assignEach es env).length = n) (hst : ∀ env, (assignEach es env).findIdx? (·.1) = none) : RC S O vs (.Tuple es k pos) (tgTup n b) := by
  obtain ⟨t, t1, t2⟩ := h.ex
  refine ⟨gTupA S.K n t, fun X hX => ⟨fun pins s σ H v u Q I r hw => ?_⟩, fun B G h σ Γ v d Q w r p => ?_⟩
  · rcases hw with hw | hw
    · exact (pg_tup hX.calm (t1 X hX) (hn _) (hst _)).run pins s σ H v u Q I r (by rw [hX.K]; exact hw)
    · exact (pg_unl hX.calm (t1 X hX) (hn _) (hst _)).run pins s σ H v u Q I r (by rw [hX.K]; exact hw)
  · unfold tgTup at p
    cases e : seqD h d with
    | none =>
      simp only [e] at p
      exact p.elim
    | some xs =>
      simp only [e] at p
      by_cases hl : xs.length = n
      · rw [if_pos hl] at p
        obtain ⟨a, us, rfl, q1, q2, q3⟩ := seq_at w.ok (.inl r) e
        have fin := t2 B G h σ Γ us xs Q w q3 p
        rw [← w.K]
        rcases q1 with q1 | q1
        · exact .inr ⟨a, us, rfl, q1, q3.len.trans hl, fin⟩
        · exact .inl ⟨a, us, rfl, q1, q3.len.trans hl, fin⟩
      · rw [if_neg hl] at p
        exact p.elim

/-! the tests of a comprehension -/
structure RTs (S : Sx) (O : List Nat) (ifs : List Expr) (m : TM) : Prop where
  ex : ∃ t, (∀ X, InX S X → PTs X ifs t) ∧ ST S O t m
def tTrue : TM := fun _ => pur true
theorem rts_nil : RTs S O [] tTrue := ⟨tYes, fun X _ => pts_nil, fun B G h σ Γ Q w p => p.pur w.ok⟩
theorem rts_one {c : Expr} {m : TM} (h : RT S O c m) : RTs S O [c] m := by
  obtain ⟨t, h1, h2⟩ := h.ex
  exact ⟨t, fun X hX => pts_one (h1 X hX), h2⟩

/-- nothing is raised -/
def noX {α : Type} (m : M α) : M α := fun h => match m h with
  | .ok a h' => .ok a h'
  | _ => .bad
theorem noX_ok {α : Type} {m : M α} {h h' : PH} {a : α} (e : m h = .ok a h') : noX m h = .ok a h' := by
  unfold noX
  rw [e]
def compV (one : D → M (List D)) : List D → M (List D)
  | [] => pur []
  | x :: xs => bnd (noX (one x)) fun o => bnd (compV one xs) fun ys => pur (o ++ ys)
def compR (one : D → M (List D)) (n : Nat) : Nat → Nat → M (List D)
  | fuel, i => fun h => match h[n]? with
    | some (.lst xs) => (match xs[i]? with
      | none => .ok [] h
      | some x => (match fuel with
        | 0 => .bad
        | fuel + 1 => bnd (noX (one x)) (fun o => bnd (compR one n fuel (i + 1)) fun ys => pur (o ++ ys)) h))
    | _ => .bad
def oneC (tg : GM) (tt : TM) (el : EM) (Γ : Env) (x : D) : M (List D) := bnd (tg x Γ) fun Γ2 => bnd (tt Γ2) fun k => if k = true then bnd (el Γ2) fun y => pur [y] else pur []
def lComp (vs : List Nat) (it : Env → M Itm) (tg : GM) (tt : TM) (el : EM) : LM := fun Γ => bnd (it Γ) fun I => match I with
  | .vals xs => compV (oneC tg tt el (wipeE Γ vs)) xs
  | .ref n => fun h => (match h[n]? with
    | some (.lst xs) => if xs.length ≤ 16777216 then compR (oneC tg tt el (wipeE Γ vs)) n xs.length 0 h else .bad
    | _ => .bad)
theorem bnd_inv {α β : Type} {m : M α} {f : α → M β} {h h' : PH} {b : β} (e : bnd m f h = .ok b h') : ∃ a h1, m h = .ok a h1 ∧ f a h1 = .ok b h' := by
  unfold bnd at e
  cases q : m h with
  | ok a h1 =>
    rw [q] at e
    exact ⟨a, h1, rfl, e⟩
  | ex c xs h1 =>
    rw [q] at e
    cases e
  | bad =>
    rw [q] at e
    cases e
theorem Pst.noX {α β : Type} {S : Sx} {G : Wd} {m : M β} {f : β → M α} {h : PH} {Z : α → PH → Wd → Prop} (p : Pst S G (Sw.bnd (Sw.noX m) f h) Z) : ∃ a h1, m h = .ok a h1 ∧ Pst S G (f a h1) Z := by
  unfold Sw.bnd Sw.noX at p
  cases q : m h with
  | ok a h1 =>
    rw [q] at p
    exact ⟨a, h1, rfl, p⟩
  | ex c xs h1 =>
    rw [q] at p
    exact p.elim
  | bad =>
    rw [q] at p
    exact p.elim
/-- the block's static context -/
def Sx.blk (S : Sx) (scope : Scope) : Sx := { S with sc := relS scope S.sc, E := E0, fa := fun x => scope.names.lookup x == some .cell, rz := false }
theorem InX.blk_ {X : Cx} (hX : InX S X) {scope : Scope} {own : List (Str × Nat)} (ok : BlkOk S.N S.sc scope own) (s : Shared) (H : Hp) (C : Addr) (cl : List (Str × Addr)) (fp : List Addr) : InX (S.blk scope) (X.blk s H scope (compEnvC scope cl C X.env) fp) where
  prog := hX.prog
  w := hX.w
  K := hX.K
  mg := hX.mg
  base := hX.base
  N := hX.N
  sc := by
    show relS scope X.env.scope = relS scope S.sc
    rw [hX.sc]
  room := hX.room
  calm := hX.calm
  fn := fun x h => h
  pass := hX.blk _ hX.prog hX.w
  own := PassesOwn.never
  kind := ok.kind
  blk := hX.blk
  tk := fun h => by cases h

/-- one place holds the list at D: while it is made -/
def Wd.un (G : Wd) (U : Addr → Prop) (p : Addr) : Wd := { G with U := U, H := fun b => if b = p then none else G.H b }
theorem Wd.un_le {G : Wd} {U : Addr → Prop} {p : Addr} (hp : G.U p) (hU : ∀ a, U a → G.U a) : G.Le (G.un U p) :=
  ⟨rfl, rfl, List.prefix_refl _, fun a o h1 h2 h3 => ⟨by
    show (if a = p then none else G.H a) = some o
    rw [if_neg (fun q => h3 (by rw [q]; exact hp))]
    exact h1, h2, fun q => h3 (hU a q)⟩⟩
theorem Wd.un_ok {G : Wd} {h : PH} (k : G.Ok h) {U : Addr → Prop} {p : Addr} (hp : G.U p) (hU : ∀ a, U a → G.U a) (nU : ¬ U p) : (G.un U p).Ok h where
  len := k.len
  nd := k.nd
  own := fun a ha => by
    obtain ⟨h1, vs, h2⟩ := k.own a (hU a ha)
    refine ⟨h1, vs, ?_⟩
    show (if a = p then none else G.H a) = _
    rw [if_neg (fun q => nU (by rw [← q]; exact ha))]
    exact h2
  obs := fun n a o h1 h2 => by
    have ne : a ≠ p := fun q => (k.own p hp).1 (by rw [← q]; exact List.mem_of_getElem? h1)
    exact (k.obs n a o h1 h2).le (Wd.un_le hp hU) (by
      show (if a = p then none else G.H a) = _
      rw [if_neg ne])
theorem Wd.un_upd {G : Wd} {U : Addr → Prop} {p : Addr} {o : HO} (e : G.H p = some o) : upd (G.un U p).H p o = G.H := by
  funext b
  unfold upd
  by_cases q : b = p
  · rw [if_pos q, q, e]
  · rw [if_neg q]
    show (if b = p then none else G.H b) = _
    rw [if_neg q]
/-- how the world goes on while the list at p is made: from G (without p) -/
structure Mk1 (G : Wd) (p : Addr) (G2 : Wd) : Prop where
  le : (G.layU p (.lst [])).Le G2
  U : G2.U = fun a => a = p ∨ G.U a
  ow : ∀ a, G.U a → G2.H a = G.H a
theorem Mk1.step {G G2 G3 : Wd} {p : Addr} (m : Mk1 G p G2) (t : G2.To G3) : Mk1 G p G3 :=
  ⟨m.le.trans t.le, t.U.trans m.U, fun a ha => (t.ow a (by rw [m.U]; exact .inr ha)).trans (m.ow a ha)⟩
theorem Mk1.put {G G2 : Wd} {h : PH} (k : G.Ok h) {p : Addr} (hp : G.H p = none) (m : Mk1 G p G2) (o : HO) : Mk1 G p (G2.putU p o) :=
  ⟨m.le.trans (Wd.putU_le (by rw [m.U]; exact .inl rfl)), m.U, fun a ha => (upd_ne (k.neU hp ha)).trans (m.ow a ha)⟩
theorem Mk1.back {G G2 : Wd} {h h2 : PH} (k : G.Ok h) {p : Addr} (hp : G.H p = none) (m : Mk1 G p G2) (k2 : G2.Ok h2) : G.To (G2.un G.U p) ∧ (G2.un G.U p).Ok h2 ∧ (G2.un G.U p).H p = none ∧ G2.Le (G2.un G.U p) := by
  have hU : ∀ a, G.U a → G2.U a := fun a ha => by
    rw [m.U]
    exact .inr ha
  have pU : G2.U p := by
    rw [m.U]
    exact .inl rfl
  refine ⟨⟨((Wd.layU_le hp).trans m.le).trans (Wd.un_le pU hU), rfl, fun a ha => ?_⟩, Wd.un_ok k2 pU hU (k.notU hp), ?_, Wd.un_le pU hU⟩
  · show (if a = p then none else G2.H a) = _
    rw [if_neg (k.neU hp ha)]
    exact m.ow a ha
  · show (if p = p then none else G2.H p) = _
    rw [if_pos rfl]
theorem EnvOk.mk1 {B : Addr → Prop} {G G2 : Wd} {σ : St} {Γ : Env} (e : EnvOk O B G σ Γ) {p : Addr} (hp : G.H p = none) (m : Mk1 G p G2) : EnvOk O B G2 σ Γ where
  len := e.len
  val := fun i d h1 h2 => let ⟨v, q1, q2⟩ := e.val i d h1 h2; ⟨v, q1, (q2.le (Wd.layU_le hp)).le m.le⟩
  own := fun i d h1 h2 => let ⟨xs, a, vs, q1, q2, q3, q4, q5, q6, q7⟩ := e.own i d h1 h2; ⟨xs, a, vs, q1, q2, by rw [m.U]; exact .inr q3, q4, (m.ow a q3).trans q5, q6, Reps.le m.le _ (Reps.le (Wd.layU_le hp) _ q7)⟩
  sep := e.sep
  bU := fun a h => by
    rw [m.U]
    exact .inr (e.bU a h)
section
variable {wi : TI} {g : TG} {tt : TT} {te : TE} {tg : GM} {tm : TM} {el : EM} {vs : List Nat} {S' : Sx}
/-- one turn -/
theorem comp_turn (hK : S'.K = S.K) (hcl : S'.cl = S.cl) (hg : SCt S' O vs g tg) (ht : ST S' O tt tm) (he : SE S' O te el) {B : Addr → Prop} {G G2 : Wd} {h h2 h3 : PH} {σ : St} {Γ : Env} {p : Addr} {d : D} {x : V} {o acc : List D} {accV : List V} {Nx : Hp → Prop}
    (k : G.Ok h) (w : Here S O B G h σ Γ) (hp : G.H p = none) (m : Mk1 G p G2) (k2 : G2.Ok h2) (r : Rep G2 d x) (hacc : G2.H p = some (.lst accV)) (hr : Reps G2 acc accV) (hz : accV.length < sizeLine)
    (one : oneC tg tm el (wipeE Γ vs) d h2 = .ok o h3)
    (next : ∀ G3 accV', Mk1 G p G3 → G3.Ok h3 → G3.H p = some (.lst accV') → Reps G3 (acc ++ o) accV' → accV'.length ≤ accV.length + 1 → Nx G3.H) :
    g x (wipe σ vs) G2.H fun σ2 H2 => wipe σ2 vs = wipe σ vs ∧ tt σ2 H2 fun b H3 => if b = true then te σ2 H3 fun y H4 => ∃ acc, H4 p = some (.lst acc) ∧ acc.length < sizeLine ∧ Nx (upd H4 p (.lst (acc ++ [y]))) else Nx H3 := by
  unfold oneC at one
  obtain ⟨Γ2, ha, e1, one⟩ := bnd_inv one
  obtain ⟨b, hb, e2, one⟩ := bnd_inv one
  have w2 : Here S' O B G2 h2 (wipe σ vs) (wipeE Γ vs) := ⟨m.le.K.trans ((Wd.layU_le hp).K.trans (w.K.trans hK.symm)), m.le.cl.trans ((Wd.layU_le hp).cl.trans (w.cl.trans hcl.symm)), k2, (w.env.mk1 hp m).wipe vs⟩
  have ww : ∀ (vs : List Nat) (σ : St), wipe (wipe σ vs) vs = wipe σ vs := by
    intro vs
    induction vs with
    | nil => intro σ; rfl
    | cons v r ih =>
      intro σ
      show (wipe ((wipe σ r).set v none) r).set v none = (wipe σ r).set v none
      by_cases hv : v ∈ r
      · rw [wipe_set hv, ih]
      · have key : ∀ (r : List Nat) (σ : St), v ∉ r → wipe (σ.set v none) r = (wipe σ r).set v none := by
          intro r
          induction r with
          | nil => intro σ _; rfl
          | cons w s ih2 =>
            intro σ hn
            show (wipe (σ.set v none) s).set w none = ((wipe σ s).set w none).set v none
            rw [ih2 σ (fun q => hn (List.mem_cons_of_mem _ q))]
            rw [List.set_comm _ _ (show w ≠ v from fun q => hn (by rw [q]; exact List.mem_cons_self))]
        rw [key r _ hv, ih, List.set_set]
  refine hg B G2 h2 (wipe σ vs) (wipeE Γ vs) x d _ w2 r ?_
  rw [e1]
  intro G4 t4 k4 σ4 en4 wi4
  refine ⟨wi4.trans (ww vs σ), ?_⟩
  have w4 : Here S' O B G4 ha σ4 Γ2 := ⟨t4.le.K.trans w2.K, t4.le.cl.trans w2.cl, k4, en4⟩
  have m4 := m.step t4
  have a4 : G4.H p = some (.lst accV) := (t4.ow p (by rw [m.U]; exact .inl rfl)).trans hacc
  have r4 := Reps.le t4.le _ hr
  refine ht B G4 ha σ4 Γ2 _ w4 ?_
  rw [e2]
  intro G5 t5 k5
  have w5 := w4.to t5 k5
  have m5 := m4.step t5
  have a5 : G5.H p = some (.lst accV) := (t5.ow p (by rw [m4.U]; exact .inl rfl)).trans a4
  have r5 := Reps.le t5.le _ r4
  cases b with
  | true =>
    simp only [if_true] at one ⊢
    obtain ⟨y, hy, e3, one⟩ := bnd_inv one
    refine he B G5 hb σ4 Γ2 _ w5 ?_
    rw [e3]
    cases one
    intro G6 t6 k6 v rv
    have m6 := m5.step t6
    have p6 : G6.U p := by
      rw [m6.U]
      exact .inl rfl
    have a6 : G6.H p = some (.lst accV) := (t6.ow p (by rw [m5.U]; exact .inl rfl)).trans a5
    refine ⟨accV, a6, hz, ?_⟩
    have l7 := Wd.putU_le (o := .lst (accV ++ [v])) p6
    exact next (G6.putU p (.lst (accV ++ [v]))) _ (m6.put k hp _) (Wd.putU_ok k6 p6) upd_same ((Reps.le l7 _ (Reps.le t6.le _ r5)).app (.one (rv.le l7))) (by rw [List.length_append]; exact Nat.le_refl _)
  | false =>
    simp only [Bool.false_eq_true, if_false] at one ⊢
    cases one
    exact next G5 accV m5 k5 a5 (by rw [List.append_nil]; exact r5) (Nat.le_succ _)
end
theorem bnd_assoc {α β γ : Type} (m : M α) (f : α → M β) (g : β → M γ) : bnd (bnd m f) g = bnd m (fun a => bnd (f a) g) := by
  funext h
  unfold bnd
  cases m h <;> rfl
theorem bnd_pur {α β : Type} (a : α) (f : α → M β) : bnd (pur a) f = f a := rfl
theorem bnd_nil (m : M (List D)) : bnd m (fun ys => pur ([] ++ ys)) = m := by
  funext h
  unfold bnd
  cases m h <;> rfl
theorem app_two (m : M (List D)) (a b : List D) : bnd (bnd m (fun ys => pur (b ++ ys))) (fun ys => pur (a ++ ys)) = bnd m (fun ys => pur ((a ++ b) ++ ys)) := by
  rw [bnd_assoc]
  funext h
  unfold bnd
  cases m h with
  | ok ys h' => simp only [pur, List.append_assoc]
  | ex c ys h' => rfl
  | bad => rfl
def ZF (Q : VK) : List D → PH → Wd → Prop := fun ds _ G' => ∀ p vs, G'.H p = none → vs.length ≤ sizeLine → Reps G' ds vs → Q (.ref p) (upd G'.H p (.lst vs))
theorem comp_fin {G1 G2 : Wd} {h1 h2 : PH} {p0 : Addr} {acc : List D} {accV : List V} {Q : VK} (k1 : G1.Ok h1) (hp0 : G1.H p0 = none) (m2 : Mk1 G1 p0 G2) (k2 : G2.Ok h2) (a2 : G2.H p0 = some (.lst accV)) (r2 : Reps G2 acc accV) (hz : accV.length ≤ sizeLine)
    (p2 : Pst S G1 (.ok acc h2 : Sw.R (List D)) (ZF Q)) : Q (.ref p0) G2.H := by
  obtain ⟨b1, b2, b3, b4⟩ := m2.back k1 hp0 k2
  have := p2 (G2.un G1.U p0) b1 b2 p0 accV b3 hz (Reps.le b4 _ r2)
  rw [Wd.un_upd a2] at this
  exact this
theorem sf_comp {wi : TI} {g : TG} {tt : TT} {te : TE} {scope : Scope} {own : List (Str × Nat)} {m : Env → M Itm} {tg : GM} {tm : TM} {el : EM} (i2 : SI S O wi m) (g2 : SCt (S.blk scope) O (own.map (·.2)) g tg) (t2 : ST (S.blk scope) O tt tm) (e2 : SE (S.blk scope) O te el) :
    SF S O (tLc wi g tt te (own.map (·.2))) (lComp (own.map (·.2)) m tg tm el) := by
  intro B G h σ Γ Q w p
  unfold lComp at p
  refine i2 B G h σ Γ _ w (p.bnd.mono fun it h1 G1 t1' k1 p1 J ij => ?_)
  have w1 := w.to t1' k1
  intro p0 hp0
  have k0 := Wd.layU_ok k1 (vs := []) hp0
  have m0 : Mk1 G1 p0 (G1.layU p0 (.lst [])) := ⟨.refl _, rfl, fun a ha => upd_ne (k1.neU hp0 ha)⟩
  cases it with
  | vals xs =>
    obtain ⟨ij, hl⟩ := ij
    have p1 : Pst S G1 (compV (oneC tg tm el (wipeE Γ (own.map (·.2)))) xs h1) (ZF Q) := p1
    generalize hone : oneC tg tm el (wipeE Γ (own.map (·.2))) = one at p1
    refine ⟨fun i mm H => ∃ G2 h2 acc accV, G2.H = H ∧ Mk1 G1 p0 G2 ∧ G2.Ok h2 ∧ i ≤ xs.length ∧ mm = xs.length - i ∧ G2.H p0 = some (.lst accV) ∧ Reps G2 acc accV ∧ accV.length ≤ i ∧
      Pst S G1 (bnd (compV one (xs.drop i)) (fun ys => pur (acc ++ ys)) h2) (ZF Q),
      ⟨xs.length, _, h1, [], [], rfl, m0, k0, Nat.zero_le _, by simp, upd_same, .nil, Nat.le_refl _, by rw [List.drop_zero, bnd_nil]; exact p1⟩, ?_⟩
    rintro i mm H2 ⟨G2, h2, acc, accV, rfl, m2, k2, hi, rfl, a2, r2, hz, p2⟩
    have l2 : G1.Le G2 := (Wd.layU_le hp0).trans m2.le
    by_cases hlt : i < xs.length
    · right
      rw [List.drop_eq_getElem_cons hlt] at p2
      unfold compV at p2
      rw [bnd_assoc] at p2
      obtain ⟨o, h3, eo, p4⟩ := p2.noX
      rw [app_two] at p4
      refine ⟨ij.go G2 i l2 hlt, fun H' => ∃ G3 accV', G3.H = H' ∧ Mk1 G1 p0 G3 ∧ G3.Ok h3 ∧ G3.H p0 = some (.lst accV') ∧ Reps G3 (acc ++ o) accV' ∧ accV'.length ≤ accV.length + 1, ?_, ?_⟩
      · rintro H' ⟨G3, accV', rfl, m3, k3, a3, r3, hz3⟩
        exact ⟨xs.length - (i + 1), by omega, G3, h3, acc ++ o, accV', rfl, m3, k3, hlt, rfl, a3, r3, by omega, p4⟩
      · intro x H' y
        have hd : xs[i]? = some xs[i] := List.getElem?_eq_getElem hlt
        obtain ⟨G3, e3, t3, k3, r3⟩ := ij.yld G2 h2 i x H' xs[i] l2 k2 hd y
        subst e3
        have a3 : G3.H p0 = some (.lst accV) := (t3.ow p0 (by rw [m2.U]; exact .inl rfl)).trans a2
        refine comp_turn (S := S) (S' := S.blk scope) rfl rfl g2 t2 e2 k1 w1 hp0 (m2.step t3) k3 r3 a3 (Reps.le t3.le _ r2) ?_ (by rw [hone]; exact eo) fun G4 accV' m4 k4 a4 r4 hz4 => ⟨G4, accV', rfl, m4, k4, a4, r4, hz4⟩
        rw [sizeLine_eq]
        omega
    · left
      have e : i = xs.length := by omega
      subst e
      rw [List.drop_length] at p2
      have p2 : Pst S G1 (.ok (acc ++ []) h2 : Sw.R (List D)) (ZF Q) := p2
      rw [List.append_nil] at p2
      exact ⟨ij.stop G2 _ l2 (Nat.le_refl _), comp_fin k1 hp0 m2 k2 a2 r2 (by rw [sizeLine_eq]; omega) p2⟩
  | ref n =>
    obtain ⟨a, ha, rfl⟩ := ij
    obtain ⟨ob, q2, q3⟩ := k1.at ha
    simp only [q2] at p1
    cases ob with
    | lst xs0 =>
      simp only at p1
      by_cases hl0 : xs0.length ≤ 16777216
      · rw [if_pos hl0] at p1
        have p1 : Pst S G1 (compR (oneC tg tm el (wipeE Γ (own.map (·.2)))) n xs0.length 0 h1) (ZF Q) := p1
        generalize hone : oneC tg tm el (wipeE Γ (own.map (·.2))) = one at p1
        refine ⟨fun i mm H => ∃ G2 h2 acc accV, G2.H = H ∧ Mk1 G1 p0 G2 ∧ G2.Ok h2 ∧ G2.H p0 = some (.lst accV) ∧ Reps G2 acc accV ∧ accV.length ≤ i ∧ mm + i = xs0.length ∧
          Pst S G1 (bnd (compR one n mm i) (fun ys => pur (acc ++ ys)) h2) (ZF Q),
          ⟨xs0.length, _, h1, [], [], rfl, m0, k0, upd_same, .nil, Nat.le_refl _, rfl, by rw [bnd_nil]; exact p1⟩, ?_⟩
        rintro i mm H2 ⟨G2, h2, acc, accV, rfl, m2, k2, a2, r2, hz, hmi, p2⟩
        have l2 : G1.Le G2 := (Wd.layU_le hp0).trans m2.le
        have ha2 := pre_get l2.ρ ha
        obtain ⟨ob2, b2, b3⟩ := k2.at ha2
        unfold bnd at p2
        unfold compR at p2
        simp only [b2] at p2
        cases ob2 with
        | lst xs =>
          obtain ⟨vs, c1, c2, c3⟩ := b3
          simp only at p2
          cases e : xs[i]? with
          | none =>
            simp only [e] at p2
            left
            have p2 : Pst S G1 (.ok (acc ++ []) h2 : Sw.R (List D)) (ZF Q) := p2
            rw [List.append_nil] at p2
            refine ⟨⟨vs, by rw [← l2.K]; exact SqL.of c1, ?_⟩, comp_fin k1 hp0 m2 k2 a2 r2 (by rw [sizeLine_eq]; omega) p2⟩
            rw [c3.len]
            exact List.getElem?_eq_none_iff.mp e
          | some d =>
            simp only [e] at p2
            cases mm with
            | zero => exact p2.elim
            | succ mm =>
              right
              have p3 : Pst S G1 (bnd (bnd (noX (one d)) (fun o => bnd (compR one n mm (i + 1)) fun ys => pur (o ++ ys))) (fun ys => pur (acc ++ ys)) h2) (ZF Q) := p2
              rw [bnd_assoc] at p3
              obtain ⟨o, h3, eo, p4⟩ := p3.noX
              rw [app_two] at p4
              obtain ⟨v, v1, v2⟩ := c3.get e
              refine ⟨⟨vs, v, by rw [← l2.K]; exact SqL.of c1, v1⟩, fun H' => ∃ G3 accV', G3.H = H' ∧ Mk1 G1 p0 G3 ∧ G3.Ok h3 ∧ G3.H p0 = some (.lst accV') ∧ Reps G3 (acc ++ o) accV' ∧ accV'.length ≤ accV.length + 1, ?_, ?_⟩
              · rintro H' ⟨G3, accV', rfl, m3, k3, a3, r3, hz3⟩
                exact ⟨mm, Nat.lt_succ_self mm, G3, h3, acc ++ o, accV', rfl, m3, k3, a3, r3, by omega, by omega, p4⟩
              · rintro x H' ⟨rfl, y⟩
                have ey := y vs (by rw [← l2.K]; exact SqL.of c1)
                rw [v1] at ey
                cases ey
                refine comp_turn (S := S) (S' := S.blk scope) rfl rfl g2 t2 e2 k1 w1 hp0 m2 k2 v2 a2 r2 ?_ (by rw [hone]; exact eo) fun G4 accV' m4 k4 a4 r4 hz4 => ⟨G4, accV', rfl, m4, k4, a4, r4, hz4⟩
                rw [sizeLine_eq]
                omega
        | _ => exact p2.elim
      · rw [if_neg hl0] at p1
        exact p1.elim
    | _ => exact p1.elim
theorem rf_comp {elt tge iter : Expr} {ifs : List Expr} {scope : Scope} {own : List (Str × Nat)} {pos : Pos} {m : Env → M Itm} {tg : GM} {tm : TM} {el : EM} (nd : S.N.Nodup) (hi : RI S O tge iter m) (ok : BlkOk S.N S.sc scope own)
    (hg : RC (S.blk scope) O (own.map (·.2)) tge tg) (ht : RTs (S.blk scope) O ifs tm) (he : RE (S.blk scope) O elt el) (hs : ∀ env x, foldedSetIterable iter env x = pure x) : RF S O (.ListComp elt [⟨tge, iter, ifs, 0⟩] scope pos) (lComp (own.map (·.2)) m tg tm el) := by
  obtain ⟨wi, i1, i2⟩ := hi.ex
  obtain ⟨g, g1, g2⟩ := hg.ex
  obtain ⟨tt, t1, t2⟩ := ht.ex
  obtain ⟨te, e1, e2⟩ := he.ex
  refine ⟨tLc wi g tt te (own.map (·.2)), fun X hX => ?_, sf_comp i2 g2 t2 e2⟩
  have ok' : BlkOk X.N X.env.scope scope own := by
    rw [hX.N, hX.sc]
    exact ok
  exact pe_lc hX.calm (by rw [hX.N]; exact nd) (i1 X hX) ok' (fun s H C cl fp => g1 _ (hX.blk_ ok s H C cl fp)) (fun s H C cl fp => t1 _ (hX.blk_ ok s H C cl fp)) (fun s H C cl fp => e1 _ (hX.blk_ ok s H C cl fp)) (hs _)
end Sw

set_option maxHeartbeats 400000
/-! Sw, part L: a name that is set to a comprehension, dict displays, defs. -/
namespace Sw
open PySem PySem.Spec L2
variable {S : Sx} {O : List Nat}

theorem se_val {t : TE} {m : LM} (h2 : SF S O t m) : SE S O t (gVal m) := by
  intro B G h σ Γ Q w p
  unfold gVal at p
  exact h2 B G h σ Γ _ w (p.bnd.mono fun ds h1 G1 t1 k1 p1 a vs e hl r => p1.layL k1 hl r a e)
theorem se_new {t : TE} {m : LM} (h2 : SF S O t m) : SE S O t (gNew m) := by
  intro B G h σ Γ Q w p
  unfold gNew at p
  exact h2 B G h σ Γ _ w (p.bnd.mono fun ds h1 G1 t1 k1 p1 a vs e hl r => p1.newL k1 hl r a e)
theorem sst_set {t : TE} {m : EM} {i : Nat} (hi : i ∉ O) (h2 : SE S O t m) : SSt S O (tAsg t (gName i)) (sSet i m) := by
  intro B G h σ Γ E w p
  unfold sSet at p
  refine h2 B G h σ Γ _ w ((p.ebnd w.env.bU).mono fun d h1 G1 t1 k1 p1 v r => ?_)
  exact p1.pur k1 _ ((w.env.to t1).set hi r)
theorem sst_own {t : TE} {m : LM} {i : Nat} (hi : i ∈ O) (h2 : SF S O t m) : SSt S O (tAsg t (gName i)) (sOwn i m) := by
  intro B G h σ Γ E w p
  unfold sOwn at p
  refine h2 B G h σ Γ _ w ((p.ebnd w.env.bU).mono fun d h1 G1 t1 k1 p1 a vs ha hl r => ?_)
  have w1 := w.to t1 k1
  exact p1 (G1.layU a (.lst vs)) (Wd.layU_by k1 w1.env.bU ha) (Wd.layU_ok k1 ha) _ (w1.env.own_ k1 hi ha hl r)
/-- y = [..] where y is a local (no cell) -/
theorem ps_comp {elt tge iter : Expr} {ifs : List Expr} {scope : Scope} {own : List (Str × Nat)} {pos spos py : Pos} {y : Str} {i : Nat} {m : Env → M Itm} {tg : GM} {tm : TM} {el : EM} (nd : S.N.Nodup) (hi : RI S O tge iter m) (ok : BlkOk S.N S.sc scope own)
    (hg : RC (S.blk scope) O (own.map (·.2)) tge tg) (ht : RTs (S.blk scope) O ifs tm) (he : RE (S.blk scope) O elt el) (hs : ∀ env x, foldedSetIterable iter env x = pure x)
    (hy : S.N[i]? = some y) (hyl : S.sc.names.lookup y = some .local) (hk : S.sc.kind = .function) (hl : (py.line == pos.line) = true) (hn : (scope.names.any fun (n, k) => n == y && (k == .local || k == .cell)) = false) :
    ∃ t, (∀ X, InX S X → PS X (.Assign [.Name y py] (.ListComp elt [⟨tge, iter, ifs, 0⟩] scope pos) spos) (tAsg t (gName i))) ∧ SF S O t (lComp (own.map (·.2)) m tg tm el) := by
  obtain ⟨wi, i1, i2⟩ := hi.ex
  obtain ⟨g, g1, g2⟩ := hg.ex
  obtain ⟨tt, t1, t2⟩ := ht.ex
  obtain ⟨te, e1, e2⟩ := he.ex
  refine ⟨tLc wi g tt te (own.map (·.2)), fun X hX => ?_, sf_comp i2 g2 t2 e2⟩
  have ok' : BlkOk X.N X.env.scope scope own := by
    rw [hX.N, hX.sc]
    exact ok
  have hyl' : X.env.scope.names.lookup y = some .local := by
    rw [hX.sc]
    exact hyl
  exact ps_setLc hX.calm (by rw [hX.N]; exact nd) (by rw [hX.N]; exact hy) hyl' (sw_true hX.kind hyl' hl hn) (i1 X hX) ok' (fun s H C cl fp => g1 _ (hX.blk_ ok s H C cl fp)) (fun s H C cl fp => t1 _ (hX.blk_ ok s H C cl fp)) (fun s H C cl fp => e1 _ (hX.blk_ ok s H C cl fp)) (hs _)
/-- what is needed of the name -/
structure Ys (S : Sx) (i : Nat) (y : Str) (scope : Scope) : Prop where
  n : S.N[i]? = some y
  l : S.sc.names.lookup y = some .local
  k : S.sc.kind = .function
  no : (scope.names.any fun (n, k) => n == y && (k == .local || k == .cell)) = false
section
variable {elt tge iter : Expr} {ifs : List Expr} {scope : Scope} {own : List (Str × Nat)} {pos spos py : Pos} {y : Str} {i : Nat} {m : Env → M Itm} {tg : GM} {tm : TM} {el : EM}
theorem rs_compV (nd : S.N.Nodup) (ys : Ys S i y scope) (hO : i ∉ O) (hi : RI S O tge iter m) (ok : BlkOk S.N S.sc scope own)
    (hg : RC (S.blk scope) O (own.map (·.2)) tge tg) (ht : RTs (S.blk scope) O ifs tm) (he : RE (S.blk scope) O elt el) (hs : ∀ env x, foldedSetIterable iter env x = pure x) (hl : (py.line == pos.line) = true) :
    RS S O (.Assign [.Name y py] (.ListComp elt [⟨tge, iter, ifs, 0⟩] scope pos) spos) (sSet i (gVal (lComp (own.map (·.2)) m tg tm el))) := by
  obtain ⟨t, h1, h2⟩ := ps_comp (pos := pos) (spos := spos) (py := py) nd hi ok hg ht he hs ys.n ys.l ys.k hl ys.no
  exact ⟨_, h1, sst_set hO (se_val h2)⟩
theorem rs_compN (nd : S.N.Nodup) (ys : Ys S i y scope) (hO : i ∉ O) (hi : RI S O tge iter m) (ok : BlkOk S.N S.sc scope own)
    (hg : RC (S.blk scope) O (own.map (·.2)) tge tg) (ht : RTs (S.blk scope) O ifs tm) (he : RE (S.blk scope) O elt el) (hs : ∀ env x, foldedSetIterable iter env x = pure x) (hl : (py.line == pos.line) = true) :
    RS S O (.Assign [.Name y py] (.ListComp elt [⟨tge, iter, ifs, 0⟩] scope pos) spos) (sSet i (gNew (lComp (own.map (·.2)) m tg tm el))) := by
  obtain ⟨t, h1, h2⟩ := ps_comp (pos := pos) (spos := spos) (py := py) nd hi ok hg ht he hs ys.n ys.l ys.k hl ys.no
  exact ⟨_, h1, sst_set hO (se_new h2)⟩
theorem rs_compO (nd : S.N.Nodup) (ys : Ys S i y scope) (hO : i ∈ O) (hi : RI S O tge iter m) (ok : BlkOk S.N S.sc scope own)
    (hg : RC (S.blk scope) O (own.map (·.2)) tge tg) (ht : RTs (S.blk scope) O ifs tm) (he : RE (S.blk scope) O elt el) (hs : ∀ env x, foldedSetIterable iter env x = pure x) (hl : (py.line == pos.line) = true) :
    RS S O (.Assign [.Name y py] (.ListComp elt [⟨tge, iter, ifs, 0⟩] scope pos) spos) (sOwn i (lComp (own.map (·.2)) m tg tm el)) := by
  obtain ⟨t, h1, h2⟩ := ps_comp (pos := pos) (spos := spos) (py := py) nd hi ok hg ht he hs ys.n ys.l ys.k hl ys.no
  exact ⟨_, h1, sst_own hO h2⟩
end
/-- y a cell: the list is stored as any other value -/
theorem sw_cell {elt : Expr} {gs : List Comprehension} {scope : Scope} {pos py : Pos} {y : Str} {l : Nat} (h : S.sc.names.lookup y = some .cell) : ∀ env : PySem.Env, env.scope = S.sc → swapsWith (.ListComp elt gs scope pos) (some (.Name y py)) l env = pure false := fun env e => by
  have ky : env.kindOf y = some .cell := by
    show env.scope.names.lookup y = _
    rw [e]
    exact h
  unfold swapsWith
  simp only [ky]
  have : (some NameKind.cell == some NameKind.local) = false := rfl
  simp only [this, Bool.and_false, Bool.false_and]

/-! ### dict displays -/
def pairsM : List (EM × EM) → Env → M (List (Key × D))
  | [], _ => pur []
  | (k, v) :: r, Γ => bnd (k Γ) fun kd => bnd (v Γ) fun d => bnd (pairsM r Γ) fun ps => fun h => match keyD kd with
    | some key => .ok ((key, d) :: ps) h
    | none => .bad
def mergeD (kvs more : List (Key × D)) : List (Key × D) := more.foldl (fun acc kv => putD_ acc kv.1 kv.2) kvs
theorem RepKV.merge {G : Wd} : ∀ {more : List (Key × D)} {more' : List (Key × V)} {kvs : List (Key × D)} {kvs' : List (Key × V)}, RepKV G more more' → RepKV G kvs kvs' → RepKV G (mergeD kvs more) (mergeK kvs' more')
  | [], more', kvs, kvs', h, h' => by
    rw [h.nil_inv]
    exact h'
  | (k, d) :: r, more', kvs, kvs', h, h' => by
    obtain ⟨v, s, rfl, h1, h2⟩ := h.cons_inv
    show RepKV G (mergeD (putD_ kvs k d) r) (mergeK (putK kvs' k v) s)
    exact RepKV.merge h2 (h'.put h1)
structure RPs (S : Sx) (O : List Nat) (pos : Pos) (keys : List (Option Expr)) (values : List Expr) (ps : List (EM × EM)) : Prop where
  ex : ∃ trs, (∀ X, InX S X → PPs X pos keys values trs) ∧ ∀ (B : Addr → Prop) (G : Wd) (h : PH) (σ : St) (Γ : Env) (Q : List (V × V) → Hp → Prop), Here S O B G h σ Γ →
    Pst S G (pairsM ps Γ h) (fun kvs _ G' => ∀ kvs', RepKV G' kvs kvs' → Q (kvs'.map fun kv => (kV kv.1, kv.2)) G'.H) → tPairs trs σ G.H Q
  len : ps.length = keys.length
theorem rps_nil {pos : Pos} : RPs S O pos [] [] [] := ⟨⟨[], fun X _ => pps_nil, fun B G h σ Γ Q w p => (p.pur w.ok) [] .nil⟩, rfl⟩
theorem rps_cons {pos : Pos} {k v : Expr} {ks : List (Option Expr)} {vs : List Expr} {mk mv : EM} {ps : List (EM × EM)} (hk : RE S O k mk) (hv : RE S O v mv) (hr : RPs S O pos ks vs ps) : RPs S O pos (some k :: ks) (v :: vs) ((mk, mv) :: ps) := by
  obtain ⟨tk, k1, k2⟩ := hk.ex
  obtain ⟨tv, v1, v2⟩ := hv.ex
  obtain ⟨⟨trs, r1, r2⟩, hl⟩ := hr
  refine ⟨⟨(tk, tv) :: trs, fun X hX => pps_cons (k1 X hX) (v1 X hX) (r1 X hX), fun B G h σ Γ Q w p => ?_⟩, by rw [List.length_cons, List.length_cons, hl]⟩
  unfold pairsM at p
  refine k2 B G h σ Γ _ w (p.bnd.mono fun kd h1 G1 t1 k1' p1 x rx => ?_)
  have w1 := w.to t1 k1'
  refine v2 B G1 h1 σ Γ _ w1 (p1.bnd.mono fun d h2 G2 t2 k2' p2 y ry => ?_)
  have w2 := w1.to t2 k2'
  refine r2 B G2 h2 σ Γ _ w2 (p2.bnd.mono fun kvs h3 G3 t3 k3' p3 kvs' rk => ?_)
  cases e : keyD kd with
  | none =>
    simp only [e] at p3
    exact p3.elim
  | some key =>
    simp only [e] at p3
    have ex := keyD_v (.inl rx) e
    have := p3 G3 (.refl G3) k3' ((key, y) :: kvs') (.cons (ry.le t3.le) rk)
    rw [ex]
    exact this
/-- {k: v, ..}: a new object -/
def gDisp (ps : List (EM × EM)) : EM := fun Γ h => bnd (pairsM ps Γ) (fun kvs => fun h2 => match h2[h.length]? with
  | some (.dct []) => .ok (.ref h.length) (h2.set h.length (.dct (mergeD [] kvs)))
  | _ => .bad) (h ++ [.dct []])
def gDict0 : EM := fun _ h => .ok (.ref h.length) (h ++ [.dct []])
def gDictT : EM := fun _ h => .ok (.ref h.length) (h ++ [.dtu []])
theorem re_dict0 {pos : Pos} : RE S O (.Dict [] [] pos) gDict0 :=
  ⟨_, fun X _ => pe_dnewK, fun B G h σ Γ Q w p => Pst.layO (ob := .dct []) p w.ok fun a e => ⟨[], upd_same, .nil⟩⟩
theorem re_dictT {pos : Pos} : RE S O (.Dict [] [] pos) gDictT :=
  ⟨_, fun X _ => pe_dnewT, fun B G h σ Γ Q w p => Pst.layO (ob := .dtu []) p w.ok fun a e => ⟨[], upd_same, .nil⟩⟩
theorem pairsM_len : ∀ {ps : List (EM × EM)} {Γ : Env} {h h' : PH} {kvs : List (Key × D)}, pairsM ps Γ h = .ok kvs h' → kvs.length = ps.length
  | [], Γ, h, h', kvs, e => by
    cases e
    rfl
  | (k, v) :: r, Γ, h, h', kvs, e => by
    unfold pairsM at e
    obtain ⟨kd, h1, e1, e⟩ := bnd_inv e
    obtain ⟨d, h2, e2, e⟩ := bnd_inv e
    obtain ⟨ps, h3, e3, e⟩ := bnd_inv e
    cases q : keyD kd with
    | none =>
      simp only [q] at e
      cases e
    | some key =>
      simp only [q] at e
      cases e
      rw [List.length_cons, List.length_cons, pairsM_len e3]
theorem re_disp {pos : Pos} {keys : List (Option Expr)} {values : List Expr} {ps : List (EM × EM)} (hp : RPs S O pos keys values ps) (hall : keys.all (·.isSome) = true) (hl : keys.length = values.length) (h0 : keys ≠ []) (h15 : keys.length ≤ 15) : RE S O (.Dict keys values pos) (gDisp ps) := by
  obtain ⟨⟨trs, r1, r2⟩, hlen⟩ := hp
  refine ⟨_, fun X hX => pe_disp (r1 X hX) hall hl h0 h15, fun B G h σ Γ Q w p => ?_⟩
  intro a ha
  have k1 : (G.layO a (.dK [])).Ok (h ++ [.dct []]) := Wd.layO_ok w.ok ha ⟨[], upd_same, .nil⟩
  have t1 := Wd.layO_to w.ok (o := .dK []) ha
  have w1 : Here S O B (G.layO a (.dK [])) (h ++ [.dct []]) σ Γ := w.to t1 k1
  unfold gDisp at p
  have p0 := p.step t1
  refine r2 B (G.layO a (.dK [])) _ σ Γ _ w1 (p0.bnd.eq.mono fun kvs h2 G2 t2 k2 ⟨pe, p2⟩ kvs' rk => ?_)
  have hn : (G.layO a (.dK [])).ρ[h.length]? = some a := by
    show (G.ρ ++ [a])[h.length]? = some a
    rw [← w.ok.len]
    simp
  have hn2 := pre_get t2.le.ρ hn
  obtain ⟨ob, q1, q2⟩ := k2.at hn2
  simp only [q1] at p2
  cases ob with
  | dct ks =>
    cases ks with
    | nil =>
      simp only at p2
      obtain ⟨ks', q3, q4⟩ := q2
      rw [q4.nil_inv] at q3
      have t3 := Wd.put_to k2 (o := .dK (mergeK [] kvs')) hn2
      refine ⟨q3, kvs', rfl, ?_, ?_⟩
      · rw [rk.len, pairsM_len pe, hlen]
        exact h15
      · refine p2 (G2.put a (.dK (mergeK [] kvs'))) t3 (Wd.put_ok (ob := .dct (mergeD [] kvs)) k2 hn2 ⟨_, upd_same, (rk.merge .nil).le t3.le⟩) _ ?_
        unfold Rep
        exact ⟨a, hn2, rfl⟩
    | cons _ _ => exact p2.elim
  | _ => exact p2.elim

/-! ### defs -/
def fnM (n slots : Nat) (body : SM) : List D → M D := fun ds => bnd (body (ds.map some ++ List.replicate (slots - n) none)) fun f => match f with
  | .nx _ => pur .non
  | .rt d => pur d
/-- a def's own static context -/
def Tx.fn (T : Tx) (N : List Str) (sc : Scope) (k : Nat) (rz : Bool) (E : XK) : Sx := ⟨T, E, N, sc, k, fun _ => true, rz⟩
theorem env_start {K : PySem.W.Frag} {G : Wd} {h : PH} {ds : List D} {vs : List V} {N : List Str} (k : G.Ok h) (r : Reps G ds vs) : EnvOk [] G.U G (L2.start N vs) (ds.map some ++ List.replicate (N.length - vs.length) none) where
  len := by
    unfold L2.start
    rw [List.length_append, List.length_append, List.length_map, List.length_map, List.length_replicate, List.length_replicate, r.len]
  val := fun i d h1 _ => by
    by_cases hi : i < ds.length
    · rw [List.getElem?_append_left (by simpa using hi), List.getElem?_map] at h1
      cases e : ds[i]? with
      | none =>
        rw [e] at h1
        cases h1
      | some x =>
        rw [e] at h1
        cases h1
        obtain ⟨v, e1, e2⟩ := r.get e
        refine ⟨v, ?_, e2⟩
        unfold L2.start
        rw [List.getElem?_append_left (by rw [List.length_map, r.len]; exact hi), List.getElem?_map, e1]
        rfl
    · rw [List.getElem?_append_right (by simpa using hi), List.getElem?_replicate] at h1
      split at h1 <;> cases h1
  own := fun i d h1 h2 => by cases h2
  sep := fun i j _ _ _ h1 => by cases h1
  bU := fun a h => h
theorem EnvOk.anyO {B : Addr → Prop} {G : Wd} {σ : St} {Γ : Env} (e : EnvOk [] B G σ Γ) {O : List Nat} (ho : ∀ i ∈ O, ∀ d, Γ[i]? ≠ some (some d)) : EnvOk O B G σ Γ where
  len := e.len
  val := fun i d h1 _ => e.val i d h1 (by simp)
  own := fun i d h1 h2 => absurd h1 (ho i h2 d)
  sep := fun i j d _ _ h1 _ h3 _ _ _ => absurd h3 (ho i h1 d)
  bU := e.bU
/-- a def without exceptions keeps to its shadow -/
theorem fn_ok0 {T : Tx} {x qual : Str} {st : Stmt} {f : Addr} {fd : FuncData} {N ps : List Str} {k n : Nat} {O : List Nat} {body : SM} (F : Fun T.K x qual st f fd) (sc : FnScope N ps (defScope st)) (hn : ps.length = n) (hO : ∀ i ∈ O, n ≤ i) (hC : T.CX = CX0) (hm : T.xm = false)
    (hb : RSs (T.fn N (defScope st) k false E0) O (defBody st) body) : FnOk T.P T.w T.K T.mg T.base T.CX (k + 1) f fd ps (spM T n (fnM n N.length body)) := by
  rw [hC]
  refine F.ok sc (fun vs H Q E h => h.1.trans hn.symm) (fun cdv A outer s H vs Q E hr h => ?_)
  obtain ⟨hv, G, h, ds, gK, gc, ok, rfl, rs, p⟩ := h
  obtain ⟨t, t1, t2⟩ := hb.ex
  refine ⟨t, t1 _ ?_, ?_⟩
  · exact ⟨rfl, rfl, rfl, rfl, rfl, rfl, rfl, hr, rfl, fun _ _ => rfl, by show Passes T.CX _ _; rw [hC]; exact pass0, PassesOwn.never, sc.kind, fun _ _ _ => by show Passes T.CX _ _; rw [hC]; exact pass0, fun h => by cases h⟩
  · have w : Here (T.fn N (defScope st) k false E0) O G.U G h (L2.start N vs) (ds.map some ++ List.replicate (N.length - n) none) := by
      refine ⟨gK, gc, ok, ?_⟩
      have e := env_start (K := T.K) (N := N) ok rs
      rw [hv] at e
      refine e.anyO fun i hi d q => ?_
      have := hO i hi
      rw [List.getElem?_append_right (by rw [List.length_map, ← rs.len, hv]; exact this), List.getElem?_replicate] at q
      split at q <;> cases q
    refine t2 G.U G h _ _ _ w ?_
    unfold fnM at p
    have hx : T.xm = false → ∀ c xs h', body (ds.map some ++ List.replicate (N.length - n) none) h ≠ .ex c xs h' := fun hm c xs h' e => by
      unfold bnd at p
      rw [e] at p
      have := p.1
      rw [show (T.sx E).T.xm = T.xm from rfl, hm] at this
      cases this
    unfold bnd at p
    cases e : body (ds.map some ++ List.replicate (N.length - n) none) h with
    | ok f h' =>
      rw [e] at p
      intro G' y k'
      have fin : ∀ d v, (∀ a, G.U a → G'.U a) → Rep G' d v → Pst (T.sx E) G (.ok d h' : Sw.R D) (fun d _ G' => ∀ v, Rep G' d v → Q v G'.H) → Q v G'.H := fun d v b r q => by
        have l := Wd.drop_le (G := G') b
        exact q (G'.drop G.U) ⟨y.le.trans l, rfl, fun a ha => y.ow a ha⟩ (Wd.drop_ok k' b) v (r.le l)
      cases f with
      | nx Γ' => exact fun σ' en => fin _ _ en.bU .of_non p
      | rt d => exact fun v b r => fin d v b r p
    | ex c xs h' => exact absurd e (hx hm c xs h')
    | bad =>
      rw [e] at p
      exact p
end Sw

set_option maxHeartbeats 400000
/-! Sw, part M: names by a look, an own list given back, small things. -/
namespace Sw
open PySem PySem.Spec L2
variable {S : Sx} {O : List Nat}

def visB (sc : Scope) (x : Str) : Bool := match sc.names.lookup x with
  | some .local => true
  | some .cell => true
  | some .free => true
  | _ => false
def nmB (N : List Str) (sc : Scope) (i : Nat) (x : Str) : Bool := decide (N[i]? = some x) && (visB sc x && ((!(x == ("__debug__" : Str))) && !(x == ("__classdict__" : Str))))
theorem b2 {a b : Bool} (h : (a && b) = true) : a = true ∧ b = true := Bool.and_eq_true_iff.mp h
theorem bn {a : Bool} (h : (!a) = true) : a = false := by cases a <;> first | rfl | cases h
theorem visB_ok {sc : Scope} {x : Str} (h : visB sc x = true) : Vis sc x := by
  unfold visB at h
  split at h
  · exact .inl ‹_›
  · exact .inr (.inl ‹_›)
  · exact .inr (.inr ‹_›)
  · cases h
theorem nm_of {N : List Str} {sc : Scope} {i : Nat} {x : Str} (h : nmB N sc i x = true) (hN : S.N = N := by rfl) (hs : S.sc = sc := by rfl) : Nm S i x := by
  obtain ⟨h1, h⟩ := b2 h
  obtain ⟨h2, h⟩ := b2 h
  obtain ⟨h3, h4⟩ := b2 h
  exact ⟨by rw [hN]; exact of_decide_eq_true h1, by rw [hs]; exact visB_ok h2, bn h3, bn h4⟩
def lcB (N : List Str) (sc : Scope) (fa : Str → Bool) (i : Nat) (x : Str) : Bool := decide (N.Nodup) && (decide (N[i]? = some x) && (match sc.names.lookup x with
  | some .local => true
  | some .cell => fa x
  | _ => false))
theorem lc_of {N : List Str} {sc : Scope} {fa : Str → Bool} {i : Nat} {x : Str} (h : lcB N sc fa i x = true) (hN : S.N = N := by rfl) (hs : S.sc = sc := by rfl) (hf : S.fa = fa := by rfl) : Lc S i x := by
  obtain ⟨h1, h⟩ := b2 h
  obtain ⟨h2, h⟩ := b2 h
  split at h
  · exact ⟨by rw [hN]; exact of_decide_eq_true h1, by rw [hN]; exact of_decide_eq_true h2, .inl (by rw [hs]; assumption), .inr (by rw [hs]; assumption)⟩
  · exact ⟨by rw [hN]; exact of_decide_eq_true h1, by rw [hN]; exact of_decide_eq_true h2, .inr (by rw [hs]; assumption), .inl (by rw [hf]; exact h)⟩
  · cases h
def gbB (sc : Scope) (x : Str) : Bool := match sc.names.lookup x with
  | some .globalImplicit => true
  | _ => false
theorem gb_of {sc : Scope} {x : Str} (h : gbB sc x = true) (hs : S.sc = sc := by rfl) : Gb S x := by
  unfold gbB at h
  split at h
  · show S.sc.names.lookup x = _
    rw [hs]
    assumption
  · cases h
/-- what is known of a built-in's name -/
structure Bn (T : Tx) (x : Str) (v : Value) : Prop where
  m : T.mg x = none
  v : bootBuiltins x = some v
  n1 : x ≠ "__name__"
  n2 : (x == ("__debug__" : Str)) = false
theorem Bn.f {x : Str} {id : String} (b : Bn S.T x (.builtin id)) (g : Gb S x) : BiF S x id := ⟨g, b.m, b.v, b.n1, b.n2⟩
theorem Bn.t {x : Str} {id : String} (b : Bn S.T x (.type id)) (g : Gb S x) : BiT S x id := ⟨g, b.m, b.v, b.n1, b.n2⟩
/-- a module's constant -/
structure Mn (T : Tx) (x : Str) (d : D) : Prop where
  ex : ∃ v u, T.mg x = some u ∧ RelV v u ∧ ∀ G : Wd, G.K = T.K → Rep G d v
  nd : (x == ("__debug__" : Str)) = false
theorem Mn.s {x : Str} {d : D} (m : Mn S.T x d) : Mc S x d := ⟨m.ex, m.nd⟩
/-- an own list is given back -/
theorem rs_retO {i : Nat} {x : Str} {p pos : Pos} (n : Nm S i x) (hi : i ∈ O) : RS S O (.Return (some (.Name x p)) pos) (sRet (gV i)) := by
  refine ⟨_, fun X hX => ps_ret (n.pe X hX), fun B G h σ Γ E w q => ?_⟩
  unfold sRet gV bnd at q
  cases e : Γ[i]? with
  | none =>
    simp only [e] at q
    exact q.elim
  | some o =>
    cases o with
    | none =>
      simp only [e] at q
      exact q.elim
    | some d =>
      simp only [e] at q
      obtain ⟨xs, a, vs, rfl, q2, q3, q4, q5, q6, q7⟩ := w.env.own i d e hi
      have b : ∀ c, (G.U c ∧ c ≠ a) → G.U c := fun c h => h.1
      have l := Wd.drop_le (G := G) b
      have bb : ∀ c, B c → G.U c ∧ c ≠ a := fun c hc => ⟨w.env.bU c hc, fun z => q4 (by rw [← z]; exact hc)⟩
      refine ⟨.ref a, q2, ?_⟩
      refine q (G.drop fun c => G.U c ∧ c ≠ a) ⟨l, fun _ _ => rfl⟩ (Wd.drop_ok w.ok b) (.ref a) bb ?_
      unfold Rep
      exact ⟨a, vs, rfl, ⟨q5, (w.ok.own a q3).1, fun z => z.2 rfl, q6⟩, Reps.le l _ q7⟩
/-- -a -/
def dNeg : D → M D
  | .int i => pur (.int (-i))
  | _ => bad
theorem re_neg {a : Expr} {m : EM} {pos : Pos} (h : RE S O a m) : RE S O (.UnaryOp .USub a pos) (g1 dNeg m) := by
  obtain ⟨t, h1, h2⟩ := h.ex
  refine ⟨_, fun X hX => pe_un un_neg (h1 X hX), fun B G h σ Γ Q w p => ?_⟩
  unfold g1 at p
  refine h2 B G h σ Γ _ w (p.bnd.mono fun d h1 G1 t1 k1 p1 v r => ?_)
  cases d with
  | int i => exact ⟨i, r.int_inv, p1 G1 (.refl G1) k1 _ .of_int⟩
  | _ => exact p1.elim
/-- the test of a value that need not be True or False -/
theorem PlainIx_of {b : Expr} (h : ∀ o i, subscripted b false o i = operate [o, i] (getItem o i)) : PlainIx b := h
end Sw

set_option maxHeartbeats 400000
/-! Sw, part N: short forms for printed proofs. -/
namespace Sw
open PySem PySem.Spec L2
variable {S : Sx} {O : List Nat}
theorem nk {i : Nat} {x : Str} (h : nmB S.N S.sc i x = true) : Nm S i x := nm_of h
theorem lk {i : Nat} {x : Str} (h : lcB S.N S.sc S.fa i x = true) : Lc S i x := lc_of h
theorem gk {x : Str} (h : gbB S.sc x = true) : Gb S x := gb_of h

theorem vB {i : Nat} {x : Str} {pos : Pos} (h : nmB S.N S.sc i x = true := by kernel_rfl) : RB S O (.Name x pos) (gV i) := rb_var (nk h)
theorem vE {i : Nat} {x : Str} {pos : Pos} (h : nmB S.N S.sc i x = true := by kernel_rfl) (hi : i ∉ O := by decide) : RE S O (.Name x pos) (gV i) := re_var (nk h) hi
theorem cS {x : Str} {j pos} (hx : PyData.strOk x = true := by kernel_rfl) : RE S O (.Constant (.str x) j pos) (gC (.str x)) := re_str hx
theorem cG {x : Str} {d : D} {pos : Pos} (c : Mn S.T x d) (g : gbB S.sc x = true := by kernel_rfl) : RE S O (.Name x pos) (gC d) := re_glob (gk g) c.s
theorem bo {op : Operator} {a b : Expr} {pos : Pos} {f : D → D → M D} {ma mb : EM} (o : Op2 S (binaryOp op) f) (ha : RB S O a ma) (hb : RB S O b mb) : RE S O (.BinOp a op b pos) (g2 f ma mb) := re_bin o ha hb
theorem cmE {a b : Expr} {op : CmpOp} {pos : Pos} {f : D → D → M D} {ma mb : EM} (o : Op2 S (compareOp op) f) (ha : RB S O a ma) (hb : RB S O b mb) (hm : behindInMarks op b = false := by first | exact nomark _ | rfl) : RE S O (.Compare a [op] [b] pos) (g2 f ma mb) := re_cmp o ha hb hm
theorem cmT {a b : Expr} {op : CmpOp} {pos : Pos} {f : D → D → M D} {ma mb : EM} (o : Op2 S (compareOp op) f) (ha : RB S O a ma) (hb : RB S O b mb) (hm : behindInMarks op b = false := by first | exact nomark _ | rfl) : RT S O (.Compare a [op] [b] pos) (tB (g2 f ma mb)) := rt_cmp o ha hb hm
theorem chE {a b c : Expr} {op op' : CmpOp} {pos : Pos} {f f' : D → D → M D} {ma mb mc : EM} (o : Op2 S (compareOp op) f) (o' : Op2 S (compareOp op') f') (ha : RB S O a ma) (hb : RB S O b mb) (hc : RB S O c mc)
    (hm : lastMarks [op, op'] [b, c] = false := by with_unfolding_all rfl) : RE S O (.Compare a [op, op'] [b, c] pos) (gChain f f' ma mb mc) := re_chain o o' ha hb hc hm
theorem chT {a b c : Expr} {op op' : CmpOp} {pos : Pos} {f f' : D → D → M D} {ma mb mc : EM} (o : Op2 S (compareOp op) f) (o' : Op2 S (compareOp op') f') (ha : RB S O a ma) (hb : RB S O b mb) (hc : RB S O c mc)
    (hm : lastMarks [op, op'] [b, c] = false := by with_unfolding_all rfl) : RT S O (.Compare a [op, op'] [b, c] pos) (tB (gChain f f' ma mb mc)) := rt_chain o o' ha hb hc hm
theorem vT {e : Expr} {m : EM} (h : RE S O e m) (he : ∀ env whole, isTrue e env whole = (do let v ← whole; standAt e.pos; holding [v] (truthy v)) := by intros; rfl) : RT S O e (tB m) := rt_val h he
theorem ac {e : Expr} {es : List Expr} {m : EM} {ms : List EM} (he : RE S O e m) (hs : RA S O es ms) (hst : ∀ env, starEach (e :: es) env = (false, eval e env) :: starEach es env := by intros; rfl) : RA S O (e :: es) (m :: ms) := ra_cons he hs hst
theorem tp {es : List Expr} {ms : List EM} {x1 pos} (h : RA S O es ms) (hl : Nat.ble ms.length 1000 = true := by rfl) : RE S O (.Tuple es x1 pos) (gTup ms) := re_tup h (Nat.le_of_ble_eq_true hl)
theorem ls {es : List Expr} {ms : List EM} {pos} (h : RA S O es ms) (hl : Nat.ble ms.length 1000 = true := by rfl) : RF S O (.List es pos) (seqA ms) := rf_lst h (Nat.le_of_ble_eq_true hl)
theorem ix {a b : Expr} {ma mb : EM} {pos : Pos} (ha : RB S O a ma) (hb : RB S O b mb) (hs : PlainIx b := by intro _ _; rfl) : RE S O (.Subscript a b pos) (g2 dIx ma mb) := re_ix ha hb hs
/-- what is known of a class -/
structure CT (T : Tx) (C : Str) (fs : List Str) : Prop where
  cl : Cls T.K (T.cl C)
  no : ∀ f ∈ fs, NoAttr T.K (T.cl C) f
theorem CT.s {C : Str} {fs : List Str} (c : CT S.T C fs) : ClsOk S C fs := ⟨c.cl, c.no⟩
theorem fd {e : Expr} {C f : Str} {fs : List Str} {m : EM} {pos : Pos} (c : CT S.T C fs) (he : RE S O e m) (hf : fs.elem f = true := by kernel_rfl) (hb : ∀ env, attributeBase e f env (eval e env) = eval e env := by intros; rfl) : RE S O (.Attribute e f pos) (gFld C f m) := re_fld c.s (List.mem_of_elem_eq_true hf) he hb
theorem call {x : Str} {n : Nat} {k0 : Nat} {f : List D → M D} {e : Expr} {es : List Expr} {ms : List EM} {p pos : Pos} (F : FnS S.T x k0 n f) (ha : RA S O (e :: es) ms) (hk0 : Nat.ble k0 S.k = true := by rfl) (g : gbB S.sc x = true := by kernel_rfl) (hn : ms.length = n := by rfl)
    (hst : ∀ env, starEach (e :: es) env = (false, eval e env) :: starEach es env := by intros; rfl) (hpl : ∀ env, (backTo pos (starEach es env)).any (·.1) = false := by intros; rfl) : RE S O (.Call (.Name x p) (e :: es) [] pos) (gCall f ms) := re_call F (Nat.le_of_ble_eq_true hk0) (gk g) ha hn hst hpl
theorem call0 {x : Str} {k0 : Nat} {f : List D → M D} {p pos : Pos} (F : FnS S.T x k0 0 f) (hk0 : Nat.ble k0 S.k = true := by rfl) (g : gbB S.sc x = true := by kernel_rfl) : RE S O (.Call (.Name x p) [] [] pos) (gCall f []) := re_call0 F (Nat.le_of_ble_eq_true hk0) (gk g)
theorem me {C m : Str} {n : Nat} {k0 : Nat} {f : List D → M D} {o : Expr} {mo : EM} {e : Expr} {es : List Expr} {ms : List EM} {apos pos : Pos} {pl : PySem.Env → Sem Bool} (F : MtS S.T C m k0 n f) (ho : RE S O o mo) (ha : RA S O (e :: es) ms) (hk0 : Nat.ble k0 S.k = true := by rfl) (hn : ms.length + 1 = n := by rfl)
    (hst : ∀ env, starEach (e :: es) env = (false, eval e env) :: starEach es env := by intros; rfl) (hpl : ∀ env, (backTo pos (starEach es env)).any (·.1) = false := by intros; rfl)
    (ht : ∀ env, eval (.Call (.Attribute o m apos) (e :: es) [] pos) env = (do
      let ov ← eval o env
      standAt apos.atName
      let (f, first) ← holding [ov] (getMethod ov m (pl env))
      callWith pos f first (backTo pos (starEach (e :: es) env)) (backToKw pos (keywordEach [] env))) := by intros; rfl) : RE S O (.Call (.Attribute o m apos) (e :: es) [] pos) (gMeth C m f mo ms) := re_meth F (Nat.le_of_ble_eq_true hk0) ho ha hn hst hpl ht
theorem me0 {C m : Str} {k0 : Nat} {f : List D → M D} {o : Expr} {mo : EM} {apos pos : Pos} {pl : PySem.Env → Sem Bool} (F : MtS S.T C m k0 1 f) (ho : RE S O o mo) (hk0 : Nat.ble k0 S.k = true := by rfl)
    (ht : ∀ env, eval (.Call (.Attribute o m apos) [] [] pos) env = (do
      let ov ← eval o env
      standAt apos.atName
      let (f, first) ← holding [ov] (getMethod ov m (pl env))
      callWith pos f first (backTo pos (starEach [] env)) (backToKw pos (keywordEach [] env))) := by intros; rfl) : RE S O (.Call (.Attribute o m apos) [] [] pos) (gMeth C m f mo []) := re_meth0 F (Nat.le_of_ble_eq_true hk0) ho ht
theorem mk {C : Str} {n : Nat} {k0 : Nat} {f : List D → M D} {e : Expr} {es : List Expr} {ms : List EM} {p pos : Pos} (F : MkS S.T C k0 n f) (ha : RA S O (e :: es) ms) (hk0 : Nat.ble (k0 + 1) S.k = true := by rfl) (g : gbB S.sc C = true := by kernel_rfl) (hn : ms.length = n := by rfl)
    (hst : ∀ env, starEach (e :: es) env = (false, eval e env) :: starEach es env := by intros; rfl) (hpl : ∀ env, (backTo pos (starEach es env)).any (·.1) = false := by intros; rfl) : RE S O (.Call (.Name C p) (e :: es) [] pos) (gMake C f ms) := re_make F (Nat.le_of_ble_eq_true hk0) (gk g) ha hn hst hpl
section
variable {x : Str} {id Ty : String} {e : Expr} {m : EM} {p pos : Pos}
theorem f1 {f : D → M D} (b : Bn S.T x (.builtin id)) (F : F1 S id f) (h : RB S O e m) (g : gbB S.sc x = true := by kernel_rfl) (hst : ∀ env, starEach [e] env = (false, eval e env) :: starEach [] env := by intros; rfl) (hpl : ∀ env, (backTo pos (starEach [] env)).any (·.1) = false := by intros; rfl) : RE S O (.Call (.Name x p) [e] [] pos) (g1 f m) := re_f1 (b.f (gk g)) F h hst hpl
theorem t1 {f : D → M D} (b : Bn S.T x (.type Ty)) (F : T1 S Ty f) (h : RB S O e m) (g : gbB S.sc x = true := by kernel_rfl) (hst : ∀ env, starEach [e] env = (false, eval e env) :: starEach [] env := by intros; rfl) (hpl : ∀ env, (backTo pos (starEach [] env)).any (·.1) = false := by intros; rfl) : RE S O (.Call (.Name x p) [e] [] pos) (g1 f m) := re_t1 (b.t (gk g)) F h hst hpl
theorem ff1 {f : D → M (List D)} (b : Bn S.T x (.builtin id)) (F : F1F S id f) (h : RB S O e m) (g : gbB S.sc x = true := by kernel_rfl) (hst : ∀ env, starEach [e] env = (false, eval e env) :: starEach [] env := by intros; rfl) (hpl : ∀ env, (backTo pos (starEach [] env)).any (·.1) = false := by intros; rfl) : RF S O (.Call (.Name x p) [e] [] pos) (l1 f m) := rf_f1 (b.f (gk g)) F h hst hpl
theorem ft1 {f : D → M (List D)} (b : Bn S.T x (.type Ty)) (F : T1F S Ty f) (h : RB S O e m) (g : gbB S.sc x = true := by kernel_rfl) (hst : ∀ env, starEach [e] env = (false, eval e env) :: starEach [] env := by intros; rfl) (hpl : ∀ env, (backTo pos (starEach [] env)).any (·.1) = false := by intros; rfl) : RF S O (.Call (.Name x p) [e] [] pos) (l1 f m) := rf_t1 (b.t (gk g)) F h hst hpl
theorem isi {Tn : String} {Y : Str} {p2 : Pos} (it : IsT Tn) (b : Bn S.T x (.builtin "isinstance")) (c : Bn S.T Y (.type Tn)) (h : RB S O e m) (g : gbB S.sc x = true := by kernel_rfl) (g2 : gbB S.sc Y = true := by kernel_rfl) (hst : ∀ env, starEach [e, .Name Y p2] env = [(false, eval e env), (false, eval (.Name Y p2) env)] := by intros; rfl)
    (hs2 : ∀ env q, starEach [.Name Y q] env = [(false, eval (.Name Y q) env)] := by intros; rfl) : RE S O (.Call (.Name x p) [e, .Name Y p2] [] pos) (g1 (isTy Tn) m) := re_isi it (b.f (gk g)) (c.t (gk g2)) h hst hs2
theorem bf {f : List D → M D} {es : List Expr} {ms : List EM} (F : BfS S x f) (ha : RA S O (e :: es) ms) (g : gbB S.sc x = true := by kernel_rfl)
    (hst : ∀ env, starEach (e :: es) env = (false, eval e env) :: starEach es env := by intros; rfl) (hpl : ∀ env, (backTo pos (starEach es env)).any (·.1) = false := by intros; rfl) : RE S O (.Call (.Name x p) (e :: es) [] pos) (gCall f ms) := re_bf F (gk g) ha hst hpl
end
theorem lm {m : Str} {f : PH → List D → List D → Option (D × List D)} {o e : Expr} {es : List Expr} {mo : EM} {ms : List EM} {apos cpos : Pos} (F : LmS S m f) (ho : RE S O o mo) (ha : RA S O (e :: es) ms)
    (hbase : ∀ env, attributeBase o m env (eval o env) = eval o env := by intros; rfl)
    (hfew : ∀ env, ((backTo cpos (starEach (e :: es) env)).all (fun x => !x.1) && (backToKw cpos (keywordEach [] env)).all (fun x => x.1.isSome)
      && decide ((e :: es).length + ([] : List Keyword).length + (if ([] : List Keyword).isEmpty then 0 else 1) < 30)) = true := by intros; rfl)
    (hline : (apos.endLine == cpos.line) = true := by rfl) (hs : ∀ env, starEach (e :: es) env = (false, eval e env) :: starEach es env := by intros; rfl) (hplain : ∀ env, (backTo cpos (starEach es env)).any (·.1) = false := by intros; rfl) :
    RE S O (.Call (.Attribute o m apos) (e :: es) [] cpos) (gLm f mo ms) := re_lm F ho ha hbase hfew hline hs hplain
theorem lm0 {m : Str} {f : PH → List D → List D → Option (D × List D)} {o : Expr} {mo : EM} {apos cpos : Pos} (F : LmS S m f) (ho : RE S O o mo)
    (hbase : ∀ env, attributeBase o m env (eval o env) = eval o env := by intros; rfl) (hline : (apos.endLine == cpos.line) = true := by rfl) : RE S O (.Call (.Attribute o m apos) [] [] cpos) (gLm f mo []) := re_lm0 F ho hbase hline
/-! statements -/
theorem sE {e : Expr} {m : EM} {pos : Pos} (h : RE S O e m) (hs : ∀ env, swapsWith e none pos.line env = pure false := by intros; rfl) : RS S O (.Expr e pos) (sExpr m) := rs_expr h hs
theorem s_ {i : Nat} {x : Str} {e : Expr} {m : EM} {pos pos' : Pos} (h : RE S O e m) (l : lcB S.N S.sc S.fa i x = true := by kernel_rfl) (hi : i ∉ O := by decide) (hs : ∀ env : PySem.Env, env.scope = S.sc → swapsWith e (some (.Name x pos')) pos.line env = pure false := by intros; rfl) : RS S O (.Assign [.Name x pos'] e pos) (sSet i m) := rs_set (lk l) hi h hs
theorem sO {i : Nat} {x : Str} {e : Expr} {m : LM} {pos pos' : Pos} (h : RF S O e m) (l : lcB S.N S.sc S.fa i x = true := by kernel_rfl) (hi : i ∈ O := by decide) (hs : ∀ env : PySem.Env, env.scope = S.sc → swapsWith e (some (.Name x pos')) pos.line env = pure false := by intros; rfl) : RS S O (.Assign [.Name x pos'] e pos) (sOwn i m) := rs_own (lk l) hi h hs
theorem cellB {y : Str} (h : (match S.sc.names.lookup y with
  | some .cell => true
  | _ => false) = true) : S.sc.names.lookup y = some .cell := by
  split at h
  · assumption
  · cases h
theorem sM {m x : Str} {i : Nat} {f : PH → List D → List D → Option (D × List D)} {e : Expr} {es : List Expr} {ms : List EM} {p0 apos cpos pos : Pos} (F : LmS S m f) (ha : RA S O (e :: es) ms) (n : nmB S.N S.sc i x = true := by kernel_rfl) (hi : i ∈ O := by decide)
    (hbase : ∀ env, attributeBase (.Name x p0) m env (eval (.Name x p0) env) = eval (.Name x p0) env := by intros; rfl)
    (hfew : ∀ env, ((backTo cpos (starEach (e :: es) env)).all (fun x => !x.1) && (backToKw cpos (keywordEach [] env)).all (fun x => x.1.isSome)
      && decide ((e :: es).length + ([] : List Keyword).length + (if ([] : List Keyword).isEmpty then 0 else 1) < 30)) = true := by intros; rfl)
    (hline : (apos.endLine == cpos.line) = true := by rfl) (hs : ∀ env, starEach (e :: es) env = (false, eval e env) :: starEach es env := by intros; rfl) (hplain : ∀ env, (backTo cpos (starEach es env)).any (·.1) = false := by intros; rfl)
    (hsw : ∀ env, swapsWith (.Call (.Attribute (.Name x p0) m apos) (e :: es) [] cpos) none pos.line env = pure false := by intros; rfl) :
    RS S O (.Expr (.Call (.Attribute (.Name x p0) m apos) (e :: es) [] cpos) pos) (sOwnM f i ms) := rs_ownM F (nk n) hi ha hbase hfew hline hs hplain hsw
theorem sF {C f : Str} {fs : List Str} {o value : Expr} {mo mv : EM} {pos' pos : Pos} (c : CT S.T C fs) (ho : RE S O o mo) (hv : RE S O value mv) (hf : fs.elem f = true := by kernel_rfl) (hs : ∀ env, swapsWith value (some (.Attribute o f pos')) pos.line env = pure false := by intros; rfl) :
    RS S O (.Assign [.Attribute o f pos'] value pos) (Sw.sFld C f mo mv) := rs_fld c.s (List.mem_of_elem_eq_true hf) ho hv hs
theorem gN {i : Nat} {x : Str} {pos : Pos} (l : lcB S.N S.sc S.fa i x = true := by kernel_rfl) (hi : i ∉ O := by decide) : RG S O (.Name x pos) (tgName i) := rg_name (lk l) hi
theorem gc {e : Expr} {es : List Expr} {a : GM} {b : List D → Env → M Env} (h1 : RG S O e a) (h2 : RGs S O es b) (hs : ∀ env, (assignEach (e :: es) env).map (·.2) = assign e env :: (assignEach es env).map (·.2) := by intros; rfl) : RGs S O (e :: es) (tgCons a b) := rgs_cons h1 h2 hs
theorem gT {es : List Expr} {k : Nat} {b : List D → Env → M Env} {pos : Pos} {n : Nat} (h : RGs S O es b) (hn : ∀ env, (assignEach es env).length = n := by intros; rfl) (hst : ∀ env, (assignEach es env).findIdx? (·.1) = none := by intros; rfl) : RG S O (.Tuple es k pos) (tgTup n b) := rg_tup h hn hst
theorem gS {o i : Expr} {mo mi : EM} {pos : Pos} (ho : RE S O o mo) (hi : RE S O i mi) (ha : ∀ env v, assign (.Subscript o i pos) env v = (do
      let ov ← holding [v] (eval o env)
      let iv ← holding [v, ov] (eval i env)
      standAt pos
      holding [v, ov, iv] (setItem ov iv v)
      release [v, ov, iv] []) := by intros; rfl) : RG S O (.Subscript o i pos) (tgSub mo mi) := rg_sub ho hi ha
theorem gF {C f : Str} {fs : List Str} {o : Expr} {mo : EM} {pos : Pos} (c : CT S.T C fs) (ho : RE S O o mo) (hf : fs.elem f = true := by kernel_rfl) : RG S O (.Attribute o f pos) (tgFld C f mo) := rg_fld c.s (List.mem_of_elem_eq_true hf) ho
theorem sA {tg e : Expr} {me : EM} {mg : GM} {pos : Pos} (he : RE S O e me) (hg : RG S O tg mg) (hs : ∀ env, swapsWithSole [tg] e pos.line env = pure false := by intros; rfl) (hw : ∀ env : PySem.Env, swappedStores [tg] e { env with scope := S.sc } = pure none := by intro env; kernel_rfl)
    (h1 : ∀ env, (assignEach [tg] env).map (·.2) = [assign tg env] := by intros; rfl) : RS S O (.Assign [tg] e pos) (sAsg me mg) := rs_asg he hg hs (fun env h => by have := hw env; rw [← h] at this; exact this) h1
theorem r1 {tg a : Expr} {m : EM} {p pos : Pos} (b : Bn S.T "range" (.type "range")) (he : RE S O a m) (g : gbB S.sc "range" = true := by kernel_rfl) (hs : ∀ env, starEach [a] env = [(false, eval a env)] := by intros; rfl) : RI S O tg (.Call (.Name "range" p) [a] [] pos) (rg1 m) := ri_rg1 (gk g) b.m he hs
theorem r2 {tg a b : Expr} {m m' : EM} {p pos : Pos} (bn : Bn S.T "range" (.type "range")) (he : RE S O a m) (hf : RE S O b m') (g : gbB S.sc "range" = true := by kernel_rfl) (hs : ∀ env, starEach [a, b] env = [(false, eval a env), (false, eval b env)] := by intros; rfl) (hs2 : ∀ env, starEach [b] env = [(false, eval b env)] := by intros; rfl) :
    RI S O tg (.Call (.Name "range" p) [a, b] [] pos) (rg2 m m') := ri_rg2 (gk g) bn.m he hf hs hs2
theorem fo {tge iter : Expr} {b : List Stmt} {m : Env → M Itm} {tg : GM} {body : SM} {pos : Pos} (hi : RI S O tge iter m) (hg : RG S O tge tg) (hb : RSs S O b body) (hs : ∀ env x, foldedSetIterable iter env x = pure x := by intros; rfl) : RS S O (.For tge iter b [] pos) (sFor m tg body) := rs_for hi hg hb hs
theorem cN {vs : List Nat} {i : Nat} {x : Str} {pos : Pos} (l : lcB S.N S.sc S.fa i x = true := by kernel_rfl) (hi : i ∉ O := by decide) (hv : i ∈ vs := by decide) : RC S O vs (.Name x pos) (tgName i) := rc_name (lk l) hi hv
theorem cc {vs : List Nat} {e : Expr} {es : List Expr} {a : GM} {b : List D → Env → M Env} (h1 : RC S O vs e a) (h2 : RCs S O vs es b) (hs : ∀ env, (assignEach (e :: es) env).map (·.2) = assign e env :: (assignEach es env).map (·.2) := by intros; rfl) : RCs S O vs (e :: es) (tgCons a b) := rcs_cons h1 h2 hs
theorem cT {vs : List Nat} {es : List Expr} {k : Nat} {b : List D → Env → M Env} {pos : Pos} {n : Nat} (h : RCs S O vs es b) (hn : ∀ env, (assignEach es env).length = n := by intros; rfl) (hst : ∀ env, (assignEach es env).findIdx? (·.1) = none := by intros; rfl) : RC S O vs (.Tuple es k pos) (tgTup n b) := rc_tup h hn hst
/-- a block's names by a look -/
def blkB (N : List Str) (sc scope : Scope) (own : List (Str × Nat)) : Bool :=
  (match scope.kind with
    | .function => true
    | _ => false) && (scope.names.all (fun y => decide (scope.names.lookup y.1 = some y.2)) && (own.all (fun p => decide (N[p.2]? = some p.1)) && (scope.names.all (fun y => match y.2 with
    | .free => (match sc.names.lookup y.1 with
      | some .cell => true
      | some .free => true
      | _ => false)
    | .local => (own.map (·.1)).elem y.1 || !(N.elem y.1)
    | .cell => (own.map (·.1)).elem y.1 || !(N.elem y.1)
    | _ => true) && decide N.Nodup)))
theorem blk_of {N : List Str} {sc scope : Scope} {own : List (Str × Nat)} (h : blkB N sc scope own = true) : BlkOk N sc scope own ∧ N.Nodup := by
  obtain ⟨h1, h⟩ := b2 h
  obtain ⟨h2, h⟩ := b2 h
  obtain ⟨h3, h⟩ := b2 h
  obtain ⟨h4, h5⟩ := b2 h
  have h4 := List.all_eq_true.mp h4
  have ow : ∀ y : Str, ((own.map (·.1)).elem y || !(N.elem y)) = true → y ∈ own.map (·.1) ∨ y ∉ N := fun y q => by
    rcases Bool.or_eq_true_iff.mp q with q | q
    · exact .inl (List.mem_of_elem_eq_true q)
    · refine .inr fun m => ?_
      rw [List.elem_eq_true_of_mem m] at q
      cases q
  refine ⟨⟨?_, fun y hy => of_decide_eq_true (List.all_eq_true.mp h2 y hy), fun p hp => of_decide_eq_true (List.all_eq_true.mp h3 p hp), fun y hy e => ?_, fun y hy e => ?_⟩, of_decide_eq_true h5⟩
  · cases e : scope.kind <;> first | rfl | (rw [e] at h1; cases h1)
  · have q := h4 y hy
    simp only [e] at q
    split at q
    · exact .inl ‹_›
    · exact .inr ‹_›
    · cases q
  · have q := h4 y hy
    rcases e with e | e <;> simp only [e] at q <;> exact ow _ q
theorem cp {elt tge iter : Expr} {ifs : List Expr} {scope : Scope} {own : List (Str × Nat)} {pos : Pos} {m : Env → M Itm} {tg : GM} {tm : TM} {el : EM} (hi : RI S O tge iter m)
    (hg : RC (S.blk scope) O (own.map (·.2)) tge tg) (ht : RTs (S.blk scope) O ifs tm) (he : RE (S.blk scope) O elt el) (ok : blkB S.N S.sc scope own = true := by kernel_rfl) (hs : ∀ env x, foldedSetIterable iter env x = pure x := by intros; rfl) : RF S O (.ListComp elt [⟨tge, iter, ifs, 0⟩] scope pos) (lComp (own.map (·.2)) m tg tm el) := rf_comp (blk_of ok).2 hi (blk_of ok).1 hg ht he hs
def ysB (N : List Str) (sc : Scope) (i : Nat) (y : Str) (scope : Scope) : Bool := decide (N[i]? = some y) && ((match sc.names.lookup y with
  | some .local => true
  | _ => false) && ((match sc.kind with
    | .function => true
    | _ => false) && !(scope.names.any fun (n, k) => n == y && (k == .local || k == .cell))))
theorem ys_of {i : Nat} {y : Str} {scope : Scope} (h : ysB S.N S.sc i y scope = true) : Ys S i y scope := by
  obtain ⟨h1, h⟩ := b2 h
  obtain ⟨h2, h⟩ := b2 h
  obtain ⟨h3, h4⟩ := b2 h
  refine ⟨of_decide_eq_true h1, ?_, ?_, bn h4⟩
  · split at h2
    · assumption
    · cases h2
  · cases e : S.sc.kind <;> first | rfl | (rw [e] at h3; cases h3)
section
variable {elt tge iter : Expr} {ifs : List Expr} {scope : Scope} {own : List (Str × Nat)} {pos spos py : Pos} {y : Str} {i : Nat} {m : Env → M Itm} {tg : GM} {tm : TM} {el : EM}
theorem scV (hi : RI S O tge iter m) (hg : RC (S.blk scope) O (own.map (·.2)) tge tg) (ht : RTs (S.blk scope) O ifs tm) (he : RE (S.blk scope) O elt el) (ok : blkB S.N S.sc scope own = true := by kernel_rfl) (ys : ysB S.N S.sc i y scope = true := by kernel_rfl) (hO : i ∉ O := by decide) (hs : ∀ env x, foldedSetIterable iter env x = pure x := by intros; rfl) (hl : (py.line == pos.line) = true := by rfl) :
    RS S O (.Assign [.Name y py] (.ListComp elt [⟨tge, iter, ifs, 0⟩] scope pos) spos) (sSet i (gVal (lComp (own.map (·.2)) m tg tm el))) := rs_compV (blk_of ok).2 (ys_of ys) hO hi (blk_of ok).1 hg ht he hs hl
theorem scN (hi : RI S O tge iter m) (hg : RC (S.blk scope) O (own.map (·.2)) tge tg) (ht : RTs (S.blk scope) O ifs tm) (he : RE (S.blk scope) O elt el) (ok : blkB S.N S.sc scope own = true := by kernel_rfl) (ys : ysB S.N S.sc i y scope = true := by kernel_rfl) (hO : i ∉ O := by decide) (hs : ∀ env x, foldedSetIterable iter env x = pure x := by intros; rfl) (hl : (py.line == pos.line) = true := by rfl) :
    RS S O (.Assign [.Name y py] (.ListComp elt [⟨tge, iter, ifs, 0⟩] scope pos) spos) (sSet i (gNew (lComp (own.map (·.2)) m tg tm el))) := rs_compN (blk_of ok).2 (ys_of ys) hO hi (blk_of ok).1 hg ht he hs hl
theorem scO (hi : RI S O tge iter m) (hg : RC (S.blk scope) O (own.map (·.2)) tge tg) (ht : RTs (S.blk scope) O ifs tm) (he : RE (S.blk scope) O elt el) (ok : blkB S.N S.sc scope own = true := by kernel_rfl) (ys : ysB S.N S.sc i y scope = true := by kernel_rfl) (hO : i ∈ O := by decide) (hs : ∀ env x, foldedSetIterable iter env x = pure x := by intros; rfl) (hl : (py.line == pos.line) = true := by rfl) :
    RS S O (.Assign [.Name y py] (.ListComp elt [⟨tge, iter, ifs, 0⟩] scope pos) spos) (sOwn i (lComp (own.map (·.2)) m tg tm el)) := rs_compO (blk_of ok).2 (ys_of ys) hO hi (blk_of ok).1 hg ht he hs hl
end
theorem rO {i : Nat} {x : Str} {p pos : Pos} (h : nmB S.N S.sc i x = true := by kernel_rfl) (hi : i ∈ O := by decide) : RS S O (.Return (some (.Name x p)) pos) (sRet (gV i)) := rs_retO (nk h) hi
theorem dsp {pos : Pos} {keys : List (Option Expr)} {values : List Expr} {ps : List (EM × EM)} (hp : RPs S O pos keys values ps) (hall : keys.all (·.isSome) = true := by rfl) (hl : keys.length = values.length := by rfl) (h0 : keys.isEmpty = false := by rfl) (h15 : Nat.ble keys.length 15 = true := by rfl) : RE S O (.Dict keys values pos) (gDisp ps) :=
  re_disp hp hall hl (fun e => by rw [e] at h0; cases h0) (Nat.le_of_ble_eq_true h15)
theorem pass_ {pos : Pos} : RS S O (.Pass pos) sNil := ⟨tNext, fun X _ => ps_pass, fun B G h σ Γ E w p => p.pur w.ok σ w.env⟩

/-! ### a def by its facts -/
theorem fn_okD {T : Tx} {x qual : Str} {st : Stmt} {f : Addr} {fd : FuncData} {N ps : List Str} {k n : Nat} {O : List Nat} {body : SM} (F : FunD T.K x qual (defArgs st) (defBody st) (defScope st) [] [] f fd) (sc : FnScope N ps (defScope st)) (hn : ps.length = n) (hO : O.all (fun i => Nat.ble n i) = true) (hC : T.CX = CX0) (hm : T.xm = false)
    (hb : RSs (T.fn N (defScope st) k false E0) O (defBody st) body) : FnOk T.P T.w T.K T.mg T.base T.CX (k + 1) f fd ps (spM T n (fnM n N.length body)) := by
  have hO : ∀ i ∈ O, n ≤ i := fun i hi => Nat.le_of_ble_eq_true (List.all_eq_true.mp hO i hi)
  rw [hC]
  refine F.ok sc (fun vs H Q E h => h.1.trans hn.symm) (fun cdv A outer s H vs Q E hr h => ?_)
  obtain ⟨hv, G, h, ds, gK, gc, ok, rfl, rs, p⟩ := h
  obtain ⟨t, t1, t2⟩ := hb.ex
  refine ⟨t, PSs.nox (t1 _ ?_), ?_⟩
  · exact ⟨rfl, rfl, rfl, rfl, rfl, rfl, rfl, hr, rfl, fun _ _ => rfl, by show Passes T.CX _ _; rw [hC]; exact pass0, PassesOwn.never, sc.kind, fun _ _ _ => by show Passes T.CX _ _; rw [hC]; exact pass0, fun h => by cases h⟩
  · have w : Here (T.fn N (defScope st) k false E0) O G.U G h (L2.start N vs) (ds.map some ++ List.replicate (N.length - n) none) := by
      refine ⟨gK, gc, ok, ?_⟩
      have e := env_start (K := T.K) (N := N) ok rs
      rw [hv] at e
      refine e.anyO fun i hi d q => ?_
      have := hO i hi
      rw [List.getElem?_append_right (by rw [List.length_map, ← rs.len, hv]; exact this), List.getElem?_replicate] at q
      split at q <;> cases q
    refine t2 G.U G h _ _ _ w ?_
    unfold fnM at p
    have hx : T.xm = false → ∀ c xs h', body (ds.map some ++ List.replicate (N.length - n) none) h ≠ .ex c xs h' := fun hm c xs h' e => by
      unfold bnd at p
      rw [e] at p
      have := p.1
      rw [show (T.sx E).T.xm = T.xm from rfl, hm] at this
      cases this
    unfold bnd at p
    cases e : body (ds.map some ++ List.replicate (N.length - n) none) h with
    | ok f h' =>
      rw [e] at p
      intro G' y k'
      have fin : ∀ d v, (∀ a, G.U a → G'.U a) → Rep G' d v → Pst (T.sx E) G (.ok d h' : Sw.R D) (fun d _ G' => ∀ v, Rep G' d v → Q v G'.H) → Q v G'.H := fun d v b r q => by
        have l := Wd.drop_le (G := G') b
        exact q (G'.drop G.U) ⟨y.le.trans l, rfl, fun a ha => y.ow a ha⟩ (Wd.drop_ok k' b) v (r.le l)
      cases f with
      | nx Γ' => exact fun σ' en => fin _ _ en.bU .of_non p
      | rt d => exact fun v b r => fin d v b r p
    | ex c xs h' => exact absurd e (hx hm c xs h')
    | bad =>
      rw [e] at p
      exact p
/-- where a def stands -/
structure DefT (T : Tx) (at_ : Str × Option Str) (x qual : Str) (st : Stmt) : Prop where
  ex : ∃ fd, FunD T.K x qual (defArgs st) (defBody st) (defScope st) [] [] (He.fAd T.K at_) fd
/-- no exceptions -/
structure Calm (T : Tx) : Prop where
  cx : T.CX = CX0
  xm : T.xm = false
  cl : T.cl = He.ga T.K
section
variable {T : Tx} {x qual : Str} {st : Stmt} {N ps : List Str} {k n : Nat} {O : List Nat} {body : SM}
def BindsA (x qual : Str) (st : Stmt) (ps : List Str) : Prop := ∀ (kV doc pm : Value) (an : Option Addr) (cdv ct : Value) (us : List Value), us.length = ps.length → bindArgs (PySem.W.fnOf x qual (defArgs st) (defBody st) (defScope st) .none kV doc pm an cdv ct) ⟨us, []⟩ = pure (ps.zip us)
theorem mkFn (Z : Calm T) (F : DefT T (x, none) x qual st) (hg : T.mg x = some (.ref (He.ga T.K x))) (sc : FnScope N ps (defScope st)) (hb : RSs (T.fn N (defScope st) k false E0) O (defBody st) body) (bA : BindsA x qual st ps) (nd : (x == ("__debug__" : Str)) = false := by kernel_rfl) (hn : ps.length = n := by rfl) (hO : O.all (fun i => Nat.ble n i) = true := by rfl) : FnS T x (k + 1) n (fnM n N.length body) := by
  obtain ⟨fd, F⟩ := F.ex
  exact ⟨⟨_, fd, ps, hn, fn_okD F sc hn hO Z.cx Z.xm hb, hg, F.kp, F.bindsN bA⟩, nd⟩
theorem mkMt {C m : Str} (Z : Calm T) (F : DefT T (C, some m) x qual st) (hm : Meth T.K (He.ga T.K C) m (He.ma T.K (He.ga T.K C) m)) (hc : Cls T.K (He.ga T.K C)) (sc : FnScope N ps (defScope st)) (hb : RSs (T.fn N (defScope st) k false E0) O (defBody st) body) (bA : BindsA x qual st ps) (hn : ps.length = n := by rfl) (hO : O.all (fun i => Nat.ble n i) = true := by rfl) : MtS T C m (k + 1) n (fnM n N.length body) := by
  obtain ⟨fd, F⟩ := F.ex
  have e := Z.cl
  exact ⟨⟨_, fd, ps, hn, fn_okD F sc hn hO Z.cx Z.xm hb, by rw [e]; exact hm, F.bindsN bA⟩, by rw [e]; exact hc⟩
theorem mkMk {C : Str} (Z : Calm T) (F : DefT T (C, some "__init__") x qual st) (hm : Mk T.K (He.ga T.K C) (He.ma T.K (He.ga T.K C) "__init__")) (sc : FnScope N ps (defScope st)) (hb : RSs (T.fn N (defScope st) k false E0) O (defBody st) body) (bA : BindsA x qual st ps) (hg : T.mg C = some (.ref (He.ga T.K C))) (nd : (C == ("__debug__" : Str)) = false := by kernel_rfl) (hn : ps.length = n + 1 := by rfl) (hO : O.all (fun i => Nat.ble (n + 1) i) = true := by rfl) : MkS T C (k + 1) n (fnM (n + 1) N.length body) := by
  obtain ⟨fd, F⟩ := F.ex
  have e := Z.cl
  exact ⟨⟨_, fd, ps, hn, fn_okD F sc hn hO Z.cx Z.xm hb, by rw [e]; exact hm, F.bindsN bA⟩, by rw [e]; exact hg, nd⟩
end
end Sw

set_option maxHeartbeats 400000
/-! Sw, part O: what the head tells, the end. -/
namespace Sw
open PySem PySem.Spec L2
def txOf (P : Program) (w : World) (K : PySem.W.Frag) (mg : Str → Option Value) (base : Heap) : Tx := ⟨P, w, K, mg, base, CX0, He.ga K, false⟩
section
variable {P : Program} {w : World} {K : PySem.W.Frag} {mg : Str → Option Value} {base h : Heap} {fa : List He.Fa} {fn : List He.DefD}
theorem bn_of {x : Str} {v : Value} (X : K.In h) (G : h.Ns mainGlobals mg) (c : (He.Fa.free x).ok K = true) (hv : bootBuiltins x = some v := by kernel_rfl) (n1 : (x == ("__name__" : Str)) = false := by kernel_rfl) (n2 : (x == ("__debug__" : Str)) = false := by kernel_rfl) : Bn (txOf P w K mg base) x v :=
  ⟨He.free_ok X G c, hv, fun e => by rw [e] at n1; exact absurd n1 (by decide +kernel), n2⟩
theorem mn_int {x : Str} {i : Int} (X : K.In h) (G : h.Ns mainGlobals mg) (c : (He.Fa.int x i).ok K = true) (n2 : (x == ("__debug__" : Str)) = false := by kernel_rfl) : Mn (txOf P w K mg base) x (.int i) := by
  obtain ⟨t, e⟩ := He.int_ok X G c
  exact ⟨⟨.int i, _, e, ⟨t, rfl⟩, fun _ _ => .of_int⟩, n2⟩
theorem mn_str {x z : Str} (X : K.In h) (G : h.Ns mainGlobals mg) (c : (He.Fa.str x z).ok K = true) (hz : PyData.strOk z = true := by kernel_rfl) (n2 : (x == ("__debug__" : Str)) = false := by kernel_rfl) : Mn (txOf P w K mg base) x (.str z) := by
  obtain ⟨t, e⟩ := He.str_ok X G c
  exact ⟨⟨.str z, _, e, ⟨t, rfl⟩, fun _ _ => by unfold Rep; exact ⟨rfl, hz⟩⟩, n2⟩
theorem ct_of {C : Str} {fs : List Str} (c : (He.Fa.cls C).ok K = true) (cf : (fs.map (He.Fa.noat C)).all (fun f => f.ok K) = true) : CT (txOf P w K mg base) C fs :=
  ⟨He.cls_ok c, fun f hf => He.noat_ok (List.all_eq_true.mp cf _ (List.mem_map_of_mem hf))⟩
theorem all_nil : (([] : List He.Fa)).all (fun f => f.ok K) = true := rfl
theorem all_cons {f : He.Fa} {r : List He.Fa} (h1 : f.ok K = true) (h2 : r.all (fun f => f.ok K) = true) : (f :: r).all (fun f => f.ok K) = true := by
  rw [List.all_cons, h1, h2]
  rfl
theorem def_of {at_ : Str × Option Str} {x qual : Str} {st : Stmt} (c : He.SaysD fa fn K) (i : Nat) (h : fn[i]? = some ⟨at_, x, qual, defArgs st, defBody st, defScope st, [], []⟩) : DefT (txOf P w K mg base) at_ x qual st := ⟨c.def_ i h⟩
/-- the law's def, from its shadow: the script alone stands for something -/
theorem law_sp {f : List D → M D} {H : Hp} {a : Addr} {ns : List Int} {h' : PH} (hl : ns.length ≤ 63) (hS : SqL K H a (ns.map V.int)) (e : f [.rd ns] [] = .ok (.bl true) h') :
    spM (txOf P w K mg base) 1 f [.ref a] H (fun v _ => v = .bl true) fun _ _ _ => False := by
  let G : Wd := ⟨K, He.ga K, fun _ => False, [], H⟩
  have hz : (ns.map V.int).length ≤ sizeLine := by
    rw [List.length_map]
    exact Nat.le_trans hl (by decide)
  refine ⟨rfl, G, [], [.rd ns], rfl, rfl, ⟨rfl, List.nodup_nil, fun a h => h.elim, fun n a o h _ => by simp [G] at h⟩, rfl, ?_, ?_⟩
  · refine .one ?_
    unfold Rep
    refine ⟨a, rfl, ?_⟩
    rcases hS with hS | ⟨o, its, n, q1, q2, q3, q4, q5, q6⟩
    · exact .inl ⟨hS, by simp [G], fun h => h, hz⟩
    · exact .inr ⟨o, its, n, q1, q2, q3, q4, q5, q6⟩
  · rw [e]
    intro G' _ _ v r
    exact r.bl_inv
end
end Sw

set_option maxHeartbeats 400000
/-! Sw, part P: reckoning with shadows: what a run ends in. -/
namespace Sw
open PySem PySem.Spec L2
variable {α β : Type}
def wp (r : R α) (Q : α → PH → Prop) : Prop := match r with
  | .ok a h => Q a h
  | _ => False
@[simp] theorem wp_ok {a : α} {h : PH} {Q : α → PH → Prop} : wp (.ok a h) Q = Q a h := rfl
@[simp] theorem wp_bad {Q : α → PH → Prop} : wp (.bad : R α) Q = False := rfl
@[simp] theorem wp_ex {c : Str} {xs : List D} {h : PH} {Q : α → PH → Prop} : wp (.ex c xs h : R α) Q = False := rfl
theorem wp_mono {r : R α} {Q Q' : α → PH → Prop} (p : wp r Q) (f : ∀ a h, Q a h → Q' a h) : wp r Q' := by
  cases r with
  | ok a h => exact f a h p
  | ex c xs h => exact p
  | bad => exact p
theorem wp_eq {r : R α} {Q : α → PH → Prop} : wp r Q ↔ ∃ a h, r = .ok a h ∧ Q a h := by
  cases r with
  | ok a h => exact ⟨fun p => ⟨a, h, rfl, p⟩, fun ⟨a', h', e, p⟩ => by cases e; exact p⟩
  | ex c xs h => exact ⟨fun p => p.elim, fun ⟨_, _, e, _⟩ => by cases e⟩
  | bad => exact ⟨fun p => p.elim, fun ⟨_, _, e, _⟩ => by cases e⟩
theorem wp_of {r : R α} {a : α} {h : PH} {Q : α → PH → Prop} (e : r = .ok a h) (p : Q a h) : wp r Q := by rw [e]; exact p
@[simp] theorem wp_bnd {m : M α} {f : α → M β} {h : PH} {Q : β → PH → Prop} : wp (bnd m f h) Q = wp (m h) (fun a h' => wp (f a h') Q) := by
  unfold bnd
  cases m h <;> rfl
@[simp] theorem wp_pur {a : α} {h : PH} {Q : α → PH → Prop} : wp (pur a h) Q = Q a h := rfl
@[simp] theorem wp_mbad {h : PH} {Q : α → PH → Prop} : wp ((bad : M α) h) Q = False := rfl
theorem wp_ite {p : Prop} [Decidable p] {m m' : M α} {h : PH} {Q : α → PH → Prop} : wp ((if p then m else m') h) Q = if p then wp (m h) Q else wp (m' h) Q := by
  by_cases e : p <;> simp [e]
section
variable {Γ : Env} {h : PH} {Q : D → PH → Prop} {a b c : EM}
@[simp] theorem wp_gC {d : D} : wp (gC d Γ h) Q = Q d h := rfl
@[simp] theorem wp_gV {i : Nat} : wp (gV i Γ h) Q = (match Γ[i]? with
  | some (some d) => Q d h
  | _ => False) := by
  unfold gV
  cases e : Γ[i]? with
  | none => rfl
  | some o => cases o <;> rfl
@[simp] theorem wp_g2 {f : D → D → M D} : wp (g2 f a b Γ h) Q = wp (a Γ h) (fun x h => wp (b Γ h) fun y h => wp (f x y h) Q) := by
  unfold g2
  simp only [wp_bnd, wp_ite, wp_pur, wp_ok]
@[simp] theorem wp_g1 {f : D → M D} : wp (g1 f a Γ h) Q = wp (a Γ h) (fun x h => wp (f x h) Q) := by
  unfold g1
  simp only [wp_bnd, wp_ite, wp_pur, wp_ok]
@[simp] theorem wp_isB {d : Bool} {Q : Bool → PH → Prop} : wp (isB (.bl d) h) Q = Q d h := rfl
@[simp] theorem wp_tB {Q : Bool → PH → Prop} : wp (tB a Γ h) Q = wp (a Γ h) (fun d h => wp (isB d h) Q) := by
  unfold tB
  simp only [wp_bnd, wp_ite, wp_pur, wp_ok]
@[simp] theorem wp_gChain {f f' : D → D → M D} : wp (gChain f f' a b c Γ h) Q = wp (a Γ h) fun x h => wp (b Γ h) fun y h => wp (f x y h) fun d h => wp (isB d h) fun k h => if k = true then wp (c Γ h) (fun z h => wp (f' y z h) Q) else Q (.bl false) h := by
  unfold gChain
  simp only [wp_bnd, wp_ite, wp_pur]
@[simp] theorem wp_tNt {t : TM} {Q : Bool → PH → Prop} : wp (tNt t Γ h) Q = wp (t Γ h) fun k h => Q (!k) h := by
  unfold tNt
  simp only [wp_bnd, wp_ite, wp_pur, wp_ok]
@[simp] theorem wp_tAn {s t : TM} {Q : Bool → PH → Prop} : wp (tAn s t Γ h) Q = wp (s Γ h) fun k h => if k = true then wp (t Γ h) Q else Q false h := by
  unfold tAn
  simp only [wp_bnd, wp_ite, wp_pur]
@[simp] theorem wp_tOrr {s t : TM} {Q : Bool → PH → Prop} : wp (tOrr s t Γ h) Q = wp (s Γ h) fun k h => if k = true then Q true h else wp (t Γ h) Q := by
  unfold tOrr
  simp only [wp_bnd, wp_ite, wp_pur]
@[simp] theorem wp_gAn : wp (gAn a b Γ h) Q = wp (a Γ h) fun d h => wp (isB d h) fun k h => if k = true then wp (b Γ h) Q else Q (.bl false) h := by
  unfold gAn
  simp only [wp_bnd, wp_tB, wp_ite, wp_pur]
@[simp] theorem wp_gOr : wp (gOr a b Γ h) Q = wp (a Γ h) fun d h => wp (isB d h) fun k h => if k = true then Q (.bl true) h else wp (b Γ h) Q := by
  unfold gOr
  simp only [wp_bnd, wp_tB, wp_ite, wp_pur]
@[simp] theorem wp_gNt : wp (gNt a Γ h) Q = wp (a Γ h) fun d h => wp (isB d h) fun k h => Q (.bl (!k)) h := by
  unfold gNt
  simp only [wp_bnd, wp_tB, wp_ite, wp_pur, wp_ok]
@[simp] theorem wp_gIf {t : TM} : wp (gIf t a b Γ h) Q = wp (t Γ h) fun k h => if k = true then wp (a Γ h) Q else wp (b Γ h) Q := by
  unfold gIf
  simp only [wp_bnd, wp_ite, wp_pur]
@[simp] theorem wp_seqA0 {Q : List D → PH → Prop} : wp (seqA [] Γ h) Q = Q [] h := rfl
@[simp] theorem wp_seqA1 {m : EM} {ms : List EM} {Q : List D → PH → Prop} : wp (seqA (m :: ms) Γ h) Q = wp (m Γ h) fun x h => wp (seqA ms Γ h) fun xs h => Q (x :: xs) h := by
  show wp (bnd (m Γ) (fun x => bnd (seqA ms Γ) fun xs => pur (x :: xs)) h) Q = _
  simp only [wp_bnd, wp_ite, wp_pur, wp_ok]
@[simp] theorem wp_gTup {ms : List EM} : wp (gTup ms Γ h) Q = wp (seqA ms Γ h) fun xs h => Q (.tup xs) h := by
  unfold gTup
  simp only [wp_bnd, wp_ite, wp_pur, wp_ok]
@[simp] theorem wp_gVal {m : LM} : wp (gVal m Γ h) Q = wp (m Γ h) fun xs h => Q (.lst xs) h := by
  unfold gVal
  simp only [wp_bnd, wp_ite, wp_pur, wp_ok]
@[simp] theorem wp_gNew {m : LM} : wp (gNew m Γ h) Q = wp (m Γ h) fun xs h => Q (.ref h.length) (h ++ [.lst xs]) := by
  unfold gNew
  simp [newL]
@[simp] theorem wp_oNo {Q : Option Int → PH → Prop} : wp (oNo Γ h) Q = Q none h := rfl
@[simp] theorem wp_oSome {Q : Option Int → PH → Prop} : wp (oSome a Γ h) Q = wp (a Γ h) fun d h => (match d with
  | .int i => Q (some i) h
  | _ => False) := by
  unfold oSome
  simp only [wp_bnd]
  congr
  funext d h
  cases d <;> rfl
@[simp] theorem wp_lSl {l u : Env → M (Option Int)} {Q : List D → PH → Prop} : wp (lSl a l u Γ h) Q = wp (a Γ h) fun x h => wp (l Γ h) fun i h => wp (u Γ h) fun j h => (match lAdd.seqL h x with
  | some xs => Q (cutD xs i j) h
  | none => False) := by
  unfold lSl
  simp only [wp_bnd]
  congr
  funext x h
  congr
  funext i h
  congr
  funext j h
  cases lAdd.seqL h x <;> rfl
@[simp] theorem wp_gDict0 : wp (gDict0 Γ h) Q = Q (.ref h.length) (h ++ [.dct []]) := rfl
@[simp] theorem wp_gCall {f : List D → M D} {ms : List EM} : wp (gCall f ms Γ h) Q = wp (seqA ms Γ h) fun xs h => wp (f xs h) Q := by
  unfold gCall
  simp only [wp_bnd, wp_ite, wp_pur, wp_ok]
/-- a field's value -/
def fldOf (C f : Str) (d : D) (h : PH) : Option D := match d with
  | .ref n => (match h[n]? with
    | some (.ins C' fs) => if C' = C then getD_ fs f else none
    | _ => none)
  | _ => none
@[simp] theorem wp_gFld {C f : Str} : wp (gFld C f a Γ h) Q = wp (a Γ h) fun d h => (match fldOf C f d h with
  | some x => Q x h
  | none => False) := by
  unfold gFld
  simp only [wp_bnd, wp_ite, wp_pur, wp_ok]
  congr
  funext d h
  unfold fldOf
  cases d with
  | ref n =>
    simp only
    cases e : h[n]? with
    | none => simp
    | some o =>
      cases o with
      | ins C' fs =>
        by_cases q : C' = C
        · simp only [q, if_pos]
          cases getD_ fs f <;> simp
        · simp [q]
      | _ => simp
  | _ => simp
@[simp] theorem wp_gMake {C : Str} {f : List D → M D} {ms : List EM} : wp (gMake C f ms Γ h) Q = wp (seqA ms Γ h) fun ds h => wp (f (.ref h.length :: ds) (h ++ [.ins C []])) fun d h' => d = .non ∧ Q (.ref h.length) h' := by
  unfold gMake
  simp only [wp_bnd, wp_ite, wp_pur, wp_ok]
  congr
  funext ds h1
  split <;> simp_all
/-- what a method is asked of -/
def isIns (C m : Str) (d : D) (h : PH) : Prop := ∃ n fs, d = .ref n ∧ h[n]? = some (.ins C fs) ∧ (getD_ fs m).isNone = true
theorem wp_gMeth_ {C m : Str} {f : List D → M D} {ms : List EM} : wp (gMeth C m f a ms Γ h) Q = wp (a Γ h) fun d h => (match d with
  | .ref n => (match h[n]? with
    | some (.ins C' fs) => (C' = C ∧ (getD_ fs m).isNone = true) ∧ wp (seqA ms Γ h) fun ds h => wp (f (d :: ds) h) Q
    | _ => False)
  | _ => False) := by
  unfold gMeth
  simp only [wp_bnd]
  congr
  funext d h
  cases d with
  | ref n =>
    simp only
    cases h[n]? with
    | none => rfl
    | some o =>
      cases o with
      | ins C' fs =>
        by_cases e : C' = C ∧ (getD_ fs m).isNone = true
        · simp only [if_pos e, wp_bnd, true_and]
          exact (propext ⟨fun q => ⟨e, q⟩, fun q => q.2⟩)
        · simp only [if_neg e, wp_bad]
          exact (propext ⟨fun q => q.elim, fun q => e q.1⟩)
      | _ => rfl
  | _ => rfl
theorem wp_gMeth {C m : Str} {f : List D → M D} {ms : List EM} {d : D} (e : ∀ Q, wp (a Γ h) Q = Q d h) (i : isIns C m d h) : wp (gMeth C m f a ms Γ h) Q = wp (seqA ms Γ h) fun ds h => wp (f (d :: ds) h) Q := by
  obtain ⟨n, fs, rfl, i1, i2⟩ := i
  unfold gMeth
  rw [wp_bnd, e]
  simp [i1, i2]
@[simp] theorem wp_gLm {f : PH → List D → List D → Option (D × List D)} {ms : List EM} : wp (gLm f a ms Γ h) Q = wp (a Γ h) fun d h => isLstD h d = true ∧ wp (seqA ms Γ h) fun ys h => (match d with
  | .ref n => (match h[n]? with
    | some (.lst xs) => (match f h xs ys with
      | some (x, zs) => Q x (h.set n (.lst zs))
      | none => False)
    | _ => False)
  | _ => False) := by
  unfold gLm
  simp only [wp_bnd, wp_ite, wp_pur, wp_ok]
  congr
  funext d h
  by_cases e : isLstD h d = true
  · simp only [e, if_pos, true_and, wp_bnd]
    refine congrArg (wp (seqA ms Γ h)) ?_
    funext ys h
    cases d with
    | ref n =>
      simp
      cases q : h[n]? with
      | none => simp
      | some o =>
        cases o with
        | lst xs =>
          simp
          cases f h xs ys <;> simp
        | _ => simp
    | _ => simp
  · simp [e]
end
/-! ### values -/
section
variable {h : PH} {Q : D → PH → Prop} {i j : Int}
@[simp] theorem wp_add : wp (dAdd (.int i) (.int j) h) Q = Q (.int (i + j)) h := rfl
@[simp] theorem wp_sub : wp (dSub (.int i) (.int j) h) Q = Q (.int (i - j)) h := rfl
@[simp] theorem wp_mul : wp (dMul (.int i) (.int j) h) Q = ((i.natAbs < 2 ^ 64 ∨ j.natAbs < 2 ^ 64) ∧ Q (.int (i * j)) h) := by
  unfold dMul
  by_cases e : i.natAbs < 2 ^ 64 ∨ j.natAbs < 2 ^ 64
  · simp only [e, if_pos, true_and]; rfl
  · simp only [e, if_neg, false_and]; rfl
@[simp] theorem wp_mod : wp (dMod (.int i) (.int j) h) Q = (0 < j ∧ Q (.int (i % j)) h) := by
  unfold dMod i2c
  by_cases e : 0 < j <;> simp [e]
@[simp] theorem wp_div : wp (dDiv (.int i) (.int j) h) Q = ((0 < j ∧ j < 1073741824) ∧ Q (.int (i / j)) h) := by
  unfold dDiv i2c
  by_cases e : 0 < j ∧ j < 1073741824 <;> simp [e]
@[simp] theorem wp_pow : wp (dPow (.int i) (.int j) h) Q = ((0 ≤ j ∧ j ≤ 1000000 ∧ i.natAbs < 2 ^ 64) ∧ Q (.int (i ^ j.toNat)) h) := by
  unfold dPow i2c
  by_cases e : 0 ≤ j ∧ j ≤ 1000000 ∧ i.natAbs < 2 ^ 64 <;> simp only [e, and_self, decide_true, decide_false, if_pos, if_neg, true_and, false_and, not_false_eq_true] <;> simp_all
@[simp] theorem wp_lt : wp (dLt (.int i) (.int j) h) Q = Q (.bl (decide (i < j))) h := rfl
@[simp] theorem wp_le : wp (dLe (.int i) (.int j) h) Q = Q (.bl (decide (i ≤ j))) h := rfl
@[simp] theorem wp_gt : wp (dGt (.int i) (.int j) h) Q = Q (.bl (decide (j < i))) h := rfl
@[simp] theorem wp_ge : wp (dGe (.int i) (.int j) h) Q = Q (.bl (decide (j ≤ i))) h := rfl
@[simp] theorem wp_eqI : wp (dEq (.int i) (.int j) h) Q = Q (.bl (decide (i = j))) h := by
  have e : (i == j) = decide (i = j) := by by_cases q : i = j <;> simp [q]
  unfold dEq
  simp [dat, PyData.eqv, PyData.depth, e]
@[simp] theorem wp_neI : wp (dNe (.int i) (.int j) h) Q = Q (.bl (!decide (i = j))) h := by
  have e : (i == j) = decide (i = j) := by by_cases q : i = j <;> simp [q]
  unfold dNe
  simp [dat, PyData.eqv, PyData.depth, e]
@[simp] theorem wp_eqS {x y : Str} : wp (dEq (.str x) (.str y) h) Q = Q (.bl (decide (x = y))) h := by
  have e : (x == y) = decide (x = y) := by by_cases q : x = y <;> simp [q]
  unfold dEq
  simp [dat, PyData.eqv, PyData.depth, e]
@[simp] theorem wp_neS {x y : Str} : wp (dNe (.str x) (.str y) h) Q = Q (.bl (!decide (x = y))) h := by
  have e : (x == y) = decide (x = y) := by by_cases q : x = y <;> simp [q]
  unfold dNe
  simp [dat, PyData.eqv, PyData.depth, e]
@[simp] theorem wp_eqB {x y : Bool} : wp (dEq (.bl x) (.bl y) h) Q = Q (.bl (x == y)) h := by
  unfold dEq
  simp [dat, PyData.eqv, PyData.depth]
theorem datL_ints {rf : Nat → Option PyData} : ∀ xs : List Int, datL rf (xs.map D.int) = some (xs.map PyData.int)
  | [] => rfl
  | x :: xs => by
    rw [List.map_cons]
    unfold datL
    rw [datL_ints xs]
    rfl
theorem eqvAll_ints : ∀ xs ys : List Int, PyData.eqvAll (xs.map PyData.int) (ys.map PyData.int) = decide (xs = ys)
  | [], [] => rfl
  | [], y :: ys => by simp [PyData.eqvAll]
  | x :: xs, [] => by simp [PyData.eqvAll]
  | x :: xs, y :: ys => by
    rw [List.map_cons, List.map_cons]
    unfold PyData.eqvAll
    rw [eqvAll_ints xs ys]
    unfold PyData.eqv
    by_cases e : x = y <;> by_cases q : xs = ys <;> simp [e, q]
theorem depth_ints : ∀ xs : List Int, PyData.depthAll (xs.map PyData.int) ≤ 1
  | [] => by simp [PyData.depthAll]
  | x :: xs => by
    have := depth_ints xs
    rw [List.map_cons]
    unfold PyData.depthAll
    have : PyData.depth (.int x) ≤ 1 := by simp [PyData.depth]
    omega
theorem eqLI {xs ys : List Int} : wp (dEq (.lst (xs.map D.int)) (.lst (ys.map D.int)) h) Q = Q (.bl (decide (xs = ys))) h := by
  have d1 := depth_ints xs
  have : min (1 + PyData.depthAll (xs.map PyData.int)) (1 + PyData.depthAll (ys.map PyData.int)) ≤ 64 := by omega
  unfold dEq
  simp only [dat, datL_ints, Option.map_some, PyData.eqv, PyData.depth, eqvAll_ints]
  rw [if_pos (by omega)]
  rfl
theorem neLI {xs ys : List Int} : wp (dNe (.lst (xs.map D.int)) (.lst (ys.map D.int)) h) Q = Q (.bl (!decide (xs = ys))) h := by
  have d1 := depth_ints xs
  unfold dNe
  simp only [dat, datL_ints, Option.map_some, PyData.eqv, PyData.depth, eqvAll_ints]
  rw [if_pos (by omega)]
  rfl
theorem neL0 {xs : List Int} : wp (dNe (.lst (xs.map D.int)) (.lst []) h) Q = Q (.bl (!decide (xs = []))) h := neLI (ys := [])
@[simp] theorem wp_isN {d : D} : wp (dIsN d .non h) Q = Q (.bl (isNonD d)) h := by
  unfold dIsN isNonD
  cases d <;> rfl
@[simp] theorem wp_isNot {d : D} : wp (dIsNot d .non h) Q = Q (.bl (!isNonD d)) h := by
  unfold dIsNot isNonD
  cases d <;> rfl
@[simp] theorem isNon_int : isNonD (.int i) = false := rfl
@[simp] theorem isNon_non : isNonD .non = true := rfl
@[simp] theorem wp_ixT {xs : List D} : wp (dIx (.tup xs) (.int i) h) Q = (match atI xs i with
  | some d => Q d h
  | none => False) := by
  show wp (match atI xs i with
    | some d => (.ok d h : R D)
    | none => .bad) Q = _
  cases atI xs i <;> rfl
@[simp] theorem wp_ixL {xs : List D} : wp (dIx (.lst xs) (.int i) h) Q = (match atI xs i with
  | some d => Q d h
  | none => False) := by
  show wp (match atI xs i with
    | some d => (.ok d h : R D)
    | none => .bad) Q = _
  cases atI xs i <;> rfl
@[simp] theorem wp_ixR {xs : List Int} : wp (dIx (.rd xs) (.int i) h) Q = (match atI (xs.map D.int) i with
  | some d => Q d h
  | none => False) := by
  show wp (match atI (xs.map D.int) i with
    | some d => (.ok d h : R D)
    | none => .bad) Q = _
  cases atI (xs.map D.int) i <;> rfl
theorem wp_ixO {xs : List D} {n : Nat} (e : h[n]? = some (.lst xs)) : wp (dIx (.ref n) (.int i) h) Q = (match atI xs i with
  | some d => Q d h
  | none => False) := by
  unfold dIx
  simp only [e]
  show wp (match atI xs i with
    | some d => (.ok d h : R D)
    | none => .bad) Q = _
  cases atI xs i <;> rfl
theorem wp_ixRef {n : Nat} {y : D} : wp (dIx (.ref n) y h) Q = (match h[n]? with
  | some (.lst xs) => wp (ixS xs y h) Q
  | some (.dct kvs) => wp (ixK kvs y h) Q
  | _ => False) := by
  unfold dIx
  simp only
  cases h[n]? with
  | none => rfl
  | some o => cases o <;> rfl
@[simp] theorem wp_ixS {xs : List D} : wp (ixS xs (.int i) h) Q = (match atI xs i with
  | some d => Q d h
  | none => False) := by
  unfold ixS
  simp only
  cases atI xs i <;> rfl
@[simp] theorem wp_ixK {kvs : List (Key × D)} {y : D} : wp (ixK kvs y h) Q = (match keyD y with
  | some k => (match getD_ kvs k with
    | some d => Q d h
    | none => False)
  | none => False) := by
  unfold ixK
  cases keyD y with
  | none => rfl
  | some k =>
    simp only
    cases getD_ kvs k <;> rfl
theorem wp_lenRef {n : Nat} : wp (dLen (.ref n) h) Q = (match h[n]? with
  | some (.lst xs) => Q (.int xs.length) h
  | _ => False) := by
  unfold dLen seqD
  simp only
  cases h[n]? with
  | none => rfl
  | some o => cases o <;> rfl
theorem wp_inRef {n : Nat} {d : D} {kvs : List (Key × D)} (e : h[n]? = some (.dct kvs)) : wp (dIn d (.ref n) h) Q = (match keyD d with
  | some k => Q (.bl (getD_ kvs k).isSome) h
  | none => False) := by
  unfold dIn dInB
  simp only [e]
  unfold inK
  cases keyD d <;> rfl
theorem ixN_nat {n k : Nat} (e : k < n) : ixN n (k : Int) = some k := by
  unfold ixN
  rw [if_pos (by omega), if_pos (by omega), Int.toNat_natCast]
theorem atI_nat {xs : List D} {k : Nat} : atI xs (k : Int) = xs[k]? := by
  unfold atI
  by_cases e : k < xs.length
  · rw [ixN_nat e]
    rfl
  · have : ixN xs.length (k : Int) = none := by
      unfold ixN
      rw [if_pos (by omega)]
      simp
      omega
    rw [this, List.getElem?_eq_none (by omega)]
    rfl
theorem wp_ixON {xs : List D} {n k : Nat} {d : D} (e : h[n]? = some (.lst xs)) (q : xs[k]? = some d) : wp (dIx (.ref n) (.int (k : Int)) h) Q = Q d h := by
  rw [wp_ixO e, atI_nat, q]
@[simp] theorem wp_lenL {xs : List D} : wp (dLen (.lst xs) h) Q = Q (.int xs.length) h := rfl
@[simp] theorem wp_lenT {xs : List D} : wp (dLen (.tup xs) h) Q = Q (.int xs.length) h := rfl
@[simp] theorem wp_lenR {xs : List Int} : wp (dLen (.rd xs) h) Q = Q (.int xs.length) h := by
  show Q (.int ((xs.map D.int).length : Nat)) h = _
  rw [List.length_map]
theorem wp_lenO {xs : List D} {n : Nat} (e : h[n]? = some (.lst xs)) : wp (dLen (.ref n) h) Q = Q (.int xs.length) h := by
  unfold dLen seqD
  simp only [e]
  rfl
@[simp] theorem wp_isInt : wp (isTy "int" (.int i) h) Q = Q (.bl true) h := rfl
@[simp] theorem wp_isBool : wp (isTy "bool" (.int i) h) Q = Q (.bl false) h := rfl
@[simp] theorem wp_max : wp (bMax [.int i, .int j] h) Q = Q (.int (if j > i then j else i)) h := rfl
@[simp] theorem wp_min : wp (bMin [.int i, .int j] h) Q = Q (.int (if j < i then j else i)) h := rfl
theorem intsD_map : ∀ xs : List Int, intsD (xs.map D.int) = some xs
  | [] => rfl
  | x :: xs => by
    rw [List.map_cons]
    unfold intsD
    rw [intsD_map xs]
    rfl
theorem wp_sumL {xs : List Int} : wp (dSum (.lst (xs.map D.int)) h) Q = Q (.int xs.sum) h := by
  unfold dSum lAdd.seqL
  simp only [intsD_map]
  rfl
/-- k in a dict -/
theorem wp_inK {n : Nat} {kvs : List (Key × D)} {k : Key} {d : D} (e : h[n]? = some (.dct kvs)) (hk : keyD d = some k) : wp (dIn d (.ref n) h) Q = Q (.bl (getD_ kvs k).isSome) h := by
  unfold dIn dInB
  simp only [e]
  unfold inK
  simp only [hk]
  rfl
end
/-! ### statements -/
section
variable {Γ : Env} {h : PH} {Q : Fl → PH → Prop} {a b : SM}
@[simp] theorem wp_sNil : wp (sNil Γ h) Q = Q (.nx Γ) h := rfl
@[simp] theorem wp_sBad : wp (sBad Γ h) Q = False := rfl
@[simp] theorem wp_sSeq : wp (sSeq a b Γ h) Q = wp (a Γ h) (fun f h => match f with
  | .nx Γ' => wp (b Γ' h) Q
  | .rt d => Q (.rt d) h) := by
  unfold sSeq
  simp only [wp_bnd, wp_ite, wp_pur, wp_ok]
  congr
  funext f h
  cases f <;> rfl
@[simp] theorem wp_sExpr {m : EM} : wp (sExpr m Γ h) Q = wp (m Γ h) fun _ h => Q (.nx Γ) h := by
  unfold sExpr
  simp only [wp_bnd, wp_ite, wp_pur, wp_ok]
@[simp] theorem wp_sRet {m : EM} : wp (sRet m Γ h) Q = wp (m Γ h) fun d h => Q (.rt d) h := by
  unfold sRet
  simp only [wp_bnd, wp_ite, wp_pur, wp_ok]
@[simp] theorem wp_sRetN : wp (sRetN Γ h) Q = Q (.rt .non) h := rfl
@[simp] theorem wp_sIf {t : TM} : wp (sIf t a b Γ h) Q = wp (t Γ h) fun k h => if k = true then wp (a Γ h) Q else wp (b Γ h) Q := by
  unfold sIf
  simp only [wp_bnd, wp_ite, wp_pur]
@[simp] theorem wp_sSet {i : Nat} {m : EM} : wp (sSet i m Γ h) Q = wp (m Γ h) fun d h => Q (.nx (Γ.set i (some d))) h := by
  unfold sSet
  simp only [wp_bnd, wp_ite, wp_pur, wp_ok]
@[simp] theorem wp_sOwn {i : Nat} {m : LM} : wp (sOwn i m Γ h) Q = wp (m Γ h) fun xs h => Q (.nx (Γ.set i (some (.lst xs)))) h := by
  unfold sOwn
  simp only [wp_bnd, wp_ite, wp_pur, wp_ok]
theorem wp_sOwnM {f : PH → List D → List D → Option (D × List D)} {i : Nat} {ms : List EM} {xs : List D} (e : Γ[i]? = some (some (.lst xs))) : wp (sOwnM f i ms Γ h) Q = wp (seqA ms Γ h) fun ys h => (match f h xs ys with
  | some (_, zs) => Q (.nx (Γ.set i (some (.lst zs)))) h
  | none => False) := by
  unfold sOwnM
  simp only [e, wp_bnd]
  congr
  funext ys h
  cases f h xs ys <;> rfl
/-- a field put -/
def putO (C f : Str) (d o : D) (h : PH) : Option PH := match o with
  | .ref n => (match h[n]? with
    | some (.ins C' fs) => if C' = C ∧ fs.length < 1000 then some (h.set n (.ins C (putFD f d fs))) else none
    | _ => none)
  | _ => none
theorem wp_putFld {C f : Str} {d o : D} {Q : Unit → PH → Prop} : wp (putFld C f d o h) Q = (match putO C f d o h with
  | some h' => Q () h'
  | none => False) := by
  unfold putFld putO
  cases o with
  | ref n =>
    simp only
    cases e : h[n]? with
    | none => simp
    | some ob =>
      cases ob with
      | ins C' fs =>
        by_cases q : C' = C ∧ fs.length < 1000
        · simp [q]
        · simp only [if_neg q, wp_bad]
      | _ => simp
  | _ => simp
@[simp] theorem wp_sFld {C f : Str} {o m : EM} : wp (Sw.sFld C f o m Γ h) Q = wp (m Γ h) fun d h => wp (o Γ h) fun x h => (match putO C f d x h with
  | some h' => Q (.nx Γ) h'
  | none => False) := by
  unfold Sw.sFld
  simp only [wp_bnd, wp_ite, wp_pur, wp_ok]
  congr
  funext d h
  congr
  funext x h
  rw [wp_putFld]
@[simp] theorem wp_sAsg {m : EM} {g : GM} : wp (sAsg m g Γ h) Q = wp (m Γ h) fun d h => wp (g d Γ h) fun Γ' h => Q (.nx Γ') h := by
  unfold sAsg
  simp only [wp_bnd, wp_ite, wp_pur, wp_ok]
end
section
variable {Γ : Env} {h : PH} {Q : Env → PH → Prop} {d : D}
@[simp] theorem wp_tgName {i : Nat} : wp (tgName i d Γ h) Q = Q (Γ.set i (some d)) h := rfl
@[simp] theorem wp_tgNil : wp (tgNil [] Γ h) Q = Q Γ h := rfl
@[simp] theorem wp_tgCons {a : GM} {b : List D → Env → M Env} {r : List D} : wp (tgCons a b (d :: r) Γ h) Q = wp (a d Γ h) fun Γ' h => wp (b r Γ' h) Q := by
  unfold tgCons
  simp only [wp_bnd, wp_ite, wp_pur, wp_ok]
@[simp] theorem wp_tgTup {n : Nat} {b : List D → Env → M Env} {xs : List D} : wp (tgTup n b (.tup xs) Γ h) Q = (xs.length = n ∧ wp (b xs Γ h) Q) := by
  unfold tgTup seqD
  by_cases e : xs.length = n <;> simp [e]
@[simp] theorem wp_tgTupL {n : Nat} {b : List D → Env → M Env} {xs : List D} : wp (tgTup n b (.lst xs) Γ h) Q = (xs.length = n ∧ wp (b xs Γ h) Q) := by
  unfold tgTup seqD
  by_cases e : xs.length = n <;> simp [e]
@[simp] theorem wp_tgFld {C f : Str} {o : EM} : wp (tgFld C f o d Γ h) Q = wp (o Γ h) fun x h => (match putO C f d x h with
  | some h' => Q Γ h'
  | none => False) := by
  unfold tgFld
  simp only [wp_bnd, wp_ite, wp_pur, wp_ok]
  congr
  funext x h
  rw [wp_putFld]
@[simp] theorem wp_tgSub {o i : EM} : wp (tgSub o i d Γ h) Q = wp (o Γ h) fun x h => wp (i Γ h) fun y h => wp (setIx x y d h) fun _ h => Q Γ h := by
  unfold tgSub
  simp only [wp_bnd, wp_ite, wp_pur, wp_ok]
theorem wp_setRef {n : Nat} {i : D} {Q : Unit → PH → Prop} : wp (setIx (.ref n) i d h) Q = (match h[n]? with
  | some (.lst xs) => (match i with
    | .int k => (match ixN xs.length k with
      | some j => Q () (h.set n (.lst (xs.set j d)))
      | none => False)
    | _ => False)
  | some (.dct kvs) => (match keyD i with
    | some k => kvs.length < 16777216 ∧ Q () (h.set n (.dct (putD_ kvs k d)))
    | none => False)
  | _ => False) := by
  unfold setIx
  simp only
  cases h[n]? with
  | none => rfl
  | some o =>
    cases o with
    | lst xs =>
      cases i with
      | int k =>
        simp only
        cases ixN xs.length k <;> rfl
      | _ => rfl
    | dct kvs =>
      simp only
      cases keyD i with
      | none => rfl
      | some k =>
        simp only
        by_cases e : kvs.length < 16777216 <;> simp [e]
    | _ => rfl
theorem wp_setL {n : Nat} {xs : List D} {k j : Nat} {Q : Unit → PH → Prop} (e : h[n]? = some (.lst xs)) (q : ixN xs.length (k : Int) = some j) : wp (setIx (.ref n) (.int k) d h) Q = Q () (h.set n (.lst (xs.set j d))) := by
  unfold setIx
  simp only [e, q]
  rfl
theorem wp_setK {n : Nat} {kvs : List (Key × D)} {k : Key} {i : D} {Q : Unit → PH → Prop} (e : h[n]? = some (.dct kvs)) (hk : keyD i = some k) (hl : kvs.length < 16777216) : wp (setIx (.ref n) i d h) Q = Q () (h.set n (.dct (putD_ kvs k d))) := by
  unfold setIx
  simp only [e, hk, if_pos hl]
  rfl
end
/-! ### a def -/
@[simp] theorem wp_fnM {n m : Nat} {b : SM} {ds : List D} {h : PH} {Q : D → PH → Prop} : wp (fnM n m b ds h) Q = wp (b (ds.map some ++ List.replicate (m - n) none) h) fun f h => (match f with
  | .nx _ => Q .non h
  | .rt d => Q d h) := by
  unfold fnM
  simp only [wp_bnd, wp_ite, wp_pur, wp_ok]
  congr
  funext f h
  cases f <;> rfl
/-! ### loops -/
section
variable {h : PH} {Q : Fl → PH → Prop}
theorem wp_loopV {b : D → Env → M Fl} (I : List D → Env → PH → Prop) (hs : ∀ x r Γ h, I (x :: r) Γ h → wp (b x Γ h) fun f h' => match f with
    | .nx Γ' => I r Γ' h'
    | .rt d => Q (.rt d) h') (he : ∀ Γ h, I [] Γ h → Q (.nx Γ) h) : ∀ (xs : List D) (Γ : Env) (h : PH), I xs Γ h → wp (loopV b xs Γ h) Q
  | [], Γ, h, i => he Γ h i
  | x :: xs, Γ, h, i => by
    unfold loopV
    rw [wp_bnd]
    refine wp_mono (hs x xs Γ h i) fun f h' q => ?_
    cases f with
    | nx Γ' => exact wp_loopV I hs he xs Γ' h' q
    | rt d => exact q
theorem wp_loopR {b : D → Env → M Fl} {n : Nat} {xs : List D} (I : Nat → Env → PH → Prop) (hn : ∀ i Γ h, I i Γ h → h[n]? = some (.lst xs)) (hs : ∀ i x Γ h, I i Γ h → xs[i]? = some x → wp (b x Γ h) fun f h' => match f with
    | .nx Γ' => I (i + 1) Γ' h'
    | .rt d => Q (.rt d) h') (he : ∀ Γ h, I xs.length Γ h → Q (.nx Γ) h) : ∀ (fuel i : Nat) (Γ : Env) (h : PH), i ≤ xs.length → xs.length ≤ i + fuel → I i Γ h → wp (loopR b n fuel i Γ h) Q
  | fuel, i, Γ, h, hi, hf, q => by
    unfold loopR
    simp only [hn i Γ h q]
    cases e : xs[i]? with
    | none =>
      have : i = xs.length := by
        have := List.getElem?_eq_none_iff.mp e
        omega
      subst this
      exact he Γ h q
    | some x =>
      have hl : i < xs.length := (List.getElem?_eq_some_iff.mp e).1
      cases fuel with
      | zero => omega
      | succ fuel =>
        simp only [wp_bnd]
        refine wp_mono (hs i x Γ h q e) fun f h' q' => ?_
        cases f with
        | nx Γ' => exact wp_loopR I hn hs he fuel (i + 1) Γ' h' hl (by omega) q'
        | rt d => exact q'
theorem wp_loopW {c : TM} {b : SM} (I : Nat → Env → PH → Prop) (hs : ∀ n Γ h, I n Γ h → wp (c Γ h) fun k h1 => if k = true then ∃ n', n = n' + 1 ∧ wp (b Γ h1) (fun f h' => match f with
    | .nx Γ' => I n' Γ' h'
    | .rt d => Q (.rt d) h') else Q (.nx Γ) h1) : ∀ (fuel n : Nat) (Γ : Env) (h : PH), n ≤ fuel → I n Γ h → wp (loopW c b fuel Γ h) Q
  | fuel, n, Γ, h, hf, q => by
    unfold loopW
    rw [wp_bnd]
    refine wp_mono (hs n Γ h q) fun k h1 q1 => ?_
    cases k with
    | false => exact q1
    | true =>
      simp only [if_true] at q1 ⊢
      obtain ⟨n', rfl, q2⟩ := q1
      cases fuel with
      | zero => omega
      | succ fuel =>
        simp only [wp_bnd]
        refine wp_mono q2 fun f h' q' => ?_
        cases f with
        | nx Γ' => exact wp_loopW I hs fuel n' Γ' h' (by omega) q'
        | rt d => exact q'
theorem wp_forV {it : Env → M Itm} {tg : GM} {body : SM} {Γ : Env} {xs : List D} (e : ∀ Q, wp (it Γ h) Q = Q (.vals xs) h) : wp (sFor it tg body Γ h) Q = wp (loopV (fun x Γ => bnd (tg x Γ) body) xs Γ h) Q := by
  unfold sFor
  rw [wp_bnd, e]
theorem wp_forR {it : Env → M Itm} {tg : GM} {body : SM} {Γ : Env} {n : Nat} {xs : List D} (e : ∀ Q, wp (it Γ h) Q = Q (.ref n) h) (q : h[n]? = some (.lst xs)) : wp (sFor it tg body Γ h) Q = wp (loopR (fun x Γ => bnd (tg x Γ) body) n xs.length 0 Γ h) Q := by
  unfold sFor
  rw [wp_bnd, e]
  simp only [q]
@[simp] theorem wp_gIt {m : EM} {Γ : Env} {Q : Itm → PH → Prop} : wp (gIt m Γ h) Q = wp (m Γ h) fun d h => wp (itD d h) Q := by
  unfold gIt
  simp only [wp_bnd, wp_ite, wp_pur, wp_ok]
@[simp] theorem wp_lIt {m : LM} {Γ : Env} {Q : Itm → PH → Prop} : wp (lIt m Γ h) Q = wp (m Γ h) fun xs h => xs.length ≤ 16777216 ∧ Q (.vals xs) h := by
  unfold lIt
  simp only [wp_bnd, wp_ite, wp_pur, wp_ok]
  congr
  funext xs h
  by_cases e : xs.length ≤ 16777216 <;> simp [e]
theorem wp_itO {n : Nat} {xs : List D} {Q : Itm → PH → Prop} (e : h[n]? = some (.lst xs)) : wp (itD (.ref n) h) Q = Q (.ref n) h := by
  unfold itD
  simp only [e]
  rfl
@[simp] theorem wp_itL {xs : List D} {Q : Itm → PH → Prop} : wp (itD (.lst xs) h) Q = (xs.length ≤ 16777216 ∧ Q (.vals xs) h) := by
  unfold itD
  by_cases e : xs.length ≤ 16777216 <;> simp [e]
@[simp] theorem wp_itT {xs : List D} {Q : Itm → PH → Prop} : wp (itD (.tup xs) h) Q = (xs.length ≤ 16777216 ∧ Q (.vals xs) h) := by
  unfold itD
  by_cases e : xs.length ≤ 16777216 <;> simp [e]
@[simp] theorem wp_itR {xs : List Int} {Q : Itm → PH → Prop} : wp (itD (.rd xs) h) Q = Q (.vals (xs.map D.int)) h := rfl
theorem wp_rg1 {a : EM} {Γ : Env} {Q : Itm → PH → Prop} {j : Int} (e : ∀ Q, wp (a Γ h) Q = Q (.int j) h) (h1 : -4611686018427387904 ≤ j ∧ j ≤ 16777216) : wp (rg1 a Γ h) Q = Q (.vals (rngD 0 j.toNat)) h := by
  unfold rg1
  rw [wp_bnd, e]
  simp only [if_pos h1]
  rfl
theorem wp_rg2 {a b : EM} {Γ : Env} {Q : Itm → PH → Prop} {i j : Int} (e : ∀ Q, wp (a Γ h) Q = Q (.int i) h) (e2 : ∀ Q, wp (b Γ h) Q = Q (.int j) h) (h1 : -4611686018427387904 ≤ i ∧ i < 4611686018427387904 ∧ -4611686018427387904 ≤ j ∧ j < 4611686018427387904 ∧ j - i ≤ 16777216) : wp (rg2 a b Γ h) Q = Q (.vals (rngD i (j - i).toNat)) h := by
  unfold rg2
  rw [wp_bnd, e, wp_bnd, e2]
  simp only [if_pos h1]
  rfl
end
/-! ### comprehensions that change nothing -/
section
variable {h : PH}
theorem compV_pure {one : D → M (List D)} {g : D → List D} : ∀ {xs : List D}, (∀ x ∈ xs, one x h = .ok (g x) h) → compV one xs h = .ok (xs.flatMap g) h
  | [], _ => rfl
  | x :: xs, e => by
    unfold compV
    rw [bnd_ok (noX_ok (e x List.mem_cons_self)), bnd_ok (compV_pure fun y hy => e y (List.mem_cons_of_mem _ hy))]
    rfl
theorem compR_pure {one : D → M (List D)} {g : D → List D} {n : Nat} {xs : List D} (hn : h[n]? = some (.lst xs)) (e : ∀ x ∈ xs, one x h = .ok (g x) h) : ∀ (fuel i : Nat), xs.length ≤ i + fuel → compR one n fuel i h = .ok ((xs.drop i).flatMap g) h
  | fuel, i, hf => by
    unfold compR
    simp only [hn]
    cases q : xs[i]? with
    | none =>
      have := List.getElem?_eq_none_iff.mp q
      simp [List.drop_eq_nil_of_le this]
    | some x =>
      obtain ⟨hl, q1⟩ := List.getElem?_eq_some_iff.mp q
      cases fuel with
      | zero => omega
      | succ fuel =>
        simp only
        have hx : x ∈ xs := by rw [← q1]; exact List.getElem_mem hl
        rw [bnd_ok (noX_ok (e x hx)), bnd_ok (compR_pure hn e fuel (i + 1) (by omega)), List.drop_eq_getElem_cons hl, q1]
        rfl
theorem lComp_V {vs : List Nat} {it : Env → M Itm} {tg : GM} {tt : TM} {el : EM} {Γ : Env} {xs : List D} {g : D → List D} {Q : List D → PH → Prop} (ei : ∀ Q, wp (it Γ h) Q = Q (.vals xs) h) (e : ∀ x ∈ xs, ∀ Q, wp (oneC tg tt el (wipeE Γ vs) x h) Q = Q (g x) h) : wp (lComp vs it tg tt el Γ h) Q = Q (xs.flatMap g) h := by
  unfold lComp
  rw [wp_bnd, ei]
  show wp (compV _ xs h) Q = _
  rw [compV_pure (g := g) fun x hx => ?_]
  · rfl
  · have := e x hx (fun a h' => a = g x ∧ h' = h)
    obtain ⟨a, h', q, q1, q2⟩ := wp_eq.mp (this.mpr ⟨rfl, rfl⟩)
    rw [q, q1, q2]
theorem lComp_R {vs : List Nat} {it : Env → M Itm} {tg : GM} {tt : TM} {el : EM} {Γ : Env} {n : Nat} {xs : List D} {g : D → List D} {Q : List D → PH → Prop} (ei : ∀ Q, wp (it Γ h) Q = Q (.ref n) h) (hn : h[n]? = some (.lst xs)) (hl : xs.length ≤ 16777216) (e : ∀ x ∈ xs, ∀ Q, wp (oneC tg tt el (wipeE Γ vs) x h) Q = Q (g x) h) : wp (lComp vs it tg tt el Γ h) Q = Q (xs.flatMap g) h := by
  unfold lComp
  rw [wp_bnd, ei]
  simp only [hn, if_pos hl]
  rw [compR_pure (g := g) hn (fun x hx => ?_) xs.length 0 (by omega)]
  · rfl
  · have := e x hx (fun a h' => a = g x ∧ h' = h)
    obtain ⟨a, h', q, q1, q2⟩ := wp_eq.mp (this.mpr ⟨rfl, rfl⟩)
    rw [q, q1, q2]
@[simp] theorem wp_oneC {tg : GM} {tt : TM} {el : EM} {Γ : Env} {x : D} {Q : List D → PH → Prop} : wp (oneC tg tt el Γ x h) Q = wp (tg x Γ h) fun Γ2 h => wp (tt Γ2 h) fun k h => if k = true then wp (el Γ2 h) (fun y h => Q [y] h) else Q [] h := by
  unfold oneC
  simp only [wp_bnd, wp_ite, wp_pur]
@[simp] theorem wp_tTrue {Γ : Env} {Q : Bool → PH → Prop} : wp (tTrue Γ h) Q = Q true h := rfl
end
end Sw

set_option maxHeartbeats 2000000
/-! Sw, part Q: enumerate of a tuple; pairs at each turn. -/
namespace Sw
open PySem PySem.Spec L2
theorem meets_enumB {v : Value} {ob : Obj} {HH : Heap → Prop} (Bg : Begins v ob HH) :
    Meets (Builtin.«enumerate.__new__» ⟨[.type "enumerate", v], []⟩) (fun _ Rr s => HH s.heap ∧
      Rr (.ok (.ret (.ref (s.heap.push ob).objs.size))) { s with heap := (s.heap.push ob).push { cls := .type "enumerate", data := .fields #[.none, .bool false, .ref s.heap.objs.size, rawInt 0, .none, .none] } }) :=
  .of_wp fun prog w A Rr s hyp => by
    obtain ⟨hp, gg, dd, tt, os⟩ := s
    obtain ⟨hB, hyp⟩ := hyp
    have hs1 := sub_enumerate
    have go : ∀ {A' : Around} {EE : Value → Shared → Prop} {QQ : Value → Shared → Prop}, QQ (.ref hp.objs.size) ⟨hp.push ob, gg, dd, tt, os⟩ → wpAny (model prog w) A' (pyIter v) QQ EE ⟨hp, gg, dd, tt, os⟩ :=
      fun q => Bg.iter prog w _ _ ⟨hp, gg, dd, tt, os⟩ _ hB q
    wp_walk using go
    refine wpAny_stack_any fun st => wpAny_pure ?_
    split
    · rename_i cc _ _ _ _ _
      cases (cc == Value.type "enumerate") <;> (wp_walk using go; exact ⟨_, rfl, hyp⟩)
    · wp_walk using go
      exact ⟨_, rfl, hyp⟩
section
variable {prog : Program} {w : World} {A : Around} {E : Value → Shared → Prop} {s : Shared}
theorem call_enumB {v : Value} {ob : Obj} {HH : Heap → Prop} {Qq : Value → Shared → Prop} (Bg : Begins v ob HH) (h1 : HH s.heap)
    (k : ∀ h', IsEnum h' (s.heap.objs.size + 1) s.heap.objs.size 0 .none → h'.get? s.heap.objs.size = some ob → h'.objs.size = s.heap.objs.size + 2 →
      (∀ b o, s.heap.get? b = some o → h'.get? b = some o) → Qq (.ref (s.heap.objs.size + 1)) { s with heap := h' }) :
    wpAny (model prog w) A (PySem.call (.type "enumerate") [v]) Qq E s := by
  refine callType_new F.called_enumerate (by decide) (F.typeCall_enumerate_1 _) (F.newCall_enumerate_1 _) (fun obj => F.args_object_init_2 obj _) F.entry_enumerate_new (meets_enumB Bg) ⟨h1, ?_⟩
  have size1 : (s.heap.push ob).objs.size = s.heap.objs.size + 1 := Heap.size_push ..
  show _ ∧ _
  rw [size1]
  have isE : IsEnum ((s.heap.push ob).push { cls := .type "enumerate", data := .fields #[.none, .bool false, .ref s.heap.objs.size, rawInt 0, .none, .none] }) (s.heap.objs.size + 1) s.heap.objs.size 0 .none := by
    have z := Heap.get?_push_size (s.heap.push ob) (o := { cls := .type "enumerate", data := .fields #[.none, .bool false, .ref s.heap.objs.size, rawInt 0, .none, .none] }) rfl
    rw [size1] at z
    exact z
  exact ⟨⟨_, isE, rfl⟩, k _ isE (Heap.get?_push_of_some _ (Heap.get?_push_size _ Bg.free)) (by rw [Heap.size_push, size1]) fun b o x => Heap.get?_push_of_some _ (Heap.get?_push_of_some _ x)⟩
end
/-- the tuple at a as it stands, its items in new pairs -/
def IteT (K : PySem.W.Frag) (a : Addr) : It :=
  ⟨fun i H => ∃ (ys : List V) (y : V), SqT K H a ys ∧ ys[i]? = some y,
    fun i H v H' => ∃ T y, v = .ref T ∧ H T = none ∧ H' = upd H T (.tup [.int (i : Nat), y]) ∧ ∀ ys, SqT K H a ys → ys[i]? = some y,
    fun i H => ∃ ys : List V, SqT K H a ys ∧ ys.length ≤ i⟩
theorem turn_enumT {P : Program} {w : World} {K : PySem.W.Frag} {elts : List Expr} {kk : Nat} {tpos : Pos} (a e it : Addr) (ane : a ≠ it) :
    Turn P w K (.Tuple elts kk tpos) (IteT K a) [e, it] e (fun i h => (∃ old, IsEnum h e it ((i : Nat) : Int) old) ∧ h.IsTupleIter it a i ∧ e ≠ it ∧ a ≠ e) where
  mem := by simp
  obj := fun i h st b hb => by
    obtain ⟨⟨old, he⟩, ⟨o, ho, hc, hd⟩, _⟩ := st
    rcases (show b = e ∨ b = it by simpa using hb) with rfl | rfl
    · exact ⟨_, he, fun v q => nomatch q⟩
    · exact ⟨o, ho, fun v q => by rw [hd] at q; cases q⟩
  keep := fun i h h' st k => by
    obtain ⟨⟨old, he⟩, hi, hne, hae⟩ := st
    exact ⟨⟨old, k e (by simp) _ he⟩, hi.at fun o q => k it (by simp) o q, hne, hae⟩
  item := by
    intro X hP hw hK hc i pins s σ H E I hf st hg
    subst hP hw hK
    obtain ⟨⟨old, he⟩, hit, hne, hae⟩ := st
    obtain ⟨ys, y, hq, hy⟩ := hg
    obtain ⟨its, rv, p, hz⟩ := I.tuple hq
    obtain ⟨u, hu, ru⟩ := rv.get hy
    have sz1 : e < s.heap.objs.size := Heap.lt_size he
    have pT : s.heap.IsTuple a its.toArray := p
    have il : i < its.toArray.size := by
      have := (List.getElem?_eq_some_iff.mp hu).1
      simpa using this
    refine wpAny_pyNext_enum_itemD (Draws.tuple (A := X.A.in1) (show X.A.in1.handled = none from I.ok.hd hc) it a ane its.toArray) he ⟨hit, pT⟩ il hne (by simp [hne, Ne.symm hae]) fun x h' tk hx ho hst hT hsz hk => ?_
    have tieT : h'.IsTupleIter it a (i + 1) := hst.1
    have ex : x = u := by
      have : its[i]? = some x := by simpa using hx
      rw [hu] at this
      cases this
      rfl
    subst ex
    refine ⟨_, rfl, wpAny_letOwnedTupleGo_enum (s := { s with heap := h', toks := tk + 1 }) ho fun h2 he2 sb => ?_⟩
    have hT2 : h2.get? s.heap.objs.size = some { cls := .type "tuple", data := .seq #[.int i tk, x] } := (sb.2 _ (Nat.ne_of_gt sz1)).trans hT
    have fresh := I.hok.fresh (Nat.le_refl s.heap.objs.size)
    have pairOk : ObjOk X.prog X.w (upd H s.heap.objs.size (.tup [.int (i : Nat), y])) h2 s.heap.objs.size (.tup [.int (i : Nat), y]) :=
      ⟨by show 2 ≤ sizeLine; decide, [.int i tk, x], .cons ⟨_, rfl⟩ (.cons ru .nil), ⟨_, hT2, rfl, _, rfl⟩⟩
    have I2 : Inv X pins σ (upd H s.heap.objs.size (.tup [.int (i : Nat), y])) { s with heap := h2, toks := tk + 1 } :=
      I.turnedNew (ch := [e, it]) (fun b ob hb q => (sb.2 b (fun z => hb (by simp [z]))).trans (hk b ob (fun z => hb (by simp [z])) (fun z => hb (by simp [z])) q)) hf (Nat.le_refl _) pairOk
    refine ⟨.ref s.heap.objs.size, _, I2, rfl, ⟨_, y, rfl, fresh, rfl, fun zs hz => by rw [I.tuple_inj hz hq]; exact hy⟩, ⟨⟨x, ?_⟩, tieT.at fun o q => (sb.2 it (Ne.symm hne)).trans q, hne, hae⟩, fun b hb => ?_⟩
    · rw [show ((i + 1 : Nat) : Int) = (i : Int) + 1 by omega]
      exact he2
    · have lt2 : b < s.heap.objs.size := by
        rcases (show b = e ∨ b = it by simpa using hb) with rfl | rfl
        · exact sz1
        · obtain ⟨_, q, _⟩ := hit
          exact Heap.lt_size q
      rw [upd_ne (Nat.ne_of_lt lt2)]
      exact (hf b hb).1
  done := by
    intro X hP hw hK hc i pins s σ H E I hf st hg
    subst hP hw hK
    obtain ⟨⟨old, he⟩, hit, hne, hae⟩ := st
    obtain ⟨ys, hq, hy⟩ := hg
    obtain ⟨its, rv, p, hz⟩ := I.tuple hq
    obtain ⟨f0, f1, f2, f3, f4, f5⟩ := hf it (by simp)
    have hl := rv.length
    have pT : s.heap.IsTuple a its.toArray := p
    have no : its.toArray[i]? = none := by simp; omega
    have Dr : Draws X.prog X.w X.A.in1 it [it, a] i (fun _ _ => True) (fun j h => j = i ∧ h.IsTupleIter it a i ∧ h.IsTuple a its.toArray) :=
      { live := fun _ _ st => by
          obtain ⟨_, ⟨o, ho, _⟩, _⟩ := st
          exact ⟨o, ho⟩
        frame := fun _ _ _ st hk => ⟨st.1, st.2.1.at fun o e => hk it (by simp) o e, st.2.2.at fun o e => hk a (by simp) o e⟩
        item := fun j s Q E hi st hQ => absurd st.1 (by omega)
        done := fun s Q E st hE => wpAny_nextOf_tuple_end (show X.A.in1.handled = none from I.ok.hd hc) st.2.1 st.2.2 no hE }
    exact wpAny_pyNext_enum_endD Dr he ⟨rfl, hit, pT⟩ fun h' eb => ⟨rfl, I.turned (t' := s.toks) (fun b o hb e => eb b o hb e) f0 f1 f3 f4 f5⟩
  self := fun A i s Q E st h => let ⟨⟨_, he⟩, _⟩ := st; wpAny_pyIter_enum he h

def iEnumT (K : PySem.W.Frag) (ta : TA) : TI := fun σ H R => ta σ H fun vs H1 => ∃ a xs, vs = [.ref a] ∧ SqT K H1 a xs ∧ R (IteT K a) H1
theorem pi_enumT {X : Cx} {e : Expr} {ta : TA} {p pos tpos : Pos} {elts : List Expr} {kk : Nat} (hg : Gl X "enumerate") (hm : X.mg "enumerate" = none) (ha : PA X [e] ta) (hs : starEach [e] X.env = [(false, eval e X.env)]) :
    PI X (.Tuple elts kk tpos) (.Call (.Name "enumerate" p) [e] [] pos) (iEnumT X.K ta) := by
  refine ⟨fun pins s σ H Rr I hw => ?_⟩
  refine PyProof.Rows.Call_ (ld_blt I hg hm PyProof.Rows.boot_enumerate (PyProof.Rows.callWith_type1 (thn (ha.run pos pins s σ H _ I hw) fun us s1 ⟨vs, H1, I1, r1, q1⟩ => ?_) hs rfl))
  obtain ⟨a, xs, ex, hq, q⟩ := q1
  subst ex
  cases r1 with
  | cons r rr =>
    cases rr
    cases r
    obtain ⟨its, rv, p', hz⟩ := I1.tuple hq
    have pT : s1.heap.IsTuple a its.toArray := p'
    have alt : a < s1.heap.objs.size := by
      obtain ⟨o, ho, _⟩ := pT
      exact Heap.lt_size ho
    refine call_enumB (begins_tuple a its.toArray) pT fun h' he hit hsz hk => wpAny_pyIter_enum he ?_
    have I2 : Inv X pins σ H1 { s1 with heap := h' } := I1.kept (t' := s1.toks) hk
    refine ⟨s1.heap.objs.size + 1, [s1.heap.objs.size + 1, s1.heap.objs.size], _, _, H1, rfl, I2, turn_enumT a (s1.heap.objs.size + 1) s1.heap.objs.size (Nat.ne_of_lt alt), ⟨⟨.none, he⟩, ⟨_, hit, rfl, rfl⟩, Nat.succ_ne_self _, Nat.ne_of_lt (Nat.lt_succ_of_lt alt)⟩, fun b hb => ?_, q⟩
    have hle : s1.heap.objs.size ≤ b := by
      rcases (show b = s1.heap.objs.size + 1 ∨ b = s1.heap.objs.size by simpa using hb) with z | z
      · rw [z]
        exact Nat.le_succ _
      · rw [z]
        exact Nat.le_refl _
    exact I1.fpOk hle (I1.hok.fresh hle)
def enumD (xs : List D) : List D := xs.mapIdx fun i x => .tup [.int (i : Int), x]
theorem enumD_len {xs : List D} : (enumD xs).length = xs.length := by
  unfold enumD
  rw [List.length_mapIdx]
theorem enumD_get {xs : List D} {i : Nat} {d : D} (h : (enumD xs)[i]? = some d) : ∃ x, xs[i]? = some x ∧ d = .tup [.int (i : Int), x] := by
  unfold enumD at h
  rw [List.getElem?_mapIdx] at h
  cases e : xs[i]? with
  | none =>
    rw [e] at h
    cases h
  | some x =>
    rw [e] at h
    cases h
    exact ⟨x, rfl, rfl⟩
theorem isIt_enum {G : Wd} {a : Addr} {xs : List D} {vs : List V} (h : AtT G a vs) (r : Reps G xs vs) : IsIt G (enumD xs) (IteT G.K a) where
  go := fun G' i l hi => by
    have hv : i < vs.length := by
      rw [r.len]
      rw [enumD_len] at hi
      exact hi
    exact ⟨vs, vs[i], by rw [← l.K]; exact (h.le l).seq, List.getElem?_eq_getElem hv⟩
  stop := fun G' i l hi => ⟨vs, by rw [← l.K]; exact (h.le l).seq, by rw [r.len]; rw [enumD_len] at hi; exact hi⟩
  yld := fun G' h' i x H' d l k hd y => by
    obtain ⟨T, u, rfl, hT, rfl, q⟩ := y
    have e := q vs (by rw [← l.K]; exact (h.le l).seq)
    obtain ⟨x0, hx0, rfl⟩ := enumD_get hd
    obtain ⟨v, e1, e2⟩ := r.get hx0
    rw [e] at e1
    cases e1
    have rs : Reps G' [.int (i : Int), x0] [.int (i : Int), u] := .cons .of_int (.one (e2.le l))
    exact ⟨G'.lay T (.tup [.int (i : Int), u]), rfl, Wd.lay_to k hT, Wd.lay_ok k hT, rep_layT k hT (show 2 ≤ sizeLine by decide) rs⟩
def enT (a : EM) : Env → M Itm := fun Γ => bnd (a Γ) fun d => fun h => match d with
  | .tup xs => if xs.length ≤ 16777216 then .ok (.vals (enumD xs)) h else .bad
  | _ => .bad
variable {S : Sx} {O : List Nat}
theorem ri_enum {e : Expr} {m : EM} {elts : List Expr} {kk : Nat} {tpos p pos : Pos} (b : Bn S.T "enumerate" (.type "enumerate")) (he : RE S O e m) (g : gbB S.sc "enumerate" = true := by kernel_rfl) (hs : ∀ env, starEach [e] env = [(false, eval e env)] := by intros; rfl) :
    RI S O (.Tuple elts kk tpos) (.Call (.Name "enumerate" p) [e] [] pos) (enT m) := by
  obtain ⟨t, h1, h2⟩ := he.ex
  refine ⟨iEnumT S.K (tCons t tNil), fun X hX => ?_, fun B G h σ Γ Rr w q => ?_⟩
  · rw [← hX.K]
    exact pi_enumT ((gk g).gl hX) (by rw [hX.mg]; exact b.m) (pa_cons (h1 X hX) pa_nil (hs _)) (hs _)
  · unfold enT at q
    refine h2 B G h σ Γ _ w (q.bnd.mono fun d h1 G1 t1 k1 p1 v r => ?_)
    cases d with
    | tup xs =>
      simp only at p1
      by_cases hl : xs.length ≤ 16777216
      · rw [if_pos hl] at p1
        obtain ⟨a, vs, rfl, q1, q2⟩ := r.tup_inv
        rw [← (w.to t1 k1).K]
        refine ⟨a, vs, rfl, q1.seq, p1 G1 (.refl G1) k1 _ ⟨isIt_enum q1 q2, ?_⟩⟩
        rw [enumD_len]
        exact hl
      · rw [if_neg hl] at p1
        exact p1.elim
    | _ => exact p1.elim
/-! zip of two tuples -/
def zipD (xs ys : List D) : List D := List.zipWith (fun x y => .tup [x, y]) xs ys
theorem isIt_zip {G : Wd} {a b : Addr} {xs ys : List D} {vs us : List V} (h : AtT G a vs) (r : Reps G xs vs) (h2 : AtT G b us) (r2 : Reps G ys us) : IsIt G (zipD xs ys) (RZ.ItzT G.K a b) where
  go := fun G' i l hi => by
    unfold zipD at hi
    rw [List.length_zipWith] at hi
    have hv : i < vs.length := by
      rw [r.len]
      omega
    have hu : i < us.length := by
      rw [r2.len]
      omega
    exact ⟨vs, us, vs[i], us[i], by rw [← l.K]; exact (h.le l).seq, by rw [← l.K]; exact (h2.le l).seq, List.getElem?_eq_getElem hv, List.getElem?_eq_getElem hu⟩
  stop := fun G' i l hi => by
    unfold zipD at hi
    rw [List.length_zipWith] at hi
    exact ⟨vs, us, by rw [← l.K]; exact (h.le l).seq, by rw [← l.K]; exact (h2.le l).seq, by rw [r.len, r2.len]; omega⟩
  yld := fun G' h' i x H' d l k hd y => by
    obtain ⟨T, u, w, rfl, hT, rfl, q, q'⟩ := y
    have e := q vs (by rw [← l.K]; exact (h.le l).seq)
    have e' := q' us (by rw [← l.K]; exact (h2.le l).seq)
    unfold zipD at hd
    rw [List.getElem?_zipWith] at hd
    cases c1 : xs[i]? with
    | none =>
      rw [c1] at hd
      cases hd
    | some x0 =>
      cases c2 : ys[i]? with
      | none =>
        rw [c1, c2] at hd
        cases hd
      | some y0 =>
        rw [c1, c2] at hd
        cases hd
        obtain ⟨v, e1, e2⟩ := r.get c1
        obtain ⟨v', e1', e2'⟩ := r2.get c2
        rw [e] at e1
        cases e1
        rw [e'] at e1'
        cases e1'
        have rs : Reps G' [x0, y0] [u, w] := .cons (e2.le l) (.one (e2'.le l))
        exact ⟨G'.lay T (.tup [u, w]), rfl, Wd.lay_to k hT, Wd.lay_ok k hT, rep_layT k hT (show 2 ≤ sizeLine by decide) rs⟩
def zpT (a b : EM) : Env → M Itm := fun Γ => bnd (a Γ) fun d => bnd (b Γ) fun e => fun h => match d, e with
  | .tup xs, .tup ys => if xs.length ≤ 16777216 then .ok (.vals (zipD xs ys)) h else .bad
  | _, _ => .bad
theorem ri_zip {e f : Expr} {m m' : EM} {elts : List Expr} {kk : Nat} {tpos p pos : Pos} (b : Bn S.T "zip" (.type "zip")) (he : RE S O e m) (hf : RE S O f m') (g : gbB S.sc "zip" = true := by kernel_rfl) (hs : ∀ env, starEach [e, f] env = (false, eval e env) :: starEach [f] env := by intros; rfl) (hs2 : ∀ env, starEach [f] env = (false, eval f env) :: starEach [] env := by intros; rfl) (hpl : ∀ env, (backTo pos (starEach [f] env)).any (·.1) = false := by intros; rfl) :
    RI S O (.Tuple elts kk tpos) (.Call (.Name "zip" p) [e, f] [] pos) (zpT m m') := by
  obtain ⟨t, h1, h2⟩ := he.ex
  obtain ⟨t', h1', h2'⟩ := hf.ex
  refine ⟨RZ.iZipA S.K (tCons t (tCons t' tNil)), fun X hX => ?_, fun B G h σ Γ Rr w q => ?_⟩
  · rw [← hX.K]
    exact RZ.pi_zipA ((gk g).gl hX) (by rw [hX.mg]; exact b.m) (pa_cons (h1 X hX) (pa_cons (h1' X hX) pa_nil (hs2 _)) (hs _)) (hs _) (hpl _)
  · unfold zpT at q
    refine h2 B G h σ Γ _ w (q.bnd.mono fun d h1 G1 t1 k1 p1 v r => ?_)
    have w1 := w.to t1 k1
    refine h2' B G1 h1 σ Γ _ w1 (p1.bnd.mono fun d2 h2 G2 t2 k2 p2 v2 r2 => ?_)
    have w2 := w1.to t2 k2
    cases d with
    | tup xs =>
      cases d2 with
      | tup ys =>
        simp only at p2
        by_cases hl : xs.length ≤ 16777216
        · rw [if_pos hl] at p2
          obtain ⟨a, vs, rfl, q1, q2⟩ := (r.le t2.le).tup_inv
          obtain ⟨a', vs', rfl, q1', q2'⟩ := r2.tup_inv
          rw [← w2.K]
          refine ⟨a, a', vs, vs', rfl, .inr ⟨q1.seq, q1'.seq, p2 G2 (.refl G2) k2 _ ⟨isIt_zip q1 q2 q1' q2', ?_⟩⟩⟩
          unfold zipD
          rw [List.length_zipWith]
          omega
        · rw [if_neg hl] at p2
          exact p2.elim
      | _ => exact p2.elim
    | _ => exact p2.elim
end Sw

set_option maxHeartbeats 1000000
/-! Sw, part R: isinstance(x, (tuple, list)), x or y by truth, sorted, min. -/
namespace Sw
open PySem PySem.Spec L2
variable {S : Sx} {O : List Nat}
def isTL (d : D) : M D := fun h => match d with
  | .non => .ok (.bl false) h
  | .bl _ => .ok (.bl false) h
  | .int _ => .ok (.bl false) h
  | .str _ => .ok (.bl false) h
  | .tup _ => .ok (.bl true) h
  | .lst _ => .ok (.bl true) h
  | .rd _ => .ok (.bl true) h
  | .ref n => (match h[n]? with
    | some (.lst _) => .ok (.bl true) h
    | some (.dct _) => .ok (.bl false) h
    | some (.dtu _) => .ok (.bl false) h
    | _ => .bad)
  | .clo _ _ => .bad
theorem rep_isTL {G : Wd} {h : PH} {x : V} {d : D} {Z : D → PH → Wd → Prop} (k : G.Ok h) (r : BRep G d x) (p : Pst S G (isTL d h) Z) :
    ∃ t b1 b2, TyX G.K G.H x (.type t) ∧ kitB t "tuple" = some b1 ∧ kitB t "list" = some b2 ∧ Pst S G (.ok (.bl (b1 || b2)) h : R D) Z := by
  have it := ist_tuple
  have il := ist_list
  cases d with
  | non => exact ⟨_, _, _, by rw [r.non_inv]; exact .base .non, it.a, il.a, p⟩
  | bl b => exact ⟨_, _, _, by rw [r.bl_inv]; exact .base (.bl b), it.b, il.b, p⟩
  | int b => exact ⟨_, _, _, by rw [r.int_inv]; exact .base (.int b), it.i, il.i, p⟩
  | str b => exact ⟨_, _, _, by rw [r.str_inv.1]; exact .base (.str b), it.s, il.s, p⟩
  | tup b =>
    obtain ⟨a, vs, rfl, h1, _⟩ := r.tup_inv
    exact ⟨_, _, _, h1.ty, it.t, il.t, p⟩
  | lst b =>
    rcases r with r | ⟨xs, a, vs, e, rfl, h1, h2, _⟩
    · obtain ⟨a, vs, rfl, h1, _⟩ := r.lst_inv
      exact ⟨_, _, _, .base (.lst h1.1), it.l, il.l, p⟩
    · exact ⟨_, _, _, .base (.lst h2), it.l, il.l, p⟩
  | rd b =>
    obtain ⟨a, rfl, h1⟩ := r.rd_inv
    exact ⟨_, _, _, h1.ty, it.l, il.l, p⟩
  | ref n =>
    obtain ⟨a, h1, rfl⟩ := r.ref_inv
    obtain ⟨o, h2, h3⟩ := k.at h1
    unfold isTL at p
    simp only [h2] at p
    cases o with
    | lst xs =>
      obtain ⟨vs, q1, _⟩ := h3
      exact ⟨_, _, _, .base (.lst q1), it.l, il.l, p⟩
    | dct xs =>
      obtain ⟨vs, q1, _⟩ := h3
      exact ⟨_, _, _, .base (.dK q1), it.d, il.d, p⟩
    | dtu xs =>
      obtain ⟨vs, q1, _⟩ := h3
      exact ⟨_, _, _, .base (.dT q1), it.d, il.d, p⟩
    | ins C fs => exact p.elim
  | clo _ _ => exact p.elim
theorem kitTL {K : PySem.W.Frag} {t : String} {b1 b2 : Bool} (h1 : kitB t "tuple" = some b1) (h2 : kitB t "list" = some b2) : PySem.W.kitAny K (.type t) [.type "tuple", .type "list"] = some (b1 || b2) := by
  have e1 := kit_ty (K := K) h1
  have e2 := kit_ty (K := K) h2
  unfold PySem.W.kitAny
  rw [e1]
  cases b1 with
  | true => rfl
  | false =>
    simp only
    unfold PySem.W.kitAny
    rw [e2]
    cases b2 <;> rfl
theorem isi2 {x : Str} {e : Expr} {m : EM} {p p1 p2 pt pos : Pos} {kk : Nat} (b : Bn S.T x (.builtin "isinstance")) (bt : Bn S.T "tuple" (.type "tuple")) (bl : Bn S.T "list" (.type "list")) (h : RB S O e m) (g : gbB S.sc x = true := by kernel_rfl) (g1 : gbB S.sc "tuple" = true := by kernel_rfl) (g2 : gbB S.sc "list" = true := by kernel_rfl)
    (hst : ∀ env, starEach [e, .Tuple [.Name "tuple" p1, .Name "list" p2] kk pt] env = (false, eval e env) :: starEach [.Tuple [.Name "tuple" p1, .Name "list" p2] kk pt] env := by intros; rfl)
    (hs1 : ∀ env, starEach [.Tuple [.Name "tuple" p1, .Name "list" p2] kk pt] env = (false, eval (.Tuple [.Name "tuple" p1, .Name "list" p2] kk pt) env) :: starEach [] env := by intros; rfl)
    (hs2 : ∀ env, starEach [.Name "tuple" p1, .Name "list" p2] env = (false, eval (.Name "tuple" p1) env) :: starEach [.Name "list" p2] env := by intros; rfl)
    (hs3 : ∀ env, starEach [.Name "list" p2] env = (false, eval (.Name "list" p2) env) :: starEach [] env := by intros; rfl)
    (hpl : ∀ env, (backTo pos (starEach [.Tuple [.Name "tuple" p1, .Name "list" p2] kk pt] env)).any (·.1) = false := by intros; rfl) :
    RE S O (.Call (.Name x p) [e, .Tuple [.Name "tuple" p1, .Name "list" p2] kk pt] [] pos) (Sw.g1 isTL m) := by
  obtain ⟨t, h1, h2⟩ := h.ex
  have bx := b.f (gk g)
  have bT := bt.t (gk g1)
  have bL := bl.t (gk g2)
  refine ⟨tCB (rIsiT S.K) (tCons t (tCons (tTup (tCons (tC (.ty "tuple")) (tCons (tC (.ty "list")) tNil))) tNil)), fun X hX => ?_, fun B G h0 σ Γ Q w q => ?_⟩
  · refine pe_callB (by rw [← hX.K]; exact call_isiT) (bx.g.gl hX) (by rw [hX.mg]; exact bx.m) bx.v ?_ bx.n1 bx.n2 (hst _) (hpl _)
    exact pa_cons (h1 X hX) (pa_cons (pe_tup (pa_cons (pe_bltn (bT.g.gl hX) (by rw [hX.mg]; exact bT.m) bT.v (show RelV (.ty "tuple") (.type "tuple") from rfl) bT.n1 bT.n2)
      (pa_cons (pe_bltn (bL.g.gl hX) (by rw [hX.mg]; exact bL.m) bL.v (show RelV (.ty "list") (.type "list") from rfl) bL.n1 bL.n2) pa_nil (hs3 _)) (hs2 _))) pa_nil (hs1 _)) (hst _)
  · unfold Sw.g1 at q
    refine h2 B G h0 σ Γ _ w (q.bnd.mono fun d h1 G1 t1 k1 p1 v r => ?_)
    refine ⟨show 2 ≤ sizeLine by decide, fun T hT => ?_⟩
    have l1 := Wd.lay_to k1 (o := .tup [.ty "tuple", .ty "list"]) hT
    have k2 := Wd.lay_ok k1 (o := .tup [.ty "tuple", .ty "list"]) hT
    obtain ⟨tt, b1, b2, e1, e2, e3, e4⟩ := rep_isTL k2 (r.to l1) (p1.step l1)
    have w1 := w.to t1 k1
    rw [← w1.K]
    exact ⟨v, T, [.ty "tuple", .ty "list"], .type tt, [.type "tuple", .type "list"], b1 || b2, rfl, upd_same, .cons (.ty _) (.cons (.ty _) .nil), e1, kitTL e2 e3, e4 _ (.refl _) k2 _ .of_bl⟩
/-! x or y by truth -/
def truD (d : D) : Option Bool := match d with
  | .non => some false
  | .bl b => some b
  | .int i => some (i != 0)
  | .str z => if z.cps.size ≤ 16777216 then some ((z.length : Int) != 0) else none
  | _ => none
theorem truD_v {K : PySem.W.Frag} {G : Wd} {d : D} {v : V} {k : Bool} (r : Rep G d v) (e : truD d = some k) : TruV K v G.H k := by
  cases d with
  | non =>
    cases e
    rw [r.non_inv]
    rfl
  | bl b =>
    cases e
    rw [r.bl_inv]
    rfl
  | int i =>
    cases e
    rw [r.int_inv]
    rfl
  | str z =>
    unfold truD at e
    by_cases hz : z.cps.size ≤ 16777216
    · simp only [hz, if_true] at e
      cases e
      rw [r.str_inv.1]
      refine ⟨?_, rfl⟩
      rw [sizeLine_eq]
      exact hz
    · simp only [hz, if_false] at e
      cases e
  | _ => cases e
def gOrT (a b : EM) : EM := fun Γ => bnd (a Γ) fun d => fun h => match truD d with
  | some true => .ok d h
  | some false => b Γ h
  | none => .bad
theorem re_orT {a b : Expr} {rest : List Expr} {ma mb : EM} {pos : Pos} (ha : RE S O a ma) (hb : RE S O (.BoolOp .Or (b :: rest) pos) mb) : RE S O (.BoolOp .Or (a :: b :: rest) pos) (gOrT ma mb) := by
  obtain ⟨ta, a1, a2⟩ := ha.ex
  obtain ⟨tb, b1, b2⟩ := hb.ex
  refine ⟨tOrT S.K ta tb, fun X hX => by rw [← hX.K]; exact pe_orT (a1 X hX) (b1 X hX), fun B G h σ Γ Q w p => ?_⟩
  unfold gOrT at p
  refine a2 B G h σ Γ _ w (p.bnd.mono fun d h1 G1 t1 k1 p1 v r => ?_)
  cases e : truD d with
  | none =>
    simp only [e] at p1
    exact p1.elim
  | some k =>
    refine ⟨k, truD_v r e, ?_⟩
    simp only [e] at p1
    cases k with
    | true => exact p1 G1 (.refl G1) k1 v r
    | false =>
      have := b2 B G1 h1 σ Γ Q (w.to t1 k1) p1
      simpa using this
end Sw

set_option maxHeartbeats 1000000
/-! Sw, part S: the get of a module's dict of texts; constants that are tuples; the head's look at these; defs that call themselves. -/
namespace Sw
open PySem PySem.Spec L2
variable {S : Sx} {O : List Nat}
/-! ### a module's dict of texts -/
theorem find_tab : ∀ {l : List DictEntry} {tab : List (Str × Str)}, l.map kvOf = tab.map some → ∀ x : Str,
    match tab.lookup x with
    | some y => ∃ t e, l.find? (fun d => Value.isStrOf x d.key) = some e ∧ e.val = .str y t
    | none => l.find? (fun d => Value.isStrOf x d.key) = none
  | [], [], _, x => rfl
  | [], _ :: _, h, _ => by cases h
  | _ :: _, [], h, _ => by cases h
  | e :: r, (k, y) :: tab, h, x => by
    injection h with h1 h2
    have ih := find_tab h2 x
    unfold kvOf at h1
    split at h1
    · rename_i x' t y' t' e1 e2
      cases h1
      rw [List.lookup_cons]
      have ek : Value.isStrOf x e.key = (x == k) := by
        rw [e1]
        rw [← PySem.W.isStr_of]
        show (k == x) = (x == k)
        by_cases q : k = x
        · subst q
          rfl
        · have : ¬ x = k := fun z => q z.symm
          rw [beq_eq_false_iff_ne.mpr q, beq_eq_false_iff_ne.mpr this]
      rw [List.find?_cons, ek]
      cases q : (x == k) with
      | true => exact ⟨t', e, rfl, e2⟩
      | false => exact ih
    · cases h1
/-- the module's name x stands for a dict of these texts -/
structure KTab (T : Tx) (x : Str) (tab : List (Str × Str)) : Prop where
  ex : ∃ a es n, T.mg x = some (.ref a) ∧ L2.KDict T.K T.w a es n ∧ es.toList.map kvOf = tab.map some
  nd : (x == ("__debug__" : Str)) = false
  ok : tab.all (fun p => PyData.strOk p.2) = true
def dGet (tab : List (Str × Str)) (d : D) : M D := fun h => match d with
  | .str x => (match tab.lookup x with
    | some y => .ok (.str y) h
    | none => .ok .non h)
  | _ => .bad
theorem lookup_all {tab : List (Str × Str)} {p : Str → Bool} (h : tab.all (fun q => p q.2) = true) {x y : Str} (e : tab.lookup x = some y) : p y = true := by
  induction tab with
  | nil => cases e
  | cons q r ih =>
    obtain ⟨k, z⟩ := q
    rw [List.all_cons] at h
    obtain ⟨h1, h2⟩ := Bool.and_eq_true_iff.mp h
    rw [List.lookup_cons] at e
    cases c : (x == k) with
    | true =>
      rw [c] at e
      cases e
      exact h1
    | false =>
      rw [c] at e
      exact ih h2 e
theorem re_kget {x : Str} {tab : List (Str × Str)} {e : Expr} {m : EM} {p apos cpos : Pos} (kt : KTab S.T x tab) (he : RE S O e m) (g : gbB S.sc x = true := by kernel_rfl)
    (hbase : ∀ env, attributeBase (.Name x p) "get" env (eval (.Name x p) env) = eval (.Name x p) env := by intros; rfl)
    (hfew : ∀ env, ((backTo cpos (starEach [e] env)).all (fun x => !x.1) && (backToKw cpos (keywordEach [] env)).all (fun x => x.1.isSome)
      && decide (([e] : List Expr).length + ([] : List Keyword).length + (if ([] : List Keyword).isEmpty then 0 else 1) < 30)) = true := by intros; rfl)
    (hline : (apos.endLine == cpos.line) = true := by rfl) (htr : ∀ env, backTo cpos (starEach [e] env) = [(false, eval e env)] := by intros; rfl) :
    RE S O (.Call (.Attribute (.Name x p) "get" apos) [e] [] cpos) (Sw.g1 (dGet tab) m) := by
  obtain ⟨t, h1, h2⟩ := he.ex
  obtain ⟨a, es, n, hg, KD, htab⟩ := kt.ex
  refine ⟨fun σ H Q => t σ H fun y H1 => ∃ z : Str, y = .str z ∧ Q (match tab.lookup z with
    | some w => .str w
    | none => .non) H1, fun X hX => ⟨fun pins s σ H Q I hw => ?_⟩, fun B G h0 σ Γ Q w q => ?_⟩
  · have PN : PE X (.Name x p) (tC (.ref a)) := pe_glob ((gk g).gl hX) (by rw [hX.mg]; exact hg) rfl kt.nd
    refine wpAny_Call_method (hbase _) (hfew _) hline PySem.F.plainAttrs_dict PySem.F.slot_dict_get PySem.F.type_dict_get (thn (PN.run pins s σ H (fun v H' => v = .ref a ∧ t σ H' fun y H1 => ∃ z : Str, y = .str z ∧ Q (match tab.lookup z with
      | some w => .str w
      | none => .non) H1) I ⟨rfl, hw⟩) fun u s1 ⟨v, H1, I1, rx, ex, q1⟩ => ?_)
    subst ex
    obtain rfl : u = Value.ref a := rx
    have KD' : L2.KDict X.K X.w a es n := by
      rw [hX.K, hX.w]
      exact KD
    have mo : s1.heap.MapOf (strKind X.prog X.w) a (fun k => findBy Value.isStrOf es k) := PySem.W.mapOf_K I1.kIn KD'.at_ KD'.lit
    refine ⟨mo.typeIs, fun b qb => ?_, ?_⟩
    · cases qb
      exact ⟨_, I1.kIn _ _ KD'.at_, rfl⟩
    · rw [htr]
      refine Calls.callWith_builtin rfl (Calls.evalArgs_plain (Calls.spliced_cons (thn ((h1 X hX).run pins s1 σ H1 _ I1 q1) fun iv s2 ⟨y, H2, I2, ry, z, ez, q2⟩ => Calls.spliced_nil ?_)))
      subst ez
      obtain ⟨tk, rfl⟩ := (show ∃ tk, iv = Value.str z tk from ry)
      have mo2 : s2.heap.MapOf (strKind X.prog X.w) a (fun k => findBy Value.isStrOf es k) := PySem.W.mapOf_K I2.kIn KD'.at_ KD'.lit
      refine call_meetsIn PySem.F.slot_dict_get mo2.typeIs PySem.F.entry_dict_get (PySem.F.args_dict_get_2 _ _) (meets_dict_get (strKind X.prog X.w) a (strKind_is X.prog X.w z tk) KD'.low) ⟨_, mo2, ?_⟩
      have ft := find_tab htab z
      have fb : findBy Value.isStrOf es z = (es.toList.find? fun d => Value.isStrOf z d.key).map (·.val) := by
        obtain ⟨l⟩ := es
        unfold findBy
        rw [List.find?_toArray]
      have res : ∃ r : V, r = (match tab.lookup z with
          | some w => .str w
          | none => .non) ∧ RelV r ((findBy Value.isStrOf es z).getD .none) := by
        rw [fb]
        cases e : tab.lookup z with
        | none =>
          rw [e] at ft
          simp only at ft
          rw [ft]
          exact ⟨_, rfl, rfl⟩
        | some y =>
          rw [e] at ft
          obtain ⟨t', e', f1, f2⟩ := ft
          rw [f1]
          refine ⟨_, rfl, t', ?_⟩
          show e'.val = _
          exact f2
      obtain ⟨r, er, rr⟩ := res
      exact ⟨r, H2, I2.tok _, rr, by rw [er]; exact q2⟩
  · unfold Sw.g1 at q
    refine h2 B G h0 σ Γ _ w (q.bnd.mono fun d h1 G1 t1 k1 p1 v r => ?_)
    unfold dGet at p1
    cases d with
    | str z =>
      refine ⟨z, r.str_inv.1, ?_⟩
      simp only at p1
      cases e : tab.lookup z with
      | none =>
        simp only [e] at p1 ⊢
        exact p1 G1 (.refl G1) k1 _ .of_non
      | some y =>
        simp only [e] at p1 ⊢
        exact p1 G1 (.refl G1) k1 _ (by unfold Rep; exact ⟨rfl, lookup_all kt.ok e⟩)
    | _ => exact p1.elim

/-! ### the head: tables, tuples -/
section
variable {P : Program} {w : World} {K : PySem.W.Frag} {mg : Str → Option Value} {base h : Heap} {fa : List He.Fa} {fn : List He.DefD} {ts : List He.Tab} {ck : PySem.W.Frag → Bool}
theorem SaysZ.d (c : SaysZ fa fn ts ck w K) : He.SaysD fa fn K := c.t.d
theorem ktab_of {x : Str} {tab : List (Str × Str)} {ks : List Str} (X : K.In h) (G : h.Ns mainGlobals mg) (c : SaysZ fa fn ts ck w K) (i : Nat) (hi : ts[i]? = some ((fun K => He.ga K x), ks)) (hc : tabB K x tab = true) (hg : (He.Fa.glo x).ok K = true) (nd : (x == ("__debug__" : Str)) = false := by kernel_rfl) (ok : tab.all (fun p => PyData.strOk p.2) = true := by kernel_rfl) : KTab (txOf P w K mg base) x tab := by
  obtain ⟨es, n, kd⟩ := c.t.tab i hi
  exact ⟨⟨_, es, n, He.glo_ok X G hg, kd, tabB_ok hc kd.at_⟩, nd, ok⟩
def dvD : He.Dv → Option D
  | .int i => some (.int i)
  | .str x => if PyData.strOk x = true then some (.str x) else none
  | _ => none
theorem dvD_rep {G : Wd} {d : D} {v : He.Dv} (e : dvD v = some d) : Rep G d (v.v G.K) := by
  cases v with
  | int i =>
    cases e
    exact .of_int
  | str x =>
    have e : (if PyData.strOk x = true then some (D.str x) else none) = some d := e
    by_cases q : PyData.strOk x = true
    · rw [if_pos q] at e
      cases e
      unfold Rep
      exact ⟨rfl, q⟩
    · rw [if_neg q] at e
      cases e
  | _ => cases e
theorem dvD_reps {G : Wd} : ∀ {vs : List He.Dv} {ds : List D}, vs.map dvD = ds.map some → Reps G ds (vs.map (He.Dv.v G.K))
  | [], [], _ => .nil
  | [], _ :: _, e => by cases e
  | _ :: _, [], e => by cases e
  | v :: vs, d :: ds, e => by
    injection e with e1 e2
    exact .cons (dvD_rep e1) (dvD_reps e2)
theorem mn_tup {x : Str} {vs : List He.Dv} {ds : List D} (X : K.In h) (G : h.Ns mainGlobals mg) (hg : (He.Fa.glo x).ok K = true) (hc : He.tupB K x vs = true) (e : vs.map dvD = ds.map some := by kernel_rfl) (nd : (x == ("__debug__" : Str)) = false := by kernel_rfl) : Mn (txOf P w K mg base) x (.tup ds) := by
  refine ⟨⟨.ref (He.ga K x), _, He.glo_ok X G hg, rfl, fun G' eK => ?_⟩, nd⟩
  have eK : G'.K = K := eK
  unfold Rep
  refine ⟨_, vs.map (He.Dv.v G'.K), rfl, .inr ?_, dvD_reps e⟩
  rw [eK]
  rcases He.tupB_ok hc (fun _ => none) with q | q
  · rcases q with q | ⟨_, q⟩ <;> cases q
  · exact q
end
/-! ### defs that call themselves -/
theorem rss_bad {st : List Stmt} : RSs S O st sBad := ⟨_, fun X _ => pss_never, fun B G h σ Γ E w p => p.elim⟩
end Sw

set_option maxHeartbeats 1000000
/-! Sw, part T: sorted, min of a list, list of a range, a dict's copy. -/
namespace Sw
open PySem PySem.Spec L2
variable {S : Sx} {O : List Nat}
def insI (i : Int) : List Int → List Int
  | [] => [i]
  | j :: r => if i ≤ j then i :: j :: r else j :: insI i r
def isort : List Int → List Int
  | [] => []
  | i :: r => insI i (isort r)
theorem insI_perm (i : Int) : ∀ r : List Int, (insI i r).Perm (i :: r)
  | [] => .refl _
  | j :: r => by
    unfold insI
    split
    · exact .refl _
    · exact ((insI_perm i r).cons j).trans (.swap i j r)
theorem isort_perm : ∀ r : List Int, (isort r).Perm r
  | [] => .refl _
  | i :: r => (insI_perm i (isort r)).trans ((isort_perm r).cons i)
theorem insI_sorted (i : Int) : ∀ {r : List Int}, r.Pairwise (· ≤ ·) → (insI i r).Pairwise (· ≤ ·)
  | [], _ => by simp [insI]
  | j :: r, h => by
    obtain ⟨h1, h2⟩ := List.pairwise_cons.mp h
    unfold insI
    split
    · refine List.pairwise_cons.mpr ⟨fun x hx => ?_, h⟩
      rcases List.mem_cons.mp hx with rfl | hx
      · assumption
      · have := h1 x hx
        omega
    · refine List.pairwise_cons.mpr ⟨fun x hx => ?_, insI_sorted i h2⟩
      have := (insI_perm i r).mem_iff.mp hx
      rcases List.mem_cons.mp this with rfl | hx
      · omega
      · exact h1 x hx
theorem isort_sorted : ∀ r : List Int, (isort r).Pairwise (· ≤ ·)
  | [] => .nil
  | i :: r => insI_sorted i (isort_sorted r)
theorem sorted_unique : ∀ {a b : List Int}, a.Perm b → a.Pairwise (· ≤ ·) → b.Pairwise (· ≤ ·) → a = b
  | [], b, p, _, _ => (List.nil_perm.mp p).symm
  | x :: a, [], p, _, _ => (List.perm_nil.mp p)
  | x :: a, y :: b, p, h1, h2 => by
    obtain ⟨h3, h4⟩ := List.pairwise_cons.mp h1
    obtain ⟨h5, h6⟩ := List.pairwise_cons.mp h2
    have e : x = y := by
      have m1 : y ∈ x :: a := p.mem_iff.mpr List.mem_cons_self
      have m2 : x ∈ y :: b := p.mem_iff.mp List.mem_cons_self
      rcases List.mem_cons.mp m1 with q | q
      · exact q.symm
      · rcases List.mem_cons.mp m2 with q' | q'
        · exact q'
        · have := h3 y q
          have := h5 x q'
          omega
    subst e
    rw [sorted_unique ((List.perm_cons x).mp p) h4 h6]
def dSorted (d : D) : M (List D) := fun h => match lAdd.seqL h d with
  | some xs => (match intsD xs with
    | some ns => .ok ((isort ns).map D.int) h
    | none => .bad)
  | none => .bad
theorem f_sorted : F1F S "sorted" dSorted := by
  refine ⟨rSortedI S.K, fun X hX => by rw [← hX.K]; exact cr_sortedI, fun G h x d Q gK gc k r p => ?_⟩
  unfold dSorted at p
  cases e : lAdd.seqL h d with
  | none =>
    rw [e] at p
    exact p.elim
  | some xs =>
    rw [e] at p
    cases e2 : intsD xs with
    | none =>
      simp only [e2] at p
      exact p.elim
    | some ns =>
      simp only [e2] at p
      obtain ⟨a, vs, rfl, h1, h2, h3⟩ := seqL_at k r e
      have ev := intsD_v h3 e2
      rw [ev] at h1
      refine ⟨a, ns, rfl, SqL.of h1, fun ns' q pm sr hq => ?_⟩
      have e3 : ns' = isort ns := sorted_unique (pm.trans (isort_perm ns).symm) sr (isort_sorted ns)
      rw [e3]
      refine p G (.refl G) k q _ hq ?_ (Reps.ints _)
      rw [List.length_map, (isort_perm ns).length_eq]
      rw [ev, List.length_map] at h2
      exact h2
def minI : List Int → Int
  | [] => 0
  | [i] => i
  | i :: r => min i (minI r)
theorem minI_le : ∀ {ns : List Int}, ∀ y ∈ ns, minI ns ≤ y
  | [], y, h => by cases h
  | [i], y, h => by
    rw [List.mem_singleton.mp h]
    exact Int.le_refl _
  | i :: j :: r, y, h => by
    show min i (minI (j :: r)) ≤ y
    rcases List.mem_cons.mp h with rfl | h
    · exact Int.min_le_left _ _
    · exact Int.le_trans (Int.min_le_right _ _) (minI_le y h)
theorem minI_mem : ∀ {ns : List Int}, ns ≠ [] → minI ns ∈ ns
  | [], h => absurd rfl h
  | [i], _ => List.mem_singleton.mpr rfl
  | i :: j :: r, _ => by
    show min i (minI (j :: r)) ∈ i :: j :: r
    have := minI_mem (ns := j :: r) (by simp)
    rw [Int.min_def]
    split
    · exact List.mem_cons_self
    · exact List.mem_cons_of_mem _ this
def dMinL (d : D) : M D := fun h => match lAdd.seqL h d with
  | some xs => (match intsD xs with
    | some (i :: ns) => .ok (.int (minI (i :: ns))) h
    | _ => .bad)
  | none => .bad
theorem f_minL : F1 S "min" dMinL := by
  refine ⟨rMin S.K, fun X hX => by rw [← hX.K]; exact cr_min hX.calm, fun G h x d Q gK gc k r p => ?_⟩
  unfold dMinL at p
  cases e : lAdd.seqL h d with
  | none =>
    rw [e] at p
    exact p.elim
  | some xs =>
    rw [e] at p
    cases e2 : intsD xs with
    | none =>
      simp only [e2] at p
      exact p.elim
    | some ns =>
      cases ns with
      | nil =>
        simp only [e2] at p
        exact p.elim
      | cons i ns =>
        simp only [e2] at p
        obtain ⟨a, vs, rfl, h1, h2, h3⟩ := seqL_at k r e
        rw [intsD_v h3 e2] at h1
        refine ⟨a, i :: ns, rfl, SqL.of h1, by simp, fun m hm hle => ?_⟩
        have : m = minI (i :: ns) := by
          have h4 := hle _ (minI_mem (ns := i :: ns) (by simp))
          have h5 := minI_le m hm
          omega
        rw [this]
        exact p G (.refl G) k _ .of_int
/-- a dict's copy -/
def dCopy (d : D) : M D := fun h => match d with
  | .ref n => (match h[n]? with
    | some (.dct kvs) => .ok (.ref h.length) (h ++ [.dct kvs])
    | _ => .bad)
  | _ => .bad
theorem t_dict : T1 S "dict" dCopy := by
  refine ⟨_, fun X hX => call_dictD, fun G h x d Q gK gc k r p => ?_⟩
  unfold dCopy at p
  cases d with
  | ref n =>
    obtain ⟨a, h1, rfl⟩ := r.ref_inv
    obtain ⟨o, h2, h3⟩ := k.at h1
    simp only [h2] at p
    cases o with
    | dct kvs =>
      obtain ⟨kvs', q1, q2⟩ := h3
      refine ⟨a, kvs', rfl, .inl q1, ?_⟩
      exact Pst.layO (ob := .dct kvs) p k fun b e => ⟨kvs', upd_same, q2.le (Wd.layO_to k e).le⟩
    | _ => exact p.elim
  | _ => exact p.elim

/-! a, b = x, y of plain local names -/
def sPar2 (i j : Nat) (a b : EM) : SM := fun Γ => bnd (a Γ) fun x => bnd (b Γ) fun y => pur (.nx ((Γ.set i (some x)).set j (some y)))
def locB (N : List Str) (sc : Scope) (i : Nat) (x : Str) : Bool := decide (N[i]? = some x) && (match sc.names.lookup x with
  | some .local => true
  | _ => false)
theorem locB_ok {N : List Str} {sc : Scope} {i : Nat} {x : Str} (h : locB N sc i x = true) : N[i]? = some x ∧ sc.names.lookup x = some .local := by
  obtain ⟨h1, h⟩ := b2 h
  split at h
  · exact ⟨of_decide_eq_true h1, by assumption⟩
  · cases h
theorem par2 {i j : Nat} {x y : Str} {a b : Expr} {ma mb : EM} {px py pt pt2 pos : Pos} {kt k2 : Nat} (ha : RA S O [a, b] [ma, mb]) (hi : locB S.N S.sc i x = true := by kernel_rfl) (hj : locB S.N S.sc j y = true := by kernel_rfl) (nd : decide S.N.Nodup = true := by kernel_rfl) (hij : Nat.beq i j = false := by rfl) (oi : i ∉ O := by decide) (oj : j ∉ O := by decide)
    (hw : ∀ env : PySem.Env, swappedStores [.Tuple [.Name x px, .Name y py] kt pt] (.Tuple [a, b] k2 pt2) { env with scope := S.sc } = pure (some [x, y]) := by intro env; kernel_rfl)
    (hs : ∀ env, swapsWithSole [.Tuple [.Name x px, .Name y py] kt pt] (.Tuple [a, b] k2 pt2) pos.line env = pure false := by intros; rfl) :
    RS S O (.Assign [.Tuple [.Name x px, .Name y py] kt pt] (.Tuple [a, b] k2 pt2) pos) (sPar2 i j ma mb) := by
  obtain ⟨t, h1, h2⟩ := ha.ex
  obtain ⟨n1, l1⟩ := locB_ok hi
  obtain ⟨n2, l2⟩ := locB_ok hj
  have nij : i ≠ j := Nat.ne_of_beq_eq_false hij
  refine ⟨tPar i j t, fun X hX => ?_, fun B G h σ Γ E w p => ?_⟩
  · exact ps_par hX.calm (by rw [hX.N]; exact of_decide_eq_true nd) (by rw [hX.N]; exact n1) (by rw [hX.N]; exact n2) nij (by rw [hX.sc]; exact l1) (by rw [hX.sc]; exact l2) (h1 X hX)
      (by have := hw X.env; rw [← hX.sc] at this; exact this) (hs _)
  · have p' : PsS S B G (bnd (seqA [ma, mb] Γ) (fun ds => match ds with
      | [x, y] => pur (.nx ((Γ.set i (some x)).set j (some y)))
      | _ => bad) h) (Zst O B E) := by
      have e : bnd (seqA [ma, mb] Γ) (fun ds => match ds with
        | [x, y] => (pur (.nx ((Γ.set i (some x)).set j (some y))) : M Fl)
        | _ => bad) h = sPar2 i j ma mb Γ h := by
        unfold sPar2 seqA seqA seqA bnd pur
        cases ma Γ h with
        | ok a h1 =>
          simp only
          cases mb Γ h1 <;> rfl
        | ex c xs h1 => rfl
        | bad => rfl
      rw [e]
      exact p
    refine h2 B G h σ Γ _ w ((p'.ebnd w.env.bU).mono fun ds h1 G1 t1 k1 p1 vs r => ?_)
    cases ds with
    | nil => exact p1.elim
    | cons d1 ds =>
      cases ds with
      | nil => exact p1.elim
      | cons d2 ds =>
        cases ds with
        | cons _ _ => exact p1.elim
        | nil =>
          obtain ⟨v, vr, rfl, r1, r2⟩ := r.cons_inv
          obtain ⟨u, ur, rfl, r3, r4⟩ := r2.cons_inv
          rw [r4.nil_inv]
          have w1 := w.to t1 k1
          refine ⟨v, u, rfl, ?_⟩
          exact p1.pur k1 _ ((w1.env.set oi r1).set oj r3)
end Sw

set_option maxHeartbeats 1000000
/-! Sw, part U: a dict's update by another. -/
namespace Sw
open PySem PySem.Spec L2
variable {S : Sx} {O : List Nat}
def rUpd : V → List V → Hp → VK → Prop := fun x xs H Q => ∃ a b kvs more, x = .ref a ∧ xs = [.ref b] ∧ a ≠ b ∧ H a = some (.dK kvs) ∧ H b = some (.dK more) ∧ kvs.length + more.length ≤ sizeLine ∧ Q .non (upd H a (.dK (mergeK kvs more)))
theorem mergeK_len : ∀ (more kvs : List (Key × V)), (mergeK kvs more).length ≤ kvs.length + more.length
  | [], kvs => Nat.le_refl _
  | m :: more, kvs => by
    have h1 := mergeK_len more (putK kvs m.1 m.2)
    have h2 := length_putK kvs m.1 m.2
    have : mergeK kvs (m :: more) = mergeK (putK kvs m.1 m.2) more := rfl
    rw [this, List.length_cons]
    omega
theorem mt_dupd {X : Cx} : MtR X "dict.update" rUpd := by
  intro pins s σ H x xs v us Q I rx rxs hyp
  obtain ⟨a, b, kvs, more, rfl, rfl, hne, ha, hb, hl, q⟩ := hyp
  cases rx
  obtain ⟨u, rfl, ru⟩ := vals1 rxs
  cases ru
  obtain ⟨z1, d1, vs, rel, dd⟩ := dk_of I.hok ha
  obtain ⟨z2, d2, ms, rel2, dd2⟩ := dk_of I.hok hb
  refine call_meetsIn PySem.F.slot_dict_update dd.typeIs PySem.F.entry_dict_update (PySem.F.args_dict_update_2 _ _) (meets_dict_update (mixKind X.prog X.w) a b hne d2) ⟨vs, ms, dd, dd2, ?_, fun h' hm _ hs => ?_⟩
  · rw [← rel.length, ← rel2.length]
    exact hl
  · have he : ∃ q, h'.get? a = some q := by
      obtain ⟨o, _, _, ho, _⟩ := hm
      exact ⟨o, ho⟩
    have I2 := d_write (t' := s.toks) I (by rw [ha]; exact True.intro) hs he (dk_new (H' := upd H a (.dK (mergeK kvs more))) (Nat.le_trans (mergeK_len _ _) hl) d1 (rel2.merge rel) hm)
    exact ⟨.non, _, I2, rfl, q⟩
def isDctD (h : PH) : D → Bool
  | .ref n => (match h[n]? with
    | some (.dct _) => true
    | _ => false)
  | _ => false
/-- o.update(e), both dicts that are objects -/
def gUpd (o e : EM) : EM := fun Γ => bnd (o Γ) fun d => fun h => if isDctD h d = true then bnd (e Γ) (fun x => fun h => match d, x with
  | .ref n, .ref m => (match h[n]?, h[m]? with
    | some (.dct kvs), some (.dct more) => if n ≠ m ∧ kvs.length + more.length ≤ 16777216 then .ok .non (h.set n (.dct (mergeD kvs more))) else .bad
    | _, _ => .bad)
  | _, _ => .bad) h else .bad
theorem isDct_at {G : Wd} {h : PH} {d : D} {v : V} (k : G.Ok h) (r : Rep G d v) (e : isDctD h d = true) : ∃ (n : Nat) (a : Addr) (kvs : List (Key × D)) (kvs' : List (Key × V)), d = .ref n ∧ v = .ref a ∧ G.ρ[n]? = some a ∧ h[n]? = some (.dct kvs) ∧ G.H a = some (.dK kvs') ∧ RepKV G kvs kvs' := by
  cases d with
  | ref n =>
    obtain ⟨a, h1, rfl⟩ := r.ref_inv
    obtain ⟨o, h2, h3⟩ := k.at h1
    unfold isDctD at e
    simp only [h2] at e
    cases o with
    | dct kvs =>
      obtain ⟨kvs', q1, q2⟩ := h3
      exact ⟨n, a, kvs, kvs', rfl, rfl, h1, h2, q1, q2⟩
    | _ => cases e
  | _ => cases e
theorem re_dupd {o e : Expr} {mo me : EM} {apos cpos : Pos} (ho : RE S O o mo) (he : RE S O e me)
    (hbase : ∀ env, attributeBase o "update" env (eval o env) = eval o env := by intros; rfl)
    (hfew : ∀ env, ((backTo cpos (starEach [e] env)).all (fun x => !x.1) && (backToKw cpos (keywordEach [] env)).all (fun x => x.1.isSome)
      && decide (([e] : List Expr).length + ([] : List Keyword).length + (if ([] : List Keyword).isEmpty then 0 else 1) < 30)) = true := by intros; rfl)
    (hline : (apos.endLine == cpos.line) = true := by rfl) (hs : ∀ env, starEach [e] env = (false, eval e env) :: starEach [] env := by intros; rfl) (hplain : ∀ env, (backTo cpos (starEach [] env)).any (·.1) = false := by intros; rfl) :
    RE S O (.Call (.Attribute o "update" apos) [e] [] cpos) (gUpd mo me) := by
  obtain ⟨to, o1, o2⟩ := ho.ex
  obtain ⟨te, e1, e2⟩ := he.ex
  refine ⟨tBM S.K "dict" rUpd to (tCons te tNil), fun X hX => by rw [← hX.K]; exact pe_bm PySem.F.plainAttrs_dict PySem.F.slot_dict_update PySem.F.type_dict_update mt_dupd (o1 X hX) (pa_cons (e1 X hX) pa_nil (hs _)) (hbase _) (hfew _) hline (hs _) (hplain _), fun B G h σ Γ Q w p => ?_⟩
  unfold gUpd at p
  refine o2 B G h σ Γ _ w (p.bnd.mono fun d h1 G1 t1 k1 p1 v r => ?_)
  have w1 := w.to t1 k1
  by_cases hd : isDctD h1 d = true
  · rw [if_pos hd] at p1
    obtain ⟨n, a, kvs0, kvs0', rfl, rfl, q1, q2, q3, q4⟩ := isDct_at k1 r hd
    refine ⟨.inr (.inr (.inl ⟨rfl, .inl ⟨kvs0', q3⟩⟩)), ?_⟩
    refine e2 B G1 h1 σ Γ _ w1 (p1.bnd.mono fun x h2 G2 t2 k2 p2 u ru => ?_)
    cases x with
    | ref m =>
      have n2 := pre_get t2.le.ρ q1
      obtain ⟨o1', z1, z2⟩ := k2.at n2
      obtain ⟨b, m2, rfl⟩ := ru.ref_inv
      obtain ⟨o2', y1, y2⟩ := k2.at m2
      simp only [z1, y1] at p2
      cases o1' with
      | dct kvs =>
        cases o2' with
        | dct more =>
          simp only at p2
          by_cases c : n ≠ m ∧ kvs.length + more.length ≤ 16777216
          · rw [if_pos c] at p2
            obtain ⟨ks, f1, f2⟩ := z2
            obtain ⟨ms, g1, g2⟩ := y2
            have hab : a ≠ b := fun e => by
              have hn := (List.getElem?_eq_some_iff.mp n2).1
              have hm := (List.getElem?_eq_some_iff.mp m2).1
              have e1 := (List.getElem?_eq_some_iff.mp n2).2
              have e2 := (List.getElem?_eq_some_iff.mp m2).2
              have pw := List.pairwise_iff_getElem.mp k2.nd
              rcases Nat.lt_trichotomy n m with l | l | l
              · exact absurd (e1.trans (e.trans e2.symm)) (pw n m hn hm l)
              · exact c.1 l
              · exact absurd (e2.trans (e.symm.trans e1.symm)) (pw m n hm hn l)
            have t3 := Wd.put_to k2 (o := .dK (mergeK ks ms)) n2
            refine ⟨a, b, ks, ms, rfl, rfl, hab, f1, g1, ?_, ?_⟩
            · rw [f2.len, g2.len, sizeLine_eq]
              exact c.2
            · exact p2 (G2.put a (.dK (mergeK ks ms))) t3 (Wd.put_ok (ob := .dct (mergeD kvs more)) k2 n2 ⟨_, upd_same, (g2.merge f2).le t3.le⟩) _ .of_non
          · rw [if_neg c] at p2
            exact p2.elim
        | _ => exact p2.elim
      | _ => cases o2' <;> exact p2.elim
    | _ => exact p2.elim
  · rw [if_neg hd] at p1
    exact p1.elim

/-! list(range(..)) -/
theorem reps_rng {G : Wd} {a b : Int} : Reps G (rngD a (b - a).toNat) (rgV a b) := by
  have e1 : rngD a (b - a).toNat = ((List.range (b - a).toNat).map fun (i : Nat) => a + (i : Int)).map D.int := by
    unfold rngD
    rw [List.map_map]
    rfl
  have e2 : rgV a b = ((List.range (b - a).toNat).map fun (i : Nat) => a + (i : Int)).map V.int := by
    unfold rgV
    rw [List.map_map]
    rfl
  rw [e1, e2]
  exact .ints _
def rgOk (a b : Int) : Prop := -4611686018427387904 ≤ a ∧ a < 4611686018427387904 ∧ -4611686018427387904 ≤ b ∧ b < 4611686018427387904 ∧ b - a ≤ 16777216
instance (a b : Int) : Decidable (rgOk a b) := by unfold rgOk; infer_instance
theorem rgOk_of {a b : Int} (h : rgOk a b) : RgOk a b := by
  obtain ⟨h1, h2, h3, h4, h5⟩ := h
  exact ⟨by omega, by omega, by omega, by omega, by omega⟩
def lRg1 (a : EM) : LM := fun Γ => bnd (a Γ) fun d => fun h => match d with
  | .int n => if rgOk 0 n then .ok (rngD 0 (n - 0).toNat) h else .bad
  | _ => .bad
def lRg2 (a b : EM) : LM := fun Γ => bnd (a Γ) fun d => bnd (b Γ) fun e => fun h => match d, e with
  | .int i, .int j => if rgOk i j then .ok (rngD i (j - i).toNat) h else .bad
  | _, _ => .bad
theorem rf_lr1 {a : Expr} {m : EM} {p q pos pos2 : Pos} (bl : Bn S.T "list" (.type "list")) (br : Bn S.T "range" (.type "range")) (ha : RE S O a m) (g1 : gbB S.sc "list" = true := by kernel_rfl) (g2 : gbB S.sc "range" = true := by kernel_rfl)
    (h1 : ∀ env, starEach [a] env = (false, eval a env) :: starEach [] env := by intros; rfl) (h2 : ∀ env, starEach [.Call (.Name "range" q) [a] [] pos2] env = (false, eval (.Call (.Name "range" q) [a] [] pos2) env) :: starEach [] env := by intros; rfl) :
    RF S O (.Call (.Name "list" p) [.Call (.Name "range" q) [a] [] pos2] [] pos) (lRg1 m) := by
  obtain ⟨t, a1, a2⟩ := ha.ex
  refine ⟨tLstRg (tRg1 t), fun X hX => pe_listRg hX.calm ((gk g1).gl hX) (by rw [hX.mg]; exact bl.m) (prg_1 ((gk g2).gl hX) (by rw [hX.mg]; exact br.m) (a1 X hX) (h1 _)) (h2 _), fun B G h σ Γ Q w pp => ?_⟩
  unfold lRg1 at pp
  refine a2 B G h σ Γ _ w (pp.bnd.mono fun d h1 G1 t1 k1 p1 v r => ?_)
  cases d with
  | int n =>
    simp only at p1
    by_cases c : rgOk 0 n
    · rw [if_pos c] at p1
      refine ⟨n, r.int_inv, rgOk_of c, fun q hq => p1 G1 (.refl G1) k1 q _ hq ?_ reps_rng⟩
      rw [rgV_length, sizeLine_eq]
      obtain ⟨_, _, _, _, c5⟩ := c
      omega
    · rw [if_neg c] at p1
      exact p1.elim
  | _ => exact p1.elim
theorem rf_lr2 {a b : Expr} {m m' : EM} {p q pos pos2 : Pos} (bl : Bn S.T "list" (.type "list")) (br : Bn S.T "range" (.type "range")) (ha : RE S O a m) (hb : RE S O b m') (g1 : gbB S.sc "list" = true := by kernel_rfl) (g2 : gbB S.sc "range" = true := by kernel_rfl)
    (h1 : ∀ env, starEach [a, b] env = (false, eval a env) :: starEach [b] env := by intros; rfl) (h1' : ∀ env, starEach [b] env = (false, eval b env) :: starEach [] env := by intros; rfl) (hp : ∀ env, (backTo pos2 (starEach [b] env)).any (·.1) = false := by intros; rfl)
    (h2 : ∀ env, starEach [.Call (.Name "range" q) [a, b] [] pos2] env = (false, eval (.Call (.Name "range" q) [a, b] [] pos2) env) :: starEach [] env := by intros; rfl) :
    RF S O (.Call (.Name "list" p) [.Call (.Name "range" q) [a, b] [] pos2] [] pos) (lRg2 m m') := by
  obtain ⟨t, a1, a2⟩ := ha.ex
  obtain ⟨t', b1, b2⟩ := hb.ex
  refine ⟨tLstRg (tRg2 t t'), fun X hX => pe_listRg hX.calm ((gk g1).gl hX) (by rw [hX.mg]; exact bl.m) (prg_2 ((gk g2).gl hX) (by rw [hX.mg]; exact br.m) (a1 X hX) (b1 X hX) (h1 _) (h1' _) (hp _)) (h2 _), fun B G h σ Γ Q w pp => ?_⟩
  unfold lRg2 at pp
  refine a2 B G h σ Γ _ w (pp.bnd.mono fun d h1 G1 t1 k1 p1 v r => ?_)
  have w1 := w.to t1 k1
  refine b2 B G1 h1 σ Γ _ w1 (p1.bnd.mono fun e h2 G2 t2 k2 p2 u ru => ?_)
  cases d with
  | int i =>
    cases e with
    | int j =>
      simp only at p2
      by_cases c : rgOk i j
      · rw [if_pos c] at p2
        refine ⟨i, j, r.int_inv, ru.int_inv, rgOk_of c, fun q hq => p2 G2 (.refl G2) k2 q _ hq ?_ reps_rng⟩
        rw [rgV_length, sizeLine_eq]
        obtain ⟨_, _, _, _, c5⟩ := c
        omega
      · rw [if_neg c] at p2
        exact p2.elim
    | _ => exact p2.elim
  | _ => exact p2.elim

/-! a, b, c = x, y, z of plain local names -/
def sPar3 (i j l : Nat) (a b c : EM) : SM := fun Γ => bnd (seqA [a, b, c] Γ) fun ds => match ds with
  | [x, y, z] => pur (.nx (((Γ.set i (some x)).set j (some y)).set l (some z)))
  | _ => bad
theorem par3 {i j l : Nat} {x y z : Str} {a b c : Expr} {ma mb mc : EM} {px py pz pt pt2 pos : Pos} {kt k2 : Nat} (ha : RA S O [a, b, c] [ma, mb, mc]) (hi : locB S.N S.sc i x = true := by kernel_rfl) (hj : locB S.N S.sc j y = true := by kernel_rfl) (hl : locB S.N S.sc l z = true := by kernel_rfl) (nd : decide S.N.Nodup = true := by kernel_rfl) (hij : Nat.beq i j = false := by rfl) (hil : Nat.beq i l = false := by rfl) (hjl : Nat.beq j l = false := by rfl) (oi : i ∉ O := by decide) (oj : j ∉ O := by decide) (ol : l ∉ O := by decide)
    (hw : ∀ env : PySem.Env, swappedStores [.Tuple [.Name x px, .Name y py, .Name z pz] kt pt] (.Tuple [a, b, c] k2 pt2) { env with scope := S.sc } = pure (some [x, y, z]) := by intro env; kernel_rfl)
    (hs : ∀ env, swapsWithSole [.Tuple [.Name x px, .Name y py, .Name z pz] kt pt] (.Tuple [a, b, c] k2 pt2) pos.line env = pure false := by intros; rfl) :
    RS S O (.Assign [.Tuple [.Name x px, .Name y py, .Name z pz] kt pt] (.Tuple [a, b, c] k2 pt2) pos) (sPar3 i j l ma mb mc) := by
  obtain ⟨t, h1, h2⟩ := ha.ex
  obtain ⟨n1, l1⟩ := locB_ok hi
  obtain ⟨n2, l2⟩ := locB_ok hj
  obtain ⟨n3, l3⟩ := locB_ok hl
  refine ⟨tPar3 i j l t, fun X hX => ?_, fun B G h σ Γ E w p => ?_⟩
  · exact ps_par3 hX.calm (by rw [hX.N]; exact of_decide_eq_true nd) (by rw [hX.N]; exact n1) (by rw [hX.N]; exact n2) (by rw [hX.N]; exact n3) (Nat.ne_of_beq_eq_false hij) (Nat.ne_of_beq_eq_false hil) (Nat.ne_of_beq_eq_false hjl) (by rw [hX.sc]; exact l1) (by rw [hX.sc]; exact l2) (by rw [hX.sc]; exact l3) (h1 X hX)
      (by have := hw X.env; rw [← hX.sc] at this; exact this) (hs _)
  · unfold sPar3 at p
    refine h2 B G h σ Γ _ w ((p.ebnd w.env.bU).mono fun ds h1 G1 t1 k1 p1 vs r => ?_)
    cases ds with
    | nil => exact p1.elim
    | cons d1 ds =>
      cases ds with
      | nil => exact p1.elim
      | cons d2 ds =>
        cases ds with
        | nil => exact p1.elim
        | cons d3 ds =>
          cases ds with
          | cons _ _ => exact p1.elim
          | nil =>
            obtain ⟨v, vr, rfl, r1, r2⟩ := r.cons_inv
            obtain ⟨u, ur, rfl, r3, r4⟩ := r2.cons_inv
            obtain ⟨u3, ur3, rfl, r5, r6⟩ := r4.cons_inv
            rw [r6.nil_inv]
            have w1 := w.to t1 k1
            refine ⟨v, u, u3, rfl, ?_⟩
            exact p1.pur k1 _ (((w1.env.set oi r1).set oj r3).set ol r5)
end Sw

set_option maxHeartbeats 400000
/-! Sw, part V: more of reckoning with shadows. -/
namespace Sw
open PySem PySem.Spec L2
variable {α β : Type}
theorem str_inj_ {a b : String} (h : Str.ofString a = Str.ofString b) : a = b := by
  rw [Str.ofString_eq_toList, Str.ofString_eq_toList] at h
  have h1 : (a.toList.map Char.toNat).toArray = (b.toList.map Char.toNat).toArray := congrArg Str.cps h
  have h2 : a.toList.map Char.toNat = b.toList.map Char.toNat := by simpa using h1
  have inj : ∀ x y : Char, x.toNat = y.toNat → x = y := fun x y e => Char.ext (UInt32.toNat_inj.mp e)
  have h3 : ∀ xs ys : List Char, xs.map Char.toNat = ys.map Char.toNat → xs = ys := by
    intro xs
    induction xs with
    | nil =>
      intro ys e
      cases ys with
      | nil => rfl
      | cons y ys => simp at e
    | cons x xs ih =>
      intro ys e
      cases ys with
      | nil => simp at e
      | cons y ys =>
        rw [List.map_cons, List.map_cons] at e
        injection e with e1 e2
        rw [inj x y e1, ih ys e2]
  exact String.toList_inj.mp (h3 _ _ h2)
@[simp] theorem str_inj {a b : String} : (Str.ofString a = Str.ofString b) = (a = b) := propext ⟨str_inj_, fun e => congrArg Str.ofString e⟩
@[simp] theorem str_beq {a b : String} : (Str.ofString a == Str.ofString b) = decide (a = b) := by
  by_cases e : a = b
  · subst e
    simp
  · simp [e]
section
variable {a b c d e : D} {l : List D}
@[simp] theorem at0 : atI (a :: l) 0 = some a := Sw.atI_nat (k := 0)
@[simp] theorem at1 : atI (a :: b :: l) 1 = some b := Sw.atI_nat (k := 1)
@[simp] theorem at2 : atI (a :: b :: c :: l) 2 = some c := Sw.atI_nat (k := 2)
@[simp] theorem at3 : atI (a :: b :: c :: d :: l) 3 = some d := Sw.atI_nat (k := 3)
end
theorem wp_noX {m : M α} {h : PH} {Q : α → PH → Prop} : wp (noX m h) Q = wp (m h) Q := by
  unfold noX
  cases m h <;> rfl
section
variable {h : PH} {Q : D → PH → Prop} {Γ : Env} {a b : EM}
theorem wp_dEq {x y : D} : wp (dEq x y h) Q = (match dat (rfH h) x, dat (rfH h) y with
    | some p, some q => min p.depth q.depth ≤ 64 ∧ Q (.bl (PyData.eqv p q)) h
    | _, _ => False) := by
  unfold dEq
  cases dat (rfH h) x with
  | none => rfl
  | some p =>
    cases dat (rfH h) y with
    | none => rfl
    | some q =>
      simp only
      by_cases e : min p.depth q.depth ≤ 64
      · simp [e]
      · rw [if_neg e]
        simp only [wp_bad, e, false_and]
theorem wp_dNe {x y : D} : wp (dNe x y h) Q = (match dat (rfH h) x, dat (rfH h) y with
    | some p, some q => min p.depth q.depth ≤ 64 ∧ Q (.bl (!PyData.eqv p q)) h
    | _, _ => False) := by
  unfold dNe
  cases dat (rfH h) x with
  | none => rfl
  | some p =>
    cases dat (rfH h) y with
    | none => rfl
    | some q =>
      simp only
      by_cases e : min p.depth q.depth ≤ 64
      · simp [e]
      · rw [if_neg e]
        simp only [wp_bad, e, false_and]
/-- in a tuple or list that is a value -/
theorem wp_dInS {f : Bool → Bool} {x : D} {ys : D} (hy : (∃ zs, ys = .tup zs) ∨ (∃ zs, ys = .lst zs)) : wp (dInB f x ys h) Q = (match dat (rfH h) x, datS h ys with
    | some p, some qs => min (PyData.depthAll qs) p.depth ≤ 60 ∧ Q (.bl (f (qs.any fun z => PyData.eqv z p))) h
    | _, _ => False) := by
  have e : dInB f x ys = inS f x ys := by
    rcases hy with ⟨zs, rfl⟩ | ⟨zs, rfl⟩ <;> rfl
  rw [e]
  unfold inS
  cases dat (rfH h) x with
  | none => rfl
  | some p =>
    cases datS h ys with
    | none => rfl
    | some q =>
      simp only
      by_cases e : min (PyData.depthAll q) p.depth ≤ 60
      · simp [e]
      · rw [if_neg e]
        simp only [wp_bad, e, false_and]
theorem datL_strs {rf : Nat → Option PyData} : ∀ xs : List Str, datL rf (xs.map D.str) = some (xs.map PyData.str)
  | [] => rfl
  | x :: xs => by
    rw [List.map_cons]
    unfold datL
    rw [datL_strs xs]
    rfl
theorem any_strs {x : Str} : ∀ xs : List Str, ((xs.map PyData.str).any fun z => PyData.eqv z (.str x)) = decide (x ∈ xs)
  | [] => rfl
  | y :: ys => by
    rw [List.map_cons, List.any_cons, any_strs ys]
    have e : PyData.eqv (.str y) (.str x) = decide (y = x) := by
      by_cases q : y = x <;> simp [PyData.eqv, q]
    rw [e]
    by_cases q : y = x
    · subst q
      simp
    · have q' : ¬ x = y := fun z => q z.symm
      simp [q, q']
theorem depth_strs : ∀ xs : List Str, PyData.depthAll (xs.map PyData.str) ≤ 1
  | [] => by simp [PyData.depthAll]
  | x :: xs => by
    have := depth_strs xs
    rw [List.map_cons]
    unfold PyData.depthAll
    have : PyData.depth (.str x) ≤ 1 := by simp [PyData.depth]
    omega
theorem inStrs {f : Bool → Bool} {x : Str} {xs : List Str} : wp (dInB f (.str x) (.tup (xs.map D.str)) h) Q = Q (.bl (f (decide (x ∈ xs)))) h := by
  rw [wp_dInS (.inl ⟨_, rfl⟩)]
  have d1 := depth_strs xs
  simp only [dat, datS, seqD, Option.bind_some, datL_strs, any_strs]
  have : min (PyData.depthAll (xs.map PyData.str)) (PyData.depth (.str x)) ≤ 60 := by omega
  simp [this]
@[simp] theorem in1 {x a : Str} : wp (dIn (.str x) (.tup [.str a]) h) Q = Q (.bl (decide (x = a))) h := by
  have := inStrs (f := id) (x := x) (xs := [a]) (h := h) (Q := Q)
  simpa [dIn] using this
@[simp] theorem in2 {x a b : Str} : wp (dIn (.str x) (.tup [.str a, .str b]) h) Q = Q (.bl (decide (x = a ∨ x = b))) h := by
  have := inStrs (f := id) (x := x) (xs := [a, b]) (h := h) (Q := Q)
  simpa [dIn] using this
@[simp] theorem in4 {x a b c d : Str} : wp (dIn (.str x) (.tup [.str a, .str b, .str c, .str d]) h) Q = Q (.bl (decide (x = a ∨ x = b ∨ x = c ∨ x = d))) h := by
  have := inStrs (f := id) (x := x) (xs := [a, b, c, d]) (h := h) (Q := Q)
  simpa [dIn] using this
@[simp] theorem in5 {x a b c d e : Str} : wp (dIn (.str x) (.tup [.str a, .str b, .str c, .str d, .str e]) h) Q = Q (.bl (decide (x = a ∨ x = b ∨ x = c ∨ x = d ∨ x = e))) h := by
  have := inStrs (f := id) (x := x) (xs := [a, b, c, d, e]) (h := h) (Q := Q)
  simpa [dIn] using this
@[simp] theorem ty_non {T : String} : wp (isTy T .non h) Q = Q (.bl false) h := rfl
@[simp] theorem ty_bl {T : String} {k : Bool} : wp (isTy T (.bl k) h) Q = Q (.bl (T == "bool" || T == "int")) h := rfl
@[simp] theorem ty_int {T : String} {k : Int} : wp (isTy T (.int k) h) Q = Q (.bl (T == "int")) h := rfl
@[simp] theorem ty_str {T : String} {k : Str} : wp (isTy T (.str k) h) Q = Q (.bl (T == "str")) h := rfl
@[simp] theorem ty_tup {T : String} {k : List D} : wp (isTy T (.tup k) h) Q = Q (.bl (T == "tuple")) h := rfl
@[simp] theorem ty_lst {T : String} {k : List D} : wp (isTy T (.lst k) h) Q = Q (.bl (T == "list")) h := rfl
theorem ty_refL {T : String} {n : Nat} {xs : List D} (e : h[n]? = some (.lst xs)) : wp (isTy T (.ref n) h) Q = Q (.bl (T == "list")) h := by
  unfold isTy
  simp only [e]
  rfl
@[simp] theorem isNon_bl {k : Bool} : isNonD (.bl k) = false := rfl
@[simp] theorem isNon_str {k : Str} : isNonD (.str k) = false := rfl
@[simp] theorem isNon_tup {k : List D} : isNonD (.tup k) = false := rfl
@[simp] theorem isNon_lst {k : List D} : isNonD (.lst k) = false := rfl
@[simp] theorem isNon_ref {k : Nat} : isNonD (.ref k) = false := rfl
@[simp] theorem wp_tupT {xs : List D} : wp (dTuple (.tup xs) h) Q = Q (.tup xs) h := rfl
@[simp] theorem wp_tupL {xs : List D} : wp (dTuple (.lst xs) h) Q = Q (.tup xs) h := rfl
theorem wp_tupO {xs : List D} {n : Nat} (e : h[n]? = some (.lst xs)) : wp (dTuple (.ref n) h) Q = Q (.tup xs) h := by
  unfold dTuple
  simp only [e]
  rfl
@[simp] theorem wp_intI {i : Int} : wp (dInt (.int i) h) Q = Q (.int i) h := rfl
@[simp] theorem wp_intB {k : Bool} : wp (dInt (.bl k) h) Q = Q (.int (if k then 1 else 0)) h := rfl
@[simp] theorem wp_lAdd {Q : List D → PH → Prop} : wp (lAdd a b Γ h) Q = wp (a Γ h) fun x h => wp (b Γ h) fun y h => (match lAdd.seqL h x, lAdd.seqL h y with
    | some xs, some ys => xs.length + ys.length ≤ 16777216 ∧ Q (xs ++ ys) h
    | _, _ => False) := by
  unfold lAdd
  simp only [wp_bnd]
  congr
  funext x h
  congr
  funext y h
  cases lAdd.seqL h x with
  | none => rfl
  | some xs =>
    cases lAdd.seqL h y with
    | none => rfl
    | some ys =>
      simp only
      by_cases e : xs.length + ys.length ≤ 16777216 <;> simp [e]
@[simp] theorem wp_lMul {Q : List D → PH → Prop} : wp (lMul a b Γ h) Q = wp (a Γ h) fun x h => wp (b Γ h) fun y h => (match lAdd.seqL h x, y with
    | some xs, .int k => (-(2 ^ 63) ≤ k ∧ k < 2 ^ 63 ∧ xs.length * k.toNat ≤ 16777216) ∧ Q (List.replicate k.toNat xs).flatten h
    | _, _ => False) := by
  unfold lMul
  simp only [wp_bnd]
  congr
  funext x h
  congr
  funext y h
  cases lAdd.seqL h x with
  | none => rfl
  | some xs =>
    cases y with
    | int k =>
      simp only
      by_cases e : -(2 ^ 63) ≤ k ∧ k < 2 ^ 63 ∧ xs.length * k.toNat ≤ 16777216
      · rw [if_pos e]
        simp only [wp_ok]
        exact propext ⟨fun q => ⟨e, q⟩, fun q => q.2⟩
      · rw [if_neg e]
        simp only [wp_bad]
        exact propext ⟨fun q => q.elim, fun q => e q.1⟩
    | _ => rfl
@[simp] theorem seqL_lst {xs : List D} : lAdd.seqL h (.lst xs) = some xs := rfl
theorem seqL_ref {xs : List D} {n : Nat} (e : h[n]? = some (.lst xs)) : lAdd.seqL h (.ref n) = some xs := by
  unfold lAdd.seqL
  simp only [e]
@[simp] theorem wp_l1 {f : D → M (List D)} {Q : List D → PH → Prop} : wp (l1 f a Γ h) Q = wp (a Γ h) fun x h => wp (f x h) Q := by
  unfold l1
  simp only [wp_bnd]
@[simp] theorem wp_dListL {xs : List D} {Q : List D → PH → Prop} : wp (dList (.lst xs) h) Q = Q xs h := rfl
@[simp] theorem wp_dListT {xs : List D} {Q : List D → PH → Prop} : wp (dList (.tup xs) h) Q = Q xs h := rfl
theorem wp_dListO {xs : List D} {n : Nat} {Q : List D → PH → Prop} (e : h[n]? = some (.lst xs)) : wp (dList (.ref n) h) Q = Q xs h := by
  unfold dList seqD
  simp only [e]
  rfl
@[simp] theorem wp_gSl {l u : Env → M (Option Int)} : wp (gSl a l u Γ h) Q = wp (a Γ h) fun x h => wp (l Γ h) fun i h => wp (u Γ h) fun j h => (match x with
    | .tup xs => Q (.tup (cutD xs i j)) h
    | _ => False) := by
  unfold gSl
  simp only [wp_bnd]
  congr
  funext x h
  congr
  funext i h
  congr
  funext j h
  cases x <;> rfl
@[simp] theorem wp_orT : wp (gOrT a b Γ h) Q = wp (a Γ h) fun d h => (match truD d with
    | some true => Q d h
    | some false => wp (b Γ h) Q
    | none => False) := by
  unfold gOrT
  simp only [wp_bnd]
  congr
  funext d h
  cases truD d with
  | none => rfl
  | some k => cases k <;> rfl
@[simp] theorem wp_dispE {ps : List (EM × EM)} : wp (gDisp ps Γ h) Q = wp (pairsM ps Γ (h ++ [.dct []])) fun kvs h2 => (match h2[h.length]? with
    | some (.dct []) => Q (.ref h.length) (h2.set h.length (.dct (mergeD [] kvs)))
    | _ => False) := by
  unfold gDisp
  rw [wp_bnd]
  congr
  funext kvs h2
  split
  · rename_i e
    simp only [e, wp_ok]
  · rename_i x e
    cases q : h2[h.length]? with
    | none => rfl
    | some o =>
      cases o with
      | dct l =>
        cases l with
        | nil => exact (e q).elim
        | cons y ys => rfl
      | _ => rfl
@[simp] theorem wp_pairs0 {Q : List (Key × D) → PH → Prop} : wp (pairsM [] Γ h) Q = Q [] h := rfl
@[simp] theorem wp_pairs1 {r : List (EM × EM)} {Q : List (Key × D) → PH → Prop} : wp (pairsM ((a, b) :: r) Γ h) Q = wp (a Γ h) fun kd h => wp (b Γ h) fun d h => wp (pairsM r Γ h) fun ps h => (match keyD kd with
    | some key => Q ((key, d) :: ps) h
    | none => False) := by
  show wp (bnd (a Γ) (fun kd => bnd (b Γ) fun d => bnd (pairsM r Γ) fun ps => fun h => match keyD kd with
    | some key => .ok ((key, d) :: ps) h
    | none => .bad) h) Q = _
  simp only [wp_bnd]
  congr
  funext kd h
  congr
  funext d h
  congr
  funext ps h
  cases keyD kd <;> rfl
@[simp] theorem keyD_int {i : Int} : keyD (.int i) = some (.inl i) := rfl
@[simp] theorem keyD_str {i : Str} : keyD (.str i) = some (.inr i) := rfl
@[simp] theorem wp_gUpd : wp (gUpd a b Γ h) Q = wp (a Γ h) fun d h => isDctD h d = true ∧ wp (b Γ h) fun x h => (match d, x with
    | .ref n, .ref m => (match h[n]?, h[m]? with
      | some (.dct kvs), some (.dct more) => (n ≠ m ∧ kvs.length + more.length ≤ 16777216) ∧ Q .non (h.set n (.dct (mergeD kvs more)))
      | _, _ => False)
    | _, _ => False) := by
  unfold gUpd
  simp only [wp_bnd]
  congr
  funext d h
  by_cases e : isDctD h d = true
  · simp only [e, if_true, true_and, wp_bnd]
    congr
    funext x h
    cases d with
    | ref n =>
      cases x with
      | ref m =>
        simp only
        cases h[n]? with
        | none => rfl
        | some o =>
          cases o with
          | dct kvs =>
            cases h[m]? with
            | none => rfl
            | some o =>
              cases o with
              | dct more =>
                simp only
                by_cases c : n ≠ m ∧ kvs.length + more.length ≤ 16777216
                · rw [if_pos c]
                  simp only [wp_ok]
                  exact propext ⟨fun q => ⟨c, q⟩, fun q => q.2⟩
                · rw [if_neg c]
                  simp only [wp_bad]
                  exact propext ⟨fun q => q.elim, fun q => c q.1⟩
              | _ => rfl
          | _ => rfl
      | _ => rfl
    | _ => rfl
  · simp [e]
theorem wp_copyD {n : Nat} {kvs : List (Key × D)} (e : h[n]? = some (.dct kvs)) : wp (dCopy (.ref n) h) Q = Q (.ref h.length) (h ++ [.dct kvs]) := by
  unfold dCopy
  simp only [e]
  rfl
theorem rgOk_iff {i j : Int} (h1 : -4611686018427387904 ≤ i ∧ i < 4611686018427387904 ∧ -4611686018427387904 ≤ j ∧ j < 4611686018427387904 ∧ j - i ≤ 16777216) : rgOk i j := h1
@[simp] theorem wp_lRg1 {Q : List D → PH → Prop} : wp (lRg1 a Γ h) Q = wp (a Γ h) fun d h => (match d with
    | .int n => rgOk 0 n ∧ Q (rngD 0 (n - 0).toNat) h
    | _ => False) := by
  unfold lRg1
  simp only [wp_bnd]
  congr
  funext d h
  cases d with
  | int n =>
    simp only
    by_cases e : rgOk 0 n <;> simp only [e, if_pos, if_neg, wp_ok, wp_bad, true_and, false_and, not_false_eq_true]
  | _ => rfl
@[simp] theorem wp_lRg2 {Q : List D → PH → Prop} : wp (lRg2 a b Γ h) Q = wp (a Γ h) fun d h => wp (b Γ h) fun e h => (match d, e with
    | .int i, .int j => rgOk i j ∧ Q (rngD i (j - i).toNat) h
    | _, _ => False) := by
  unfold lRg2
  simp only [wp_bnd]
  congr
  funext d h
  congr
  funext e h
  cases d with
  | int i =>
    cases e with
    | int j =>
      simp only
      by_cases e : rgOk i j <;> simp only [e, if_pos, if_neg, wp_ok, wp_bad, true_and, false_and, not_false_eq_true]
    | _ => rfl
  | _ => rfl
@[simp] theorem wp_gNeg {i : Int} : wp (dNeg (.int i) h) Q = Q (.int (-i)) h := rfl
@[simp] theorem wp_par2 {i j : Nat} {Q : Fl → PH → Prop} : wp (sPar2 i j a b Γ h) Q = wp (a Γ h) fun x h => wp (b Γ h) fun y h => Q (.nx ((Γ.set i (some x)).set j (some y))) h := by
  unfold sPar2
  simp only [wp_bnd, wp_pur]
@[simp] theorem wp_addT {xs ys : List D} : wp (dAdd (.tup xs) (.tup ys) h) Q = (xs.length + ys.length ≤ 16777216 ∧ Q (.tup (xs ++ ys)) h) := by
  unfold dAdd
  by_cases e : xs.length + ys.length ≤ 16777216 <;> simp [e]
end
/-! ### comprehensions and loops that change things -/
section
theorem wp_compVE {one : D → M (List D)} {xs : List D} (I : Nat → List D → PH → Prop) {Q : List D → PH → Prop} (hs : ∀ i x acc h, I i acc h → xs[i]? = some x → wp (one x h) fun ys h' => I (i + 1) (acc ++ ys) h') (he : ∀ acc h, I xs.length acc h → Q acc h) :
    ∀ (r : List D) (i : Nat) (acc : List D) (h : PH), r = xs.drop i → i ≤ xs.length → I i acc h → wp (compV one r h) fun ys h' => Q (acc ++ ys) h'
  | [], i, acc, h, e, hi, q => by
    have : i = xs.length := by
      have := congrArg List.length e
      rw [List.length_drop] at this
      simp at this
      omega
    subst this
    show Q (acc ++ []) h
    rw [List.append_nil]
    exact he acc h q
  | x :: r, i, acc, h, e, hi, q => by
    have hl : i < xs.length := by
      rcases Nat.lt_or_ge i xs.length with h | h
      · exact h
      · rw [List.drop_eq_nil_of_le h] at e
        cases e
    rw [List.drop_eq_getElem_cons hl] at e
    injection e with e1 e2
    unfold compV
    simp only [wp_bnd, wp_noX]
    refine wp_mono (hs i x acc h q (by rw [e1]; exact List.getElem?_eq_getElem hl)) fun ys h' q' => ?_
    refine wp_mono (wp_compVE I hs he r (i + 1) (acc ++ ys) h' e2 hl q') fun zs h2 q2 => ?_
    show Q (acc ++ (ys ++ zs)) h2
    rw [← List.append_assoc]
    exact q2
theorem lComp_VE {vs : List Nat} {it : Env → M Itm} {tg : GM} {tt : TM} {el : EM} {Γ : Env} {xs : List D} {Q : List D → PH → Prop} {h : PH} (ei : ∀ Q, wp (it Γ h) Q = Q (.vals xs) h) (I : Nat → List D → PH → Prop) (h0 : I 0 [] h)
    (hs : ∀ i x acc h, I i acc h → xs[i]? = some x → wp (oneC tg tt el (wipeE Γ vs) x h) fun ys h' => I (i + 1) (acc ++ ys) h') (he : ∀ acc h, I xs.length acc h → Q acc h) : wp (lComp vs it tg tt el Γ h) Q := by
  unfold lComp
  rw [wp_bnd, ei]
  show wp (compV _ xs h) Q
  have := wp_compVE I hs he xs 0 [] h (by simp) (Nat.zero_le _) h0
  exact wp_mono this fun a h q => q
theorem wp_compRE {one : D → M (List D)} {n : Nat} {xs : List D} (I : Nat → List D → PH → Prop) {Q : List D → PH → Prop} (hn : ∀ i acc h, I i acc h → h[n]? = some (.lst xs)) (hs : ∀ i x acc h, I i acc h → xs[i]? = some x → wp (one x h) fun ys h' => I (i + 1) (acc ++ ys) h') (he : ∀ acc h, I xs.length acc h → Q acc h) :
    ∀ (fuel i : Nat) (acc : List D) (h : PH), i ≤ xs.length → xs.length ≤ i + fuel → I i acc h → wp (compR one n fuel i h) fun ys h' => Q (acc ++ ys) h'
  | fuel, i, acc, h, hi, hf, q => by
    unfold compR
    simp only [hn i acc h q]
    cases e : xs[i]? with
    | none =>
      have : i = xs.length := by
        have := List.getElem?_eq_none_iff.mp e
        omega
      subst this
      show Q (acc ++ []) h
      rw [List.append_nil]
      exact he acc h q
    | some x =>
      have hl : i < xs.length := (List.getElem?_eq_some_iff.mp e).1
      cases fuel with
      | zero => omega
      | succ fuel =>
        simp only [wp_bnd, wp_noX]
        refine wp_mono (hs i x acc h q e) fun ys h' q' => ?_
        refine wp_mono (wp_compRE I hn hs he fuel (i + 1) (acc ++ ys) h' hl (by omega) q') fun zs h2 q2 => ?_
        show Q (acc ++ (ys ++ zs)) h2
        rw [← List.append_assoc]
        exact q2
theorem lComp_RE {vs : List Nat} {it : Env → M Itm} {tg : GM} {tt : TM} {el : EM} {Γ : Env} {n : Nat} {xs : List D} {Q : List D → PH → Prop} {h : PH} (ei : ∀ Q, wp (it Γ h) Q = Q (.ref n) h) (hl : xs.length ≤ 16777216) (I : Nat → List D → PH → Prop) (h0 : I 0 [] h) (hn : ∀ i acc h, I i acc h → h[n]? = some (.lst xs))
    (hs : ∀ i x acc h, I i acc h → xs[i]? = some x → wp (oneC tg tt el (wipeE Γ vs) x h) fun ys h' => I (i + 1) (acc ++ ys) h') (he : ∀ acc h, I xs.length acc h → Q acc h) : wp (lComp vs it tg tt el Γ h) Q := by
  unfold lComp
  rw [wp_bnd, ei]
  simp only [hn 0 [] h h0, if_pos hl]
  have := wp_compRE I hn hs he xs.length 0 [] h (Nat.zero_le _) (by omega) h0
  exact wp_mono this fun a h q => q
theorem wp_rg1' {a : EM} {Γ : Env} {h : PH} {Q : Itm → PH → Prop} : wp (rg1 a Γ h) Q = wp (a Γ h) fun d h => (match d with
    | .int j => (-4611686018427387904 ≤ j ∧ j ≤ 16777216) ∧ Q (.vals (rngD 0 j.toNat)) h
    | _ => False) := by
  unfold rg1
  rw [wp_bnd]
  congr
  funext d h
  cases d with
  | int j =>
    simp only
    by_cases e : -4611686018427387904 ≤ j ∧ j ≤ 16777216
    · rw [if_pos e]
      simp only [wp_ok]
      exact propext ⟨fun q => ⟨e, q⟩, fun q => q.2⟩
    · rw [if_neg e]
      simp only [wp_bad]
      exact propext ⟨fun q => q.elim, fun q => e q.1⟩
  | _ => rfl
end
end Sw
namespace Sw
open PySem PySem.Spec L2
/-! ### small comprehensions, unrolled -/
section
variable {h : PH} {Q : List D → PH → Prop}
@[simp] theorem wp_compV0 {one : D → M (List D)} : wp (compV one [] h) Q = Q [] h := rfl
@[simp] theorem wp_compV1 {one : D → M (List D)} {x : D} {xs : List D} : wp (compV one (x :: xs) h) Q = wp (one x h) fun ys h => wp (compV one xs h) fun zs h => Q (ys ++ zs) h := by
  show wp (bnd (noX (one x)) (fun o => bnd (compV one xs) fun ys => pur (o ++ ys)) h) Q = _
  simp only [wp_bnd, wp_noX, wp_pur]
theorem wp_lCompS {vs : List Nat} {it : Env → M Itm} {tg : GM} {tt : TM} {el : EM} {Γ : Env} {xs : List D} (ei : ∀ Q, wp (it Γ h) Q = Q (.vals xs) h) : wp (lComp vs it tg tt el Γ h) Q = wp (compV (oneC tg tt el (wipeE Γ vs)) xs h) Q := by
  unfold lComp
  rw [wp_bnd, ei]
end
end Sw
namespace Sw
open PySem PySem.Spec L2
@[simp] theorem wp_ownM {Γ : Env} {h : PH} {Q : Fl → PH → Prop} {f : PH → List D → List D → Option (D × List D)} {i : Nat} {ms : List EM} : wp (sOwnM f i ms Γ h) Q = (match Γ[i]? with
    | some (some (.lst xs)) => wp (seqA ms Γ h) fun ys h => (match f h xs ys with
      | some (_, zs) => Q (.nx (Γ.set i (some (.lst zs)))) h
      | none => False)
    | _ => False) := by
  cases e : Γ[i]? with
  | none =>
    unfold sOwnM
    simp only [e]
    rfl
  | some o =>
    cases o with
    | none =>
      unfold sOwnM
      simp only [e]
      rfl
    | some d =>
      cases d with
      | lst xs =>
        rw [wp_sOwnM e] <;> rfl
      | _ =>
        unfold sOwnM
        simp only [e]
        rfl
end Sw

set_option maxHeartbeats 400000
/-! Sw, part X: reckoning with shadows from the outside in: what comes behind is not looked at before its turn. -/
namespace Sw
open PySem PySem.Spec L2
universe u
variable {α β : Type}
abbrev Ty {α : Sort u} (_ : α) : Sort u := α
/-- the same, but simp does not look into it -/
def hid {α : Sort u} (a : α) : Ty a := a
@[simp ↓] theorem hid_1 {δ : Sort u} {f : α → δ} {a : α} : hid f a = f a := by unfold hid; rfl
@[simp ↓] theorem hid_2 {δ : Sort u} {f : α → β → δ} {a : α} {b : β} : hid f a b = f a b := by unfold hid; rfl
theorem hid_eq {α : Sort u} (a : α) : hid a = a := rfl
/-- the value at a place of the names -/
def lkE : Env → Nat → (D → Prop) → Prop
  | some d :: _, 0, K => K d
  | _ :: Γ, n + 1, K => lkE Γ n K
  | _, _, _ => False
@[simp ↓] theorem lkE_0 {d : D} {Γ : Env} {K : D → Prop} : lkE (some d :: Γ) 0 K = K d := by unfold lkE; rfl
@[simp ↓] theorem lkE_s {o : Option D} {Γ : Env} {n : Nat} {K : D → Prop} : lkE (o :: Γ) (n + 1) K = lkE Γ n K := by cases o <;> rfl
@[simp] theorem lkE_0' {d : D} {Γ : Env} {K : D → Prop} : lkE (some d :: Γ) 0 K = K d := lkE_0
@[simp] theorem lkE_s' {o : Option D} {Γ : Env} {n : Nat} {K : D → Prop} : lkE (o :: Γ) (n + 1) K = lkE Γ n K := lkE_s
theorem lkE_eq : ∀ {Γ : Env} {i : Nat} {K : D → Prop}, lkE Γ i K = (match Γ[i]? with
    | some (some d) => K d
    | _ => False)
  | [], i, K => by cases i <;> rfl
  | none :: Γ, 0, K => rfl
  | some d :: Γ, 0, K => rfl
  | o :: Γ, i + 1, K => by
    rw [lkE_s, lkE_eq, List.getElem?_cons_succ]
theorem lkE_at {Γ : Env} {i : Nat} {d : D} {K : D → Prop} (e : Γ[i]? = some (some d)) : lkE Γ i K = K d := by
  rw [lkE_eq, e]
def bindO (o : Option α) (K : α → Prop) : Prop := match o with
  | some a => K a
  | none => False
@[simp ↓] theorem bindO_some {a : α} {K : α → Prop} : bindO (some a) K = K a := by unfold bindO; rfl
@[simp] theorem bindO_some' {a : α} {K : α → Prop} : bindO (some a) K = K a := bindO_some
@[simp] theorem bindO_none {K : α → Prop} : bindO none K = False := by unfold bindO; rfl
theorem bindO_eq {o : Option α} {K : α → Prop} : bindO o K = (match o with
    | some a => K a
    | none => False) := rfl
section
variable {Γ : Env} {h : PH} {Q : D → PH → Prop} {a b c : EM}
@[simp ↓] theorem wq_gV {i : Nat} : wp (gV i Γ h) Q = lkE Γ i (hid fun d => Q d h) := by
  rw [wp_gV, lkE_eq]
  rfl
@[simp ↓] theorem wq_gC {d : D} : wp (gC d Γ h) Q = Q d h := wp_gC
@[simp ↓] theorem wq_g2 {f : D → D → M D} : wp (g2 f a b Γ h) Q = wp (a Γ h) (hid fun x h => wp (b Γ h) (hid fun y h => wp (f x y h) Q)) := wp_g2
@[simp ↓] theorem wq_g1 {f : D → M D} : wp (g1 f a Γ h) Q = wp (a Γ h) (hid fun x h => wp (f x h) Q) := wp_g1
@[simp ↓] theorem wq_tB {Q : Bool → PH → Prop} : wp (tB a Γ h) Q = wp (a Γ h) (hid fun d h => wp (isB d h) Q) := wp_tB
@[simp ↓] theorem wq_isB {d : Bool} {Q : Bool → PH → Prop} : wp (isB (.bl d) h) Q = Q d h := wp_isB
@[simp ↓] theorem wq_gChain {f f' : D → D → M D} : wp (gChain f f' a b c Γ h) Q = wp (a Γ h) (hid fun x h => wp (b Γ h) (hid fun y h => wp (f x y h) (hid fun d h => wp (isB d h) (hid fun k h => if k = true then wp (c Γ h) (hid fun z h => wp (f' y z h) Q) else Q (.bl false) h)))) := wp_gChain
@[simp ↓] theorem wq_tNt {t : TM} {Q : Bool → PH → Prop} : wp (tNt t Γ h) Q = wp (t Γ h) (hid fun k h => Q (!k) h) := wp_tNt
@[simp ↓] theorem wq_tAn {s t : TM} {Q : Bool → PH → Prop} : wp (tAn s t Γ h) Q = wp (s Γ h) (hid fun k h => if k = true then wp (t Γ h) Q else Q false h) := wp_tAn
@[simp ↓] theorem wq_tOrr {s t : TM} {Q : Bool → PH → Prop} : wp (tOrr s t Γ h) Q = wp (s Γ h) (hid fun k h => if k = true then Q true h else wp (t Γ h) Q) := wp_tOrr
@[simp ↓] theorem wq_gAn : wp (gAn a b Γ h) Q = wp (a Γ h) (hid fun d h => wp (isB d h) (hid fun k h => if k = true then wp (b Γ h) Q else Q (.bl false) h)) := wp_gAn
@[simp ↓] theorem wq_gOr : wp (gOr a b Γ h) Q = wp (a Γ h) (hid fun d h => wp (isB d h) (hid fun k h => if k = true then Q (.bl true) h else wp (b Γ h) Q)) := wp_gOr
@[simp ↓] theorem wq_gNt : wp (gNt a Γ h) Q = wp (a Γ h) (hid fun d h => wp (isB d h) (hid fun k h => Q (.bl (!k)) h)) := wp_gNt
@[simp ↓] theorem wq_gIf {t : TM} : wp (gIf t a b Γ h) Q = wp (t Γ h) (hid fun k h => if k = true then wp (a Γ h) Q else wp (b Γ h) Q) := wp_gIf
@[simp ↓] theorem wq_seqA0 {Q : List D → PH → Prop} : wp (seqA [] Γ h) Q = Q [] h := wp_seqA0
@[simp ↓] theorem wq_seqA1 {m : EM} {ms : List EM} {Q : List D → PH → Prop} : wp (seqA (m :: ms) Γ h) Q = wp (m Γ h) (hid fun x h => wp (seqA ms Γ h) (hid fun xs h => Q (x :: xs) h)) := wp_seqA1
@[simp ↓] theorem wq_gTup {ms : List EM} : wp (gTup ms Γ h) Q = wp (seqA ms Γ h) (hid fun xs h => Q (.tup xs) h) := wp_gTup
@[simp ↓] theorem wq_gVal {m : LM} : wp (gVal m Γ h) Q = wp (m Γ h) (hid fun xs h => Q (.lst xs) h) := wp_gVal
@[simp ↓] theorem wq_gNew {m : LM} : wp (gNew m Γ h) Q = wp (m Γ h) (hid fun xs h => Q (.ref h.length) (h ++ [.lst xs])) := wp_gNew
@[simp ↓] theorem wq_oNo {Q : Option Int → PH → Prop} : wp (oNo Γ h) Q = Q none h := wp_oNo
def isI (d : D) : Option Int := match d with
  | .int i => some i
  | _ => none
@[simp] theorem isI_int {i : Int} : isI (.int i) = some i := rfl
@[simp ↓] theorem wq_oSome {Q : Option Int → PH → Prop} : wp (oSome a Γ h) Q = wp (a Γ h) (hid fun d h => bindO (isI d) (hid fun i => Q (some i) h)) := by
  rw [wp_oSome]
  unfold hid
  congr
  funext d h
  cases d <;> rfl
@[simp ↓] theorem wq_lSl {l u : Env → M (Option Int)} {Q : List D → PH → Prop} : wp (lSl a l u Γ h) Q = wp (a Γ h) (hid fun x h => wp (l Γ h) (hid fun i h => wp (u Γ h) (hid fun j h => bindO (lAdd.seqL h x) (hid fun xs => Q (cutD xs i j) h)))) := by
  rw [wp_lSl]
  unfold hid
  congr
  funext x h
  congr
  funext i h
  congr
  funext j h
  cases lAdd.seqL h x <;> rfl
@[simp ↓] theorem wq_gCall {f : List D → M D} {ms : List EM} : wp (gCall f ms Γ h) Q = wp (seqA ms Γ h) (hid fun xs h => wp (f xs h) Q) := wp_gCall
@[simp ↓] theorem wq_gFld {C f : Str} : wp (gFld C f a Γ h) Q = wp (a Γ h) (hid fun d h => bindO (fldOf C f d h) (hid fun x => Q x h)) := by
  rw [wp_gFld]
  unfold hid
  congr
  funext d h
  cases fldOf C f d h <;> rfl
def methP (C m : Str) (d : D) (h : PH) : Prop := match d with
  | .ref n => (match h[n]? with
    | some (.ins C' fs) => C' = C ∧ (getD_ fs m).isNone = true
    | _ => False)
  | _ => False
@[simp] theorem methP_ref {C m : Str} {n : Nat} : methP C m (.ref n) h = (match h[n]? with
    | some (.ins C' fs) => C' = C ∧ (getD_ fs m).isNone = true
    | _ => False) := rfl
@[simp ↓] theorem wq_gMeth {C m : Str} {f : List D → M D} {ms : List EM} : wp (gMeth C m f a ms Γ h) Q = wp (a Γ h) (hid fun d h => methP C m d h ∧ wp (seqA ms Γ h) (hid fun ds h => wp (f (d :: ds) h) Q)) := by
  rw [wp_gMeth_]
  unfold hid
  congr
  funext d h
  cases d with
  | ref n =>
    simp only [methP]
    cases h[n]? with
    | none => exact propext ⟨fun z => z.elim, fun z => z.1.elim⟩
    | some o =>
      cases o with
      | ins C' fs => rfl
      | _ => exact propext ⟨fun z => z.elim, fun z => z.1.elim⟩
  | _ => exact propext ⟨fun z => z.elim, fun z => z.1.elim⟩
def lstAt (h : PH) (d : D) : Option (Nat × List D) := match d with
  | .ref n => (match h[n]? with
    | some (.lst xs) => some (n, xs)
    | _ => none)
  | _ => none
@[simp] theorem lstAt_ref {n : Nat} : lstAt h (.ref n) = (match h[n]? with
    | some (.lst xs) => some (n, xs)
    | _ => none) := rfl
@[simp ↓] theorem wq_gLm {f : PH → List D → List D → Option (D × List D)} {ms : List EM} : wp (gLm f a ms Γ h) Q = wp (a Γ h) (hid fun d h => isLstD h d = true ∧ wp (seqA ms Γ h) (hid fun ys h => bindO (lstAt h d) (hid fun p => bindO (f h p.2 ys) (hid fun q => Q q.1 (h.set p.1 (.lst q.2)))))) := by
  rw [wp_gLm]
  unfold hid
  congr
  funext d h
  congr
  funext ys h
  cases d with
  | ref n =>
    simp only [lstAt]
    cases h[n]? with
    | none => rfl
    | some o =>
      cases o with
      | lst xs =>
        show _ = bindO (some (n, xs)) _
        rw [bindO_some]
        show (match f h xs ys with
          | some (x, zs) => Q x (h.set n (.lst zs))
          | none => False) = bindO (f h xs ys) _
        cases f h xs ys <;> rfl
      | _ => rfl
  | _ => rfl
end
/-! values -/
section
variable {h : PH} {Q : D → PH → Prop} {i j : Int} {a b c d e : D} {l : List D} {Γ : Env} {m m2 : EM}
@[simp ↓] theorem wq_ixT0 : wp (dIx (.tup (a :: l)) (.int 0) h) Q = Q a h := by rw [wp_ixT, at0]
@[simp ↓] theorem wq_ixT1 : wp (dIx (.tup (a :: b :: l)) (.int 1) h) Q = Q b h := by rw [wp_ixT, at1]
@[simp ↓] theorem wq_ixT2 : wp (dIx (.tup (a :: b :: c :: l)) (.int 2) h) Q = Q c h := by rw [wp_ixT, at2]
@[simp ↓] theorem wq_ixT3 : wp (dIx (.tup (a :: b :: c :: d :: l)) (.int 3) h) Q = Q d h := by rw [wp_ixT, at3]
@[simp ↓] theorem wq_ixT : wp (dIx (.tup l) (.int i) h) Q = bindO (atI l i) (hid fun d => Q d h) := by
  rw [wp_ixT]
  cases atI l i <;> rfl
@[simp ↓] theorem wq_ixL : wp (dIx (.lst l) (.int i) h) Q = bindO (atI l i) (hid fun d => Q d h) := by
  rw [wp_ixL]
  cases atI l i <;> rfl
@[simp ↓] theorem wq_ixR {xs : List Int} : wp (dIx (.rd xs) (.int i) h) Q = bindO (atI (xs.map D.int) i) (hid fun d => Q d h) := by
  rw [wp_ixR]
  cases atI (xs.map D.int) i <;> rfl
/-- what stands at an index of an object -/
def obAt (h : PH) (n : Nat) (y : D) : Option D := match h[n]? with
  | some (.lst xs) => (isI y).bind (atI xs)
  | some (.dct kvs) => (keyD y).bind (getD_ kvs)
  | _ => none
theorem wq_ixRef {n : Nat} {y : D} : wp (dIx (.ref n) y h) Q = bindO (match h[n]? with
    | some (.lst xs) => (isI y).bind (atI xs)
    | some (.dct kvs) => (keyD y).bind (getD_ kvs)
    | _ => none) (hid fun d => Q d h) := by
  rw [wp_ixRef]
  cases h[n]? with
  | none => rfl
  | some o =>
    cases o with
    | lst xs =>
      cases y with
      | int i =>
        show wp (ixS xs (.int i) h) Q = bindO (atI xs i) _
        rw [wp_ixS]
        cases atI xs i <;> rfl
      | _ => rfl
    | dct kvs =>
      show wp (ixK kvs y h) Q = _
      rw [wp_ixK]
      cases keyD y with
      | none => rfl
      | some k =>
        show (match getD_ kvs k with
          | some d => Q d h
          | none => False) = bindO (getD_ kvs k) _
        cases getD_ kvs k <;> rfl
    | _ => rfl
@[simp ↓] theorem wq_lAdd {Q : List D → PH → Prop} : wp (lAdd m m2 Γ h) Q = wp (m Γ h) (hid fun x h => wp (m2 Γ h) (hid fun y h => bindO (lAdd.seqL h x) (hid fun xs => bindO (lAdd.seqL h y) (hid fun ys => xs.length + ys.length ≤ 16777216 ∧ Q (xs ++ ys) h)))) := by
  rw [wp_lAdd]
  unfold hid
  congr
  funext x h
  congr
  funext y h
  cases lAdd.seqL h x with
  | none => rfl
  | some xs => cases lAdd.seqL h y <;> rfl
@[simp ↓] theorem wq_lMul {Q : List D → PH → Prop} : wp (lMul m m2 Γ h) Q = wp (m Γ h) (hid fun x h => wp (m2 Γ h) (hid fun y h => bindO (lAdd.seqL h x) (hid fun xs => bindO (isI y) (hid fun k => (-(2 ^ 63) ≤ k ∧ k < 2 ^ 63 ∧ xs.length * k.toNat ≤ 16777216) ∧ Q (List.replicate k.toNat xs).flatten h)))) := by
  rw [wp_lMul]
  unfold hid
  congr
  funext x h
  congr
  funext y h
  cases lAdd.seqL h x with
  | none => rfl
  | some xs => cases y <;> rfl
@[simp ↓] theorem wq_l1 {f : D → M (List D)} {Q : List D → PH → Prop} : wp (l1 f m Γ h) Q = wp (m Γ h) (hid fun x h => wp (f x h) Q) := wp_l1
def tupOf (d : D) : Option (List D) := match d with
  | .tup xs => some xs
  | _ => none
@[simp] theorem tupOf_tup {xs : List D} : tupOf (.tup xs) = some xs := rfl
@[simp ↓] theorem wq_gSl {l u : Env → M (Option Int)} : wp (gSl m l u Γ h) Q = wp (m Γ h) (hid fun x h => wp (l Γ h) (hid fun i h => wp (u Γ h) (hid fun j h => bindO (tupOf x) (hid fun xs => Q (.tup (cutD xs i j)) h)))) := by
  rw [wp_gSl]
  unfold hid
  congr
  funext x h
  congr
  funext i h
  congr
  funext j h
  cases x <;> rfl
@[simp ↓] theorem wq_orT : wp (gOrT m m2 Γ h) Q = wp (m Γ h) (hid fun d h => bindO (truD d) (hid fun k => if k = true then Q d h else wp (m2 Γ h) Q)) := by
  rw [wp_orT]
  unfold hid
  congr
  funext d h
  cases truD d with
  | none => rfl
  | some k => cases k <;> simp [bindO_some, hid_eq]
def emptyAt (h : PH) (n : Nat) : Prop := match h[n]? with
  | some (.dct []) => True
  | _ => False
@[simp] theorem emptyAt_eq {n : Nat} : emptyAt h n = (match h[n]? with
  | some (.dct []) => True
  | _ => False) := rfl
@[simp ↓] theorem wq_disp {ps : List (EM × EM)} : wp (gDisp ps Γ h) Q = wp (pairsM ps Γ (h ++ [.dct []])) (hid fun kvs h2 => emptyAt h2 h.length ∧ Q (.ref h.length) (h2.set h.length (.dct (mergeD [] kvs)))) := by
  rw [wp_dispE]
  unfold hid
  congr
  funext kvs h2
  unfold emptyAt
  cases h2[h.length]? with
  | none => exact propext ⟨fun z => z.elim, fun z => z.1.elim⟩
  | some o =>
    cases o with
    | dct l =>
      cases l with
      | nil => exact propext ⟨fun z => ⟨trivial, z⟩, fun z => z.2⟩
      | cons x l => exact propext ⟨fun z => z.elim, fun z => z.1.elim⟩
    | _ => exact propext ⟨fun z => z.elim, fun z => z.1.elim⟩
@[simp ↓] theorem wq_pairs0 {Q : List (Key × D) → PH → Prop} : wp (pairsM [] Γ h) Q = Q [] h := wp_pairs0
@[simp ↓] theorem wq_pairs1 {r : List (EM × EM)} {Q : List (Key × D) → PH → Prop} : wp (pairsM ((m, m2) :: r) Γ h) Q = wp (m Γ h) (hid fun kd h => wp (m2 Γ h) (hid fun d h => wp (pairsM r Γ h) (hid fun ps h => bindO (keyD kd) (hid fun key => Q ((key, d) :: ps) h)))) := by
  rw [wp_pairs1]
  unfold hid
  congr
  funext kd h
  congr
  funext d h
  congr
  funext ps h
  cases keyD kd <;> rfl
@[simp ↓] theorem wq_lRg1 {Q : List D → PH → Prop} : wp (lRg1 m Γ h) Q = wp (m Γ h) (hid fun d h => bindO (isI d) (hid fun n => rgOk 0 n ∧ Q (rngD 0 (n - 0).toNat) h)) := by
  rw [wp_lRg1]
  unfold hid
  congr
  funext d h
  cases d <;> rfl
@[simp ↓] theorem wq_lRg2 {Q : List D → PH → Prop} : wp (lRg2 m m2 Γ h) Q = wp (m Γ h) (hid fun d h => wp (m2 Γ h) (hid fun e h => bindO (isI d) (hid fun i => bindO (isI e) (hid fun j => rgOk i j ∧ Q (rngD i (j - i).toNat) h)))) := by
  rw [wp_lRg2]
  unfold hid
  congr
  funext d h
  congr
  funext e h
  cases d with
  | int i => cases e <;> rfl
  | _ => rfl
@[simp ↓] theorem wq_par2 {i j : Nat} {Q : Fl → PH → Prop} : wp (sPar2 i j m m2 Γ h) Q = wp (m Γ h) (hid fun x h => wp (m2 Γ h) (hid fun y h => Q (.nx ((Γ.set i (some x)).set j (some y))) h)) := wp_par2
end
/-! statements -/
section
variable {Γ : Env} {h : PH} {Q : Fl → PH → Prop} {a b : SM}
/-- on behind a statement -/
def onF (Q : Fl → PH → Prop) (b : SM) : Fl → PH → Prop := fun f h => match f with
  | .nx Γ' => wp (b Γ' h) Q
  | .rt d => Q (.rt d) h
@[simp ↓] theorem onF_nx {Γ' : Env} : onF Q b (.nx Γ') h = wp (b Γ' h) Q := rfl
@[simp ↓] theorem onF_rt {d : D} : onF Q b (.rt d) h = Q (.rt d) h := rfl
@[simp ↓] theorem wq_sNil : wp (sNil Γ h) Q = Q (.nx Γ) h := wp_sNil
@[simp ↓] theorem wq_sSeq : wp (sSeq a b Γ h) Q = wp (a Γ h) (hid (onF Q b)) := by
  have e : onF Q b = fun f h => (match f with
    | .nx Γ' => wp (b Γ' h) Q
    | .rt d => Q (.rt d) h) := rfl
  rw [wp_sSeq]
  unfold hid
  rw [e] <;> first
  | rfl
  | (congr; funext f h; cases f <;> rfl)
@[simp ↓] theorem wq_sExpr {m : EM} : wp (sExpr m Γ h) Q = wp (m Γ h) (hid fun _ h => Q (.nx Γ) h) := wp_sExpr
@[simp ↓] theorem wq_sRet {m : EM} : wp (sRet m Γ h) Q = wp (m Γ h) (hid fun d h => Q (.rt d) h) := wp_sRet
@[simp ↓] theorem wq_sRetN : wp (sRetN Γ h) Q = Q (.rt .non) h := wp_sRetN
@[simp ↓] theorem wq_sIf {t : TM} : wp (sIf t a b Γ h) Q = wp (t Γ h) (hid fun k h => if k = true then wp (a Γ h) Q else wp (b Γ h) Q) := wp_sIf
@[simp ↓] theorem wq_sSet {i : Nat} {m : EM} : wp (sSet i m Γ h) Q = wp (m Γ h) (hid fun d h => Q (.nx (Γ.set i (some d))) h) := wp_sSet
@[simp ↓] theorem wq_sOwn {i : Nat} {m : LM} : wp (sOwn i m Γ h) Q = wp (m Γ h) (hid fun xs h => Q (.nx (Γ.set i (some (.lst xs)))) h) := wp_sOwn
def ownAt (Γ : Env) (i : Nat) : Option (List D) := match Γ[i]? with
  | some (some (.lst xs)) => some xs
  | _ => none
@[simp] theorem ownAt_eq {i : Nat} : ownAt Γ i = (match Γ[i]? with
  | some (some (.lst xs)) => some xs
  | _ => none) := rfl
@[simp ↓] theorem wq_ownM {f : PH → List D → List D → Option (D × List D)} {i : Nat} {ms : List EM} : wp (sOwnM f i ms Γ h) Q = bindO (ownAt Γ i) (hid fun xs => wp (seqA ms Γ h) (hid fun ys h => bindO (f h xs ys) (hid fun p => Q (.nx (Γ.set i (some (.lst p.2)))) h))) := by
  rw [wp_ownM]
  unfold ownAt
  cases Γ[i]? with
  | none => rfl
  | some o =>
    cases o with
    | none => rfl
    | some d =>
      cases d with
      | lst xs =>
        have e : (fun (ys : List D) (h : PH) => (match f h xs ys with
          | some (_, zs) => Q (.nx (Γ.set i (some (.lst zs)))) h
          | none => False)) = fun ys h => bindO (f h xs ys) (hid fun p => Q (.nx (Γ.set i (some (.lst p.2)))) h) := by
          funext ys h
          cases f h xs ys <;> rfl
        show wp (seqA ms Γ h) (fun (ys : List D) (h : PH) => (match f h xs ys with
          | some (_, zs) => Q (.nx (Γ.set i (some (.lst zs)))) h
          | none => False)) = _
        rw [e]
        rfl
      | _ => rfl
@[simp ↓] theorem wq_sFld {C f : Str} {o m : EM} : wp (Sw.sFld C f o m Γ h) Q = wp (m Γ h) (hid fun d h => wp (o Γ h) (hid fun x h => bindO (putO C f d x h) (hid fun h' => Q (.nx Γ) h'))) := by
  rw [wp_sFld]
  unfold hid
  congr
  funext d h
  congr
  funext x h
  cases putO C f d x h <;> rfl
@[simp ↓] theorem wq_sAsg {m : EM} {g : GM} : wp (sAsg m g Γ h) Q = wp (m Γ h) (hid fun d h => wp (g d Γ h) (hid fun Γ' h => Q (.nx Γ') h)) := wp_sAsg
end
section
variable {Γ : Env} {h : PH} {Q : Env → PH → Prop} {d : D}
@[simp ↓] theorem wq_tgName {i : Nat} : wp (tgName i d Γ h) Q = Q (Γ.set i (some d)) h := wp_tgName
@[simp ↓] theorem wq_tgNil : wp (tgNil [] Γ h) Q = Q Γ h := wp_tgNil
@[simp ↓] theorem wq_tgCons {a : GM} {b : List D → Env → M Env} {r : List D} : wp (tgCons a b (d :: r) Γ h) Q = wp (a d Γ h) (hid fun Γ' h => wp (b r Γ' h) Q) := wp_tgCons
@[simp ↓] theorem wq_tgTup {n : Nat} {b : List D → Env → M Env} {xs : List D} : wp (tgTup n b (.tup xs) Γ h) Q = (xs.length = n ∧ wp (b xs Γ h) Q) := wp_tgTup
@[simp ↓] theorem wq_tgTupL {n : Nat} {b : List D → Env → M Env} {xs : List D} : wp (tgTup n b (.lst xs) Γ h) Q = (xs.length = n ∧ wp (b xs Γ h) Q) := wp_tgTupL
@[simp ↓] theorem wq_tgFld {C f : Str} {o : EM} : wp (tgFld C f o d Γ h) Q = wp (o Γ h) (hid fun x h => bindO (putO C f d x h) (hid fun h' => Q Γ h')) := by
  rw [wp_tgFld]
  unfold hid
  congr
  funext x h
  cases putO C f d x h <;> rfl
@[simp ↓] theorem wq_tgSub {o i : EM} : wp (tgSub o i d Γ h) Q = wp (o Γ h) (hid fun x h => wp (i Γ h) (hid fun y h => wp (setIx x y d h) (hid fun _ h => Q Γ h))) := wp_tgSub
theorem wq_setRef {n : Nat} {i : D} {Q : Unit → PH → Prop} : wp (setIx (.ref n) i d h) Q = bindO (match h[n]? with
    | some (.lst xs) => ((isI i).bind (ixN xs.length)).map fun j => Ob.lst (xs.set j d)
    | some (.dct kvs) => if kvs.length < 16777216 then (keyD i).map fun k => Ob.dct (putD_ kvs k d) else none
    | _ => none) (hid fun o => Q () (h.set n o)) := by
  rw [wp_setRef]
  cases h[n]? with
  | none => rfl
  | some o =>
    cases o with
    | lst xs =>
      cases i with
      | int k =>
        show (match ixN xs.length k with
          | some j => Q () (h.set n (.lst (xs.set j d)))
          | none => False) = bindO ((ixN xs.length k).map fun j => Ob.lst (xs.set j d)) _
        cases ixN xs.length k <;> rfl
      | _ => rfl
    | dct kvs =>
      simp only
      cases keyD i with
      | none =>
        show False = _
        by_cases c : kvs.length < 16777216
        · rw [if_pos c]
          rfl
        · rw [if_neg c]
          rfl
      | some k =>
        by_cases c : kvs.length < 16777216
        · simp only [if_pos c, c, true_and]
          rfl
        · simp only [if_neg c, c, false_and]
          rfl
    | _ => rfl
end
@[simp ↓] theorem wq_fnM {n m : Nat} {b : SM} {ds : List D} {h : PH} {Q : D → PH → Prop} : wp (fnM n m b ds h) Q = wp (b (ds.map some ++ List.replicate (m - n) none) h) (hid fun f h => match f with
  | .nx _ => Q .non h
  | .rt d => Q d h) := wp_fnM
section
variable {h : PH}
@[simp ↓] theorem wq_gIt {m : EM} {Γ : Env} {Q : Itm → PH → Prop} : wp (gIt m Γ h) Q = wp (m Γ h) (hid fun d h => wp (itD d h) Q) := wp_gIt
@[simp ↓] theorem wq_lIt {m : LM} {Γ : Env} {Q : Itm → PH → Prop} : wp (lIt m Γ h) Q = wp (m Γ h) (hid fun xs h => xs.length ≤ 16777216 ∧ Q (.vals xs) h) := wp_lIt
@[simp ↓] theorem wq_oneC {tg : GM} {tt : TM} {el : EM} {Γ : Env} {x : D} {Q : List D → PH → Prop} : wp (oneC tg tt el Γ x h) Q = wp (tg x Γ h) (hid fun Γ2 h => wp (tt Γ2 h) (hid fun k h => if k = true then wp (el Γ2 h) (hid fun y h => Q [y] h) else Q [] h)) := wp_oneC
@[simp ↓] theorem wq_tTrue {Γ : Env} {Q : Bool → PH → Prop} : wp (tTrue Γ h) Q = Q true h := wp_tTrue
@[simp ↓] theorem wq_bnd {m : M α} {f : α → M β} {Q : β → PH → Prop} : wp (bnd m f h) Q = wp (m h) (hid fun a h' => wp (f a h') Q) := wp_bnd
@[simp ↓] theorem wq_gMake {C : Str} {f : List D → M D} {ms : List EM} {Γ : Env} {Q : D → PH → Prop} : wp (gMake C f ms Γ h) Q = wp (seqA ms Γ h) (hid fun ds h => wp (f (.ref h.length :: ds) (h ++ [.ins C []])) (hid fun d h' => d = .non ∧ Q (.ref h.length) h')) := wp_gMake
@[simp ↓] theorem wq_compV1 {one : D → M (List D)} {x : D} {xs : List D} {Q : List D → PH → Prop} : wp (compV one (x :: xs) h) Q = wp (one x h) (hid fun ys h => wp (compV one xs h) (hid fun zs h => Q (ys ++ zs) h)) := wp_compV1
def ref2 (d x : D) : Option (Nat × Nat) := match d, x with
  | .ref n, .ref m => some (n, m)
  | _, _ => none
@[simp] theorem ref2_eq {n m : Nat} : ref2 (.ref n) (.ref m) = some (n, m) := rfl
end
end Sw

set_option maxHeartbeats 400000
/-! Sw, part Y: sorted of a dict's keys. -/
namespace Sw
open PySem PySem.Spec L2
variable {S : Sx} {O : List Nat}
def keysI : List (Key × D) → Option (List Int)
  | [] => some []
  | (.inl i, _) :: r => (keysI r).map fun l => i :: l
  | (.inr _, _) :: _ => none
theorem keysI_map : ∀ {kvs : List (Key × D)} {ks : List Int}, keysI kvs = some ks → kvs.map (·.1) = ks.map Sum.inl
  | [], ks, e => by
    cases e
    rfl
  | (.inl i, d) :: r, ks, e => by
    unfold keysI at e
    obtain ⟨l, e1, rfl⟩ := Option.map_eq_some_iff.mp e
    rw [List.map_cons, List.map_cons, keysI_map e1]
  | (.inr _, _) :: _, ks, e => by
    unfold keysI at e
    cases e
def dSortedD (d : D) : M (List D) := fun h => match d with
  | .ref n => (match h[n]? with
    | some (.dct kvs) => (match keysI kvs with
      | some ks => if ks.length < 64 then .ok ((isort ks).map D.int) h else .bad
      | none => .bad)
    | _ => .bad)
  | _ => .bad
theorem f_sortedD : F1F S "sorted" dSortedD := by
  refine ⟨_, fun X hX => call_sortedDI hX.calm, fun G h x d Q gK gc k r p => ?_⟩
  unfold dSortedD at p
  cases d with
  | ref n =>
    simp only at p
    obtain ⟨a, e1, rfl⟩ := r.ref_inv
    cases e : h[n]? with
    | none =>
      rw [e] at p
      exact p.elim
    | some o =>
      rw [e] at p
      cases o with
      | dct kvs =>
        simp only at p
        obtain ⟨kvs', q1, q2⟩ := k.obs n a _ e1 e
        cases e3 : keysI kvs with
        | none =>
          simp only [e3] at p
          exact p.elim
        | some ks =>
          simp only [e3] at p
          by_cases c : ks.length < 64
          · rw [if_pos c] at p
            refine ⟨a, kvs', ks, rfl, .inl q1, q2.1.trans (keysI_map e3), c, fun ys q pm sr hq => ?_⟩
            have e4 : ys = isort ks := sorted_unique (pm.trans (isort_perm ks).symm) sr (isort_sorted ks)
            rw [e4]
            refine p G (.refl G) k q _ hq ?_ (Reps.ints _)
            rw [List.length_map, (isort_perm ks).length_eq, sizeLine_eq]
            omega
          · rw [if_neg c] at p
            exact p.elim
      | _ => exact p.elim
  | _ => exact p.elim
@[simp] theorem wp_sortedD {n : Nat} {kvs : List (Key × D)} {ks : List Int} {h : PH} {Q : List D → PH → Prop} (e : h[n]? = some (.dct kvs)) (e2 : keysI kvs = some ks) (c : ks.length < 64) : wp (dSortedD (.ref n) h) Q = Q ((isort ks).map D.int) h := by
  unfold dSortedD
  simp only [e, e2, if_pos c]
  rfl
end Sw

set_option maxHeartbeats 4000000
namespace GK12
open PySem PySem.Spec L2 Sw
/-- what the module holds -/
structure HF (T : Tx) : Prop where
  calm : Calm T
  b_isinstance : Bn T "isinstance" (.builtin "isinstance")
  b_int : Bn T "int" (.type "int")
  b_str : Bn T "str" (.type "str")
  b_bool : Bn T "bool" (.type "bool")
  b_list : Bn T "list" (.type "list")
  b_tuple : Bn T "tuple" (.type "tuple")
  b_len : Bn T "len" (.builtin "len")
  b_range : Bn T "range" (.type "range")
  d__law_alike : DefT T ("_law_alike", none) "_law_alike" "_law_alike" st__law_alike
  g__law_alike : T.mg "_law_alike" = some (.ref (He.ga T.K "_law_alike"))
  d__law_rooms : DefT T ("_law_rooms", none) "_law_rooms" "_law_rooms" st__law_rooms
  g__law_rooms : T.mg "_law_rooms" = some (.ref (He.ga T.K "_law_rooms"))
  d__law_taken : DefT T ("_law_taken", none) "_law_taken" "_law_taken" st__law_taken
  g__law_taken : T.mg "_law_taken" = some (.ref (He.ga T.K "_law_taken"))
  c_Run : CT T "Run" ["program", "state", "steps", "stopped", "way", "why", "word"]
  c_State : CT T "State" ["cells", "given", "handles", "numbers", "said", "store"]
  d_Run_ended : DefT T ("Run", some "ended") "ended" "Run.ended" st_Run_ended
  e_Run_ended : Meth T.K (He.ga T.K "Run") "ended" (He.ma T.K (He.ga T.K "Run") "ended")
  l_Run : Cls T.K (He.ga T.K "Run")
  m_MOST_STEPS : Mn T "MOST_STEPS" (.int 400)
  d_Run_is_long : DefT T ("Run", some "is_long") "is_long" "Run.is_long" st_Run_is_long
  e_Run_is_long : Meth T.K (He.ga T.K "Run") "is_long" (He.ma T.K (He.ga T.K "Run") "is_long")
  m_FARTHEST : Mn T "FARTHEST" (.int 9999)
  b_min : Bn T "min" (.builtin "min")
  b_max : Bn T "max" (.builtin "max")
  d_cut : DefT T ("cut", none) "cut" "cut" st_cut
  g_cut : T.mg "cut" = some (.ref (He.ga T.K "cut"))
  d_State_lead : DefT T ("State", some "lead") "lead" "State.lead" st_State_lead
  e_State_lead : Meth T.K (He.ga T.K "State") "lead" (He.ma T.K (He.ga T.K "State") "lead")
  l_State : Cls T.K (He.ga T.K "State")
  d_State_reckon : DefT T ("State", some "reckon") "reckon" "State.reckon" st_State_reckon
  e_State_reckon : Meth T.K (He.ga T.K "State") "reckon" (He.ma T.K (He.ga T.K "State") "reckon")
  d_State_handle_of : DefT T ("State", some "handle_of") "handle_of" "State.handle_of" st_State_handle_of
  e_State_handle_of : Meth T.K (He.ga T.K "State") "handle_of" (He.ma T.K (He.ga T.K "State") "handle_of")
  d_State_index_of : DefT T ("State", some "index_of") "index_of" "State.index_of" st_State_index_of
  e_State_index_of : Meth T.K (He.ga T.K "State") "index_of" (He.ma T.K (He.ga T.K "State") "index_of")
  c_Store : CT T "Store" ["gap", "keep", "many", "rooms", "waiting"]
  d_Store_born : DefT T ("Store", some "born") "born" "Store.born" st_Store_born
  e_Store_born : Meth T.K (He.ga T.K "Store") "born" (He.ma T.K (He.ga T.K "Store") "born")
  l_Store : Cls T.K (He.ga T.K "Store")
  c_Room : CT T "Room" ["known", "state", "where", "wide"]
  d_Store_place : DefT T ("Store", some "place") "place" "Store.place" st_Store_place
  e_Store_place : Meth T.K (He.ga T.K "Store") "place" (He.ma T.K (He.ga T.K "Store") "place")
  d_State_cell_of : DefT T ("State", some "cell_of") "cell_of" "State.cell_of" st_State_cell_of
  e_State_cell_of : Meth T.K (He.ga T.K "State") "cell_of" (He.ma T.K (He.ga T.K "State") "cell_of")
  m_LIVING : Mn T "LIVING" (.str "living")
  d_Store_is_living : DefT T ("Store", some "is_living") "is_living" "Store.is_living" st_Store_is_living
  e_Store_is_living : Meth T.K (He.ga T.K "Store") "is_living" (He.ma T.K (He.ga T.K "Store") "is_living")
  d_Store_living : DefT T ("Store", some "living") "living" "Store.living" st_Store_living
  e_Store_living : Meth T.K (He.ga T.K "Store") "living" (He.ma T.K (He.ga T.K "Store") "living")
  d_Store_beginning : DefT T ("Store", some "beginning") "beginning" "Store.beginning" st_Store_beginning
  e_Store_beginning : Meth T.K (He.ga T.K "Store") "beginning" (He.ma T.K (He.ga T.K "Store") "beginning")
  b_sum : Bn T "sum" (.builtin "sum")
  m_GONE : Mn T "GONE" (.str "gone")
  m_KEPT : Mn T "KEPT" (.str "kept")
  d_Store_free : DefT T ("Store", some "free") "free" "Store.free" st_Store_free
  e_Store_free : Meth T.K (He.ga T.K "Store") "free" (He.ma T.K (He.ga T.K "Store") "free")
  d_Room_new : DefT T ("Room", some "__init__") "__init__" "Room.__init__" st_Room_new
  k_Room : Mk T.K (He.ga T.K "Room") (He.ma T.K (He.ga T.K "Room") "__init__")
  g_Room : T.mg "Room" = some (.ref (He.ga T.K "Room"))
  d_Store_is_clear : DefT T ("Store", some "is_clear") "is_clear" "Store.is_clear" st_Store_is_clear
  e_Store_is_clear : Meth T.K (He.ga T.K "Store") "is_clear" (He.ma T.K (He.ga T.K "Store") "is_clear")
  m_LEAST_SIZE : Mn T "LEAST_SIZE" (.int 1)
  m_MOST_SIZE : Mn T "MOST_SIZE" (.int 8)
  d_Store_room : DefT T ("Store", some "room") "room" "Store.room" st_Store_room
  e_Store_room : Meth T.K (He.ga T.K "Store") "room" (He.ma T.K (He.ga T.K "Store") "room")
  d_Room_has : DefT T ("Room", some "has") "has" "Room.has" st_Room_has
  e_Room_has : Meth T.K (He.ga T.K "Room") "has" (He.ma T.K (He.ga T.K "Room") "has")
  l_Room : Cls T.K (He.ga T.K "Room")
  d_Store_owner : DefT T ("Store", some "owner") "owner" "Store.owner" st_Store_owner
  e_Store_owner : Meth T.K (He.ga T.K "Store") "owner" (He.ma T.K (He.ga T.K "Store") "owner")
  d_Store_write : DefT T ("Store", some "write") "write" "Store.write" st_Store_write
  e_Store_write : Meth T.K (He.ga T.K "Store") "write" (He.ma T.K (He.ga T.K "Store") "write")
  d_State_touch : DefT T ("State", some "touch") "touch" "State.touch" st_State_touch
  e_State_touch : Meth T.K (He.ga T.K "State") "touch" (He.ma T.K (He.ga T.K "State") "touch")
  d_State_do : DefT T ("State", some "do") "do" "State.do" st_State_do
  e_State_do : Meth T.K (He.ga T.K "State") "do" (He.ma T.K (He.ga T.K "State") "do")
  m_OPEN : Mn T "OPEN" (.str "open")
  m_GAP : Mn T "GAP" (.str "gap")
  m_SET : Mn T "SET" (.str "set")
  m_FRESH : Mn T "FRESH" (.str "fresh")
  m_FREED : Mn T "FREED" (.str "freed")
  d_Store_mark : DefT T ("Store", some "mark") "mark" "Store.mark" st_Store_mark
  e_Store_mark : Meth T.K (He.ga T.K "Store") "mark" (He.ma T.K (He.ga T.K "Store") "mark")
  d_Store_size : DefT T ("Store", some "size") "size" "Store.size" st_Store_size
  e_Store_size : Meth T.K (He.ga T.K "Store") "size" (He.ma T.K (He.ga T.K "Store") "size")
  d_by_bounds : DefT T ("by_bounds", none) "by_bounds" "by_bounds" st_by_bounds
  g_by_bounds : T.mg "by_bounds" = some (.ref (He.ga T.K "by_bounds"))
  d_by_marks : DefT T ("by_marks", none) "by_marks" "by_marks" st_by_marks
  g_by_marks : T.mg "by_marks" = some (.ref (He.ga T.K "by_marks"))
  m_COUNTS : Mn T "COUNTS" (.tup [(.int 1), (.int 2), (.int 4), (.int 8), (.int 16)])
  d_by_tags : DefT T ("by_tags", none) "by_tags" "by_tags" st_by_tags
  g_by_tags : T.mg "by_tags" = some (.ref (He.ga T.K "by_tags"))
  m_MARKS : Mn T "MARKS" (.str "marks")
  m_BOUNDS : Mn T "BOUNDS" (.str "bounds")
  d_look : DefT T ("look", none) "look" "look" st_look
  g_look : T.mg "look" = some (.ref (He.ga T.K "look"))
  m_CHECK : Mn T "CHECK" (.tup [(.str "check")])
  d_Run_go_through : DefT T ("Run", some "go_through") "go_through" "Run.go_through" st_Run_go_through
  e_Run_go_through : Meth T.K (He.ga T.K "Run") "go_through" (He.ma T.K (He.ga T.K "Run") "go_through")
  d_is_number : DefT T ("is_number", none) "is_number" "is_number" st_is_number
  g_is_number : T.mg "is_number" = some (.ref (He.ga T.K "is_number"))
  d_need_setting : DefT T ("need_setting", none) "need_setting" "need_setting" st_need_setting
  g_need_setting : T.mg "need_setting" = some (.ref (He.ga T.K "need_setting"))
  d_Store_new : DefT T ("Store", some "__init__") "__init__" "Store.__init__" st_Store_new
  k_Store : Mk T.K (He.ga T.K "Store") (He.ma T.K (He.ga T.K "Store") "__init__")
  g_Store : T.mg "Store" = some (.ref (He.ga T.K "Store"))
  m_HANDLES : Mn T "HANDLES" (.int 4)
  m_NUMBERS : Mn T "NUMBERS" (.int 6)
  d_State_new : DefT T ("State", some "__init__") "__init__" "State.__init__" st_State_new
  k_State : Mk T.K (He.ga T.K "State") (He.ma T.K (He.ga T.K "State") "__init__")
  g_State : T.mg "State" = some (.ref (He.ga T.K "State"))
  d_Run_new : DefT T ("Run", some "__init__") "__init__" "Run.__init__" st_Run_new
  k_Run : Mk T.K (He.ga T.K "Run") (He.ma T.K (He.ga T.K "Run") "__init__")
  g_Run : T.mg "Run" = some (.ref (He.ga T.K "Run"))
  m_TOUCHES : Mn T "TOUCHES" (.tup [(.str "room"), (.str "free"), (.str "get"), (.str "set")])
  d_is_touch : DefT T ("is_touch", none) "is_touch" "is_touch" st_is_touch
  g_is_touch : T.mg "is_touch" = some (.ref (He.ga T.K "is_touch"))
  d_unchecked : DefT T ("unchecked", none) "unchecked" "unchecked" st_unchecked
  g_unchecked : T.mg "unchecked" = some (.ref (He.ga T.K "unchecked"))
  b_enumerate : Bn T "enumerate" (.type "enumerate")
  d_with_checks : DefT T ("with_checks", none) "with_checks" "with_checks" st_with_checks
  g_with_checks : T.mg "with_checks" = some (.ref (He.ga T.K "with_checks"))
  d_by_itself : DefT T ("by_itself", none) "by_itself" "by_itself" st_by_itself
  g_by_itself : T.mg "by_itself" = some (.ref (He.ga T.K "by_itself"))
  m_MOST_PUT : Mn T "MOST_PUT" (.int 999)
  m_LEAST_PUT : Mn T "LEAST_PUT" (.int (-99))
  m_MOST_INPUT : Mn T "MOST_INPUT" (.int 20)
  d_need_input : DefT T ("need_input", none) "need_input" "need_input" st_need_input
  g_need_input : T.mg "need_input" = some (.ref (He.ga T.K "need_input"))
  d_is_part : DefT T ("is_part", none) "is_part" "is_part" st_is_part
  g_is_part : T.mg "is_part" = some (.ref (He.ga T.K "is_part"))
  d_has_form : DefT T ("has_form", none) "has_form" "has_form" st_has_form
  g_has_form : T.mg "has_form" = some (.ref (He.ga T.K "has_form"))
  d_is_worded : DefT T ("is_worded", none) "is_worded" "is_worded" st_is_worded
  g_is_worded : T.mg "is_worded" = some (.ref (He.ga T.K "is_worded"))
  t_FORMS : KTab T "FORMS" tab_FORMS
  d_is_row : DefT T ("is_row", none) "is_row" "is_row" st_is_row
  g_is_row : T.mg "is_row" = some (.ref (He.ga T.K "is_row"))
  d_is_ahead_of_touch : DefT T ("is_ahead_of_touch", none) "is_ahead_of_touch" "is_ahead_of_touch" st_is_ahead_of_touch
  g_is_ahead_of_touch : T.mg "is_ahead_of_touch" = some (.ref (He.ga T.K "is_ahead_of_touch"))
  d_bad_row : DefT T ("bad_row", none) "bad_row" "bad_row" st_bad_row
  g_bad_row : T.mg "bad_row" = some (.ref (He.ga T.K "bad_row"))
  t_ENDS : KTab T "ENDS" tab_ENDS
  d_is_end : DefT T ("is_end", none) "is_end" "is_end" st_is_end
  g_is_end : T.mg "is_end" = some (.ref (He.ga T.K "is_end"))
  m_MOST_ROWS : Mn T "MOST_ROWS" (.int 60)
  m_MOST_BLOCKS : Mn T "MOST_BLOCKS" (.int 12)
  d_need_program : DefT T ("need_program", none) "need_program" "need_program" st_need_program
  g_need_program : T.mg "need_program" = some (.ref (He.ga T.K "need_program"))
  d_need_run : DefT T ("need_run", none) "need_run" "need_run" st_need_run
  g_need_run : T.mg "need_run" = some (.ref (He.ga T.K "need_run"))
  d_judged : DefT T ("judged", none) "judged" "judged" st_judged
  g_judged : T.mg "judged" = some (.ref (He.ga T.K "judged"))
  m_MOST_BITS : Mn T "MOST_BITS" (.int 4)
  m_TAGS : Mn T "TAGS" (.str "tags")
  d_need_way : DefT T ("need_way", none) "need_way" "need_way" st_need_way
  g_need_way : T.mg "need_way" = some (.ref (He.ga T.K "need_way"))
  d_missed : DefT T ("missed", none) "missed" "missed" st_missed
  g_missed : T.mg "missed" = some (.ref (He.ga T.K "missed"))
  d_law : DefT T ("law", none) "law" "law" st_law
  g_law : T.mg "law" = some (.ref (He.ga T.K "law"))
/-! _law_alike: 0 _law_found, 1 _law_due, 2 _law_k -/
def b__law_alike (g : List D → M D) : SM := (sSeq (sIf (tOrr (tB (g1 (isTy "tuple") (gV 1))) (tB (g1 (isTy "list") (gV 1)))) (sSeq (sIf (tOrr (tB (g2 dNe (g1 (isTy "tuple") (gV 0)) (g1 (isTy "tuple") (gV 1)))) (tNt (tB (g1 isTL (gV 0))))) (sSeq (sRet (gC (.bl false))) sNil) sNil) (sSeq (sIf (tB (g2 dNe (g1 dLen (gV 0)) (g1 dLen (gV 1)))) (sSeq (sRet (gC (.bl false))) sNil) sNil) (sSeq (sRet (g2 dEq (gVal (lComp [2] (rg1 (g1 dLen (gV 1))) (tgName 2) (tNt (tB (gCall g [(g2 dIx (gV 0) (gV 2)), (g2 dIx (gV 1) (gV 2))]))) (gV 2))) (gVal (seqA [])))) sNil))) sNil) (sSeq (sIf (tOrr (tB (g2 dIsN (gV 1) (gC .non))) (tB (g2 dIsN (gV 0) (gC .non)))) (sSeq (sRet (gAn (g2 dIsN (gV 1) (gC .non)) (g2 dIsN (gV 0) (gC .non)))) sNil) sNil) (sSeq (sIf (tOrr (tB (g1 (isTy "bool") (gV 1))) (tB (g1 (isTy "bool") (gV 0)))) (sSeq (sRet (gAn (g1 (isTy "bool") (gV 1)) (gAn (g1 (isTy "bool") (gV 0)) (g2 dEq (gV 0) (gV 1))))) sNil) sNil) (sSeq (sIf (tB (g1 (isTy "str") (gV 1))) (sSeq (sRet (gAn (g1 (isTy "str") (gV 0)) (g2 dEq (gV 0) (gV 1)))) sNil) sNil) (sSeq (sRet (gAn (g1 (isTy "int") (gV 0)) (g2 dEq (gV 0) (gV 1)))) sNil)))))
def f__law_alike_ : Nat → List D → M D
  | 0 => fnM 2 3 sBad
  | k + 1 => fnM 2 3 (b__law_alike (f__law_alike_ k))
def f__law_alike : List D → M D := f__law_alike_ 9
theorem rs__law_alike {T : Tx} (z : HF T) {l : Nat} {g : List D → M D} (og : FnS T "_law_alike" l 2 g) : RSs (T.fn ["_law_found", "_law_due", "_law_k"] (defScope st__law_alike) l false E0) [] (defBody st__law_alike) (b__law_alike g) := (rss_cons (rs_if (RW.rt (rw_or (vT (isi ist_tuple z.b_isinstance z.b_tuple vB)) (rw_or1 (vT (isi ist_list z.b_isinstance z.b_list vB))))) (rss_cons (rs_if (RW.rt (rw_or (cmT o_ne (.of (isi ist_tuple z.b_isinstance z.b_tuple vB)) (.of (isi ist_tuple z.b_isinstance z.b_tuple vB))) (rw_or1 (rt_not (vT (isi2 z.b_isinstance z.b_tuple z.b_list vB)))))) (rss_cons (rs_ret re_bl) rss_nil) rss_nil) (rss_cons (rs_if (cmT o_ne (.of (f1 z.b_len f_len vB)) (.of (f1 z.b_len f_len vB))) (rss_cons (rs_ret re_bl) rss_nil) rss_nil) (rss_cons (rs_ret (cmE o_eq (.of (re_val (cp (own := [("_law_k", 2)]) (r1 z.b_range (f1 z.b_len f_len vB)) cN (rts_one (rt_not (vT (Sw.call og (ac (ix vB vB) (ac (ix vB vB) ra_nil)) (hk0 := Nat.ble_eq_true_of_le (Nat.le_refl _)))))) vE))) (.of (re_val (ls ra_nil))))) rss_nil))) rss_nil) (rss_cons (rs_if (RW.rt (rw_or (cmT o_isN vB (.of re_non)) (rw_or1 (cmT o_isN vB (.of re_non))))) (rss_cons (rs_ret (re_and (cmE o_isN vB (.of re_non)) (re_one (cmE o_isN vB (.of re_non))))) rss_nil) rss_nil) (rss_cons (rs_if (RW.rt (rw_or (vT (isi ist_bool z.b_isinstance z.b_bool vB)) (rw_or1 (vT (isi ist_bool z.b_isinstance z.b_bool vB))))) (rss_cons (rs_ret (re_and (isi ist_bool z.b_isinstance z.b_bool vB) (re_and (isi ist_bool z.b_isinstance z.b_bool vB) (re_one (cmE o_eq vB vB))))) rss_nil) rss_nil) (rss_cons (rs_if (vT (isi ist_str z.b_isinstance z.b_str vB)) (rss_cons (rs_ret (re_and (isi ist_str z.b_isinstance z.b_str vB) (re_one (cmE o_eq vB vB)))) rss_nil) rss_nil) (rss_cons (rs_ret (re_and (isi ist_int z.b_isinstance z.b_int vB) (re_one (cmE o_eq vB vB)))) rss_nil)))))
theorem sc__law_alike : FnScope ["_law_found", "_law_due", "_law_k"] ["_law_found", "_law_due"] (defScope st__law_alike) := ⟨rfl, rfl, rfl, by decide +kernel, rfl, by decide +kernel, by decide +kernel⟩
theorem ok__law_alike_ {T : Tx} (z : HF T) : ∀ k : Nat, FnS T "_law_alike" (k + 1) 2 (f__law_alike_ k)
  | 0 => mkFn (N := ["_law_found", "_law_due", "_law_k"]) (O := []) z.calm z.d__law_alike z.g__law_alike sc__law_alike rss_bad (fun _ _ _ _ _ _ us hl => match us, hl with | [_, _], _ => rfl)
  | k + 1 => mkFn (N := ["_law_found", "_law_due", "_law_k"]) z.calm z.d__law_alike z.g__law_alike sc__law_alike (rs__law_alike z (ok__law_alike_ z k)) (fun _ _ _ _ _ _ us hl => match us, hl with | [_, _], _ => rfl)
theorem ok__law_alike {T : Tx} (z : HF T) : FnS T "_law_alike" 10 2 f__law_alike := ok__law_alike_ z 9
/-! _law_rooms: 0 _law_row, 1 _law_sizes, 2 _law_rows, 3 _law_k -/
def b__law_rooms : SM := (sSeq (sSet 2 (gVal (seqA []))) (sSeq (sFor (rg1 (g1 dLen (gV 1))) (tgName 3) (sSeq (sSet 2 (gVal (lAdd (gV 2) (gVal (seqA [(gTup [(gC (.str "put")), (gC (.int 0)), (g2 dIx (gV 1) (gV 3))]), (gTup [(gC (.str "room")), (gV 3), (gC (.int 0))]), (gTup [(gC (.str "put")), (gC (.int 1)), (g2 dSub (g2 dIx (gV 1) (gV 3)) (gC (.int 1)))]), (gTup [(gC (.str "set")), (gV 3), (gC (.int 1)), (gC (.int 0))])]))))) sNil)) (sSeq (sRet (gV 2)) sNil)))
def f__law_rooms : List D → M D := fnM 2 4 b__law_rooms
theorem rs__law_rooms {T : Tx} (z : HF T) : RSs (T.fn ["_law_row", "_law_sizes", "_law_rows", "_law_k"] (defScope st__law_rooms) 0 false E0) [] (defBody st__law_rooms) b__law_rooms := (rss_cons (s_ (re_val (ls ra_nil))) (rss_cons (fo (r1 z.b_range (f1 z.b_len f_len vB)) gN (rss_cons (s_ (re_val (rf_add vB (.of (re_val (ls (ac (tp (ac cS (ac re_int (ac (ix vB vB) ra_nil)))) (ac (tp (ac cS (ac vE (ac re_int ra_nil)))) (ac (tp (ac cS (ac re_int (ac (bo o_sub (.of (ix vB vB)) (.of re_int)) ra_nil)))) (ac (tp (ac cS (ac vE (ac re_int (ac re_int ra_nil))))) ra_nil)))))))))) rss_nil)) (rss_cons (rs_ret vE) rss_nil)))
theorem sc__law_rooms : FnScope ["_law_row", "_law_sizes", "_law_rows", "_law_k"] ["_law_row", "_law_sizes"] (defScope st__law_rooms) := ⟨rfl, rfl, rfl, by decide +kernel, rfl, by decide +kernel, by decide +kernel⟩
theorem ok__law_rooms {T : Tx} (z : HF T) : FnS T "_law_rooms" 1 2 f__law_rooms := mkFn (N := ["_law_row", "_law_sizes", "_law_rows", "_law_k"]) z.calm z.d__law_rooms z.g__law_rooms sc__law_rooms (rs__law_rooms z) (fun _ _ _ _ _ _ us hl => match us, hl with | [_, _], _ => rfl)
/-! _law_taken: 0 _law_row, 1 _law_many, 2 _law_found, 3 _law_cell -/
def b__law_taken : SM := (sSeq (sIf (tB (g2 dGt (g2 dIx (gV 0) (gC (.int 3))) (gC (.int 0)))) (sSeq (sSet 2 (g2 dMod (g2 dIx (gV 0) (gC (.int 3))) (gV 1))) (sSeq (sAsg (g2 dDiv (g2 dIx (gV 0) (gC (.int 3))) (gV 1)) (tgSub (gV 0) (gC (.int 3)))) (sSeq (sRet (gV 2)) sNil))) sNil) (sSeq (sAsg (g2 dAdd (g2 dIx (gV 0) (gC (.int 1))) (gC (.int 1))) (tgSub (gV 0) (gC (.int 1)))) (sSeq (sIf (tB (g2 dGt (g2 dIx (gV 0) (gC (.int 1))) (g1 dLen (g2 dIx (gV 0) (gC (.int 0)))))) (sSeq (sAsg (g2 dMod (g2 dAdd (g2 dMul (g2 dIx (gV 0) (gC (.int 2))) (gC (.int 48271))) (gC (.int 11))) (gC (.int 2147483647))) (tgSub (gV 0) (gC (.int 2)))) (sSeq (sRet (g2 dMod (g2 dDiv (g2 dIx (gV 0) (gC (.int 2))) (gC (.int 7))) (gV 1))) sNil)) sNil) (sSeq (sSet 3 (g2 dIx (g2 dIx (gV 0) (gC (.int 0))) (g2 dSub (g2 dIx (gV 0) (gC (.int 1))) (gC (.int 1))))) (sSeq (sAsg (g2 dMod (g2 dAdd (g2 dAdd (g2 dMul (g2 dIx (gV 0) (gC (.int 2))) (gC (.int 48271))) (gV 3)) (gC (.int 11))) (gC (.int 2147483647))) (tgSub (gV 0) (gC (.int 2)))) (sSeq (sIf (tB (g2 dGe (gV 3) (g2 dPow (gC (.int 10)) (gC (.int 18))))) (sSeq (sAsg (g2 dDiv (gV 3) (gV 1)) (tgSub (gV 0) (gC (.int 3)))) sNil) sNil) (sSeq (sRet (g2 dMod (gV 3) (gV 1))) sNil)))))))
def f__law_taken : List D → M D := fnM 2 4 b__law_taken
theorem rs__law_taken {T : Tx} (z : HF T) : RSs (T.fn ["_law_row", "_law_many", "_law_found", "_law_cell"] (defScope st__law_taken) 0 false E0) [] (defBody st__law_taken) b__law_taken := (rss_cons (rs_if (cmT o_gt (.of (ix vB (.of re_int))) (.of re_int)) (rss_cons (s_ (bo o_mod (.of (ix vB (.of re_int))) vB)) (rss_cons (sA (bo o_div (.of (ix vB (.of re_int))) vB) (gS vE re_int)) (rss_cons (rs_ret vE) rss_nil))) rss_nil) (rss_cons (sA (bo o_add (.of (ix vB (.of re_int))) (.of re_int)) (gS vE re_int)) (rss_cons (rs_if (cmT o_gt (.of (ix vB (.of re_int))) (.of (f1 z.b_len f_len (.of (ix vB (.of re_int)))))) (rss_cons (sA (bo o_mod (.of (bo o_add (.of (bo o_mul (.of (ix vB (.of re_int))) (.of re_int))) (.of re_int))) (.of re_int)) (gS vE re_int)) (rss_cons (rs_ret (bo o_mod (.of (bo o_div (.of (ix vB (.of re_int))) (.of re_int))) vB)) rss_nil)) rss_nil) (rss_cons (s_ (ix (.of (ix vB (.of re_int))) (.of (bo o_sub (.of (ix vB (.of re_int))) (.of re_int))))) (rss_cons (sA (bo o_mod (.of (bo o_add (.of (bo o_add (.of (bo o_mul (.of (ix vB (.of re_int))) (.of re_int))) vB)) (.of re_int))) (.of re_int)) (gS vE re_int)) (rss_cons (rs_if (cmT o_ge vB (.of (bo o_pow (.of re_int) (.of re_int)))) (rss_cons (sA (bo o_div vB vB) (gS vE re_int)) rss_nil) rss_nil) (rss_cons (rs_ret (bo o_mod vB vB)) rss_nil)))))))
theorem sc__law_taken : FnScope ["_law_row", "_law_many", "_law_found", "_law_cell"] ["_law_row", "_law_many"] (defScope st__law_taken) := ⟨rfl, rfl, rfl, by decide +kernel, rfl, by decide +kernel, by decide +kernel⟩
theorem ok__law_taken {T : Tx} (z : HF T) : FnS T "_law_taken" 1 2 f__law_taken := mkFn (N := ["_law_row", "_law_many", "_law_found", "_law_cell"]) z.calm z.d__law_taken z.g__law_taken sc__law_taken (rs__law_taken z) (fun _ _ _ _ _ _ us hl => match us, hl with | [_, _], _ => rfl)
/-! Run_ended: 0 self, 1 end -/
def b_Run_ended : SM := (sSeq (sIf (tB (g2 dEq (g2 dIx (gV 1) (gC (.int 0))) (gC (.str "end")))) (sSeq (Sw.sFld "Run" "word" (gV 0) (gC (.str "end"))) (sSeq (sRet (gC .non)) sNil)) sNil) (sSeq (sIf (tB (g2 dEq (g2 dIx (gV 1) (gC (.int 0))) (gC (.str "go")))) (sSeq (sRet (g2 dIx (gV 1) (gC (.int 1)))) sNil) sNil) (sSeq (sRet (gIf (tB (g2 dGt (g2 dIx (gFld "State" "numbers" (gFld "Run" "state" (gV 0))) (g2 dIx (gV 1) (gC (.int 1)))) (gC (.int 0)))) (g2 dIx (gV 1) (gC (.int 2))) (g2 dIx (gV 1) (gC (.int 3))))) sNil)))
def f_Run_ended : List D → M D := fnM 2 2 b_Run_ended
theorem rs_Run_ended {T : Tx} (z : HF T) : RSs (T.fn ["self", "end"] (defScope st_Run_ended) 0 false E0) [] (defBody st_Run_ended) b_Run_ended := (rss_cons (rs_if (cmT o_eq (.of (ix vB (.of re_int))) (.of cS)) (rss_cons (sF z.c_Run vE cS) (rss_cons (rs_ret re_non) rss_nil)) rss_nil) (rss_cons (rs_if (cmT o_eq (.of (ix vB (.of re_int))) (.of cS)) (rss_cons (rs_ret (ix vB (.of re_int))) rss_nil) rss_nil) (rss_cons (rs_ret (re_if (cmT o_gt (.of (ix (.of (fd z.c_State (fd z.c_Run vE))) (.of (ix vB (.of re_int))))) (.of re_int)) (ix vB (.of re_int)) (ix vB (.of re_int)))) rss_nil)))
theorem sc_Run_ended : FnScope ["self", "end"] ["self", "end"] (defScope st_Run_ended) := ⟨rfl, rfl, rfl, by decide +kernel, rfl, by decide +kernel, by decide +kernel⟩
theorem ok_Run_ended {T : Tx} (z : HF T) : MtS T "Run" "ended" 1 2 f_Run_ended := mkMt (N := ["self", "end"]) z.calm z.d_Run_ended z.e_Run_ended z.l_Run sc_Run_ended (rs_Run_ended z) (fun _ _ _ _ _ _ us hl => match us, hl with | [_, _], _ => rfl)
/-! Run_is_long: 0 self -/
def b_Run_is_long : SM := (sSeq (Sw.sFld "Run" "steps" (gV 0) (g2 dAdd (gFld "Run" "steps" (gV 0)) (gC (.int 1)))) (sSeq (sIf (tB (g2 dGt (gFld "Run" "steps" (gV 0)) (gC (.int 400)))) (sSeq (Sw.sFld "Run" "word" (gV 0) (gC (.str "long"))) sNil) sNil) (sSeq (sRet (g2 dEq (gFld "Run" "word" (gV 0)) (gC (.str "long")))) sNil)))
def f_Run_is_long : List D → M D := fnM 1 1 b_Run_is_long
theorem rs_Run_is_long {T : Tx} (z : HF T) : RSs (T.fn ["self"] (defScope st_Run_is_long) 0 false E0) [] (defBody st_Run_is_long) b_Run_is_long := (rss_cons (sF z.c_Run vE (bo o_add (.of (fd z.c_Run vE)) (.of re_int))) (rss_cons (rs_if (cmT o_gt (.of (fd z.c_Run vE)) (.of (cG z.m_MOST_STEPS))) (rss_cons (sF z.c_Run vE cS) rss_nil) rss_nil) (rss_cons (rs_ret (cmE o_eq (.of (fd z.c_Run vE)) (.of cS))) rss_nil)))
theorem sc_Run_is_long : FnScope ["self"] ["self"] (defScope st_Run_is_long) := ⟨rfl, rfl, rfl, by decide +kernel, rfl, by decide +kernel, by decide +kernel⟩
theorem ok_Run_is_long {T : Tx} (z : HF T) : MtS T "Run" "is_long" 1 1 f_Run_is_long := mkMt (N := ["self"]) z.calm z.d_Run_is_long z.e_Run_is_long z.l_Run sc_Run_is_long (rs_Run_is_long z) (fun _ _ _ _ _ _ us hl => match us, hl with | [_], _ => rfl)
/-! cut: 0 number -/
def b_cut : SM := (sSeq (sRet (gCall bMax [(g2 dSub (gC (.int 0)) (gC (.int 9999))), (gCall bMin [(gC (.int 9999)), (gV 0)])])) sNil)
def f_cut : List D → M D := fnM 1 1 b_cut
theorem rs_cut {T : Tx} (z : HF T) : RSs (T.fn ["number"] (defScope st_cut) 0 false E0) [] (defBody st_cut) b_cut := (rss_cons (rs_ret (bf (bf_max z.b_max.m) (ac (bo o_sub (.of re_int) (.of (cG z.m_FARTHEST))) (ac (bf (bf_min z.b_min.m) (ac (cG z.m_FARTHEST) (ac vE ra_nil))) ra_nil)))) rss_nil)
theorem sc_cut : FnScope ["number"] ["number"] (defScope st_cut) := ⟨rfl, rfl, rfl, by decide +kernel, rfl, by decide +kernel, by decide +kernel⟩
theorem ok_cut {T : Tx} (z : HF T) : FnS T "cut" 1 1 f_cut := mkFn (N := ["number"]) z.calm z.d_cut z.g_cut sc_cut (rs_cut z) (fun _ _ _ _ _ _ us hl => match us, hl with | [_], _ => rfl)
/-! State_lead: 0 self, 1 row, 2 handle -/
def b_State_lead : SM := (sSeq (sSet 2 (g2 dIx (gFld "State" "handles" (gV 0)) (g2 dIx (gV 1) (gC (.int 2))))) (sSeq (sIf (tAn (tB (g2 dIsNot (gV 2) (gC .non))) (tB (g2 dEq (g2 dIx (gV 1) (gC (.int 0))) (gC (.str "shift"))))) (sSeq (sSet 2 (gTup [(g2 dIx (gV 2) (gC (.int 0))), (gCall f_cut [(g2 dAdd (g2 dIx (gV 2) (gC (.int 1))) (g2 dIx (gFld "State" "numbers" (gV 0)) (g2 dIx (gV 1) (gC (.int 3)))))])])) sNil) sNil) (sSeq (sAsg (gV 2) (tgSub (gFld "State" "handles" (gV 0)) (g2 dIx (gV 1) (gC (.int 1))))) sNil)))
def f_State_lead : List D → M D := fnM 2 3 b_State_lead
theorem rs_State_lead {T : Tx} (z : HF T) : RSs (T.fn ["self", "row", "handle"] (defScope st_State_lead) 1 false E0) [] (defBody st_State_lead) b_State_lead := (rss_cons (s_ (ix (.of (fd z.c_State vE)) (.of (ix vB (.of re_int))))) (rss_cons (rs_if (RW.rt (rw_and (cmT o_isNot vB (.of re_non)) (rw_and1 (cmT o_eq (.of (ix vB (.of re_int))) (.of cS))))) (rss_cons (s_ (tp (ac (ix vB (.of re_int)) (ac (Sw.call (ok_cut z) (ac (bo o_add (.of (ix vB (.of re_int))) (.of (ix (.of (fd z.c_State vE)) (.of (ix vB (.of re_int)))))) ra_nil)) ra_nil)))) rss_nil) rss_nil) (rss_cons (sA vE (gS (fd z.c_State vE) (ix vB (.of re_int)))) rss_nil)))
theorem sc_State_lead : FnScope ["self", "row", "handle"] ["self", "row"] (defScope st_State_lead) := ⟨rfl, rfl, rfl, by decide +kernel, rfl, by decide +kernel, by decide +kernel⟩
theorem ok_State_lead {T : Tx} (z : HF T) : MtS T "State" "lead" 2 2 f_State_lead := mkMt (N := ["self", "row", "handle"]) z.calm z.d_State_lead z.e_State_lead z.l_State sc_State_lead (rs_State_lead z) (fun _ _ _ _ _ _ us hl => match us, hl with | [_, _], _ => rfl)
/-! State_reckon: 0 self, 1 row -/
def b_State_reckon : SM := (sSeq (sIf (tB (g2 dEq (g2 dIx (gV 1) (gC (.int 0))) (gC (.str "put")))) (sSeq (sAsg (g2 dIx (gV 1) (gC (.int 2))) (tgSub (gFld "State" "numbers" (gV 0)) (g2 dIx (gV 1) (gC (.int 1))))) sNil) (sSeq (sIf (tB (g2 dEq (g2 dIx (gV 1) (gC (.int 0))) (gC (.str "add")))) (sSeq (sAsg (gCall f_cut [(g2 dAdd (g2 dIx (gFld "State" "numbers" (gV 0)) (g2 dIx (gV 1) (gC (.int 2)))) (g2 dIx (gFld "State" "numbers" (gV 0)) (g2 dIx (gV 1) (gC (.int 3)))))]) (tgSub (gFld "State" "numbers" (gV 0)) (g2 dIx (gV 1) (gC (.int 1))))) sNil) (sSeq (sIf (tB (g2 dEq (g2 dIx (gV 1) (gC (.int 0))) (gC (.str "less")))) (sSeq (sAsg (gCall f_cut [(g2 dSub (g2 dIx (gFld "State" "numbers" (gV 0)) (g2 dIx (gV 1) (gC (.int 2)))) (g2 dIx (gFld "State" "numbers" (gV 0)) (g2 dIx (gV 1) (gC (.int 3)))))]) (tgSub (gFld "State" "numbers" (gV 0)) (g2 dIx (gV 1) (gC (.int 1))))) sNil) (sSeq (sIf (tB (g2 dEq (g2 dIx (gV 1) (gC (.int 0))) (gC (.str "ask")))) (sSeq (sAsg (gIf (tB (g2 dNe (gFld "State" "given" (gV 0)) (gVal (seqA [])))) (gLm mPopAt (gFld "State" "given" (gV 0)) [(gC (.int 0))]) (gC (.int 0))) (tgSub (gFld "State" "numbers" (gV 0)) (g2 dIx (gV 1) (gC (.int 1))))) sNil) (sSeq (sExpr (gLm mApp (gFld "State" "said" (gV 0)) [(g2 dIx (gFld "State" "numbers" (gV 0)) (g2 dIx (gV 1) (gC (.int 1))))])) sNil)) sNil)) sNil)) sNil)) sNil)
def f_State_reckon : List D → M D := fnM 2 2 b_State_reckon
theorem rs_State_reckon {T : Tx} (z : HF T) : RSs (T.fn ["self", "row"] (defScope st_State_reckon) 1 false E0) [] (defBody st_State_reckon) b_State_reckon := (rss_cons (rs_if (cmT o_eq (.of (ix vB (.of re_int))) (.of cS)) (rss_cons (sA (ix vB (.of re_int)) (gS (fd z.c_State vE) (ix vB (.of re_int)))) rss_nil) (rss_cons (rs_if (cmT o_eq (.of (ix vB (.of re_int))) (.of cS)) (rss_cons (sA (Sw.call (ok_cut z) (ac (bo o_add (.of (ix (.of (fd z.c_State vE)) (.of (ix vB (.of re_int))))) (.of (ix (.of (fd z.c_State vE)) (.of (ix vB (.of re_int)))))) ra_nil)) (gS (fd z.c_State vE) (ix vB (.of re_int)))) rss_nil) (rss_cons (rs_if (cmT o_eq (.of (ix vB (.of re_int))) (.of cS)) (rss_cons (sA (Sw.call (ok_cut z) (ac (bo o_sub (.of (ix (.of (fd z.c_State vE)) (.of (ix vB (.of re_int))))) (.of (ix (.of (fd z.c_State vE)) (.of (ix vB (.of re_int)))))) ra_nil)) (gS (fd z.c_State vE) (ix vB (.of re_int)))) rss_nil) (rss_cons (rs_if (cmT o_eq (.of (ix vB (.of re_int))) (.of cS)) (rss_cons (sA (re_if (cmT o_ne (.of (fd z.c_State vE)) (.of (re_val (ls ra_nil)))) (lm m_popAt (fd z.c_State vE) (ac re_int ra_nil)) re_int) (gS (fd z.c_State vE) (ix vB (.of re_int)))) rss_nil) (rss_cons (sE (lm m_app (fd z.c_State vE) (ac (ix (.of (fd z.c_State vE)) (.of (ix vB (.of re_int)))) ra_nil))) rss_nil)) rss_nil)) rss_nil)) rss_nil)) rss_nil)
theorem sc_State_reckon : FnScope ["self", "row"] ["self", "row"] (defScope st_State_reckon) := ⟨rfl, rfl, rfl, by decide +kernel, rfl, by decide +kernel, by decide +kernel⟩
theorem ok_State_reckon {T : Tx} (z : HF T) : MtS T "State" "reckon" 2 2 f_State_reckon := mkMt (N := ["self", "row"]) z.calm z.d_State_reckon z.e_State_reckon z.l_State sc_State_reckon (rs_State_reckon z) (fun _ _ _ _ _ _ us hl => match us, hl with | [_, _], _ => rfl)
/-! State_handle_of: 0 self, 1 row -/
def b_State_handle_of : SM := (sSeq (sRet (g2 dIx (gFld "State" "handles" (gV 0)) (gIf (tB (g2 dEq (g2 dIx (gV 1) (gC (.int 0))) (gC (.str "get")))) (g2 dIx (gV 1) (gC (.int 2))) (g2 dIx (gV 1) (gC (.int 1)))))) sNil)
def f_State_handle_of : List D → M D := fnM 2 2 b_State_handle_of
theorem rs_State_handle_of {T : Tx} (z : HF T) : RSs (T.fn ["self", "row"] (defScope st_State_handle_of) 0 false E0) [] (defBody st_State_handle_of) b_State_handle_of := (rss_cons (rs_ret (ix (.of (fd z.c_State vE)) (.of (re_if (cmT o_eq (.of (ix vB (.of re_int))) (.of cS)) (ix vB (.of re_int)) (ix vB (.of re_int)))))) rss_nil)
theorem sc_State_handle_of : FnScope ["self", "row"] ["self", "row"] (defScope st_State_handle_of) := ⟨rfl, rfl, rfl, by decide +kernel, rfl, by decide +kernel, by decide +kernel⟩
theorem ok_State_handle_of {T : Tx} (z : HF T) : MtS T "State" "handle_of" 1 2 f_State_handle_of := mkMt (N := ["self", "row"]) z.calm z.d_State_handle_of z.e_State_handle_of z.l_State sc_State_handle_of (rs_State_handle_of z) (fun _ _ _ _ _ _ us hl => match us, hl with | [_, _], _ => rfl)
/-! State_index_of: 0 self, 1 row -/
def b_State_index_of : SM := (sSeq (sRet (g2 dIx (gFld "State" "numbers" (gV 0)) (gIf (tB (g2 dEq (g2 dIx (gV 1) (gC (.int 0))) (gC (.str "get")))) (g2 dIx (gV 1) (gC (.int 3))) (g2 dIx (gV 1) (gC (.int 2)))))) sNil)
def f_State_index_of : List D → M D := fnM 2 2 b_State_index_of
theorem rs_State_index_of {T : Tx} (z : HF T) : RSs (T.fn ["self", "row"] (defScope st_State_index_of) 0 false E0) [] (defBody st_State_index_of) b_State_index_of := (rss_cons (rs_ret (ix (.of (fd z.c_State vE)) (.of (re_if (cmT o_eq (.of (ix vB (.of re_int))) (.of cS)) (ix vB (.of re_int)) (ix vB (.of re_int)))))) rss_nil)
theorem sc_State_index_of : FnScope ["self", "row"] ["self", "row"] (defScope st_State_index_of) := ⟨rfl, rfl, rfl, by decide +kernel, rfl, by decide +kernel, by decide +kernel⟩
theorem ok_State_index_of {T : Tx} (z : HF T) : MtS T "State" "index_of" 1 2 f_State_index_of := mkMt (N := ["self", "row"]) z.calm z.d_State_index_of z.e_State_index_of z.l_State sc_State_index_of (rs_State_index_of z) (fun _ _ _ _ _ _ us hl => match us, hl with | [_, _], _ => rfl)
/-! Store_born: 0 self, 1 number -/
def b_Store_born : SM := (sSeq (sIf (tNt (tB (gChain dLe dLt (gC (.int 0)) (gV 1) (g1 dLen (gFld "Store" "rooms" (gV 0)))))) (sSeq sBad sNil) sNil) (sSeq (sRet (g2 dIx (gFld "Store" "rooms" (gV 0)) (gV 1))) sNil))
def f_Store_born : List D → M D := fnM 2 2 b_Store_born
theorem rs_Store_born {T : Tx} (z : HF T) : RSs (T.fn ["self", "number"] (defScope st_Store_born) 0 false E0) [] (defBody st_Store_born) b_Store_born := (rss_cons (rs_if (rt_not (chT o_le o_lt (.of re_int) vB (.of (f1 z.b_len f_len (.of (fd z.c_Store vE)))))) (rss_cons rs_bad rss_nil) rss_nil) (rss_cons (rs_ret (ix (.of (fd z.c_Store vE)) vB)) rss_nil))
theorem sc_Store_born : FnScope ["self", "number"] ["self", "number"] (defScope st_Store_born) := ⟨rfl, rfl, rfl, by decide +kernel, rfl, by decide +kernel, by decide +kernel⟩
theorem ok_Store_born {T : Tx} (z : HF T) : MtS T "Store" "born" 1 2 f_Store_born := mkMt (N := ["self", "number"]) z.calm z.d_Store_born z.e_Store_born z.l_Store sc_Store_born (rs_Store_born z) (fun _ _ _ _ _ _ us hl => match us, hl with | [_, _], _ => rfl)
/-! Store_place: 0 self, 1 number -/
def b_Store_place : SM := (sSeq (sRet (gFld "Room" "where" (gMeth "Store" "born" f_Store_born (gV 0) [(gV 1)]))) sNil)
def f_Store_place : List D → M D := fnM 2 2 b_Store_place
theorem rs_Store_place {T : Tx} (z : HF T) : RSs (T.fn ["self", "number"] (defScope st_Store_place) 1 false E0) [] (defBody st_Store_place) b_Store_place := (rss_cons (rs_ret (fd z.c_Room (me (ok_Store_born z) vE (ac vE ra_nil)))) rss_nil)
theorem sc_Store_place : FnScope ["self", "number"] ["self", "number"] (defScope st_Store_place) := ⟨rfl, rfl, rfl, by decide +kernel, rfl, by decide +kernel, by decide +kernel⟩
theorem ok_Store_place {T : Tx} (z : HF T) : MtS T "Store" "place" 2 2 f_Store_place := mkMt (N := ["self", "number"]) z.calm z.d_Store_place z.e_Store_place z.l_Store sc_Store_place (rs_Store_place z) (fun _ _ _ _ _ _ us hl => match us, hl with | [_, _], _ => rfl)
/-! State_cell_of: 0 self, 1 row, 2 handle, 3 cell -/
def b_State_cell_of : SM := (sSeq (sSet 2 (gMeth "State" "handle_of" f_State_handle_of (gV 0) [(gV 1)])) (sSeq (sSet 3 (gIf (tB (g2 dIsNot (gV 2) (gC .non))) (g2 dAdd (gMeth "Store" "place" f_Store_place (gFld "State" "store" (gV 0)) [(g2 dIx (gV 2) (gC (.int 0)))]) (g2 dIx (gV 2) (gC (.int 1)))) (gC (.int 0)))) (sSeq (sRet (gIf (tB (g2 dEq (g2 dIx (gV 1) (gC (.int 0))) (gC (.str "free")))) (gV 3) (g2 dAdd (gV 3) (gMeth "State" "index_of" f_State_index_of (gV 0) [(gV 1)])))) sNil)))
def f_State_cell_of : List D → M D := fnM 2 4 b_State_cell_of
theorem rs_State_cell_of {T : Tx} (z : HF T) : RSs (T.fn ["self", "row", "handle", "cell"] (defScope st_State_cell_of) 2 false E0) [] (defBody st_State_cell_of) b_State_cell_of := (rss_cons (s_ (me (ok_State_handle_of z) vE (ac vE ra_nil))) (rss_cons (s_ (re_if (cmT o_isNot vB (.of re_non)) (bo o_add (.of (me (ok_Store_place z) (fd z.c_State vE) (ac (ix vB (.of re_int)) ra_nil))) (.of (ix vB (.of re_int)))) re_int)) (rss_cons (rs_ret (re_if (cmT o_eq (.of (ix vB (.of re_int))) (.of cS)) vE (bo o_add vB (.of (me (ok_State_index_of z) vE (ac vE ra_nil)))))) rss_nil)))
theorem sc_State_cell_of : FnScope ["self", "row", "handle", "cell"] ["self", "row"] (defScope st_State_cell_of) := ⟨rfl, rfl, rfl, by decide +kernel, rfl, by decide +kernel, by decide +kernel⟩
theorem ok_State_cell_of {T : Tx} (z : HF T) : MtS T "State" "cell_of" 3 2 f_State_cell_of := mkMt (N := ["self", "row", "handle", "cell"]) z.calm z.d_State_cell_of z.e_State_cell_of z.l_State sc_State_cell_of (rs_State_cell_of z) (fun _ _ _ _ _ _ us hl => match us, hl with | [_, _], _ => rfl)
/-! Store_is_living: 0 self, 1 number -/
def b_Store_is_living : SM := (sSeq (sRet (g2 dEq (gFld "Room" "state" (g2 dIx (gFld "Store" "rooms" (gV 0)) (gV 1))) (gC (.str "living")))) sNil)
def f_Store_is_living : List D → M D := fnM 2 2 b_Store_is_living
theorem rs_Store_is_living {T : Tx} (z : HF T) : RSs (T.fn ["self", "number"] (defScope st_Store_is_living) 0 false E0) [] (defBody st_Store_is_living) b_Store_is_living := (rss_cons (rs_ret (cmE o_eq (.of (fd z.c_Room (ix (.of (fd z.c_Store vE)) vB))) (.of (cG z.m_LIVING)))) rss_nil)
theorem sc_Store_is_living : FnScope ["self", "number"] ["self", "number"] (defScope st_Store_is_living) := ⟨rfl, rfl, rfl, by decide +kernel, rfl, by decide +kernel, by decide +kernel⟩
theorem ok_Store_is_living {T : Tx} (z : HF T) : MtS T "Store" "is_living" 1 2 f_Store_is_living := mkMt (N := ["self", "number"]) z.calm z.d_Store_is_living z.e_Store_is_living z.l_Store sc_Store_is_living (rs_Store_is_living z) (fun _ _ _ _ _ _ us hl => match us, hl with | [_, _], _ => rfl)
/-! Store_living: 0 self, 1 number -/
def b_Store_living : SM := (sSeq (sRet (gVal (lComp [1] (rg1 (g1 dLen (gFld "Store" "rooms" (gV 0)))) (tgName 1) (tB (gMeth "Store" "is_living" f_Store_is_living (gV 0) [(gV 1)])) (gV 1)))) sNil)
def f_Store_living : List D → M D := fnM 1 2 b_Store_living
theorem rs_Store_living {T : Tx} (z : HF T) : RSs (T.fn ["self", "number"] (defScope st_Store_living) 1 false E0) [] (defBody st_Store_living) b_Store_living := (rss_cons (rs_ret (re_val (cp (own := [("number", 1)]) (r1 z.b_range (f1 z.b_len f_len (.of (fd z.c_Store vE)))) cN (rts_one (vT (me (ok_Store_is_living z) vE (ac vE ra_nil)))) vE))) rss_nil)
theorem sc_Store_living : FnScope ["self", "number"] ["self"] (defScope st_Store_living) := ⟨rfl, rfl, rfl, by decide +kernel, rfl, by decide +kernel, by decide +kernel⟩
theorem ok_Store_living {T : Tx} (z : HF T) : MtS T "Store" "living" 2 1 f_Store_living := mkMt (N := ["self", "number"]) z.calm z.d_Store_living z.e_Store_living z.l_Store sc_Store_living (rs_Store_living z) (fun _ _ _ _ _ _ us hl => match us, hl with | [_], _ => rfl)
/-! Store_beginning: 0 self, 1 cell, 2 some, 3 number -/
def b_Store_beginning : SM := (sSeq (sSet 2 (gVal (lComp [3] (gIt (gMeth "Store" "living" f_Store_living (gV 0) [])) (tgName 3) (tB (g2 dEq (gFld "Room" "where" (g2 dIx (gFld "Store" "rooms" (gV 0)) (gV 3))) (gV 1))) (gV 3)))) (sSeq (sRet (gIf (tB (g2 dNe (gV 2) (gVal (seqA [])))) (g2 dIx (gV 2) (gC (.int 0))) (gC .non))) sNil))
def f_Store_beginning : List D → M D := fnM 2 4 b_Store_beginning
theorem rs_Store_beginning {T : Tx} (z : HF T) : RSs (T.fn ["self", "cell", "some", "number"] (defScope st_Store_beginning) 2 false E0) [] (defBody st_Store_beginning) b_Store_beginning := (rss_cons (scV (own := [("number", 3)]) (ri_seq (me0 (ok_Store_living z) vE)) cN (rts_one (cmT o_eq (.of (fd z.c_Room (ix (.of (fd z.c_Store vE)) vB))) vB)) vE) (rss_cons (rs_ret (re_if (cmT o_ne vB (.of (re_val (ls ra_nil)))) (ix vB (.of re_int)) re_non)) rss_nil))
theorem sc_Store_beginning : FnScope ["self", "cell", "some", "number"] ["self", "cell"] (defScope st_Store_beginning) := ⟨rfl, rfl, rfl, by decide +kernel, rfl, by decide +kernel, by decide +kernel⟩
theorem ok_Store_beginning {T : Tx} (z : HF T) : MtS T "Store" "beginning" 3 2 f_Store_beginning := mkMt (N := ["self", "cell", "some", "number"]) z.calm z.d_Store_beginning z.e_Store_beginning z.l_Store sc_Store_beginning (rs_Store_beginning z) (fun _ _ _ _ _ _ us hl => match us, hl with | [_, _], _ => rfl)
/-! Store_free: 0 self, 1 number, 2 one -/
def b_Store_free : SM := (sSeq (sIf (tB (g2 dNe (gFld "Room" "state" (gMeth "Store" "born" f_Store_born (gV 0) [(gV 1)])) (gC (.str "living")))) (sSeq sBad sNil) sNil) (sSeq (Sw.sFld "Room" "state" (g2 dIx (gFld "Store" "rooms" (gV 0)) (gV 1)) (gC (.str "kept"))) (sSeq (sExpr (gLm mApp (gFld "Store" "waiting" (gV 0)) [(gV 1)])) (sSeq (sWhile 1000000 (tB (g2 dGt (g1 dSum (gVal (lComp [2] (gIt (gFld "Store" "waiting" (gV 0))) (tgName 2) tTrue (gFld "Room" "wide" (g2 dIx (gFld "Store" "rooms" (gV 0)) (gV 2)))))) (gFld "Store" "keep" (gV 0)))) (sSeq (Sw.sFld "Room" "state" (g2 dIx (gFld "Store" "rooms" (gV 0)) (gLm mPopAt (gFld "Store" "waiting" (gV 0)) [(gC (.int 0))])) (gC (.str "gone"))) sNil)) sNil))))
def f_Store_free : List D → M D := fnM 2 3 b_Store_free
theorem rs_Store_free {T : Tx} (z : HF T) : RSs (T.fn ["self", "number", "one"] (defScope st_Store_free) 1 false E0) [] (defBody st_Store_free) b_Store_free := (rss_cons (rs_if (cmT o_ne (.of (fd z.c_Room (me (ok_Store_born z) vE (ac vE ra_nil)))) (.of (cG z.m_LIVING))) (rss_cons rs_bad rss_nil) rss_nil) (rss_cons (sF z.c_Room (ix (.of (fd z.c_Store vE)) vB) (cG z.m_KEPT)) (rss_cons (sE (lm m_app (fd z.c_Store vE) (ac vE ra_nil))) (rss_cons (rs_while 1000000 (cmT o_gt (.of (f1 z.b_sum f_sum (.of (re_val (cp (own := [("one", 2)]) (ri_seq (fd z.c_Store vE)) cN rts_nil (fd z.c_Room (ix (.of (fd z.c_Store vE)) vB))))))) (.of (fd z.c_Store vE))) (rss_cons (sF z.c_Room (ix (.of (fd z.c_Store vE)) (.of (lm m_popAt (fd z.c_Store vE) (ac re_int ra_nil)))) (cG z.m_GONE)) rss_nil)) rss_nil))))
theorem sc_Store_free : FnScope ["self", "number", "one"] ["self", "number"] (defScope st_Store_free) := ⟨rfl, rfl, rfl, by decide +kernel, rfl, by decide +kernel, by decide +kernel⟩
theorem ok_Store_free {T : Tx} (z : HF T) : MtS T "Store" "free" 2 2 f_Store_free := mkMt (N := ["self", "number", "one"]) z.calm z.d_Store_free z.e_Store_free z.l_Store sc_Store_free (rs_Store_free z) (fun _ _ _ _ _ _ us hl => match us, hl with | [_, _], _ => rfl)
/-! Room_new: 0 self, 1 where, 2 wide -/
def b_Room_new : SM := (sSeq (Sw.sFld "Room" "where" (gV 0) (gV 1)) (sSeq (Sw.sFld "Room" "wide" (gV 0) (gV 2)) (sSeq (Sw.sFld "Room" "state" (gV 0) (gC (.str "living"))) (sSeq (Sw.sFld "Room" "known" (gV 0) gDict0) sNil))))
def f_Room_new : List D → M D := fnM 3 3 b_Room_new
theorem rs_Room_new {T : Tx} (z : HF T) : RSs (T.fn ["self", "where", "wide"] (defScope st_Room_new) 0 false E0) [] (defBody st_Room_new) b_Room_new := (rss_cons (sF z.c_Room vE vE) (rss_cons (sF z.c_Room vE vE) (rss_cons (sF z.c_Room vE (cG z.m_LIVING)) (rss_cons (sF z.c_Room vE re_dict0) rss_nil))))
theorem sc_Room_new : FnScope ["self", "where", "wide"] ["self", "where", "wide"] (defScope st_Room_new) := ⟨rfl, rfl, rfl, by decide +kernel, rfl, by decide +kernel, by decide +kernel⟩
theorem ok_Room_new {T : Tx} (z : HF T) : MkS T "Room" 1 2 f_Room_new := mkMk (N := ["self", "where", "wide"]) z.calm z.d_Room_new z.k_Room sc_Room_new (rs_Room_new z) (fun _ _ _ _ _ _ us hl => match us, hl with | [_, _, _], _ => rfl) z.g_Room
/-! Store_is_clear: 0 self, 1 begin, 2 wide, 3 room, 4 far -/
def b_Store_is_clear : SM := (sSeq (sFor (gIt (gFld "Store" "rooms" (gV 0))) (tgName 3) (sSeq (sSet 4 (g2 dAdd (g2 dAdd (gFld "Room" "where" (gV 3)) (gFld "Room" "wide" (gV 3))) (gFld "Store" "gap" (gV 0)))) (sSeq (sIf (tAn (tB (g2 dNe (gFld "Room" "state" (gV 3)) (gC (.str "gone")))) (tAn (tB (g2 dLt (gV 1) (gV 4))) (tB (g2 dLt (g2 dSub (gFld "Room" "where" (gV 3)) (gFld "Store" "gap" (gV 0))) (g2 dAdd (gV 1) (gV 2)))))) (sSeq (sRet (gC (.bl false))) sNil) sNil) sNil))) (sSeq (sRet (gC (.bl true))) sNil))
def f_Store_is_clear : List D → M D := fnM 3 5 b_Store_is_clear
theorem rs_Store_is_clear {T : Tx} (z : HF T) : RSs (T.fn ["self", "begin", "wide", "room", "far"] (defScope st_Store_is_clear) 0 false E0) [] (defBody st_Store_is_clear) b_Store_is_clear := (rss_cons (fo (ri_seq (fd z.c_Store vE)) gN (rss_cons (s_ (bo o_add (.of (bo o_add (.of (fd z.c_Room vE)) (.of (fd z.c_Room vE)))) (.of (fd z.c_Store vE)))) (rss_cons (rs_if (RW.rt (rw_and (cmT o_ne (.of (fd z.c_Room vE)) (.of (cG z.m_GONE))) (rw_and (cmT o_lt vB vB) (rw_and1 (cmT o_lt (.of (bo o_sub (.of (fd z.c_Room vE)) (.of (fd z.c_Store vE)))) (.of (bo o_add vB vB))))))) (rss_cons (rs_ret re_bl) rss_nil) rss_nil) rss_nil))) (rss_cons (rs_ret re_bl) rss_nil))
theorem sc_Store_is_clear : FnScope ["self", "begin", "wide", "room", "far"] ["self", "begin", "wide"] (defScope st_Store_is_clear) := ⟨rfl, rfl, rfl, by decide +kernel, rfl, by decide +kernel, by decide +kernel⟩
theorem ok_Store_is_clear {T : Tx} (z : HF T) : MtS T "Store" "is_clear" 1 3 f_Store_is_clear := mkMt (N := ["self", "begin", "wide", "room", "far"]) z.calm z.d_Store_is_clear z.e_Store_is_clear z.l_Store sc_Store_is_clear (rs_Store_is_clear z) (fun _ _ _ _ _ _ us hl => match us, hl with | [_, _, _], _ => rfl)
/-! Store_room: 0 self, 1 size, 2 wide, 3 begin -/
def b_Store_room : SM := (sSeq (sIf (tNt (tB (gChain dLe dLe (gC (.int 1)) (gV 1) (gC (.int 8))))) (sSeq sBad sNil) sNil) (sSeq (sSet 2 (g2 dAdd (gV 1) (g2 dMul (gC (.int 2)) (gFld "Store" "gap" (gV 0))))) (sSeq (sFor (rg1 (g2 dAdd (g2 dSub (gFld "Store" "many" (gV 0)) (gV 2)) (gC (.int 1)))) (tgName 3) (sSeq (sIf (tB (gMeth "Store" "is_clear" f_Store_is_clear (gV 0) [(gV 3), (gV 2)])) (sSeq (sExpr (gLm mApp (gFld "Store" "rooms" (gV 0)) [(gMake "Room" f_Room_new [(g2 dAdd (gV 3) (gFld "Store" "gap" (gV 0))), (gV 1)])])) (sSeq (sRet (g2 dSub (g1 dLen (gFld "Store" "rooms" (gV 0))) (gC (.int 1)))) sNil)) sNil) sNil)) (sSeq (sRet (gC .non)) sNil))))
def f_Store_room : List D → M D := fnM 2 4 b_Store_room
theorem rs_Store_room {T : Tx} (z : HF T) : RSs (T.fn ["self", "size", "wide", "begin"] (defScope st_Store_room) 2 false E0) [] (defBody st_Store_room) b_Store_room := (rss_cons (rs_if (rt_not (chT o_le o_le (.of (cG z.m_LEAST_SIZE)) vB (.of (cG z.m_MOST_SIZE)))) (rss_cons rs_bad rss_nil) rss_nil) (rss_cons (s_ (bo o_add vB (.of (bo o_mul (.of re_int) (.of (fd z.c_Store vE)))))) (rss_cons (fo (r1 z.b_range (bo o_add (.of (bo o_sub (.of (fd z.c_Store vE)) vB)) (.of re_int))) gN (rss_cons (rs_if (vT (me (ok_Store_is_clear z) vE (ac vE (ac vE ra_nil)))) (rss_cons (sE (lm m_app (fd z.c_Store vE) (ac (Sw.mk (ok_Room_new z) (ac (bo o_add vB (.of (fd z.c_Store vE))) (ac vE ra_nil))) ra_nil))) (rss_cons (rs_ret (bo o_sub (.of (f1 z.b_len f_len (.of (fd z.c_Store vE)))) (.of re_int))) rss_nil)) rss_nil) rss_nil)) (rss_cons (rs_ret re_non) rss_nil))))
theorem sc_Store_room : FnScope ["self", "size", "wide", "begin"] ["self", "size"] (defScope st_Store_room) := ⟨rfl, rfl, rfl, by decide +kernel, rfl, by decide +kernel, by decide +kernel⟩
theorem ok_Store_room {T : Tx} (z : HF T) : MtS T "Store" "room" 3 2 f_Store_room := mkMt (N := ["self", "size", "wide", "begin"]) z.calm z.d_Store_room z.e_Store_room z.l_Store sc_Store_room (rs_Store_room z) (fun _ _ _ _ _ _ us hl => match us, hl with | [_, _], _ => rfl)
/-! Room_has: 0 self, 1 cell -/
def b_Room_has : SM := (sSeq (sRet (gChain dLe dLt (gFld "Room" "where" (gV 0)) (gV 1) (g2 dAdd (gFld "Room" "where" (gV 0)) (gFld "Room" "wide" (gV 0))))) sNil)
def f_Room_has : List D → M D := fnM 2 2 b_Room_has
theorem rs_Room_has {T : Tx} (z : HF T) : RSs (T.fn ["self", "cell"] (defScope st_Room_has) 0 false E0) [] (defBody st_Room_has) b_Room_has := (rss_cons (rs_ret (chE o_le o_lt (.of (fd z.c_Room vE)) vB (.of (bo o_add (.of (fd z.c_Room vE)) (.of (fd z.c_Room vE)))))) rss_nil)
theorem sc_Room_has : FnScope ["self", "cell"] ["self", "cell"] (defScope st_Room_has) := ⟨rfl, rfl, rfl, by decide +kernel, rfl, by decide +kernel, by decide +kernel⟩
theorem ok_Room_has {T : Tx} (z : HF T) : MtS T "Room" "has" 1 2 f_Room_has := mkMt (N := ["self", "cell"]) z.calm z.d_Room_has z.e_Room_has z.l_Room sc_Room_has (rs_Room_has z) (fun _ _ _ _ _ _ us hl => match us, hl with | [_, _], _ => rfl)
/-! Store_owner: 0 self, 1 cell, 2 some, 3 number -/
def b_Store_owner : SM := (sSeq (sSet 2 (gVal (lComp [3] (gIt (gMeth "Store" "living" f_Store_living (gV 0) [])) (tgName 3) (tB (gMeth "Room" "has" f_Room_has (g2 dIx (gFld "Store" "rooms" (gV 0)) (gV 3)) [(gV 1)])) (gV 3)))) (sSeq (sRet (gIf (tB (g2 dNe (gV 2) (gVal (seqA [])))) (g2 dIx (gV 2) (gC (.int 0))) (gC .non))) sNil))
def f_Store_owner : List D → M D := fnM 2 4 b_Store_owner
theorem rs_Store_owner {T : Tx} (z : HF T) : RSs (T.fn ["self", "cell", "some", "number"] (defScope st_Store_owner) 2 false E0) [] (defBody st_Store_owner) b_Store_owner := (rss_cons (scV (own := [("number", 3)]) (ri_seq (me0 (ok_Store_living z) vE)) cN (rts_one (vT (me (ok_Room_has z) (ix (.of (fd z.c_Store vE)) vB) (ac vE ra_nil)))) vE) (rss_cons (rs_ret (re_if (cmT o_ne vB (.of (re_val (ls ra_nil)))) (ix vB (.of re_int)) re_non)) rss_nil))
theorem sc_Store_owner : FnScope ["self", "cell", "some", "number"] ["self", "cell"] (defScope st_Store_owner) := ⟨rfl, rfl, rfl, by decide +kernel, rfl, by decide +kernel, by decide +kernel⟩
theorem ok_Store_owner {T : Tx} (z : HF T) : MtS T "Store" "owner" 3 2 f_Store_owner := mkMt (N := ["self", "cell", "some", "number"]) z.calm z.d_Store_owner z.e_Store_owner z.l_Store sc_Store_owner (rs_Store_owner z) (fun _ _ _ _ _ _ us hl => match us, hl with | [_, _], _ => rfl)
/-! Store_write: 0 self, 1 cell, 2 number -/
def b_Store_write : SM := (sSeq (sSet 2 (gMeth "Store" "owner" f_Store_owner (gV 0) [(gV 1)])) (sSeq (sIf (tB (g2 dIsNot (gV 2) (gC .non))) (sSeq (sAsg (gC (.bl true)) (tgSub (gFld "Room" "known" (g2 dIx (gFld "Store" "rooms" (gV 0)) (gV 2))) (gV 1))) sNil) sNil) sNil))
def f_Store_write : List D → M D := fnM 2 3 b_Store_write
theorem rs_Store_write {T : Tx} (z : HF T) : RSs (T.fn ["self", "cell", "number"] (defScope st_Store_write) 3 false E0) [] (defBody st_Store_write) b_Store_write := (rss_cons (s_ (me (ok_Store_owner z) vE (ac vE ra_nil))) (rss_cons (rs_if (cmT o_isNot vB (.of re_non)) (rss_cons (sA re_bl (gS (fd z.c_Room (ix (.of (fd z.c_Store vE)) vB)) vE)) rss_nil) rss_nil) rss_nil))
theorem sc_Store_write : FnScope ["self", "cell", "number"] ["self", "cell"] (defScope st_Store_write) := ⟨rfl, rfl, rfl, by decide +kernel, rfl, by decide +kernel, by decide +kernel⟩
theorem ok_Store_write {T : Tx} (z : HF T) : MtS T "Store" "write" 4 2 f_Store_write := mkMt (N := ["self", "cell", "number"]) z.calm z.d_Store_write z.e_Store_write z.l_Store sc_Store_write (rs_Store_write z) (fun _ _ _ _ _ _ us hl => match us, hl with | [_, _], _ => rfl)
/-! State_touch: 0 self, 1 row, 2 number, 3 cell -/
def b_State_touch : SM := (sSeq (sIf (tB (g2 dEq (g2 dIx (gV 1) (gC (.int 0))) (gC (.str "room")))) (sSeq (sSet 2 (gMeth "Store" "room" f_Store_room (gFld "State" "store" (gV 0)) [(gCall bMax [(gC (.int 1)), (gCall bMin [(gC (.int 8)), (g2 dIx (gFld "State" "numbers" (gV 0)) (g2 dIx (gV 1) (gC (.int 2))))])])])) (sSeq (sIf (tB (g2 dIsN (gV 2) (gC .non))) (sSeq (sRet (gC (.str "full"))) sNil) sNil) (sSeq (sAsg (gTup [(gV 2), (gC (.int 0))]) (tgSub (gFld "State" "handles" (gV 0)) (g2 dIx (gV 1) (gC (.int 1))))) (sSeq (sRet (gC .non)) sNil)))) sNil) (sSeq (sSet 3 (gMeth "State" "cell_of" f_State_cell_of (gV 0) [(gV 1)])) (sSeq (sIf (tB (g2 dEq (g2 dIx (gV 1) (gC (.int 0))) (gC (.str "free")))) (sSeq (sSet 2 (gMeth "Store" "beginning" f_Store_beginning (gFld "State" "store" (gV 0)) [(gV 3)])) (sSeq (sIf (tB (g2 dIsNot (gV 2) (gC .non))) (sSeq (sExpr (gMeth "Store" "free" f_Store_free (gFld "State" "store" (gV 0)) [(gV 2)])) sNil) sNil) (sSeq (sRet (gC .non)) sNil))) sNil) (sSeq (sIf (tNt (tB (gChain dLe dLt (gC (.int 0)) (gV 3) (g1 dLen (gFld "State" "cells" (gV 0)))))) (sSeq (sRet (gC (.str "fell"))) sNil) sNil) (sSeq (sIf (tB (g2 dEq (g2 dIx (gV 1) (gC (.int 0))) (gC (.str "get")))) (sSeq (sAsg (g2 dIx (gFld "State" "cells" (gV 0)) (gV 3)) (tgSub (gFld "State" "numbers" (gV 0)) (g2 dIx (gV 1) (gC (.int 1))))) sNil) (sSeq (sAsg (g2 dIx (gFld "State" "numbers" (gV 0)) (g2 dIx (gV 1) (gC (.int 3)))) (tgSub (gFld "State" "cells" (gV 0)) (gV 3))) (sSeq (sExpr (gMeth "Store" "write" f_Store_write (gFld "State" "store" (gV 0)) [(gV 3)])) sNil))) (sSeq (sRet (gC .non)) sNil))))))
def f_State_touch : List D → M D := fnM 2 4 b_State_touch
theorem rs_State_touch {T : Tx} (z : HF T) : RSs (T.fn ["self", "row", "number", "cell"] (defScope st_State_touch) 4 false E0) [] (defBody st_State_touch) b_State_touch := (rss_cons (rs_if (cmT o_eq (.of (ix vB (.of re_int))) (.of cS)) (rss_cons (s_ (me (ok_Store_room z) (fd z.c_State vE) (ac (bf (bf_max z.b_max.m) (ac (cG z.m_LEAST_SIZE) (ac (bf (bf_min z.b_min.m) (ac (cG z.m_MOST_SIZE) (ac (ix (.of (fd z.c_State vE)) (.of (ix vB (.of re_int)))) ra_nil))) ra_nil))) ra_nil))) (rss_cons (rs_if (cmT o_isN vB (.of re_non)) (rss_cons (rs_ret cS) rss_nil) rss_nil) (rss_cons (sA (tp (ac vE (ac re_int ra_nil))) (gS (fd z.c_State vE) (ix vB (.of re_int)))) (rss_cons (rs_ret re_non) rss_nil)))) rss_nil) (rss_cons (s_ (me (ok_State_cell_of z) vE (ac vE ra_nil))) (rss_cons (rs_if (cmT o_eq (.of (ix vB (.of re_int))) (.of cS)) (rss_cons (s_ (me (ok_Store_beginning z) (fd z.c_State vE) (ac vE ra_nil))) (rss_cons (rs_if (cmT o_isNot vB (.of re_non)) (rss_cons (sE (me (ok_Store_free z) (fd z.c_State vE) (ac vE ra_nil))) rss_nil) rss_nil) (rss_cons (rs_ret re_non) rss_nil))) rss_nil) (rss_cons (rs_if (rt_not (chT o_le o_lt (.of re_int) vB (.of (f1 z.b_len f_len (.of (fd z.c_State vE)))))) (rss_cons (rs_ret cS) rss_nil) rss_nil) (rss_cons (rs_if (cmT o_eq (.of (ix vB (.of re_int))) (.of cS)) (rss_cons (sA (ix (.of (fd z.c_State vE)) vB) (gS (fd z.c_State vE) (ix vB (.of re_int)))) rss_nil) (rss_cons (sA (ix (.of (fd z.c_State vE)) (.of (ix vB (.of re_int)))) (gS (fd z.c_State vE) vE)) (rss_cons (sE (me (ok_Store_write z) (fd z.c_State vE) (ac vE ra_nil))) rss_nil))) (rss_cons (rs_ret re_non) rss_nil))))))
theorem sc_State_touch : FnScope ["self", "row", "number", "cell"] ["self", "row"] (defScope st_State_touch) := ⟨rfl, rfl, rfl, by decide +kernel, rfl, by decide +kernel, by decide +kernel⟩
theorem ok_State_touch {T : Tx} (z : HF T) : MtS T "State" "touch" 5 2 f_State_touch := mkMt (N := ["self", "row", "number", "cell"]) z.calm z.d_State_touch z.e_State_touch z.l_State sc_State_touch (rs_State_touch z) (fun _ _ _ _ _ _ us hl => match us, hl with | [_, _], _ => rfl)
/-! State_do: 0 self, 1 row -/
def b_State_do : SM := (sSeq (sIf (tB (g2 dIn (g2 dIx (gV 1) (gC (.int 0))) (gTup [(gC (.str "put")), (gC (.str "add")), (gC (.str "less")), (gC (.str "ask")), (gC (.str "say"))]))) (sSeq (sExpr (gMeth "State" "reckon" f_State_reckon (gV 0) [(gV 1)])) sNil) (sSeq (sIf (tB (g2 dIn (g2 dIx (gV 1) (gC (.int 0))) (gTup [(gC (.str "shift")), (gC (.str "move"))]))) (sSeq (sExpr (gMeth "State" "lead" f_State_lead (gV 0) [(gV 1)])) sNil) (sSeq (sRet (gMeth "State" "touch" f_State_touch (gV 0) [(gV 1)])) sNil)) sNil)) (sSeq (sRet (gC .non)) sNil))
def f_State_do : List D → M D := fnM 2 2 b_State_do
theorem rs_State_do {T : Tx} (z : HF T) : RSs (T.fn ["self", "row"] (defScope st_State_do) 5 false E0) [] (defBody st_State_do) b_State_do := (rss_cons (rs_if (cmT o_in (.of (ix vB (.of re_int))) (.of (tp (ac cS (ac cS (ac cS (ac cS (ac cS ra_nil)))))))) (rss_cons (sE (me (ok_State_reckon z) vE (ac vE ra_nil))) rss_nil) (rss_cons (rs_if (cmT o_in (.of (ix vB (.of re_int))) (.of (tp (ac cS (ac cS ra_nil))))) (rss_cons (sE (me (ok_State_lead z) vE (ac vE ra_nil))) rss_nil) (rss_cons (rs_ret (me (ok_State_touch z) vE (ac vE ra_nil))) rss_nil)) rss_nil)) (rss_cons (rs_ret re_non) rss_nil))
theorem sc_State_do : FnScope ["self", "row"] ["self", "row"] (defScope st_State_do) := ⟨rfl, rfl, rfl, by decide +kernel, rfl, by decide +kernel, by decide +kernel⟩
theorem ok_State_do {T : Tx} (z : HF T) : MtS T "State" "do" 6 2 f_State_do := mkMt (N := ["self", "row"]) z.calm z.d_State_do z.e_State_do z.l_State sc_State_do (rs_State_do z) (fun _ _ _ _ _ _ us hl => match us, hl with | [_, _], _ => rfl)
/-! Store_mark: 0 self, 1 cell, 2 room -/
def b_Store_mark : SM := (sSeq (sFor (gIt (gFld "Store" "rooms" (gV 0))) (tgName 2) (sSeq (sIf (tAn (tB (g2 dNe (gFld "Room" "state" (gV 2)) (gC (.str "gone")))) (tB (gMeth "Room" "has" f_Room_has (gV 2) [(gV 1)]))) (sSeq (sIf (tB (g2 dEq (gFld "Room" "state" (gV 2)) (gC (.str "kept")))) (sSeq (sRet (gC (.str "freed"))) sNil) sNil) (sSeq (sRet (gIf (tB (g2 dIn (gV 1) (gFld "Room" "known" (gV 2)))) (gC (.str "set")) (gC (.str "fresh")))) sNil)) sNil) sNil)) (sSeq (sFor (gIt (gFld "Store" "rooms" (gV 0))) (tgName 2) (sSeq (sIf (tAn (tB (g2 dNe (gFld "Room" "state" (gV 2)) (gC (.str "gone")))) (tB (gChain dLe dLt (g2 dSub (gFld "Room" "where" (gV 2)) (gFld "Store" "gap" (gV 0))) (gV 1) (g2 dAdd (g2 dAdd (gFld "Room" "where" (gV 2)) (gFld "Room" "wide" (gV 2))) (gFld "Store" "gap" (gV 0)))))) (sSeq (sRet (gC (.str "gap"))) sNil) sNil) sNil)) (sSeq (sRet (gC (.str "open"))) sNil)))
def f_Store_mark : List D → M D := fnM 2 3 b_Store_mark
theorem rs_Store_mark {T : Tx} (z : HF T) : RSs (T.fn ["self", "cell", "room"] (defScope st_Store_mark) 1 false E0) [] (defBody st_Store_mark) b_Store_mark := (rss_cons (fo (ri_seq (fd z.c_Store vE)) gN (rss_cons (rs_if (RW.rt (rw_and (cmT o_ne (.of (fd z.c_Room vE)) (.of (cG z.m_GONE))) (rw_and1 (vT (me (ok_Room_has z) vE (ac vE ra_nil)))))) (rss_cons (rs_if (cmT o_eq (.of (fd z.c_Room vE)) (.of (cG z.m_KEPT))) (rss_cons (rs_ret (cG z.m_FREED)) rss_nil) rss_nil) (rss_cons (rs_ret (re_if (cmT o_in vB (.of (fd z.c_Room vE))) (cG z.m_SET) (cG z.m_FRESH))) rss_nil)) rss_nil) rss_nil)) (rss_cons (fo (ri_seq (fd z.c_Store vE)) gN (rss_cons (rs_if (RW.rt (rw_and (cmT o_ne (.of (fd z.c_Room vE)) (.of (cG z.m_GONE))) (rw_and1 (chT o_le o_lt (.of (bo o_sub (.of (fd z.c_Room vE)) (.of (fd z.c_Store vE)))) vB (.of (bo o_add (.of (bo o_add (.of (fd z.c_Room vE)) (.of (fd z.c_Room vE)))) (.of (fd z.c_Store vE)))))))) (rss_cons (rs_ret (cG z.m_GAP)) rss_nil) rss_nil) rss_nil)) (rss_cons (rs_ret (cG z.m_OPEN)) rss_nil)))
theorem sc_Store_mark : FnScope ["self", "cell", "room"] ["self", "cell"] (defScope st_Store_mark) := ⟨rfl, rfl, rfl, by decide +kernel, rfl, by decide +kernel, by decide +kernel⟩
theorem ok_Store_mark {T : Tx} (z : HF T) : MtS T "Store" "mark" 2 2 f_Store_mark := mkMt (N := ["self", "cell", "room"]) z.calm z.d_Store_mark z.e_Store_mark z.l_Store sc_Store_mark (rs_Store_mark z) (fun _ _ _ _ _ _ us hl => match us, hl with | [_, _], _ => rfl)
/-! Store_size: 0 self, 1 number -/
def b_Store_size : SM := (sSeq (sRet (gFld "Room" "wide" (gMeth "Store" "born" f_Store_born (gV 0) [(gV 1)]))) sNil)
def f_Store_size : List D → M D := fnM 2 2 b_Store_size
theorem rs_Store_size {T : Tx} (z : HF T) : RSs (T.fn ["self", "number"] (defScope st_Store_size) 1 false E0) [] (defBody st_Store_size) b_Store_size := (rss_cons (rs_ret (fd z.c_Room (me (ok_Store_born z) vE (ac vE ra_nil)))) rss_nil)
theorem sc_Store_size : FnScope ["self", "number"] ["self", "number"] (defScope st_Store_size) := ⟨rfl, rfl, rfl, by decide +kernel, rfl, by decide +kernel, by decide +kernel⟩
theorem ok_Store_size {T : Tx} (z : HF T) : MtS T "Store" "size" 2 2 f_Store_size := mkMt (N := ["self", "number"]) z.calm z.d_Store_size z.e_Store_size z.l_Store sc_Store_size (rs_Store_size z) (fun _ _ _ _ _ _ us hl => match us, hl with | [_, _], _ => rfl)
/-! by_bounds: 0 state, 1 row, 2 handle, 3 number, 4 offset -/
def b_by_bounds : SM := (sSeq (sIf (tB (g2 dEq (g2 dIx (gV 1) (gC (.int 0))) (gC (.str "room")))) (sSeq (sRet (gIf (tB (gChain dLe dLe (gC (.int 1)) (g2 dIx (gFld "State" "numbers" (gV 0)) (g2 dIx (gV 1) (gC (.int 2)))) (gC (.int 8)))) (gC .non) (gC (.str "wide")))) sNil) sNil) (sSeq (sSet 2 (gMeth "State" "handle_of" f_State_handle_of (gV 0) [(gV 1)])) (sSeq (sIf (tB (g2 dIsN (gV 2) (gC .non))) (sSeq (sRet (gC (.str "none"))) sNil) sNil) (sSeq (sAsg (gV 2) (tgTup 2 (tgCons (tgName 3) (tgCons (tgName 4) tgNil)))) (sSeq (sIf (tNt (tB (gMeth "Store" "is_living" f_Store_is_living (gFld "State" "store" (gV 0)) [(gV 3)]))) (sSeq (sRet (gIf (tB (g2 dEq (g2 dIx (gV 1) (gC (.int 0))) (gC (.str "free")))) (gC (.str "twice")) (gC (.str "late")))) sNil) sNil) (sSeq (sIf (tB (g2 dEq (g2 dIx (gV 1) (gC (.int 0))) (gC (.str "free")))) (sSeq (sRet (gIf (tB (g2 dEq (gV 4) (gC (.int 0)))) (gC .non) (gC (.str "inside")))) sNil) sNil) (sSeq (sIf (tNt (tB (gChain dLe dLt (gC (.int 0)) (g2 dAdd (gV 4) (gMeth "State" "index_of" f_State_index_of (gV 0) [(gV 1)])) (gMeth "Store" "size" f_Store_size (gFld "State" "store" (gV 0)) [(gV 3)])))) (sSeq (sRet (gC (.str "beyond"))) sNil) sNil) (sSeq (sRet (gIf (tAn (tB (g2 dEq (g2 dIx (gV 1) (gC (.int 0))) (gC (.str "get")))) (tB (g2 dNe (gMeth "Store" "mark" f_Store_mark (gFld "State" "store" (gV 0)) [(gMeth "State" "cell_of" f_State_cell_of (gV 0) [(gV 1)])]) (gC (.str "set"))))) (gC (.str "fresh")) (gC .non))) sNil))))))))
def f_by_bounds : List D → M D := fnM 2 5 b_by_bounds
theorem rs_by_bounds {T : Tx} (z : HF T) : RSs (T.fn ["state", "row", "handle", "number", "offset"] (defScope st_by_bounds) 3 false E0) [] (defBody st_by_bounds) b_by_bounds := (rss_cons (rs_if (cmT o_eq (.of (ix vB (.of re_int))) (.of cS)) (rss_cons (rs_ret (re_if (chT o_le o_le (.of (cG z.m_LEAST_SIZE)) (.of (ix (.of (fd z.c_State vE)) (.of (ix vB (.of re_int))))) (.of (cG z.m_MOST_SIZE))) re_non cS)) rss_nil) rss_nil) (rss_cons (s_ (me (ok_State_handle_of z) vE (ac vE ra_nil))) (rss_cons (rs_if (cmT o_isN vB (.of re_non)) (rss_cons (rs_ret cS) rss_nil) rss_nil) (rss_cons (sA vE (gT (gc gN (gc gN rgs_nil)))) (rss_cons (rs_if (rt_not (vT (me (ok_Store_is_living z) (fd z.c_State vE) (ac vE ra_nil)))) (rss_cons (rs_ret (re_if (cmT o_eq (.of (ix vB (.of re_int))) (.of cS)) cS cS)) rss_nil) rss_nil) (rss_cons (rs_if (cmT o_eq (.of (ix vB (.of re_int))) (.of cS)) (rss_cons (rs_ret (re_if (cmT o_eq vB (.of re_int)) re_non cS)) rss_nil) rss_nil) (rss_cons (rs_if (rt_not (chT o_le o_lt (.of re_int) (.of (bo o_add vB (.of (me (ok_State_index_of z) vE (ac vE ra_nil))))) (.of (me (ok_Store_size z) (fd z.c_State vE) (ac vE ra_nil))))) (rss_cons (rs_ret cS) rss_nil) rss_nil) (rss_cons (rs_ret (re_if (RW.rt (rw_and (cmT o_eq (.of (ix vB (.of re_int))) (.of cS)) (rw_and1 (cmT o_ne (.of (me (ok_Store_mark z) (fd z.c_State vE) (ac (me (ok_State_cell_of z) vE (ac vE ra_nil)) ra_nil))) (.of (cG z.m_SET)))))) cS re_non)) rss_nil))))))))
theorem sc_by_bounds : FnScope ["state", "row", "handle", "number", "offset"] ["state", "row"] (defScope st_by_bounds) := ⟨rfl, rfl, rfl, by decide +kernel, rfl, by decide +kernel, by decide +kernel⟩
theorem ok_by_bounds {T : Tx} (z : HF T) : FnS T "by_bounds" 4 2 f_by_bounds := mkFn (N := ["state", "row", "handle", "number", "offset"]) z.calm z.d_by_bounds z.g_by_bounds sc_by_bounds (rs_by_bounds z) (fun _ _ _ _ _ _ us hl => match us, hl with | [_, _], _ => rfl)
/-! by_marks: 0 state, 1 row, 2 cell, 3 mark -/
def b_by_marks : SM := (sSeq (sIf (tB (g2 dEq (g2 dIx (gV 1) (gC (.int 0))) (gC (.str "room")))) (sSeq (sRet (gCall f_by_bounds [(gV 0), (gV 1)])) sNil) sNil) (sSeq (sSet 2 (gMeth "State" "cell_of" f_State_cell_of (gV 0) [(gV 1)])) (sSeq (sSet 3 (gMeth "Store" "mark" f_Store_mark (gFld "State" "store" (gV 0)) [(gV 2)])) (sSeq (sIf (tB (g2 dEq (g2 dIx (gV 1) (gC (.int 0))) (gC (.str "free")))) (sSeq (sIf (tB (g2 dIsNot (gMeth "Store" "beginning" f_Store_beginning (gFld "State" "store" (gV 0)) [(gV 2)]) (gC .non))) (sSeq (sRet (gC .non)) sNil) sNil) (sSeq (sRet (gIf (tB (g2 dIn (gV 3) (gTup [(gC (.str "set")), (gC (.str "fresh"))]))) (gC (.str "inside")) (gV 3))) sNil)) sNil) (sSeq (sRet (gIf (tOrr (tB (g2 dEq (gV 3) (gC (.str "set")))) (tAn (tB (g2 dEq (gV 3) (gC (.str "fresh")))) (tB (g2 dEq (g2 dIx (gV 1) (gC (.int 0))) (gC (.str "set")))))) (gC .non) (gV 3))) sNil)))))
def f_by_marks : List D → M D := fnM 2 4 b_by_marks
theorem rs_by_marks {T : Tx} (z : HF T) : RSs (T.fn ["state", "row", "cell", "mark"] (defScope st_by_marks) 4 false E0) [] (defBody st_by_marks) b_by_marks := (rss_cons (rs_if (cmT o_eq (.of (ix vB (.of re_int))) (.of cS)) (rss_cons (rs_ret (Sw.call (ok_by_bounds z) (ac vE (ac vE ra_nil)))) rss_nil) rss_nil) (rss_cons (s_ (me (ok_State_cell_of z) vE (ac vE ra_nil))) (rss_cons (s_ (me (ok_Store_mark z) (fd z.c_State vE) (ac vE ra_nil))) (rss_cons (rs_if (cmT o_eq (.of (ix vB (.of re_int))) (.of cS)) (rss_cons (rs_if (cmT o_isNot (.of (me (ok_Store_beginning z) (fd z.c_State vE) (ac vE ra_nil))) (.of re_non)) (rss_cons (rs_ret re_non) rss_nil) rss_nil) (rss_cons (rs_ret (re_if (cmT o_in vB (.of (tp (ac (cG z.m_SET) (ac (cG z.m_FRESH) ra_nil))))) cS vE)) rss_nil)) rss_nil) (rss_cons (rs_ret (re_if (RW.rt (rw_or (cmT o_eq vB (.of (cG z.m_SET))) (rw_or1 (RW.rt (rw_and (cmT o_eq vB (.of (cG z.m_FRESH))) (rw_and1 (cmT o_eq (.of (ix vB (.of re_int))) (.of cS)))))))) re_non vE)) rss_nil)))))
theorem sc_by_marks : FnScope ["state", "row", "cell", "mark"] ["state", "row"] (defScope st_by_marks) := ⟨rfl, rfl, rfl, by decide +kernel, rfl, by decide +kernel, by decide +kernel⟩
theorem ok_by_marks {T : Tx} (z : HF T) : FnS T "by_marks" 5 2 f_by_marks := mkFn (N := ["state", "row", "cell", "mark"]) z.calm z.d_by_marks z.g_by_marks sc_by_marks (rs_by_marks z) (fun _ _ _ _ _ _ us hl => match us, hl with | [_, _], _ => rfl)
/-! by_tags: 0 state, 1 row, 2 bits, 3 handle, 4 cell, 5 number -/
def b_by_tags : SM := (sSeq (sIf (tB (g2 dEq (g2 dIx (gV 1) (gC (.int 0))) (gC (.str "room")))) (sSeq (sRet (gCall f_by_bounds [(gV 0), (gV 1)])) sNil) sNil) (sSeq (sSet 3 (gMeth "State" "handle_of" f_State_handle_of (gV 0) [(gV 1)])) (sSeq (sSet 4 (gMeth "State" "cell_of" f_State_cell_of (gV 0) [(gV 1)])) (sSeq (sSet 5 (gIf (tB (g2 dEq (g2 dIx (gV 1) (gC (.int 0))) (gC (.str "free")))) (gMeth "Store" "beginning" f_Store_beginning (gFld "State" "store" (gV 0)) [(gV 4)]) (gMeth "Store" "owner" f_Store_owner (gFld "State" "store" (gV 0)) [(gV 4)]))) (sSeq (sIf (tOrr (tB (g2 dIsN (gV 3) (gC .non))) (tOrr (tB (g2 dIsN (gV 5) (gC .non))) (tB (g2 dNe (g2 dMod (g2 dSub (gV 5) (g2 dIx (gV 3) (gC (.int 0)))) (g2 dIx (gC (.tup [(.int 1), (.int 2), (.int 4), (.int 8), (.int 16)])) (gV 2))) (gC (.int 0)))))) (sSeq (sRet (gC (.str "tag"))) sNil) sNil) (sSeq (sRet (gIf (tAn (tB (g2 dEq (g2 dIx (gV 1) (gC (.int 0))) (gC (.str "get")))) (tB (g2 dNe (gMeth "Store" "mark" f_Store_mark (gFld "State" "store" (gV 0)) [(gV 4)]) (gC (.str "set"))))) (gC (.str "tag")) (gC .non))) sNil))))))
def f_by_tags : List D → M D := fnM 3 6 b_by_tags
theorem rs_by_tags {T : Tx} (z : HF T) : RSs (T.fn ["state", "row", "bits", "handle", "cell", "number"] (defScope st_by_tags) 4 false E0) [] (defBody st_by_tags) b_by_tags := (rss_cons (rs_if (cmT o_eq (.of (ix vB (.of re_int))) (.of cS)) (rss_cons (rs_ret (Sw.call (ok_by_bounds z) (ac vE (ac vE ra_nil)))) rss_nil) rss_nil) (rss_cons (s_ (me (ok_State_handle_of z) vE (ac vE ra_nil))) (rss_cons (s_ (me (ok_State_cell_of z) vE (ac vE ra_nil))) (rss_cons (s_ (re_if (cmT o_eq (.of (ix vB (.of re_int))) (.of cS)) (me (ok_Store_beginning z) (fd z.c_State vE) (ac vE ra_nil)) (me (ok_Store_owner z) (fd z.c_State vE) (ac vE ra_nil)))) (rss_cons (rs_if (RW.rt (rw_or (cmT o_isN vB (.of re_non)) (rw_or (cmT o_isN vB (.of re_non)) (rw_or1 (cmT o_ne (.of (bo o_mod (.of (bo o_sub vB (.of (ix vB (.of re_int))))) (.of (ix (.of (cG z.m_COUNTS)) vB)))) (.of re_int)))))) (rss_cons (rs_ret cS) rss_nil) rss_nil) (rss_cons (rs_ret (re_if (RW.rt (rw_and (cmT o_eq (.of (ix vB (.of re_int))) (.of cS)) (rw_and1 (cmT o_ne (.of (me (ok_Store_mark z) (fd z.c_State vE) (ac vE ra_nil))) (.of (cG z.m_SET)))))) cS re_non)) rss_nil))))))
theorem sc_by_tags : FnScope ["state", "row", "bits", "handle", "cell", "number"] ["state", "row", "bits"] (defScope st_by_tags) := ⟨rfl, rfl, rfl, by decide +kernel, rfl, by decide +kernel, by decide +kernel⟩
theorem ok_by_tags {T : Tx} (z : HF T) : FnS T "by_tags" 5 3 f_by_tags := mkFn (N := ["state", "row", "bits", "handle", "cell", "number"]) z.calm z.d_by_tags z.g_by_tags sc_by_tags (rs_by_tags z) (fun _ _ _ _ _ _ us hl => match us, hl with | [_, _, _], _ => rfl)
/-! look: 0 state, 1 row, 2 way -/
def b_look : SM := (sSeq (sIf (tB (g2 dEq (gV 2) (gC (.str "bounds")))) (sSeq (sRet (gCall f_by_bounds [(gV 0), (gV 1)])) sNil) sNil) (sSeq (sRet (gIf (tB (g2 dEq (gV 2) (gC (.str "marks")))) (gCall f_by_marks [(gV 0), (gV 1)]) (gCall f_by_tags [(gV 0), (gV 1), (g2 dIx (gV 2) (gC (.int 1)))]))) sNil))
def f_look : List D → M D := fnM 3 3 b_look
theorem rs_look {T : Tx} (z : HF T) : RSs (T.fn ["state", "row", "way"] (defScope st_look) 5 false E0) [] (defBody st_look) b_look := (rss_cons (rs_if (cmT o_eq vB (.of (cG z.m_BOUNDS))) (rss_cons (rs_ret (Sw.call (ok_by_bounds z) (ac vE (ac vE ra_nil)))) rss_nil) rss_nil) (rss_cons (rs_ret (re_if (cmT o_eq vB (.of (cG z.m_MARKS))) (Sw.call (ok_by_marks z) (ac vE (ac vE ra_nil))) (Sw.call (ok_by_tags z) (ac vE (ac vE (ac (ix vB (.of re_int)) ra_nil)))))) rss_nil))
theorem sc_look : FnScope ["state", "row", "way"] ["state", "row", "way"] (defScope st_look) := ⟨rfl, rfl, rfl, by decide +kernel, rfl, by decide +kernel, by decide +kernel⟩
theorem ok_look {T : Tx} (z : HF T) : FnS T "look" 6 3 f_look := mkFn (N := ["state", "row", "way"]) z.calm z.d_look z.g_look sc_look (rs_look z) (fun _ _ _ _ _ _ us hl => match us, hl with | [_, _, _], _ => rfl)
/-! Run_go_through: 0 self, 1 block, 2 rows, 3 end, 4 place, 5 number, 6 row, 7 told -/
def b_Run_go_through : SM := (sSeq (sAsg (g2 dIx (gFld "Run" "program" (gV 0)) (gV 1)) (tgTup 2 (tgCons (tgName 2) (tgCons (tgName 3) tgNil)))) (sSeq (sSet 4 (gC (.int 0))) (sSeq (sFor (rg1 (g1 dLen (gV 2))) (tgName 5) (sSeq (sSet 6 (g2 dIx (gV 2) (gV 5))) (sSeq (sIf (tB (g2 dEq (gV 6) (gC (.tup [(.str "check")])))) (sSeq (sSet 7 (gCall f_look [(gFld "Run" "state" (gV 0)), (g2 dIx (gV 2) (g2 dAdd (gV 5) (gC (.int 1)))), (gFld "Run" "way" (gV 0))])) (sSeq (sIf (tB (g2 dIsNot (gV 7) (gC .non))) (sSeq (sAsg (gTup [(gC (.str "stop")), (gTup [(gV 1), (gV 4), (gV 7)]), (g2 dIx (gV 2) (g2 dAdd (gV 5) (gC (.int 1))))]) (tgTup 3 (tgCons (tgFld "Run" "word" (gV 0)) (tgCons (tgFld "Run" "why" (gV 0)) (tgCons (tgFld "Run" "stopped" (gV 0)) tgNil))))) (sSeq (sRet (gC .non)) sNil)) sNil) sNil)) (sSeq (sIf (tB (gMeth "Run" "is_long" f_Run_is_long (gV 0) [])) (sSeq (sRet (gC .non)) sNil) sNil) (sSeq (Sw.sFld "Run" "word" (gV 0) (gOrT (gMeth "State" "do" f_State_do (gFld "Run" "state" (gV 0)) [(gV 6)]) (gC (.str "")))) (sSeq (sIf (tB (g2 dNe (gFld "Run" "word" (gV 0)) (gC (.str "")))) (sSeq (sRet (gC .non)) sNil) sNil) (sSeq (sSet 4 (g2 dAdd (gV 4) (gC (.int 1)))) sNil))))) sNil))) (sSeq (sRet (gIf (tB (gMeth "Run" "is_long" f_Run_is_long (gV 0) [])) (gC .non) (gMeth "Run" "ended" f_Run_ended (gV 0) [(gV 3)]))) sNil))))
def f_Run_go_through : List D → M D := fnM 2 8 b_Run_go_through
theorem rs_Run_go_through {T : Tx} (z : HF T) : RSs (T.fn ["self", "block", "rows", "end", "place", "number", "row", "told"] (defScope st_Run_go_through) 6 false E0) [] (defBody st_Run_go_through) b_Run_go_through := (rss_cons (sA (ix (.of (fd z.c_Run vE)) vB) (gT (gc gN (gc gN rgs_nil)))) (rss_cons (s_ re_int) (rss_cons (fo (r1 z.b_range (f1 z.b_len f_len vB)) gN (rss_cons (s_ (ix vB vB)) (rss_cons (rs_if (cmT o_eq vB (.of (cG z.m_CHECK))) (rss_cons (s_ (Sw.call (ok_look z) (ac (fd z.c_Run vE) (ac (ix vB (.of (bo o_add vB (.of re_int)))) (ac (fd z.c_Run vE) ra_nil))))) (rss_cons (rs_if (cmT o_isNot vB (.of re_non)) (rss_cons (sA (tp (ac cS (ac (tp (ac vE (ac vE (ac vE ra_nil)))) (ac (ix vB (.of (bo o_add vB (.of re_int)))) ra_nil)))) (gT (gc (gF z.c_Run vE) (gc (gF z.c_Run vE) (gc (gF z.c_Run vE) rgs_nil))))) (rss_cons (rs_ret re_non) rss_nil)) rss_nil) rss_nil)) (rss_cons (rs_if (vT (me0 (ok_Run_is_long z) vE)) (rss_cons (rs_ret re_non) rss_nil) rss_nil) (rss_cons (sF z.c_Run vE (re_orT (me (ok_State_do z) (fd z.c_Run vE) (ac vE ra_nil)) (re_one cS))) (rss_cons (rs_if (cmT o_ne (.of (fd z.c_Run vE)) (.of cS)) (rss_cons (rs_ret re_non) rss_nil) rss_nil) (rss_cons (s_ (bo o_add vB (.of re_int))) rss_nil))))) rss_nil))) (rss_cons (rs_ret (re_if (vT (me0 (ok_Run_is_long z) vE)) re_non (me (ok_Run_ended z) vE (ac vE ra_nil)))) rss_nil))))
theorem sc_Run_go_through : FnScope ["self", "block", "rows", "end", "place", "number", "row", "told"] ["self", "block"] (defScope st_Run_go_through) := ⟨rfl, rfl, rfl, by decide +kernel, rfl, by decide +kernel, by decide +kernel⟩
theorem ok_Run_go_through {T : Tx} (z : HF T) : MtS T "Run" "go_through" 7 2 f_Run_go_through := mkMt (N := ["self", "block", "rows", "end", "place", "number", "row", "told"]) z.calm z.d_Run_go_through z.e_Run_go_through z.l_Run sc_Run_go_through (rs_Run_go_through z) (fun _ _ _ _ _ _ us hl => match us, hl with | [_, _], _ => rfl)
/-! is_number: 0 part, 1 low, 2 high -/
def b_is_number : SM := (sSeq (sRet (gAn (g1 (isTy "int") (gV 0)) (gAn (gNt (g1 (isTy "bool") (gV 0))) (gChain dLe dLe (gV 1) (gV 0) (gV 2))))) sNil)
def f_is_number : List D → M D := fnM 3 3 b_is_number
theorem rs_is_number {T : Tx} (z : HF T) : RSs (T.fn ["part", "low", "high"] (defScope st_is_number) 0 false E0) [] (defBody st_is_number) b_is_number := (rss_cons (rs_ret (re_and (isi ist_int z.b_isinstance z.b_int vB) (re_and (re_not (isi ist_bool z.b_isinstance z.b_bool vB)) (re_one (chE o_le o_le vB vB vB))))) rss_nil)
theorem sc_is_number : FnScope ["part", "low", "high"] ["part", "low", "high"] (defScope st_is_number) := ⟨rfl, rfl, rfl, by decide +kernel, rfl, by decide +kernel, by decide +kernel⟩
theorem ok_is_number {T : Tx} (z : HF T) : FnS T "is_number" 1 3 f_is_number := mkFn (N := ["part", "low", "high"]) z.calm z.d_is_number z.g_is_number sc_is_number (rs_is_number z) (fun _ _ _ _ _ _ us hl => match us, hl with | [_, _, _], _ => rfl)
/-! need_setting: 0 setting, 1 cells, 2 gap, 3 keep -/
def b_need_setting : SM := (sSeq (sAsg (gV 0) (tgTup 3 (tgCons (tgName 1) (tgCons (tgName 2) (tgCons (tgName 3) tgNil))))) (sSeq (sIf (tOrr (tNt (tB (gCall f_is_number [(gV 1), (gC (.int 8)), (gC (.int 64))]))) (tOrr (tNt (tB (gCall f_is_number [(gV 2), (gC (.int 0)), (gC (.int 2))]))) (tNt (tB (gCall f_is_number [(gV 3), (gC (.int 0)), (gC (.int 32))]))))) (sSeq sBad sNil) sNil) sNil))
def f_need_setting : List D → M D := fnM 1 4 b_need_setting
theorem rs_need_setting {T : Tx} (z : HF T) : RSs (T.fn ["setting", "cells", "gap", "keep"] (defScope st_need_setting) 1 false E0) [] (defBody st_need_setting) b_need_setting := (rss_cons (sA vE (gT (gc gN (gc gN (gc gN rgs_nil))))) (rss_cons (rs_if (RW.rt (rw_or (rt_not (vT (Sw.call (ok_is_number z) (ac vE (ac re_int (ac re_int ra_nil)))))) (rw_or (rt_not (vT (Sw.call (ok_is_number z) (ac vE (ac re_int (ac re_int ra_nil)))))) (rw_or1 (rt_not (vT (Sw.call (ok_is_number z) (ac vE (ac re_int (ac re_int ra_nil)))))))))) (rss_cons rs_bad rss_nil) rss_nil) rss_nil))
theorem sc_need_setting : FnScope ["setting", "cells", "gap", "keep"] ["setting"] (defScope st_need_setting) := ⟨rfl, rfl, rfl, by decide +kernel, rfl, by decide +kernel, by decide +kernel⟩
theorem ok_need_setting {T : Tx} (z : HF T) : FnS T "need_setting" 2 1 f_need_setting := mkFn (N := ["setting", "cells", "gap", "keep"]) z.calm z.d_need_setting z.g_need_setting sc_need_setting (rs_need_setting z) (fun _ _ _ _ _ _ us hl => match us, hl with | [_], _ => rfl)
/-! Store_new: 0 self, 1 setting -/
def b_Store_new : SM := (sSeq (sExpr (gCall f_need_setting [(gV 1)])) (sSeq (sAsg (gV 1) (tgTup 3 (tgCons (tgFld "Store" "many" (gV 0)) (tgCons (tgFld "Store" "gap" (gV 0)) (tgCons (tgFld "Store" "keep" (gV 0)) tgNil))))) (sSeq (Sw.sFld "Store" "rooms" (gV 0) (gNew (seqA []))) (sSeq (Sw.sFld "Store" "waiting" (gV 0) (gNew (seqA []))) sNil))))
def f_Store_new : List D → M D := fnM 2 2 b_Store_new
theorem rs_Store_new {T : Tx} (z : HF T) : RSs (T.fn ["self", "setting"] (defScope st_Store_new) 2 false E0) [] (defBody st_Store_new) b_Store_new := (rss_cons (sE (Sw.call (ok_need_setting z) (ac vE ra_nil))) (rss_cons (sA vE (gT (gc (gF z.c_Store vE) (gc (gF z.c_Store vE) (gc (gF z.c_Store vE) rgs_nil))))) (rss_cons (sF z.c_Store vE (re_new (ls ra_nil))) (rss_cons (sF z.c_Store vE (re_new (ls ra_nil))) rss_nil))))
theorem sc_Store_new : FnScope ["self", "setting"] ["self", "setting"] (defScope st_Store_new) := ⟨rfl, rfl, rfl, by decide +kernel, rfl, by decide +kernel, by decide +kernel⟩
theorem ok_Store_new {T : Tx} (z : HF T) : MkS T "Store" 3 1 f_Store_new := mkMk (N := ["self", "setting"]) z.calm z.d_Store_new z.k_Store sc_Store_new (rs_Store_new z) (fun _ _ _ _ _ _ us hl => match us, hl with | [_, _], _ => rfl) z.g_Store
/-! State_new: 0 self, 1 setting, 2 given -/
def b_State_new : SM := (sSeq (Sw.sFld "State" "numbers" (gV 0) (gNew (lMul (gVal (seqA [(gC (.int 0))])) (gC (.int 6))))) (sSeq (Sw.sFld "State" "handles" (gV 0) (gNew (lMul (gVal (seqA [(gC .non)])) (gC (.int 4))))) (sSeq (Sw.sFld "State" "store" (gV 0) (gMake "Store" f_Store_new [(gV 1)])) (sSeq (Sw.sFld "State" "cells" (gV 0) (gNew (lMul (gVal (seqA [(gC (.int 0))])) (g2 dIx (gV 1) (gC (.int 0)))))) (sSeq (Sw.sFld "State" "given" (gV 0) (gNew (l1 dList (gV 2)))) (sSeq (Sw.sFld "State" "said" (gV 0) (gNew (seqA []))) sNil))))))
def f_State_new : List D → M D := fnM 3 3 b_State_new
theorem rs_State_new {T : Tx} (z : HF T) : RSs (T.fn ["self", "setting", "given"] (defScope st_State_new) 4 false E0) [] (defBody st_State_new) b_State_new := (rss_cons (sF z.c_State vE (re_new (rf_mul (.of (re_val (ls (ac re_int ra_nil)))) (.of (cG z.m_NUMBERS))))) (rss_cons (sF z.c_State vE (re_new (rf_mul (.of (re_val (ls (ac re_non ra_nil)))) (.of (cG z.m_HANDLES))))) (rss_cons (sF z.c_State vE (Sw.mk (ok_Store_new z) (ac vE ra_nil))) (rss_cons (sF z.c_State vE (re_new (rf_mul (.of (re_val (ls (ac re_int ra_nil)))) (.of (ix vB (.of re_int)))))) (rss_cons (sF z.c_State vE (re_new (ft1 z.b_list t_list vB))) (rss_cons (sF z.c_State vE (re_new (ls ra_nil))) rss_nil))))))
theorem sc_State_new : FnScope ["self", "setting", "given"] ["self", "setting", "given"] (defScope st_State_new) := ⟨rfl, rfl, rfl, by decide +kernel, rfl, by decide +kernel, by decide +kernel⟩
theorem ok_State_new {T : Tx} (z : HF T) : MkS T "State" 5 2 f_State_new := mkMk (N := ["self", "setting", "given"]) z.calm z.d_State_new z.k_State sc_State_new (rs_State_new z) (fun _ _ _ _ _ _ us hl => match us, hl with | [_, _, _], _ => rfl) z.g_State
/-! Run_new: 0 self, 1 program, 2 setting, 3 way, 4 given, 5 block -/
def b_Run_new : SM := (sSeq (Sw.sFld "Run" "state" (gV 0) (gMake "State" f_State_new [(gV 2), (gV 4)])) (sSeq (Sw.sFld "Run" "program" (gV 0) (gV 1)) (sSeq (Sw.sFld "Run" "way" (gV 0) (gV 3)) (sSeq (Sw.sFld "Run" "steps" (gV 0) (gC (.int 0))) (sSeq (Sw.sFld "Run" "word" (gV 0) (gC (.str ""))) (sSeq (Sw.sFld "Run" "why" (gV 0) (gC .non)) (sSeq (Sw.sFld "Run" "stopped" (gV 0) (gC .non)) (sSeq (sSet 5 (gC (.int 0))) (sSeq (sWhile 1000000 (tB (g2 dEq (gFld "Run" "word" (gV 0)) (gC (.str "")))) (sSeq (sSet 5 (gMeth "Run" "go_through" f_Run_go_through (gV 0) [(gV 5)])) sNil)) sNil)))))))))
def f_Run_new : List D → M D := fnM 5 6 b_Run_new
theorem rs_Run_new {T : Tx} (z : HF T) : RSs (T.fn ["self", "program", "setting", "way", "given", "block"] (defScope st_Run_new) 7 false E0) [] (defBody st_Run_new) b_Run_new := (rss_cons (sF z.c_Run vE (Sw.mk (ok_State_new z) (ac vE (ac vE ra_nil)))) (rss_cons (sF z.c_Run vE vE) (rss_cons (sF z.c_Run vE vE) (rss_cons (sF z.c_Run vE re_int) (rss_cons (sF z.c_Run vE cS) (rss_cons (sF z.c_Run vE re_non) (rss_cons (sF z.c_Run vE re_non) (rss_cons (s_ re_int) (rss_cons (rs_while 1000000 (cmT o_eq (.of (fd z.c_Run vE)) (.of cS)) (rss_cons (s_ (me (ok_Run_go_through z) vE (ac vE ra_nil))) rss_nil)) rss_nil)))))))))
theorem sc_Run_new : FnScope ["self", "program", "setting", "way", "given", "block"] ["self", "program", "setting", "way", "given"] (defScope st_Run_new) := ⟨rfl, rfl, rfl, by decide +kernel, rfl, by decide +kernel, by decide +kernel⟩
theorem ok_Run_new {T : Tx} (z : HF T) : MkS T "Run" 8 4 f_Run_new := mkMk (N := ["self", "program", "setting", "way", "given", "block"]) z.calm z.d_Run_new z.k_Run sc_Run_new (rs_Run_new z) (fun _ _ _ _ _ _ us hl => match us, hl with | [_, _, _, _, _], _ => rfl) z.g_Run
/-! is_touch: 0 row -/
def b_is_touch : SM := (sSeq (sRet (g2 dIn (g2 dIx (gV 0) (gC (.int 0))) (gC (.tup [(.str "room"), (.str "free"), (.str "get"), (.str "set")])))) sNil)
def f_is_touch : List D → M D := fnM 1 1 b_is_touch
theorem rs_is_touch {T : Tx} (z : HF T) : RSs (T.fn ["row"] (defScope st_is_touch) 0 false E0) [] (defBody st_is_touch) b_is_touch := (rss_cons (rs_ret (cmE o_in (.of (ix vB (.of re_int))) (.of (cG z.m_TOUCHES)))) rss_nil)
theorem sc_is_touch : FnScope ["row"] ["row"] (defScope st_is_touch) := ⟨rfl, rfl, rfl, by decide +kernel, rfl, by decide +kernel, by decide +kernel⟩
theorem ok_is_touch {T : Tx} (z : HF T) : FnS T "is_touch" 1 1 f_is_touch := mkFn (N := ["row"]) z.calm z.d_is_touch z.g_is_touch sc_is_touch (rs_is_touch z) (fun _ _ _ _ _ _ us hl => match us, hl with | [_], _ => rfl)
/-! unchecked: 0 program, 1 rows, 2 end, 3 row -/
def b_unchecked : SM := (sSeq (sRet (g1 dTuple (gVal (lComp [1, 2] (gIt (gV 0)) (tgTup 2 (tgCons (tgName 1) (tgCons (tgName 2) tgNil))) tTrue (gTup [(g1 dTuple (gVal (lComp [3] (gIt (gV 1)) (tgName 3) (tB (g2 dNe (gV 3) (gC (.tup [(.str "check")])))) (gV 3)))), (gV 2)]))))) sNil)
def f_unchecked : List D → M D := fnM 1 4 b_unchecked
theorem rs_unchecked {T : Tx} (z : HF T) : RSs (T.fn ["program", "rows", "end", "row"] (defScope st_unchecked) 0 false E0) [] (defBody st_unchecked) b_unchecked := (rss_cons (rs_ret (t1 z.b_tuple t_tuple (.of (re_val (cp (own := [("rows", 1), ("end", 2)]) (ri_seq vE) (cT (cc cN (cc cN rcs_nil))) rts_nil (tp (ac (t1 z.b_tuple t_tuple (.of (re_val (cp (own := [("row", 3)]) (ri_seq vE) cN (rts_one (cmT o_ne vB (.of (cG z.m_CHECK)))) vE)))) (ac vE ra_nil)))))))) rss_nil)
theorem sc_unchecked : FnScope ["program", "rows", "end", "row"] ["program"] (defScope st_unchecked) := ⟨rfl, rfl, rfl, by decide +kernel, rfl, by decide +kernel, by decide +kernel⟩
theorem ok_unchecked {T : Tx} (z : HF T) : FnS T "unchecked" 1 1 f_unchecked := mkFn (N := ["program", "rows", "end", "row"]) z.calm z.d_unchecked z.g_unchecked sc_unchecked (rs_unchecked z) (fun _ _ _ _ _ _ us hl => match us, hl with | [_], _ => rfl)
/-! with_checks: 0 program, 1 left, 2 found own, 3 block, 4 rows, 5 end, 6 some own, 7 place -/
def b_with_checks : SM := (sSeq (sOwn 2 (seqA [])) (sSeq (sFor (enT (gCall f_unchecked [(gV 0)])) (tgTup 2 (tgCons (tgName 3) (tgCons (tgTup 2 (tgCons (tgName 4) (tgCons (tgName 5) tgNil))) tgNil))) (sSeq (sOwn 6 (seqA [])) (sSeq (sFor (rg1 (g1 dLen (gV 4))) (tgName 7) (sSeq (sIf (tAn (tB (gCall f_is_touch [(g2 dIx (gV 4) (gV 7))])) (tB (g2 dNotIn (gTup [(gV 3), (gV 7)]) (gV 1)))) (sSeq (sOwnM mApp 6 [(gC (.tup [(.str "check")]))]) sNil) sNil) (sSeq (sOwnM mApp 6 [(g2 dIx (gV 4) (gV 7))]) sNil))) (sSeq (sOwnM mApp 2 [(gTup [(g1 dTuple (gV 6)), (gV 5)])]) sNil)))) (sSeq (sRet (g1 dTuple (gV 2))) sNil)))
def f_with_checks : List D → M D := fnM 2 8 b_with_checks
theorem rs_with_checks {T : Tx} (z : HF T) : RSs (T.fn ["program", "left", "found", "block", "rows", "end", "some", "place"] (defScope st_with_checks) 1 false E0) [2, 6] (defBody st_with_checks) b_with_checks := (rss_cons (sO (ls ra_nil)) (rss_cons (fo (ri_enum z.b_enumerate (Sw.call (ok_unchecked z) (ac vE ra_nil))) (gT (gc gN (gc (gT (gc gN (gc gN rgs_nil))) rgs_nil))) (rss_cons (sO (ls ra_nil)) (rss_cons (fo (r1 z.b_range (f1 z.b_len f_len vB)) gN (rss_cons (rs_if (RW.rt (rw_and (vT (Sw.call (ok_is_touch z) (ac (ix vB vB) ra_nil))) (rw_and1 (cmT o_notin (.of (tp (ac vE (ac vE ra_nil)))) vB)))) (rss_cons (sM m_app (ac (cG z.m_CHECK) ra_nil)) rss_nil) rss_nil) (rss_cons (sM m_app (ac (ix vB vB) ra_nil)) rss_nil))) (rss_cons (sM m_app (ac (tp (ac (t1 z.b_tuple t_tuple vB) (ac vE ra_nil))) ra_nil)) rss_nil)))) (rss_cons (rs_ret (t1 z.b_tuple t_tuple vB)) rss_nil)))
theorem sc_with_checks : FnScope ["program", "left", "found", "block", "rows", "end", "some", "place"] ["program", "left"] (defScope st_with_checks) := ⟨rfl, rfl, rfl, by decide +kernel, rfl, by decide +kernel, by decide +kernel⟩
theorem ok_with_checks {T : Tx} (z : HF T) : FnS T "with_checks" 2 2 f_with_checks := mkFn (N := ["program", "left", "found", "block", "rows", "end", "some", "place"]) z.calm z.d_with_checks z.g_with_checks sc_with_checks (rs_with_checks z) (fun _ _ _ _ _ _ us hl => match us, hl with | [_, _], _ => rfl)
/-! by_itself: 0 program, 1 setting, 2 given -/
def b_by_itself : SM := (sSeq (sRet (gMake "Run" f_Run_new [(gCall f_with_checks [(gV 0), (gVal (seqA []))]), (gV 1), (gC (.str "bounds")), (gV 2)])) sNil)
def f_by_itself : List D → M D := fnM 3 3 b_by_itself
theorem rs_by_itself {T : Tx} (z : HF T) : RSs (T.fn ["program", "setting", "given"] (defScope st_by_itself) 9 false E0) [] (defBody st_by_itself) b_by_itself := (rss_cons (rs_ret (Sw.mk (ok_Run_new z) (ac (Sw.call (ok_with_checks z) (ac vE (ac (re_val (ls ra_nil)) ra_nil))) (ac vE (ac (cG z.m_BOUNDS) (ac vE ra_nil)))))) rss_nil)
theorem sc_by_itself : FnScope ["program", "setting", "given"] ["program", "setting", "given"] (defScope st_by_itself) := ⟨rfl, rfl, rfl, by decide +kernel, rfl, by decide +kernel, by decide +kernel⟩
theorem ok_by_itself {T : Tx} (z : HF T) : FnS T "by_itself" 10 3 f_by_itself := mkFn (N := ["program", "setting", "given"]) z.calm z.d_by_itself z.g_by_itself sc_by_itself (rs_by_itself z) (fun _ _ _ _ _ _ us hl => match us, hl with | [_, _, _], _ => rfl)
/-! need_input: 0 given, 1 one -/
def b_need_input : SM := (sSeq (sIf (tOrr (tB (g2 dGt (g1 dLen (gV 0)) (gC (.int 20)))) (tB (g2 dNe (gVal (lComp [1] (gIt (gV 0)) (tgName 1) (tNt (tB (gCall f_is_number [(gV 1), (gC (.int (-99))), (gC (.int 999))]))) (gV 1))) (gVal (seqA []))))) (sSeq sBad sNil) sNil) sNil)
def f_need_input : List D → M D := fnM 1 2 b_need_input
theorem rs_need_input {T : Tx} (z : HF T) : RSs (T.fn ["given", "one"] (defScope st_need_input) 1 false E0) [] (defBody st_need_input) b_need_input := (rss_cons (rs_if (RW.rt (rw_or (cmT o_gt (.of (f1 z.b_len f_len vB)) (.of (cG z.m_MOST_INPUT))) (rw_or1 (cmT o_ne (.of (re_val (cp (own := [("one", 1)]) (ri_seq vE) cN (rts_one (rt_not (vT (Sw.call (ok_is_number z) (ac vE (ac (cG z.m_LEAST_PUT) (ac (cG z.m_MOST_PUT) ra_nil))))))) vE))) (.of (re_val (ls ra_nil))))))) (rss_cons rs_bad rss_nil) rss_nil) rss_nil)
theorem sc_need_input : FnScope ["given", "one"] ["given"] (defScope st_need_input) := ⟨rfl, rfl, rfl, by decide +kernel, rfl, by decide +kernel, by decide +kernel⟩
theorem ok_need_input {T : Tx} (z : HF T) : FnS T "need_input" 2 1 f_need_input := mkFn (N := ["given", "one"]) z.calm z.d_need_input z.g_need_input sc_need_input (rs_need_input z) (fun _ _ _ _ _ _ us hl => match us, hl with | [_], _ => rfl)
/-! is_part: 0 part, 1 sort, 2 many -/
def b_is_part : SM := (sSeq (sIf (tB (g2 dEq (gV 1) (gC (.str "c")))) (sSeq (sRet (gCall f_is_number [(gV 0), (gC (.int (-99))), (gC (.int 999))])) sNil) sNil) (sSeq (sRet (gCall f_is_number [(gV 0), (gC (.int 0)), (g2 dSub (g2 dIx (gDisp [((gC (.str "n")), (gC (.int 6))), ((gC (.str "h")), (gC (.int 4))), ((gC (.str "b")), (gV 2))]) (gV 1)) (gC (.int 1)))])) sNil))
def f_is_part : List D → M D := fnM 3 3 b_is_part
theorem rs_is_part {T : Tx} (z : HF T) : RSs (T.fn ["part", "sort", "many"] (defScope st_is_part) 1 false E0) [] (defBody st_is_part) b_is_part := (rss_cons (rs_if (cmT o_eq vB (.of cS)) (rss_cons (rs_ret (Sw.call (ok_is_number z) (ac vE (ac (cG z.m_LEAST_PUT) (ac (cG z.m_MOST_PUT) ra_nil))))) rss_nil) rss_nil) (rss_cons (rs_ret (Sw.call (ok_is_number z) (ac vE (ac re_int (ac (bo o_sub (.of (ix (.of (dsp (rps_cons cS (cG z.m_NUMBERS) (rps_cons cS (cG z.m_HANDLES) (rps_cons cS vE rps_nil))))) vB)) (.of re_int)) ra_nil))))) rss_nil))
theorem sc_is_part : FnScope ["part", "sort", "many"] ["part", "sort", "many"] (defScope st_is_part) := ⟨rfl, rfl, rfl, by decide +kernel, rfl, by decide +kernel, by decide +kernel⟩
theorem ok_is_part {T : Tx} (z : HF T) : FnS T "is_part" 2 3 f_is_part := mkFn (N := ["part", "sort", "many"]) z.calm z.d_is_part z.g_is_part sc_is_part (rs_is_part z) (fun _ _ _ _ _ _ us hl => match us, hl with | [_, _, _], _ => rfl)
/-! has_form: 0 row, 1 form, 2 many, 3 k -/
def b_has_form : SM := (sSeq (sIf (tOrr (tB (g2 dIsN (gV 1) (gC .non))) (tB (g2 dNe (g1 dLen (gV 0)) (g2 dAdd (g1 dLen (gV 1)) (gC (.int 1)))))) (sSeq (sRet (gC (.bl false))) sNil) sNil) (sSeq (sRet (g2 dEq (gVal (lComp [3] (rg1 (g1 dLen (gV 1))) (tgName 3) (tNt (tB (gCall f_is_part [(g2 dIx (gV 0) (g2 dAdd (gV 3) (gC (.int 1)))), (g2 dIx (gV 1) (gV 3)), (gV 2)]))) (gV 3))) (gVal (seqA [])))) sNil))
def f_has_form : List D → M D := fnM 3 4 b_has_form
theorem rs_has_form {T : Tx} (z : HF T) : RSs (T.fn ["row", "form", "many", "k"] (defScope st_has_form) 2 false E0) [] (defBody st_has_form) b_has_form := (rss_cons (rs_if (RW.rt (rw_or (cmT o_isN vB (.of re_non)) (rw_or1 (cmT o_ne (.of (f1 z.b_len f_len vB)) (.of (bo o_add (.of (f1 z.b_len f_len vB)) (.of re_int))))))) (rss_cons (rs_ret re_bl) rss_nil) rss_nil) (rss_cons (rs_ret (cmE o_eq (.of (re_val (cp (own := [("k", 3)]) (r1 z.b_range (f1 z.b_len f_len vB)) cN (rts_one (rt_not (vT (Sw.call (ok_is_part z) (ac (ix vB (.of (bo o_add vB (.of re_int)))) (ac (ix vB vB) (ac vE ra_nil))))))) vE))) (.of (re_val (ls ra_nil))))) rss_nil))
theorem sc_has_form : FnScope ["row", "form", "many", "k"] ["row", "form", "many"] (defScope st_has_form) := ⟨rfl, rfl, rfl, by decide +kernel, rfl, by decide +kernel, by decide +kernel⟩
theorem ok_has_form {T : Tx} (z : HF T) : FnS T "has_form" 3 3 f_has_form := mkFn (N := ["row", "form", "many", "k"]) z.calm z.d_has_form z.g_has_form sc_has_form (rs_has_form z) (fun _ _ _ _ _ _ us hl => match us, hl with | [_, _, _], _ => rfl)
/-! is_worded: 0 row -/
def b_is_worded : SM := (sSeq (sRet (gAn (g1 (isTy "tuple") (gV 0)) (gAn (g2 dNe (gV 0) (gTup [])) (g1 (isTy "str") (g2 dIx (gV 0) (gC (.int 0))))))) sNil)
def f_is_worded : List D → M D := fnM 1 1 b_is_worded
theorem rs_is_worded {T : Tx} (z : HF T) : RSs (T.fn ["row"] (defScope st_is_worded) 0 false E0) [] (defBody st_is_worded) b_is_worded := (rss_cons (rs_ret (re_and (isi ist_tuple z.b_isinstance z.b_tuple vB) (re_and (cmE o_ne vB (.of (tp ra_nil))) (re_one (isi ist_str z.b_isinstance z.b_str (.of (ix vB (.of re_int)))))))) rss_nil)
theorem sc_is_worded : FnScope ["row"] ["row"] (defScope st_is_worded) := ⟨rfl, rfl, rfl, by decide +kernel, rfl, by decide +kernel, by decide +kernel⟩
theorem ok_is_worded {T : Tx} (z : HF T) : FnS T "is_worded" 1 1 f_is_worded := mkFn (N := ["row"]) z.calm z.d_is_worded z.g_is_worded sc_is_worded (rs_is_worded z) (fun _ _ _ _ _ _ us hl => match us, hl with | [_], _ => rfl)
/-! is_row: 0 row, 1 many -/
def b_is_row : SM := (sSeq (sRet (gAn (gCall f_is_worded [(gV 0)]) (gCall f_has_form [(gV 0), (g1 (dGet tab_FORMS) (g2 dIx (gV 0) (gC (.int 0)))), (gV 1)]))) sNil)
def f_is_row : List D → M D := fnM 2 2 b_is_row
theorem rs_is_row {T : Tx} (z : HF T) : RSs (T.fn ["row", "many"] (defScope st_is_row) 3 false E0) [] (defBody st_is_row) b_is_row := (rss_cons (rs_ret (re_and (Sw.call (ok_is_worded z) (ac vE ra_nil)) (re_one (Sw.call (ok_has_form z) (ac vE (ac (re_kget z.t_FORMS (ix vB (.of re_int))) (ac vE ra_nil))))))) rss_nil)
theorem sc_is_row : FnScope ["row", "many"] ["row", "many"] (defScope st_is_row) := ⟨rfl, rfl, rfl, by decide +kernel, rfl, by decide +kernel, by decide +kernel⟩
theorem ok_is_row {T : Tx} (z : HF T) : FnS T "is_row" 4 2 f_is_row := mkFn (N := ["row", "many"]) z.calm z.d_is_row z.g_is_row sc_is_row (rs_is_row z) (fun _ _ _ _ _ _ us hl => match us, hl with | [_, _], _ => rfl)
/-! is_ahead_of_touch: 0 rows, 1 k, 2 many -/
def b_is_ahead_of_touch : SM := (sSeq (sRet (gAn (g2 dLt (g2 dAdd (gV 1) (gC (.int 1))) (g1 dLen (gV 0))) (gAn (gCall f_is_row [(g2 dIx (gV 0) (g2 dAdd (gV 1) (gC (.int 1)))), (gV 2)]) (gCall f_is_touch [(g2 dIx (gV 0) (g2 dAdd (gV 1) (gC (.int 1))))])))) sNil)
def f_is_ahead_of_touch : List D → M D := fnM 3 3 b_is_ahead_of_touch
theorem rs_is_ahead_of_touch {T : Tx} (z : HF T) : RSs (T.fn ["rows", "k", "many"] (defScope st_is_ahead_of_touch) 4 false E0) [] (defBody st_is_ahead_of_touch) b_is_ahead_of_touch := (rss_cons (rs_ret (re_and (cmE o_lt (.of (bo o_add vB (.of re_int))) (.of (f1 z.b_len f_len vB))) (re_and (Sw.call (ok_is_row z) (ac (ix vB (.of (bo o_add vB (.of re_int)))) (ac vE ra_nil))) (re_one (Sw.call (ok_is_touch z) (ac (ix vB (.of (bo o_add vB (.of re_int)))) ra_nil)))))) rss_nil)
theorem sc_is_ahead_of_touch : FnScope ["rows", "k", "many"] ["rows", "k", "many"] (defScope st_is_ahead_of_touch) := ⟨rfl, rfl, rfl, by decide +kernel, rfl, by decide +kernel, by decide +kernel⟩
theorem ok_is_ahead_of_touch {T : Tx} (z : HF T) : FnS T "is_ahead_of_touch" 5 3 f_is_ahead_of_touch := mkFn (N := ["rows", "k", "many"]) z.calm z.d_is_ahead_of_touch z.g_is_ahead_of_touch sc_is_ahead_of_touch (rs_is_ahead_of_touch z) (fun _ _ _ _ _ _ us hl => match us, hl with | [_, _, _], _ => rfl)
/-! bad_row: 0 rows, 1 many, 2 left, 3 k -/
def b_bad_row : SM := (sSeq (sFor (rg1 (g1 dLen (gV 0))) (tgName 3) (sSeq (sIf (tNt (tB (gCall f_is_row [(g2 dIx (gV 0) (gV 3)), (gV 1)]))) (sSeq (sRet (gV 3)) sNil) sNil) (sSeq (sIf (tB (g2 dNe (g2 dIx (gV 0) (gV 3)) (gC (.tup [(.str "check")])))) (sSeq (sSet 2 (g2 dSub (gV 2) (gC (.int 1)))) sNil) sNil) (sSeq (sIf (tOrr (tB (g2 dLt (gV 2) (gC (.int 0)))) (tAn (tB (g2 dEq (g2 dIx (gV 0) (gV 3)) (gC (.tup [(.str "check")])))) (tNt (tB (gCall f_is_ahead_of_touch [(gV 0), (gV 3), (gV 1)]))))) (sSeq (sRet (gV 3)) sNil) sNil) sNil)))) (sSeq (sRet (gC .non)) sNil))
def f_bad_row : List D → M D := fnM 3 4 b_bad_row
theorem rs_bad_row {T : Tx} (z : HF T) : RSs (T.fn ["rows", "many", "left", "k"] (defScope st_bad_row) 5 false E0) [] (defBody st_bad_row) b_bad_row := (rss_cons (fo (r1 z.b_range (f1 z.b_len f_len vB)) gN (rss_cons (rs_if (rt_not (vT (Sw.call (ok_is_row z) (ac (ix vB vB) (ac vE ra_nil))))) (rss_cons (rs_ret vE) rss_nil) rss_nil) (rss_cons (rs_if (cmT o_ne (.of (ix vB vB)) (.of (cG z.m_CHECK))) (rss_cons (s_ (bo o_sub vB (.of re_int))) rss_nil) rss_nil) (rss_cons (rs_if (RW.rt (rw_or (cmT o_lt vB (.of re_int)) (rw_or1 (RW.rt (rw_and (cmT o_eq (.of (ix vB vB)) (.of (cG z.m_CHECK))) (rw_and1 (rt_not (vT (Sw.call (ok_is_ahead_of_touch z) (ac vE (ac vE (ac vE ra_nil)))))))))))) (rss_cons (rs_ret vE) rss_nil) rss_nil) rss_nil)))) (rss_cons (rs_ret re_non) rss_nil))
theorem sc_bad_row : FnScope ["rows", "many", "left", "k"] ["rows", "many", "left"] (defScope st_bad_row) := ⟨rfl, rfl, rfl, by decide +kernel, rfl, by decide +kernel, by decide +kernel⟩
theorem ok_bad_row {T : Tx} (z : HF T) : FnS T "bad_row" 6 3 f_bad_row := mkFn (N := ["rows", "many", "left", "k"]) z.calm z.d_bad_row z.g_bad_row sc_bad_row (rs_bad_row z) (fun _ _ _ _ _ _ us hl => match us, hl with | [_, _, _], _ => rfl)
/-! is_end: 0 row, 1 many -/
def b_is_end : SM := (sSeq (sRet (gAn (gCall f_is_worded [(gV 0)]) (gCall f_has_form [(gV 0), (g1 (dGet tab_ENDS) (g2 dIx (gV 0) (gC (.int 0)))), (gV 1)]))) sNil)
def f_is_end : List D → M D := fnM 2 2 b_is_end
theorem rs_is_end {T : Tx} (z : HF T) : RSs (T.fn ["row", "many"] (defScope st_is_end) 3 false E0) [] (defBody st_is_end) b_is_end := (rss_cons (rs_ret (re_and (Sw.call (ok_is_worded z) (ac vE ra_nil)) (re_one (Sw.call (ok_has_form z) (ac vE (ac (re_kget z.t_ENDS (ix vB (.of re_int))) (ac vE ra_nil))))))) rss_nil)
theorem sc_is_end : FnScope ["row", "many"] ["row", "many"] (defScope st_is_end) := ⟨rfl, rfl, rfl, by decide +kernel, rfl, by decide +kernel, by decide +kernel⟩
theorem ok_is_end {T : Tx} (z : HF T) : FnS T "is_end" 4 2 f_is_end := mkFn (N := ["row", "many"]) z.calm z.d_is_end z.g_is_end sc_is_end (rs_is_end z) (fun _ _ _ _ _ _ us hl => match us, hl with | [_, _], _ => rfl)
/-! need_program: 0 program, 1 left, 2 block, 3 here, 4 rows, 5 end, 6 bad, 7 row -/
def b_need_program : SM := (sSeq (sIf (tOrr (tNt (tB (g1 (isTy "tuple") (gV 0)))) (tNt (tB (gChain dLe dLe (gC (.int 1)) (g1 dLen (gV 0)) (gC (.int 12)))))) (sSeq sBad sNil) sNil) (sSeq (sSet 1 (gC (.int 60))) (sSeq (sFor (rg1 (g1 dLen (gV 0))) (tgName 2) (sSeq (sSet 3 (g2 dIx (gV 0) (gV 2))) (sSeq (sIf (tOrr (tNt (tB (g1 (isTy "tuple") (gV 3)))) (tOrr (tB (g2 dNe (g1 dLen (gV 3)) (gC (.int 2)))) (tNt (tB (g1 (isTy "tuple") (g2 dIx (gV 3) (gC (.int 0)))))))) (sSeq sBad sNil) sNil) (sSeq (sAsg (gV 3) (tgTup 2 (tgCons (tgName 4) (tgCons (tgName 5) tgNil)))) (sSeq (sSet 6 (gCall f_bad_row [(gV 4), (g1 dLen (gV 0)), (gV 1)])) (sSeq (sIf (tB (g2 dIsNot (gV 6) (gC .non))) (sSeq sBad sNil) sNil) (sSeq (sIf (tNt (tB (gCall f_is_end [(gV 5), (g1 dLen (gV 0))]))) (sSeq sBad sNil) sNil) (sSeq (sSet 1 (g2 dSub (gV 1) (g1 dLen (gVal (lComp [7] (gIt (gV 4)) (tgName 7) (tB (g2 dNe (gV 7) (gC (.tup [(.str "check")])))) (gV 7)))))) sNil)))))))) sNil)))
def f_need_program : List D → M D := fnM 1 8 b_need_program
theorem rs_need_program {T : Tx} (z : HF T) : RSs (T.fn ["program", "left", "block", "here", "rows", "end", "bad", "row"] (defScope st_need_program) 6 false E0) [] (defBody st_need_program) b_need_program := (rss_cons (rs_if (RW.rt (rw_or (rt_not (vT (isi ist_tuple z.b_isinstance z.b_tuple vB))) (rw_or1 (rt_not (chT o_le o_le (.of re_int) (.of (f1 z.b_len f_len vB)) (.of (cG z.m_MOST_BLOCKS))))))) (rss_cons rs_bad rss_nil) rss_nil) (rss_cons (s_ (cG z.m_MOST_ROWS)) (rss_cons (fo (r1 z.b_range (f1 z.b_len f_len vB)) gN (rss_cons (s_ (ix vB vB)) (rss_cons (rs_if (RW.rt (rw_or (rt_not (vT (isi ist_tuple z.b_isinstance z.b_tuple vB))) (rw_or (cmT o_ne (.of (f1 z.b_len f_len vB)) (.of re_int)) (rw_or1 (rt_not (vT (isi ist_tuple z.b_isinstance z.b_tuple (.of (ix vB (.of re_int)))))))))) (rss_cons rs_bad rss_nil) rss_nil) (rss_cons (sA vE (gT (gc gN (gc gN rgs_nil)))) (rss_cons (s_ (Sw.call (ok_bad_row z) (ac vE (ac (f1 z.b_len f_len vB) (ac vE ra_nil))))) (rss_cons (rs_if (cmT o_isNot vB (.of re_non)) (rss_cons rs_bad rss_nil) rss_nil) (rss_cons (rs_if (rt_not (vT (Sw.call (ok_is_end z) (ac vE (ac (f1 z.b_len f_len vB) ra_nil))))) (rss_cons rs_bad rss_nil) rss_nil) (rss_cons (s_ (bo o_sub vB (.of (f1 z.b_len f_len (.of (re_val (cp (own := [("row", 7)]) (ri_seq vE) cN (rts_one (cmT o_ne vB (.of (cG z.m_CHECK)))) vE))))))) rss_nil)))))))) rss_nil)))
theorem sc_need_program : FnScope ["program", "left", "block", "here", "rows", "end", "bad", "row"] ["program"] (defScope st_need_program) := ⟨rfl, rfl, rfl, by decide +kernel, rfl, by decide +kernel, by decide +kernel⟩
theorem ok_need_program {T : Tx} (z : HF T) : FnS T "need_program" 7 1 f_need_program := mkFn (N := ["program", "left", "block", "here", "rows", "end", "bad", "row"]) z.calm z.d_need_program z.g_need_program sc_need_program (rs_need_program z) (fun _ _ _ _ _ _ us hl => match us, hl with | [_], _ => rfl)
/-! need_run: 0 program, 1 setting, 2 given -/
def b_need_run : SM := (sSeq (sExpr (gCall f_need_program [(gV 0)])) (sSeq (sExpr (gCall f_need_setting [(gV 1)])) (sSeq (sExpr (gCall f_need_input [(gV 2)])) sNil)))
def f_need_run : List D → M D := fnM 3 3 b_need_run
theorem rs_need_run {T : Tx} (z : HF T) : RSs (T.fn ["program", "setting", "given"] (defScope st_need_run) 7 false E0) [] (defBody st_need_run) b_need_run := (rss_cons (sE (Sw.call (ok_need_program z) (ac vE ra_nil))) (rss_cons (sE (Sw.call (ok_need_setting z) (ac vE ra_nil))) (rss_cons (sE (Sw.call (ok_need_input z) (ac vE ra_nil))) rss_nil)))
theorem sc_need_run : FnScope ["program", "setting", "given"] ["program", "setting", "given"] (defScope st_need_run) := ⟨rfl, rfl, rfl, by decide +kernel, rfl, by decide +kernel, by decide +kernel⟩
theorem ok_need_run {T : Tx} (z : HF T) : FnS T "need_run" 8 3 f_need_run := mkFn (N := ["program", "setting", "given"]) z.calm z.d_need_run z.g_need_run sc_need_run (rs_need_run z) (fun _ _ _ _ _ _ us hl => match us, hl with | [_, _, _], _ => rfl)
/-! judged: 0 program, 1 setting, 2 given, 3 done -/
def b_judged : SM := (sSeq (sExpr (gCall f_need_run [(gV 0), (gV 1), (gV 2)])) (sSeq (sSet 3 (gCall f_by_itself [(gV 0), (gV 1), (gV 2)])) (sSeq (sRet (gTup [(gFld "Run" "word" (gV 3)), (gFld "State" "said" (gFld "Run" "state" (gV 3))), (gFld "Run" "why" (gV 3))])) sNil)))
def f_judged : List D → M D := fnM 3 4 b_judged
theorem rs_judged {T : Tx} (z : HF T) : RSs (T.fn ["program", "setting", "given", "done"] (defScope st_judged) 10 false E0) [] (defBody st_judged) b_judged := (rss_cons (sE (Sw.call (ok_need_run z) (ac vE (ac vE (ac vE ra_nil))))) (rss_cons (s_ (Sw.call (ok_by_itself z) (ac vE (ac vE (ac vE ra_nil))))) (rss_cons (rs_ret (tp (ac (fd z.c_Run vE) (ac (fd z.c_State (fd z.c_Run vE)) (ac (fd z.c_Run vE) ra_nil))))) rss_nil)))
theorem sc_judged : FnScope ["program", "setting", "given", "done"] ["program", "setting", "given"] (defScope st_judged) := ⟨rfl, rfl, rfl, by decide +kernel, rfl, by decide +kernel, by decide +kernel⟩
theorem ok_judged {T : Tx} (z : HF T) : FnS T "judged" 11 3 f_judged := mkFn (N := ["program", "setting", "given", "done"]) z.calm z.d_judged z.g_judged sc_judged (rs_judged z) (fun _ _ _ _ _ _ us hl => match us, hl with | [_, _, _], _ => rfl)
/-! need_way: 0 way -/
def b_need_way : SM := (sSeq (sIf (tB (g2 dIn (gV 0) (gTup [(gC (.str "bounds")), (gC (.str "marks"))]))) (sSeq sRetN sNil) sNil) (sSeq (sIf (tOrr (tNt (tB (g1 (isTy "tuple") (gV 0)))) (tOrr (tB (g2 dNe (g1 dLen (gV 0)) (gC (.int 2)))) (tOrr (tB (g2 dNe (g2 dIx (gV 0) (gC (.int 0))) (gC (.str "tags")))) (tNt (tB (gCall f_is_number [(g2 dIx (gV 0) (gC (.int 1))), (gC (.int 1)), (gC (.int 4))])))))) (sSeq sBad sNil) sNil) sNil))
def f_need_way : List D → M D := fnM 1 1 b_need_way
theorem rs_need_way {T : Tx} (z : HF T) : RSs (T.fn ["way"] (defScope st_need_way) 1 false E0) [] (defBody st_need_way) b_need_way := (rss_cons (rs_if (cmT o_in vB (.of (tp (ac (cG z.m_BOUNDS) (ac (cG z.m_MARKS) ra_nil))))) (rss_cons rs_retN rss_nil) rss_nil) (rss_cons (rs_if (RW.rt (rw_or (rt_not (vT (isi ist_tuple z.b_isinstance z.b_tuple vB))) (rw_or (cmT o_ne (.of (f1 z.b_len f_len vB)) (.of re_int)) (rw_or (cmT o_ne (.of (ix vB (.of re_int))) (.of (cG z.m_TAGS))) (rw_or1 (rt_not (vT (Sw.call (ok_is_number z) (ac (ix vB (.of re_int)) (ac re_int (ac (cG z.m_MOST_BITS) ra_nil))))))))))) (rss_cons rs_bad rss_nil) rss_nil) rss_nil))
theorem sc_need_way : FnScope ["way"] ["way"] (defScope st_need_way) := ⟨rfl, rfl, rfl, by decide +kernel, rfl, by decide +kernel, by decide +kernel⟩
theorem ok_need_way {T : Tx} (z : HF T) : FnS T "need_way" 2 1 f_need_way := mkFn (N := ["way"]) z.calm z.d_need_way z.g_need_way sc_need_way (rs_need_way z) (fun _ _ _ _ _ _ us hl => match us, hl with | [_], _ => rfl)
/-! missed: 0 program, 1 setting, 2 way, 3 given, 4 done -/
def b_missed : SM := (sSeq (sExpr (gCall f_need_program [(gV 0)])) (sSeq (sExpr (gCall f_need_setting [(gV 1)])) (sSeq (sExpr (gCall f_need_way [(gV 2)])) (sSeq (sExpr (gCall f_need_input [(gV 3)])) (sSeq (sSet 4 (gCall f_by_itself [(gV 0), (gV 1), (gV 3)])) (sSeq (sRet (gAn (g2 dEq (gFld "Run" "word" (gV 4)) (gC (.str "stop"))) (g2 dIsN (gCall f_look [(gFld "Run" "state" (gV 4)), (gFld "Run" "stopped" (gV 4)), (gV 2)]) (gC .non)))) sNil))))))
def f_missed : List D → M D := fnM 4 5 b_missed
theorem rs_missed {T : Tx} (z : HF T) : RSs (T.fn ["program", "setting", "way", "given", "done"] (defScope st_missed) 10 false E0) [] (defBody st_missed) b_missed := (rss_cons (sE (Sw.call (ok_need_program z) (ac vE ra_nil))) (rss_cons (sE (Sw.call (ok_need_setting z) (ac vE ra_nil))) (rss_cons (sE (Sw.call (ok_need_way z) (ac vE ra_nil))) (rss_cons (sE (Sw.call (ok_need_input z) (ac vE ra_nil))) (rss_cons (s_ (Sw.call (ok_by_itself z) (ac vE (ac vE (ac vE ra_nil))))) (rss_cons (rs_ret (re_and (cmE o_eq (.of (fd z.c_Run vE)) (.of cS)) (re_one (cmE o_isN (.of (Sw.call (ok_look z) (ac (fd z.c_Run vE) (ac (fd z.c_Run vE) (ac vE ra_nil))))) (.of re_non))))) rss_nil))))))
theorem sc_missed : FnScope ["program", "setting", "way", "given", "done"] ["program", "setting", "way", "given"] (defScope st_missed) := ⟨rfl, rfl, rfl, by decide +kernel, rfl, by decide +kernel, by decide +kernel⟩
theorem ok_missed {T : Tx} (z : HF T) : FnS T "missed" 11 4 f_missed := mkFn (N := ["program", "setting", "way", "given", "done"]) z.calm z.d_missed z.g_missed sc_missed (rs_missed z) (fun _ _ _ _ _ _ us hl => match us, hl with | [_, _, _, _], _ => rfl)
/-! law: 0 _law_script, 1 _law_row, 2 _law_turn, 3 _law_setting, 4 _law_sizes, 5 _law_rows, 6 _law_h, 7 _law_far, 8 _law_cell, 9 _law_sort, 10 _law_told, 11 _law_order, 12 _law_last, 13 _law_program, 14 _law_k -/
def b_law_1 : SM := (sSeq (sIf (tNt (tB (gCall f__law_alike [(g2 dIx (gCall f_judged [(gV 13), (gV 3), (gVal (seqA []))]) (gC (.int 2))), (gTup [(gC (.int 0)), (g1 dLen (gV 5)), (gV 9)])]))) (sSeq (sRet (gC (.bl false))) sNil) sNil) (sSeq (sIf (tAn (tB (gV 10)) (tB (gCall f_missed [(gV 13), (gV 3), (gC (.str "marks")), (gVal (seqA []))]))) (sSeq (sRet (gC (.bl false))) sNil) sNil) sNil))
def b_law_2 : SM := (sSeq (sSet 7 (g2 dAdd (gC (.int 1)) (gCall f__law_taken [(gV 1), (gC (.int 3))]))) (sSeq (sSet 8 (g2 dIx (gVal (seqA [(g2 dAdd (g2 dSub (g2 dIx (gV 4) (gV 6)) (gC (.int 1))) (gV 7)), (g2 dSub (gC (.int 0)) (gV 7))])) (gCall f__law_taken [(gV 1), (gC (.int 2))]))) (sSeq (sPar2 9 10 (gC (.str "beyond")) (g2 dLe (gV 7) (g2 dIx (gV 3) (gC (.int 1))))) sNil)))
def b_law_3 : SM := (sSeq (sSet 11 (gVal (lSl (gVal (lComp [14] (rg1 (g1 dLen (gV 4))) (tgName 14) (tB (g2 dNe (gV 14) (gV 6))) (gV 14))) oNo (oSome (gCall f__law_taken [(gV 1), (gC (.int 4))]))))) (sSeq (sSet 5 (gVal (lAdd (gV 5) (gVal (lComp [14] (lIt (lAdd (gVal (seqA [(gV 6)])) (gV 11))) (tgName 14) tTrue (gTup [(gC (.str "free")), (gV 14)])))))) (sSeq (sSet 8 (gCall f__law_taken [(gV 1), (g2 dIx (gV 4) (gV 6))])) (sSeq (sPar2 9 10 (gC (.str "late")) (g2 dLe (g2 dAdd (g2 dIx (gV 4) (gV 6)) (g1 dSum (gVal (lComp [14] (gIt (gV 11)) (tgName 14) tTrue (g2 dIx (gV 4) (gV 14)))))) (g2 dIx (gV 3) (gC (.int 2))))) sNil))))
def b_law_4 : SM := (sSeq (sSet 3 (gTup [(gC (.int 64)), (gCall f__law_taken [(gV 1), (gC (.int 3))]), (gCall f__law_taken [(gV 1), (gC (.int 33))])])) (sSeq (sSet 4 (gVal (lComp [14] (rg1 (g2 dAdd (gC (.int 1)) (gCall f__law_taken [(gV 1), (gC (.int 4))]))) (tgName 14) tTrue (g2 dAdd (gC (.int 1)) (gCall f__law_taken [(gV 1), (gC (.int 8))]))))) (sSeq (sSet 5 (gCall f__law_rooms [(gV 1), (gV 4)])) (sSeq (sSet 6 (gCall f__law_taken [(gV 1), (g1 dLen (gV 4))])) (sSeq (sIf (tB (g2 dEq (gCall f__law_taken [(gV 1), (gC (.int 2))]) (gC (.int 0)))) b_law_2 b_law_3) (sSeq (sSet 5 (gVal (lAdd (gV 5) (gVal (seqA [(gTup [(gC (.str "put")), (gC (.int 2)), (gV 8)])]))))) (sSeq (sSet 12 (g2 dIx (gVal (seqA [(gTup [(gC (.str "set")), (gV 6), (gC (.int 2)), (gC (.int 0))]), (gTup [(gC (.str "get")), (gC (.int 3)), (gV 6), (gC (.int 2))]), (gTup [(gC (.str "free")), (gV 6)])])) (gCall f__law_taken [(gV 1), (gC (.int 3))]))) (sSeq (sIf (tAn (tB (g2 dEq (g2 dIx (gV 12) (gC (.int 0))) (gC (.str "free")))) (tB (g2 dEq (gV 9) (gC (.str "beyond"))))) (sSeq (sSet 12 (gTup [(gC (.str "set")), (gV 6), (gC (.int 2)), (gC (.int 0))])) sNil) sNil) (sSeq (sSet 9 (gIf (tB (g2 dEq (g2 dIx (gV 12) (gC (.int 0))) (gC (.str "free")))) (gC (.str "twice")) (gV 9))) (sSeq (sSet 13 (gTup [(gTup [(g1 dTuple (gVal (lAdd (gV 5) (gVal (seqA [(gV 12)]))))), (gTup [(gC (.str "end"))])])])) (sSeq (sIf (tB (g2 dLe (g2 dAdd (g1 dSum (gV 4)) (g2 dMul (g2 dMul (gC (.int 2)) (g2 dIx (gV 3) (gC (.int 1)))) (g1 dLen (gV 4)))) (gC (.int 64)))) b_law_1 sNil) sNil)))))))))))
def b_law : SM := (sSeq (sSet 1 (gNew (seqA [(gV 0), (gC (.int 0)), (gC (.int 0)), (gC (.int 0))]))) (sSeq (sFor (rg1 (gC (.int 6))) (tgName 2) b_law_4) (sSeq (sRet (gC (.bl true))) sNil)))
def f_law : List D → M D := fnM 1 15 b_law
theorem rs_law {T : Tx} (z : HF T) : RSs (T.fn ["_law_script", "_law_row", "_law_turn", "_law_setting", "_law_sizes", "_law_rows", "_law_h", "_law_far", "_law_cell", "_law_sort", "_law_told", "_law_order", "_law_last", "_law_program", "_law_k"] (defScope st_law) 11 false E0) [] (defBody st_law) b_law := (rss_cons (s_ (re_new (ls (ac vE (ac re_int (ac re_int (ac re_int ra_nil))))))) (rss_cons (fo (r1 z.b_range re_int) gN (rss_cons (s_ (tp (ac re_int (ac (Sw.call (ok__law_taken z) (ac vE (ac re_int ra_nil))) (ac (Sw.call (ok__law_taken z) (ac vE (ac re_int ra_nil))) ra_nil))))) (rss_cons (s_ (re_val (cp (own := [("_law_k", 14)]) (r1 z.b_range (bo o_add (.of re_int) (.of (Sw.call (ok__law_taken z) (ac vE (ac re_int ra_nil)))))) cN rts_nil (bo o_add (.of re_int) (.of (Sw.call (ok__law_taken z) (ac vE (ac re_int ra_nil))))))) (hs := sw_cell (cellB (by kernel_rfl)))) (rss_cons (s_ (Sw.call (ok__law_rooms z) (ac vE (ac vE ra_nil)))) (rss_cons (s_ (Sw.call (ok__law_taken z) (ac vE (ac (f1 z.b_len f_len vB) ra_nil)))) (rss_cons (rs_if (cmT o_eq (.of (Sw.call (ok__law_taken z) (ac vE (ac re_int ra_nil)))) (.of re_int)) (rss_cons (s_ (bo o_add (.of re_int) (.of (Sw.call (ok__law_taken z) (ac vE (ac re_int ra_nil)))))) (rss_cons (s_ (ix (.of (re_val (ls (ac (bo o_add (.of (bo o_sub (.of (ix vB vB)) (.of re_int))) vB) (ac (bo o_sub (.of re_int) vB) ra_nil))))) (.of (Sw.call (ok__law_taken z) (ac vE (ac re_int ra_nil)))))) (rss_cons (par2 (ac cS (ac (cmE o_le vB (.of (ix vB (.of re_int)))) ra_nil))) rss_nil))) (rss_cons (s_ (re_val (rf_sl (.of (re_val (cp (own := [("_law_k", 14)]) (r1 z.b_range (f1 z.b_len f_len vB)) cN (rts_one (cmT o_ne vB vB)) vE))) ro_no (ro_some (Sw.call (ok__law_taken z) (ac vE (ac re_int ra_nil))))))) (rss_cons (s_ (re_val (rf_add vB (.of (re_val (cp (own := [("_law_k", 14)]) (ri_new (rf_add (.of (re_val (ls (ac vE ra_nil)))) vB)) cN rts_nil (tp (ac cS (ac vE ra_nil))))))))) (rss_cons (s_ (Sw.call (ok__law_taken z) (ac vE (ac (ix vB vB) ra_nil)))) (rss_cons (par2 (ac cS (ac (cmE o_le (.of (bo o_add (.of (ix vB vB)) (.of (f1 z.b_sum f_sum (.of (re_val (cp (own := [("_law_k", 14)]) (ri_seq vE) cN rts_nil (ix vB vB)))))))) (.of (ix vB (.of re_int)))) ra_nil))) rss_nil))))) (rss_cons (s_ (re_val (rf_add vB (.of (re_val (ls (ac (tp (ac cS (ac re_int (ac vE ra_nil)))) ra_nil))))))) (rss_cons (s_ (ix (.of (re_val (ls (ac (tp (ac cS (ac vE (ac re_int (ac re_int ra_nil))))) (ac (tp (ac cS (ac re_int (ac vE (ac re_int ra_nil))))) (ac (tp (ac cS (ac vE ra_nil))) ra_nil)))))) (.of (Sw.call (ok__law_taken z) (ac vE (ac re_int ra_nil)))))) (rss_cons (rs_if (RW.rt (rw_and (cmT o_eq (.of (ix vB (.of re_int))) (.of cS)) (rw_and1 (cmT o_eq vB (.of cS))))) (rss_cons (s_ (tp (ac cS (ac vE (ac re_int (ac re_int ra_nil)))))) rss_nil) rss_nil) (rss_cons (s_ (re_if (cmT o_eq (.of (ix vB (.of re_int))) (.of cS)) cS vE)) (rss_cons (s_ (tp (ac (tp (ac (t1 z.b_tuple t_tuple (.of (re_val (rf_add vB (.of (re_val (ls (ac vE ra_nil)))))))) (ac (tp (ac cS ra_nil)) ra_nil))) ra_nil))) (rss_cons (rs_if (cmT o_le (.of (bo o_add (.of (f1 z.b_sum f_sum vB)) (.of (bo o_mul (.of (bo o_mul (.of re_int) (.of (ix vB (.of re_int))))) (.of (f1 z.b_len f_len vB)))))) (.of re_int)) (rss_cons (rs_if (rt_not (vT (Sw.call (ok__law_alike z) (ac (ix (.of (Sw.call (ok_judged z) (ac vE (ac vE (ac (re_val (ls ra_nil)) ra_nil))))) (.of re_int)) (ac (tp (ac re_int (ac (f1 z.b_len f_len vB) (ac vE ra_nil)))) ra_nil))))) (rss_cons (rs_ret re_bl) rss_nil) rss_nil) (rss_cons (rs_if (RW.rt (rw_and (vT vE) (rw_and1 (vT (Sw.call (ok_missed z) (ac vE (ac vE (ac cS (ac (re_val (ls ra_nil)) ra_nil))))))))) (rss_cons (rs_ret re_bl) rss_nil) rss_nil) rss_nil)) rss_nil) rss_nil)))))))))))) (rss_cons (rs_ret re_bl) rss_nil)))
theorem sc_law : FnScope ["_law_script", "_law_row", "_law_turn", "_law_setting", "_law_sizes", "_law_rows", "_law_h", "_law_far", "_law_cell", "_law_sort", "_law_told", "_law_order", "_law_last", "_law_program", "_law_k"] ["_law_script"] (defScope st_law) := ⟨rfl, rfl, rfl, by decide +kernel, rfl, by decide +kernel, by decide +kernel⟩
theorem ok_law {T : Tx} (z : HF T) : FnS T "law" 12 1 f_law := mkFn (N := ["_law_script", "_law_row", "_law_turn", "_law_setting", "_law_sizes", "_law_rows", "_law_h", "_law_far", "_law_cell", "_law_sort", "_law_told", "_law_order", "_law_last", "_law_program", "_law_k"]) z.calm z.d_law z.g_law sc_law (rs_law z) (fun _ _ _ _ _ _ us hl => match us, hl with | [_], _ => rfl)
end GK12

set_option maxHeartbeats 4000000
namespace GK12
open PySem PySem.Spec L2 Sw
theorem is_number_ok {i lo hi : Int} {h : PH} {Q : D → PH → Prop} : wp (f_is_number [.int i, .int lo, .int hi] h) Q = Q (.bl (decide (lo ≤ i) && decide (i ≤ hi))) h := by
  simp only [f_is_number, wp_fnM]
  simp [b_is_number]
  by_cases e : lo ≤ i <;> simp [e]
/-- the script as it is read -/
structure Row where
  s : List Int
  c : Nat
  st : Int
  ca : Int
def Row.ok (r : Row) : Prop := 0 ≤ r.st ∧ r.st < 2147483647
def rowOb (r : Row) : Ob := .lst [.rd r.s, .int r.c, .int r.st, .int r.ca]
theorem taken_ok {h : PH} {n : Nat} {r : Row} {m : Int} {Q : D → PH → Prop} (hr : h[n]? = some (rowOb r)) (ok : r.ok) (hm : 0 < m) (hm2 : m < 1073741824) (q : ∀ v r', 0 ≤ v → v < m → Row.ok r' → r'.s = r.s → Q (.int v) (h.set n (rowOb r'))) : wp (f__law_taken [.ref n, .int m] h) Q := by
  obtain ⟨hn, _⟩ := List.getElem?_eq_some_iff.mp hr
  obtain ⟨s, c, st, ca⟩ := r
  obtain ⟨o1, o2⟩ := ok
  simp only [rowOb] at hr q
  simp only at o1 o2
  have i0 : ∀ a b c d : D, atI [a, b, c, d] 0 = some a := fun _ _ _ _ => rfl
  have i1 : ∀ a b c d : D, atI [a, b, c, d] 1 = some b := fun _ _ _ _ => rfl
  have i2 : ∀ a b c d : D, atI [a, b, c, d] 2 = some c := fun _ _ _ _ => rfl
  have i3 : ∀ a b c d : D, atI [a, b, c, d] 3 = some d := fun _ _ _ _ => rfl
  have x1 : ixN 4 1 = some 1 := rfl
  have x2 : ixN 4 2 = some 2 := rfl
  have x3 : ixN 4 3 = some 3 := rfl
  have gs : ∀ o : Ob, (h.set n o)[n]? = some o := fun o => by simp [hn]
  have l4 : ∀ a b c d : D, ([a, b, c, d] : List D).length = 4 := fun _ _ _ _ => rfl
  have nn : ∀ (k : Nat) (x st' ca' : Int), 0 ≤ st' → st' < 2147483647 → 0 ≤ x → x < m → Q (.int x) (h.set n (.lst [.rd s, .int ((k : Int) + 1), .int st', .int ca'])) := fun k x st' ca' h1 h2 h3 h4 => q x ⟨s, k + 1, st', ca'⟩ h3 h4 ⟨h1, h2⟩ rfl
  have mn : ∀ x : Int, 0 ≤ x % m ∧ x % m < m := fun x => ⟨Int.emod_nonneg _ (by omega), Int.emod_lt_of_pos _ hm⟩
  have mm : ∀ x : Int, 0 ≤ x % 2147483647 ∧ x % 2147483647 < 2147483647 := fun x => ⟨Int.emod_nonneg _ (by omega), Int.emod_lt_of_pos _ (by omega)⟩
  by_cases hc : c < s.length
  · have ei : atI (s.map D.int) (c : Int) = some (.int s[c]) := by
      rw [Sw.atI_nat, List.getElem?_map, List.getElem?_eq_getElem hc]
      rfl
    have hc' : ¬ ((s.length : Int) < (c : Int) + 1) := by omega
    simp only [f__law_taken, wp_fnM]
    simp [b__law_taken, wp_ixRef, wp_lenRef, wp_setRef, hr, gs, i0, i1, i2, i3, x1, x2, x3, ei, hc', hm, hm2]
    by_cases h1 : 0 < ca
    · simp only [h1, if_true]
      exact q _ ⟨s, c, st, ca / m⟩ (mn _).1 (mn _).2 ⟨o1, o2⟩ rfl
    · simp only [h1, if_false]
      split
      · exact nn _ _ _ _ (mm _).1 (mm _).2 (mn _).1 (mn _).2
      · exact nn _ _ _ _ (mm _).1 (mm _).2 (mn _).1 (mn _).2
  · have hc' : (s.length : Int) < (c : Int) + 1 := by omega
    simp only [f__law_taken, wp_fnM]
    simp [b__law_taken, wp_ixRef, wp_lenRef, wp_setRef, hr, gs, i0, i1, i2, i3, x1, x2, x3, hc', hm, hm2]
    by_cases h1 : 0 < ca
    · simp only [h1, if_true]
      exact q _ ⟨s, c, st, ca / m⟩ (mn _).1 (mn _).2 ⟨o1, o2⟩ rfl
    · simp only [h1, if_false]
      exact nn _ _ _ _ (mm _).1 (mm _).2 (mn _).1 (mn _).2
/-! ### rooms and stores -/
structure Rm where
  w : Int
  z : Int
  st : Str
  kn : List Int
structure Sto where
  many : Int
  gap : Int
  keep : Int
  rooms : List Rm
  waiting : List Nat
/-- where a store stands -/
structure SL where
  n : Nat
  r : Nat
  w : Nat
  ids : List (Nat × Nat)
def SL.all (L : SL) : List Nat := L.n :: L.r :: L.w :: L.ids.flatMap fun p => [p.1, p.2]
def roomFs (r : Rm) (k : Nat) : List (Str × D) := [("where", .int r.w), ("wide", .int r.z), ("state", .str r.st), ("known", .ref k)]
def storeFs (s : Sto) (r w : Nat) : List (Str × D) := [("many", .int s.many), ("gap", .int s.gap), ("keep", .int s.keep), ("rooms", .ref r), ("waiting", .ref w)]
def knD (kn : List Int) : List (Key × D) := kn.map fun c => (.inl c, .bl true)
structure SAt (h : PH) (L : SL) (s : Sto) : Prop where
  o : h[L.n]? = some (.ins "Store" (storeFs s L.r L.w))
  rs : h[L.r]? = some (.lst (L.ids.map fun p => .ref p.1))
  wt : h[L.w]? = some (.lst (s.waiting.map fun (i : Nat) => .int (i : Int)))
  len : L.ids.length = s.rooms.length
  rm : ∀ (i : Nat) p r, L.ids[i]? = some p → s.rooms[i]? = some r → h[p.1]? = some (.ins "Room" (roomFs r p.2))
  kn : ∀ (i : Nat) p r, L.ids[i]? = some p → s.rooms[i]? = some r → h[p.2]? = some (.dct (knD r.kn))
  nd : L.all.Nodup
  few : s.rooms.length ≤ 200000
section
variable {r : Rm} {k : Nat} {s : Sto} {a b : Nat}
@[simp] theorem g_where : getD_ (roomFs r k) "where" = some (.int r.w) := by kernel_rfl
@[simp] theorem g_wide : getD_ (roomFs r k) "wide" = some (.int r.z) := by kernel_rfl
@[simp] theorem g_state : getD_ (roomFs r k) "state" = some (.str r.st) := by kernel_rfl
@[simp] theorem g_known : getD_ (roomFs r k) "known" = some (.ref k) := by kernel_rfl
@[simp] theorem g_has : getD_ (roomFs r k) "has" = none := by kernel_rfl
@[simp] theorem g_many : getD_ (storeFs s a b) "many" = some (.int s.many) := by kernel_rfl
@[simp] theorem g_gap : getD_ (storeFs s a b) "gap" = some (.int s.gap) := by kernel_rfl
@[simp] theorem g_keep : getD_ (storeFs s a b) "keep" = some (.int s.keep) := by kernel_rfl
@[simp] theorem g_rooms : getD_ (storeFs s a b) "rooms" = some (.ref a) := by kernel_rfl
@[simp] theorem g_waiting : getD_ (storeFs s a b) "waiting" = some (.ref b) := by kernel_rfl
theorem p_state {x : Str} : putFD "state" (.str x) (roomFs r k) = roomFs { r with st := x } k := by kernel_rfl
@[simp] theorem roomFs_len : (roomFs r k).length = 4 := rfl
@[simp] theorem storeFs_len : (storeFs s a b).length = 5 := rfl
end
theorem flat_mem {ids : List (Nat × Nat)} {p : Nat × Nat} {i : Nat} (e : ids[i]? = some p) : p.1 ∈ ids.flatMap (fun p => [p.1, p.2]) ∧ p.2 ∈ ids.flatMap (fun p => [p.1, p.2]) := by
  have := List.mem_of_getElem? e
  constructor <;> exact List.mem_flatMap.mpr ⟨p, this, by simp⟩
section
variable {h h' : PH} {L : SL} {s : Sto}
theorem SL.n_mem : L.n ∈ L.all := by simp [SL.all]
theorem SL.r_mem : L.r ∈ L.all := by simp [SL.all]
theorem SL.w_mem : L.w ∈ L.all := by simp [SL.all]
theorem SL.i_mem {i : Nat} {p : Nat × Nat} (e : L.ids[i]? = some p) : p.1 ∈ L.all ∧ p.2 ∈ L.all := by
  have := flat_mem e
  exact ⟨by simp only [SL.all, List.mem_cons]; exact .inr (.inr (.inr this.1)), by simp only [SL.all, List.mem_cons]; exact .inr (.inr (.inr this.2))⟩
theorem SAt.frame (a : SAt h L s) (e : ∀ i ∈ L.all, h'[i]? = h[i]?) : SAt h' L s where
  o := by rw [e _ SL.n_mem]; exact a.o
  rs := by rw [e _ SL.r_mem]; exact a.rs
  wt := by rw [e _ SL.w_mem]; exact a.wt
  len := a.len
  rm := fun i p r h1 h2 => by rw [e _ (SL.i_mem h1).1]; exact a.rm i p r h1 h2
  kn := fun i p r h1 h2 => by rw [e _ (SL.i_mem h1).2]; exact a.kn i p r h1 h2
  nd := a.nd
  few := a.few
theorem SAt.ids_at (a : SAt h L s) {i : Nat} (hi : i < s.rooms.length) : ∃ p, L.ids[i]? = some p := ⟨_, List.getElem?_eq_getElem (by rw [a.len]; exact hi)⟩
theorem SAt.lt (a : SAt h L s) : ∀ i ∈ L.all, i < h.length := by
  have k : ∀ {i : Nat} {o : Ob}, h[i]? = some o → i < h.length := fun e => (List.getElem?_eq_some_iff.mp e).1
  intro i hi
  simp only [SL.all, List.mem_cons, List.mem_flatMap] at hi
  rcases hi with rfl | rfl | rfl | ⟨p, hp, hi⟩
  · exact k a.o
  · exact k a.rs
  · exact k a.wt
  · obtain ⟨j, hj, e⟩ := List.mem_iff_getElem.mp hp
    have e1 : L.ids[j]? = some p := by rw [List.getElem?_eq_getElem hj, e]
    have e2 : s.rooms[j]? = some (s.rooms[j]'(by rw [← a.len]; exact hj)) := List.getElem?_eq_getElem _
    simp only [List.not_mem_nil, or_false] at hi
    rcases hi with rfl | rfl
    · exact k (a.rm j p _ e1 e2)
    · exact k (a.kn j p _ e1 e2)
theorem SAt.app (a : SAt h L s) (x : PH) : SAt (h ++ x) L s := a.frame fun i hi => List.getElem?_append_left (a.lt i hi)
theorem SAt.out (a : SAt h L s) {n : Nat} (hn : n ∉ L.all) (o : Ob) : SAt (h.set n o) L s := a.frame fun i hi => by
  rw [List.getElem?_set_ne]
  intro e
  exact hn (by rw [e]; exact hi)
end
/-! ### methods that change nothing -/
@[simp] theorem fldOf_ref {C f : Str} {n : Nat} {h : PH} : fldOf C f (.ref n) h = (match h[n]? with
    | some (.ins C' fs) => if C' = C then getD_ fs f else none
    | _ => none) := rfl
@[simp] theorem nm_born {s : Sto} {a b : Nat} : getD_ (storeFs s a b) "born" = none := by kernel_rfl
@[simp] theorem nm_living {s : Sto} {a b : Nat} : getD_ (storeFs s a b) "living" = none := by kernel_rfl
@[simp] theorem nm_is_living {s : Sto} {a b : Nat} : getD_ (storeFs s a b) "is_living" = none := by kernel_rfl
@[simp] theorem nm_kept {s : Sto} {a b : Nat} : getD_ (storeFs s a b) "kept" = none := by kernel_rfl
@[simp] theorem nm_place {s : Sto} {a b : Nat} : getD_ (storeFs s a b) "place" = none := by kernel_rfl
@[simp] theorem nm_size {s : Sto} {a b : Nat} : getD_ (storeFs s a b) "size" = none := by kernel_rfl
@[simp] theorem nm_mark {s : Sto} {a b : Nat} : getD_ (storeFs s a b) "mark" = none := by kernel_rfl
@[simp] theorem nm_is_clear {s : Sto} {a b : Nat} : getD_ (storeFs s a b) "is_clear" = none := by kernel_rfl
@[simp] theorem nm_room {s : Sto} {a b : Nat} : getD_ (storeFs s a b) "room" = none := by kernel_rfl
@[simp] theorem nm_free {s : Sto} {a b : Nat} : getD_ (storeFs s a b) "free" = none := by kernel_rfl
@[simp] theorem nm_owner {s : Sto} {a b : Nat} : getD_ (storeFs s a b) "owner" = none := by kernel_rfl
@[simp] theorem nm_write {s : Sto} {a b : Nat} : getD_ (storeFs s a b) "write" = none := by kernel_rfl
section
variable {h : PH} {L : SL} {s : Sto} {Q : D → PH → Prop}
theorem refs_at {L : SL} {i : Nat} {p : Nat × Nat} (e : L.ids[i]? = some p) : atI (L.ids.map fun p => D.ref p.1) (i : Int) = some (.ref p.1) := by
  rw [Sw.atI_nat, List.getElem?_map, e]
  rfl
theorem born_ok (a : SAt h L s) {i : Nat} {p : Nat × Nat} (e : L.ids[i]? = some p) : wp (f_Store_born [.ref L.n, .int i] h) Q = Q (.ref p.1) h := by
  have hi : i < L.ids.length := (List.getElem?_eq_some_iff.mp e).1
  have h1 : (i : Int) < (L.ids.length : Int) := by omega
  have h0 : (0 : Int) ≤ (i : Int) := by omega
  simp only [f_Store_born, wp_fnM]
  simp [b_Store_born, a.o, wp_lenRef, wp_ixRef, a.rs, h1, h0, refs_at e]
theorem is_living_ok (a : SAt h L s) {i : Nat} {r : Rm} (hr : s.rooms[i]? = some r) : wp (f_Store_is_living [.ref L.n, .int i] h) Q = Q (.bl (decide (r.st = "living"))) h := by
  obtain ⟨p, e⟩ := a.ids_at (List.getElem?_eq_some_iff.mp hr).1
  simp only [f_Store_is_living, wp_fnM]
  simp [b_Store_is_living, a.o, wp_ixRef, a.rs, refs_at e, a.rm i p r e hr]
theorem place_ok (a : SAt h L s) {i : Nat} {r : Rm} (hr : s.rooms[i]? = some r) : wp (f_Store_place [.ref L.n, .int i] h) Q = Q (.int r.w) h := by
  obtain ⟨p, e⟩ := a.ids_at (List.getElem?_eq_some_iff.mp hr).1
  simp only [f_Store_place, wp_fnM]
  simp [b_Store_place, wp_gMeth_, a.o, born_ok a e, a.rm i p r e hr]
theorem size_ok (a : SAt h L s) {i : Nat} {r : Rm} (hr : s.rooms[i]? = some r) : wp (f_Store_size [.ref L.n, .int i] h) Q = Q (.int r.z) h := by
  obtain ⟨p, e⟩ := a.ids_at (List.getElem?_eq_some_iff.mp hr).1
  simp only [f_Store_size, wp_fnM]
  simp [b_Store_size, wp_gMeth_, a.o, born_ok a e, a.rm i p r e hr]
theorem has_ok {n k : Nat} {r : Rm} {c : Int} (e : h[n]? = some (.ins "Room" (roomFs r k))) : wp (f_Room_has [.ref n, .int c] h) Q = Q (.bl (decide (r.w ≤ c) && decide (c < r.w + r.z))) h := by
  simp only [f_Room_has, wp_fnM]
  simp [b_Room_has, e]
  by_cases h1 : r.w ≤ c <;> simp [h1]
def Sto.isLiving (s : Sto) (i : Nat) : Bool := match s.rooms[i]? with
  | some r => decide (r.st = "living")
  | none => false
def Sto.living (s : Sto) : List Nat := (List.range s.rooms.length).filter s.isLiving
def natD (xs : List Nat) : List D := xs.map fun (i : Nat) => D.int (i : Int)
def gFil (f : Nat → Bool) (d : D) : List D := match d with
  | .int i => if f i.toNat = true then [d] else []
  | _ => []
@[simp] theorem gFil_nat {f : Nat → Bool} {i : Nat} : gFil f (.int (i : Int)) = if f i = true then [.int (i : Int)] else [] := by
  simp [gFil]
theorem flat_filter (f : Nat → Bool) : ∀ xs : List Nat, (xs.map fun (i : Nat) => D.int (i : Int)).flatMap (gFil f) = natD (xs.filter f)
  | [] => rfl
  | x :: xs => by
    rw [List.map_cons, List.flatMap_cons, flat_filter f xs]
    simp only [natD, gFil_nat]
    by_cases e : f x = true <;> simp [e]
theorem rng_eq (n : Nat) : rngD 0 n = (List.range n).map fun (i : Nat) => D.int (i : Int) := by
  unfold rngD
  simp
theorem mem_rng {n : Nat} {d : D} (h : d ∈ rngD 0 n) : ∃ i, i < n ∧ d = .int (i : Int) := by
  rw [rng_eq] at h
  obtain ⟨i, hi, rfl⟩ := List.mem_map.mp h
  exact ⟨i, List.mem_range.mp hi, rfl⟩
theorem living_ok (a : SAt h L s) : wp (f_Store_living [.ref L.n] h) Q = Q (.lst (natD s.living)) h := by
  simp only [f_Store_living, wp_fnM]
  simp only [b_Store_living, List.map_cons, List.map_nil, wp_sSeq, wp_sRet, wp_gVal]
  rw [lComp_V (xs := rngD 0 s.rooms.length) (g := gFil s.isLiving)]
  · rw [rng_eq, flat_filter]
    rfl
  · intro Q
    rw [wp_rg1 (j := (s.rooms.length : Int))]
    · rw [Int.toNat_natCast]
    · intro Q
      simp [a.o, wp_lenRef, a.rs, a.len]
    · have := a.few
      omega
  · intro x hx Q
    obtain ⟨i, hi, rfl⟩ := mem_rng hx
    have hr : s.rooms[i]? = some s.rooms[i] := List.getElem?_eq_getElem hi
    have e : s.isLiving i = decide (s.rooms[i].st = "living") := by
      unfold Sto.isLiving
      rw [hr]
    simp [wp_gMeth_, wipeE, a.o, is_living_ok a hr, e]
    by_cases q : s.rooms[i].st = "living" <;> simp [q]
end
/-! ### methods that walk the rooms -/
theorem wp_det {α : Type} {r : R α} {a : α} {h : PH} (p : wp r fun x h' => x = a ∧ h' = h) (Q : α → PH → Prop) : wp r Q = Q a h := by
  obtain ⟨a', h', e, e1, e2⟩ := wp_eq.mp p
  rw [e, e1, e2]
  rfl
section
variable {h : PH} {L : SL} {s : Sto} {Q : D → PH → Prop}
/-- a room that is not in the way -/
def clear1 (gap b w : Int) (r : Rm) : Bool := !(!decide (r.st = "gone") && (decide (b < r.w + r.z + gap) && decide (r.w - gap < b + w)))
def Sto.clear (s : Sto) (b w : Int) : Bool := s.rooms.all (clear1 s.gap b w)
theorem walk_rooms {b : D → Sw.Env → M Fl} {Q : Fl → PH → Prop} (a : SAt h L s) (I : Nat → Sw.Env → Prop) {Γ : Sw.Env} (h0 : I 0 Γ)
    (hs : ∀ i p r Γ, I i Γ → L.ids[i]? = some p → s.rooms[i]? = some r → wp (b (.ref p.1) Γ h) fun f h' => match f with
      | .nx Γ' => I (i + 1) Γ' ∧ h' = h
      | .rt d => Q (.rt d) h') (he : ∀ Γ, I s.rooms.length Γ → Q (.nx Γ) h) : wp (loopR b L.r (L.ids.map fun p => D.ref p.1).length 0 Γ h) Q := by
  refine wp_loopR (xs := L.ids.map fun p => D.ref p.1) (fun i Γ h' => I i Γ ∧ h' = h) (fun i Γ h' q => by rw [q.2]; exact a.rs) (fun i x Γ h' q hx => ?_) (fun Γ h' q => ?_) _ 0 Γ h (Nat.zero_le _) (by omega) ⟨h0, rfl⟩
  · obtain ⟨q, rfl⟩ := q
    rw [List.getElem?_map] at hx
    cases e : L.ids[i]? with
    | none =>
      rw [e] at hx
      cases hx
    | some p =>
      rw [e] at hx
      cases hx
      have hi : i < s.rooms.length := by
        rw [← a.len]
        exact (List.getElem?_eq_some_iff.mp e).1
      exact hs i p _ Γ q e (List.getElem?_eq_getElem hi)
  · obtain ⟨q, rfl⟩ := q
    rw [List.length_map, a.len] at q
    exact he Γ q
theorem is_clear_ok (a : SAt h L s) {b w : Int} : wp (f_Store_is_clear [.ref L.n, .int b, .int w] h) Q = Q (.bl (s.clear b w)) h := by
  refine wp_det ?_ Q
  simp only [f_Store_is_clear, wp_fnM]
  simp only [b_Store_is_clear, wp_sSeq]
  rw [wp_forR (n := L.r) (xs := L.ids.map fun p => D.ref p.1) (fun Q => by simp [a.o, wp_itO a.rs]) a.rs]
  refine walk_rooms a (fun i Γ => (∃ o3 o4, Γ = [some (.ref L.n), some (.int b), some (.int w), o3, o4]) ∧ ∀ j r, j < i → s.rooms[j]? = some r → clear1 s.gap b w r = true) ⟨⟨none, none, rfl⟩, fun j r hj => by omega⟩ (fun i p r Γ q hp hr => ?_) (fun Γ q => ?_)
  · obtain ⟨⟨o3, o4, rfl⟩, q⟩ := q
    have hroom := a.rm i p r hp hr
    simp [a.o, hroom]
    have ec : clear1 s.gap b w r = !(!decide (r.st = "gone") && (decide (b < r.w + r.z + s.gap) && decide (r.w - s.gap < b + w))) := rfl
    have all : clear1 s.gap b w r = true → ∀ j r', j < i + 1 → s.rooms[j]? = some r' → clear1 s.gap b w r' = true := fun c j r' hj hr' => by
      by_cases ej : j = i
      · subst ej
        rw [hr] at hr'
        cases hr'
        exact c
      · exact q j r' (by omega) hr'
    by_cases h1 : r.st = "gone"
    · simp [h1] at ec ⊢
      exact all ec
    · by_cases h2 : b < r.w + r.z + s.gap
      · by_cases h3 : r.w - s.gap < b + w
        · simp [h1, h2, h3] at ec ⊢
          unfold Sto.clear
          exact List.all_eq_false.mpr ⟨r, List.mem_of_getElem? hr, by simp [ec]⟩
        · simp [h1, h2, h3] at ec ⊢
          exact all ec
      · simp [h1, h2] at ec ⊢
        exact all ec
  · obtain ⟨⟨o3, o4, rfl⟩, q⟩ := q
    simp
    unfold Sto.clear
    refine List.all_eq_true.mpr fun r hr => ?_
    obtain ⟨j, hj, e⟩ := List.mem_iff_getElem.mp hr
    exact q j r hj (by rw [List.getElem?_eq_getElem hj, e])
end
/-! ### loops over values by places -/
theorem wp_loopX {b : D → Sw.Env → M Fl} {xs : List D} {Q : Fl → PH → Prop} (I : Nat → Sw.Env → PH → Prop) (hs : ∀ i x Γ h, I i Γ h → xs[i]? = some x → wp (b x Γ h) fun f h' => match f with
    | .nx Γ' => I (i + 1) Γ' h'
    | .rt d => Q (.rt d) h') (he : ∀ Γ h, I xs.length Γ h → Q (.nx Γ) h) {Γ : Sw.Env} {h : PH} (h0 : I 0 Γ h) : wp (loopV b xs Γ h) Q := by
  refine wp_loopV (fun r Γ h => ∃ i, i ≤ xs.length ∧ r = xs.drop i ∧ I i Γ h) (fun x r Γ h q => ?_) (fun Γ h q => ?_) xs Γ h ⟨0, Nat.zero_le _, rfl, h0⟩
  · obtain ⟨i, hi, e, q⟩ := q
    have hl : i < xs.length := by
      rcases Nat.lt_or_ge i xs.length with h | h
      · exact h
      · rw [List.drop_eq_nil_of_le h] at e
        cases e
    rw [List.drop_eq_getElem_cons hl] at e
    injection e with e1 e2
    refine wp_mono (hs i x Γ h q (by rw [e1]; exact List.getElem?_eq_getElem hl)) fun f h' q' => ?_
    cases f with
    | nx Γ' => exact ⟨i + 1, hl, e2, q'⟩
    | rt d => exact q'
  · obtain ⟨i, hi, e, q⟩ := q
    have : i = xs.length := by
      rcases Nat.lt_or_ge i xs.length with h | h
      · rw [List.drop_eq_getElem_cons h] at e
        cases e
      · omega
    subst this
    exact he Γ h q
theorem rng_len {lo : Int} {n : Nat} : (rngD lo n).length = n := by simp [rngD]
theorem rng_get {lo : Int} {n i : Nat} {x : D} (e : (rngD lo n)[i]? = some x) : i < n ∧ x = .int (lo + (i : Int)) := by
  have hi := (List.getElem?_eq_some_iff.mp e).1
  rw [rng_len] at hi
  unfold rngD at e
  rw [List.getElem?_map, List.getElem?_range hi] at e
  cases e
  exact ⟨hi, rfl⟩
/-! ### a room given out -/
theorem set_last {h : PH} {x y : Ob} : (h ++ [x]).set h.length y = h ++ [y] := by simp
theorem set_last2 {h : PH} {x y z : Ob} : (h ++ [x, z]).set h.length y = h ++ [y, z] := by simp
theorem get_last2 {h : PH} {x z : Ob} : (h ++ [x, z])[h.length]? = some x := by simp
section
variable {a b c d : D}
theorem pf1 : putFD "where" a [] = ([("where", a)] : List (Str × D)) := rfl
theorem pf2 : putFD "wide" b ([("where", a)] : List (Str × D)) = ([("where", a), ("wide", b)] : List (Str × D)) := by kernel_rfl
theorem pf3 : putFD "state" c ([("where", a), ("wide", b)] : List (Str × D)) = ([("where", a), ("wide", b), ("state", c)] : List (Str × D)) := by kernel_rfl
theorem pf4 : putFD "known" d ([("where", a), ("wide", b), ("state", c)] : List (Str × D)) = ([("where", a), ("wide", b), ("state", c), ("known", d)] : List (Str × D)) := by kernel_rfl
end
theorem room_new_ok {h : PH} {w z : Int} {Q : D → PH → Prop} : wp (f_Room_new [.ref h.length, .int w, .int z] (h ++ [.ins "Room" []])) Q = Q .non (h ++ [.ins "Room" (roomFs ⟨w, z, "living", []⟩ (h.length + 1)), .dct (knD [])]) := by
  simp only [f_Room_new, wp_fnM]
  simp [b_Room_new, putO, pf1, pf2, pf3, pf4, get_last2, set_last2]
  rfl
section
variable {h : PH} {L : SL} {s : Sto} {Q : D → PH → Prop}
def SL.add (L : SL) (m : Nat) : SL := { L with ids := L.ids ++ [(m, m + 1)] }
def Sto.add (s : Sto) (r : Rm) : Sto := { s with rooms := s.rooms ++ [r] }
theorem SL.add_all (L : SL) (m : Nat) : (L.add m).all = L.all ++ [m, m + 1] := by
  simp [SL.add, SL.all]
theorem snoc_get {α : Type} {xs : List α} {y z : α} {i : Nat} (e : (xs ++ [y])[i]? = some z) : (xs[i]? = some z) ∨ (i = xs.length ∧ z = y) := by
  rcases Nat.lt_or_ge i xs.length with hi | hi
  · rw [List.getElem?_append_left hi] at e
    exact .inl e
  · rw [List.getElem?_append_right hi] at e
    have : i - xs.length = 0 := by
      rcases Nat.eq_zero_or_pos (i - xs.length) with q | q
      · exact q
      · rw [List.getElem?_eq_none (by simp; omega)] at e
        cases e
    rw [this] at e
    cases e
    exact .inr ⟨by omega, rfl⟩
theorem SAt.add (a : SAt h L s) {r : Rm} (few : s.rooms.length < 200000) : SAt ((h ++ [Ob.ins "Room" (roomFs r (h.length + 1)), Ob.dct (knD r.kn)]).set L.r (.lst ((L.add h.length).ids.map fun p : Nat × Nat => D.ref p.1))) (L.add h.length) (s.add r) := by
  have lt := a.lt
  have hr := lt _ SL.r_mem
  have g1 : ∀ i, i < h.length → i ≠ L.r → ((h ++ [Ob.ins "Room" (roomFs r (h.length + 1)), Ob.dct (knD r.kn)]).set L.r (.lst ((L.add h.length).ids.map fun p : Nat × Nat => D.ref p.1)))[i]? = h[i]? := fun i hi hne => by
    rw [List.getElem?_set_ne (fun e => hne e.symm), List.getElem?_append_left hi]
  have nd := a.nd
  have nr : L.n ≠ L.r := by
    intro e
    rw [SL.all, List.nodup_cons] at nd
    exact nd.1 (by rw [e]; simp)
  have nd2 : (L.r :: L.w :: L.ids.flatMap fun p => [p.1, p.2]).Nodup := by
    rw [SL.all, List.nodup_cons] at nd
    exact nd.2
  have wr : L.w ≠ L.r := by
    intro e
    rw [List.nodup_cons] at nd2
    exact nd2.1 (by rw [e]; simp)
  have ir : ∀ (i : Nat) p, L.ids[i]? = some p → p.1 ≠ L.r ∧ p.2 ≠ L.r := fun i p e => by
    rw [List.nodup_cons] at nd2
    have := flat_mem e
    exact ⟨fun q => nd2.1 (by rw [← q]; exact List.mem_cons_of_mem _ this.1), fun q => nd2.1 (by rw [← q]; exact List.mem_cons_of_mem _ this.2)⟩
  refine ⟨?_, ?_, ?_, ?_, ?_, ?_, ?_, ?_⟩
  · show _ = some (Ob.ins "Store" (storeFs s L.r L.w))
    rw [show (L.add h.length).n = L.n from rfl, g1 _ (lt _ SL.n_mem) nr]
    exact a.o
  · rw [show (L.add h.length).r = L.r from rfl]
    rw [List.getElem?_set_self (by rw [List.length_append]; omega)]
  · rw [show (L.add h.length).w = L.w from rfl, g1 _ (lt _ SL.w_mem) wr]
    exact a.wt
  · simp [SL.add, Sto.add, a.len]
  · intro i p r' h1 h2
    rcases snoc_get h1 with e1 | ⟨e1, rfl⟩ <;> rcases snoc_get h2 with e2 | ⟨e2, rfl⟩
    · rw [g1 _ (lt _ (SL.i_mem e1).1) (ir i p e1).1]
      exact a.rm i p r' e1 e2
    · have := (List.getElem?_eq_some_iff.mp e1).1
      rw [a.len] at this
      omega
    · have := (List.getElem?_eq_some_iff.mp e2).1
      rw [← a.len] at this
      omega
    · rw [List.getElem?_set_ne (by omega), get_last2]
  · intro i p r' h1 h2
    rcases snoc_get h1 with e1 | ⟨e1, rfl⟩ <;> rcases snoc_get h2 with e2 | ⟨e2, rfl⟩
    · rw [g1 _ (lt _ (SL.i_mem e1).2) (ir i p e1).2]
      exact a.kn i p r' e1 e2
    · have := (List.getElem?_eq_some_iff.mp e1).1
      rw [a.len] at this
      omega
    · have := (List.getElem?_eq_some_iff.mp e2).1
      rw [← a.len] at this
      omega
    · rw [List.getElem?_set_ne (by show L.r ≠ h.length + 1; omega)]
      simp
  · rw [SL.add_all, List.nodup_append]
    refine ⟨nd, by simp, fun x hx y hy => ?_⟩
    have := lt x hx
    simp at hy
    omega
  · simp [Sto.add]
    omega
def Sto.ok (s : Sto) : Prop := 8 ≤ s.many ∧ s.many ≤ 64 ∧ 0 ≤ s.gap ∧ s.gap ≤ 2 ∧ 0 ≤ s.keep ∧ s.keep ≤ 32
theorem room_ok (a : SAt h L s) (ok : s.ok) {z : Int} (z1 : 1 ≤ z) (z8 : z ≤ 8) (few : s.rooms.length < 200000)
    (q1 : (∀ b : Nat, (b : Int) + (z + 2 * s.gap) ≤ s.many → s.clear b (z + 2 * s.gap) = false) → Q .non h)
    (q2 : ∀ b : Nat, (b : Int) + (z + 2 * s.gap) ≤ s.many → s.clear b (z + 2 * s.gap) = true → (∀ b' : Nat, b' < b → s.clear b' (z + 2 * s.gap) = false) → ∀ h', SAt h' (L.add h.length) (s.add ⟨b + s.gap, z, "living", []⟩) → (∀ i, i < h.length → i ≠ L.r → h'[i]? = h[i]?) → h'.length = h.length + 2 → Q (.int s.rooms.length) h') :
    wp (f_Store_room [.ref L.n, .int z] h) Q := by
  obtain ⟨m8, m64, g0, g2, _, _⟩ := ok
  simp only [f_Store_room, wp_fnM]
  simp only [b_Store_room, wp_sSeq]
  simp [a.o, z1, z8]
  have m2 : Int.natAbs s.gap < 2 ^ 64 := by omega
  rw [wp_forV (xs := rngD 0 (s.many - (z + 2 * s.gap) + 1).toNat)]
  · refine wp_loopX (fun i Γ h' => h' = h ∧ (∃ o3, Γ = [some (.ref L.n), some (.int z), some (.int (z + 2 * s.gap)), o3]) ∧ ∀ b : Nat, b < i → s.clear b (z + 2 * s.gap) = false) (fun i x Γ h' q hx => ?_) (fun Γ h' q => ?_) ⟨rfl, ⟨none, rfl⟩, fun b hb => by omega⟩
    · obtain ⟨rfl, ⟨o3, rfl⟩, q⟩ := q
      obtain ⟨hi, rfl⟩ := rng_get hx
      have hin : ((i : Int)) + (z + 2 * s.gap) ≤ s.many := by omega
      have e0 : (0 : Int) + (i : Int) = (i : Int) := by omega
      rw [e0]
      simp [wp_gMeth_, a.o, is_clear_ok a]
      by_cases ec : s.clear i (z + 2 * s.gap) = true
      · have hlst : isLstD h' (.ref L.r) = true := by
          unfold isLstD
          simp only [a.rs]
        have lt := a.lt
        have hr := lt _ SL.r_mem
        have hn := lt _ SL.n_mem
        have nr : L.n ≠ L.r := by
          intro e
          have nd := a.nd
          rw [SL.all, List.nodup_cons] at nd
          exact nd.1 (by rw [e]; simp)
        have app := a.add (r := ⟨i + s.gap, z, "living", []⟩) few
        have ers : (h' ++ [Ob.ins "Room" (roomFs ⟨i + s.gap, z, "living", []⟩ (h'.length + 1)), .dct (knD [])])[L.r]? = some (.lst (L.ids.map fun p => .ref p.1)) := by
          rw [List.getElem?_append_left hr]
          exact a.rs
        have hlen : ((L.ids.map fun p : Nat × Nat => D.ref p.1).length < 16777216) = True := by
          rw [List.length_map, a.len]
          exact eq_true (by omega)
        simp only [ec, if_true, hlst, true_and, room_new_ok, ers, mApp, hlen, hid_1, hid_2, lstAt, bindO_some]
        have elst : (L.ids.map fun p : Nat × Nat => D.ref p.1) ++ [.ref h'.length] = (L.add h'.length).ids.map fun p => D.ref p.1 := by
          simp [SL.add]
        simp only [elst]
        have eo := app.o
        have er := app.rs
        rw [show (L.add h'.length).n = L.n from rfl, show (L.add h'.length).r = L.r from rfl, show (L.add h'.length).w = L.w from rfl] at eo
        rw [show (L.add h'.length).r = L.r from rfl] at er
        simp [eo, er, wp_lenRef]
        have el : ((L.add h'.length).ids.length : Int) - 1 = s.rooms.length := by
          simp [SL.add, a.len]
        rw [el]
        refine q2 i hin ec q _ app (fun j hj hne => ?_) (by simp)
        rw [List.getElem?_set_ne (fun e => hne e.symm), List.getElem?_append_left hj]
      · have ec' : s.clear i (z + 2 * s.gap) = false := by simpa using ec
        simp [ec']
        intro b hb
        by_cases e : b = i
        · subst e
          exact ec'
        · exact q b (by omega)
    · obtain ⟨rfl, ⟨o3, rfl⟩, q⟩ := q
      simp
      refine q1 fun b hb => q b ?_
      rw [rng_len]
      omega
  · intro Q
    rw [wp_rg1 (j := s.many - (z + 2 * s.gap) + 1)]
    · intro Q
      simp [a.o]
    · omega
end
/-! ### marks -/
theorem knD_get {kn : List Int} {c : Int} : (getD_ (knD kn) (.inl c)).isSome = decide (c ∈ kn) := by
  unfold getD_ knD
  induction kn with
  | nil => rfl
  | cons x xs ih =>
    rw [List.map_cons, List.find?_cons]
    by_cases e : x = c
    · subst e
      simp
    · have e1 : decide ((Sum.inl x : Key) = .inl c) = false := by simp [e]
      simp only [e1]
      rw [ih]
      have e2 : ¬ c = x := fun q => e q.symm
      simp [e2]
/-- what a room tells of a cell that is its own -/
def own1 (c : Int) (r : Rm) : Option Str := if r.st ≠ "gone" ∧ r.w ≤ c ∧ c < r.w + r.z then some (if r.st = "kept" then ("freed" : Str) else if c ∈ r.kn then ("set" : Str) else ("fresh" : Str)) else none
def near1 (gap c : Int) (r : Rm) : Option Str := if r.st ≠ "gone" ∧ r.w - gap ≤ c ∧ c < r.w + r.z + gap then some "gap" else none
def Sto.mark (s : Sto) (c : Int) : Str := match s.rooms.findSome? (own1 c) with
  | some m => m
  | none => (match s.rooms.findSome? (near1 s.gap c) with
    | some m => m
    | none => "open")
theorem findSome_none {α β : Type} {f : α → Option β} {xs : List α} (h : ∀ (j : Nat) x, xs[j]? = some x → f x = none) : xs.findSome? f = none := by
  rw [List.findSome?_eq_none_iff]
  intro x hx
  obtain ⟨j, hj, e⟩ := List.mem_iff_getElem.mp hx
  exact h j x (by rw [List.getElem?_eq_getElem hj, e])
theorem findSome_some {α β : Type} {f : α → Option β} : ∀ {xs : List α} {i : Nat} {x : α} {y : β}, (∀ (j : Nat) z, j < i → xs[j]? = some z → f z = none) → xs[i]? = some x → f x = some y → xs.findSome? f = some y
  | [], i, x, y, _, e, _ => by simp at e
  | z :: zs, 0, x, y, _, e, q => by
    cases e
    rw [List.findSome?_cons, q]
  | z :: zs, i + 1, x, y, h, e, q => by
    rw [List.findSome?_cons, h 0 z (by omega) rfl]
    exact findSome_some (i := i) (fun j w hj hw => h (j + 1) w (by omega) (by simpa using hw)) (by simpa using e) q
theorem nonef {α β : Type} {f : α → Option β} {xs : List α} {i : Nat} {r : α} (q : ∀ (j : Nat) z, j < i → xs[j]? = some z → f z = none) (hr : xs[i]? = some r) (e : f r = none) : ∀ (j : Nat) z, j < i + 1 → xs[j]? = some z → f z = none := fun j z hj hz => by
  by_cases ej : j = i
  · subst ej
    rw [hr] at hz
    cases hz
    exact e
  · exact q j z (by omega) hz
section
variable {h : PH} {L : SL} {s : Sto} {Q : D → PH → Prop}
theorem mark_ok (a : SAt h L s) {c : Int} : wp (f_Store_mark [.ref L.n, .int c] h) Q = Q (.str (s.mark c)) h := by
  refine wp_det ?_ Q
  simp only [f_Store_mark, wp_fnM]
  simp only [b_Store_mark]
  rw [wp_sSeq, wp_forR (n := L.r) (xs := L.ids.map fun p => D.ref p.1) (fun Q => by simp [a.o, wp_itO a.rs]) a.rs]
  refine walk_rooms a (fun i Γ => (∃ o2, Γ = [some (.ref L.n), some (.int c), o2]) ∧ ∀ j r, j < i → s.rooms[j]? = some r → own1 c r = none) ⟨⟨none, rfl⟩, fun j r hj => by omega⟩ (fun i p r Γ q hp hr => ?_) (fun Γ q => ?_)
  · obtain ⟨⟨o2, rfl⟩, q⟩ := q
    have hroom := a.rm i p r hp hr
    have hkn := a.kn i p r hp hr
    simp [wp_gMeth_, hroom, has_ok hroom, wp_inRef hkn, keyD, knD_get]
    have eo : own1 c r = if r.st ≠ "gone" ∧ r.w ≤ c ∧ c < r.w + r.z then some (if r.st = "kept" then ("freed" : Str) else if c ∈ r.kn then ("set" : Str) else ("fresh" : Str)) else none := rfl
    have fin : ∀ m : Str, own1 c r = some m → s.mark c = m := fun m e => by
      unfold Sto.mark
      rw [findSome_some q hr e]
    by_cases h1 : r.st = "gone"
    · simp [h1] at eo ⊢
      exact nonef q hr eo
    · by_cases h2 : r.w ≤ c
      · by_cases h3 : c < r.w + r.z
        · by_cases h4 : r.st = "kept"
          · have h5 : ¬ ((Str.ofString "kept" : Str) = Str.ofString "gone") := by decide +kernel
            simp [h2, h3, h4, h5] at eo ⊢
            exact (fin _ eo).symm
          · by_cases h6 : c ∈ r.kn
            · simp [h1, h2, h3, h4, h6] at eo ⊢
              exact (fin _ eo).symm
            · simp [h1, h2, h3, h4, h6] at eo ⊢
              exact (fin _ eo).symm
        · simp [h1, h2, h3] at eo ⊢
          exact nonef q hr eo
      · simp [h1, h2] at eo ⊢
        exact nonef q hr eo
  · obtain ⟨⟨o2, rfl⟩, q⟩ := q
    have e0 : s.rooms.findSome? (own1 c) = none := findSome_none fun j x hx => q j x (List.getElem?_eq_some_iff.mp hx).1 hx
    simp only []
    rw [wp_sSeq, wp_forR (n := L.r) (xs := L.ids.map fun p => D.ref p.1) (fun Q => by simp [a.o, wp_itO a.rs]) a.rs]
    refine walk_rooms a (fun i Γ => (∃ o2, Γ = [some (.ref L.n), some (.int c), o2]) ∧ ∀ j r, j < i → s.rooms[j]? = some r → near1 s.gap c r = none) ⟨⟨o2, rfl⟩, fun j r hj => by omega⟩ (fun i p r Γ q hp hr => ?_) (fun Γ q => ?_)
    · obtain ⟨⟨o2, rfl⟩, q⟩ := q
      have hroom := a.rm i p r hp hr
      simp [a.o, hroom]
      have eo : near1 s.gap c r = if r.st ≠ "gone" ∧ r.w - s.gap ≤ c ∧ c < r.w + r.z + s.gap then some ("gap" : Str) else none := rfl
      by_cases h1 : r.st = "gone"
      · simp [h1] at eo ⊢
        exact nonef q hr eo
      · by_cases h2 : r.w - s.gap ≤ c
        · by_cases h3 : c < r.w + r.z + s.gap
          · simp [h1, h2, h3] at eo ⊢
            unfold Sto.mark
            rw [e0, findSome_some q hr eo]
          · simp [h1, h2, h3] at eo ⊢
            exact nonef q hr eo
        · simp [h1, h2] at eo ⊢
          exact nonef q hr eo
    · obtain ⟨⟨o2, rfl⟩, q⟩ := q
      have e1 : s.rooms.findSome? (near1 s.gap c) = none := findSome_none fun j x hx => q j x (List.getElem?_eq_some_iff.mp hx).1 hx
      simp
      unfold Sto.mark
      rw [e0, e1]
/-! ### the owner of a cell, a cell written -/
def Sto.hasAt (s : Sto) (c : Int) (i : Nat) : Bool := match s.rooms[i]? with
  | some r => decide (r.w ≤ c) && decide (c < r.w + r.z)
  | none => false
def Sto.owner (s : Sto) (c : Int) : Option Nat := (s.living.filter (s.hasAt c)).head?
def natO : Option Nat → D
  | some i => .int (i : Int)
  | none => .non
theorem living_lt {i : Nat} (h : i ∈ s.living) : i < s.rooms.length := by
  unfold Sto.living at h
  exact List.mem_range.mp (List.mem_filter.mp h).1
theorem natD_ints (xs : List Nat) : natD xs = (xs.map fun (i : Nat) => (i : Int)).map D.int := by
  unfold natD
  rw [List.map_map]
  rfl
theorem natD_len (xs : List Nat) : (natD xs).length = xs.length := by
  unfold natD
  rw [List.length_map]
theorem living_len : s.living.length ≤ s.rooms.length := by
  unfold Sto.living
  exact Nat.le_trans (List.length_filter_le _ _) (by rw [List.length_range]; exact Nat.le_refl _)
theorem owner_ok (a : SAt h L s) {c : Int} : wp (f_Store_owner [.ref L.n, .int c] h) Q = Q (natO (s.owner c)) h := by
  simp only [f_Store_owner, wp_fnM]
  simp only [b_Store_owner, wp_sSeq, wp_sSet, wp_gVal]
  have hf := a.few
  rw [lComp_V (xs := natD s.living) (g := gFil (s.hasAt c))]
  · have e : (natD s.living).flatMap (gFil (s.hasAt c)) = natD (s.living.filter (s.hasAt c)) := flat_filter _ _
    rw [e]
    unfold Sto.owner
    cases q : s.living.filter (s.hasAt c) with
    | nil =>
      simp [natD, natO]
      rw [show ([] : List D) = ([] : List Int).map D.int from rfl, neLI]
      simp
    | cons i r =>
      simp
      rw [natD_ints, neL0]
      have e : atI ((List.map (fun (i : Nat) => (i : Int)) (i :: r)).map D.int) 0 = some (.int (i : Int)) := by
        have := Sw.atI_nat (xs := (List.map (fun (i : Nat) => (i : Int)) (i :: r)).map D.int) (k := 0)
        exact this
      simp [natO] at e ⊢ <;> rw [e]
  · intro Q
    have : s.living.length ≤ 16777216 := Nat.le_trans living_len (by omega)
    simp [wp_gMeth_, a.o, living_ok a, natD_len, this]
  · intro x hx Q
    unfold natD at hx
    obtain ⟨i, hi, rfl⟩ := List.mem_map.mp hx
    have hl := living_lt hi
    have hr : s.rooms[i]? = some s.rooms[i] := List.getElem?_eq_getElem hl
    obtain ⟨p, hp⟩ := a.ids_at hl
    have hroom := a.rm i p _ hp hr
    have e : s.hasAt c i = (decide (s.rooms[i].w ≤ c) && decide (c < s.rooms[i].w + s.rooms[i].z)) := by
      unfold Sto.hasAt
      rw [hr]
    simp [wp_gMeth_, wipeE, a.o, wp_ixRef, a.rs, refs_at hp, hroom, has_ok hroom, e]
    split <;> rfl
def addKn (c : Int) (kn : List Int) : List Int := if c ∈ kn then kn else kn ++ [c]
theorem knD_put {kn : List Int} {c : Int} : putD_ (knD kn) (.inl c) (.bl true) = knD (addKn c kn) := by
  have e : ((knD kn).any fun kv => decide (kv.1 = (.inl c : Key))) = decide (c ∈ kn) := by
    unfold knD
    rw [List.any_map]
    induction kn with
    | nil => rfl
    | cons x xs ih =>
      rw [List.any_cons, ih]
      by_cases q : x = c
      · simp [q]
      · have : ¬ c = x := fun z => q z.symm
        simp [q, this]
  unfold putD_ addKn
  rw [e]
  by_cases q : c ∈ kn
  · simp only [q, decide_true, if_true]
    unfold knD
    rw [List.map_map]
    refine List.map_congr_left fun x _ => ?_
    show (if (Sum.inl x : Key) = .inl c then _ else _) = _
    by_cases z : x = c <;> simp [z]
  · simp [q, knD]
def Sto.setRoom (s : Sto) (i : Nat) (f : Rm → Rm) : Sto := { s with rooms := s.rooms.modify i f }
theorem SAt.setRm (a : SAt h L s) {i : Nat} {p : Nat × Nat} (hp : L.ids[i]? = some p) {r : Rm} (hr : s.rooms[i]? = some r) {f : Rm → Rm} {h' : PH} (k : ∀ j ∈ L.all, j ≠ p.1 → j ≠ p.2 → h'[j]? = h[j]?) (h1 : h'[p.1]? = some (.ins "Room" (roomFs (f r) p.2))) (h2 : h'[p.2]? = some (.dct (knD (f r).kn))) : SAt h' L (s.setRoom i f) := by
  have nd := a.nd
  have nd1 : L.n ∉ (L.r :: L.w :: L.ids.flatMap fun p => [p.1, p.2]) ∧ (L.r :: L.w :: L.ids.flatMap fun p => [p.1, p.2]).Nodup := List.nodup_cons.mp nd
  have nd2 := List.nodup_cons.mp nd1.2
  have nd3 := List.nodup_cons.mp nd2.2
  have fm := flat_mem hp
  have nn : L.n ≠ p.1 ∧ L.n ≠ p.2 := ⟨fun e => nd1.1 (by rw [e]; exact List.mem_cons_of_mem _ (List.mem_cons_of_mem _ fm.1)), fun e => nd1.1 (by rw [e]; exact List.mem_cons_of_mem _ (List.mem_cons_of_mem _ fm.2))⟩
  have nr : L.r ≠ p.1 ∧ L.r ≠ p.2 := ⟨fun e => nd2.1 (by rw [e]; exact List.mem_cons_of_mem _ fm.1), fun e => nd2.1 (by rw [e]; exact List.mem_cons_of_mem _ fm.2)⟩
  have nw : L.w ≠ p.1 ∧ L.w ≠ p.2 := ⟨fun e => nd3.1 (by rw [e]; exact fm.1), fun e => nd3.1 (by rw [e]; exact fm.2)⟩
  have sep : ∀ (j : Nat) q, j ≠ i → L.ids[j]? = some q → q.1 ≠ p.1 ∧ q.1 ≠ p.2 ∧ q.2 ≠ p.1 ∧ q.2 ≠ p.2 := by
    have gen : ∀ (ids : List (Nat × Nat)), (ids.flatMap fun p => [p.1, p.2]).Nodup → ∀ (i j : Nat) p q, j ≠ i → ids[i]? = some p → ids[j]? = some q → q.1 ≠ p.1 ∧ q.1 ≠ p.2 ∧ q.2 ≠ p.1 ∧ q.2 ≠ p.2 := by
      intro ids
      induction ids with
      | nil => intro _ i j p q _ e; simp at e
      | cons x xs ih =>
        intro nd i j p q hne e1 e2
        rw [List.flatMap_cons] at nd
        obtain ⟨d1, d2, d3⟩ := List.nodup_append.mp nd
        cases i with
        | zero =>
          cases j with
          | zero => exact absurd rfl hne
          | succ j =>
            cases e1
            have m := flat_mem (ids := xs) (i := j) (p := q) (by simpa using e2)
            refine ⟨fun e => d3 x.1 (by simp) q.1 m.1 e.symm, fun e => d3 x.2 (by simp) q.1 m.1 e.symm, fun e => d3 x.1 (by simp) q.2 m.2 e.symm, fun e => d3 x.2 (by simp) q.2 m.2 e.symm⟩
        | succ i =>
          cases j with
          | zero =>
            cases e2
            have m := flat_mem (ids := xs) (i := i) (p := p) (by simpa using e1)
            refine ⟨fun e => d3 x.1 (by simp) p.1 m.1 e, fun e => d3 x.1 (by simp) p.2 m.2 e, fun e => d3 x.2 (by simp) p.1 m.1 e, fun e => d3 x.2 (by simp) p.2 m.2 e⟩
          | succ j => exact ih d2 i j p q (by omega) (by simpa using e1) (by simpa using e2)
    exact fun j q hne e => gen L.ids nd3.2 i j p q hne hp e
  have getr : ∀ (j : Nat) r', (s.setRoom i f).rooms[j]? = some r' → (j = i ∧ r' = f r) ∨ (j ≠ i ∧ s.rooms[j]? = some r') := fun j r' e => by
    unfold Sto.setRoom at e
    rw [List.getElem?_modify] at e
    by_cases q : i = j
    · subst q
      rw [hr] at e
      simp at e
      exact .inl ⟨rfl, e.symm⟩
    · simp [q] at e
      exact .inr ⟨fun z => q z.symm, e⟩
  refine ⟨?_, ?_, ?_, ?_, ?_, ?_, nd, ?_⟩
  · rw [k _ SL.n_mem nn.1 nn.2]
    exact a.o
  · rw [k _ SL.r_mem nr.1 nr.2]
    exact a.rs
  · rw [k _ SL.w_mem nw.1 nw.2]
    exact a.wt
  · simp [Sto.setRoom, a.len]
  · intro j q r' e1 e2
    rcases getr j r' e2 with ⟨rfl, rfl⟩ | ⟨hne, e⟩
    · rw [hp] at e1
      cases e1
      exact h1
    · have z := sep j q hne e1
      rw [k _ (SL.i_mem e1).1 z.1 z.2.1]
      exact a.rm j q r' e1 e
  · intro j q r' e1 e2
    rcases getr j r' e2 with ⟨rfl, rfl⟩ | ⟨hne, e⟩
    · rw [hp] at e1
      cases e1
      exact h2
    · have z := sep j q hne e1
      rw [k _ (SL.i_mem e1).2 z.2.2.1 z.2.2.2]
      exact a.kn j q r' e1 e
  · simpa [Sto.setRoom] using a.few
theorem ids_ne (a : SAt h L s) {i : Nat} {p : Nat × Nat} (hp : L.ids[i]? = some p) : p.1 ≠ p.2 := by
  have nd3 := (List.nodup_cons.mp (List.nodup_cons.mp (List.nodup_cons.mp a.nd).2).2).2
  have gen : ∀ (ids : List (Nat × Nat)), (ids.flatMap fun p => [p.1, p.2]).Nodup → ∀ (i : Nat) p, ids[i]? = some p → p.1 ≠ p.2 := by
    intro ids
    induction ids with
    | nil => intro _ i p e; simp at e
    | cons x xs ih =>
      intro nd i p e
      rw [List.flatMap_cons] at nd
      obtain ⟨d1, d2, d3⟩ := List.nodup_append.mp nd
      cases i with
      | zero =>
        cases e
        simpa using d1
      | succ i => exact ih d2 i p (by simpa using e)
  exact gen L.ids nd3 i p hp
end
/-! ### a cell written, a room freed -/
section
variable {h : PH} {L : SL} {s : Sto} {Q : D → PH → Prop}
def Sto.write (s : Sto) (c : Int) : Sto := match s.owner c with
  | some i => s.setRoom i fun r => { r with kn := addKn c r.kn }
  | none => s
theorem owner_mem {c : Int} {i : Nat} (e : s.owner c = some i) : i ∈ s.living ∧ s.hasAt c i = true := by
  unfold Sto.owner at e
  have : i ∈ s.living.filter (s.hasAt c) := List.mem_of_mem_head? e
  exact List.mem_filter.mp this
theorem write_ok (a : SAt h L s) {c : Int} (hk : ∀ r ∈ s.rooms, r.kn.length < 16777216) (q : ∀ h', SAt h' L (s.write c) → (∀ i, i ∉ L.all → h'[i]? = h[i]?) → h'.length = h.length → Q .non h') : wp (f_Store_write [.ref L.n, .int c] h) Q := by
  simp only [f_Store_write, wp_fnM]
  simp [b_Store_write, wp_gMeth_, a.o, owner_ok a]
  cases e : s.owner c with
  | none =>
    simp [natO]
    refine q h ?_ (fun _ _ => rfl) rfl
    unfold Sto.write
    rw [e]
    exact a
  | some i =>
    have hl := living_lt (owner_mem e).1
    have hr : s.rooms[i]? = some s.rooms[i] := List.getElem?_eq_getElem hl
    obtain ⟨p, hp⟩ := a.ids_at hl
    have hroom := a.rm i p _ hp hr
    have hkn := a.kn i p _ hp hr
    have lt := (List.getElem?_eq_some_iff.mp hkn).1
    have lk : (knD s.rooms[i].kn).length < 16777216 := by
      unfold knD
      rw [List.length_map]
      exact hk _ (List.getElem_mem hl)
    simp [natO, a.o, wp_ixRef, a.rs, refs_at hp, hroom, wp_setRef, hkn, keyD, lk, knD_put]
    refine q _ ?_ (fun j hj => ?_) (by simp)
    · unfold Sto.write
      rw [e]
      refine a.setRm hp hr (fun j _ _ h2 => List.getElem?_set_ne (fun z => h2 z.symm)) ?_ ?_
      · rw [List.getElem?_set_ne (fun z => ids_ne a hp z.symm)]
        exact hroom
      · rw [List.getElem?_set_self lt]
    · exact List.getElem?_set_ne fun z => hj (by rw [← z]; exact (SL.i_mem hp).2)
def Sto.put (s : Sto) (i : Nat) (x : Str) : Sto := s.setRoom i fun r => { r with st := x }
theorem SAt.putSt (a : SAt h L s) {i : Nat} {p : Nat × Nat} (hp : L.ids[i]? = some p) {r : Rm} (hr : s.rooms[i]? = some r) (x : Str) : SAt (h.set p.1 (.ins "Room" (roomFs { r with st := x } p.2))) L (s.put i x) := by
  have hroom := a.rm i p _ hp hr
  have hkn := a.kn i p _ hp hr
  have lt := (List.getElem?_eq_some_iff.mp hroom).1
  refine a.setRm hp hr (fun j _ h1 _ => List.getElem?_set_ne (fun z => h1 z.symm)) ?_ ?_
  · rw [List.getElem?_set_self lt]
  · rw [List.getElem?_set_ne (ids_ne a hp)]
    exact hkn
theorem SAt.setW (a : SAt h L s) (ws : List Nat) : SAt (h.set L.w (.lst (natD ws))) L { s with waiting := ws } := by
  have nd := a.nd
  have nd1 : L.n ∉ (L.r :: L.w :: L.ids.flatMap fun p => [p.1, p.2]) ∧ (L.r :: L.w :: L.ids.flatMap fun p => [p.1, p.2]).Nodup := List.nodup_cons.mp nd
  have nd2 := List.nodup_cons.mp nd1.2
  have nd3 := List.nodup_cons.mp nd2.2
  have g : ∀ {j}, L.w ≠ j → (h.set L.w (.lst (natD ws)))[j]? = h[j]? := fun e => List.getElem?_set_ne e
  refine ⟨?_, ?_, ?_, a.len, ?_, ?_, nd, a.few⟩
  · rw [g fun e => nd1.1 (by rw [← e]; simp)]
    exact a.o
  · rw [g fun e => nd2.1 (by rw [← e]; simp)]
    exact a.rs
  · rw [List.getElem?_set_self (a.lt _ SL.w_mem)]
    rfl
  · intro i p r e1 e2
    rw [g fun e => nd3.1 (by rw [e]; exact (flat_mem e1).1)]
    exact a.rm i p r e1 e2
  · intro i p r e1 e2
    rw [g fun e => nd3.1 (by rw [e]; exact (flat_mem e1).2)]
    exact a.kn i p r e1 e2
def Sto.wideAt (s : Sto) (i : Nat) : Int := match s.rooms[i]? with
  | some r => r.z
  | none => 0
def Sto.sumW (s : Sto) (ws : List Nat) : Int := (ws.map s.wideAt).sum
/-- the first ones kept leave until the rest is no more than keep -/
def drain : List Nat → Sto → Sto
  | [], s => { s with waiting := [] }
  | i :: ws, s => if s.keep < s.sumW (i :: ws) then drain ws (s.put i "gone") else { s with waiting := i :: ws }
def Sto.free (s : Sto) (i : Nat) : Sto := drain (s.waiting ++ [i]) (s.put i "kept")
theorem put_wide (i : Nat) (x : Str) (j : Nat) : (s.put i x).wideAt j = s.wideAt j := by
  unfold Sto.put Sto.setRoom Sto.wideAt
  rw [List.getElem?_modify]
  cases e : s.rooms[j]? with
  | none => rfl
  | some r =>
    by_cases q : i = j <;> simp [q]
theorem put_len (i : Nat) (x : Str) : (s.put i x).rooms.length = s.rooms.length := by
  unfold Sto.put Sto.setRoom
  rw [List.length_modify]
theorem drain_w : ∀ (ws : List Nat) (s : Sto) (v : List Nat), drain ws { s with waiting := v } = drain ws s
  | [], s, v => rfl
  | i :: ws, s, v => by
    unfold drain
    have e1 : Sto.sumW { s with waiting := v } (i :: ws) = s.sumW (i :: ws) := rfl
    have e2 : Sto.put { s with waiting := v } i "gone" = { s.put i "gone" with waiting := v } := rfl
    rw [e1, e2, drain_w ws]
theorem drain_stop {s : Sto} (h : ¬ s.keep < s.sumW s.waiting) : drain s.waiting s = s := by
  obtain ⟨m, g, k, rs, ws⟩ := s
  cases ws with
  | nil => rfl
  | cons i ws =>
    unfold drain
    rw [if_neg h]
def gOne (f : Nat → Int) (d : D) : List D := match d with
  | .int i => [D.int (f i.toNat)]
  | _ => []
@[simp] theorem gOne_nat {f : Nat → Int} {i : Nat} : gOne f (.int (i : Int)) = [.int (f i)] := by
  simp [gOne]
theorem flat_one (f : Nat → Int) : ∀ ws : List Nat, (natD ws).flatMap (gOne f) = (ws.map f).map D.int
  | [] => rfl
  | x :: xs => by
    have ih := flat_one f xs
    unfold natD at ih ⊢
    rw [List.map_cons, List.flatMap_cons, ih]
    simp
theorem free_ok (a : SAt h L s) {i : Nat} {r : Rm} (hr : s.rooms[i]? = some r) (hst : r.st = "living") (hw : ∀ j ∈ s.waiting, j < s.rooms.length) (hl : s.waiting.length < 900000) (hkeep : 0 ≤ s.keep)
    (q : ∀ h', SAt h' L (s.free i) → (∀ i, i ∉ L.all → h'[i]? = h[i]?) → h'.length = h.length → Q .non h') : wp (f_Store_free [.ref L.n, .int i] h) Q := by
  have hi := (List.getElem?_eq_some_iff.mp hr).1
  obtain ⟨p, hp⟩ := a.ids_at hi
  have hroom := a.rm i p r hp hr
  have a1 := a.putSt hp hr "kept"
  have lw : isLstD (h.set p.1 (.ins "Room" (roomFs { r with st := "kept" } p.2))) (.ref L.w) = true := by
    unfold isLstD
    simp only [a1.wt]
  have hwl : (s.put i "kept").waiting.length < 16777216 := by
    show s.waiting.length < _
    omega
  have a2 := a1.setW (s.waiting ++ [i])
  have ew : (s.put i "kept").waiting = s.waiting := rfl
  have ed : (s.waiting.map fun (i : Nat) => D.int (i : Int)) ++ [.int i] = natD (s.waiting ++ [i]) := by
    unfold natD
    rw [List.map_append]
    rfl
  simp only [f_Store_free, wp_fnM]
  simp [b_Store_free, wp_gMeth_, a.o, born_ok a hp, hroom, hst, wp_ixRef, a.rs, refs_at hp, putO, p_state, a1.o, lw, a1.wt, mApp, ew, show s.waiting.length < 16777216 by omega, ed]
  refine wp_loopW (fun n Γ h' => (∃ o2, Γ = [some (.ref L.n), some (.int i), o2]) ∧ ∃ s' : Sto, SAt h' L s' ∧ s'.waiting.length = n ∧ drain s'.waiting s' = s.free i ∧ (∀ j ∈ s'.waiting, j < s'.rooms.length) ∧ s'.keep = s.keep ∧ (∀ i, i ∉ L.all → h'[i]? = h[i]?) ∧ h'.length = h.length ∧ s'.waiting.length ≤ 900000) ?_ 1000000 (s.waiting ++ [i]).length _ _ (by rw [List.length_append]; simp; omega) ⟨⟨none, rfl⟩, _, a2, rfl, ?_, ?_, rfl, ?_, by simp, ?_⟩
  · rintro n Γ h1 ⟨⟨o2, rfl⟩, s1, b1, rfl, e1, hw1, ek, fr, hlen, hl1⟩
    have hlw : (natD s1.waiting).length ≤ 16777216 ∨ True := .inr trivial
    simp
    rw [lComp_R (n := L.w) (xs := natD s1.waiting) (g := gOne s1.wideAt) (fun Q => by simp [b1.o, wp_itO b1.wt]) b1.wt (by rw [natD_len]; omega) ?_]
    · rw [flat_one, hid_2, hid_2, wp_sumL]
      simp [b1.o]
      by_cases c : s1.keep < (s1.waiting.map s1.wideAt).sum
      · simp only [c, if_true]
        cases ews : s1.waiting with
        | nil =>
          rw [ews] at c
          simp at c
          omega
        | cons j ws =>
          have hj : j < s1.rooms.length := hw1 j (by rw [ews]; simp)
          obtain ⟨pj, hpj⟩ := b1.ids_at hj
          have hrj : s1.rooms[j]? = some s1.rooms[j] := List.getElem?_eq_getElem hj
          have hroomj := b1.rm j pj _ hpj hrj
          have c1 := b1.setW ws
          have lst : isLstD h1 (.ref L.w) = true := by
            unfold isLstD
            simp only [b1.wt]
          refine ⟨ws.length, rfl, ?_⟩
          have wt1 := b1.wt
          rw [ews] at wt1
          have six : seqIndex? 0 (ws.length + 1) = some 0 := by
            unfold seqIndex?
            simp
          simp [lst, wt1, mPopAt, six]
          have hrj2 : ({ s1 with waiting := ws } : Sto).rooms[j]? = some s1.rooms[j] := hrj
          have c2 := c1.putSt hpj hrj2 "gone"
          have hroomj2 := c1.rm j pj _ hpj hrj2
          have c1rs := c1.rs
          unfold natD at c1rs hroomj2 c2
          simp [wp_ixRef, c1rs, refs_at hpj, putO, hroomj2, p_state]
          refine ⟨_, c2, rfl, ?_, fun x hx => ?_, ek, fun x hx => ?_, hlen, ?_⟩
          · rw [← e1, ews]
            have e2 : Sto.put { s1 with waiting := ws } j "gone" = { s1.put j "gone" with waiting := ws } := rfl
            show drain ws (Sto.put { s1 with waiting := ws } j "gone") = drain (j :: ws) s1
            rw [e2, drain_w]
            show _ = if s1.keep < s1.sumW (j :: ws) then drain ws (s1.put j "gone") else _
            rw [if_pos (by rw [ews] at c; exact c)]
          · rw [put_len]
            exact hw1 x (by rw [ews]; exact List.mem_cons_of_mem _ hx)
          · rw [List.getElem?_set_ne (fun z => hx (by rw [← z]; exact (SL.i_mem hpj).1)), List.getElem?_set_ne (fun z => hx (by rw [← z]; exact SL.w_mem))]
            exact fr x hx
          · have : ws.length < s1.waiting.length := by
              rw [ews]
              simp
            show ws.length ≤ 900000
            omega
      · have cd := drain_stop (s := s1) c
        rw [cd] at e1
        rw [e1] at b1
        have c' : ¬ ((s1.keep < (s1.waiting.map s1.wideAt).sum) : Prop) := c
        rw [if_neg c']
        exact q h1 b1 fr hlen
    · intro x hx Q
      unfold natD at hx
      obtain ⟨j, hj, rfl⟩ := List.mem_map.mp hx
      have hjl := hw1 j hj
      obtain ⟨pj, hpj⟩ := b1.ids_at hjl
      have hrj : s1.rooms[j]? = some s1.rooms[j] := List.getElem?_eq_getElem hjl
      have hroomj := b1.rm j pj _ hpj hrj
      have ew : s1.wideAt j = s1.rooms[j].z := by
        unfold Sto.wideAt
        rw [hrj]
      simp [wipeE, b1.o, wp_ixRef, b1.rs, refs_at hpj, hroomj, ew]
  · show drain (s.waiting ++ [i]) { s.put i "kept" with waiting := s.waiting ++ [i] } = _
    rw [drain_w]
    rfl
  · intro j hj
    have hj : j ∈ s.waiting ++ [i] := hj
    show j < (s.put i "kept").rooms.length
    rw [put_len]
    rcases List.mem_append.mp hj with h | h
    · exact hw j h
    · rw [List.mem_singleton.mp h]
      exact hi
  · intro j hj
    rw [List.getElem?_set_ne (fun z => hj (by rw [← z]; exact SL.w_mem)), List.getElem?_set_ne (fun z => hj (by rw [← z]; exact (SL.i_mem hp).1))]
  · show (s.waiting ++ [i]).length ≤ 900000
    rw [List.length_append]
    simp
    omega
end
/-! ### what holds of a store at all times -/
def ext (gap : Int) (r : Rm) (c : Int) : Prop := r.w - gap ≤ c ∧ c < r.w + r.z + gap
/-- all but that the kept ones come to no more than keep -/
structure Inv0 (s : Sto) : Prop where
  ok : s.ok
  st : ∀ (i : Nat) r, s.rooms[i]? = some r → r.st = "living" ∨ r.st = "kept" ∨ r.st = "gone"
  kp : ∀ (i : Nat) r, s.rooms[i]? = some r → (r.st = "kept" ↔ i ∈ s.waiting)
  nd : s.waiting.Nodup
  wl : ∀ i ∈ s.waiting, i < s.rooms.length
  inn : ∀ (i : Nat) r, s.rooms[i]? = some r → 0 ≤ r.w - s.gap ∧ r.w + r.z + s.gap ≤ s.many ∧ 1 ≤ r.z ∧ r.z ≤ 8
  dis : ∀ (i j : Nat) r q, i ≠ j → s.rooms[i]? = some r → s.rooms[j]? = some q → r.st ≠ "gone" → q.st ≠ "gone" → r.w + r.z + s.gap ≤ q.w - s.gap ∨ q.w + q.z + s.gap ≤ r.w - s.gap
structure Inv (s : Sto) : Prop where
  i0 : Inv0 s
  sum : s.sumW s.waiting ≤ s.keep
theorem s_lk : ¬ ((Str.ofString "living" : Str) = Str.ofString "kept") := by decide +kernel
theorem s_lg : ¬ ((Str.ofString "living" : Str) = Str.ofString "gone") := by decide +kernel
theorem s_kg : ¬ ((Str.ofString "kept" : Str) = Str.ofString "gone") := by decide +kernel
theorem clear1_iff {gap b w : Int} {r : Rm} : clear1 gap b w r = true ↔ (r.st = "gone" ∨ r.w + r.z + gap ≤ b ∨ b + w ≤ r.w - gap) := by
  unfold clear1
  by_cases h1 : r.st = "gone"
  · simp [h1]
  · simp [h1]
    all_goals omega
theorem clear_iff {s : Sto} {b w : Int} : s.clear b w = true ↔ ∀ (i : Nat) r, s.rooms[i]? = some r → r.st = "gone" ∨ r.w + r.z + s.gap ≤ b ∨ b + w ≤ r.w - s.gap := by
  unfold Sto.clear
  rw [List.all_eq_true]
  constructor
  · intro h i r e
    exact clear1_iff.mp (h r (List.mem_of_getElem? e))
  · intro h r hr
    obtain ⟨i, hi, e⟩ := List.mem_iff_getElem.mp hr
    exact clear1_iff.mpr (h i r (by rw [List.getElem?_eq_getElem hi, e]))
theorem Inv0.start {m g k : Int} (h : Sto.ok ⟨m, g, k, [], []⟩) : Inv ⟨m, g, k, [], []⟩ :=
  ⟨⟨h, fun i r e => by simp at e, fun i r e => by simp at e, List.nodup_nil, fun i e => by simp at e, fun i r e => by simp at e, fun i j r q _ e => by simp at e⟩, h.2.2.2.2.1⟩
theorem Inv.add {s : Sto} (v : Inv s) {b : Nat} {z : Int} (z1 : 1 ≤ z) (z8 : z ≤ 8) (hb : (b : Int) + (z + 2 * s.gap) ≤ s.many) (hc : s.clear b (z + 2 * s.gap) = true) : Inv (s.add ⟨b + s.gap, z, "living", []⟩) := by
  have hc := clear_iff.mp hc
  obtain ⟨⟨ok, st, kp, nd, wl, inn, dis⟩, sum⟩ := v
  have gg : ∀ (i : Nat) r, (s.add ⟨b + s.gap, z, "living", []⟩).rooms[i]? = some r → (s.rooms[i]? = some r) ∨ (i = s.rooms.length ∧ r = ⟨b + s.gap, z, "living", []⟩) := fun i r e => snoc_get e
  refine ⟨⟨ok, fun i r e => ?_, fun i r e => ?_, nd, fun i hi => ?_, fun i r e => ?_, fun i j r q hne e1 e2 n1 n2 => ?_⟩, ?_⟩
  · rcases gg i r e with e | ⟨_, rfl⟩
    · exact st i r e
    · exact .inl rfl
  · rcases gg i r e with e | ⟨rfl, rfl⟩
    · exact kp i r e
    · refine ⟨fun z => absurd z s_lk, fun z => ?_⟩
      have := wl _ z
      omega
  · have := wl i hi
    show i < (s.rooms ++ [_]).length
    rw [List.length_append]
    omega
  · rcases gg i r e with e | ⟨_, rfl⟩
    · exact inn i r e
    · show 0 ≤ (b : Int) + s.gap - s.gap ∧ (b : Int) + s.gap + z + s.gap ≤ s.many ∧ 1 ≤ z ∧ z ≤ 8
      omega
  · show r.w + r.z + s.gap ≤ q.w - s.gap ∨ q.w + q.z + s.gap ≤ r.w - s.gap
    rcases gg i r e1 with e1 | ⟨rfl, rfl⟩ <;> rcases gg j q e2 with e2 | ⟨rfl, rfl⟩
    · exact dis i j r q hne e1 e2 n1 n2
    · have := hc i r e1
      simp only
      rcases this with h | h | h
      · exact absurd h n1
      · omega
      · omega
    · have := hc j q e2
      simp only
      rcases this with h | h | h
      · exact absurd h n2
      · omega
      · omega
    · exact absurd rfl hne
  · have e : Sto.sumW (s.add ⟨b + s.gap, z, "living", []⟩) s.waiting = s.sumW s.waiting := by
      unfold Sto.sumW
      refine congrArg List.sum (List.map_congr_left fun i hi => ?_)
      unfold Sto.wideAt Sto.add
      rw [List.getElem?_append_left (wl i hi)]
    show Sto.sumW (s.add ⟨b + s.gap, z, "living", []⟩) s.waiting ≤ s.keep
    rw [e]
    exact sum
/-- a room changed in its state, its cells alone -/
theorem mod_get {s : Sto} {i : Nat} {f : Rm → Rm} {j : Nat} {q : Rm} (e : (s.setRoom i f).rooms[j]? = some q) : ∃ r, s.rooms[j]? = some r ∧ q = if i = j then f r else r := by
  unfold Sto.setRoom at e
  rw [List.getElem?_modify] at e
  cases h : s.rooms[j]? with
  | none =>
    rw [h] at e
    simp at e
  | some r =>
    rw [h] at e
    simp at e
    exact ⟨r, rfl, e.symm⟩
theorem Inv.kn {s : Sto} (v : Inv s) {i : Nat} {f : Rm → List Int} : Inv (s.setRoom i fun r => { r with kn := f r }) := by
  have gg : ∀ (j : Nat) q, (s.setRoom i fun r => { r with kn := f r }).rooms[j]? = some q → ∃ r, s.rooms[j]? = some r ∧ q.w = r.w ∧ q.z = r.z ∧ q.st = r.st := fun j q e => by
    obtain ⟨r, e1, e2⟩ := mod_get e
    refine ⟨r, e1, ?_⟩
    rw [e2]
    split <;> exact ⟨rfl, rfl, rfl⟩
  obtain ⟨⟨ok, st, kp, nd, wl, inn, dis⟩, sum⟩ := v
  refine ⟨⟨ok, fun j q e => ?_, fun j q e => ?_, nd, fun j hj => ?_, fun j q e => ?_, fun j k q p hne e1 e2 n1 n2 => ?_⟩, ?_⟩
  · obtain ⟨r, e1, _, _, e2⟩ := gg j q e
    rw [e2]
    exact st j r e1
  · obtain ⟨r, e1, _, _, e2⟩ := gg j q e
    rw [e2]
    exact kp j r e1
  · have := wl j hj
    simpa [Sto.setRoom] using this
  · obtain ⟨r, e1, e2, e3, _⟩ := gg j q e
    rw [e2, e3]
    exact inn j r e1
  · obtain ⟨r, f1, f2, f3, f4⟩ := gg j q e1
    obtain ⟨r', g1, g2, g3, g4⟩ := gg k p e2
    rw [f2, f3, g2, g3]
    rw [f4] at n1
    rw [g4] at n2
    exact dis j k r r' hne f1 g1 n1 n2
  · have e : Sto.sumW (s.setRoom i fun r => { r with kn := f r }) s.waiting = s.sumW s.waiting := by
      unfold Sto.sumW
      refine congrArg List.sum (List.map_congr_left fun j hj => ?_)
      unfold Sto.wideAt Sto.setRoom
      rw [List.getElem?_modify]
      cases s.rooms[j]? with
      | none => rfl
      | some r => by_cases q : i = j <;> simp [q]
    show Sto.sumW (s.setRoom i fun r => { r with kn := f r }) s.waiting ≤ s.keep
    rw [e]
    exact sum
theorem Inv.write {s : Sto} (v : Inv s) (c : Int) : Inv (s.write c) := by
  unfold Sto.write
  split
  · exact v.kn
  · exact v
/-- state x put, and waiting told anew -/
theorem Inv0.put {s : Sto} (v : Inv0 s) {i : Nat} {x : Str} {ws : List Nat} (hx : x = "kept" ∧ i ∉ s.waiting ∧ ws = s.waiting ++ [i] ∧ i < s.rooms.length ∧ (∀ r, s.rooms[i]? = some r → r.st ≠ "gone") ∨ x = "gone" ∧ s.waiting = i :: ws) : Inv0 { s.put i x with waiting := ws } := by
  obtain ⟨ok, st, kp, nd, wl, inn, dis⟩ := v
  have gg : ∀ (j : Nat) q, (s.put i x).rooms[j]? = some q → ∃ r, s.rooms[j]? = some r ∧ q = if i = j then { r with st := x } else r := fun j q e => mod_get e
  have hx' : x ≠ "living" := by
    rcases hx with ⟨rfl, _⟩ | ⟨rfl, _⟩
    · exact fun e => s_lk e.symm
    · exact fun e => s_lg e.symm
  refine ⟨ok, fun j q e => ?_, fun j q e => ?_, ?_, fun j hj => ?_, fun j q e => ?_, fun j k q p hne e1 e2 n1 n2 => ?_⟩
  · obtain ⟨r, e1, rfl⟩ := gg j q e
    by_cases h : i = j
    · simp only [h, if_true]
      rcases hx with ⟨rfl, _⟩ | ⟨rfl, _⟩
      · exact .inr (.inl rfl)
      · exact .inr (.inr rfl)
    · simp only [h, if_false]
      exact st j r e1
  · obtain ⟨r, e1, rfl⟩ := gg j q e
    show _ ↔ j ∈ ws
    by_cases h : i = j
    · subst h
      simp only [if_true]
      rcases hx with ⟨rfl, h1, rfl, _⟩ | ⟨rfl, h1⟩
      · exact ⟨fun _ => by simp, fun _ => rfl⟩
      · rw [h1] at nd
        exact ⟨fun z => absurd z.symm s_kg, fun z => absurd z (List.nodup_cons.mp nd).1⟩
    · simp only [h, if_false]
      rw [kp j r e1]
      rcases hx with ⟨rfl, h1, rfl, _⟩ | ⟨rfl, h1⟩
      · simp
        intro z
        exact absurd z.symm h
      · rw [h1]
        simp
        intro z
        exact absurd z.symm h
  · show ws.Nodup
    rcases hx with ⟨rfl, h1, rfl, _⟩ | ⟨rfl, h1⟩
    · rw [List.nodup_append]
      refine ⟨nd, by simp, fun a ha b hb => ?_⟩
      simp at hb
      subst hb
      intro e
      subst e
      exact h1 ha
    · rw [h1] at nd
      exact (List.nodup_cons.mp nd).2
  · have hj : j ∈ ws := hj
    show j < (s.put i x).rooms.length
    rw [put_len]
    rcases hx with ⟨rfl, h1, rfl, hi, _⟩ | ⟨rfl, h1⟩
    · rcases List.mem_append.mp hj with h | h
      · exact wl j h
      · rw [List.mem_singleton.mp h]
        exact hi
    · exact wl j (by rw [h1]; exact List.mem_cons_of_mem _ hj)
  · obtain ⟨r, e1, rfl⟩ := gg j q e
    have := inn j r e1
    split <;> exact this
  · obtain ⟨r, f1, rfl⟩ := gg j q e1
    obtain ⟨r', g1, rfl⟩ := gg k p e2
    have m1 : r.st ≠ "gone" := by
      by_cases h : i = j
      · subst h
        rcases hx with ⟨rfl, _, _, _, h5⟩ | ⟨rfl, h1⟩
        · exact h5 r f1
        · simp at n1
      · simpa [h] using n1
    have m2 : r'.st ≠ "gone" := by
      by_cases h : i = k
      · subst h
        rcases hx with ⟨rfl, _, _, _, h5⟩ | ⟨rfl, h1⟩
        · exact h5 r' g1
        · simp at n2
      · simpa [h] using n2
    have := dis j k r r' hne f1 g1 m1 m2
    have w1 : (if i = j then { r with st := x } else r : Rm).w = r.w ∧ (if i = j then { r with st := x } else r : Rm).z = r.z := by split <;> exact ⟨rfl, rfl⟩
    have w2 : (if i = k then { r' with st := x } else r' : Rm).w = r'.w ∧ (if i = k then { r' with st := x } else r' : Rm).z = r'.z := by split <;> exact ⟨rfl, rfl⟩
    rw [w1.1, w1.2, w2.1, w2.2]
    exact this
theorem Inv.drain : ∀ (ws : List Nat) (s : Sto), Inv0 { s with waiting := ws } → Inv (drain ws s) ∧ ∃ pre, ws = pre ++ (GK12.drain ws s).waiting
  | [], s, v => ⟨⟨v, v.ok.2.2.2.2.1⟩, [], rfl⟩
  | i :: ws, s, v => by
    unfold GK12.drain
    by_cases c : s.keep < s.sumW (i :: ws)
    · rw [if_pos c]
      have v1 : Inv0 { s.put i "gone" with waiting := ws } := v.put (i := i) (.inr ⟨rfl, rfl⟩)
      obtain ⟨v2, pre, e⟩ := Inv.drain ws (s.put i "gone") v1
      exact ⟨v2, i :: pre, by rw [List.cons_append, ← e]⟩
    · rw [if_neg c]
      refine ⟨⟨v, ?_⟩, [], rfl⟩
      show Sto.sumW { s with waiting := i :: ws } (i :: ws) ≤ s.keep
      have : Sto.sumW { s with waiting := i :: ws } (i :: ws) = s.sumW (i :: ws) := rfl
      omega
theorem Inv.free {s : Sto} (v : Inv s) {i : Nat} (hi : i ∈ s.living) : Inv (s.free i) ∧ ∃ pre, s.waiting ++ [i] = pre ++ (s.free i).waiting := by
  have hl := living_lt hi
  have hr : s.rooms[i]? = some s.rooms[i] := List.getElem?_eq_getElem hl
  have hs : s.rooms[i].st = "living" := by
    unfold Sto.living at hi
    have := (List.mem_filter.mp hi).2
    unfold Sto.isLiving at this
    rw [hr] at this
    exact of_decide_eq_true this
  have hn : i ∉ s.waiting := fun h => by
    have := (v.i0.kp i _ hr).mpr h
    rw [hs] at this
    exact s_lk this
  exact Inv.drain _ _ (v.i0.put (.inl ⟨rfl, hn, rfl, hl, fun r e => by
    rw [hr] at e
    cases e
    rw [hs]
    exact s_lg⟩))
theorem drain_keep : ∀ (ws : List Nat) (s : Sto), (drain ws s).rooms.length = s.rooms.length ∧ (drain ws s).many = s.many ∧ (drain ws s).gap = s.gap ∧ (drain ws s).keep = s.keep ∧ ∀ n : Nat, (∀ r ∈ s.rooms, r.kn.length ≤ n) → ∀ r ∈ (drain ws s).rooms, r.kn.length ≤ n
  | [], s => ⟨rfl, rfl, rfl, rfl, fun _ h => h⟩
  | i :: ws, s => by
    unfold drain
    by_cases c : s.keep < s.sumW (i :: ws)
    · rw [if_pos c]
      obtain ⟨h1, h2, h3, h4, h5⟩ := drain_keep ws (s.put i "gone")
      refine ⟨by rw [h1, put_len], h2, h3, h4, fun n h => h5 n fun r hr => ?_⟩
      obtain ⟨j, hj, e⟩ := List.mem_iff_getElem.mp hr
      obtain ⟨r', e1, e2⟩ := mod_get (s := s) (i := i) (f := fun r => { r with st := "gone" }) (j := j) (q := r) (by rw [← e]; exact List.getElem?_eq_getElem hj)
      rw [e2]
      have := h r' (List.mem_of_getElem? e1)
      split <;> exact this
    · rw [if_neg c]
      exact ⟨rfl, rfl, rfl, rfl, fun _ h => h⟩
theorem put_kn {s : Sto} {i : Nat} {x : Str} {n : Nat} (h : ∀ r ∈ s.rooms, r.kn.length ≤ n) : ∀ r ∈ (s.put i x).rooms, r.kn.length ≤ n := fun r hr => by
  obtain ⟨j, hj, e⟩ := List.mem_iff_getElem.mp hr
  obtain ⟨r', e1, e2⟩ := mod_get (s := s) (i := i) (f := fun r => { r with st := x }) (j := j) (q := r) (by rw [← e]; exact List.getElem?_eq_getElem hj)
  rw [e2]
  have := h r' (List.mem_of_getElem? e1)
  split <;> exact this
theorem free_keep {s : Sto} (i : Nat) : (s.free i).rooms.length = s.rooms.length ∧ (s.free i).many = s.many ∧ (s.free i).gap = s.gap ∧ (s.free i).keep = s.keep ∧ ∀ n : Nat, (∀ r ∈ s.rooms, r.kn.length ≤ n) → ∀ r ∈ (s.free i).rooms, r.kn.length ≤ n := by
  obtain ⟨h1, h2, h3, h4, h5⟩ := drain_keep (s.waiting ++ [i]) (s.put i "kept")
  exact ⟨by unfold Sto.free; rw [h1, put_len], h2, h3, h4, fun n h => h5 n (put_kn h)⟩
theorem write_keep {s : Sto} (c : Int) : (s.write c).rooms.length = s.rooms.length ∧ (s.write c).many = s.many ∧ (s.write c).gap = s.gap ∧ (s.write c).keep = s.keep ∧ (s.write c).waiting = s.waiting ∧ ∀ n : Nat, (∀ r ∈ s.rooms, r.kn.length ≤ n) → ∀ r ∈ (s.write c).rooms, r.kn.length ≤ n + 1 := by
  unfold Sto.write
  split
  · refine ⟨by simp [Sto.setRoom], rfl, rfl, rfl, rfl, fun n h r hr => ?_⟩
    obtain ⟨j, hj, e⟩ := List.mem_iff_getElem.mp hr
    have e0 := List.getElem?_eq_getElem hj
    rw [e] at e0
    obtain ⟨r', e1, e2⟩ := mod_get e0
    rw [e2]
    have := h r' (List.mem_of_getElem? e1)
    split
    · show (addKn c r'.kn).length ≤ n + 1
      unfold addKn
      split
      · omega
      · rw [List.length_append]
        simp
        omega
    · omega
  · exact ⟨rfl, rfl, rfl, rfl, rfl, fun n h r hr => Nat.le_succ_of_le (h r hr)⟩
/-! ### a store made -/
section
variable {a b c d e : D}
theorem sf1 : putFD "many" a [] = ([("many", a)] : List (Str × D)) := rfl
theorem sf2 : putFD "gap" b ([("many", a)] : List (Str × D)) = ([("many", a), ("gap", b)] : List (Str × D)) := by kernel_rfl
theorem sf3 : putFD "keep" c ([("many", a), ("gap", b)] : List (Str × D)) = ([("many", a), ("gap", b), ("keep", c)] : List (Str × D)) := by kernel_rfl
theorem sf4 : putFD "rooms" d ([("many", a), ("gap", b), ("keep", c)] : List (Str × D)) = ([("many", a), ("gap", b), ("keep", c), ("rooms", d)] : List (Str × D)) := by kernel_rfl
theorem sf5 : putFD "waiting" e ([("many", a), ("gap", b), ("keep", c), ("rooms", d)] : List (Str × D)) = ([("many", a), ("gap", b), ("keep", c), ("rooms", d), ("waiting", e)] : List (Str × D)) := by kernel_rfl
end
theorem need_setting_ok {m g k : Int} (ok : Sto.ok ⟨m, g, k, [], []⟩) {h : PH} {Q : D → PH → Prop} : wp (f_need_setting [.tup [.int m, .int g, .int k]] h) Q = Q .non h := by
  obtain ⟨h1, h2, h3, h4, h5, h6⟩ := ok
  simp only at h1 h2 h3 h4 h5 h6
  simp only [f_need_setting, wp_fnM]
  simp [b_need_setting, is_number_ok, h1, h2, h3, h4, h5, h6]
theorem store_new_ok {m g k : Int} (ok : Sto.ok ⟨m, g, k, [], []⟩) {h : PH} {Q : D → PH → Prop} : wp (f_Store_new [.ref h.length, .tup [.int m, .int g, .int k]] (h ++ [.ins "Store" []])) Q = Q .non (h ++ [.ins "Store" (storeFs ⟨m, g, k, [], []⟩ (h.length + 1) (h.length + 2)), .lst [], .lst []]) := by
  simp only [f_Store_new, wp_fnM]
  simp [b_Store_new, need_setting_ok ok, putO, sf1, sf2, sf3, sf4, sf5, get_last2, set_last2]
  rfl
theorem store_at {m g k : Int} {h : PH} : SAt (h ++ [.ins "Store" (storeFs ⟨m, g, k, [], []⟩ (h.length + 1) (h.length + 2)), .lst [], .lst []]) ⟨h.length, h.length + 1, h.length + 2, []⟩ ⟨m, g, k, [], []⟩ where
  o := by simp
  rs := by simp
  wt := by simp
  len := rfl
  rm := fun i p r e => by simp at e
  kn := fun i p r e => by simp at e
  nd := by simp [SL.all]
  few := by simp
/-! ### the law's setting -/
/-! ### programs and machines, plain -/
inductive Rw where
  | put (n : Nat) (c : Int)
  | add (n m i : Nat)
  | less (n m i : Nat)
  | ask (n : Nat)
  | say (n : Nat)
  | room (h n : Nat)
  | free (h : Nat)
  | get (n h i : Nat)
  | set (h i n : Nat)
  | shift (h g n : Nat)
  | move (h g : Nat)
  | chk
  deriving DecidableEq
inductive Ed where
  | go (b : Nat)
  | ife (n a b : Nat)
  | fin
  deriving DecidableEq
abbrev Pg := List (List Rw × Ed)
def Rw.d : Rw → D
  | .put n c => .tup [.str "put", .int n, .int c]
  | .add n m i => .tup [.str "add", .int n, .int m, .int i]
  | .less n m i => .tup [.str "less", .int n, .int m, .int i]
  | .ask n => .tup [.str "ask", .int n]
  | .say n => .tup [.str "say", .int n]
  | .room h n => .tup [.str "room", .int h, .int n]
  | .free h => .tup [.str "free", .int h]
  | .get n h i => .tup [.str "get", .int n, .int h, .int i]
  | .set h i n => .tup [.str "set", .int h, .int i, .int n]
  | .shift h g n => .tup [.str "shift", .int h, .int g, .int n]
  | .move h g => .tup [.str "move", .int h, .int g]
  | .chk => .tup [.str "check"]
def Ed.d : Ed → D
  | .go b => .tup [.str "go", .int b]
  | .ife n a b => .tup [.str "if", .int n, .int a, .int b]
  | .fin => .tup [.str "end"]
def blkD (b : List Rw × Ed) : D := .tup [.tup (b.1.map Rw.d), b.2.d]
def Pg.d (p : Pg) : D := .tup (p.map blkD)
def Rw.ok : Rw → Prop
  | .put n c => n < 6 ∧ -99 ≤ c ∧ c ≤ 999
  | .add n m i => n < 6 ∧ m < 6 ∧ i < 6
  | .less n m i => n < 6 ∧ m < 6 ∧ i < 6
  | .ask n => n < 6
  | .say n => n < 6
  | .room h n => h < 4 ∧ n < 6
  | .free h => h < 4
  | .get n h i => n < 6 ∧ h < 4 ∧ i < 6
  | .set h i n => h < 4 ∧ i < 6 ∧ n < 6
  | .shift h g n => h < 4 ∧ g < 4 ∧ n < 6
  | .move h g => h < 4 ∧ g < 4
  | .chk => True
def Ed.ok (k : Nat) : Ed → Prop
  | .go b => b < k
  | .ife n a b => n < 6 ∧ a < k ∧ b < k
  | .fin => True
def Rw.isT : Rw → Bool
  | .room .. => true
  | .free .. => true
  | .get .. => true
  | .set .. => true
  | _ => false
/-- checks stand ahead of touches -/
def chkOk : List Rw → Prop
  | [] => True
  | .chk :: rs => (match rs with
    | r :: _ => r.isT = true
    | [] => False) ∧ chkOk rs
  | _ :: rs => chkOk rs
def bare (rs : List Rw) : List Rw := rs.filter fun r => decide (r ≠ .chk)
structure Pg.ok (p : Pg) : Prop where
  one : 1 ≤ p.length
  most : p.length ≤ 12
  rows : ∀ b ∈ p, ∀ r ∈ b.1, r.ok
  ends : ∀ b ∈ p, b.2.ok p.length
  chk : ∀ b ∈ p, chkOk b.1
  few : (p.map fun b => (bare b.1).length).sum ≤ 60
/-! machines -/
structure Mac where
  n : List Int
  h : List (Option (Nat × Int))
  s : Sto
  c : List Int
  g : List Int
  sd : List Int
def cutI (x : Int) : Int := max (-9999) (min 9999 x)
def Mac.num (m : Mac) (i : Nat) : Int := m.n.getD i 0
def Mac.hd (m : Mac) (i : Nat) : Option (Nat × Int) := m.h.getD i none
def Rw.hOf : Rw → Nat
  | .get _ h _ => h
  | .free h => h
  | .set h _ _ => h
  | _ => 0
def Mac.ix (m : Mac) : Rw → Int
  | .get _ _ i => m.num i
  | .set _ i _ => m.num i
  | _ => 0
def Sto.placeOf (s : Sto) (k : Nat) : Int := match s.rooms[k]? with
  | some r => r.w
  | none => 0
def Mac.base (m : Mac) (r : Rw) : Int := match m.hd r.hOf with
  | some (k, o) => m.s.placeOf k + o
  | none => 0
def Mac.cell (m : Mac) (r : Rw) : Int := m.base r + m.ix r
def Sto.whereAt (s : Sto) (c : Int) (i : Nat) : Bool := match s.rooms[i]? with
  | some r => decide (r.w = c)
  | none => false
def Sto.begins (s : Sto) (c : Int) : Option Nat := (s.living.filter (s.whereAt c)).head?
def Sto.spot (s : Sto) (z : Int) : Option Nat := (List.range (s.many - (z + 2 * s.gap) + 1).toNat).find? fun b => s.clear b (z + 2 * s.gap)
def clampZ (x : Int) : Int := max 1 (min 8 x)
def Mac.do (m : Mac) (r : Rw) : Mac × Str := match r with
  | .put n c => ({ m with n := m.n.set n c }, "")
  | .add n a b => ({ m with n := m.n.set n (cutI (m.num a + m.num b)) }, "")
  | .less n a b => ({ m with n := m.n.set n (cutI (m.num a - m.num b)) }, "")
  | .ask n => ({ m with n := m.n.set n (m.g.headD 0), g := m.g.tail }, "")
  | .say n => ({ m with sd := m.sd ++ [m.num n] }, "")
  | .shift h g n => ({ m with h := m.h.set h ((m.hd g).map fun p => (p.1, cutI (p.2 + m.num n))) }, "")
  | .move h g => ({ m with h := m.h.set h (m.hd g) }, "")
  | .room h n => (match m.s.spot (clampZ (m.num n)) with
    | none => (m, "full")
    | some b => ({ m with s := m.s.add ⟨b + m.s.gap, clampZ (m.num n), "living", []⟩, h := m.h.set h (some (m.s.rooms.length, 0)) }, ""))
  | .free h => (match m.s.begins (m.cell (.free h)) with
    | none => (m, "")
    | some i => ({ m with s := m.s.free i }, ""))
  | .get n h i => if 0 ≤ m.cell (.get n h i) ∧ m.cell (.get n h i) < (m.c.length : Int) then ({ m with n := m.n.set n (m.c.getD (m.cell (.get n h i)).toNat 0) }, "") else (m, "fell")
  | .set h i n => if 0 ≤ m.cell (.set h i n) ∧ m.cell (.set h i n) < (m.c.length : Int) then ({ m with c := m.c.set (m.cell (.set h i n)).toNat (m.num n), s := m.s.write (m.cell (.set h i n)) }, "") else (m, "fell")
  | .chk => (m, "")
/-- what holds of a machine at all times; k: the steps done -/
structure Mac.ok (m : Mac) (k : Nat) : Prop where
  n6 : m.n.length = 6
  h4 : m.h.length = 4
  inv : Inv m.s
  c : (m.c.length : Int) = m.s.many
  hs : ∀ i p, m.hd i = some p → p.1 < m.s.rooms.length
  few : m.s.rooms.length ≤ k
  kn : ∀ r ∈ m.s.rooms, r.kn.length ≤ k
  sd : m.sd.length ≤ k
  g : m.g.length ≤ 20
  ob : ∀ i p, m.hd i = some p → -9999 ≤ p.2 ∧ p.2 ≤ 9999
/-! ### what a machine keeps -/
theorem spot_some {s : Sto} {z : Int} {b : Nat} (e : s.spot z = some b) : (b : Int) + (z + 2 * s.gap) ≤ s.many ∧ s.clear b (z + 2 * s.gap) = true ∧ ∀ b' : Nat, b' < b → s.clear b' (z + 2 * s.gap) = false := by
  unfold Sto.spot at e
  rw [List.find?_range_eq_some] at e
  obtain ⟨e1, e2, e3⟩ := e
  rw [List.mem_range] at e2
  exact ⟨by omega, e1, fun b' hb => by simpa using e3 b' hb⟩
theorem spot_none {s : Sto} {z : Int} (e : s.spot z = none) : ∀ b : Nat, (b : Int) + (z + 2 * s.gap) ≤ s.many → s.clear b (z + 2 * s.gap) = false := by
  unfold Sto.spot at e
  rw [List.find?_range_eq_none] at e
  intro b hb
  have := e b (by omega)
  simpa using this
theorem spot_of {s : Sto} {z : Int} {b : Nat} (h1 : (b : Int) + (z + 2 * s.gap) ≤ s.many) (h2 : s.clear b (z + 2 * s.gap) = true) (h3 : ∀ b' : Nat, b' < b → s.clear b' (z + 2 * s.gap) = false) : s.spot z = some b := by
  unfold Sto.spot
  rw [List.find?_range_eq_some]
  exact ⟨h2, List.mem_range.mpr (by omega), fun j hj => by simp [h3 j hj]⟩
theorem spot_no {s : Sto} {z : Int} (h : ∀ b : Nat, (b : Int) + (z + 2 * s.gap) ≤ s.many → s.clear b (z + 2 * s.gap) = false) : s.spot z = none := by
  unfold Sto.spot
  rw [List.find?_range_eq_none]
  intro b hb
  simp [h b (by omega)]
theorem clampZ_in (x : Int) : 1 ≤ clampZ x ∧ clampZ x ≤ 8 := by
  unfold clampZ
  omega
theorem begins_mem {s : Sto} {c : Int} {i : Nat} (e : s.begins c = some i) : i ∈ s.living ∧ s.whereAt c i = true := by
  unfold Sto.begins at e
  have : i ∈ s.living.filter (s.whereAt c) := List.mem_of_mem_head? e
  exact List.mem_filter.mp this
theorem living_st {s : Sto} {i : Nat} (h : i ∈ s.living) : ∃ r, s.rooms[i]? = some r ∧ r.st = "living" := by
  have hl := living_lt h
  unfold Sto.living at h
  have := (List.mem_filter.mp h).2
  unfold Sto.isLiving at this
  rw [List.getElem?_eq_getElem hl] at this
  exact ⟨_, List.getElem?_eq_getElem hl, of_decide_eq_true this⟩
theorem hd_set {hs : List (Option (Nat × Int))} {i j : Nat} {x : Option (Nat × Int)} : (hs.set j x).getD i none = if i = j ∧ j < hs.length then x else hs.getD i none := by
  simp only [List.getD_eq_getElem?_getD, List.getElem?_set]
  by_cases e : j = i
  · subst e
    by_cases q : j < hs.length
    · simp [q]
    · simp [q]
  · have : ¬ i = j := fun z => e z.symm
    simp [e, this]
theorem Mac.ok.mono {m : Mac} {k k' : Nat} (o : m.ok k) (h : k ≤ k') : m.ok k' :=
  ⟨o.n6, o.h4, o.inv, o.c, o.hs, Nat.le_trans o.few h, fun r hr => Nat.le_trans (o.kn r hr) h, Nat.le_trans o.sd h, o.g, o.ob⟩
theorem Mac.do_ok {m : Mac} {k : Nat} (o : m.ok k) (r : Rw) : (m.do r).1.ok (k + 1) := by
  have o1 := o.mono (Nat.le_succ k)
  have num : ∀ (i : Nat) (x : Int), ({ m with n := m.n.set i x } : Mac).ok (k + 1) := fun i x =>
    ⟨by rw [List.length_set]; exact o.n6, o.h4, o.inv, o.c, o.hs, o1.few, o1.kn, o1.sd, o.g, o.ob⟩
  have hnd : ∀ (i : Nat) (x : Option (Nat × Int)), (∀ p, x = some p → p.1 < m.s.rooms.length ∧ -9999 ≤ p.2 ∧ p.2 ≤ 9999) → ({ m with h := m.h.set i x } : Mac).ok (k + 1) := fun i x hx =>
    ⟨o.n6, by rw [List.length_set]; exact o.h4, o.inv, o.c, fun j p e => by
      unfold Mac.hd at e
      rw [hd_set] at e
      split at e
      · exact (hx p e).1
      · exact o.hs j p e, o1.few, o1.kn, o1.sd, o.g, fun j p e => by
      unfold Mac.hd at e
      rw [hd_set] at e
      split at e
      · exact (hx p e).2
      · exact o.ob j p e⟩
  cases r with
  | put n c => exact num _ _
  | add n a b => exact num _ _
  | less n a b => exact num _ _
  | ask n => exact ⟨by show (m.n.set _ _).length = 6; rw [List.length_set]; exact o.n6, o.h4, o.inv, o.c, o.hs, o1.few, o1.kn, o1.sd, by show m.g.tail.length ≤ 20; rw [List.length_tail]; have := o.g; omega, o.ob⟩
  | say n => exact ⟨o.n6, o.h4, o.inv, o.c, o.hs, o1.few, o1.kn, by show (m.sd ++ [m.num n]).length ≤ k + 1; rw [List.length_append]; have := o.sd; simp; omega, o.g, o.ob⟩
  | shift h g n =>
    refine hnd _ _ fun p e => ?_
    cases q : m.hd g with
    | none => rw [q] at e; cases e
    | some p' =>
      rw [q] at e
      cases e
      exact ⟨o.hs g p' q, by show -9999 ≤ cutI _; unfold cutI; omega, by show cutI _ ≤ 9999; unfold cutI; omega⟩
  | move h g => exact hnd _ _ fun p e => ⟨o.hs g p e, o.ob g p e⟩
  | room h n =>
    show (match m.s.spot (clampZ (m.num n)) with
      | none => (m, ("full" : Str))
      | some b => ({ m with s := m.s.add ⟨b + m.s.gap, clampZ (m.num n), "living", []⟩, h := m.h.set h (some (m.s.rooms.length, 0)) }, "")).1.ok (k + 1)
    cases e : m.s.spot (clampZ (m.num n)) with
    | none => exact o1
    | some b =>
      obtain ⟨e1, e2, e3⟩ := spot_some e
      have cz := clampZ_in (m.num n)
      have ll : (m.s.add ⟨b + m.s.gap, clampZ (m.num n), "living", []⟩).rooms.length = m.s.rooms.length + 1 := by simp [Sto.add]
      refine ⟨o.n6, by show (m.h.set _ _).length = 4; rw [List.length_set]; exact o.h4, o.inv.add cz.1 cz.2 e1 e2, o.c, fun j p q => ?_, by show (m.s.add _).rooms.length ≤ k + 1; rw [ll]; have := o.few; omega, fun r hr => ?_, o1.sd, o.g, fun j p q => ?_⟩
      · show p.1 < (m.s.add _).rooms.length
        rw [ll]
        unfold Mac.hd at q
        rw [hd_set] at q
        split at q
        · cases q
          exact Nat.lt_succ_self _
        · exact Nat.lt_succ_of_lt (o.hs j p q)
      · have hr : r ∈ m.s.rooms ++ [⟨b + m.s.gap, clampZ (m.num n), "living", []⟩] := hr
        rcases List.mem_append.mp hr with h1 | h1
        · exact o1.kn r h1
        · rw [List.mem_singleton.mp h1]
          exact Nat.zero_le _
      · unfold Mac.hd at q
        rw [hd_set] at q
        split at q
        · cases q
          exact ⟨by show (-9999 : Int) ≤ 0; omega, by show (0 : Int) ≤ 9999; omega⟩
        · exact o.ob j p q
  | free h =>
    show (match m.s.begins (m.cell (.free h)) with
      | none => (m, ("" : Str))
      | some i => ({ m with s := m.s.free i }, "")).1.ok (k + 1)
    cases e : m.s.begins (m.cell (.free h)) with
    | none => exact o1
    | some i =>
      obtain ⟨f1, f2, f3, f4, f5⟩ := free_keep (s := m.s) i
      refine ⟨o.n6, o.h4, (o.inv.free (begins_mem e).1).1, by show _ = (m.s.free i).many; rw [f2]; exact o.c, fun j p q => ?_, ?_, ?_, o1.sd, o.g, o.ob⟩
      · show p.1 < (m.s.free i).rooms.length
        rw [f1]
        exact o.hs j p q
      · show (m.s.free i).rooms.length ≤ k + 1
        rw [f1]
        exact o1.few
      · exact f5 (k + 1) o1.kn
  | get n h i =>
    show (if _ then _ else _ : Mac × Str).1.ok (k + 1)
    split
    · exact num _ _
    · exact o1
  | set h i n =>
    show (if _ then _ else _ : Mac × Str).1.ok (k + 1)
    split
    · obtain ⟨f1, f2, f3, f4, f5, f6⟩ := write_keep (s := m.s) (m.cell (.set h i n))
      refine ⟨o.n6, o.h4, o.inv.write _, by show ((m.c.set _ _).length : Int) = (m.s.write _).many; rw [f2, List.length_set]; exact o.c, fun j p q => ?_, ?_, f6 k o.kn, o1.sd, o.g, o.ob⟩
      · show p.1 < (m.s.write _).rooms.length
        rw [f1]
        exact o.hs j p q
      · show (m.s.write _).rooms.length ≤ k + 1
        rw [f1]
        exact o1.few
    · exact o1
  | chk => exact o1
/-! ### where a State stands -/
def hD : Option (Nat × Int) → D
  | some p => .tup [.int (p.1 : Int), .int p.2]
  | none => .non
def iD (xs : List Int) : List D := xs.map D.int
def hsD (xs : List (Option (Nat × Int))) : List D := xs.map hD
def stateFs (n : Nat) : List (Str × D) := [("numbers", .ref (n + 1)), ("handles", .ref (n + 2)), ("store", .ref (n + 3)), ("cells", .ref (n + 6)), ("given", .ref (n + 7)), ("said", .ref (n + 8))]
structure StAt (h : PH) (n : Nat) (ids : List (Nat × Nat)) (m : Mac) : Prop where
  o : h[n]? = some (.ins "State" (stateFs n))
  nu : h[n + 1]? = some (.lst (iD m.n))
  ha : h[n + 2]? = some (.lst (hsD m.h))
  st : SAt h ⟨n + 3, n + 4, n + 5, ids⟩ m.s
  ce : h[n + 6]? = some (.lst (iD m.c))
  gi : h[n + 7]? = some (.lst (iD m.g))
  sa : h[n + 8]? = some (.lst (iD m.sd))
  far : ∀ p ∈ ids, n + 9 ≤ p.1 ∧ n + 9 ≤ p.2
structure Fr (n : Nat) (h h' : PH) : Prop where
  len : h.length ≤ h'.length
  eq : ∀ i, i < n → h'[i]? = h[i]?
theorem Fr.refl {n : Nat} {h : PH} : Fr n h h := ⟨Nat.le_refl _, fun _ _ => rfl⟩
theorem Fr.trans {n : Nat} {a b c : PH} (x : Fr n a b) (y : Fr n b c) : Fr n a c := ⟨Nat.le_trans x.len y.len, fun i hi => (y.eq i hi).trans (x.eq i hi)⟩
theorem Fr.mono {n n' : Nat} {a b : PH} (x : Fr n a b) (h : n' ≤ n) : Fr n' a b := ⟨x.len, fun i hi => x.eq i (by omega)⟩
theorem Fr.set {n i : Nat} {h : PH} {o : Ob} (hi : n ≤ i) : Fr n h (h.set i o) := ⟨by simp, fun j hj => List.getElem?_set_ne (by omega)⟩
theorem Fr.app {n : Nat} {h x : PH} (hi : n ≤ h.length) : Fr n h (h ++ x) := ⟨by simp, fun j hj => List.getElem?_append_left (by omega)⟩
section
variable {n : Nat} {d : D}
@[simp] theorem gs_numbers : getD_ (stateFs n) "numbers" = some (.ref (n + 1)) := by kernel_rfl
@[simp] theorem gs_handles : getD_ (stateFs n) "handles" = some (.ref (n + 2)) := by kernel_rfl
@[simp] theorem gs_store : getD_ (stateFs n) "store" = some (.ref (n + 3)) := by kernel_rfl
@[simp] theorem gs_cells : getD_ (stateFs n) "cells" = some (.ref (n + 6)) := by kernel_rfl
@[simp] theorem gs_given : getD_ (stateFs n) "given" = some (.ref (n + 7)) := by kernel_rfl
@[simp] theorem gs_said : getD_ (stateFs n) "said" = some (.ref (n + 8)) := by kernel_rfl
@[simp] theorem gs_1 : getD_ (stateFs n) "handle_of" = none := by kernel_rfl
@[simp] theorem gs_2 : getD_ (stateFs n) "index_of" = none := by kernel_rfl
@[simp] theorem gs_3 : getD_ (stateFs n) "cell_of" = none := by kernel_rfl
@[simp] theorem gs_4 : getD_ (stateFs n) "reckon" = none := by kernel_rfl
@[simp] theorem gs_5 : getD_ (stateFs n) "lead" = none := by kernel_rfl
@[simp] theorem gs_6 : getD_ (stateFs n) "touch" = none := by kernel_rfl
@[simp] theorem gs_7 : getD_ (stateFs n) "do" = none := by kernel_rfl
@[simp] theorem nm_beginning {s : Sto} {a b : Nat} : getD_ (storeFs s a b) "beginning" = none := by kernel_rfl
end
section
variable {h : PH} {n : Nat} {ids : List (Nat × Nat)} {m : Mac} {k : Nat}
theorem StAt.ne (a : StAt h n ids m) {i : Nat} (hi : i < n + 3 ∨ (n + 6 ≤ i ∧ i < n + 9)) : i ∉ (SL.mk (n + 3) (n + 4) (n + 5) ids).all := by
  intro q
  simp only [SL.all, List.mem_cons, List.mem_flatMap] at q
  rcases q with q | q | q | ⟨p, hp, q⟩
  · omega
  · omega
  · omega
  · have := a.far p hp
    simp at q
    omega
theorem lt_of {h : PH} {i : Nat} {o : Ob} (e : h[i]? = some o) : i < h.length := (List.getElem?_eq_some_iff.mp e).1
theorem StAt.long (a : StAt h n ids m) : n + 8 < h.length := lt_of a.sa
theorem StAt.setN (a : StAt h n ids m) (xs : List Int) : StAt (h.set (n + 1) (.lst (iD xs))) n ids { m with n := xs } where
  o := by rw [List.getElem?_set_ne (by omega)]; exact a.o
  nu := by rw [List.getElem?_set_self (lt_of a.nu)]
  ha := by rw [List.getElem?_set_ne (by omega)]; exact a.ha
  st := a.st.out (a.ne (by omega)) _
  ce := by rw [List.getElem?_set_ne (by omega)]; exact a.ce
  gi := by rw [List.getElem?_set_ne (by omega)]; exact a.gi
  sa := by rw [List.getElem?_set_ne (by omega)]; exact a.sa
  far := a.far
theorem StAt.setH (a : StAt h n ids m) (xs : List (Option (Nat × Int))) : StAt (h.set (n + 2) (.lst (hsD xs))) n ids { m with h := xs } where
  o := by rw [List.getElem?_set_ne (by omega)]; exact a.o
  nu := by rw [List.getElem?_set_ne (by omega)]; exact a.nu
  ha := by rw [List.getElem?_set_self (lt_of a.ha)]
  st := a.st.out (a.ne (by omega)) _
  ce := by rw [List.getElem?_set_ne (by omega)]; exact a.ce
  gi := by rw [List.getElem?_set_ne (by omega)]; exact a.gi
  sa := by rw [List.getElem?_set_ne (by omega)]; exact a.sa
  far := a.far
theorem StAt.setC (a : StAt h n ids m) (xs : List Int) : StAt (h.set (n + 6) (.lst (iD xs))) n ids { m with c := xs } where
  o := by rw [List.getElem?_set_ne (by omega)]; exact a.o
  nu := by rw [List.getElem?_set_ne (by omega)]; exact a.nu
  ha := by rw [List.getElem?_set_ne (by omega)]; exact a.ha
  st := a.st.out (a.ne (by omega)) _
  ce := by rw [List.getElem?_set_self (lt_of a.ce)]
  gi := by rw [List.getElem?_set_ne (by omega)]; exact a.gi
  sa := by rw [List.getElem?_set_ne (by omega)]; exact a.sa
  far := a.far
theorem StAt.setG (a : StAt h n ids m) (xs : List Int) : StAt (h.set (n + 7) (.lst (iD xs))) n ids { m with g := xs } where
  o := by rw [List.getElem?_set_ne (by omega)]; exact a.o
  nu := by rw [List.getElem?_set_ne (by omega)]; exact a.nu
  ha := by rw [List.getElem?_set_ne (by omega)]; exact a.ha
  st := a.st.out (a.ne (by omega)) _
  ce := by rw [List.getElem?_set_ne (by omega)]; exact a.ce
  gi := by rw [List.getElem?_set_self (lt_of a.gi)]
  sa := by rw [List.getElem?_set_ne (by omega)]; exact a.sa
  far := a.far
theorem StAt.setS (a : StAt h n ids m) (xs : List Int) : StAt (h.set (n + 8) (.lst (iD xs))) n ids { m with sd := xs } where
  o := by rw [List.getElem?_set_ne (by omega)]; exact a.o
  nu := by rw [List.getElem?_set_ne (by omega)]; exact a.nu
  ha := by rw [List.getElem?_set_ne (by omega)]; exact a.ha
  st := a.st.out (a.ne (by omega)) _
  ce := by rw [List.getElem?_set_ne (by omega)]; exact a.ce
  gi := by rw [List.getElem?_set_ne (by omega)]; exact a.gi
  sa := by rw [List.getElem?_set_self (lt_of a.sa)]
  far := a.far
theorem StAt.frame (a : StAt h n ids m) {h' : PH} {l : Nat} (hl : l = h.length) (e : ∀ i, i < l → h'[i]? = h[i]?) : StAt h' n ids m where
  o := by rw [e _ (by rw [hl]; exact lt_of a.o)]; exact a.o
  nu := by rw [e _ (by rw [hl]; exact lt_of a.nu)]; exact a.nu
  ha := by rw [e _ (by rw [hl]; exact lt_of a.ha)]; exact a.ha
  st := a.st.frame fun i hi => e i (by rw [hl]; exact a.st.lt i hi)
  ce := by rw [e _ (by rw [hl]; exact lt_of a.ce)]; exact a.ce
  gi := by rw [e _ (by rw [hl]; exact lt_of a.gi)]; exact a.gi
  sa := by rw [e _ (by rw [hl]; exact lt_of a.sa)]; exact a.sa
  far := a.far
/-- the store changed -/
theorem StAt.sto (a : StAt h n ids m) {h' : PH} {ids' : List (Nat × Nat)} {s' : Sto} (b : SAt h' ⟨n + 3, n + 4, n + 5, ids'⟩ s') (f : ∀ i, i < n + 3 ∨ (n + 6 ≤ i ∧ i < n + 9) → h'[i]? = h[i]?) (far : ∀ p ∈ ids', n + 9 ≤ p.1 ∧ n + 9 ≤ p.2) : StAt h' n ids' { m with s := s' } where
  o := by rw [f _ (by omega)]; exact a.o
  nu := by rw [f _ (by omega)]; exact a.nu
  ha := by rw [f _ (by omega)]; exact a.ha
  st := b
  ce := by rw [f _ (by omega)]; exact a.ce
  gi := by rw [f _ (by omega)]; exact a.gi
  sa := by rw [f _ (by omega)]; exact a.sa
  far := far
theorem at_ints {xs : List Int} {i : Nat} (hi : i < xs.length) : atI (iD xs) (i : Int) = some (.int (xs.getD i 0)) := by
  rw [Sw.atI_nat]
  unfold iD
  rw [List.getElem?_map, List.getElem?_eq_getElem hi, List.getD_eq_getElem?_getD, List.getElem?_eq_getElem hi]
  rfl
theorem at_hs {xs : List (Option (Nat × Int))} {i : Nat} (hi : i < xs.length) : atI (hsD xs) (i : Int) = some (hD (xs.getD i none)) := by
  unfold hsD
  rw [Sw.atI_nat, List.getElem?_map, List.getElem?_eq_getElem hi, List.getD_eq_getElem?_getD, List.getElem?_eq_getElem hi]
  rfl
theorem Mac.ok.nu (o : m.ok k) {i : Nat} (hi : i < 6) : atI (iD m.n) (i : Int) = some (.int (m.num i)) := at_ints (by rw [o.n6]; exact hi)
theorem Mac.ok.ha (o : m.ok k) {i : Nat} (hi : i < 4) : atI (hsD m.h) (i : Int) = some (hD (m.hd i)) := at_hs (by rw [o.h4]; exact hi)
theorem set_iD {xs : List Int} {i : Nat} {x : Int} : (iD xs).set i (.int x) = iD (xs.set i x) := by
  unfold iD
  rw [List.map_set]
theorem set_hD {xs : List (Option (Nat × Int))} {i : Nat} {x : Option (Nat × Int)} : (hsD xs).set i (hD x) = hsD (xs.set i x) := by
  unfold hsD
  rw [List.map_set]
theorem hsD_len {xs : List (Option (Nat × Int))} : (hsD xs).length = xs.length := by
  unfold hsD
  rw [List.length_map]
theorem iD_len {xs : List Int} : (iD xs).length = xs.length := by
  unfold iD
  rw [List.length_map]
end
/-! ### looks at a State -/
section
variable {h : PH} {n : Nat} {ids : List (Nat × Nat)} {m : Mac} {k : Nat} {Q : D → PH → Prop} {r : Rw}
def Rw.hasH : Rw → Bool
  | .free _ => true
  | .get .. => true
  | .set .. => true
  | _ => false
theorem handle_of_ok (a : StAt h n ids m) (o : m.ok k) (hr : r.ok) (ht : r.hasH = true) : wp (f_State_handle_of [.ref n, r.d] h) Q = Q (hD (m.hd r.hOf)) h := by
  simp only [f_State_handle_of, wp_fnM]
  cases r <;> cases ht <;> simp [b_State_handle_of, Rw.d, a.o, wp_ixRef, a.ha, Rw.hOf]
  · rw [o.ha hr]
  · rw [o.ha hr.2.1]
  · rw [o.ha hr.1]
theorem index_of_ok (a : StAt h n ids m) (o : m.ok k) (hr : r.ok) (ht : r.hasH = true) (hf : ∀ h, r ≠ .free h) : wp (f_State_index_of [.ref n, r.d] h) Q = Q (.int (m.ix r)) h := by
  simp only [f_State_index_of, wp_fnM]
  cases r <;> cases ht <;> simp [b_State_index_of, Rw.d, a.o, wp_ixRef, a.nu, Mac.ix]
  · exact (hf _ rfl).elim
  · rw [o.nu hr.2.2]
  · rw [o.nu hr.2.1]
theorem placeOf_at {s : Sto} {i : Nat} {q : Rm} (e : s.rooms[i]? = some q) : s.placeOf i = q.w := by
  unfold Sto.placeOf
  rw [e]
theorem cell_of_ok (a : StAt h n ids m) (o : m.ok k) (hr : r.ok) (ht : r.hasH = true) : wp (f_State_cell_of [.ref n, r.d] h) Q = Q (.int (m.cell r)) h := by
  simp only [f_State_cell_of, wp_fnM]
  have hq : ∀ Q, wp (f_State_handle_of [.ref n, r.d] h) Q = Q (hD (m.hd r.hOf)) h := fun Q => handle_of_ok a o hr ht
  have hi : (∀ h, r ≠ .free h) → ∀ Q, wp (f_State_index_of [.ref n, r.d] h) Q = Q (.int (m.ix r)) h := fun hf Q => index_of_ok a o hr ht hf
  have e : m.cell r = (match m.hd r.hOf with
    | some (k, o) => m.s.placeOf k + o
    | none => 0) + m.ix r := rfl
  rw [e]
  cases hd : m.hd r.hOf with
  | none =>
    cases r <;> cases ht <;> simp only [Rw.d, Rw.hOf, Mac.ix] at hq hi hd ⊢ <;> simp [b_State_cell_of, wp_gMeth_, a.o, hq, hd, hD, hi]
  | some p =>
    have hp := o.hs _ _ hd
    have er : m.s.rooms[p.1]? = some m.s.rooms[p.1] := List.getElem?_eq_getElem hp
    have hp : ∀ Q, wp (f_Store_place [.ref (n + 3), .int p.1] h) Q = Q (.int m.s.rooms[p.1].w) h := fun Q => place_ok a.st er
    have ho := a.st.o
    simp only at ho
    cases r <;> cases ht <;> simp only [Rw.d, Rw.hOf, Mac.ix] at hq hi hd ⊢ <;> simp [b_State_cell_of, wp_gMeth_, a.o, hq, hd, hD, hi, ho, hp, placeOf_at er]
theorem begin_ok {L : SL} {s : Sto} (a : SAt h L s) {c : Int} : wp (f_Store_beginning [.ref L.n, .int c] h) Q = Q (natO (s.begins c)) h := by
  simp only [f_Store_beginning, wp_fnM]
  simp only [b_Store_beginning, wp_sSeq, wp_sSet, wp_gVal]
  have hf := a.few
  rw [lComp_V (xs := natD s.living) (g := gFil (s.whereAt c))]
  · have e : (natD s.living).flatMap (gFil (s.whereAt c)) = natD (s.living.filter (s.whereAt c)) := flat_filter _ _
    rw [e]
    unfold Sto.begins
    cases q : s.living.filter (s.whereAt c) with
    | nil =>
      simp [natD, natO]
      rw [show ([] : List D) = ([] : List Int).map D.int from rfl, neLI]
      simp
    | cons i r =>
      simp
      rw [natD_ints, neL0]
      simp [natO]
  · intro Q
    have : s.living.length ≤ 16777216 := Nat.le_trans living_len (by omega)
    simp [wp_gMeth_, a.o, living_ok a, natD_len, this]
  · intro x hx Q
    unfold natD at hx
    obtain ⟨i, hi, rfl⟩ := List.mem_map.mp hx
    have hl := living_lt hi
    obtain ⟨p, hp⟩ := a.ids_at hl
    have hr : s.rooms[i]? = some s.rooms[i] := List.getElem?_eq_getElem hl
    have hroom := a.rm i p _ hp hr
    have e : s.whereAt c i = decide (s.rooms[i].w = c) := by
      unfold Sto.whereAt
      rw [hr]
    simp [wipeE, a.o, wp_ixRef, a.rs, refs_at hp, hroom, e]
    by_cases h1 : s.rooms[i].w = c <;> simp [h1]
end
/-! ### rows done by a State -/
theorem wp_setI {h : PH} {a i : Nat} {xs : List D} {d : D} {Q : Unit → PH → Prop} (e : h[a]? = some (.lst xs)) (hi : i < xs.length) : wp (setIx (.ref a) (.int (i : Int)) d h) Q = Q () (h.set a (.lst (xs.set i d))) := wp_setL e (ixN_nat hi)
theorem isL {h : PH} {a : Nat} {xs : List D} (e : h[a]? = some (.lst xs)) : isLstD h (.ref a) = true := by
  unfold isLstD
  simp only [e]
theorem cut_ok {x : Int} {h : PH} {Q : D → PH → Prop} : wp (f_cut [.int x] h) Q = Q (.int (cutI x)) h := by
  simp only [f_cut, wp_fnM]
  simp [b_cut]
  have e : (if 0 - 9999 < (if x < 9999 then x else 9999) then (if x < 9999 then x else 9999) else 0 - 9999) = cutI x := by
    unfold cutI
    repeat' split
    all_goals omega
  simp at e
  rw [e]
section
variable {h : PH} {n : Nat} {ids : List (Nat × Nat)} {m : Mac} {k : Nat} {Q : D → PH → Prop}
theorem iD_pop {xs : List Int} (h : xs ≠ []) : mPopAt [] (iD xs) [.int 0] = some (.int (xs.headD 0), iD xs.tail) := by
  cases xs with
  | nil => exact (h rfl).elim
  | cons x xs =>
    unfold mPopAt iD
    have : seqIndex? 0 (xs.length + 1) = some 0 := by
      unfold seqIndex?
      simp
    simp [this]
theorem reckon_ok {r : Rw} (a : StAt h n ids m) (o : m.ok k) (kk : k < 1000) (hr : r.ok) (hk : (∃ x c, r = .put x c) ∨ (∃ x y z, r = .add x y z) ∨ (∃ x y z, r = .less x y z) ∨ (∃ x, r = .ask x) ∨ (∃ x, r = .say x))
    (q : ∀ h', StAt h' n ids (m.do r).1 → Fr n h h' → Q .non h') : wp (f_State_reckon [.ref n, r.d] h) Q := by
  simp only [f_State_reckon, wp_fnM]
  have l6 : (iD m.n).length = 6 := by rw [iD_len, o.n6]
  rcases hk with ⟨x, c, rfl⟩ | ⟨x, y, z, rfl⟩ | ⟨x, y, z, rfl⟩ | ⟨x, rfl⟩ | ⟨x, rfl⟩
  · have hx : x < (iD m.n).length := by rw [l6]; exact hr.1
    simp [b_State_reckon, Rw.d, a.o, wp_setI a.nu hx, set_iD]
    exact q _ (a.setN _) (.set (by omega))
  · have hx : x < (iD m.n).length := by rw [l6]; exact hr.1
    simp [b_State_reckon, Rw.d, a.o, wp_ixRef, a.nu, o.nu hr.2.1, o.nu hr.2.2, cut_ok, wp_setI a.nu hx, set_iD]
    exact q _ (a.setN _) (.set (by omega))
  · have hx : x < (iD m.n).length := by rw [l6]; exact hr.1
    simp [b_State_reckon, Rw.d, a.o, wp_ixRef, a.nu, o.nu hr.2.1, o.nu hr.2.2, cut_ok, wp_setI a.nu hx, set_iD]
    exact q _ (a.setN _) (.set (by omega))
  · have hx : x < (iD m.n).length := by rw [l6]; exact hr
    have e0 : ∀ Q, wp (dNe (.ref (n + 7)) (.lst []) h) Q = Q (.bl (!decide (m.g = []))) h := fun Q => by
      have e1 : dat (rfH h) (.ref (n + 7)) = some (.list (m.g.map PyData.int)) := by
        unfold dat rfH rfS
        simp only [a.gi, iD, datL_ints, Option.map_some]
      rw [wp_dNe, e1]
      have := eqvAll_ints m.g []
      have d1 := depth_ints m.g
      simp only [dat, datL, Option.map_some, PyData.eqv, PyData.depth, List.map_nil] at this ⊢
      rw [this]
      exact propext ⟨fun z => z.2, fun z => ⟨by omega, z⟩⟩
    by_cases eg : m.g = []
    · simp [b_State_reckon, Rw.d, a.o, wp_ixRef, e0, eg, wp_setI a.nu hx, set_iD]
      have := a.setN (m.n.set x 0)
      refine q _ ?_ (.set (by omega))
      show StAt _ n ids { m with n := m.n.set x (m.g.headD 0), g := m.g.tail }
      simp only [eg, List.headD_nil, List.tail_nil]
      have e2 : ({ m with n := m.n.set x 0, g := [] } : Mac) = { m with n := m.n.set x 0 } := by rw [← eg]
      rw [e2]
      exact this
    · have ep : mPopAt h (iD m.g) [.int 0] = some (.int (m.g.headD 0), iD m.g.tail) := iD_pop eg
      have a1 := a.setG m.g.tail
      have hx1 := a1.nu
      simp only at hx1
      simp [b_State_reckon, Rw.d, a.o, wp_ixRef, e0, eg, isL a.gi, a.gi, ep, a1.o, wp_setI hx1 hx, set_iD]
      have a2 := a1.setN (m.n.set x (m.g.headD 0))
      rw [List.headD_eq_head?_getD] at a2
      refine q _ ?_ ((Fr.set (by omega)).trans (.set (by omega)))
      show StAt _ n ids { m with n := m.n.set x (m.g.headD 0), g := m.g.tail }
      rw [List.headD_eq_head?_getD]
      exact a2
  · have ll : (iD m.sd).length < 16777216 := by rw [iD_len]; have := o.sd; omega
    have es : iD m.sd ++ [.int (m.num x)] = iD (m.sd ++ [m.num x]) := by simp [iD]
    simp [b_State_reckon, Rw.d, a.o, wp_ixRef, a.nu, o.nu hr, isL a.sa, a.sa, mApp, ll, es]
    exact q _ (a.setS _) (.set (by omega))
theorem lead_ok {r : Rw} (a : StAt h n ids m) (o : m.ok k) (hr : r.ok) (hk : (∃ x y z, r = .shift x y z) ∨ (∃ x y, r = .move x y))
    (q : ∀ h', StAt h' n ids (m.do r).1 → Fr n h h' → Q .non h') : wp (f_State_lead [.ref n, r.d] h) Q := by
  simp only [f_State_lead, wp_fnM]
  have l4 : (hsD m.h).length = 4 := by rw [hsD_len, o.h4]
  rcases hk with ⟨x, y, z, rfl⟩ | ⟨x, y, rfl⟩
  · have hx : x < (hsD m.h).length := by rw [l4]; exact hr.1
    cases e : m.hd y with
    | none =>
      have es : (hsD m.h).set x .non = hsD (m.h.set x none) := set_hD (x := none)
      simp [b_State_lead, Rw.d, a.o, wp_ixRef, a.ha, o.ha hr.2.1, e, hD, wp_setI a.ha hx, es]
      refine q _ ?_ (.set (by omega))
      have := a.setH (m.h.set x none)
      show StAt _ n ids { m with h := m.h.set x ((m.hd y).map fun p => (p.1, cutI (p.2 + m.num z))) }
      rw [e]
      exact this
    | some p =>
      have es : (hsD m.h).set x (.tup [.int (p.1 : Int), .int (cutI (p.2 + m.num z))]) = hsD (m.h.set x (some (p.1, cutI (p.2 + m.num z)))) := set_hD (x := some (p.1, cutI (p.2 + m.num z)))
      simp [b_State_lead, Rw.d, a.o, wp_ixRef, a.ha, o.ha hr.2.1, a.nu, o.nu hr.2.2, e, hD, cut_ok, wp_setI a.ha hx, es]
      refine q _ ?_ (.set (by omega))
      have := a.setH (m.h.set x (some (p.1, cutI (p.2 + m.num z))))
      show StAt _ n ids { m with h := m.h.set x ((m.hd y).map fun p => (p.1, cutI (p.2 + m.num z))) }
      rw [e]
      exact this
  · have hx : x < (hsD m.h).length := by rw [l4]; exact hr.1
    have es : (hsD m.h).set x (hD (m.hd y)) = hsD (m.h.set x (m.hd y)) := set_hD
    have ef : (if (!isNonD (hD (m.hd y))) = true then False else True) ∨ True := .inr trivial
    cases e : isNonD (hD (m.hd y)) <;> simp [b_State_lead, Rw.d, a.o, wp_ixRef, a.ha, o.ha hr.2, e, wp_setI a.ha hx, es] <;> exact q _ (a.setH _) (.set (by omega))
def wD (w : Str) : D := if w = "" then .non else .str w
theorem touch_room {x y : Nat} (a : StAt h n ids m) (o : m.ok k) (kk : k < 1000) (hr : (Rw.room x y).ok)
    (q : ∀ h' ids', StAt h' n ids' (m.do (Rw.room x y)).1 → Fr n h h' → Q (wD (m.do (Rw.room x y)).2) h') : wp (f_State_touch [.ref n, (Rw.room x y).d] h) Q := by
  simp only [f_State_touch, wp_fnM]
  have l6 : (iD m.n).length = 6 := by rw [iD_len, o.n6]
  have l4 : (hsD m.h).length = 4 := by rw [hsD_len, o.h4]
  have few := o.few
  have hx : x < (hsD m.h).length := by rw [l4]; exact hr.1
  have ez : (if 1 < (if m.num y < 8 then m.num y else 8) then (if m.num y < 8 then m.num y else 8) else 1) = clampZ (m.num y) := by
    unfold clampZ
    repeat' split
    all_goals omega
  have cz := clampZ_in (m.num y)
  have ed : m.do (.room x y) = (match m.s.spot (clampZ (m.num y)) with
    | none => (m, ("full" : Str))
    | some b => ({ m with s := m.s.add ⟨b + m.s.gap, clampZ (m.num y), "living", []⟩, h := m.h.set x (some (m.s.rooms.length, 0)) }, "")) := rfl
  simp [b_State_touch, Rw.d, wp_gMeth_, a.o, wp_ixRef, a.nu, o.nu hr.2, a.st.o, ez]
  refine room_ok a.st o.inv.i0.ok cz.1 cz.2 (by omega) (fun h1 => ?_) (fun b h1 h2 h3 h' b1 f1 f2 => ?_)
  · have es := spot_no h1
    rw [es] at ed
    simp
    have := q h ids (by rw [ed]; exact a) .refl
    rw [ed] at this
    simpa [wD] using this
  · have es := spot_of h1 h2 h3
    rw [es] at ed
    have a1 : StAt h' n (ids ++ [(h.length, h.length + 1)]) { m with s := m.s.add ⟨b + m.s.gap, clampZ (m.num y), "living", []⟩ } := by
      refine a.sto b1 (fun i hi => f1 i ?_ ?_) fun p hp => ?_
      · have := a.long; omega
      · show i ≠ n + 4
        omega
      · rcases List.mem_append.mp hp with hp | hp
        · exact a.far p hp
        · rw [List.mem_singleton.mp hp]
          have := a.long
          exact ⟨by show n + 9 ≤ h.length; omega, by show n + 9 ≤ h.length + 1; omega⟩
    have es2 : (hsD m.h).set x (.tup [.int (m.s.rooms.length : Int), .int 0]) = hsD (m.h.set x (some (m.s.rooms.length, 0))) := set_hD (x := some (m.s.rooms.length, 0))
    have ha1 := a1.ha
    simp only at ha1
    simp [a1.o, wp_setI ha1 hx, es2]
    have a2 := a1.setH (m.h.set x (some (m.s.rooms.length, 0)))
    have := q _ _ (by rw [ed]; exact a2) ((Fr.mk (by omega) fun i hi => f1 i (by have := a.long; omega) (by show i ≠ n + 4; omega)).trans (.set (by omega)))
    rw [ed] at this
    simpa [wD] using this
theorem touch_free {x : Nat} (a : StAt h n ids m) (o : m.ok k) (kk : k < 1000) (hr : (Rw.free x).ok)
    (q : ∀ h' ids', StAt h' n ids' (m.do (Rw.free x)).1 → Fr n h h' → Q (wD (m.do (Rw.free x)).2) h') : wp (f_State_touch [.ref n, (Rw.free x).d] h) Q := by
  simp only [f_State_touch, wp_fnM]
  have l6 : (iD m.n).length = 6 := by rw [iD_len, o.n6]
  have l4 : (hsD m.h).length = 4 := by rw [hsD_len, o.h4]
  have few := o.few
  have ht : (Rw.free x).hasH = true := rfl
  have hc : ∀ Q, wp (f_State_cell_of [.ref n, (Rw.free x).d] h) Q = Q (.int (m.cell (.free x))) h := fun Q => cell_of_ok (r := (Rw.free x)) a o hr ht
  simp only [Rw.d] at hc ⊢
  have hb : ∀ Q, wp (f_Store_beginning [.ref (n + 3), .int (m.cell (.free x))] h) Q = Q (natO (m.s.begins (m.cell (.free x)))) h := fun Q => begin_ok a.st
  have ed : m.do (.free x) = (match m.s.begins (m.cell (.free x)) with
    | none => (m, ("" : Str))
    | some i => ({ m with s := m.s.free i }, "")) := rfl
  simp [b_State_touch, wp_gMeth_, a.o, hc, a.st.o, hb]
  cases e : m.s.begins (m.cell (.free x)) with
  | none =>
    rw [e] at ed
    simp [natO]
    have := q h ids (by rw [ed]; exact a) .refl
    rw [ed] at this
    simpa [wD] using this
  | some i =>
    rw [e] at ed
    obtain ⟨r, r1, r2⟩ := living_st (begins_mem e).1
    simp [natO, a.st.o]
    have nd : m.s.waiting.length ≤ m.s.rooms.length := by
      have h1 : m.s.waiting ⊆ List.range m.s.rooms.length := fun j hj => List.mem_range.mpr (o.inv.i0.wl j hj)
      have := (List.nodup_range (n := m.s.rooms.length))
      have h2 := List.Nodup.length_le_of_subset o.inv.i0.nd h1
      simpa using h2
    refine free_ok a.st r1 r2 o.inv.i0.wl (by omega) o.inv.i0.ok.2.2.2.2.1 fun h' b1 f1 f2 => ?_
    have a1 : StAt h' n ids { m with s := m.s.free i } := a.sto b1 (fun j hj => f1 j (a.ne hj)) a.far
    have := q h' ids (by rw [ed]; exact a1) ⟨by omega, fun j hj => f1 j (a.ne (by omega))⟩
    rw [ed] at this
    simpa [wD] using this
theorem touch_get {x y z : Nat} (a : StAt h n ids m) (o : m.ok k) (kk : k < 1000) (hr : (Rw.get x y z).ok)
    (q : ∀ h' ids', StAt h' n ids' (m.do (Rw.get x y z)).1 → Fr n h h' → Q (wD (m.do (Rw.get x y z)).2) h') : wp (f_State_touch [.ref n, (Rw.get x y z).d] h) Q := by
  simp only [f_State_touch, wp_fnM]
  have l6 : (iD m.n).length = 6 := by rw [iD_len, o.n6]
  have l4 : (hsD m.h).length = 4 := by rw [hsD_len, o.h4]
  have few := o.few
  have ht : (Rw.get x y z).hasH = true := rfl
  have hx : x < (iD m.n).length := by rw [l6]; exact hr.1
  have hc : ∀ Q, wp (f_State_cell_of [.ref n, (Rw.get x y z).d] h) Q = Q (.int (m.cell (.get x y z))) h := fun Q => cell_of_ok (r := (Rw.get x y z)) a o hr ht
  simp only [Rw.d] at hc ⊢
  have ed : m.do (.get x y z) = (if 0 ≤ m.cell (.get x y z) ∧ m.cell (.get x y z) < (m.c.length : Int) then ({ m with n := m.n.set x (m.c.getD (m.cell (.get x y z)).toNat 0) }, ("" : Str)) else (m, "fell")) := rfl
  simp [b_State_touch, wp_gMeth_, a.o, hc, wp_lenRef, a.ce, iD_len]
  by_cases c0 : 0 ≤ m.cell (.get x y z)
  · by_cases c1 : m.cell (.get x y z) < (m.c.length : Int)
    · rw [if_pos ⟨c0, c1⟩] at ed
      have c1' : ¬ (m.c.length : Int) ≤ m.cell (.get x y z) := by omega
      have e1 : atI (iD m.c) (m.cell (.get x y z)) = some (.int (m.c.getD (m.cell (.get x y z)).toNat 0)) := by
        have := at_ints (xs := m.c) (i := (m.cell (.get x y z)).toNat) (by omega)
        rwa [Int.toNat_of_nonneg c0] at this
      simp [c0, c1, c1', a.o, wp_ixRef, a.ce, e1, wp_setI a.nu hx, set_iD]
      have := q _ ids (by rw [ed]; exact a.setN _) (.set (by omega))
      rw [ed] at this
      have hk : (m.cell (.get x y z)).toNat < m.c.length := by omega
      have e2 : m.c[(m.cell (.get x y z)).toNat]?.getD 0 = m.c[(m.cell (.get x y z)).toNat] := by
        rw [List.getElem?_eq_getElem hk]
        rfl
      simpa [wD, e2] using this
    · rw [if_neg (fun z => c1 z.2)] at ed
      have c1' : (m.c.length : Int) ≤ m.cell (.get x y z) := by omega
      simp [c0, c1, c1']
      have := q h ids (by rw [ed]; exact a) .refl
      rw [ed] at this
      simpa [wD] using this
  · rw [if_neg (fun z => c0 z.1)] at ed
    simp [c0]
    have := q h ids (by rw [ed]; exact a) .refl
    rw [ed] at this
    simpa [wD] using this
theorem touch_set {y z x : Nat} (a : StAt h n ids m) (o : m.ok k) (kk : k < 1000) (hr : (Rw.set y z x).ok)
    (q : ∀ h' ids', StAt h' n ids' (m.do (Rw.set y z x)).1 → Fr n h h' → Q (wD (m.do (Rw.set y z x)).2) h') : wp (f_State_touch [.ref n, (Rw.set y z x).d] h) Q := by
  simp only [f_State_touch, wp_fnM]
  have l6 : (iD m.n).length = 6 := by rw [iD_len, o.n6]
  have l4 : (hsD m.h).length = 4 := by rw [hsD_len, o.h4]
  have few := o.few
  have ht : (Rw.set y z x).hasH = true := rfl
  have hc : ∀ Q, wp (f_State_cell_of [.ref n, (Rw.set y z x).d] h) Q = Q (.int (m.cell (.set y z x))) h := fun Q => cell_of_ok (r := (Rw.set y z x)) a o hr ht
  simp only [Rw.d] at hc ⊢
  have ed : m.do (.set y z x) = (if 0 ≤ m.cell (.set y z x) ∧ m.cell (.set y z x) < (m.c.length : Int) then ({ m with c := m.c.set (m.cell (.set y z x)).toNat (m.num x), s := m.s.write (m.cell (.set y z x)) }, ("" : Str)) else (m, "fell")) := rfl
  simp [b_State_touch, wp_gMeth_, a.o, hc, wp_lenRef, a.ce, iD_len]
  by_cases c0 : 0 ≤ m.cell (.set y z x)
  · by_cases c1 : m.cell (.set y z x) < (m.c.length : Int)
    · rw [if_pos ⟨c0, c1⟩] at ed
      have c1' : ¬ (m.c.length : Int) ≤ m.cell (.set y z x) := by omega
      have e1 : ∀ (Q : Unit → PH → Prop), wp (setIx (.ref (n + 6)) (.int (m.cell (.set y z x))) (.int (m.num x)) h) Q = Q () (h.set (n + 6) (.lst (iD (m.c.set (m.cell (.set y z x)).toNat (m.num x))))) := fun Q => by
        have := wp_setI (d := .int (m.num x)) (Q := Q) (i := (m.cell (.set y z x)).toNat) a.ce (by rw [iD_len]; omega)
        rw [Int.toNat_of_nonneg c0, set_iD] at this
        exact this
      have a1 := a.setC (m.c.set (m.cell (.set y z x)).toNat (m.num x))
      simp [c0, c1, c1', a.o, wp_ixRef, a.nu, o.nu hr.2.2, e1, a1.o, a1.st.o]
      refine write_ok a1.st (fun r hr => ?_) fun h' b1 f1 f2 => ?_
      · have := o.kn r hr
        omega
      · have a2 : StAt h' n ids { m with c := m.c.set (m.cell (.set y z x)).toNat (m.num x), s := m.s.write (m.cell (.set y z x)) } := a1.sto b1 (fun j hj => f1 j (a.ne hj)) a.far
        have := q h' ids (by rw [ed]; exact a2) ((Fr.set (by omega)).trans ⟨by omega, fun j hj => f1 j (a.ne (by omega))⟩)
        rw [ed] at this
        simpa [wD] using this
    · rw [if_neg (fun z => c1 z.2)] at ed
      have c1' : (m.c.length : Int) ≤ m.cell (.set y z x) := by omega
      simp [c0, c1, c1']
      have := q h ids (by rw [ed]; exact a) .refl
      rw [ed] at this
      simpa [wD] using this
  · rw [if_neg (fun z => c0 z.1)] at ed
    simp [c0]
    have := q h ids (by rw [ed]; exact a) .refl
    rw [ed] at this
    simpa [wD] using this
theorem touch_ok {r : Rw} (a : StAt h n ids m) (o : m.ok k) (kk : k < 1000) (hr : r.ok) (hk : r.isT = true)
    (q : ∀ h' ids', StAt h' n ids' (m.do r).1 → Fr n h h' → Q (wD (m.do r).2) h') : wp (f_State_touch [.ref n, r.d] h) Q := by
  cases r <;> cases hk
  · exact touch_room a o kk hr q
  · exact touch_free a o kk hr q
  · exact touch_get a o kk hr q
  · exact touch_set a o kk hr q
theorem do_ok {r : Rw} (a : StAt h n ids m) (o : m.ok k) (kk : k < 1000) (hr : r.ok) (hc : r ≠ .chk)
    (q : ∀ h' ids', StAt h' n ids' (m.do r).1 → Fr n h h' → Q (wD (m.do r).2) h') : wp (f_State_do [.ref n, r.d] h) Q := by
  simp only [f_State_do, wp_fnM]
  have q0 : (m.do r).2 = "" → ∀ h', StAt h' n ids (m.do r).1 → Fr n h h' → Q .non h' := fun e h' b f => by
    have := q h' ids b f
    rw [e] at this
    simpa [wD] using this
  cases r with
  | put x c =>
    have := reckon_ok (Q := fun _ h => Q .non h) (r := .put x c) a o kk hr (.inl ⟨_, _, rfl⟩) (q0 rfl)
    simp only [Rw.d] at this ⊢
    simp [b_State_do, a.o]
    exact wp_mono this fun d h z => by simpa using z
  | add x y z =>
    have := reckon_ok (Q := fun _ h => Q .non h) (r := .add x y z) a o kk hr (.inr (.inl ⟨_, _, _, rfl⟩)) (q0 rfl)
    simp only [Rw.d] at this ⊢
    simp [b_State_do, a.o]
    exact wp_mono this fun d h z => by simpa using z
  | less x y z =>
    have := reckon_ok (Q := fun _ h => Q .non h) (r := .less x y z) a o kk hr (.inr (.inr (.inl ⟨_, _, _, rfl⟩))) (q0 rfl)
    simp only [Rw.d] at this ⊢
    simp [b_State_do, a.o]
    exact wp_mono this fun d h z => by simpa using z
  | ask x =>
    have := reckon_ok (Q := fun _ h => Q .non h) (r := .ask x) a o kk hr (.inr (.inr (.inr (.inl ⟨_, rfl⟩)))) (q0 rfl)
    simp only [Rw.d] at this ⊢
    simp [b_State_do, a.o]
    exact wp_mono this fun d h z => by simpa using z
  | say x =>
    have := reckon_ok (Q := fun _ h => Q .non h) (r := .say x) a o kk hr (.inr (.inr (.inr (.inr ⟨_, rfl⟩)))) (q0 rfl)
    simp only [Rw.d] at this ⊢
    simp [b_State_do, a.o]
    exact wp_mono this fun d h z => by simpa using z
  | shift x y z =>
    have := lead_ok (Q := fun _ h => Q .non h) (r := .shift x y z) a o hr (.inl ⟨_, _, _, rfl⟩) (q0 rfl)
    simp only [Rw.d] at this ⊢
    simp [b_State_do, a.o]
    exact wp_mono this fun d h z => by simpa using z
  | move x y =>
    have := lead_ok (Q := fun _ h => Q .non h) (r := .move x y) a o hr (.inr ⟨_, _, rfl⟩) (q0 rfl)
    simp only [Rw.d] at this ⊢
    simp [b_State_do, a.o]
    exact wp_mono this fun d h z => by simpa using z
  | room x y =>
    have := touch_ok (r := .room x y) a o kk hr rfl q
    simp only [Rw.d] at this ⊢
    simp [b_State_do, a.o]
    exact wp_mono this fun d h z => by simpa using z
  | free x =>
    have := touch_ok (r := .free x) a o kk hr rfl q
    simp only [Rw.d] at this ⊢
    simp [b_State_do, a.o]
    exact wp_mono this fun d h z => by simpa using z
  | get x y z =>
    have := touch_ok (r := .get x y z) a o kk hr rfl q
    simp only [Rw.d] at this ⊢
    simp [b_State_do, a.o]
    exact wp_mono this fun d h z => by simpa using z
  | set x y z =>
    have := touch_ok (r := .set x y z) a o kk hr rfl q
    simp only [Rw.d] at this ⊢
    simp [b_State_do, a.o]
    exact wp_mono this fun d h z => by simpa using z
  | chk => exact (hc rfl).elim
end
/-! ### how checks look -/
inductive Way where
  | bounds
  | marks
  | tags (b : Nat)
def Way.d : Way → D
  | .bounds => .str "bounds"
  | .marks => .str "marks"
  | .tags b => .tup [.str "tags", .int b]
def Way.ok : Way → Prop
  | .tags b => 1 ≤ b ∧ b ≤ 4
  | _ => True
def oD : Option Str → D
  | some s => .str s
  | none => .non
@[simp] theorem isNon_oD {o : Option Str} : isNonD (oD o) = o.isNone := by cases o <;> rfl
def Rw.isFree : Rw → Bool
  | .free _ => true
  | _ => false
def Rw.isGet : Rw → Bool
  | .get .. => true
  | _ => false
def Mac.wide1 (m : Mac) (n : Nat) : Option Str := if 1 ≤ m.num n ∧ m.num n ≤ 8 then none else some "wide"
def Mac.bad1 (m : Mac) (r : Rw) (p : Nat × Int) : Option Str :=
  if m.s.isLiving p.1 = true then
    if r.isFree = true then (if p.2 = 0 then none else some "inside")
    else if 0 ≤ p.2 + m.ix r ∧ p.2 + m.ix r < m.s.wideAt p.1 then (if r.isGet = true ∧ m.s.mark (m.cell r) ≠ "set" then some "fresh" else none) else some "beyond"
  else some (if r.isFree = true then "twice" else "late")
def Mac.lookB (m : Mac) (r : Rw) : Option Str := match r with
  | .room _ n => m.wide1 n
  | _ => (match m.hd r.hOf with
    | none => some "none"
    | some p => m.bad1 r p)
def Mac.lookM (m : Mac) (r : Rw) : Option Str := match r with
  | .room _ n => m.wide1 n
  | .free _ => if (m.s.begins (m.cell r)).isSome = true then none else some (if m.s.mark (m.cell r) = "set" ∨ m.s.mark (m.cell r) = "fresh" then "inside" else m.s.mark (m.cell r))
  | _ => if m.s.mark (m.cell r) = "set" ∨ (m.s.mark (m.cell r) = "fresh" ∧ r.isGet = false) then none else some (m.s.mark (m.cell r))
def tag1 (p k : Nat) (b : Nat) : Bool := decide (((k : Int) - (p : Int)) % (2 ^ b : Nat) = 0)
def tagIt (p : Option (Nat × Int)) (k : Option Nat) (fr : Bool) (b : Nat) : Option Str := match p, k with
  | some p, some k => if tag1 p.1 k b = true then (if fr = true then none else some "tag") else some "tag"
  | _, _ => some "tag"
def Mac.lookT (m : Mac) (r : Rw) (b : Nat) : Option Str := match r with
  | .room _ n => m.wide1 n
  | .free x => tagIt (m.hd x) (m.s.begins (m.cell (.free x))) true b
  | .get x y z => tagIt (m.hd y) (m.s.owner (m.cell (.get x y z))) (decide (m.s.mark (m.cell (.get x y z)) = "set")) b
  | .set x y z => tagIt (m.hd x) (m.s.owner (m.cell (.set x y z))) true b
  | _ => none
def Mac.look (m : Mac) (r : Rw) : Way → Option Str
  | .bounds => m.lookB r
  | .marks => m.lookM r
  | .tags b => m.lookT r b
section
variable {h : PH} {n : Nat} {ids : List (Nat × Nat)} {m : Mac} {k : Nat} {Q : D → PH → Prop} {r : Rw}
theorem by_bounds_room {x y : Nat} (a : StAt h n ids m) (o : m.ok k) (hr : (Rw.room x y).ok) : wp (f_by_bounds [.ref n, .tup [.str "room", .int x, .int y]] h) Q = Q (oD (m.wide1 y)) h := by
  simp only [f_by_bounds, wp_fnM]
  simp [b_by_bounds, a.o, wp_ixRef, a.nu, o.nu hr.2]
  unfold Mac.wide1
  by_cases h1 : 1 ≤ m.num y
  · by_cases h2 : m.num y ≤ 8 <;> simp [h1, h2, oD]
  · simp [h1, oD]
theorem isLiving_at {s : Sto} {i : Nat} {q : Rm} (e : s.rooms[i]? = some q) : s.isLiving i = decide (q.st = "living") := by
  unfold Sto.isLiving
  rw [e]
theorem wideAt_at {s : Sto} {i : Nat} {q : Rm} (e : s.rooms[i]? = some q) : s.wideAt i = q.z := by
  unfold Sto.wideAt
  rw [e]
theorem by_bounds_h (a : StAt h n ids m) (o : m.ok k) (hr : r.ok) (ht : r.hasH = true) : wp (f_by_bounds [.ref n, r.d] h) Q = Q (oD (m.lookB r)) h := by
  have hq : ∀ Q, wp (f_State_handle_of [.ref n, r.d] h) Q = Q (hD (m.hd r.hOf)) h := fun Q => handle_of_ok a o hr ht
  have hi : (∀ h, r ≠ .free h) → ∀ Q, wp (f_State_index_of [.ref n, r.d] h) Q = Q (.int (m.ix r)) h := fun hf Q => index_of_ok a o hr ht hf
  have hc : ∀ Q, wp (f_State_cell_of [.ref n, r.d] h) Q = Q (.int (m.cell r)) h := fun Q => cell_of_ok a o hr ht
  have hm : ∀ c Q, wp (f_Store_mark [.ref (n + 3), .int c] h) Q = Q (.str (m.s.mark c)) h := fun c Q => mark_ok a.st
  have ho := a.st.o
  simp only at ho
  have e : m.lookB r = (match m.hd r.hOf with
    | none => some ("none" : Str)
    | some p => m.bad1 r p) := by cases r <;> first | rfl | cases ht
  rw [e]
  cases hd : m.hd r.hOf with
  | none =>
    simp only [f_by_bounds, wp_fnM]
    cases r <;> cases ht <;> simp only [Rw.d, Rw.hOf, Mac.ix] at hq hi hd hc ⊢ <;> simp [b_by_bounds, wp_gMeth_, a.o, hq, hd, hD, oD]
  | some p =>
    have hp := o.hs _ _ hd
    have er : m.s.rooms[p.1]? = some m.s.rooms[p.1] := List.getElem?_eq_getElem hp
    have hl : ∀ Q, wp (f_Store_is_living [.ref (n + 3), .int p.1] h) Q = Q (.bl (m.s.isLiving p.1)) h := fun Q => by
      rw [isLiving_at er]
      exact is_living_ok a.st er
    have hs : ∀ Q, wp (f_Store_size [.ref (n + 3), .int p.1] h) Q = Q (.int (m.s.wideAt p.1)) h := fun Q => by
      rw [wideAt_at er]
      exact size_ok a.st er
    simp only []
    by_cases h1 : m.s.isLiving p.1 = true
    · cases r <;> cases ht
      · simp only [f_by_bounds, wp_fnM]
        simp only [Rw.d, Rw.hOf, Mac.ix, Mac.bad1, Rw.isFree, Rw.isGet] at hq hi hd hc ⊢
        by_cases h2 : p.2 = 0 <;> simp [b_by_bounds, wp_gMeth_, a.o, hq, hd, hD, hl, h1, h2, ho, oD]
      · simp only [f_by_bounds, wp_fnM]
        simp only [Rw.d, Rw.hOf, Mac.ix, Mac.bad1, Rw.isFree, Rw.isGet] at hq hi hd hc ⊢
        rename_i x y z
        by_cases h2 : 0 ≤ p.2 + m.num z
        · by_cases h3 : p.2 + m.num z < m.s.wideAt p.1
          · by_cases h4 : m.s.mark (m.cell (.get x y z)) = "set" <;> simp [b_by_bounds, wp_gMeth_, a.o, hq, hd, hD, hl, h1, h2, h3, h4, hi, hs, hc, hm, ho, oD]
          · simp [b_by_bounds, wp_gMeth_, a.o, hq, hd, hD, hl, h1, h2, h3, hi, hs, ho, oD]
        · simp [b_by_bounds, wp_gMeth_, a.o, hq, hd, hD, hl, h1, h2, hi, hs, ho, oD]
      · simp only [f_by_bounds, wp_fnM]
        simp only [Rw.d, Rw.hOf, Mac.ix, Mac.bad1, Rw.isFree, Rw.isGet] at hq hi hd hc ⊢
        rename_i x y z
        by_cases h2 : 0 ≤ p.2 + m.num y
        · by_cases h3 : p.2 + m.num y < m.s.wideAt p.1 <;> simp [b_by_bounds, wp_gMeth_, a.o, hq, hd, hD, hl, h1, h2, h3, hi, hs, ho, oD]
        · simp [b_by_bounds, wp_gMeth_, a.o, hq, hd, hD, hl, h1, h2, hi, hs, ho, oD]
    · simp only [f_by_bounds, wp_fnM]
      cases r <;> cases ht <;> simp only [Rw.d, Rw.hOf, Mac.ix, Mac.bad1, Rw.isFree] at hq hi hd hc ⊢ <;> simp [b_by_bounds, wp_gMeth_, a.o, hq, hd, hD, hl, h1, ho, oD]
theorem isNon_natO {o : Option Nat} : isNonD (natO o) = o.isNone := by cases o <;> rfl
theorem by_bounds_ok (a : StAt h n ids m) (o : m.ok k) (hr : r.ok) (ht : r.isT = true) : wp (f_by_bounds [.ref n, r.d] h) Q = Q (oD (m.lookB r)) h := by
  cases r <;> cases ht
  · have := by_bounds_room (Q := Q) a o hr
    exact this
  · exact by_bounds_h a o hr rfl
  · exact by_bounds_h a o hr rfl
  · exact by_bounds_h a o hr rfl
theorem by_marks_ok (a : StAt h n ids m) (o : m.ok k) (hr : r.ok) (ht : r.isT = true) : wp (f_by_marks [.ref n, r.d] h) Q = Q (oD (m.lookM r)) h := by
  have hm : ∀ c Q, wp (f_Store_mark [.ref (n + 3), .int c] h) Q = Q (.str (m.s.mark c)) h := fun c Q => mark_ok a.st
  have hb : ∀ c Q, wp (f_Store_beginning [.ref (n + 3), .int c] h) Q = Q (natO (m.s.begins c)) h := fun c Q => begin_ok a.st
  have ho := a.st.o
  simp only at ho
  cases r <;> cases ht
  · simp only [f_by_marks, wp_fnM]
    have := fun Q => by_bounds_room (Q := Q) a o hr
    simp [b_by_marks, Rw.d, this, Mac.lookM]
  · rename_i x
    have hc : ∀ Q, wp (f_State_cell_of [.ref n, (Rw.free x).d] h) Q = Q (.int (m.cell (.free x))) h := fun Q => cell_of_ok (r := .free x) a o hr rfl
    simp only [f_by_marks, wp_fnM]
    simp only [Rw.d, Mac.lookM] at hc ⊢
    cases e : m.s.begins (m.cell (.free x)) with
    | some i => simp [b_by_marks, wp_gMeth_, a.o, hc, hm, hb, e, ho, natO, oD]
    | none =>
      by_cases h1 : m.s.mark (m.cell (.free x)) = "set"
      · simp [b_by_marks, wp_gMeth_, a.o, hc, hm, hb, e, ho, natO, oD, h1]
      · by_cases h2 : m.s.mark (m.cell (.free x)) = "fresh" <;> simp [b_by_marks, wp_gMeth_, a.o, hc, hm, hb, e, ho, natO, oD, h1, h2]
  · rename_i x y z
    have hc : ∀ Q, wp (f_State_cell_of [.ref n, (Rw.get x y z).d] h) Q = Q (.int (m.cell (.get x y z))) h := fun Q => cell_of_ok (r := .get x y z) a o hr rfl
    simp only [f_by_marks, wp_fnM]
    simp only [Rw.d, Mac.lookM, Rw.isGet] at hc ⊢
    by_cases h1 : m.s.mark (m.cell (.get x y z)) = "set"
    · simp [b_by_marks, wp_gMeth_, a.o, hc, hm, ho, oD, h1]
    · by_cases h2 : m.s.mark (m.cell (.get x y z)) = "fresh" <;> simp [b_by_marks, wp_gMeth_, a.o, hc, hm, ho, oD, h1, h2]
  · rename_i x y z
    have hc : ∀ Q, wp (f_State_cell_of [.ref n, (Rw.set x y z).d] h) Q = Q (.int (m.cell (.set x y z))) h := fun Q => cell_of_ok (r := .set x y z) a o hr rfl
    simp only [f_by_marks, wp_fnM]
    simp only [Rw.d, Mac.lookM, Rw.isGet] at hc ⊢
    by_cases h1 : m.s.mark (m.cell (.set x y z)) = "set"
    · simp [b_by_marks, wp_gMeth_, a.o, hc, hm, ho, oD, h1]
    · by_cases h2 : m.s.mark (m.cell (.set x y z)) = "fresh" <;> simp [b_by_marks, wp_gMeth_, a.o, hc, hm, ho, oD, h1, h2]
theorem counts_at {b : Nat} (h1 : 1 ≤ b ∧ b ≤ 4) : atI [D.int 1, D.int 2, D.int 4, D.int 8, D.int 16] (b : Int) = some (D.int ((2 ^ b : Nat) : Int)) := by
  have : b = 1 ∨ b = 2 ∨ b = 3 ∨ b = 4 := by omega
  rcases this with rfl | rfl | rfl | rfl <;> rfl
theorem two_pos (b : Nat) : (0 : Int) < ((2 ^ b : Nat) : Int) := by
  have : 0 < 2 ^ b := Nat.pos_of_ne_zero (by simp)
  omega
theorem by_tags_ok {b : Nat} (a : StAt h n ids m) (o : m.ok k) (hr : r.ok) (ht : r.isT = true) (hb4 : 1 ≤ b ∧ b ≤ 4) : wp (f_by_tags [.ref n, r.d, .int b] h) Q = Q (oD (m.lookT r b)) h := by
  have hm : ∀ c Q, wp (f_Store_mark [.ref (n + 3), .int c] h) Q = Q (.str (m.s.mark c)) h := fun c Q => mark_ok a.st
  have hb : ∀ c Q, wp (f_Store_beginning [.ref (n + 3), .int c] h) Q = Q (natO (m.s.begins c)) h := fun c Q => begin_ok a.st
  have hw : ∀ c Q, wp (f_Store_owner [.ref (n + 3), .int c] h) Q = Q (natO (m.s.owner c)) h := fun c Q => owner_ok a.st
  have ho := a.st.o
  simp only at ho
  have ec := counts_at hb4
  have ep := two_pos b
  cases r <;> cases ht
  · simp only [f_by_tags, wp_fnM]
    have := fun Q => by_bounds_room (Q := Q) a o hr
    simp [b_by_tags, Rw.d, this, Mac.lookT]
  · rename_i x
    have hc : ∀ Q, wp (f_State_cell_of [.ref n, (Rw.free x).d] h) Q = Q (.int (m.cell (.free x))) h := fun Q => cell_of_ok (r := .free x) a o hr rfl
    have hq : ∀ Q, wp (f_State_handle_of [.ref n, (Rw.free x).d] h) Q = Q (hD (m.hd x)) h := fun Q => handle_of_ok (r := .free x) a o hr rfl
    simp only [f_by_tags, wp_fnM]
    simp only [Rw.d, Mac.lookT] at hc hq ⊢
    cases e1 : m.hd x with
    | none => cases e2 : m.s.begins (m.cell (.free x)) <;> simp [b_by_tags, wp_gMeth_, a.o, hc, hq, hb, e1, e2, hD, natO, ho, oD, tagIt]
    | some p =>
      cases e2 : m.s.begins (m.cell (.free x)) with
      | none => simp [b_by_tags, wp_gMeth_, a.o, hc, hq, hb, e1, e2, hD, natO, ho, oD, tagIt]
      | some i =>
        by_cases h1 : ((i : Int) - (p.1 : Int)) % ((2 ^ b : Nat) : Int) = 0
        · have h1' : tag1 p.1 i b = true := decide_eq_true h1
          push_cast at h1 ep
          simp [b_by_tags, wp_gMeth_, a.o, hc, hq, hb, e1, e2, hD, natO, ho, oD, ec, tagIt, h1', h1, ep]
        · have h1' : tag1 p.1 i b = false := decide_eq_false h1
          push_cast at h1 ep
          simp [b_by_tags, wp_gMeth_, a.o, hc, hq, hb, e1, e2, hD, natO, ho, oD, ec, tagIt, h1', h1, ep]
  · rename_i x y z
    have hc : ∀ Q, wp (f_State_cell_of [.ref n, (Rw.get x y z).d] h) Q = Q (.int (m.cell (.get x y z))) h := fun Q => cell_of_ok (r := .get x y z) a o hr rfl
    have hq : ∀ Q, wp (f_State_handle_of [.ref n, (Rw.get x y z).d] h) Q = Q (hD (m.hd y)) h := fun Q => handle_of_ok (r := .get x y z) a o hr rfl
    simp only [f_by_tags, wp_fnM]
    simp only [Rw.d, Mac.lookT] at hc hq ⊢
    cases e1 : m.hd y with
    | none => cases e2 : m.s.owner (m.cell (.get x y z)) <;> simp [b_by_tags, wp_gMeth_, a.o, hc, hq, hw, e1, e2, hD, natO, ho, oD, tagIt]
    | some p =>
      cases e2 : m.s.owner (m.cell (.get x y z)) with
      | none => simp [b_by_tags, wp_gMeth_, a.o, hc, hq, hw, e1, e2, hD, natO, ho, oD, tagIt]
      | some i =>
        by_cases h1 : ((i : Int) - (p.1 : Int)) % ((2 ^ b : Nat) : Int) = 0
        · have h1' : tag1 p.1 i b = true := decide_eq_true h1
          push_cast at h1 ep
          by_cases h4 : m.s.mark (m.cell (.get x y z)) = "set"
          · simp [b_by_tags, wp_gMeth_, a.o, hc, hq, hw, hm, e1, e2, hD, natO, ho, oD, ec, tagIt, h1', h1, ep, h4]
          · simp [b_by_tags, wp_gMeth_, a.o, hc, hq, hw, hm, e1, e2, hD, natO, ho, oD, ec, tagIt, h1', h1, ep, h4]
        · have h1' : tag1 p.1 i b = false := decide_eq_false h1
          push_cast at h1 ep
          simp [b_by_tags, wp_gMeth_, a.o, hc, hq, hw, e1, e2, hD, natO, ho, oD, ec, tagIt, h1', h1, ep]
  · rename_i x y z
    have hc : ∀ Q, wp (f_State_cell_of [.ref n, (Rw.set x y z).d] h) Q = Q (.int (m.cell (.set x y z))) h := fun Q => cell_of_ok (r := .set x y z) a o hr rfl
    have hq : ∀ Q, wp (f_State_handle_of [.ref n, (Rw.set x y z).d] h) Q = Q (hD (m.hd x)) h := fun Q => handle_of_ok (r := .set x y z) a o hr rfl
    simp only [f_by_tags, wp_fnM]
    simp only [Rw.d, Mac.lookT] at hc hq ⊢
    cases e1 : m.hd x with
    | none => cases e2 : m.s.owner (m.cell (.set x y z)) <;> simp [b_by_tags, wp_gMeth_, a.o, hc, hq, hw, e1, e2, hD, natO, ho, oD, tagIt]
    | some p =>
      cases e2 : m.s.owner (m.cell (.set x y z)) with
      | none => simp [b_by_tags, wp_gMeth_, a.o, hc, hq, hw, e1, e2, hD, natO, ho, oD, tagIt]
      | some i =>
        by_cases h1 : ((i : Int) - (p.1 : Int)) % ((2 ^ b : Nat) : Int) = 0
        · have h1' : tag1 p.1 i b = true := decide_eq_true h1
          push_cast at h1 ep
          simp [b_by_tags, wp_gMeth_, a.o, hc, hq, hw, e1, e2, hD, natO, ho, oD, ec, tagIt, h1', h1, ep]
        · have h1' : tag1 p.1 i b = false := decide_eq_false h1
          push_cast at h1 ep
          simp [b_by_tags, wp_gMeth_, a.o, hc, hq, hw, e1, e2, hD, natO, ho, oD, ec, tagIt, h1', h1, ep]
theorem look_ok {w : Way} (a : StAt h n ids m) (o : m.ok k) (hr : r.ok) (ht : r.isT = true) (hw : w.ok) : wp (f_look [.ref n, r.d, w.d] h) Q = Q (oD (m.look r w)) h := by
  have h1 : ∀ Q, wp (f_by_bounds [.ref n, r.d] h) Q = Q (oD (m.lookB r)) h := fun Q => by_bounds_ok a o hr ht
  have h2 : ∀ Q, wp (f_by_marks [.ref n, r.d] h) Q = Q (oD (m.lookM r)) h := fun Q => by_marks_ok a o hr ht
  simp only [f_look, wp_fnM]
  cases w with
  | bounds => simp [b_look, Way.d, h1, Mac.look]
  | marks => simp [b_look, Way.d, h2, Mac.look]
  | tags b =>
    have h3 : ∀ Q, wp (f_by_tags [.ref n, r.d, .int b] h) Q = Q (oD (m.lookT r b)) h := fun Q => by_tags_ok a o hr ht hw
    have e1 : ∀ (z : Str) Q, wp (dEq (.tup [.str "tags", .int b]) (.str z) h) Q = Q (.bl false) h := fun z Q => by
      rw [wp_dEq]
      simp [dat, datL, PyData.eqv, PyData.depth]
    simp [b_look, Way.d, h3, Mac.look, e1]
end
/-! ### runs, plain -/
structure RS where
  m : Mac
  steps : Nat
  word : Str
  why : Option (Nat × Nat × Str)
  stopped : Option Rw
def goRows (w : Way) (blk : Nat) : List Rw → Nat → RS → RS
  | [], _, x => x
  | r :: rs, p, x => if r = .chk then (match rs.head? with
      | none => x
      | some nx => (match x.m.look nx w with
        | some t => { x with word := "stop", why := some (blk, p, t), stopped := some nx }
        | none => goRows w blk rs p x))
    else if 400 < x.steps + 1 then { x with steps := x.steps + 1, word := "long" }
    else if (x.m.do r).2 ≠ "" then { x with steps := x.steps + 1, m := (x.m.do r).1, word := (x.m.do r).2 }
    else goRows w blk rs (p + 1) { x with steps := x.steps + 1, m := (x.m.do r).1 }
theorem goRows_cons {w : Way} {blk : Nat} {r : Rw} {rs : List Rw} {p : Nat} {x : RS} : goRows w blk (r :: rs) p x = (if r = .chk then (match rs.head? with
      | none => x
      | some nx => (match x.m.look nx w with
        | some t => { x with word := "stop", why := some (blk, p, t), stopped := some nx }
        | none => goRows w blk rs p x))
    else if 400 < x.steps + 1 then { x with steps := x.steps + 1, word := "long" }
    else if (x.m.do r).2 ≠ "" then { x with steps := x.steps + 1, m := (x.m.do r).1, word := (x.m.do r).2 }
    else goRows w blk rs (p + 1) { x with steps := x.steps + 1, m := (x.m.do r).1 }) := by
  rw [goRows]
def endS (e : Ed) (x : RS) : RS × Option Nat :=
  if 400 < x.steps + 1 then ({ x with steps := x.steps + 1, word := "long" }, none)
  else match e with
    | .fin => ({ x with steps := x.steps + 1, word := "end" }, none)
    | .go b => ({ x with steps := x.steps + 1 }, some b)
    | .ife n a b => ({ x with steps := x.steps + 1 }, some (if 0 < x.m.num n then a else b))
def through (P : Pg) (w : Way) (blk : Nat) (x : RS) : RS × Option Nat := match P[blk]? with
  | none => (x, none)
  | some b => if (goRows w blk b.1 0 x).word ≠ "" then (goRows w blk b.1 0 x, none) else endS b.2 (goRows w blk b.1 0 x)
def runM (P : Pg) (w : Way) : Nat → Nat → RS → RS
  | 0, _, x => x
  | f + 1, blk, x => match through P w blk x with
    | (y, some b) => runM P w f b y
    | (y, none) => y
structure Stg where
  m : Int
  g : Int
  k : Int
def Stg.ok (s : Stg) : Prop := Sto.ok ⟨s.m, s.g, s.k, [], []⟩
def Stg.d (s : Stg) : D := .tup [.int s.m, .int s.g, .int s.k]
def Stg.sto (s : Stg) : Sto := ⟨s.m, s.g, s.k, [], []⟩
def mac0 (s : Stg) (g : List Int) : Mac := ⟨List.replicate 6 0, List.replicate 4 none, s.sto, List.replicate s.m.toNat 0, g, []⟩
def rs0 (s : Stg) (g : List Int) : RS := ⟨mac0 s g, 0, "", none, none⟩
def runP (P : Pg) (s : Stg) (w : Way) (g : List Int) : RS := runM P w 402 0 (rs0 s g)
def inOk (g : List Int) : Prop := g.length ≤ 20 ∧ ∀ x ∈ g, -99 ≤ x ∧ x ≤ 999
theorem mac0_ok {s : Stg} {g : List Int} (hs : s.ok) (hg : inOk g) : (mac0 s g).ok 0 := by
  refine ⟨rfl, rfl, Inv0.start hs, ?_, fun i p e => ?_, Nat.le_refl _, ?_, Nat.le_refl _, hg.1, fun i p e => ?_⟩
  rotate_left 2
  · intro r hr
    cases hr
  · unfold Mac.hd mac0 at e
    simp only [List.getD_eq_getElem?_getD, List.getElem?_replicate] at e
    split at e <;> cases e
  · show ((List.replicate s.m.toNat (0 : Int)).length : Int) = s.m
    rw [List.length_replicate]
    have : (8 : Int) ≤ s.m := hs.1
    omega
  · unfold Mac.hd mac0 at e
    simp only [List.getD_eq_getElem?_getD, List.getElem?_replicate] at e
    split at e <;> cases e
/-- what holds of a run on its way -/
structure RS.ok (x : RS) : Prop where
  m : x.m.ok x.steps
  st : x.steps ≤ 401
theorem rs0_ok {s : Stg} {g : List Int} (hs : s.ok) (hg : inOk g) : (rs0 s g).ok := ⟨mac0_ok hs hg, Nat.zero_le _⟩
theorem RS.ok.next {x : RS} (o : x.ok) (h : x.steps ≤ 400) : ({ x with steps := x.steps + 1 } : RS).ok := ⟨o.m.mono (Nat.le_succ _), by show x.steps + 1 ≤ 401; omega⟩
theorem goRows_ok {w : Way} {blk : Nat} : ∀ (rs : List Rw) (p : Nat) (x : RS), x.ok → x.steps ≤ 400 → (goRows w blk rs p x).ok ∧ x.steps ≤ (goRows w blk rs p x).steps ∧ ((goRows w blk rs p x).word = "" → x.word = "" → (goRows w blk rs p x).steps ≤ 400)
  | [], p, x, o, h => ⟨o, Nat.le_refl _, fun _ _ => h⟩
  | r :: rs, p, x, o, h => by
    unfold goRows
    by_cases h1 : r = .chk
    · rw [if_pos h1]
      cases rs.head? with
      | none => exact ⟨o, Nat.le_refl _, fun _ _ => h⟩
      | some nx =>
        simp only []
        cases x.m.look nx w with
        | none => exact goRows_ok rs p x o h
        | some t => exact ⟨⟨o.m, o.st⟩, Nat.le_refl _, fun _ _ => h⟩
    · rw [if_neg h1]
      by_cases h2 : 400 < x.steps + 1
      · rw [if_pos h2]
        refine ⟨⟨(o.next h).m, (o.next h).st⟩, Nat.le_succ _, fun e => ?_⟩
        simp at e
      · rw [if_neg h2]
        have od : ({ x with steps := x.steps + 1, m := (x.m.do r).1 } : RS).ok := ⟨Mac.do_ok o.m r, by show x.steps + 1 ≤ 401; omega⟩
        by_cases h3 : (x.m.do r).2 ≠ ""
        · rw [if_pos h3]
          refine ⟨⟨od.m, od.st⟩, Nat.le_succ _, fun e => (h3 e).elim⟩
        · rw [if_neg h3]
          obtain ⟨g1, g2, g3⟩ := goRows_ok rs (p + 1) _ od (by show x.steps + 1 ≤ 400; omega)
          exact ⟨g1, by have : x.steps + 1 ≤ _ := g2; omega, g3⟩
theorem through_ok {P : Pg} {w : Way} {blk : Nat} {x : RS} (hP : P.ok) (hb : blk < P.length) (o : x.ok) (h : x.steps ≤ 400) (hx : x.word = "") :
    (through P w blk x).1.ok ∧ ∀ b, (through P w blk x).2 = some b → b < P.length ∧ (through P w blk x).1.word = "" ∧ (through P w blk x).1.steps ≤ 400 ∧ x.steps < (through P w blk x).1.steps := by
  unfold through
  rw [List.getElem?_eq_getElem hb]
  simp only []
  obtain ⟨g1, g2, g3⟩ := goRows_ok (w := w) (blk := blk) P[blk].1 0 x o h
  by_cases h1 : (goRows w blk P[blk].1 0 x).word ≠ ""
  · rw [if_pos h1]
    exact ⟨g1, fun b e => by cases e⟩
  · rw [if_neg h1]
    have hw : (goRows w blk P[blk].1 0 x).word = "" := by simpa using h1
    have g4 := g3 hw hx
    have g5 := g1.next g4
    unfold endS
    by_cases h2 : 400 < (goRows w blk P[blk].1 0 x).steps + 1
    · rw [if_pos h2]
      exact ⟨⟨g5.m, g5.st⟩, fun b e => by cases e⟩
    · rw [if_neg h2]
      have he := hP.ends _ (List.getElem_mem hb)
      cases e : P[blk].2 with
      | fin => exact ⟨⟨g5.m, g5.st⟩, fun b e => by cases e⟩
      | go b' =>
        rw [e] at he
        exact ⟨⟨g5.m, g5.st⟩, fun b q => by cases q; exact ⟨he, hw, by show _ + 1 ≤ 400; omega, by show _ < _ + 1; omega⟩⟩
      | ife n a c =>
        rw [e] at he
        refine ⟨⟨g5.m, g5.st⟩, fun b q => ?_⟩
        cases q
        refine ⟨?_, hw, by show _ + 1 ≤ 400; omega, by show _ < _ + 1; omega⟩
        split
        · exact he.2.1
        · exact he.2.2
theorem do_word (m : Mac) (r : Rw) : (m.do r).2 = "" ∨ (m.do r).2 = "full" ∨ (m.do r).2 = "fell" := by
  cases r <;> unfold Mac.do <;> simp only <;> (try split) <;> simp
/-! ### where a Run stands -/
def whyD : Option (Nat × Nat × Str) → D
  | some p => .tup [.int (p.1 : Int), .int (p.2.1 : Int), .str p.2.2]
  | none => .non
def stopD : Option Rw → D
  | some r => r.d
  | none => .non
def runFs (r : Nat) (P : D) (w : D) (k : Int) (word : Str) (y z : D) : List (Str × D) := [("state", .ref (r + 1)), ("program", P), ("way", w), ("steps", .int k), ("word", .str word), ("why", y), ("stopped", z)]
structure RunAt (h : PH) (r : Nat) (ids : List (Nat × Nat)) (P : Pg) (w : Way) (x : RS) : Prop where
  o : h[r]? = some (.ins "Run" (runFs r P.d w.d x.steps x.word (whyD x.why) (stopD x.stopped)))
  s : StAt h (r + 1) ids x.m
section
variable {r : Nat} {P w y z d : D} {k : Int} {word : Str}
@[simp] theorem gr_state : getD_ (runFs r P w k word y z) "state" = some (.ref (r + 1)) := by kernel_rfl
@[simp] theorem gr_program : getD_ (runFs r P w k word y z) "program" = some P := by kernel_rfl
@[simp] theorem gr_way : getD_ (runFs r P w k word y z) "way" = some w := by kernel_rfl
@[simp] theorem gr_steps : getD_ (runFs r P w k word y z) "steps" = some (.int k) := by kernel_rfl
@[simp] theorem gr_word : getD_ (runFs r P w k word y z) "word" = some (.str word) := by kernel_rfl
@[simp] theorem gr_why : getD_ (runFs r P w k word y z) "why" = some y := by kernel_rfl
@[simp] theorem gr_stopped : getD_ (runFs r P w k word y z) "stopped" = some z := by kernel_rfl
@[simp] theorem gr_1 : getD_ (runFs r P w k word y z) "is_long" = none := by kernel_rfl
@[simp] theorem gr_2 : getD_ (runFs r P w k word y z) "ended" = none := by kernel_rfl
@[simp] theorem gr_3 : getD_ (runFs r P w k word y z) "go_through" = none := by kernel_rfl
@[simp] theorem pr_steps {j : Int} : putFD "steps" (.int j) (runFs r P w k word y z) = runFs r P w j word y z := by kernel_rfl
@[simp] theorem pr_word {j : Str} : putFD "word" (.str j) (runFs r P w k word y z) = runFs r P w k j y z := by kernel_rfl
@[simp] theorem pr_why : putFD "why" d (runFs r P w k word y z) = runFs r P w k word d z := by kernel_rfl
@[simp] theorem pr_stopped : putFD "stopped" d (runFs r P w k word y z) = runFs r P w k word y d := by kernel_rfl
@[simp] theorem runFs_len : (runFs r P w k word y z).length = 7 := rfl
end
section
variable {h : PH} {r : Nat} {ids : List (Nat × Nat)} {P : Pg} {w : Way} {x : RS} {Q : D → PH → Prop}
theorem StAt.out (a : StAt h (r + 1) ids x.m) {o : Ob} : StAt (h.set r o) (r + 1) ids x.m where
  o := by rw [List.getElem?_set_ne (by omega)]; exact a.o
  nu := by rw [List.getElem?_set_ne (by omega)]; exact a.nu
  ha := by rw [List.getElem?_set_ne (by omega)]; exact a.ha
  st := a.st.out (a.ne (by omega)) _
  ce := by rw [List.getElem?_set_ne (by omega)]; exact a.ce
  gi := by rw [List.getElem?_set_ne (by omega)]; exact a.gi
  sa := by rw [List.getElem?_set_ne (by omega)]; exact a.sa
  far := a.far
theorem RunAt.put (a : RunAt h r ids P w x) {y : RS} (e : y.m = x.m) : RunAt (h.set r (.ins "Run" (runFs r P.d w.d y.steps y.word (whyD y.why) (stopD y.stopped)))) r ids P w y where
  o := List.getElem?_set_self (lt_of a.o)
  s := by rw [e]; exact a.s.out
theorem RunAt.step (a : RunAt h r ids P w x) {h' : PH} {ids' : List (Nat × Nat)} {m' : Mac} (b : StAt h' (r + 1) ids' m') (f : Fr (r + 1) h h') : RunAt h' r ids' P w { x with m := m' } where
  o := by rw [f.eq r (by omega)]; exact a.o
  s := b
theorem is_long_ok (a : RunAt h r ids P w x) (hx : x.word = "") (q : ∀ h', RunAt h' r ids P w { x with steps := x.steps + 1, word := if 400 < x.steps + 1 then "long" else "" } → Fr r h h' → Q (.bl (decide (400 < x.steps + 1))) h') : wp (f_Run_is_long [.ref r] h) Q := by
  have lt := lt_of a.o
  have gs : ∀ o : Ob, (h.set r o)[r]? = some o := fun o => List.getElem?_set_self lt
  simp only [f_Run_is_long, wp_fnM]
  have ao := a.o
  by_cases c : 400 < x.steps + 1
  · have c' : (400 : Int) < (x.steps : Int) + 1 := by omega
    simp only [c, if_true, decide_true] at q
    have := q (h.set r (.ins "Run" (runFs r P.d w.d (x.steps + 1 : Nat) "long" (whyD x.why) (stopD x.stopped)))) (a.put (y := { x with steps := x.steps + 1, word := "long" }) rfl) (.set (by omega))
    simp [b_Run_is_long, ao, putO, gs, c']
    simpa using this
  · have c' : ¬ (400 : Int) < (x.steps : Int) + 1 := by omega
    simp only [c, if_false, decide_false] at q
    have := q (h.set r (.ins "Run" (runFs r P.d w.d (x.steps + 1 : Nat) "" (whyD x.why) (stopD x.stopped)))) (a.put (y := { x with steps := x.steps + 1, word := "" }) rfl) (.set (by omega))
    simp [b_Run_is_long, ao, putO, gs, c', hx]
    simpa using this
theorem ended_ok (a : RunAt h r ids P w x) (o : x.m.ok x.steps) (e : Ed) {n : Nat} (he : e.ok n) (hx : x.word = "")
    (q : ∀ h' y g, RunAt h' r ids P w y → Fr r h h' → (y, g) = (match e with
      | .fin => ({ x with word := "end" }, none)
      | .go b => (x, some b)
      | .ife n a b => (x, some (if 0 < x.m.num n then a else b))) → Q (natO g) h') : wp (f_Run_ended [.ref r, e.d] h) Q := by
  have lt := lt_of a.o
  have gs : ∀ o : Ob, (h.set r o)[r]? = some o := fun o => List.getElem?_set_self lt
  simp only [f_Run_ended, wp_fnM]
  have ao := a.o
  have nu := a.s.nu
  have so := a.s.o
  cases e with
  | fin =>
    have := q _ { x with word := "end" } none (a.put (y := { x with word := "end" }) rfl) (.set (by omega)) rfl
    simp [b_Run_ended, Ed.d, ao, putO, gs]
    simpa [natO] using this
  | go b =>
    have := q _ x (some b) a .refl rfl
    simp [b_Run_ended, Ed.d]
    simpa [natO] using this
  | ife n a1 b =>
    have := q _ x (some (if 0 < x.m.num n then a1 else b)) a .refl rfl
    simp [b_Run_ended, Ed.d, ao, so, wp_ixRef, nu, o.nu he.1]
    by_cases c : 0 < x.m.num n
    · simp only [c, if_true] at this ⊢
      exact this
    · simp only [c, if_false] at this ⊢
      exact this
theorem eqChk {q : Rw} {Q : D → PH → Prop} : wp (dEq q.d (.tup [.str "check"]) h) Q = Q (.bl (decide (q = .chk))) h := by
  rw [wp_dEq]
  cases q <;> simp [Rw.d, dat, datL, PyData.eqv, PyData.eqvAll, PyData.depth, PyData.depthAll]
theorem neChk {q : Rw} {Q : D → PH → Prop} : wp (dNe q.d (.tup [.str "check"]) h) Q = Q (.bl (!decide (q = .chk))) h := by
  rw [wp_dNe]
  cases q <;> simp [Rw.d, dat, datL, PyData.eqv, PyData.eqvAll, PyData.depth, PyData.depthAll]
theorem rows_at {rs : List Rw} {i : Nat} (hi : i < rs.length) : atI (rs.map Rw.d) (i : Int) = some (rs[i].d) := by
  rw [Sw.atI_nat, List.getElem?_map, List.getElem?_eq_getElem hi]
  rfl
theorem pg_at {P : Pg} {i : Nat} (hi : i < P.length) : atI (P.map blkD) (i : Int) = some (.tup [.tup (P[i].1.map Rw.d), P[i].2.d]) := by
  rw [Sw.atI_nat, List.getElem?_map, List.getElem?_eq_getElem hi]
  rfl
theorem chkOk_drop : ∀ {rs : List Rw} (i : Nat), chkOk rs → chkOk (rs.drop i)
  | rs, 0, h => h
  | [], i + 1, h => by simpa using h
  | r :: rs, i + 1, h => by
    rw [List.drop_succ_cons]
    refine chkOk_drop i ?_
    cases r <;> simp only [chkOk] at h <;> first | exact h | exact h.2
theorem chk_next {rs : List Rw} {i : Nat} (h : chkOk rs) (hi : i < rs.length) (e : rs[i] = .chk) : ∃ (hj : i + 1 < rs.length), rs[i + 1].isT = true := by
  have h1 := chkOk_drop i h
  rw [List.drop_eq_getElem_cons hi, e] at h1
  simp only [chkOk] at h1
  by_cases hj : i + 1 < rs.length
  · rw [List.drop_eq_getElem_cons hj] at h1
    exact ⟨hj, h1.1⟩
  · rw [List.drop_eq_nil_of_le (by omega)] at h1
    exact h1.1.elim
theorem truD_w {s : Str} (h : s = "" ∨ s = "full" ∨ s = "fell") : truD (wD s) = some (!decide (s = "")) := by
  rcases h with rfl | rfl | rfl <;> decide +kernel
theorem chk_len : ∀ (n : Nat) (rs : List Rw), rs.length = n → chkOk rs → rs.length ≤ 2 * (bare rs).length := by
  intro n
  induction n using Nat.strongRecOn with
  | ind n ih =>
    intro rs hn h
    cases rs with
    | nil => exact Nat.zero_le _
    | cons r rs =>
      rw [List.length_cons] at hn
      by_cases e : r = .chk
      · subst e
        simp only [chkOk] at h
        cases rs with
        | nil => exact h.1.elim
        | cons q rs =>
          have hq : q ≠ .chk := fun z => by subst z; cases h.1
          have h2 := h.2
          have h3 : chkOk rs := by cases q <;> simp only [chkOk] at h2 <;> first | exact h2 | exact (hq rfl).elim
          have := ih rs.length (by rw [List.length_cons] at hn; omega) rs rfl h3
          have e1 : bare (.chk :: q :: rs) = q :: bare rs := by simp [bare, hq]
          rw [e1]
          simp only [List.length_cons]
          omega
      · have h3 : chkOk rs := by cases r <;> simp only [chkOk] at h <;> first | exact h | exact (e rfl).elim
        have := ih rs.length (by omega) rs rfl h3
        have e1 : bare (r :: rs) = r :: bare rs := by simp [bare, e]
        rw [e1]
        simp only [List.length_cons]
        omega
theorem le_sum {n : Nat} : ∀ {l : List Nat}, n ∈ l → n ≤ l.sum
  | [], h => by cases h
  | a :: l, h => by
    rw [List.sum_cons]
    rcases List.mem_cons.mp h with rfl | h
    · omega
    · have := le_sum h
      omega
theorem few_rows {b : List Rw × Ed} (hP : P.ok) (hb : b ∈ P) : b.1.length ≤ 120 := by
  have h2 := le_sum (List.mem_map_of_mem (f := fun b : List Rw × Ed => (bare b.1).length) hb)
  have h3 := hP.few
  have := chk_len _ _ rfl (hP.chk _ hb)
  omega
end
/-! ### a Run goes through a block -/
structure GI (r blk : Nat) (rs : List Rw) (en : Ed) (P : Pg) (w : Way) (x : RS) (h : PH) (i : Nat) (Γ : Sw.Env) (h' : PH) : Prop where
  ex : ∃ ids' y p o5 o6 o7, Γ = [some (.ref r), some (.int blk), some (.tup (rs.map Rw.d)), some en.d, some (.int (p : Nat)), o5, o6, o7] ∧ RunAt h' r ids' P w y ∧ y.word = "" ∧ y.ok ∧ y.steps ≤ 400 ∧ goRows w blk rs 0 x = goRows w blk (rs.drop i) p y ∧ Fr r h h'
section
variable {h : PH} {r : Nat} {ids : List (Nat × Nat)} {P : Pg} {w : Way} {x : RS} {Q : D → PH → Prop}
theorem head_drop {rs : List Rw} {i : Nat} (hj : i < rs.length) : (rs.drop i).head? = some rs[i] := by
  rw [List.drop_eq_getElem_cons hj]
  rfl
theorem oD_some {t : Str} : oD (some t) = .str t := rfl
theorem wD_ne {s : Str} (h : ¬ s = "") : wD s = .str s := by
  unfold wD
  rw [if_neg h]
theorem wD_e : wD "" = .non := by
  unfold wD
  rw [if_pos rfl]
theorem go_through_ok {blk : Nat} (a : RunAt h r ids P w x) (hx : x.word = "") (o : x.ok) (st : x.steps ≤ 400) (hP : P.ok) (hb : blk < P.length) (hw : w.ok)
    (q : ∀ h' ids', RunAt h' r ids' P w (through P w blk x).1 → Fr r h h' → Q (natO (through P w blk x).2) h') : wp (f_Run_go_through [.ref r, .int blk] h) Q := by
  have hbm : P[blk] ∈ P := List.getElem_mem hb
  have fr := few_rows hP hbm
  have hrs := hP.rows _ hbm
  have hck := hP.chk _ hbm
  have het := hP.ends _ hbm
  have eth : through P w blk x = (if (goRows w blk P[blk].1 0 x).word ≠ "" then (goRows w blk P[blk].1 0 x, none) else endS P[blk].2 (goRows w blk P[blk].1 0 x)) := by
    unfold through
    rw [List.getElem?_eq_getElem hb]
  rw [eth] at q
  have epg := pg_at hb
  generalize P[blk].2 = en at *
  generalize P[blk].1 = rs at *
  have fin : ∀ z h' ids', goRows w blk rs 0 x = z → z.word ≠ "" → RunAt h' r ids' P w z → Fr r h h' → Q .non h' := fun z h' ids' e1 e2 b f => by
    rw [e1, if_pos e2] at q
    exact q h' ids' b f
  have aso := a.s.o
  have ao := a.o
  simp only [f_Run_go_through, wp_fnM]
  simp only [b_Run_go_through, wp_sSeq]
  simp [ao, Pg.d, epg]
  rw [wp_forV (xs := rngD 0 rs.length)]
  · refine wp_loopX (GI r blk rs en P w x h) (fun i v Γ h1 g hv => ?_) (fun Γ h1 g => ?_) ⟨ids, x, 0, none, none, none, rfl, a, hx, o, st, by rw [List.drop_zero], .refl⟩
    · obtain ⟨ids1, y, p, o5, o6, o7, rfl, b, hy, oy, sy, eg, fr1⟩ := g
      obtain ⟨hi, rfl⟩ := rng_get hv
      have e0 : (0 : Int) + (i : Int) = (i : Int) := by omega
      rw [e0]
      rw [List.drop_eq_getElem_cons hi] at eg
      rw [goRows_cons] at eg
      have bo := b.o
      have gs : ∀ o : Ob, (h1.set r o)[r]? = some o := fun o => List.getElem?_set_self (lt_of bo)
      by_cases ec : rs[i] = .chk
      · obtain ⟨hj, tj⟩ := chk_next hck hi ec
        have lk : ∀ Q, wp (f_look [.ref (r + 1), rs[i + 1].d, w.d] h1) Q = Q (oD (y.m.look rs[i + 1] w)) h1 := fun Q => look_ok b.s oy.m (hrs _ (List.getElem_mem hj)) tj hw
        have e1 : atI (rs.map Rw.d) ((i : Int) + 1) = some rs[i + 1].d := rows_at hj
        rw [if_pos ec, head_drop hj] at eg
        have e2 := rows_at hi
        rw [ec] at e2
        have e3 : ∀ Q, wp (dEq Rw.chk.d (.tup [.str "check"]) h1) Q = Q (.bl true) h1 := fun Q => eqChk
        simp [e2, e3, bo, lk, e1]
        cases el : y.m.look rs[i + 1] w with
        | none =>
          simp only [el] at eg
          simp
          exact ⟨ids1, y, p, _, _, _, rfl, b, hy, oy, sy, eg, fr1⟩
        | some t =>
          simp only [el] at eg
          simp [oD_some, putO, bo, gs, e1]
          refine fin _ _ ids1 eg (by simp) (b.put (y := { y with word := "stop", why := some (blk, p, t), stopped := some rs[i + 1] }) rfl) (fr1.trans (.set (Nat.le_refl _)))
      · rw [if_neg ec] at eg
        have e2 := rows_at hi
        have e3 : ∀ Q, wp (dEq rs[i].d (.tup [.str "check"]) h1) Q = Q (.bl false) h1 := fun Q => by
          rw [eqChk, decide_eq_false ec]
        simp [e2, e3, bo, wp_gMeth_]
        refine is_long_ok b hy fun h2 b2 f2 => ?_
        by_cases c : 400 < y.steps + 1
        · rw [if_pos c] at eg
          simp only [c, if_true] at b2
          simp [c]
          exact fin _ _ ids1 eg (by simp) b2 (fr1.trans f2)
        · rw [if_neg c] at eg
          simp only [c, if_false] at b2
          have bo2 := b2.o
          have so2 := b2.s.o
          simp [c, bo2, so2]
          have od : ({ y with steps := y.steps + 1 } : RS).ok := oy.next sy
          refine do_ok b2.s od.m (by show y.steps + 1 < 1000; omega) (hrs _ (List.getElem_mem hi)) ec fun h3 ids3 b3 f3 => ?_
          have b3' := b2.step b3 f3
          have bo3 := b3'.o
          have gs3 : ∀ o : Ob, (h3.set r o)[r]? = some o := fun o => List.getElem?_set_self (lt_of bo3)
          have dw := do_word y.m rs[i]
          have fr3 : Fr r h h3 := fr1.trans (f2.trans (f3.mono (Nat.le_succ r)))
          by_cases ew : (y.m.do rs[i]).2 = ""
          · rw [if_neg (by simpa using ew)] at eg
            have et := truD_w dw
            simp only [ew] at et ⊢
            simp [et, putO, bo3, gs3]
            have := b3'.put (y := { y with steps := y.steps + 1, m := (y.m.do rs[i]).1, word := "" }) rfl
            refine ⟨ids3, { y with steps := y.steps + 1, m := (y.m.do rs[i]).1, word := "" }, p + 1, _, _, _, rfl, this, rfl, ⟨Mac.do_ok oy.m _, by show y.steps + 1 ≤ 401; omega⟩, by show y.steps + 1 ≤ 400; omega, ?_, fr3.trans (.set (Nat.le_refl _))⟩
            rw [eg]
            have : ({ y with steps := y.steps + 1, m := (y.m.do rs[i]).1, word := "" } : RS) = { y with steps := y.steps + 1, m := (y.m.do rs[i]).1 } := by rw [← hy]
            rw [this]
          · rw [if_pos ew] at eg
            have et := truD_w dw
            simp only [decide_eq_false ew] at et
            rw [wD_ne ew] at et
            simp [et, wD_ne ew, putO, bo3, gs3, ew]
            exact fin _ _ ids3 eg ew (b3'.put (y := { y with steps := y.steps + 1, m := (y.m.do rs[i]).1, word := (y.m.do rs[i]).2 }) rfl) (fr3.trans (.set (Nat.le_refl _)))
    · obtain ⟨ids1, y, p, o5, o6, o7, rfl, b, hy, oy, sy, eg, fr1⟩ := g
      rw [rng_len, List.drop_length] at eg
      have eg : goRows w blk rs 0 x = y := eg
      rw [eg, if_neg (by simpa using hy)] at q
      have bo := b.o
      simp [wp_gMeth_, bo]
      refine is_long_ok b hy fun h2 b2 f2 => ?_
      unfold endS at q
      by_cases c : 400 < y.steps + 1
      · rw [if_pos c] at q
        simp only [c, if_true] at b2
        simp [c]
        exact q _ ids1 b2 (fr1.trans f2)
      · rw [if_neg c] at q
        simp only [c, if_false] at b2
        have bo2 := b2.o
        simp [c, bo2]
        have od : ({ y with steps := y.steps + 1 } : RS).ok := oy.next sy
        have ew : ({ y with steps := y.steps + 1, word := "" } : RS) = { y with steps := y.steps + 1 } := by rw [← hy]
        rw [ew] at b2
        refine ended_ok b2 od.m en het hy fun h3 z g b3 f3 e3 => ?_
        have f4 := fr1.trans (f2.trans f3)
        cases en with
        | fin =>
          cases e3
          exact q _ _ b3 f4
        | go b' =>
          cases e3
          exact q _ _ b3 f4
        | ife n a' c' =>
          cases e3
          exact q _ _ b3 f4
  · intro Q
    rw [wp_rg1 (j := (rs.length : Int))]
    · rw [Int.toNat_natCast]
    · intro Q
      simp
    · omega
/-! ### a Run made -/
theorem through_stop {blk : Nat} (hb : blk < P.length) {y : RS} (e : through P w blk x = (y, none)) (hx : x.word = "") (o : x.ok) (st : x.steps ≤ 400) : y.word ≠ "" := by
  unfold through at e
  rw [List.getElem?_eq_getElem hb] at e
  simp only [] at e
  by_cases h1 : (goRows w blk P[blk].1 0 x).word ≠ ""
  · rw [if_pos h1] at e
    cases e
    exact h1
  · rw [if_neg h1] at e
    unfold endS at e
    by_cases h2 : 400 < (goRows w blk P[blk].1 0 x).steps + 1
    · rw [if_pos h2] at e
      cases e
      simp
    · rw [if_neg h2] at e
      cases q : P[blk].2 with
      | fin =>
        rw [q] at e
        cases e
        simp
      | go b =>
        rw [q] at e
        cases e
      | ife n a c =>
        rw [q] at e
        cases e
/-- enough turns: the run is over -/
theorem runM_more : ∀ (f f' blk : Nat) (x : RS), P.ok → blk < P.length → x.ok → x.steps ≤ 400 → x.word = "" → 401 - x.steps ≤ f → 401 - x.steps ≤ f' → runM P w f blk x = runM P w f' blk x
  | 0, f', blk, x, hP, hb, o, st, hx, h1, h2 => by omega
  | f + 1, 0, blk, x, hP, hb, o, st, hx, h1, h2 => by omega
  | f + 1, f' + 1, blk, x, hP, hb, o, st, hx, h1, h2 => by
    rw [runM, runM]
    obtain ⟨t1, t2⟩ := through_ok (w := w) hP hb o st hx
    cases e : through P w blk x with
    | mk y g =>
      rw [e] at t1 t2
      cases g with
      | none => rfl
      | some b =>
        obtain ⟨u1, u2, u3, u4⟩ := t2 b rfl
        simp only at u1 u2 u3 u4 t1 ⊢
        exact runM_more f f' b y hP u1 t1 u3 u2 (by omega) (by omega)
theorem runM_ok : ∀ (f blk : Nat) (x : RS), P.ok → blk < P.length → x.ok → x.steps ≤ 400 → x.word = "" → 401 - x.steps ≤ f → (runM P w f blk x).ok ∧ (runM P w f blk x).word ≠ ""
  | 0, blk, x, hP, hb, o, st, hx, h1 => by omega
  | f + 1, blk, x, hP, hb, o, st, hx, h1 => by
    rw [runM]
    obtain ⟨t1, t2⟩ := through_ok (w := w) hP hb o st hx
    cases e : through P w blk x with
    | mk y g =>
      rw [e] at t1 t2
      cases g with
      | none => exact ⟨t1, through_stop hb e hx o st⟩
      | some b =>
        obtain ⟨u1, u2, u3, u4⟩ := t2 b rfl
        simp only at u1 u2 u3 u4 t1 ⊢
        exact runM_ok f b y hP u1 t1 u3 u2 (by omega)
end
section
variable {r : Nat} {P w y z : D}
theorem rf1 {a : D} : putFD "state" a [] = ([("state", a)] : List (Str × D)) := rfl
theorem rf2 {a b : D} : putFD "program" b ([("state", a)] : List (Str × D)) = ([("state", a), ("program", b)] : List (Str × D)) := by kernel_rfl
theorem rf3 {a b c : D} : putFD "way" c ([("state", a), ("program", b)] : List (Str × D)) = ([("state", a), ("program", b), ("way", c)] : List (Str × D)) := by kernel_rfl
theorem rf4 {a b c d : D} : putFD "steps" d ([("state", a), ("program", b), ("way", c)] : List (Str × D)) = ([("state", a), ("program", b), ("way", c), ("steps", d)] : List (Str × D)) := by kernel_rfl
theorem rf5 {a b c d e : D} : putFD "word" e ([("state", a), ("program", b), ("way", c), ("steps", d)] : List (Str × D)) = ([("state", a), ("program", b), ("way", c), ("steps", d), ("word", e)] : List (Str × D)) := by kernel_rfl
theorem rf6 {a b c d e f : D} : putFD "why" f ([("state", a), ("program", b), ("way", c), ("steps", d), ("word", e)] : List (Str × D)) = ([("state", a), ("program", b), ("way", c), ("steps", d), ("word", e), ("why", f)] : List (Str × D)) := by kernel_rfl
theorem rf7 {a b c d e f g : D} : putFD "stopped" g ([("state", a), ("program", b), ("way", c), ("steps", d), ("word", e), ("why", f)] : List (Str × D)) = ([("state", a), ("program", b), ("way", c), ("steps", d), ("word", e), ("why", f), ("stopped", g)] : List (Str × D)) := by kernel_rfl
theorem qf1 {a : D} : putFD "numbers" a [] = ([("numbers", a)] : List (Str × D)) := rfl
theorem qf2 {a b : D} : putFD "handles" b ([("numbers", a)] : List (Str × D)) = ([("numbers", a), ("handles", b)] : List (Str × D)) := by kernel_rfl
theorem qf3 {a b c : D} : putFD "store" c ([("numbers", a), ("handles", b)] : List (Str × D)) = ([("numbers", a), ("handles", b), ("store", c)] : List (Str × D)) := by kernel_rfl
theorem qf4 {a b c d : D} : putFD "cells" d ([("numbers", a), ("handles", b), ("store", c)] : List (Str × D)) = ([("numbers", a), ("handles", b), ("store", c), ("cells", d)] : List (Str × D)) := by kernel_rfl
theorem qf5 {a b c d e : D} : putFD "given" e ([("numbers", a), ("handles", b), ("store", c), ("cells", d)] : List (Str × D)) = ([("numbers", a), ("handles", b), ("store", c), ("cells", d), ("given", e)] : List (Str × D)) := by kernel_rfl
theorem qf6 {a b c d e f : D} : putFD "said" f ([("numbers", a), ("handles", b), ("store", c), ("cells", d), ("given", e)] : List (Str × D)) = ([("numbers", a), ("handles", b), ("store", c), ("cells", d), ("given", e), ("said", f)] : List (Str × D)) := by kernel_rfl
end
/-- what is handed in as an input: a list, as a value or an object -/
def GivD (h : PH) (d : D) (g : List Int) : Prop := d = .lst (iD g) ∨ ∃ n, d = .ref n ∧ h[n]? = some (.lst (iD g))
theorem GivD.seq {h : PH} {d : D} {g : List Int} (a : GivD h d g) : seqD h d = some (iD g) := by
  rcases a with rfl | ⟨n, rfl, e⟩
  · rfl
  · unfold seqD
    simp only [e]
theorem GivD.mono {h h' : PH} {d : D} {g : List Int} {n : Nat} (a : GivD h d g) (f : Fr n h h') (hn : n = h.length) : GivD h' d g := by
  rcases a with rfl | ⟨i, rfl, e⟩
  · exact .inl rfl
  · exact .inr ⟨i, rfl, by rw [f.eq i (by rw [hn]; exact lt_of e)]; exact e⟩
theorem getHk {h l : List Ob} {k : Nat} : (h ++ l)[h.length + k]? = l[k]? := by
  rw [List.getElem?_append_right (by omega)]
  congr 1
  omega
theorem setHk {h l : List Ob} {k : Nat} {o : Ob} : (h ++ l).set (h.length + k) o = h ++ l.set k o := by
  rw [List.set_append, if_neg (by omega)]
  congr 2
  omega
theorem getH0 {h l : List Ob} : (h ++ l)[h.length]? = l[0]? := getHk (k := 0)
theorem setH0 {h l : List Ob} {o : Ob} : (h ++ l).set h.length o = h ++ l.set 0 o := setHk (k := 0)
theorem state_new_ok {s : Stg} (hs : s.ok) {g : List Int} {gd : D} {h : PH} {Q : D → PH → Prop} (hg : GivD h gd g)
    (q : ∀ h', StAt h' h.length [] (mac0 s g) → Fr h.length h h' → Q .non h') : wp (f_State_new [.ref h.length, s.d, gd] (h ++ [.ins "State" []])) Q := by
  have gl : ∀ (h' : PH) (x : PH), h' = h ++ x → seqD h' gd = some (iD g) := fun h' x e => by
    rcases hg with rfl | ⟨n, rfl, e1⟩
    · rfl
    · unfold seqD
      simp only [e, List.getElem?_append_left (lt_of e1), e1]
  have wl : ∀ (h' x : PH) (Q : List D → PH → Prop), h' = h ++ x → wp (dList gd h') Q = Q (iD g) h' := fun h' x Q e => by
    unfold dList
    rw [gl h' x e]
    rfl
  have m8 : (8 : Int) ≤ s.m ∧ s.m ≤ 64 := ⟨hs.1, hs.2.1⟩
  have hmk : ∀ (Γ : Sw.Env) (H : PH) (Q' : D → PH → Prop), Γ[1]? = some (some s.d) → wp (gMake "Store" f_Store_new [gV 1] Γ H) Q' = Q' (.ref H.length) (H ++ [.ins "Store" (storeFs s.sto (H.length + 1) (H.length + 2)), .lst [], .lst []]) := fun Γ H Q' e => by
    rw [wp_gMake]
    simp only [wp_seqA1, wp_seqA0, wp_gV, e]
    have := store_new_ok (h := H) (Q := fun d h' => d = .non ∧ Q' (.ref H.length) h') hs
    have e2 : s.d = .tup [.int s.m, .int s.g, .int s.k] := rfl
    rw [e2, this]
    simp
    rfl
  have ez : ([List.replicate s.m.toNat (D.int 0)] : List (List D)).flatten = iD (List.replicate s.m.toNat 0) := by simp [iD]
  have ex : atI [D.int s.m, D.int s.g, D.int s.k] 0 = some (.int s.m) := at0
  simp only [f_State_new, wp_fnM]
  simp only [b_State_new, wp_sSeq]
  have e2 : s.d = .tup [.int s.m, .int s.g, .int s.k] := rfl
  simp [-wp_gMake, -wq_gMake, hmk, getHk, setHk, getH0, setH0, putO, qf1, qf2, qf3, qf4, qf5, qf6, e2, wl]
  refine ⟨by omega, q _ ⟨?_, ?_, ?_, ⟨?_, ?_, ?_, rfl, ?_, ?_, ?_, Nat.zero_le _⟩, ?_, ?_, ?_, ?_⟩ (.app (Nat.le_refl _))⟩
  · simp [getHk, getH0]; rfl
  · simp [getHk, getH0]; rfl
  · simp [getHk, getH0]; rfl
  · simp [getHk, getH0]; rfl
  · simp [getHk, getH0]
  · simp [getHk, getH0]; rfl
  · intro i p r e; simp at e
  · intro i p r e; simp at e
  · simp [SL.all]
  · simp [getHk, getH0, mac0, iD]
  · simp [getHk, getH0]; rfl
  · simp [getHk, getH0]; rfl
  · intro p hp; cases hp
/-- a run, as the program makes it -/
structure Done (h : PH) (r : Nat) (P : Pg) (w : Way) (x : RS) : Prop where
  ex : ∃ ids, RunAt h r ids P w x
  ok : x.ok
  w : x.word ≠ ""
structure RI (r : Nat) (P : Pg) (w : Way) (s : Stg) (g : List Int) (gd : D) (h : PH) (n : Nat) (Γ : Sw.Env) (h' : PH) : Prop where
  ex : ∃ ids y bd, Γ = [some (.ref r), some P.d, some s.d, some w.d, some gd, some bd] ∧ RunAt h' r ids P w y ∧ y.ok ∧ Fr r h h' ∧
    ((y.word = "" ∧ y.steps ≤ 400 ∧ ∃ b, bd = .int (b : Nat) ∧ b < P.length ∧ 402 - y.steps ≤ n ∧ runM P w n b y = runP P s w g) ∨ (y.word ≠ "" ∧ y = runP P s w g))
theorem run_new_ok {P : Pg} {w : Way} {s : Stg} {g : List Int} {gd : D} {h : PH} {Q : D → PH → Prop} (hP : P.ok) (hw : w.ok) (hs : s.ok) (hgi : inOk g) (hg : GivD h gd g)
    (q : ∀ h', Done h' h.length P w (runP P s w g) → Fr h.length h h' → Q .non h') : wp (f_Run_new [.ref h.length, P.d, s.d, w.d, gd] (h ++ [.ins "Run" []])) Q := by
  simp only [f_Run_new, wp_fnM]
  simp only [b_Run_new, wp_sSeq]
  simp
  have e1 : h ++ [Ob.ins "Run" [], Ob.ins "State" []] = (h ++ [Ob.ins "Run" []]) ++ [Ob.ins "State" []] := by simp
  have e2 : h.length + 1 = (h ++ [Ob.ins "Run" []]).length := by simp
  rw [e1, e2]
  have hg1 : GivD (h ++ [.ins "Run" []]) gd g := hg.mono (.app (Nat.le_refl _)) rfl
  refine state_new_ok hs hg1 fun h1 a1 f1 => ?_
  rw [← e2] at a1 f1 ⊢
  have ho : h1[h.length]? = some (.ins "Run" []) := by
    rw [f1.eq _ (Nat.lt_succ_self _), getH0]
    rfl
  have gs : ∀ o : Ob, (h1.set h.length o)[h.length]? = some o := fun o => List.getElem?_set_self (lt_of ho)
  simp [putO, ho, gs, rf1, rf2, rf3, rf4, rf5, rf6, rf7]
  have fr1 : Fr h.length h h1 := ⟨by have := f1.len; simp at this; omega, fun i hi => by rw [f1.eq i (by omega)]; exact List.getElem?_append_left hi⟩
  have b1 : RunAt (h1.set h.length (.ins "Run" (runFs h.length P.d w.d 0 "" .non .non))) h.length [] P w (rs0 s g) := ⟨gs _, StAt.out (x := rs0 s g) a1⟩
  have one := hP.one
  have o0 := rs0_ok hs hgi
  refine wp_loopW (RI h.length P w s g gd h) (fun n Γ h2 i => ?_) 1000000 402 _ _ (by omega) ⟨[], rs0 s g, .int (0 : Nat), rfl, b1, o0, fr1.trans (.set (Nat.le_refl _)), .inl ⟨rfl, Nat.zero_le _, 0, rfl, one, Nat.sub_le _ _, rfl⟩⟩
  obtain ⟨ids, y, bd, rfl, b, oy, fr, c⟩ := i
  have bo := b.o
  rcases c with ⟨c1, c2, bl, rfl, c4, c5, c6⟩ | ⟨c1, c2⟩
  · simp [bo, c1, wp_gMeth_]
    cases n with
    | zero => omega
    | succ n =>
    refine ⟨n, rfl, ?_⟩
    obtain ⟨t1, t2⟩ := through_ok (w := w) hP c4 oy c2 c1
    refine go_through_ok b c1 oy c2 hP c4 hw fun h3 ids3 b3 f3 => ?_
    rw [runM] at c6
    cases et : through P w bl y with
    | mk z gg =>
      rw [et] at b3 t1 t2
      simp only [et] at c6
      cases gg with
      | none =>
        simp only [] at c6 b3 t1 ⊢
        exact ⟨ids3, z, .non, rfl, b3, t1, fr.trans f3, .inr ⟨through_stop c4 et c1 oy c2, c6⟩⟩
      | some b' =>
        obtain ⟨u1, u2, u3, u4⟩ := t2 b' rfl
        simp only [] at c6 b3 t1 u2 u3 u4 ⊢
        exact ⟨ids3, z, _, rfl, b3, t1, fr.trans f3, .inl ⟨u2, u3, b', rfl, u1, by omega, c6⟩⟩
  · simp [bo, c1]
    subst c2
    exact q _ ⟨⟨ids, b⟩, oy, c1⟩ fr
/-! ### programs are let by -/
section
variable {h : PH} {Q : D → PH → Prop}
def kindD (k : Nat) : List (Key × D) := [(.inr "n", .int 6), (.inr "h", .int 4), (.inr "b", .int (k : Int))]
theorem kindD_eq {k : Nat} : mergeD [] [(.inr "n", D.int 6), (.inr "h", D.int 4), (.inr "b", D.int (k : Int))] = kindD k := by kernel_rfl
theorem kindD_n {k : Nat} : getD_ (kindD k) (.inr "n") = some (.int 6) := by kernel_rfl
theorem kindD_h {k : Nat} : getD_ (kindD k) (.inr "h") = some (.int 4) := by kernel_rfl
theorem kindD_b {k : Nat} : getD_ (kindD k) (.inr "b") = some (.int (k : Int)) := by kernel_rfl
theorem part_c {i : Int} {k : Nat} (h1 : -99 ≤ i) (h2 : i ≤ 999) : wp (f_is_part [.int i, .str "c", .int k] h) Q = Q (.bl true) h := by
  simp only [f_is_part, wp_fnM]
  simp [b_is_part, is_number_ok, h1, h2]
theorem part_n {i k : Nat} (hi : i < 6) : wp (f_is_part [.int i, .str "n", .int k] h) Q = Q (.bl true) (h ++ [.dct (kindD k)]) := by
  have h1 : (i : Int) ≤ 6 - 1 := by omega
  simp only [f_is_part, wp_fnM]
  simp [b_is_part, is_number_ok, kindD_eq, wp_ixRef, kindD_n]
  simp [show (i : Int) ≤ 5 by omega]
theorem part_h {i k : Nat} (hi : i < 4) : wp (f_is_part [.int i, .str "h", .int k] h) Q = Q (.bl true) (h ++ [.dct (kindD k)]) := by
  simp only [f_is_part, wp_fnM]
  simp [b_is_part, is_number_ok, kindD_eq, wp_ixRef, kindD_h]
  simp [show (i : Int) ≤ 3 by omega]
theorem part_b {i k : Nat} (hi : i < k) : wp (f_is_part [.int i, .str "b", .int k] h) Q = Q (.bl true) (h ++ [.dct (kindD k)]) := by
  simp only [f_is_part, wp_fnM]
  simp [b_is_part, is_number_ok, kindD_eq, wp_ixRef, kindD_b]
  simp [show (i : Int) ≤ (k : Int) - 1 by omega]
theorem flen_e : wp (dLen (.str "") h) Q = Q (.int 0) h := by kernel_rfl
theorem flen_b : wp (dLen (.str "b") h) Q = Q (.int 1) h := by kernel_rfl
theorem fix_b0 : wp (dIx (.str "b") (.int 0) h) Q = Q (.str "b") h := by kernel_rfl
theorem flen_h : wp (dLen (.str "h") h) Q = Q (.int 1) h := by kernel_rfl
theorem fix_h0 : wp (dIx (.str "h") (.int 0) h) Q = Q (.str "h") h := by kernel_rfl
theorem flen_hh : wp (dLen (.str "hh") h) Q = Q (.int 2) h := by kernel_rfl
theorem fix_hh0 : wp (dIx (.str "hh") (.int 0) h) Q = Q (.str "h") h := by kernel_rfl
theorem fix_hh1 : wp (dIx (.str "hh") (.int 1) h) Q = Q (.str "h") h := by kernel_rfl
theorem flen_hhn : wp (dLen (.str "hhn") h) Q = Q (.int 3) h := by kernel_rfl
theorem fix_hhn0 : wp (dIx (.str "hhn") (.int 0) h) Q = Q (.str "h") h := by kernel_rfl
theorem fix_hhn1 : wp (dIx (.str "hhn") (.int 1) h) Q = Q (.str "h") h := by kernel_rfl
theorem fix_hhn2 : wp (dIx (.str "hhn") (.int 2) h) Q = Q (.str "n") h := by kernel_rfl
theorem flen_hn : wp (dLen (.str "hn") h) Q = Q (.int 2) h := by kernel_rfl
theorem fix_hn0 : wp (dIx (.str "hn") (.int 0) h) Q = Q (.str "h") h := by kernel_rfl
theorem fix_hn1 : wp (dIx (.str "hn") (.int 1) h) Q = Q (.str "n") h := by kernel_rfl
theorem flen_hnn : wp (dLen (.str "hnn") h) Q = Q (.int 3) h := by kernel_rfl
theorem fix_hnn0 : wp (dIx (.str "hnn") (.int 0) h) Q = Q (.str "h") h := by kernel_rfl
theorem fix_hnn1 : wp (dIx (.str "hnn") (.int 1) h) Q = Q (.str "n") h := by kernel_rfl
theorem fix_hnn2 : wp (dIx (.str "hnn") (.int 2) h) Q = Q (.str "n") h := by kernel_rfl
theorem flen_n : wp (dLen (.str "n") h) Q = Q (.int 1) h := by kernel_rfl
theorem fix_n0 : wp (dIx (.str "n") (.int 0) h) Q = Q (.str "n") h := by kernel_rfl
theorem flen_nbb : wp (dLen (.str "nbb") h) Q = Q (.int 3) h := by kernel_rfl
theorem fix_nbb0 : wp (dIx (.str "nbb") (.int 0) h) Q = Q (.str "n") h := by kernel_rfl
theorem fix_nbb1 : wp (dIx (.str "nbb") (.int 1) h) Q = Q (.str "b") h := by kernel_rfl
theorem fix_nbb2 : wp (dIx (.str "nbb") (.int 2) h) Q = Q (.str "b") h := by kernel_rfl
theorem flen_nc : wp (dLen (.str "nc") h) Q = Q (.int 2) h := by kernel_rfl
theorem fix_nc0 : wp (dIx (.str "nc") (.int 0) h) Q = Q (.str "n") h := by kernel_rfl
theorem fix_nc1 : wp (dIx (.str "nc") (.int 1) h) Q = Q (.str "c") h := by kernel_rfl
theorem flen_nhn : wp (dLen (.str "nhn") h) Q = Q (.int 3) h := by kernel_rfl
theorem fix_nhn0 : wp (dIx (.str "nhn") (.int 0) h) Q = Q (.str "n") h := by kernel_rfl
theorem fix_nhn1 : wp (dIx (.str "nhn") (.int 1) h) Q = Q (.str "h") h := by kernel_rfl
theorem fix_nhn2 : wp (dIx (.str "nhn") (.int 2) h) Q = Q (.str "n") h := by kernel_rfl
theorem flen_nnn : wp (dLen (.str "nnn") h) Q = Q (.int 3) h := by kernel_rfl
theorem fix_nnn0 : wp (dIx (.str "nnn") (.int 0) h) Q = Q (.str "n") h := by kernel_rfl
theorem fix_nnn1 : wp (dIx (.str "nnn") (.int 1) h) Q = Q (.str "n") h := by kernel_rfl
theorem fix_nnn2 : wp (dIx (.str "nnn") (.int 2) h) Q = Q (.str "n") h := by kernel_rfl
theorem tab_put : wp (dGet tab_FORMS (.str "put") h) Q = Q (.str "nc") h := by kernel_rfl
theorem tab_add : wp (dGet tab_FORMS (.str "add") h) Q = Q (.str "nnn") h := by kernel_rfl
theorem tab_less : wp (dGet tab_FORMS (.str "less") h) Q = Q (.str "nnn") h := by kernel_rfl
theorem tab_ask : wp (dGet tab_FORMS (.str "ask") h) Q = Q (.str "n") h := by kernel_rfl
theorem tab_say : wp (dGet tab_FORMS (.str "say") h) Q = Q (.str "n") h := by kernel_rfl
theorem tab_room : wp (dGet tab_FORMS (.str "room") h) Q = Q (.str "hn") h := by kernel_rfl
theorem tab_free : wp (dGet tab_FORMS (.str "free") h) Q = Q (.str "h") h := by kernel_rfl
theorem tab_get : wp (dGet tab_FORMS (.str "get") h) Q = Q (.str "nhn") h := by kernel_rfl
theorem tab_set : wp (dGet tab_FORMS (.str "set") h) Q = Q (.str "hnn") h := by kernel_rfl
theorem tab_shift : wp (dGet tab_FORMS (.str "shift") h) Q = Q (.str "hhn") h := by kernel_rfl
theorem tab_move : wp (dGet tab_FORMS (.str "move") h) Q = Q (.str "hh") h := by kernel_rfl
theorem tab_check : wp (dGet tab_FORMS (.str "check") h) Q = Q (.str "") h := by kernel_rfl
theorem tab_go : wp (dGet tab_ENDS (.str "go") h) Q = Q (.str "b") h := by kernel_rfl
theorem tab_if : wp (dGet tab_ENDS (.str "if") h) Q = Q (.str "nbb") h := by kernel_rfl
theorem tab_end : wp (dGet tab_ENDS (.str "end") h) Q = Q (.str "") h := by kernel_rfl
theorem eqNil : wp (dEq (.lst []) (.lst []) h) Q = Q (.bl true) h := by
  rw [wp_dEq]
  simp [dat, datL, PyData.eqv, PyData.eqvAll, PyData.depth, PyData.depthAll]
theorem neTup {x : Str} {xs : List D} {ps : List PyData} (e : datL (rfH h) xs = some ps) : wp (dNe (.tup (.str x :: xs)) (.tup []) h) Q = Q (.bl true) h := by
  rw [wp_dNe]
  simp [dat, datL, e, PyData.eqv, PyData.eqvAll, PyData.depth, PyData.depthAll]
theorem worded {x : Str} {xs : List Int} : wp (f_is_worded [.tup (.str x :: xs.map D.int)] h) Q = Q (.bl true) h := by
  have e : ∀ Q, wp (dNe (.tup (.str x :: xs.map D.int)) (.tup []) h) Q = Q (.bl true) h := fun Q => neTup (datL_ints xs)
  simp only [f_is_worded, wp_fnM]
  simp [b_is_worded, e]
theorem worded0 {x : Str} : wp (f_is_worded [.tup [.str x]] h) Q = Q (.bl true) h := worded (xs := [])
theorem worded1 {x : Str} {a : Int} : wp (f_is_worded [.tup [.str x, .int a]] h) Q = Q (.bl true) h := worded (xs := [a])
theorem worded2 {x : Str} {a b : Int} : wp (f_is_worded [.tup [.str x, .int a, .int b]] h) Q = Q (.bl true) h := worded (xs := [a, b])
theorem worded3 {x : Str} {a b c : Int} : wp (f_is_worded [.tup [.str x, .int a, .int b, .int c]] h) Q = Q (.bl true) h := worded (xs := [a, b, c])
theorem rng0 : rngD 0 0 = [] := by kernel_rfl
theorem rng1 : rngD 0 1 = [.int 0] := by kernel_rfl
theorem rng2 : rngD 0 2 = [.int 0, .int 1] := by kernel_rfl
theorem rng3 : rngD 0 3 = [.int 0, .int 1, .int 2] := by kernel_rfl
theorem form_e {x : Str} {k : Nat}   : wp (f_has_form [.tup [.str x], .str "", .int k] h) Q = Q (.bl true) (h ++ []) := by
  simp only [f_has_form, wp_fnM]
  have e : ∀ (Γ : Sw.Env) (h : PH) Q, Γ[1]? = some (some (D.str "")) → wp (rg1 (g1 dLen (gV 1)) Γ h) Q = Q (.vals (rngD 0 0)) h := fun Γ h Q q => by
    rw [wp_rg1 (j := 0)]
    · rfl
    · intro Q
      simp [lkE_at q, flen_e]
    · omega
  simp [b_has_form, flen_e]
  rw [wp_lCompS (fun Q => e _ _ _ rfl)]
  simp [rng0, wipeE, eqNil]
theorem form_b {x : Str} {k : Nat} {a : Nat} (ha : a < k) : wp (f_has_form [.tup [.str x, .int a], .str "b", .int k] h) Q = Q (.bl true) (h ++ [.dct (kindD k)]) := by
  simp only [f_has_form, wp_fnM]
  have e : ∀ (Γ : Sw.Env) (h : PH) Q, Γ[1]? = some (some (D.str "b")) → wp (rg1 (g1 dLen (gV 1)) Γ h) Q = Q (.vals (rngD 0 1)) h := fun Γ h Q q => by
    rw [wp_rg1 (j := 1)]
    · rfl
    · intro Q
      simp [lkE_at q, flen_b]
    · omega
  simp [b_has_form, flen_b]
  rw [wp_lCompS (fun Q => e _ _ _ rfl)]
  simp [rng1, wipeE, fix_b0, eqNil, part_b ha]
theorem form_h {x : Str} {k : Nat} {a : Nat} (ha : a < 4) : wp (f_has_form [.tup [.str x, .int a], .str "h", .int k] h) Q = Q (.bl true) (h ++ [.dct (kindD k)]) := by
  simp only [f_has_form, wp_fnM]
  have e : ∀ (Γ : Sw.Env) (h : PH) Q, Γ[1]? = some (some (D.str "h")) → wp (rg1 (g1 dLen (gV 1)) Γ h) Q = Q (.vals (rngD 0 1)) h := fun Γ h Q q => by
    rw [wp_rg1 (j := 1)]
    · rfl
    · intro Q
      simp [lkE_at q, flen_h]
    · omega
  simp [b_has_form, flen_h]
  rw [wp_lCompS (fun Q => e _ _ _ rfl)]
  simp [rng1, wipeE, fix_h0, eqNil, part_h ha]
theorem form_hh {x : Str} {k : Nat} {a : Nat} {b : Nat} (ha : a < 4) (hb : b < 4) : wp (f_has_form [.tup [.str x, .int a, .int b], .str "hh", .int k] h) Q = Q (.bl true) (h ++ [.dct (kindD k), .dct (kindD k)]) := by
  simp only [f_has_form, wp_fnM]
  have e : ∀ (Γ : Sw.Env) (h : PH) Q, Γ[1]? = some (some (D.str "hh")) → wp (rg1 (g1 dLen (gV 1)) Γ h) Q = Q (.vals (rngD 0 2)) h := fun Γ h Q q => by
    rw [wp_rg1 (j := 2)]
    · rfl
    · intro Q
      simp [lkE_at q, flen_hh]
    · omega
  simp [b_has_form, flen_hh]
  rw [wp_lCompS (fun Q => e _ _ _ rfl)]
  simp [rng2, wipeE, fix_hh0, fix_hh1, eqNil, part_h ha, part_h hb]
theorem form_hhn {x : Str} {k : Nat} {a : Nat} {b : Nat} {c : Nat} (ha : a < 4) (hb : b < 4) (hc : c < 6) : wp (f_has_form [.tup [.str x, .int a, .int b, .int c], .str "hhn", .int k] h) Q = Q (.bl true) (h ++ [.dct (kindD k), .dct (kindD k), .dct (kindD k)]) := by
  simp only [f_has_form, wp_fnM]
  have e : ∀ (Γ : Sw.Env) (h : PH) Q, Γ[1]? = some (some (D.str "hhn")) → wp (rg1 (g1 dLen (gV 1)) Γ h) Q = Q (.vals (rngD 0 3)) h := fun Γ h Q q => by
    rw [wp_rg1 (j := 3)]
    · rfl
    · intro Q
      simp [lkE_at q, flen_hhn]
    · omega
  simp [b_has_form, flen_hhn]
  rw [wp_lCompS (fun Q => e _ _ _ rfl)]
  simp [rng3, wipeE, fix_hhn0, fix_hhn1, fix_hhn2, eqNil, part_h ha, part_h hb, part_n hc]
theorem form_hn {x : Str} {k : Nat} {a : Nat} {b : Nat} (ha : a < 4) (hb : b < 6) : wp (f_has_form [.tup [.str x, .int a, .int b], .str "hn", .int k] h) Q = Q (.bl true) (h ++ [.dct (kindD k), .dct (kindD k)]) := by
  simp only [f_has_form, wp_fnM]
  have e : ∀ (Γ : Sw.Env) (h : PH) Q, Γ[1]? = some (some (D.str "hn")) → wp (rg1 (g1 dLen (gV 1)) Γ h) Q = Q (.vals (rngD 0 2)) h := fun Γ h Q q => by
    rw [wp_rg1 (j := 2)]
    · rfl
    · intro Q
      simp [lkE_at q, flen_hn]
    · omega
  simp [b_has_form, flen_hn]
  rw [wp_lCompS (fun Q => e _ _ _ rfl)]
  simp [rng2, wipeE, fix_hn0, fix_hn1, eqNil, part_h ha, part_n hb]
theorem form_hnn {x : Str} {k : Nat} {a : Nat} {b : Nat} {c : Nat} (ha : a < 4) (hb : b < 6) (hc : c < 6) : wp (f_has_form [.tup [.str x, .int a, .int b, .int c], .str "hnn", .int k] h) Q = Q (.bl true) (h ++ [.dct (kindD k), .dct (kindD k), .dct (kindD k)]) := by
  simp only [f_has_form, wp_fnM]
  have e : ∀ (Γ : Sw.Env) (h : PH) Q, Γ[1]? = some (some (D.str "hnn")) → wp (rg1 (g1 dLen (gV 1)) Γ h) Q = Q (.vals (rngD 0 3)) h := fun Γ h Q q => by
    rw [wp_rg1 (j := 3)]
    · rfl
    · intro Q
      simp [lkE_at q, flen_hnn]
    · omega
  simp [b_has_form, flen_hnn]
  rw [wp_lCompS (fun Q => e _ _ _ rfl)]
  simp [rng3, wipeE, fix_hnn0, fix_hnn1, fix_hnn2, eqNil, part_h ha, part_n hb, part_n hc]
theorem form_n {x : Str} {k : Nat} {a : Nat} (ha : a < 6) : wp (f_has_form [.tup [.str x, .int a], .str "n", .int k] h) Q = Q (.bl true) (h ++ [.dct (kindD k)]) := by
  simp only [f_has_form, wp_fnM]
  have e : ∀ (Γ : Sw.Env) (h : PH) Q, Γ[1]? = some (some (D.str "n")) → wp (rg1 (g1 dLen (gV 1)) Γ h) Q = Q (.vals (rngD 0 1)) h := fun Γ h Q q => by
    rw [wp_rg1 (j := 1)]
    · rfl
    · intro Q
      simp [lkE_at q, flen_n]
    · omega
  simp [b_has_form, flen_n]
  rw [wp_lCompS (fun Q => e _ _ _ rfl)]
  simp [rng1, wipeE, fix_n0, eqNil, part_n ha]
theorem form_nbb {x : Str} {k : Nat} {a : Nat} {b : Nat} {c : Nat} (ha : a < 6) (hb : b < k) (hc : c < k) : wp (f_has_form [.tup [.str x, .int a, .int b, .int c], .str "nbb", .int k] h) Q = Q (.bl true) (h ++ [.dct (kindD k), .dct (kindD k), .dct (kindD k)]) := by
  simp only [f_has_form, wp_fnM]
  have e : ∀ (Γ : Sw.Env) (h : PH) Q, Γ[1]? = some (some (D.str "nbb")) → wp (rg1 (g1 dLen (gV 1)) Γ h) Q = Q (.vals (rngD 0 3)) h := fun Γ h Q q => by
    rw [wp_rg1 (j := 3)]
    · rfl
    · intro Q
      simp [lkE_at q, flen_nbb]
    · omega
  simp [b_has_form, flen_nbb]
  rw [wp_lCompS (fun Q => e _ _ _ rfl)]
  simp [rng3, wipeE, fix_nbb0, fix_nbb1, fix_nbb2, eqNil, part_n ha, part_b hb, part_b hc]
theorem form_nc {x : Str} {k : Nat} {a : Nat} {b : Int} (ha : a < 6) (hb : -99 ≤ b ∧ b ≤ 999) : wp (f_has_form [.tup [.str x, .int a, .int b], .str "nc", .int k] h) Q = Q (.bl true) (h ++ [.dct (kindD k)]) := by
  simp only [f_has_form, wp_fnM]
  have e : ∀ (Γ : Sw.Env) (h : PH) Q, Γ[1]? = some (some (D.str "nc")) → wp (rg1 (g1 dLen (gV 1)) Γ h) Q = Q (.vals (rngD 0 2)) h := fun Γ h Q q => by
    rw [wp_rg1 (j := 2)]
    · rfl
    · intro Q
      simp [lkE_at q, flen_nc]
    · omega
  simp [b_has_form, flen_nc]
  rw [wp_lCompS (fun Q => e _ _ _ rfl)]
  simp [rng2, wipeE, fix_nc0, fix_nc1, eqNil, part_n ha, part_c hb.1 hb.2]
theorem form_nhn {x : Str} {k : Nat} {a : Nat} {b : Nat} {c : Nat} (ha : a < 6) (hb : b < 4) (hc : c < 6) : wp (f_has_form [.tup [.str x, .int a, .int b, .int c], .str "nhn", .int k] h) Q = Q (.bl true) (h ++ [.dct (kindD k), .dct (kindD k), .dct (kindD k)]) := by
  simp only [f_has_form, wp_fnM]
  have e : ∀ (Γ : Sw.Env) (h : PH) Q, Γ[1]? = some (some (D.str "nhn")) → wp (rg1 (g1 dLen (gV 1)) Γ h) Q = Q (.vals (rngD 0 3)) h := fun Γ h Q q => by
    rw [wp_rg1 (j := 3)]
    · rfl
    · intro Q
      simp [lkE_at q, flen_nhn]
    · omega
  simp [b_has_form, flen_nhn]
  rw [wp_lCompS (fun Q => e _ _ _ rfl)]
  simp [rng3, wipeE, fix_nhn0, fix_nhn1, fix_nhn2, eqNil, part_n ha, part_h hb, part_n hc]
theorem form_nnn {x : Str} {k : Nat} {a : Nat} {b : Nat} {c : Nat} (ha : a < 6) (hb : b < 6) (hc : c < 6) : wp (f_has_form [.tup [.str x, .int a, .int b, .int c], .str "nnn", .int k] h) Q = Q (.bl true) (h ++ [.dct (kindD k), .dct (kindD k), .dct (kindD k)]) := by
  simp only [f_has_form, wp_fnM]
  have e : ∀ (Γ : Sw.Env) (h : PH) Q, Γ[1]? = some (some (D.str "nnn")) → wp (rg1 (g1 dLen (gV 1)) Γ h) Q = Q (.vals (rngD 0 3)) h := fun Γ h Q q => by
    rw [wp_rg1 (j := 3)]
    · rfl
    · intro Q
      simp [lkE_at q, flen_nnn]
    · omega
  simp [b_has_form, flen_nnn]
  rw [wp_lCompS (fun Q => e _ _ _ rfl)]
  simp [rng3, wipeE, fix_nnn0, fix_nnn1, fix_nnn2, eqNil, part_n ha, part_n hb, part_n hc]
theorem is_row_ok {r : Rw} {k : Nat} (hr : r.ok) (q : ∀ x, Q (.bl true) (h ++ x)) : wp (f_is_row [r.d, .int k] h) Q := by
  simp only [f_is_row, wp_fnM]
  cases r with
  | put n c => simp [b_is_row, Rw.d, worded2, tab_put, form_nc hr.1 hr.2]; exact q _
  | add a b c => simp [b_is_row, Rw.d, worded3, tab_add, form_nnn hr.1 hr.2.1 hr.2.2]; exact q _
  | less a b c => simp [b_is_row, Rw.d, worded3, tab_less, form_nnn hr.1 hr.2.1 hr.2.2]; exact q _
  | ask a => simp [b_is_row, Rw.d, worded1, tab_ask, form_n hr]; exact q _
  | say a => simp [b_is_row, Rw.d, worded1, tab_say, form_n hr]; exact q _
  | room a b => simp [b_is_row, Rw.d, worded2, tab_room, form_hn hr.1 hr.2]; exact q _
  | free a => simp [b_is_row, Rw.d, worded1, tab_free, form_h hr]; exact q _
  | get a b c => simp [b_is_row, Rw.d, worded3, tab_get, form_nhn hr.1 hr.2.1 hr.2.2]; exact q _
  | set a b c => simp [b_is_row, Rw.d, worded3, tab_set, form_hnn hr.1 hr.2.1 hr.2.2]; exact q _
  | shift a b c => simp [b_is_row, Rw.d, worded3, tab_shift, form_hhn hr.1 hr.2.1 hr.2.2]; exact q _
  | move a b => simp [b_is_row, Rw.d, worded2, tab_move, form_hh hr.1 hr.2]; exact q _
  | chk  => simp [b_is_row, Rw.d, worded0, tab_check, form_e]; simpa using q []
theorem is_end_ok {e : Ed} {k : Nat} (he : e.ok k) (q : ∀ x, Q (.bl true) (h ++ x)) : wp (f_is_end [e.d, .int k] h) Q := by
  simp only [f_is_end, wp_fnM]
  cases e with
  | go a => have he : a < k := he; simp [b_is_end, Ed.d, worded1, tab_go, form_b he]; exact q _
  | ife n a c => simp [b_is_end, Ed.d, worded3, tab_if, form_nbb he.1 he.2.1 he.2.2]; exact q _
  | fin => simp [b_is_end, Ed.d, worded0, tab_end, form_e]; simpa using q []
end
/-! ### whole programs -/
section
variable {h : PH} {Q : D → PH → Prop}
theorem is_touch_ok {r : Rw} : wp (f_is_touch [r.d] h) Q = Q (.bl r.isT) h := by
  simp only [f_is_touch, wp_fnM]
  cases r <;> simp [b_is_touch, Rw.d, Rw.isT]
theorem Fr.h_app {h x : PH} : Fr h.length h (h ++ x) := .app (Nat.le_refl _)
theorem Fr.step {h h1 h2 : PH} {n : Nat} (a : Fr n h h1) (b : Fr h1.length h1 h2) (hn : n ≤ h.length) : Fr n h h2 := a.trans (b.mono (Nat.le_trans hn a.len))
theorem ahead_ok {rs : List Rw} {i k : Nat} (hj : i + 1 < rs.length) (hr : rs[i + 1].ok) (ht : rs[i + 1].isT = true) (q : ∀ x, Q (.bl true) (h ++ x)) : wp (f_is_ahead_of_touch [.tup (rs.map Rw.d), .int i, .int k] h) Q := by
  have e1 : atI (rs.map Rw.d) ((i : Int) + 1) = some rs[i + 1].d := rows_at hj
  simp only [f_is_ahead_of_touch, wp_fnM]
  simp [b_is_ahead_of_touch, e1, show (i : Int) + 1 < (rs.length : Int) by omega]
  refine is_row_ok hr fun x => ?_
  simp [e1, is_touch_ok, ht, q]
theorem bare_len {rs : List Rw} {i : Nat} (hi : i < rs.length) : (bare (rs.take (i + 1))).length = (bare (rs.take i)).length + (if rs[i] = .chk then 0 else 1) := by
  unfold bare
  rw [List.take_succ_eq_append_getElem hi, List.filter_append, List.length_append]
  by_cases e : rs[i] = .chk <;> simp [e]
theorem bare_le {rs : List Rw} (i : Nat) : (bare (rs.take i)).length ≤ (bare rs).length := by
  unfold bare
  conv => rhs; rw [← List.take_append_drop i rs]
  rw [List.filter_append, List.length_append]
  omega
theorem bad_row_ok {rs : List Rw} {k left : Nat} (hr : ∀ r ∈ rs, r.ok) (hc : chkOk rs) (hl : (bare rs).length ≤ left) (hn : rs.length ≤ 120) (q : ∀ h', Fr h.length h h' → Q .non h') : wp (f_bad_row [.tup (rs.map Rw.d), .int k, .int left] h) Q := by
  simp only [f_bad_row, wp_fnM]
  simp only [b_bad_row, wp_sSeq]
  rw [wp_forV (xs := rngD 0 rs.length)]
  · refine wp_loopX (fun i Γ h' => Fr h.length h h' ∧ ∃ l o3, Γ = [some (.tup (rs.map Rw.d)), some (.int k), some (.int l), o3] ∧ l = (left : Int) - ((bare (rs.take i)).length : Int)) (fun i x Γ h1 g hv => ?_) (fun Γ h1 g => ?_) ⟨.refl, left, none, rfl, by simp [bare]⟩
    · obtain ⟨f, l, o3, rfl, el⟩ := g
      obtain ⟨hi, rfl⟩ := rng_get hv
      have e0 : (0 : Int) + (i : Int) = (i : Int) := by omega
      have hri := hr _ (List.getElem_mem hi)
      have e2 := rows_at hi
      have e3 : ∀ h Q, wp (dNe rs[i].d (.tup [.str "check"]) h) Q = Q (.bl (!decide (rs[i] = .chk))) h := fun h Q => neChk
      have e4 : ∀ h Q, wp (dEq rs[i].d (.tup [.str "check"]) h) Q = Q (.bl (decide (rs[i] = .chk))) h := fun h Q => eqChk
      have bl := bare_len hi
      have b2 := bare_le (rs := rs) (i + 1)
      rw [e0]
      simp [e2]
      refine is_row_ok hri fun x1 => ?_
      have f1 : Fr h.length h (h1 ++ x1) := f.step .h_app (Nat.le_refl _)
      by_cases ec : rs[i] = .chk
      · obtain ⟨hj, tj⟩ := chk_next hc hi ec
        rw [if_pos ec] at bl
        have hl0 : ¬ l < 0 := by omega
        simp [e2, neChk, eqChk, ec, hl0]
        refine ahead_ok hj (hr _ (List.getElem_mem hj)) tj fun x2 => ?_
        simp
        refine ⟨f.step .h_app (Nat.le_refl _), ?_⟩
        omega
      · rw [if_neg ec] at bl
        have hl0 : ¬ l - 1 < 0 := by omega
        simp [e2, neChk, eqChk, ec, hl0]
        exact ⟨f1, by omega⟩
    · obtain ⟨f, l, o3, rfl, el⟩ := g
      simp
      exact q h1 f
  · intro Q
    rw [wp_rg1 (j := (rs.length : Int))]
    · rw [Int.toNat_natCast]
    · intro Q
      simp
    · omega
def gBare (d : D) : List D := match d with
  | .tup [.str s] => if s = "check" then [] else [d]
  | _ => [d]
theorem gBare_d {r : Rw} : gBare r.d = if r = .chk then [] else [r.d] := by
  cases r <;> simp [Rw.d, gBare]
theorem flat_bare : ∀ rs : List Rw, (rs.map Rw.d).flatMap gBare = (bare rs).map Rw.d
  | [] => rfl
  | r :: rs => by
    rw [List.map_cons, List.flatMap_cons, flat_bare rs, gBare_d]
    unfold bare
    by_cases e : r = .chk <;> simp [e]
/-- [row for row in rows if row != CHECK] -/
theorem lComp_bare {vs : List Nat} {it : Sw.Env → M Itm} {tt : TM} {el : EM} {Γ : Sw.Env} {rs : List Rw} {Q : List D → PH → Prop} {tg : GM} (hn : rs.length ≤ 120) (ei : ∀ Q, wp (it Γ h) Q = wp (itD (.tup (rs.map Rw.d)) h) Q)
    (e : ∀ (r : Rw) Q, wp (oneC tg tt el (wipeE Γ vs) r.d h) Q = Q (if r = .chk then [] else [r.d]) h) : wp (lComp vs it tg tt el Γ h) Q = Q ((bare rs).map Rw.d) h := by
  rw [lComp_V (xs := rs.map Rw.d) (g := gBare)]
  · rw [flat_bare]
  · intro Q
    rw [ei]
    simp [show rs.length ≤ 16777216 by omega]
  · intro x hx Q
    obtain ⟨r, hr, rfl⟩ := List.mem_map.mp hx
    rw [e, gBare_d]
theorem need_program_ok {P : Pg} (hP : P.ok) (q : ∀ h', Fr h.length h h' → Q .non h') : wp (f_need_program [P.d] h) Q := by
  have p1 : (1 : Int) ≤ (P.length : Int) := by have := hP.one; omega
  have p2 : (P.length : Int) ≤ 12 := by have := hP.most; omega
  simp only [f_need_program, wp_fnM]
  simp [b_need_program, Pg.d, p1, p2]
  rw [wp_forV (xs := rngD 0 P.length)]
  · refine wp_loopX (fun i Γ h' => Fr h.length h h' ∧ ∃ l o2 o3 o4 o5 o6 o7, Γ = [some (.tup (P.map blkD)), some (.int l), o2, o3, o4, o5, o6, o7] ∧ l = 60 - (((P.take i).map fun b => (bare b.1).length).sum : Nat)) (fun i x Γ h1 g hv => ?_) (fun Γ h1 g => ?_) ⟨.refl, 60, none, none, none, none, none, none, rfl, by simp⟩
    · obtain ⟨f, l, o2, o3, o4, o5, o6, o7, rfl, el⟩ := g
      obtain ⟨hi, rfl⟩ := rng_get hv
      have e0 : (0 : Int) + (i : Int) = (i : Int) := by omega
      have hbm : P[i] ∈ P := List.getElem_mem hi
      have es : ((P.take (i + 1)).map fun b => (bare b.1).length).sum = ((P.take i).map fun b => (bare b.1).length).sum + (bare P[i].1).length := by
        rw [List.take_succ_eq_append_getElem hi, List.map_append, List.sum_append]
        simp only [List.map_cons, List.map_nil, List.sum_cons, List.sum_nil]
        omega
      have es2 : ((P.take (i + 1)).map fun b => (bare b.1).length).sum ≤ (P.map fun b => (bare b.1).length).sum := by
        conv => rhs; rw [← List.take_append_drop (i + 1) P]
        rw [List.map_append, List.sum_append]
        omega
      have fw := hP.few
      have fr := few_rows hP hbm
      simp only [List.map_take] at es es2 el
      rw [e0]
      simp [pg_at hi]
      obtain ⟨left, hleft⟩ : ∃ left : Nat, l = (left : Int) := ⟨l.toNat, by omega⟩
      rw [hleft]
      refine bad_row_ok (hP.rows _ hbm) (hP.chk _ hbm) (by omega) fr fun h2 f2 => ?_
      simp
      refine is_end_ok (hP.ends _ hbm) fun x3 => ?_
      simp
      rw [lComp_bare fr (fun Q => by simp) (fun r Q => by by_cases e : r = .chk <;> simp [wipeE, neChk, e])]
      simp
      exact ⟨(f.step f2 (Nat.le_refl _)).step .h_app (Nat.le_refl _), by omega⟩
    · obtain ⟨f, l, o2, o3, o4, o5, o6, o7, rfl, el⟩ := g
      exact q h1 f
  · intro Q
    rw [wp_rg1 (j := (P.length : Int))]
    · rw [Int.toNat_natCast]
    · intro Q
      simp
    · omega
theorem need_input_ok {g : List Int} {gd : D} (hg : GivD h gd g) (hi : inOk g) : wp (f_need_input [gd] h) Q = Q .non h := by
  have el : ∀ Q, wp (dLen gd h) Q = Q (.int (g.length : Int)) h := fun Q => by
    have : (g.length : Int) = ((iD g).length : Int) := by rw [iD_len]
    rw [this]
    rcases hg with rfl | ⟨n, rfl, e1⟩
    · rfl
    · exact wp_lenO e1
  have h20 : ¬ (20 : Int) < (g.length : Int) := by have := hi.1; omega
  have one : ∀ x ∈ iD g, ∃ i, x = .int i ∧ -99 ≤ i ∧ i ≤ 999 := fun x hx => by
    obtain ⟨i, hi', rfl⟩ := List.mem_map.mp hx
    exact ⟨i, rfl, hi.2 i hi'⟩
  have flat : ∀ xs : List D, xs.flatMap (fun _ => ([] : List D)) = [] := fun xs => by induction xs <;> simp_all
  have enil : ∀ Q, wp (dNe (.lst []) (.lst []) h) Q = Q (.bl false) h := fun Q => by
    rw [wp_dNe]
    simp [dat, datL, PyData.eqv, PyData.eqvAll, PyData.depth, PyData.depthAll]
  have elc : ∀ Q, wp (lComp [1] (gIt (gV 0)) (tgName 1) (tNt (tB (gCall f_is_number [(gV 1), (gC (.int (-99))), (gC (.int 999))]))) (gV 1) [some gd, none] h) Q = Q [] h := fun Q => by
    have es : ∀ x ∈ iD g, ∀ Q, wp (oneC (tgName 1) (tNt (tB (gCall f_is_number [(gV 1), (gC (.int (-99))), (gC (.int 999))]))) (gV 1) (wipeE [some gd, none] [1]) x h) Q = Q ((fun _ => ([] : List D)) x) h := fun x hx Q => by
      obtain ⟨i, rfl, h1, h2⟩ := one x hx
      simp [wipeE, is_number_ok, h1, h2]
    rcases hg with rfl | ⟨n, rfl, e1⟩
    · rw [lComp_V (xs := iD g) (g := fun _ => ([] : List D)) (fun Q => by simp [iD_len, show g.length ≤ 16777216 by have := hi.1; omega]) es, flat]
    · rw [lComp_R (n := n) (xs := iD g) (g := fun _ => ([] : List D)) (fun Q => by simp [wp_itO e1]) e1 (by rw [iD_len]; have := hi.1; omega) es, flat]
  simp only [f_need_input, wp_fnM]
  simp [b_need_input, el, h20, elc, enil]
theorem need_way_ok {w : Way} (hw : w.ok) : wp (f_need_way [w.d] h) Q = Q .non h := by
  simp only [f_need_way, wp_fnM]
  cases w with
  | bounds => simp [b_need_way, Way.d]
  | marks => simp [b_need_way, Way.d]
  | tags b =>
    have h1 : (1 : Int) ≤ (b : Int) := by have := hw.1; omega
    have h2 : (b : Int) ≤ 4 := by have := hw.2; omega
    have e : ∀ Q, wp (dIn (.tup [.str "tags", .int b]) (.tup [.str "bounds", .str "marks"]) h) Q = Q (.bl false) h := fun Q => by
      unfold dIn
      rw [wp_dInS (.inl ⟨_, rfl⟩)]
      simp [dat, datS, datL, seqD, PyData.eqv, PyData.eqvAll, PyData.depth, PyData.depthAll]
    simp [b_need_way, Way.d, e, is_number_ok, h1, h2]
/-! programs without checks, and with others -/
def plainP (P : Pg) : Pg := P.map fun b => (bare b.1, b.2)
theorem unchecked_ok {P : Pg} (hP : P.ok) : wp (f_unchecked [P.d] h) Q = Q (plainP P).d h := by
  have hm := hP.most
  simp only [f_unchecked, wp_fnM]
  simp only [b_unchecked, wp_sSeq, wp_sRet, wp_g1, wp_gVal, List.map_cons, List.map_nil]
  rw [lComp_V (xs := P.map blkD) (g := fun d => match d with
    | .tup [.tup rs, e] => [.tup [.tup (rs.flatMap gBare), e]]
    | _ => [])]
  · have e : (P.map blkD).flatMap (fun d => match d with
      | .tup [.tup rs, e] => [D.tup [.tup (rs.flatMap gBare), e]]
      | _ => []) = (plainP P).map blkD := by
      unfold plainP
      rw [List.map_map]
      clear hP hm
      induction P with
      | nil => rfl
      | cons b P ih =>
        rw [List.map_cons, List.flatMap_cons, ih, List.map_cons]
        simp [blkD, flat_bare]
    rw [e]
    simp [Pg.d]
  · intro Q
    simp [Pg.d, show P.length ≤ 16777216 by omega]
  · intro x hx Q
    obtain ⟨b, hb, rfl⟩ := List.mem_map.mp hx
    have fr := few_rows hP hb
    simp [blkD, wipeE]
    rw [lComp_bare fr (fun Q => by simp) (fun r Q => by by_cases e : r = .chk <;> simp [wipeE, neChk, e])]
    simp [flat_bare]
end
/-! ### programs with checks ahead of some -/
def ltD (l : List (Nat × Nat)) : D := .lst (l.map fun p => .tup [.int (p.1 : Int), .int (p.2 : Int)])
def addChk (left : List (Nat × Nat)) (blk : Nat) : Nat → List Rw → List Rw
  | _, [] => []
  | k, r :: rs => (if r.isT = true ∧ (blk, k) ∉ left then [.chk, r] else [r]) ++ addChk left blk (k + 1) rs
def checkP (left : List (Nat × Nat)) : Nat → Pg → Pg
  | _, [] => []
  | i, b :: P => (addChk left i 0 b.1, b.2) :: checkP left (i + 1) P
def checkedP (P : Pg) (left : List (Nat × Nat)) : Pg := checkP left 0 (plainP P)
theorem bare_no {rs : List Rw} : ∀ r ∈ bare rs, r ≠ .chk := fun r hr => by
  have := (List.mem_filter.mp hr).2
  simpa using this
theorem bare_self {rs : List Rw} (h : ∀ r ∈ rs, r ≠ .chk) : bare rs = rs := by
  unfold bare
  rw [List.filter_eq_self]
  intro r hr
  simpa using h r hr
theorem bare_bare {rs : List Rw} : bare (bare rs) = bare rs := bare_self bare_no
theorem bare_app {a b : List Rw} : bare (a ++ b) = bare a ++ bare b := by
  unfold bare
  rw [List.filter_append]
theorem addChk_bare {left : List (Nat × Nat)} {blk : Nat} : ∀ (k : Nat) (rs : List Rw), (∀ r ∈ rs, r ≠ .chk) → bare (addChk left blk k rs) = rs
  | _, [], _ => rfl
  | k, r :: rs, h => by
    have hr := h r List.mem_cons_self
    rw [addChk, bare_app, addChk_bare (k + 1) rs fun q hq => h q (List.mem_cons_of_mem _ hq)]
    split <;> simp [bare, hr]
theorem addChk_ok {left : List (Nat × Nat)} {blk : Nat} : ∀ (k : Nat) (rs : List Rw), (∀ r ∈ rs, r.ok) → ∀ r ∈ addChk left blk k rs, r.ok
  | _, [], _ => fun r hr => by cases hr
  | k, r :: rs, h => fun q hq => by
    have hr := h r List.mem_cons_self
    rw [addChk] at hq
    rcases List.mem_append.mp hq with hq | hq
    · split at hq
      · rcases List.mem_cons.mp hq with rfl | hq
        · exact True.intro
        · rw [List.mem_singleton.mp hq]
          exact hr
      · rw [List.mem_singleton.mp hq]
        exact hr
    · exact addChk_ok (k + 1) rs (fun q hq => h q (List.mem_cons_of_mem _ hq)) q hq
theorem chkOk_cons {r : Rw} {rs : List Rw} (hr : r ≠ .chk) (h : chkOk rs) : chkOk (r :: rs) := by
  cases r <;> first | exact h | exact (hr rfl).elim
theorem addChk_chk {left : List (Nat × Nat)} {blk : Nat} : ∀ (k : Nat) (rs : List Rw), (∀ r ∈ rs, r ≠ .chk) → chkOk (addChk left blk k rs)
  | _, [], _ => True.intro
  | k, r :: rs, h => by
    have hr := h r List.mem_cons_self
    have ih := addChk_chk (left := left) (blk := blk) (k + 1) rs fun q hq => h q (List.mem_cons_of_mem _ hq)
    rw [addChk]
    by_cases c : r.isT = true ∧ (blk, k) ∉ left
    · rw [if_pos c]
      exact ⟨c.1, chkOk_cons hr ih⟩
    · rw [if_neg c]
      exact chkOk_cons hr ih
theorem checkP_len {left : List (Nat × Nat)} : ∀ (i : Nat) (P : Pg), (checkP left i P).length = P.length
  | _, [] => rfl
  | i, b :: P => by rw [checkP, List.length_cons, List.length_cons, checkP_len (i + 1) P]
theorem checkP_get {left : List (Nat × Nat)} : ∀ (i : Nat) (P : Pg) (j : Nat), (checkP left i P)[j]? = P[j]?.map fun b => (addChk left (i + j) 0 b.1, b.2)
  | _, [], j => by simp [checkP]
  | i, b :: P, 0 => by simp [checkP]
  | i, b :: P, j + 1 => by
    rw [checkP, List.getElem?_cons_succ, checkP_get (i + 1) P j, List.getElem?_cons_succ]
    congr 2
    funext b
    rw [show i + 1 + j = i + (j + 1) by omega]
theorem checkP_mem {left : List (Nat × Nat)} : ∀ (i : Nat) (P : Pg) (b : List Rw × Ed), b ∈ checkP left i P → ∃ c j, c ∈ P ∧ b = (addChk left j 0 c.1, c.2)
  | _, [], b, h => by cases h
  | i, c :: P, b, h => by
    rw [checkP] at h
    rcases List.mem_cons.mp h with rfl | h
    · exact ⟨c, i, List.mem_cons_self, rfl⟩
    · obtain ⟨c', j, h1, h2⟩ := checkP_mem (i + 1) P b h
      exact ⟨c', j, List.mem_cons_of_mem _ h1, h2⟩
theorem plain_mem {P : Pg} {b : List Rw × Ed} (h : b ∈ plainP P) : ∃ c ∈ P, b = (bare c.1, c.2) := by
  obtain ⟨c, hc, e⟩ := List.mem_map.mp h
  exact ⟨c, hc, e.symm⟩
theorem plainP_ok {P : Pg} (hP : P.ok) : (plainP P).ok where
  one := by unfold plainP; rw [List.length_map]; exact hP.one
  most := by unfold plainP; rw [List.length_map]; exact hP.most
  rows := fun b hb r hr => by
    obtain ⟨c, hc, rfl⟩ := plain_mem hb
    exact hP.rows c hc r (List.mem_filter.mp hr).1
  ends := fun b hb => by
    obtain ⟨c, hc, rfl⟩ := plain_mem hb
    have := hP.ends c hc
    unfold plainP
    rw [List.length_map]
    exact this
  chk := fun b hb => by
    obtain ⟨c, hc, rfl⟩ := plain_mem hb
    have : ∀ rs : List Rw, (∀ r ∈ rs, r ≠ .chk) → chkOk rs := fun rs => by
      induction rs with
      | nil => intro _; exact True.intro
      | cons r rs ih => intro h; exact chkOk_cons (h r List.mem_cons_self) (ih fun q hq => h q (List.mem_cons_of_mem _ hq))
    exact this _ bare_no
  few := by
    have : (plainP P).map (fun b => (bare b.1).length) = P.map fun b => (bare b.1).length := by
      unfold plainP
      rw [List.map_map]
      refine List.map_congr_left fun b _ => ?_
      simp [bare_bare]
    rw [this]
    exact hP.few
theorem checkP_few {left : List (Nat × Nat)} : ∀ (i : Nat) (P : Pg), (∀ b ∈ P, ∀ r ∈ b.1, r ≠ .chk) → (checkP left i P).map (fun b => (bare b.1).length) = P.map fun b => (bare b.1).length
  | _, [], _ => rfl
  | i, b :: P, h => by
    have hb := h b List.mem_cons_self
    rw [checkP, List.map_cons, List.map_cons, checkP_few (i + 1) P fun c hc => h c (List.mem_cons_of_mem _ hc), addChk_bare 0 b.1 hb, bare_self hb]
theorem plain_no {P : Pg} : ∀ b ∈ plainP P, ∀ r ∈ b.1, r ≠ .chk := fun b hb r hr => by
  obtain ⟨c, hc, rfl⟩ := plain_mem hb
  exact bare_no r hr
theorem checkedP_ok {P : Pg} (hP : P.ok) (left : List (Nat × Nat)) : (checkedP P left).ok := by
  have hp := plainP_ok hP
  refine ⟨by unfold checkedP; rw [checkP_len]; exact hp.one, by unfold checkedP; rw [checkP_len]; exact hp.most, fun b hb r hr => ?_, fun b hb => ?_, fun b hb => ?_, ?_⟩
  · obtain ⟨c, j, hc, rfl⟩ := checkP_mem _ _ _ hb
    exact addChk_ok 0 c.1 (hp.rows c hc) r hr
  · obtain ⟨c, j, hc, rfl⟩ := checkP_mem _ _ _ hb
    unfold checkedP
    rw [checkP_len]
    exact hp.ends c hc
  · obtain ⟨c, j, hc, rfl⟩ := checkP_mem _ _ _ hb
    exact addChk_chk 0 c.1 (plain_no c hc)
  · unfold checkedP
    rw [checkP_few _ _ plain_no]
    exact hp.few
section
variable {h : PH} {Q : D → PH → Prop}
theorem eqv_pair {a b c d : Nat} : PyData.eqv (.tuple [.int (c : Int), .int (d : Int)]) (.tuple [.int (a : Int), .int (b : Int)]) = decide ((a, b) = (c, d)) := by
  have e1 : PyData.eqv (.tuple [.int (c : Int), .int (d : Int)]) (.tuple [.int (a : Int), .int (b : Int)]) = (((c : Int) == (a : Int)) && ((d : Int) == (b : Int))) := by
    simp [PyData.eqv, PyData.eqvAll]
  rw [e1]
  by_cases h1 : c = a
  · subst h1
    by_cases h2 : d = b
    · subst h2
      simp
    · have h3 : ¬ b = d := fun e => h2 e.symm
      have h4 : ¬ (d : Int) = (b : Int) := by omega
      simp [h3, h4]
  · have h3 : ¬ a = c := fun e => h1 e.symm
    have h4 : ¬ (c : Int) = (a : Int) := by omega
    simp [h3, h4]
theorem datL_lt {rf : Nat → Option PyData} : ∀ l : List (Nat × Nat), datL rf (l.map fun p => .tup [.int (p.1 : Int), .int (p.2 : Int)]) = some (l.map fun p => .tuple [.int (p.1 : Int), .int (p.2 : Int)])
  | [] => rfl
  | p :: l => by
    rw [List.map_cons]
    unfold datL
    rw [datL_lt l]
    simp [dat, datL]
theorem depth_lt : ∀ l : List (Nat × Nat), PyData.depthAll (l.map fun p => .tuple [.int (p.1 : Int), .int (p.2 : Int)]) ≤ 2
  | [] => by simp [PyData.depthAll]
  | p :: l => by
    have := depth_lt l
    rw [List.map_cons]
    unfold PyData.depthAll
    have : PyData.depth (.tuple [.int (p.1 : Int), .int (p.2 : Int)]) ≤ 2 := by simp [PyData.depth, PyData.depthAll]
    omega
theorem any_lt {a b : Nat} : ∀ l : List (Nat × Nat), ((l.map fun p => PyData.tuple [.int (p.1 : Int), .int (p.2 : Int)]).any fun z => PyData.eqv z (.tuple [.int (a : Int), .int (b : Int)])) = decide ((a, b) ∈ l)
  | [] => rfl
  | p :: l => by
    rw [List.map_cons, List.any_cons, any_lt l, eqv_pair]
    by_cases e : (a, b) = p <;> simp [e]
theorem in_lt {f : Bool → Bool} {a b : Nat} {l : List (Nat × Nat)} : wp (dInB f (.tup [.int (a : Int), .int (b : Int)]) (ltD l) h) Q = Q (.bl (f (decide ((a, b) ∈ l)))) h := by
  unfold ltD
  rw [wp_dInS (.inr ⟨_, rfl⟩)]
  have d1 := depth_lt l
  have e : dat (rfH h) (.tup [.int (a : Int), .int (b : Int)]) = some (.tuple [.int (a : Int), .int (b : Int)]) := by simp [dat, datL]
  have e2 : datS h (.lst (l.map fun p => .tup [.int (p.1 : Int), .int (p.2 : Int)])) = some (l.map fun p => .tuple [.int (p.1 : Int), .int (p.2 : Int)]) := by
    unfold datS seqD
    simp only [Option.bind_some, datL_lt]
  rw [e, e2]
  simp only [any_lt]
  exact propext ⟨fun z => z.2, fun z => ⟨by omega, z⟩⟩
theorem enum_at {xs : List D} {i : Nat} {x : D} (e : (enumD xs)[i]? = some x) : ∃ hi : i < xs.length, x = .tup [.int (i : Int), xs[i]] := by
  unfold enumD at e
  rw [List.getElem?_mapIdx] at e
  obtain ⟨y, h1, h2⟩ := Option.map_eq_some_iff.mp e
  obtain ⟨hi, e3⟩ := List.getElem?_eq_some_iff.mp h1
  exact ⟨hi, by rw [← h2, e3]⟩
theorem addChk_take {left : List (Nat × Nat)} {blk : Nat} {rs : List Rw} {i : Nat} (hi : i < rs.length) : addChk left blk 0 (rs.take (i + 1)) = addChk left blk 0 (rs.take i) ++ (if rs[i].isT = true ∧ (blk, i) ∉ left then [.chk, rs[i]] else [rs[i]]) := by
  have key : ∀ (a b : List Rw) (k : Nat), addChk left blk k (a ++ b) = addChk left blk k a ++ addChk left blk (k + a.length) b := by
    intro a
    induction a with
    | nil => intro b k; rfl
    | cons r a ih =>
      intro b k
      rw [List.cons_append, addChk, addChk, ih, List.append_assoc, List.length_cons, show k + 1 + a.length = k + (a.length + 1) by omega]
  rw [List.take_succ_eq_append_getElem hi, key]
  have : (rs.take i).length = i := by rw [List.length_take]; omega
  rw [this, Nat.zero_add, addChk, addChk, List.append_nil]
theorem addChk_len {left : List (Nat × Nat)} {blk : Nat} : ∀ (k : Nat) (rs : List Rw), (addChk left blk k rs).length ≤ 2 * rs.length
  | _, [] => Nat.le_refl _
  | k, r :: rs => by
    have := addChk_len (left := left) (blk := blk) (k + 1) rs
    rw [addChk, List.length_append, List.length_cons]
    split <;> simp <;> omega
theorem checkP_take {left : List (Nat × Nat)} {P : Pg} {i : Nat} (hi : i < P.length) : checkP left 0 (P.take (i + 1)) = checkP left 0 (P.take i) ++ [(addChk left i 0 P[i].1, P[i].2)] := by
  have key : ∀ (a b : Pg) (k : Nat), checkP left k (a ++ b) = checkP left k a ++ checkP left (k + a.length) b := by
    intro a
    induction a with
    | nil => intro b k; rfl
    | cons r a ih =>
      intro b k
      rw [List.cons_append, checkP, checkP, ih, List.cons_append, List.length_cons, show k + 1 + a.length = k + (a.length + 1) by omega]
  rw [List.take_succ_eq_append_getElem hi, key]
  have : (P.take i).length = i := by rw [List.length_take]; omega
  rw [this, Nat.zero_add]
  rfl
theorem with_checks_ok {P : Pg} (hP : P.ok) (left : List (Nat × Nat)) : wp (f_with_checks [P.d, ltD left] h) Q = Q (checkedP P left).d h := by
  have hp := plainP_ok hP
  have hm := hp.most
  refine wp_det ?_ Q
  simp only [f_with_checks, wp_fnM]
  simp only [b_with_checks, wp_sSeq, wp_sOwn, wp_seqA0, List.map_cons, List.map_nil]
  rw [wp_forV (xs := enumD ((plainP P).map blkD))]
  · refine wp_loopX (fun i Γ h' => h' = h ∧ ∃ o3 o4 o5 o6 o7, Γ = [some P.d, some (ltD left), some (.lst ((checkP left 0 ((plainP P).take i)).map blkD)), o3, o4, o5, o6, o7]) (fun i x Γ h1 g hv => ?_) (fun Γ h1 g => ?_) ⟨rfl, none, none, none, none, none, rfl⟩
    · obtain ⟨rfl, o3, o4, o5, o6, o7, rfl⟩ := g
      obtain ⟨hi0, rfl⟩ := enum_at hv
      have hi : i < (plainP P).length := by rw [List.length_map] at hi0; exact hi0
      have hbm := List.getElem_mem hi
      have fr := few_rows hp hbm
      have ct := checkP_take (left := left) hi
      have el : ((plainP P).map blkD)[i] = blkD (plainP P)[i] := List.getElem_map _
      rw [el]
      generalize (plainP P)[i] = b at *
      simp [blkD]
      rw [wp_forV (xs := rngD 0 b.1.length)]
      · refine wp_loopX (fun j Γ h' => h' = h1 ∧ ∃ o7, Γ = [some P.d, some (ltD left), some (.lst ((checkP left 0 ((plainP P).take i)).map blkD)), some (.int (i : Int)), some (.tup (b.1.map Rw.d)), some b.2.d, some (.lst ((addChk left i 0 (b.1.take j)).map Rw.d)), o7]) (fun j x Γ h2 g2 hv2 => ?_) (fun Γ h2 g2 => ?_) ⟨rfl, o7, rfl⟩
        · obtain ⟨rfl, o7, rfl⟩ := g2
          obtain ⟨hj, rfl⟩ := rng_get hv2
          have e0 : (0 : Int) + (j : Int) = (j : Int) := by omega
          have at' := addChk_take (left := left) (blk := i) hj
          have ll := addChk_len (left := left) (blk := i) 0 (b.1.take j)
          have l2 : (b.1.take j).length ≤ b.1.length := by rw [List.length_take]; omega
          have lt1 : (addChk left i 0 (b.1.take j)).length < 16777216 := by omega
          have e2 := rows_at hj
          have hin : ∀ Q, wp (dNotIn (.tup [.int (i : Int), .int (j : Int)]) (ltD left) h2) Q = Q (.bl (!decide ((i, j) ∈ left))) h2 := fun Q => in_lt
          rw [e0]
          by_cases c1 : b.1[j].isT = true
          · by_cases c2 : (i, j) ∈ left
            · have : ¬ (b.1[j].isT = true ∧ (i, j) ∉ left) := fun z => z.2 c2
              rw [if_neg this] at at'
              simp [e2, is_touch_ok, c1, c2, hin, mApp, lt1, at']
            · rw [if_pos ⟨c1, c2⟩] at at'
              have lt2 : (addChk left i 0 (List.take j b.1)).length + 1 < 16777216 := by omega
              simp [e2, is_touch_ok, c1, c2, hin, mApp, lt1, lt2, at', show Rw.chk.d = .tup [.str "check"] from rfl]
          · have : ¬ (b.1[j].isT = true ∧ (i, j) ∉ left) := fun z => c1 z.1
            rw [if_neg this] at at'
            simp [e2, is_touch_ok, c1, mApp, lt1, at']
        · obtain ⟨rfl, o7, rfl⟩ := g2
          rw [rng_len, List.take_length]
          have lt3 : (checkP left 0 ((plainP P).take i)).length < 16777216 := by rw [checkP_len, List.length_take]; omega
          simp [mApp, lt3, ct, blkD]
      · intro Q
        rw [wp_rg1 (j := (b.1.length : Int))]
        · rw [Int.toNat_natCast]
        · intro Q
          simp
        · omega
    · obtain ⟨rfl, o3, o4, o5, o6, o7, rfl⟩ := g
      have : (enumD ((plainP P).map blkD)).length = (plainP P).length := by
        unfold enumD
        simp
      rw [this, List.take_length]
      simp [checkedP, Pg.d]
  · intro Q
    unfold enT
    simp [unchecked_ok hP]
    simp [Pg.d, show (plainP P).length ≤ 16777216 by omega]
end
/-! ### what is asked: run, judged, lost, missed -/
section
variable {h : PH} {Q : D → PH → Prop} {P : Pg} {w : Way} {s : Stg} {g : List Int} {gd : D}
theorem need_stg_ok (hs : s.ok) : wp (f_need_setting [s.d] h) Q = Q .non h := need_setting_ok hs
theorem make_run (hP : P.ok) (hw : w.ok) (hs : s.ok) (hi : inOk g) (hg : GivD h gd g) {a b c d : EM} {Γ : Sw.Env}
    (ea : ∀ Q, wp (seqA [a, b, c, d] Γ h) Q = Q [P.d, s.d, w.d, gd] h) (q : ∀ h', Done h' h.length P w (runP P s w g) → Fr h.length h h' → Q (.ref h.length) h') : wp (gMake "Run" f_Run_new [a, b, c, d] Γ h) Q := by
  rw [wp_gMake, ea]
  exact run_new_ok hP hw hs hi hg fun h' dn fr => ⟨rfl, q h' dn fr⟩
def byItself (P : Pg) (s : Stg) (g : List Int) : RS := runP (checkedP P []) s .bounds g
theorem by_itself_ok (hP : P.ok) (hs : s.ok) (hi : inOk g) (hg : GivD h gd g) (q : ∀ h', Done h' h.length (checkedP P []) .bounds (byItself P s g) → Fr h.length h h' → Q (.ref h.length) h') : wp (f_by_itself [P.d, s.d, gd] h) Q := by
  have e : ∀ Q, wp (f_with_checks [P.d, .lst []] h) Q = Q (checkedP P []).d h := fun Q => with_checks_ok hP []
  simp only [f_by_itself, wp_fnM]
  simp only [b_by_itself, wp_sSeq, wp_sRet]
  refine make_run (checkedP_ok hP []) (w := .bounds) True.intro hs hi hg (fun Q => ?_) fun h' dn fr => ?_
  · simp [e, Way.d]
  · exact q h' dn fr
theorem need_run_ok (hP : P.ok) (hs : s.ok) (hi : inOk g) (hg : GivD h gd g) (q : ∀ h', Fr h.length h h' → Q .non h') : wp (f_need_run [P.d, s.d, gd] h) Q := by
  simp only [f_need_run, wp_fnM]
  simp [b_need_run]
  refine need_program_ok hP fun h1 f1 => ?_
  simp [need_stg_ok hs]
  rw [need_input_ok (hg.mono f1 rfl) hi]
  exact q h1 f1
/-- what is told of a run: a tuple with a list that is an object -/
structure ToldAt (h : PH) (d : D) (x : RS) (lo : Nat) : Prop where
  ex : ∃ n, d = .tup [.str x.word, .ref n, whyD x.why] ∧ h[n]? = some (.lst (iD x.m.sd)) ∧ lo ≤ n
theorem told_of {r lo : Nat} {x : RS} (hlo : lo ≤ r) (dn : Done h r P w x) : ToldAt h (.tup [.str x.word, .ref (r + 1 + 8), whyD x.why]) x lo := by
  obtain ⟨ids, b⟩ := dn.ex
  exact ⟨_, rfl, b.s.sa, by omega⟩
theorem judged_ok (hP : P.ok) (hs : s.ok) (hi : inOk g) (hg : GivD h gd g) (q : ∀ d h', ToldAt h' d (byItself P s g) h.length → Fr h.length h h' → Q d h') : wp (f_judged [P.d, s.d, gd] h) Q := by
  simp only [f_judged, wp_fnM]
  simp [b_judged]
  refine need_run_ok hP hs hi hg fun h1 f1 => ?_
  simp
  refine by_itself_ok hP hs hi (hg.mono f1 rfl) fun h2 dn f2 => ?_
  obtain ⟨ids, b⟩ := dn.ex
  have bo := b.o
  have so := b.s.o
  simp [bo, so]
  exact q _ _ (told_of f1.len dn) (f1.step f2 (Nat.le_refl _))
def Mac.held (m : Mac) : List Nat := m.h.filterMap fun o => o.map (·.1)
def Mac.lost (m : Mac) : List Nat := m.s.living.filter fun i => decide (i ∉ m.held)
def gHeld (d : D) : List D := match d with
  | .tup [x, _] => [x]
  | _ => []
theorem flat_held : ∀ hs : List (Option (Nat × Int)), (hsD hs).flatMap gHeld = natD (hs.filterMap fun o => o.map (·.1))
  | [] => rfl
  | o :: hs => by
    have ih := flat_held hs
    unfold hsD at ih ⊢
    rw [List.map_cons, List.flatMap_cons, ih]
    cases o with
    | none => simp [hD, gHeld]
    | some p => simp [hD, gHeld, natD]
theorem any_nat {i : Nat} : ∀ l : List Nat, ((l.map fun (j : Nat) => PyData.int (j : Int)).any fun z => PyData.eqv z (.int (i : Int))) = decide (i ∈ l)
  | [] => rfl
  | j :: l => by
    rw [List.map_cons, List.any_cons, any_nat l]
    have e : PyData.eqv (.int (j : Int)) (.int (i : Int)) = decide (i = j) := by
      have : PyData.eqv (.int (j : Int)) (.int (i : Int)) = ((j : Int) == (i : Int)) := by simp [PyData.eqv]
      rw [this]
      by_cases q : i = j
      · subst q; simp
      · have : ¬ (j : Int) = (i : Int) := by omega
        simp [q, this]
    rw [e]
    by_cases q : i = j <;> simp [q]
theorem in_nat {f : Bool → Bool} {i : Nat} {l : List Nat} : wp (dInB f (.int (i : Int)) (.lst (natD l)) h) Q = Q (.bl (f (decide (i ∈ l)))) h := by
  rw [wp_dInS (.inr ⟨_, rfl⟩)]
  have e2 : datS h (.lst (natD l)) = some (l.map fun (j : Nat) => PyData.int (j : Int)) := by
    unfold datS seqD
    rw [natD_ints]
    show (some ((l.map fun (i : Nat) => (i : Int)).map D.int)).bind (fun xs => datL (rfH h) xs) = _
    rw [Option.bind_some, datL_ints, List.map_map]
    rfl
  have d1 := depth_ints (l.map fun (j : Nat) => (j : Int))
  rw [List.map_map] at d1
  rw [e2]
  simp only [dat]
  rw [any_nat]
  have d2 : PyData.depth (.int (i : Int)) ≤ 1 := by simp [PyData.depth]
  exact propext ⟨fun z => z.2, fun z => ⟨by omega, z⟩⟩
theorem stop_row {x : RS} (hx : x.word = "stop") (ok : x.ok) : True := trivial
/-- where a run stopped: a touch of the program -/
structure StopOk (x : RS) : Prop where
  ex : ∃ r, x.stopped = some r ∧ r.ok ∧ r.isT = true
theorem goRows_stop {w : Way} {blk : Nat} : ∀ (rs : List Rw) (p : Nat) (x : RS), (∀ r ∈ rs, r.ok) → chkOk rs → x.word = "" → (goRows w blk rs p x).word = "stop" → StopOk (goRows w blk rs p x)
  | [], p, x, _, _, hx, e => by
    rw [show goRows w blk [] p x = x from rfl, hx] at e
    simp at e
  | r :: rs, p, x, hr, hc, hx, e => by
    have hr' : ∀ q ∈ rs, q.ok := fun q hq => hr q (List.mem_cons_of_mem _ hq)
    rw [goRows_cons] at e ⊢
    by_cases h1 : r = .chk
    · subst h1
      rw [if_pos rfl] at e ⊢
      cases rs with
      | nil => exact hc.1.elim
      | cons nx rs =>
        simp only [List.head?_cons] at e ⊢
        cases q : x.m.look nx w with
        | some t => exact ⟨nx, rfl, hr' nx List.mem_cons_self, hc.1⟩
        | none =>
          simp only [q] at e
          exact goRows_stop (nx :: rs) p x hr' hc.2 hx e
    · rw [if_neg h1] at e ⊢
      by_cases h2 : 400 < x.steps + 1
      · rw [if_pos h2] at e
        simp at e
      · rw [if_neg h2] at e ⊢
        by_cases h3 : (x.m.do r).2 ≠ ""
        · rw [if_pos h3] at e
          rcases do_word x.m r with z | z | z <;> simp [z] at e
        · rw [if_neg h3] at e ⊢
          have hc' : chkOk rs := by cases r <;> first | exact hc | exact (h1 rfl).elim
          exact goRows_stop rs (p + 1) _ hr' hc' hx e
theorem runM_stop : ∀ (f blk : Nat) (x : RS), P.ok → blk < P.length → x.ok → x.steps ≤ 400 → x.word = "" → (runM P w f blk x).word = "stop" → StopOk (runM P w f blk x)
  | 0, blk, x, hP, hb, o, st, hx, e => by
    rw [show runM P w 0 blk x = x from rfl, hx] at e
    simp at e
  | f + 1, blk, x, hP, hb, o, st, hx, e => by
    rw [runM] at e ⊢
    obtain ⟨t1, t2⟩ := through_ok (w := w) hP hb o st hx
    cases et : through P w blk x with
    | mk y gg =>
      rw [et] at t1 t2 e
      cases gg with
      | some b =>
        obtain ⟨u1, u2, u3, u4⟩ := t2 b rfl
        simp only at u1 u2 u3 u4 t1 e ⊢
        exact runM_stop f b y hP u1 t1 u3 u2 e
      | none =>
        simp only at e ⊢
        unfold through at et
        rw [List.getElem?_eq_getElem hb] at et
        simp only [] at et
        have hbm := List.getElem_mem hb
        by_cases h1 : (goRows w blk P[blk].1 0 x).word ≠ ""
        · rw [if_pos h1] at et
          cases et
          exact goRows_stop _ _ _ (hP.rows _ hbm) (hP.chk _ hbm) hx e
        · rw [if_neg h1] at et
          unfold endS at et
          by_cases h2 : 400 < (goRows w blk P[blk].1 0 x).steps + 1
          · rw [if_pos h2] at et
            cases et
            simp at e
          · rw [if_neg h2] at et
            cases q : P[blk].2 with
            | fin =>
              rw [q] at et
              cases et
              simp at e
            | go b =>
              rw [q] at et
              cases et
            | ife n a c =>
              rw [q] at et
              cases et
def RS.missed (x : RS) (w : Way) : Bool := decide (x.word = "stop") && (match x.stopped with
  | some r => (x.m.look r w).isNone
  | none => false)
theorem missed_ok (hP : P.ok) (hs : s.ok) (hw : w.ok) (hi : inOk g) (hg : GivD h gd g) (q : ∀ h', Fr h.length h h' → Q (.bl ((byItself P s g).missed w)) h') : wp (f_missed [P.d, s.d, w.d, gd] h) Q := by
  have hst : (byItself P s g).word = "stop" → StopOk (byItself P s g) := runM_stop 402 0 (rs0 s g) (checkedP_ok hP []) (checkedP_ok hP []).one (rs0_ok hs hi) (Nat.zero_le _) rfl
  simp only [f_missed, wp_fnM]
  simp [b_missed]
  refine need_program_ok hP fun h1 f1 => ?_
  simp [need_stg_ok hs, need_way_ok hw]
  rw [need_input_ok (hg.mono f1 rfl) hi]
  simp
  refine by_itself_ok hP hs hi (hg.mono f1 rfl) fun h2 dn f2 => ?_
  obtain ⟨ids, b⟩ := dn.ex
  have bo := b.o
  have fr := f1.step f2 (Nat.le_refl _)
  have q2 := q h2 fr
  have ok := dn.ok.m
  generalize byItself P s g = x at *
  by_cases c : x.word = "stop"
  · obtain ⟨r, e1, e2, e3⟩ := (hst c).ex
    have hl : ∀ Q, wp (f_look [.ref (h1.length + 1), r.d, w.d] h2) Q = Q (oD (x.m.look r w)) h2 := fun Q => look_ok b.s ok e2 e3 hw
    rw [e1] at bo
    simp [bo, c, stopD, hl]
    simpa [RS.missed, c, e1] using q2
  · simp [bo, c]
    simpa [RS.missed, c] using q2
end
section
variable {h : PH} {Q : D → PH → Prop} {P : Pg} {w : Way} {s : Stg} {g : List Int} {gd : D}
end
/-! ### where the law's own machine stands -/
structure LL where
  ids : List Nat
  sets : List (List Int)
  rq : Nat
  bs : List D
def rowKv : Option Rw → List (Key × D)
  | some r => [(.inr "row", r.d)]
  | none => []
def lawKv (b rq : Nat) (gd st : D) (word : Str) (why : D) (steps : Int) (o : Option Rw) : List (Key × D) := [(.inr "n", .ref (b + 1)), (.inr "h", .ref (b + 2)), (.inr "rooms", .ref (b + 3)), (.inr "queue", .ref rq), (.inr "cells", .ref (b + 5)), (.inr "given", gd), (.inr "said", .ref (b + 7)), (.inr "setting", st), (.inr "word", .str word), (.inr "why", why), (.inr "steps", .int steps), (.inr "blocks", .ref (b + 8))] ++ rowKv o
def lroom (r : Rm) (xs : List Int) : List (Key × D) := [(.inr "place", .int r.w), (.inr "size", .int r.z), (.inr "state", .str r.st), (.inr "set", .lst (iD xs))]
def stD (s : Sto) : D := .tup [.int s.many, .int s.gap, .int s.keep]
section
variable {b rq i : Nat} {gd st why d : D} {word x : Str} {steps j : Int} {o : Option Rw} {r : Rm} {xs ys : List Int}
@[simp] theorem lk_n : getD_ (lawKv b rq gd st word why steps o) (.inr "n") = some (.ref (b + 1)) := by kernel_rfl
@[simp] theorem lk_h : getD_ (lawKv b rq gd st word why steps o) (.inr "h") = some (.ref (b + 2)) := by kernel_rfl
@[simp] theorem lk_rooms : getD_ (lawKv b rq gd st word why steps o) (.inr "rooms") = some (.ref (b + 3)) := by kernel_rfl
@[simp] theorem lk_queue : getD_ (lawKv b rq gd st word why steps o) (.inr "queue") = some (.ref rq) := by kernel_rfl
@[simp] theorem lk_cells : getD_ (lawKv b rq gd st word why steps o) (.inr "cells") = some (.ref (b + 5)) := by kernel_rfl
@[simp] theorem lk_given : getD_ (lawKv b rq gd st word why steps o) (.inr "given") = some gd := by kernel_rfl
@[simp] theorem lk_said : getD_ (lawKv b rq gd st word why steps o) (.inr "said") = some (.ref (b + 7)) := by kernel_rfl
@[simp] theorem lk_setting : getD_ (lawKv b rq gd st word why steps o) (.inr "setting") = some st := by kernel_rfl
@[simp] theorem lk_word : getD_ (lawKv b rq gd st word why steps o) (.inr "word") = some (.str word) := by kernel_rfl
@[simp] theorem lk_why : getD_ (lawKv b rq gd st word why steps o) (.inr "why") = some why := by kernel_rfl
@[simp] theorem lk_steps : getD_ (lawKv b rq gd st word why steps o) (.inr "steps") = some (.int steps) := by kernel_rfl
@[simp] theorem lk_blocks : getD_ (lawKv b rq gd st word why steps o) (.inr "blocks") = some (.ref (b + 8)) := by kernel_rfl
@[simp] theorem lk_row {q : Rw} : getD_ (lawKv b rq gd st word why steps (some q)) (.inr "row") = some q.d := by kernel_rfl
@[simp] theorem lp_word : putD_ (lawKv b rq gd st word why steps o) (.inr "word") (.str x) = lawKv b rq gd st x why steps o := by cases o <;> kernel_rfl
@[simp] theorem lp_why : putD_ (lawKv b rq gd st word why steps o) (.inr "why") d = lawKv b rq gd st word d steps o := by cases o <;> kernel_rfl
@[simp] theorem lp_steps : putD_ (lawKv b rq gd st word why steps o) (.inr "steps") (.int j) = lawKv b rq gd st word why j o := by cases o <;> kernel_rfl
@[simp] theorem lp_given : putD_ (lawKv b rq gd st word why steps o) (.inr "given") d = lawKv b rq d st word why steps o := by cases o <;> kernel_rfl
@[simp] theorem lp_queue : putD_ (lawKv b rq gd st word why steps o) (.inr "queue") (.ref i) = lawKv b i gd st word why steps o := by cases o <;> kernel_rfl
@[simp] theorem lp_row {q : Rw} : putD_ (lawKv b rq gd st word why steps none) (.inr "row") q.d = lawKv b rq gd st word why steps (some q) := by kernel_rfl
theorem lawKv_len : (lawKv b rq gd st word why steps o).length < 16777216 := by cases o <;> (unfold lawKv rowKv; simp)
@[simp] theorem lr_place : getD_ (lroom r xs) (.inr "place") = some (.int r.w) := by kernel_rfl
@[simp] theorem lr_size : getD_ (lroom r xs) (.inr "size") = some (.int r.z) := by kernel_rfl
@[simp] theorem lr_state : getD_ (lroom r xs) (.inr "state") = some (.str r.st) := by kernel_rfl
@[simp] theorem lr_set : getD_ (lroom r xs) (.inr "set") = some (.lst (iD xs)) := by kernel_rfl
@[simp] theorem lrp_state : putD_ (lroom r xs) (.inr "state") (.str x) = lroom { r with st := x } xs := by kernel_rfl
@[simp] theorem lrp_set : putD_ (lroom r xs) (.inr "set") (.lst (iD ys)) = lroom r ys := by kernel_rfl
@[simp] theorem lroom_len : (lroom r xs).length = 4 := rfl
end
theorem nodup_ix2' {α : Type} {l : List α} (nd : l.Nodup) {i j : Nat} {a : α} (h1 : l[i]? = some a) (h2 : l[j]? = some a) : i = j := by
  obtain ⟨q1, e1⟩ := List.getElem?_eq_some_iff.mp h1
  obtain ⟨q2, e2⟩ := List.getElem?_eq_some_iff.mp h2
  exact (List.getElem_inj nd).mp (e1.trans e2.symm)
structure LAt (h : PH) (b : Nat) (L : LL) (x : RS) : Prop where
  o : h[b]? = some (.dct (lawKv b L.rq (.lst (iD x.m.g)) (stD x.m.s) x.word (whyD x.why) x.steps x.stopped))
  nu : h[b + 1]? = some (.lst (iD x.m.n))
  ha : h[b + 2]? = some (.lst (hsD x.m.h))
  rs : h[b + 3]? = some (.lst (L.ids.map D.ref))
  qu : h[L.rq]? = some (.lst (natD x.m.s.waiting))
  ce : h[b + 5]? = some (.lst (iD x.m.c))
  sa : h[b + 7]? = some (.lst (iD x.m.sd))
  bl : h[b + 8]? = some (.lst L.bs)
  li : L.ids.length = x.m.s.rooms.length
  ls : L.sets.length = x.m.s.rooms.length
  rm : ∀ (i : Nat) p xs r, L.ids[i]? = some p → L.sets[i]? = some xs → x.m.s.rooms[i]? = some r → h[p]? = some (.dct (lroom r xs)) ∧ (∀ c, c ∈ xs ↔ c ∈ r.kn) ∧ xs.length ≤ x.steps
  far : ∀ p ∈ L.ids, b + 9 ≤ p ∧ p ≠ L.rq
  nd : L.ids.Nodup
  fq : L.rq = b + 4 ∨ b + 9 ≤ L.rq
section
variable {h : PH} {b : Nat} {L : LL} {x : RS}
theorem LAt.rm_set (a : LAt h b L x) {j : Nat} {o : Ob} (hj : j < b + 9) : ∀ (i : Nat) p xs r, L.ids[i]? = some p → L.sets[i]? = some xs → x.m.s.rooms[i]? = some r → (h.set j o)[p]? = some (.dct (lroom r xs)) ∧ (∀ c, c ∈ xs ↔ c ∈ r.kn) ∧ xs.length ≤ x.steps := fun i p xs r e1 e2 e3 => by
  have := a.far p (List.mem_of_getElem? e1)
  rw [List.getElem?_set_ne (by omega)]
  exact a.rm i p xs r e1 e2 e3
/-- the dict's own parts -/
theorem LAt.put (a : LAt h b L x) {y : RS} (em : y.m = x.m) (es : x.steps ≤ y.steps) : LAt (h.set b (.dct (lawKv b L.rq (.lst (iD x.m.g)) (stD x.m.s) y.word (whyD y.why) y.steps y.stopped))) b L y := by
  have fq := a.fq
  have b1 := a.bl
  refine ⟨?_, ?_, ?_, ?_, ?_, ?_, ?_, ?_, ?_, ?_, ?_, a.far, a.nd, a.fq⟩ <;> (try rw [em])
  · rw [List.getElem?_set_self (lt_of a.o)]
  · rw [List.getElem?_set_ne (by omega)]; exact a.nu
  · rw [List.getElem?_set_ne (by omega)]; exact a.ha
  · rw [List.getElem?_set_ne (by omega)]; exact a.rs
  · rw [List.getElem?_set_ne (by omega)]; exact a.qu
  · rw [List.getElem?_set_ne (by omega)]; exact a.ce
  · rw [List.getElem?_set_ne (by omega)]; exact a.sa
  · rw [List.getElem?_set_ne (by omega)]; exact b1
  · exact a.li
  · exact a.ls
  · intro i p xs r e1 e2 e3
    obtain ⟨c1, c2, c3⟩ := a.rm_set (o := .dct (lawKv b L.rq (.lst (iD x.m.g)) (stD x.m.s) y.word (whyD y.why) y.steps y.stopped)) (show b < b + 9 by omega) i p xs r e1 e2 e3
    exact ⟨c1, c2, by omega⟩
theorem LAt.setN (a : LAt h b L x) (ns : List Int) : LAt (h.set (b + 1) (.lst (iD ns))) b L { x with m := { x.m with n := ns } } := by
  have fq := a.fq
  have b1 := a.bl
  refine ⟨?_, ?_, ?_, ?_, ?_, ?_, ?_, ?_, a.li, a.ls, a.rm_set (by omega), a.far, a.nd, a.fq⟩
  · rw [List.getElem?_set_ne (by omega)]; exact a.o
  · rw [List.getElem?_set_self (lt_of a.nu)]
  · rw [List.getElem?_set_ne (by omega)]; exact a.ha
  · rw [List.getElem?_set_ne (by omega)]; exact a.rs
  · rw [List.getElem?_set_ne (by omega)]; exact a.qu
  · rw [List.getElem?_set_ne (by omega)]; exact a.ce
  · rw [List.getElem?_set_ne (by omega)]; exact a.sa
  · rw [List.getElem?_set_ne (by omega)]; exact b1
theorem LAt.setH (a : LAt h b L x) (ns : List (Option (Nat × Int))) : LAt (h.set (b + 2) (.lst (hsD ns))) b L { x with m := { x.m with h := ns } } := by
  have fq := a.fq
  have b1 := a.bl
  refine ⟨?_, ?_, ?_, ?_, ?_, ?_, ?_, ?_, a.li, a.ls, a.rm_set (by omega), a.far, a.nd, a.fq⟩
  · rw [List.getElem?_set_ne (by omega)]; exact a.o
  · rw [List.getElem?_set_ne (by omega)]; exact a.nu
  · rw [List.getElem?_set_self (lt_of a.ha)]
  · rw [List.getElem?_set_ne (by omega)]; exact a.rs
  · rw [List.getElem?_set_ne (by omega)]; exact a.qu
  · rw [List.getElem?_set_ne (by omega)]; exact a.ce
  · rw [List.getElem?_set_ne (by omega)]; exact a.sa
  · rw [List.getElem?_set_ne (by omega)]; exact b1
theorem LAt.setC (a : LAt h b L x) (ns : List Int) : LAt (h.set (b + 5) (.lst (iD ns))) b L { x with m := { x.m with c := ns } } := by
  have fq := a.fq
  have b1 := a.bl
  refine ⟨?_, ?_, ?_, ?_, ?_, ?_, ?_, ?_, a.li, a.ls, a.rm_set (by omega), a.far, a.nd, a.fq⟩
  · rw [List.getElem?_set_ne (by omega)]; exact a.o
  · rw [List.getElem?_set_ne (by omega)]; exact a.nu
  · rw [List.getElem?_set_ne (by omega)]; exact a.ha
  · rw [List.getElem?_set_ne (by omega)]; exact a.rs
  · rw [List.getElem?_set_ne (by omega)]; exact a.qu
  · rw [List.getElem?_set_self (lt_of a.ce)]
  · rw [List.getElem?_set_ne (by omega)]; exact a.sa
  · rw [List.getElem?_set_ne (by omega)]; exact b1
theorem LAt.setS (a : LAt h b L x) (ns : List Int) : LAt (h.set (b + 7) (.lst (iD ns))) b L { x with m := { x.m with sd := ns } } := by
  have fq := a.fq
  have b1 := a.bl
  refine ⟨?_, ?_, ?_, ?_, ?_, ?_, ?_, ?_, a.li, a.ls, a.rm_set (by omega), a.far, a.nd, a.fq⟩
  · rw [List.getElem?_set_ne (by omega)]; exact a.o
  · rw [List.getElem?_set_ne (by omega)]; exact a.nu
  · rw [List.getElem?_set_ne (by omega)]; exact a.ha
  · rw [List.getElem?_set_ne (by omega)]; exact a.rs
  · rw [List.getElem?_set_ne (by omega)]; exact a.qu
  · rw [List.getElem?_set_ne (by omega)]; exact a.ce
  · rw [List.getElem?_set_self (lt_of a.sa)]
  · rw [List.getElem?_set_ne (by omega)]; exact b1
theorem LAt.lt (a : LAt h b L x) : b + 8 < h.length := by
  exact lt_of a.bl
theorem LAt.ids_at (a : LAt h b L x) {i : Nat} (hi : i < x.m.s.rooms.length) : ∃ p xs, L.ids[i]? = some p ∧ L.sets[i]? = some xs ∧ p < h.length := by
  have h1 : L.ids[i]? = some (L.ids[i]'(by rw [a.li]; exact hi)) := List.getElem?_eq_getElem _
  have h2 : L.sets[i]? = some (L.sets[i]'(by rw [a.ls]; exact hi)) := List.getElem?_eq_getElem _
  exact ⟨_, _, h1, h2, lt_of (a.rm i _ _ _ h1 h2 (List.getElem?_eq_getElem hi)).1⟩
theorem LAt.id_lt (a : LAt h b L x) {p : Nat} (hp : p ∈ L.ids) : p < h.length := by
  obtain ⟨i, hi, e⟩ := List.mem_iff_getElem.mp hp
  obtain ⟨p', xs, h1, h2, h3⟩ := a.ids_at (i := i) (by rw [← a.li]; exact hi)
  rw [List.getElem?_eq_getElem hi, e] at h1
  cases h1
  exact h3
/-- the blocks told anew -/
theorem LAt.setB (a : LAt h b L x) (bs : List D) : LAt (h.set (b + 8) (.lst bs)) b { L with bs := bs } x := by
  have fq := a.fq
  refine ⟨?_, ?_, ?_, ?_, ?_, ?_, ?_, ?_, a.li, a.ls, a.rm_set (by omega), a.far, a.nd, a.fq⟩
  · rw [List.getElem?_set_ne (by omega)]; exact a.o
  · rw [List.getElem?_set_ne (by omega)]; exact a.nu
  · rw [List.getElem?_set_ne (by omega)]; exact a.ha
  · rw [List.getElem?_set_ne (by omega)]; exact a.rs
  · rw [List.getElem?_set_ne (by show b + 8 ≠ L.rq; omega)]; exact a.qu
  · rw [List.getElem?_set_ne (by omega)]; exact a.ce
  · rw [List.getElem?_set_ne (by omega)]; exact a.sa
  · rw [List.getElem?_set_self (lt_of a.bl)]
/-- what grows behind changes nothing -/
theorem LAt.app (a : LAt h b L x) (t : PH) : LAt (h ++ t) b L x := by
  have b1 := a.bl
  have g : ∀ {i : Nat} {o : Ob}, h[i]? = some o → (h ++ t)[i]? = some o := fun e => by rw [List.getElem?_append_left (lt_of e)]; exact e
  exact ⟨g a.o, g a.nu, g a.ha, g a.rs, g a.qu, g a.ce, g a.sa, g b1, a.li, a.ls, fun i p xs r e1 e2 e3 => by
    obtain ⟨c1, c2⟩ := a.rm i p xs r e1 e2 e3
    exact ⟨g c1, c2⟩, a.far, a.nd, a.fq⟩
/-- the input told anew -/
theorem LAt.setG (a : LAt h b L x) (ns : List Int) : LAt (h.set b (.dct (lawKv b L.rq (.lst (iD ns)) (stD x.m.s) x.word (whyD x.why) x.steps x.stopped))) b L { x with m := { x.m with g := ns } } := by
  have fq := a.fq
  have b1 := a.bl
  refine ⟨?_, ?_, ?_, ?_, ?_, ?_, ?_, ?_, a.li, a.ls, a.rm_set (by omega), a.far, a.nd, a.fq⟩
  · rw [List.getElem?_set_self (lt_of a.o)]
  · rw [List.getElem?_set_ne (by omega)]; exact a.nu
  · rw [List.getElem?_set_ne (by omega)]; exact a.ha
  · rw [List.getElem?_set_ne (by omega)]; exact a.rs
  · rw [List.getElem?_set_ne (by omega)]; exact a.qu
  · rw [List.getElem?_set_ne (by omega)]; exact a.ce
  · rw [List.getElem?_set_ne (by omega)]; exact a.sa
  · rw [List.getElem?_set_ne (by omega)]; exact b1
/-- the kept ones told anew -/
theorem LAt.setQ (a : LAt h b L x) (ws : List Nat) : LAt ((h ++ [Ob.lst (natD ws)]).set b (.dct (lawKv b h.length (.lst (iD x.m.g)) (stD x.m.s) x.word (whyD x.why) x.steps x.stopped))) b { L with rq := h.length } { x with m := { x.m with s := { x.m.s with waiting := ws } } } := by
  have fq := a.fq
  have lt := a.lt
  have a1 := a.app [Ob.lst (natD ws)]
  have b1 := a1.bl
  refine ⟨?_, ?_, ?_, ?_, ?_, ?_, ?_, ?_, a.li, a.ls, fun i p xs r e1 e2 e3 => ?_, fun p hp => ?_, a.nd, .inr (by show b + 9 ≤ h.length; omega)⟩
  · rw [List.getElem?_set_self (lt_of a1.o)]
    rfl
  · rw [List.getElem?_set_ne (by omega)]; exact a1.nu
  · rw [List.getElem?_set_ne (by omega)]; exact a1.ha
  · rw [List.getElem?_set_ne (by omega)]; exact a1.rs
  · rw [List.getElem?_set_ne (by show b ≠ h.length; omega), getH0]
    rfl
  · rw [List.getElem?_set_ne (by omega)]; exact a1.ce
  · rw [List.getElem?_set_ne (by omega)]; exact a1.sa
  · rw [List.getElem?_set_ne (by omega)]; exact b1
  · have := a.far p (List.mem_of_getElem? e1)
    rw [List.getElem?_set_ne (by omega)]
    exact a1.rm i p xs r e1 e2 e3
  · have h1 := a.far p hp
    have h2 := a.id_lt hp
    exact ⟨h1.1, by show p ≠ h.length; omega⟩
/-- one kept more, in place -/
theorem LAt.setQ' (a : LAt h b L x) (ws : List Nat) : LAt (h.set L.rq (.lst (natD ws))) b L { x with m := { x.m with s := { x.m.s with waiting := ws } } } := by
  have fq := a.fq
  have b1 := a.bl
  refine ⟨?_, ?_, ?_, ?_, ?_, ?_, ?_, ?_, a.li, a.ls, fun i p xs r e1 e2 e3 => ?_, a.far, a.nd, a.fq⟩
  · rw [List.getElem?_set_ne (by omega)]; exact a.o
  · rw [List.getElem?_set_ne (by omega)]; exact a.nu
  · rw [List.getElem?_set_ne (by omega)]; exact a.ha
  · rw [List.getElem?_set_ne (by omega)]; exact a.rs
  · rw [List.getElem?_set_self (lt_of a.qu)]
  · rw [List.getElem?_set_ne (by omega)]; exact a.ce
  · rw [List.getElem?_set_ne (by omega)]; exact a.sa
  · rw [List.getElem?_set_ne (by omega)]; exact b1
  · have := a.far p (List.mem_of_getElem? e1)
    rw [List.getElem?_set_ne (by omega)]
    exact a.rm i p xs r e1 e2 e3
/-- a room changed -/
theorem LAt.setR (a : LAt h b L x) {i p : Nat} {xs : List Int} {r : Rm} (hp : L.ids[i]? = some p) (hx : L.sets[i]? = some xs) (hr : x.m.s.rooms[i]? = some r) {ys : List Int} {f : Rm → Rm} (k1 : ∀ c, c ∈ ys ↔ c ∈ (f r).kn) (k2 : ys.length ≤ x.steps) : LAt (h.set p (.dct (lroom (f r) ys))) b { L with sets := L.sets.set i ys } { x with m := { x.m with s := x.m.s.setRoom i f } } := by
  have fq := a.fq
  have far := a.far p (List.mem_of_getElem? hp)
  have b1 := a.bl
  have hroom := (a.rm i p xs r hp hx hr).1
  refine ⟨?_, ?_, ?_, ?_, ?_, ?_, ?_, ?_, ?_, ?_, fun j p' xs' r' e1 e2 e3 => ?_, a.far, a.nd, a.fq⟩
  · rw [List.getElem?_set_ne (by omega)]; exact a.o
  · rw [List.getElem?_set_ne (by omega)]; exact a.nu
  · rw [List.getElem?_set_ne (by omega)]; exact a.ha
  · rw [List.getElem?_set_ne (by omega)]; exact a.rs
  · rw [List.getElem?_set_ne (by show p ≠ L.rq; exact far.2)]; exact a.qu
  · rw [List.getElem?_set_ne (by omega)]; exact a.ce
  · rw [List.getElem?_set_ne (by omega)]; exact a.sa
  · rw [List.getElem?_set_ne (by omega)]; exact b1
  · show L.ids.length = (x.m.s.setRoom i f).rooms.length
    unfold Sto.setRoom
    rw [List.length_modify]
    exact a.li
  · show (L.sets.set i ys).length = (x.m.s.setRoom i f).rooms.length
    unfold Sto.setRoom
    rw [List.length_modify, List.length_set]
    exact a.ls
  · have e1 : L.ids[j]? = some p' := e1
    have e2 : (L.sets.set i ys)[j]? = some xs' := e2
    obtain ⟨r0, e4, e5⟩ := mod_get e3
    by_cases c : i = j
    · subst c
      rw [hp] at e1
      cases e1
      rw [hr] at e4
      cases e4
      rw [List.getElem?_set_self (List.getElem?_eq_some_iff.mp hx).1] at e2
      cases e2
      rw [e5, if_pos rfl, List.getElem?_set_self (lt_of hroom)]
      exact ⟨rfl, k1, k2⟩
    · rw [if_neg c] at e5
      subst e5
      rw [List.getElem?_set_ne c] at e2
      have : p ≠ p' := fun z => c (nodup_ix2' a.nd (z ▸ hp) e1)
      rw [List.getElem?_set_ne this]
      exact a.rm j p' xs' r' e1 e2 e4
/-- a room more -/
theorem LAt.add (a : LAt h b L x) (r : Rm) (hk : r.kn = []) : LAt ((h ++ [Ob.dct (lroom r [])]).set (b + 3) (.lst ((L.ids ++ [h.length]).map D.ref))) b { L with ids := L.ids ++ [h.length], sets := L.sets ++ [[]] } { x with m := { x.m with s := x.m.s.add r } } := by
  have fq := a.fq
  have lt := a.lt
  have lq := lt_of a.qu
  have a1 := a.app [Ob.dct (lroom r [])]
  have b1 := a1.bl
  have ll : (x.m.s.add r).rooms.length = x.m.s.rooms.length + 1 := by simp [Sto.add]
  refine ⟨?_, ?_, ?_, ?_, ?_, ?_, ?_, ?_, ?_, ?_, fun i p xs q e1 e2 e3 => ?_, fun p hp => ?_, ?_, a.fq⟩
  · rw [List.getElem?_set_ne (by omega)]; exact a1.o
  · rw [List.getElem?_set_ne (by omega)]; exact a1.nu
  · rw [List.getElem?_set_ne (by omega)]; exact a1.ha
  · rw [List.getElem?_set_self (lt_of a1.rs)]
  · rw [List.getElem?_set_ne (by show b + 3 ≠ L.rq; omega)]; exact a1.qu
  · rw [List.getElem?_set_ne (by omega)]; exact a1.ce
  · rw [List.getElem?_set_ne (by omega)]; exact a1.sa
  · rw [List.getElem?_set_ne (by omega)]; exact b1
  · show (L.ids ++ [h.length]).length = (x.m.s.add r).rooms.length
    rw [ll, List.length_append, a.li]
    rfl
  · show (L.sets ++ [[]]).length = (x.m.s.add r).rooms.length
    rw [ll, List.length_append, a.ls]
    rfl
  · have e1 : (L.ids ++ [h.length])[i]? = some p := e1
    have e2 : (L.sets ++ [[]])[i]? = some xs := e2
    have e3 : (x.m.s.rooms ++ [r])[i]? = some q := e3
    rcases snoc_get e1 with f1 | ⟨f1, rfl⟩
    · have hi := (List.getElem?_eq_some_iff.mp f1).1
      rw [List.getElem?_append_left (by rw [a.ls, ← a.li]; exact hi)] at e2
      rw [List.getElem?_append_left (by rw [← a.li]; exact hi)] at e3
      have := a.far p (List.mem_of_getElem? f1)
      rw [List.getElem?_set_ne (by omega)]
      exact a1.rm i p xs q f1 e2 e3
    · rw [f1, a.li, ← a.ls] at e2
      rw [f1, a.li] at e3
      simp at e2 e3
      subst e2 e3
      rw [List.getElem?_set_ne (by omega), getH0]
      exact ⟨rfl, fun c => by rw [hk], Nat.zero_le _⟩
  · rcases List.mem_append.mp hp with hp | hp
    · exact a.far p hp
    · rw [List.mem_singleton.mp hp]
      exact ⟨by omega, by show h.length ≠ L.rq; omega⟩
  · show (L.ids ++ [h.length]).Nodup
    rw [List.nodup_append]
    refine ⟨a.nd, by simp, fun p hp q hq => ?_⟩
    rw [List.mem_singleton.mp hq]
    have := a.id_lt hp
    omega
end
/-! ### how the law's own machine looks at its cells -/
theorem mark_own {s : Sto} (v : Inv s) {i : Nat} {r : Rm} {c : Int} (hr : s.rooms[i]? = some r) (ns : r.st ≠ "gone") (h1 : r.w ≤ c) (h2 : c < r.w + r.z) : s.mark c = (if r.st = "kept" then ("freed" : Str) else if c ∈ r.kn then ("set" : Str) else ("fresh" : Str)) := by
  have g0 : 0 ≤ s.gap := v.i0.ok.2.2.1
  have e : s.rooms.findSome? (own1 c) = some (if r.st = "kept" then ("freed" : Str) else if c ∈ r.kn then ("set" : Str) else ("fresh" : Str)) := by
    refine findSome_some (i := i) (fun j z hj hz => ?_) hr ?_
    · unfold own1
      rw [if_neg]
      rintro ⟨q1, q2, q3⟩
      have := v.i0.dis i j r z (by omega) hr hz ns q1
      omega
    · unfold own1
      rw [if_pos ⟨ns, h1, h2⟩]
  unfold Sto.mark
  rw [e]
theorem head_filter_at {f : Nat → Bool} : ∀ {l : List Nat} {i : Nat}, l.Nodup → i ∈ l → f i = true → (∀ j ∈ l, f j = true → j = i) → (l.filter f).head? = some i
  | [], i, _, h, _, _ => by cases h
  | a :: l, i, nd, h, hf, u => by
    rw [List.filter_cons]
    by_cases c : f a = true
    · rw [if_pos c]
      have := u a List.mem_cons_self c
      subst this
      rfl
    · rw [if_neg c]
      rcases List.mem_cons.mp h with rfl | h
      · exact (c hf).elim
      · exact head_filter_at (List.nodup_cons.mp nd).2 h hf fun j hj => u j (List.mem_cons_of_mem _ hj)
theorem living_nd (s : Sto) : s.living.Nodup := List.Pairwise.filter _ List.nodup_range
theorem mem_living {s : Sto} {i : Nat} {r : Rm} (hr : s.rooms[i]? = some r) (hs : r.st = "living") : i ∈ s.living := by
  unfold Sto.living
  refine List.mem_filter.mpr ⟨List.mem_range.mpr (List.getElem?_eq_some_iff.mp hr).1, ?_⟩
  unfold Sto.isLiving
  rw [hr]
  exact decide_eq_true hs
theorem owner_at {s : Sto} (v : Inv s) {i : Nat} {r : Rm} {c : Int} (hr : s.rooms[i]? = some r) (hs : r.st = "living") (h1 : r.w ≤ c) (h2 : c < r.w + r.z) : s.owner c = some i := by
  have g0 : 0 ≤ s.gap := v.i0.ok.2.2.1
  unfold Sto.owner
  refine head_filter_at (living_nd s) (mem_living hr hs) ?_ fun j hj hf => ?_
  · unfold Sto.hasAt
    rw [hr]
    simp [h1, h2]
  · obtain ⟨q, e1, e2⟩ := living_st hj
    unfold Sto.hasAt at hf
    rw [e1] at hf
    simp at hf
    by_cases c : j = i
    · exact c
    · have := v.i0.dis j i q r c e1 hr (by rw [e2]; exact s_lg) (by rw [hs]; exact s_lg)
      omega
theorem begins_of_owner {s : Sto} (v : Inv s) {c : Int} : s.begins c = (match s.owner c with
    | some i => if s.placeOf i = c then some i else none
    | none => none) := by
  have g0 : 0 ≤ s.gap := v.i0.ok.2.2.1
  have key : ∀ i r, s.rooms[i]? = some r → r.st = ("living" : Str) → r.w = c → s.owner c = some i ∧ s.begins c = some i := fun i r hr hs hw => by
    have hz := v.i0.inn i r hr
    refine ⟨owner_at v hr hs (by omega) (by omega), ?_⟩
    unfold Sto.begins
    refine head_filter_at (living_nd s) (mem_living hr hs) ?_ fun j hj hf => ?_
    · unfold Sto.whereAt
      rw [hr]
      simp [hw]
    · obtain ⟨q, e1, e2⟩ := living_st hj
      unfold Sto.whereAt at hf
      rw [e1] at hf
      simp at hf
      have hq := v.i0.inn j q e1
      by_cases c : j = i
      · exact c
      · have := v.i0.dis j i q r c e1 hr (by rw [e2]; exact s_lg) (by rw [hs]; exact s_lg)
        omega
  cases e : s.begins c with
  | some i =>
    obtain ⟨m1, m2⟩ := begins_mem e
    obtain ⟨r, hr, hs⟩ := living_st m1
    unfold Sto.whereAt at m2
    rw [hr] at m2
    have hw : r.w = c := of_decide_eq_true m2
    rw [(key i r hr hs hw).1]
    simp only []
    rw [placeOf_at hr, if_pos hw]
  | none =>
    cases eo : s.owner c with
    | none => rfl
    | some i =>
      simp only []
      obtain ⟨m1, m2⟩ := owner_mem eo
      obtain ⟨r, hr, hs⟩ := living_st m1
      rw [placeOf_at hr]
      by_cases hw : r.w = c
      · rw [(key i r hr hs hw).2] at e
        cases e
      · rw [if_neg hw]
structure LMI (b : Nat) (x : RS) (c : Int) (i : Nat) (Γ : Sw.Env) : Prop where
  ex : ∃ o4 o5 m, Γ = [some (.ref b), some (.int c), some (.int x.m.s.gap), some (.str m), o4, o5] ∧ ((m = ("open" : Str) ∧ ∀ (j : Nat) r, j < i → x.m.s.rooms[j]? = some r → near1 x.m.s.gap c r = none) ∨ (m = ("gap" : Str) ∧ x.m.s.rooms.findSome? (near1 x.m.s.gap c) = some ("gap" : Str)))
  own : ∀ (j : Nat) r, j < i → x.m.s.rooms[j]? = some r → own1 c r = none
theorem near_gap {gap c : Int} {r : Rm} {m : Str} (e : near1 gap c r = some m) : m = "gap" := by
  unfold near1 at e
  split at e
  · cases e
    rfl
  · cases e
theorem find_gap {gap c : Int} : ∀ {rs : List Rm} {j : Nat} {r : Rm}, rs[j]? = some r → near1 gap c r = some ("gap" : Str) → rs.findSome? (near1 gap c) = some ("gap" : Str)
  | [], j, r, e, _ => by simp at e
  | q :: rs, 0, r, e, h => by
    cases e
    rw [List.findSome?_cons, h]
  | q :: rs, j + 1, r, e, h => by
    rw [List.findSome?_cons]
    cases n : near1 gap c q with
    | some m => rw [near_gap n]
    | none => exact find_gap (j := j) (by simpa using e) h
section
variable {h : PH} {b : Nat} {L : LL} {x : RS} {Q : D → PH → Prop}
theorem LAt.at_ids (a : LAt h b L x) {i : Nat} {p : Nat} (e : L.ids[i]? = some p) : atI (L.ids.map D.ref) (i : Int) = some (.ref p) := by
  rw [Sw.atI_nat, List.getElem?_map, e]
  rfl
theorem lwalk {bd : D → Sw.Env → M Fl} {Q : Fl → PH → Prop} (a : LAt h b L x) (I : Nat → Sw.Env → Prop) {Γ : Sw.Env} (h0 : I 0 Γ)
    (hs : ∀ i p xs r Γ, I i Γ → L.ids[i]? = some p → L.sets[i]? = some xs → x.m.s.rooms[i]? = some r → wp (bd (.ref p) Γ h) fun f h' => match f with
      | .nx Γ' => I (i + 1) Γ' ∧ h' = h
      | .rt d => Q (.rt d) h') (he : ∀ Γ, I x.m.s.rooms.length Γ → Q (.nx Γ) h) : wp (loopR bd (b + 3) (L.ids.map D.ref).length 0 Γ h) Q := by
  refine wp_loopR (xs := L.ids.map D.ref) (fun i Γ h' => I i Γ ∧ h' = h) (fun i Γ h' q => by rw [q.2]; exact a.rs) (fun i d Γ h' q hx => ?_) (fun Γ h' q => ?_) _ 0 Γ h (Nat.zero_le _) (by omega) ⟨h0, rfl⟩
  · obtain ⟨q, rfl⟩ := q
    rw [List.getElem?_map] at hx
    cases e : L.ids[i]? with
    | none =>
      rw [e] at hx
      cases hx
    | some p =>
      rw [e] at hx
      cases hx
      have hi : i < x.m.s.rooms.length := by
        rw [← a.li]
        exact (List.getElem?_eq_some_iff.mp e).1
      have h2 : L.sets[i]? = some (L.sets[i]'(by rw [a.ls]; exact hi)) := List.getElem?_eq_getElem _
      exact hs i p _ _ Γ q e h2 (List.getElem?_eq_getElem hi)
  · obtain ⟨q, rfl⟩ := q
    rw [List.length_map, a.li] at q
    exact he Γ q
theorem stD_at0 {s : Sto} : atI [D.int s.many, .int s.gap, .int s.keep] 0 = some (.int s.many) := at0
theorem in_ints {f : Bool → Bool} {i : Int} {l : List Int} : wp (dInB f (.int i) (.lst (iD l)) h) Q = Q (.bl (f (decide (i ∈ l)))) h := by
  rw [wp_dInS (.inr ⟨_, rfl⟩)]
  have e2 : datS h (.lst (iD l)) = some (l.map PyData.int) := by
    unfold datS seqD
    show (some (iD l)).bind (fun xs => datL (rfH h) xs) = _
    rw [Option.bind_some]
    exact datL_ints l
  have d1 := depth_ints l
  have e3 : ((l.map PyData.int).any fun z => PyData.eqv z (.int i)) = decide (i ∈ l) := by
    clear e2 d1
    induction l with
    | nil => rfl
    | cons j l ih =>
      rw [List.map_cons, List.any_cons, ih]
      have e : PyData.eqv (.int j) (.int i) = (j == i) := by simp [PyData.eqv]
      rw [e]
      by_cases q : j = i
      · subst q; simp
      · have q' : ¬ i = j := fun z => q z.symm
        simp [q, q']
  rw [e2]
  simp only [dat, e3]
  have d2 : PyData.depth (.int i) ≤ 1 := by simp [PyData.depth]
  exact propext ⟨fun z => z.2, fun z => ⟨by omega, z⟩⟩
theorem LMI.next {c : Int} {i : Nat} {r : Rm} {m : Str} (hr : x.m.s.rooms[i]? = some r) (no : own1 c r = none) (q : ∀ (j : Nat) r, j < i → x.m.s.rooms[j]? = some r → own1 c r = none)
    (qm : (m = ("open" : Str) ∧ ∀ (j : Nat) r, j < i → x.m.s.rooms[j]? = some r → near1 x.m.s.gap c r = none) ∨ (m = ("gap" : Str) ∧ x.m.s.rooms.findSome? (near1 x.m.s.gap c) = some ("gap" : Str))) {m' : Str}
    (e : (near1 x.m.s.gap c r = none ∧ m' = m) ∨ (near1 x.m.s.gap c r = some ("gap" : Str) ∧ m' = "gap")) {o4 o5 : Option D} : LMI b x c (i + 1) [some (.ref b), some (.int c), some (.int x.m.s.gap), some (.str m'), o4, o5] := by
  refine ⟨⟨o4, o5, m', rfl, ?_⟩, nonef q hr no⟩
  rcases e with ⟨e1, rfl⟩ | ⟨e1, rfl⟩
  · rcases qm with ⟨q1, q2⟩ | q1
    · exact .inl ⟨q1, nonef q2 hr e1⟩
    · exact .inr q1
  · exact .inr ⟨rfl, find_gap hr e1⟩
end
/-! ### the law's own look at a touch -/
section
variable {h : PH} {b : Nat} {L : LL} {x : RS} {Q : D → PH → Prop} {k : Nat} {r : Rw} {w : Way}
def Mac.off (m : Mac) (r : Rw) : Int := match m.hd r.hOf with
  | some p => p.2 + m.ix r
  | none => m.ix r
theorem LAt.room (a : LAt h b L x) {i : Nat} {q : Rm} (hr : x.m.s.rooms[i]? = some q) : ∃ p xs, atI (L.ids.map D.ref) (i : Int) = some (.ref p) ∧ h[p]? = some (.dct (lroom q xs)) ∧ (∀ c, c ∈ xs ↔ c ∈ q.kn) ∧ L.ids[i]? = some p ∧ L.sets[i]? = some xs := by
  obtain ⟨p, xs, h1, h2, _⟩ := a.ids_at (List.getElem?_eq_some_iff.mp hr).1
  obtain ⟨c1, c2, _⟩ := a.rm i p xs q h1 h2 hr
  exact ⟨p, xs, a.at_ids h1, c1, c2, h1, h2⟩
theorem natO_n : natO none = .non := rfl
theorem natO_s {i : Nat} : natO (some i) = .int (i : Int) := rfl
def Way.isM : Way → Bool
  | .marks => true
  | _ => false
def Way.isB : Way → Bool
  | .bounds => true
  | _ => false
theorem wayM : wp (dEq w.d (.str "marks") h) Q = Q (.bl w.isM) h := by
  cases w with
  | tags b =>
    rw [wp_dEq]
    simp [Way.d, Way.isM, dat, datL, PyData.eqv, PyData.depth]
  | _ => simp [Way.d, Way.isM]
theorem wayB : wp (dNe w.d (.str "bounds") h) Q = Q (.bl (!w.isB)) h := by
  cases w with
  | tags b =>
    rw [wp_dNe]
    simp [Way.d, Way.isB, dat, datL, PyData.eqv, PyData.depth]
  | _ => simp [Way.d, Way.isB]
theorem eqv_ss {a b c d : Str} : wp (dEq (.tup [.str a, .str b]) (.tup [.str c, .str d]) h) Q = Q (.bl (decide (a = c) && decide (b = d))) h := by
  rw [wp_dEq]
  have : PyData.eqv (.tuple [.str a, .str b]) (.tuple [.str c, .str d]) = (decide (a = c) && decide (b = d)) := by
    simp [PyData.eqv, PyData.eqvAll]
    by_cases h1 : a = c <;> by_cases h2 : b = d <;> simp [h1, h2]
  simp [dat, datL, this, PyData.depth, PyData.depthAll]
theorem counts_at' {b : Nat} (h1 : 1 ≤ b ∧ b ≤ 4) : atI [D.int 1, D.int 2, D.int 4, D.int 8, D.int 16] (b : Int) = some (D.int ((2 ^ b : Nat) : Int)) := counts_at h1
theorem tag_iff {p i n : Nat} : ((i : Int) % ((2 ^ n : Nat) : Int) = (p : Int) % ((2 ^ n : Nat) : Int)) ↔ tag1 p i n = true := by
  unfold tag1
  rw [decide_eq_true_iff]
  exact Int.emod_eq_emod_iff_emod_sub_eq_zero
/-- by tags: the law's way of saying it -/
theorem tagIt_eq {p : Option (Nat × Int)} {o : Option Nat} {fr : Bool} {n : Nat} : tagIt p o fr n = (match p, o with
    | some p, some i => if (decide ((i : Int) % ((2 ^ n : Nat) : Int) = (p.1 : Int) % ((2 ^ n : Nat) : Int)) && fr) = true then none else some ("tag" : Str)
    | _, _ => some ("tag" : Str)) := by
  unfold tagIt
  cases p with
  | none => rfl
  | some p =>
    cases o with
    | none => rfl
    | some i =>
      simp only []
      by_cases c : tag1 p.1 i n = true
      · rw [if_pos c, decide_eq_true (tag_iff.mpr c)]
        cases fr <;> rfl
      · rw [if_neg c, decide_eq_false (fun z => c (tag_iff.mp z))]
        rfl
theorem fresh_iff (v : Inv x.m.s) {i : Nat} {q : Rm} (hr : x.m.s.rooms[i]? = some q) (hs : q.st = "living") {c : Int} (h1 : q.w ≤ c) (h2 : c < q.w + q.z) : x.m.s.mark c = "set" ↔ c ∈ q.kn := by
  rw [mark_own v hr (by rw [hs]; exact s_lg) h1 h2, if_neg (by rw [hs]; exact s_lk)]
  by_cases e : c ∈ q.kn <;> simp [e]
end
section
variable {h : PH} {b : Nat} {L : LL} {x : RS} {Q : D → PH → Prop} {k : Nat} {r : Rw} {w : Way}
theorem off_some {p : Nat × Int} (e : x.m.hd r.hOf = some p) : x.m.off r = p.2 + x.m.ix r := by
  unfold Mac.off
  rw [e]
theorem cell_some {p : Nat × Int} {q : Rm} (e : x.m.hd r.hOf = some p) (er : x.m.s.rooms[p.1]? = some q) : x.m.cell r = q.w + (p.2 + x.m.ix r) := by
  unfold Mac.cell Mac.base
  rw [e]
  simp only []
  rw [placeOf_at er]
  omega
end
/-! ### the law's own rows done -/
theorem mark_open {s : Sto} (g0 : 0 ≤ s.gap) {c : Int} : s.mark c = "open" ↔ ∀ r ∈ s.rooms, r.st = "gone" ∨ ¬ (r.w - s.gap ≤ c ∧ c < r.w + r.z + s.gap) := by
  constructor
  · intro e r hr
    unfold Sto.mark at e
    cases e1 : s.rooms.findSome? (own1 c) with
    | some m =>
      rw [e1] at e
      simp only [] at e
      obtain ⟨q, hq, e2⟩ := List.exists_of_findSome?_eq_some e1
      unfold own1 at e2
      split at e2
      · injection e2 with e2
        rw [← e2] at e
        exfalso
        revert e
        split
        · simp
        · split <;> simp
      · cases e2
    | none =>
      rw [e1] at e
      simp only [] at e
      cases e2 : s.rooms.findSome? (near1 s.gap c) with
      | some m =>
        rw [e2] at e
        simp only [] at e
        obtain ⟨q, hq, e3⟩ := List.exists_of_findSome?_eq_some e2
        rw [near_gap e3] at e
        simp at e
      | none =>
        have := List.findSome?_eq_none_iff.mp e2 r hr
        unfold near1 at this
        by_cases h1 : r.st = "gone"
        · exact .inl h1
        · refine .inr fun z => ?_
          rw [if_pos ⟨h1, z⟩] at this
          cases this
  · intro H
    unfold Sto.mark
    have e1 : s.rooms.findSome? (own1 c) = none := by
      rw [List.findSome?_eq_none_iff]
      intro r hr
      unfold own1
      rw [if_neg]
      rintro ⟨h1, h2, h3⟩
      rcases H r hr with h4 | h4
      · exact h1 h4
      · exact h4 ⟨by omega, by omega⟩
    have e2 : s.rooms.findSome? (near1 s.gap c) = none := by
      rw [List.findSome?_eq_none_iff]
      intro r hr
      unfold near1
      rw [if_neg]
      rintro ⟨h1, h2⟩
      rcases H r hr with h4 | h4
      · exact h1 h4
      · exact h4 h2
    rw [e1, e2]
theorem clear_open {s : Sto} (v : Inv s) {b w : Int} (hw : 1 ≤ w) : s.clear b w = true ↔ ∀ c, b ≤ c → c < b + w → s.mark c = "open" := by
  have g0 : 0 ≤ s.gap := v.i0.ok.2.2.1
  rw [clear_iff]
  constructor
  · intro H c h1 h2
    rw [mark_open g0]
    intro r hr
    obtain ⟨i, hi, e⟩ := List.mem_iff_getElem.mp hr
    rcases H i r (by rw [List.getElem?_eq_getElem hi, e]) with h | h | h
    · exact .inl h
    · exact .inr (by omega)
    · exact .inr (by omega)
  · intro H i r hr
    have hin := v.i0.inn i r hr
    by_cases h1 : r.st = "gone"
    · exact .inl h1
    · by_cases h2 : r.w + r.z + s.gap ≤ b
      · exact .inr (.inl h2)
      · by_cases h3 : b + w ≤ r.w - s.gap
        · exact .inr (.inr h3)
        · exfalso
          have := (mark_open g0).mp (H (max b (r.w - s.gap)) (by omega) (by omega)) r (List.mem_of_getElem? hr)
          rcases this with h4 | h4
          · exact h1 h4
          · exact h4 ⟨by omega, by omega⟩
theorem rng_last {lo : Int} {n : Nat} (hn : 1 ≤ n) : atI (rngD lo n) (-1) = some (.int (lo + (n : Int) - 1)) := by
  unfold atI
  have e : ixN (rngD lo n).length (-1) = some (n - 1) := by
    rw [rng_len]
    unfold ixN
    rw [if_neg (by omega)]
    split
    · congr 1
      omega
    · omega
  rw [e]
  show (rngD lo n)[n - 1]? = _
  unfold rngD
  rw [List.getElem?_map, List.getElem?_range (by omega)]
  show some (D.int (lo + ((n - 1 : Nat) : Int))) = _
  congr 2
  omega
section
variable {h : PH} {b : Nat} {L : LL} {x : RS} {Q : D → PH → Prop} {k : Nat} {r : Rw} {w : Way}
def gOpen (s : Sto) (d : D) : List D := match d with
  | .int c => if s.mark c = "open" then [] else [d]
  | _ => []
theorem flat_open {s : Sto} : ∀ cs : List Int, ((cs.map D.int).flatMap (gOpen s)) = (cs.filter fun c => !decide (s.mark c = "open")).map D.int
  | [] => rfl
  | c :: cs => by
    rw [List.map_cons, List.flatMap_cons, flat_open cs, List.filter_cons]
    by_cases e : s.mark c = "open" <;> simp [gOpen, e]
theorem rngD_ints {lo : Int} {n : Nat} : rngD lo n = ((List.range n).map fun (i : Nat) => lo + (i : Int)).map D.int := by
  unfold rngD
  rw [List.map_map]
  rfl
end
theorem cut1 {d : D} {ds : List D} : cutD (d :: ds) (some 1) none = ds := by
  unfold cutD HT.sIx
  simp
theorem cut1_nat {j : Nat} {ws : List Nat} : cutD (natD (j :: ws)) (some 1) none = natD ws := cut1
theorem cut1_int : ∀ {xs : List Int}, cutD (iD xs) (some 1) none = iD xs.tail
  | [] => by
    unfold cutD HT.sIx iD
    simp
  | x :: xs => cut1
section
variable {h : PH} {b : Nat} {L : LL} {x : RS} {Q : D → PH → Prop} {k : Nat} {r : Rw} {w : Way}
structure FI (b : Nat) (L : LL) (x : RS) (i : Nat) (h : PH) (n : Nat) (Γ : Sw.Env) (h' : PH) : Prop where
  ex : ∃ o2 L' s', Γ = [some (.ref b), some (.int i), o2] ∧ LAt h' b L' { x with m := { x.m with s := s' } } ∧ s'.waiting.length = n ∧ drain s'.waiting s' = x.m.s.free i ∧ (∀ j ∈ s'.waiting, j < s'.rooms.length) ∧ s'.keep = x.m.s.keep ∧ Fr b h h' ∧ s'.waiting.length ≤ 1001 ∧ L'.bs = L.bs
/-- x behind a row -/
def RS.did (x : RS) (r : Rw) : RS := { x with m := (x.m.do r).1, word := (x.m.do r).2 }
theorem lset_row (a : LAt h b L x) {i : Nat} {r : Rm} {c : Int} (hr : x.m.s.rooms[i]? = some r) {p : Nat} {xs : List Int} (hp : L.ids[i]? = some p) (hx : L.sets[i]? = some xs) (hl : xs.length + 1 ≤ x.steps) (eo : x.m.s.owner c = some i) :
    LAt (h.set p (.dct (lroom r (xs ++ [c])))) b { L with sets := L.sets.set i (xs ++ [c]) } { x with m := { x.m with s := x.m.s.write c } } := by
  obtain ⟨c1, c2, c3⟩ := a.rm i p xs r hp hx hr
  have := a.setR hp hx hr (f := fun r => { r with kn := addKn c r.kn }) (ys := xs ++ [c]) (fun y => by
    rw [List.mem_append, List.mem_singleton, c2 y]
    show _ ↔ y ∈ addKn c r.kn
    unfold addKn
    split
    · rename_i hc
      constructor
      · rintro (h | rfl)
        · exact h
        · exact hc
      · exact .inl
    · rw [List.mem_append, List.mem_singleton]) (by rw [List.length_append]; exact hl)
  have ew : x.m.s.write c = x.m.s.setRoom i fun r => { r with kn := addKn c r.kn } := by
    unfold Sto.write
    rw [eo]
  rw [ew]
  exact this
end
section
variable {h : PH} {b : Nat} {L : LL} {x : RS} {Q : D → PH → Prop} {k : Nat} {r : Rw} {w : Way}
theorem did_e (hx : x.word = "") (e : (x.m.do r).2 = "") : x.did r = { x with m := (x.m.do r).1 } := by
  unfold RS.did
  rw [e, ← hx]
theorem LAt.sets_le (a : LAt h b L x) {xs : List Int} (h1 : xs ∈ L.sets) : xs.length ≤ x.steps := by
  obtain ⟨i, hi, e⟩ := List.mem_iff_getElem.mp h1
  have hi2 : i < x.m.s.rooms.length := by rw [← a.ls]; exact hi
  have e1 : L.ids[i]? = some (L.ids[i]'(by rw [a.li]; exact hi2)) := List.getElem?_eq_getElem _
  exact (a.rm i _ xs _ e1 (by rw [List.getElem?_eq_getElem hi, e]) (List.getElem?_eq_getElem hi2)).2.2
theorem LAt.lk (a : LAt h b L x) : (lawKv b L.rq (.lst (iD x.m.g)) (stD x.m.s) x.word (whyD x.why) x.steps x.stopped).length < 16777216 := lawKv_len
end
/-! ### the law's own runs -/
structure GL (b blk : Nat) (rs : List Rw) (en : Ed) (P : Pg) (w : Way) (L : LL) (x : RS) (h : PH) (i : Nat) (Γ : Sw.Env) (h' : PH) : Prop where
  ex : ∃ L' y p o7 o8, Γ = [some (.ref b), some P.d, some (.int blk), some w.d, some (.tup (rs.map Rw.d)), some en.d, some (.int (p : Nat)), o7, o8] ∧ LAt h' b L' y ∧ L'.bs = L.bs ∧ y.word = "" ∧ y.stopped = none ∧ y.ok ∧ y.steps ≤ 400 ∧ goRows w blk rs 0 x = goRows w blk (rs.drop i) p y ∧ Fr b h h'
section
variable {h : PH} {b : Nat} {L : LL} {x : RS} {Q : D → PH → Prop} {P : Pg} {w : Way}
theorem eqEnd {e : Ed} {Q : D → PH → Prop} : wp (dEq e.d (.tup [.str "end"]) h) Q = Q (.bl (decide (e = .fin))) h := by
  rw [wp_dEq]
  cases e <;> simp [Ed.d, dat, datL, PyData.eqv, PyData.eqvAll, PyData.depth, PyData.depthAll]
/-! the law's run made -/
structure LDone (h : PH) (b : Nat) (x : RS) : Prop where
  ex : ∃ L, LAt h b L x
  ok : x.ok
  w : x.word ≠ ""
structure LRI (b : Nat) (P : Pg) (w : Way) (s : Stg) (g : List Int) (gd : D) (h : PH) (n : Nat) (Γ : Sw.Env) (h' : PH) : Prop where
  ex : ∃ L y bd o6, Γ = [some P.d, some s.d, some w.d, some gd, some (.ref b), some bd, o6] ∧ LAt h' b L y ∧ y.ok ∧ Fr b h h' ∧
    ((y.word = "" ∧ y.stopped = none ∧ y.steps ≤ 400 ∧ L.bs.length ≤ y.steps ∧ ∃ bl, bd = .int (bl : Nat) ∧ bl < P.length ∧ 402 - y.steps ≤ n ∧ runM P w n bl y = runP P s w g) ∨ (y.word ≠ "" ∧ y = runP P s w g))
theorem through_nstop {blk : Nat} {P : Pg} {w : Way} : ∀ (rs : List Rw) (p : Nat) (x : RS), x.stopped = none → (goRows w blk rs p x).word = "" → (goRows w blk rs p x).stopped = none
  | [], p, x, h, _ => h
  | r :: rs, p, x, h, e => by
    rw [goRows_cons] at e ⊢
    by_cases h1 : r = .chk
    · rw [if_pos h1] at e ⊢
      cases q : rs.head? with
      | none => exact h
      | some nx =>
        simp only [q] at e ⊢
        cases q2 : x.m.look nx w with
        | none =>
          simp only [q2] at e ⊢
          exact through_nstop (P := P) rs p x h e
        | some t =>
          simp only [q2] at e
          simp at e
    · rw [if_neg h1] at e ⊢
      by_cases h2 : 400 < x.steps + 1
      · rw [if_pos h2] at e
        simp at e
      · rw [if_neg h2] at e ⊢
        by_cases h3 : (x.m.do r).2 ≠ ""
        · rw [if_pos h3] at e
          exact (h3 e).elim
        · rw [if_neg h3] at e ⊢
          exact through_nstop (P := P) rs (p + 1) _ h e
theorem through_ns {blk : Nat} {P : Pg} {w : Way} {x y : RS} {b' : Nat} (hb : blk < P.length) (h : x.stopped = none) (e : through P w blk x = (y, some b')) : y.stopped = none := by
  unfold through at e
  rw [List.getElem?_eq_getElem hb] at e
  simp only [] at e
  by_cases h1 : (goRows w blk P[blk].1 0 x).word ≠ ""
  · rw [if_pos h1] at e
    cases e
  · rw [if_neg h1] at e
    have hs := through_nstop (P := P) P[blk].1 0 x h (by simpa using h1)
    unfold endS at e
    by_cases h2 : 400 < (goRows w blk P[blk].1 0 x).steps + 1
    · rw [if_pos h2] at e
      cases e
    · rw [if_neg h2] at e
      cases q : P[blk].2 with
      | fin => rw [q] at e; cases e
      | go b => rw [q] at e; cases e; exact hs
      | ife n a c => rw [q] at e; cases e; exact hs
def lawKv0 (b : Nat) (g : List Int) (s : Stg) : List (Key × D) := [(.inr "n", .ref (b + 1)), (.inr "h", .ref (b + 2)), (.inr "rooms", .ref (b + 3)), (.inr "queue", .ref (b + 4)), (.inr "cells", .ref (b + 5)), (.inr "given", .lst (iD g)), (.inr "said", .ref (b + 7)), (.inr "setting", s.d), (.inr "word", .str ""), (.inr "why", .non), (.inr "steps", .int 0)]
def lawKvA (b : Nat) (g : List Int) : List (Key × D) := [(.inr "n", .ref (b + 1)), (.inr "h", .ref (b + 2)), (.inr "rooms", .ref (b + 3)), (.inr "queue", .ref (b + 4)), (.inr "cells", .ref (b + 5)), (.inr "given", .lst (iD g))]
def lawKvB (b : Nat) (s : Stg) : List (Key × D) := [(.inr "said", .ref (b + 7)), (.inr "setting", s.d), (.inr "word", .str ""), (.inr "why", .non), (.inr "steps", .int 0)]
theorem kvA {b : Nat} {gd : D} : mergeD [] [(.inr "n", D.ref (b + 1)), (.inr "h", .ref (b + 2)), (.inr "rooms", .ref (b + 3)), (.inr "queue", .ref (b + 4)), (.inr "cells", .ref (b + 5)), (.inr "given", gd)] = [(.inr "n", .ref (b + 1)), (.inr "h", .ref (b + 2)), (.inr "rooms", .ref (b + 3)), (.inr "queue", .ref (b + 4)), (.inr "cells", .ref (b + 5)), (.inr "given", gd)] := by kernel_rfl
theorem kvB {b : Nat} {sd : D} : mergeD [] [(.inr "said", D.ref b), (.inr "setting", sd), (.inr "word", .str ""), (.inr "why", .non), (.inr "steps", .int 0)] = [(.inr "said", D.ref b), (.inr "setting", sd), (.inr "word", .str ""), (.inr "why", .non), (.inr "steps", .int 0)] := by kernel_rfl
theorem kvC {b : Nat} {g : List Int} {s : Stg} : mergeD (lawKvA b g) (lawKvB b s) = lawKv0 b g s := by kernel_rfl
theorem kvD {b : Nat} {g : List Int} {s : Stg} : putD_ (lawKv0 b g s) (.inr "blocks") (.ref (b + 8)) = lawKv b (b + 4) (.lst (iD g)) s.d "" .non 0 none := by kernel_rfl
def lfirstH (b : Nat) (g : List Int) (s : Stg) : PH := [.dct (lawKv0 b g s), .lst (iD (List.replicate 6 0)), .lst (hsD (List.replicate 4 none)), .lst [], .lst [], .lst (iD (List.replicate s.m.toNat 0)), .dct (lawKvB b s), .lst []]
theorem lat0 {s : Stg} {g : List Int} {h : PH} : LAt (h ++ [Ob.dct (lawKv h.length (h.length + 4) (.lst (iD g)) s.d "" .non 0 none), .lst (iD (List.replicate 6 0)), .lst (hsD (List.replicate 4 none)), .lst [], .lst [], .lst (iD (List.replicate s.m.toNat 0)), .dct (lawKvB h.length s), .lst [], .lst []]) h.length ⟨[], [], h.length + 4, []⟩ (rs0 s g) := by
  refine ⟨?_, ?_, ?_, ?_, ?_, ?_, ?_, ?_, rfl, rfl, ?_, ?_, List.nodup_nil, .inl rfl⟩
  · simp [getH0]; rfl
  · simp [getHk]; rfl
  · simp [getHk]; rfl
  · simp [getHk]
  · simp [getHk]; rfl
  · simp [getHk]; rfl
  · simp [getHk]; rfl
  · simp [getHk]
  · intro i p xs r e1
    simp at e1
  · intro p hp
    cases hp
end
/-! ### what is drawn -/
def RowAt (h : PH) (n : Nat) : Prop := ∃ r : Row, h[n]? = some (rowOb r) ∧ r.ok
/-- on from a heap: what stood stands, but the row that is drawn from -/
structure Stp (n : Nat) (h h' : PH) : Prop where
  row : RowAt h' n
  len : h.length ≤ h'.length
  eq : ∀ i, i < h.length → i ≠ n → h'[i]? = h[i]?
theorem Stp.refl {n : Nat} {h : PH} (r : RowAt h n) : Stp n h h := ⟨r, Nat.le_refl _, fun _ _ _ => rfl⟩
theorem Stp.trans {n : Nat} {a b c : PH} (x : Stp n a b) (y : Stp n b c) : Stp n a c := ⟨y.row, Nat.le_trans x.len y.len, fun i hi hn => (y.eq i (Nat.lt_of_lt_of_le hi x.len) hn).trans (x.eq i hi hn)⟩
theorem RowAt.lt {h : PH} {n : Nat} (r : RowAt h n) : n < h.length := by
  obtain ⟨r, e, _⟩ := r
  exact lt_of e
theorem Stp.of_fr {n : Nat} {h h' : PH} (r : RowAt h n) (f : Fr h.length h h') : Stp n h h' := by
  obtain ⟨q, e, ok⟩ := r
  exact ⟨⟨q, by rw [f.eq n (lt_of e)]; exact e, ok⟩, f.len, fun i hi _ => f.eq i hi⟩
theorem Stp.fr {n m : Nat} {h h' : PH} (s : Stp n h h') (hm : m ≤ h.length) (hn : m ≤ n) : Fr m h h' := ⟨s.len, fun i hi => s.eq i (by omega) (by omega)⟩
theorem tk_ok {h : PH} {n : Nat} {m : Int} {Q : D → PH → Prop} (hr : RowAt h n) (hm : 0 < m) (hm2 : m < 1073741824) (q : ∀ (v : Nat) h', (v : Int) < m → Stp n h h' → h'.length = h.length → Q (.int v) h') : wp (f__law_taken [.ref n, .int m] h) Q := by
  obtain ⟨r, e, ok⟩ := hr
  refine taken_ok e ok hm hm2 fun v r' h1 h2 h3 h4 => ?_
  obtain ⟨k, rfl⟩ : ∃ k : Nat, v = (k : Int) := ⟨v.toNat, by omega⟩
  exact q k _ h2 ⟨⟨r', List.getElem?_set_self (lt_of e), h3⟩, by simp, fun i _ hn => List.getElem?_set_ne (fun z => hn z.symm)⟩ (by simp)
section
variable {h : PH} {n : Nat} {Q : D → PH → Prop}
theorem rng4 : rngD 0 4 = [.int 0, .int 1, .int 2, .int 3] := by kernel_rfl
theorem rng5 : rngD 0 5 = [.int 0, .int 1, .int 2, .int 3, .int 4] := by kernel_rfl
theorem rgC4 {Γ : Sw.Env} {Q : Itm → PH → Prop} : wp (rg1 (gC (.int 4)) Γ h) Q = Q (.vals [.int 0, .int 1, .int 2, .int 3]) h := by
  rw [wp_rg1 (j := 4)]
  · exact congrArg (fun l => Q (.vals l) h) rng4
  · intro Q
    simp
  · omega
theorem rgC5 {Γ : Sw.Env} {Q : Itm → PH → Prop} : wp (rg1 (gC (.int 5)) Γ h) Q = Q (.vals [.int 0, .int 1, .int 2, .int 3, .int 4]) h := by
  rw [wp_rg1 (j := 5)]
  · exact congrArg (fun l => Q (.vals l) h) rng5
  · intro Q
    simp
  · omega
theorem at_of {l : List D} {v : Nat} {d : D} (e : l[v]? = some d) : atI l (v : Int) = some d := by
  rw [Sw.atI_nat]
  exact e
@[simp] theorem at4 {a b c d e : D} {l : List D} : atI (a :: b :: c :: d :: e :: l) 4 = some e := Sw.atI_nat (k := 4)
theorem two_at {x y : Int} {v : Nat} (hv : (v : Int) < 2) : atI [D.int x, D.int y] (v : Int) = some (.int (if v = 0 then x else y)) := by
  have : v = 0 ∨ v = 1 := by omega
  rcases this with rfl | rfl <;> rfl
end
/-! ### programs without checks; ends that go on -/
def noChk (P : Pg) : Prop := ∀ b ∈ P, ∀ r ∈ b.1, r ≠ .chk
def Ed.fwd (i : Nat) : Ed → Prop
  | .go b => i < b
  | .ife _ a c => i < a ∧ i < c
  | .fin => True
def Fwd (P : Pg) : Prop := ∀ (i : Nat) b, P[i]? = some b → b.2.fwd i
theorem Pg.ok_of {P : Pg} {m : Nat} (h1 : P.length = m) (h2 : 1 ≤ m) (h3 : m ≤ 12) (h4 : ∀ b ∈ P, ∀ r ∈ b.1, r.ok ∧ r ≠ .chk) (h5 : ∀ b ∈ P, b.2.ok m) (h6 : (P.map fun b => b.1.length).sum ≤ 60) : P.ok := by
  subst h1
  have nochk : ∀ rs : List Rw, (∀ r ∈ rs, r ≠ .chk) → chkOk rs := fun rs => by
    induction rs with
    | nil => intro _; exact True.intro
    | cons r rs ih => intro h; exact chkOk_cons (h r List.mem_cons_self) (ih fun q hq => h q (List.mem_cons_of_mem _ hq))
  refine ⟨h2, h3, fun b hb r hr => (h4 b hb r hr).1, h5, fun b hb => nochk _ fun r hr => (h4 b hb r hr).2, ?_⟩
  have : P.map (fun b => (bare b.1).length) = P.map fun b => b.1.length := List.map_congr_left fun b hb => by rw [bare_self fun r hr => (h4 b hb r hr).2]
  rw [this]
  exact h6
/-! ### any row -/
section
variable {h : PH} {n : Nat} {Q : D → PH → Prop}
def rowsTab (n m i h g : Nat) (c : Int) : List Rw := [.put n c, .add n m i, .less n m i, .ask n, .say n, .room h n, .free h, .get n h i, .set h i n, .shift h g n, .move h g]
theorem rowsTab_ok {n m i h g : Nat} {c : Int} (hn : n < 6) (hm : m < 6) (hi : i < 6) (hh : h < 4) (hg : g < 4) (hc : -99 ≤ c ∧ c ≤ 999) : ∀ r ∈ rowsTab n m i h g c, r.ok ∧ r ≠ .chk := by
  intro r hr
  simp only [rowsTab, List.mem_cons, List.not_mem_nil, or_false] at hr
  rcases hr with rfl | rfl | rfl | rfl | rfl | rfl | rfl | rfl | rfl | rfl | rfl <;> simp [Rw.ok, hn, hm, hi, hh, hg, hc]
end
/-! ### any program -/
structure AP (n f m : Nat) (lp : Bool) (h : PH) (i : Nat) (Γ : Sw.Env) (h' : PH) : Prop where
  ex : ∃ P left o5 o6 o7 o8 o9 o10 o11 o12 o13, Γ = [some (.ref n), some (.bl lp), some (.int (m : Int)), some (.int (left : Nat)), some (.ref f), o5, o6, o7, o8, o9, o10, o11, o12, o13] ∧ h'[f]? = some (.lst (P.map blkD)) ∧ P.length = i ∧ (∀ b ∈ P, ∀ r ∈ b.1, r.ok ∧ r ≠ .chk) ∧ (∀ b ∈ P, b.2.ok m) ∧ (lp = false → Fwd P) ∧ (P.map fun b => b.1.length).sum + left = 60 ∧ Stp n h h'
theorem pick3 {a b c : Ed} {v : Nat} (hv : v < 3) : atI [a.d, b.d, c.d] (v : Int) = some ((if v = 0 then a else if v = 1 then b else c).d) := by
  have : v = 0 ∨ v = 1 ∨ v = 2 := by omega
  rcases this with rfl | rfl | rfl <;> rfl
theorem pick3' {a' b' : Nat} {n' : Nat} {v : Nat} (hv : (v : Int) < 3) : atI [D.tup [.str "go", .int (a' : Int)], D.tup [.str "if", .int (n' : Int), .int (a' : Int), .int (b' : Int)], D.tup [.str "end"]] (v : Int) = some ((if v = 0 then Ed.go a' else if v = 1 then .ife n' a' b' else .fin).d) := by
  have : v = 0 ∨ v = 1 ∨ v = 2 := by omega
  rcases this with rfl | rfl | rfl <;> rfl
section
variable {h : PH} {n : Nat} {Q : D → PH → Prop}
theorem AP.next {f m : Nat} {lp : Bool} {h2 : PH} {i : Nat} {P : Pg} {left sz : Nat} {rs : List Rw} {e : Ed} {o5 o6 o7 o8 o9 o10 o11 o12 o13 : Option D} (hl : P.length = i) (h1 : ∀ b ∈ P, ∀ r ∈ b.1, r.ok ∧ r ≠ .chk) (h3 : ∀ b ∈ P, b.2.ok m) (h4 : lp = false → Fwd P) (h5 : (P.map fun b => b.1.length).sum + left = 60)
    (g1 : ∀ r ∈ rs, r.ok ∧ r ≠ .chk) (g2 : rs.length = sz) (g3 : sz ≤ left) (g4 : e.ok m) (g5 : lp = false → e.fwd i) (s : Stp n h h2) (hf : f < h2.length) (hfh : h.length ≤ f) (hfn : f ≠ n) :
    AP n f m lp h (i + 1) [some (.ref n), some (.bl lp), some (.int (m : Int)), some (.int ((left : Int) - (sz : Int))), some (.ref f), o5, o6, o7, o8, o9, o10, o11, o12, o13] (h2.set f (.lst (P.map blkD ++ [.tup [.tup (rs.map Rw.d), e.d]]))) := by
  have el : (left : Int) - (sz : Int) = ((left - sz : Nat) : Int) := by omega
  rw [el]
  refine ⟨P ++ [(rs, e)], left - sz, o5, o6, o7, o8, o9, o10, o11, o12, o13, rfl, ?_, ?_, fun b hb => ?_, fun b hb => ?_, fun hlp j b hj => ?_, ?_, ?_⟩
  · rw [List.getElem?_set_self hf, List.map_append]
    rfl
  · rw [List.length_append, hl]
    rfl
  · rcases List.mem_append.mp hb with hb | hb
    · exact h1 b hb
    · rw [List.mem_singleton.mp hb]
      exact g1
  · rcases List.mem_append.mp hb with hb | hb
    · exact h3 b hb
    · rw [List.mem_singleton.mp hb]
      exact g4
  · rcases snoc_get hj with hj | ⟨rfl, rfl⟩
    · exact h4 hlp j b hj
    · rw [hl]
      exact g5 hlp
  · rw [List.map_append, List.sum_append]
    simp only [List.map_cons, List.map_nil, List.sum_cons, List.sum_nil]
    omega
  · refine ⟨?_, by rw [List.length_set]; exact s.len, fun j hj hn => ?_⟩
    · obtain ⟨r, e1, e2⟩ := s.row
      exact ⟨r, by rw [List.getElem?_set_ne hfn]; exact e1, e2⟩
    · rw [List.getElem?_set_ne (by omega)]
      exact s.eq j hj hn
end
/-! ### the law's own touches and checks -/
def Rw.wd : Rw → Str
  | .put .. => "put"
  | .add .. => "add"
  | .less .. => "less"
  | .ask .. => "ask"
  | .say .. => "say"
  | .room .. => "room"
  | .free .. => "free"
  | .get .. => "get"
  | .set .. => "set"
  | .shift .. => "shift"
  | .move .. => "move"
  | .chk => "check"
def tchRows (i : Nat) : Nat → List Rw → List (Nat × Nat)
  | _, [] => []
  | k, r :: rs => (if r.isT = true then [(i, k)] else []) ++ tchRows i (k + 1) rs
def tchP : Nat → Pg → List (Nat × Nat)
  | _, [] => []
  | i, b :: P => tchRows i 0 (bare b.1) ++ tchP (i + 1) P
def touchesP (P : Pg) : List (Nat × Nat) := tchP 0 P
def pD (p : Nat × Nat) : D := .tup [.int (p.1 : Int), .int (p.2 : Int)]
theorem mem_tchRows {i j k : Nat} : ∀ {rs : List Rw} {s : Nat}, (j, k) ∈ tchRows i s rs ↔ j = i ∧ ∃ r, s ≤ k ∧ rs[k - s]? = some r ∧ r.isT = true
  | [], s => by simp [tchRows]
  | r :: rs, s => by
    rw [tchRows, List.mem_append, mem_tchRows (rs := rs) (s := s + 1)]
    constructor
    · rintro (h | ⟨rfl, q, h1, h2, h3⟩)
      · split at h
        · rename_i hr
          rw [List.mem_singleton] at h
          cases h
          exact ⟨rfl, r, Nat.le_refl _, by simp, hr⟩
        · cases h
      · refine ⟨rfl, q, by omega, ?_, h3⟩
        rw [show k - s = (k - (s + 1)) + 1 by omega, List.getElem?_cons_succ]
        exact h2
    · rintro ⟨rfl, q, h1, h2, h3⟩
      by_cases e : k = s
      · subst e
        rw [Nat.sub_self, List.getElem?_cons_zero] at h2
        cases h2
        left
        rw [if_pos h3]
        simp
      · right
        refine ⟨rfl, q, by omega, ?_, h3⟩
        rw [show k - s = (k - (s + 1)) + 1 by omega, List.getElem?_cons_succ] at h2
        exact h2
theorem mem_tchP {j k : Nat} : ∀ {P : Pg} {i : Nat}, (j, k) ∈ tchP i P ↔ ∃ b r, i ≤ j ∧ P[j - i]? = some b ∧ (bare b.1)[k]? = some r ∧ r.isT = true
  | [], i => by simp [tchP]
  | b :: P, i => by
    rw [tchP, List.mem_append, mem_tchP (P := P) (i := i + 1), mem_tchRows]
    constructor
    · rintro (⟨rfl, r, _, h2, h3⟩ | ⟨c, r, h1, h2, h3⟩)
      · exact ⟨b, r, Nat.le_refl _, by simp, h2, h3⟩
      · refine ⟨c, r, by omega, ?_, h3⟩
        rw [show j - i = (j - (i + 1)) + 1 by omega, List.getElem?_cons_succ]
        exact h2
    · rintro ⟨c, r, h1, h2, h3, h4⟩
      by_cases e : j = i
      · subst e
        rw [Nat.sub_self, List.getElem?_cons_zero] at h2
        cases h2
        exact .inl ⟨rfl, r, Nat.zero_le _, h3, h4⟩
      · right
        refine ⟨c, r, by omega, ?_, h3, h4⟩
        rw [show j - i = (j - (i + 1)) + 1 by omega, List.getElem?_cons_succ] at h2
        exact h2
theorem mem_touchesP {P : Pg} {j k : Nat} : (j, k) ∈ touchesP P ↔ ∃ b r, P[j]? = some b ∧ (bare b.1)[k]? = some r ∧ r.isT = true := by
  unfold touchesP
  rw [mem_tchP]
  simp
theorem tchRows_len {i : Nat} : ∀ (s : Nat) (rs : List Rw), (tchRows i s rs).length ≤ rs.length
  | _, [] => Nat.le_refl _
  | s, r :: rs => by
    have := tchRows_len (i := i) (s + 1) rs
    rw [tchRows, List.length_append, List.length_cons]
    split <;> simp <;> omega
theorem tchP_len {P : Pg} (hP : ∀ b ∈ P, (bare b.1).length ≤ 120) : ∀ i : Nat, (tchP i P).length ≤ 120 * P.length := by
  induction P with
  | nil => intro i; exact Nat.zero_le _
  | cons b P ih =>
    intro i
    have h1 := hP b List.mem_cons_self
    have h2 := tchRows_len (i := i) 0 (bare b.1)
    have h3 := ih (fun c hc => hP c (List.mem_cons_of_mem _ hc)) (i + 1)
    rw [tchP, List.length_append, List.length_cons]
    omega
theorem tchP_take {P : Pg} {i : Nat} (hi : i < P.length) : tchP 0 (P.take (i + 1)) = tchP 0 (P.take i) ++ tchRows i 0 (bare P[i].1) := by
  have key : ∀ (a b : Pg) (k : Nat), tchP k (a ++ b) = tchP k a ++ tchP (k + a.length) b := by
    intro a
    induction a with
    | nil => intro b k; rfl
    | cons r a ih =>
      intro b k
      rw [List.cons_append, tchP, tchP, ih, List.append_assoc, List.length_cons, show k + 1 + a.length = k + (a.length + 1) by omega]
  rw [List.take_succ_eq_append_getElem hi, key]
  have : (P.take i).length = i := by rw [List.length_take]; omega
  rw [this, Nat.zero_add]
  show _ ++ (tchRows i 0 (bare P[i].1) ++ []) = _
  rw [List.append_nil]
def gTch (rs : List Rw) (i : Nat) (d : D) : List D := match d with
  | .int k => (match rs[k.toNat]? with
    | some r => if r.isT = true then [.tup [.int (i : Int), .int k]] else []
    | none => [])
  | _ => []
theorem flat_tch {rs : List Rw} {i : Nat} : (rngD 0 rs.length).flatMap (gTch rs i) = (tchRows i 0 rs).map pD := by
  have key : ∀ (m s : Nat), s + m = rs.length → ((List.range' s m).map fun (k : Nat) => D.int (k : Int)).flatMap (gTch rs i) = (tchRows i s (rs.drop s)).map pD := by
    intro m
    induction m with
    | zero =>
      intro s e
      rw [List.drop_eq_nil_of_le (by omega)]
      rfl
    | succ m ih =>
      intro s e
      rw [List.range'_succ, List.map_cons, List.flatMap_cons, ih (s + 1) (by omega), List.drop_eq_getElem_cons (by omega : s < rs.length), tchRows, List.map_append]
      congr 1
      simp only [gTch, Int.toNat_natCast, List.getElem?_eq_getElem (by omega : s < rs.length)]
      split <;> rfl
  have := key rs.length 0 (by omega)
  rw [List.drop_zero] at this
  rw [← this]
  unfold rngD
  rw [List.range_eq_range']
  simp
section
variable {h : PH} {Q : D → PH → Prop} {P : Pg}
theorem row0 {r : Rw} : wp (dIx r.d (.int 0) h) Q = Q (.str r.wd) h := by
  cases r <;> simp [Rw.d, Rw.wd]
theorem wd_isT {r : Rw} : (r.wd = "room" ∨ r.wd = "free" ∨ r.wd = "get" ∨ r.wd = "set") ↔ r.isT = true := by
  cases r <;> simp [Rw.wd, Rw.isT]
theorem ltD_eq {l : List (Nat × Nat)} : ltD l = .lst (l.map pD) := rfl
theorem pgix (hi : i < P.length) : wp (dIx P.d (.int (i : Int)) h) Q = Q (.tup [.tup (P[i].1.map Rw.d), P[i].2.d]) h := by
  unfold Pg.d
  rw [wp_ixT, pg_at hi]
theorem pglen : wp (dLen P.d h) Q = Q (.int (P.length : Int)) h := by
  unfold Pg.d
  simp
theorem bare_few {rs : List Rw} : (bare rs).length ≤ rs.length := List.length_filter_le _ _
end
section
variable {h : PH} {Q : D → PH → Prop} {P : Pg}
def gNotIn (left : List (Nat × Nat)) (d : D) : List D := match d with
  | .tup [.int i, .int k] => if (i.toNat, k.toNat) ∈ left then [] else [d]
  | _ => []
theorem flat_notin {left : List (Nat × Nat)} : ∀ l : List (Nat × Nat), (l.map pD).flatMap (gNotIn left) = (l.filter fun p => decide (p ∉ left)).map pD
  | [] => rfl
  | p :: l => by
    rw [List.map_cons, List.flatMap_cons, flat_notin l, List.filter_cons]
    have e : gNotIn left (pD p) = if p ∈ left then [] else [pD p] := by
      unfold pD gNotIn
      simp only [Int.toNat_natCast]
    rw [e]
    by_cases c : p ∈ left <;> simp [c]
theorem mem_every {left : List (Nat × Nat)} {i k : Nat} {b : List Rw × Ed} (hb : P[i]? = some b) (hk : k < (bare b.1).length) : ((i, k) ∈ (touchesP P).filter fun p => decide (p ∉ left)) ↔ (bare b.1)[k].isT = true ∧ (i, k) ∉ left := by
  rw [List.mem_filter, mem_touchesP]
  constructor
  · rintro ⟨⟨c, r, h1, h2, h3⟩, h4⟩
    rw [hb] at h1
    cases h1
    rw [List.getElem?_eq_getElem hk] at h2
    cases h2
    exact ⟨h3, by simpa using h4⟩
  · rintro ⟨h1, h2⟩
    exact ⟨⟨b, _, hb, List.getElem?_eq_getElem hk, h1⟩, by simpa using h2⟩
end
section
variable {h : PH} {n : Nat} {Q : D → PH → Prop} {P : Pg}
structure SomeI (n : Nat) (P : Pg) (h1 : PH) (k : Nat) (acc : List D) (h' : PH) : Prop where
  ex : ∃ l : List (Nat × Nat), acc = l.map pD ∧ ((∀ p ∈ l, p ∈ touchesP P) ∧ l.length ≤ k) ∧ Stp n h1 h'
theorem lComp_it {vs : List Nat} {it : Sw.Env → M Itm} {tg : GM} {tt : TM} {el : EM} {Γ : Sw.Env} {Q : List D → PH → Prop} (e : wp (it Γ h) fun I h' => ∃ xs, I = .vals xs ∧ wp (compV (oneC tg tt el (wipeE Γ vs)) xs h') Q) : wp (lComp vs it tg tt el Γ h) Q := by
  unfold lComp
  rw [wp_bnd]
  refine wp_mono e fun I h' z => ?_
  obtain ⟨xs, rfl, z⟩ := z
  exact z
theorem compV_inv {one : D → M (List D)} {xs : List D} {Q : List D → PH → Prop} (I : Nat → List D → PH → Prop) (h0 : I 0 [] h) (hs : ∀ i x acc h, I i acc h → xs[i]? = some x → wp (one x h) fun ys h' => I (i + 1) (acc ++ ys) h') (he : ∀ acc h, I xs.length acc h → Q acc h) : wp (compV one xs h) Q := by
  have := wp_compVE I hs he xs 0 [] h (by simp) (Nat.zero_le _) h0
  exact wp_mono this fun a h q => q
theorem three_at {x y z : D} {v : Nat} (hv : (v : Int) < 3) : atI [x, y, z] (v : Int) = some (if v = 0 then x else if v = 1 then y else z) := by
  have : v = 0 ∨ v = 1 ∨ v = 2 := by omega
  rcases this with rfl | rfl | rfl <;> rfl
end
/-! ### alike -/
def SeqV (h : PH) (a : D) (xs : List D) : Prop := a = .lst xs ∨ ∃ n, a = .ref n ∧ h[n]? = some (.lst xs)
inductive Sim (h : PH) : Nat → D → D → Prop where
  | non {k : Nat} : Sim h k .non .non
  | bl {k : Nat} (b : Bool) : Sim h k (.bl b) (.bl b)
  | int {k : Nat} (i : Int) : Sim h k (.int i) (.int i)
  | str {k : Nat} (s : Str) : Sim h k (.str s) (.str s)
  | tup {k : Nat} {xs ys : List D} (hl : xs.length = ys.length) (hs : ys.length ≤ 16777216) (he : ∀ (i : Nat) x y, xs[i]? = some x → ys[i]? = some y → Sim h k x y) : Sim h (k + 1) (.tup xs) (.tup ys)
  | seq {k : Nat} {a b : D} {xs ys : List D} (ha : SeqV h a xs) (hb : SeqV h b ys) (hl : xs.length = ys.length) (hs : ys.length ≤ 16777216) (he : ∀ (i : Nat) x y, xs[i]? = some x → ys[i]? = some y → Sim h k x y) : Sim h (k + 1) a b
section
variable {h : PH} {Q : D → PH → Prop}
@[simp] theorem wp_neB {x y : Bool} : wp (dNe (.bl x) (.bl y) h) Q = Q (.bl (!(x == y))) h := by
  rw [wp_dNe]
  simp [dat, PyData.eqv, PyData.depth]
theorem SeqV.ty {a : D} {xs : List D} (s : SeqV h a xs) (T : String) : wp (isTy T a h) Q = Q (.bl (T == "list")) h := by
  rcases s with rfl | ⟨n, rfl, e⟩
  · exact ty_lst
  · exact ty_refL e
theorem SeqV.tl {a : D} {xs : List D} (s : SeqV h a xs) : wp (isTL a h) Q = Q (.bl true) h := by
  rcases s with rfl | ⟨n, rfl, e⟩
  · rfl
  · unfold isTL
    simp only [e]
    rfl
theorem SeqV.len {a : D} {xs : List D} (s : SeqV h a xs) : wp (dLen a h) Q = Q (.int (xs.length : Int)) h := by
  rcases s with rfl | ⟨n, rfl, e⟩
  · exact wp_lenL
  · exact wp_lenO e
theorem SeqV.ix {a : D} {xs : List D} (s : SeqV h a xs) {k : Nat} {d : D} (e : xs[k]? = some d) : wp (dIx a (.int (k : Int)) h) Q = Q d h := by
  rcases s with rfl | ⟨n, rfl, e1⟩
  · rw [wp_ixL, Sw.atI_nat, e]
  · rw [wp_ixO e1, Sw.atI_nat, e]
theorem SeqV.nn {a : D} {xs : List D} (s : SeqV h a xs) : isNonD a = false := by
  rcases s with rfl | ⟨n, rfl, e1⟩ <;> rfl
/-- what is walked through is alike -/
theorem alike_seq {g : List D → M D} {a b : D} {xs ys : List D} (hb : ∀ Q, wp (dLen b h) Q = Q (.int (ys.length : Int)) h) (ia : ∀ (k : Nat) d Q, xs[k]? = some d → wp (dIx a (.int (k : Int)) h) Q = Q d h) (ib : ∀ (k : Nat) d Q, ys[k]? = some d → wp (dIx b (.int (k : Int)) h) Q = Q d h)
    (hl : xs.length = ys.length) (hs : ys.length ≤ 16777216) (he : ∀ (i : Nat) x y Q, xs[i]? = some x → ys[i]? = some y → wp (g [x, y] h) Q = Q (.bl true) h) {o : Option D} {Q : List D → PH → Prop} :
    wp (lComp [2] (rg1 (g1 dLen (gV 1))) (tgName 2) (tNt (tB (gCall g [(g2 dIx (gV 0) (gV 2)), (g2 dIx (gV 1) (gV 2))]))) (gV 2) [some a, some b, o] h) Q = Q [] h := by
  rw [lComp_V (xs := rngD 0 ys.length) (g := fun _ => [])]
  · have flat : ∀ zs : List D, zs.flatMap (fun _ => ([] : List D)) = [] := fun zs => by induction zs <;> simp_all
    rw [flat]
  · intro Q
    rw [wp_rg1 (j := (ys.length : Int))]
    · rw [Int.toNat_natCast]
    · intro Q
      simp [hb]
    · omega
  · intro d hd Q
    obtain ⟨k, hk, rfl⟩ := mem_rng hd
    have e1 : xs[k]? = some (xs[k]'(by omega)) := List.getElem?_eq_getElem _
    have e2 : ys[k]? = some ys[k] := List.getElem?_eq_getElem _
    have e3 := fun Q => he k _ _ Q e1 e2
    have e4 := fun Q => ia k _ Q e1
    have e5 := fun Q => ib k _ Q e2
    generalize xs[k]'(by omega) = x at *
    generalize ys[k] = y at *
    simp [wipeE, e4, e5, e3]
theorem alike_ok : ∀ {k : Nat} {a b : D}, Sim h k a b → ∀ {n : Nat}, k < n → ∀ {Q : D → PH → Prop}, wp (f__law_alike_ n [a, b] h) Q = Q (.bl true) h
  | k, _, _, s, 0, hn, Q => by omega
  | k, a, b, s, n + 1, hn, Q => by
    simp only [f__law_alike_, wp_fnM]
    cases s with
    | non => simp [b__law_alike]
    | bl c => simp [b__law_alike]
    | int i => simp [b__law_alike]
    | str z => simp [b__law_alike]
    | @tup k xs ys hl hs he =>
      have go := fun (Q : List D → PH → Prop) => alike_seq (g := f__law_alike_ n) (a := .tup xs) (b := .tup ys) (o := none) (Q := Q) (fun Q => wp_lenT) (fun k d Q e => by rw [wp_ixT, Sw.atI_nat, e]) (fun k d Q e => by rw [wp_ixT, Sw.atI_nat, e]) hl hs (fun i x y Q e1 e2 => alike_ok (he i x y e1 e2) (by omega))
      have tl : ∀ Q, wp (isTL (.tup xs) h) Q = Q (.bl true) h := fun Q => rfl
      simp [b__law_alike, tl, hl, go, eqNil]
    | @seq k _ _ xs ys ha hb hl hs he =>
      have go := fun (Q : List D → PH → Prop) => alike_seq (g := f__law_alike_ n) (a := a) (b := b) (o := none) (Q := Q) (fun Q => hb.len) (fun k d Q e => ha.ix e) (fun k d Q e => hb.ix e) hl hs (fun i x y Q e1 e2 => alike_ok (he i x y e1 e2) (by omega))
      have t1 := fun T Q => ha.ty (Q := Q) T
      have t2 := fun T Q => hb.ty (Q := Q) T
      have tl := fun Q => ha.tl (Q := Q)
      have la := fun Q => ha.len (Q := Q)
      have lb := fun Q => hb.len (Q := Q)
      simp [b__law_alike, t1, t2, tl, la, lb, hl, go, eqNil]
theorem alike9 {k : Nat} {a b : D} (s : Sim h k a b) (hk : k < 9) : wp (f__law_alike [a, b] h) Q = Q (.bl true) h := alike_ok s hk
/-! what is alike -/
theorem Sim.refl_ints {k : Nat} {a b : D} {xs : List Int} (ha : SeqV h a (iD xs)) (hb : SeqV h b (iD xs)) (hs : xs.length ≤ 16777216) : Sim h (k + 1) a b :=
  .seq ha hb rfl (by rw [iD_len]; exact hs) fun i x y e1 e2 => by
    rw [e1] at e2
    cases e2
    obtain ⟨z, hz, rfl⟩ := List.mem_map.mp (List.mem_of_getElem? e1)
    exact .int _
theorem Sim.why {k : Nat} {y : Option (Nat × Nat × Str)} : Sim h (k + 1) (whyD y) (whyD y) := by
  cases y with
  | none => exact .non
  | some p =>
    refine .tup rfl (by simp) fun i x z e1 e2 => ?_
    rw [e1] at e2
    cases e2
    have := List.mem_of_getElem? e1
    simp only [List.mem_cons, List.not_mem_nil, or_false] at this
    rcases this with rfl | rfl | rfl
    · exact .int _
    · exact .int _
    · exact .str _
theorem Sim.told {k : Nat} {t u : D} {x : RS} {lo lo' : Nat} (ht : ToldAt h t x lo) (hu : ToldAt h u x lo') (hs : x.m.sd.length ≤ 401) : Sim h (k + 2) t u := by
  obtain ⟨n, rfl, e1, _⟩ := ht.ex
  obtain ⟨m, rfl, e2, _⟩ := hu.ex
  refine .tup rfl (by simp) fun i a b q1 q2 => ?_
  match i, q1, q2 with
  | 0, q1, q2 => simp at q1 q2; subst q1 q2; exact .str _
  | 1, q1, q2 => simp at q1 q2; subst q1 q2; exact Sim.refl_ints (.inr ⟨n, rfl, e1⟩) (.inr ⟨m, rfl, e2⟩) (by omega)
  | 2, q1, q2 => simp at q1 q2; subst q1 q2; exact .why
theorem Sim.nats {k : Nat} {xs : List Nat} (hs : xs.length ≤ 16777216) : Sim h (k + 1) (.lst (natD xs)) (.lst (natD xs)) := by
  rw [natD_ints]
  exact Sim.refl_ints (.inl rfl) (.inl rfl) (by rw [List.length_map]; exact hs)
end
/-! ### what stands, stands on -/
section
variable {h h' : PH} {b : Nat} {L : LL} {x : RS}
theorem LAt.fr (a : LAt h b L x) (f : Fr h.length h h') : LAt h' b L x := by
  have g : ∀ {i : Nat} {o : Ob}, h[i]? = some o → h'[i]? = some o := fun e => by rw [f.eq _ (lt_of e)]; exact e
  exact ⟨g a.o, g a.nu, g a.ha, g a.rs, g a.qu, g a.ce, g a.sa, g a.bl, a.li, a.ls, fun i p xs r e1 e2 e3 => by
    obtain ⟨c1, c2⟩ := a.rm i p xs r e1 e2 e3
    exact ⟨g c1, c2⟩, a.far, a.nd, a.fq⟩
theorem LDone.fr (d : LDone h b x) (f : Fr h.length h h') : LDone h' b x := by
  obtain ⟨L, a⟩ := d.ex
  exact ⟨⟨L, a.fr f⟩, d.ok, d.w⟩
theorem ToldAt.fr {t : D} {lo : Nat} (d : ToldAt h t x lo) (f : Fr h.length h h') : ToldAt h' t x lo := by
  obtain ⟨n, e1, e2, e3⟩ := d.ex
  exact ⟨n, e1, by rw [f.eq _ (lt_of e2)]; exact e2, e3⟩
theorem RowAt.fr {n : Nat} (r : RowAt h n) (f : Fr h.length h h') : RowAt h' n := by
  obtain ⟨q, e1, e2⟩ := r
  exact ⟨q, by rw [f.eq _ (lt_of e1)]; exact e1, e2⟩
theorem plain_check {left : List (Nat × Nat)} : ∀ (i : Nat) (P : Pg), (∀ b ∈ P, ∀ r ∈ b.1, r ≠ .chk) → plainP (checkP left i P) = P
  | _, [], _ => rfl
  | i, b :: P, h => by
    have hb := h b List.mem_cons_self
    have ih := plain_check (left := left) (i + 1) P fun c hc => h c (List.mem_cons_of_mem _ hc)
    unfold plainP at ih ⊢
    rw [checkP, List.map_cons, ih, addChk_bare 0 b.1 hb]
theorem plain_checked {P : Pg} {left : List (Nat × Nat)} : plainP (checkedP P left) = plainP P := plain_check 0 _ plain_no
theorem checked_checked {P : Pg} {l l' : List (Nat × Nat)} : checkedP (checkedP P l) l' = checkedP P l' := by
  show checkP l' 0 (plainP (checkedP P l)) = checkP l' 0 (plainP P)
  rw [plain_checked]
/-- the law's own telling of rooms that are lost -/
theorem lheld_ok (a : LAt h b L x) (o : x.ok) {vs : List Nat} {it : Sw.Env → M Itm} {tt : TM} {el : EM} {tg : GM} {Γ : Sw.Env} {Q : List D → PH → Prop} (ei : ∀ Q, wp (it Γ h) Q = Q (.ref (b + 2)) h) (es : ∀ (q : Option (Nat × Int)) Q, wp (oneC tg tt el (wipeE Γ vs) (hD q) h) Q = Q (gHeld (hD q)) h) : wp (lComp vs it tg tt el Γ h) Q = Q (natD x.m.held) h := by
  rw [lComp_R (n := b + 2) (xs := hsD x.m.h) (g := gHeld) ei a.ha (by rw [hsD_len, o.m.h4]; omega) (fun d hd Q => by
    obtain ⟨q, hq, rfl⟩ := List.mem_map.mp hd
    exact es q Q), flat_held]
  rfl
theorem gHeld_hD {q : Option (Nat × Int)} : gHeld (hD q) = (match q with
    | some p => [.int (p.1 : Int)]
    | none => []) := by cases q <;> rfl
end
/-! ### rows that can be; places in lists -/
def RowsOk (rs : List Rw) : Prop := ∀ r ∈ rs, r.ok ∧ r ≠ .chk
theorem RowsOk.nil : RowsOk [] := fun r hr => by cases hr
theorem RowsOk.cons {r : Rw} {rs : List Rw} (h1 : r.ok) (h2 : r ≠ .chk) (h3 : RowsOk rs) : RowsOk (r :: rs) := fun q hq => by
  rcases List.mem_cons.mp hq with rfl | hq
  · exact ⟨h1, h2⟩
  · exact h3 q hq
theorem RowsOk.app {rs rs' : List Rw} (h1 : RowsOk rs) (h2 : RowsOk rs') : RowsOk (rs ++ rs') := fun q hq => by
  rcases List.mem_append.mp hq with hq | hq
  · exact h1 q hq
  · exact h2 q hq
theorem RowsOk.take {rs : List Rw} (h : RowsOk rs) (k : Nat) : RowsOk (rs.take k) := fun r hr => h r (List.mem_of_mem_take hr)
section
variable {Γ : Sw.Env} {h : PH} {m m2 m3 : EM}
@[simp ↓] theorem wq_par3 {i j k : Nat} {Q : Fl → PH → Prop} : wp (sPar3 i j k m m2 m3 Γ h) Q = wp (m Γ h) (hid fun x h => wp (m2 Γ h) (hid fun y h => wp (m3 Γ h) (hid fun z h => Q (.nx (((Γ.set i (some x)).set j (some y)).set k (some z))) h))) := by
  unfold sPar3 hid
  simp only [wp_bnd, wp_seqA1, wp_seqA0, wp_pur]
end
theorem three_atD {x y z : D} {v : Nat} (hv : v < 3) : atI [x, y, z] (v : Int) = some (if v = 0 then x else if v = 1 then y else z) := by
  have : v = 0 ∨ v = 1 ∨ v = 2 := by omega
  rcases this with rfl | rfl | rfl <;> rfl
theorem two_atD {x y : D} {v : Nat} (hv : v < 2) : atI [x, y] (v : Int) = some (if v = 0 then x else y) := by
  have : v = 0 ∨ v = 1 := by omega
  rcases this with rfl | rfl <;> rfl
theorem int_at {l : List Int} {v : Nat} (hv : v < l.length) : atI (l.map D.int) (v : Int) = some (.int l[v]) := by
  rw [Sw.atI_nat, List.getElem?_map, List.getElem?_eq_getElem hv]
  rfl
theorem knD_len (ks : List Int) : (knD ks).length = ks.length := by unfold knD; rw [List.length_map]
theorem cutD_take {xs : List D} {k : Nat} : cutD xs none (some (k : Int)) = xs.take k := by
  unfold cutD
  have e1 : HT.sIx xs.length 0 none = 0 := rfl
  have e2 : HT.sIx xs.length xs.length (some (k : Int)) = min k xs.length := by
    unfold HT.sIx
    simp
    omega
  rw [e1, e2, List.drop_zero, Nat.sub_zero, List.take_eq_take_iff]
  omega
theorem Pg.ok_fin {P : Pg} {m : Nat} {lp : Bool} (h1 : P.length = m) (h2 : 1 ≤ m) (h3 : m ≤ 12) (h4 : ∀ b ∈ P, RowsOk b.1) (h5 : ∀ b ∈ P, b.2.ok m) (h6 : (P.map fun b => b.1.length).sum ≤ 60) : P.ok ∧ noChk P := ⟨Pg.ok_of h1 h2 h3 (fun b hb r hr => h4 b hb r hr) h5 h6, fun b hb r hr => (h4 b hb r hr).2⟩
/-! a for over what is drawn -/
theorem wp_sForE {it : Sw.Env → M Itm} {tg : GM} {body : SM} {Γ : Sw.Env} {h : PH} {Q : Fl → PH → Prop} (H : wp (it Γ h) fun i h' => ∃ xs, i = .vals xs ∧ wp (loopV (fun x Γ => bnd (tg x Γ) body) xs Γ h') Q) : wp (sFor it tg body Γ h) Q := by
  unfold sFor
  rw [wp_bnd]
  refine wp_mono H fun i h' z => ?_
  obtain ⟨xs, e, z⟩ := z
  subst e
  exact z
/-! ### runs with checks and without, side by side -/
theorem owner_is {s : Sto} (v : Inv0 s) {i : Nat} {r : Rm} {c : Int} (e : s.rooms[i]? = some r) (hl : r.st = "living") (h1 : r.w ≤ c) (h2 : c < r.w + r.z) : s.owner c = some i := by
  have hi : i ∈ s.living.filter (s.hasAt c) := by
    refine List.mem_filter.mpr ⟨List.mem_filter.mpr ⟨List.mem_range.mpr (List.getElem?_eq_some_iff.mp e).1, ?_⟩, ?_⟩
    · rw [isLiving_at e]
      simp [hl]
    · unfold Sto.hasAt
      rw [e]
      simp [h1, h2]
  unfold Sto.owner
  cases hq : s.living.filter (s.hasAt c) with
  | nil => rw [hq] at hi; cases hi
  | cons j l =>
    have hj : j ∈ s.living.filter (s.hasAt c) := by rw [hq]; exact List.mem_cons_self
    obtain ⟨j1, j2⟩ := List.mem_filter.mp hj
    obtain ⟨q, e2, l2⟩ := living_st j1
    unfold Sto.hasAt at j2
    rw [e2] at j2
    simp at j2
    have : i = j := Decidable.byContradiction fun ne => by
      have g := v.ok.2.2.1
      have := v.dis i j r q ne e e2 (by rw [hl]; exact s_lg) (by rw [l2]; exact s_lg)
      omega
    rw [this]
    rfl
theorem begins_is {s : Sto} (v : Inv0 s) {i : Nat} {r : Rm} (e : s.rooms[i]? = some r) (hl : r.st = "living") : s.begins r.w = some i := by
  have hi : i ∈ s.living.filter (s.whereAt r.w) := by
    refine List.mem_filter.mpr ⟨List.mem_filter.mpr ⟨List.mem_range.mpr (List.getElem?_eq_some_iff.mp e).1, ?_⟩, ?_⟩
    · rw [isLiving_at e]
      simp [hl]
    · unfold Sto.whereAt
      rw [e]
      simp
  unfold Sto.begins
  cases hq : s.living.filter (s.whereAt r.w) with
  | nil => rw [hq] at hi; cases hi
  | cons j l =>
    have hj : j ∈ s.living.filter (s.whereAt r.w) := by rw [hq]; exact List.mem_cons_self
    obtain ⟨j1, j2⟩ := List.mem_filter.mp hj
    obtain ⟨q, e2, l2⟩ := living_st j1
    unfold Sto.whereAt at j2
    rw [e2] at j2
    simp at j2
    have : i = j := Decidable.byContradiction fun ne => by
      have g := v.ok.2.2.1
      have := v.dis i j r q ne e e2 (by rw [hl]; exact s_lg) (by rw [l2]; exact s_lg)
      have := (v.inn i r e).2.2.1
      have := (v.inn j q e2).2.2.1
      omega
    rw [this]
    rfl
theorem mark_is {s : Sto} (v : Inv0 s) {i : Nat} {r : Rm} {c : Int} (e : s.rooms[i]? = some r) (hl : r.st = "living") (h1 : r.w ≤ c) (h2 : c < r.w + r.z) : s.mark c = (if c ∈ r.kn then ("set" : Str) else ("fresh" : Str)) := by
  have o1 : own1 c r = some (if c ∈ r.kn then ("set" : Str) else "fresh") := by
    unfold own1
    rw [if_pos ⟨by rw [hl]; exact s_lg, h1, h2⟩, if_neg (by rw [hl]; exact s_lk)]
  have f : s.rooms.findSome? (own1 c) = some (if c ∈ r.kn then ("set" : Str) else "fresh") := by
    refine findSome_some (fun j q hj hq => ?_) e o1
    unfold own1
    refine if_neg fun ⟨z1, z2, z3⟩ => ?_
    have g := v.ok.2.2.1
    have := v.dis i j r q (by omega) e hq (by rw [hl]; exact s_lg) z1
    omega
  unfold Sto.mark
  rw [f]
section
variable {m : Mac} {k : Nat}
/-- a handle's living room -/
theorem Mac.ok.liv (o : m.ok k) {i : Nat} {p : Nat × Int} (e : m.hd i = some p) (hl : m.s.isLiving p.1 = true) : ∃ q, m.s.rooms[p.1]? = some q ∧ q.st = "living" ∧ m.s.placeOf p.1 = q.w ∧ m.s.wideAt p.1 = q.z := by
  have lt := o.hs i p e
  have eq : m.s.rooms[p.1]? = some m.s.rooms[p.1] := List.getElem?_eq_getElem lt
  refine ⟨_, eq, ?_, ?_, ?_⟩
  · rw [isLiving_at eq] at hl
    simpa using hl
  · unfold Sto.placeOf
    rw [eq]
  · exact wideAt_at eq
/-- what is good by bounds is let by by all -/
theorem look_good (o : m.ok k) {r : Rw} (hg : m.lookB r = none) (ht : r.isT = true) (w : Way) : m.look r w = none := by
  have iv := o.inv.i0
  cases w with
  | bounds => exact hg
  | marks =>
    cases r with
    | room x y => exact hg
    | free x =>
      show m.lookM (.free x) = none
      unfold Mac.lookB at hg
      simp only at hg
      cases hh : m.hd (Rw.free x).hOf with
      | none => rw [hh] at hg; cases hg
      | some p =>
        rw [hh] at hg
        simp only [Mac.bad1] at hg
        by_cases c1 : m.s.isLiving p.1 = true
        · obtain ⟨q, e1, e2, e3, e4⟩ := o.liv hh c1
          rw [if_pos c1] at hg
          by_cases c2 : p.2 = 0
          · have ec : m.cell (.free x) = q.w := by
              unfold Mac.cell Mac.base Mac.ix
              rw [hh]
              simp [e3, c2]
            unfold Mac.lookM
            simp only [ec]
            rw [begins_is iv e1 e2]
            rfl
          · simp [Rw.isFree, c2] at hg
        · simp [c1] at hg
    | get x y z =>
      show m.lookM (.get x y z) = none
      unfold Mac.lookB at hg
      simp only at hg
      cases hh : m.hd (Rw.get x y z).hOf with
      | none => rw [hh] at hg; cases hg
      | some p =>
        rw [hh] at hg
        simp only [Mac.bad1] at hg
        by_cases c1 : m.s.isLiving p.1 = true
        · simp only [if_pos c1, Rw.isFree, Rw.isGet] at hg
          unfold Mac.lookM
          by_cases c2 : 0 ≤ p.2 + m.ix (.get x y z) ∧ p.2 + m.ix (.get x y z) < m.s.wideAt p.1
          · rw [if_neg (by simp), if_pos c2] at hg
            by_cases c3 : m.s.mark (m.cell (.get x y z)) = "set"
            · simp [c3]
            · simp [c3] at hg
          · simp [c2] at hg
        · simp [c1] at hg
    | set x y z =>
      show m.lookM (.set x y z) = none
      unfold Mac.lookB at hg
      simp only at hg
      cases hh : m.hd (Rw.set x y z).hOf with
      | none => rw [hh] at hg; cases hg
      | some p =>
        rw [hh] at hg
        simp only [Mac.bad1] at hg
        by_cases c1 : m.s.isLiving p.1 = true
        · obtain ⟨q, e1, e2, e3, e4⟩ := o.liv hh c1
          simp only [if_pos c1, Rw.isFree, Rw.isGet] at hg
          by_cases c2 : 0 ≤ p.2 + m.ix (.set x y z) ∧ p.2 + m.ix (.set x y z) < m.s.wideAt p.1
          · have ec : m.cell (.set x y z) = q.w + (p.2 + m.ix (.set x y z)) := by
              unfold Mac.cell Mac.base
              rw [hh]
              simp only [e3]
              omega
            have mk := mark_is iv (c := m.cell (.set x y z)) e1 e2 (by omega) (by omega)
            unfold Mac.lookM
            simp only [mk]
            by_cases c3 : m.cell (.set x y z) ∈ q.kn <;> simp [c3, Rw.isGet]
          · simp [c2] at hg
        · simp [c1] at hg
    | _ => cases ht
  | tags b =>
    have t0 : ∀ (p : Nat × Int), tagIt (some p) (some p.1) true b = none := fun p => by
      unfold tagIt tag1
      simp
    cases r with
    | room x y => exact hg
    | free x =>
      show m.lookT (.free x) b = none
      unfold Mac.lookB at hg
      simp only at hg
      cases hh : m.hd (Rw.free x).hOf with
      | none => rw [hh] at hg; cases hg
      | some p =>
        rw [hh] at hg
        simp only [Mac.bad1] at hg
        by_cases c1 : m.s.isLiving p.1 = true
        · obtain ⟨q, e1, e2, e3, e4⟩ := o.liv hh c1
          rw [if_pos c1] at hg
          by_cases c2 : p.2 = 0
          · have ec : m.cell (.free x) = q.w := by
              unfold Mac.cell Mac.base Mac.ix
              rw [hh]
              simp [e3, c2]
            have hh' : m.hd x = some p := hh
            unfold Mac.lookT
            simp only [ec]
            rw [begins_is iv e1 e2, hh']
            exact t0 p
          · simp [Rw.isFree, c2] at hg
        · simp [c1] at hg
    | get x y z =>
      show m.lookT (.get x y z) b = none
      unfold Mac.lookB at hg
      simp only at hg
      cases hh : m.hd (Rw.get x y z).hOf with
      | none => rw [hh] at hg; cases hg
      | some p =>
        rw [hh] at hg
        simp only [Mac.bad1] at hg
        by_cases c1 : m.s.isLiving p.1 = true
        · obtain ⟨q, e1, e2, e3, e4⟩ := o.liv hh c1
          simp only [if_pos c1, Rw.isFree, Rw.isGet] at hg
          by_cases c2 : 0 ≤ p.2 + m.ix (.get x y z) ∧ p.2 + m.ix (.get x y z) < m.s.wideAt p.1
          · rw [if_neg (by simp), if_pos c2] at hg
            have ec : m.cell (.get x y z) = q.w + (p.2 + m.ix (.get x y z)) := by
              unfold Mac.cell Mac.base
              rw [hh]
              simp only [e3]
              omega
            have ow := owner_is iv (c := m.cell (.get x y z)) e1 e2 (by omega) (by omega)
            have hh' : m.hd y = some p := hh
            by_cases c3 : m.s.mark (m.cell (.get x y z)) = "set"
            · unfold Mac.lookT
              simp only [ow, hh', c3]
              simpa using t0 p
            · simp [c3] at hg
          · simp [c2] at hg
        · simp [c1] at hg
    | set x y z =>
      show m.lookT (.set x y z) b = none
      unfold Mac.lookB at hg
      simp only at hg
      cases hh : m.hd (Rw.set x y z).hOf with
      | none => rw [hh] at hg; cases hg
      | some p =>
        rw [hh] at hg
        simp only [Mac.bad1] at hg
        by_cases c1 : m.s.isLiving p.1 = true
        · obtain ⟨q, e1, e2, e3, e4⟩ := o.liv hh c1
          simp only [if_pos c1, Rw.isFree, Rw.isGet] at hg
          by_cases c2 : 0 ≤ p.2 + m.ix (.set x y z) ∧ p.2 + m.ix (.set x y z) < m.s.wideAt p.1
          · have ec : m.cell (.set x y z) = q.w + (p.2 + m.ix (.set x y z)) := by
              unfold Mac.cell Mac.base
              rw [hh]
              simp only [e3]
              omega
            have ow := owner_is iv (c := m.cell (.set x y z)) e1 e2 (by omega) (by omega)
            have hh' : m.hd x = some p := hh
            unfold Mac.lookT
            simp only [ow, hh']
            exact t0 p
          · simp [c2] at hg
        · simp [c1] at hg
    | _ => cases ht
end
/-- through the rows of a block without checks, looking ahead of all touches but some -/
def sRows (w : Way) (l : List (Nat × Nat)) (blk : Nat) : List Rw → Nat → RS → RS
  | [], _, x => x
  | r :: rs, p, x => match (if r.isT = true ∧ (blk, p) ∉ l then x.m.look r w else none) with
    | some t => { x with word := "stop", why := some (blk, p, t), stopped := some r }
    | none => if 400 < x.steps + 1 then { x with steps := x.steps + 1, word := "long" }
      else if (x.m.do r).2 ≠ "" then { x with steps := x.steps + 1, m := (x.m.do r).1, word := (x.m.do r).2 }
      else sRows w l blk rs (p + 1) { x with steps := x.steps + 1, m := (x.m.do r).1 }
theorem goRows_s {w : Way} {l : List (Nat × Nat)} {blk : Nat} : ∀ (rs : List Rw) (p : Nat) (x : RS), (∀ r ∈ rs, r ≠ .chk) → goRows w blk (addChk l blk p rs) p x = sRows w l blk rs p x
  | [], p, x, _ => rfl
  | r :: rs, p, x, h => by
    have hr := h r List.mem_cons_self
    have ih := fun x' => goRows_s (w := w) (l := l) (blk := blk) rs (p + 1) x' fun q hq => h q (List.mem_cons_of_mem _ hq)
    rw [addChk, sRows]
    by_cases c : r.isT = true ∧ (blk, p) ∉ l
    · rw [if_pos c, if_pos c, List.cons_append, List.cons_append, List.nil_append, goRows_cons, if_pos rfl]
      simp only [List.head?_cons]
      cases hl : x.m.look r w with
      | some t => rfl
      | none =>
        simp only []
        rw [goRows_cons, if_neg hr]
        simp only [ih]
    · rw [if_neg c, if_neg c, List.cons_append, List.nil_append, goRows_cons, if_neg hr]
      simp only [ih]
theorem do_sd (m : Mac) (r : Rw) : ∃ t, (m.do r).1.sd = m.sd ++ t := by
  cases r with
  | say n => exact ⟨[m.num n], rfl⟩
  | room a b =>
    refine ⟨[], ?_⟩
    unfold Mac.do
    simp only
    split <;> simp
  | free a =>
    refine ⟨[], ?_⟩
    unfold Mac.do
    simp only
    split <;> simp
  | get a b c =>
    refine ⟨[], ?_⟩
    unfold Mac.do
    simp only
    split <;> simp
  | set a b c =>
    refine ⟨[], ?_⟩
    unfold Mac.do
    simp only
    split <;> simp
  | _ => exact ⟨[], by simp [Mac.do]⟩
theorem sRows_sd {w : Way} {l : List (Nat × Nat)} {blk : Nat} : ∀ (rs : List Rw) (p : Nat) (x : RS), ∃ t, (sRows w l blk rs p x).m.sd = x.m.sd ++ t
  | [], p, x => ⟨[], by simp [sRows]⟩
  | r :: rs, p, x => by
    rw [sRows]
    cases (if r.isT = true ∧ (blk, p) ∉ l then x.m.look r w else none) with
    | some t => exact ⟨[], by simp⟩
    | none =>
      simp only []
      obtain ⟨t, ht⟩ := do_sd x.m r
      split
      · exact ⟨[], by simp⟩
      · split
        · exact ⟨t, ht⟩
        · obtain ⟨t2, h2⟩ := sRows_sd (w := w) (l := l) (blk := blk) rs (p + 1) { x with steps := x.steps + 1, m := (x.m.do r).1 }
          exact ⟨t ++ t2, by rw [h2]; show (x.m.do r).1.sd ++ t2 = _; rw [ht, List.append_assoc]⟩
/-- a run that stopped by bounds, and another behind it -/
structure Aft (w : Way) (l : List (Nat × Nat)) (y z : RS) : Prop where
  ex : ∃ b pl t r, y.word = "stop" ∧ y.why = some (b, pl, t) ∧ y.stopped = some r ∧ y.m.lookB r = some t ∧ r.isT = true ∧ r.ok ∧ (∃ u, z.m.sd = y.m.sd ++ u) ∧ ((b, pl) ∉ l → ∀ t', y.m.look r w = some t' → z = { y with why := some (b, pl, t') })
theorem sRows_cmp {w : Way} {l : List (Nat × Nat)} {blk : Nat} : ∀ (rs : List Rw) (p : Nat) (x : RS), (∀ r ∈ rs, r.ok) → x.ok → x.steps ≤ 400 → x.word = "" →
    ((sRows .bounds [] blk rs p x).word ≠ "stop" ∧ sRows w l blk rs p x = sRows .bounds [] blk rs p x) ∨ Aft w l (sRows .bounds [] blk rs p x) (sRows w l blk rs p x)
  | [], p, x, _, _, _, hx => .inl ⟨by rw [sRows, hx]; decide +kernel, rfl⟩
  | r :: rs, p, x, hok, o, hst, hx => by
    have hr := hok r List.mem_cons_self
    by_cases c : r.isT = true
    · cases hb : x.m.lookB r with
      | some t =>
        right
        have e1 : sRows .bounds [] blk (r :: rs) p x = { x with word := "stop", why := some (blk, p, t), stopped := some r } := by
          rw [sRows, if_pos ⟨c, by simp⟩]
          show (match x.m.lookB r with
            | some t => _
            | none => _) = _
          rw [hb]
        rw [e1]
        refine ⟨blk, p, t, r, rfl, rfl, rfl, hb, c, hr, sRows_sd (r :: rs) p x, fun hn t' ht' => ?_⟩
        have ht : x.m.look r w = some t' := ht'
        rw [sRows, if_pos ⟨c, hn⟩, ht]
      | none =>
        have g := fun w => look_good (w := w) o.m hb c
        have ew : ∀ (w : Way) (l : List (Nat × Nat)), (if r.isT = true ∧ (blk, p) ∉ l then x.m.look r w else none) = none := fun w l => by
          split
          · exact g w
          · rfl
        rw [sRows, sRows, ew, ew]
        simp only []
        by_cases h2 : 400 < x.steps + 1
        · left
          rw [if_pos h2, if_pos h2]
          exact ⟨by simp, rfl⟩
        · rw [if_neg h2, if_neg h2]
          by_cases h3 : (x.m.do r).2 ≠ ""
          · left
            rw [if_pos h3, if_pos h3]
            refine ⟨?_, rfl⟩
            show (x.m.do r).2 ≠ "stop"
            rcases do_word x.m r with e | e | e <;> rw [e] <;> simp
          · rw [if_neg h3, if_neg h3]
            exact sRows_cmp rs (p + 1) _ (fun q hq => hok q (List.mem_cons_of_mem _ hq)) ⟨Mac.do_ok o.m r, by show x.steps + 1 ≤ 401; omega⟩ (by show x.steps + 1 ≤ 400; omega) hx
    · have ew : ∀ (w : Way) (l : List (Nat × Nat)), (if r.isT = true ∧ (blk, p) ∉ l then x.m.look r w else none) = none := fun w l => if_neg fun z => c z.1
      rw [sRows, sRows, ew, ew]
      simp only []
      by_cases h2 : 400 < x.steps + 1
      · left
        rw [if_pos h2, if_pos h2]
        exact ⟨by simp, rfl⟩
      · rw [if_neg h2, if_neg h2]
        by_cases h3 : (x.m.do r).2 ≠ ""
        · left
          rw [if_pos h3, if_pos h3]
          refine ⟨?_, rfl⟩
          show (x.m.do r).2 ≠ "stop"
          rcases do_word x.m r with e | e | e <;> rw [e] <;> simp
        · rw [if_neg h3, if_neg h3]
          exact sRows_cmp rs (p + 1) _ (fun q hq => hok q (List.mem_cons_of_mem _ hq)) ⟨Mac.do_ok o.m r, by show x.steps + 1 ≤ 401; omega⟩ (by show x.steps + 1 ≤ 400; omega) hx
def sThr (P : Pg) (w : Way) (l : List (Nat × Nat)) (blk : Nat) (x : RS) : RS × Option Nat := match P[blk]? with
  | none => (x, none)
  | some b => if (sRows w l blk b.1 0 x).word ≠ "" then (sRows w l blk b.1 0 x, none) else endS b.2 (sRows w l blk b.1 0 x)
def sRun (P : Pg) (w : Way) (l : List (Nat × Nat)) : Nat → Nat → RS → RS
  | 0, _, x => x
  | f + 1, blk, x => match sThr P w l blk x with
    | (y, some b) => sRun P w l f b y
    | (y, none) => y
theorem plain_self {P : Pg} (h : noChk P) : plainP P = P := by
  unfold plainP
  have : P.map (fun b => (bare b.1, b.2)) = P.map id := List.map_congr_left fun b hb => by
    show (bare b.1, b.2) = b
    rw [bare_self (h b hb)]
  rw [this, List.map_id]
theorem through_s {P : Pg} {w : Way} {l : List (Nat × Nat)} {blk : Nat} {x : RS} (h : noChk P) : through (checkedP P l) w blk x = sThr P w l blk x := by
  unfold through sThr checkedP
  rw [plain_self h, checkP_get]
  cases e : P[blk]? with
  | none => rfl
  | some b =>
    have hb := h b (List.mem_of_getElem? e)
    simp only [Option.map_some, Nat.zero_add]
    rw [goRows_s b.1 0 x hb]
theorem runM_s {P : Pg} {w : Way} {l : List (Nat × Nat)} (h : noChk P) : ∀ (f blk : Nat) (x : RS), runM (checkedP P l) w f blk x = sRun P w l f blk x
  | 0, _, _ => rfl
  | f + 1, blk, x => by
    unfold runM sRun
    rw [through_s h]
    cases sThr P w l blk x with
    | mk y o =>
      cases o with
      | none => rfl
      | some b => exact runM_s h f b y
theorem endS_sd (e : Ed) (x : RS) : (endS e x).1.m = x.m := by
  unfold endS
  split
  · rfl
  · cases e <;> rfl
theorem sThr_sd {P : Pg} {w : Way} {l : List (Nat × Nat)} {blk : Nat} {x : RS} : ∃ t, (sThr P w l blk x).1.m.sd = x.m.sd ++ t := by
  unfold sThr
  cases P[blk]? with
  | none => exact ⟨[], by simp⟩
  | some b =>
    simp only []
    split
    · exact sRows_sd _ _ _
    · rw [endS_sd]
      exact sRows_sd _ _ _
theorem sRun_sd {P : Pg} {w : Way} {l : List (Nat × Nat)} : ∀ (f blk : Nat) (x : RS), ∃ t, (sRun P w l f blk x).m.sd = x.m.sd ++ t
  | 0, _, x => ⟨[], by simp [sRun]⟩
  | f + 1, blk, x => by
    unfold sRun
    obtain ⟨t, ht⟩ := sThr_sd (P := P) (w := w) (l := l) (blk := blk) (x := x)
    cases e : sThr P w l blk x with
    | mk y o =>
      rw [e] at ht
      cases o with
      | none => exact ⟨t, ht⟩
      | some b =>
        obtain ⟨t2, h2⟩ := sRun_sd (P := P) (w := w) (l := l) f b y
        exact ⟨t ++ t2, by simp only []; rw [h2, ht, List.append_assoc]⟩
theorem endS_word (e : Ed) (x : RS) : (endS e x).1.word ≠ "stop" ∨ (endS e x).1.word = x.word := by
  unfold endS
  split
  · left; simp
  · cases e
    · exact .inr rfl
    · exact .inr rfl
    · left; simp
theorem sThr_cmp {P : Pg} {w : Way} {l : List (Nat × Nat)} {blk : Nat} {x : RS} (hP : P.ok) (o : x.ok) (hst : x.steps ≤ 400) (hx : x.word = "") :
    ((sThr P .bounds [] blk x).1.word ≠ "stop" ∧ sThr P w l blk x = sThr P .bounds [] blk x) ∨ ((sThr P .bounds [] blk x).2 = none ∧ Aft w l (sThr P .bounds [] blk x).1 (sThr P w l blk x).1 ∧ ∀ b pl t r, (sThr P .bounds [] blk x).1.why = some (b, pl, t) → (sThr P .bounds [] blk x).1.stopped = some r → (b, pl) ∉ l → (∃ t', (sThr P .bounds [] blk x).1.m.look r w = some t') → (sThr P w l blk x).2 = none) := by
  unfold sThr
  cases e : P[blk]? with
  | none => exact .inl ⟨by simp [hx], rfl⟩
  | some b =>
    simp only []
    have hok := hP.rows b (List.mem_of_getElem? e)
    rcases sRows_cmp (w := w) (l := l) (blk := blk) b.1 0 x hok o hst hx with ⟨h1, h2⟩ | h
    · left
      rw [h2]
      refine ⟨?_, rfl⟩
      split
      · exact h1
      · rcases endS_word b.2 (sRows .bounds [] blk b.1 0 x) with q | q
        · exact q
        · rw [q]
          exact h1
    · right
      obtain ⟨b', pl, t, r, q1, q2, q3, q4, q5, q6, q7, q8⟩ := h.ex
      have c1 : (sRows .bounds [] blk b.1 0 x).word ≠ "" := by rw [q1]; simp
      rw [if_pos c1]
      refine ⟨rfl, ?_, fun b2 pl2 t2 r2 z1 z2 z3 z4 => ?_⟩
      · split
        · exact h
        · refine ⟨b', pl, t, r, q1, q2, q3, q4, q5, q6, by rw [endS_sd]; exact q7, fun hn t' ht' => ?_⟩
          have e2 := q8 hn t' ht'
          rename_i c2
          rw [e2] at c2
          have c3 : (sRows .bounds [] blk b.1 0 x).word = "" := by simpa using c2
          rw [q1] at c3
          exact absurd c3 (by simp)
      · obtain ⟨t', ht'⟩ := z4
        simp only at z1 z2
        rw [q2] at z1
        rw [q3] at z2
        cases z1
        cases z2
        have e2 := q8 z3 t' ht'
        rw [if_pos (by rw [e2]; exact c1)]
theorem sRun_cmp {P : Pg} {w : Way} {l : List (Nat × Nat)} (hP : P.ok) (hn : noChk P) : ∀ (f blk : Nat) (x : RS), blk < P.length → x.ok → x.steps ≤ 400 → x.word = "" →
    ((sRun P .bounds [] f blk x).word ≠ "stop" ∧ sRun P w l f blk x = sRun P .bounds [] f blk x) ∨ Aft w l (sRun P .bounds [] f blk x) (sRun P w l f blk x)
  | 0, _, x, _, _, _, hx => .inl ⟨by rw [sRun, hx]; simp, rfl⟩
  | f + 1, blk, x, hb, o, hst, hx => by
    have hC := checkedP_ok hP []
    have tk := through_ok (w := .bounds) (blk := blk) hC (by unfold checkedP; rw [checkP_len, plain_self hn]; exact hb) o hst hx
    rw [through_s hn] at tk
    rcases sThr_cmp (w := w) (l := l) (blk := blk) hP o hst hx with ⟨h1, h2⟩ | ⟨h1, h2, h3⟩
    · unfold sRun
      rw [h2]
      cases e : sThr P .bounds [] blk x with
      | mk y o2 =>
        cases o2 with
        | none => exact .inl ⟨by rw [e] at h1; exact h1, rfl⟩
        | some b =>
          obtain ⟨k1, k2⟩ := tk
          rw [e] at k1 k2
          obtain ⟨g1, g2, g3, g4⟩ := k2 b rfl
          exact sRun_cmp hP hn f b y (by unfold checkedP at g1; rw [checkP_len, plain_self hn] at g1; exact g1) k1 g3 g2
    · right
      unfold sRun
      obtain ⟨b', pl, t, r, q1, q2, q3, q4, q5, q6, ⟨u, q7⟩, q8⟩ := h2.ex
      cases e1 : sThr P .bounds [] blk x with
      | mk y o2 =>
        rw [e1] at h1 h3 q1 q2 q3 q4 q7 q8
        simp only at h1 q1 q2 q3 q4 q7 q8
        subst h1
        simp only []
        cases e2 : sThr P w l blk x with
        | mk z o3 =>
          rw [e2] at h3 q7 q8
          simp only at q7 q8
          cases o3 with
          | none => exact ⟨b', pl, t, r, q1, q2, q3, q4, q5, q6, ⟨u, q7⟩, q8⟩
          | some b =>
            simp only []
            obtain ⟨v, hv⟩ := sRun_sd (P := P) (w := w) (l := l) f b z
            refine ⟨b', pl, t, r, q1, q2, q3, q4, q5, q6, ⟨u ++ v, by rw [hv, q7, List.append_assoc]⟩, fun hn t' ht' => ?_⟩
            have := h3 b' pl t r q2 q3 hn ⟨t', ht'⟩
            cases this
/-- the judged run and another one -/
theorem runP_cmp {P : Pg} {s : Stg} {g : List Int} {w : Way} {l : List (Nat × Nat)} (hP : P.ok) (hn : noChk P) (hs : s.ok) (hg : inOk g) :
    ((byItself P s g).word ≠ "stop" ∧ runP (checkedP P l) s w g = byItself P s g) ∨ Aft w l (byItself P s g) (runP (checkedP P l) s w g) := by
  unfold byItself runP
  rw [runM_s hn, runM_s hn]
  exact sRun_cmp hP hn 402 0 (rs0 s g) hP.one (rs0_ok hs hg) (Nat.zero_le _) rfl
theorem addChk_all {l : List (Nat × Nat)} {blk : Nat} : ∀ (k : Nat) (rs : List Rw), (∀ (j : Nat) r, rs[j]? = some r → r.isT = true → (blk, k + j) ∈ l) → addChk l blk k rs = rs
  | _, [], _ => rfl
  | k, r :: rs, h => by
    rw [addChk, if_neg (fun z => z.2 (by simpa using h 0 r rfl z.1)), addChk_all (k + 1) rs fun j q hj hq => by
      have := h (j + 1) q (by simpa using hj) hq
      rw [show k + 1 + j = k + (j + 1) by omega]
      exact this]
    rfl
theorem checkedP_all {P : Pg} (hn : noChk P) : checkedP P (touchesP P) = P := by
  unfold checkedP
  rw [plain_self hn]
  apply List.ext_getElem?
  intro i
  rw [checkP_get]
  cases e : P[i]? with
  | none => rfl
  | some b =>
    have hb := hn b (List.mem_of_getElem? e)
    simp only [Option.map_some, Nat.zero_add]
    rw [addChk_all 0 b.1 fun j r hj hr => mem_touchesP.mpr ⟨b, r, e, by rw [bare_self hb, Nat.zero_add]; exact hj, hr⟩]
/-! ### a machine without cells -/
structure ARm where
  z : Int
  al : Bool
  c : Int → Option Int
structure AM where
  n : List Int
  h : List (Option (Nat × Int))
  rs : List ARm
  g : List Int
  sd : List Int
def AM.num (m : AM) (i : Nat) : Int := m.n.getD i 0
def AM.hd (m : AM) (i : Nat) : Option (Nat × Int) := m.h.getD i none
def AM.ix (m : AM) : Rw → Int
  | .get _ _ i => m.num i
  | .set _ i _ => m.num i
  | _ => 0
def AM.al (m : AM) (k : Nat) : Bool := match m.rs[k]? with
  | some r => r.al
  | none => false
def AM.zOf (m : AM) (k : Nat) : Int := match m.rs[k]? with
  | some r => r.z
  | none => 0
def AM.cOf (m : AM) (k : Nat) (j : Int) : Option Int := match m.rs[k]? with
  | some r => r.c j
  | none => none
def AM.look (m : AM) (r : Rw) : Option Str := match r with
  | .room _ n => if 1 ≤ m.num n ∧ m.num n ≤ 8 then none else some "wide"
  | _ => (match m.hd r.hOf with
    | none => some "none"
    | some p => if m.al p.1 = true then
        if r.isFree = true then (if p.2 = 0 then none else some "inside")
        else if 0 ≤ p.2 + m.ix r ∧ p.2 + m.ix r < m.zOf p.1 then (if r.isGet = true ∧ (m.cOf p.1 (p.2 + m.ix r)).isNone = true then some "fresh" else none) else some "beyond"
      else some (if r.isFree = true then "twice" else "late"))
def AM.setR (m : AM) (k : Nat) (f : ARm → ARm) : AM := { m with rs := m.rs.modify k f }
def AM.do (m : AM) (r : Rw) : AM := match r with
  | .put n c => { m with n := m.n.set n c }
  | .add n a b => { m with n := m.n.set n (cutI (m.num a + m.num b)) }
  | .less n a b => { m with n := m.n.set n (cutI (m.num a - m.num b)) }
  | .ask n => { m with n := m.n.set n (m.g.headD 0), g := m.g.tail }
  | .say n => { m with sd := m.sd ++ [m.num n] }
  | .shift h g n => { m with h := m.h.set h ((m.hd g).map fun p => (p.1, cutI (p.2 + m.num n))) }
  | .move h g => { m with h := m.h.set h (m.hd g) }
  | .room h n => { m with rs := m.rs ++ [⟨m.num n, true, fun _ => none⟩], h := m.h.set h (some (m.rs.length, 0)) }
  | .free h => (match m.hd h with
    | none => m
    | some p => m.setR p.1 fun r => { r with al := false })
  | .get n h i => (match m.hd h with
    | none => m
    | some p => { m with n := m.n.set n ((m.cOf p.1 (p.2 + m.num i)).getD 0) })
  | .set h i n => (match m.hd h with
    | none => m
    | some p => m.setR p.1 fun r => { r with c := fun j => if j = p.2 + m.num i then some (m.num n) else r.c j })
  | .chk => m
/-- the same, as far as good touches tell -/
structure Abs (a : AM) (m : Mac) : Prop where
  n : a.n = m.n
  h : a.h = m.h
  g : a.g = m.g
  sd : a.sd = m.sd
  len : a.rs.length = m.s.rooms.length
  rm : ∀ (i : Nat) x r, a.rs[i]? = some x → m.s.rooms[i]? = some r → x.z = r.z ∧ (x.al = true ↔ r.st = "living") ∧ (r.st = "living" → ∀ j : Int, 0 ≤ j → j < r.z → ((x.c j).isSome = true ↔ r.w + j ∈ r.kn) ∧ ∀ v, x.c j = some v → m.c[(r.w + j).toNat]? = some v)
section
variable {a : AM} {m : Mac} {k : Nat}
theorem Abs.num (s : Abs a m) (i : Nat) : a.num i = m.num i := by
  unfold AM.num Mac.num
  rw [s.n]
theorem Abs.hd (s : Abs a m) (i : Nat) : a.hd i = m.hd i := by
  unfold AM.hd Mac.hd
  rw [s.h]
theorem Abs.ix (s : Abs a m) (r : Rw) : a.ix r = m.ix r := by
  cases r <;> first | rfl | exact s.num _
theorem Abs.at (s : Abs a m) {i : Nat} (hi : i < m.s.rooms.length) : ∃ x r, a.rs[i]? = some x ∧ m.s.rooms[i]? = some r := ⟨_, _, List.getElem?_eq_getElem (by rw [s.len]; exact hi), List.getElem?_eq_getElem hi⟩
/-- the handle's room in both -/
theorem Abs.room (s : Abs a m) (o : m.ok k) {i : Nat} {p : Nat × Int} (e : m.hd i = some p) : ∃ x r, a.rs[p.1]? = some x ∧ m.s.rooms[p.1]? = some r ∧ x.z = r.z ∧ (x.al = true ↔ r.st = "living") := by
  obtain ⟨x, r, e1, e2⟩ := s.at (o.hs i p e)
  obtain ⟨h1, h2, _⟩ := s.rm p.1 x r e1 e2
  exact ⟨x, r, e1, e2, h1, h2⟩
theorem Abs.look (s : Abs a m) (o : m.ok k) {r : Rw} (ht : r.isT = true) : a.look r = m.lookB r := by
  have iv := o.inv.i0
  have key : ∀ (q : Rw), (∀ x y, q ≠ .room x y) → (q.isFree = true ∨ q.isGet = true ∨ q.isGet = false) → (match a.hd q.hOf with
    | none => some ("none" : Str)
    | some p => if a.al p.1 = true then
        if q.isFree = true then (if p.2 = 0 then none else some "inside")
        else if 0 ≤ p.2 + a.ix q ∧ p.2 + a.ix q < a.zOf p.1 then (if q.isGet = true ∧ (a.cOf p.1 (p.2 + a.ix q)).isNone = true then some "fresh" else none) else some "beyond"
      else some (if q.isFree = true then "twice" else "late")) = (match m.hd q.hOf with
    | none => some ("none" : Str)
    | some p => m.bad1 q p) := fun q _ _ => by
    rw [s.hd]
    cases hh : m.hd q.hOf with
    | none => rfl
    | some p =>
      obtain ⟨x, r, e1, e2, z1, z2⟩ := s.room o hh
      have l1 : a.al p.1 = x.al := by unfold AM.al; rw [e1]
      have l2 : m.s.isLiving p.1 = decide (r.st = "living") := isLiving_at e2
      have l3 : a.zOf p.1 = r.z := by unfold AM.zOf; rw [e1]; exact z1
      have l4 : m.s.wideAt p.1 = r.z := wideAt_at e2
      have l5 : ∀ j, a.cOf p.1 j = x.c j := fun j => by unfold AM.cOf; rw [e1]
      simp only [Mac.bad1, s.ix, l1, l2, l3, l4, l5]
      by_cases c1 : r.st = "living"
      · have c1' : x.al = true := z2.mpr c1
        simp only [c1, c1', decide_true, if_true]
        by_cases c2 : q.isFree = true
        · simp [c2]
        · simp only [c2]
          by_cases c3 : 0 ≤ p.2 + m.ix q ∧ p.2 + m.ix q < r.z
          · have pl : m.s.placeOf p.1 = r.w := by unfold Sto.placeOf; rw [e2]
            have ec : m.cell q = r.w + (p.2 + m.ix q) := by
              unfold Mac.cell Mac.base
              rw [hh]
              simp only [pl]
              omega
            have mk := mark_is iv (c := m.cell q) e2 c1 (by omega) (by omega)
            have cc := ((s.rm p.1 x r e1 e2).2.2 c1 _ c3.1 c3.2).1
            rw [if_pos c3, if_pos c3, mk, ec]
            by_cases c4 : r.w + (p.2 + m.ix q) ∈ r.kn
            · have c5 : (x.c (p.2 + m.ix q)).isNone = false := by
                have := cc.mpr c4
                cases hx : x.c (p.2 + m.ix q) with
                | none => rw [hx] at this; cases this
                | some v => rfl
              simp [c4, c5]
            · have c5 : (x.c (p.2 + m.ix q)).isNone = true := by
                cases hx : x.c (p.2 + m.ix q) with
                | none => rfl
                | some v => exact absurd (cc.mp (by rw [hx]; rfl)) c4
              simp [c4, c5]
          · rw [if_neg c3, if_neg c3]
      · have c1' : ¬ x.al = true := fun z => c1 (z2.mp z)
        simp [c1, c1']
  cases r with
  | room x y =>
    show (if 1 ≤ a.num y ∧ a.num y ≤ 8 then none else some ("wide" : Str)) = m.wide1 y
    rw [s.num]
    rfl
  | free x => exact key (.free x) (fun _ _ z => by cases z) (.inl rfl)
  | get x y z => exact key (.get x y z) (fun _ _ z => by cases z) (.inr (.inl rfl))
  | set x y z => exact key (.set x y z) (fun _ _ z => by cases z) (.inr (.inr rfl))
  | _ => cases ht
end
theorem drain_st : ∀ (ws : List Nat) (s : Sto) (j : Nat) (q : Rm), (drain ws s).rooms[j]? = some q → ∃ r, s.rooms[j]? = some r ∧ q.w = r.w ∧ q.z = r.z ∧ q.kn = r.kn ∧ (q.st = r.st ∨ (j ∈ ws ∧ q.st = "gone"))
  | [], s, j, q, e => ⟨q, e, rfl, rfl, rfl, .inl rfl⟩
  | i :: ws, s, j, q, e => by
    unfold drain at e
    by_cases c : s.keep < s.sumW (i :: ws)
    · rw [if_pos c] at e
      obtain ⟨r, e1, h1, h2, h3, h4⟩ := drain_st ws (s.put i "gone") j q e
      obtain ⟨r0, e2, h5⟩ := mod_get (s := s) (i := i) (f := fun r => { r with st := "gone" }) e1
      refine ⟨r0, e2, ?_, ?_, ?_, ?_⟩
      · rw [h1, h5]; split <;> rfl
      · rw [h2, h5]; split <;> rfl
      · rw [h3, h5]; split <;> rfl
      · rcases h4 with h4 | ⟨h4, h6⟩
        · rw [h4, h5]
          split
          · rename_i z
            exact .inr ⟨by rw [z]; exact List.mem_cons_self, rfl⟩
          · exact .inl rfl
        · exact .inr ⟨List.mem_cons_of_mem _ h4, h6⟩
    · rw [if_neg c] at e
      exact ⟨q, e, rfl, rfl, rfl, .inl rfl⟩
theorem free_st {s : Sto} (v : Inv0 s) {i j : Nat} {q : Rm} (e : (s.free i).rooms[j]? = some q) : ∃ r, s.rooms[j]? = some r ∧ q.w = r.w ∧ q.z = r.z ∧ q.kn = r.kn ∧ (q.st = "living" ↔ r.st = "living" ∧ j ≠ i) := by
  unfold Sto.free at e
  obtain ⟨r, e1, h1, h2, h3, h4⟩ := drain_st _ _ j q e
  obtain ⟨r0, e2, h5⟩ := mod_get (s := s) (i := i) (f := fun r => { r with st := "kept" }) e1
  refine ⟨r0, e2, by rw [h1, h5]; split <;> rfl, by rw [h2, h5]; split <;> rfl, by rw [h3, h5]; split <;> rfl, ?_⟩
  by_cases c : i = j
  · subst c
    rw [if_pos rfl] at h5
    rw [h5] at h4
    refine ⟨fun z => ?_, fun z => absurd rfl z.2⟩
    rcases h4 with h4 | ⟨_, h4⟩
    · rw [z] at h4; exact absurd h4 s_lk
    · rw [z] at h4; exact absurd h4 s_lg
  · rw [if_neg c] at h5
    rw [h5] at h4
    rcases h4 with h4 | ⟨h6, h4⟩
    · rw [h4]
      exact ⟨fun z => ⟨z, fun y => c y.symm⟩, fun z => z.1⟩
    · refine ⟨fun z => by rw [z] at h4; exact absurd h4 s_lg, fun z => ?_⟩
      rcases List.mem_append.mp h6 with h6 | h6
      · have := (v.kp j r0 e2).mpr h6
        rw [z.1] at this
        exact absurd this s_lk
      · exact absurd (List.mem_singleton.mp h6) z.2
section
variable {a : AM} {m : Mac} {k : Nat}
theorem Abs.same (s : Abs a m) {a' : AM} {m' : Mac} (h1 : a'.n = m'.n) (h2 : a'.h = m'.h) (h3 : a'.g = m'.g) (h4 : a'.sd = m'.sd) (h5 : a'.rs = a.rs) (h6 : m'.s = m.s) (h7 : m'.c = m.c) : Abs a' m' :=
  ⟨h1, h2, h3, h4, by rw [h5, h6]; exact s.len, by rw [h5, h6, h7]; exact s.rm⟩
theorem Abs.free (s : Abs a m) (o : m.ok k) {i : Nat} {f : ARm → ARm} (hf : ∀ x, (f x).z = x.z ∧ (f x).al = false) (hi : i < m.s.rooms.length) : Abs (a.setR i f) { m with s := m.s.free i } := by
  refine ⟨s.n, s.h, s.g, s.sd, ?_, fun j x r e1 e2 => ?_⟩
  · show (a.rs.modify i f).length = (m.s.free i).rooms.length
    rw [List.length_modify, (free_keep i).1, s.len]
  · obtain ⟨r0, q1, q2, q3, q4, q5⟩ := free_st o.inv.i0 e2
    have e1' : (a.rs.modify i f)[j]? = some x := e1
    rw [List.getElem?_modify] at e1'
    cases h : a.rs[j]? with
    | none => rw [h] at e1'; simp at e1'
    | some y =>
      rw [h] at e1'
      obtain ⟨t1, t2, t3⟩ := s.rm j y r0 h q1
      by_cases c : i = j
      · subst c
        simp at e1'
        subst e1'
        refine ⟨by rw [(hf y).1, q3]; exact t1, ⟨fun z => (by rw [(hf y).2] at z; cases z), fun z => absurd rfl (q5.mp z).2⟩, fun z => absurd rfl (q5.mp z).2⟩
      · simp [c] at e1'
        subst e1'
        refine ⟨by rw [q3]; exact t1, ⟨fun z => q5.mpr ⟨t2.mp z, fun y => c y.symm⟩, fun z => t2.mpr (q5.mp z).1⟩, fun z => ?_⟩
        rw [q2, q3, q4]
        exact t3 (q5.mp z).1
theorem good_get {r : Rw} (hg : m.lookB r = none) (h1 : r.isFree = false) (h2 : ∀ x y, r ≠ .room x y) (o : m.ok k) : ∃ p q, m.hd r.hOf = some p ∧ m.s.rooms[p.1]? = some q ∧ q.st = "living" ∧ 0 ≤ p.2 + m.ix r ∧ p.2 + m.ix r < q.z ∧ m.cell r = q.w + (p.2 + m.ix r) ∧ (r.isGet = true → m.s.mark (m.cell r) = "set") := by
  have hg' : (match m.hd r.hOf with
    | none => some ("none" : Str)
    | some p => m.bad1 r p) = none := by
    cases r <;> first | exact hg | exact absurd rfl (h2 _ _)
  cases hh : m.hd r.hOf with
  | none => rw [hh] at hg'; cases hg'
  | some p =>
    rw [hh] at hg'
    simp only [Mac.bad1] at hg'
    by_cases c1 : m.s.isLiving p.1 = true
    · obtain ⟨q, e1, e2, e3, e4⟩ := o.liv hh c1
      rw [if_pos c1, if_neg (by rw [h1]; simp)] at hg'
      by_cases c2 : 0 ≤ p.2 + m.ix r ∧ p.2 + m.ix r < m.s.wideAt p.1
      · rw [if_pos c2] at hg'
        refine ⟨p, q, rfl, e1, e2, c2.1, by rw [← e4]; exact c2.2, ?_, fun hi => ?_⟩
        · unfold Mac.cell Mac.base
          rw [hh]
          simp only [e3]
          omega
        · refine Decidable.byContradiction fun c3 => ?_
          rw [if_pos ⟨hi, c3⟩] at hg'
          cases hg'
      · rw [if_neg c2] at hg'
        cases hg'
    · rw [if_neg c1] at hg'
      cases hg'
/-- a good row in both -/
theorem Abs.step (s : Abs a m) (o : m.ok k) {r : Rw} (hc : r ≠ .chk) (hg : r.isT = true → m.lookB r = none) : ((m.do r).2 = "full" ∧ (m.do r).1.sd = m.sd) ∨ ((m.do r).2 = "" ∧ Abs (a.do r) (m.do r).1) := by
  have iv := o.inv.i0
  cases r with
  | put n c => exact .inr ⟨rfl, s.same (by show a.n.set n c = m.n.set n c; rw [s.n]) s.h s.g s.sd rfl rfl rfl⟩
  | add n x y => exact .inr ⟨rfl, s.same (by show a.n.set n _ = m.n.set n _; rw [s.n, s.num, s.num]) s.h s.g s.sd rfl rfl rfl⟩
  | less n x y => exact .inr ⟨rfl, s.same (by show a.n.set n _ = m.n.set n _; rw [s.n, s.num, s.num]) s.h s.g s.sd rfl rfl rfl⟩
  | ask n => exact .inr ⟨rfl, s.same (by show a.n.set n _ = m.n.set n _; rw [s.n, s.g]) s.h (by show a.g.tail = m.g.tail; rw [s.g]) s.sd rfl rfl rfl⟩
  | say n => exact .inr ⟨rfl, s.same s.n s.h s.g (by show a.sd ++ _ = m.sd ++ _; rw [s.sd, s.num]) rfl rfl rfl⟩
  | shift x y n => exact .inr ⟨rfl, s.same s.n (by show a.h.set x _ = m.h.set x _; rw [s.h, s.hd, s.num]) s.g s.sd rfl rfl rfl⟩
  | move x y => exact .inr ⟨rfl, s.same s.n (by show a.h.set x _ = m.h.set x _; rw [s.h, s.hd]) s.g s.sd rfl rfl rfl⟩
  | chk => exact absurd rfl hc
  | room x n =>
    have hg := hg rfl
    have hn : 1 ≤ m.num n ∧ m.num n ≤ 8 := by
      have : (if 1 ≤ m.num n ∧ m.num n ≤ 8 then none else some ("wide" : Str)) = none := hg
      refine Decidable.byContradiction fun z => ?_
      rw [if_neg z] at this
      cases this
    have cl : clampZ (m.num n) = m.num n := by
      unfold clampZ
      omega
    cases hs : m.s.spot (m.num n) with
    | none =>
      left
      unfold Mac.do
      simp only [cl, hs]
      exact ⟨trivial, trivial⟩
    | some b =>
      right
      have e : m.do (.room x n) = ({ m with s := m.s.add ⟨b + m.s.gap, m.num n, "living", []⟩, h := m.h.set x (some (m.s.rooms.length, 0)) }, ("" : Str)) := by
        unfold Mac.do
        simp only [cl, hs]
      rw [e]
      refine ⟨rfl, s.n, ?_, s.g, s.sd, ?_, fun i q r e1 e2 => ?_⟩
      · show a.h.set x (some (a.rs.length, 0)) = m.h.set x (some (m.s.rooms.length, 0))
        rw [s.h, s.len]
      · show (a.rs ++ _).length = (m.s.rooms ++ _).length
        rw [List.length_append, List.length_append, s.len]
        rfl
      · have e1' : (a.rs ++ [⟨a.num n, true, fun _ => none⟩])[i]? = some q := e1
        have e2' : (m.s.rooms ++ [⟨b + m.s.gap, m.num n, "living", []⟩])[i]? = some r := e2
        rcases snoc_get e1' with e1' | ⟨i1, rfl⟩
        · have hi : i < m.s.rooms.length := by rw [← s.len]; exact (List.getElem?_eq_some_iff.mp e1').1
          rw [List.getElem?_append_left hi] at e2'
          exact s.rm i q r e1' e2'
        · rcases snoc_get e2' with e2' | ⟨_, rfl⟩
          · have := (List.getElem?_eq_some_iff.mp e2').1
            rw [s.len] at i1
            omega
          · refine ⟨s.num n, ⟨fun _ => rfl, fun _ => rfl⟩, fun _ j _ _ => ⟨⟨fun z => (by cases z), fun z => (by cases z)⟩, fun v z => (by cases z)⟩⟩
  | free x =>
    have hg := hg rfl
    right
    unfold Mac.lookB at hg
    simp only at hg
    cases hh : m.hd (Rw.free x).hOf with
    | none => rw [hh] at hg; cases hg
    | some p =>
      rw [hh] at hg
      simp only [Mac.bad1] at hg
      by_cases c1 : m.s.isLiving p.1 = true
      · obtain ⟨q, e1, e2, e3, e4⟩ := o.liv hh c1
        rw [if_pos c1] at hg
        by_cases c2 : p.2 = 0
        · have ec : m.cell (.free x) = q.w := by
            unfold Mac.cell Mac.base Mac.ix
            rw [hh]
            simp [e3, c2]
          have bg : m.s.begins (m.cell (.free x)) = some p.1 := by rw [ec]; exact begins_is iv e1 e2
          have hh' : m.hd x = some p := hh
          have ed : m.do (.free x) = ({ m with s := m.s.free p.1 }, ("" : Str)) := by
            unfold Mac.do
            simp only [bg]
          have ea : a.do (.free x) = a.setR p.1 fun r => { r with al := false } := by
            unfold AM.do
            simp only [s.hd, hh']
          rw [ed, ea]
          exact ⟨rfl, s.free o (fun x => ⟨rfl, rfl⟩) (o.hs _ _ hh')⟩
        · simp [Rw.isFree, c2] at hg
      · simp [c1] at hg
  | get n x i =>
    have hg := hg rfl
    right
    obtain ⟨p, q, h1, h2, h3, h4, h5, h6, h7⟩ := good_get hg rfl (fun _ _ z => by cases z) o
    have hh' : m.hd x = some p := h1
    have hin := iv.inn _ _ h2
    have hc := o.c
    have gg := iv.ok.2.2.1
    have rng : 0 ≤ m.cell (.get n x i) ∧ m.cell (.get n x i) < (m.c.length : Int) := by omega
    obtain ⟨y, ey⟩ : ∃ y, a.rs[p.1]? = some y := ⟨_, List.getElem?_eq_getElem (by rw [s.len]; exact (List.getElem?_eq_some_iff.mp h2).1)⟩
    obtain ⟨t1, t2, t3⟩ := s.rm _ _ _ ey h2
    obtain ⟨t4, t5⟩ := t3 h3 _ h4 h5
    have mk := mark_is iv (c := m.cell (.get n x i)) h2 h3 (by omega) (by omega)
    have hk : m.cell (.get n x i) ∈ q.kn := by
      refine Decidable.byContradiction fun z => ?_
      rw [h7 rfl, if_neg z] at mk
      exact absurd mk (by decide +kernel)
    rw [h6] at hk
    have ix : m.ix (.get n x i) = m.num i := rfl
    obtain ⟨v, hv⟩ := Option.isSome_iff_exists.mp (t4.mpr hk)
    have cv := t5 v hv
    have ed : m.do (.get n x i) = ({ m with n := m.n.set n (m.c.getD (m.cell (.get n x i)).toNat 0) }, ("" : Str)) := by
      unfold Mac.do
      simp only [if_pos rng]
    have ea : a.do (.get n x i) = { a with n := a.n.set n v } := by
      have : a.cOf p.1 (p.2 + a.num i) = some v := by
        unfold AM.cOf
        rw [ey, s.num, ← ix]
        exact hv
      unfold AM.do
      simp only [s.hd, hh', this]
      rfl
    rw [ed, ea]
    refine ⟨rfl, s.same ?_ s.h s.g s.sd rfl rfl rfl⟩
    show a.n.set n v = m.n.set n _
    rw [s.n, h6, List.getD_eq_getElem?_getD, cv]
    rfl
  | set x i n =>
    have hg := hg rfl
    right
    obtain ⟨p, q, h1, h2, h3, h4, h5, h6, h7⟩ := good_get hg rfl (fun _ _ z => by cases z) o
    have hh' : m.hd x = some p := h1
    have hin := iv.inn _ _ h2
    have hc := o.c
    have gg := iv.ok.2.2.1
    have rng : 0 ≤ m.cell (.set x i n) ∧ m.cell (.set x i n) < (m.c.length : Int) := by omega
    have ow := owner_is iv (c := m.cell (.set x i n)) h2 h3 (by omega) (by omega)
    have ix : m.ix (.set x i n) = m.num i := rfl
    have ed : m.do (.set x i n) = ({ m with c := m.c.set (m.cell (.set x i n)).toNat (m.num n), s := m.s.write (m.cell (.set x i n)) }, ("" : Str)) := by
      unfold Mac.do
      simp only [if_pos rng]
    have ea : a.do (.set x i n) = a.setR p.1 fun r => { r with c := fun j => if j = p.2 + m.num i then some (m.num n) else r.c j } := by
      unfold AM.do
      simp only [s.hd, hh', s.num]
    have ew : m.s.write (m.cell (.set x i n)) = m.s.setRoom p.1 fun r => { r with kn := addKn (m.cell (.set x i n)) r.kn } := by
      unfold Sto.write
      rw [ow]
    rw [ed, ea, ew, h6, ix]
    rw [ix] at h4 h5
    refine ⟨rfl, s.n, s.h, s.g, s.sd, ?_, fun j y r e1 e2 => ?_⟩
    · show (a.rs.modify _ _).length = (m.s.rooms.modify _ _).length
      rw [List.length_modify, List.length_modify, s.len]
    · have e1' : (a.rs.modify p.1 fun r => { r with c := fun j => if j = p.2 + m.num i then some (m.num n) else r.c j })[j]? = some y := e1
      obtain ⟨r0, e3, e4⟩ := mod_get (s := m.s) (i := p.1) (f := fun r => { r with kn := addKn (q.w + (p.2 + m.num i)) r.kn }) e2
      rw [List.getElem?_modify] at e1'
      cases h : a.rs[j]? with
      | none => rw [h] at e1'; simp at e1'
      | some y0 =>
        rw [h] at e1'
        obtain ⟨t1, t2, t3⟩ := s.rm j y0 r0 h e3
        by_cases c : p.1 = j
        · subst c
          rw [e3] at h2
          cases h2
          simp at e1'
          subst e1'
          rw [if_pos rfl] at e4
          subst e4
          refine ⟨t1, t2, fun z j j0 j1 => ?_⟩
          obtain ⟨t4, t5⟩ := t3 z j j0 j1
          simp only at j1 t4 t5 ⊢
          by_cases cj : j = p.2 + m.num i
          · subst cj
            simp only [if_true]
            refine ⟨⟨fun _ => ?_, fun _ => rfl⟩, fun v hv => ?_⟩
            · unfold addKn
              split
              · assumption
              · exact List.mem_append_right _ List.mem_cons_self
            · cases hv
              rw [List.getElem?_set_self (by omega)]
          · simp only [if_neg cj]
            refine ⟨⟨fun z => ?_, fun z => ?_⟩, fun v hv => ?_⟩
            · unfold addKn
              split
              · exact t4.mp z
              · exact List.mem_append_left _ (t4.mp z)
            · refine t4.mpr ?_
              unfold addKn at z
              split at z
              · exact z
              · rcases List.mem_append.mp z with z | z
                · exact z
                · have := List.mem_singleton.mp z
                  omega
            · rw [List.getElem?_set_ne (by omega)]
              exact t5 v hv
        · simp [c] at e1'
          subst e1'
          rw [if_neg c] at e4
          subst e4
          refine ⟨t1, t2, fun z j' j0 j1 => ?_⟩
          obtain ⟨t4, t5⟩ := t3 z j' j0 j1
          refine ⟨t4, fun v hv => ?_⟩
          have dd := iv.dis p.1 j q r c h2 e3 (by rw [h3]; exact s_lg) (by rw [z]; exact s_lg)
          have := iv.inn _ _ e3
          rw [List.getElem?_set_ne (by omega)]
          exact t5 v hv
end
/-! ### a few rooms made, one behind another, some freed, and a last touch -/
theorem sRows_go {blk : Nat} {r : Rw} {rs : List Rw} {p : Nat} {x : RS} (hl : r.isT = true → x.m.lookB r = none) (hs : x.steps + 1 ≤ 400) (hw : (x.m.do r).2 = "") : sRows .bounds [] blk (r :: rs) p x = sRows .bounds [] blk rs (p + 1) { x with steps := x.steps + 1, m := (x.m.do r).1 } := by
  have e : (if r.isT = true ∧ (blk, p) ∉ ([] : List (Nat × Nat)) then x.m.look r .bounds else none) = none := by
    split
    · rename_i c
      exact hl c.1
    · rfl
  rw [sRows, e]
  simp only []
  rw [if_neg (by omega), if_neg (by rw [hw]; simp)]
theorem sRows_at {blk : Nat} {r : Rw} {rs : List Rw} {p : Nat} {x : RS} {t : Str} (ht : r.isT = true) (hl : x.m.lookB r = some t) : sRows .bounds [] blk (r :: rs) p x = { x with word := "stop", why := some (blk, p, t), stopped := some r } := by
  have e : (if r.isT = true ∧ (blk, p) ∉ ([] : List (Nat × Nat)) then x.m.look r .bounds else none) = some t := by
    rw [if_pos ⟨ht, by simp⟩]
    exact hl
  rw [sRows, e]
/-- blocks that were taken -/
def spanS (g : Int) (zs : List Int) : Int := (zs.map fun z => z + 2 * g).sum
theorem spanS_app (g : Int) (zs zs' : List Int) : spanS g (zs ++ zs') = spanS g zs + spanS g zs' := by
  unfold spanS
  rw [List.map_append, List.sum_append]
structure FK (s : Stg) (zs : List Int) (fs : List Nat) (m : Mac) : Prop where
  h : ∀ j, j < zs.length → m.h[j]? = some (some (j, 0))
  len : m.s.rooms.length = zs.length
  rm : ∀ (j : Nat) z, zs[j]? = some z → ∃ r, m.s.rooms[j]? = some r ∧ r.z = z ∧ (r.st = "living" ↔ j ∉ fs) ∧ r.w + r.z + s.g ≤ spanS s.g zs
  many : m.s.many = 64
  gap : m.s.gap = s.g
  keep : m.s.keep = s.k
  wt : (fs.map fun j => zs.getD j 0).sum ≤ s.k → m.s.waiting = fs ∧ ∀ (j : Nat) r, j ∈ fs → m.s.rooms[j]? = some r → r.st = "kept"
section
variable {s : Stg} {zs : List Int} {fs : List Nat} {m : Mac} {k : Nat}
theorem FK.same (f : FK s zs fs m) {m' : Mac} (h1 : m'.h = m.h) (h2 : m'.s = m.s) : FK s zs fs m' :=
  ⟨by rw [h1]; exact f.h, by rw [h2]; exact f.len, by rw [h2]; exact f.rm, by rw [h2]; exact f.many, by rw [h2]; exact f.gap, by rw [h2]; exact f.keep, by rw [h2]; exact f.wt⟩
theorem FK.hd (f : FK s zs fs m) {j : Nat} (hj : j < zs.length) : m.hd j = some (j, 0) := by
  unfold Mac.hd
  rw [List.getD_eq_getElem?_getD, f.h j hj]
  rfl
theorem FK.room (f : FK s zs [] m) (o : m.ok k) {z : Int} (z1 : 1 ≤ z) (z8 : z ≤ 8) (hn : m.num 0 = z) (fit : spanS s.g (zs ++ [z]) ≤ 64) (h4 : zs.length < 4) : (m.do (.room zs.length 0)).2 = "" ∧ FK s (zs ++ [z]) [] (m.do (.room zs.length 0)).1 := by
  have g0 := o.inv.i0.ok.2.2.1
  have gg := f.gap
  have sp : spanS s.g (zs ++ [z]) = spanS s.g zs + (z + 2 * s.g) := by
    rw [spanS_app]
    simp [spanS]
  have pos : 0 ≤ spanS s.g zs := by
    have : ∀ l : List Int, (∀ z ∈ l, 0 ≤ z) → 0 ≤ l.sum := fun l => by
      induction l with
      | nil => intro _; simp
      | cons x l ih => intro h; rw [List.sum_cons]; have := h x List.mem_cons_self; have := ih fun z hz => h z (List.mem_cons_of_mem _ hz); omega
    refine this _ fun y hy => ?_
    obtain ⟨w, hw, rfl⟩ := List.mem_map.mp hy
    obtain ⟨j, hj, e⟩ := List.mem_iff_getElem.mp hw
    obtain ⟨r, e1, e2, _⟩ := f.rm j w (by rw [List.getElem?_eq_getElem hj, e])
    have := (o.inv.i0.inn j r e1).2.2.1
    omega
  have cl : clampZ (m.num 0) = z := by
    rw [hn]
    unfold clampZ
    omega
  have cS : m.s.clear (((spanS s.g zs).toNat : Nat) : Int) (z + 2 * m.s.gap) = true := by
    refine clear_iff.mpr fun i r e => .inr (.inl ?_)
    have hi : i < zs.length := by rw [← f.len]; exact (List.getElem?_eq_some_iff.mp e).1
    obtain ⟨r', e1, e2, _, e4⟩ := f.rm i zs[i] (List.getElem?_eq_getElem hi)
    rw [e] at e1
    cases e1
    omega
  have fits : (((spanS s.g zs).toNat : Nat) : Int) + (z + 2 * m.s.gap) ≤ m.s.many := by
    rw [f.many, gg]
    omega
  cases hs : m.s.spot z with
  | none =>
    have := spot_none hs (spanS s.g zs).toNat fits
    rw [cS] at this
    cases this
  | some b =>
    obtain ⟨q1, q2, q3⟩ := spot_some hs
    have hb : b ≤ (spanS s.g zs).toNat := by
      refine Decidable.byContradiction fun c => ?_
      have := q3 (spanS s.g zs).toNat (by omega)
      rw [cS] at this
      cases this
    have e : m.do (.room zs.length 0) = ({ m with s := m.s.add ⟨b + m.s.gap, z, "living", []⟩, h := m.h.set zs.length (some (m.s.rooms.length, 0)) }, ("" : Str)) := by
      unfold Mac.do
      simp only [cl, hs]
    rw [e]
    refine ⟨rfl, fun j hj => ?_, ?_, fun j z' hz => ?_, f.many, f.gap, f.keep, fun _ => ⟨?_, fun j r hj => by cases hj⟩⟩
    · show (m.h.set zs.length (some (m.s.rooms.length, 0)))[j]? = some (some (j, 0))
      rw [List.length_append] at hj
      by_cases c : j = zs.length
      · subst c
        rw [List.getElem?_set_self (by rw [o.h4]; exact h4), f.len]
      · rw [List.getElem?_set_ne (fun z => c z.symm)]
        exact f.h j (by simp at hj; omega)
    · show (m.s.rooms ++ _).length = _
      rw [List.length_append, List.length_append, f.len]
      rfl
    · rcases snoc_get hz with hz | ⟨rfl, rfl⟩
      · obtain ⟨r, e1, e2, e3, e4⟩ := f.rm j z' hz
        refine ⟨r, ?_, e2, e3, by rw [sp]; omega⟩
        show (m.s.rooms ++ _)[j]? = some r
        rw [List.getElem?_append_left (List.getElem?_eq_some_iff.mp e1).1]
        exact e1
      · refine ⟨⟨b + m.s.gap, z', "living", []⟩, ?_, rfl, ⟨fun _ z => (by cases z), fun _ => rfl⟩, ?_⟩
        · show (m.s.rooms ++ [_])[zs.length]? = _
          rw [← f.len]
          simp
        · rw [sp]
          show (b : Int) + m.s.gap + z' + s.g ≤ _
          omega
    · have := (f.wt (by simp; exact o.inv.i0.ok.2.2.2.2.1 |> fun q => by rw [f.keep] at q; exact q)).1
      exact this
theorem FK.living (f : FK s zs fs m) {j : Nat} (hj : j < zs.length) (hf : j ∉ fs) : ∃ r, m.s.rooms[j]? = some r ∧ r.z = zs[j] ∧ r.st = "living" := by
  obtain ⟨r, e1, e2, e3, _⟩ := f.rm j zs[j] (List.getElem?_eq_getElem hj)
  exact ⟨r, e1, e2, e3.mpr hf⟩
/-- an own cell of a living room is set -/
theorem FK.setc (f : FK s zs fs m) (o : m.ok k) {j i n : Nat} (hj : j < zs.length) (hf : j ∉ fs) (h0 : 0 ≤ m.num i) (hz : m.num i < zs[j]) : m.lookB (.set j i n) = none ∧ (m.do (.set j i n)).2 = "" ∧ FK s zs fs (m.do (.set j i n)).1 := by
  obtain ⟨r, e1, e2, e3⟩ := f.living hj hf
  have iv := o.inv.i0
  have hd := f.hd hj
  have lv : m.s.isLiving j = true := by rw [isLiving_at e1]; simp [e3]
  have wd : m.s.wideAt j = r.z := wideAt_at e1
  have ix : m.ix (.set j i n) = m.num i := rfl
  have lk : m.lookB (.set j i n) = none := by
    show (match m.hd (Rw.set j i n).hOf with
      | none => some ("none" : Str)
      | some p => m.bad1 (.set j i n) p) = none
    have : m.hd (Rw.set j i n).hOf = some (j, 0) := hd
    rw [this]
    simp only [Mac.bad1, lv, ix, wd, Rw.isFree, Rw.isGet]
    have : 0 ≤ m.num i ∧ m.num i < r.z := by omega
    simp [this]
  have pl : m.s.placeOf j = r.w := by unfold Sto.placeOf; rw [e1]
  have ec : m.cell (.set j i n) = r.w + m.num i := by
    unfold Mac.cell Mac.base
    have : m.hd (Rw.set j i n).hOf = some (j, 0) := hd
    rw [this]
    simp only [pl, ix]
    omega
  have hin := iv.inn j r e1
  have g0 := iv.ok.2.2.1
  have hc := o.c
  have rng : 0 ≤ m.cell (.set j i n) ∧ m.cell (.set j i n) < (m.c.length : Int) := by omega
  have ow := owner_is iv (c := m.cell (.set j i n)) e1 e3 (by omega) (by omega)
  have ed : m.do (.set j i n) = ({ m with c := m.c.set (m.cell (.set j i n)).toNat (m.num n), s := m.s.setRoom j fun r => { r with kn := addKn (m.cell (.set j i n)) r.kn } }, ("" : Str)) := by
    unfold Mac.do
    simp only [if_pos rng]
    unfold Sto.write
    rw [ow]
  rw [ed]
  refine ⟨lk, rfl, f.h, ?_, fun i' z hz => ?_, f.many, f.gap, f.keep, fun w => ⟨(f.wt w).1, fun i' q hq e => ?_⟩⟩
  · show (m.s.rooms.modify _ _).length = _
    rw [List.length_modify]
    exact f.len
  · obtain ⟨q, q1, q2, q3, q4⟩ := f.rm i' z hz
    refine ⟨if j = i' then { q with kn := addKn (m.cell (.set j i n)) q.kn } else q, ?_, ?_, ?_, ?_⟩
    · show (m.s.rooms.modify j _)[i']? = _
      rw [List.getElem?_modify, q1]
      by_cases c : j = i' <;> simp [c]
    · split <;> exact q2
    · split <;> exact q3
    · split <;> exact q4
  · obtain ⟨q0, q1, q2⟩ := mod_get (s := m.s) (i := j) (f := fun r => { r with kn := addKn (m.cell (.set j i n)) r.kn }) e
    have := (f.wt w).2 i' q0 hq q1
    rw [q2]
    split <;> exact this
theorem sum_le_app {l : List Int} {x : Int} (hx : 0 ≤ x) : l.sum ≤ (l ++ [x]).sum := by
  rw [List.sum_append]
  simp
  omega
/-- a living room is freed -/
theorem FK.freed (f : FK s zs fs m) (o : m.ok k) {j : Nat} (hj : j < zs.length) (hf : j ∉ fs) (hfs : ∀ i ∈ fs, i < zs.length) : m.lookB (.free j) = none ∧ (m.do (.free j)).2 = "" ∧ FK s zs (fs ++ [j]) (m.do (.free j)).1 := by
  obtain ⟨r, e1, e2, e3⟩ := f.living hj hf
  have iv := o.inv.i0
  have hd := f.hd hj
  have lv : m.s.isLiving j = true := by rw [isLiving_at e1]; simp [e3]
  have lk : m.lookB (.free j) = none := by
    show (match m.hd (Rw.free j).hOf with
      | none => some ("none" : Str)
      | some p => m.bad1 (.free j) p) = none
    have : m.hd (Rw.free j).hOf = some (j, 0) := hd
    rw [this]
    simp [Mac.bad1, lv, Rw.isFree]
  have pl : m.s.placeOf j = r.w := by unfold Sto.placeOf; rw [e1]
  have ec : m.cell (.free j) = r.w := by
    unfold Mac.cell Mac.base Mac.ix
    have : m.hd (Rw.free j).hOf = some (j, 0) := hd
    rw [this]
    simp [pl]
  have bg : m.s.begins (m.cell (.free j)) = some j := by rw [ec]; exact begins_is iv e1 e3
  have ed : m.do (.free j) = ({ m with s := m.s.free j }, ("" : Str)) := by
    unfold Mac.do
    simp only [bg]
  obtain ⟨k1, k2, k3, k4, _⟩ := free_keep (s := m.s) j
  rw [ed]
  have pos : 0 ≤ zs.getD j 0 := by
    rw [List.getD_eq_getElem?_getD, List.getElem?_eq_getElem hj]
    have := (iv.inn j r e1).2.2.1
    simp
    omega
  refine ⟨lk, rfl, f.h, by show (m.s.free j).rooms.length = _; rw [k1]; exact f.len, fun i z hz => ?_, by show (m.s.free j).many = _; rw [k2]; exact f.many, by show (m.s.free j).gap = _; rw [k3]; exact f.gap, by show (m.s.free j).keep = _; rw [k4]; exact f.keep, fun w => ?_⟩
  · have hi : i < (m.s.free j).rooms.length := by rw [k1, f.len]; exact (List.getElem?_eq_some_iff.mp hz).1
    have eq := List.getElem?_eq_getElem hi
    obtain ⟨q, q1, q2, q3, q4, q5⟩ := free_st iv eq
    obtain ⟨r', p1, p2, p3, p4⟩ := f.rm i z hz
    rw [p1] at q1
    cases q1
    refine ⟨_, eq, by rw [q3]; exact p2, ?_, by rw [q2, q3]; exact p4⟩
    rw [q5, p3, List.mem_append, List.mem_singleton]
    exact ⟨fun ⟨a, b⟩ z => by rcases z with z | z; exact a z; exact b z, fun z => ⟨fun y => z (.inl y), fun y => z (.inr y)⟩⟩
  · rw [List.map_append] at w
    obtain ⟨w1, w2⟩ := f.wt (Int.le_trans (sum_le_app pos) w)
    have sw : ∀ l : List Nat, (∀ i ∈ l, i < zs.length) → m.s.sumW l = (l.map fun j => zs.getD j 0).sum := fun l hl => by
      unfold Sto.sumW
      congr 1
      refine List.map_congr_left fun i hi => ?_
      have hi := hl i hi
      obtain ⟨q, q1, q2, _⟩ := f.rm i zs[i] (List.getElem?_eq_getElem hi)
      rw [wideAt_at q1, q2, List.getD_eq_getElem?_getD, List.getElem?_eq_getElem hi]
      rfl
    have dr : m.s.free j = { m.s.put j "kept" with waiting := fs ++ [j] } := by
      unfold Sto.free
      rw [w1]
      have no : ¬ (m.s.put j "kept").keep < (m.s.put j "kept").sumW (fs ++ [j]) := by
        have e : (m.s.put j "kept").sumW (fs ++ [j]) = m.s.sumW (fs ++ [j]) := by
          unfold Sto.sumW
          congr 1
          exact List.map_congr_left fun i _ => put_wide j "kept" i
        rw [e, sw _ (fun i hi => by
          rcases List.mem_append.mp hi with hi | hi
          · exact hfs i hi
          · rw [List.mem_singleton.mp hi]; exact hj), List.map_append]
        show ¬ m.s.keep < _
        rw [f.keep]
        omega
      cases hq : fs ++ [j] with
      | nil => simp at hq
      | cons a l =>
        rw [hq] at no
        unfold drain
        rw [if_neg no]
    refine ⟨by show (m.s.free j).waiting = _; rw [dr], fun i q hi e => ?_⟩
    have e' : (m.s.put j "kept").rooms[i]? = some q := by
      have : (m.s.free j).rooms[i]? = some q := e
      rw [dr] at this
      exact this
    obtain ⟨q0, q1, q2⟩ := mod_get (s := m.s) (i := j) (f := fun r => { r with st := "kept" }) e'
    rw [q2]
    split
    · rfl
    · rename_i c
      rcases List.mem_append.mp hi with hi | hi
      · exact w2 i q0 hi q1
      · exact absurd (List.mem_singleton.mp hi).symm c
end
structure At (s : Stg) (zs : List Int) (fs : List Nat) (x : RS) (n : Nat) : Prop where
  f : FK s zs fs x.m
  o : x.m.ok x.steps
  st : x.steps = n
  w : x.word = ""
def Along (rs : List Rw) (p : Nat) (x y : RS) : Prop := ∀ rest, sRows .bounds [] 0 (rs ++ rest) p x = sRows .bounds [] 0 rest (p + rs.length) y
theorem Along.app {a b : List Rw} {p : Nat} {x y z : RS} (h : Along a p x y) (k : Along b (p + a.length) y z) : Along (a ++ b) p x z := fun rest => by
  rw [List.append_assoc, h, k, List.length_append, Nat.add_assoc]
theorem Along.one {r : Rw} {p : Nat} {x : RS} (hl : r.isT = true → x.m.lookB r = none) (hs : x.steps + 1 ≤ 400) (hw : (x.m.do r).2 = "") : Along [r] p x { x with steps := x.steps + 1, m := (x.m.do r).1 } := fun rest => sRows_go hl hs hw
def roomRows : Nat → List Int → List Rw
  | _, [] => []
  | k, z :: zs => [.put 0 z, .room k 0, .put 1 (z - 1), .set k 1 0] ++ roomRows (k + 1) zs
theorem roomRows_len : ∀ (k : Nat) (zs : List Int), (roomRows k zs).length = 4 * zs.length
  | _, [] => rfl
  | k, z :: zs => by
    rw [roomRows, List.length_append, roomRows_len (k + 1) zs, List.length_cons]
    simp
    omega
section
variable {s : Stg}
theorem num_set {m : Mac} {k i : Nat} {c : Int} (o : m.ok k) (hi : i < 6) : ({ m with n := m.n.set i c } : Mac).num i = c := by
  unfold Mac.num
  show (m.n.set i c).getD i 0 = c
  rw [List.getD_eq_getElem?_getD, List.getElem?_set_self (by rw [o.n6]; exact hi)]
  rfl
theorem At.put {zs : List Int} {fs : List Nat} {x : RS} {n i : Nat} {c : Int} (a : At s zs fs x n) (hn : n < 300) (hi : i < 6) (p : Nat) : ∃ y, Along [.put i c] p x y ∧ At s zs fs y (n + 1) ∧ y.m.num i = c ∧ y.why = x.why := by
  have st := a.st
  refine ⟨_, .one (fun z => by cases z) (by omega) rfl, ⟨a.f.same rfl rfl, Mac.do_ok a.o (.put i c), by show x.steps + 1 = n + 1; omega, a.w⟩, num_set a.o hi, rfl⟩
theorem rooms_run : ∀ (zs' zs : List Int) (x : RS) (n p : Nat), At s zs [] x n → n + 4 * zs'.length ≤ 200 → spanS s.g (zs ++ zs') ≤ 64 → (∀ z ∈ zs', 1 ≤ z ∧ z ≤ 8) → zs.length + zs'.length ≤ 4 → 0 ≤ s.g → ∃ y, Along (roomRows zs.length zs') p x y ∧ At s (zs ++ zs') [] y (n + 4 * zs'.length)
  | [], zs, x, n, p, a, _, _, _, _, _ => ⟨x, fun rest => rfl, by simpa using a⟩
  | z :: zs', zs, x, n, p, a, hn, fit, hz, h4, g0 => by
    obtain ⟨z1, z8⟩ := hz z List.mem_cons_self
    simp only [List.length_cons] at hn h4
    obtain ⟨x1, l1, a1, n1, _⟩ := a.put (i := 0) (c := z) (by omega) (by omega) p
    have fit1 : spanS s.g (zs ++ [z]) ≤ 64 := by
      have e : zs ++ z :: zs' = (zs ++ [z]) ++ zs' := by simp
      rw [e, spanS_app] at fit
      have pos : 0 ≤ spanS s.g zs' := by
        have : ∀ l : List Int, (∀ z ∈ l, 1 ≤ z ∧ z ≤ 8) → 0 ≤ spanS s.g l := fun l => by
          induction l with
          | nil => intro _; simp [spanS]
          | cons x l ih =>
            intro h
            have := h x List.mem_cons_self
            have := ih fun z hz => h z (List.mem_cons_of_mem _ hz)
            unfold spanS at this ⊢
            rw [List.map_cons, List.sum_cons]
            omega
        exact this zs' fun y hy => hz y (List.mem_cons_of_mem _ hy)
      omega
    obtain ⟨w2, f2⟩ := a1.f.room a1.o z1 z8 n1 fit1 (by omega)
    have lk2 : x1.m.lookB (.room zs.length 0) = none := by
      show x1.m.wide1 0 = none
      unfold Mac.wide1
      rw [n1, if_pos ⟨z1, z8⟩]
    have st1 := a1.st
    have l2 : Along [.room zs.length 0] (p + 1) x1 _ := .one (fun _ => lk2) (by omega) w2
    have a2 : At s (zs ++ [z]) [] { x1 with steps := x1.steps + 1, m := (x1.m.do (.room zs.length 0)).1 } (n + 2) := ⟨f2, Mac.do_ok a1.o _, by show x1.steps + 1 = _; omega, a1.w⟩
    obtain ⟨x3, l3, a3, n3, _⟩ := a2.put (i := 1) (c := z - 1) (by omega) (by omega) (p + 2)
    have hj : zs.length < (zs ++ [z]).length := by simp
    have ez : (zs ++ [z])[zs.length] = z := by simp
    obtain ⟨k1, k2, k3⟩ := a3.f.setc a3.o (j := zs.length) (i := 1) (n := 0) hj (by simp) (by rw [n3]; omega) (by rw [n3, ez]; omega)
    have st3 := a3.st
    have l4 : Along [.set zs.length 1 0] (p + 3) x3 _ := .one (fun _ => k1) (by omega) k2
    have a4 : At s (zs ++ [z]) [] { x3 with steps := x3.steps + 1, m := (x3.m.do (.set zs.length 1 0)).1 } (n + 4) := ⟨k3, Mac.do_ok a3.o _, by show x3.steps + 1 = _; omega, a3.w⟩
    obtain ⟨y, l5, a5⟩ := rooms_run zs' (zs ++ [z]) _ (n + 4) (p + 4) a4 (by omega) (by rw [List.append_assoc]; exact fit) (fun y hy => hz y (List.mem_cons_of_mem _ hy)) (by simp; omega) g0
    refine ⟨y, ?_, ?_⟩
    · have e : roomRows zs.length (z :: zs') = [.put 0 z] ++ ([.room zs.length 0] ++ ([.put 1 (z - 1)] ++ ([.set zs.length 1 0] ++ roomRows (zs.length + 1) zs'))) := rfl
      rw [e]
      have el : (zs ++ [z]).length = zs.length + 1 := by simp
      rw [el] at l5
      exact l1.app (l2.app (l3.app (l4.app l5)))
    · have e : zs ++ z :: zs' = (zs ++ [z]) ++ zs' := by simp
      rw [e]
      have en : n + 4 * (z :: zs').length = n + 4 + 4 * zs'.length := by rw [List.length_cons]; omega
      rw [en]
      exact a5
theorem frees_run : ∀ (fs' fs : List Nat) (zs : List Int) (x : RS) (n p : Nat), At s zs fs x n → n + fs'.length ≤ 300 → (fs ++ fs').Nodup → (∀ j ∈ fs ++ fs', j < zs.length) → ∃ y, Along (fs'.map Rw.free) p x y ∧ At s zs (fs ++ fs') y (n + fs'.length)
  | [], fs, zs, x, n, p, a, _, _, _ => ⟨x, fun rest => rfl, by simpa using a⟩
  | j :: fs', fs, zs, x, n, p, a, hn, nd, hj => by
    simp only [List.length_cons] at hn
    have jz : j < zs.length := hj j (by simp)
    have jf : j ∉ fs := fun h => by
      have := List.nodup_append.mp nd
      exact this.2.2 j h j List.mem_cons_self rfl
    obtain ⟨k1, k2, k3⟩ := a.f.freed a.o jz jf fun i hi => hj i (List.mem_append_left _ hi)
    have st := a.st
    have l1 : Along [.free j] p x _ := .one (fun _ => k1) (by omega) k2
    have a1 : At s zs (fs ++ [j]) { x with steps := x.steps + 1, m := (x.m.do (.free j)).1 } (n + 1) := ⟨k3, Mac.do_ok a.o _, by show x.steps + 1 = _; omega, a.w⟩
    have e : fs ++ j :: fs' = (fs ++ [j]) ++ fs' := by simp
    rw [e] at nd hj
    obtain ⟨y, l2, a2⟩ := frees_run fs' (fs ++ [j]) zs _ (n + 1) (p + 1) a1 (by omega) nd hj
    refine ⟨y, ?_, ?_⟩
    · show Along ([.free j] ++ fs'.map Rw.free) p x y
      exact l1.app l2
    · rw [e]
      have en : n + (j :: fs').length = n + 1 + fs'.length := by rw [List.length_cons]; omega
      rw [en]
      exact a2
theorem at0 {g : List Int} (hs : s.ok) (hg : inOk g) (h64 : s.m = 64) : At s [] [] (rs0 s g) 0 :=
  ⟨⟨fun j hj => by simp at hj, rfl, fun j z e => by simp at e, h64, rfl, rfl, fun _ => ⟨rfl, fun j r hj => by cases hj⟩⟩, mac0_ok hs hg, rfl, rfl⟩
/-- a touch at last of a room of which it is bad -/
theorem last_stop {rs : List Rw} {r : Rw} {g : List Int} {y : RS} {t : Str} (hl : Along rs 0 (rs0 s g) y) (hr : r.isT = true) (ht : y.m.lookB r = some t) (hn : ∀ q ∈ rs ++ [r], q ≠ .chk) : byItself [(rs ++ [r], .fin)] s g = { y with word := "stop", why := some (0, rs.length, t), stopped := some r } := by
  have hc : noChk [(rs ++ [r], Ed.fin)] := fun b hb q hq => by
    rw [List.mem_singleton.mp hb] at hq
    exact hn q hq
  have e1 : sRows .bounds [] 0 (rs ++ [r]) 0 (rs0 s g) = { y with word := "stop", why := some (0, rs.length, t), stopped := some r } := by
    rw [hl [r], sRows_at hr ht, Nat.zero_add]
  have e2 : sThr [(rs ++ [r], Ed.fin)] .bounds [] 0 (rs0 s g) = ({ y with word := "stop", why := some (0, rs.length, t), stopped := some r }, none) := by
    unfold sThr
    simp only [List.getElem?_cons_zero, e1]
    rw [if_pos (by simp)]
  unfold byItself runP
  rw [runM_s hc]
  unfold sRun
  rw [e2]
theorem last_missed {rs : List Rw} {r : Rw} {g : List Int} {y : RS} {t u : Str} (hl : Along rs 0 (rs0 s g) y) (hr : r.isT = true) (ht : y.m.lookB r = some t) (hn : ∀ q ∈ rs ++ [r], q ≠ .chk) (hm : y.m.lookM r = some u) : (byItself [(rs ++ [r], .fin)] s g).missed .marks = false := by
  rw [last_stop hl hr ht hn]
  unfold RS.missed
  simp only [Mac.look]
  rw [hm]
  simp
end
section
variable {s : Stg} {zs : List Int} {fs : List Nat} {m : Mac} {k j i n : Nat}
/-- a touch beyond -/
theorem look_beyond (f : FK s zs fs m) (o : m.ok k) (hj : j < zs.length) (hf : j ∉ fs) {r : Rw} (hr : r = .set j i n ∨ r = .get n j i) (hb : m.num i < 0 ∨ zs[j] ≤ m.num i) : m.lookB r = some "beyond" := by
  obtain ⟨q, e1, e2, e3⟩ := f.living hj hf
  have lv : m.s.isLiving j = true := by rw [isLiving_at e1]; simp [e3]
  have wd : m.s.wideAt j = q.z := wideAt_at e1
  have hd := f.hd hj
  have hb' : ¬ (0 ≤ m.num i ∧ m.num i < q.z) := by omega
  rcases hr with rfl | rfl
  · show (match m.hd j with
      | none => some ("none" : Str)
      | some p => m.bad1 (.set j i n) p) = _
    have ix : m.ix (.set j i n) = m.num i := rfl
    rw [hd]
    simp [Mac.bad1, lv, ix, wd, Rw.isFree, hb']
  · show (match m.hd j with
      | none => some ("none" : Str)
      | some p => m.bad1 (.get n j i) p) = _
    have ix : m.ix (.get n j i) = m.num i := rfl
    rw [hd]
    simp [Mac.bad1, lv, ix, wd, Rw.isFree, hb']
/-- a touch of a room that was freed -/
theorem look_late (f : FK s zs fs m) (o : m.ok k) (hj : j < zs.length) (hf : j ∈ fs) {r : Rw} (hr : r = .set j i n ∨ r = .get n j i ∨ r = .free j) : m.lookB r = some (if r.isFree = true then ("twice" : Str) else "late") := by
  obtain ⟨q, e1, e2, e3, _⟩ := f.rm j zs[j] (List.getElem?_eq_getElem hj)
  have lv : m.s.isLiving j = false := by
    rw [isLiving_at e1]
    have : ¬ q.st = "living" := fun z => e3.mp z hf
    simp [this]
  have hd := f.hd hj
  rcases hr with rfl | rfl | rfl
  · show (match m.hd j with
      | none => some ("none" : Str)
      | some p => m.bad1 (.set j i n) p) = _
    rw [hd]
    simp [Mac.bad1, lv, Rw.isFree]
  · show (match m.hd j with
      | none => some ("none" : Str)
      | some p => m.bad1 (.get n j i) p) = _
    rw [hd]
    simp [Mac.bad1, lv, Rw.isFree]
  · show (match m.hd j with
      | none => some ("none" : Str)
      | some p => m.bad1 (.free j) p) = _
    rw [hd]
    simp [Mac.bad1, lv, Rw.isFree]
/-- the mark of a cell by a room's own cells -/
theorem mark_gap {s : Sto} (v : Inv0 s) {i : Nat} {r : Rm} {c : Int} (e : s.rooms[i]? = some r) (hl : r.st = "living") (h1 : r.w - s.gap ≤ c) (h2 : c < r.w + r.z + s.gap) (h3 : c < r.w ∨ r.w + r.z ≤ c) : s.mark c = "gap" := by
  have g := v.ok.2.2.1
  have f : s.rooms.findSome? (own1 c) = none := findSome_none fun j q hq => by
    unfold own1
    refine if_neg fun ⟨z1, z2, z3⟩ => ?_
    by_cases c0 : i = j
    · subst c0
      rw [e] at hq
      cases hq
      omega
    · have := v.dis i j r q c0 e hq (by rw [hl]; exact s_lg) z1
      omega
  have f2 : s.rooms.findSome? (near1 s.gap c) = some ("gap" : Str) := by
    cases hq : s.rooms.findSome? (near1 s.gap c) with
    | none =>
      rw [List.findSome?_eq_none_iff] at hq
      have := hq r (List.mem_of_getElem? e)
      unfold near1 at this
      rw [if_pos ⟨by rw [hl]; exact s_lg, h1, h2⟩] at this
      cases this
    | some x =>
      obtain ⟨q, _, hx⟩ := List.exists_of_findSome?_eq_some hq
      unfold near1 at hx
      split at hx
      · exact hx.symm ▸ rfl
      · cases hx
  unfold Sto.mark
  rw [f, f2]
theorem mark_kept {s : Sto} (v : Inv0 s) {i : Nat} {r : Rm} {c : Int} (e : s.rooms[i]? = some r) (hl : r.st = "kept") (h1 : r.w ≤ c) (h2 : c < r.w + r.z) : s.mark c = "freed" := by
  have ng : r.st ≠ "gone" := by rw [hl]; exact s_kg
  have o1 : own1 c r = some ("freed" : Str) := by
    unfold own1
    rw [if_pos ⟨ng, h1, h2⟩, if_pos hl]
  have f : s.rooms.findSome? (own1 c) = some ("freed" : Str) := by
    refine findSome_some (fun j q hj hq => ?_) e o1
    unfold own1
    refine if_neg fun ⟨z1, z2, z3⟩ => ?_
    have g := v.ok.2.2.1
    have := v.dis i j r q (by omega) e hq ng z1
    omega
  unfold Sto.mark
  rw [f]
theorem told_beyond (f : FK s zs fs m) (o : m.ok k) (hj : j < zs.length) (hf : j ∉ fs) {r : Rw} (hr : r = .set j i n ∨ r = .get n j i) (hb : m.num i < 0 ∧ 0 - s.g ≤ m.num i ∨ zs[j] ≤ m.num i ∧ m.num i < zs[j] + s.g) : m.lookM r = some "gap" := by
  obtain ⟨q, e1, e2, e3⟩ := f.living hj hf
  have pl : m.s.placeOf j = q.w := by unfold Sto.placeOf; rw [e1]
  have hd := f.hd hj
  have gg := f.gap
  have ec : m.cell r = q.w + m.num i := by
    rcases hr with rfl | rfl
    · unfold Mac.cell Mac.base
      have : m.hd (Rw.set j i n).hOf = some (j, 0) := hd
      rw [this]
      simp only [pl, Mac.ix]
      omega
    · unfold Mac.cell Mac.base
      have : m.hd (Rw.get n j i).hOf = some (j, 0) := hd
      rw [this]
      simp only [pl, Mac.ix]
      omega
  have g0 := o.inv.i0.ok.2.2.1
  have z1 := (o.inv.i0.inn j q e1).2.2.1
  have mk := mark_gap o.inv.i0 (c := m.cell r) e1 e3 (by omega) (by omega) (by omega)
  rcases hr with rfl | rfl
  · unfold Mac.lookM
    simp only [mk]
    simp
  · unfold Mac.lookM
    simp only [mk]
    simp
theorem told_late (f : FK s zs fs m) (o : m.ok k) (hj : j < zs.length) (hf : j ∈ fs) {r : Rw} (hr : r = .set j i n ∨ r = .get n j i ∨ r = .free j) (h0 : 0 ≤ m.num i) (hz : m.num i < zs[j]) (hk : (fs.map fun j => zs.getD j 0).sum ≤ s.k) : m.lookM r = some "freed" := by
  obtain ⟨q, e1, e2, e3, _⟩ := f.rm j zs[j] (List.getElem?_eq_getElem hj)
  have kp := (f.wt hk).2 j q hf e1
  have pl : m.s.placeOf j = q.w := by unfold Sto.placeOf; rw [e1]
  have hd := f.hd hj
  have iv := o.inv.i0
  rcases hr with rfl | rfl | rfl
  · have ec : m.cell (.set j i n) = q.w + m.num i := by
      unfold Mac.cell Mac.base
      have : m.hd (Rw.set j i n).hOf = some (j, 0) := hd
      rw [this]
      simp only [pl, Mac.ix]
      omega
    have mk := mark_kept iv (c := m.cell (.set j i n)) e1 kp (by omega) (by omega)
    unfold Mac.lookM
    simp only [mk]
    simp
  · have ec : m.cell (.get n j i) = q.w + m.num i := by
      unfold Mac.cell Mac.base
      have : m.hd (Rw.get n j i).hOf = some (j, 0) := hd
      rw [this]
      simp only [pl, Mac.ix]
      omega
    have mk := mark_kept iv (c := m.cell (.get n j i)) e1 kp (by omega) (by omega)
    unfold Mac.lookM
    simp only [mk]
    simp
  · have ec : m.cell (.free j) = q.w := by
      unfold Mac.cell Mac.base Mac.ix
      have : m.hd (Rw.free j).hOf = some (j, 0) := hd
      rw [this]
      simp [pl]
    have z1 := (iv.inn j q e1).2.2.1
    have mk := mark_kept iv (c := m.cell (.free j)) e1 kp (by omega) (by omega)
    have bg : m.s.begins (m.cell (.free j)) = none := by
      cases hb : m.s.begins (m.cell (.free j)) with
      | none => rfl
      | some i' =>
        obtain ⟨b1, b2⟩ := begins_mem hb
        obtain ⟨q', b3, b4⟩ := living_st b1
        unfold Sto.whereAt at b2
        rw [b3] at b2
        simp at b2
        have g := iv.ok.2.2.1
        by_cases c0 : j = i'
        · subst c0
          rw [e1] at b3
          cases b3
          rw [kp] at b4
          exact absurd b4.symm s_lk
        · have := iv.dis j i' q q' c0 e1 b3 (by rw [kp]; exact s_kg) (by rw [b4]; exact s_lg)
          have := (iv.inn i' q' b3).2.2.1
          omega
    unfold Mac.lookM
    simp only [bg, mk]
    simp
end
/-! ### k12 -/
section
variable {h : PH} {Q : D → PH → Prop}
theorem roomRows_snoc : ∀ (k : Nat) (zs : List Int) (z : Int), roomRows k (zs ++ [z]) = roomRows k zs ++ [.put 0 z, .room (k + zs.length) 0, .put 1 (z - 1), .set (k + zs.length) 1 0]
  | k, [], z => by simp [roomRows]
  | k, x :: zs, z => by
    rw [List.cons_append, roomRows, roomRows_snoc (k + 1) zs z, roomRows, List.length_cons, show k + 1 + zs.length = k + (zs.length + 1) by omega, List.append_assoc]
theorem lrooms_ok {n : Nat} {sz : List Int} (hl : sz.length ≤ 4) : wp (f__law_rooms [.ref n, .lst (sz.map D.int)] h) Q = Q (.lst ((roomRows 0 sz).map Rw.d)) h := by
  refine wp_det ?_ Q
  simp only [f__law_rooms, wp_fnM]
  simp [b__law_rooms]
  rw [wp_forV (xs := rngD 0 sz.length)]
  · refine wp_loopX (fun i Γ h' => h' = h ∧ ∃ o3, Γ = [some (.ref n), some (.lst (sz.map D.int)), some (.lst ((roomRows 0 (sz.take i)).map Rw.d)), o3]) (fun i x Γ h1 g hv => ?_) (fun Γ h1 g => ?_) ⟨rfl, none, rfl⟩
    · obtain ⟨rfl, o3, rfl⟩ := g
      obtain ⟨hi, rfl⟩ := rng_get hv
      have e0 : (0 : Int) + (i : Int) = (i : Int) := by omega
      have ai := int_at hi
      have tk := List.take_succ_eq_append_getElem hi
      have tl : (sz.take i).length = i := by rw [List.length_take]; omega
      have ll := roomRows_len 0 (sz.take i)
      rw [tl] at ll
      have l2 : (roomRows 0 (sz.take i)).length + 4 ≤ 16777216 := by omega
      have er : (roomRows 0 (sz.take i)).map Rw.d ++ [D.tup [.str "put", .int 0, .int sz[i]], .tup [.str "room", .int (i : Int), .int 0], .tup [.str "put", .int 1, .int (sz[i] - 1)], .tup [.str "set", .int (i : Int), .int 1, .int 0]] = (roomRows 0 (sz.take (i + 1))).map Rw.d := by
        rw [tk, roomRows_snoc, tl, List.map_append, Nat.zero_add]
        rfl
      rw [e0]
      simp [ai, l2, er]
    · obtain ⟨rfl, o3, rfl⟩ := g
      rw [rng_len, List.take_length]
      simp
  · intro Q
    rw [wp_rg1 (j := (sz.length : Int))]
    · rw [Int.toNat_natCast]
    · intro Q
      simp
    · omega
end
/-- what is built ahead of the last rows, and what it comes to -/
structure Out (s : Stg) (sz : List Int) (hh : Nat) (rs : List Rw) (cell : Int) (sort : Str) (told : Bool) : Prop where
  ok : RowsOk rs
  len : rs.length ≤ 20
  c1 : -10 ≤ cell ∧ cell ≤ 20
  sem : spanS s.g sz ≤ 64 → ∃ y, Along (rs ++ [.put 2 cell]) 0 (rs0 s []) y ∧ ∀ r, (r = .set hh 2 0 ∨ r = .get 3 hh 2 ∨ (r = .free hh ∧ sort = "late")) → y.m.lookB r = some (if r.isFree = true then ("twice" : Str) else sort) ∧ (told = true → ∃ u, y.m.lookM r = some u)
structure TI (ns : List Int) (i : Nat) (Γ : Sw.Env) (h : PH) : Prop where
  ex : ∃ o2 o3 o4 o5 o6 o7 o8 o9 o10 o11 o12 o13 o14, Γ = [some (.rd ns), some (.ref 0), o2, o3, o4, o5, o6, o7, o8, o9, o10, o11, o12, o13, o14]
  row : RowAt h 0
def lawTen : SM := (sSeq (sSet 13 (gTup [(gTup [(g1 dTuple (gVal (lAdd (gV 5) (gVal (seqA [(gV 12)]))))), (gTup [(gC (.str "end"))])])])) (sSeq (sIf (tB (g2 dLe (g2 dAdd (g1 dSum (gV 4)) (g2 dMul (g2 dMul (gC (.int 2)) (g2 dIx (gV 3) (gC (.int 1)))) (g1 dLen (gV 4)))) (gC (.int 64)))) b_law_1 sNil) sNil))
def lawNine : SM := (sSeq (sSet 9 (gIf (tB (g2 dEq (g2 dIx (gV 12) (gC (.int 0))) (gC (.str "free")))) (gC (.str "twice")) (gV 9))) lawTen)
def lawTail : SM := (sSeq (sSet 5 (gVal (lAdd (gV 5) (gVal (seqA [(gTup [(gC (.str "put")), (gC (.int 2)), (gV 8)])]))))) (sSeq (sSet 12 (g2 dIx (gVal (seqA [(gTup [(gC (.str "set")), (gV 6), (gC (.int 2)), (gC (.int 0))]), (gTup [(gC (.str "get")), (gC (.int 3)), (gV 6), (gC (.int 2))]), (gTup [(gC (.str "free")), (gV 6)])])) (gCall f__law_taken [(gV 1), (gC (.int 3))]))) (sSeq (sIf (tAn (tB (g2 dEq (g2 dIx (gV 12) (gC (.int 0))) (gC (.str "free")))) (tB (g2 dEq (gV 9) (gC (.str "beyond"))))) (sSeq (sSet 12 (gTup [(gC (.str "set")), (gV 6), (gC (.int 2)), (gC (.int 0))])) sNil) sNil) lawNine)))
theorem law4_eq : b_law_4 = (sSeq (sSet 3 (gTup [(gC (.int 64)), (gCall f__law_taken [(gV 1), (gC (.int 3))]), (gCall f__law_taken [(gV 1), (gC (.int 33))])])) (sSeq (sSet 4 (gVal (lComp [14] (rg1 (g2 dAdd (gC (.int 1)) (gCall f__law_taken [(gV 1), (gC (.int 4))]))) (tgName 14) tTrue (g2 dAdd (gC (.int 1)) (gCall f__law_taken [(gV 1), (gC (.int 8))]))))) (sSeq (sSet 5 (gCall f__law_rooms [(gV 1), (gV 4)])) (sSeq (sSet 6 (gCall f__law_taken [(gV 1), (g1 dLen (gV 4))])) (sSeq (sIf (tB (g2 dEq (gCall f__law_taken [(gV 1), (gC (.int 2))]) (gC (.int 0)))) b_law_2 b_law_3) lawTail))))) := rfl
def lastR (hh : Nat) (v : Nat) : Rw := if v = 0 then .set hh 2 0 else if v = 1 then .get 3 hh 2 else .free hh
theorem spanS_eq (g : Int) : ∀ sz : List Int, spanS g sz = sz.sum + 2 * g * (sz.length : Int)
  | [] => by simp [spanS]
  | z :: sz => by
    have := spanS_eq g sz
    unfold spanS at this ⊢
    rw [List.map_cons, List.sum_cons, this, List.sum_cons, List.length_cons]
    have e : ((sz.length + 1 : Nat) : Int) = (sz.length : Int) + 1 := by omega
    rw [e, Int.mul_add, Int.mul_one]
    omega
theorem tail_ok {ns : List Int} {i : Nat} {h : PH} {s : Stg} {sz : List Int} {hh : Nat} {rs : List Rw} {cell : Int} {sort : Str} {told : Bool} {o2 o7 o11 o12 o13 o14 : Option D} (hr : RowAt h 0) (hs : s.ok) (hs2 : sz.length ≤ 4) (hh4 : hh < 4) (out : Out s sz hh rs cell sort told) (so : sort = "beyond" ∨ sort = "late") :
    wp (lawTail [some (.rd ns), some (.ref 0), o2, some s.d, some (.lst (sz.map D.int)), some (.lst (rs.map Rw.d)), some (.int (hh : Int)), o7, some (.int cell), some (.str sort), some (.bl told), o11, o12, o13, o14] h) fun f h' => match f with
    | .nx Γ' => TI ns (i + 1) Γ' h'
    | .rt _ => False := by
  have ol := out.len
  have oc := out.c1
  unfold lawTail
  have l1 : rs.length + 1 ≤ 16777216 := by omega
  obtain ⟨rs1, hrs1⟩ : ∃ rs1, rs1 = rs ++ [Rw.put 2 cell] := ⟨_, rfl⟩
  have e1 : rs.map Rw.d ++ [D.tup [.str "put", .int 2, .int cell]] = rs1.map Rw.d := by
    rw [hrs1, List.map_append]
    rfl
  have ok1 : RowsOk rs1 := by
    rw [hrs1]
    exact out.ok.app (.cons ⟨by omega, by omega, by omega⟩ (by intro z; cases z) .nil)
  have len1 : rs1.length = rs.length + 1 := by rw [hrs1]; simp
  simp [l1, e1]
  refine tk_ok hr (by omega) (by omega) fun v h1 c1 s1 _ => ?_
  have at3 : atI [D.tup [.str "set", .int (hh : Int), .int 2, .int 0], .tup [.str "get", .int 3, .int (hh : Int), .int 2], .tup [.str "free", .int (hh : Int)]] (v : Int) = some (lastR hh v).d := by
    rw [three_atD (by omega)]
    congr 1
    unfold lastR
    split
    · rfl
    · split <;> rfl
  have r0 : ∀ (r : Rw) (h : PH) Q, wp (dIx r.d (.int 0) h) Q = Q (.str r.wd) h := fun r h Q => row0
  -- the last row
  obtain ⟨r, hrr⟩ : ∃ r, r = (if (lastR hh v).wd = "free" ∧ sort = "beyond" then Rw.set hh 2 0 else lastR hh v) := ⟨_, rfl⟩
  have rin : r = .set hh 2 0 ∨ r = .get 3 hh 2 ∨ (r = .free hh ∧ sort = "late") := by
    rw [hrr]
    have hv : v = 0 ∨ v = 1 ∨ v = 2 := by omega
    rcases hv with rfl | rfl | rfl
    · simp [lastR, Rw.wd]
    · simp [lastR, Rw.wd]
    · rcases so with rfl | rfl <;> simp [lastR, Rw.wd]
  have rok : r.ok ∧ r ≠ .chk ∧ r.isT = true := by
    rcases rin with e | e | ⟨e, _⟩ <;> rw [e]
    · exact ⟨⟨hh4, by omega, by omega⟩, (by intro z; cases z), rfl⟩
    · exact ⟨⟨by omega, hh4, by omega⟩, (by intro z; cases z), rfl⟩
    · exact ⟨hh4, (by intro z; cases z), rfl⟩
  have rfree : (r.wd = "free") = (r.isFree = true) := by
    rcases rin with e | e | ⟨e, _⟩ <;> rw [e] <;> simp [Rw.wd, Rw.isFree]
  have body : ∀ o12 : Option D, o12 = some r.d → wp (lawNine
      [some (.rd ns), some (.ref 0), o2, some s.d, some (.lst (sz.map D.int)), some (.lst (rs1.map Rw.d)), some (.int (hh : Int)), o7, some (.int cell), some (.str sort), some (.bl told), o11, o12, o13, o14] h1) fun f h' => match f with
      | .nx Γ' => TI ns (i + 1) Γ' h'
      | .rt _ => False := fun o12 e12 => by
    subst e12
    obtain ⟨srt, hsrt⟩ : ∃ srt : Str, srt = (if r.isFree = true then ("twice" : Str) else sort) := ⟨_, rfl⟩
    have P0 : Pg.ok [(rs1 ++ [r], Ed.fin)] ∧ noChk [(rs1 ++ [r], Ed.fin)] := Pg.ok_fin (P := [(rs1 ++ [r], Ed.fin)]) (lp := true) (m := 1) rfl (by omega) (by omega) (fun b hb => by
        rw [List.mem_singleton.mp hb]
        exact ok1.app (.cons rok.1 rok.2.1 .nil)) (fun b hb => by rw [List.mem_singleton.mp hb]; trivial) (by simp; omega)
    have ePd : D.tup [.tup [.tup (rs1.map Rw.d ++ [r.d]), .tup [.str "end"]]] = Pg.d [(rs1 ++ [r], Ed.fin)] := by
      simp [Pg.d, blkD, Ed.d]
    have l2 : rs1.length + 1 ≤ 16777216 := by omega
    have sg : ∀ Q : D → PH → Prop, wp (dIx s.d (.int 1) h1) Q = Q (.int s.g) h1 := fun Q => by simp [Stg.d]
    have fit := spanS_eq s.g sz
    have go : ∀ o9, o9 = some (.str srt) → wp (lawTen
        [some (.rd ns), some (.ref 0), o2, some s.d, some (.lst (sz.map D.int)), some (.lst (rs1.map Rw.d)), some (.int (hh : Int)), o7, some (.int cell), o9, some (.bl told), o11, some r.d, o13, o14] h1) fun f h' => match f with
        | .nx Γ' => TI ns (i + 1) Γ' h'
        | .rt _ => False := fun o9 e9 => by
      subst e9
      unfold lawTen
      simp [l2, ePd, wp_sumL, sg]
      by_cases c : sz.sum + 2 * s.g * (sz.length : Int) ≤ 64
      · simp [c, b_law_1]
        obtain ⟨y, al, sem⟩ := out.sem (by omega)
        obtain ⟨lb, lm⟩ := sem r rin
        rw [← hrs1] at al
        have nc : ∀ q ∈ rs1 ++ [r], q ≠ .chk := fun q hq => by
          rcases List.mem_append.mp hq with hq | hq
          · exact (ok1 q hq).2
          · rw [List.mem_singleton.mp hq]; exact rok.2.1
        have J := last_stop al rok.2.2 lb nc
        have gi : inOk [] := ⟨by simp, fun x hx => by cases hx⟩
        refine ⟨.inr (by omega), ?_⟩
        refine judged_ok (g := []) (gd := .lst []) P0.1 hs gi (.inl rfl) fun d h2 R2 f2 => ?_
        obtain ⟨n, rfl, _, _⟩ := R2.ex
        have ew : whyD (byItself [(rs1 ++ [r], Ed.fin)] s []).why = .tup [.int 0, .int (rs1.length : Int), .str srt] := by
          rw [J, hsrt]
          rfl
        rw [ew]
        have sim : Sim h2 2 (.tup [.int 0, .int (rs1.length : Int), .str srt]) (.tup [.int 0, .int (rs1.length : Int), .str srt]) := by
          refine .tup rfl (by simp) fun i a b q1 q2 => ?_
          rw [q1] at q2
          cases q2
          match i, q1 with
          | 0, q1 => cases q1; exact .int _
          | 1, q1 => cases q1; exact .int _
          | 2, q1 => cases q1; exact .str _
        simp [alike9 sim (by omega)]
        have r2 := s1.row.fr f2
        cases told with
        | false =>
          simp
          exact ⟨⟨_, _, _, _, _, _, _, _, _, _, _, _, _, rfl⟩, r2⟩
        | true =>
          simp
          obtain ⟨u, hu⟩ := lm rfl
          have M := last_missed al rok.2.2 lb nc hu
          refine missed_ok (w := .marks) (g := []) (gd := .lst []) P0.1 hs trivial gi (.inl rfl) fun h3 f3 => ?_
          simp [M]
          exact ⟨⟨_, _, _, _, _, _, _, _, _, _, _, _, _, rfl⟩, r2.fr f3⟩
      · simp [c]
        exact ⟨.inr (by omega), ⟨_, _, _, _, _, _, _, _, _, _, _, _, _, rfl⟩, s1.row⟩
    unfold lawNine
    simp [r0]
    by_cases c : r.wd = "free"
    · have cf : r.isFree = true := by rw [← rfree]; exact c
      rw [if_pos cf] at hsrt
      have := go _ (by rw [hsrt])
      simp [c]
      exact this
    · have cf : ¬ r.isFree = true := by rw [← rfree]; exact c
      rw [if_neg cf] at hsrt
      have := go _ (by rw [hsrt])
      simp [c]
      exact this
  simp [at3, r0]
  by_cases c2 : (lastR hh v).wd = "free"
  · rcases so with e | e
    · rw [if_pos ⟨c2, e⟩] at hrr
      have := body (some (.tup [.str "set", .int (hh : Int), .int 2, .int 0])) (by rw [hrr]; rfl)
      simp [c2, e, e1]
      rw [e] at this
      simpa using this
    · have ne : ¬ ((lastR hh v).wd = "free" ∧ sort = "beyond") := fun z => by
        rw [e] at z
        exact absurd z.2 (by decide +kernel)
      rw [if_neg ne] at hrr
      have := body (some (lastR hh v).d) (by rw [hrr])
      simp [c2, e, e1]
      rw [e] at this
      simpa using this
  · rw [if_neg (fun z => c2 z.1)] at hrr
    have := body (some (lastR hh v).d) (by rw [hrr])
    simp [c2, e1]
    simpa using this
theorem sizes_at {sz : List Int} {j : Nat} (hj : j < sz.length) : sz.getD j 0 = sz[j] := by
  rw [List.getD_eq_getElem?_getD, List.getElem?_eq_getElem hj]
  rfl
theorem roomRows_ok : ∀ (k : Nat) (zs : List Int), k + zs.length ≤ 4 → (∀ z ∈ zs, 1 ≤ z ∧ z ≤ 8) → RowsOk (roomRows k zs)
  | _, [], _, _ => .nil
  | k, z :: zs, h4, hz => by
    rw [List.length_cons] at h4
    have := hz z List.mem_cons_self
    exact RowsOk.app (.cons ⟨by omega, by omega, by omega⟩ (by intro z; cases z) (.cons ⟨by omega, by omega⟩ (by intro z; cases z) (.cons ⟨by omega, by omega, by omega⟩ (by intro z; cases z) (.cons ⟨by omega, by omega, by omega⟩ (by intro z; cases z) .nil)))) (roomRows_ok (k + 1) zs (by omega) fun y hy => hz y (List.mem_cons_of_mem _ hy))
theorem ready {s : Stg} {sz : List Int} {fs : List Nat} (hs : s.ok) (h64 : s.m = 64) (h4 : sz.length ≤ 4) (hz : ∀ z ∈ sz, 1 ≤ z ∧ z ≤ 8) (fit : spanS s.g sz ≤ 64) (nd : fs.Nodup) (hf : ∀ j ∈ fs, j < sz.length) (lf : fs.length ≤ 4) (cell : Int) : ∃ y, Along ((roomRows 0 sz ++ fs.map Rw.free) ++ [.put 2 cell]) 0 (rs0 s []) y ∧ (∃ n, At s sz fs y n) ∧ y.m.num 2 = cell := by
  have gi : inOk [] := ⟨by simp, fun x hx => by cases hx⟩
  have g0 : 0 ≤ s.g := hs.2.2.1
  obtain ⟨y1, l1, a1⟩ := rooms_run sz [] (rs0 s []) 0 0 (at0 hs gi h64) (by omega) (by simpa using fit) hz (by simpa using h4) g0
  rw [List.nil_append] at a1
  obtain ⟨y2, l2, a2⟩ := frees_run fs [] sz y1 _ (0 + (roomRows 0 sz).length) a1 (by omega) (by simpa using nd) (by simpa using hf)
  rw [List.nil_append] at a2
  obtain ⟨y3, l3, a3, n3, _⟩ := a2.put (i := 2) (c := cell) (by omega) (by omega) (0 + (roomRows 0 sz ++ fs.map Rw.free).length)
  exact ⟨y3, Along.app (Along.app l1 l2) l3, ⟨_, a3⟩, n3⟩
theorem out_beyond {s : Stg} {sz : List Int} {hh : Nat} {cell far : Int} (hs : s.ok) (h64 : s.m = 64) (h4 : sz.length ≤ 4) (hz : ∀ z ∈ sz, 1 ≤ z ∧ z ≤ 8) (hh' : hh < sz.length) (f1 : 1 ≤ far) (f3 : far ≤ 3) (hc : cell = sz[hh] - 1 + far ∨ cell = 0 - far) : Out s sz hh (roomRows 0 sz) cell "beyond" (decide (far ≤ s.g)) := by
  have z1 := hz _ (List.getElem_mem hh')
  have ll := roomRows_len 0 sz
  refine ⟨roomRows_ok 0 sz (by omega) hz, by omega, by omega, fun fit => ?_⟩
  obtain ⟨y, al, ⟨n, a⟩, n2⟩ := ready (fs := []) hs h64 h4 hz fit List.nodup_nil (fun j hj => by cases hj) (by simp) cell
  rw [List.map_nil, List.append_nil] at al
  refine ⟨y, al, fun r hr => ?_⟩
  have hr2 : r = .set hh 2 0 ∨ r = .get 3 hh 2 := by
    rcases hr with e | e | ⟨_, e⟩
    · exact .inl e
    · exact .inr e
    · exact absurd e (by decide +kernel)
  have nf : r.isFree = false := by rcases hr2 with e | e <;> rw [e] <;> rfl
  have hr3 : ∃ n', r = .set hh 2 n' ∨ r = .get n' hh 2 := by
    rcases hr2 with e | e
    · exact ⟨0, .inl e⟩
    · exact ⟨3, .inr e⟩
  obtain ⟨n', hr3⟩ := hr3
  refine ⟨?_, fun ht => ⟨_, told_beyond a.f a.o hh' (by simp) hr3 ?_⟩⟩
  · rw [look_beyond a.f a.o hh' (by simp) hr3 (by rw [n2]; omega), nf]
    rfl
  · have : far ≤ s.g := by simpa using ht
    rw [n2]
    omega
theorem out_late {s : Stg} {sz : List Int} {hh : Nat} {ord : List Nat} {cell : Int} (hs : s.ok) (h64 : s.m = 64) (h4 : sz.length ≤ 4) (hz : ∀ z ∈ sz, 1 ≤ z ∧ z ≤ 8) (hh' : hh < sz.length) (nd : (hh :: ord).Nodup) (ho : ∀ j ∈ ord, j < sz.length) (lo : ord.length ≤ 3) (c0 : 0 ≤ cell) (c1 : cell < sz[hh]) : Out s sz hh (roomRows 0 sz ++ (hh :: ord).map Rw.free) cell "late" (decide (sz[hh] + (ord.map fun j => sz.getD j 0).sum ≤ s.k)) := by
  have z1 := hz _ (List.getElem_mem hh')
  have ll := roomRows_len 0 sz
  have hall : ∀ j ∈ hh :: ord, j < sz.length := fun j hj => by
    rcases List.mem_cons.mp hj with rfl | hj
    · exact hh'
    · exact ho j hj
  refine ⟨(roomRows_ok 0 sz (by omega) hz).app fun r hr => ?_, by simp; omega, by omega, fun fit => ?_⟩
  · obtain ⟨j, hj, rfl⟩ := List.mem_map.mp hr
    have := hall j hj
    exact ⟨show j < 4 by omega, by intro z; cases z⟩
  obtain ⟨y, al, ⟨n, a⟩, n2⟩ := ready (fs := hh :: ord) hs h64 h4 hz fit nd hall (by simp; omega) cell
  refine ⟨y, al, fun r hr => ?_⟩
  have hr3 : ∃ n', r = .set hh 2 n' ∨ r = .get n' hh 2 ∨ r = .free hh := by
    rcases hr with e | e | ⟨e, _⟩
    · exact ⟨0, .inl e⟩
    · exact ⟨3, .inr (.inl e)⟩
    · exact ⟨0, .inr (.inr e)⟩
  obtain ⟨n', hr3⟩ := hr3
  refine ⟨look_late a.f a.o hh' List.mem_cons_self hr3, fun ht => ⟨_, told_late a.f a.o hh' List.mem_cons_self hr3 (by rw [n2]; exact c0) (by rw [n2]; exact c1) ?_⟩⟩
  have : sz[hh] + (ord.map fun j => sz.getD j 0).sum ≤ s.k := by simpa using ht
  rw [List.map_cons, List.sum_cons, sizes_at hh']
  exact this
theorem free_flat : ∀ l : List Nat, (natD l).flatMap (fun d => [D.tup [.str "free", d]]) = (l.map Rw.free).map Rw.d
  | [] => rfl
  | j :: l => by
    have := free_flat l
    unfold natD at this ⊢
    rw [List.map_cons, List.flatMap_cons, this]
    rfl
theorem turn_ok {ns : List Int} {i : Nat} {Γ : Sw.Env} {h : PH} (t : TI ns i Γ h) {x : D} : wp (bnd (tgName 2 x Γ) b_law_4 h) fun f h' => match f with
    | .nx Γ' => TI ns (i + 1) Γ' h'
    | .rt _ => False := by
  obtain ⟨⟨o2, o3, o4, o5, o6, o7, o8, o9, o10, o11, o12, o13, o14, rfl⟩, hr⟩ := t
  simp [law4_eq]
  refine tk_ok hr (by omega) (by omega) fun g h1 c1 s1 _ => ?_
  simp
  refine tk_ok s1.row (by omega) (by omega) fun k h2 c2 s2 _ => ?_
  obtain ⟨s, es, hs, h64⟩ : ∃ s : Stg, s = ⟨64, g, k⟩ ∧ s.ok ∧ s.m = 64 := ⟨_, rfl, ⟨by show (8 : Int) ≤ 64; omega, by show (64 : Int) ≤ 64; omega, by show (0 : Int) ≤ g; omega, by show (g : Int) ≤ 2; omega, by show (0 : Int) ≤ k; omega, by show (k : Int) ≤ 32; omega⟩, rfl⟩
  have esd : D.tup [.int 64, .int (g : Int), .int (k : Int)] = s.d := by rw [es]; rfl
  simp [esd]
  refine lComp_it ?_
  rw [wp_rg1']
  simp
  refine tk_ok s2.row (by omega) (by omega) fun v h3 c3 s3 _ => ?_
  obtain ⟨nn, hnn⟩ : ∃ nn : Nat, (1 : Int) + (v : Int) = (nn : Int) := ⟨1 + v, by omega⟩
  simp [hnn]
  refine ⟨by omega, ?_⟩
  refine compV_inv (fun i acc h' => ∃ sz : List Int, acc = sz.map D.int ∧ sz.length = i ∧ (∀ z ∈ sz, 1 ≤ z ∧ z ≤ 8) ∧ Stp 0 h h') ⟨[], rfl, rfl, fun z hz => (by cases hz), (s1.trans s2).trans s3⟩ (fun i x acc h4 g hx => ?_) (fun acc h4 g => ?_)
  · obtain ⟨sz, rfl, g1, g2, g3⟩ := g
    simp [wipeE]
    refine tk_ok g3.row (by omega) (by omega) fun v h5 c5 s5 _ => ?_
    simp
    refine ⟨sz ++ [1 + (v : Int)], by simp, by simp [g1], fun z hz => ?_, g3.trans s5⟩
    rcases List.mem_append.mp hz with hz | hz
    · exact g2 z hz
    · rw [List.mem_singleton.mp hz]
      omega
  · obtain ⟨sz, rfl, g1, g2, g3⟩ := g
    rw [rng_len] at g1
    have h4s : sz.length ≤ 4 := by omega
    have lr : ∀ (h : PH) Q, wp (f__law_rooms [.ref 0, .lst (sz.map D.int)] h) Q = Q (.lst ((roomRows 0 sz).map Rw.d)) h := fun h Q => lrooms_ok h4s
    simp [lr]
    refine tk_ok g3.row (by omega) (by omega) fun hh h5 c5 s5 _ => ?_
    have hhl : hh < sz.length := by omega
    have ai := int_at hhl
    have hh4 : hh < 4 := by omega
    have hzh := g2 _ (List.getElem_mem hhl)
    simp
    refine tk_ok s5.row (by omega) (by omega) fun u h6 c6 s6 _ => ?_
    simp
    by_cases d1 : u = 0
    · simp [d1, b_law_2]
      refine tk_ok s6.row (by omega) (by omega) fun fr h7 c7 s7 _ => ?_
      simp [ai]
      refine tk_ok s7.row (by omega) (by omega) fun w h8 c8 s8 _ => ?_
      obtain ⟨cell, ec, hc⟩ : ∃ cell : Int, atI [D.int (sz[hh] - 1 + (1 + (fr : Int))), .int (-(1 + (fr : Int)))] (w : Int) = some (.int cell) ∧ (cell = sz[hh] - 1 + (1 + (fr : Int)) ∨ cell = 0 - (1 + (fr : Int))) := by
        rw [two_atD (by omega)]
        by_cases c : w = 0
        · exact ⟨_, by rw [if_pos c], .inl rfl⟩
        · exact ⟨_, by rw [if_neg c], .inr (by omega)⟩
      have sgk : s.g = (g : Int) := by rw [es]
      have ot := out_beyond (cell := cell) (far := 1 + (fr : Int)) hs h64 h4s g2 hhl (by omega) (by omega) hc
      rw [sgk] at ot
      have st := s8.row
      have e0 : (0 : Int) - (1 + (fr : Int)) = -(1 + (fr : Int)) := by omega
      simp [e0, ec]
      rw [esd]
      exact tail_ok st hs h4s hh4 ot (.inl rfl)
    · simp [d1, b_law_3]
      rw [lComp_V (xs := rngD 0 sz.length) (g := gFil fun i => decide (i ≠ hh)) (fun Q => by
        rw [wp_rg1 (j := (sz.length : Int))]
        · rw [Int.toNat_natCast]
        · intro Q
          simp
        · omega) (fun d hd Q => by
        obtain ⟨j, hj, rfl⟩ := mem_rng hd
        have e : ((j : Int) = (hh : Int)) = (j = hh) := propext ⟨fun z => by omega, fun z => by omega⟩
        by_cases c : j = hh <;> simp [wipeE, gFil, e, c]), rng_eq, flat_filter]
      simp
      refine tk_ok s6.row (by omega) (by omega) fun tt h7 c7 s7 _ => ?_
      have ct : ∀ xs : List D, cutD xs none (some (tt : Int)) = xs.take tt := fun xs => cutD_take
      obtain ⟨ord, ho⟩ : ∃ ord, ord = ((List.range sz.length).filter fun i => decide (i ≠ hh)).take tt := ⟨_, rfl⟩
      have eo : (natD ((List.range sz.length).filter fun i => decide (i ≠ hh))).take tt = natD ord := by
        rw [ho]
        unfold natD
        rw [List.map_take]
      have om : ∀ j ∈ ord, j < sz.length ∧ j ≠ hh := fun j hj => by
        rw [ho] at hj
        have := List.mem_filter.mp (List.mem_of_mem_take hj)
        exact ⟨List.mem_range.mp this.1, by simpa using this.2⟩
      have ond : ord.Nodup := by
        rw [ho]
        exact ((List.nodup_range).filter _).take
      have nd : (hh :: ord).Nodup := List.nodup_cons.mpr ⟨fun z => (om hh z).2 rfl, ond⟩
      have lo : ord.length ≤ 3 := by
        rw [ho]
        have := List.length_take_le tt ((List.range sz.length).filter fun i => decide (i ≠ hh))
        omega
      have eo2 : cutD (natD ((List.range sz.length).filter fun i => decide (i ≠ hh))) none (some (tt : Int)) = natD ord := by rw [ct, eo]
      simp at eo2
      simp [eo2]
      have nc : [D.int (hh : Int)] ++ natD ord = natD (hh :: ord) := rfl
      have l5 : 1 + (natD ord).length ≤ 16777216 := by rw [natD_len]; omega
      have l6 : (natD ord).length + 1 ≤ 16777216 := by rw [natD_len]; omega
      rw [lComp_V (xs := natD (hh :: ord)) (g := fun d => [D.tup [.str "free", d]]) (fun Q => by
        have e : natD (hh :: ord) = D.int (hh : Int) :: natD ord := rfl
        rw [e]
        simp [l5, l6]) (fun d hd Q => by simp [wipeE]), free_flat]
      have lR := roomRows_len 0 sz
      have l7 : (roomRows 0 sz).length + ((hh :: ord).map Rw.free).length ≤ 16777216 := by simp; omega
      have er : (roomRows 0 sz).map Rw.d ++ ((hh :: ord).map Rw.free).map Rw.d = (roomRows 0 sz ++ (hh :: ord).map Rw.free).map Rw.d := by rw [List.map_append]
      have sgk : s.k = (k : Int) := by rw [es]
      simp only [hid_1, hid_2]
      generalize hrs : (roomRows 0 sz ++ (hh :: ord).map Rw.free) = rsA at *
      generalize hfr : ((hh :: ord).map Rw.free) = fr at *
      have l7' : (roomRows 0 sz).length + fr.length ≤ 16777216 := l7
      simp [l7', er, ai]
      refine tk_ok s7.row (by omega) (by omega) fun cell h8 c8 s8 _ => ?_
      simp [ai, eo2]
      rw [lComp_V (xs := natD ord) (g := gOne fun j => sz.getD j 0) (fun Q => by simp [eo2, natD_len, show ord.length ≤ 16777216 by omega]) (fun d hd Q => by
        unfold natD at hd
        obtain ⟨j, hj, rfl⟩ := List.mem_map.mp hd
        have hl := (om j hj).1
        have aj := int_at hl
        simp only [gOne_nat, sizes_at hl]
        simp [wipeE, aj]), flat_one]
      have ot := out_late (cell := (cell : Int)) hs h64 h4s g2 hhl nd (fun j hj => (om j hj).1) lo (by omega) c8
      rw [hfr, hrs, sgk] at ot
      have er2 : (roomRows 0 sz).map Rw.d ++ fr.map Rw.d = rsA.map Rw.d := er
      generalize (ord.map fun j => sz.getD j 0) = sl at *
      simp only [hid_1, hid_2]
      simp [wp_sumL, er2, eo2]
      rw [esd]
      exact tail_ok s8.row hs h4s hh4 ot (.inr rfl)
theorem law_true (ns : List Int) (hl : ns.length ≤ 63) : ∃ h', f_law [.rd ns] [] = .ok (.bl true) h' := by
  have main : wp (f_law [.rd ns] []) fun d _ => d = .bl true := by
    simp only [f_law, wp_fnM]
    simp [b_law]
    rw [wp_forV (xs := rngD 0 6)]
    · refine wp_loopX (TI ns) (fun i x Γ h t hx => wp_mono (turn_ok t) fun f h' q => ?_) (fun Γ h t => ?_) ⟨⟨_, _, _, _, _, _, _, _, _, _, _, _, _, rfl⟩, ⟨⟨ns, 0, 0, 0⟩, rfl, by simp [Row.ok]⟩⟩
      · cases f with
        | nx Γ' => exact q
        | rt d => exact q.elim
      · simp
    · intro Q
      rw [wp_rg1 (j := 6)]
      · rfl
      · intro Q
        simp
      · omega
  obtain ⟨d, h', e, rfl⟩ := wp_eq.mp main
  exact ⟨h', e⟩

end GK12

set_option maxHeartbeats 0
namespace GK12
open PySem PySem.Spec L2 Sw
theorem hf {P : Program} {w : World} {K : PySem.W.Frag} {mg : Str → Option Value} {base h : Heap} (X : K.In h) (G : h.Ns mainGlobals mg) (cz : SaysZ fa fn ts ck w K) : HF (txOf P w K mg base) := by
  have c : He.SaysD fa fn K := cz.d
  have k : ck K = true := cz.c
  unfold ck at k
  simp only [Bool.and_eq_true] at k
  obtain ⟨⟨⟨⟨k0, k1⟩, k2⟩, k3⟩, k4⟩ := k
  exact {
    calm := ⟨rfl, rfl, rfl⟩
    b_isinstance := bn_of X G (c.fact 0 (f := .free "isinstance") rfl)
    b_int := bn_of X G (c.fact 1 (f := .free "int") rfl)
    b_str := bn_of X G (c.fact 2 (f := .free "str") rfl)
    b_bool := bn_of X G (c.fact 3 (f := .free "bool") rfl)
    b_list := bn_of X G (c.fact 4 (f := .free "list") rfl)
    b_tuple := bn_of X G (c.fact 5 (f := .free "tuple") rfl)
    b_len := bn_of X G (c.fact 6 (f := .free "len") rfl)
    b_range := bn_of X G (c.fact 7 (f := .free "range") rfl)
    d__law_alike := def_of c 0 rfl
    g__law_alike := He.glo_ok X G (c.fact 8 (f := .glo "_law_alike") rfl)
    d__law_rooms := def_of c 1 rfl
    g__law_rooms := He.glo_ok X G (c.fact 9 (f := .glo "_law_rooms") rfl)
    d__law_taken := def_of c 2 rfl
    g__law_taken := He.glo_ok X G (c.fact 10 (f := .glo "_law_taken") rfl)
    c_Run := ct_of (c.fact 18 (f := .cls "Run") rfl) (all_cons (c.fact 17 (f := .noat "Run" "program") rfl) (all_cons (c.fact 16 (f := .noat "Run" "state") rfl) (all_cons (c.fact 15 (f := .noat "Run" "steps") rfl) (all_cons (c.fact 14 (f := .noat "Run" "stopped") rfl) (all_cons (c.fact 13 (f := .noat "Run" "way") rfl) (all_cons (c.fact 12 (f := .noat "Run" "why") rfl) (all_cons (c.fact 11 (f := .noat "Run" "word") rfl) all_nil)))))))
    c_State := ct_of (c.fact 25 (f := .cls "State") rfl) (all_cons (c.fact 24 (f := .noat "State" "cells") rfl) (all_cons (c.fact 23 (f := .noat "State" "given") rfl) (all_cons (c.fact 22 (f := .noat "State" "handles") rfl) (all_cons (c.fact 21 (f := .noat "State" "numbers") rfl) (all_cons (c.fact 20 (f := .noat "State" "said") rfl) (all_cons (c.fact 19 (f := .noat "State" "store") rfl) all_nil))))))
    d_Run_ended := def_of c 3 rfl
    e_Run_ended := He.meth_ok (c.fact 26 (f := .meth "Run" "ended") rfl)
    l_Run := He.cls_ok (c.fact 18 (f := .cls "Run") rfl)
    m_MOST_STEPS := mn_int X G (c.fact 27 (f := .int "MOST_STEPS" 400) rfl)
    d_Run_is_long := def_of c 4 rfl
    e_Run_is_long := He.meth_ok (c.fact 28 (f := .meth "Run" "is_long") rfl)
    m_FARTHEST := mn_int X G (c.fact 29 (f := .int "FARTHEST" 9999) rfl)
    b_min := bn_of X G (c.fact 30 (f := .free "min") rfl)
    b_max := bn_of X G (c.fact 31 (f := .free "max") rfl)
    d_cut := def_of c 5 rfl
    g_cut := He.glo_ok X G (c.fact 32 (f := .glo "cut") rfl)
    d_State_lead := def_of c 6 rfl
    e_State_lead := He.meth_ok (c.fact 33 (f := .meth "State" "lead") rfl)
    l_State := He.cls_ok (c.fact 25 (f := .cls "State") rfl)
    d_State_reckon := def_of c 7 rfl
    e_State_reckon := He.meth_ok (c.fact 34 (f := .meth "State" "reckon") rfl)
    d_State_handle_of := def_of c 8 rfl
    e_State_handle_of := He.meth_ok (c.fact 35 (f := .meth "State" "handle_of") rfl)
    d_State_index_of := def_of c 9 rfl
    e_State_index_of := He.meth_ok (c.fact 36 (f := .meth "State" "index_of") rfl)
    c_Store := ct_of (c.fact 42 (f := .cls "Store") rfl) (all_cons (c.fact 41 (f := .noat "Store" "gap") rfl) (all_cons (c.fact 40 (f := .noat "Store" "keep") rfl) (all_cons (c.fact 39 (f := .noat "Store" "many") rfl) (all_cons (c.fact 38 (f := .noat "Store" "rooms") rfl) (all_cons (c.fact 37 (f := .noat "Store" "waiting") rfl) all_nil)))))
    d_Store_born := def_of c 10 rfl
    e_Store_born := He.meth_ok (c.fact 43 (f := .meth "Store" "born") rfl)
    l_Store := He.cls_ok (c.fact 42 (f := .cls "Store") rfl)
    c_Room := ct_of (c.fact 48 (f := .cls "Room") rfl) (all_cons (c.fact 47 (f := .noat "Room" "known") rfl) (all_cons (c.fact 46 (f := .noat "Room" "state") rfl) (all_cons (c.fact 45 (f := .noat "Room" "where") rfl) (all_cons (c.fact 44 (f := .noat "Room" "wide") rfl) all_nil))))
    d_Store_place := def_of c 11 rfl
    e_Store_place := He.meth_ok (c.fact 49 (f := .meth "Store" "place") rfl)
    d_State_cell_of := def_of c 12 rfl
    e_State_cell_of := He.meth_ok (c.fact 50 (f := .meth "State" "cell_of") rfl)
    m_LIVING := mn_str X G (c.fact 51 (f := .str "LIVING" "living") rfl)
    d_Store_is_living := def_of c 13 rfl
    e_Store_is_living := He.meth_ok (c.fact 52 (f := .meth "Store" "is_living") rfl)
    d_Store_living := def_of c 14 rfl
    e_Store_living := He.meth_ok (c.fact 53 (f := .meth "Store" "living") rfl)
    d_Store_beginning := def_of c 15 rfl
    e_Store_beginning := He.meth_ok (c.fact 54 (f := .meth "Store" "beginning") rfl)
    b_sum := bn_of X G (c.fact 55 (f := .free "sum") rfl)
    m_GONE := mn_str X G (c.fact 56 (f := .str "GONE" "gone") rfl)
    m_KEPT := mn_str X G (c.fact 57 (f := .str "KEPT" "kept") rfl)
    d_Store_free := def_of c 16 rfl
    e_Store_free := He.meth_ok (c.fact 58 (f := .meth "Store" "free") rfl)
    d_Room_new := def_of c 17 rfl
    k_Room := He.mkr_ok (c.fact 59 (f := .mkr "Room") rfl)
    g_Room := He.glo_ok X G (c.fact 60 (f := .glo "Room") rfl)
    d_Store_is_clear := def_of c 18 rfl
    e_Store_is_clear := He.meth_ok (c.fact 61 (f := .meth "Store" "is_clear") rfl)
    m_LEAST_SIZE := mn_int X G (c.fact 62 (f := .int "LEAST_SIZE" 1) rfl)
    m_MOST_SIZE := mn_int X G (c.fact 63 (f := .int "MOST_SIZE" 8) rfl)
    d_Store_room := def_of c 19 rfl
    e_Store_room := He.meth_ok (c.fact 64 (f := .meth "Store" "room") rfl)
    d_Room_has := def_of c 20 rfl
    e_Room_has := He.meth_ok (c.fact 65 (f := .meth "Room" "has") rfl)
    l_Room := He.cls_ok (c.fact 48 (f := .cls "Room") rfl)
    d_Store_owner := def_of c 21 rfl
    e_Store_owner := He.meth_ok (c.fact 66 (f := .meth "Store" "owner") rfl)
    d_Store_write := def_of c 22 rfl
    e_Store_write := He.meth_ok (c.fact 67 (f := .meth "Store" "write") rfl)
    d_State_touch := def_of c 23 rfl
    e_State_touch := He.meth_ok (c.fact 68 (f := .meth "State" "touch") rfl)
    d_State_do := def_of c 24 rfl
    e_State_do := He.meth_ok (c.fact 69 (f := .meth "State" "do") rfl)
    m_OPEN := mn_str X G (c.fact 70 (f := .str "OPEN" "open") rfl)
    m_GAP := mn_str X G (c.fact 71 (f := .str "GAP" "gap") rfl)
    m_SET := mn_str X G (c.fact 72 (f := .str "SET" "set") rfl)
    m_FRESH := mn_str X G (c.fact 73 (f := .str "FRESH" "fresh") rfl)
    m_FREED := mn_str X G (c.fact 74 (f := .str "FREED" "freed") rfl)
    d_Store_mark := def_of c 25 rfl
    e_Store_mark := He.meth_ok (c.fact 75 (f := .meth "Store" "mark") rfl)
    d_Store_size := def_of c 26 rfl
    e_Store_size := He.meth_ok (c.fact 76 (f := .meth "Store" "size") rfl)
    d_by_bounds := def_of c 27 rfl
    g_by_bounds := He.glo_ok X G (c.fact 77 (f := .glo "by_bounds") rfl)
    d_by_marks := def_of c 28 rfl
    g_by_marks := He.glo_ok X G (c.fact 78 (f := .glo "by_marks") rfl)
    m_COUNTS := mn_tup (vs := [(.int 1), (.int 2), (.int 4), (.int 8), (.int 16)]) X G (c.fact 79 (f := .glo "COUNTS") rfl) k0
    d_by_tags := def_of c 29 rfl
    g_by_tags := He.glo_ok X G (c.fact 80 (f := .glo "by_tags") rfl)
    m_MARKS := mn_str X G (c.fact 81 (f := .str "MARKS" "marks") rfl)
    m_BOUNDS := mn_str X G (c.fact 82 (f := .str "BOUNDS" "bounds") rfl)
    d_look := def_of c 30 rfl
    g_look := He.glo_ok X G (c.fact 83 (f := .glo "look") rfl)
    m_CHECK := mn_tup (vs := [(.str "check")]) X G (c.fact 84 (f := .glo "CHECK") rfl) k1
    d_Run_go_through := def_of c 31 rfl
    e_Run_go_through := He.meth_ok (c.fact 85 (f := .meth "Run" "go_through") rfl)
    d_is_number := def_of c 32 rfl
    g_is_number := He.glo_ok X G (c.fact 86 (f := .glo "is_number") rfl)
    d_need_setting := def_of c 33 rfl
    g_need_setting := He.glo_ok X G (c.fact 87 (f := .glo "need_setting") rfl)
    d_Store_new := def_of c 34 rfl
    k_Store := He.mkr_ok (c.fact 88 (f := .mkr "Store") rfl)
    g_Store := He.glo_ok X G (c.fact 89 (f := .glo "Store") rfl)
    m_HANDLES := mn_int X G (c.fact 90 (f := .int "HANDLES" 4) rfl)
    m_NUMBERS := mn_int X G (c.fact 91 (f := .int "NUMBERS" 6) rfl)
    d_State_new := def_of c 35 rfl
    k_State := He.mkr_ok (c.fact 92 (f := .mkr "State") rfl)
    g_State := He.glo_ok X G (c.fact 93 (f := .glo "State") rfl)
    d_Run_new := def_of c 36 rfl
    k_Run := He.mkr_ok (c.fact 94 (f := .mkr "Run") rfl)
    g_Run := He.glo_ok X G (c.fact 95 (f := .glo "Run") rfl)
    m_TOUCHES := mn_tup (vs := [(.str "room"), (.str "free"), (.str "get"), (.str "set")]) X G (c.fact 96 (f := .glo "TOUCHES") rfl) k2
    d_is_touch := def_of c 37 rfl
    g_is_touch := He.glo_ok X G (c.fact 97 (f := .glo "is_touch") rfl)
    d_unchecked := def_of c 38 rfl
    g_unchecked := He.glo_ok X G (c.fact 98 (f := .glo "unchecked") rfl)
    b_enumerate := bn_of X G (c.fact 99 (f := .free "enumerate") rfl)
    d_with_checks := def_of c 39 rfl
    g_with_checks := He.glo_ok X G (c.fact 100 (f := .glo "with_checks") rfl)
    d_by_itself := def_of c 40 rfl
    g_by_itself := He.glo_ok X G (c.fact 101 (f := .glo "by_itself") rfl)
    m_MOST_PUT := mn_int X G (c.fact 102 (f := .int "MOST_PUT" 999) rfl)
    m_LEAST_PUT := mn_int X G (c.fact 103 (f := .int "LEAST_PUT" (-99)) rfl)
    m_MOST_INPUT := mn_int X G (c.fact 104 (f := .int "MOST_INPUT" 20) rfl)
    d_need_input := def_of c 41 rfl
    g_need_input := He.glo_ok X G (c.fact 105 (f := .glo "need_input") rfl)
    d_is_part := def_of c 42 rfl
    g_is_part := He.glo_ok X G (c.fact 106 (f := .glo "is_part") rfl)
    d_has_form := def_of c 43 rfl
    g_has_form := He.glo_ok X G (c.fact 107 (f := .glo "has_form") rfl)
    d_is_worded := def_of c 44 rfl
    g_is_worded := He.glo_ok X G (c.fact 108 (f := .glo "is_worded") rfl)
    t_FORMS := ktab_of (tab := tab_FORMS) X G cz 0 rfl k3 (c.fact 109 (f := .glo "FORMS") rfl)
    d_is_row := def_of c 45 rfl
    g_is_row := He.glo_ok X G (c.fact 110 (f := .glo "is_row") rfl)
    d_is_ahead_of_touch := def_of c 46 rfl
    g_is_ahead_of_touch := He.glo_ok X G (c.fact 111 (f := .glo "is_ahead_of_touch") rfl)
    d_bad_row := def_of c 47 rfl
    g_bad_row := He.glo_ok X G (c.fact 112 (f := .glo "bad_row") rfl)
    t_ENDS := ktab_of (tab := tab_ENDS) X G cz 1 rfl k4 (c.fact 113 (f := .glo "ENDS") rfl)
    d_is_end := def_of c 48 rfl
    g_is_end := He.glo_ok X G (c.fact 114 (f := .glo "is_end") rfl)
    m_MOST_ROWS := mn_int X G (c.fact 115 (f := .int "MOST_ROWS" 60) rfl)
    m_MOST_BLOCKS := mn_int X G (c.fact 116 (f := .int "MOST_BLOCKS" 12) rfl)
    d_need_program := def_of c 49 rfl
    g_need_program := He.glo_ok X G (c.fact 117 (f := .glo "need_program") rfl)
    d_need_run := def_of c 50 rfl
    g_need_run := He.glo_ok X G (c.fact 118 (f := .glo "need_run") rfl)
    d_judged := def_of c 51 rfl
    g_judged := He.glo_ok X G (c.fact 119 (f := .glo "judged") rfl)
    m_MOST_BITS := mn_int X G (c.fact 120 (f := .int "MOST_BITS" 4) rfl)
    m_TAGS := mn_str X G (c.fact 121 (f := .str "TAGS" "tags") rfl)
    d_need_way := def_of c 52 rfl
    g_need_way := He.glo_ok X G (c.fact 122 (f := .glo "need_way") rfl)
    d_missed := def_of c 53 rfl
    g_missed := He.glo_ok X G (c.fact 123 (f := .glo "missed") rfl)
    d_law := def_of c 54 rfl
    g_law := He.glo_ok X G (c.fact 124 (f := .glo "law") rfl)
  }
theorem facts {P : Program} {w : World} {K : PySem.W.Frag} {h : Heap} {mg : Str → Option Value} {f : Addr} (HT : ∀ ns : List Int, ns.length ≤ 63 → ∃ h', f_law [.rd ns] [] = .ok (.bl true) h') (X : K.In h) (G : h.Ns mainGlobals mg) (hfa : mg ("law" : Str) = some (.ref f)) (cz : SaysZ fa fn ts ck w K) :
    ∃ (fd : FuncData) (sp : Sp), (∀ (s : Shared) (v : Value), BindsTo s fd ⟨[v], []⟩ [("_law_script", v)]) ∧
      (∀ (H : Hp) (a : Addr) (ns : List Int), ns.length ≤ 63 → L2.Only H → SqL K H a (ns.map V.int) → sp [.ref a] H (fun v _ => v = .bl true) fun _ _ _ => False) ∧ ∀ base : Heap, K.In base → base.Ns mainGlobals mg → FnOk P w K mg base CX0 12 f fd ["_law_script"] sp := by
  have c : He.SaysD fa fn K := cz.d
  obtain ⟨fd, F⟩ := c.def_ 54 (d := D_law) rfl
  have e := hfa.symm.trans (He.glo_ok X G (c.fact 124 (f := .glo "law") rfl))
  cases e
  have b := FunD.bindsA (ps := ["_law_script"]) F fun _ _ _ _ _ _ us hl => match us, hl with | [_], _ => rfl
  refine ⟨fd, spM (txOf P w K mg h) 1 f_law, fun s v => b s [v] rfl, fun H a ns hl _ hS => ?_, fun base _ _ => ?_⟩
  · obtain ⟨h', e⟩ := HT ns hl
    exact law_sp hl hS e
  · exact fn_okD (T := txOf P w K mg base) (st := st_law) (N := ["_law_script", "_law_row", "_law_turn", "_law_setting", "_law_sizes", "_law_rows", "_law_h", "_law_far", "_law_cell", "_law_sort", "_law_told", "_law_order", "_law_last", "_law_program", "_law_k"]) (O := []) F sc_law rfl rfl rfl rfl (rs_law (hf X G cz))
open PySem PySem.W PySem.Calls PyProof.Rows in
theorem holds : PySem.Challenge.rw_shadowroom_k12_whole_what_marks_must_tel.Holds := by
  w_on; o_law
  o_head hk
  case hw => w_witness2
  case hc =>
    refine L2.walk_ofE (l := PySem.Challenge.rw_shadowroom_k12_whole_what_marks_must_tel) (n := 63) (k := 12) (x := "_law_script") (CX := L2.CX0) rfl (by decide) (by kernel_rfl) ⟨rfl, by decide, by decide⟩ ?F (fun _ _ _ _ z => z)
    intro w mg fa h Y G hmg
    obtain ⟨K, KX, c⟩ := Y
    obtain ⟨fd, sp, hb, hs, hF⟩ := facts (P := (PySem.Challenge.rw_shadowroom_k12_whole_what_marks_must_tel).prog) (w := w) law_true KX G hmg c
    exact ⟨K, fd, sp, KX, hb, hs, hF⟩
end GK12

theorem PySem.Challenge.cw_shadowroom_k12_whole_what_marks_must_tel_holds : PySem.Challenge.rw_shadowroom_k12_whole_what_marks_must_tel.Holds :=
  GK12.holds
