import PyProof.Rows.All
import Wide.All
import OpenK.AllK
import Wide.FinOn
import HandS.Base
import HandS.Call
import HandS.Ends
import HandS.Words
import HandS.Exc
import HandS.ExcOwn
import HandS.WordsExc
import HandS.Defaults
import HandS.HeadHook1
import HandS.HeadHook2
import PySem.Challenge.RW_greywalk_k45_whole_given_back
import KE.KStateDown
import HandS.Head0
import HandS.Head1
import HandS.Head2
import HandS.HeadEnd
import HandS.Dict
import HandS.ForMost
import HandS.ForExc
import HandS.Walk
import HandS.Style
import HandS.TryMany
import HandS.TryElse
import HandS.IsInst
import HandS.Zip
import HandS.NoneIn
import HandS.Wide
import HandS.Codes
import HandS.HotCalls
import PyProof.NeKinds
import HandS.DictComp
import HandS.More
set_option Elab.async false
set_option linter.all false
set_option maxRecDepth 100000
set_option maxHeartbeats 0
namespace G
open PySem PySem.Spec PyProof.Rows L2
/-! ### the text by places -/
def top (i : Nat) : Stmt := PySem.Challenge.pw_greywalk_k45_whole_given_back.main.body.getD i (.Pass ⟨0, 0, 0, 0⟩)
abbrev s_birth_at : Stmt := top 10
abbrev s_held : Stmt := top 23
abbrev s_looked_at : Stmt := top 24
abbrev s_begin : Stmt := top 25
abbrev s_note : Stmt := top 26
abbrev s_noted : Stmt := top 27
abbrev s_gone : Stmt := top 28
abbrev s_stays_named : Stmt := top 29
abbrev s_roots : Stmt := top 30
abbrev s_cell_in : Stmt := top 32
abbrev s_cell_with : Stmt := top 33
abbrev s_hears_new : Stmt := top 34
abbrev s_fill : Stmt := top 35
abbrev s_make_cell : Stmt := top 36
abbrev s_get_field : Stmt := top 37
abbrev s_put_in : Stmt := top 38
abbrev s_drop_slot : Stmt := top 39
abbrev s_give_to : Stmt := top 40
abbrev s_write_load : Stmt := top 41
abbrev s_name_cell : Stmt := top 42
abbrev s_seek_name : Stmt := top 43
abbrev s_do : Stmt := top 44
abbrev s_world_of : Stmt := top 47
abbrev s_ways_on : Stmt := top 49
abbrev s_reached : Stmt := top 50
abbrev s_note_hands : Stmt := top 52
abbrev s_begin_round : Stmt := top 53
abbrev s_walk_one : Stmt := top 54
abbrev s_found_pale : Stmt := top 55
abbrev s_told_loss : Stmt := top 56
abbrev s_cut_round : Stmt := top 57
abbrev s_look_round : Stmt := top 58
abbrev s_give_back : Stmt := top 59
abbrev s_step : Stmt := top 60
abbrev s_refusal : Stmt := top 62
abbrev s_deed_tried : Stmt := top 63
abbrev s_tried : Stmt := top 64
abbrev s_is_lost : Stmt := top 65
abbrev s_run : Stmt := top 66
abbrev s__law_cell : Stmt := top 68
abbrev s__law_draw : Stmt := top 69
abbrev s__law_hands : Stmt := top 70
abbrev s__law_room : Stmt := top 71
abbrev s__law_slot : Stmt := top 72
abbrev s__law_word : Stmt := top 73
abbrev s__law_make : Stmt := top 74
abbrev s__law_steps : Stmt := top 75
abbrev s__law_other : Stmt := top 76
abbrev s__law_row : Stmt := top 77
abbrev s__law_rows : Stmt := top 78
abbrev s__law_kind : Stmt := top 79
abbrev s__law_whole : Stmt := top 80
abbrev s__law_reach : Stmt := top 81
abbrev s__law_inner : Stmt := top 82
abbrev s__law_dealt : Stmt := top 83
abbrev s__law_cut : Stmt := top 84
abbrev s__law_stepped : Stmt := top 85
abbrev s__law_event : Stmt := top 86
abbrev s__law_followed : Stmt := top 87
abbrev s_law : Stmt := top 88
abbrev s_Cell_init : Stmt := inClass (top 8) 0
abbrev s_Cell_units : Stmt := inClass (top 8) 1
abbrev s_Heap_init : Stmt := inClass (top 9) 0
abbrev s_Heap_least_place : Stmt := inClass (top 9) 1
abbrev s_Heap_make : Stmt := inClass (top 9) 2
abbrev s_Heap_back : Stmt := inClass (top 9) 3
abbrev s_Heap_there : Stmt := inClass (top 9) 5
abbrev s_First_at_begin : Stmt := inClass (top 15) 2
abbrev s_First_next_look : Stmt := inClass (top 15) 3
abbrev s_First_stays : Stmt := inClass (top 14) 4
abbrev s_Each_at_begin : Stmt := inClass (top 14) 2
abbrev s_Each_next_look : Stmt := inClass (top 16) 1
abbrev s_Each_stays : Stmt := inClass (top 14) 4
abbrev s_Last_at_begin : Stmt := inClass (top 14) 2
abbrev s_Last_next_look : Stmt := inClass (top 14) 3
abbrev s_Last_stays : Stmt := inClass (top 17) 2
abbrev s_Kind_init : Stmt := inClass (top 18) 0
abbrev s_Hand_init : Stmt := inClass (top 20) 0
abbrev s_Sweeper_init : Stmt := inClass (top 21) 0
abbrev s_World_init : Stmt := inClass (top 22) 0
abbrev s_Scene_init : Stmt := inClass (top 46) 0
/-! ### the defs, the facts -/
def d_birth_at : He.DefD := ⟨("birth_at", none), "birth_at", "birth_at", defArgs s_birth_at, defBody s_birth_at, defScope s_birth_at, [], []⟩
def d_held : He.DefD := ⟨("held", none), "held", "held", defArgs s_held, defBody s_held, defScope s_held, [], []⟩
def d_looked_at : He.DefD := ⟨("looked_at", none), "looked_at", "looked_at", defArgs s_looked_at, defBody s_looked_at, defScope s_looked_at, [], []⟩
def d_begin : He.DefD := ⟨("begin", none), "begin", "begin", defArgs s_begin, defBody s_begin, defScope s_begin, [], []⟩
def d_note : He.DefD := ⟨("note", none), "note", "note", defArgs s_note, defBody s_note, defScope s_note, [], []⟩
def d_noted : He.DefD := ⟨("noted", none), "noted", "noted", defArgs s_noted, defBody s_noted, defScope s_noted, [], []⟩
def d_gone : He.DefD := ⟨("gone", none), "gone", "gone", defArgs s_gone, defBody s_gone, defScope s_gone, [], []⟩
def d_stays_named : He.DefD := ⟨("stays_named", none), "stays_named", "stays_named", defArgs s_stays_named, defBody s_stays_named, defScope s_stays_named, [], []⟩
def d_roots : He.DefD := ⟨("roots", none), "roots", "roots", defArgs s_roots, defBody s_roots, defScope s_roots, [], []⟩
def d_cell_in : He.DefD := ⟨("cell_in", none), "cell_in", "cell_in", defArgs s_cell_in, defBody s_cell_in, defScope s_cell_in, [], []⟩
def d_cell_with : He.DefD := ⟨("cell_with", none), "cell_with", "cell_with", defArgs s_cell_with, defBody s_cell_with, defScope s_cell_with, [], []⟩
def d_hears_new : He.DefD := ⟨("hears_new", none), "hears_new", "hears_new", defArgs s_hears_new, defBody s_hears_new, defScope s_hears_new, [], []⟩
def d_fill : He.DefD := ⟨("fill", none), "fill", "fill", defArgs s_fill, defBody s_fill, defScope s_fill, [], []⟩
def d_make_cell : He.DefD := ⟨("make_cell", none), "make_cell", "make_cell", defArgs s_make_cell, defBody s_make_cell, defScope s_make_cell, [], []⟩
def d_get_field : He.DefD := ⟨("get_field", none), "get_field", "get_field", defArgs s_get_field, defBody s_get_field, defScope s_get_field, [], []⟩
def d_put_in : He.DefD := ⟨("put_in", none), "put_in", "put_in", defArgs s_put_in, defBody s_put_in, defScope s_put_in, [], []⟩
def d_drop_slot : He.DefD := ⟨("drop_slot", none), "drop_slot", "drop_slot", defArgs s_drop_slot, defBody s_drop_slot, defScope s_drop_slot, [], []⟩
def d_give_to : He.DefD := ⟨("give_to", none), "give_to", "give_to", defArgs s_give_to, defBody s_give_to, defScope s_give_to, [], []⟩
def d_write_load : He.DefD := ⟨("write_load", none), "write_load", "write_load", defArgs s_write_load, defBody s_write_load, defScope s_write_load, [], []⟩
def d_name_cell : He.DefD := ⟨("name_cell", none), "name_cell", "name_cell", defArgs s_name_cell, defBody s_name_cell, defScope s_name_cell, [], []⟩
def d_seek_name : He.DefD := ⟨("seek_name", none), "seek_name", "seek_name", defArgs s_seek_name, defBody s_seek_name, defScope s_seek_name, [], []⟩
def d_do : He.DefD := ⟨("do", none), "do", "do", defArgs s_do, defBody s_do, defScope s_do, [], []⟩
def d_world_of : He.DefD := ⟨("world_of", none), "world_of", "world_of", defArgs s_world_of, defBody s_world_of, defScope s_world_of, [], []⟩
def d_ways_on : He.DefD := ⟨("ways_on", none), "ways_on", "ways_on", defArgs s_ways_on, defBody s_ways_on, defScope s_ways_on, [], []⟩
def d_reached : He.DefD := ⟨("reached", none), "reached", "reached", defArgs s_reached, defBody s_reached, defScope s_reached, [], []⟩
def d_note_hands : He.DefD := ⟨("note_hands", none), "note_hands", "note_hands", defArgs s_note_hands, defBody s_note_hands, defScope s_note_hands, [], []⟩
def d_begin_round : He.DefD := ⟨("begin_round", none), "begin_round", "begin_round", defArgs s_begin_round, defBody s_begin_round, defScope s_begin_round, [], []⟩
def d_walk_one : He.DefD := ⟨("walk_one", none), "walk_one", "walk_one", defArgs s_walk_one, defBody s_walk_one, defScope s_walk_one, [], []⟩
def d_found_pale : He.DefD := ⟨("found_pale", none), "found_pale", "found_pale", defArgs s_found_pale, defBody s_found_pale, defScope s_found_pale, [], []⟩
def d_told_loss : He.DefD := ⟨("told_loss", none), "told_loss", "told_loss", defArgs s_told_loss, defBody s_told_loss, defScope s_told_loss, [], []⟩
def d_cut_round : He.DefD := ⟨("cut_round", none), "cut_round", "cut_round", defArgs s_cut_round, defBody s_cut_round, defScope s_cut_round, [], []⟩
def d_look_round : He.DefD := ⟨("look_round", none), "look_round", "look_round", defArgs s_look_round, defBody s_look_round, defScope s_look_round, [], []⟩
def d_give_back : He.DefD := ⟨("give_back", none), "give_back", "give_back", defArgs s_give_back, defBody s_give_back, defScope s_give_back, [], []⟩
def d_step : He.DefD := ⟨("step", none), "step", "step", defArgs s_step, defBody s_step, defScope s_step, [], []⟩
def d_refusal : He.DefD := ⟨("refusal", none), "refusal", "refusal", defArgs s_refusal, defBody s_refusal, defScope s_refusal, [], []⟩
def d_deed_tried : He.DefD := ⟨("deed_tried", none), "deed_tried", "deed_tried", defArgs s_deed_tried, defBody s_deed_tried, defScope s_deed_tried, [], []⟩
def d_tried : He.DefD := ⟨("tried", none), "tried", "tried", defArgs s_tried, defBody s_tried, defScope s_tried, [], []⟩
def d_is_lost : He.DefD := ⟨("is_lost", none), "is_lost", "is_lost", defArgs s_is_lost, defBody s_is_lost, defScope s_is_lost, [], []⟩
def d_run : He.DefD := ⟨("run", none), "run", "run", defArgs s_run, defBody s_run, defScope s_run, [.non], []⟩
def d__law_cell : He.DefD := ⟨("_law_cell", none), "_law_cell", "_law_cell", defArgs s__law_cell, defBody s__law_cell, defScope s__law_cell, [], []⟩
def d__law_draw : He.DefD := ⟨("_law_draw", none), "_law_draw", "_law_draw", defArgs s__law_draw, defBody s__law_draw, defScope s__law_draw, [], []⟩
def d__law_hands : He.DefD := ⟨("_law_hands", none), "_law_hands", "_law_hands", defArgs s__law_hands, defBody s__law_hands, defScope s__law_hands, [], []⟩
def d__law_room : He.DefD := ⟨("_law_room", none), "_law_room", "_law_room", defArgs s__law_room, defBody s__law_room, defScope s__law_room, [], []⟩
def d__law_slot : He.DefD := ⟨("_law_slot", none), "_law_slot", "_law_slot", defArgs s__law_slot, defBody s__law_slot, defScope s__law_slot, [], []⟩
def d__law_word : He.DefD := ⟨("_law_word", none), "_law_word", "_law_word", defArgs s__law_word, defBody s__law_word, defScope s__law_word, [], []⟩
def d__law_make : He.DefD := ⟨("_law_make", none), "_law_make", "_law_make", defArgs s__law_make, defBody s__law_make, defScope s__law_make, [], []⟩
def d__law_steps : He.DefD := ⟨("_law_steps", none), "_law_steps", "_law_steps", defArgs s__law_steps, defBody s__law_steps, defScope s__law_steps, [], []⟩
def d__law_other : He.DefD := ⟨("_law_other", none), "_law_other", "_law_other", defArgs s__law_other, defBody s__law_other, defScope s__law_other, [], []⟩
def d__law_row : He.DefD := ⟨("_law_row", none), "_law_row", "_law_row", defArgs s__law_row, defBody s__law_row, defScope s__law_row, [], []⟩
def d__law_rows : He.DefD := ⟨("_law_rows", none), "_law_rows", "_law_rows", defArgs s__law_rows, defBody s__law_rows, defScope s__law_rows, [], []⟩
def d__law_kind : He.DefD := ⟨("_law_kind", none), "_law_kind", "_law_kind", defArgs s__law_kind, defBody s__law_kind, defScope s__law_kind, [], []⟩
def d__law_whole : He.DefD := ⟨("_law_whole", none), "_law_whole", "_law_whole", defArgs s__law_whole, defBody s__law_whole, defScope s__law_whole, [], []⟩
def d__law_reach : He.DefD := ⟨("_law_reach", none), "_law_reach", "_law_reach", defArgs s__law_reach, defBody s__law_reach, defScope s__law_reach, [], []⟩
def d__law_inner : He.DefD := ⟨("_law_inner", none), "_law_inner", "_law_inner", defArgs s__law_inner, defBody s__law_inner, defScope s__law_inner, [], []⟩
def d__law_dealt : He.DefD := ⟨("_law_dealt", none), "_law_dealt", "_law_dealt", defArgs s__law_dealt, defBody s__law_dealt, defScope s__law_dealt, [], []⟩
def d__law_cut : He.DefD := ⟨("_law_cut", none), "_law_cut", "_law_cut", defArgs s__law_cut, defBody s__law_cut, defScope s__law_cut, [], []⟩
def d__law_stepped : He.DefD := ⟨("_law_stepped", none), "_law_stepped", "_law_stepped", defArgs s__law_stepped, defBody s__law_stepped, defScope s__law_stepped, [], []⟩
def d__law_event : He.DefD := ⟨("_law_event", none), "_law_event", "_law_event", defArgs s__law_event, defBody s__law_event, defScope s__law_event, [], []⟩
def d__law_followed : He.DefD := ⟨("_law_followed", none), "_law_followed", "_law_followed", defArgs s__law_followed, defBody s__law_followed, defScope s__law_followed, [], []⟩
def d_law : He.DefD := ⟨("law", none), "law", "law", defArgs s_law, defBody s_law, defScope s_law, [], []⟩
def d_Cell_init : He.DefD := ⟨("Cell", some "__init__"), "__init__", "Cell.__init__", defArgs s_Cell_init, defBody s_Cell_init, defScope s_Cell_init, [], []⟩
def d_Cell_units : He.DefD := ⟨("Cell", some "units"), "units", "Cell.units", defArgs s_Cell_units, defBody s_Cell_units, defScope s_Cell_units, [], []⟩
def d_Heap_init : He.DefD := ⟨("Heap", some "__init__"), "__init__", "Heap.__init__", defArgs s_Heap_init, defBody s_Heap_init, defScope s_Heap_init, [], []⟩
def d_Heap_least_place : He.DefD := ⟨("Heap", some "least_place"), "least_place", "Heap.least_place", defArgs s_Heap_least_place, defBody s_Heap_least_place, defScope s_Heap_least_place, [], []⟩
def d_Heap_make : He.DefD := ⟨("Heap", some "make"), "make", "Heap.make", defArgs s_Heap_make, defBody s_Heap_make, defScope s_Heap_make, [.int 0, .int 0], []⟩
def d_Heap_back : He.DefD := ⟨("Heap", some "back"), "back", "Heap.back", defArgs s_Heap_back, defBody s_Heap_back, defScope s_Heap_back, [], []⟩
def d_Heap_there : He.DefD := ⟨("Heap", some "there"), "there", "Heap.there", defArgs s_Heap_there, defBody s_Heap_there, defScope s_Heap_there, [], []⟩
def d_First_at_begin : He.DefD := ⟨("First", some "at_begin"), "at_begin", "First.at_begin", defArgs s_First_at_begin, defBody s_First_at_begin, defScope s_First_at_begin, [], []⟩
def d_First_next_look : He.DefD := ⟨("First", some "next_look"), "next_look", "First.next_look", defArgs s_First_next_look, defBody s_First_next_look, defScope s_First_next_look, [], []⟩
def d_First_stays : He.DefD := ⟨("First", some "stays"), "stays", "Looking.stays", defArgs s_First_stays, defBody s_First_stays, defScope s_First_stays, [], []⟩
def d_Each_at_begin : He.DefD := ⟨("Each", some "at_begin"), "at_begin", "Looking.at_begin", defArgs s_Each_at_begin, defBody s_Each_at_begin, defScope s_Each_at_begin, [], []⟩
def d_Each_next_look : He.DefD := ⟨("Each", some "next_look"), "next_look", "Each.next_look", defArgs s_Each_next_look, defBody s_Each_next_look, defScope s_Each_next_look, [], []⟩
def d_Each_stays : He.DefD := ⟨("Each", some "stays"), "stays", "Looking.stays", defArgs s_Each_stays, defBody s_Each_stays, defScope s_Each_stays, [], []⟩
def d_Last_at_begin : He.DefD := ⟨("Last", some "at_begin"), "at_begin", "Looking.at_begin", defArgs s_Last_at_begin, defBody s_Last_at_begin, defScope s_Last_at_begin, [], []⟩
def d_Last_next_look : He.DefD := ⟨("Last", some "next_look"), "next_look", "Looking.next_look", defArgs s_Last_next_look, defBody s_Last_next_look, defScope s_Last_next_look, [], []⟩
def d_Last_stays : He.DefD := ⟨("Last", some "stays"), "stays", "Last.stays", defArgs s_Last_stays, defBody s_Last_stays, defScope s_Last_stays, [], []⟩
def d_Kind_init : He.DefD := ⟨("Kind", some "__init__"), "__init__", "Kind.__init__", defArgs s_Kind_init, defBody s_Kind_init, defScope s_Kind_init, [], []⟩
def d_Hand_init : He.DefD := ⟨("Hand", some "__init__"), "__init__", "Hand.__init__", defArgs s_Hand_init, defBody s_Hand_init, defScope s_Hand_init, [], []⟩
def d_Sweeper_init : He.DefD := ⟨("Sweeper", some "__init__"), "__init__", "Sweeper.__init__", defArgs s_Sweeper_init, defBody s_Sweeper_init, defScope s_Sweeper_init, [], []⟩
def d_World_init : He.DefD := ⟨("World", some "__init__"), "__init__", "World.__init__", defArgs s_World_init, defBody s_World_init, defScope s_World_init, [], []⟩
def d_Scene_init : He.DefD := ⟨("Scene", some "__init__"), "__init__", "Scene.__init__", defArgs s_Scene_init, defBody s_Scene_init, defScope s_Scene_init, [], []⟩
def fn0 : List He.DefD := [d_birth_at, d_held, d_looked_at, d_begin, d_note, d_noted, d_gone, d_stays_named, d_roots, d_cell_in, d_cell_with, d_hears_new, d_fill, d_make_cell, d_get_field, d_put_in, d_drop_slot, d_give_to, d_write_load, d_name_cell]
def fn1 : List He.DefD := [d_seek_name, d_do, d_world_of, d_ways_on, d_reached, d_note_hands, d_begin_round, d_walk_one, d_found_pale, d_told_loss, d_cut_round, d_look_round, d_give_back, d_step, d_refusal, d_deed_tried, d_tried, d_is_lost, d_run, d__law_cell]
def fn2 : List He.DefD := [d__law_draw, d__law_hands, d__law_room, d__law_slot, d__law_word, d__law_make, d__law_steps, d__law_other, d__law_row, d__law_rows, d__law_kind, d__law_whole, d__law_reach, d__law_inner, d__law_dealt, d__law_cut, d__law_stepped, d__law_event, d__law_followed, d_law]
def fn3 : List He.DefD := [d_Cell_init, d_Cell_units, d_Heap_init, d_Heap_least_place, d_Heap_make, d_Heap_back, d_Heap_there, d_First_at_begin, d_First_next_look, d_First_stays, d_Each_at_begin, d_Each_next_look, d_Each_stays, d_Last_at_begin, d_Last_next_look, d_Last_stays, d_Kind_init, d_Hand_init, d_Sweeper_init, d_World_init]
def fn4 : List He.DefD := [d_Scene_init]
def fn : List He.DefD := fn0 ++ (fn1 ++ (fn2 ++ (fn3 ++ (fn4))))
def fa0 : List He.Fa := [.glo "birth_at", .glo "held", .glo "looked_at", .glo "begin", .glo "note", .glo "noted", .glo "gone", .glo "stays_named", .glo "roots", .glo "cell_in", .glo "cell_with", .glo "hears_new", .glo "fill", .glo "make_cell", .glo "get_field", .glo "put_in", .glo "drop_slot", .glo "give_to", .glo "write_load", .glo "name_cell", .glo "seek_name", .glo "do", .glo "world_of", .glo "ways_on", .glo "reached", .glo "note_hands", .glo "begin_round", .glo "walk_one", .glo "found_pale", .glo "told_loss"]
def fa1 : List He.Fa := [.glo "cut_round", .glo "look_round", .glo "give_back", .glo "step", .glo "refusal", .glo "deed_tried", .glo "tried", .glo "is_lost", .glo "run", .glo "_law_cell", .glo "_law_draw", .glo "_law_hands", .glo "_law_room", .glo "_law_slot", .glo "_law_word", .glo "_law_make", .glo "_law_steps", .glo "_law_other", .glo "_law_row", .glo "_law_rows", .glo "_law_kind", .glo "_law_whole", .glo "_law_reach", .glo "_law_inner", .glo "_law_dealt", .glo "_law_cut", .glo "_law_stepped", .glo "_law_event", .glo "_law_followed", .glo "law"]
def fa2 : List He.Fa := [.glo "Cell", .glo "Heap", .glo "First", .glo "Each", .glo "Last", .glo "Kind", .glo "Hand", .glo "Sweeper", .glo "World", .glo "Scene", .glo "EmptySlot", .glo "NoField", .glo "Full", .glo "NoName", .free "len", .free "enumerate", .free "range", .free "isinstance", .free "list", .free "tuple", .free "int", .free "bool", .free "str", .free "dict", .free "zip", .int "OLD" 1, .int "NEW" 2, .cls "Cell", .cls "Heap", .cls "First"]
def fa3 : List He.Fa := [.cls "Each", .cls "Last", .cls "Kind", .cls "Hand", .cls "Sweeper", .cls "World", .cls "Scene", .noat "Cell" "birth", .noat "Cell" "bulk", .noat "Cell" "tone", .noat "Cell" "load", .noat "Cell" "fields", .noat "Heap" "room", .noat "Heap" "cells", .noat "Heap" "used", .noat "Heap" "born", .noat "Kind" "looking", .noat "Kind" "tells", .noat "Hand" "name", .noat "Hand" "slots", .noat "Sweeper" "sense", .noat "Sweeper" "phase", .noat "Sweeper" "grey", .noat "Sweeper" "looked", .noat "Sweeper" "turn", .noat "Sweeper" "at", .noat "Sweeper" "stop", .noat "Sweeper" "walks", .noat "Sweeper" "looks", .noat "Sweeper" "passes"]
def fa4 : List He.Fa := [.noat "Sweeper" "loss", .noat "World" "heap", .noat "World" "kind", .noat "World" "hands", .noat "World" "names", .noat "World" "sweeper", .noat "Scene" "room", .noat "Scene" "kind", .noat "Scene" "hands", .noat "Scene" "rows", .meth "Cell" "units", .meth "Heap" "least_place", .meth "Heap" "make", .meth "Heap" "back", .meth "Heap" "there", .meth "First" "at_begin", .meth "First" "next_look", .meth "First" "stays", .meth "Each" "at_begin", .meth "Each" "next_look", .meth "Each" "stays", .meth "Last" "at_begin", .meth "Last" "next_look", .meth "Last" "stays", .mkr "Cell", .mkr "Heap", .mkr "Kind", .mkr "Hand", .mkr "Sweeper", .mkr "World"]
def fa5 : List He.Fa := [.mkr "Scene", .exc "EmptySlot", .exc "NoField", .exc "Full", .exc "NoName", .exm "EmptySlot" "EmptySlot" true, .exm "NoField" "EmptySlot" false, .exm "NoField" "NoField" true, .exm "Full" "EmptySlot" false, .exm "Full" "NoField" false, .exm "Full" "Full" true, .exm "NoName" "EmptySlot" false, .exm "NoName" "NoField" false, .exm "NoName" "Full" false, .exm "NoName" "NoName" true, .keep "First", .keep "Each", .keep "Last"]
def fa : List He.Fa := fa0 ++ (fa1 ++ (fa2 ++ (fa3 ++ (fa4 ++ (fa5)))))
/-- a class without an __init__ of its own -/
def noInit (K : PySem.W.Frag) (x : Str) : Bool := PySem.W.makesIn K (He.ga K x) && He.eqO (PySem.W.findIn K (.ref (He.ga K x)) "__init__") (some (some (.builtin "object.__init__")))
def exB (K : PySem.W.Frag) : Bool := noInit K "First" && (noInit K "Each" && noInit K "Last")
/-- what is known of the written part -/
structure Txt (K : PySem.W.Frag) : Prop where
  says : He.SaysD fa fn K
  ex : exB K = true
abbrev FnP (K : PySem.W.Frag) (d : He.DefD) (fd : FuncData) : Prop := FunD K d.name d.qual d.params d.body d.scope (d.dvs K) (d.kws K) (He.fAd K d.at_) fd
namespace Txt
variable {K : PySem.W.Frag}
theorem f_birth_at (T : Txt K) : ∃ fd, FnP K d_birth_at fd := T.says.def_ 0 rfl
theorem f_held (T : Txt K) : ∃ fd, FnP K d_held fd := T.says.def_ 1 rfl
theorem f_looked_at (T : Txt K) : ∃ fd, FnP K d_looked_at fd := T.says.def_ 2 rfl
theorem f_begin (T : Txt K) : ∃ fd, FnP K d_begin fd := T.says.def_ 3 rfl
theorem f_note (T : Txt K) : ∃ fd, FnP K d_note fd := T.says.def_ 4 rfl
theorem f_noted (T : Txt K) : ∃ fd, FnP K d_noted fd := T.says.def_ 5 rfl
theorem f_gone (T : Txt K) : ∃ fd, FnP K d_gone fd := T.says.def_ 6 rfl
theorem f_stays_named (T : Txt K) : ∃ fd, FnP K d_stays_named fd := T.says.def_ 7 rfl
theorem f_roots (T : Txt K) : ∃ fd, FnP K d_roots fd := T.says.def_ 8 rfl
theorem f_cell_in (T : Txt K) : ∃ fd, FnP K d_cell_in fd := T.says.def_ 9 rfl
theorem f_cell_with (T : Txt K) : ∃ fd, FnP K d_cell_with fd := T.says.def_ 10 rfl
theorem f_hears_new (T : Txt K) : ∃ fd, FnP K d_hears_new fd := T.says.def_ 11 rfl
theorem f_fill (T : Txt K) : ∃ fd, FnP K d_fill fd := T.says.def_ 12 rfl
theorem f_make_cell (T : Txt K) : ∃ fd, FnP K d_make_cell fd := T.says.def_ 13 rfl
theorem f_get_field (T : Txt K) : ∃ fd, FnP K d_get_field fd := T.says.def_ 14 rfl
theorem f_put_in (T : Txt K) : ∃ fd, FnP K d_put_in fd := T.says.def_ 15 rfl
theorem f_drop_slot (T : Txt K) : ∃ fd, FnP K d_drop_slot fd := T.says.def_ 16 rfl
theorem f_give_to (T : Txt K) : ∃ fd, FnP K d_give_to fd := T.says.def_ 17 rfl
theorem f_write_load (T : Txt K) : ∃ fd, FnP K d_write_load fd := T.says.def_ 18 rfl
theorem f_name_cell (T : Txt K) : ∃ fd, FnP K d_name_cell fd := T.says.def_ 19 rfl
theorem f_seek_name (T : Txt K) : ∃ fd, FnP K d_seek_name fd := T.says.def_ 20 rfl
theorem f_do (T : Txt K) : ∃ fd, FnP K d_do fd := T.says.def_ 21 rfl
theorem f_world_of (T : Txt K) : ∃ fd, FnP K d_world_of fd := T.says.def_ 22 rfl
theorem f_ways_on (T : Txt K) : ∃ fd, FnP K d_ways_on fd := T.says.def_ 23 rfl
theorem f_reached (T : Txt K) : ∃ fd, FnP K d_reached fd := T.says.def_ 24 rfl
theorem f_note_hands (T : Txt K) : ∃ fd, FnP K d_note_hands fd := T.says.def_ 25 rfl
theorem f_begin_round (T : Txt K) : ∃ fd, FnP K d_begin_round fd := T.says.def_ 26 rfl
theorem f_walk_one (T : Txt K) : ∃ fd, FnP K d_walk_one fd := T.says.def_ 27 rfl
theorem f_found_pale (T : Txt K) : ∃ fd, FnP K d_found_pale fd := T.says.def_ 28 rfl
theorem f_told_loss (T : Txt K) : ∃ fd, FnP K d_told_loss fd := T.says.def_ 29 rfl
theorem f_cut_round (T : Txt K) : ∃ fd, FnP K d_cut_round fd := T.says.def_ 30 rfl
theorem f_look_round (T : Txt K) : ∃ fd, FnP K d_look_round fd := T.says.def_ 31 rfl
theorem f_give_back (T : Txt K) : ∃ fd, FnP K d_give_back fd := T.says.def_ 32 rfl
theorem f_step (T : Txt K) : ∃ fd, FnP K d_step fd := T.says.def_ 33 rfl
theorem f_refusal (T : Txt K) : ∃ fd, FnP K d_refusal fd := T.says.def_ 34 rfl
theorem f_deed_tried (T : Txt K) : ∃ fd, FnP K d_deed_tried fd := T.says.def_ 35 rfl
theorem f_tried (T : Txt K) : ∃ fd, FnP K d_tried fd := T.says.def_ 36 rfl
theorem f_is_lost (T : Txt K) : ∃ fd, FnP K d_is_lost fd := T.says.def_ 37 rfl
theorem f_run (T : Txt K) : ∃ fd, FnP K d_run fd := T.says.def_ 38 rfl
theorem f__law_cell (T : Txt K) : ∃ fd, FnP K d__law_cell fd := T.says.def_ 39 rfl
theorem f__law_draw (T : Txt K) : ∃ fd, FnP K d__law_draw fd := T.says.def_ 40 rfl
theorem f__law_hands (T : Txt K) : ∃ fd, FnP K d__law_hands fd := T.says.def_ 41 rfl
theorem f__law_room (T : Txt K) : ∃ fd, FnP K d__law_room fd := T.says.def_ 42 rfl
theorem f__law_slot (T : Txt K) : ∃ fd, FnP K d__law_slot fd := T.says.def_ 43 rfl
theorem f__law_word (T : Txt K) : ∃ fd, FnP K d__law_word fd := T.says.def_ 44 rfl
theorem f__law_make (T : Txt K) : ∃ fd, FnP K d__law_make fd := T.says.def_ 45 rfl
theorem f__law_steps (T : Txt K) : ∃ fd, FnP K d__law_steps fd := T.says.def_ 46 rfl
theorem f__law_other (T : Txt K) : ∃ fd, FnP K d__law_other fd := T.says.def_ 47 rfl
theorem f__law_row (T : Txt K) : ∃ fd, FnP K d__law_row fd := T.says.def_ 48 rfl
theorem f__law_rows (T : Txt K) : ∃ fd, FnP K d__law_rows fd := T.says.def_ 49 rfl
theorem f__law_kind (T : Txt K) : ∃ fd, FnP K d__law_kind fd := T.says.def_ 50 rfl
theorem f__law_whole (T : Txt K) : ∃ fd, FnP K d__law_whole fd := T.says.def_ 51 rfl
theorem f__law_reach (T : Txt K) : ∃ fd, FnP K d__law_reach fd := T.says.def_ 52 rfl
theorem f__law_inner (T : Txt K) : ∃ fd, FnP K d__law_inner fd := T.says.def_ 53 rfl
theorem f__law_dealt (T : Txt K) : ∃ fd, FnP K d__law_dealt fd := T.says.def_ 54 rfl
theorem f__law_cut (T : Txt K) : ∃ fd, FnP K d__law_cut fd := T.says.def_ 55 rfl
theorem f__law_stepped (T : Txt K) : ∃ fd, FnP K d__law_stepped fd := T.says.def_ 56 rfl
theorem f__law_event (T : Txt K) : ∃ fd, FnP K d__law_event fd := T.says.def_ 57 rfl
theorem f__law_followed (T : Txt K) : ∃ fd, FnP K d__law_followed fd := T.says.def_ 58 rfl
theorem f_law (T : Txt K) : ∃ fd, FnP K d_law fd := T.says.def_ 59 rfl
theorem f_Cell_init (T : Txt K) : ∃ fd, FnP K d_Cell_init fd := T.says.def_ 60 rfl
theorem f_Cell_units (T : Txt K) : ∃ fd, FnP K d_Cell_units fd := T.says.def_ 61 rfl
theorem f_Heap_init (T : Txt K) : ∃ fd, FnP K d_Heap_init fd := T.says.def_ 62 rfl
theorem f_Heap_least_place (T : Txt K) : ∃ fd, FnP K d_Heap_least_place fd := T.says.def_ 63 rfl
theorem f_Heap_make (T : Txt K) : ∃ fd, FnP K d_Heap_make fd := T.says.def_ 64 rfl
theorem f_Heap_back (T : Txt K) : ∃ fd, FnP K d_Heap_back fd := T.says.def_ 65 rfl
theorem f_Heap_there (T : Txt K) : ∃ fd, FnP K d_Heap_there fd := T.says.def_ 66 rfl
theorem f_First_at_begin (T : Txt K) : ∃ fd, FnP K d_First_at_begin fd := T.says.def_ 67 rfl
theorem f_First_next_look (T : Txt K) : ∃ fd, FnP K d_First_next_look fd := T.says.def_ 68 rfl
theorem f_First_stays (T : Txt K) : ∃ fd, FnP K d_First_stays fd := T.says.def_ 69 rfl
theorem f_Each_at_begin (T : Txt K) : ∃ fd, FnP K d_Each_at_begin fd := T.says.def_ 70 rfl
theorem f_Each_next_look (T : Txt K) : ∃ fd, FnP K d_Each_next_look fd := T.says.def_ 71 rfl
theorem f_Each_stays (T : Txt K) : ∃ fd, FnP K d_Each_stays fd := T.says.def_ 72 rfl
theorem f_Last_at_begin (T : Txt K) : ∃ fd, FnP K d_Last_at_begin fd := T.says.def_ 73 rfl
theorem f_Last_next_look (T : Txt K) : ∃ fd, FnP K d_Last_next_look fd := T.says.def_ 74 rfl
theorem f_Last_stays (T : Txt K) : ∃ fd, FnP K d_Last_stays fd := T.says.def_ 75 rfl
theorem f_Kind_init (T : Txt K) : ∃ fd, FnP K d_Kind_init fd := T.says.def_ 76 rfl
theorem f_Hand_init (T : Txt K) : ∃ fd, FnP K d_Hand_init fd := T.says.def_ 77 rfl
theorem f_Sweeper_init (T : Txt K) : ∃ fd, FnP K d_Sweeper_init fd := T.says.def_ 78 rfl
theorem f_World_init (T : Txt K) : ∃ fd, FnP K d_World_init fd := T.says.def_ 79 rfl
theorem f_Scene_init (T : Txt K) : ∃ fd, FnP K d_Scene_init fd := T.says.def_ 80 rfl
section
variable {mg : Str → Option Value} {h : Heap}
theorem g_birth_at (T : Txt K) (X : K.In h) (M : h.Ns mainGlobals mg) : mg "birth_at" = some (.ref (He.ga K "birth_at")) := He.glo_ok X M (T.says.fact 0 rfl)
theorem g_held (T : Txt K) (X : K.In h) (M : h.Ns mainGlobals mg) : mg "held" = some (.ref (He.ga K "held")) := He.glo_ok X M (T.says.fact 1 rfl)
theorem g_looked_at (T : Txt K) (X : K.In h) (M : h.Ns mainGlobals mg) : mg "looked_at" = some (.ref (He.ga K "looked_at")) := He.glo_ok X M (T.says.fact 2 rfl)
theorem g_begin (T : Txt K) (X : K.In h) (M : h.Ns mainGlobals mg) : mg "begin" = some (.ref (He.ga K "begin")) := He.glo_ok X M (T.says.fact 3 rfl)
theorem g_note (T : Txt K) (X : K.In h) (M : h.Ns mainGlobals mg) : mg "note" = some (.ref (He.ga K "note")) := He.glo_ok X M (T.says.fact 4 rfl)
theorem g_noted (T : Txt K) (X : K.In h) (M : h.Ns mainGlobals mg) : mg "noted" = some (.ref (He.ga K "noted")) := He.glo_ok X M (T.says.fact 5 rfl)
theorem g_gone (T : Txt K) (X : K.In h) (M : h.Ns mainGlobals mg) : mg "gone" = some (.ref (He.ga K "gone")) := He.glo_ok X M (T.says.fact 6 rfl)
theorem g_stays_named (T : Txt K) (X : K.In h) (M : h.Ns mainGlobals mg) : mg "stays_named" = some (.ref (He.ga K "stays_named")) := He.glo_ok X M (T.says.fact 7 rfl)
theorem g_roots (T : Txt K) (X : K.In h) (M : h.Ns mainGlobals mg) : mg "roots" = some (.ref (He.ga K "roots")) := He.glo_ok X M (T.says.fact 8 rfl)
theorem g_cell_in (T : Txt K) (X : K.In h) (M : h.Ns mainGlobals mg) : mg "cell_in" = some (.ref (He.ga K "cell_in")) := He.glo_ok X M (T.says.fact 9 rfl)
theorem g_cell_with (T : Txt K) (X : K.In h) (M : h.Ns mainGlobals mg) : mg "cell_with" = some (.ref (He.ga K "cell_with")) := He.glo_ok X M (T.says.fact 10 rfl)
theorem g_hears_new (T : Txt K) (X : K.In h) (M : h.Ns mainGlobals mg) : mg "hears_new" = some (.ref (He.ga K "hears_new")) := He.glo_ok X M (T.says.fact 11 rfl)
theorem g_fill (T : Txt K) (X : K.In h) (M : h.Ns mainGlobals mg) : mg "fill" = some (.ref (He.ga K "fill")) := He.glo_ok X M (T.says.fact 12 rfl)
theorem g_make_cell (T : Txt K) (X : K.In h) (M : h.Ns mainGlobals mg) : mg "make_cell" = some (.ref (He.ga K "make_cell")) := He.glo_ok X M (T.says.fact 13 rfl)
theorem g_get_field (T : Txt K) (X : K.In h) (M : h.Ns mainGlobals mg) : mg "get_field" = some (.ref (He.ga K "get_field")) := He.glo_ok X M (T.says.fact 14 rfl)
theorem g_put_in (T : Txt K) (X : K.In h) (M : h.Ns mainGlobals mg) : mg "put_in" = some (.ref (He.ga K "put_in")) := He.glo_ok X M (T.says.fact 15 rfl)
theorem g_drop_slot (T : Txt K) (X : K.In h) (M : h.Ns mainGlobals mg) : mg "drop_slot" = some (.ref (He.ga K "drop_slot")) := He.glo_ok X M (T.says.fact 16 rfl)
theorem g_give_to (T : Txt K) (X : K.In h) (M : h.Ns mainGlobals mg) : mg "give_to" = some (.ref (He.ga K "give_to")) := He.glo_ok X M (T.says.fact 17 rfl)
theorem g_write_load (T : Txt K) (X : K.In h) (M : h.Ns mainGlobals mg) : mg "write_load" = some (.ref (He.ga K "write_load")) := He.glo_ok X M (T.says.fact 18 rfl)
theorem g_name_cell (T : Txt K) (X : K.In h) (M : h.Ns mainGlobals mg) : mg "name_cell" = some (.ref (He.ga K "name_cell")) := He.glo_ok X M (T.says.fact 19 rfl)
theorem g_seek_name (T : Txt K) (X : K.In h) (M : h.Ns mainGlobals mg) : mg "seek_name" = some (.ref (He.ga K "seek_name")) := He.glo_ok X M (T.says.fact 20 rfl)
theorem g_do (T : Txt K) (X : K.In h) (M : h.Ns mainGlobals mg) : mg "do" = some (.ref (He.ga K "do")) := He.glo_ok X M (T.says.fact 21 rfl)
theorem g_world_of (T : Txt K) (X : K.In h) (M : h.Ns mainGlobals mg) : mg "world_of" = some (.ref (He.ga K "world_of")) := He.glo_ok X M (T.says.fact 22 rfl)
theorem g_ways_on (T : Txt K) (X : K.In h) (M : h.Ns mainGlobals mg) : mg "ways_on" = some (.ref (He.ga K "ways_on")) := He.glo_ok X M (T.says.fact 23 rfl)
theorem g_reached (T : Txt K) (X : K.In h) (M : h.Ns mainGlobals mg) : mg "reached" = some (.ref (He.ga K "reached")) := He.glo_ok X M (T.says.fact 24 rfl)
theorem g_note_hands (T : Txt K) (X : K.In h) (M : h.Ns mainGlobals mg) : mg "note_hands" = some (.ref (He.ga K "note_hands")) := He.glo_ok X M (T.says.fact 25 rfl)
theorem g_begin_round (T : Txt K) (X : K.In h) (M : h.Ns mainGlobals mg) : mg "begin_round" = some (.ref (He.ga K "begin_round")) := He.glo_ok X M (T.says.fact 26 rfl)
theorem g_walk_one (T : Txt K) (X : K.In h) (M : h.Ns mainGlobals mg) : mg "walk_one" = some (.ref (He.ga K "walk_one")) := He.glo_ok X M (T.says.fact 27 rfl)
theorem g_found_pale (T : Txt K) (X : K.In h) (M : h.Ns mainGlobals mg) : mg "found_pale" = some (.ref (He.ga K "found_pale")) := He.glo_ok X M (T.says.fact 28 rfl)
theorem g_told_loss (T : Txt K) (X : K.In h) (M : h.Ns mainGlobals mg) : mg "told_loss" = some (.ref (He.ga K "told_loss")) := He.glo_ok X M (T.says.fact 29 rfl)
theorem g_cut_round (T : Txt K) (X : K.In h) (M : h.Ns mainGlobals mg) : mg "cut_round" = some (.ref (He.ga K "cut_round")) := He.glo_ok X M (T.says.fact 30 rfl)
theorem g_look_round (T : Txt K) (X : K.In h) (M : h.Ns mainGlobals mg) : mg "look_round" = some (.ref (He.ga K "look_round")) := He.glo_ok X M (T.says.fact 31 rfl)
theorem g_give_back (T : Txt K) (X : K.In h) (M : h.Ns mainGlobals mg) : mg "give_back" = some (.ref (He.ga K "give_back")) := He.glo_ok X M (T.says.fact 32 rfl)
theorem g_step (T : Txt K) (X : K.In h) (M : h.Ns mainGlobals mg) : mg "step" = some (.ref (He.ga K "step")) := He.glo_ok X M (T.says.fact 33 rfl)
theorem g_refusal (T : Txt K) (X : K.In h) (M : h.Ns mainGlobals mg) : mg "refusal" = some (.ref (He.ga K "refusal")) := He.glo_ok X M (T.says.fact 34 rfl)
theorem g_deed_tried (T : Txt K) (X : K.In h) (M : h.Ns mainGlobals mg) : mg "deed_tried" = some (.ref (He.ga K "deed_tried")) := He.glo_ok X M (T.says.fact 35 rfl)
theorem g_tried (T : Txt K) (X : K.In h) (M : h.Ns mainGlobals mg) : mg "tried" = some (.ref (He.ga K "tried")) := He.glo_ok X M (T.says.fact 36 rfl)
theorem g_is_lost (T : Txt K) (X : K.In h) (M : h.Ns mainGlobals mg) : mg "is_lost" = some (.ref (He.ga K "is_lost")) := He.glo_ok X M (T.says.fact 37 rfl)
theorem g_run (T : Txt K) (X : K.In h) (M : h.Ns mainGlobals mg) : mg "run" = some (.ref (He.ga K "run")) := He.glo_ok X M (T.says.fact 38 rfl)
theorem g__law_cell (T : Txt K) (X : K.In h) (M : h.Ns mainGlobals mg) : mg "_law_cell" = some (.ref (He.ga K "_law_cell")) := He.glo_ok X M (T.says.fact 39 rfl)
theorem g__law_draw (T : Txt K) (X : K.In h) (M : h.Ns mainGlobals mg) : mg "_law_draw" = some (.ref (He.ga K "_law_draw")) := He.glo_ok X M (T.says.fact 40 rfl)
theorem g__law_hands (T : Txt K) (X : K.In h) (M : h.Ns mainGlobals mg) : mg "_law_hands" = some (.ref (He.ga K "_law_hands")) := He.glo_ok X M (T.says.fact 41 rfl)
theorem g__law_room (T : Txt K) (X : K.In h) (M : h.Ns mainGlobals mg) : mg "_law_room" = some (.ref (He.ga K "_law_room")) := He.glo_ok X M (T.says.fact 42 rfl)
theorem g__law_slot (T : Txt K) (X : K.In h) (M : h.Ns mainGlobals mg) : mg "_law_slot" = some (.ref (He.ga K "_law_slot")) := He.glo_ok X M (T.says.fact 43 rfl)
theorem g__law_word (T : Txt K) (X : K.In h) (M : h.Ns mainGlobals mg) : mg "_law_word" = some (.ref (He.ga K "_law_word")) := He.glo_ok X M (T.says.fact 44 rfl)
theorem g__law_make (T : Txt K) (X : K.In h) (M : h.Ns mainGlobals mg) : mg "_law_make" = some (.ref (He.ga K "_law_make")) := He.glo_ok X M (T.says.fact 45 rfl)
theorem g__law_steps (T : Txt K) (X : K.In h) (M : h.Ns mainGlobals mg) : mg "_law_steps" = some (.ref (He.ga K "_law_steps")) := He.glo_ok X M (T.says.fact 46 rfl)
theorem g__law_other (T : Txt K) (X : K.In h) (M : h.Ns mainGlobals mg) : mg "_law_other" = some (.ref (He.ga K "_law_other")) := He.glo_ok X M (T.says.fact 47 rfl)
theorem g__law_row (T : Txt K) (X : K.In h) (M : h.Ns mainGlobals mg) : mg "_law_row" = some (.ref (He.ga K "_law_row")) := He.glo_ok X M (T.says.fact 48 rfl)
theorem g__law_rows (T : Txt K) (X : K.In h) (M : h.Ns mainGlobals mg) : mg "_law_rows" = some (.ref (He.ga K "_law_rows")) := He.glo_ok X M (T.says.fact 49 rfl)
theorem g__law_kind (T : Txt K) (X : K.In h) (M : h.Ns mainGlobals mg) : mg "_law_kind" = some (.ref (He.ga K "_law_kind")) := He.glo_ok X M (T.says.fact 50 rfl)
theorem g__law_whole (T : Txt K) (X : K.In h) (M : h.Ns mainGlobals mg) : mg "_law_whole" = some (.ref (He.ga K "_law_whole")) := He.glo_ok X M (T.says.fact 51 rfl)
theorem g__law_reach (T : Txt K) (X : K.In h) (M : h.Ns mainGlobals mg) : mg "_law_reach" = some (.ref (He.ga K "_law_reach")) := He.glo_ok X M (T.says.fact 52 rfl)
theorem g__law_inner (T : Txt K) (X : K.In h) (M : h.Ns mainGlobals mg) : mg "_law_inner" = some (.ref (He.ga K "_law_inner")) := He.glo_ok X M (T.says.fact 53 rfl)
theorem g__law_dealt (T : Txt K) (X : K.In h) (M : h.Ns mainGlobals mg) : mg "_law_dealt" = some (.ref (He.ga K "_law_dealt")) := He.glo_ok X M (T.says.fact 54 rfl)
theorem g__law_cut (T : Txt K) (X : K.In h) (M : h.Ns mainGlobals mg) : mg "_law_cut" = some (.ref (He.ga K "_law_cut")) := He.glo_ok X M (T.says.fact 55 rfl)
theorem g__law_stepped (T : Txt K) (X : K.In h) (M : h.Ns mainGlobals mg) : mg "_law_stepped" = some (.ref (He.ga K "_law_stepped")) := He.glo_ok X M (T.says.fact 56 rfl)
theorem g__law_event (T : Txt K) (X : K.In h) (M : h.Ns mainGlobals mg) : mg "_law_event" = some (.ref (He.ga K "_law_event")) := He.glo_ok X M (T.says.fact 57 rfl)
theorem g__law_followed (T : Txt K) (X : K.In h) (M : h.Ns mainGlobals mg) : mg "_law_followed" = some (.ref (He.ga K "_law_followed")) := He.glo_ok X M (T.says.fact 58 rfl)
theorem g_law (T : Txt K) (X : K.In h) (M : h.Ns mainGlobals mg) : mg "law" = some (.ref (He.ga K "law")) := He.glo_ok X M (T.says.fact 59 rfl)
theorem g_Cell (T : Txt K) (X : K.In h) (M : h.Ns mainGlobals mg) : mg "Cell" = some (.ref (He.ga K "Cell")) := He.glo_ok X M (T.says.fact 60 rfl)
theorem g_Heap (T : Txt K) (X : K.In h) (M : h.Ns mainGlobals mg) : mg "Heap" = some (.ref (He.ga K "Heap")) := He.glo_ok X M (T.says.fact 61 rfl)
theorem g_First (T : Txt K) (X : K.In h) (M : h.Ns mainGlobals mg) : mg "First" = some (.ref (He.ga K "First")) := He.glo_ok X M (T.says.fact 62 rfl)
theorem g_Each (T : Txt K) (X : K.In h) (M : h.Ns mainGlobals mg) : mg "Each" = some (.ref (He.ga K "Each")) := He.glo_ok X M (T.says.fact 63 rfl)
theorem g_Last (T : Txt K) (X : K.In h) (M : h.Ns mainGlobals mg) : mg "Last" = some (.ref (He.ga K "Last")) := He.glo_ok X M (T.says.fact 64 rfl)
theorem g_Kind (T : Txt K) (X : K.In h) (M : h.Ns mainGlobals mg) : mg "Kind" = some (.ref (He.ga K "Kind")) := He.glo_ok X M (T.says.fact 65 rfl)
theorem g_Hand (T : Txt K) (X : K.In h) (M : h.Ns mainGlobals mg) : mg "Hand" = some (.ref (He.ga K "Hand")) := He.glo_ok X M (T.says.fact 66 rfl)
theorem g_Sweeper (T : Txt K) (X : K.In h) (M : h.Ns mainGlobals mg) : mg "Sweeper" = some (.ref (He.ga K "Sweeper")) := He.glo_ok X M (T.says.fact 67 rfl)
theorem g_World (T : Txt K) (X : K.In h) (M : h.Ns mainGlobals mg) : mg "World" = some (.ref (He.ga K "World")) := He.glo_ok X M (T.says.fact 68 rfl)
theorem g_Scene (T : Txt K) (X : K.In h) (M : h.Ns mainGlobals mg) : mg "Scene" = some (.ref (He.ga K "Scene")) := He.glo_ok X M (T.says.fact 69 rfl)
theorem g_EmptySlot (T : Txt K) (X : K.In h) (M : h.Ns mainGlobals mg) : mg "EmptySlot" = some (.ref (He.ga K "EmptySlot")) := He.glo_ok X M (T.says.fact 70 rfl)
theorem g_NoField (T : Txt K) (X : K.In h) (M : h.Ns mainGlobals mg) : mg "NoField" = some (.ref (He.ga K "NoField")) := He.glo_ok X M (T.says.fact 71 rfl)
theorem g_Full (T : Txt K) (X : K.In h) (M : h.Ns mainGlobals mg) : mg "Full" = some (.ref (He.ga K "Full")) := He.glo_ok X M (T.says.fact 72 rfl)
theorem g_NoName (T : Txt K) (X : K.In h) (M : h.Ns mainGlobals mg) : mg "NoName" = some (.ref (He.ga K "NoName")) := He.glo_ok X M (T.says.fact 73 rfl)
theorem fr_len (T : Txt K) (X : K.In h) (M : h.Ns mainGlobals mg) : mg "len" = none := He.free_ok X M (T.says.fact 74 rfl)
theorem fr_enumerate (T : Txt K) (X : K.In h) (M : h.Ns mainGlobals mg) : mg "enumerate" = none := He.free_ok X M (T.says.fact 75 rfl)
theorem fr_range (T : Txt K) (X : K.In h) (M : h.Ns mainGlobals mg) : mg "range" = none := He.free_ok X M (T.says.fact 76 rfl)
theorem fr_isinstance (T : Txt K) (X : K.In h) (M : h.Ns mainGlobals mg) : mg "isinstance" = none := He.free_ok X M (T.says.fact 77 rfl)
theorem fr_list (T : Txt K) (X : K.In h) (M : h.Ns mainGlobals mg) : mg "list" = none := He.free_ok X M (T.says.fact 78 rfl)
theorem fr_tuple (T : Txt K) (X : K.In h) (M : h.Ns mainGlobals mg) : mg "tuple" = none := He.free_ok X M (T.says.fact 79 rfl)
theorem fr_int (T : Txt K) (X : K.In h) (M : h.Ns mainGlobals mg) : mg "int" = none := He.free_ok X M (T.says.fact 80 rfl)
theorem fr_bool (T : Txt K) (X : K.In h) (M : h.Ns mainGlobals mg) : mg "bool" = none := He.free_ok X M (T.says.fact 81 rfl)
theorem fr_str (T : Txt K) (X : K.In h) (M : h.Ns mainGlobals mg) : mg "str" = none := He.free_ok X M (T.says.fact 82 rfl)
theorem fr_dict (T : Txt K) (X : K.In h) (M : h.Ns mainGlobals mg) : mg "dict" = none := He.free_ok X M (T.says.fact 83 rfl)
theorem fr_zip (T : Txt K) (X : K.In h) (M : h.Ns mainGlobals mg) : mg "zip" = none := He.free_ok X M (T.says.fact 84 rfl)
theorem i_OLD (T : Txt K) (X : K.In h) (M : h.Ns mainGlobals mg) : ∃ t, mg "OLD" = some (.int 1 t) := He.int_ok X M (T.says.fact 85 rfl)
theorem i_NEW (T : Txt K) (X : K.In h) (M : h.Ns mainGlobals mg) : ∃ t, mg "NEW" = some (.int 2 t) := He.int_ok X M (T.says.fact 86 rfl)
theorem cls_Cell (T : Txt K) : Cls K (He.ga K "Cell") := He.cls_ok (T.says.fact 87 rfl)
theorem cls_Heap (T : Txt K) : Cls K (He.ga K "Heap") := He.cls_ok (T.says.fact 88 rfl)
theorem cls_First (T : Txt K) : Cls K (He.ga K "First") := He.cls_ok (T.says.fact 89 rfl)
theorem cls_Each (T : Txt K) : Cls K (He.ga K "Each") := He.cls_ok (T.says.fact 90 rfl)
theorem cls_Last (T : Txt K) : Cls K (He.ga K "Last") := He.cls_ok (T.says.fact 91 rfl)
theorem cls_Kind (T : Txt K) : Cls K (He.ga K "Kind") := He.cls_ok (T.says.fact 92 rfl)
theorem cls_Hand (T : Txt K) : Cls K (He.ga K "Hand") := He.cls_ok (T.says.fact 93 rfl)
theorem cls_Sweeper (T : Txt K) : Cls K (He.ga K "Sweeper") := He.cls_ok (T.says.fact 94 rfl)
theorem cls_World (T : Txt K) : Cls K (He.ga K "World") := He.cls_ok (T.says.fact 95 rfl)
theorem cls_Scene (T : Txt K) : Cls K (He.ga K "Scene") := He.cls_ok (T.says.fact 96 rfl)
theorem na_Cell_birth (T : Txt K) : NoAttr K (He.ga K "Cell") "birth" := He.noat_ok (T.says.fact 97 rfl)
theorem na_Cell_bulk (T : Txt K) : NoAttr K (He.ga K "Cell") "bulk" := He.noat_ok (T.says.fact 98 rfl)
theorem na_Cell_tone (T : Txt K) : NoAttr K (He.ga K "Cell") "tone" := He.noat_ok (T.says.fact 99 rfl)
theorem na_Cell_load (T : Txt K) : NoAttr K (He.ga K "Cell") "load" := He.noat_ok (T.says.fact 100 rfl)
theorem na_Cell_fields (T : Txt K) : NoAttr K (He.ga K "Cell") "fields" := He.noat_ok (T.says.fact 101 rfl)
theorem na_Heap_room (T : Txt K) : NoAttr K (He.ga K "Heap") "room" := He.noat_ok (T.says.fact 102 rfl)
theorem na_Heap_cells (T : Txt K) : NoAttr K (He.ga K "Heap") "cells" := He.noat_ok (T.says.fact 103 rfl)
theorem na_Heap_used (T : Txt K) : NoAttr K (He.ga K "Heap") "used" := He.noat_ok (T.says.fact 104 rfl)
theorem na_Heap_born (T : Txt K) : NoAttr K (He.ga K "Heap") "born" := He.noat_ok (T.says.fact 105 rfl)
theorem na_Kind_looking (T : Txt K) : NoAttr K (He.ga K "Kind") "looking" := He.noat_ok (T.says.fact 106 rfl)
theorem na_Kind_tells (T : Txt K) : NoAttr K (He.ga K "Kind") "tells" := He.noat_ok (T.says.fact 107 rfl)
theorem na_Hand_name (T : Txt K) : NoAttr K (He.ga K "Hand") "name" := He.noat_ok (T.says.fact 108 rfl)
theorem na_Hand_slots (T : Txt K) : NoAttr K (He.ga K "Hand") "slots" := He.noat_ok (T.says.fact 109 rfl)
theorem na_Sweeper_sense (T : Txt K) : NoAttr K (He.ga K "Sweeper") "sense" := He.noat_ok (T.says.fact 110 rfl)
theorem na_Sweeper_phase (T : Txt K) : NoAttr K (He.ga K "Sweeper") "phase" := He.noat_ok (T.says.fact 111 rfl)
theorem na_Sweeper_grey (T : Txt K) : NoAttr K (He.ga K "Sweeper") "grey" := He.noat_ok (T.says.fact 112 rfl)
theorem na_Sweeper_looked (T : Txt K) : NoAttr K (He.ga K "Sweeper") "looked" := He.noat_ok (T.says.fact 113 rfl)
theorem na_Sweeper_turn (T : Txt K) : NoAttr K (He.ga K "Sweeper") "turn" := He.noat_ok (T.says.fact 114 rfl)
theorem na_Sweeper_at (T : Txt K) : NoAttr K (He.ga K "Sweeper") "at" := He.noat_ok (T.says.fact 115 rfl)
theorem na_Sweeper_stop (T : Txt K) : NoAttr K (He.ga K "Sweeper") "stop" := He.noat_ok (T.says.fact 116 rfl)
theorem na_Sweeper_walks (T : Txt K) : NoAttr K (He.ga K "Sweeper") "walks" := He.noat_ok (T.says.fact 117 rfl)
theorem na_Sweeper_looks (T : Txt K) : NoAttr K (He.ga K "Sweeper") "looks" := He.noat_ok (T.says.fact 118 rfl)
theorem na_Sweeper_passes (T : Txt K) : NoAttr K (He.ga K "Sweeper") "passes" := He.noat_ok (T.says.fact 119 rfl)
theorem na_Sweeper_loss (T : Txt K) : NoAttr K (He.ga K "Sweeper") "loss" := He.noat_ok (T.says.fact 120 rfl)
theorem na_World_heap (T : Txt K) : NoAttr K (He.ga K "World") "heap" := He.noat_ok (T.says.fact 121 rfl)
theorem na_World_kind (T : Txt K) : NoAttr K (He.ga K "World") "kind" := He.noat_ok (T.says.fact 122 rfl)
theorem na_World_hands (T : Txt K) : NoAttr K (He.ga K "World") "hands" := He.noat_ok (T.says.fact 123 rfl)
theorem na_World_names (T : Txt K) : NoAttr K (He.ga K "World") "names" := He.noat_ok (T.says.fact 124 rfl)
theorem na_World_sweeper (T : Txt K) : NoAttr K (He.ga K "World") "sweeper" := He.noat_ok (T.says.fact 125 rfl)
theorem na_Scene_room (T : Txt K) : NoAttr K (He.ga K "Scene") "room" := He.noat_ok (T.says.fact 126 rfl)
theorem na_Scene_kind (T : Txt K) : NoAttr K (He.ga K "Scene") "kind" := He.noat_ok (T.says.fact 127 rfl)
theorem na_Scene_hands (T : Txt K) : NoAttr K (He.ga K "Scene") "hands" := He.noat_ok (T.says.fact 128 rfl)
theorem na_Scene_rows (T : Txt K) : NoAttr K (He.ga K "Scene") "rows" := He.noat_ok (T.says.fact 129 rfl)
theorem mt_Cell_units (T : Txt K) : Meth K (He.ga K "Cell") "units" (He.ma K (He.ga K "Cell") "units") := He.meth_ok (T.says.fact 130 rfl)
theorem mt_Heap_least_place (T : Txt K) : Meth K (He.ga K "Heap") "least_place" (He.ma K (He.ga K "Heap") "least_place") := He.meth_ok (T.says.fact 131 rfl)
theorem mt_Heap_make (T : Txt K) : Meth K (He.ga K "Heap") "make" (He.ma K (He.ga K "Heap") "make") := He.meth_ok (T.says.fact 132 rfl)
theorem mt_Heap_back (T : Txt K) : Meth K (He.ga K "Heap") "back" (He.ma K (He.ga K "Heap") "back") := He.meth_ok (T.says.fact 133 rfl)
theorem mt_Heap_there (T : Txt K) : Meth K (He.ga K "Heap") "there" (He.ma K (He.ga K "Heap") "there") := He.meth_ok (T.says.fact 134 rfl)
theorem mt_First_at_begin (T : Txt K) : Meth K (He.ga K "First") "at_begin" (He.ma K (He.ga K "First") "at_begin") := He.meth_ok (T.says.fact 135 rfl)
theorem mt_First_next_look (T : Txt K) : Meth K (He.ga K "First") "next_look" (He.ma K (He.ga K "First") "next_look") := He.meth_ok (T.says.fact 136 rfl)
theorem mt_First_stays (T : Txt K) : Meth K (He.ga K "First") "stays" (He.ma K (He.ga K "First") "stays") := He.meth_ok (T.says.fact 137 rfl)
theorem mt_Each_at_begin (T : Txt K) : Meth K (He.ga K "Each") "at_begin" (He.ma K (He.ga K "Each") "at_begin") := He.meth_ok (T.says.fact 138 rfl)
theorem mt_Each_next_look (T : Txt K) : Meth K (He.ga K "Each") "next_look" (He.ma K (He.ga K "Each") "next_look") := He.meth_ok (T.says.fact 139 rfl)
theorem mt_Each_stays (T : Txt K) : Meth K (He.ga K "Each") "stays" (He.ma K (He.ga K "Each") "stays") := He.meth_ok (T.says.fact 140 rfl)
theorem mt_Last_at_begin (T : Txt K) : Meth K (He.ga K "Last") "at_begin" (He.ma K (He.ga K "Last") "at_begin") := He.meth_ok (T.says.fact 141 rfl)
theorem mt_Last_next_look (T : Txt K) : Meth K (He.ga K "Last") "next_look" (He.ma K (He.ga K "Last") "next_look") := He.meth_ok (T.says.fact 142 rfl)
theorem mt_Last_stays (T : Txt K) : Meth K (He.ga K "Last") "stays" (He.ma K (He.ga K "Last") "stays") := He.meth_ok (T.says.fact 143 rfl)
theorem mk_Cell (T : Txt K) : Mk K (He.ga K "Cell") (He.ma K (He.ga K "Cell") "__init__") := He.mkr_ok (T.says.fact 144 rfl)
theorem mk_Heap (T : Txt K) : Mk K (He.ga K "Heap") (He.ma K (He.ga K "Heap") "__init__") := He.mkr_ok (T.says.fact 145 rfl)
theorem mk_Kind (T : Txt K) : Mk K (He.ga K "Kind") (He.ma K (He.ga K "Kind") "__init__") := He.mkr_ok (T.says.fact 146 rfl)
theorem mk_Hand (T : Txt K) : Mk K (He.ga K "Hand") (He.ma K (He.ga K "Hand") "__init__") := He.mkr_ok (T.says.fact 147 rfl)
theorem mk_Sweeper (T : Txt K) : Mk K (He.ga K "Sweeper") (He.ma K (He.ga K "Sweeper") "__init__") := He.mkr_ok (T.says.fact 148 rfl)
theorem mk_World (T : Txt K) : Mk K (He.ga K "World") (He.ma K (He.ga K "World") "__init__") := He.mkr_ok (T.says.fact 149 rfl)
theorem mk_Scene (T : Txt K) : Mk K (He.ga K "Scene") (He.ma K (He.ga K "Scene") "__init__") := He.mkr_ok (T.says.fact 150 rfl)
theorem ex_EmptySlot (T : Txt K) : PySem.W.excIn K (He.ga K "EmptySlot") He.veBase "ValueError.__new__" = true ∧ PySem.W.keepIn K (.ref (He.ga K "EmptySlot")) = true ∧ PySem.W.subIn K (.ref (He.ga K "EmptySlot")) (.type "BaseException") = some true ∧ PySem.W.typeIn K (.ref (He.ga K "EmptySlot")) = some (.type "type") := He.exc_ok (T.says.fact 151 rfl)
theorem ex_NoField (T : Txt K) : PySem.W.excIn K (He.ga K "NoField") He.veBase "ValueError.__new__" = true ∧ PySem.W.keepIn K (.ref (He.ga K "NoField")) = true ∧ PySem.W.subIn K (.ref (He.ga K "NoField")) (.type "BaseException") = some true ∧ PySem.W.typeIn K (.ref (He.ga K "NoField")) = some (.type "type") := He.exc_ok (T.says.fact 152 rfl)
theorem ex_Full (T : Txt K) : PySem.W.excIn K (He.ga K "Full") He.veBase "ValueError.__new__" = true ∧ PySem.W.keepIn K (.ref (He.ga K "Full")) = true ∧ PySem.W.subIn K (.ref (He.ga K "Full")) (.type "BaseException") = some true ∧ PySem.W.typeIn K (.ref (He.ga K "Full")) = some (.type "type") := He.exc_ok (T.says.fact 153 rfl)
theorem ex_NoName (T : Txt K) : PySem.W.excIn K (He.ga K "NoName") He.veBase "ValueError.__new__" = true ∧ PySem.W.keepIn K (.ref (He.ga K "NoName")) = true ∧ PySem.W.subIn K (.ref (He.ga K "NoName")) (.type "BaseException") = some true ∧ PySem.W.typeIn K (.ref (He.ga K "NoName")) = some (.type "type") := He.exc_ok (T.says.fact 154 rfl)
theorem exm_EmptySlot_EmptySlot (T : Txt K) : PySem.W.exmOne K (.ref (He.ga K "EmptySlot")) (.ref (He.ga K "EmptySlot")) = some true := He.exm_ok (T.says.fact 155 rfl)
theorem exm_NoField_EmptySlot (T : Txt K) : PySem.W.exmOne K (.ref (He.ga K "NoField")) (.ref (He.ga K "EmptySlot")) = some false := He.exm_ok (T.says.fact 156 rfl)
theorem exm_NoField_NoField (T : Txt K) : PySem.W.exmOne K (.ref (He.ga K "NoField")) (.ref (He.ga K "NoField")) = some true := He.exm_ok (T.says.fact 157 rfl)
theorem exm_Full_EmptySlot (T : Txt K) : PySem.W.exmOne K (.ref (He.ga K "Full")) (.ref (He.ga K "EmptySlot")) = some false := He.exm_ok (T.says.fact 158 rfl)
theorem exm_Full_NoField (T : Txt K) : PySem.W.exmOne K (.ref (He.ga K "Full")) (.ref (He.ga K "NoField")) = some false := He.exm_ok (T.says.fact 159 rfl)
theorem exm_Full_Full (T : Txt K) : PySem.W.exmOne K (.ref (He.ga K "Full")) (.ref (He.ga K "Full")) = some true := He.exm_ok (T.says.fact 160 rfl)
theorem exm_NoName_EmptySlot (T : Txt K) : PySem.W.exmOne K (.ref (He.ga K "NoName")) (.ref (He.ga K "EmptySlot")) = some false := He.exm_ok (T.says.fact 161 rfl)
theorem exm_NoName_NoField (T : Txt K) : PySem.W.exmOne K (.ref (He.ga K "NoName")) (.ref (He.ga K "NoField")) = some false := He.exm_ok (T.says.fact 162 rfl)
theorem exm_NoName_Full (T : Txt K) : PySem.W.exmOne K (.ref (He.ga K "NoName")) (.ref (He.ga K "Full")) = some false := He.exm_ok (T.says.fact 163 rfl)
theorem exm_NoName_NoName (T : Txt K) : PySem.W.exmOne K (.ref (He.ga K "NoName")) (.ref (He.ga K "NoName")) = some true := He.exm_ok (T.says.fact 164 rfl)
theorem kp_First (T : Txt K) : PySem.W.keepIn K (.ref (He.ga K "First")) = true := He.keep_ok (T.says.fact 165 rfl)
theorem kp_Each (T : Txt K) : PySem.W.keepIn K (.ref (He.ga K "Each")) = true := He.keep_ok (T.says.fact 166 rfl)
theorem kp_Last (T : Txt K) : PySem.W.keepIn K (.ref (He.ga K "Last")) = true := He.keep_ok (T.says.fact 167 rfl)
end
theorem ni_First (T : Txt K) : noInit K "First" = true := (He.ba T.ex).1
theorem ni_Each (T : Txt K) : noInit K "Each" = true := (He.ba (He.ba T.ex).2).1
theorem ni_Last (T : Txt K) : noInit K "Last" = true := (He.ba (He.ba T.ex).2).2
end Txt
/-- what stands behind the top: the facts, and that the module's names are so -/
structure CtxG (K : PySem.W.Frag) (mg : Str → Option Value) : Prop where
  T : Txt K
  ex : ∃ h : Heap, K.In h ∧ h.Ns mainGlobals mg
namespace CtxG
variable {K : PySem.W.Frag} {mg : Str → Option Value}
theorem g_birth_at (C : CtxG K mg) : mg "birth_at" = some (.ref (He.fAd K d_birth_at.at_)) := let ⟨_, X, M⟩ := C.ex; C.T.g_birth_at X M
theorem g_held (C : CtxG K mg) : mg "held" = some (.ref (He.fAd K d_held.at_)) := let ⟨_, X, M⟩ := C.ex; C.T.g_held X M
theorem g_looked_at (C : CtxG K mg) : mg "looked_at" = some (.ref (He.fAd K d_looked_at.at_)) := let ⟨_, X, M⟩ := C.ex; C.T.g_looked_at X M
theorem g_begin (C : CtxG K mg) : mg "begin" = some (.ref (He.fAd K d_begin.at_)) := let ⟨_, X, M⟩ := C.ex; C.T.g_begin X M
theorem g_note (C : CtxG K mg) : mg "note" = some (.ref (He.fAd K d_note.at_)) := let ⟨_, X, M⟩ := C.ex; C.T.g_note X M
theorem g_noted (C : CtxG K mg) : mg "noted" = some (.ref (He.fAd K d_noted.at_)) := let ⟨_, X, M⟩ := C.ex; C.T.g_noted X M
theorem g_gone (C : CtxG K mg) : mg "gone" = some (.ref (He.fAd K d_gone.at_)) := let ⟨_, X, M⟩ := C.ex; C.T.g_gone X M
theorem g_stays_named (C : CtxG K mg) : mg "stays_named" = some (.ref (He.fAd K d_stays_named.at_)) := let ⟨_, X, M⟩ := C.ex; C.T.g_stays_named X M
theorem g_roots (C : CtxG K mg) : mg "roots" = some (.ref (He.fAd K d_roots.at_)) := let ⟨_, X, M⟩ := C.ex; C.T.g_roots X M
theorem g_cell_in (C : CtxG K mg) : mg "cell_in" = some (.ref (He.fAd K d_cell_in.at_)) := let ⟨_, X, M⟩ := C.ex; C.T.g_cell_in X M
theorem g_cell_with (C : CtxG K mg) : mg "cell_with" = some (.ref (He.fAd K d_cell_with.at_)) := let ⟨_, X, M⟩ := C.ex; C.T.g_cell_with X M
theorem g_hears_new (C : CtxG K mg) : mg "hears_new" = some (.ref (He.fAd K d_hears_new.at_)) := let ⟨_, X, M⟩ := C.ex; C.T.g_hears_new X M
theorem g_fill (C : CtxG K mg) : mg "fill" = some (.ref (He.fAd K d_fill.at_)) := let ⟨_, X, M⟩ := C.ex; C.T.g_fill X M
theorem g_make_cell (C : CtxG K mg) : mg "make_cell" = some (.ref (He.fAd K d_make_cell.at_)) := let ⟨_, X, M⟩ := C.ex; C.T.g_make_cell X M
theorem g_get_field (C : CtxG K mg) : mg "get_field" = some (.ref (He.fAd K d_get_field.at_)) := let ⟨_, X, M⟩ := C.ex; C.T.g_get_field X M
theorem g_put_in (C : CtxG K mg) : mg "put_in" = some (.ref (He.fAd K d_put_in.at_)) := let ⟨_, X, M⟩ := C.ex; C.T.g_put_in X M
theorem g_drop_slot (C : CtxG K mg) : mg "drop_slot" = some (.ref (He.fAd K d_drop_slot.at_)) := let ⟨_, X, M⟩ := C.ex; C.T.g_drop_slot X M
theorem g_give_to (C : CtxG K mg) : mg "give_to" = some (.ref (He.fAd K d_give_to.at_)) := let ⟨_, X, M⟩ := C.ex; C.T.g_give_to X M
theorem g_write_load (C : CtxG K mg) : mg "write_load" = some (.ref (He.fAd K d_write_load.at_)) := let ⟨_, X, M⟩ := C.ex; C.T.g_write_load X M
theorem g_name_cell (C : CtxG K mg) : mg "name_cell" = some (.ref (He.fAd K d_name_cell.at_)) := let ⟨_, X, M⟩ := C.ex; C.T.g_name_cell X M
theorem g_seek_name (C : CtxG K mg) : mg "seek_name" = some (.ref (He.fAd K d_seek_name.at_)) := let ⟨_, X, M⟩ := C.ex; C.T.g_seek_name X M
theorem g_do (C : CtxG K mg) : mg "do" = some (.ref (He.fAd K d_do.at_)) := let ⟨_, X, M⟩ := C.ex; C.T.g_do X M
theorem g_world_of (C : CtxG K mg) : mg "world_of" = some (.ref (He.fAd K d_world_of.at_)) := let ⟨_, X, M⟩ := C.ex; C.T.g_world_of X M
theorem g_ways_on (C : CtxG K mg) : mg "ways_on" = some (.ref (He.fAd K d_ways_on.at_)) := let ⟨_, X, M⟩ := C.ex; C.T.g_ways_on X M
theorem g_reached (C : CtxG K mg) : mg "reached" = some (.ref (He.fAd K d_reached.at_)) := let ⟨_, X, M⟩ := C.ex; C.T.g_reached X M
theorem g_note_hands (C : CtxG K mg) : mg "note_hands" = some (.ref (He.fAd K d_note_hands.at_)) := let ⟨_, X, M⟩ := C.ex; C.T.g_note_hands X M
theorem g_begin_round (C : CtxG K mg) : mg "begin_round" = some (.ref (He.fAd K d_begin_round.at_)) := let ⟨_, X, M⟩ := C.ex; C.T.g_begin_round X M
theorem g_walk_one (C : CtxG K mg) : mg "walk_one" = some (.ref (He.fAd K d_walk_one.at_)) := let ⟨_, X, M⟩ := C.ex; C.T.g_walk_one X M
theorem g_found_pale (C : CtxG K mg) : mg "found_pale" = some (.ref (He.fAd K d_found_pale.at_)) := let ⟨_, X, M⟩ := C.ex; C.T.g_found_pale X M
theorem g_told_loss (C : CtxG K mg) : mg "told_loss" = some (.ref (He.fAd K d_told_loss.at_)) := let ⟨_, X, M⟩ := C.ex; C.T.g_told_loss X M
theorem g_cut_round (C : CtxG K mg) : mg "cut_round" = some (.ref (He.fAd K d_cut_round.at_)) := let ⟨_, X, M⟩ := C.ex; C.T.g_cut_round X M
theorem g_look_round (C : CtxG K mg) : mg "look_round" = some (.ref (He.fAd K d_look_round.at_)) := let ⟨_, X, M⟩ := C.ex; C.T.g_look_round X M
theorem g_give_back (C : CtxG K mg) : mg "give_back" = some (.ref (He.fAd K d_give_back.at_)) := let ⟨_, X, M⟩ := C.ex; C.T.g_give_back X M
theorem g_step (C : CtxG K mg) : mg "step" = some (.ref (He.fAd K d_step.at_)) := let ⟨_, X, M⟩ := C.ex; C.T.g_step X M
theorem g_refusal (C : CtxG K mg) : mg "refusal" = some (.ref (He.fAd K d_refusal.at_)) := let ⟨_, X, M⟩ := C.ex; C.T.g_refusal X M
theorem g_deed_tried (C : CtxG K mg) : mg "deed_tried" = some (.ref (He.fAd K d_deed_tried.at_)) := let ⟨_, X, M⟩ := C.ex; C.T.g_deed_tried X M
theorem g_tried (C : CtxG K mg) : mg "tried" = some (.ref (He.fAd K d_tried.at_)) := let ⟨_, X, M⟩ := C.ex; C.T.g_tried X M
theorem g_is_lost (C : CtxG K mg) : mg "is_lost" = some (.ref (He.fAd K d_is_lost.at_)) := let ⟨_, X, M⟩ := C.ex; C.T.g_is_lost X M
theorem g_run (C : CtxG K mg) : mg "run" = some (.ref (He.fAd K d_run.at_)) := let ⟨_, X, M⟩ := C.ex; C.T.g_run X M
theorem g__law_cell (C : CtxG K mg) : mg "_law_cell" = some (.ref (He.fAd K d__law_cell.at_)) := let ⟨_, X, M⟩ := C.ex; C.T.g__law_cell X M
theorem g__law_draw (C : CtxG K mg) : mg "_law_draw" = some (.ref (He.fAd K d__law_draw.at_)) := let ⟨_, X, M⟩ := C.ex; C.T.g__law_draw X M
theorem g__law_hands (C : CtxG K mg) : mg "_law_hands" = some (.ref (He.fAd K d__law_hands.at_)) := let ⟨_, X, M⟩ := C.ex; C.T.g__law_hands X M
theorem g__law_room (C : CtxG K mg) : mg "_law_room" = some (.ref (He.fAd K d__law_room.at_)) := let ⟨_, X, M⟩ := C.ex; C.T.g__law_room X M
theorem g__law_slot (C : CtxG K mg) : mg "_law_slot" = some (.ref (He.fAd K d__law_slot.at_)) := let ⟨_, X, M⟩ := C.ex; C.T.g__law_slot X M
theorem g__law_word (C : CtxG K mg) : mg "_law_word" = some (.ref (He.fAd K d__law_word.at_)) := let ⟨_, X, M⟩ := C.ex; C.T.g__law_word X M
theorem g__law_make (C : CtxG K mg) : mg "_law_make" = some (.ref (He.fAd K d__law_make.at_)) := let ⟨_, X, M⟩ := C.ex; C.T.g__law_make X M
theorem g__law_steps (C : CtxG K mg) : mg "_law_steps" = some (.ref (He.fAd K d__law_steps.at_)) := let ⟨_, X, M⟩ := C.ex; C.T.g__law_steps X M
theorem g__law_other (C : CtxG K mg) : mg "_law_other" = some (.ref (He.fAd K d__law_other.at_)) := let ⟨_, X, M⟩ := C.ex; C.T.g__law_other X M
theorem g__law_row (C : CtxG K mg) : mg "_law_row" = some (.ref (He.fAd K d__law_row.at_)) := let ⟨_, X, M⟩ := C.ex; C.T.g__law_row X M
theorem g__law_rows (C : CtxG K mg) : mg "_law_rows" = some (.ref (He.fAd K d__law_rows.at_)) := let ⟨_, X, M⟩ := C.ex; C.T.g__law_rows X M
theorem g__law_kind (C : CtxG K mg) : mg "_law_kind" = some (.ref (He.fAd K d__law_kind.at_)) := let ⟨_, X, M⟩ := C.ex; C.T.g__law_kind X M
theorem g__law_whole (C : CtxG K mg) : mg "_law_whole" = some (.ref (He.fAd K d__law_whole.at_)) := let ⟨_, X, M⟩ := C.ex; C.T.g__law_whole X M
theorem g__law_reach (C : CtxG K mg) : mg "_law_reach" = some (.ref (He.fAd K d__law_reach.at_)) := let ⟨_, X, M⟩ := C.ex; C.T.g__law_reach X M
theorem g__law_inner (C : CtxG K mg) : mg "_law_inner" = some (.ref (He.fAd K d__law_inner.at_)) := let ⟨_, X, M⟩ := C.ex; C.T.g__law_inner X M
theorem g__law_dealt (C : CtxG K mg) : mg "_law_dealt" = some (.ref (He.fAd K d__law_dealt.at_)) := let ⟨_, X, M⟩ := C.ex; C.T.g__law_dealt X M
theorem g__law_cut (C : CtxG K mg) : mg "_law_cut" = some (.ref (He.fAd K d__law_cut.at_)) := let ⟨_, X, M⟩ := C.ex; C.T.g__law_cut X M
theorem g__law_stepped (C : CtxG K mg) : mg "_law_stepped" = some (.ref (He.fAd K d__law_stepped.at_)) := let ⟨_, X, M⟩ := C.ex; C.T.g__law_stepped X M
theorem g__law_event (C : CtxG K mg) : mg "_law_event" = some (.ref (He.fAd K d__law_event.at_)) := let ⟨_, X, M⟩ := C.ex; C.T.g__law_event X M
theorem g__law_followed (C : CtxG K mg) : mg "_law_followed" = some (.ref (He.fAd K d__law_followed.at_)) := let ⟨_, X, M⟩ := C.ex; C.T.g__law_followed X M
theorem g_law (C : CtxG K mg) : mg "law" = some (.ref (He.fAd K d_law.at_)) := let ⟨_, X, M⟩ := C.ex; C.T.g_law X M
theorem g_Cell (C : CtxG K mg) : mg "Cell" = some (.ref (He.ga K "Cell")) := let ⟨_, X, M⟩ := C.ex; C.T.g_Cell X M
theorem g_Heap (C : CtxG K mg) : mg "Heap" = some (.ref (He.ga K "Heap")) := let ⟨_, X, M⟩ := C.ex; C.T.g_Heap X M
theorem g_First (C : CtxG K mg) : mg "First" = some (.ref (He.ga K "First")) := let ⟨_, X, M⟩ := C.ex; C.T.g_First X M
theorem g_Each (C : CtxG K mg) : mg "Each" = some (.ref (He.ga K "Each")) := let ⟨_, X, M⟩ := C.ex; C.T.g_Each X M
theorem g_Last (C : CtxG K mg) : mg "Last" = some (.ref (He.ga K "Last")) := let ⟨_, X, M⟩ := C.ex; C.T.g_Last X M
theorem g_Kind (C : CtxG K mg) : mg "Kind" = some (.ref (He.ga K "Kind")) := let ⟨_, X, M⟩ := C.ex; C.T.g_Kind X M
theorem g_Hand (C : CtxG K mg) : mg "Hand" = some (.ref (He.ga K "Hand")) := let ⟨_, X, M⟩ := C.ex; C.T.g_Hand X M
theorem g_Sweeper (C : CtxG K mg) : mg "Sweeper" = some (.ref (He.ga K "Sweeper")) := let ⟨_, X, M⟩ := C.ex; C.T.g_Sweeper X M
theorem g_World (C : CtxG K mg) : mg "World" = some (.ref (He.ga K "World")) := let ⟨_, X, M⟩ := C.ex; C.T.g_World X M
theorem g_Scene (C : CtxG K mg) : mg "Scene" = some (.ref (He.ga K "Scene")) := let ⟨_, X, M⟩ := C.ex; C.T.g_Scene X M
theorem g_EmptySlot (C : CtxG K mg) : mg "EmptySlot" = some (.ref (He.ga K "EmptySlot")) := let ⟨_, X, M⟩ := C.ex; C.T.g_EmptySlot X M
theorem g_NoField (C : CtxG K mg) : mg "NoField" = some (.ref (He.ga K "NoField")) := let ⟨_, X, M⟩ := C.ex; C.T.g_NoField X M
theorem g_Full (C : CtxG K mg) : mg "Full" = some (.ref (He.ga K "Full")) := let ⟨_, X, M⟩ := C.ex; C.T.g_Full X M
theorem g_NoName (C : CtxG K mg) : mg "NoName" = some (.ref (He.ga K "NoName")) := let ⟨_, X, M⟩ := C.ex; C.T.g_NoName X M
theorem fr_len (C : CtxG K mg) : mg "len" = none := let ⟨_, X, M⟩ := C.ex; C.T.fr_len X M
theorem fr_enumerate (C : CtxG K mg) : mg "enumerate" = none := let ⟨_, X, M⟩ := C.ex; C.T.fr_enumerate X M
theorem fr_range (C : CtxG K mg) : mg "range" = none := let ⟨_, X, M⟩ := C.ex; C.T.fr_range X M
theorem fr_isinstance (C : CtxG K mg) : mg "isinstance" = none := let ⟨_, X, M⟩ := C.ex; C.T.fr_isinstance X M
theorem fr_list (C : CtxG K mg) : mg "list" = none := let ⟨_, X, M⟩ := C.ex; C.T.fr_list X M
theorem fr_tuple (C : CtxG K mg) : mg "tuple" = none := let ⟨_, X, M⟩ := C.ex; C.T.fr_tuple X M
theorem fr_int (C : CtxG K mg) : mg "int" = none := let ⟨_, X, M⟩ := C.ex; C.T.fr_int X M
theorem fr_bool (C : CtxG K mg) : mg "bool" = none := let ⟨_, X, M⟩ := C.ex; C.T.fr_bool X M
theorem fr_str (C : CtxG K mg) : mg "str" = none := let ⟨_, X, M⟩ := C.ex; C.T.fr_str X M
theorem fr_dict (C : CtxG K mg) : mg "dict" = none := let ⟨_, X, M⟩ := C.ex; C.T.fr_dict X M
theorem fr_zip (C : CtxG K mg) : mg "zip" = none := let ⟨_, X, M⟩ := C.ex; C.T.fr_zip X M
theorem i_OLD (C : CtxG K mg) : ∃ t, mg "OLD" = some (.int 1 t) := let ⟨_, X, M⟩ := C.ex; C.T.i_OLD X M
theorem i_NEW (C : CtxG K mg) : ∃ t, mg "NEW" = some (.int 2 t) := let ⟨_, X, M⟩ := C.ex; C.T.i_NEW X M
end CtxG
/-! ### the Hook -/
def refC (o : Obj) : List Addr := match o.data with
  | .func fd => He.refV fd.code ++ He.refV fd.defaults
  | _ => []
def refN (o : Obj) : List Addr := match o.data with
  | .cls cd => [cd.ns]
  | _ => []
def refE (o : Obj) : List Addr := match o.data with
  | .dict es _ => es.toList.flatMap fun e => He.refV e.val
  | _ => []
def ats (g : Addr → Option Obj) (f : Obj → List Addr) (as : List Addr) : List Addr := as.flatMap fun a => match g a with
  | some o => f o
  | none => []
def asX2 (g : Addr → Option Obj) (gl ns ms : List Addr) : List Addr := mainGlobals :: (gl ++ (ns ++ (ms ++ (ats g refC gl ++ ats g refC ms))))
def asX1 (g : Addr → Option Obj) (gl ns : List Addr) : List Addr := asX2 g gl ns (ats g refE ns)
def asX0 (g : Addr → Option Obj) (gl : List Addr) : List Addr := asX1 g gl (ats g refN gl)
/-- what the module's names reach: functions, classes, their methods, all their code and defaults -/
def asX (g : Addr → Option Obj) : List Addr := asX0 g (ats g refE [mainGlobals])
abbrev AlX : Type := He.AlD × Bool
def obX (g : Addr → Option Obj) : AlX := (He.obsD fa fn (He.frG g (asX g)), exB (He.frG g (asX g)))
def hk : PySem.W.Hook where
  α := AlX
  obs := fun s => obX s.heap.get?
  val := fun _ => (He.valD fn, true)
  says := fun _ h => ∃ K : PySem.W.Frag, K.In h ∧ Txt K
  of := fun _ _ e => ⟨_, He.frG_in, (Prod.mk.inj e).1, (Prod.mk.inj e).2⟩
  keeps := fun _ _ _ ⟨K, hK, c⟩ k => ⟨K, PySem.W.Frag.In.keeps hK k, c⟩
end G

namespace G
open PySem PySem.W PySem.Calls PyProof.Rows L2
def loose0 : List PySem.Str := ["_wall", "GreyError", "EmptySlot", "NoField", "Full", "NoName", "Cell", "Heap", "birth_at", "OLD", "NEW", "Looking", "First", "Each", "Last"]
def loose1 : List PySem.Str := ["Kind", "Hand", "Sweeper", "World", "held", "looked_at", "begin", "note", "noted", "gone", "stays_named", "roots", "cell_in", "cell_with", "hears_new"]
def loose2 : List PySem.Str := ["fill", "make_cell", "get_field", "put_in", "drop_slot", "give_to", "write_load", "name_cell", "seek_name", "do", "Scene", "world_of", "ways_on", "reached", "note_hands"]
def loose3 : List PySem.Str := ["begin_round", "walk_one", "found_pale", "told_loss", "cut_round", "look_round", "give_back", "step", "refusal", "deed_tried", "tried", "is_lost", "run", "_law_cell", "_law_draw"]
def loose4 : List PySem.Str := ["_law_hands", "_law_room", "_law_slot", "_law_word", "_law_make", "_law_steps", "_law_other", "_law_row", "_law_rows", "_law_kind", "_law_whole", "_law_reach", "_law_inner", "_law_dealt", "_law_cut"]
def loose5 : List PySem.Str := ["_law_stepped", "_law_event", "_law_followed"]
def loose : List PySem.Str := loose0 ++ (loose1 ++ (loose2 ++ (loose3 ++ (loose4 ++ (loose5)))))
abbrev R : PySem.W.OpenRow := PySem.W.OpenLaw.row PySem.Challenge.rw_greywalk_k45_whole_given_back
def ob (s : PySem.W.SharedT) : AlX := obX (HandSHeadRun.getT s)
theorem ob_eq (s : PySem.W.SharedT) : ob s = hk.obs s.abs := by
  have e : HandSHeadRun.getT s = s.abs.heap.get? := funext (HandSHeadRun.getT_eq s)
  unfold ob
  rw [e] <;> rfl
theorem run (w : World) : HandSHeadRun.RunEq R (PySem.W.view R.prog [88]) hk ob 8000 loose w := by
  intro os
  kernel_rfl
end G

/-! The mirror: the world's state, the law's state, what a step and a deed do. -/
namespace G
open PySem L2
/-! ### lists side by side -/
def All2 {α β : Type} (R : α → β → Prop) (xs : List α) (ys : List β) : Prop := xs.length = ys.length ∧ ∀ (i : Nat) (x : α) (y : β), xs[i]? = some x → ys[i]? = some y → R x y
/-! ### the world -/
inductive Role where
  | out | wo | ho | so | hl | cl | gl | no | ko | lo | nm
  | hand (i : Nat) | slots (i : Nat) | cell (p : Nat) | flds (p : Nat)
  deriving DecidableEq
structure CellD where
  ca : Addr
  fa : Addr
  birth : Int
  bulk : Int
  tone : Int
  load : Int
  fields : List (Option Nat)
structure HandD where
  ha : Addr
  sa : Addr
  name : Str
  slots : List (Option Nat)
structure NameD where
  word : Str
  ta : Addr
  place : Nat
  birth : Int
inductive LK where
  | first | each | last
inductive Phase where
  | rest | walk | give | lost
  deriving DecidableEq
structure WS where
  wo : Addr
  ho : Addr
  so : Addr
  hl : Addr
  cl : Addr
  gl : Addr
  no : Addr
  ko : Addr
  lo : Addr
  rl : Addr → Role
  room : Int
  used : Int
  born : Int
  cells : List (Option CellD)
  hands : List HandD
  names : List NameD
  lk : LK
  tells : Int
  sense : Int
  phase : Phase
  grey : List Nat
  looked : Int
  turn : Int
  at_ : Nat
  stop : Nat
  walks : Int
  looks : Int
  passes : Int
  loss : V
/-- an event: its word, its thing, its numbers -/
structure Ev where
  word : Str
  thing : V
  nums : List Int
inductive Row where
  | sweep (n : Nat)
  | make (h s many : Nat) (bulk : Int)
  | get (h s t f : Nat)
  | put (h t f s : Nat)
  | copy (h s t : Nat)
  | drop (h s : Nat)
  | give (h s g t : Nat)
  | write (h t : Nat) (load : Int)
  | read (h t : Nat)
  | name (h t : Nat) (word : Str)
  | seek (h s : Nat) (word : Str)
namespace WS
def cell (S : WS) (p : Nat) : Option CellD := (S.cells[p]?).join
def slot (S : WS) (h s : Nat) : Option (Option Nat) := (S.hands[h]?).bind fun d => d.slots[s]?
def setSlot (S : WS) (h s : Nat) (v : Option Nat) : WS := { S with hands := S.hands.modify h fun d => { d with slots := d.slots.set s v } }
def setCell (S : WS) (p : Nat) (c : CellD) : WS := { S with cells := S.cells.set p (some c) }
/-- note one place -/
def note (S : WS) (p : Option Nat) : WS × Option Int := match p with
  | none => (S, none)
  | some p => if S.phase = .walk then (match S.cell p with
    | some c => if c.tone = S.sense then (S, none) else ({ S with cells := S.cells.set p (some { c with tone := S.sense }), grey := S.grey ++ [p] }, some c.birth)
    | none => (S, none)) else (S, none)
def noted (S : WS) : List (Option Nat) → WS × List Int
  | [] => (S, [])
  | p :: r => ((noted (note S p).1 r).1, (note S p).2.toList ++ (noted (note S p).1 r).2)
def There (S : WS) (p : Nat) : Prop := ∃ c, S.cell p = some c
def At (S : WS) (p : Nat) (b : Int) : Prop := ∃ c, S.cell p = some c ∧ c.birth = b
def goneB (S : WS) (p : Nat) (b : Int) : Bool := match S.cell p with
  | none => true
  | some c => decide (c.birth ≠ b) || (decide (S.phase = .give) && decide (c.tone ≠ S.sense))
def staysB (S : WS) (p : Nat) (b : Int) : Bool := match S.cell p with
  | none => false
  | some c => !(S.goneB p b) && (if S.phase = .walk ∨ S.phase = .lost then decide (c.tone = S.sense) else true)
def heldRows (S : WS) : List (List (Option Nat)) := S.hands.map (·.slots)
def nameRow (S : WS) : List (Option Nat) := S.names.map fun n => if S.staysB n.place n.birth = true then some n.place else none
/-- a name stands for another cell from now on -/
def putName (S : WS) (n : NameD) (r : Addr → Role) : WS := { S with
  names := if S.names.any (fun m => decide (m.word = n.word)) = true then S.names.map (fun m => if m.word = n.word then n else m) else S.names ++ [n], rl := r }
def paleB (S : WS) : List Int := S.cells.filterMap fun o => o.bind fun c => if c.tone ≠ S.sense then some c.birth else none
def begun (S : WS) (gl : Addr) (r : Addr → Role) (lk : Int) : WS :=
  { S with sense := 1 - S.sense, turn := S.turn + 1, phase := .walk, grey := [], gl := gl, rl := r, looked := lk, walks := 0, looks := 0, passes := 0 }
end WS
/-- what can be come to from rows of places -/
inductive RchP (S : WS) (rows : List (List (Option Nat))) : Nat → Prop
  | root {r p} : r ∈ rows → some p ∈ r → S.There p → RchP S rows p
  | step {p c q} : RchP S rows p → S.cell p = some c → some q ∈ c.fields → S.There q → RchP S rows q
def FromSlots (S : WS) (L : List (Option Nat)) : Prop := ∀ x ∈ L, ∃ h ∈ S.hands, x ∈ h.slots
/-- the sweeper's step -/
inductive StepR : WS → Ev → WS → Prop
  | begin {S : WS} {L gl r lk} : S.phase = .rest → FromSlots S L → StepR S ⟨"begin", .int (S.turn + 1), ((S.begun gl r lk).noted L).2⟩ ((S.begun gl r lk).noted L).1
  | walk {S : WS} {p g c} : S.phase = .walk → S.grey = p :: g → S.cell p = some c →
      StepR S ⟨"walk", .int c.birth, (({ S with grey := g, walks := S.walks + 1 } : WS).noted c.fields).2⟩ (({ S with grey := g, walks := S.walks + 1 } : WS).noted c.fields).1
  | look {S : WS} {L b lk n} : S.phase = .walk → FromSlots S L → StepR S ⟨"look", .int b, (S.noted L).2⟩ { (S.noted L).1 with looks := n, looked := lk }
  | cut {S S1 : WS} {L} : S.phase = .walk → FromSlots S L → S1 = (S.noted L).1 → (∀ p c, RchP S1 (S1.heldRows ++ [S1.nameRow]) p → S1.cell p = some c → c.tone = S1.sense) →
      StepR S ⟨"cut", .int (S1.paleB.length : Nat), S1.paleB⟩ { S1 with at_ := 0, stop := S1.cells.length, loss := .non, phase := .give }
  | lost {S S' : WS} {b n} : S.phase = .walk → StepR S ⟨"lost", b, n⟩ S'
  | back {S : WS} {c u n} : S.phase = .give → S.at_ ≠ S.stop → S.cell S.at_ = some c → c.tone ≠ S.sense →
      StepR S ⟨"back", .int c.birth, [(S.at_ : Int)]⟩ { S with at_ := S.at_ + 1, passes := n, used := u, cells := S.cells.set S.at_ none }
  | pass {S : WS} {n} : S.phase = .give → S.at_ ≠ S.stop → (∀ c, S.cell S.at_ = some c → c.tone = S.sense) → StepR S ⟨"pass", .int (S.at_ : Int), []⟩ { S with at_ := S.at_ + 1, passes := n }
  | fin {S : WS} {ns} : S.phase = .give → S.at_ = S.stop → StepR S ⟨"end", .int S.turn, ns⟩ { S with phase := .rest }
/-- a hand's deed -/
inductive DealR : WS → Row → Ev → WS → Prop
  | made {S : WS} {h s many bulk p c cs u r v0} : S.slot h s = some v0 → c.birth = S.born + 1 → c.tone = S.sense → c.fields = List.replicate many none →
      ((p < S.cells.length ∧ S.cell p = none ∧ cs = S.cells.set p (some c)) ∨ (p = S.cells.length ∧ cs = S.cells ++ [some c])) →
      DealR S (.make h s many bulk) ⟨"made", .int (S.born + 1), []⟩ (({ S with cells := cs, used := u, born := S.born + 1, rl := r } : WS).setSlot h s (some p))
  | full {S : WS} {h s many bulk b n} : DealR S (.make h s many bulk) ⟨"refused", b, n⟩ S
  | got {S : WS} {h s t f p c v e} : S.slot h t = some (some p) → S.cell p = some c → c.fields[f]? = some v → DealR S (.get h s t f) e (S.setSlot h s v)
  | getNo {S : WS} {h s t f e} : (S.slot h t = some none ∨ ∃ p c, S.slot h t = some (some p) ∧ S.cell p = some c ∧ c.fields.length ≤ f) → DealR S (.get h s t f) e S
  | putIn {S S1 : WS} {h t f s p c c1 old new L e} : S.slot h t = some (some p) → S.cell p = some c → c.fields[f]? = some old → S.slot h s = some new → (∀ x ∈ L, x = old ∨ x = new) →
      S1 = (S.noted L).1 → S1.cell p = some c1 → DealR S (.put h t f s) e (S1.setCell p { c1 with fields := c1.fields.set f new })
  | putNo {S : WS} {h t f s e} : (S.slot h t = some none ∨ ∃ p c, S.slot h t = some (some p) ∧ S.cell p = some c ∧ c.fields.length ≤ f) → DealR S (.put h t f s) e S
  | copied {S : WS} {h s t v e} : S.slot h t = some v → DealR S (.copy h s t) e (S.setSlot h s v)
  | dropped {S : WS} {h s e} : DealR S (.drop h s) e (S.setSlot h s none)
  | given {S S1 : WS} {h s g t v L e} : S.slot h s = some v → (∀ x ∈ L, x = v) → S1 = (S.noted L).1 → DealR S (.give h s g t) e (S1.setSlot g t v)
  | wrote {S : WS} {h t load p c e} : S.slot h t = some (some p) → S.cell p = some c → DealR S (.write h t load) e (S.setCell p { c with load := load })
  | wroteNo {S : WS} {h t load e} : DealR S (.write h t load) e S
  | read {S : WS} {h t e} : DealR S (.read h t) e S
  | named {S : WS} {h t w p c n r e} : S.slot h t = some (some p) → S.cell p = some c → n.place = p → n.birth = c.birth → DealR S (.name h t w) e (S.putName n r)
  | namedNo {S : WS} {h t w e} : DealR S (.name h t w) e S
  | sought {S S1 : WS} {h s w n c v0} : S.slot h s = some v0 → n ∈ S.names → S.goneB n.place n.birth = false → S.cell n.place = some c → S1 = (S.noted [some n.place]).1 →
      DealR S (.seek h s w) ⟨"sought", .int c.birth, (S.noted [some n.place]).2⟩ (S1.setSlot h s (some n.place))
  | soughtNo {S : WS} {h s w} : DealR S (.seek h s w) ⟨"sought", .non, []⟩ (S.setSlot h s none)
  | seekNo {S : WS} {h s w b n} : DealR S (.seek h s w) ⟨"refused", b, n⟩ S

/-! ### the law's own books -/
structure GS where
  slots : List (List (Option Int))
  links : List (List (Option Int))
  there : Int → Prop
  early : Int → Prop
  met : Option (Int → Prop)
  doomed : Int → Prop
namespace GS
def link (g : GS) (b : Int) : Option (List (Option Int)) := if 1 ≤ b then g.links[(b - 1).toNat]? else none
def slot (g : GS) (h s : Nat) : Option (Option Int) := (g.slots[h]?).bind fun d => d[s]?
def setSlot (g : GS) (h s : Nat) (v : Option Int) : GS := { g with slots := g.slots.modify h fun d => d.set s v }
def setLink (g : GS) (b : Int) (f : Nat) (v : Option Int) : GS := { g with links := g.links.modify (b - 1).toNat fun d => d.set f v }
end GS
inductive RchB (g : GS) : Int → Prop
  | root {r b} : r ∈ g.slots → some b ∈ r → RchB g b
  | step {b fs q} : RchB g b → g.link b = some fs → some q ∈ fs → RchB g q
/-- every birth that can be come to is linked -/
def Linked (g : GS) : Prop := ∀ b, RchB g b → ∃ fs, g.link b = some fs
/-- the law looks at an event of the sweeper, and it holds -/
inductive LawStep : GS → Ev → GS → Prop
  | begin {g t n} : Linked g → LawStep g ⟨"begin", t, n⟩ { g with early := g.there, met := some (RchB g) }
  | cut {g M n} : g.met = some M → n.Nodup → (∀ b ∈ n, g.there b) → (∀ b, g.early b → M b ∨ b ∈ n) → LawStep g ⟨"cut", .int (n.length : Nat), n⟩ { g with doomed := fun b => b ∈ n, met := none }
  | back {g b n} : g.doomed b → g.there b → LawStep g ⟨"back", .int b, n⟩ { g with doomed := fun x => g.doomed x ∧ x ≠ b, there := fun x => g.there x ∧ x ≠ b }
  | fin {g t n} : (∀ b, ¬ g.doomed b) → LawStep g ⟨"end", t, n⟩ g
  | other {g e} : e.word ≠ ("begin" : Str) → e.word ≠ ("cut" : Str) → e.word ≠ ("back" : Str) → e.word ≠ ("end" : Str) → LawStep g e g
/-- what a deed does to the books, but the cells met -/
inductive LawDeed : GS → Row → Ev → GS → Prop
  | made {g h s many bulk b n} : b = (g.links.length : Int) + 1 → LawDeed g (.make h s many bulk) ⟨"made", .int b, n⟩
      (({ g with links := g.links ++ [List.replicate many none], there := fun x => g.there x ∨ x = b } : GS).setSlot h s (some b))
  | notMade {g h s many bulk e} : e.word ≠ ("made" : Str) → LawDeed g (.make h s many bulk) e g
  | got {g h s t f b fs v e} : g.slot h t = some (some b) → g.link b = some fs → fs[f]? = some v → LawDeed g (.get h s t f) e (g.setSlot h s v)
  | getNo {g h s t f e} : (g.slot h t = some none ∨ ∃ b fs, g.slot h t = some (some b) ∧ g.link b = some fs ∧ fs.length ≤ f) → LawDeed g (.get h s t f) e g
  | putIn {g h t f s b fs old v e} : g.slot h t = some (some b) → g.link b = some fs → fs[f]? = some old → g.slot h s = some v → LawDeed g (.put h t f s) e (g.setLink b f v)
  | putNo {g h t f s e} : (g.slot h t = some none ∨ ∃ b fs, g.slot h t = some (some b) ∧ g.link b = some fs ∧ fs.length ≤ f) → LawDeed g (.put h t f s) e g
  | copied {g h s t v e} : g.slot h t = some v → LawDeed g (.copy h s t) e (g.setSlot h s v)
  | dropped {g h s e} : LawDeed g (.drop h s) e (g.setSlot h s none)
  | given {g h s k t v e} : g.slot h s = some v → LawDeed g (.give h s k t) e (g.setSlot k t v)
  | wrote {g h t load e} : LawDeed g (.write h t load) e g
  | read {g h t e} : LawDeed g (.read h t) e g
  | named {g h t w e} : LawDeed g (.name h t w) e g
  | sought {g h s w b n} : (∃ fs, g.link b = some fs) → LawDeed g (.seek h s w) ⟨"sought", .int b, n⟩ (g.setSlot h s (some b))
  | soughtNo {g h s w n} : LawDeed g (.seek h s w) ⟨"sought", .non, n⟩ (g.setSlot h s none)
  | seekNo {g h s w e} : e.word ≠ ("sought" : Str) → LawDeed g (.seek h s w) e g
def metUp (g : GS) : GS := { g with met := g.met.map fun M b => M b ∨ RchB g b }
inductive LawDeal : GS → Row → Ev → GS → Prop
  | mk {g r e g1} : LawDeed g r e g1 → Linked g1 → LawDeal g r e (metUp g1)
/-- a row's events -/
inductive Chain (R : GS → Ev → GS → Prop) : GS → List Ev → GS → Prop
  | nil {g} : Chain R g [] g
  | cons {g e g1 es g2} : R g e g1 → Chain R g1 es g2 → Chain R g (e :: es) g2
def LawRow (r : Row) : GS → List Ev → GS → Prop := match r with
  | .sweep _ => Chain LawStep
  | r => Chain fun g e g' => LawDeal g r e g'
inductive LawLog : GS → List (Row × List Ev) → GS → Prop
  | nil {g} : LawLog g [] g
  | cons {g r es g1 l g2} : LawRow r g es g1 → LawLog g1 l g2 → LawLog g ((r, es) :: l) g2
theorem LawLog.snoc {g g1 g2 : GS} {r : Row} {es : List Ev} {l : List (Row × List Ev)} (h : LawLog g l g1) (h2 : LawRow r g1 es g2) : LawLog g (l ++ [(r, es)]) g2 := by
  induction h with
  | nil => exact .cons h2 .nil
  | cons a _ ih => exact .cons a (ih h2)
theorem Chain.snoc {R : GS → Ev → GS → Prop} {g g1 g2 : GS} {e : Ev} {l : List Ev} (h : Chain R g l g1) (h2 : R g1 e g2) : Chain R g (l ++ [e]) g2 := by
  induction h with
  | nil => exact .cons h2 .nil
  | cons a _ ih => exact .cons a (ih h2)
end G

/-! The mathematics: a simulation between the world and the law's books is kept by every step and deed, and the law's look holds. -/
namespace G
open PySem L2
/-! ### lists -/
theorem All2.get {α β : Type} {R : α → β → Prop} {xs : List α} {ys : List β} (h : All2 R xs ys) {i : Nat} {x : α} (e : xs[i]? = some x) : ∃ y, ys[i]? = some y ∧ R x y := by
  obtain ⟨hl, hr⟩ := h
  have hi := (List.getElem?_eq_some_iff.mp e).1
  have hj : i < ys.length := by omega
  exact ⟨ys[i], List.getElem?_eq_getElem hj, hr i x _ e (List.getElem?_eq_getElem hj)⟩
theorem All2.get' {α β : Type} {R : α → β → Prop} {xs : List α} {ys : List β} (h : All2 R xs ys) {i : Nat} {y : β} (e : ys[i]? = some y) : ∃ x, xs[i]? = some x ∧ R x y := by
  obtain ⟨hl, hr⟩ := h
  have hi := (List.getElem?_eq_some_iff.mp e).1
  have hj : i < xs.length := by omega
  exact ⟨xs[i], List.getElem?_eq_getElem hj, hr i _ y (List.getElem?_eq_getElem hj) e⟩
theorem All2.mem {α β : Type} {R : α → β → Prop} {xs : List α} {ys : List β} (h : All2 R xs ys) {x : α} (e : x ∈ xs) : ∃ y ∈ ys, R x y := by
  obtain ⟨i, hi⟩ := List.getElem?_of_mem e
  obtain ⟨y, hy, r⟩ := h.get hi
  exact ⟨y, List.mem_of_getElem? hy, r⟩
theorem All2.mem' {α β : Type} {R : α → β → Prop} {xs : List α} {ys : List β} (h : All2 R xs ys) {y : β} (e : y ∈ ys) : ∃ x ∈ xs, R x y := by
  obtain ⟨i, hi⟩ := List.getElem?_of_mem e
  obtain ⟨y, hy, r⟩ := h.get' hi
  exact ⟨y, List.mem_of_getElem? hy, r⟩
theorem All2.mono {α β : Type} {R R' : α → β → Prop} {xs : List α} {ys : List β} (h : All2 R xs ys) (k : ∀ x y, R x y → R' x y) : All2 R' xs ys := ⟨h.1, fun i x y a b => k x y (h.2 i x y a b)⟩
theorem All2.set {α β : Type} {R : α → β → Prop} {xs : List α} {ys : List β} (h : All2 R xs ys) {x : α} {y : β} (r : R x y) (i : Nat) : All2 R (xs.set i x) (ys.set i y) := by
  obtain ⟨hl, hr⟩ := h
  refine ⟨by simp [hl], fun j a b ha hb => ?_⟩
  rw [List.getElem?_set] at ha hb
  by_cases e : i = j
  · rw [if_pos e] at ha hb
    split at ha <;> simp at ha
    split at hb <;> simp at hb
    subst ha hb
    exact r
  · rw [if_neg e] at ha hb
    exact hr j a b ha hb
theorem All2.modify {α β : Type} {R : α → β → Prop} {xs : List α} {ys : List β} (h : All2 R xs ys) {f : α → α} {g : β → β} (k : ∀ x y, R x y → R (f x) (g y)) (i : Nat) : All2 R (xs.modify i f) (ys.modify i g) := by
  obtain ⟨hl, hr⟩ := h
  refine ⟨by simp [hl], fun j a b ha hb => ?_⟩
  rw [List.getElem?_modify] at ha hb
  obtain ⟨a', ha', rfl⟩ := Option.map_eq_some_iff.mp ha
  obtain ⟨b', hb', rfl⟩ := Option.map_eq_some_iff.mp hb
  have q := hr j a' b' ha' hb'
  by_cases e : i = j
  · rw [if_pos e, if_pos e]
    exact k _ _ q
  · rw [if_neg e, if_neg e]
    exact q
theorem All2.repl {α β : Type} {R : α → β → Prop} {x : α} {y : β} (r : R x y) (n : Nat) : All2 R (List.replicate n x) (List.replicate n y) := by
  refine ⟨by simp, fun i a b ha hb => ?_⟩
  have h1 := List.eq_of_mem_replicate (List.mem_of_getElem? ha)
  have h2 := List.eq_of_mem_replicate (List.mem_of_getElem? hb)
  subst h1 h2
  exact r
theorem nodup_le : ∀ (n : Nat) (l : List Nat), l.Nodup → (∀ x ∈ l, x < n) → l.length ≤ n
  | 0, [], _, _ => Nat.le_refl _
  | 0, x :: _, _, h => absurd (h x (List.mem_cons_self ..)) (Nat.not_lt_zero x)
  | n + 1, l, hn, h => by
    by_cases hm : n ∈ l
    · have h1 := nodup_le n (l.erase n) (hn.erase n) fun x hx => by
        have a := (List.Nodup.mem_erase_iff hn).mp hx
        have b := h x a.2
        omega
      have h2 := List.length_erase_of_mem hm
      omega
    · have h1 := nodup_le n l hn fun x hx => by
        have b := h x hx
        have c : x ≠ n := fun e => hm (e ▸ hx)
        omega
      omega
/-! ### cells by place -/
theorem cell_iff {S : WS} {p : Nat} {c : CellD} : S.cell p = some c ↔ S.cells[p]? = some (some c) := by
  unfold WS.cell
  cases h : S.cells[p]? with
  | none => simp
  | some o => simp
theorem cell_lt {S : WS} {p : Nat} {c : CellD} (h : S.cell p = some c) : p < S.cells.length := (List.getElem?_eq_some_iff.mp (cell_iff.mp h)).1
theorem join_set {cs : List (Option CellD)} {p q : Nat} {o : Option CellD} (hp : p < cs.length) : ((cs.set p o)[q]?).join = if q = p then o else (cs[q]?).join := by
  rw [List.getElem?_set]
  by_cases e : p = q
  · subst e
    rw [if_pos rfl, if_pos hp, if_pos rfl]
    rfl
  · rw [if_neg e, if_neg (fun h => e h.symm)]
theorem join_snoc {cs : List (Option CellD)} {q : Nat} {o : Option CellD} : ((cs ++ [o])[q]?).join = if q = cs.length then o else (cs[q]?).join := by
  by_cases e : q = cs.length
  · subst e
    rw [if_pos rfl]
    simp
  · rw [if_neg e]
    by_cases h : q < cs.length
    · rw [List.getElem?_append_left h]
    · have h1 : cs[q]? = none := List.getElem?_eq_none (by omega)
      have h2 : (cs ++ [o])[q]? = none := List.getElem?_eq_none (by simp; omega)
      rw [h1, h2]
/-! ### notes -/
def GreyOk (S : WS) : Prop := S.grey.Nodup ∧ ∀ q ∈ S.grey, ∃ c, S.cell q = some c ∧ c.tone = S.sense
structure Like (S S1 : WS) (L : List (Option Nat)) : Prop where
  eq : S1 = { S with cells := S1.cells, grey := S1.grey }
  len : S1.cells.length = S.cells.length
  fwd : ∀ p c, S.cell p = some c → ∃ c1, S1.cell p = some c1 ∧ c1.birth = c.birth ∧ c1.fields = c.fields ∧ (c1.tone = c.tone ∨ (S.phase = .walk ∧ c1.tone = S.sense ∧ some p ∈ L))
  bwd : ∀ p c1, S1.cell p = some c1 → ∃ c, S.cell p = some c
  grey : GreyOk S → GreyOk S1
theorem Like.refl (S : WS) (L : List (Option Nat)) : Like S S L := ⟨rfl, rfl, fun p c h => ⟨c, h, rfl, rfl, .inl rfl⟩, fun p c h => ⟨c, h⟩, id⟩
theorem Like.trans {S S1 S2 : WS} {L1 L2 L : List (Option Nat)} (a : Like S S1 L1) (b : Like S1 S2 L2) (h1 : ∀ x ∈ L1, x ∈ L) (h2 : ∀ x ∈ L2, x ∈ L) : Like S S2 L := by
  have e1 : S1.phase = S.phase := by rw [a.eq]
  have e2 : S1.sense = S.sense := by rw [a.eq]
  refine ⟨?_, b.len.trans a.len, fun p c h => ?_, fun p c h => ?_, fun h => b.grey (a.grey h)⟩
  · have := b.eq
    rw [a.eq] at this
    exact this
  · obtain ⟨c1, k1, k2, k3, k4⟩ := a.fwd p c h
    obtain ⟨c2, m1, m2, m3, m4⟩ := b.fwd p c1 k1
    refine ⟨c2, m1, m2.trans k2, m3.trans k3, ?_⟩
    rcases m4 with m4 | ⟨m4, m5, m6⟩
    · rcases k4 with k4 | ⟨k4, k5, k6⟩
      · exact .inl (m4.trans k4)
      · exact .inr ⟨k4, m4.trans k5, h1 _ k6⟩
    · exact .inr ⟨e1 ▸ m4, m5.trans e2, h2 _ m6⟩
  · obtain ⟨c1, k1⟩ := b.bwd p c h
    exact a.bwd p c1 k1
theorem note_like (S : WS) (x : Option Nat) : Like S (S.note x).1 [x] := by
  cases x with
  | none => exact Like.refl _ _
  | some p =>
    unfold WS.note
    by_cases hw : S.phase = .walk
    · simp only [if_pos hw]
      cases hc : S.cell p with
      | none => exact Like.refl _ _
      | some c =>
        dsimp only
        by_cases ht : c.tone = S.sense
        · rw [if_pos ht]
          exact Like.refl _ _
        · rw [if_neg ht]
          have hp := cell_lt hc
          have ce : ∀ q, WS.cell { S with cells := S.cells.set p (some { c with tone := S.sense }), grey := S.grey ++ [p] } q = if q = p then some { c with tone := S.sense } else S.cell q := fun q => join_set hp
          refine ⟨rfl, by simp, fun q d hd => ?_, fun q d hd => ?_, fun ⟨g1, g2⟩ => ⟨?_, fun q hq => ?_⟩⟩
          · rw [ce]
            by_cases e : q = p
            · subst e
              rw [hc] at hd
              cases hd
              rw [if_pos rfl]
              exact ⟨_, rfl, rfl, rfl, .inr ⟨hw, rfl, by simp⟩⟩
            · rw [if_neg e]
              exact ⟨d, hd, rfl, rfl, .inl rfl⟩
          · rw [ce] at hd
            by_cases e : q = p
            · exact ⟨c, e ▸ hc⟩
            · rw [if_neg e] at hd
              exact ⟨d, hd⟩
          · show (S.grey ++ [p]).Nodup
            rw [List.nodup_append]
            refine ⟨g1, by simp, fun a ha b hb => ?_⟩
            have e : b = p := by simpa using hb
            subst e
            intro e
            subst e
            obtain ⟨d, hd, hd2⟩ := g2 a ha
            rw [hc] at hd
            cases hd
            exact ht hd2
          · have hq' : q ∈ S.grey ++ [p] := hq
            rw [ce]
            by_cases e : q = p
            · rw [if_pos e]
              exact ⟨_, rfl, rfl⟩
            · rw [if_neg e]
              rcases List.mem_append.mp hq' with h | h
              · exact g2 q h
              · exact absurd (by simpa using h) e
    · simp only [if_neg hw]
      exact Like.refl _ _
theorem noted_like : ∀ (L : List (Option Nat)) (S : WS), Like S (S.noted L).1 L
  | [], S => Like.refl _ _
  | x :: r, S => (note_like S x).trans (noted_like r (S.note x).1) (fun y hy => by simp at hy; simp [hy]) fun y hy => List.mem_cons_of_mem _ hy
theorem noted_append : ∀ (L M : List (Option Nat)) (S : WS), S.noted (L ++ M) = ((((S.noted L).1).noted M).1, (S.noted L).2 ++ (((S.noted L).1).noted M).2)
  | [], M, S => rfl
  | x :: r, M, S => by
    show (((S.note x).1.noted (r ++ M)).1, (S.note x).2.toList ++ ((S.note x).1.noted (r ++ M)).2) = _
    rw [noted_append r M]
    simp [WS.noted]
theorem note_walk {S : WS} {x : Option Nat} (h : S.phase ≠ .walk) : S.note x = (S, none) := by
  cases x with
  | none => rfl
  | some p => simp [WS.note, h]
theorem noted_walk {S : WS} (h : S.phase ≠ .walk) : ∀ L, S.noted L = (S, [])
  | [] => rfl
  | x :: r => by
    show (((S.note x).1.noted r).1, (S.note x).2.toList ++ ((S.note x).1.noted r).2) = _
    rw [note_walk h, noted_walk h r]
    rfl
/-! ### the simulation -/
def Rel1 (S : WS) (Sf : Int → Prop) (x : Option Nat) (y : Option Int) : Prop := (x = none ∧ y = none) ∨ ∃ p c, x = some p ∧ y = some c.birth ∧ S.cell p = some c ∧ Sf c.birth
structure SimB (Sf : Int → Prop) (S : WS) (g : GS) : Prop where
  slots : All2 (fun (h : HandD) r => All2 (Rel1 S Sf) h.slots r) S.hands g.slots
  safe : ∀ b, Sf b → ∃ p c fs, S.cell p = some c ∧ c.birth = b ∧ g.link b = some fs ∧ All2 (Rel1 S Sf) c.fields fs
  names : ∀ n ∈ S.names, n.place < S.cells.length ∧ n.birth ≤ S.born ∧ (S.goneB n.place n.birth = false → Sf n.birth)
  births : ∀ p c, S.cell p = some c → 1 ≤ c.birth ∧ c.birth ≤ S.born
  inj : ∀ p q c d, S.cell p = some c → S.cell q = some d → c.birth = d.birth → p = q
  born : S.born = (g.links.length : Int)
  there : ∀ b, g.there b ↔ ∃ p c, S.cell p = some c ∧ c.birth = b
  fields : ∀ p c, S.cell p = some c → ∀ q, some q ∈ c.fields → q < S.cells.length
/-- M: the cells met in this round -/
structure PhW (Sf : Int → Prop) (S : WS) (g : GS) (M : Int → Prop) : Prop where
  closed : ∀ b fs q, M b → g.link b = some fs → some q ∈ fs → M q
  safe : ∀ b, M b → Sf b
  tone : ∀ p c, S.cell p = some c → c.tone = S.sense → M c.birth ∨ RchB g c.birth
  early : ∀ b, g.early b → g.there b
  grey : GreyOk S
structure PhG (Sf : Int → Prop) (S : WS) (g : GS) : Prop where
  met : g.met = none
  tone : ∀ p c, S.cell p = some c → Sf c.birth → c.tone = S.sense
  at1 : S.at_ ≤ S.stop
  at2 : S.stop ≤ S.cells.length
  doomed : ∀ b, g.doomed b ↔ ∃ p c, S.cell p = some c ∧ c.birth = b ∧ c.tone ≠ S.sense
  pale : ∀ p c, S.cell p = some c → c.tone ≠ S.sense → S.at_ ≤ p ∧ p < S.stop
def Ph (up : Bool) (Sf : Int → Prop) (S : WS) (g : GS) : Prop := match S.phase with
  | .rest => g.met = none ∧ ∀ p c, S.cell p = some c → c.tone = S.sense
  | .walk => ∃ M, g.met = some M ∧ PhW Sf S g M ∧ (up = true → ∀ b, RchB g b → M b)
  | .give => PhG Sf S g
  | .lost => False
def Sim (S : WS) (g : GS) : Prop := ∃ Sf, SimB Sf S g ∧ Ph true Sf S g
theorem Rel1.mono {S S1 : WS} {Sf Sf1 : Int → Prop} (hc : ∀ p c, Sf c.birth → S.cell p = some c → ∃ c1, S1.cell p = some c1 ∧ c1.birth = c.birth) (hs : ∀ b, Sf b → Sf1 b) {x : Option Nat} {y : Option Int} (h : Rel1 S Sf x y) : Rel1 S1 Sf1 x y := by
  rcases h with h | ⟨p, c, rfl, rfl, h1, h2⟩
  · exact .inl h
  · obtain ⟨c1, k1, k2⟩ := hc p c h2 h1
    exact .inr ⟨p, c1, rfl, by rw [k2], k1, by rw [k2]; exact hs _ h2⟩
theorem Rel1.none (S : WS) (Sf : Int → Prop) : Rel1 S Sf none none := .inl ⟨rfl, rfl⟩
theorem rch_safe {Sf : Int → Prop} {S : WS} {g : GS} (B : SimB Sf S g) {b : Int} (h : RchB g b) : Sf b := by
  induction h with
  | root hr hb =>
    obtain ⟨d, hd, r⟩ := B.slots.mem' hr
    obtain ⟨x, hx, r⟩ := r.mem' hb
    rcases r with ⟨_, e⟩ | ⟨p, c, _, e, _, s⟩
    · cases e
    · cases e
      exact s
  | step _ hl hq ih =>
    obtain ⟨p, c, fs, h1, h2, h3, h4⟩ := B.safe _ ih
    rw [hl] at h3
    cases h3
    obtain ⟨x, hx, r⟩ := h4.mem' hq
    rcases r with ⟨_, e⟩ | ⟨p, c, _, e, _, s⟩
    · cases e
    · cases e
      exact s
theorem SimB.linked {Sf : Int → Prop} {S : WS} {g : GS} (B : SimB Sf S g) : Linked g := fun b h => by
  obtain ⟨p, c, fs, h1, h2, h3, h4⟩ := B.safe _ (rch_safe B h)
  exact ⟨fs, h3⟩
theorem slot_iff {S : WS} {h s : Nat} {v : Option Nat} : S.slot h s = some v ↔ ∃ d, S.hands[h]? = some d ∧ d.slots[s]? = some v := by
  unfold WS.slot
  cases S.hands[h]? with
  | none => simp
  | some d => simp
theorem gslot_iff {g : GS} {h s : Nat} {v : Option Int} : g.slot h s = some v ↔ ∃ d, g.slots[h]? = some d ∧ d[s]? = some v := by
  unfold GS.slot
  cases g.slots[h]? with
  | none => simp
  | some d => simp
theorem SimB.slot {Sf : Int → Prop} {S : WS} {g : GS} (B : SimB Sf S g) {h s : Nat} {v : Option Nat} (e : S.slot h s = some v) : ∃ y, g.slot h s = some y ∧ Rel1 S Sf v y := by
  obtain ⟨d, hd, hs⟩ := slot_iff.mp e
  obtain ⟨r, hr, k⟩ := B.slots.get hd
  obtain ⟨y, hy, q⟩ := k.get hs
  exact ⟨y, gslot_iff.mpr ⟨r, hr, hy⟩, q⟩
theorem gslot_rch {g : GS} {h s : Nat} {b : Int} (e : g.slot h s = some (some b)) : RchB g b := by
  obtain ⟨d, hd, hs⟩ := gslot_iff.mp e
  exact .root (List.mem_of_getElem? hd) (List.mem_of_getElem? hs)
theorem metUp_links (g : GS) : (metUp g).link = g.link := rfl
theorem rch_eq {g g' : GS} (h1 : g'.slots = g.slots) (h2 : g'.links = g.links) {b : Int} (h : RchB g b) : RchB g' b := by
  have e : g'.link = g.link := by
    funext x
    unfold GS.link
    rw [h2]
  induction h with
  | root hr hb => exact .root (h1 ▸ hr) hb
  | step _ hl hq ih => exact .step ih (by rw [e]; exact hl) hq
/-- the law meets what can be come to -/
theorem met_up {Sf : Int → Prop} {S : WS} {g : GS} (B : SimB Sf S g) (h : Ph false Sf S g) : SimB Sf S (metUp g) ∧ Ph true Sf S (metUp g) := by
  refine ⟨⟨B.slots, B.safe, B.names, B.births, B.inj, B.born, B.there, B.fields⟩, ?_⟩
  unfold Ph at h ⊢
  cases hp : S.phase with
  | rest =>
    rw [hp] at h
    exact ⟨by show g.met.map _ = none; rw [h.1]; rfl, h.2⟩
  | lost =>
    rw [hp] at h
    exact h
  | give =>
    rw [hp] at h
    obtain ⟨k1, k2, k3, k4, k5, k6⟩ := h
    exact ⟨by show g.met.map _ = none; rw [k1]; rfl, k2, k3, k4, k5, k6⟩
  | walk =>
    rw [hp] at h
    obtain ⟨M, h1, ⟨k1, k2, k3, k4, k5⟩, _⟩ := h
    refine ⟨fun b => M b ∨ RchB g b, by show g.met.map _ = _; rw [h1]; rfl, ⟨fun b fs q hb hl hq => ?_, fun b hb => ?_, fun p c hc ht => ?_, k4, k5⟩, fun _ b hb => .inr (rch_eq (g := metUp g) (g' := g) rfl rfl hb)⟩
    · rcases hb with hb | hb
      · exact .inl (k1 b fs q hb hl hq)
      · exact .inr (.step hb hl hq)
    · rcases hb with hb | hb
      · exact k2 b hb
      · exact rch_safe B hb
    · exact .inl (k3 p c hc ht)
theorem Ph.walk {Sf : Int → Prop} {S : WS} {g : GS} (P : Ph true Sf S g) (hw : S.phase = .walk) : ∃ M, g.met = some M ∧ PhW Sf S g M ∧ (∀ b, RchB g b → M b) ∧ ∀ p c, S.cell p = some c → c.tone = S.sense → M c.birth := by
  unfold Ph at P
  rw [hw] at P
  obtain ⟨M, h1, h2, h3⟩ := P
  refine ⟨M, h1, h2, h3 rfl, fun p c hc ht => ?_⟩
  rcases h2.tone p c hc ht with h | h
  · exact h
  · exact h3 rfl _ h
theorem Ph.weak {Sf : Int → Prop} {S : WS} {g : GS} (P : Ph true Sf S g) : Ph false Sf S g := by
  unfold Ph at P ⊢
  cases hp : S.phase with
  | rest => rw [hp] at P; exact P
  | give => rw [hp] at P; exact P
  | lost => rw [hp] at P; exact P
  | walk =>
    rw [hp] at P
    obtain ⟨M, h1, h2, h3⟩ := P
    exact ⟨M, h1, h2, fun e => by cases e⟩
/-! ### noting -/
theorem Like.gone {S S1 : WS} {L : List (Option Nat)} (K : Like S S1 L) {p : Nat} {b : Int} : S1.goneB p b = S.goneB p b := by
  have e1 : S1.phase = S.phase := by rw [K.eq]
  have e2 : S1.sense = S.sense := by rw [K.eq]
  unfold WS.goneB
  rw [e1, e2]
  cases hc : S.cell p with
  | none =>
    cases hc1 : S1.cell p with
    | none => rfl
    | some c1 =>
      obtain ⟨c, h⟩ := K.bwd p c1 hc1
      rw [hc] at h
      cases h
  | some c =>
    obtain ⟨c1, h1, h2, h3, h4⟩ := K.fwd p c hc
    rw [h1]
    dsimp only
    rw [h2]
    rcases h4 with h4 | ⟨h4, _⟩
    · rw [h4]
    · rw [h4]
      simp
theorem Like.back {S S1 : WS} {L : List (Option Nat)} (K : Like S S1 L) {p : Nat} {c1 : CellD} (h : S1.cell p = some c1) : ∃ c, S.cell p = some c ∧ c1.birth = c.birth ∧ c1.fields = c.fields ∧ (c1.tone = c.tone ∨ (S.phase = .walk ∧ c1.tone = S.sense ∧ some p ∈ L)) := by
  obtain ⟨c, hc⟩ := K.bwd p c1 h
  obtain ⟨c2, h1, h2⟩ := K.fwd p c hc
  rw [h] at h1
  cases h1
  exact ⟨c, hc, h2⟩
theorem Like.rel {S S1 : WS} {L : List (Option Nat)} (K : Like S S1 L) {Sf : Int → Prop} {x : Option Nat} {y : Option Int} (r : Rel1 S Sf x y) : Rel1 S1 Sf x y :=
  r.mono (fun p c _ h => let ⟨c1, h1, h2, _⟩ := K.fwd p c h; ⟨c1, h1, h2⟩) fun _ h => h
theorem simB_like {S S1 : WS} {L : List (Option Nat)} (K : Like S S1 L) {Sf : Int → Prop} {g : GS} (B : SimB Sf S g) : SimB Sf S1 g := by
  have e1 : S1.hands = S.hands := by rw [K.eq]
  have e2 : S1.names = S.names := by rw [K.eq]
  have e3 : S1.born = S.born := by rw [K.eq]
  refine ⟨?_, fun b hb => ?_, fun n hn => ?_, fun p c hc => ?_, fun p q c d hc hd e => ?_, e3 ▸ B.born, fun b => ?_, fun p c hc q hq => ?_⟩
  · rw [e1]
    exact B.slots.mono fun h r q => q.mono fun x y => K.rel
  · obtain ⟨p, c, fs, h1, h2, h3, h4⟩ := B.safe b hb
    obtain ⟨c1, k1, k2, k3, _⟩ := K.fwd p c h1
    exact ⟨p, c1, fs, k1, k2.trans h2, h3, by rw [k3]; exact h4.mono fun x y => K.rel⟩
  · rw [e2] at hn
    obtain ⟨h1, h2, h3⟩ := B.names n hn
    rw [K.len, e3, K.gone]
    exact ⟨h1, h2, h3⟩
  · obtain ⟨c0, h1, h2, _⟩ := K.back hc
    rw [h2, e3]
    exact B.births p c0 h1
  · obtain ⟨c0, h1, h2, _⟩ := K.back hc
    obtain ⟨d0, k1, k2, _⟩ := K.back hd
    exact B.inj p q c0 d0 h1 k1 (h2.symm.trans (e.trans k2))
  · rw [B.there b]
    constructor
    · rintro ⟨p, c, h1, h2⟩
      obtain ⟨c1, k1, k2, _⟩ := K.fwd p c h1
      exact ⟨p, c1, k1, k2.trans h2⟩
    · rintro ⟨p, c, h1, h2⟩
      obtain ⟨c0, k1, k2, _⟩ := K.back h1
      exact ⟨p, c0, k1, k2.symm.trans h2⟩
  · obtain ⟨c0, k1, k2, k3, _⟩ := K.back hc
    rw [k3] at hq
    rw [K.len]
    exact B.fields p c0 k1 q hq
theorem ph_like {S S1 : WS} {L : List (Option Nat)} (K : Like S S1 L) {Sf : Int → Prop} {g : GS} (P : Ph true Sf S g) (hM : ∀ M, g.met = some M → ∀ p c, some p ∈ L → S.cell p = some c → M c.birth) : Ph true Sf S1 g := by
  have e1 : S1.phase = S.phase := by rw [K.eq]
  have e2 : S1.sense = S.sense := by rw [K.eq]
  have e3 : S1.at_ = S.at_ := by rw [K.eq]
  have e4 : S1.stop = S.stop := by rw [K.eq]
  by_cases hw : S.phase = .walk
  · obtain ⟨M, h1, ⟨k1, k2, k3, k4, k5⟩, h3, h4⟩ := P.walk hw
    unfold Ph
    rw [e1, hw]
    refine ⟨M, h1, ⟨k1, k2, fun p c1 hc ht => .inl ?_, k4, K.grey k5⟩, fun _ => h3⟩
    obtain ⟨c, m1, m2, m3, m4⟩ := K.back hc
    rw [e2] at ht
    rw [m2]
    rcases m4 with m4 | ⟨_, _, m4⟩
    · exact h4 p c m1 (m4.symm.trans ht)
    · exact hM M h1 p c m4 m1
  · have tn : ∀ p c1, S1.cell p = some c1 → ∃ c, S.cell p = some c ∧ c1.birth = c.birth ∧ c1.tone = c.tone := fun p c1 h => by
      obtain ⟨c, m1, m2, m3, m4⟩ := K.back h
      rcases m4 with m4 | ⟨m4, _⟩
      · exact ⟨c, m1, m2, m4⟩
      · exact absurd m4 hw
    have fw : ∀ p c, S.cell p = some c → ∃ c1, S1.cell p = some c1 ∧ c1.birth = c.birth ∧ c1.tone = c.tone := fun p c h => by
      obtain ⟨c1, m1, m2, m3, m4⟩ := K.fwd p c h
      rcases m4 with m4 | ⟨m4, _⟩
      · exact ⟨c1, m1, m2, m4⟩
      · exact absurd m4 hw
    unfold Ph at P ⊢
    rw [e1]
    cases hp : S.phase with
    | walk => exact absurd hp hw
    | lost => rw [hp] at P; exact P
    | rest =>
      rw [hp] at P
      refine ⟨P.1, fun p c1 h => ?_⟩
      obtain ⟨c, m1, m2, m3⟩ := tn p c1 h
      rw [m3, e2]
      exact P.2 p c m1
    | give =>
      rw [hp] at P
      obtain ⟨k1, k2, k3, k4, k5, k6⟩ := P
      refine ⟨k1, fun p c1 h hs => ?_, by rw [e3, e4]; exact k3, by rw [e4, K.len]; exact k4, fun b => ?_, fun p c1 h ht => ?_⟩
      · obtain ⟨c, m1, m2, m3⟩ := tn p c1 h
        rw [m3, e2]
        exact k2 p c m1 (m2 ▸ hs)
      · rw [k5 b]
        constructor
        · rintro ⟨p, c, a1, a2, a3⟩
          obtain ⟨c1, m1, m2, m3⟩ := fw p c a1
          exact ⟨p, c1, m1, m2.trans a2, by rw [m3, e2]; exact a3⟩
        · rintro ⟨p, c1, a1, a2, a3⟩
          obtain ⟨c, m1, m2, m3⟩ := tn p c1 a1
          exact ⟨p, c, m1, m2.symm.trans a2, by rw [← m3, ← e2]; exact a3⟩
      · obtain ⟨c, m1, m2, m3⟩ := tn p c1 h
        rw [e3, e4]
        exact k6 p c m1 (by rw [← m3, ← e2]; exact ht)
/-! ### a slot is filled -/
theorem simB_slot {Sf : Int → Prop} {S : WS} {g : GS} (B : SimB Sf S g) {v : Option Nat} {y : Option Int} (r : Rel1 S Sf v y) (h s : Nat) : SimB Sf (S.setSlot h s v) (g.setSlot h s y) :=
  ⟨B.slots.modify (fun _ _ q => q.set r s) h, B.safe, B.names, B.births, B.inj, B.born, B.there, B.fields⟩
theorem ph_slot {Sf : Int → Prop} {S : WS} {g : GS} (P : Ph true Sf S g) (v : Option Nat) (y : Option Int) (h s : Nat) : Ph false Sf (S.setSlot h s v) (g.setSlot h s y) := by
  by_cases hw : S.phase = .walk
  · obtain ⟨M, h1, ⟨k1, k2, k3, k4, k5⟩, h3, h4⟩ := P.walk hw
    unfold Ph
    rw [show (S.setSlot h s v).phase = .walk from hw]
    exact ⟨M, h1, ⟨k1, k2, fun p c hc ht => .inl (h4 p c hc ht), k4, k5⟩, fun e => by cases e⟩
  · have P := P.weak
    unfold Ph at P ⊢
    cases hp : S.phase with
    | walk => exact absurd hp hw
    | lost => rw [hp] at P; rw [show (S.setSlot h s v).phase = .lost from hp]; exact P
    | rest => rw [hp] at P; rw [show (S.setSlot h s v).phase = .rest from hp]; exact P
    | give =>
      rw [hp] at P
      rw [show (S.setSlot h s v).phase = .give from hp]
      obtain ⟨k1, k2, k3, k4, k5, k6⟩ := P
      exact ⟨k1, k2, k3, k4, k5, k6⟩
theorem slot_in {S : WS} {g : GS} {Sf : Int → Prop} (B : SimB Sf S g) {h s : Nat} {v0 : Option Nat} (e : S.slot h s = some v0) (b : Int) : RchB (g.setSlot h s (some b)) b := by
  obtain ⟨y, hy, _⟩ := B.slot e
  obtain ⟨d, hd, hs⟩ := gslot_iff.mp hy
  have hlt := (List.getElem?_eq_some_iff.mp hs).1
  have e1 : (g.setSlot h s (some b)).slots[h]? = some (d.set s (some b)) := by
    show (g.slots.modify h fun d => d.set s (some b))[h]? = _
    rw [List.getElem?_modify, hd]
    simp
  exact .root (List.mem_of_getElem? e1) (List.mem_of_getElem? (i := s) (by rw [List.getElem?_set]; simp [hlt]))
end G

namespace G
open PySem L2
/-! ### a field is filled -/
theorem link_set {g : GS} {b : Int} {f : Nat} {v : Option Int} (hb : 1 ≤ b) (b' : Int) : (g.setLink b f v).link b' = if b' = b then (g.link b).map (fun d => d.set f v) else g.link b' := by
  unfold GS.link GS.setLink
  by_cases h : 1 ≤ b'
  · rw [if_pos h, if_pos hb]
    dsimp only
    rw [List.getElem?_modify]
    by_cases e : b' = b
    · subst e
      simp
    · have hne : ¬ (b - 1).toNat = (b' - 1).toNat := by omega
      rw [if_neg e, if_pos h]
      simp only [if_neg hne]
      simp
  · rw [if_neg h, if_neg h, if_neg (by omega)]
theorem cell_set {S : WS} {p : Nat} {c : CellD} (hp : p < S.cells.length) (q : Nat) : (S.setCell p c).cell q = if q = p then some c else S.cell q := join_set hp
/-- the cell at p holds other fields, or bears another load: the same birth and tone -/
theorem sim_field {Sf : Int → Prop} {S : WS} {g : GS} (B : SimB Sf S g) (P : Ph true Sf S g) {p : Nat} {c c2 : CellD} {f : Nat} {v : Option Nat} {y : Option Int} (hc : S.cell p = some c) (hs : RchB g c.birth) (r : Rel1 S Sf v y) (hy : ∀ b, y = some b → RchB g b)
    (h2 : c2 = { c with fields := c.fields.set f v }) : SimB Sf (S.setCell p c2) (g.setLink c.birth f y) ∧ Ph false Sf (S.setCell p c2) (g.setLink c.birth f y) := by
  have hp := cell_lt hc
  have b1 := (B.births p c hc).1
  have c2b : c2.birth = c.birth := by rw [h2]
  have c2t : c2.tone = c.tone := by rw [h2]
  have c2f : c2.fields = c.fields.set f v := by rw [h2]
  have ce : ∀ q, (S.setCell p c2).cell q = if q = p then some c2 else S.cell q := cell_set hp
  have tn : ∀ q d, (S.setCell p c2).cell q = some d → ∃ d0, S.cell q = some d0 ∧ d.birth = d0.birth ∧ d.tone = d0.tone ∧ (q ≠ p → d = d0) := fun q d h => by
    rw [ce] at h
    by_cases e : q = p
    · rw [if_pos e] at h
      cases h
      exact ⟨c, by rw [e]; exact hc, c2b, c2t, fun n => absurd e n⟩
    · rw [if_neg e] at h
      exact ⟨d, h, rfl, rfl, fun _ => rfl⟩
  have fw : ∀ q d0, S.cell q = some d0 → ∃ d, (S.setCell p c2).cell q = some d ∧ d.birth = d0.birth ∧ d.tone = d0.tone := fun q d0 h => by
    rw [ce]
    by_cases e : q = p
    · rw [if_pos e]
      rw [e, hc] at h
      cases h
      exact ⟨_, rfl, c2b, c2t⟩
    · rw [if_neg e]
      exact ⟨d0, h, rfl, rfl⟩
  have gn : ∀ q b, (S.setCell p c2).goneB q b = S.goneB q b := fun q b => by
    unfold WS.goneB
    rw [show (S.setCell p c2).phase = S.phase from rfl, show (S.setCell p c2).sense = S.sense from rfl]
    cases h : S.cell q with
    | none =>
      cases h1 : (S.setCell p c2).cell q with
      | none => rfl
      | some d =>
        obtain ⟨d0, k, _⟩ := tn q d h1
        rw [h] at k
        cases k
    | some d0 =>
      obtain ⟨d, k1, k2, k3⟩ := fw q d0 h
      rw [k1]
      dsimp only
      rw [k2, k3]
  have up : ∀ x z, Rel1 S Sf x z → Rel1 (S.setCell p c2) Sf x z := fun x z q => q.mono (fun q d _ h => let ⟨d1, k1, k2, _⟩ := fw q d h; ⟨d1, k1, k2⟩) fun _ h => h
  refine ⟨⟨B.slots.mono fun d r q => q.mono up, fun b hb => ?_, fun n hn => ?_, fun q d h => ?_, fun q q' d d' h h' e => ?_, ?_, fun b => ?_, fun q d h x hx => ?_⟩, ?_⟩
  · obtain ⟨q, d, fs, k1, k2, k3, k4⟩ := B.safe b hb
    by_cases e : q = p
    · subst e
      rw [hc] at k1
      cases k1
      refine ⟨q, c2, fs.set f y, by rw [ce, if_pos rfl], c2b.trans k2, ?_, ?_⟩
      · rw [link_set b1, if_pos k2.symm, k2, k3]
        rfl
      · rw [c2f]
        exact (k4.mono up).set (up _ _ r) f
    · have nb : b ≠ c.birth := fun z => e (B.inj q p d c k1 hc (k2.trans z))
      exact ⟨q, d, fs, by rw [ce, if_neg e]; exact k1, k2, by rw [link_set b1, if_neg nb]; exact k3, k4.mono up⟩
  · obtain ⟨k1, k2, k3⟩ := B.names n hn
    rw [gn]
    exact ⟨by show _ < (S.cells.set p (some c2)).length; rw [List.length_set]; exact k1, k2, k3⟩
  · obtain ⟨d0, k1, k2, _⟩ := tn q d h
    rw [k2]
    exact B.births q d0 k1
  · obtain ⟨d0, k1, k2, _⟩ := tn q d h
    obtain ⟨d0', k1', k2', _⟩ := tn q' d' h'
    exact B.inj q q' d0 d0' k1 k1' (k2.symm.trans (e.trans k2'))
  · show S.born = ((g.links.modify _ _).length : Int)
    rw [List.length_modify]
    exact B.born
  · rw [show (g.setLink c.birth f y).there b ↔ g.there b from Iff.rfl, B.there b]
    constructor
    · rintro ⟨q, d, k1, k2⟩
      obtain ⟨d1, m1, m2, _⟩ := fw q d k1
      exact ⟨q, d1, m1, m2.trans k2⟩
    · rintro ⟨q, d, k1, k2⟩
      obtain ⟨d1, m1, m2, _⟩ := tn q d k1
      exact ⟨q, d1, m1, m2.symm.trans k2⟩
  · show x < (S.cells.set p (some c2)).length
    rw [List.length_set]
    rw [ce] at h
    by_cases e : q = p
    · rw [if_pos e] at h
      cases h
      rw [c2f] at hx
      rcases List.mem_or_eq_of_mem_set hx with hx | hx
      · exact B.fields p c hc x hx
      · rcases r with ⟨r, _⟩ | ⟨p', c', r, _, k, _⟩
        · rw [r] at hx
          cases hx
        · rw [r] at hx
          cases hx
          exact cell_lt k
    · rw [if_neg e] at h
      exact B.fields q d h x hx
  · by_cases hw : S.phase = .walk
    · obtain ⟨M, h1, ⟨k1, k2, k3, k4, k5⟩, h3, h4⟩ := P.walk hw
      unfold Ph
      rw [show (S.setCell p c2).phase = .walk from hw]
      refine ⟨M, h1, ⟨fun b fs q hb hl hq => ?_, k2, fun q d h ht => ?_, k4, k5.1, fun q hq => ?_⟩, fun e => by cases e⟩
      · rw [link_set b1] at hl
        by_cases e : b = c.birth
        · rw [if_pos e] at hl
          obtain ⟨fs0, m1, m2⟩ := Option.map_eq_some_iff.mp hl
          rw [← m2] at hq
          rcases List.mem_or_eq_of_mem_set hq with hq | hq
          · exact k1 b fs0 q hb (by rw [e]; exact m1) hq
          · exact h3 q (hy q hq.symm)
        · rw [if_neg e] at hl
          exact k1 b fs q hb hl hq
      · obtain ⟨d0, m1, m2, m3, _⟩ := tn q d h
        rw [m2]
        exact .inl (h4 q d0 m1 (m3.symm.trans ht))
      · obtain ⟨d0, m1, m2⟩ := k5.2 q hq
        obtain ⟨d1, n1, n2, n3⟩ := fw q d0 m1
        exact ⟨d1, n1, n3.trans m2⟩
    · have P := P.weak
      unfold Ph at P ⊢
      cases hp : S.phase with
      | walk => exact absurd hp hw
      | lost => rw [hp] at P; rw [show (S.setCell p c2).phase = .lost from hp]; exact P
      | rest =>
        rw [hp] at P
        rw [show (S.setCell p c2).phase = .rest from hp]
        refine ⟨P.1, fun q d h => ?_⟩
        obtain ⟨d0, m1, m2, m3, _⟩ := tn q d h
        exact m3.trans (P.2 q d0 m1)
      | give =>
        rw [hp] at P
        rw [show (S.setCell p c2).phase = .give from hp]
        obtain ⟨k1, k2, k3, k4, k5, k6⟩ := P
        refine ⟨k1, fun q d h hs => ?_, k3, by show S.stop ≤ (S.cells.set p (some c2)).length; rw [List.length_set]; exact k4, fun b => ?_, fun q d h ht => ?_⟩
        · obtain ⟨d0, m1, m2, m3, _⟩ := tn q d h
          exact m3.trans (k2 q d0 m1 (m2 ▸ hs))
        · rw [show (g.setLink c.birth f y).doomed b ↔ g.doomed b from Iff.rfl, k5 b]
          constructor
          · rintro ⟨q, d, a1, a2, a3⟩
            obtain ⟨d1, m1, m2, m3⟩ := fw q d a1
            exact ⟨q, d1, m1, m2.trans a2, fun z => a3 (m3.symm.trans z)⟩
          · rintro ⟨q, d, a1, a2, a3⟩
            obtain ⟨d1, m1, m2, m3, _⟩ := tn q d a1
            exact ⟨q, d1, m1, m2.symm.trans a2, fun z => a3 (m3.trans z)⟩
        · obtain ⟨d0, m1, m2, m3, _⟩ := tn q d h
          exact k6 q d0 m1 fun z => ht (m3.trans z)
/-- a load -/
theorem load_like {S : WS} {p : Nat} {c : CellD} {l : Int} (hc : S.cell p = some c) : Like S (S.setCell p { c with load := l }) [] := by
  have hp := cell_lt hc
  have ce : ∀ q, (S.setCell p { c with load := l }).cell q = if q = p then some { c with load := l } else S.cell q := cell_set hp
  refine ⟨rfl, by show (S.cells.set p _).length = _; rw [List.length_set], fun q d h => ?_, fun q d h => ?_, fun ⟨k1, k2⟩ => ⟨k1, fun q hq => ?_⟩⟩
  · rw [ce]
    by_cases e : q = p
    · rw [if_pos e]
      rw [e, hc] at h
      cases h
      exact ⟨_, rfl, rfl, rfl, .inl rfl⟩
    · rw [if_neg e]
      exact ⟨d, h, rfl, rfl, .inl rfl⟩
  · rw [ce] at h
    by_cases e : q = p
    · exact ⟨c, e ▸ hc⟩
    · rw [if_neg e] at h
      exact ⟨d, h⟩
  · obtain ⟨d, m1, m2⟩ := k2 q hq
    rw [ce]
    by_cases e : q = p
    · rw [if_pos e]
      rw [e, hc] at m1
      cases m1
      exact ⟨_, rfl, m2⟩
    · rw [if_neg e]
      exact ⟨d, m1, m2⟩
/-! ### a cell is made -/
theorem link_snoc {g : GS} {fs : List (Option Int)} (b : Int) {g' : GS} (hg : g'.links = g.links ++ [fs]) : g'.link b = if b = (g.links.length : Int) + 1 then some fs else g.link b := by
  unfold GS.link
  rw [hg]
  by_cases h : 1 ≤ b
  · rw [if_pos h, if_pos h]
    by_cases e : b = (g.links.length : Int) + 1
    · rw [if_pos e]
      have : (b - 1).toNat = g.links.length := by omega
      rw [this]
      simp
    · rw [if_neg e]
      by_cases k : (b - 1).toNat < g.links.length
      · rw [List.getElem?_append_left k]
      · rw [List.getElem?_eq_none (by rw [List.length_append]; simp; omega), List.getElem?_eq_none (by omega)]
  · rw [if_neg h, if_neg h, if_neg (by omega)]
theorem link_le {g : GS} {b : Int} {fs : List (Option Int)} (h : g.link b = some fs) : 1 ≤ b ∧ b ≤ (g.links.length : Int) := by
  unfold GS.link at h
  by_cases k : 1 ≤ b
  · rw [if_pos k] at h
    have := (List.getElem?_eq_some_iff.mp h).1
    exact ⟨k, by omega⟩
  · rw [if_neg k] at h
    cases h
theorem sim_made {Sf : Int → Prop} {S S' : WS} {g g' : GS} (B : SimB Sf S g) (P : Ph true Sf S g) {p many : Nat} {c : CellD} {cs : List (Option CellD)} {u : Int} {r : Addr → Role} {h s : Nat} {v0 : Option Nat} (hv : S.slot h s = some v0)
    (c1 : c.birth = S.born + 1) (c2 : c.tone = S.sense) (c3 : c.fields = List.replicate many none) (hp : (p < S.cells.length ∧ S.cell p = none ∧ cs = S.cells.set p (some c)) ∨ (p = S.cells.length ∧ cs = S.cells ++ [some c]))
    (hS : S' = ({ S with cells := cs, used := u, born := S.born + 1, rl := r } : WS).setSlot h s (some p))
    (hg : g' = ({ g with links := g.links ++ [List.replicate many none], there := fun x => g.there x ∨ x = (g.links.length : Int) + 1 } : GS).setSlot h s (some ((g.links.length : Int) + 1))) :
    ∃ Sf', SimB Sf' S' g' ∧ Ph false Sf' S' g' := by
  have bb := B.born
  have ce : ∀ q, S'.cell q = if q = p then some c else S.cell q := fun q => by
    have e : S'.cell q = (cs[q]?).join := by rw [hS]; rfl
    rw [e]
    rcases hp with ⟨h1, h2, h3⟩ | ⟨h1, h2⟩
    · rw [h3]
      exact join_set h1
    · rw [h2, h1]
      exact join_snoc
  have hn : S.cell p = none := by
    rcases hp with ⟨h1, h2, h3⟩ | ⟨h1, h2⟩
    · exact h2
    · unfold WS.cell
      rw [List.getElem?_eq_none (by omega)]
      rfl
  have ln : S.cells.length ≤ S'.cells.length ∧ p < S'.cells.length := by
    have e : S'.cells = cs := by rw [hS]; rfl
    rw [e]
    rcases hp with ⟨h1, h2, h3⟩ | ⟨h1, h2⟩
    · rw [h3, List.length_set]
      exact ⟨Nat.le_refl _, h1⟩
    · rw [h2, List.length_append]
      simp
      omega
  have s1 : S'.born = S.born + 1 := by rw [hS]; rfl
  have s2 : S'.sense = S.sense := by rw [hS]; rfl
  have s3 : S'.phase = S.phase := by rw [hS]; rfl
  have s4 : S'.names = S.names := by rw [hS]; rfl
  have s5 : S'.grey = S.grey := by rw [hS]; rfl
  have s6 : S'.at_ = S.at_ := by rw [hS]; rfl
  have s7 : S'.stop = S.stop := by rw [hS]; rfl
  have cb : c.birth = (g.links.length : Int) + 1 := by omega
  have lk : ∀ b, g'.link b = if b = c.birth then some (List.replicate many none) else g.link b := fun b => by
    rw [cb]
    exact link_snoc b (by rw [hg]; rfl)
  have od : ∀ q d, S.cell q = some d → S'.cell q = some d := fun q d h => by
    rw [ce, if_neg (fun e => by rw [e, hn] at h; cases h)]
    exact h
  have nw : S'.cell p = some c := by rw [ce, if_pos rfl]
  have bk : ∀ q d, S'.cell q = some d → (q = p ∧ d = c) ∨ S.cell q = some d := fun q d h => by
    rw [ce] at h
    by_cases e : q = p
    · rw [if_pos e] at h
      cases h
      exact .inl ⟨e, rfl⟩
    · rw [if_neg e] at h
      exact .inr h
  have up : ∀ x z, Rel1 S Sf x z → Rel1 S' (fun b => Sf b ∨ b = c.birth) x z := fun x z q => q.mono (fun q d _ h => ⟨d, od q d h, rfl⟩) fun _ h => .inl h
  have me : Rel1 S' (fun b => Sf b ∨ b = c.birth) (some p) (some c.birth) := .inr ⟨p, c, rfl, rfl, nw, .inr rfl⟩
  have gs : g'.slots = g.slots.modify h fun d => d.set s (some c.birth) := by rw [hg, cb]; rfl
  have hs : S'.hands = S.hands.modify h fun d => { d with slots := d.slots.set s (some p) } := by rw [hS]; rfl
  have rch : RchB g' c.birth := by
    obtain ⟨y, hy, _⟩ := B.slot hv
    obtain ⟨d, hd, hds⟩ := gslot_iff.mp hy
    have hlt := (List.getElem?_eq_some_iff.mp hds).1
    have e1 : g'.slots[h]? = some (d.set s (some c.birth)) := by
      rw [gs, List.getElem?_modify, hd]
      simp
    exact .root (List.mem_of_getElem? e1) (List.mem_of_getElem? (i := s) (by rw [List.getElem?_set]; simp [hlt]))
  refine ⟨fun b => Sf b ∨ b = c.birth, ⟨?_, fun b hb => ?_, fun n hn' => ?_, fun q d hd => ?_, fun q q' d d' hd hd' e => ?_, ?_, fun b => ?_, fun q d hd x hx => ?_⟩, ?_⟩
  · rw [gs, hs]
    exact (B.slots.mono fun d r q => q.mono up).modify (fun _ _ q => q.set me s) h
  · rcases hb with hb | hb
    · obtain ⟨q, d, fs, k1, k2, k3, k4⟩ := B.safe b hb
      have nb : b ≠ c.birth := fun z => by
        have := (B.births q d k1).2
        omega
      exact ⟨q, d, fs, od q d k1, k2, by rw [lk, if_neg nb]; exact k3, k4.mono up⟩
    · refine ⟨p, c, List.replicate many none, nw, hb.symm, by rw [lk, if_pos hb], ?_⟩
      rw [c3]
      exact All2.repl (Rel1.none _ _) many
  · rw [s4] at hn'
    obtain ⟨k1, k2, k3⟩ := B.names n hn'
    refine ⟨by omega, by omega, fun hg0 => .inl (k3 ?_)⟩
    have z : n.place ≠ p := fun e => by
      unfold WS.goneB at hg0
      rw [e, nw] at hg0
      have z1 : decide (c.birth ≠ n.birth) = true := decide_eq_true (by omega)
      dsimp only at hg0
      rw [z1] at hg0
      simp at hg0
    unfold WS.goneB at hg0 ⊢
    rw [ce, if_neg z, s2, s3] at hg0
    exact hg0
  · rcases bk q d hd with ⟨_, e⟩ | hd
    · rw [e, s1, c1]
      have : 0 ≤ S.born := by omega
      omega
    · have := B.births q d hd
      omega
  · rcases bk q d hd with ⟨e1, e2⟩ | hd
    · rcases bk q' d' hd' with ⟨e3, e4⟩ | hd'
      · omega
      · have := (B.births q' d' hd').2
        rw [e2] at e
        omega
    · rcases bk q' d' hd' with ⟨e3, e4⟩ | hd'
      · have := (B.births q d hd).2
        rw [e4] at e
        omega
      · exact B.inj q q' d d' hd hd' e
  · rw [s1, bb]
    have e : g'.links = g.links ++ [List.replicate many none] := by rw [hg]; rfl
    rw [e, List.length_append]
    simp
  · have e : g'.there b ↔ g.there b ∨ b = (g.links.length : Int) + 1 := by rw [hg]; exact Iff.rfl
    rw [e, B.there b]
    constructor
    · rintro (⟨q, d, k1, k2⟩ | k)
      · exact ⟨q, d, od q d k1, k2⟩
      · exact ⟨p, c, nw, by omega⟩
    · rintro ⟨q, d, k1, k2⟩
      rcases bk q d k1 with ⟨_, e⟩ | k1
      · right
        rw [e] at k2
        omega
      · exact .inl ⟨q, d, k1, k2⟩
  · rcases bk q d hd with ⟨_, e⟩ | hd
    · rw [e, c3] at hx
      have := List.eq_of_mem_replicate hx
      cases this
    · have := B.fields q d hd x hx
      omega
  · by_cases hw : S.phase = .walk
    · obtain ⟨M, h1, ⟨k1, k2, k3, k4, k5⟩, h3, h4⟩ := P.walk hw
      unfold Ph
      rw [s3, hw]
      refine ⟨M, by rw [hg]; exact h1, ⟨fun b fs q hb hl hq => ?_, fun b hb => .inl (k2 b hb), fun q d hd ht => ?_, fun b hb => ?_, ?_⟩, fun e => by cases e⟩
      · have sb := k2 b hb
        obtain ⟨q0, d0, fs0, m1, m2, m3, m4⟩ := B.safe b sb
        have nb : b ≠ c.birth := fun z => by
          have := (B.births q0 d0 m1).2
          omega
        rw [lk, if_neg nb] at hl
        exact k1 b fs q hb hl hq
      · rcases bk q d hd with ⟨_, e⟩ | hd
        · rw [e]
          exact .inr rch
        · exact .inl (h4 q d hd (s2 ▸ ht))
      · have e : g'.early b ↔ g.early b := by rw [hg]; exact Iff.rfl
        have e2 : g'.there b ↔ g.there b ∨ b = (g.links.length : Int) + 1 := by rw [hg]; exact Iff.rfl
        exact e2.mpr (.inl (k4 b (e.mp hb)))
      · refine ⟨s5 ▸ k5.1, fun q hq => ?_⟩
        rw [s5] at hq
        obtain ⟨d, m1, m2⟩ := k5.2 q hq
        exact ⟨d, od q d m1, by rw [s2]; exact m2⟩
    · have P := P.weak
      unfold Ph at P ⊢
      rw [s3]
      cases hp' : S.phase with
      | walk => exact absurd hp' hw
      | lost => rw [hp'] at P; exact P
      | rest =>
        rw [hp'] at P
        refine ⟨by rw [hg]; exact P.1, fun q d hd => ?_⟩
        rw [s2]
        rcases bk q d hd with ⟨_, e⟩ | hd
        · rw [e]
          exact c2
        · exact P.2 q d hd
      | give =>
        rw [hp'] at P
        obtain ⟨k1, k2, k3, k4, k5, k6⟩ := P
        refine ⟨by rw [hg]; exact k1, fun q d hd hs => ?_, by rw [s6, s7]; exact k3, by rw [s7]; omega, fun b => ?_, fun q d hd ht => ?_⟩
        · rw [s2]
          rcases bk q d hd with ⟨_, e⟩ | hd
          · rw [e]
            exact c2
          · refine k2 q d hd ?_
            rcases hs with hs | hs
            · exact hs
            · have := (B.births q d hd).2
              omega
        · have e : g'.doomed b ↔ g.doomed b := by rw [hg]; exact Iff.rfl
          rw [e, k5 b, s2]
          constructor
          · rintro ⟨q, d, a1, a2, a3⟩
            exact ⟨q, d, od q d a1, a2, a3⟩
          · rintro ⟨q, d, a1, a2, a3⟩
            rcases bk q d a1 with ⟨_, e⟩ | a1
            · rw [e] at a3
              exact absurd c2 a3
            · exact ⟨q, d, a1, a2, a3⟩
        · rw [s6, s7]
          rw [s2] at ht
          rcases bk q d hd with ⟨_, e⟩ | hd
          · rw [e] at ht
            exact absurd c2 ht
          · exact k6 q d hd ht
end G

namespace G
open PySem L2
theorem rel_cell {S : WS} {Sf : Int → Prop} {p : Nat} {c : CellD} {y : Option Int} (hc : S.cell p = some c) (r : Rel1 S Sf (some p) y) : y = some c.birth ∧ Sf c.birth := by
  rcases r with ⟨e, _⟩ | ⟨q, d, e1, e2, e3, e4⟩
  · cases e
  · cases e1
    rw [hc] at e3
    cases e3
    exact ⟨e2, e4⟩
theorem rel_none {S : WS} {Sf : Int → Prop} {y : Option Int} (r : Rel1 S Sf none y) : y = none := by
  rcases r with ⟨_, e⟩ | ⟨q, d, e1, _⟩
  · exact e
  · cases e1
theorem safe_cell {S : WS} {Sf : Int → Prop} {g : GS} (B : SimB Sf S g) {p : Nat} {c : CellD} (hc : S.cell p = some c) (hs : Sf c.birth) : ∃ fs, g.link c.birth = some fs ∧ All2 (Rel1 S Sf) c.fields fs := by
  obtain ⟨q, d, fs, h1, h2, h3, h4⟩ := B.safe _ hs
  have e := B.inj q p d c h1 hc h2
  subst e
  rw [hc] at h1
  cases h1
  exact ⟨fs, h3, h4⟩
theorem rch_link {g : GS} {b q : Int} {fs : List (Option Int)} {f : Nat} (h : RchB g b) (hl : g.link b = some fs) (hf : fs[f]? = some (some q)) : RchB g q := .step h hl (List.mem_of_getElem? hf)
/-- what a place of a slot or of a field of a held cell tells of its birth -/
theorem place_rch {S : WS} {Sf : Int → Prop} {g : GS} {x : Option Nat} {y : Option Int} (r : Rel1 S Sf x y) (hy : ∀ b, y = some b → RchB g b) {p : Nat} {c : CellD} (e : x = some p) (hc : S.cell p = some c) : RchB g c.birth := by
  subst e
  exact hy _ (rel_cell hc r).1
theorem ph_like_rch {S S1 : WS} {L : List (Option Nat)} (K : Like S S1 L) {Sf : Int → Prop} {g : GS} (P : Ph true Sf S g) (hM : ∀ p c, some p ∈ L → S.cell p = some c → RchB g c.birth) : Ph true Sf S1 g := by
  by_cases hw : S.phase = .walk
  · obtain ⟨M, h1, h2, h3, h4⟩ := P.walk hw
    refine ph_like K P fun M' h p c hL hc => ?_
    rw [h1] at h
    cases h
    exact h3 _ (hM p c hL hc)
  · refine ph_like K P fun M' h p c hL hc => ?_
    unfold Ph at P
    cases hp : S.phase with
    | walk => exact absurd hp hw
    | lost => rw [hp] at P; exact P.elim
    | rest =>
      rw [hp] at P
      rw [P.1] at h
      cases h
    | give =>
      rw [hp] at P
      rw [P.met] at h
      cases h
/-- a name is given -/
theorem sim_named {Sf : Int → Prop} {S : WS} {g : GS} (B : SimB Sf S g) (P : Ph true Sf S g) {p : Nat} {c : CellD} {n : NameD} {r : Addr → Role} (hc : S.cell p = some c) (hs : Sf c.birth) (e1 : n.place = p) (e2 : n.birth = c.birth) : SimB Sf (S.putName n r) g ∧ Ph true Sf (S.putName n r) g := by
  have nm : ∀ m ∈ (S.putName n r).names, m = n ∨ m ∈ S.names := fun m hm => by
    have hm : m ∈ (if S.names.any (fun m => decide (m.word = n.word)) = true then S.names.map (fun m => if m.word = n.word then n else m) else S.names ++ [n]) := hm
    split at hm
    · obtain ⟨k, hk, e⟩ := List.mem_map.mp hm
      split at e
      · exact .inl e.symm
      · exact .inr (e ▸ hk)
    · rcases List.mem_append.mp hm with h | h
      · exact .inr h
      · exact .inl (by simpa using h)
  refine ⟨⟨B.slots, B.safe, fun m hm => ?_, B.births, B.inj, B.born, B.there, B.fields⟩, ?_⟩
  · rcases nm m hm with rfl | hm
    · rw [e1, e2]
      exact ⟨cell_lt hc, (B.births p c hc).2, fun _ => hs⟩
    · exact B.names m hm
  · unfold Ph at P ⊢
    cases hp : S.phase with
    | walk =>
      rw [hp] at P
      rw [show (S.putName n r).phase = .walk from hp]
      obtain ⟨M, h1, ⟨k1, k2, k3, k4, k5⟩, h3⟩ := P
      exact ⟨M, h1, ⟨k1, k2, k3, k4, k5⟩, h3⟩
    | lost => rw [hp] at P; rw [show (S.putName n r).phase = .lost from hp]; exact P
    | rest => rw [hp] at P; rw [show (S.putName n r).phase = .rest from hp]; exact P
    | give =>
      rw [hp] at P
      rw [show (S.putName n r).phase = .give from hp]
      obtain ⟨k1, k2, k3, k4, k5, k6⟩ := P
      exact ⟨k1, k2, k3, k4, k5, k6⟩
/-- the end of a deed: the law meets what can be come to -/
theorem deal_end {Sf : Int → Prop} {S' : WS} {g g1 : GS} {r : Row} {e : Ev} (B : SimB Sf S' g1) (P : Ph false Sf S' g1) (d : LawDeed g r e g1) : ∃ g', LawDeal g r e g' ∧ Sim S' g' :=
  ⟨metUp g1, .mk d B.linked, Sf, met_up B P⟩
theorem deal_sim {S S' : WS} {g : GS} {r : Row} {e : Ev} (X : Sim S g) (d : DealR S r e S') : ∃ g', LawDeal g r e g' ∧ Sim S' g' := by
  obtain ⟨Sf, B, P⟩ := X
  cases d with
  | made hv c1 c2 c3 hp =>
    obtain ⟨Sf', B', P'⟩ := sim_made B P hv c1 c2 c3 hp rfl rfl
    refine deal_end B' P' ?_
    rw [B.born]
    exact .made rfl
  | full => exact deal_end B P.weak (.notMade (show ("refused" : Str) ≠ "made" by decide))
  | got h1 h2 h3 =>
    obtain ⟨y, hy, ry⟩ := B.slot h1
    obtain ⟨rfl, hs⟩ := rel_cell h2 ry
    obtain ⟨fs, hl, ha⟩ := safe_cell B h2 hs
    obtain ⟨z, hz, rz⟩ := ha.get h3
    exact deal_end (simB_slot B rz _ _) (ph_slot P _ _ _ _) (.got hy hl hz)
  | getNo h1 =>
    refine deal_end B P.weak (.getNo ?_)
    rcases h1 with h1 | ⟨p, c, h1, h2, h3⟩
    · obtain ⟨y, hy, ry⟩ := B.slot h1
      rw [rel_none ry] at hy
      exact .inl hy
    · obtain ⟨y, hy, ry⟩ := B.slot h1
      obtain ⟨rfl, hs⟩ := rel_cell h2 ry
      obtain ⟨fs, hl, ha⟩ := safe_cell B h2 hs
      exact .inr ⟨_, fs, hy, hl, by rw [← ha.1]; exact h3⟩
  | @putIn S1 h t f s p c c1 old new L _ h1 h2 h3 h4 h5 h6 h7 =>
    obtain ⟨y, hy, ry⟩ := B.slot h1
    obtain ⟨rfl, hs⟩ := rel_cell h2 ry
    obtain ⟨fs, hl, ha⟩ := safe_cell B h2 hs
    obtain ⟨z, hz, rz⟩ := ha.get h3
    obtain ⟨v, hv, rv⟩ := B.slot h4
    have rc := gslot_rch hy
    have K : Like S S1 L := by rw [h6]; exact noted_like L S
    have B1 := simB_like K B
    have P1 := ph_like_rch K P fun q d hL hd => by
      rcases h5 _ hL with e | e
      · exact place_rch rz (fun b hb => rch_link rc hl (by rw [hz, hb])) e.symm hd
      · exact place_rch rv (fun b hb => gslot_rch (by rw [hv, hb])) e.symm hd
    obtain ⟨d1, k1, k2, k3, _⟩ := K.fwd p c h2
    rw [h7] at k1
    cases k1
    have Q := sim_field (c2 := { c1 with fields := c1.fields.set f new }) B1 P1 h7 (by rw [k2]; exact rc) (K.rel rv) (fun b hb => gslot_rch (by rw [hv, hb])) rfl
    rw [show g.setLink c1.birth f v = g.setLink c.birth f v by rw [k2]] at Q
    exact deal_end Q.1 Q.2 (.putIn hy hl hz hv)
  | putNo h1 =>
    refine deal_end B P.weak (.putNo ?_)
    rcases h1 with h1 | ⟨p, c, h1, h2, h3⟩
    · obtain ⟨y, hy, ry⟩ := B.slot h1
      rw [rel_none ry] at hy
      exact .inl hy
    · obtain ⟨y, hy, ry⟩ := B.slot h1
      obtain ⟨rfl, hs⟩ := rel_cell h2 ry
      obtain ⟨fs, hl, ha⟩ := safe_cell B h2 hs
      exact .inr ⟨_, fs, hy, hl, by rw [← ha.1]; exact h3⟩
  | copied h1 =>
    obtain ⟨y, hy, ry⟩ := B.slot h1
    exact deal_end (simB_slot B ry _ _) (ph_slot P _ _ _ _) (.copied hy)
  | dropped => exact deal_end (simB_slot B (Rel1.none _ _) _ _) (ph_slot P _ _ _ _) .dropped
  | @given S1 h s k t v L _ h1 h2 h3 =>
    obtain ⟨y, hy, ry⟩ := B.slot h1
    have K : Like S S1 L := by rw [h3]; exact noted_like L S
    have B1 := simB_like K B
    have P1 := ph_like_rch K P fun q d hL hd => place_rch ry (fun b hb => gslot_rch (by rw [hy, hb])) (h2 _ hL).symm hd
    exact deal_end (simB_slot B1 (K.rel ry) _ _) (ph_slot P1 _ _ _ _) (.given hy)
  | @wrote h t load p c _ h1 h2 =>
    have K := load_like (l := load) h2
    exact deal_end (simB_like K B) (ph_like_rch K P fun q d hL => by simp at hL).weak .wrote
  | wroteNo => exact deal_end B P.weak .wrote
  | read => exact deal_end B P.weak .read
  | @named h t w p c n r _ h1 h2 h3 h4 =>
    obtain ⟨y, hy, ry⟩ := B.slot h1
    obtain ⟨rfl, hs⟩ := rel_cell h2 ry
    have Q := sim_named (r := r) B P h2 hs h3 h4
    exact deal_end Q.1 Q.2.weak .named
  | namedNo => exact deal_end B P.weak .named
  | @sought S1 h s w n c v0 hv h1 h2 h3 h4 =>
    obtain ⟨m1, m2, m3⟩ := B.names n h1
    have hb : n.birth = c.birth := by
      unfold WS.goneB at h2
      rw [h3] at h2
      dsimp only at h2
      have := (Bool.or_eq_false_iff.mp h2).1
      have := of_decide_eq_false this
      omega
    have hs : Sf c.birth := hb ▸ m3 h2
    have K : Like S S1 [some n.place] := by rw [h4]; exact noted_like _ S
    have B1 := simB_like K B
    obtain ⟨c1, k1, k2, k3, _⟩ := K.fwd _ c h3
    have ry : Rel1 S1 Sf (some n.place) (some c.birth) := .inr ⟨_, c1, rfl, by rw [k2], k1, by rw [k2]; exact hs⟩
    have hv1 : S1.slot h s = some v0 := by
      have e : S1.hands = S.hands := by rw [K.eq]
      unfold WS.slot at hv ⊢
      rw [e]
      exact hv
    have rc : RchB (g.setSlot h s (some c.birth)) c.birth := slot_in B1 hv1 _
    obtain ⟨fs, hl, _⟩ := safe_cell B h3 hs
    refine deal_end (simB_slot B1 ry h s) ?_ (.sought ⟨fs, hl⟩)
    by_cases hw : S.phase = .walk
    · obtain ⟨M, q1, ⟨q2, q3, q4, q5, q6⟩, q7, q8⟩ := P.walk hw
      have e1 : S1.phase = S.phase := by rw [K.eq]
      have e2 : S1.sense = S.sense := by rw [K.eq]
      unfold Ph
      rw [show (S1.setSlot h s (some n.place)).phase = .walk from e1.trans hw]
      refine ⟨M, q1, ⟨q2, q3, fun p d hd ht => ?_, q5, K.grey q6⟩, fun e => by cases e⟩
      have hd : S1.cell p = some d := hd
      have ht : d.tone = S1.sense := ht
      obtain ⟨d0, a1, a2, a3, a4⟩ := K.back hd
      rcases a4 with a4 | ⟨_, _, a4⟩
      · rw [a2]
        exact .inl (q8 p d0 a1 (by rw [← a4, ht, e2]))
      · have e : p = n.place := by simpa using a4
        subst e
        rw [h3] at a1
        cases a1
        rw [a2]
        exact .inr rc
    · have e : S1 = S := by rw [h4, noted_walk hw]
      rw [e]
      exact ph_slot P _ _ _ _
  | soughtNo => exact deal_end (simB_slot B (Rel1.none _ _) _ _) (ph_slot P _ _ _ _) .soughtNo
  | seekNo => exact deal_end B P.weak (.seekNo (show ("refused" : Str) ≠ "sought" by decide))
/-! ### the sweeper -/
theorem mem_pale {S : WS} {b : Int} : b ∈ S.paleB ↔ ∃ p c, S.cell p = some c ∧ c.birth = b ∧ c.tone ≠ S.sense := by
  unfold WS.paleB
  rw [List.mem_filterMap]
  constructor
  · rintro ⟨o, ho, e⟩
    obtain ⟨p, hp⟩ := List.getElem?_of_mem ho
    cases o with
    | none => simp at e
    | some c =>
      have e : (if c.tone ≠ S.sense then some c.birth else none) = some b := e
      by_cases h : c.tone ≠ S.sense
      · rw [if_pos h] at e
        exact ⟨p, c, cell_iff.mpr hp, Option.some.inj e, h⟩
      · rw [if_neg h] at e
        cases e
  · rintro ⟨p, c, h1, h2, h3⟩
    refine ⟨some c, List.mem_of_getElem? (cell_iff.mp h1), ?_⟩
    show (if c.tone ≠ S.sense then some c.birth else none) = some b
    rw [if_pos h3, h2]
theorem pale_nodup {S : WS} (inj : ∀ p q c d, S.cell p = some c → S.cell q = some d → c.birth = d.birth → p = q) : S.paleB.Nodup := by
  unfold WS.paleB
  rw [List.Nodup, List.pairwise_filterMap]
  rw [List.pairwise_iff_getElem]
  intro i j hi hj hij b hb b' hb' e
  subst e
  have f : ∀ k (hk : k < S.cells.length), (S.cells[k].bind fun c => if c.tone ≠ S.sense then some c.birth else none) = some b → ∃ c, S.cell k = some c ∧ c.birth = b := fun k hk h => by
    cases ho : S.cells[k] with
    | none =>
      rw [ho] at h
      simp at h
    | some c =>
      rw [ho] at h
      have h : (if c.tone ≠ S.sense then some c.birth else none) = some b := h
      refine ⟨c, cell_iff.mpr ((List.getElem?_eq_getElem hk).trans (by rw [ho])), ?_⟩
      split at h
      · exact Option.some.inj h
      · cases h
  obtain ⟨c, h1, h2⟩ := f i hi hb
  obtain ⟨d, h3, h4⟩ := f j hj hb'
  have := inj i j c d h1 h3 (h2.trans h4.symm)
  omega
theorem gone_sim {S S' : WS} (hc : ∀ q, S'.cell q = S.cell q) (hp : S.phase ≠ .give) (hp' : S'.phase ≠ .give) (q : Nat) (b : Int) : S'.goneB q b = S.goneB q b := by
  unfold WS.goneB
  rw [hc]
  cases S.cell q with
  | none => rfl
  | some c =>
    dsimp only
    rw [decide_eq_false hp, decide_eq_false hp']
    rfl
theorem simB_same {Sf : Int → Prop} {S S' : WS} {g g' : GS} (B : SimB Sf S g) (e1 : S'.cells = S.cells) (e2 : S'.hands = S.hands) (e3 : S'.names = S.names) (e4 : S'.born = S.born) (hg : ∀ q b, S'.goneB q b = false → S.goneB q b = false)
    (g1 : g'.slots = g.slots) (g2 : g'.links = g.links) (g3 : ∀ b, g'.there b ↔ g.there b) : SimB Sf S' g' := by
  have ce : ∀ q, S'.cell q = S.cell q := fun q => by
    unfold WS.cell
    rw [e1]
  have lk : g'.link = g.link := by
    funext x
    unfold GS.link
    rw [g2]
  have up : ∀ x z, Rel1 S Sf x z → Rel1 S' Sf x z := fun x z q => q.mono (fun q d _ h => ⟨d, by rw [ce]; exact h, rfl⟩) fun _ h => h
  refine ⟨by rw [e2, g1]; exact B.slots.mono fun h r q => q.mono up, fun b hb => ?_, fun n hn => ?_, fun p c hc => ?_, fun p q c d hc hd => ?_, by rw [e4, g2]; exact B.born, fun b => ?_, fun p c hc q hq => ?_⟩
  · obtain ⟨p, c, fs, h1, h2, h3, h4⟩ := B.safe b hb
    exact ⟨p, c, fs, by rw [ce]; exact h1, h2, by rw [lk]; exact h3, h4.mono up⟩
  · rw [e3] at hn
    obtain ⟨h1, h2, h3⟩ := B.names n hn
    exact ⟨by rw [e1]; exact h1, by rw [e4]; exact h2, fun h => h3 (hg _ _ h)⟩
  · rw [ce] at hc
    rw [e4]
    exact B.births p c hc
  · rw [ce] at hc hd
    exact B.inj p q c d hc hd
  · rw [g3, B.there b]
    simp only [ce]
  · rw [ce] at hc
    rw [e1]
    exact B.fields p c hc q hq
theorem slots_rch {Sf : Int → Prop} {S : WS} {g : GS} (B : SimB Sf S g) {L : List (Option Nat)} (h : FromSlots S L) {p : Nat} {c : CellD} (hL : some p ∈ L) (hc : S.cell p = some c) : RchB g c.birth := by
  obtain ⟨d, hd, hx⟩ := h _ hL
  obtain ⟨r, hr, k⟩ := B.slots.mem hd
  obtain ⟨y, hy, q⟩ := k.mem hx
  obtain ⟨e, _⟩ := rel_cell hc q
  subst e
  exact .root hr hy
theorem step_other {g : GS} {w : Str} {t : V} {n : List Int} (h : w ≠ ("begin" : Str) ∧ w ≠ ("cut" : Str) ∧ w ≠ ("back" : Str) ∧ w ≠ ("end" : Str)) : LawStep g ⟨w, t, n⟩ g := .other h.1 h.2.1 h.2.2.1 h.2.2.2
/-- what is come to at the cut is safe -/
theorem rchP_safe {Sf : Int → Prop} {S : WS} {g : GS} (B : SimB Sf S g) (hw : S.phase = .walk) {p : Nat} (h : RchP S (S.heldRows ++ [S.nameRow]) p) : ∃ c, S.cell p = some c ∧ Sf c.birth := by
  induction h with
  | @root r p hr hp ht =>
    obtain ⟨c, hc⟩ := ht
    refine ⟨c, hc, ?_⟩
    rcases List.mem_append.mp hr with hr | hr
    · obtain ⟨d, hd, e⟩ := List.mem_map.mp hr
      obtain ⟨y, hy, k⟩ := B.slots.mem hd
      obtain ⟨z, _, q⟩ := k.mem (e ▸ hp)
      exact (rel_cell hc q).2
    · have e : r = S.nameRow := by simpa using hr
      subst e
      obtain ⟨n, hn, e⟩ := List.mem_map.mp hp
      split at e
      · rename_i hs
        cases e
        unfold WS.staysB at hs
        rw [hc] at hs
        have hg := (Bool.and_eq_true_iff.mp hs).1
        have hg : S.goneB n.place n.birth = false := by simpa using hg
        have k := (B.names n hn).2.2 hg
        have hb : n.birth = c.birth := by
          unfold WS.goneB at hg
          rw [hc] at hg
          dsimp only at hg
          have := (Bool.or_eq_false_iff.mp hg).1
          have := of_decide_eq_false this
          omega
        rw [← hb]
        exact k
      · cases e
  | @step p c q _ hc hq ht ih =>
    obtain ⟨c', hc', hs⟩ := ih
    rw [hc] at hc'
    cases hc'
    obtain ⟨fs, hl, ha⟩ := safe_cell B hc hs
    obtain ⟨d, hd⟩ := ht
    obtain ⟨y, _, r⟩ := ha.mem hq
    exact ⟨d, hd, (rel_cell hd r).2⟩
theorem step_sim {S S' : WS} {g : GS} {e : Ev} (X : Sim S g) (d : StepR S e S') : e.word = ("lost" : Str) ∨ ∃ g', LawStep g e g' ∧ Sim S' g' := by
  obtain ⟨Sf, B, P⟩ := X
  cases d with
  | @begin L gl r lk h1 h2 =>
    refine .inr ⟨_, .begin B.linked, Sf, ?_⟩
    have K := noted_like L (S.begun gl r lk)
    have B1 : SimB Sf (S.begun gl r lk) { g with early := g.there, met := some (RchB g) } :=
      simB_same (S' := S.begun gl r lk) (g' := { g with early := g.there, met := some (RchB g) }) B rfl rfl rfl rfl (fun q b h => by rw [← h]; exact (gone_sim (S := S) (S' := S.begun gl r lk) (fun q => rfl) (by rw [h1]; decide) (by show Phase.walk ≠ .give; decide) q b).symm) rfl rfl fun b => Iff.rfl
    refine ⟨simB_like K B1, ph_like_rch K ?_ fun p c hL hc => slots_rch B1 h2 hL hc⟩
    unfold Ph at P
    rw [h1] at P
    show ∃ M, _
    refine ⟨RchB g, rfl, ⟨fun b fs q hb hl hq => .step hb hl hq, fun b hb => rch_safe B hb, fun p c hc ht => ?_, fun b hb => hb, List.nodup_nil, fun q hq => by cases hq⟩, fun _ b hb => rch_eq (g := { g with early := g.there, met := some (RchB g) }) (g' := g) rfl rfl hb⟩
    have h3 := P.2 p c hc
    have ht : c.tone = 1 - S.sense := ht
    omega
  | @walk p gr c h1 h2 h3 =>
    refine .inr ⟨g, step_other (by decide), Sf, ?_⟩
    obtain ⟨M, q1, ⟨q2, q3, q4, q5, q6⟩, q7, q8⟩ := P.walk h1
    have K := noted_like c.fields ({ S with grey := gr, walks := S.walks + 1 } : WS)
    have B1 : SimB Sf ({ S with grey := gr, walks := S.walks + 1 } : WS) g := simB_same (S' := ({ S with grey := gr, walks := S.walks + 1 } : WS)) B rfl rfl rfl rfl (fun q b h => h) rfl rfl fun b => Iff.rfl
    have gk : GreyOk ({ S with grey := gr, walks := S.walks + 1 } : WS) := by
      obtain ⟨a, b⟩ := q6
      rw [h2] at a b
      exact ⟨(List.nodup_cons.mp a).2, fun q hq => b q (List.mem_cons_of_mem _ hq)⟩
    have P1 : Ph true Sf ({ S with grey := gr, walks := S.walks + 1 } : WS) g := by
      unfold Ph
      rw [show ({ S with grey := gr, walks := S.walks + 1 } : WS).phase = .walk from h1]
      exact ⟨M, q1, ⟨q2, q3, q4, q5, gk⟩, fun _ => q7⟩
    refine ⟨simB_like K B1, ph_like K P1 fun M' h q x hL hx => ?_⟩
    rw [q1] at h
    cases h
    have hM : M c.birth := by
      obtain ⟨c', a1, a2⟩ := q6.2 p (by rw [h2]; exact List.mem_cons_self ..)
      rw [h3] at a1
      cases a1
      exact q8 p c h3 a2
    obtain ⟨fs, hl, ha⟩ := safe_cell B h3 (q3 _ hM)
    obtain ⟨y, hy, r⟩ := ha.mem hL
    have hx : S.cell q = some x := hx
    obtain ⟨e, _⟩ := rel_cell hx r
    subst e
    exact q2 _ fs _ hM hl hy
  | @look L b lk n h1 h2 =>
    refine .inr ⟨g, step_other (by decide), Sf, ?_⟩
    have K := noted_like L S
    have B1 := simB_like K B
    have P1 := ph_like_rch K P fun p c hL hc => slots_rch B h2 hL hc
    refine ⟨simB_same (S := (S.noted L).1) (g := g) B1 rfl rfl rfl rfl (fun q b h => h) rfl rfl fun b => Iff.rfl, ?_⟩
    have e1 : (S.noted L).1.phase = .walk := by rw [K.eq]; exact h1
    obtain ⟨M, q1, ⟨q2, q3, q4, q5, q6⟩, q7, q8⟩ := P1.walk e1
    unfold Ph
    rw [show ({ (S.noted L).1 with looks := n, looked := lk } : WS).phase = .walk from e1]
    exact ⟨M, q1, ⟨q2, q3, q4, q5, q6⟩, fun _ => q7⟩
  | @cut S1 L h1 h2 h3 h4 =>
    have K : Like S S1 L := by rw [h3]; exact noted_like L S
    have B1 := simB_like K B
    have P1 := ph_like_rch K P fun p c hL hc => slots_rch B h2 hL hc
    have e1 : S1.phase = .walk := by rw [K.eq]; exact h1
    obtain ⟨M, q1, ⟨q2, q3, q4, q5, q6⟩, q7, q8⟩ := P1.walk e1
    refine .inr ⟨_, .cut q1 (pale_nodup B1.inj) (fun b hb => ?_) (fun b hb => ?_), fun b => ∃ p c, RchP S1 (S1.heldRows ++ [S1.nameRow]) p ∧ S1.cell p = some c ∧ c.birth = b, ?_, ?_⟩
    · obtain ⟨p, c, a1, a2, a3⟩ := mem_pale.mp hb
      exact (B1.there b).mpr ⟨p, c, a1, a2⟩
    · obtain ⟨p, c, a1, a2⟩ := (B1.there b).mp (q5 b hb)
      by_cases ht : c.tone = S1.sense
      · exact .inl (a2 ▸ q8 p c a1 ht)
      · exact .inr (mem_pale.mpr ⟨p, c, a1, a2, ht⟩)
    · have rl : ∀ x y, Rel1 S1 Sf x y → (∀ p, x = some p → S1.There p → RchP S1 (S1.heldRows ++ [S1.nameRow]) p) → Rel1 { S1 with at_ := 0, stop := S1.cells.length, loss := .non, phase := .give } (fun b => ∃ p c, RchP S1 (S1.heldRows ++ [S1.nameRow]) p ∧ S1.cell p = some c ∧ c.birth = b) x y := fun x y r hx => by
        rcases r with r | ⟨p, c, r1, r2, r3, r4⟩
        · exact .inl r
        · exact .inr ⟨p, c, r1, r2, r3, p, c, hx p r1 ⟨c, r3⟩, r3, rfl⟩
      refine ⟨⟨B1.slots.1, fun i d r hd hr => ?_⟩, fun b hb => ?_, fun n hn => ?_, B1.births, B1.inj, B1.born, B1.there, B1.fields⟩
      · have k := B1.slots.2 i d r hd hr
        exact ⟨k.1, fun j x y hx hy => rl x y (k.2 j x y hx hy) fun p e ht => .root (List.mem_append_left _ (List.mem_map.mpr ⟨d, List.mem_of_getElem? hd, rfl⟩)) (e ▸ List.mem_of_getElem? hx) ht⟩
      · obtain ⟨p, c, a1, a2, a3⟩ := hb
        obtain ⟨c', b1, b2⟩ := rchP_safe B1 e1 a1
        rw [a2] at b1
        cases b1
        obtain ⟨fs, hl, ha⟩ := safe_cell B1 a2 b2
        exact ⟨p, c, fs, a2, a3, a3 ▸ hl, ha.1, fun j x y hx hy => rl x y (ha.2 j x y hx hy) fun q e ht => .step a1 a2 (e ▸ List.mem_of_getElem? hx) ht⟩
      · obtain ⟨k1, k2, k3⟩ := B1.names n hn
        refine ⟨k1, k2, fun hg => ?_⟩
        have hg : (match S1.cell n.place with
          | none => true
          | some c => decide (c.birth ≠ n.birth) || (decide (Phase.give = .give) && decide (c.tone ≠ S1.sense))) = false := hg
        cases hc : S1.cell n.place with
        | none =>
          rw [hc] at hg
          cases hg
        | some c =>
          rw [hc] at hg
          dsimp only at hg
          obtain ⟨g1, g2⟩ := Bool.or_eq_false_iff.mp hg
          have g1 : c.birth = n.birth := by simpa using g1
          have g2 : c.tone = S1.sense := by simpa using g2
          refine ⟨n.place, c, .root (List.mem_append_right _ (List.mem_singleton.mpr rfl)) ?_ ⟨c, hc⟩, hc, g1⟩
          refine List.mem_map.mpr ⟨n, hn, ?_⟩
          rw [if_pos]
          unfold WS.staysB WS.goneB
          rw [hc]
          dsimp only
          rw [g1, e1, g2]
          simp
    · show PhG _ _ _
      refine ⟨rfl, fun p c hc hs => ?_, Nat.zero_le _, Nat.le_refl _, fun b => ?_, fun p c hc ht => ⟨Nat.zero_le _, cell_lt hc⟩⟩
      · obtain ⟨p', c', a1, a2, a3⟩ := hs
        have hc : S1.cell p = some c := hc
        have e := B1.inj p' p c' c a2 hc a3
        subst e
        exact h4 _ c a1 hc
      · exact mem_pale
  | lost h1 => exact .inl rfl
  | @back c u n h1 h2 h3 h4 =>
    unfold Ph at P
    rw [h1] at P
    obtain ⟨k1, k2, k3, k4, k5, k6⟩ := P
    have hp := cell_lt h3
    have ns : ¬ Sf c.birth := fun z => h4 (k2 _ c h3 z)
    have ce : ∀ q, WS.cell { S with at_ := S.at_ + 1, passes := n, used := u, cells := S.cells.set S.at_ none } q = if q = S.at_ then none else S.cell q := fun q => join_set hp
    have fw : ∀ q d, Sf d.birth → S.cell q = some d → WS.cell { S with at_ := S.at_ + 1, passes := n, used := u, cells := S.cells.set S.at_ none } q = some d := fun q d hs hd => by
      rw [ce, if_neg]
      · exact hd
      · intro e
        rw [e, h3] at hd
        cases hd
        exact ns hs
    have bk : ∀ q d, WS.cell { S with at_ := S.at_ + 1, passes := n, used := u, cells := S.cells.set S.at_ none } q = some d → q ≠ S.at_ ∧ S.cell q = some d := fun q d hd => by
      rw [ce] at hd
      split at hd
      · cases hd
      · rename_i e
        exact ⟨e, hd⟩
    have up : ∀ x z, Rel1 S Sf x z → Rel1 { S with at_ := S.at_ + 1, passes := n, used := u, cells := S.cells.set S.at_ none } Sf x z := fun x z q => q.mono (fun q d hs h => ⟨d, fw q d hs h, rfl⟩) fun _ h => h
    have th : g.there c.birth := (B.there _).mpr ⟨_, c, h3, rfl⟩
    have dm : g.doomed c.birth := (k5 _).mpr ⟨_, c, h3, rfl, h4⟩
    refine .inr ⟨_, .back dm th, Sf, ⟨B.slots.mono fun h r q => q.mono up, fun b hb => ?_, fun m hm => ?_, fun q d hd => B.births q d (bk q d hd).2, fun q q' d d' hd hd' => B.inj q q' d d' (bk q d hd).2 (bk q' d' hd').2, B.born, fun b => ?_, fun q d hd x hx => ?_⟩, ?_⟩
    · obtain ⟨q, d, fs, m1, m2, m3, m4⟩ := B.safe b hb
      exact ⟨q, d, fs, fw q d (m2 ▸ hb) m1, m2, m3, m4.mono up⟩
    · obtain ⟨m1, m2, m3⟩ := B.names m hm
      refine ⟨by show _ < (S.cells.set S.at_ none).length; rw [List.length_set]; exact m1, m2, fun hg => m3 ?_⟩
      unfold WS.goneB at hg ⊢
      rw [ce] at hg
      split at hg
      · cases hg
      · rename_i heq
        split at heq
        · cases heq
        · rw [heq]
          exact hg
    · show g.there b ∧ b ≠ c.birth ↔ _
      rw [B.there b]
      constructor
      · rintro ⟨⟨q, d, a1, a2⟩, a3⟩
        refine ⟨q, d, ?_, a2⟩
        rw [ce, if_neg]
        · exact a1
        · intro e
          rw [e, h3] at a1
          cases a1
          exact a3 a2.symm
      · rintro ⟨q, d, a1, a2⟩
        obtain ⟨b1, b2⟩ := bk q d a1
        exact ⟨⟨q, d, b2, a2⟩, fun e => b1 (B.inj q _ d c b2 h3 (a2.trans e))⟩
    · show x < (S.cells.set S.at_ none).length
      rw [List.length_set]
      exact B.fields q d (bk q d hd).2 x hx
    · unfold Ph
      rw [show ({ S with at_ := S.at_ + 1, passes := n, used := u, cells := S.cells.set S.at_ none } : WS).phase = .give from h1]
      refine ⟨k1, fun q d hd hs => k2 q d (bk q d hd).2 hs, by show S.at_ + 1 ≤ S.stop; omega, by show S.stop ≤ (S.cells.set S.at_ none).length; rw [List.length_set]; exact k4, fun b => ?_, fun q d hd ht => ?_⟩
      · show g.doomed b ∧ b ≠ c.birth ↔ _
        rw [k5 b]
        constructor
        · rintro ⟨⟨q, d, a1, a2, a4⟩, a3⟩
          refine ⟨q, d, (ce q).trans ?_, a2, a4⟩
          rw [if_neg]
          · exact a1
          · intro e
            rw [e, h3] at a1
            cases a1
            exact a3 a2.symm
        · rintro ⟨q, d, a1, a2, a4⟩
          obtain ⟨b1, b2⟩ := bk q d a1
          exact ⟨⟨q, d, b2, a2, a4⟩, fun e => b1 (B.inj q _ d c b2 h3 (a2.trans e))⟩
      · obtain ⟨b1, b2⟩ := bk q d hd
        have := k6 q d b2 ht
        show S.at_ + 1 ≤ q ∧ q < S.stop
        omega
  | @pass n h1 h2 h3 =>
    unfold Ph at P
    rw [h1] at P
    obtain ⟨k1, k2, k3, k4, k5, k6⟩ := P
    refine .inr ⟨g, step_other (by decide), Sf, simB_same (S := S) (g := g) B rfl rfl rfl rfl (fun q b h => h) rfl rfl fun b => Iff.rfl, ?_⟩
    unfold Ph
    rw [show ({ S with at_ := S.at_ + 1, passes := n } : WS).phase = .give from h1]
    refine ⟨k1, k2, by show S.at_ + 1 ≤ S.stop; omega, k4, k5, fun q d hd ht => ?_⟩
    have hd : S.cell q = some d := hd
    have := k6 q d hd ht
    have nq : q ≠ S.at_ := fun e => ht (h3 d (e ▸ hd))
    show S.at_ + 1 ≤ q ∧ q < S.stop
    omega
  | @fin ns h1 h2 =>
    unfold Ph at P
    rw [h1] at P
    obtain ⟨k1, k2, k3, k4, k5, k6⟩ := P
    have np : ∀ q d, S.cell q = some d → d.tone = S.sense := fun q d hd => Classical.byContradiction fun ht => by
      have := k6 q d hd ht
      omega
    refine .inr ⟨g, .fin fun b hb => ?_, Sf, simB_same (S := S) (g := g) B rfl rfl rfl rfl (fun q b h => ?_) rfl rfl fun b => Iff.rfl, ?_⟩
    · obtain ⟨q, d, a1, a2, a3⟩ := (k5 b).mp hb
      exact a3 (np q d a1)
    · unfold WS.goneB at h ⊢
      have e : WS.cell { S with phase := .rest } q = S.cell q := rfl
      rw [e] at h
      cases hc : S.cell q with
      | none =>
        rw [hc] at h
        cases h
      | some d =>
        rw [hc] at h
        dsimp only at h ⊢
        rw [decide_eq_false (show ¬ d.tone ≠ S.sense from fun z => z (np q d hc))]
        simpa using h
    · exact ⟨k1, np⟩
end G

/-! What the walk asks of a state: bounds and places. -/
namespace G
open PySem L2
/-- a slot that is there -/
def SlotOk (lens : List Nat) (h s : Nat) : Prop := ∃ n, lens[h]? = some n ∧ s < n
def RowOk (lens : List Nat) : Row → Prop
  | .sweep n => 1 ≤ n ∧ n ≤ 1000
  | .make h s many _ => SlotOk lens h s ∧ many ≤ 8
  | .get h s t _ => SlotOk lens h s ∧ SlotOk lens h t
  | .put h t _ s => SlotOk lens h t ∧ SlotOk lens h s
  | .copy h s t => SlotOk lens h s ∧ SlotOk lens h t
  | .drop h s => SlotOk lens h s
  | .give h s g t => SlotOk lens h s ∧ SlotOk lens g t
  | .write h t _ => SlotOk lens h t
  | .read h t => SlotOk lens h t
  | .name h t _ => SlotOk lens h t
  | .seek h s _ => SlotOk lens h s
structure LensOk (lens : List Nat) : Prop where
  many : lens.length ≤ 5
  each : ∀ n ∈ lens, n ≤ 9
structure Bnd (lens : List Nat) (N : Nat) (S : WS) : Prop where
  shape : S.hands.map (fun d => d.slots.length) = lens
  cells : S.cells.length ≤ N
  names : S.names.length ≤ N
  flds : ∀ p c, S.cell p = some c → c.fields.length ≤ 8
theorem Bnd.mono {lens : List Nat} {N M : Nat} {S : WS} (B : Bnd lens N S) (h : N ≤ M) : Bnd lens M S := ⟨B.shape, Nat.le_trans B.cells h, Nat.le_trans B.names h, B.flds⟩
theorem Bnd.slot {lens : List Nat} {N : Nat} {S : WS} (B : Bnd lens N S) {h s : Nat} (k : SlotOk lens h s) : ∃ d v, S.hands[h]? = some d ∧ d.slots[s]? = some v := by
  obtain ⟨n, h1, h2⟩ := k
  rw [← B.shape, List.getElem?_map] at h1
  obtain ⟨d, hd, e⟩ := Option.map_eq_some_iff.mp h1
  subst e
  exact ⟨d, d.slots[s], hd, List.getElem?_eq_getElem h2⟩
theorem Bnd.like {lens : List Nat} {N : Nat} {S S1 : WS} {L : List (Option Nat)} (B : Bnd lens N S) (K : Like S S1 L) : Bnd lens N S1 := by
  refine ⟨by rw [K.eq]; exact B.shape, by rw [K.len]; exact B.cells, by rw [K.eq]; exact B.names, fun p c h => ?_⟩
  obtain ⟨c0, k1, k2, k3, _⟩ := K.back h
  rw [k3]
  exact B.flds p c0 k1
theorem Bnd.setSlot {lens : List Nat} {N : Nat} {S : WS} (B : Bnd lens N S) (h s : Nat) (v : Option Nat) : Bnd lens N (S.setSlot h s v) := by
  refine ⟨?_, B.cells, B.names, B.flds⟩
  rw [← B.shape]
  show (S.hands.modify h fun d => { d with slots := d.slots.set s v }).map (fun d => d.slots.length) = _
  apply List.ext_getElem?
  intro i
  rw [List.getElem?_map, List.getElem?_map, List.getElem?_modify]
  cases S.hands[i]? with
  | none => rfl
  | some d =>
    show some _ = some _
    split
    · simp
    · rfl
theorem Bnd.setCell {lens : List Nat} {N : Nat} {S : WS} (B : Bnd lens N S) {p : Nat} {c : CellD} (hp : p < S.cells.length) (hf : c.fields.length ≤ 8) : Bnd lens N (S.setCell p c) := by
  refine ⟨B.shape, by show (S.cells.set p (some c)).length ≤ N; rw [List.length_set]; exact B.cells, B.names, fun q d hd => ?_⟩
  rw [cell_set hp] at hd
  split at hd
  · cases hd
    exact hf
  · exact B.flds q d hd
theorem Bnd.step {lens : List Nat} {N : Nat} {S S' : WS} {e : Ev} (B : Bnd lens N S) (d : StepR S e S') : e.word = ("lost" : Str) ∨ Bnd lens N S' := by
  cases d with
  | @begin L gl r lk h1 h2 => exact .inr (Bnd.like (S := S.begun gl r lk) ⟨B.shape, B.cells, B.names, B.flds⟩ (noted_like L _))
  | @walk p gr c h1 h2 h3 => exact .inr (Bnd.like (S := ({ S with grey := gr, walks := S.walks + 1 } : WS)) ⟨B.shape, B.cells, B.names, B.flds⟩ (noted_like _ _))
  | @look L b lk n h1 h2 =>
    have B1 := B.like (noted_like L S)
    exact .inr ⟨B1.shape, B1.cells, B1.names, B1.flds⟩
  | @cut S1 L h1 h2 h3 h4 =>
    have B1 : Bnd lens N S1 := by rw [h3]; exact B.like (noted_like L S)
    exact .inr ⟨B1.shape, B1.cells, B1.names, B1.flds⟩
  | lost h1 => exact .inl rfl
  | @back c u n h1 h2 h3 h4 =>
    refine .inr ⟨B.shape, by show (S.cells.set S.at_ none).length ≤ N; rw [List.length_set]; exact B.cells, B.names, fun q d hd => ?_⟩
    have ce : WS.cell { S with at_ := S.at_ + 1, passes := n, used := u, cells := S.cells.set S.at_ none } q = if q = S.at_ then none else S.cell q := join_set (cell_lt h3)
    rw [ce] at hd
    split at hd
    · cases hd
    · exact B.flds q d hd
  | @pass n h1 h2 h3 => exact .inr ⟨B.shape, B.cells, B.names, B.flds⟩
  | @fin ns h1 h2 => exact .inr ⟨B.shape, B.cells, B.names, B.flds⟩
theorem Bnd.deal {lens : List Nat} {N : Nat} {S S' : WS} {r : Row} {e : Ev} (B : Bnd lens N S) (ok : RowOk lens r) (d : DealR S r e S') : Bnd lens (N + 1) S' := by
  have B' := B.mono (Nat.le_succ N)
  cases d with
  | @made h s many bulk p c cs u r v0 hv c1 c2 c3 hp =>
    suffices q : Bnd lens (N + 1) ({ S with cells := cs, used := u, born := S.born + 1, rl := r } : WS) from q.setSlot h s (some p)
    refine ⟨B.shape, ?_, Nat.le_succ_of_le B.names, fun q d hd => ?_⟩
    · show cs.length ≤ N + 1
      have := B.cells
      rcases hp with ⟨h1, h2, h3⟩ | ⟨h1, h2⟩
      · rw [h3, List.length_set]
        omega
      · rw [h2, List.length_append]
        simp
        omega
    · have hd : (cs[q]?).join = some d := hd
      have ce : (cs[q]?).join = if q = p then some c else S.cell q := by
        rcases hp with ⟨h1, h2, h3⟩ | ⟨h1, h2⟩
        · rw [h3]
          exact join_set h1
        · rw [h2, h1]
          exact join_snoc
      rw [ce] at hd
      split at hd
      · cases hd
        rw [c3, List.length_replicate]
        exact ok.2
      · exact B.flds q d hd
  | full => exact B'
  | got => exact B'.setSlot _ _ _
  | getNo => exact B'
  | @putIn S1 h t f s p c c1 old new L _ h1 h2 h3 h4 h5 h6 h7 =>
    have K : Like S S1 L := by rw [h6]; exact noted_like L S
    have B1 := B'.like K
    exact B1.setCell (cell_lt h7) (by rw [List.length_set]; exact B1.flds p c1 h7)
  | putNo => exact B'
  | copied => exact B'.setSlot _ _ _
  | dropped => exact B'.setSlot _ _ _
  | @given S1 h s g t v L _ h1 h2 h3 =>
    have K : Like S S1 L := by rw [h3]; exact noted_like L S
    exact (B'.like K).setSlot _ _ _
  | @wrote h t load p c _ h1 h2 => exact B'.setCell (cell_lt h2) (B.flds p c h2)
  | wroteNo => exact B'
  | read => exact B'
  | @named h t w p c n r _ h1 h2 h3 h4 =>
    refine ⟨B.shape, Nat.le_succ_of_le B.cells, ?_, B.flds⟩
    show (if S.names.any (fun m => decide (m.word = n.word)) = true then S.names.map (fun m => if m.word = n.word then n else m) else S.names ++ [n]).length ≤ N + 1
    have := B.names
    split
    · rw [List.length_map]
      omega
    · rw [List.length_append]
      simp
      omega
  | namedNo => exact B'
  | @sought S1 h s w n c v0 hv h1 h2 h3 h4 =>
    have K : Like S S1 [some n.place] := by rw [h4]; exact noted_like _ S
    exact (B'.like K).setSlot _ _ _
  | soughtNo => exact B'.setSlot _ _ _
  | seekNo => exact B'
/-- what the walk leans on -/
structure Wf (lens : List Nat) (N : Nat) (S : WS) : Prop where
  lensOk : LensOk lens
  small : N ≤ 10000
  bnd : Bnd lens N S
  slots : ∀ d ∈ S.hands, ∀ p, some p ∈ d.slots → ∃ c, S.cell p = some c
  fields : ∀ p c, S.cell p = some c → ∀ q, some q ∈ c.fields → q < S.cells.length
  names : ∀ n ∈ S.names, n.place < S.cells.length
  grey : S.phase = .walk → GreyOk S
  give : S.phase = .give → S.at_ ≤ S.stop ∧ S.stop ≤ S.cells.length
  lost : S.phase ≠ .lost
theorem wf_of {lens : List Nat} {N : Nat} {S : WS} {g : GS} (X : Sim S g) (B : Bnd lens N S) (hl : LensOk lens) (hN : N ≤ 10000) : Wf lens N S := by
  obtain ⟨Sf, A, P⟩ := X
  refine ⟨hl, hN, B, fun d hd p hp => ?_, A.fields, fun n hn => (A.names n hn).1, fun hw => ?_, fun hg => ?_, fun hx => ?_⟩
  · obtain ⟨r, hr, k⟩ := A.slots.mem hd
    obtain ⟨y, hy, q⟩ := k.mem hp
    rcases q with ⟨e, _⟩ | ⟨q, c, e, _, hc, _⟩
    · cases e
    · cases e
      exact ⟨c, hc⟩
  · obtain ⟨M, _, h, _⟩ := P.walk hw
    exact h.grey
  · unfold Ph at P
    rw [hg] at P
    exact ⟨P.at1, P.at2⟩
  · unfold Ph at P
    rw [hx] at P
    exact P
theorem Wf.like {lens : List Nat} {N : Nat} {S S1 : WS} {L : List (Option Nat)} (X : Wf lens N S) (K : Like S S1 L) : Wf lens N S1 := by
  have e1 : S1.phase = S.phase := by rw [K.eq]
  have e2 : S1.hands = S.hands := by rw [K.eq]
  have e3 : S1.names = S.names := by rw [K.eq]
  have e4 : S1.at_ = S.at_ := by rw [K.eq]
  have e5 : S1.stop = S.stop := by rw [K.eq]
  refine ⟨X.lensOk, X.small, X.bnd.like K, fun d hd p hp => ?_, fun p c h q hq => ?_, fun n hn => ?_, fun hw => K.grey (X.grey (e1 ▸ hw)), fun hg => ?_, e1 ▸ X.lost⟩
  · rw [e2] at hd
    obtain ⟨c, hc⟩ := X.slots d hd p hp
    obtain ⟨c1, h1, _⟩ := K.fwd p c hc
    exact ⟨c1, h1⟩
  · obtain ⟨c0, k1, k2, k3, _⟩ := K.back h
    rw [k3] at hq
    rw [K.len]
    exact X.fields p c0 k1 q hq
  · rw [e3] at hn
    rw [K.len]
    exact X.names n hn
  · rw [e4, e5, K.len]
    exact X.give (e1 ▸ hg)
theorem Wf.slot_lt {lens : List Nat} {N : Nat} {S : WS} (X : Wf lens N S) {h s p : Nat} (e : S.slot h s = some (some p)) : ∃ c, S.cell p = some c := by
  obtain ⟨d, hd, hs⟩ := slot_iff.mp e
  exact X.slots d (List.mem_of_getElem? hd) p (List.mem_of_getElem? hs)
theorem Wf.grey_le {lens : List Nat} {N : Nat} {S : WS} (X : Wf lens N S) (hw : S.phase = .walk) : S.grey.length ≤ N := by
  obtain ⟨h1, h2⟩ := X.grey hw
  exact Nat.le_trans (nodup_le _ _ h1 fun q hq => let ⟨c, hc, _⟩ := h2 q hq; cell_lt hc) X.bnd.cells
theorem note_pale {S : WS} {p : Nat} {c : CellD} (hw : S.phase = .walk) (hc : S.cell p = some c) (ht : c.tone ≠ S.sense) : S.note (some p) = ({ S with cells := S.cells.set p (some { c with tone := S.sense }), grey := S.grey ++ [p] }, some c.birth) := by
  unfold WS.note
  simp only [if_pos hw, hc, if_neg ht]
theorem note_same {S : WS} {p : Nat} (h : ∀ c, S.cell p = some c → c.tone = S.sense) : S.note (some p) = (S, none) := by
  unfold WS.note
  by_cases hw : S.phase = .walk
  · simp only [if_pos hw]
    cases hc : S.cell p with
    | none => rfl
    | some c =>
      dsimp only
      rw [if_pos (h c hc)]
  · simp only [if_neg hw]
theorem noted_snoc {S : WS} {L : List (Option Nat)} {x : Option Nat} : S.noted (L ++ [x]) = (((S.noted L).1.note x).1, (S.noted L).2 ++ ((S.noted L).1.note x).2.toList) := by
  rw [noted_append]
  simp [WS.noted]
theorem Like.addr {S S1 : WS} {L : List (Option Nat)} (K : Like S S1 L) : S1.wo = S.wo ∧ S1.ho = S.ho ∧ S1.so = S.so ∧ S1.hl = S.hl ∧ S1.cl = S.cl ∧ S1.no = S.no ∧ S1.ko = S.ko ∧ S1.hands = S.hands ∧ S1.phase = S.phase ∧ S1.sense = S.sense ∧ S1.rl = S.rl ∧ S1.gl = S.gl := by
  rw [K.eq]
  exact ⟨rfl, rfl, rfl, rfl, rfl, rfl, rfl, rfl, rfl, rfl, rfl, rfl⟩
theorem take_more {α : Type} : ∀ {l : List α} {i : Nat} {x : α}, l[i]? = some x → l.take (i + 1) = l.take i ++ [x]
  | [], i, x, h => by simp at h
  | a :: l, 0, x, h => by
    have e : a = x := Option.some.inj h
    subst e
    rfl
  | a :: l, i + 1, x, h => by
    have ih := take_more (l := l) (i := i) (x := x) h
    show a :: l.take (i + 1) = a :: l.take i ++ [x]
    rw [ih]
    rfl
theorem noted_len : ∀ (L : List (Option Nat)) (S : WS), (S.noted L).2.length ≤ L.length
  | [], S => Nat.le_refl _
  | x :: r, S => by
    show ((S.note x).2.toList ++ ((S.note x).1.noted r).2).length ≤ (x :: r).length
    have ih := noted_len r (S.note x).1
    rw [List.length_append, List.length_cons]
    cases (S.note x).2 with
    | none => simp; omega
    | some b => simp; omega
/-- a note leaves a cell's own objects, fields, bulk as they are -/
def SameCell (c c1 : CellD) : Prop := c1.ca = c.ca ∧ c1.fa = c.fa ∧ c1.fields = c.fields ∧ c1.bulk = c.bulk ∧ c1.birth = c.birth
theorem note_cell {S : WS} {x : Option Nat} {p : Nat} {c : CellD} (hc : S.cell p = some c) : ∃ c1, (S.note x).1.cell p = some c1 ∧ SameCell c c1 := by
  cases x with
  | none => exact ⟨c, hc, rfl, rfl, rfl, rfl, rfl⟩
  | some q =>
    by_cases hw : S.phase = .walk
    · cases hq : S.cell q with
      | none =>
        rw [note_same fun d h => by rw [hq] at h; cases h]
        exact ⟨c, hc, rfl, rfl, rfl, rfl, rfl⟩
      | some d =>
        by_cases ht : d.tone = S.sense
        · rw [note_same fun d' h => by rw [hq] at h; cases h; exact ht]
          exact ⟨c, hc, rfl, rfl, rfl, rfl, rfl⟩
        · rw [note_pale hw hq ht]
          have ce : WS.cell { S with cells := S.cells.set q (some { d with tone := S.sense }), grey := S.grey ++ [q] } p = if p = q then some { d with tone := S.sense } else S.cell p := join_set (cell_lt hq)
          dsimp only
          rw [ce]
          by_cases e : p = q
          · subst e
            rw [hc] at hq
            cases hq
            rw [if_pos rfl]
            exact ⟨_, rfl, rfl, rfl, rfl, rfl, rfl⟩
          · rw [if_neg e]
            exact ⟨c, hc, rfl, rfl, rfl, rfl, rfl⟩
    · rw [note_walk hw]
      exact ⟨c, hc, rfl, rfl, rfl, rfl, rfl⟩
theorem noted_cell : ∀ (L : List (Option Nat)) {S : WS} {p : Nat} {c : CellD}, S.cell p = some c → ∃ c1, (S.noted L).1.cell p = some c1 ∧ SameCell c c1
  | [], S, p, c, hc => ⟨c, hc, rfl, rfl, rfl, rfl, rfl⟩
  | x :: r, S, p, c, hc => by
    obtain ⟨c1, h1, a1, a2, a3, a4, a5⟩ := note_cell (x := x) hc
    obtain ⟨c2, h2, b1, b2, b3, b4, b5⟩ := noted_cell r h1
    exact ⟨c2, h2, b1.trans a1, b2.trans a2, b3.trans a3, b4.trans a4, b5.trans a5⟩
end G

/-! How the heap stands for a state of the world. -/
namespace G
open PySem L2
def plV : Option Nat → V
  | none => .non
  | some p => .int (p : Int)
def btV : Option Int → V
  | none => .non
  | some b => .int b
def phS : Phase → Str
  | .rest => "rest"
  | .walk => "walk"
  | .give => "give"
  | .lost => "lost"
theorem phS_inj {a b : Phase} (h : phS a = phS b) : a = b := by
  cases a <;> cases b <;> first | rfl | exact absurd h (by decide +kernel)
def cellV : Option CellD → V
  | none => .non
  | some c => .ref c.ca
def cellF (c : CellD) : List (Str × V) := [("birth", .int c.birth), ("bulk", .int c.bulk), ("tone", .int c.tone), ("load", .int c.load), ("fields", .ref c.fa)]
def heapF (S : WS) : List (Str × V) := [("room", .int S.room), ("cells", .ref S.cl), ("used", .int S.used), ("born", .int S.born)]
def kindF (S : WS) : List (Str × V) := [("looking", .ref S.lo), ("tells", .int S.tells)]
def handF (d : HandD) : List (Str × V) := [("name", .str d.name), ("slots", .ref d.sa)]
def sweepF (S : WS) : List (Str × V) := [("sense", .int S.sense), ("phase", .str (phS S.phase)), ("grey", .ref S.gl), ("looked", .int S.looked), ("turn", .int S.turn), ("at", .int (S.at_ : Int)), ("stop", .int (S.stop : Int)), ("walks", .int S.walks), ("looks", .int S.looks), ("passes", .int S.passes), ("loss", S.loss)]
def worldF (S : WS) : List (Str × V) := [("heap", .ref S.ho), ("kind", .ref S.ko), ("hands", .ref S.hl), ("names", .ref S.no), ("sweeper", .ref S.so)]
def namesK (S : WS) : List (Key × V) := S.names.map fun n => (Sum.inr n.word, V.ref n.ta)
def lkC (K : PySem.W.Frag) : LK → Addr
  | .first => He.ga K "First"
  | .each => He.ga K "Each"
  | .last => He.ga K "Last"
structure Core (K : PySem.W.Frag) (H : Hp) (S : WS) : Prop where
  wo : ∃ dx, H S.wo = some (.ins (He.ga K "World") dx (worldF S))
  ho : ∃ dx, H S.ho = some (.ins (He.ga K "Heap") dx (heapF S))
  so : ∃ dx, H S.so = some (.ins (He.ga K "Sweeper") dx (sweepF S))
  ko : ∃ dx, H S.ko = some (.ins (He.ga K "Kind") dx (kindF S))
  lo : ∃ dx, H S.lo = some (.ins (lkC K S.lk) dx [])
  hl : H S.hl = some (.lst (S.hands.map fun d => .ref d.ha))
  cl : H S.cl = some (.lst (S.cells.map cellV))
  gl : H S.gl = some (.lst (S.grey.map fun (p : Nat) => .int (p : Int)))
  hand : ∀ i d, S.hands[i]? = some d → (∃ dx, H d.ha = some (.ins (He.ga K "Hand") dx (handF d))) ∧ H d.sa = some (.lst (d.slots.map plV)) ∧ S.rl d.ha = .hand i ∧ S.rl d.sa = .slots i
  cell : ∀ p c, S.cell p = some c → (∃ dx, H c.ca = some (.ins (He.ga K "Cell") dx (cellF c))) ∧ H c.fa = some (.lst (c.fields.map plV)) ∧ S.rl c.ca = .cell p ∧ S.rl c.fa = .flds p
  nm : ∀ n ∈ S.names, H n.ta = some (.tup [.int (n.place : Int), .int n.birth]) ∧ S.rl n.ta = .nm
  rwo : S.rl S.wo = .wo
  rho : S.rl S.ho = .ho
  rso : S.rl S.so = .so
  rko : S.rl S.ko = .ko
  rlo : S.rl S.lo = .lo
  rhl : S.rl S.hl = .hl
  rcl : S.rl S.cl = .cl
  rgl : S.rl S.gl = .gl
  rno : S.rl S.no = .no
  fresh : ∀ b, H b = none → S.rl b = .out
structure Rep (K : PySem.W.Frag) (H : Hp) (S : WS) : Prop extends Core K H S where
  no : H S.no = some (.dK (namesK S))
section
variable {K : PySem.W.Frag} {H H' H0 H1 H2 : Hp} {S S' S0 S1 S2 : WS}
theorem Same.new {H : Hp} {p : Addr} {o : HO} (h : H p = none) : Same H (upd H p o) := fun b u e => by
  rw [upd_ne (ne_of_none e h)]
  exact e
/-- an object that H does not know may change -/
theorem Same.mut {H H' : Hp} {p : Addr} {o : HO} (e : Same H H') (h : H p = none) : Same H (upd H' p o) := fun b u q => by
  rw [upd_ne (ne_of_none q h)]
  exact e b u q
theorem Core.same (R : Core K H S) (e : Same H H') : Core K H' S where
  wo := let ⟨d, h⟩ := R.wo; ⟨d, e _ _ h⟩
  ho := let ⟨d, h⟩ := R.ho; ⟨d, e _ _ h⟩
  so := let ⟨d, h⟩ := R.so; ⟨d, e _ _ h⟩
  ko := let ⟨d, h⟩ := R.ko; ⟨d, e _ _ h⟩
  lo := let ⟨d, h⟩ := R.lo; ⟨d, e _ _ h⟩
  hl := e _ _ R.hl
  cl := e _ _ R.cl
  gl := e _ _ R.gl
  hand := fun i d h => let ⟨⟨dx, a⟩, b, c⟩ := R.hand i d h; ⟨⟨dx, e _ _ a⟩, e _ _ b, c⟩
  cell := fun i d h => let ⟨⟨dx, a⟩, b, c⟩ := R.cell i d h; ⟨⟨dx, e _ _ a⟩, e _ _ b, c⟩
  nm := fun n h => let ⟨a, b⟩ := R.nm n h; ⟨e _ _ a, b⟩
  rwo := R.rwo
  rho := R.rho
  rso := R.rso
  rko := R.rko
  rlo := R.rlo
  rhl := R.rhl
  rcl := R.rcl
  rgl := R.rgl
  rno := R.rno
  fresh := fun b h => R.fresh b (e.free h)
theorem Rep.same (R : Rep K H S) (e : Same H H') : Rep K H' S := { R.toCore.same e with no := e _ _ R.no }
/-- an object outside the world changes -/
theorem Core.out (R : Core K H S) {p : Addr} {o : HO} (h : S.rl p = .out) : Core K (upd H p o) S := by
  have ne : ∀ {a : Addr} {r : Role}, S.rl a = r → r ≠ .out → upd H p o a = H a := fun {a r} e n => upd_ne fun z => n (by rw [← e, z, h])
  refine ⟨?_, ?_, ?_, ?_, ?_, ?_, ?_, ?_, fun i d hd => ?_, fun i d hd => ?_, fun n hn => ?_, R.rwo, R.rho, R.rso, R.rko, R.rlo, R.rhl, R.rcl, R.rgl, R.rno, fun b hb => ?_⟩
  · rw [ne R.rwo (by decide)]; exact R.wo
  · rw [ne R.rho (by decide)]; exact R.ho
  · rw [ne R.rso (by decide)]; exact R.so
  · rw [ne R.rko (by decide)]; exact R.ko
  · rw [ne R.rlo (by decide)]; exact R.lo
  · rw [ne R.rhl (by decide)]; exact R.hl
  · rw [ne R.rcl (by decide)]; exact R.cl
  · rw [ne R.rgl (by decide)]; exact R.gl
  · obtain ⟨a, b, c, d'⟩ := R.hand i d hd
    rw [ne c (by intro z; cases z), ne d' (by intro z; cases z)]
    exact ⟨a, b, c, d'⟩
  · obtain ⟨a, b, c, d'⟩ := R.cell i d hd
    rw [ne c (by intro z; cases z), ne d' (by intro z; cases z)]
    exact ⟨a, b, c, d'⟩
  · obtain ⟨a, b⟩ := R.nm n hn
    rw [ne b (by decide)]
    exact ⟨a, b⟩
  · by_cases e : b = p
    · rw [e]; exact h
    · rw [upd_ne e] at hb
      exact R.fresh b hb
theorem Rep.out (R : Rep K H S) {p : Addr} {o : HO} (h : S.rl p = .out) : Rep K (upd H p o) S :=
  { R.toCore.out h with no := by rw [upd_ne fun z => by have := R.rno; rw [z, h] at this; cases this]; exact R.no }
/-- an object of the world changes: what stays, by its role -/
theorem Core.role (R : Core K H S) {x a : Addr} {o : HO} {r s : Role} (hx : S.rl x = r) (ha : S.rl a = s) (n : s ≠ r) : upd H x o a = H a := upd_ne fun z => n (by rw [← ha, z, hx])
/-- the world changes, what stands outside stays -/
structure Go (K : PySem.W.Frag) (H : Hp) (S : WS) (H' : Hp) (S' : WS) : Prop where
  rep : Rep K H' S'
  keep : ∀ b o, H b = some o → S.rl b = .out → H' b = some o ∧ S'.rl b = .out
  free : ∀ b, H' b = none → H b = none
theorem Go.refl (R : Rep K H S) : Go K H S H S := ⟨R, fun b o h e => ⟨h, e⟩, fun b h => h⟩
theorem Go.trans (a : Go K H S H1 S1) (b : Go K H1 S1 H2 S2) : Go K H S H2 S2 := ⟨b.rep, fun c o h e => let ⟨h1, e1⟩ := a.keep c o h e; b.keep c o h1 e1, fun c h => a.free c (b.free c h)⟩
theorem Go.same (a : Go K H S H1 S1) (e : Same H1 H2) : Go K H S H2 S1 := ⟨a.rep.same e, fun c o h k => let ⟨h1, e1⟩ := a.keep c o h k; ⟨e c o h1, e1⟩, fun c h => a.free c (e.free h)⟩
theorem Go.new (a : Go K H S H1 S1) {p : Addr} {o : HO} (h : H1 p = none) : Go K H S (upd H1 p o) S1 := a.same (Same.new h)
/-- an object of one's own, new since the start, changes -/
theorem Go.mut (a : Go K H S H1 S1) {p : Addr} {o : HO} (h : H p = none) (e : S1.rl p = .out) : Go K H S (upd H1 p o) S1 :=
  ⟨a.rep.out e, fun c u k q => let ⟨h1, e1⟩ := a.keep c u k q; ⟨by rw [upd_ne (ne_of_none k h)]; exact h1, e1⟩, fun c q => by
    by_cases z : c = p
    · rw [z]; exact h
    · rw [upd_ne z] at q
      exact a.free c q⟩
/-- what stands outside the world, and stays -/
def Out (H : Hp) (S : WS) (b : Addr) (o : HO) : Prop := H b = some o ∧ S.rl b = .out
theorem Out.go {b : Addr} {o : HO} (h : Out H S b o) (g : Go K H S H' S') : Out H' S' b o := g.keep b o h.1 h.2
theorem Out.same {b : Addr} {o : HO} (h : Out H S b o) (g : Same H H') : Out H' S b o := ⟨g _ _ h.1, h.2⟩
theorem Out.new {b : Addr} {o : HO} (R : Rep K H S) (h : H b = none) : Out (upd H b o) S b o := ⟨upd_same, R.fresh b h⟩
theorem Out.upd {b p : Addr} {o u : HO} (h : Out H S b o) (n : b ≠ p) : Out (upd H p u) S b o := ⟨by rw [upd_ne n]; exact h.1, h.2⟩
/-- an event as it lies in the heap -/
def EvAt (H : Hp) (S : WS) (v : V) (e : Ev) : Prop := ∃ t l, v = .ref t ∧ Out H S t (.tup [.str e.word, e.thing, .ref l]) ∧ Out H S l (.lst (e.nums.map V.int))
theorem EvAt.go {v : V} {e : Ev} (h : EvAt H S v e) (g : Go K H S H' S') : EvAt H' S' v e := let ⟨t, l, a, b, c⟩ := h; ⟨t, l, a, b.go g, c.go g⟩
theorem EvAt.same {v : V} {e : Ev} (h : EvAt H S v e) (g : Same H H') : EvAt H' S v e := let ⟨t, l, a, b, c⟩ := h; ⟨t, l, a, b.same g, c.same g⟩
/-! ### the world's objects change -/
/-- the sweeper's own numbers -/
def WS.sw (S : WS) (sense : Int) (phase : Phase) (looked turn : Int) (at_ stop : Nat) (walks looks passes : Int) (loss : V) : WS :=
  { S with sense := sense, phase := phase, looked := looked, turn := turn, at_ := at_, stop := stop, walks := walks, looks := looks, passes := passes, loss := loss }
theorem Rep.sw (R : Rep K H S) {a b c d k l m : Int} {p : Phase} {i j : Nat} {v : V} {dx : Addr} : Rep K (L2.upd H S.so (.ins (He.ga K "Sweeper") dx (sweepF (S.sw a p b c i j d k l v)))) (S.sw a p b c i j d k l v) := by
  have ne : ∀ {x : Addr} {r : Role}, S.rl x = r → r ≠ .so → L2.upd H S.so (.ins (He.ga K "Sweeper") dx (sweepF (S.sw a p b c i j d k l v))) x = H x := fun h n => R.role R.rso h n
  refine { wo := ?_, ho := ?_, so := ⟨dx, upd_same⟩, ko := ?_, lo := ?_, hl := ?_, cl := ?_, gl := ?_, hand := fun i d hd => ?_, cell := fun i d hd => ?_, nm := fun n hn => ?_, rwo := R.rwo, rho := R.rho, rso := R.rso, rko := R.rko, rlo := R.rlo, rhl := R.rhl, rcl := R.rcl, rgl := R.rgl, rno := R.rno, fresh := fun b hb => ?_, no := ?_ }
  · show ∃ dx, L2.upd H S.so _ S.wo = _; rw [ne R.rwo (by decide)]; exact R.wo
  · show ∃ dx, L2.upd H S.so _ S.ho = _; rw [ne R.rho (by decide)]; exact R.ho
  · show ∃ dx, L2.upd H S.so _ S.ko = _; rw [ne R.rko (by decide)]; exact R.ko
  · show ∃ dx, L2.upd H S.so _ S.lo = _; rw [ne R.rlo (by decide)]; exact R.lo
  · show L2.upd H S.so _ S.hl = _; rw [ne R.rhl (by decide)]; exact R.hl
  · show L2.upd H S.so _ S.cl = _; rw [ne R.rcl (by decide)]; exact R.cl
  · show L2.upd H S.so _ S.gl = _; rw [ne R.rgl (by decide)]; exact R.gl
  · obtain ⟨a, b, c, d'⟩ := R.hand i d hd
    rw [ne c (by intro z; cases z), ne d' (by intro z; cases z)]
    exact ⟨a, b, c, d'⟩
  · obtain ⟨a, b, c, d'⟩ := R.cell i d hd
    rw [ne c (by intro z; cases z), ne d' (by intro z; cases z)]
    exact ⟨a, b, c, d'⟩
  · obtain ⟨a, b⟩ := R.nm n hn
    rw [ne b (by decide)]
    exact ⟨a, b⟩
  · by_cases e : b = S.so
    · rw [e, upd_same] at hb
      cases hb
    · rw [upd_ne e] at hb
      exact R.fresh b hb
  · show L2.upd H S.so _ S.no = _; rw [ne R.rno (by decide)]; exact R.no
theorem go_upd {x : Addr} {o : HO} (R : Rep K H S) (h : S.rl x ≠ .out) (R' : Rep K (L2.upd H x o) S') (e : S'.rl = S.rl) : Go K H S (L2.upd H x o) S' :=
  ⟨R', fun b u k q => ⟨by rw [upd_ne fun z => h (by rw [← z]; exact q)]; exact k, by rw [e]; exact q⟩, fun b k => by
    by_cases z : b = x
    · rw [z, upd_same] at k
      cases k
    · rw [upd_ne z] at k
      exact k⟩
end
end G

namespace G
open PySem L2
section
variable {K : PySem.W.Frag} {H H' : Hp} {S : WS}

theorem Rep.grey (R : Rep K H S) (g : List Nat) : Rep K (L2.upd H S.gl (.lst (g.map fun (p : Nat) => .int (p : Int)))) { S with grey := g } := by
  have ne : ∀ {y : Addr} {r : Role}, S.rl y = r → r ≠ .gl → L2.upd H S.gl (.lst (g.map fun (p : Nat) => .int (p : Int))) y = H y := fun h1 n1 => R.role R.rgl h1 n1
  refine { wo := ?_, ho := ?_, so := ?_, ko := ?_, lo := ?_, hl := ?_, cl := ?_, gl := upd_same, hand := fun i d hd => ?_, cell := fun i d hd => ?_, nm := fun n hn => ?_, fresh := fun b hb => ?_, no := ?_, rwo := R.rwo, rho := R.rho, rso := R.rso, rko := R.rko, rlo := R.rlo, rhl := R.rhl, rcl := R.rcl, rgl := R.rgl, rno := R.rno }
  · show ∃ dx, L2.upd H S.gl _ S.wo = _; rw [ne R.rwo (by decide)]; exact R.wo
  · show ∃ dx, L2.upd H S.gl _ S.ho = _; rw [ne R.rho (by decide)]; exact R.ho
  · show ∃ dx, L2.upd H S.gl _ S.so = _; rw [ne R.rso (by decide)]; exact R.so
  · show ∃ dx, L2.upd H S.gl _ S.ko = _; rw [ne R.rko (by decide)]; exact R.ko
  · show ∃ dx, L2.upd H S.gl _ S.lo = _; rw [ne R.rlo (by decide)]; exact R.lo
  · show L2.upd H S.gl _ S.hl = _; rw [ne R.rhl (by decide)]; exact R.hl
  · show L2.upd H S.gl _ S.cl = _; rw [ne R.rcl (by decide)]; exact R.cl
  · obtain ⟨a, b, c, d'⟩ := R.hand i d hd
    rw [ne c (by intro z; cases z), ne d' (by intro z; cases z)]
    exact ⟨a, b, c, d'⟩
  · obtain ⟨a, b, c, d'⟩ := R.cell i d hd
    rw [ne c (by intro z; cases z), ne d' (by intro z; cases z)]
    exact ⟨a, b, c, d'⟩
  · obtain ⟨a, b⟩ := R.nm n hn
    rw [ne b (by decide)]
    exact ⟨a, b⟩
  · by_cases e : b = S.gl
    · rw [e, upd_same] at hb
      cases hb
    · rw [upd_ne e] at hb
      exact R.fresh b hb
  · show L2.upd H S.gl _ S.no = _; rw [ne R.rno (by decide)]; exact R.no

theorem Rep.heapN (R : Rep K H S) (u b : Int) {dx : Addr} : Rep K (L2.upd H S.ho (.ins (He.ga K "Heap") dx (heapF { S with used := u, born := b }))) { S with used := u, born := b } := by
  have ne : ∀ {y : Addr} {r : Role}, S.rl y = r → r ≠ .ho → L2.upd H S.ho (.ins (He.ga K "Heap") dx (heapF { S with used := u, born := b })) y = H y := fun h1 n1 => R.role R.rho h1 n1
  refine { wo := ?_, ho := ⟨dx, upd_same⟩, so := ?_, ko := ?_, lo := ?_, hl := ?_, cl := ?_, gl := ?_, hand := fun i d hd => ?_, cell := fun i d hd => ?_, nm := fun n hn => ?_, fresh := fun b hb => ?_, no := ?_, rwo := R.rwo, rho := R.rho, rso := R.rso, rko := R.rko, rlo := R.rlo, rhl := R.rhl, rcl := R.rcl, rgl := R.rgl, rno := R.rno }
  · show ∃ dx, L2.upd H S.ho _ S.wo = _; rw [ne R.rwo (by decide)]; exact R.wo
  · show ∃ dx, L2.upd H S.ho _ S.so = _; rw [ne R.rso (by decide)]; exact R.so
  · show ∃ dx, L2.upd H S.ho _ S.ko = _; rw [ne R.rko (by decide)]; exact R.ko
  · show ∃ dx, L2.upd H S.ho _ S.lo = _; rw [ne R.rlo (by decide)]; exact R.lo
  · show L2.upd H S.ho _ S.hl = _; rw [ne R.rhl (by decide)]; exact R.hl
  · show L2.upd H S.ho _ S.cl = _; rw [ne R.rcl (by decide)]; exact R.cl
  · show L2.upd H S.ho _ S.gl = _; rw [ne R.rgl (by decide)]; exact R.gl
  · obtain ⟨a, b, c, d'⟩ := R.hand i d hd
    rw [ne c (by intro z; cases z), ne d' (by intro z; cases z)]
    exact ⟨a, b, c, d'⟩
  · obtain ⟨a, b, c, d'⟩ := R.cell i d hd
    rw [ne c (by intro z; cases z), ne d' (by intro z; cases z)]
    exact ⟨a, b, c, d'⟩
  · obtain ⟨a, b⟩ := R.nm n hn
    rw [ne b (by decide)]
    exact ⟨a, b⟩
  · by_cases e : b = S.ho
    · rw [e, upd_same] at hb
      cases hb
    · rw [upd_ne e] at hb
      exact R.fresh b hb
  · show L2.upd H S.ho _ S.no = _; rw [ne R.rno (by decide)]; exact R.no

theorem Rep.back (R : Rep K H S) (p : Nat) : Rep K (L2.upd H S.cl (.lst ((S.cells.set p none).map cellV))) { S with cells := S.cells.set p none } := by
  have ne : ∀ {y : Addr} {r : Role}, S.rl y = r → r ≠ .cl → L2.upd H S.cl (.lst ((S.cells.set p none).map cellV)) y = H y := fun h1 n1 => R.role R.rcl h1 n1
  refine { wo := ?_, ho := ?_, so := ?_, ko := ?_, lo := ?_, hl := ?_, cl := upd_same, gl := ?_, hand := fun i d hd => ?_, cell := fun i d hd => ?_, nm := fun n hn => ?_, fresh := fun b hb => ?_, no := ?_, rwo := R.rwo, rho := R.rho, rso := R.rso, rko := R.rko, rlo := R.rlo, rhl := R.rhl, rcl := R.rcl, rgl := R.rgl, rno := R.rno }
  · show ∃ dx, L2.upd H S.cl _ S.wo = _; rw [ne R.rwo (by decide)]; exact R.wo
  · show ∃ dx, L2.upd H S.cl _ S.ho = _; rw [ne R.rho (by decide)]; exact R.ho
  · show ∃ dx, L2.upd H S.cl _ S.so = _; rw [ne R.rso (by decide)]; exact R.so
  · show ∃ dx, L2.upd H S.cl _ S.ko = _; rw [ne R.rko (by decide)]; exact R.ko
  · show ∃ dx, L2.upd H S.cl _ S.lo = _; rw [ne R.rlo (by decide)]; exact R.lo
  · show L2.upd H S.cl _ S.hl = _; rw [ne R.rhl (by decide)]; exact R.hl
  · show L2.upd H S.cl _ S.gl = _; rw [ne R.rgl (by decide)]; exact R.gl
  · obtain ⟨a, b, c, d'⟩ := R.hand i d hd
    rw [ne c (by intro z; cases z), ne d' (by intro z; cases z)]
    exact ⟨a, b, c, d'⟩
  · have hd : ((S.cells.set p none)[i]?).join = some d := hd
    have hd : S.cell i = some d := by
      by_cases hp : p < S.cells.length
      · rw [join_set hp] at hd
        split at hd
        · cases hd
        · exact hd
      · rw [List.set_eq_of_length_le (by omega)] at hd
        exact hd
    obtain ⟨a, b, c, d'⟩ := R.cell i d hd
    rw [ne c (by intro z; cases z), ne d' (by intro z; cases z)]
    exact ⟨a, b, c, d'⟩
  · obtain ⟨a, b⟩ := R.nm n hn
    rw [ne b (by decide)]
    exact ⟨a, b⟩
  · by_cases e : b = S.cl
    · rw [e, upd_same] at hb
      cases hb
    · rw [upd_ne e] at hb
      exact R.fresh b hb
  · show L2.upd H S.cl _ S.no = _; rw [ne R.rno (by decide)]; exact R.no

theorem Rep.cellN (R : Rep K H S) {p : Nat} {c c2 : CellD} (hc : S.cell p = some c) (e1 : c2.ca = c.ca) (e2 : c2.fa = c.fa) (e3 : c2.fields = c.fields) {dx : Addr} : Rep K (L2.upd H c.ca (.ins (He.ga K "Cell") dx (cellF c2))) (S.setCell p c2) := by
  have ne : ∀ {y : Addr} {r : Role}, S.rl y = r → r ≠ (.cell p) → L2.upd H c.ca (.ins (He.ga K "Cell") dx (cellF c2)) y = H y := fun h1 n1 => R.role (R.cell p c hc).2.2.1 h1 n1
  refine { wo := ?_, ho := ?_, so := ?_, ko := ?_, lo := ?_, hl := ?_, cl := ?_, gl := ?_, hand := fun i d hd => ?_, cell := fun i d hd => ?_, nm := fun n hn => ?_, fresh := fun b hb => ?_, no := ?_, rwo := R.rwo, rho := R.rho, rso := R.rso, rko := R.rko, rlo := R.rlo, rhl := R.rhl, rcl := R.rcl, rgl := R.rgl, rno := R.rno }
  · show ∃ dx, L2.upd H c.ca _ S.wo = _; rw [ne R.rwo (by intro z; cases z)]; exact R.wo
  · show ∃ dx, L2.upd H c.ca _ S.ho = _; rw [ne R.rho (by intro z; cases z)]; exact R.ho
  · show ∃ dx, L2.upd H c.ca _ S.so = _; rw [ne R.rso (by intro z; cases z)]; exact R.so
  · show ∃ dx, L2.upd H c.ca _ S.ko = _; rw [ne R.rko (by intro z; cases z)]; exact R.ko
  · show ∃ dx, L2.upd H c.ca _ S.lo = _; rw [ne R.rlo (by intro z; cases z)]; exact R.lo
  · show L2.upd H c.ca _ S.hl = _; rw [ne R.rhl (by intro z; cases z)]; exact R.hl
  · show L2.upd H c.ca _ S.cl = some (.lst ((S.cells.set p (some c2)).map cellV)); rw [ne R.rcl (by intro z; cases z), R.cl]
    refine congrArg (fun l => some (HO.lst l)) ?_
    apply List.ext_getElem?
    intro i
    rw [List.getElem?_map, List.getElem?_map, List.getElem?_set]
    by_cases e : p = i
    · subst e
      rw [if_pos rfl, if_pos (cell_lt hc), cell_iff.mp hc]
      show some (V.ref c.ca) = some (V.ref c2.ca)
      rw [e1]
    · rw [if_neg e]
  · show L2.upd H c.ca _ S.gl = _; rw [ne R.rgl (by intro z; cases z)]; exact R.gl
  · obtain ⟨a, b, c, d'⟩ := R.hand i d hd
    rw [ne c (by intro z; cases z), ne d' (by intro z; cases z)]
    exact ⟨a, b, c, d'⟩
  · rw [cell_set (cell_lt hc)] at hd
    by_cases e : i = p
    · rw [if_pos e] at hd
      cases hd
      obtain ⟨a, b, k1, k2⟩ := R.cell p c hc
      refine ⟨⟨dx, by rw [e1]; exact upd_same⟩, ?_, by rw [e1, e]; exact k1, by rw [e2, e]; exact k2⟩
      rw [e2, e3, ne k2 (by intro z; cases z)]
      exact b
    · rw [if_neg e] at hd
      obtain ⟨a, b, k1, k2⟩ := R.cell i d hd
      rw [ne k1 (by intro z; cases z; exact e rfl), ne k2 (by intro z; cases z)]
      exact ⟨a, b, k1, k2⟩
  · obtain ⟨a, b⟩ := R.nm n hn
    rw [ne b (by intro z; cases z)]
    exact ⟨a, b⟩
  · by_cases e : b = c.ca
    · rw [e, upd_same] at hb
      cases hb
    · rw [upd_ne e] at hb
      exact R.fresh b hb
  · show L2.upd H c.ca _ S.no = _; rw [ne R.rno (by intro z; cases z)]; exact R.no

theorem Rep.flds (R : Rep K H S) {p : Nat} {c : CellD} (hc : S.cell p = some c) (fs : List (Option Nat)) : Rep K (L2.upd H c.fa (.lst (fs.map plV))) (S.setCell p { c with fields := fs }) := by
  have ne : ∀ {y : Addr} {r : Role}, S.rl y = r → r ≠ (.flds p) → L2.upd H c.fa (.lst (fs.map plV)) y = H y := fun h1 n1 => R.role (R.cell p c hc).2.2.2 h1 n1
  refine { wo := ?_, ho := ?_, so := ?_, ko := ?_, lo := ?_, hl := ?_, cl := ?_, gl := ?_, hand := fun i d hd => ?_, cell := fun i d hd => ?_, nm := fun n hn => ?_, fresh := fun b hb => ?_, no := ?_, rwo := R.rwo, rho := R.rho, rso := R.rso, rko := R.rko, rlo := R.rlo, rhl := R.rhl, rcl := R.rcl, rgl := R.rgl, rno := R.rno }
  · show ∃ dx, L2.upd H c.fa _ S.wo = _; rw [ne R.rwo (by intro z; cases z)]; exact R.wo
  · show ∃ dx, L2.upd H c.fa _ S.ho = _; rw [ne R.rho (by intro z; cases z)]; exact R.ho
  · show ∃ dx, L2.upd H c.fa _ S.so = _; rw [ne R.rso (by intro z; cases z)]; exact R.so
  · show ∃ dx, L2.upd H c.fa _ S.ko = _; rw [ne R.rko (by intro z; cases z)]; exact R.ko
  · show ∃ dx, L2.upd H c.fa _ S.lo = _; rw [ne R.rlo (by intro z; cases z)]; exact R.lo
  · show L2.upd H c.fa _ S.hl = _; rw [ne R.rhl (by intro z; cases z)]; exact R.hl
  · show L2.upd H c.fa _ S.cl = some (.lst ((S.cells.set p (some { c with fields := fs })).map cellV)); rw [ne R.rcl (by intro z; cases z), R.cl]
    refine congrArg (fun l => some (HO.lst l)) ?_
    apply List.ext_getElem?
    intro i
    rw [List.getElem?_map, List.getElem?_map, List.getElem?_set]
    by_cases e : p = i
    · subst e
      rw [if_pos rfl, if_pos (cell_lt hc), cell_iff.mp hc]
      rfl
    · rw [if_neg e]
  · show L2.upd H c.fa _ S.gl = _; rw [ne R.rgl (by intro z; cases z)]; exact R.gl
  · obtain ⟨a, b, c, d'⟩ := R.hand i d hd
    rw [ne c (by intro z; cases z), ne d' (by intro z; cases z)]
    exact ⟨a, b, c, d'⟩
  · rw [cell_set (cell_lt hc)] at hd
    by_cases e : i = p
    · rw [if_pos e] at hd
      cases hd
      obtain ⟨a, b, k1, k2⟩ := R.cell p c hc
      subst e
      refine ⟨?_, upd_same, k1, k2⟩
      show ∃ dx, L2.upd H c.fa _ c.ca = _
      rw [ne k1 (by intro z; cases z)]
      exact a
    · rw [if_neg e] at hd
      obtain ⟨a, b, k1, k2⟩ := R.cell i d hd
      rw [ne k1 (by intro z; cases z), ne k2 (by intro z; cases z; exact e rfl)]
      exact ⟨a, b, k1, k2⟩
  · obtain ⟨a, b⟩ := R.nm n hn
    rw [ne b (by intro z; cases z)]
    exact ⟨a, b⟩
  · by_cases e : b = c.fa
    · rw [e, upd_same] at hb
      cases hb
    · rw [upd_ne e] at hb
      exact R.fresh b hb
  · show L2.upd H c.fa _ S.no = _; rw [ne R.rno (by intro z; cases z)]; exact R.no

theorem Rep.slot (R : Rep K H S) {h : Nat} {d0 : HandD} (hh : S.hands[h]? = some d0) (s : Nat) (v : Option Nat) : Rep K (L2.upd H d0.sa (.lst ((d0.slots.set s v).map plV))) (S.setSlot h s v) := by
  have ne : ∀ {y : Addr} {r : Role}, S.rl y = r → r ≠ (.slots h) → L2.upd H d0.sa (.lst ((d0.slots.set s v).map plV)) y = H y := fun h1 n1 => R.role (R.hand h d0 hh).2.2.2 h1 n1
  refine { wo := ?_, ho := ?_, so := ?_, ko := ?_, lo := ?_, hl := ?_, cl := ?_, gl := ?_, hand := fun i d hd => ?_, cell := fun i d hd => ?_, nm := fun n hn => ?_, fresh := fun b hb => ?_, no := ?_, rwo := R.rwo, rho := R.rho, rso := R.rso, rko := R.rko, rlo := R.rlo, rhl := R.rhl, rcl := R.rcl, rgl := R.rgl, rno := R.rno }
  · show ∃ dx, L2.upd H d0.sa _ S.wo = _; rw [ne R.rwo (by intro z; cases z)]; exact R.wo
  · show ∃ dx, L2.upd H d0.sa _ S.ho = _; rw [ne R.rho (by intro z; cases z)]; exact R.ho
  · show ∃ dx, L2.upd H d0.sa _ S.so = _; rw [ne R.rso (by intro z; cases z)]; exact R.so
  · show ∃ dx, L2.upd H d0.sa _ S.ko = _; rw [ne R.rko (by intro z; cases z)]; exact R.ko
  · show ∃ dx, L2.upd H d0.sa _ S.lo = _; rw [ne R.rlo (by intro z; cases z)]; exact R.lo
  · show L2.upd H d0.sa _ S.hl = some (.lst ((S.hands.modify h fun d => { d with slots := d.slots.set s v }).map fun d => .ref d.ha)); rw [ne R.rhl (by intro z; cases z), R.hl]
    refine congrArg (fun l => some (HO.lst l)) ?_
    apply List.ext_getElem?
    intro i
    rw [List.getElem?_map, List.getElem?_map, List.getElem?_modify]
    cases S.hands[i]? with
    | none => rfl
    | some d =>
      show some _ = some _
      by_cases e : h = i
      · simp [e]
      · simp [e]
  · show L2.upd H d0.sa _ S.cl = _; rw [ne R.rcl (by intro z; cases z)]; exact R.cl
  · show L2.upd H d0.sa _ S.gl = _; rw [ne R.rgl (by intro z; cases z)]; exact R.gl
  · have hd : (S.hands.modify h fun d => { d with slots := d.slots.set s v })[i]? = some d := hd
    rw [List.getElem?_modify] at hd
    obtain ⟨d1, hd1, e⟩ := Option.map_eq_some_iff.mp hd
    obtain ⟨a, b, k1, k2⟩ := R.hand i d1 hd1
    by_cases q : h = i
    · rw [if_pos q] at e
      subst q
      rw [hh] at hd1
      cases hd1
      subst e
      refine ⟨?_, upd_same, k1, k2⟩
      show ∃ dx, L2.upd H d0.sa _ d0.ha = _
      rw [ne k1 (by intro z; cases z)]
      exact a
    · rw [if_neg q] at e
      subst e
      show (∃ dx, L2.upd H d0.sa _ d1.ha = _) ∧ L2.upd H d0.sa _ d1.sa = _ ∧ _
      rw [ne k1 (by intro z; cases z), ne k2 (by intro z; cases z; exact q rfl)]
      exact ⟨a, b, k1, k2⟩
  · obtain ⟨a, b, c, d'⟩ := R.cell i d hd
    rw [ne c (by intro z; cases z), ne d' (by intro z; cases z)]
    exact ⟨a, b, c, d'⟩
  · obtain ⟨a, b⟩ := R.nm n hn
    rw [ne b (by intro z; cases z)]
    exact ⟨a, b⟩
  · by_cases e : b = d0.sa
    · rw [e, upd_same] at hb
      cases hb
    · rw [upd_ne e] at hb
      exact R.fresh b hb
  · show L2.upd H d0.sa _ S.no = _; rw [ne R.rno (by intro z; cases z)]; exact R.no


theorem namesK_put {S : WS} {n : NameD} {r : Addr → Role} : putK (namesK S) (Sum.inr n.word) (.ref n.ta) = namesK (S.putName n r) := by
  unfold putK namesK
  have e : ((S.names.map fun n => ((Sum.inr n.word : Key), V.ref n.ta)).any fun kv => decide (kv.1 = Sum.inr n.word)) = S.names.any (fun m => decide (m.word = n.word)) := by
    rw [List.any_map]
    congr 1
    funext m
    exact decide_eq_decide.mpr ⟨fun q => Sum.inr.inj q, fun q => by show (Sum.inr m.word : Key) = _; rw [q]⟩
  rw [e]
  show _ = (if S.names.any (fun m => decide (m.word = n.word)) = true then S.names.map (fun m => if m.word = n.word then n else m) else S.names ++ [n]).map _
  by_cases h : S.names.any (fun m => decide (m.word = n.word)) = true
  · rw [if_pos h, if_pos h, List.map_map, List.map_map]
    refine List.map_congr_left fun m _ => ?_
    show (if (Sum.inr m.word : Key) = Sum.inr n.word then ((Sum.inr m.word : Key), V.ref n.ta) else (Sum.inr m.word, V.ref m.ta)) = ((Sum.inr (if m.word = n.word then n else m).word : Key), V.ref (if m.word = n.word then n else m).ta)
    by_cases q : m.word = n.word
    · rw [if_pos (by rw [q]), if_pos q, q]
    · rw [if_neg (fun z => q (Sum.inr.inj z)), if_neg q]
  · rw [if_neg h, if_neg h, List.map_append]
    rfl
/-- a weak name is given; its pair at t is new -/
theorem Rep.name (R : Rep K H S) (n : NameD) {t : Addr} (ht : H t = some (.tup [.int (n.place : Int), .int n.birth])) (e : n.ta = t) (hr : S.rl t = .out) :
    Rep K (L2.upd H S.no (.dK (putK (namesK S) (Sum.inr n.word) (.ref t)))) (S.putName n fun b => if b = t then .nm else S.rl b) := by
  have ne : ∀ {y : Addr} {r : Role}, S.rl y = r → r ≠ .no → L2.upd H S.no (.dK (putK (namesK S) (Sum.inr n.word) (.ref t))) y = H y := fun h' n' => R.role R.rno h' n'
  have rl : ∀ {y : Addr} {r : Role}, S.rl y = r → r ≠ .out → (if y = t then Role.nm else S.rl y) = r := fun {y r} h k => by
    rw [if_neg fun z => k (by rw [← h, z, hr])]
    exact h
  have nt : L2.upd H S.no (.dK (putK (namesK S) (Sum.inr n.word) (.ref t))) t = H t := ne hr (by decide)
  have mem : ∀ m ∈ (S.putName n fun b => if b = t then .nm else S.rl b).names, m = n ∨ m ∈ S.names := fun m hm => by
    have hm : m ∈ (if S.names.any (fun m => decide (m.word = n.word)) = true then S.names.map (fun m => if m.word = n.word then n else m) else S.names ++ [n]) := hm
    split at hm
    · obtain ⟨k, hk, e⟩ := List.mem_map.mp hm
      split at e
      · exact .inl e.symm
      · exact .inr (e ▸ hk)
    · rcases List.mem_append.mp hm with h | h
      · exact .inr h
      · exact .inl (by simpa using h)
  refine { wo := ?_, ho := ?_, so := ?_, ko := ?_, lo := ?_, hl := ?_, cl := ?_, gl := ?_, hand := fun i d hd => ?_, cell := fun i d hd => ?_, nm := fun m hm => ?_, rwo := rl R.rwo (by decide), rho := rl R.rho (by decide), rso := rl R.rso (by decide), rko := rl R.rko (by decide), rlo := rl R.rlo (by decide), rhl := rl R.rhl (by decide), rcl := rl R.rcl (by decide), rgl := rl R.rgl (by decide), rno := rl R.rno (by decide), fresh := fun b hb => ?_, no := ?_ }
  · show ∃ dx, L2.upd H S.no _ S.wo = _; rw [ne R.rwo (by decide)]; exact R.wo
  · show ∃ dx, L2.upd H S.no _ S.ho = _; rw [ne R.rho (by decide)]; exact R.ho
  · show ∃ dx, L2.upd H S.no _ S.so = _; rw [ne R.rso (by decide)]; exact R.so
  · show ∃ dx, L2.upd H S.no _ S.ko = _; rw [ne R.rko (by decide)]; exact R.ko
  · show ∃ dx, L2.upd H S.no _ S.lo = _; rw [ne R.rlo (by decide)]; exact R.lo
  · show L2.upd H S.no _ S.hl = _; rw [ne R.rhl (by decide)]; exact R.hl
  · show L2.upd H S.no _ S.cl = _; rw [ne R.rcl (by decide)]; exact R.cl
  · show L2.upd H S.no _ S.gl = _; rw [ne R.rgl (by decide)]; exact R.gl
  · obtain ⟨a, b, c, d'⟩ := R.hand i d hd
    rw [ne c (by intro z; cases z), ne d' (by intro z; cases z)]
    exact ⟨a, b, rl c (by intro z; cases z), rl d' (by intro z; cases z)⟩
  · obtain ⟨a, b, c, d'⟩ := R.cell i d hd
    rw [ne c (by intro z; cases z), ne d' (by intro z; cases z)]
    exact ⟨a, b, rl c (by intro z; cases z), rl d' (by intro z; cases z)⟩
  · rcases mem m hm with rfl | hm
    · rw [e, nt]
      exact ⟨ht, by show (if t = t then Role.nm else S.rl t) = .nm; rw [if_pos rfl]⟩
    · obtain ⟨a, b⟩ := R.nm m hm
      rw [ne b (by decide)]
      exact ⟨a, rl b (by decide)⟩
  · by_cases q : b = S.no
    · rw [q, upd_same] at hb
      cases hb
    · rw [upd_ne q] at hb
      show (if b = t then Role.nm else S.rl b) = .out
      rw [if_neg fun z => by rw [z, ht] at hb; cases hb]
      exact R.fresh b hb
  · show L2.upd H S.no _ S.no = _
    rw [upd_same, ← e, namesK_put]
/-- a round begins: a new grey list at p -/
theorem Rep.begun (R : Rep K H S) {p : Addr} (hp : H p = some (.lst [])) (hr : S.rl p = .out) (a c d k l m : Int) (ph : Phase) (i j : Nat) (v : V) {dx : Addr} {S' : WS}
    (e : S' = { S.sw a ph c d i j k l m v with gl := p, grey := [], rl := fun b => if b = p then .gl else S.rl b }) : Rep K (L2.upd H S.so (.ins (He.ga K "Sweeper") dx (sweepF S'))) S' := by
  have ne : ∀ {y : Addr} {r : Role}, S.rl y = r → r ≠ .so → L2.upd H S.so (.ins (He.ga K "Sweeper") dx (sweepF S')) y = H y := fun h' n' => R.role R.rso h' n'
  have rl : ∀ {y : Addr} {r : Role}, S.rl y = r → r ≠ .out → (if y = p then Role.gl else S.rl y) = r := fun {y r} h k => by
    rw [if_neg fun z => k (by rw [← h, z, hr])]
    exact h
  subst e
  refine { wo := ?_, ho := ?_, so := ⟨dx, upd_same⟩, ko := ?_, lo := ?_, hl := ?_, cl := ?_, gl := ?_, hand := fun i d hd => ?_, cell := fun i d hd => ?_, nm := fun n hn => ?_, rwo := rl R.rwo (by decide), rho := rl R.rho (by decide), rso := rl R.rso (by decide), rko := rl R.rko (by decide), rlo := rl R.rlo (by decide), rhl := rl R.rhl (by decide), rcl := rl R.rcl (by decide), rgl := ?_, rno := rl R.rno (by decide), fresh := fun b hb => ?_, no := ?_ }
  · show ∃ dx, L2.upd H S.so _ S.wo = _; rw [ne R.rwo (by decide)]; exact R.wo
  · show ∃ dx, L2.upd H S.so _ S.ho = _; rw [ne R.rho (by decide)]; exact R.ho
  · show ∃ dx, L2.upd H S.so _ S.ko = _; rw [ne R.rko (by decide)]; exact R.ko
  · show ∃ dx, L2.upd H S.so _ S.lo = _; rw [ne R.rlo (by decide)]; exact R.lo
  · show L2.upd H S.so _ S.hl = _; rw [ne R.rhl (by decide)]; exact R.hl
  · show L2.upd H S.so _ S.cl = _; rw [ne R.rcl (by decide)]; exact R.cl
  · show L2.upd H S.so _ p = _; rw [ne hr (by decide)]; exact hp
  · obtain ⟨a, b, c, d'⟩ := R.hand i d hd
    rw [ne c (by intro z; cases z), ne d' (by intro z; cases z)]
    exact ⟨a, b, rl c (by intro z; cases z), rl d' (by intro z; cases z)⟩
  · obtain ⟨a, b, c, d'⟩ := R.cell i d hd
    rw [ne c (by intro z; cases z), ne d' (by intro z; cases z)]
    exact ⟨a, b, rl c (by intro z; cases z), rl d' (by intro z; cases z)⟩
  · obtain ⟨a, b⟩ := R.nm n hn
    rw [ne b (by decide)]
    exact ⟨a, rl b (by decide)⟩
  · show (if p = p then Role.gl else S.rl p) = .gl
    rw [if_pos rfl]
  · by_cases q : b = S.so
    · rw [q, upd_same] at hb
      cases hb
    · rw [upd_ne q] at hb
      show (if b = p then Role.gl else S.rl b) = .out
      rw [if_neg fun z => by rw [z, hp] at hb; cases hb]
      exact R.fresh b hb
  · show L2.upd H S.so _ S.no = _; rw [ne R.rno (by decide)]; exact R.no
/-- a cell is put at a place -/
def roleMade (S : WS) (p : Nat) (c : CellD) (b : Addr) : Role := if b = c.ca then .cell p else if b = c.fa then .flds p else S.rl b
theorem Rep.made (R : Rep K H S) {p : Nat} {c : CellD} {cs : List (Option CellD)} (hp : (p < S.cells.length ∧ S.cell p = none ∧ cs = S.cells.set p (some c)) ∨ (p = S.cells.length ∧ cs = S.cells ++ [some c]))
    (h1 : ∃ dx, H c.ca = some (.ins (He.ga K "Cell") dx (cellF c))) (h2 : H c.fa = some (.lst (c.fields.map plV))) (r1 : S.rl c.ca = .out) (r2 : S.rl c.fa = .out) (cf : c.fa ≠ c.ca) :
    Rep K (L2.upd H S.cl (.lst (cs.map cellV))) { S with cells := cs, rl := roleMade S p c } := by
  have ne : ∀ {y : Addr} {r : Role}, S.rl y = r → r ≠ .cl → L2.upd H S.cl (.lst (cs.map cellV)) y = H y := fun h' n' => R.role R.rcl h' n'
  have rl : ∀ {y : Addr} {r : Role}, S.rl y = r → r ≠ .out → roleMade S p c y = r := fun {y r} h k => by
    unfold roleMade
    rw [if_neg fun z => k (by rw [← h, z, r1]), if_neg fun z => k (by rw [← h, z, r2])]
    exact h
  have ce : ∀ q, ((cs[q]?).join) = if q = p then some c else S.cell q := fun q => by
    rcases hp with ⟨h1, h2, h3⟩ | ⟨h1, h2⟩
    · rw [h3]
      exact join_set h1
    · rw [h2, h1]
      exact join_snoc
  refine { wo := ?_, ho := ?_, so := ?_, ko := ?_, lo := ?_, hl := ?_, cl := upd_same, gl := ?_, hand := fun i d hd => ?_, cell := fun i d hd => ?_, nm := fun n hn => ?_, rwo := rl R.rwo (by decide), rho := rl R.rho (by decide), rso := rl R.rso (by decide), rko := rl R.rko (by decide), rlo := rl R.rlo (by decide), rhl := rl R.rhl (by decide), rcl := rl R.rcl (by decide), rgl := rl R.rgl (by decide), rno := rl R.rno (by decide), fresh := fun b hb => ?_, no := ?_ }
  · show ∃ dx, L2.upd H S.cl _ S.wo = _; rw [ne R.rwo (by decide)]; exact R.wo
  · show ∃ dx, L2.upd H S.cl _ S.ho = _; rw [ne R.rho (by decide)]; exact R.ho
  · show ∃ dx, L2.upd H S.cl _ S.so = _; rw [ne R.rso (by decide)]; exact R.so
  · show ∃ dx, L2.upd H S.cl _ S.ko = _; rw [ne R.rko (by decide)]; exact R.ko
  · show ∃ dx, L2.upd H S.cl _ S.lo = _; rw [ne R.rlo (by decide)]; exact R.lo
  · show L2.upd H S.cl _ S.hl = _; rw [ne R.rhl (by decide)]; exact R.hl
  · show L2.upd H S.cl _ S.gl = _; rw [ne R.rgl (by decide)]; exact R.gl
  · obtain ⟨a, b, c', d'⟩ := R.hand i d hd
    rw [ne c' (by intro z; cases z), ne d' (by intro z; cases z)]
    exact ⟨a, b, rl c' (by intro z; cases z), rl d' (by intro z; cases z)⟩
  · have hd : (cs[i]?).join = some d := hd
    rw [ce] at hd
    by_cases q : i = p
    · rw [if_pos q] at hd
      cases hd
      rw [ne r1 (by decide), ne r2 (by decide), q]
      refine ⟨h1, h2, by show roleMade S p c c.ca = _; unfold roleMade; rw [if_pos rfl], ?_⟩
      show roleMade S p c c.fa = _
      unfold roleMade
      rw [if_neg cf, if_pos rfl]
    · rw [if_neg q] at hd
      obtain ⟨a, b, c', d'⟩ := R.cell i d hd
      rw [ne c' (by intro z; cases z), ne d' (by intro z; cases z)]
      exact ⟨a, b, rl c' (by intro z; cases z), rl d' (by intro z; cases z)⟩
  · obtain ⟨a, b⟩ := R.nm n hn
    rw [ne b (by decide)]
    exact ⟨a, rl b (by decide)⟩
  · by_cases q : b = S.cl
    · rw [q, upd_same] at hb
      cases hb
    · rw [upd_ne q] at hb
      show roleMade S p c b = .out
      unfold roleMade
      obtain ⟨dx, h1⟩ := h1
      have n1 : ¬ b = c.ca := fun z => by rw [z, h1] at hb; cases hb
      have n2 : ¬ b = c.fa := fun z => by rw [z, h2] at hb; cases hb
      rw [if_neg n1, if_neg n2]
      exact R.fresh b hb
  · show L2.upd H S.cl _ S.no = _; rw [ne R.rno (by decide)]; exact R.no
end
end G

/-! Short rules: a def with its promise as one thing; its call, as a function, a method, a maker. -/
namespace G
open PySem PySem.Spec PyProof.Rows L2
section
variable {P : Program} {w : World} {K : PySem.W.Frag} {mg : Str → Option Value} {base : Heap}
/-- a def keeps its promise, no argument left out -/
structure Ok (P : Program) (w : World) (K : PySem.W.Frag) (mg : Str → Option Value) (base : Heap) (CX : CXT) (k : Nat) (d : He.DefD) (ps : List Str) (sp : Sp) : Prop where
  ex : ∃ fd, FnOk P w K mg base CX k (He.fAd K d.at_) fd ps sp ∧ PySem.W.keepIn K (.ref (He.fAd K d.at_)) = true ∧ Binds K fd ps []
theorem ok_mk0 {d : He.DefD} {N ps : List Str} {k : Nat} {sp : Sp} (f : ∃ fd, FnP K d fd) (S : FnScope N ps d.scope) (len : ∀ vs H Q E, sp vs H Q E → vs.length = ps.length)
    (hb : ∀ fd, FnP K d fd → Binds K fd ps [])
    (hbody : ∀ (cdv : Value) (A : Around) (outer : List Env) (s : Shared) (H : Hp) (vs : List V) (Q : VK) (E : XK), Room k (A.deeper (envOfC d.qual d.scope s.heap.objs.size (He.fAd K d.at_) cdv)) → sp vs H Q E →
      ∃ t, PSs (cxOf CX0 P w K mg base N d.qual d.scope (He.fAd K d.at_) cdv A outer s H E).nox d.body t ∧ t { nx := fun _ H' => Q .non H', rt := Q } (start N vs) H) : Ok P w K mg base CX0 (k + 1) d ps sp := by
  obtain ⟨fd, F⟩ := f
  refine ⟨fd, FunD.ok F S len fun cdv A outer s H vs Q E hr hsp => ?_, F.kp, hb fd F⟩
  obtain ⟨t, h, q⟩ := hbody cdv A outer s H vs Q E hr hsp
  exact ⟨t, h.nox, q⟩
theorem ok_mkX {d : He.DefD} {N ps : List Str} {k : Nat} {sp : Sp} (f : ∃ fd, FnP K d fd) (S : FnScope N ps d.scope) (len : ∀ vs H Q E, sp vs H Q E → vs.length = ps.length)
    (hb : ∀ fd, FnP K d fd → Binds K fd ps [])
    (hbody : ∀ (cdv : Value) (A : Around) (outer : List Env) (s : Shared) (H : Hp) (vs : List V) (Q : VK) (E : XK), Room k (A.deeper (envOfC d.qual d.scope s.heap.objs.size (He.fAd K d.at_) cdv)) → sp vs H Q E →
      ∃ t, PSs (cxOf (L2.CX P w) P w K mg base N d.qual d.scope (He.fAd K d.at_) cdv A outer s H E) d.body t ∧ t { nx := fun _ H' => Q .non H', rt := Q } (start N vs) H) : Ok P w K mg base (L2.CX P w) (k + 1) d ps sp := by
  obtain ⟨fd, F⟩ := f
  exact ⟨fd, FunD.ok F S len fun cdv A outer s H vs Q E hr hsp => hbody cdv A outer s H vs Q E hr hsp, F.kp, hb fd F⟩
end
section
variable {X : Cx} {k : Nat} {d : He.DefD} {ps : List Str} {sp : Sp} {E : XK} {x m : Str} {p pos apos : Pos} {e o : Expr} {es : List Expr} {ta : TE} {t : TA} {C : Addr}
theorem pe_fn (ok : Ok X.prog X.w X.K X.mg X.base CX0 k d ps sp) (hr : Room k X.A) (hm : X.mg x = some (.ref (He.fAd X.K d.at_))) (ha : PA X (e :: es) t) (hg : Gl X x := by rfl)
    (hdb : (x == ("__debug__" : Str)) = false := by decide) (he : starEach (e :: es) X.env = (false, eval e X.env) :: starEach es X.env := by rfl) (hpl : (backTo pos (starEach es X.env)).any (·.1) = false := by rfl) :
    PE X (.Call (.Name x p) (e :: es) [] pos) (tCall sp [] E0 t) := by
  obtain ⟨fd, F, kp, b⟩ := ok.ex
  exact pe_call F hr hg hm kp b .nil pass0 ha hdb he hpl
/-- a def that may raise: what it raises is taken as W says -/
theorem pe_fnX (ok : Ok X.prog X.w X.K X.mg X.base (L2.CX X.prog X.w) k d ps sp) (hr : Room k X.A) (hm : X.mg x = some (.ref (He.fAd X.K d.at_))) (tk : Takes X (fun cls d _ H => E cls d H)) (ha : PA X (e :: es) t) (hg : Gl X x := by rfl)
    (hdb : (x == ("__debug__" : Str)) = false := by decide) (he : starEach (e :: es) X.env = (false, eval e X.env) :: starEach es X.env := by rfl) (hpl : (backTo pos (starEach es X.env)).any (·.1) = false := by rfl) :
    PE X (.Call (.Name x p) (e :: es) [] pos) (tCall sp [] E t) := by
  obtain ⟨fd, F, kp, b⟩ := ok.ex
  exact pe_call F hr hg hm kp b .nil (passes_call tk fun _ _ _ _ h => h) ha hdb he hpl
theorem pe_fnS {W : WX} (ok : Ok X.prog X.w X.K X.mg X.base (L2.CX X.prog X.w) k d ps sp) (hr : Room k X.A) (hm : X.mg x = some (.ref (He.fAd X.K d.at_))) (tk : Takes X W) (ha : PA X (e :: es) t) (hg : Gl X x := by rfl)
    (hdb : (x == ("__debug__" : Str)) = false := by decide) (he : starEach (e :: es) X.env = (false, eval e X.env) :: starEach es X.env := by rfl) (hpl : (backTo pos (starEach es X.env)).any (·.1) = false := by rfl) :
    PE X (.Call (.Name x p) (e :: es) [] pos) (tCallS sp (WE W) t) := by
  obtain ⟨fd, F, kp, b⟩ := ok.ex
  exact pe_callS F hr hg hm kp b (fun σ => passAt tk σ) ha hdb he hpl
/-- a def whose exceptions none comes of (the promise says so) -/
theorem pe_fnL (ok : Ok X.prog X.w X.K X.mg X.base (L2.CX X.prog X.w) k d ps sp) (hr : Room k X.A) (hm : X.mg x = some (.ref (He.fAd X.K d.at_))) (ha : PA X (e :: es) t) (hg : Gl X x := by rfl)
    (hdb : (x == ("__debug__" : Str)) = false := by decide) (he : starEach (e :: es) X.env = (false, eval e X.env) :: starEach es X.env := by rfl) (hpl : (backTo pos (starEach es X.env)).any (·.1) = false := by rfl) :
    PE X (.Call (.Name x p) (e :: es) [] pos) (tCall sp [] E0 t) := by
  obtain ⟨fd, F, kp, b⟩ := ok.ex
  exact pe_call F hr hg hm kp b .nil passL ha hdb he hpl
theorem pe_mt {pl : Sem Bool} (he : PE X o ta) (c : Cls X.K C) (hm : Meth X.K C m (He.fAd X.K d.at_)) (ok : Ok X.prog X.w X.K X.mg X.base CX0 k d ps sp) (hr : Room k X.A) (ha : PA X (e :: es) t)
    (hst : starEach (e :: es) X.env = (false, eval e X.env) :: starEach es X.env := by rfl) (hpl : (backTo pos (starEach es X.env)).any (·.1) = false := by rfl)
    (ht : eval (.Call (.Attribute o m apos) (e :: es) [] pos) X.env = (do
      let ov ← eval o X.env
      standAt apos.atName
      let (f, first) ← holding [ov] (getMethod ov m pl)
      callWith pos f first (backTo pos (starEach (e :: es) X.env)) (backToKw pos (keywordEach [] X.env))) := by rfl) : PE X (.Call (.Attribute o m apos) (e :: es) [] pos) (tMeth C m sp [] E0 ta t) := by
  obtain ⟨fd, F, kp, b⟩ := ok.ex
  exact pe_meth he c hm F hr b .nil pass0 ha hst hpl ht
theorem pe_mtX {pl : Sem Bool} (he : PE X o ta) (c : Cls X.K C) (hm : Meth X.K C m (He.fAd X.K d.at_)) (ok : Ok X.prog X.w X.K X.mg X.base (L2.CX X.prog X.w) k d ps sp) (hr : Room k X.A) (tk : Takes X (fun cls d _ H => E cls d H)) (ha : PA X (e :: es) t)
    (hst : starEach (e :: es) X.env = (false, eval e X.env) :: starEach es X.env := by rfl) (hpl : (backTo pos (starEach es X.env)).any (·.1) = false := by rfl)
    (ht : eval (.Call (.Attribute o m apos) (e :: es) [] pos) X.env = (do
      let ov ← eval o X.env
      standAt apos.atName
      let (f, first) ← holding [ov] (getMethod ov m pl)
      callWith pos f first (backTo pos (starEach (e :: es) X.env)) (backToKw pos (keywordEach [] X.env))) := by rfl) : PE X (.Call (.Attribute o m apos) (e :: es) [] pos) (tMeth C m sp [] E ta t) := by
  obtain ⟨fd, F, kp, b⟩ := ok.ex
  exact pe_meth he c hm F hr b .nil (passes_call tk fun _ _ _ _ h => h) ha hst hpl ht
theorem pe_mt0 {pl : Sem Bool} (he : PE X o ta) (c : Cls X.K C) (hm : Meth X.K C m (He.fAd X.K d.at_)) (ok : Ok X.prog X.w X.K X.mg X.base CX0 k d ps sp) (hr : Room k X.A)
    (ht : eval (.Call (.Attribute o m apos) [] [] pos) X.env = (do
      let ov ← eval o X.env
      standAt apos.atName
      let (f, first) ← holding [ov] (getMethod ov m pl)
      callWith pos f first (backTo pos (starEach [] X.env)) (backToKw pos (keywordEach [] X.env))) := by rfl) : PE X (.Call (.Attribute o m apos) [] [] pos) (tMeth C m sp [] E0 ta tNil) := by
  obtain ⟨fd, F, kp, b⟩ := ok.ex
  exact pe_meth0 he c hm F hr b .nil pass0 ht
theorem pe_mk (M : Mk X.K C (He.fAd X.K d.at_)) (ok : Ok X.prog X.w X.K X.mg X.base CX0 k d ps sp) (hr : Room (k + 1) X.A) (hm : X.mg x = some (.ref C)) (ha : PA X (e :: es) t) (hg : Gl X x := by rfl)
    (hdb : (x == ("__debug__" : Str)) = false := by decide) (he : starEach (e :: es) X.env = (false, eval e X.env) :: starEach es X.env := by rfl) (hpl : (backTo pos (starEach es X.env)).any (·.1) = false := by rfl) :
    PE X (.Call (.Name x p) (e :: es) [] pos) (tMake C sp [] E0 t) := by
  obtain ⟨fd, F, kp, b⟩ := ok.ex
  exact pe_make M F hr hg hm b .nil pass0 ha hdb he hpl
theorem pe_mk0 (M : Mk X.K C (He.fAd X.K d.at_)) (ok : Ok X.prog X.w X.K X.mg X.base CX0 k d ps sp) (hr : Room (k + 1) X.A) (hm : X.mg x = some (.ref C)) (hg : Gl X x := by rfl)
    (hdb : (x == ("__debug__" : Str)) = false := by decide) : PE X (.Call (.Name x p) [] [] pos) (tMake C sp [] E0 tNil) := by
  obtain ⟨fd, F, kp, b⟩ := ok.ex
  exact pe_make0 M F hr hg hm b .nil pass0 hdb
theorem ip_ext : PIp X .Add rExt2 := fun pins s σ H x y v u Q I rx ry h => iop_ext pins s σ H x y v u Q I rx ry h
def rOr : R2 := rI0 fun i j => .int (Builtin.bitOr i j)
theorem in_or : InOp X .BitOr rOr := fun pins s σ H x y u v Q I rx ry h => iop_or pins s σ H x y u v Q I rx ry h
theorem ixN_nat {n j : Nat} (h : j < n) : ixN n (j : Int) = some j := by
  unfold ixN
  rw [if_pos (by omega), if_pos (by omega)]
  simp
/-- a class without an __init__ of its own is made -/
def tNew (C : Addr) : TE := fun _ H Q => ∀ x dx, H x = none → H dx = none → dx ≠ x → Q (.ref x) (upd (upd H dx (.own x)) x (.ins C dx []))
theorem pe_new {c : Str} (ni : noInit X.K c = true) (kp : PySem.W.keepIn X.K (.ref (He.ga X.K c)) = true) (hm : X.mg x = some (.ref (He.ga X.K c))) (hg : Gl X x := by rfl)
    (hdb : (x == ("__debug__" : Str)) = false := by decide) : PE X (.Call (.Name x p) [] [] pos) (tNew (He.ga X.K c)) := by
  refine ⟨fun pins s σ H Q I h => ?_⟩
  obtain ⟨hmk, hi⟩ := He.ba ni
  have hi := He.eqO_ok hi
  refine wpAny_Call_Name_kw (ld_glob I hg hm ?_ hdb)
  refine PySem.W.callWith_K0 I.kIn kp (wpAny_call ?_)
  have q := h (s.heap.objs.size + 1) s.heap.objs.size (I.hok.fresh (Nat.le_succ _)) (I.hok.fresh (Nat.le_refl _)) (Nat.ne_of_lt (Nat.lt_succ_self _))
  have I2 := Inv.made (C := He.ga X.K c) I
  obtain ⟨hh, g, dd, t, os⟩ := s
  have Y := PySem.W.makes_of (M := model X.prog X.w) I.kIn hmk
  refine PySem.W.make_core Y (PySem.W.looks_findIn I.kIn hi) (fun self => PySem.W.Looks.of_pure (PySem.W.oi_bind self)) (.inr ⟨rfl, rfl⟩) ?_
  have hx : ((hh.push PySem.W.emptyDict).push (PySem.W.instObj (He.ga X.K c) hh.objs.size)).get? (hh.objs.size + 1) = some (PySem.W.instObj (He.ga X.K c) hh.objs.size) := by heap_get
  have t1 : PySem.W.Looks (model X.prog X.w) ((hh.push PySem.W.emptyDict).push (PySem.W.instObj (He.ga X.K c) hh.objs.size)) (typeOf (.ref (hh.objs.size + 1))) (.ref (He.ga X.K c)) := (PySem.W.Looks.ld hx).andThen .now
  have t2 : PySem.W.Looks (model X.prog X.w) ((hh.push PySem.W.emptyDict).push (PySem.W.instObj (He.ga X.K c) hh.objs.size)) (isInstance (.ref (hh.objs.size + 1)) (.type "object")) true := t1.andThen (Y.top.keeps fun b o e => Heap.get?_push_of_some _ (Heap.get?_push_of_some _ e))
  refine codeAny_call_builtin PySem.W.oi_plain PySem.W.entry_oi (@PySem.W.check_slot (model X.prog X.w) _ _ _ "object.__init__" "object" "__init__" (.ref (hh.objs.size + 1)) [] [] _ PySem.W.oi_kind PySem.W.oi_split t2 (PySem.W.oi_args (.ref (hh.objs.size + 1))) ?_)
  show wpAny _ _ (Builtin.«object.__init__» ⟨[.ref (hh.objs.size + 1)], []⟩) _ _ _
  rw [PySem.W.oi_run]
  exact wpAny_pure (And.intro rfl ⟨.ref (hh.objs.size + 1), _, I2, rfl, q⟩)
end
end G

/-! What is read of the world. -/
namespace G
open PySem PySem.Spec PyProof.Rows L2
abbrev RdF (K : PySem.W.Frag) (H : Hp) (x : V) (f : Str) (Q : V → Prop) : Prop := ∃ a C dx fs v, x = .ref a ∧ H a = some (.ins C dx fs) ∧ Cls K C ∧ NoAttr K C f ∧ fs.lookup f = some v ∧ Q v
abbrev RdL (K : PySem.W.Frag) (H : Hp) (x y : V) (Q : V → Prop) : Prop := ∃ p xs i v, x = .ref p ∧ y = .int i ∧ SqL K H p xs ∧ atI xs i = some v ∧ Q v
theorem ifT {c : Bool} {A B : Prop} (h : c = true) (a : A) : if c = true then A else B := by rw [if_pos h]; exact a
theorem ifF {c : Bool} {A B : Prop} (h : c = false) (b : B) : if c = true then A else B := by rw [if_neg (by rw [h]; decide)]; exact b
theorem if2 {c : Bool} {A B : Prop} (a : c = true → A) (b : c = false → B) : if c = true then A else B := by
  cases c with
  | true => exact ifT rfl (a rfl)
  | false => exact ifF rfl (b rfl)
section
variable {K : PySem.W.Frag} {H : Hp} {S : WS} {Q : V → Prop}
theorem rdF {a C dx : Addr} {fs : List (Str × V)} {f : Str} {v : V} (h : H a = some (.ins C dx fs)) (c : Cls K C) (n : NoAttr K C f) (l : fs.lookup f = some v) (q : Q v) : RdF K H (.ref a) f Q := ⟨a, C, dx, fs, v, rfl, h, c, n, l, q⟩
theorem rdL {a : Addr} {xs : List V} {i : Nat} {v : V} (h : SqL K H a xs) (e : xs[i]? = some v) (q : Q v) : RdL K H (.ref a) (.int (i : Int)) Q := ⟨a, xs, _, v, rfl, rfl, h, at_of (j := i) rfl e, q⟩
theorem Core.r_heap (R : Core K H S) (T : Txt K) (q : Q (.ref S.ho)) : RdF K H (.ref S.wo) "heap" Q := let ⟨_, h⟩ := R.wo; rdF h T.cls_World T.na_World_heap rfl q
theorem Core.r_kind (R : Core K H S) (T : Txt K) (q : Q (.ref S.ko)) : RdF K H (.ref S.wo) "kind" Q := let ⟨_, h⟩ := R.wo; rdF h T.cls_World T.na_World_kind rfl q
theorem Core.r_hands (R : Core K H S) (T : Txt K) (q : Q (.ref S.hl)) : RdF K H (.ref S.wo) "hands" Q := let ⟨_, h⟩ := R.wo; rdF h T.cls_World T.na_World_hands rfl q
theorem Core.r_names (R : Core K H S) (T : Txt K) (q : Q (.ref S.no)) : RdF K H (.ref S.wo) "names" Q := let ⟨_, h⟩ := R.wo; rdF h T.cls_World T.na_World_names rfl q
theorem Core.r_sweeper (R : Core K H S) (T : Txt K) (q : Q (.ref S.so)) : RdF K H (.ref S.wo) "sweeper" Q := let ⟨_, h⟩ := R.wo; rdF h T.cls_World T.na_World_sweeper rfl q
theorem Core.r_room (R : Core K H S) (T : Txt K) (q : Q (.int S.room)) : RdF K H (.ref S.ho) "room" Q := let ⟨_, h⟩ := R.ho; rdF h T.cls_Heap T.na_Heap_room rfl q
theorem Core.r_cells (R : Core K H S) (T : Txt K) (q : Q (.ref S.cl)) : RdF K H (.ref S.ho) "cells" Q := let ⟨_, h⟩ := R.ho; rdF h T.cls_Heap T.na_Heap_cells rfl q
theorem Core.r_used (R : Core K H S) (T : Txt K) (q : Q (.int S.used)) : RdF K H (.ref S.ho) "used" Q := let ⟨_, h⟩ := R.ho; rdF h T.cls_Heap T.na_Heap_used rfl q
theorem Core.r_born (R : Core K H S) (T : Txt K) (q : Q (.int S.born)) : RdF K H (.ref S.ho) "born" Q := let ⟨_, h⟩ := R.ho; rdF h T.cls_Heap T.na_Heap_born rfl q
theorem Core.r_looking (R : Core K H S) (T : Txt K) (q : Q (.ref S.lo)) : RdF K H (.ref S.ko) "looking" Q := let ⟨_, h⟩ := R.ko; rdF h T.cls_Kind T.na_Kind_looking rfl q
theorem Core.r_tells (R : Core K H S) (T : Txt K) (q : Q (.int S.tells)) : RdF K H (.ref S.ko) "tells" Q := let ⟨_, h⟩ := R.ko; rdF h T.cls_Kind T.na_Kind_tells rfl q
theorem Core.r_sense (R : Core K H S) (T : Txt K) (q : Q (.int S.sense)) : RdF K H (.ref S.so) "sense" Q := let ⟨_, h⟩ := R.so; rdF h T.cls_Sweeper T.na_Sweeper_sense rfl q
theorem Core.r_phase (R : Core K H S) (T : Txt K) (q : Q (.str (phS S.phase))) : RdF K H (.ref S.so) "phase" Q := let ⟨_, h⟩ := R.so; rdF h T.cls_Sweeper T.na_Sweeper_phase rfl q
theorem Core.r_grey (R : Core K H S) (T : Txt K) (q : Q (.ref S.gl)) : RdF K H (.ref S.so) "grey" Q := let ⟨_, h⟩ := R.so; rdF h T.cls_Sweeper T.na_Sweeper_grey rfl q
theorem Core.r_looked (R : Core K H S) (T : Txt K) (q : Q (.int S.looked)) : RdF K H (.ref S.so) "looked" Q := let ⟨_, h⟩ := R.so; rdF h T.cls_Sweeper T.na_Sweeper_looked rfl q
theorem Core.r_turn (R : Core K H S) (T : Txt K) (q : Q (.int S.turn)) : RdF K H (.ref S.so) "turn" Q := let ⟨_, h⟩ := R.so; rdF h T.cls_Sweeper T.na_Sweeper_turn rfl q
theorem Core.r_at (R : Core K H S) (T : Txt K) (q : Q (.int (S.at_ : Int))) : RdF K H (.ref S.so) "at" Q := let ⟨_, h⟩ := R.so; rdF h T.cls_Sweeper T.na_Sweeper_at rfl q
theorem Core.r_stop (R : Core K H S) (T : Txt K) (q : Q (.int (S.stop : Int))) : RdF K H (.ref S.so) "stop" Q := let ⟨_, h⟩ := R.so; rdF h T.cls_Sweeper T.na_Sweeper_stop rfl q
theorem Core.r_walks (R : Core K H S) (T : Txt K) (q : Q (.int S.walks)) : RdF K H (.ref S.so) "walks" Q := let ⟨_, h⟩ := R.so; rdF h T.cls_Sweeper T.na_Sweeper_walks rfl q
theorem Core.r_looks (R : Core K H S) (T : Txt K) (q : Q (.int S.looks)) : RdF K H (.ref S.so) "looks" Q := let ⟨_, h⟩ := R.so; rdF h T.cls_Sweeper T.na_Sweeper_looks rfl q
theorem Core.r_passes (R : Core K H S) (T : Txt K) (q : Q (.int S.passes)) : RdF K H (.ref S.so) "passes" Q := let ⟨_, h⟩ := R.so; rdF h T.cls_Sweeper T.na_Sweeper_passes rfl q
theorem Core.r_loss (R : Core K H S) (T : Txt K) (q : Q (S.loss)) : RdF K H (.ref S.so) "loss" Q := let ⟨_, h⟩ := R.so; rdF h T.cls_Sweeper T.na_Sweeper_loss rfl q
theorem Core.c_birth (R : Core K H S) (T : Txt K) {p : Nat} {c : CellD} (hc : S.cell p = some c) (q : Q (.int c.birth)) : RdF K H (.ref c.ca) "birth" Q := let ⟨_, h⟩ := (R.cell p c hc).1; rdF h T.cls_Cell T.na_Cell_birth rfl q
theorem Core.c_bulk (R : Core K H S) (T : Txt K) {p : Nat} {c : CellD} (hc : S.cell p = some c) (q : Q (.int c.bulk)) : RdF K H (.ref c.ca) "bulk" Q := let ⟨_, h⟩ := (R.cell p c hc).1; rdF h T.cls_Cell T.na_Cell_bulk rfl q
theorem Core.c_tone (R : Core K H S) (T : Txt K) {p : Nat} {c : CellD} (hc : S.cell p = some c) (q : Q (.int c.tone)) : RdF K H (.ref c.ca) "tone" Q := let ⟨_, h⟩ := (R.cell p c hc).1; rdF h T.cls_Cell T.na_Cell_tone rfl q
theorem Core.c_load (R : Core K H S) (T : Txt K) {p : Nat} {c : CellD} (hc : S.cell p = some c) (q : Q (.int c.load)) : RdF K H (.ref c.ca) "load" Q := let ⟨_, h⟩ := (R.cell p c hc).1; rdF h T.cls_Cell T.na_Cell_load rfl q
theorem Core.c_fields (R : Core K H S) (T : Txt K) {p : Nat} {c : CellD} (hc : S.cell p = some c) (q : Q (.ref c.fa)) : RdF K H (.ref c.ca) "fields" Q := let ⟨_, h⟩ := (R.cell p c hc).1; rdF h T.cls_Cell T.na_Cell_fields rfl q
theorem Core.d_name (R : Core K H S) (T : Txt K) {i : Nat} {d : HandD} (hd : S.hands[i]? = some d) (q : Q (.str d.name)) : RdF K H (.ref d.ha) "name" Q := let ⟨_, h⟩ := (R.hand i d hd).1; rdF h T.cls_Hand T.na_Hand_name rfl q
theorem Core.d_slots (R : Core K H S) (T : Txt K) {i : Nat} {d : HandD} (hd : S.hands[i]? = some d) (q : Q (.ref d.sa)) : RdF K H (.ref d.ha) "slots" Q := let ⟨_, h⟩ := (R.hand i d hd).1; rdF h T.cls_Hand T.na_Hand_slots rfl q
theorem Core.ix_cells (R : Core K H S) {p : Nat} (hp : p < S.cells.length) (q : Q (cellV (S.cell p))) : RdL K H (.ref S.cl) (.int (p : Int)) Q := by
  refine rdL (v := cellV (S.cell p)) (SqL.of R.cl) ?_ q
  rw [List.getElem?_map, List.getElem?_eq_getElem hp]
  unfold WS.cell
  rw [List.getElem?_eq_getElem hp]
  rfl
theorem Core.ix_cell (R : Core K H S) {p : Nat} {c : CellD} (hc : S.cell p = some c) (q : Q (.ref c.ca)) : RdL K H (.ref S.cl) (.int (p : Int)) Q := R.ix_cells (cell_lt hc) (by rw [hc]; exact q)
theorem Core.ix_hands (R : Core K H S) {i : Nat} {d : HandD} (hd : S.hands[i]? = some d) (q : Q (.ref d.ha)) : RdL K H (.ref S.hl) (.int (i : Int)) Q :=
  rdL (v := .ref d.ha) (SqL.of R.hl) (by rw [List.getElem?_map, hd]; rfl) q
theorem Core.ix_slots (R : Core K H S) {i s : Nat} {d : HandD} {x : Option Nat} (hd : S.hands[i]? = some d) (hs : d.slots[s]? = some x) (q : Q (plV x)) : RdL K H (.ref d.sa) (.int (s : Int)) Q :=
  rdL (v := plV x) (SqL.of (R.hand i d hd).2.1) (by rw [List.getElem?_map, hs]; rfl) q
theorem Core.ix_fields (R : Core K H S) {p f : Nat} {c : CellD} {x : Option Nat} (hc : S.cell p = some c) (hs : c.fields[f]? = some x) (q : Q (plV x)) : RdL K H (.ref c.fa) (.int (f : Int)) Q :=
  rdL (v := plV x) (SqL.of (R.cell p c hc).2.1) (by rw [List.getElem?_map, hs]; rfl) q
end
end G

/-! The walk, 1: what is asked and not changed. -/
namespace G
open PySem PySem.Spec PyProof.Rows L2
def WS.birthAt (S : WS) (p : Option Nat) : Option Int := (p.bind S.cell).map (·.birth)
def spBirthAt (K : PySem.W.Frag) : Sp := fun vs H Q _ => ∃ (S : WS) (p : Option Nat), vs = [.ref S.ho, plV p] ∧ Core K H S ∧ (∀ q, p = some q → q < S.cells.length) ∧ Q (btV (S.birthAt p)) H
def spLookedAt (K : PySem.W.Frag) : Sp := fun vs H Q _ => ∃ (S : WS) (h : Nat), vs = [.ref S.wo, .int (h : Int)] ∧ Core K H S ∧ ∀ b : Bool, Q (.bl b) H
def spGone (K : PySem.W.Frag) : Sp := fun vs H Q _ => ∃ (S : WS) (p : Nat) (b : Int), vs = [.ref S.wo, .int (p : Int), .int b] ∧ Core K H S ∧ p < S.cells.length ∧ Q (.bl (S.goneB p b)) H
def spStays (K : PySem.W.Frag) : Sp := fun vs H Q _ => ∃ (S : WS) (p : Nat) (b : Int), vs = [.ref S.wo, .int (p : Int), .int b] ∧ Core K H S ∧ p < S.cells.length ∧ Q (.bl (S.staysB p b)) H
def spCellIn (K : PySem.W.Frag) : Sp := fun vs H Q E => ∃ (S : WS) (h s : Nat) (d : HandD) (x : Option Nat), vs = [.ref S.wo, .int (h : Int), .int (s : Int)] ∧ Core K H S ∧ S.hands[h]? = some d ∧ d.slots[s]? = some x ∧ (∀ p, x = some p → S.There p) ∧
  (x = none → E (.ref (He.ga K "EmptySlot")) none H) ∧ ∀ p c, x = some p → S.cell p = some c → Q (.ref c.ca) H
def spCellWith (K : PySem.W.Frag) : Sp := fun vs H Q E => ∃ (S : WS) (h s f : Nat) (d : HandD) (x : Option Nat), vs = [.ref S.wo, .int (h : Int), .int (s : Int), .int (f : Int)] ∧ Core K H S ∧ S.hands[h]? = some d ∧ d.slots[s]? = some x ∧ (∀ p, x = some p → S.There p) ∧
  (x = none → E (.ref (He.ga K "EmptySlot")) none H) ∧ ∀ p c, x = some p → S.cell p = some c → (c.fields.length ≤ f → E (.ref (He.ga K "NoField")) none H) ∧ (f < c.fields.length → Q (.ref c.ca) H)
section
variable {P : Program} {w : World} {K : PySem.W.Frag} {mg : Str → Option Value} {base : Heap}
theorem sc_birth_at : FnScope ["heap", "place", "cell"] ["heap", "place"] (defScope s_birth_at) := ⟨rfl, rfl, rfl, by decide +kernel, rfl, by decide +kernel, by decide +kernel⟩
theorem ok_birth_at (C : CtxG K mg) : Ok P w K mg base CX0 1 d_birth_at ["heap", "place"] (spBirthAt K) := by
  refine ok_mk0 C.T.f_birth_at sc_birth_at (fun vs H Q E h => ?_) (fun fd F => F.bindsN fun _ _ _ _ _ _ us hl => match us, hl with | [_, _], _ => rfl) (fun cdv A outer s H vs Q E hr h => ?_)
  · obtain ⟨S, p, rfl, _⟩ := h
    rfl
  · obtain ⟨S, p, rfl, R, hp, k⟩ := h
    refine ⟨_, (pss_cons (ps_if (pt_cmp (pc_isN (pv 1))) (pss_one (ps_ret pe_non)) pss_nil)
      (pss_cons (ps_set (i := 2) sc_birth_at.nd rfl (Or.inl rfl) (pe_ix ix_list (pe_fld (pv 0) rfl) (pv 1) (fun _ _ => rfl)))
      (pss_cons (ps_if (pt_cmp (pc_isN (pv 2))) (pss_one (ps_ret pe_non)) pss_nil)
      (pss_one (ps_ret (pe_fld (pv 2) rfl)))))), ?_⟩
    refine ⟨_, rfl, _, rfl, ?_⟩
    cases p with
    | none => exact ifT rfl k
    | some q =>
      refine ifF rfl ?_
      refine ⟨_, rfl, R.r_cells C.T ⟨_, rfl, R.ix_cells (hp q rfl) ⟨_, rfl, _, rfl, ?_⟩⟩⟩
      cases hc : S.cell q with
      | none =>
        rw [show S.birthAt (some q) = none by simp [WS.birthAt, hc]] at k
        exact ifT rfl k
      | some c =>
        rw [show S.birthAt (some q) = some c.birth by simp [WS.birthAt, hc]] at k
        exact ifF rfl ⟨_, rfl, R.c_birth C.T hc k⟩
theorem sc_looked_at : FnScope ["world", "hand"] ["world", "hand"] (defScope s_looked_at) := ⟨rfl, rfl, rfl, by decide +kernel, rfl, by decide +kernel, by decide +kernel⟩
theorem ok_looked_at (C : CtxG K mg) : Ok P w K mg base CX0 1 d_looked_at ["world", "hand"] (spLookedAt K) := by
  refine ok_mk0 C.T.f_looked_at sc_looked_at (fun vs H Q E h => ?_) (fun fd F => F.bindsN fun _ _ _ _ _ _ us hl => match us, hl with | [_, _], _ => rfl) (fun cdv A outer s H vs Q E hr h => ?_)
  · obtain ⟨S, p, rfl, _⟩ := h
    rfl
  · obtain ⟨S, p, rfl, R, k⟩ := h
    refine ⟨_, (pss_one (ps_ret (pe_cmpR op_eq (pe_op op_and (pe_op op_shr (pe_fld (pe_fld (pv 0) rfl) rfl) (pv 1)) pe_int) pe_int (nomark _)))), ?_⟩
    exact ⟨_, rfl, R.r_sweeper C.T (R.r_looked C.T ⟨_, rfl, _, _, rfl, rfl, Int.natCast_nonneg _, _, _, rfl, rfl, rfl, k _⟩)⟩
theorem sc_gone : FnScope ["world", "place", "birth", "sweeper", "cell"] ["world", "place", "birth"] (defScope s_gone) := ⟨rfl, rfl, rfl, by decide +kernel, rfl, by decide +kernel, by decide +kernel⟩
theorem ok_gone (C : CtxG K mg) : Ok P w K mg base CX0 1 d_gone ["world", "place", "birth"] (spGone K) := by
  refine ok_mk0 C.T.f_gone sc_gone (fun vs H Q E h => ?_) (fun fd F => F.bindsN fun _ _ _ _ _ _ us hl => match us, hl with | [_, _, _], _ => rfl) (fun cdv A outer s H vs Q E hr h => ?_)
  · obtain ⟨S, p, b, rfl, _⟩ := h
    rfl
  · obtain ⟨S, p, b, rfl, R, hp, k⟩ := h
    refine ⟨_, (pss_cons (ps_set (i := 3) sc_gone.nd rfl (Or.inl rfl) (pe_fld (pv 0) rfl))
      (pss_cons (ps_set (i := 4) sc_gone.nd rfl (Or.inl rfl) (pe_ix ix_list (pe_fld (pe_fld (pv 0) rfl) rfl) (pv 1) (fun _ _ => rfl)))
      (pss_cons (ps_if (PW.pt (pw_or (pt_cmp (pc_isN (pv 4))) (pw_or1 (pt_cmpR op_ne (pe_fld (pv 4) rfl) (pv 2) (nomark _))))) (pss_one (ps_ret pe_bl)) pss_nil)
      (pss_one (ps_ret (pe_and (pe_cmpR op_eq (pe_fld (pv 3) rfl) pe_str (nomark _)) (pe_one (pe_cmpR op_ne (pe_fld (pv 4) rfl) (pe_fld (pv 3) rfl) (nomark _))))))))), ?_⟩
    refine ⟨_, rfl, R.r_sweeper C.T ⟨_, rfl, R.r_heap C.T (R.r_cells C.T ⟨_, rfl, R.ix_cells hp ⟨_, rfl, _, rfl, ?_⟩⟩)⟩⟩
    unfold WS.goneB at k
    cases hc : S.cell p with
    | none =>
      rw [hc] at k
      exact ifT rfl (ifT rfl k)
    | some c =>
      rw [hc] at k
      dsimp only at k
      refine ifF rfl ⟨_, rfl, R.c_birth C.T hc ⟨_, rfl, rfl, _, rfl, ?_⟩⟩
      by_cases hb : c.birth = b
      · rw [decide_eq_false (show ¬ c.birth ≠ b from fun z => z hb), Bool.false_or] at k
        refine ifF (by rw [hb]; simp) ⟨_, rfl, R.r_phase C.T ⟨rfl, _, rfl, ?_⟩⟩
        by_cases hg : S.phase = .give
        · rw [decide_eq_true hg, Bool.true_and] at k
          refine ifT (by rw [hg]; rfl) ⟨_, rfl, R.c_tone C.T hc ⟨_, rfl, R.r_sense C.T ⟨rfl, ?_⟩⟩⟩
          rw [show decide (c.tone ≠ S.sense) = !decide (V.int c.tone = V.int S.sense) by simp] at k
          exact k
        · rw [decide_eq_false hg, Bool.false_and] at k
          exact ifF (decide_eq_false fun z => hg (phS_inj (V.str.inj z))) k
      · rw [decide_eq_true hb, Bool.true_or] at k
        exact ifT (by simp [hb]) k
theorem sc_stays_named : FnScope ["world", "place", "birth", "sweeper"] ["world", "place", "birth"] (defScope s_stays_named) := ⟨rfl, rfl, rfl, by decide +kernel, rfl, by decide +kernel, by decide +kernel⟩
theorem ok_stays_named (C : CtxG K mg) : Ok P w K mg base CX0 2 d_stays_named ["world", "place", "birth"] (spStays K) := by
  refine ok_mk0 C.T.f_stays_named sc_stays_named (fun vs H Q E h => ?_) (fun fd F => F.bindsN fun _ _ _ _ _ _ us hl => match us, hl with | [_, _, _], _ => rfl) (fun cdv A outer s H vs Q E hr h => ?_)
  · obtain ⟨S, p, b, rfl, _⟩ := h
    rfl
  · obtain ⟨S, p, b, rfl, R, hp, k⟩ := h
    refine ⟨_, (pss_cons (ps_set (i := 3) sc_stays_named.nd rfl (Or.inl rfl) (pe_fld (pv 0) rfl))
      (pss_cons (ps_if (pt_val (pe_fn (ok_gone C) (hr.mono (by decide)) C.g_gone (pa_cons (pv 0) (pa_cons (pv 1) (pa_cons (pv 2) pa_nil))))) (pss_one (ps_ret pe_bl)) pss_nil)
      (pss_cons (ps_if (PW.pt (pw_or (pt_cmpR op_eq (pe_fld (pv 3) rfl) pe_str (nomark _)) (pw_or1 (pt_cmpR op_eq (pe_fld (pv 3) rfl) pe_str (nomark _))))) (pss_one (ps_ret (pe_cmpR op_eq (pe_fld (pe_ix ix_list (pe_fld (pe_fld (pv 0) rfl) rfl) (pv 1) (fun _ _ => rfl)) rfl) (pe_fld (pv 3) rfl) (nomark _)))) pss_nil)
      (pss_one (ps_ret pe_bl))))), ?_⟩
    refine ⟨_, rfl, R.r_sweeper C.T ⟨_, rfl, _, rfl, _, rfl, S, p, b, rfl, R, hp, _, rfl, ?_⟩⟩
    unfold WS.staysB at k
    have g : S.cell p = none → S.goneB p b = true := fun hc => by unfold WS.goneB; rw [hc]
    cases hc : S.cell p with
    | none =>
      rw [hc] at k
      rw [g hc]
      exact ifT rfl k
    | some c =>
      rw [hc] at k
      dsimp only at k
      cases hg : S.goneB p b with
      | true =>
        rw [hg] at k
        exact ifT rfl k
      | false =>
        rw [hg] at k
        refine ifF rfl ⟨_, rfl, R.r_phase C.T ⟨rfl, _, rfl, ?_⟩⟩
        have fin : S.phase = .walk ∨ S.phase = .lost → Q (.bl (decide (V.int c.tone = V.int S.sense))) H := fun z => by
          rw [if_pos z] at k
          rw [show decide (V.int c.tone = V.int S.sense) = (!false && decide (c.tone = S.sense)) by simp]
          exact k
        by_cases h1 : S.phase = .walk
        · refine ifT (by rw [h1]; rfl) (ifT rfl ?_)
          exact ⟨_, rfl, R.r_heap C.T (R.r_cells C.T ⟨_, rfl, R.ix_cell hc (R.c_tone C.T hc ⟨_, rfl, R.r_sense C.T ⟨rfl, fin (.inl h1)⟩⟩)⟩)⟩
        · refine ifF (decide_eq_false fun z => h1 (phS_inj (V.str.inj z))) ⟨_, rfl, R.r_phase C.T ⟨rfl, _, rfl, ?_⟩⟩
          by_cases h2 : S.phase = .lost
          · refine ifT (by rw [h2]; rfl) ?_
            exact ⟨_, rfl, R.r_heap C.T (R.r_cells C.T ⟨_, rfl, R.ix_cell hc (R.c_tone C.T hc ⟨_, rfl, R.r_sense C.T ⟨rfl, fin (.inr h2)⟩⟩)⟩)⟩
          · refine ifF (decide_eq_false fun z => h2 (phS_inj (V.str.inj z))) ?_
            rw [if_neg (fun z => z.elim h1 h2)] at k
            exact k
theorem sc_hears_new : FnScope ["world", "hand"] ["world", "hand"] (defScope s_hears_new) := ⟨rfl, rfl, rfl, by decide +kernel, rfl, by decide +kernel, by decide +kernel⟩
theorem ok_hears_new (C : CtxG K mg) : Ok P w K mg base CX0 2 d_hears_new ["world", "hand"] (spLookedAt K) := by
  refine ok_mk0 C.T.f_hears_new sc_hears_new (fun vs H Q E h => ?_) (fun fd F => F.bindsN fun _ _ _ _ _ _ us hl => match us, hl with | [_, _], _ => rfl) (fun cdv A outer s H vs Q E hr h => ?_)
  · obtain ⟨S, p, rfl, _⟩ := h
    rfl
  · obtain ⟨S, p, rfl, R, k⟩ := h
    obtain ⟨tN, hNEW⟩ := C.i_NEW
    refine ⟨_, (pss_one (ps_ret (pe_and (pe_cmpR op_ne (pe_op op_and (pe_fld (pe_fld (pv 0) rfl) rfl) (pe_glob (v := .int 2) (by rfl) hNEW ⟨_, rfl⟩)) pe_int (nomark _)) (pe_one (pe_not (pe_fn (ok_looked_at C) (hr.mono (by decide)) C.g_looked_at (pa_cons (pv 0) (pa_cons (pv 1) pa_nil)))))))), ?_⟩
    refine ⟨_, rfl, R.r_kind C.T (R.r_tells C.T ⟨_, _, rfl, rfl, rfl, _, rfl, if2 (fun _ => ?_) fun _ => k _⟩)⟩
    exact ⟨_, rfl, _, rfl, S, p, rfl, R, fun b => ⟨_, rfl, k _⟩⟩
theorem sc_cell_in : FnScope ["world", "hand", "slot", "place"] ["world", "hand", "slot"] (defScope s_cell_in) := ⟨rfl, rfl, rfl, by decide +kernel, rfl, by decide +kernel, by decide +kernel⟩
theorem ok_cell_in (C : CtxG K mg) : Ok P w K mg base (L2.CX P w) 1 d_cell_in ["world", "hand", "slot"] (spCellIn K) := by
  refine ok_mkX C.T.f_cell_in sc_cell_in (fun vs H Q E h => ?_) (fun fd F => F.bindsN fun _ _ _ _ _ _ us hl => match us, hl with | [_, _, _], _ => rfl) (fun cdv A outer s H vs Q E hr h => ?_)
  · obtain ⟨S, h, s, d, x, rfl, _⟩ := h
    rfl
  · obtain ⟨S, h, s, d, x, rfl, R, hd, hs, ht, k1, k2⟩ := h
    refine ⟨_, (pss_cons (ps_set (i := 3) sc_cell_in.nd rfl (Or.inl rfl) (pe_ix ix_list (pe_fld (pe_ix ix_list (pe_fld (pv 0) rfl) (pv 1) (fun _ _ => rfl)) rfl) (pv 2) (fun _ _ => rfl)))
      (pss_cons (ps_if (pt_cmp (pc_isN (pv 3))) (pss_one (ps_raise rfl (takes_of rfl rfl rfl rfl) (pmk_own PySem.F.excBase_ValueError C.T.ex_EmptySlot.1 C.g_EmptySlot C.T.ex_EmptySlot.2.1 (raises_own C.T.ex_EmptySlot.2.2.1 C.T.ex_EmptySlot.2.2.2) (by exact rfl)))) pss_nil)
      (pss_one (ps_ret (pe_ix ix_list (pe_fld (pe_fld (pv 0) rfl) rfl) (pv 3) (fun _ _ => rfl)))))), ?_⟩
    refine ⟨_, rfl, R.r_hands C.T ⟨_, rfl, R.ix_hands hd (R.d_slots C.T hd ⟨_, rfl, R.ix_slots hd hs ⟨_, rfl, _, rfl, ?_⟩⟩)⟩⟩
    cases x with
    | none => exact ifT rfl (k1 rfl)
    | some p =>
      obtain ⟨c, hc⟩ := ht p rfl
      exact ifF rfl ⟨_, rfl, R.r_heap C.T (R.r_cells C.T ⟨_, rfl, R.ix_cell hc (k2 p c rfl hc)⟩)⟩
theorem sc_cell_with : FnScope ["world", "hand", "slot", "field", "cell"] ["world", "hand", "slot", "field"] (defScope s_cell_with) := ⟨rfl, rfl, rfl, by decide +kernel, rfl, by decide +kernel, by decide +kernel⟩
theorem ok_cell_with (C : CtxG K mg) : Ok P w K mg base (L2.CX P w) 2 d_cell_with ["world", "hand", "slot", "field"] (spCellWith K) := by
  refine ok_mkX C.T.f_cell_with sc_cell_with (fun vs H Q E h => ?_) (fun fd F => F.bindsN fun _ _ _ _ _ _ us hl => match us, hl with | [_, _, _, _], _ => rfl) (fun cdv A outer s H vs Q E hr h => ?_)
  · obtain ⟨S, h, s, f, d, x, rfl, _⟩ := h
    rfl
  · obtain ⟨S, h, s', f, d, x, rfl, R, hd, hs, ht, k1, k2⟩ := h
    refine ⟨_, (pss_cons (ps_set (i := 4) sc_cell_with.nd rfl (Or.inl rfl) (pe_fnX (ok_cell_in C) (hr.mono (by decide)) C.g_cell_in (takes_of rfl rfl rfl rfl) (pa_cons (pv 0) (pa_cons (pv 1) (pa_cons (pv 2) pa_nil)))))
      (pss_cons (ps_if (pt_cmpR op_ge (pv 3) (pe_callB call_len_seq (by rfl) C.fr_len PySem.boot_len (pa_cons (pe_fld (pv 4) rfl) pa_nil)) (nomark _)) (pss_one (ps_raise rfl (takes_of rfl rfl rfl rfl) (pmk_own PySem.F.excBase_ValueError C.T.ex_NoField.1 C.g_NoField C.T.ex_NoField.2.1 (raises_own C.T.ex_NoField.2.2.1 C.T.ex_NoField.2.2.2) (by exact rfl)))) pss_nil)
      (pss_one (ps_ret (pv 4))))), ?_⟩
    refine ⟨_, rfl, _, rfl, _, rfl, S, h, s', d, x, rfl, R, hd, hs, ht, k1, fun p c hx hc => ?_⟩
    obtain ⟨k3, k4⟩ := k2 p c hx hc
    refine ⟨_, rfl, _, rfl, R.c_fields C.T hc ⟨_, _, rfl, .inl (SqL.of (R.cell p c hc).2.1), _, _, rfl, rfl, _, rfl, ?_⟩⟩
    rw [List.length_map]
    refine if2 (fun z => ?_) fun z => ?_
    · exact k3 (by have := of_decide_eq_true z; omega)
    · exact ⟨_, rfl, k4 (by have := of_decide_eq_false z; omega)⟩
end
end G

/-! The walk, 2: notes, slots filled. -/
namespace G
open PySem PySem.Spec PyProof.Rows L2
def spNote (K : PySem.W.Frag) : Sp := fun vs H Q _ => ∃ (lens : List Nat) (N : Nat) (S : WS) (p : Option Nat), vs = [.ref S.wo, plV p] ∧ Rep K H S ∧ Wf lens N S ∧ (∀ q, p = some q → q < S.cells.length) ∧
  ∀ H', Go K H S H' (S.note p).1 → Q (btV (S.note p).2) H'
/-- the list at l stays while cells are noted -/
def spNoted (K : PySem.W.Frag) : Sp := fun vs H Q _ => ∃ (lens : List Nat) (N : Nat) (S : WS) (l : Addr) (L : List (Option Nat)), vs = [.ref S.wo, .ref l] ∧ Rep K H S ∧ Wf lens N S ∧ (∀ q, some q ∈ L → q < S.cells.length) ∧ L.length ≤ 10000 ∧
  (∀ L0 H1, Go K H S H1 (S.noted L0).1 → H1 l = some (.lst (L.map plV))) ∧
  ∀ H' b, Go K H S H' (S.noted L).1 → H b = none → Out H' (S.noted L).1 b (.lst ((S.noted L).2.map V.int)) → Q (.ref b) H'
theorem big_line {n : Nat} (h : n ≤ 20000) : n < sizeLine := by
  have : (20000 : Nat) < sizeLine := by decide
  omega
section
variable {P : Program} {w : World} {K : PySem.W.Frag} {mg : Str → Option Value} {base : Heap}
theorem sc_note : FnScope ["world", "place", "sweeper", "cell"] ["world", "place"] (defScope s_note) := ⟨rfl, rfl, rfl, by decide +kernel, rfl, by decide +kernel, by decide +kernel⟩
theorem ok_note (C : CtxG K mg) : Ok P w K mg base CX0 1 d_note ["world", "place"] (spNote K) := by
  refine ok_mk0 C.T.f_note sc_note (fun vs H Q E h => ?_) (fun fd F => F.bindsN fun _ _ _ _ _ _ us hl => match us, hl with | [_, _], _ => rfl) (fun cdv A outer s H vs Q E hr h => ?_)
  · obtain ⟨_, _, S, p, rfl, _⟩ := h
    rfl
  · obtain ⟨lens, N, S, p, rfl, R, X, hp, k⟩ := h
    refine ⟨_, (pss_cons (ps_set (i := 2) sc_note.nd rfl (Or.inl rfl) (pe_fld (pv 0) rfl))
      (pss_cons (ps_if (PW.pt (pw_or (pt_cmp (pc_isN (pv 1))) (pw_or1 (pt_cmpR op_ne (pe_fld (pv 2) rfl) pe_str (nomark _))))) (pss_one (ps_ret pe_non)) pss_nil)
      (pss_cons (ps_set (i := 3) sc_note.nd rfl (Or.inl rfl) (pe_ix ix_list (pe_fld (pe_fld (pv 0) rfl) rfl) (pv 1) (fun _ _ => rfl)))
      (pss_cons (ps_if (PW.pt (pw_or (pt_cmp (pc_isN (pv 3))) (pw_or1 (pt_cmpR op_eq (pe_fld (pv 3) rfl) (pe_fld (pv 2) rfl) (nomark _))))) (pss_one (ps_ret pe_non)) pss_nil)
      (pss_cons (ps_fld (pv 3) (pe_fld (pv 2) rfl) rfl)
      (pss_cons (ps_expr (pe_bm PySem.F.plainAttrs_list PySem.F.slot_list_append PySem.F.type_list_append mt_append (pe_fld (pv 2) rfl) (pa_cons (pv 1) pa_nil)))
      (pss_one (ps_ret (pe_fld (pv 3) rfl))))))))), ?_⟩
    refine ⟨_, rfl, R.r_sweeper C.T ⟨_, rfl, _, rfl, ?_⟩⟩
    cases p with
    | none => exact ifT rfl (ifT rfl (k H (Go.refl R)))
    | some q =>
      refine ifF rfl ⟨_, rfl, R.r_phase C.T ⟨rfl, _, rfl, ?_⟩⟩
      by_cases hw : S.phase = .walk
      · refine ifF (by rw [hw]; rfl) ?_
        refine ⟨_, rfl, R.r_heap C.T (R.r_cells C.T ⟨_, rfl, R.ix_cells (hp q rfl) ⟨_, rfl, _, rfl, ?_⟩⟩)⟩
        cases hc : S.cell q with
        | none =>
          rw [note_same fun c h => by rw [hc] at h; cases h] at k
          exact ifT rfl (ifT rfl (k H (Go.refl R)))
        | some c =>
          refine ifF rfl ⟨_, rfl, R.c_tone C.T hc ⟨_, rfl, R.r_sense C.T ⟨rfl, _, rfl, ?_⟩⟩⟩
          by_cases ht : c.tone = S.sense
          · rw [note_same fun d h => by rw [hc] at h; cases h; exact ht] at k
            exact ifT (by rw [ht]; simp) (k H (Go.refl R))
          · rw [note_pale hw hc ht] at k
            refine ifF (decide_eq_false fun z => ht (V.int.inj z)) ?_
            obtain ⟨⟨dx, h1⟩, _, rc, _⟩ := R.cell q c hc
            have hlen : (S.grey.map fun (p : Nat) => V.int (p : Int)).length < sizeLine := by
              rw [List.length_map]
              have := X.grey_le hw
              have := X.small
              exact big_line (by omega)
            have R1 : Rep K (upd H c.ca (.ins (He.ga K "Cell") dx (cellF { c with tone := S.sense }))) (S.setCell q { c with tone := S.sense }) := R.cellN (c2 := { c with tone := S.sense }) hc rfl rfl rfl
            have G1 := go_upd R (by rw [rc]; intro z; cases z) R1 rfl
            have hc1 : (S.setCell q { c with tone := S.sense }).cell q = some { c with tone := S.sense } := by rw [cell_set (cell_lt hc), if_pos rfl]
            refine ⟨_, rfl, R.r_sense C.T ⟨_, rfl, c.ca, _, dx, _, rfl, h1, C.T.cls_Cell, C.T.na_Cell_tone, (by show 5 < 1000; decide), ?_⟩⟩
            refine ⟨_, rfl, R1.r_grey C.T ⟨.inl ⟨rfl, _, SqL.of R1.gl⟩, _, rfl, S.gl, _, _, rfl, rfl, R1.gl, hlen, ?_⟩⟩
            have R2 := R1.grey (S.grey ++ [q])
            have e2 : (S.grey ++ [q]).map (fun (p : Nat) => V.int (p : Int)) = (S.setCell q { c with tone := S.sense }).grey.map (fun (p : Nat) => V.int (p : Int)) ++ [V.int (q : Int)] := by
              rw [List.map_append]
              rfl
            have G2 := G1.trans (go_upd R1 (by rw [R1.rgl]; decide) R2 rfl)
            rw [e2] at R2 G2
            exact ⟨_, rfl, R2.c_birth (c := { c with tone := S.sense }) C.T hc1 (k _ G2)⟩
      · rw [note_walk hw] at k
        have e : decide (V.str (phS S.phase) = V.str "walk") = false := decide_eq_false fun z => hw (phS_inj (b := .walk) (V.str.inj z))
        exact ifT (by rw [e]; rfl) (k H (Go.refl R))
theorem sc_noted : FnScope ["world", "places", "births", "place", "birth"] ["world", "places"] (defScope s_noted) := ⟨rfl, rfl, rfl, by decide +kernel, rfl, by decide +kernel, by decide +kernel⟩
theorem ok_noted (C : CtxG K mg) : Ok P w K mg base CX0 2 d_noted ["world", "places"] (spNoted K) := by
  refine ok_mk0 C.T.f_noted sc_noted (fun vs H Q E h => ?_) (fun fd F => F.bindsN fun _ _ _ _ _ _ us hl => match us, hl with | [_, _], _ => rfl) (fun cdv A outer s H vs Q E hr h => ?_)
  · obtain ⟨_, _, S, l, L, rfl, _⟩ := h
    rfl
  · obtain ⟨lens, N, S, l, L, rfl, R, X, hv, hL, hl, k⟩ := h
    refine ⟨_, (pss_cons (ps_set (i := 2) sc_noted.nd rfl (Or.inl rfl) (pe_lst pa_nil))
      (pss_cons (ps_for PassesOwn.never rfl (pi_list (pv 1)) (pg_name (i := 3) sc_noted.nd rfl (Or.inl rfl)) (pss_cons (ps_set (i := 4) sc_noted.nd rfl (Or.inl rfl) (pe_fn (ok_note C) (hr.mono (by decide)) C.g_note (pa_cons (pv 0) (pa_cons (pv 3) pa_nil))))
      (pss_one (ps_if (pt_cmp (pc_notN (pv 4))) (pss_one (ps_expr (pe_bm PySem.F.plainAttrs_list PySem.F.slot_list_append PySem.F.type_list_append mt_append (pv 2) (pa_cons (pv 4) pa_nil)))) pss_nil))))
      (pss_one (ps_ret (pv 2))))), ?_⟩
    refine ⟨(by decide), fun b hb => ?_⟩
    have R0 := R.same (Same.new (o := .lst []) hb)
    refine ⟨_, rfl, l, rfl, ⟨_, SqL.of (hl [] _ ((Go.refl R).new hb))⟩, for_list (K := K) (a := l) (xs := L.map plV)
      (fun i σ H' => ∃ v3 v4 : Option V, σ = [some (.ref S.wo), some (.ref l), some (.ref b), v3, v4] ∧ Go K H S H' (S.noted (L.take i)).1 ∧ Out H' (S.noted (L.take i)).1 b (.lst ((S.noted (L.take i)).2.map V.int)))
      ⟨none, none, rfl, (Go.refl R).new hb, upd_same, R.fresh b hb⟩ (fun i σ H' _ ⟨_, _, _, G1, _⟩ => SqL.of (hl _ _ G1)) ?_ ?_⟩
    · rintro i x σ H' hi ⟨v3, v4, rfl, G1, ob⟩
      rw [List.getElem?_map] at hi
      obtain ⟨y, hy, rfl⟩ := Option.map_eq_some_iff.mp hi
      have K1 := noted_like (L.take i) S
      have X1 := X.like K1
      have e1 := K1.addr.1
      have hlen : (S.noted (L.take i)).2.length ≤ 10000 := Nat.le_trans (noted_len _ _) (by rw [List.length_take]; omega)
      have st : S.noted (L.take (i + 1)) = (((S.noted (L.take i)).1.note y).1, (S.noted (L.take i)).2 ++ ((S.noted (L.take i)).1.note y).2.toList) := by rw [take_more hy, noted_snoc]
      refine ⟨_, rfl, _, rfl, lens, N, (S.noted (L.take i)).1, y, by rw [e1]; rfl, G1.rep, X1, fun q e => by rw [K1.len]; exact hv q (e ▸ List.mem_of_getElem? hy), fun H2 G2 => ?_⟩
      have G3 := G1.trans G2
      have ob2 := ob.go G2
      refine ⟨_, rfl, _, rfl, ?_⟩
      cases hn : ((S.noted (L.take i)).1.note y).2 with
      | none =>
        refine ifF rfl ⟨_, _, rfl, ?_⟩
        rw [st]
        dsimp only
        rw [hn]
        refine ⟨G3, ?_⟩
        simpa using ob2
      | some bb =>
        refine ifT rfl ?_
        refine ⟨_, rfl, .inl ⟨rfl, _, SqL.of ob2.1⟩, _, rfl, b, _, _, rfl, rfl, ob2.1, (by rw [List.length_map]; exact big_line (by omega)), ?_⟩
        refine ⟨_, _, rfl, ?_⟩
        rw [st]
        dsimp only
        rw [hn]
        refine ⟨G3.mut hb ob2.2, ?_, ob2.2⟩
        rw [upd_same]
        simp [btV]
    · rintro σ H' ⟨v3, v4, rfl, G1, ob⟩
      have e : L.take (L.map plV).length = L := by rw [List.length_map, List.take_length]
      rw [e] at G1 ob
      exact ⟨_, rfl, k H' b G1 hb ob⟩
end
end G

/-! The walk, 3: cells made, slots filled. -/
namespace G
open PySem PySem.Spec PyProof.Rows L2
def spFill (K : PySem.W.Frag) : Sp := fun vs H Q _ => ∃ (S : WS) (h s : Nat) (d : HandD) (x v : Option Nat), vs = [.ref S.wo, .int (h : Int), .int (s : Int), plV v] ∧ Rep K H S ∧ S.hands[h]? = some d ∧ d.slots[s]? = some x ∧ (∀ q, v = some q → q < S.cells.length) ∧
  ∀ H', Go K H S H' (S.setSlot h s v) → Q (btV (S.birthAt v)) H'
def spCellInit (K : PySem.W.Frag) : Sp := fun vs H Q _ => ∃ (x dx : Addr) (birth bulk tone : Int) (many : Nat), vs = [.ref x, .int birth, .int (many : Int), .int bulk, .int tone] ∧ H x = some (.ins (He.ga K "Cell") dx []) ∧ many ≤ 8 ∧
  ∀ H' f, (∀ b o, H b = some o → b ≠ x → H' b = some o) → (∀ b, H' b = none → H b = none) → H f = none → f ≠ x → H' x = some (.ins (He.ga K "Cell") dx (cellF ⟨x, f, birth, bulk, tone, 0, List.replicate many none⟩)) → H' f = some (.lst ((List.replicate many (none : Option Nat)).map plV)) → Q .non H'
def spUnits (K : PySem.W.Frag) : Sp := fun vs H Q _ => ∃ (c : CellD) (dx : Addr), vs = [.ref c.ca] ∧ H c.ca = some (.ins (He.ga K "Cell") dx (cellF c)) ∧ H c.fa = some (.lst (c.fields.map plV)) ∧ Q (.int (1 + (c.fields.length : Int) + c.bulk)) H
def spLeast (K : PySem.W.Frag) : Sp := fun vs H Q _ => ∃ S : WS, vs = [.ref S.ho] ∧ Rep K H S ∧ ∀ H' (p : Nat), Same H H' → (p < S.cells.length ∧ S.cell p = none) ∨ p = S.cells.length → Q (.int (p : Int)) H'
def spHeapMake (K : PySem.W.Frag) : Sp := fun vs H Q E => ∃ (S : WS) (many : Nat) (bulk : Int), vs = [.ref S.ho, .int (many : Int), .int bulk, .int S.sense] ∧ Rep K H S ∧ many ≤ 8 ∧ S.cells.length ≤ 10000 ∧
  (∀ H', Same H H' → E (.ref (He.ga K "Full")) none H') ∧
  ∀ H' p c cs u r, c.birth = S.born + 1 → c.tone = S.sense → c.fields = List.replicate many none → ((p < S.cells.length ∧ S.cell p = none ∧ cs = S.cells.set p (some c)) ∨ (p = S.cells.length ∧ cs = S.cells ++ [some c])) →
    Go K H S H' { S with cells := cs, used := u, born := S.born + 1, rl := r } → Q (.int (p : Int)) H'
section
variable {P : Program} {w : World} {K : PySem.W.Frag} {mg : Str → Option Value} {base : Heap}
theorem sc_fill : FnScope ["world", "hand", "slot", "place", "slots"] ["world", "hand", "slot", "place"] (defScope s_fill) := ⟨rfl, rfl, rfl, by decide +kernel, rfl, by decide +kernel, by decide +kernel⟩
theorem ok_fill (C : CtxG K mg) : Ok P w K mg base CX0 2 d_fill ["world", "hand", "slot", "place"] (spFill K) := by
  refine ok_mk0 C.T.f_fill sc_fill (fun vs H Q E h => ?_) (fun fd F => F.bindsN fun _ _ _ _ _ _ us hl => match us, hl with | [_, _, _, _], _ => rfl) (fun cdv A outer s H vs Q E hr h => ?_)
  · obtain ⟨S, h, s, d, x, v, rfl, _⟩ := h
    rfl
  · obtain ⟨S, h, s', d, x, v, rfl, R, hd, hs, hv, k⟩ := h
    refine ⟨_, (pss_cons (ps_set (i := 4) sc_fill.nd rfl (Or.inl rfl) (pe_fld (pe_ix ix_list (pe_fld (pv 0) rfl) (pv 1) (fun _ _ => rfl)) rfl))
      (pss_cons (ps_asg (pv 3) (pg_sub (pv 4) (pv 2) set_list))
      (pss_one (ps_ret (pe_fn (ok_birth_at C) (hr.mono (by decide)) C.g_birth_at (pa_cons (pe_fld (pv 0) rfl) (pa_cons (pv 3) pa_nil))))))), ?_⟩
    refine ⟨_, rfl, R.r_hands C.T ⟨_, rfl, R.ix_hands hd (R.d_slots C.T hd ?_)⟩⟩
    obtain ⟨_, hl, _, rs⟩ := R.hand h d hd
    have hlt := (List.getElem?_eq_some_iff.mp hs).1
    have R1 := R.slot hd s' v
    rw [List.map_set] at R1
    have G1 := go_upd R (by rw [rs]; intro z; cases z) R1 rfl
    refine ⟨_, rfl, _, rfl, _, rfl, d.sa, _, _, s', rfl, rfl, hl, ixN_nat (by rw [List.length_map]; exact hlt), ?_⟩
    have e : (S.setSlot h s' v).birthAt v = S.birthAt v := rfl
    exact ⟨_, rfl, R1.r_heap C.T ⟨_, rfl, S.setSlot h s' v, v, rfl, R1.toCore, hv, by rw [e]; exact k _ G1⟩⟩
theorem sc_Cell_init : FnScope ["self", "birth", "many", "bulk", "tone"] ["self", "birth", "many", "bulk", "tone"] (defScope s_Cell_init) := ⟨rfl, rfl, rfl, by decide +kernel, rfl, by decide +kernel, by decide +kernel⟩
theorem ok_Cell_init (C : CtxG K mg) : Ok P w K mg base CX0 1 d_Cell_init ["self", "birth", "many", "bulk", "tone"] (spCellInit K) := by
  refine ok_mk0 C.T.f_Cell_init sc_Cell_init (fun vs H Q E h => ?_) (fun fd F => F.bindsN fun _ _ _ _ _ _ us hl => match us, hl with | [_, _, _, _, _], _ => rfl) (fun cdv A outer s H vs Q E hr h => ?_)
  · obtain ⟨x, dx, birth, bulk, tone, many, rfl, _⟩ := h
    rfl
  · obtain ⟨x, dx, birth, bulk, tone, many, rfl, hx, hm, k⟩ := h
    refine ⟨_, (pss_cons (ps_fld (pv 0) (pv 1) rfl)
      (pss_cons (ps_fld (pv 0) (pv 3) rfl)
      (pss_cons (ps_fld (pv 0) (pv 4) rfl)
      (pss_cons (ps_fld (pv 0) pe_int rfl)
      (pss_one (ps_fld (pv 0) (pe_op op_rep (pe_lst (pa_cons pe_non pa_nil)) (pv 2)) rfl)))))), ?_⟩
    refine ⟨_, rfl, _, rfl, x, _, dx, _, rfl, hx, C.T.cls_Cell, C.T.na_Cell_birth, (by show 0 < 1000; decide), ?_⟩
    refine ⟨_, rfl, _, rfl, x, _, dx, _, rfl, upd_same, C.T.cls_Cell, C.T.na_Cell_bulk, (by show 1 < 1000; decide), ?_⟩
    refine ⟨_, rfl, _, rfl, x, _, dx, _, rfl, upd_same, C.T.cls_Cell, C.T.na_Cell_tone, (by show 2 < 1000; decide), ?_⟩
    refine ⟨_, rfl, x, _, dx, _, rfl, upd_same, C.T.cls_Cell, C.T.na_Cell_load, (by show 3 < 1000; decide), ?_⟩
    refine ⟨(by show 1 ≤ sizeLine; decide), fun l hl => ?_⟩
    refine ⟨_, rfl, l, _, _, rfl, rfl, upd_same, (by omega), (by omega), ?_, fun f hf => ?_⟩
    · show 1 * (many : Int).toNat ≤ sizeLine
      have : (8 : Nat) ≤ sizeLine := by decide
      omega
    · rw [upd_upd, upd_upd, upd_upd] at hl hf ⊢
      have xl : x ≠ l := ne_of_none upd_same hl
      have xf : x ≠ f := ne_of_none (by rw [upd_ne xl]; exact upd_same) hf
      have lf : l ≠ f := ne_of_none upd_same hf
      refine ⟨_, rfl, x, _, dx, _, rfl, (by rw [upd_ne xf, upd_ne xl]; exact upd_same), C.T.cls_Cell, C.T.na_Cell_fields, (by show 4 < 1000; decide), ?_⟩
      refine k _ f (fun b o hb hn => ?_) (fun b hb => ?_) ?_ xf.symm upd_same ?_
      · have bl : b ≠ l := fun z => by
          rw [upd_ne (fun z2 => xl z2.symm)] at hl
          rw [z, hl] at hb
          cases hb
        have bf : b ≠ f := fun z => by
          rw [upd_ne lf.symm, upd_ne xf.symm] at hf
          rw [z, hf] at hb
          cases hb
        rw [upd_ne hn, upd_ne bf, upd_ne bl, upd_ne hn]
        exact hb
      · have bx : b ≠ x := fun z => by
          rw [z, upd_same] at hb
          cases hb
        rw [upd_ne bx] at hb
        have bf : b ≠ f := fun z => by
          rw [z, upd_same] at hb
          cases hb
        rw [upd_ne bf] at hb
        have bl : b ≠ l := fun z => by
          rw [z, upd_same] at hb
          cases hb
        rw [upd_ne bl, upd_ne bx] at hb
        exact hb
      · rw [upd_ne lf.symm, upd_ne xf.symm] at hf
        exact hf
      · rw [upd_ne xf.symm, upd_same]
        simp [plV]
theorem sc_Cell_units : FnScope ["self"] ["self"] (defScope s_Cell_units) := ⟨rfl, rfl, rfl, by decide +kernel, rfl, by decide +kernel, by decide +kernel⟩
theorem ok_Cell_units (C : CtxG K mg) : Ok P w K mg base CX0 1 d_Cell_units ["self"] (spUnits K) := by
  refine ok_mk0 C.T.f_Cell_units sc_Cell_units (fun vs H Q E h => ?_) (fun fd F => F.bindsN fun _ _ _ _ _ _ us hl => match us, hl with | [_], _ => rfl) (fun cdv A outer s H vs Q E hr h => ?_)
  · obtain ⟨c, dx, rfl, _⟩ := h
    rfl
  · obtain ⟨c, dx, rfl, h1, h2, k⟩ := h
    refine ⟨_, (pss_one (ps_ret (pe_op op_add (pe_op op_add pe_int (pe_callB call_len_seq (by rfl) C.fr_len PySem.boot_len (pa_cons (pe_fld (pv 0) rfl) pa_nil))) (pe_fld (pv 0) rfl)))), ?_⟩
    refine ⟨_, rfl, rdF (v := .ref c.fa) h1 C.T.cls_Cell C.T.na_Cell_fields rfl ⟨c.fa, _, rfl, .inl (SqL.of h2), _, _, rfl, rfl, _, rfl, rdF (v := .int c.bulk) h1 C.T.cls_Cell C.T.na_Cell_bulk rfl ⟨_, _, rfl, rfl, ?_⟩⟩⟩
    rw [List.length_map]
    exact k
theorem sc_Heap_least_place : FnScope ["self", "place", "cell"] ["self"] (defScope s_Heap_least_place) := ⟨rfl, rfl, rfl, by decide +kernel, rfl, by decide +kernel, by decide +kernel⟩
theorem ok_Heap_least_place (C : CtxG K mg) : Ok P w K mg base CX0 1 d_Heap_least_place ["self"] (spLeast K) := by
  refine ok_mk0 C.T.f_Heap_least_place sc_Heap_least_place (fun vs H Q E h => ?_) (fun fd F => F.bindsN fun _ _ _ _ _ _ us hl => match us, hl with | [_], _ => rfl) (fun cdv A outer s H vs Q E hr h => ?_)
  · obtain ⟨S, rfl, _⟩ := h
    rfl
  · obtain ⟨S, rfl, R, k⟩ := h
    refine ⟨_, (pss_cons (ps_for PassesOwn.never rfl (pi_enum (by rfl) C.fr_enumerate (pa_cons (pe_fld (pv 0) rfl) pa_nil)) (pg_tup rfl (pgs_cons (pg_name (i := 1) sc_Heap_least_place.nd rfl (Or.inl rfl)) (pgs_cons (pg_name (i := 2) sc_Heap_least_place.nd rfl (Or.inl rfl)) pgs_nil))) (pss_one (ps_if (pt_cmp (pc_isN (pv 2))) (pss_one (ps_ret (pv 1))) pss_nil)))
      (pss_one (ps_ret (pe_callB call_len_seq (by rfl) C.fr_len PySem.boot_len (pa_cons (pe_fld (pv 0) rfl) pa_nil))))), ?_⟩
    refine ⟨_, rfl, R.r_cells C.T ⟨S.cl, _, rfl, SqL.of R.cl, for_it walk_enum (fun i σ H' => ∃ v1 v2 : Option V, σ = [some (.ref S.ho), v1, v2] ∧ Same H H') ⟨none, none, rfl, Same.refl H⟩ (fun i σ H' _ ⟨_, _, _, e⟩ => SqL.of (e _ _ R.cl)) ?_ ?_⟩⟩
    · rintro i x σ H1 H2 hi ⟨v1, v2, rfl, s1⟩ ⟨T, x1, y1, rfl, hT, rfl, e1, e2⟩
      have s2 : Same H (upd H1 T (.tup [x1, y1])) := s1.trans (Same.new hT)
      refine ⟨T, _, rfl, SqT.of upd_same, rfl, _, _, rfl, _, _, rfl, rfl, ?_⟩
      cases e1
      rw [List.length_map] at hi
      have e2 : (S.cells.map cellV)[i]? = some y1 := e2
      rw [List.getElem?_map] at e2
      obtain ⟨o, ho, rfl⟩ := Option.map_eq_some_iff.mp e2
      refine ⟨_, rfl, _, rfl, ?_⟩
      cases o with
      | none => exact ifT rfl ⟨_, rfl, k _ i s2 (.inl ⟨hi, by unfold WS.cell; rw [ho]; rfl⟩)⟩
      | some c => exact ifF rfl ⟨_, _, rfl, s2⟩
    · rintro σ H1 ⟨v1, v2, rfl, s1⟩
      refine ⟨_, rfl, (R.same s1).r_cells C.T ⟨S.cl, _, rfl, .inl (SqL.of (R.same s1).cl), ?_⟩⟩
      rw [List.length_map]
      exact k _ _ s1 (.inr rfl)
theorem sc_Heap_make : FnScope ["self", "many", "bulk", "tone", "cell", "place"] ["self", "many", "bulk", "tone"] (defScope s_Heap_make) := ⟨rfl, rfl, rfl, by decide +kernel, rfl, by decide +kernel, by decide +kernel⟩
theorem ok_Heap_make (C : CtxG K mg) : Ok P w K mg base (L2.CX P w) 3 d_Heap_make ["self", "many", "bulk", "tone"] (spHeapMake K) := by
  refine ok_mkX C.T.f_Heap_make sc_Heap_make (fun vs H Q E h => ?_) (fun fd F => ?_) (fun cdv A outer s H vs Q E hr h => ?_)
  · obtain ⟨S, many, bulk, rfl, _⟩ := h
    rfl
  · obtain ⟨ds, hv, hb⟩ := FunD.binds1 (ps := ["self", "many", "bulk", "tone"]) F 4 2 (by intro z; cases z) rfl fun T kV doc pm an cdv ct us its hu hi => match us, its, hu, hi with | [_, _, _, _], [_, _], _, _ => ⟨_, rfl, rfl⟩
    have hv : Vals [] ds := hv
    cases hv
    exact hb
  · obtain ⟨S, many, bulk, rfl, R, hm, hlen, kF, k⟩ := h
    refine ⟨_, (pss_cons (ps_set (i := 4) sc_Heap_make.nd rfl (Or.inl rfl) (pe_mk (d := d_Cell_init) C.T.mk_Cell (ok_Cell_init C) (hr.mono (by decide)) C.g_Cell (pa_cons (pe_op op_add (pe_fld (pv 0) rfl) pe_int) (pa_cons (pv 1) (pa_cons (pv 2) (pa_cons (pv 3) pa_nil))))))
      (pss_cons (ps_if (pt_cmpR op_gt (pe_op op_add (pe_fld (pv 0) rfl) (pe_mt0 (d := d_Cell_units) (pv 4) C.T.cls_Cell C.T.mt_Cell_units (ok_Cell_units C) (hr.mono (by decide)))) (pe_fld (pv 0) rfl) (nomark _)) (pss_one (ps_raise rfl (takes_of rfl rfl rfl rfl) (pmk_own PySem.F.excBase_ValueError C.T.ex_Full.1 C.g_Full C.T.ex_Full.2.1 (raises_own C.T.ex_Full.2.2.1 C.T.ex_Full.2.2.2) (by exact rfl)))) pss_nil)
      (pss_cons (ps_set (i := 5) sc_Heap_make.nd rfl (Or.inl rfl) (pe_mt0 (d := d_Heap_least_place) (pv 0) C.T.cls_Heap C.T.mt_Heap_least_place (ok_Heap_least_place C) (hr.mono (by decide))))
      (C8.pss_cut (ps_if (pt_cmpR op_eq (pv 5) (pe_callB call_len_seq (by rfl) C.fr_len PySem.boot_len (pa_cons (pe_fld (pv 0) rfl) pa_nil)) (nomark _)) (pss_one (ps_expr (pe_bm PySem.F.plainAttrs_list PySem.F.slot_list_append PySem.F.type_list_append mt_append (pe_fld (pv 0) rfl) (pa_cons (pv 4) pa_nil)))) (pss_one (ps_asg (pv 4) (pg_sub (pe_fld (pv 0) rfl) (pv 5) set_list))))
      (pss_cons (ps_fldaug (pv 0) (pe_mt0 (d := d_Cell_units) (pv 4) C.T.cls_Cell C.T.mt_Cell_units (ok_Cell_units C) (hr.mono (by decide))) in_add)
      (pss_cons (ps_fldaug (pv 0) pe_int in_add)
      (pss_one (ps_ret (pv 5))))))))), ?_⟩
    refine ⟨_, rfl, R.r_born C.T ⟨_, _, rfl, rfl, _, rfl, _, rfl, _, rfl, fun x dx hx hdx hne => ⟨x, dx, _, _, _, many, rfl, upd_same, hm, fun H1 f kp fr hf hfx h1 h2 => ⟨rfl, ?_⟩⟩⟩⟩
    have s1 : Same H H1 := Same.made hx hdx kp
    have fx : H f = none := by
      rw [upd_ne hfx] at hf
      by_cases e : f = dx
      · rw [e, upd_same] at hf
        cases hf
      · rw [upd_ne e] at hf
        exact hf
    have R1 := R.same s1
    have rx := R.fresh x hx
    have rf := R.fresh f fx
    refine ⟨_, rfl, R1.r_used C.T ⟨_, rfl, x, dx, _, rfl, h1, rfl, ⟨x, f, S.born + 1, bulk, S.sense, 0, List.replicate many none⟩, dx, rfl, h1, h2, _, _, rfl, rfl, _, rfl, R1.r_room C.T ⟨_, _, rfl, rfl, _, rfl, if2 (fun _ => kF H1 s1) fun _ => ?_⟩⟩⟩
    obtain ⟨dh, hho⟩ := R1.ho
    refine ⟨_, rfl, S.ho, dh, _, rfl, hho, rfl, S, rfl, R1, fun H2 p s2 hp => ?_⟩
    have R2 := R1.same s2
    refine ⟨fun σ' H' => ∃ cs, ((p < S.cells.length ∧ S.cell p = none ∧ cs = S.cells.set p (some ⟨x, f, S.born + 1, bulk, S.sense, 0, List.replicate many none⟩)) ∨ (p = S.cells.length ∧ cs = S.cells ++ [some ⟨x, f, S.born + 1, bulk, S.sense, 0, List.replicate many none⟩])) ∧
      σ' = [some (.ref S.ho), some (.int (many : Int)), some (.int bulk), some (.int S.sense), some (.ref x), some (.int (p : Int))] ∧ H' = upd H2 S.cl (.lst (cs.map cellV)), ?_, ?_⟩
    · refine ⟨_, rfl, _, rfl, R2.r_cells C.T ⟨S.cl, _, rfl, .inl (SqL.of R2.cl), rfl, _, rfl, ?_⟩⟩
      rw [List.length_map]
      refine if2 (fun z => ?_) fun z => ?_
      · have e : p = S.cells.length := by have := V.int.inj (of_decide_eq_true z); omega
        refine ⟨_, rfl, R2.r_cells C.T ⟨.inl ⟨rfl, _, SqL.of R2.cl⟩, _, rfl, S.cl, _, _, rfl, rfl, R2.cl, (by rw [List.length_map]; exact big_line (by omega)), ?_⟩⟩
        refine ⟨_, .inr ⟨e, rfl⟩, rfl, ?_⟩
        rw [List.map_append]
        rfl
      · have e : p ≠ S.cells.length := fun q => of_decide_eq_false z (by rw [q])
        rcases hp with hp | hp
        · refine ⟨_, rfl, _, rfl, R2.r_cells C.T ⟨_, rfl, S.cl, _, _, p, rfl, rfl, R2.cl, ixN_nat (by rw [List.length_map]; exact hp.1), ?_⟩⟩
          refine ⟨_, .inl ⟨hp.1, hp.2, rfl⟩, rfl, ?_⟩
          rw [List.map_set]
          rfl
        · exact absurd hp e
    · rintro σ' H' ⟨cs, hc, rfl, rfl⟩
      have h1' := s2 _ _ h1
      have h2' := s2 _ _ h2
      have R3 := R2.made hc ⟨dx, h1'⟩ h2' rx rf hfx
      have xc : x ≠ S.cl := fun z => by have := R.rcl; rw [← z, rx] at this; cases this
      have fc : f ≠ S.cl := fun z => by have := R.rcl; rw [← z, rf] at this; cases this
      obtain ⟨dh3, hho3⟩ := R3.ho
      have h13 : upd H2 S.cl (.lst (cs.map cellV)) x = _ := (upd_ne xc).trans h1'
      have h23 : upd H2 S.cl (.lst (cs.map cellV)) f = _ := (upd_ne fc).trans h2'
      have G3 : Go K H S (upd H2 S.cl (.lst (cs.map cellV))) { S with cells := cs, rl := roleMade S p ⟨x, f, S.born + 1, bulk, S.sense, 0, List.replicate many none⟩ } := by
        refine ⟨R3, fun b o hb hr => ⟨?_, ?_⟩, fun b hb => ?_⟩
        · rw [upd_ne fun z => by have := R.rcl; rw [← z, hr] at this; cases this]
          exact s2 _ _ (s1 _ _ hb)
        · show roleMade S p _ b = .out
          unfold roleMade
          rw [if_neg (ne_of_none hb hx), if_neg (ne_of_none hb fx)]
          exact hr
        · by_cases z : b = S.cl
          · rw [z, upd_same] at hb
            cases hb
          · rw [upd_ne z] at hb
            exact s1.free (s2.free hb)
      refine ⟨_, rfl, S.ho, _, dh3, _, _, rfl, hho3, C.T.cls_Heap, C.T.na_Heap_used, rfl, _, rfl, x, dx, _, rfl, h13, rfl, ⟨x, f, S.born + 1, bulk, S.sense, 0, List.replicate many none⟩, dx, rfl, h13, h23, _, _, rfl, rfl, dh3, _, hho3, (by show 4 < 1000; decide), ?_⟩
      have R4 := R3.heapN (S.used + (1 + ((List.replicate many (none : Option Nat)).length : Int) + bulk)) S.born (dx := dh3)
      have G4 := G3.trans (go_upd R3 (by rw [R3.rho]; decide) R4 rfl)
      have hho4 := R4.ho
      refine ⟨_, rfl, S.ho, _, dh3, _, _, rfl, upd_same, C.T.cls_Heap, C.T.na_Heap_born, rfl, _, _, rfl, rfl, dh3, _, upd_same, (by show 4 < 1000; decide), ?_⟩
      have R5 := R4.heapN (S.used + (1 + ((List.replicate many (none : Option Nat)).length : Int) + bulk)) (S.born + 1) (dx := dh3)
      have G5 := G4.trans (go_upd R4 (by rw [R4.rho]; decide) R5 rfl)
      exact ⟨_, rfl, k _ p ⟨x, f, S.born + 1, bulk, S.sense, 0, List.replicate many none⟩ cs _ _ rfl rfl rfl hc G5⟩
end
end G

/-! The walk, 4: deeds. -/
namespace G
open PySem PySem.Spec PyProof.Rows L2
/-- a new event: its list is new since H0 -/
def EvN (H0 H : Hp) (S : WS) (v : V) (e : Ev) : Prop := ∃ t l, v = .ref t ∧ H0 l = none ∧ Out H S t (.tup [.str e.word, e.thing, .ref l]) ∧ Out H S l (.lst (e.nums.map V.int))
theorem EvN.old {H0 H : Hp} {S : WS} {v : V} {e : Ev} (h : EvN H0 H S v e) : EvAt H S v e := let ⟨t, l, a, _, b, c⟩ := h; ⟨t, l, a, b, c⟩
theorem EvN.from {H0 H1 H : Hp} {S : WS} {v : V} {e : Ev} (h : EvN H1 H S v e) (f : ∀ b, H1 b = none → H0 b = none) : EvN H0 H S v e := let ⟨t, l, a, z, b, c⟩ := h; ⟨t, l, a, f l z, b, c⟩
def excL : List Str := ["EmptySlot", "NoField", "Full", "NoName"]
/-- what is wanted of a deed: its event, or a refusal -/
def DeedK (K : PySem.W.Frag) (H : Hp) (S : WS) (r : Row) (Q : VK) (E : XK) : Prop :=
  (∀ H' S' e v, Go K H S H' S' → DealR S r e S' → EvN H H' S' v e → Q v H') ∧
  ∀ x H', x ∈ excL → Same H H' → (∀ b n, DealR S r ⟨"refused", b, n⟩ S) → E (.ref (He.ga K x)) none H'
structure DeedPre (K : PySem.W.Frag) (H : Hp) (lens : List Nat) (N : Nat) (S : WS) (r : Row) (Q : VK) (E : XK) : Prop where
  rep : Rep K H S
  wf : Wf lens N S
  ok : RowOk lens r
  k : DeedK K H S r Q E
def spDeed (K : PySem.W.Frag) (args : Row → Option (List V)) : Sp := fun vs H Q E => ∃ lens N S r as, args r = some as ∧ vs = .ref S.wo :: as ∧ DeedPre K H lens N S r Q E
def spDeed0 (K : PySem.W.Frag) (args : Row → Option (List V)) : Sp := fun vs H Q _ => spDeed K args vs H Q fun _ _ _ => True
def aMake : Row → Option (List V)
  | .make h s many bulk => some [.int (h : Int), .int (s : Int), .int (many : Int), .int bulk]
  | _ => none
def aGet : Row → Option (List V)
  | .get h s t f => some [.int (h : Int), .int (s : Int), .int (t : Int), .int (f : Int)]
  | _ => none
def aPut : Row → Option (List V)
  | .put h t f s => some [.int (h : Int), .int (t : Int), .int (f : Int), .int (s : Int)]
  | _ => none
def aDrop : Row → Option (List V)
  | .drop h s => some [.int (h : Int), .int (s : Int)]
  | _ => none
def aGive : Row → Option (List V)
  | .give h s g t => some [.int (h : Int), .int (s : Int), .int (g : Int), .int (t : Int)]
  | _ => none
def aWrite : Row → Option (List V)
  | .write h t l => some [.int (h : Int), .int (t : Int), .int l]
  | _ => none
def aName : Row → Option (List V)
  | .name h t x => some [.int (h : Int), .int (t : Int), .str x]
  | _ => none
def aSeek : Row → Option (List V)
  | .seek h s x => some [.int (h : Int), .int (s : Int), .str x]
  | _ => none
theorem ev_new {K : PySem.W.Frag} {H H1 : Hp} {S S1 : WS} (G1 : Go K H S H1 S1) {word : Str} {thing : V} {nums : List Int} {l p : Addr} (hl : H1 l = none) (hp : upd H1 l (.lst (nums.map V.int)) p = none) :
    Go K H S (upd (upd H1 l (.lst (nums.map V.int))) p (.tup [.str word, thing, .ref l])) S1 ∧ EvN H (upd (upd H1 l (.lst (nums.map V.int))) p (.tup [.str word, thing, .ref l])) S1 (.ref p) ⟨word, thing, nums⟩ := by
  have G2 := G1.new (o := .lst (nums.map V.int)) hl
  refine ⟨G2.new hp, p, l, rfl, G1.free l hl, Out.new G2.rep hp, ?_⟩
  exact (Out.new G1.rep hl).same (Same.new hp)
theorem ev_old {K : PySem.W.Frag} {H H1 : Hp} {S S1 : WS} (G1 : Go K H S H1 S1) {word : Str} {thing : V} {nums : List Int} {l p : Addr} (h0 : H l = none) (hl : Out H1 S1 l (.lst (nums.map V.int))) (hp : H1 p = none) :
    Go K H S (upd H1 p (.tup [.str word, thing, .ref l])) S1 ∧ EvN H (upd H1 p (.tup [.str word, thing, .ref l])) S1 (.ref p) ⟨word, thing, nums⟩ :=
  ⟨G1.new hp, p, l, rfl, h0, Out.new G1.rep hp, hl.same (Same.new hp)⟩
theorem Wf.there {lens : List Nat} {N : Nat} {S : WS} (X : Wf lens N S) {h s : Nat} {d : HandD} {x : Option Nat} (hd : S.hands[h]? = some d) (hs : d.slots[s]? = some x) : ∀ p, x = some p → S.There p := fun p e => X.slots d (List.mem_of_getElem? hd) p (e ▸ List.mem_of_getElem? hs)
section
variable {P : Program} {w : World} {K : PySem.W.Frag} {mg : Str → Option Value} {base : Heap}
theorem sc_make_cell : FnScope ["world", "hand", "slot", "many", "bulk", "place"] ["world", "hand", "slot", "many", "bulk"] (defScope s_make_cell) := ⟨rfl, rfl, rfl, by decide +kernel, rfl, by decide +kernel, by decide +kernel⟩
theorem ok_make_cell (C : CtxG K mg) : Ok P w K mg base (L2.CX P w) 4 d_make_cell ["world", "hand", "slot", "many", "bulk"] (spDeed K aMake) := by
  refine ok_mkX C.T.f_make_cell sc_make_cell (fun vs H Q E h => ?_) (fun fd F => F.bindsN fun _ _ _ _ _ _ us hl => match us, hl with | [_, _, _, _, _], _ => rfl) (fun cdv A outer s H vs Q E hr h => ?_)
  · obtain ⟨lens, N, S, r, as, ha, rfl, _⟩ := h
    cases r <;> cases ha
    rfl
  · obtain ⟨lens, N, S, r, as, ha, rfl, R, X, ok, k1, k2⟩ := h
    cases r <;> cases ha
    rename_i h s' many bulk
    obtain ⟨oks, hm⟩ := ok
    obtain ⟨d, x, hd, hs⟩ := X.bnd.slot oks
    have hsl : S.slot h s' = some x := slot_iff.mpr ⟨d, hd, hs⟩
    obtain ⟨dh, hho⟩ := R.ho
    refine ⟨_, (pss_cons (ps_set (i := 5) sc_make_cell.nd rfl (Or.inl rfl) (pe_mtX (d := d_Heap_make) (pe_fld (pv 0) rfl) C.T.cls_Heap C.T.mt_Heap_make (ok_Heap_make C) (hr.mono (by decide)) (takes_of rfl rfl rfl rfl) (pa_cons (pv 3) (pa_cons (pv 4) (pa_cons (pe_fld (pe_fld (pv 0) rfl) rfl) pa_nil)))))
      (pss_one (ps_ret (pe_tup (pa_cons pe_str (pa_cons (pe_fn (ok_fill C) (hr.mono (by decide)) C.g_fill (pa_cons (pv 0) (pa_cons (pv 1) (pa_cons (pv 2) (pa_cons (pv 5) pa_nil))))) (pa_cons (pe_lst pa_nil) pa_nil))))))), ?_⟩
    refine ⟨_, rfl, R.r_heap C.T ⟨S.ho, dh, _, rfl, hho, rfl, _, rfl, _, rfl, _, rfl, R.r_sweeper C.T (R.r_sense C.T ⟨S, many, bulk, rfl, R, hm, (by have := X.bnd.cells; have := X.small; omega), fun H' s' => k2 "Full" H' (by decide) s' fun b n => .full, fun H1 p c cs u r e1 e2 e3 hc G1 => ?_⟩)⟩⟩
    have hp : p < cs.length := by
      rcases hc with ⟨h1, _, h3⟩ | ⟨h1, h2⟩
      · rw [h3, List.length_set]
        exact h1
      · rw [h2, List.length_append]
        simp
        omega
    have hcell : WS.cell ({ S with cells := cs, used := u, born := S.born + 1, rl := r } : WS) p = some c := by
      show (cs[p]?).join = some c
      rcases hc with ⟨h1, _, h3⟩ | ⟨h1, h2⟩
      · rw [h3, join_set h1, if_pos rfl]
      · rw [h2, h1, join_snoc, if_pos rfl]
    refine ⟨_, rfl, _, rfl, _, rfl, _, rfl, ({ S with cells := cs, used := u, born := S.born + 1, rl := r } : WS), h, s', d, x, some p, rfl, G1.rep, hd, hs, fun q e => by cases e; exact hp, fun H2 G2 => ?_⟩
    have G3 := G1.trans G2
    refine ⟨(by decide), fun l hl => ⟨(by show 3 ≤ sizeLine; decide), fun t ht => ?_⟩⟩
    have eb : WS.birthAt ({ S with cells := cs, used := u, born := S.born + 1, rl := r } : WS) (some p) = some (S.born + 1) := by
      unfold WS.birthAt
      rw [Option.bind_some, hcell, Option.map_some, e1]
    rw [eb]
    obtain ⟨G4, ev⟩ := ev_new (nums := []) G3 hl ht
    exact k1 _ _ _ _ G4 (.made hsl e1 e2 e3 hc) ev
theorem sc_get_field : FnScope ["world", "hand", "slot", "other", "field", "cell"] ["world", "hand", "slot", "other", "field"] (defScope s_get_field) := ⟨rfl, rfl, rfl, by decide +kernel, rfl, by decide +kernel, by decide +kernel⟩
theorem ok_get_field (C : CtxG K mg) : Ok P w K mg base (L2.CX P w) 3 d_get_field ["world", "hand", "slot", "other", "field"] (spDeed K aGet) := by
  refine ok_mkX C.T.f_get_field sc_get_field (fun vs H Q E h => ?_) (fun fd F => F.bindsN fun _ _ _ _ _ _ us hl => match us, hl with | [_, _, _, _, _], _ => rfl) (fun cdv A outer s H vs Q E hr h => ?_)
  · obtain ⟨lens, N, S, r, as, ha, rfl, _⟩ := h
    cases r <;> cases ha
    rfl
  · obtain ⟨lens, N, S, r, as, ha, rfl, R, X, ok, k1, k2⟩ := h
    cases r <;> cases ha
    rename_i h s' t f
    obtain ⟨oks, okt⟩ := ok
    obtain ⟨d, x, hd, hs⟩ := X.bnd.slot oks
    obtain ⟨d', y, hd', ht⟩ := X.bnd.slot okt
    rw [hd] at hd'
    cases hd'
    have hsl : S.slot h t = some y := slot_iff.mpr ⟨d, hd, ht⟩
    refine ⟨_, (pss_cons (ps_set (i := 5) sc_get_field.nd rfl (Or.inl rfl) (pe_fnX (ok_cell_with C) (hr.mono (by decide)) C.g_cell_with (takes_of rfl rfl rfl rfl) (pa_cons (pv 0) (pa_cons (pv 1) (pa_cons (pv 3) (pa_cons (pv 4) pa_nil))))))
      (pss_one (ps_ret (pe_tup (pa_cons pe_str (pa_cons (pe_fn (ok_fill C) (hr.mono (by decide)) C.g_fill (pa_cons (pv 0) (pa_cons (pv 1) (pa_cons (pv 2) (pa_cons (pe_ix ix_list (pe_fld (pv 5) rfl) (pv 4) (fun _ _ => rfl)) pa_nil))))) (pa_cons (pe_lst pa_nil) pa_nil))))))), ?_⟩
    refine ⟨_, rfl, _, rfl, _, rfl, _, rfl, S, h, t, f, d, y, rfl, R.toCore, hd, ht, X.there hd ht, fun e => k2 "EmptySlot" H (by decide) (Same.refl H) fun b n => .getNo (.inl (e ▸ hsl)), fun p c e hc => ?_⟩
    subst e
    refine ⟨fun hf => k2 "NoField" H (by decide) (Same.refl H) fun b n => .getNo (.inr ⟨p, c, hsl, hc, hf⟩), fun hf => ?_⟩
    have hz : c.fields[f]? = some c.fields[f] := List.getElem?_eq_getElem hf
    refine ⟨_, rfl, _, rfl, _, rfl, _, rfl, R.c_fields C.T hc ⟨_, rfl, R.ix_fields hc hz ⟨S, h, s', d, x, c.fields[f], rfl, R, hd, hs, fun q e => X.fields p c hc q (e ▸ List.getElem_mem hf), fun H2 G2 => ?_⟩⟩⟩
    refine ⟨(by decide), fun l hl => ⟨(by show 3 ≤ sizeLine; decide), fun t' ht' => ?_⟩⟩
    obtain ⟨G4, ev⟩ := ev_new (nums := []) G2 hl ht'
    exact k1 _ _ _ _ G4 (.got hsl hc hz) ev
theorem sc_drop_slot : FnScope ["world", "hand", "slot", "slots", "birth"] ["world", "hand", "slot"] (defScope s_drop_slot) := ⟨rfl, rfl, rfl, by decide +kernel, rfl, by decide +kernel, by decide +kernel⟩
theorem ok_drop_slot (C : CtxG K mg) : Ok P w K mg base CX0 2 d_drop_slot ["world", "hand", "slot"] (spDeed0 K aDrop) := by
  refine ok_mk0 C.T.f_drop_slot sc_drop_slot (fun vs H Q E h => ?_) (fun fd F => F.bindsN fun _ _ _ _ _ _ us hl => match us, hl with | [_, _, _], _ => rfl) (fun cdv A outer s H vs Q E hr h => ?_)
  · obtain ⟨lens, N, S, r, as, ha, rfl, _⟩ := h
    cases r <;> cases ha
    rfl
  · obtain ⟨lens, N, S, r, as, ha, rfl, R, X, ok, k1, k2⟩ := h
    cases r <;> cases ha
    rename_i h s'
    obtain ⟨d, x, hd, hs⟩ := X.bnd.slot ok
    refine ⟨_, (pss_cons (ps_set (i := 3) sc_drop_slot.nd rfl (Or.inl rfl) (pe_fld (pe_ix ix_list (pe_fld (pv 0) rfl) (pv 1) (fun _ _ => rfl)) rfl))
      (pss_cons (ps_set (i := 4) sc_drop_slot.nd rfl (Or.inl rfl) (pe_fn (ok_birth_at C) (hr.mono (by decide)) C.g_birth_at (pa_cons (pe_fld (pv 0) rfl) (pa_cons (pe_ix ix_list (pv 3) (pv 2) (fun _ _ => rfl)) pa_nil))))
      (pss_cons (ps_asg pe_non (pg_sub (pv 3) (pv 2) set_list))
      (pss_one (ps_ret (pe_tup (pa_cons pe_str (pa_cons (pv 4) (pa_cons (pe_lst pa_nil) pa_nil))))))))), ?_⟩
    refine ⟨_, rfl, R.r_hands C.T ⟨_, rfl, R.ix_hands hd (R.d_slots C.T hd ?_)⟩⟩
    refine ⟨_, rfl, R.r_heap C.T ⟨_, rfl, _, rfl, R.ix_slots hd hs ⟨S, x, rfl, R.toCore, fun q e => let ⟨c, hc⟩ := X.there hd hs q e; cell_lt hc, ?_⟩⟩⟩
    obtain ⟨_, hl, _, rs⟩ := R.hand h d hd
    have hlt := (List.getElem?_eq_some_iff.mp hs).1
    have R1 := R.slot hd s' none
    rw [List.map_set] at R1
    have G1 := go_upd R (by rw [rs]; intro z; cases z) R1 rfl
    refine ⟨_, rfl, _, rfl, d.sa, _, _, s', rfl, rfl, hl, ixN_nat (by rw [List.length_map]; exact hlt), ?_⟩
    refine ⟨_, rfl, (by decide), fun l hl => ⟨(by show 3 ≤ sizeLine; decide), fun t' ht' => ?_⟩⟩
    obtain ⟨G4, ev⟩ := ev_new (nums := []) G1 hl ht'
    exact k1 _ _ _ _ G4 .dropped ev
theorem sc_write_load : FnScope ["world", "hand", "slot", "load", "cell", "old"] ["world", "hand", "slot", "load"] (defScope s_write_load) := ⟨rfl, rfl, rfl, by decide +kernel, rfl, by decide +kernel, by decide +kernel⟩
theorem ok_write_load (C : CtxG K mg) : Ok P w K mg base (L2.CX P w) 2 d_write_load ["world", "hand", "slot", "load"] (spDeed K aWrite) := by
  refine ok_mkX C.T.f_write_load sc_write_load (fun vs H Q E h => ?_) (fun fd F => F.bindsN fun _ _ _ _ _ _ us hl => match us, hl with | [_, _, _, _], _ => rfl) (fun cdv A outer s H vs Q E hr h => ?_)
  · obtain ⟨lens, N, S, r, as, ha, rfl, _⟩ := h
    cases r <;> cases ha
    rfl
  · obtain ⟨lens, N, S, r, as, ha, rfl, R, X, ok, k1, k2⟩ := h
    cases r <;> cases ha
    rename_i h t load
    obtain ⟨d, y, hd, ht⟩ := X.bnd.slot ok
    have hsl : S.slot h t = some y := slot_iff.mpr ⟨d, hd, ht⟩
    refine ⟨_, (pss_cons (ps_set (i := 4) sc_write_load.nd rfl (Or.inl rfl) (pe_fnX (ok_cell_in C) (hr.mono (by decide)) C.g_cell_in (takes_of rfl rfl rfl rfl) (pa_cons (pv 0) (pa_cons (pv 1) (pa_cons (pv 2) pa_nil)))))
      (pss_cons (ps_set (i := 5) sc_write_load.nd rfl (Or.inl rfl) (pe_fld (pv 4) rfl))
      (pss_cons (ps_fld (pv 4) (pv 3) rfl)
      (pss_one (ps_ret (pe_tup (pa_cons pe_str (pa_cons (pv 5) (pa_cons (pe_lst pa_nil) pa_nil))))))))), ?_⟩
    refine ⟨_, rfl, _, rfl, _, rfl, S, h, t, d, y, rfl, R.toCore, hd, ht, X.there hd ht, fun e => k2 "EmptySlot" H (by decide) (Same.refl H) fun b n => .wroteNo, fun p c e hc => ?_⟩
    subst e
    obtain ⟨⟨dx, h1⟩, _, rc, _⟩ := R.cell p c hc
    refine ⟨_, rfl, R.c_load C.T hc ?_⟩
    have R1 : Rep K (upd H c.ca (.ins (He.ga K "Cell") dx (cellF { c with load := load }))) (S.setCell p { c with load := load }) := R.cellN (c2 := { c with load := load }) hc rfl rfl rfl
    have G1 := go_upd R (by rw [rc]; intro z; cases z) R1 rfl
    refine ⟨_, rfl, _, rfl, c.ca, _, dx, _, rfl, h1, C.T.cls_Cell, C.T.na_Cell_load, (by show 5 < 1000; decide), ?_⟩
    refine ⟨_, rfl, (by decide), fun l hl => ⟨(by show 3 ≤ sizeLine; decide), fun t' ht' => ?_⟩⟩
    obtain ⟨G4, ev⟩ := ev_new (nums := []) G1 hl ht'
    exact k1 _ _ _ _ G4 (.wrote hsl hc) ev
end
end G

/-! The walk, 5: deeds. -/
namespace G
open PySem PySem.Spec PyProof.Rows L2
structure NoteAt (K : PySem.W.Frag) (H : Hp) (S : WS) (b : Addr) (H' : Hp) (L : List (Option Nat)) : Prop where
  go : Go K H S H' (S.noted L).1
  out : ∃ nums : List Int, nums.length ≤ L.length ∧ Out H' (S.noted L).1 b (.lst (nums.map V.int))
theorem NoteAt.ext {K : PySem.W.Frag} {H H1 H2 : Hp} {S : WS} {b b2 : Addr} {L M : List (Option Nat)} (N : NoteAt K H S b H1 L) (hb : H b = none) (G2 : Go K H1 (S.noted L).1 H2 ((S.noted L).1.noted M).1) (hb2 : H1 b2 = none)
    (o2 : Out H2 ((S.noted L).1.noted M).1 b2 (.lst (((S.noted L).1.noted M).2.map V.int))) (small : L.length + M.length ≤ 100) : ∃ xs zs, H2 b = some (.lst xs) ∧ H2 b2 = some (.lst zs) ∧ xs.length + zs.length ≤ sizeLine ∧ NoteAt K H S b (upd H2 b (.lst (xs ++ zs))) (L ++ M) := by
  obtain ⟨G1, nums, hn, o1⟩ := N
  have o1' := o1.go G2
  have hm := noted_len M (S.noted L).1
  have e : S.noted (L ++ M) = (((S.noted L).1.noted M).1, (S.noted L).2 ++ ((S.noted L).1.noted M).2) := noted_append L M S
  refine ⟨_, _, o1'.1, o2.1, ?_, ?_⟩
  · rw [List.length_map, List.length_map]
    have : (200 : Nat) ≤ sizeLine := by decide
    omega
  · have G3 := (G1.trans G2).mut (o := .lst (nums.map V.int ++ ((S.noted L).1.noted M).2.map V.int)) hb o1'.2
    refine ⟨by rw [e]; exact G3, nums ++ ((S.noted L).1.noted M).2, ?_, ?_⟩
    · rw [List.length_append, List.length_append]
      omega
    · rw [e, List.map_append]
      exact ⟨upd_same, o1'.2⟩
section
variable {P : Program} {w : World} {K : PySem.W.Frag} {mg : Str → Option Value} {base : Heap}
theorem sc_put_in : FnScope ["world", "hand", "slot", "field", "other", "cell", "old", "new", "births"] ["world", "hand", "slot", "field", "other"] (defScope s_put_in) := ⟨rfl, rfl, rfl, by decide +kernel, rfl, by decide +kernel, by decide +kernel⟩
theorem ok_put_in (C : CtxG K mg) : Ok P w K mg base (L2.CX P w) 3 d_put_in ["world", "hand", "slot", "field", "other"] (spDeed K aPut) := by
  refine ok_mkX C.T.f_put_in sc_put_in (fun vs H Q E h => ?_) (fun fd F => F.bindsN fun _ _ _ _ _ _ us hl => match us, hl with | [_, _, _, _, _], _ => rfl) (fun cdv A outer s H vs Q E hr h => ?_)
  · obtain ⟨lens, N, S, r, as, ha, rfl, _⟩ := h
    cases r <;> cases ha
    rfl
  · obtain ⟨lens, N, S, r, as, ha, rfl, R, X, ok, k1, k2⟩ := h
    cases r <;> cases ha
    rename_i h t f s'
    obtain ⟨okt, oks⟩ := ok
    obtain ⟨tO, hOLD⟩ := C.i_OLD
    obtain ⟨d, y, hd, ht⟩ := X.bnd.slot okt
    obtain ⟨d', new, hd', hs⟩ := X.bnd.slot oks
    rw [hd] at hd'
    cases hd'
    have hsl : S.slot h t = some y := slot_iff.mpr ⟨d, hd, ht⟩
    have hsn : S.slot h s' = some new := slot_iff.mpr ⟨d, hd, hs⟩
    refine ⟨_, (pss_cons (ps_set (i := 5) sc_put_in.nd rfl (Or.inl rfl) (pe_fnX (ok_cell_with C) (hr.mono (by decide)) C.g_cell_with (takes_of rfl rfl rfl rfl) (pa_cons (pv 0) (pa_cons (pv 1) (pa_cons (pv 2) (pa_cons (pv 3) pa_nil))))))
      (pss_cons (ps_set (i := 6) sc_put_in.nd rfl (Or.inl rfl) (pe_ix ix_list (pe_fld (pv 5) rfl) (pv 3) (fun _ _ => rfl)))
      (pss_cons (ps_set (i := 7) sc_put_in.nd rfl (Or.inl rfl) (pe_ix ix_list (pe_fld (pe_ix ix_list (pe_fld (pv 0) rfl) (pv 1) (fun _ _ => rfl)) rfl) (pv 4) (fun _ _ => rfl)))
      (pss_cons (ps_set (i := 8) sc_put_in.nd rfl (Or.inl rfl) (pe_lst pa_nil))
      (C8.pss_cut (ps_if (pt_cmpR op_ne (pe_op op_and (pe_fld (pe_fld (pv 0) rfl) rfl) (pe_glob (v := .int 1) (by rfl) hOLD ⟨_, rfl⟩)) pe_int (nomark _)) (pss_one (ps_aug (i := 8) sc_put_in.nd rfl (.inl rfl) (pe_fn (ok_noted C) (hr.mono (by decide)) C.g_noted (pa_cons (pv 0) (pa_cons (pe_lst (pa_cons (pv 6) pa_nil)) pa_nil))) ip_ext)) pss_nil)
      (C8.pss_cut (ps_if (pt_val (pe_fn (ok_hears_new C) (hr.mono (by decide)) C.g_hears_new (pa_cons (pv 0) (pa_cons (pv 1) pa_nil)))) (pss_one (ps_aug (i := 8) sc_put_in.nd rfl (.inl rfl) (pe_fn (ok_noted C) (hr.mono (by decide)) C.g_noted (pa_cons (pv 0) (pa_cons (pe_lst (pa_cons (pv 7) pa_nil)) pa_nil))) ip_ext)) pss_nil)
      (pss_cons (ps_asg (pv 7) (pg_sub (pe_fld (pv 5) rfl) (pv 3) set_list))
      (pss_one (ps_ret (pe_tup (pa_cons pe_str (pa_cons (pe_fn (ok_birth_at C) (hr.mono (by decide)) C.g_birth_at (pa_cons (pe_fld (pv 0) rfl) (pa_cons (pv 6) pa_nil))) (pa_cons (pv 8) pa_nil))))))))))))), ?_⟩
    refine ⟨_, rfl, _, rfl, _, rfl, _, rfl, S, h, t, f, d, y, rfl, R.toCore, hd, ht, X.there hd ht, fun e => k2 "EmptySlot" H (by decide) (Same.refl H) fun b n => .putNo (.inl (e ▸ hsl)), fun p c e hc => ?_⟩
    subst e
    refine ⟨fun hf => k2 "NoField" H (by decide) (Same.refl H) fun b n => .putNo (.inr ⟨p, c, hsl, hc, hf⟩), fun hf => ?_⟩
    have hz : c.fields[f]? = some c.fields[f] := List.getElem?_eq_getElem hf
    generalize c.fields[f] = old at hz
    refine ⟨_, rfl, R.c_fields C.T hc ⟨_, rfl, R.ix_fields hc hz ?_⟩⟩
    refine ⟨_, rfl, R.r_hands C.T ⟨_, rfl, R.ix_hands hd (R.d_slots C.T hd ⟨_, rfl, R.ix_slots hd hs ?_⟩)⟩⟩
    refine ⟨(by decide), fun b hb => ?_⟩
    have R0 := R.same (Same.new (o := .lst []) hb)
    have N0 : NoteAt K H S b (upd H b (.lst [])) [] := ⟨(Go.refl R).new hb, [], Nat.le_refl _, upd_same, R.fresh b hb⟩
    have old_lt : ∀ q, old = some q → q < S.cells.length := fun q e => X.fields p c hc q (e ▸ List.mem_of_getElem? hz)
    have new_lt : ∀ q, new = some q → q < S.cells.length := fun q e => let ⟨c, hc⟩ := X.there hd hs q e; cell_lt hc
    refine ⟨fun σ H' => ∃ L, σ = [some (.ref S.wo), some (.int (h : Int)), some (.int (t : Int)), some (.int (f : Int)), some (.int (s' : Int)), some (.ref c.ca), some (plV old), some (plV new), some (.ref b)] ∧ NoteAt K H S b H' L ∧ (∀ x ∈ L, x = old ∨ x = new) ∧ L.length ≤ 1, ?_, ?_⟩
    · refine ⟨_, rfl, R0.r_kind C.T (R0.r_tells C.T ⟨_, _, rfl, rfl, rfl, _, rfl, if2 (fun _ => ?_) fun _ => ⟨[], rfl, N0, by simp, by simp⟩⟩)⟩
      refine ⟨_, rfl, _, rfl, _, rfl, (by show 1 ≤ sizeLine; decide), fun l hl => ?_⟩
      have R1 := R0.same (Same.new (o := .lst [plV old]) hl)
      refine ⟨lens, N, S, l, [old], rfl, R1, X, fun q e => old_lt q (List.mem_singleton.mp e).symm, (by show 1 ≤ 10000; decide), fun L0 H1 G1 => (G1.keep l _ upd_same (R0.fresh l hl)).1, fun H1 b2 G1 hb2 o1 => ?_⟩
      have N1 : NoteAt K H S b (upd (upd H b (.lst [])) l (.lst [plV old])) [] := ⟨N0.go.new hl, [], Nat.le_refl _, by rw [upd_ne (ne_of_none upd_same hl)]; exact upd_same, R.fresh b hb⟩
      obtain ⟨xs, zs, e1, e2, e3, N2⟩ := N1.ext hb (M := [old]) G1 hb2 o1 (by show 1 ≤ 100; decide)
      exact ⟨b, b2, xs, zs, rfl, rfl, e1, e2, e3, [old], rfl, N2, by simp, by simp⟩
    · rintro σ H1 ⟨L, rfl, N1, hL, hl1⟩
      have K1 := noted_like L S
      have X1 := X.like K1
      have ad := K1.addr
      have R1 := N1.go.rep
      refine ⟨fun σ H' => ∃ L, σ = [some (.ref S.wo), some (.int (h : Int)), some (.int (t : Int)), some (.int (f : Int)), some (.int (s' : Int)), some (.ref c.ca), some (plV old), some (plV new), some (.ref b)] ∧ NoteAt K H S b H' L ∧ (∀ x ∈ L, x = old ∨ x = new) ∧ L.length ≤ 2, ?_, ?_⟩
      · refine ⟨_, rfl, _, rfl, (S.noted L).1, h, by rw [ad.1]; rfl, R1.toCore, fun bb => ?_⟩
        refine ⟨_, rfl, if2 (fun _ => ?_) fun _ => ⟨L, rfl, N1, hL, by omega⟩⟩
        refine ⟨_, rfl, _, rfl, _, rfl, (by show 1 ≤ sizeLine; decide), fun l hl => ?_⟩
        have R2 := R1.same (Same.new (o := .lst [plV new]) hl)
        refine ⟨lens, N, (S.noted L).1, l, [new], by rw [ad.1]; rfl, R2, X1, fun q e => by rw [K1.len]; exact new_lt q (List.mem_singleton.mp e).symm, (by show 1 ≤ 10000; decide), fun L0 H1 G1 => (G1.keep l _ upd_same (R1.fresh l hl)).1, fun H1 b2 G1 hb2 o1 => ?_⟩
        obtain ⟨nums, hn, oo⟩ := N1.out
        have N2 := NoteAt.ext (K := K) (H := H) (S := S) (b := b) (L := L) ⟨N1.go.new hl, nums, hn, oo.same (Same.new hl)⟩ hb (M := [new]) G1 hb2 o1 (by simp; omega)
        obtain ⟨xs, zs, e1, e2, e3, N2⟩ := N2
        refine ⟨b, b2, xs, zs, rfl, rfl, e1, e2, e3, L ++ [new], rfl, N2, fun x hx => ?_, by simp; omega⟩
        rcases List.mem_append.mp hx with h | h
        · exact hL x h
        · exact .inr (by simpa using h)
      · rintro σ H2 ⟨L, rfl, N2, hL, hl2⟩
        have K2 := noted_like L S
        have ad := K2.addr
        have R2 := N2.go.rep
        obtain ⟨c1, hc1, s1, s2, s3, s4, s5⟩ := noted_cell L hc
        obtain ⟨⟨dx, h1⟩, hfl, rc, rf⟩ := R2.cell p c1 hc1
        have R3 := R2.flds hc1 (c1.fields.set f new)
        rw [List.map_set] at R3
        have G3 := N2.go.trans (go_upd R2 (by rw [rf]; intro z; cases z) R3 rfl)
        have ef : (f : Nat) < (c1.fields.map plV).length := by rw [List.length_map, s3]; exact hf
        refine ⟨_, rfl, _, rfl, rdF (by rw [← s1]; exact h1) C.T.cls_Cell C.T.na_Cell_fields rfl ⟨_, rfl, c1.fa, _, _, f, rfl, rfl, hfl, ixN_nat ef, ?_⟩⟩
        obtain ⟨nums, hn, oo⟩ := N2.out
        have oo := oo.go (go_upd R2 (by rw [rf]; intro z; cases z) R3 rfl)
        refine ⟨_, rfl, rdF (by rw [← ad.1]; exact R3.wo.choose_spec) C.T.cls_World C.T.na_World_heap rfl ⟨_, rfl, (S.noted L).1.setCell p { c1 with fields := c1.fields.set f new }, old, rfl, R3.toCore, fun q e => ?_, ?_⟩⟩
        · show q < ((S.noted L).1.cells.set p _).length
          rw [List.length_set, K2.len]
          exact old_lt q e
        · refine ⟨_, rfl, (by show 3 ≤ sizeLine; decide), fun t' ht' => ?_⟩
          obtain ⟨G4, ev⟩ := ev_old G3 hb oo ht'
          exact k1 _ _ _ _ G4 (.putIn hsl hc hz hsn hL rfl hc1) ev
theorem sc_give_to : FnScope ["world", "hand", "slot", "taker", "other", "place", "births"] ["world", "hand", "slot", "taker", "other"] (defScope s_give_to) := ⟨rfl, rfl, rfl, by decide +kernel, rfl, by decide +kernel, by decide +kernel⟩
theorem ok_give_to (C : CtxG K mg) : Ok P w K mg base CX0 3 d_give_to ["world", "hand", "slot", "taker", "other"] (spDeed0 K aGive) := by
  refine ok_mk0 C.T.f_give_to sc_give_to (fun vs H Q E h => ?_) (fun fd F => F.bindsN fun _ _ _ _ _ _ us hl => match us, hl with | [_, _, _, _, _], _ => rfl) (fun cdv A outer s H vs Q E hr h => ?_)
  · obtain ⟨lens, N, S, r, as, ha, rfl, _⟩ := h
    cases r <;> cases ha
    rfl
  · obtain ⟨lens, N, S, r, as, ha, rfl, R, X, ok, k1, k2⟩ := h
    cases r <;> cases ha
    rename_i h s' g t
    obtain ⟨oks, okt⟩ := ok
    obtain ⟨d, v, hd, hs⟩ := X.bnd.slot oks
    obtain ⟨d2, y, hd2, ht⟩ := X.bnd.slot okt
    have hsv : S.slot h s' = some v := slot_iff.mpr ⟨d, hd, hs⟩
    have v_lt : ∀ q, v = some q → q < S.cells.length := fun q e => let ⟨c, hc⟩ := X.there hd hs q e; cell_lt hc
    refine ⟨_, (pss_cons (ps_set (i := 5) sc_give_to.nd rfl (Or.inl rfl) (pe_ix ix_list (pe_fld (pe_ix ix_list (pe_fld (pv 0) rfl) (pv 1) (fun _ _ => rfl)) rfl) (pv 2) (fun _ _ => rfl)))
      (pss_cons (ps_set (i := 6) sc_give_to.nd rfl (Or.inl rfl) (pe_lst pa_nil))
      (C8.pss_cut (ps_if (pt_val (pe_fn (ok_hears_new C) (hr.mono (by decide)) C.g_hears_new (pa_cons (pv 0) (pa_cons (pv 1) pa_nil)))) (pss_one (ps_set (i := 6) sc_give_to.nd rfl (Or.inl rfl) (pe_fn (ok_noted C) (hr.mono (by decide)) C.g_noted (pa_cons (pv 0) (pa_cons (pe_lst (pa_cons (pv 5) pa_nil)) pa_nil))))) pss_nil)
      (pss_one (ps_ret (pe_tup (pa_cons pe_str (pa_cons (pe_fn (ok_fill C) (hr.mono (by decide)) C.g_fill (pa_cons (pv 0) (pa_cons (pv 3) (pa_cons (pv 4) (pa_cons (pv 5) pa_nil))))) (pa_cons (pv 6) pa_nil))))))))), ?_⟩
    refine ⟨_, rfl, R.r_hands C.T ⟨_, rfl, R.ix_hands hd (R.d_slots C.T hd ⟨_, rfl, R.ix_slots hd hs ?_⟩)⟩⟩
    refine ⟨(by decide), fun b hb => ?_⟩
    have R0 := R.same (Same.new (o := .lst []) hb)
    refine ⟨fun σ H' => ∃ L l, σ = [some (.ref S.wo), some (.int (h : Int)), some (.int (s' : Int)), some (.int (g : Int)), some (.int (t : Int)), some (plV v), some (.ref l)] ∧ Go K H S H' (S.noted L).1 ∧ Out H' (S.noted L).1 l (.lst ((S.noted L).2.map V.int)) ∧ (∀ x ∈ L, x = v) ∧ H l = none, ?_, ?_⟩
    · refine ⟨_, rfl, _, rfl, S, h, rfl, R0.toCore, fun bb => ?_⟩
      refine ⟨_, rfl, if2 (fun _ => ?_) fun _ => ⟨[], b, rfl, (Go.refl R).new hb, ⟨upd_same, R.fresh b hb⟩, by simp, hb⟩⟩
      refine ⟨_, rfl, _, rfl, (by show 1 ≤ sizeLine; decide), fun l hl => ?_⟩
      have R1 := R0.same (Same.new (o := .lst [plV v]) hl)
      refine ⟨lens, N, S, l, [v], rfl, R1, X, fun q e => v_lt q (List.mem_singleton.mp e).symm, (by show 1 ≤ 10000; decide), fun L0 H1 G1 => (G1.keep l _ upd_same (R0.fresh l hl)).1, fun H1 b2 G1 hb2 o1 => ?_⟩
      exact ⟨[v], b2, rfl, (((Go.refl R).new hb).new hl).trans G1, o1, by simp, (((Go.refl R).new hb).new hl).free b2 hb2⟩
    · rintro σ H1 ⟨L, l, rfl, G1, o1, hL, hl0⟩
      have K1 := noted_like L S
      have ad := K1.addr
      refine ⟨_, rfl, _, rfl, _, rfl, _, rfl, (S.noted L).1, g, t, d2, y, v, by rw [ad.1]; rfl, G1.rep, by rw [ad.2.2.2.2.2.2.2.1]; exact hd2, ht, fun q e => by rw [K1.len]; exact v_lt q e, fun H2 G2 => ?_⟩
      refine ⟨_, rfl, (by show 3 ≤ sizeLine; decide), fun t' ht' => ?_⟩
      obtain ⟨G4, ev⟩ := ev_old (G1.trans G2) hl0 (o1.go G2) ht'
      exact k1 _ _ _ _ G4 (.given hsv hL rfl) ev
end
end G

/-! The walk, 6: weak names; one deed. -/
namespace G
open PySem PySem.Spec PyProof.Rows L2
theorem names_get {S : WS} {x : Str} : valV (namesK S) (Sum.inr x) = (S.names.find? fun m => decide (m.word = x)).map fun n => V.ref n.ta := by
  unfold valV namesK
  rw [List.find?_map]
  have e : ((fun kv : Key × V => decide (kv.1 = Sum.inr x)) ∘ fun n : NameD => ((Sum.inr n.word : Key), V.ref n.ta)) = fun m : NameD => decide (m.word = x) := by
    funext m
    exact decide_eq_decide.mpr ⟨fun q => Sum.inr.inj q, fun q => by show (Sum.inr m.word : Key) = _; rw [q]⟩
  rw [e, Option.map_map]
  rfl
/-- a row as a tuple -/
def rowV : Row → List V
  | .sweep n => [.str "sweep", .int (n : Int)]
  | .make h s many bulk => [.str "make", .int (h : Int), .int (s : Int), .int (many : Int), .int bulk]
  | .get h s t f => [.str "get", .int (h : Int), .int (s : Int), .int (t : Int), .int (f : Int)]
  | .put h t f s => [.str "put", .int (h : Int), .int (t : Int), .int (f : Int), .int (s : Int)]
  | .copy h s t => [.str "copy", .int (h : Int), .int (s : Int), .int (t : Int)]
  | .drop h s => [.str "drop", .int (h : Int), .int (s : Int)]
  | .give h s g t => [.str "give", .int (h : Int), .int (s : Int), .int (g : Int), .int (t : Int)]
  | .write h t l => [.str "write", .int (h : Int), .int (t : Int), .int l]
  | .read h t => [.str "read", .int (h : Int), .int (t : Int)]
  | .name h t x => [.str "name", .int (h : Int), .int (t : Int), .str x]
  | .seek h s x => [.str "seek", .int (h : Int), .int (s : Int), .str x]
def Row.isSweep : Row → Bool
  | .sweep _ => true
  | _ => false
def spDo (K : PySem.W.Frag) : Sp := fun vs H Q E => ∃ lens N S r a, vs = [.ref S.wo, .ref a] ∧ H a = some (.tup (rowV r)) ∧ r.isSweep = false ∧ DeedPre K H lens N S r Q E
abbrev RdT (K : PySem.W.Frag) (H : Hp) (x y : V) (Q : V → Prop) : Prop := ∃ p xs i v, x = .ref p ∧ y = .int i ∧ SqT K H p xs ∧ atI xs i = some v ∧ Q v
theorem rdT {K : PySem.W.Frag} {H : Hp} {Q : V → Prop} {a : Addr} {xs : List V} {i : Nat} {v : V} (h : H a = some (.tup xs)) (e : xs[i]? = some v) (q : Q v) : RdT K H (.ref a) (.int (i : Int)) Q := ⟨a, xs, _, v, rfl, rfl, SqT.of h, at_of (j := i) rfl e, q⟩
section
variable {P : Program} {w : World} {K : PySem.W.Frag} {mg : Str → Option Value} {base : Heap}
theorem sc_name_cell : FnScope ["world", "hand", "slot", "word", "cell", "names"] ["world", "hand", "slot", "word"] (defScope s_name_cell) := ⟨rfl, rfl, rfl, by decide +kernel, rfl, by decide +kernel, by decide +kernel⟩
theorem ok_name_cell (C : CtxG K mg) : Ok P w K mg base (L2.CX P w) 2 d_name_cell ["world", "hand", "slot", "word"] (spDeed K aName) := by
  refine ok_mkX C.T.f_name_cell sc_name_cell (fun vs H Q E h => ?_) (fun fd F => F.bindsN fun _ _ _ _ _ _ us hl => match us, hl with | [_, _, _, _], _ => rfl) (fun cdv A outer s H vs Q E hr h => ?_)
  · obtain ⟨lens, N, S, r, as, ha, rfl, _⟩ := h
    cases r <;> cases ha
    rfl
  · obtain ⟨lens, N, S, r, as, ha, rfl, R, X, ok, k1, k2⟩ := h
    cases r <;> cases ha
    rename_i h t x
    obtain ⟨d, y, hd, ht⟩ := X.bnd.slot ok
    have hsl : S.slot h t = some y := slot_iff.mpr ⟨d, hd, ht⟩
    refine ⟨_, (pss_cons (ps_set (i := 4) sc_name_cell.nd rfl (Or.inl rfl) (pe_fnX (ok_cell_in C) (hr.mono (by decide)) C.g_cell_in (takes_of rfl rfl rfl rfl) (pa_cons (pv 0) (pa_cons (pv 1) (pa_cons (pv 2) pa_nil)))))
      (pss_cons (ps_set (i := 5) sc_name_cell.nd rfl (Or.inl rfl) (pe_fld (pv 0) rfl))
      (pss_cons (ps_dput (hu_of hr) (pv 5) (pv 3) (pe_tup (pa_cons (pe_ix ix_list (pe_fld (pe_ix ix_list (pe_fld (pv 0) rfl) (pv 1) (fun _ _ => rfl)) rfl) (pv 2) (fun _ _ => rfl)) (pa_cons (pe_fld (pv 4) rfl) pa_nil))) rfl)
      (pss_one (ps_ret (pe_tup (pa_cons pe_str (pa_cons (pe_fld (pv 4) rfl) (pa_cons (pe_lst pa_nil) pa_nil))))))))), ?_⟩
    refine ⟨_, rfl, _, rfl, _, rfl, S, h, t, d, y, rfl, R.toCore, hd, ht, X.there hd ht, fun e => k2 "EmptySlot" H (by decide) (Same.refl H) fun b n => .namedNo, fun p c e hc => ?_⟩
    subst e
    refine ⟨_, rfl, R.r_names C.T ?_⟩
    refine ⟨_, rfl, R.r_hands C.T ⟨_, rfl, R.ix_hands hd (R.d_slots C.T hd ⟨_, rfl, R.ix_slots hd ht ?_⟩)⟩⟩
    refine ⟨_, rfl, R.c_birth C.T hc ⟨(by show 2 ≤ sizeLine; decide), fun q hq => ?_⟩⟩
    have R1 := R.same (Same.new (o := .tup [.int (p : Int), .int c.birth]) hq)
    have R2 := R1.name ⟨x, q, p, c.birth⟩ upd_same rfl (R.fresh q hq)
    have hlen : (namesK S).length < sizeLine := by
      unfold namesK
      rw [List.length_map]
      have := X.bnd.names
      have := X.small
      exact big_line (by omega)
    have G1 : Go K H S _ _ := ⟨R2, fun b o hb rb => ?_, fun b hb => ?_⟩
    · refine ⟨_, rfl, _, rfl, S.no, _, rfl, .inl ⟨namesK S, Sum.inr x, R1.no, rfl, hlen, rfl⟩, ?_⟩
      refine ⟨_, rfl, ?_⟩
      have hc2 : WS.cell (S.putName ⟨x, q, p, c.birth⟩ fun b => if b = q then .nm else S.rl b) p = some c := hc
      refine R2.c_birth C.T hc2 ⟨(by decide), fun l hl => ⟨(by show 3 ≤ sizeLine; decide), fun t' ht' => ?_⟩⟩
      obtain ⟨G4, ev⟩ := ev_new (nums := []) G1 hl ht'
      exact k1 _ _ _ _ G4 (.named hsl hc rfl rfl) ev
    · have bq : b ≠ q := ne_of_none hb hq
      have bn : b ≠ S.no := fun z => by rw [z, R.rno] at rb; cases rb
      refine ⟨by rw [upd_ne bn, upd_ne bq]; exact hb, ?_⟩
      show (if b = q then Role.nm else S.rl b) = .out
      rw [if_neg bq]
      exact rb
    · by_cases z : b = S.no
      · rw [z, upd_same] at hb
        cases hb
      · rw [upd_ne z] at hb
        exact (Same.new hq).free hb
theorem sc_seek_name : FnScope ["world", "hand", "slot", "word", "place", "birth", "births"] ["world", "hand", "slot", "word"] (defScope s_seek_name) := ⟨rfl, rfl, rfl, by decide +kernel, rfl, by decide +kernel, by decide +kernel⟩
theorem ok_seek_name (C : CtxG K mg) : Ok P w K mg base (L2.CX P w) 3 d_seek_name ["world", "hand", "slot", "word"] (spDeed K aSeek) := by
  refine ok_mkX C.T.f_seek_name sc_seek_name (fun vs H Q E h => ?_) (fun fd F => F.bindsN fun _ _ _ _ _ _ us hl => match us, hl with | [_, _, _, _], _ => rfl) (fun cdv A outer s H vs Q E hr h => ?_)
  · obtain ⟨lens, N, S, r, as, ha, rfl, _⟩ := h
    cases r <;> cases ha
    rfl
  · obtain ⟨lens, N, S, r, as, ha, rfl, R, X, ok, k1, k2⟩ := h
    cases r <;> cases ha
    rename_i h s' x
    obtain ⟨d, y, hd, ht⟩ := X.bnd.slot ok
    have hsl : S.slot h s' = some y := slot_iff.mpr ⟨d, hd, ht⟩
    refine ⟨_, (pss_cons (ps_if (pt_cmp (pc_dnotin (hu_of hr) (pv 3) (pe_fld (pv 0) rfl))) (pss_one (ps_raise rfl (takes_of rfl rfl rfl rfl) (pmk_own PySem.F.excBase_ValueError C.T.ex_NoName.1 C.g_NoName C.T.ex_NoName.2.1 (raises_own C.T.ex_NoName.2.2.1 C.T.ex_NoName.2.2.2) (by exact rfl)))) pss_nil)
      (pss_cons (ps_asg (pe_dget (hu_of hr) (pe_fld (pv 0) rfl) (pv 3) (fun _ _ => rfl)) (pg_tup rfl (pgs_cons (pg_name (i := 4) sc_seek_name.nd rfl (Or.inl rfl)) (pgs_cons (pg_name (i := 5) sc_seek_name.nd rfl (Or.inl rfl)) pgs_nil))))
      (pss_cons (ps_if (pt_val (pe_fn (ok_gone C) (hr.mono (by decide)) C.g_gone (pa_cons (pv 0) (pa_cons (pv 4) (pa_cons (pv 5) pa_nil))))) (pss_one (ps_ret (pe_tup (pa_cons pe_str (pa_cons (pe_fn (ok_fill C) (hr.mono (by decide)) C.g_fill (pa_cons (pv 0) (pa_cons (pv 1) (pa_cons (pv 2) (pa_cons pe_non pa_nil))))) (pa_cons (pe_lst pa_nil) pa_nil)))))) pss_nil)
      (pss_cons (ps_set (i := 6) sc_seek_name.nd rfl (Or.inl rfl) (pe_fn (ok_noted C) (hr.mono (by decide)) C.g_noted (pa_cons (pv 0) (pa_cons (pe_lst (pa_cons (pv 4) pa_nil)) pa_nil))))
      (pss_one (ps_ret (pe_tup (pa_cons pe_str (pa_cons (pe_fn (ok_fill C) (hr.mono (by decide)) C.g_fill (pa_cons (pv 0) (pa_cons (pv 1) (pa_cons (pv 2) (pa_cons (pv 4) pa_nil))))) (pa_cons (pv 6) pa_nil)))))))))), ?_⟩
    refine ⟨_, rfl, _, rfl, R.r_names C.T ⟨_, _, rfl, DGet.k R.no (k := Sum.inr x), ?_⟩⟩
    rw [names_get]
    cases hf : S.names.find? fun m => decide (m.word = x) with
    | none => exact ⟨_, rfl, ifT rfl (k2 "NoName" H (by decide) (Same.refl H) fun b n => .seekNo)⟩
    | some n =>
      refine ⟨_, rfl, ifF rfl ?_⟩
      have hn : n ∈ S.names := List.mem_of_find?_eq_some hf
      obtain ⟨hta, _⟩ := R.nm n hn
      have hv : valV (namesK S) (Sum.inr x) = some (.ref n.ta) := by rw [names_get, hf]; rfl
      have hg0 : DGet H S.no (.str x) (some (.ref n.ta)) := hv ▸ DGet.k R.no (k := Sum.inr x)
      refine ⟨_, rfl, R.r_names C.T ⟨_, rfl, _, _, rfl, hg0, ?_⟩⟩
      refine ⟨n.ta, _, rfl, SqT.of hta, rfl, _, _, rfl, _, _, rfl, rfl, ?_⟩
      refine ⟨_, rfl, _, rfl, _, rfl, S, n.place, n.birth, rfl, R.toCore, X.names n hn, _, rfl, ?_⟩
      cases hg : S.goneB n.place n.birth with
      | true =>
        refine ifT rfl ?_
        refine ⟨_, rfl, _, rfl, _, rfl, S, h, s', d, y, none, rfl, R, hd, ht, fun q e => (by cases e), fun H2 G2 => ?_⟩
        refine ⟨(by decide), fun l hl => ⟨(by show 3 ≤ sizeLine; decide), fun t' ht' => ?_⟩⟩
        obtain ⟨G4, ev⟩ := ev_new (nums := []) G2 hl ht'
        exact k1 _ _ _ _ G4 .soughtNo ev
      | false =>
        refine ifF rfl ?_
        have hc : ∃ c, S.cell n.place = some c := by
          unfold WS.goneB at hg
          cases hc : S.cell n.place with
          | none => rw [hc] at hg; cases hg
          | some c => exact ⟨c, rfl⟩
        obtain ⟨c, hc⟩ := hc
        refine ⟨_, rfl, _, rfl, (by show 1 ≤ sizeLine; decide), fun l hl => ?_⟩
        have R1 := R.same (Same.new (o := .lst [plV (some n.place)]) hl)
        refine ⟨lens, N, S, l, [some n.place], rfl, R1, X, fun q e => ?_, (by show 1 ≤ 10000; decide), fun L0 H1 G1 => (G1.keep l _ upd_same (R.fresh l hl)).1, fun H1 b2 G1 hb2 o1 => ?_⟩
        · have e := List.mem_singleton.mp e
          cases e
          exact cell_lt hc
        have K1 := noted_like [some n.place] S
        have ad := K1.addr
        obtain ⟨c1, hc1, s1, s2, s3, s4, s5⟩ := noted_cell [some n.place] hc
        refine ⟨_, rfl, _, rfl, _, rfl, _, rfl, (S.noted [some n.place]).1, h, s', d, y, some n.place, by rw [ad.1]; rfl, G1.rep, by rw [ad.2.2.2.2.2.2.2.1]; exact hd, ht, fun q e => by cases e; exact cell_lt hc1, fun H2 G2 => ?_⟩
        refine ⟨_, rfl, (by show 3 ≤ sizeLine; decide), fun t' ht' => ?_⟩
        have eb : WS.birthAt (S.noted [some n.place]).1 (some n.place) = some c.birth := by
          unfold WS.birthAt
          rw [Option.bind_some, hc1, Option.map_some, s5]
        rw [eb]
        obtain ⟨G4, ev⟩ := ev_old ((((Go.refl R).new hl).trans G1).trans G2) (((Go.refl R).new hl).free b2 hb2) (o1.go G2) ht'
        exact k1 _ _ _ _ G4 (.sought hsl hn hg hc rfl) ev
end
end G

/-! The walk, 7: one deed; refused deeds. -/
namespace G
open PySem PySem.Spec PyProof.Rows L2
def spRefusal : Sp := fun vs H Q _ => ∃ x : Str, vs = [.str x] ∧ ∀ l t, H l = none → upd H l (.lst []) t = none → Q (.ref t) (upd (upd H l (.lst [])) t (.tup [.str "refused", .str x, .ref l]))
structure DealtPre (K : PySem.W.Frag) (H : Hp) (lens : List Nat) (N : Nat) (S : WS) (r : Row) (Q : VK) : Prop where
  rep : Rep K H S
  wf : Wf lens N S
  ok : RowOk lens r
  k : ∀ H' S' e v, Go K H S H' S' → DealR S r e S' → EvN H H' S' v e → Q v H'
def spDealt (K : PySem.W.Frag) : Sp := fun vs H Q _ => ∃ lens N S r a, vs = [.ref S.wo, .ref a] ∧ H a = some (.tup (rowV r)) ∧ r.isSweep = false ∧ DealtPre K H lens N S r Q
section
variable {P : Program} {w : World} {K : PySem.W.Frag} {mg : Str → Option Value} {base : Heap}
theorem sc_do : FnScope ["world", "deed", "word", "hand"] ["world", "deed"] (defScope s_do) := ⟨rfl, rfl, rfl, by decide +kernel, rfl, by decide +kernel, by decide +kernel⟩
theorem ok_do (C : CtxG K mg) : Ok P w K mg base (L2.CX P w) 5 d_do ["world", "deed"] (spDo K) := by
  refine ok_mkX C.T.f_do sc_do (fun vs H Q E h => ?_) (fun fd F => F.bindsN fun _ _ _ _ _ _ us hl => match us, hl with | [_, _], _ => rfl) (fun cdv A outer s H vs Q E hr h => ?_)
  · obtain ⟨lens, N, S, r, a, rfl, _⟩ := h
    rfl
  · obtain ⟨lens, N, S, r, a, rfl, ha, hs, dp⟩ := h
    refine ⟨_, (pss_cons (ps_set (i := 2) sc_do.nd rfl (Or.inl rfl) (pe_ix ix_tup (pv 1) pe_int (fun _ _ => rfl)))
      (pss_cons (ps_set (i := 3) sc_do.nd rfl (Or.inl rfl) (pe_ix ix_tup (pv 1) pe_int (fun _ _ => rfl)))
      (pss_cons (ps_if (pt_cmpR op_eq (pv 2) pe_str (nomark _)) (pss_one (ps_ret (pe_fnX (ok_make_cell C) (hr.mono (by decide)) C.g_make_cell (takes_of rfl rfl rfl rfl) (pa_cons (pv 0) (pa_cons (pv 3) (pa_cons (pe_ix ix_tup (pv 1) pe_int (fun _ _ => rfl)) (pa_cons (pe_ix ix_tup (pv 1) pe_int (fun _ _ => rfl)) (pa_cons (pe_ix ix_tup (pv 1) pe_int (fun _ _ => rfl)) pa_nil)))))))) pss_nil)
      (pss_cons (ps_if (pt_cmpR op_eq (pv 2) pe_str (nomark _)) (pss_one (ps_ret (pe_fnX (ok_get_field C) (hr.mono (by decide)) C.g_get_field (takes_of rfl rfl rfl rfl) (pa_cons (pv 0) (pa_cons (pv 3) (pa_cons (pe_ix ix_tup (pv 1) pe_int (fun _ _ => rfl)) (pa_cons (pe_ix ix_tup (pv 1) pe_int (fun _ _ => rfl)) (pa_cons (pe_ix ix_tup (pv 1) pe_int (fun _ _ => rfl)) pa_nil)))))))) pss_nil)
      (pss_cons (ps_if (pt_cmpR op_eq (pv 2) pe_str (nomark _)) (pss_one (ps_ret (pe_fnX (ok_put_in C) (hr.mono (by decide)) C.g_put_in (takes_of rfl rfl rfl rfl) (pa_cons (pv 0) (pa_cons (pv 3) (pa_cons (pe_ix ix_tup (pv 1) pe_int (fun _ _ => rfl)) (pa_cons (pe_ix ix_tup (pv 1) pe_int (fun _ _ => rfl)) (pa_cons (pe_ix ix_tup (pv 1) pe_int (fun _ _ => rfl)) pa_nil)))))))) pss_nil)
      (pss_cons (ps_if (pt_cmpR op_eq (pv 2) pe_str (nomark _)) (pss_one (ps_ret (pe_tup (pa_cons pe_str (pa_cons (pe_fn (ok_fill C) (hr.mono (by decide)) C.g_fill (pa_cons (pv 0) (pa_cons (pv 3) (pa_cons (pe_ix ix_tup (pv 1) pe_int (fun _ _ => rfl)) (pa_cons (pe_ix ix_list (pe_fld (pe_ix ix_list (pe_fld (pv 0) rfl) (pv 3) (fun _ _ => rfl)) rfl) (pe_ix ix_tup (pv 1) pe_int (fun _ _ => rfl)) (fun _ _ => rfl)) pa_nil))))) (pa_cons (pe_lst pa_nil) pa_nil)))))) pss_nil)
      (pss_cons (ps_if (pt_cmpR op_eq (pv 2) pe_str (nomark _)) (pss_one (ps_ret (pe_fn (ok_drop_slot C) (hr.mono (by decide)) C.g_drop_slot (pa_cons (pv 0) (pa_cons (pv 3) (pa_cons (pe_ix ix_tup (pv 1) pe_int (fun _ _ => rfl)) pa_nil)))))) pss_nil)
      (pss_cons (ps_if (pt_cmpR op_eq (pv 2) pe_str (nomark _)) (pss_one (ps_ret (pe_fn (ok_give_to C) (hr.mono (by decide)) C.g_give_to (pa_cons (pv 0) (pa_cons (pv 3) (pa_cons (pe_ix ix_tup (pv 1) pe_int (fun _ _ => rfl)) (pa_cons (pe_ix ix_tup (pv 1) pe_int (fun _ _ => rfl)) (pa_cons (pe_ix ix_tup (pv 1) pe_int (fun _ _ => rfl)) pa_nil)))))))) pss_nil)
      (pss_cons (ps_if (pt_cmpR op_eq (pv 2) pe_str (nomark _)) (pss_one (ps_ret (pe_fnX (ok_write_load C) (hr.mono (by decide)) C.g_write_load (takes_of rfl rfl rfl rfl) (pa_cons (pv 0) (pa_cons (pv 3) (pa_cons (pe_ix ix_tup (pv 1) pe_int (fun _ _ => rfl)) (pa_cons (pe_ix ix_tup (pv 1) pe_int (fun _ _ => rfl)) pa_nil))))))) pss_nil)
      (pss_cons (ps_if (pt_cmpR op_eq (pv 2) pe_str (nomark _)) (pss_one (ps_ret (pe_tup (pa_cons pe_str (pa_cons (pe_fld (pe_fnX (ok_cell_in C) (hr.mono (by decide)) C.g_cell_in (takes_of rfl rfl rfl rfl) (pa_cons (pv 0) (pa_cons (pv 3) (pa_cons (pe_ix ix_tup (pv 1) pe_int (fun _ _ => rfl)) pa_nil)))) rfl) (pa_cons (pe_lst pa_nil) pa_nil)))))) pss_nil)
      (pss_cons (ps_if (pt_cmpR op_eq (pv 2) pe_str (nomark _)) (pss_one (ps_ret (pe_fnX (ok_name_cell C) (hr.mono (by decide)) C.g_name_cell (takes_of rfl rfl rfl rfl) (pa_cons (pv 0) (pa_cons (pv 3) (pa_cons (pe_ix ix_tup (pv 1) pe_int (fun _ _ => rfl)) (pa_cons (pe_ix ix_tup (pv 1) pe_int (fun _ _ => rfl)) pa_nil))))))) pss_nil)
      (pss_one (ps_ret (pe_fnX (ok_seek_name C) (hr.mono (by decide)) C.g_seek_name (takes_of rfl rfl rfl rfl) (pa_cons (pv 0) (pa_cons (pv 3) (pa_cons (pe_ix ix_tup (pv 1) pe_int (fun _ _ => rfl)) (pa_cons (pe_ix ix_tup (pv 1) pe_int (fun _ _ => rfl)) pa_nil)))))))))))))))))), ?_⟩
    have R := dp.rep
    cases r with
    | sweep n => cases hs
    | make h s many bulk =>
      refine ⟨_, rfl, rdT (i := 0) ha rfl ⟨_, rfl, rdT (i := 1) ha rfl ?_⟩⟩
      refine ⟨_, rfl, rfl, _, rfl, ifT rfl ?_⟩
      exact ⟨_, rfl, _, rfl, _, rfl, rdT (i := 2) ha rfl ⟨_, rfl, rdT (i := 3) ha rfl ⟨_, rfl, rdT (i := 4) ha rfl ⟨lens, N, S, _, _, rfl, rfl, dp⟩⟩⟩⟩
    | get h s t f =>
      refine ⟨_, rfl, rdT (i := 0) ha rfl ⟨_, rfl, rdT (i := 1) ha rfl ?_⟩⟩
      refine ⟨_, rfl, rfl, _, rfl, ifF rfl ?_⟩
      refine ⟨_, rfl, rfl, _, rfl, ifT rfl ?_⟩
      exact ⟨_, rfl, _, rfl, _, rfl, rdT (i := 2) ha rfl ⟨_, rfl, rdT (i := 3) ha rfl ⟨_, rfl, rdT (i := 4) ha rfl ⟨lens, N, S, _, _, rfl, rfl, dp⟩⟩⟩⟩
    | put h t f s =>
      refine ⟨_, rfl, rdT (i := 0) ha rfl ⟨_, rfl, rdT (i := 1) ha rfl ?_⟩⟩
      refine ⟨_, rfl, rfl, _, rfl, ifF rfl ?_⟩
      refine ⟨_, rfl, rfl, _, rfl, ifF rfl ?_⟩
      refine ⟨_, rfl, rfl, _, rfl, ifT rfl ?_⟩
      exact ⟨_, rfl, _, rfl, _, rfl, rdT (i := 2) ha rfl ⟨_, rfl, rdT (i := 3) ha rfl ⟨_, rfl, rdT (i := 4) ha rfl ⟨lens, N, S, _, _, rfl, rfl, dp⟩⟩⟩⟩
    | copy h s t =>
      refine ⟨_, rfl, rdT (i := 0) ha rfl ⟨_, rfl, rdT (i := 1) ha rfl ?_⟩⟩
      refine ⟨_, rfl, rfl, _, rfl, ifF rfl ?_⟩
      refine ⟨_, rfl, rfl, _, rfl, ifF rfl ?_⟩
      refine ⟨_, rfl, rfl, _, rfl, ifF rfl ?_⟩
      refine ⟨_, rfl, rfl, _, rfl, ifT rfl ?_⟩
      obtain ⟨R, X, ok, k1, k2⟩ := dp
      obtain ⟨oks, okt⟩ := ok
      obtain ⟨d, x, hd, hs1⟩ := X.bnd.slot oks
      obtain ⟨d', y, hd', ht⟩ := X.bnd.slot okt
      rw [hd] at hd'
      cases hd'
      have hsl : S.slot h t = some y := slot_iff.mpr ⟨d, hd, ht⟩
      refine ⟨_, rfl, _, rfl, _, rfl, rdT (i := 2) ha rfl ⟨_, rfl, R.r_hands C.T ⟨_, rfl, R.ix_hands hd (R.d_slots C.T hd ⟨_, rfl, rdT (i := 3) ha rfl (R.ix_slots hd ht ?_)⟩)⟩⟩⟩
      refine ⟨S, h, s, d, x, y, rfl, R, hd, hs1, fun q e => let ⟨c, hc⟩ := X.there hd ht q e; cell_lt hc, fun H2 G2 => ?_⟩
      refine ⟨(by decide), fun l hl => ⟨(by show 3 ≤ sizeLine; decide), fun t' ht' => ?_⟩⟩
      obtain ⟨G4, ev⟩ := ev_new (nums := []) G2 hl ht'
      exact k1 _ _ _ _ G4 (.copied hsl) ev
    | drop h s =>
      refine ⟨_, rfl, rdT (i := 0) ha rfl ⟨_, rfl, rdT (i := 1) ha rfl ?_⟩⟩
      refine ⟨_, rfl, rfl, _, rfl, ifF rfl ?_⟩
      refine ⟨_, rfl, rfl, _, rfl, ifF rfl ?_⟩
      refine ⟨_, rfl, rfl, _, rfl, ifF rfl ?_⟩
      refine ⟨_, rfl, rfl, _, rfl, ifF rfl ?_⟩
      refine ⟨_, rfl, rfl, _, rfl, ifT rfl ?_⟩
      exact ⟨_, rfl, _, rfl, _, rfl, rdT (i := 2) ha rfl ⟨lens, N, S, _, _, rfl, rfl, dp.rep, dp.wf, dp.ok, dp.k.1, fun _ _ _ _ _ => trivial⟩⟩
    | give h s g t =>
      refine ⟨_, rfl, rdT (i := 0) ha rfl ⟨_, rfl, rdT (i := 1) ha rfl ?_⟩⟩
      refine ⟨_, rfl, rfl, _, rfl, ifF rfl ?_⟩
      refine ⟨_, rfl, rfl, _, rfl, ifF rfl ?_⟩
      refine ⟨_, rfl, rfl, _, rfl, ifF rfl ?_⟩
      refine ⟨_, rfl, rfl, _, rfl, ifF rfl ?_⟩
      refine ⟨_, rfl, rfl, _, rfl, ifF rfl ?_⟩
      refine ⟨_, rfl, rfl, _, rfl, ifT rfl ?_⟩
      exact ⟨_, rfl, _, rfl, _, rfl, rdT (i := 2) ha rfl ⟨_, rfl, rdT (i := 3) ha rfl ⟨_, rfl, rdT (i := 4) ha rfl ⟨lens, N, S, _, _, rfl, rfl, dp.rep, dp.wf, dp.ok, dp.k.1, fun _ _ _ _ _ => trivial⟩⟩⟩⟩
    | write h t l =>
      refine ⟨_, rfl, rdT (i := 0) ha rfl ⟨_, rfl, rdT (i := 1) ha rfl ?_⟩⟩
      refine ⟨_, rfl, rfl, _, rfl, ifF rfl ?_⟩
      refine ⟨_, rfl, rfl, _, rfl, ifF rfl ?_⟩
      refine ⟨_, rfl, rfl, _, rfl, ifF rfl ?_⟩
      refine ⟨_, rfl, rfl, _, rfl, ifF rfl ?_⟩
      refine ⟨_, rfl, rfl, _, rfl, ifF rfl ?_⟩
      refine ⟨_, rfl, rfl, _, rfl, ifF rfl ?_⟩
      refine ⟨_, rfl, rfl, _, rfl, ifT rfl ?_⟩
      exact ⟨_, rfl, _, rfl, _, rfl, rdT (i := 2) ha rfl ⟨_, rfl, rdT (i := 3) ha rfl ⟨lens, N, S, _, _, rfl, rfl, dp⟩⟩⟩
    | read h t =>
      refine ⟨_, rfl, rdT (i := 0) ha rfl ⟨_, rfl, rdT (i := 1) ha rfl ?_⟩⟩
      refine ⟨_, rfl, rfl, _, rfl, ifF rfl ?_⟩
      refine ⟨_, rfl, rfl, _, rfl, ifF rfl ?_⟩
      refine ⟨_, rfl, rfl, _, rfl, ifF rfl ?_⟩
      refine ⟨_, rfl, rfl, _, rfl, ifF rfl ?_⟩
      refine ⟨_, rfl, rfl, _, rfl, ifF rfl ?_⟩
      refine ⟨_, rfl, rfl, _, rfl, ifF rfl ?_⟩
      refine ⟨_, rfl, rfl, _, rfl, ifF rfl ?_⟩
      refine ⟨_, rfl, rfl, _, rfl, ifT rfl ?_⟩
      obtain ⟨R, X, ok, k1, k2⟩ := dp
      obtain ⟨d, y, hd, ht⟩ := X.bnd.slot ok
      have hsl : S.slot h t = some y := slot_iff.mpr ⟨d, hd, ht⟩
      refine ⟨_, rfl, _, rfl, _, rfl, rdT (i := 2) ha rfl ⟨S, h, t, d, y, rfl, R.toCore, hd, ht, X.there hd ht, fun e => k2 "EmptySlot" H (by decide) (Same.refl H) fun b n => .read, fun p c e hc => ?_⟩⟩
      subst e
      refine R.c_load C.T hc ⟨(by decide), fun l hl => ⟨(by show 3 ≤ sizeLine; decide), fun t' ht' => ?_⟩⟩
      obtain ⟨G4, ev⟩ := ev_new (nums := []) (Go.refl R) hl ht'
      exact k1 _ _ _ _ G4 .read ev
    | name h t x =>
      refine ⟨_, rfl, rdT (i := 0) ha rfl ⟨_, rfl, rdT (i := 1) ha rfl ?_⟩⟩
      refine ⟨_, rfl, rfl, _, rfl, ifF rfl ?_⟩
      refine ⟨_, rfl, rfl, _, rfl, ifF rfl ?_⟩
      refine ⟨_, rfl, rfl, _, rfl, ifF rfl ?_⟩
      refine ⟨_, rfl, rfl, _, rfl, ifF rfl ?_⟩
      refine ⟨_, rfl, rfl, _, rfl, ifF rfl ?_⟩
      refine ⟨_, rfl, rfl, _, rfl, ifF rfl ?_⟩
      refine ⟨_, rfl, rfl, _, rfl, ifF rfl ?_⟩
      refine ⟨_, rfl, rfl, _, rfl, ifF rfl ?_⟩
      refine ⟨_, rfl, rfl, _, rfl, ifT rfl ?_⟩
      exact ⟨_, rfl, _, rfl, _, rfl, rdT (i := 2) ha rfl ⟨_, rfl, rdT (i := 3) ha rfl ⟨lens, N, S, _, _, rfl, rfl, dp⟩⟩⟩
    | seek h s x =>
      refine ⟨_, rfl, rdT (i := 0) ha rfl ⟨_, rfl, rdT (i := 1) ha rfl ?_⟩⟩
      refine ⟨_, rfl, rfl, _, rfl, ifF rfl ?_⟩
      refine ⟨_, rfl, rfl, _, rfl, ifF rfl ?_⟩
      refine ⟨_, rfl, rfl, _, rfl, ifF rfl ?_⟩
      refine ⟨_, rfl, rfl, _, rfl, ifF rfl ?_⟩
      refine ⟨_, rfl, rfl, _, rfl, ifF rfl ?_⟩
      refine ⟨_, rfl, rfl, _, rfl, ifF rfl ?_⟩
      refine ⟨_, rfl, rfl, _, rfl, ifF rfl ?_⟩
      refine ⟨_, rfl, rfl, _, rfl, ifF rfl ?_⟩
      refine ⟨_, rfl, rfl, _, rfl, ifF rfl ?_⟩
      exact ⟨_, rfl, _, rfl, _, rfl, rdT (i := 2) ha rfl ⟨_, rfl, rdT (i := 3) ha rfl ⟨lens, N, S, _, _, rfl, rfl, dp⟩⟩⟩
theorem sc_refusal : FnScope ["word"] ["word"] (defScope s_refusal) := ⟨rfl, rfl, rfl, by decide +kernel, rfl, by decide +kernel, by decide +kernel⟩
/-- a def that lets nothing out, called where an exception is handled -/
theorem pe_fnQ {X : Cx} {k : Nat} {d : He.DefD} {N ps : List Str} {sp : Sp} {x : Str} {q pos : Pos} {e : Expr} {es : List Expr} {t : TA} {p : Addr × Obj} (fd : ∃ fd, FnP X.K d fd) (S : FnScope N ps d.scope) (len : ∀ vs H Q E, sp vs H Q E → vs.length = ps.length)
    (hb : ∀ fd, FnP X.K d fd → Binds X.K fd ps []) (hr : L2H.RoomH (k + 1) X.A) (hp : p ∈ X.pn) (hg : Gl X x) (hm : X.mg x = some (.ref (He.fAd X.K d.at_))) (ha : PA X (e :: es) t)
    (hbody : ∀ (cdv : Value) (A : Around) (outer : List Env) (s : Shared) (H : Hp) (vs : List V) (Q : VK) (E : XK), L2H.RoomH k (A.deeper (envOfC d.qual d.scope s.heap.objs.size (He.fAd X.K d.at_) cdv)) → sp vs H Q E →
      ∃ t, PSs (L2H.cxH CX0 X.prog X.w X.K X.mg X.base N d.qual d.scope (He.fAd X.K d.at_) cdv A outer s H E p) d.body t ∧ t { nx := fun _ H' => Q .non H', rt := Q } (start N vs) H)
    (hdb : (x == ("__debug__" : Str)) = false := by decide) (he : starEach (e :: es) X.env = (false, eval e X.env) :: starEach es X.env := by rfl) (hpl : (backTo pos (starEach es X.env)).any (·.1) = false := by rfl) :
    PE X (.Call (.Name x q) (e :: es) [] pos) (tCall sp [] E0 t) := by
  obtain ⟨fd, F⟩ := fd
  have bd := hb fd F
  obtain ⟨oc, od, dV, kV, doc, pm, an, cdv, ct, osl, rfl, lk, hcd, _, _⟩ := F.ex
  refine ⟨fun pins s σ H Q I h => ?_⟩
  refine wpAny_Call_Name_kw (ld_glob I hg hm ?_ hdb)
  refine PySem.W.callWith_K (h₀ := X.base) I.ok.mod.kin F.kp (thn (ha.run pos pins s σ H _ I h) fun us s1 ⟨vs, H1, I1, r, q⟩ => ⟨I1.kIn, ?_⟩) he hpl
  have q : sp (vs ++ []) H1 Q E0 := q
  rw [List.append_nil] at q
  have hl := len _ _ _ _ q
  have b := bd s1 us I1.kIn (by rw [List.append_nil, ← r.length]; exact hl)
  rw [List.append_nil] at b
  have P1 := I1.pin p (List.mem_append_left _ hp)
  have hpin : L2H.PinOk X.stack H1 s1 p := ⟨P1.1, P1.2.1, fun hm => (List.mem_cons.mp (I1.stkSub p.1 hm)).elim P1.2.2.1 P1.2.2.2.1, P1.2.2.2.2⟩
  have e0 := I1.env0
  have lim : s1.heap.NoLimit := e0.mod.nolimit.keeps fun b o e => (e0.bs b o e).1
  have hkind : ∀ y ∈ ps.zip us, d.scope.names.lookup y.1 = some .local ∨ (d.scope.names.lookup y.1 = some .cell ∧ ((cellsFrom (s1.heap.objs.size + 1) d.scope.names []).lookup y.1).isSome = true) := fun ⟨n, v⟩ hy => by
    rcases S.par n (List.of_mem_zip hy).1 with z | z
    · exact .inl z
    · exact .inr ⟨z, PySem.W.cellsFrom_some _ _ _ (.inl z)⟩
  refine wpAny_call (codeAny_mono (R := CR CX0 X.stack X.prog X.w H1 s1 Q E0) (codeAny_call_function hr.depth (I1.kIn _ _ lk) rfl S.co S.gen rfl (PySem.W.codeRec_of I1.kIn hcd) (b _ _ _ _ (wpAny_newFunctionEnv_cells S.kind hkind fun env he s2 x => ?_))) fun r s' hq => ?_)
  · subst he
    refine ⟨lim.keeps x.toInCall.keep, codeAny_func ?_⟩
    obtain ⟨t, ht, hq⟩ := hbody cdv X.A X.stack s1 H1 vs Q E0 (hr.deeper _) q
    have J := L2H.inv_startH (CX := CX0) (E := E0) S hpin e0 hl r x
    refine wpAny_mono (ht.run [] s2 (start N vs) H1 _ J hq) (fun fl s' hs => ?_) fun e s' hs => hs
    cases fl with
    | ret u =>
      obtain ⟨v, σ', H', J, rv, q⟩ := hs
      exact ⟨v, H', J.os, J.bare, J.base, J.hok, rv, q⟩
    | next =>
      obtain ⟨σ', H', J, q⟩ := hs
      exact ⟨V.non, H', J.os, J.bare, J.base, J.hok, rfl, q⟩
    | brk =>
      obtain ⟨_, _, _, q⟩ := hs
      exact False.elim q
    | cont =>
      obtain ⟨_, _, _, q⟩ := hs
      exact False.elim q
  · cases r with
    | error e => exact False.elim hq
    | ok fl =>
      cases fl with
      | ret u => exact I1.after hq
      | next => exact False.elim hq
      | brk => exact False.elim hq
      | cont => exact False.elim hq
/-- refusal(..) in an except suite -/
theorem pe_refusal {X : Cx} {q pos : Pos} {e : Expr} {t : TA} {p : Addr × Obj} (C : CtxG X.K X.mg) (hr : L2H.RoomH 1 X.A) (hp : p ∈ X.pn) (hg : Gl X "refusal") (ha : PA X [e] t)
    (he : starEach [e] X.env = (false, eval e X.env) :: starEach [] X.env := by rfl) : PE X (.Call (.Name "refusal" q) [e] [] pos) (tCall spRefusal [] E0 t) := by
  refine pe_fnQ C.T.f_refusal sc_refusal (fun vs H Q E h => ?_) (fun fd F => F.bindsN fun _ _ _ _ _ _ us hl => match us, hl with | [_], _ => rfl) hr hp hg C.g_refusal ha (fun cdv A outer s H vs Q E hr2 h => ?_) (by decide) he rfl
  · obtain ⟨x, rfl, _⟩ := h
    rfl
  · obtain ⟨x, rfl, k⟩ := h
    refine ⟨_, (pss_one (ps_ret (pe_tup (pa_cons pe_str (pa_cons (pv 0) (pa_cons (pe_lst pa_nil) pa_nil)))))), ?_⟩
    exact ⟨_, rfl, (by decide), fun l hl => ⟨(by show 3 ≤ sizeLine; decide), fun t ht => k l t hl ht⟩⟩
theorem sc_deed_tried : FnScope ["world", "deed", "event"] ["world", "deed"] (defScope s_deed_tried) := ⟨rfl, rfl, rfl, by decide +kernel, rfl, by decide +kernel, by decide +kernel⟩
theorem ok_deed_tried (C : CtxG K mg) : Ok P w K mg base (L2.CX P w) 6 d_deed_tried ["world", "deed"] (spDealt K) := by
  refine ok_mkX C.T.f_deed_tried sc_deed_tried (fun vs H Q E h => ?_) (fun fd F => F.bindsN fun _ _ _ _ _ _ us hl => match us, hl with | [_, _], _ => rfl) (fun cdv A outer s H vs Q E hr h => ?_)
  · obtain ⟨lens, N, S, r, a, rfl, _⟩ := h
    rfl
  · obtain ⟨lens, N, S, r, a, rfl, ha, hs, R, X, ok, k⟩ := h
    have hrH : L2H.RoomH 1 (A.deeper (envOfC d_deed_tried.qual d_deed_tried.scope s.heap.objs.size (He.fAd K d_deed_tried.at_) cdv)) := L2H.roomH_of (hr.mono (by decide))
    refine ⟨_, pss_one (ps_try_manyE (pss_one (ps_ret (pv 2))) rfl rfl takes_none5 (fun W pn xe tk _ => pss_one (ps_set (i := 2) sc_deed_tried.nd rfl (Or.inl rfl) (pe_fnS (ok_do C) (hr.mono (by decide)) C.g_do tk (pa_cons (pv 0) (pa_cons (pv 1) pa_nil)))))
      (HdsOk.cons ⟨rfl, rfl, .inl C.g_EmptySlot⟩ (fun a oe cls d pn hz hd => pss_one (ps_ret (pe_refusal C (p := (a, oe)) ⟨hrH.dp, hrH.un⟩ List.mem_cons_self rfl (pa_cons pe_str pa_nil))))
      (HdsOk.cons ⟨rfl, rfl, .inl C.g_NoField⟩ (fun a oe cls d pn hz hd => pss_one (ps_ret (pe_refusal C (p := (a, oe)) ⟨hrH.dp, hrH.un⟩ List.mem_cons_self rfl (pa_cons pe_str pa_nil))))
      (HdsOk.cons ⟨rfl, rfl, .inl C.g_Full⟩ (fun a oe cls d pn hz hd => pss_one (ps_ret (pe_refusal C (p := (a, oe)) ⟨hrH.dp, hrH.un⟩ List.mem_cons_self rfl (pa_cons pe_str pa_nil))))
      (HdsOk.cons ⟨rfl, rfl, .inl C.g_NoName⟩ (fun a oe cls d pn hz hd => pss_one (ps_ret (pe_refusal C (p := (a, oe)) ⟨hrH.dp, hrH.un⟩ List.mem_cons_self rfl (pa_cons pe_str pa_nil)))) HdsOk.nil))))), ?_⟩
    have fin : ∀ (x : Str) (H1 : Hp), Same H H1 → (∀ b n, DealR S r ⟨"refused", b, n⟩ S) → ∀ l t, H1 l = none → upd H1 l (.lst []) t = none → Q (.ref t) (upd (upd H1 l (.lst [])) t (.tup [.str "refused", .str x, .ref l])) := fun x H1 e dr l t hl ht => by
      obtain ⟨G4, ev⟩ := ev_new (nums := []) ((Go.refl R).same e) hl ht
      exact k _ _ _ _ G4 (dr _ _) ev
    refine ⟨_, rfl, _, rfl, lens, N, S, r, a, rfl, ha, hs, R, X, ok, fun H' S' e v G1 d1 ev => ⟨_, rfl, k _ _ _ _ G1 d1 ev⟩, fun x H' hx e dr => ?_⟩
    simp only [excL, List.mem_cons, List.not_mem_nil, or_false] at hx
    rcases hx with rfl | rfl | rfl | rfl
    · exact ⟨_, C.T.exm_EmptySlot_EmptySlot, fun _ a0 _ => ⟨_, rfl, fin _ _ e dr⟩, (fun z => by cases z)⟩
    · exact ⟨_, C.T.exm_NoField_EmptySlot, (fun z => by cases z), fun _ => ⟨_, C.T.exm_NoField_NoField, fun _ a0 _ => ⟨_, rfl, fin _ _ e dr⟩, (fun z => by cases z)⟩⟩
    · exact ⟨_, C.T.exm_Full_EmptySlot, (fun z => by cases z), fun _ => ⟨_, C.T.exm_Full_NoField, (fun z => by cases z), fun _ => ⟨_, C.T.exm_Full_Full, fun _ a0 _ => ⟨_, rfl, fin _ _ e dr⟩, (fun z => by cases z)⟩⟩⟩
    · exact ⟨_, C.T.exm_NoName_EmptySlot, (fun z => by cases z), fun _ => ⟨_, C.T.exm_NoName_NoField, (fun z => by cases z), fun _ => ⟨_, C.T.exm_NoName_Full, (fun z => by cases z), fun _ => ⟨_, C.T.exm_NoName_NoName, fun _ a0 _ => ⟨_, rfl, fin _ _ e dr⟩, (fun z => by cases z)⟩⟩⟩⟩
end
end G

/-! The sweeper, 1: looking, rows held, hands noted, places, a cell given back. -/
namespace G
open PySem PySem.Spec PyProof.Rows L2
theorem All2.snoc {α β : Type} {R : α → β → Prop} {xs : List α} {ys : List β} (h : All2 R xs ys) {x : α} {y : β} (r : R x y) : All2 R (xs ++ [x]) (ys ++ [y]) := by
  obtain ⟨hl, hr⟩ := h
  refine ⟨by simp [hl], fun i a b ha hb => ?_⟩
  by_cases hi : i < xs.length
  · rw [List.getElem?_append_left hi] at ha
    rw [List.getElem?_append_left (by omega)] at hb
    exact hr i a b ha hb
  · rw [List.getElem?_append_right (by omega)] at ha
    rw [List.getElem?_append_right (by omega), ← hl] at hb
    cases e : i - xs.length with
    | zero =>
      rw [e] at ha hb
      cases ha
      cases hb
      exact r
    | succ n =>
      rw [e] at ha
      simp at ha
def dL_at_begin : LK → He.DefD
  | .first => d_First_at_begin
  | .each => d_Each_at_begin
  | .last => d_Last_at_begin
def dL_next_look : LK → He.DefD
  | .first => d_First_next_look
  | .each => d_Each_next_look
  | .last => d_Last_next_look
def dL_stays : LK → He.DefD
  | .first => d_First_stays
  | .each => d_Each_stays
  | .last => d_Last_stays
def rListOf (K : PySem.W.Frag) : List V → Hp → VK → Prop := fun xs H Q => ∃ p ys, xs = [.ref p] ∧ (SqL K H p ys ∨ SqT K H p ys) ∧ ∀ l, H l = none → Q (.ref l) (upd H l (.lst ys))
def spAtBegin : Sp := fun vs H Q _ => ∃ (x : V) (n : Nat), vs = [x, .int (n : Int)] ∧ n ≤ 5 ∧ ∀ b : Int, Q (.int b) H
def spNextLook : Sp := fun vs H Q _ => ∃ (x : V) (l : Int) (n : Nat), vs = [x, .int l, .int (n : Int)] ∧ n ≤ 5 ∧ ∀ b : Int, Q (.int b) H
def spStaysL : Sp := fun vs H Q _ => ∃ x : V, vs = [x] ∧ ∀ b : Bool, Q (.bl b) H
/-- rows of places as new lists -/
def RowsNew (H H' : Hp) (b : Addr) (rows : List (List (Option Nat))) : Prop := ∃ ls : List Addr, H' b = some (.lst (ls.map V.ref)) ∧ All2 (fun l r => H l = none ∧ l ≠ b ∧ H' l = some (.lst (r.map plV))) ls rows
def RowsOut (H : Hp) (S : WS) (b : Addr) (ls : List Addr) (rows : List (List (Option Nat))) : Prop := Out H S b (.lst (ls.map V.ref)) ∧ All2 (fun l r => Out H S l (.lst (r.map plV))) ls rows
theorem RowsOut.go {K : PySem.W.Frag} {H H' : Hp} {S S' : WS} {b : Addr} {ls : List Addr} {rows : List (List (Option Nat))} (h : RowsOut H S b ls rows) (g : Go K H S H' S') : RowsOut H' S' b ls rows :=
  let ⟨a, c⟩ := h
  ⟨a.go g, c.mono fun _ _ z => z.go g⟩
theorem RowsOut.upd {H : Hp} {S : WS} {b x : Addr} {o : HO} {ls : List Addr} {rows : List (List (Option Nat))} (h : RowsOut H S b ls rows) (h1 : b ≠ x) (h2 : ∀ l ∈ ls, l ≠ x) : RowsOut (upd H x o) S b ls rows :=
  let ⟨a, c⟩ := h
  ⟨a.upd h1, c.1, fun i l r hl hr => (c.2 i l r hl hr).upd (h2 l (List.mem_of_getElem? hl))⟩
theorem RowsNew.out {K : PySem.W.Frag} {H H' : Hp} {S : WS} {b : Addr} {rows : List (List (Option Nat))} (R : Core K H S) (hb : H b = none) (h : RowsNew H H' b rows) : ∃ ls, RowsOut H' S b ls rows ∧ ∀ l ∈ ls, H l = none :=
  let ⟨ls, a, c⟩ := h
  ⟨ls, ⟨⟨a, R.fresh b hb⟩, c.mono fun l _ z => ⟨z.2.2, R.fresh l z.1⟩⟩, fun l hl => let ⟨_, _, z⟩ := c.mem hl; z.1⟩
def spHeld (K : PySem.W.Frag) : Sp := fun vs H Q _ => ∃ S : WS, vs = [.ref S.wo] ∧ Core K H S ∧ S.hands.length ≤ 5 ∧ ∀ H' b, Same H H' → H b = none → RowsNew H H' b S.heldRows → Q (.ref b) H'
def spNoteHands (K : PySem.W.Frag) : Sp := fun vs H Q _ => ∃ (lens : List Nat) (N : Nat) (S : WS) (bits : Int), vs = [.ref S.wo, .int bits] ∧ Rep K H S ∧ Wf lens N S ∧
  ∀ H' b L, FromSlots S L → L.length ≤ 45 → Go K H S H' (S.noted L).1 → H b = none → Out H' (S.noted L).1 b (.lst ((S.noted L).2.map V.int)) → Q (.ref b) H'
def WS.thereL (S : WS) : List Nat := (List.range S.cells.length).filter fun p => (S.cell p).isSome
def spThere (K : PySem.W.Frag) : Sp := fun vs H Q _ => ∃ S : WS, vs = [.ref S.ho] ∧ Core K H S ∧ S.cells.length ≤ 10000 ∧ ∀ H' b, Same H H' → H b = none → H' b = some (.lst (S.thereL.map fun (p : Nat) => .int (p : Int))) → Q (.ref b) H'
def spBack (K : PySem.W.Frag) : Sp := fun vs H Q _ => ∃ (S : WS) (p : Nat) (c : CellD), vs = [.ref S.ho, .int (p : Int)] ∧ Rep K H S ∧ S.cell p = some c ∧ ∀ H' u, Go K H S H' { S with used := u, cells := S.cells.set p none } → Q (.int c.birth) H'
theorem Wf.hands5 {lens : List Nat} {N : Nat} {S : WS} (X : Wf lens N S) : S.hands.length ≤ 5 := by
  have h := X.bnd.shape
  have : S.hands.length = lens.length := by rw [← h, List.length_map]
  have := X.lensOk.many
  omega
theorem Wf.slots9 {lens : List Nat} {N : Nat} {S : WS} (X : Wf lens N S) {d : HandD} (hd : d ∈ S.hands) : d.slots.length ≤ 9 := by
  refine X.lensOk.each _ ?_
  rw [← X.bnd.shape]
  exact List.mem_map.mpr ⟨d, hd, rfl⟩
section
variable {P : Program} {w : World} {K : PySem.W.Frag} {mg : Str → Option Value} {base : Heap}
theorem clsL (C : CtxG K mg) : ∀ lk, Cls K (lkC K lk)
  | .first => C.T.cls_First
  | .each => C.T.cls_Each
  | .last => C.T.cls_Last
theorem mtL_at_begin (C : CtxG K mg) : ∀ lk, Meth K (lkC K lk) "at_begin" (He.fAd K (dL_at_begin lk).at_)
  | .first => C.T.mt_First_at_begin
  | .each => C.T.mt_Each_at_begin
  | .last => C.T.mt_Last_at_begin
theorem mtL_next_look (C : CtxG K mg) : ∀ lk, Meth K (lkC K lk) "next_look" (He.fAd K (dL_next_look lk).at_)
  | .first => C.T.mt_First_next_look
  | .each => C.T.mt_Each_next_look
  | .last => C.T.mt_Last_next_look
theorem mtL_stays (C : CtxG K mg) : ∀ lk, Meth K (lkC K lk) "stays" (He.fAd K (dL_stays lk).at_)
  | .first => C.T.mt_First_stays
  | .each => C.T.mt_Each_stays
  | .last => C.T.mt_Last_stays
theorem sc_First_at_begin : FnScope ["self", "hands"] ["self", "hands"] (defScope s_First_at_begin) := ⟨rfl, rfl, rfl, by decide +kernel, rfl, by decide +kernel, by decide +kernel⟩
theorem sc_Each_at_begin : FnScope ["self", "hands"] ["self", "hands"] (defScope s_Each_at_begin) := ⟨rfl, rfl, rfl, by decide +kernel, rfl, by decide +kernel, by decide +kernel⟩
theorem sc_Last_at_begin : FnScope ["self", "hands"] ["self", "hands"] (defScope s_Last_at_begin) := ⟨rfl, rfl, rfl, by decide +kernel, rfl, by decide +kernel, by decide +kernel⟩
theorem sc_First_next_look : FnScope ["self", "looked", "hands"] ["self", "looked", "hands"] (defScope s_First_next_look) := ⟨rfl, rfl, rfl, by decide +kernel, rfl, by decide +kernel, by decide +kernel⟩
theorem sc_Each_next_look : FnScope ["self", "looked", "hands", "hand"] ["self", "looked", "hands"] (defScope s_Each_next_look) := ⟨rfl, rfl, rfl, by decide +kernel, rfl, by decide +kernel, by decide +kernel⟩
theorem sc_Last_next_look : FnScope ["self", "looked", "hands"] ["self", "looked", "hands"] (defScope s_Last_next_look) := ⟨rfl, rfl, rfl, by decide +kernel, rfl, by decide +kernel, by decide +kernel⟩
theorem sc_First_stays : FnScope ["self"] ["self"] (defScope s_First_stays) := ⟨rfl, rfl, rfl, by decide +kernel, rfl, by decide +kernel, by decide +kernel⟩
theorem sc_Each_stays : FnScope ["self"] ["self"] (defScope s_Each_stays) := ⟨rfl, rfl, rfl, by decide +kernel, rfl, by decide +kernel, by decide +kernel⟩
theorem sc_Last_stays : FnScope ["self"] ["self"] (defScope s_Last_stays) := ⟨rfl, rfl, rfl, by decide +kernel, rfl, by decide +kernel, by decide +kernel⟩
theorem okL_at_begin (C : CtxG K mg) (lk : LK) : Ok P w K mg base CX0 1 (dL_at_begin lk) ["self", "hands"] spAtBegin := by
  cases lk with
  | first =>
    refine ok_mk0 C.T.f_First_at_begin sc_First_at_begin (fun vs H Q E h => ?_) (fun fd F => F.bindsN fun _ _ _ _ _ _ us hl => match us, hl with | [_, _], _ => rfl) (fun cdv A outer s H vs Q E hr h => ?_)
    · obtain ⟨x, n, rfl, _⟩ := h
      rfl
    · obtain ⟨x, n, rfl, hn, k⟩ := h
      refine ⟨_, (pss_one (ps_ret (pe_op op_sub (pe_op op_shl pe_int (pv 1)) pe_int))), ?_⟩
      exact ⟨_, rfl, _, _, rfl, rfl, ⟨by omega, by omega, by decide⟩, _, _, rfl, rfl, k _⟩
  | each =>
    refine ok_mk0 C.T.f_Each_at_begin sc_Each_at_begin (fun vs H Q E h => ?_) (fun fd F => F.bindsN fun _ _ _ _ _ _ us hl => match us, hl with | [_, _], _ => rfl) (fun cdv A outer s H vs Q E hr h => ?_)
    · obtain ⟨x, n, rfl, _⟩ := h
      rfl
    · obtain ⟨x, n, rfl, hn, k⟩ := h
      exact ⟨_, (pss_one (ps_ret pe_int)), k _⟩
  | last =>
    refine ok_mk0 C.T.f_Last_at_begin sc_Last_at_begin (fun vs H Q E h => ?_) (fun fd F => F.bindsN fun _ _ _ _ _ _ us hl => match us, hl with | [_, _], _ => rfl) (fun cdv A outer s H vs Q E hr h => ?_)
    · obtain ⟨x, n, rfl, _⟩ := h
      rfl
    · obtain ⟨x, n, rfl, hn, k⟩ := h
      exact ⟨_, (pss_one (ps_ret pe_int)), k _⟩
theorem okL_next_look (C : CtxG K mg) (lk : LK) : Ok P w K mg base CX0 1 (dL_next_look lk) ["self", "looked", "hands"] spNextLook := by
  cases lk with
  | first =>
    refine ok_mk0 C.T.f_First_next_look sc_First_next_look (fun vs H Q E h => ?_) (fun fd F => F.bindsN fun _ _ _ _ _ _ us hl => match us, hl with | [_, _, _], _ => rfl) (fun cdv A outer s H vs Q E hr h => ?_)
    · obtain ⟨x, l, n, rfl, _⟩ := h
      rfl
    · obtain ⟨x, l, n, rfl, hn, k⟩ := h
      exact ⟨_, (pss_one (ps_ret pe_int)), k _⟩
  | each =>
    refine ok_mk0 C.T.f_Each_next_look sc_Each_next_look (fun vs H Q E h => ?_) (fun fd F => F.bindsN fun _ _ _ _ _ _ us hl => match us, hl with | [_, _, _], _ => rfl) (fun cdv A outer s H vs Q E hr h => ?_)
    · obtain ⟨x, l, n, rfl, _⟩ := h
      rfl
    · obtain ⟨x, l, n, rfl, hn, k⟩ := h
      refine ⟨_, (pss_cons (ps_for PassesOwn.never rfl (pi_range1 (by rfl) C.fr_range (pa_cons (pv 2) pa_nil)) (pg_name (i := 3) sc_Each_next_look.nd rfl (Or.inl rfl)) (pss_one (ps_if (pt_cmpR op_eq (pe_op op_and (pe_op op_shr (pv 1) (pv 3)) pe_int) pe_int (nomark _)) (pss_one (ps_ret (pe_op op_shl pe_int (pv 3)))) pss_nil)))
      (pss_one (ps_ret pe_int))), ?_⟩
      refine ⟨_, rfl, _, rfl, by omega, by omega, for_range (fun i σ H' => ∃ v3 : Option V, σ = [some x, some (.int l), some (.int (n : Int)), v3] ∧ H' = H) ⟨none, rfl, rfl⟩ ?_ ?_⟩
      · rintro i σ H' hi ⟨v3, rfl, rfl⟩
        refine ⟨_, rfl, _, rfl, _, _, rfl, rfl, (by omega), _, _, rfl, rfl, rfl, _, rfl, if2 (fun _ => ?_) fun _ => ⟨_, rfl, rfl⟩⟩
        exact ⟨_, rfl, _, _, rfl, rfl, ⟨by omega, by omega, by decide⟩, k _⟩
      · rintro σ H' ⟨v3, rfl, rfl⟩
        exact k _
  | last =>
    refine ok_mk0 C.T.f_Last_next_look sc_Last_next_look (fun vs H Q E h => ?_) (fun fd F => F.bindsN fun _ _ _ _ _ _ us hl => match us, hl with | [_, _, _], _ => rfl) (fun cdv A outer s H vs Q E hr h => ?_)
    · obtain ⟨x, l, n, rfl, _⟩ := h
      rfl
    · obtain ⟨x, l, n, rfl, hn, k⟩ := h
      refine ⟨_, (pss_one (ps_ret (pe_op op_sub (pe_op op_shl pe_int (pv 2)) pe_int))), ?_⟩
      exact ⟨_, rfl, _, _, rfl, rfl, ⟨by omega, by omega, by decide⟩, _, _, rfl, rfl, k _⟩
theorem okL_stays (C : CtxG K mg) (lk : LK) : Ok P w K mg base CX0 1 (dL_stays lk) ["self"] spStaysL := by
  cases lk with
  | first =>
    refine ok_mk0 C.T.f_First_stays sc_First_stays (fun vs H Q E h => ?_) (fun fd F => F.bindsN fun _ _ _ _ _ _ us hl => match us, hl with | [_], _ => rfl) (fun cdv A outer s H vs Q E hr h => ?_)
    · obtain ⟨x, rfl, _⟩ := h
      rfl
    · obtain ⟨x, rfl, k⟩ := h
      exact ⟨_, (pss_one (ps_ret pe_bl)), k _⟩
  | each =>
    refine ok_mk0 C.T.f_Each_stays sc_Each_stays (fun vs H Q E h => ?_) (fun fd F => F.bindsN fun _ _ _ _ _ _ us hl => match us, hl with | [_], _ => rfl) (fun cdv A outer s H vs Q E hr h => ?_)
    · obtain ⟨x, rfl, _⟩ := h
      rfl
    · obtain ⟨x, rfl, k⟩ := h
      exact ⟨_, (pss_one (ps_ret pe_bl)), k _⟩
  | last =>
    refine ok_mk0 C.T.f_Last_stays sc_Last_stays (fun vs H Q E h => ?_) (fun fd F => F.bindsN fun _ _ _ _ _ _ us hl => match us, hl with | [_], _ => rfl) (fun cdv A outer s H vs Q E hr h => ?_)
    · obtain ⟨x, rfl, _⟩ := h
      rfl
    · obtain ⟨x, rfl, k⟩ := h
      exact ⟨_, (pss_one (ps_ret pe_bl)), k _⟩
theorem sc_held : FnScope ["world", "hand"] ["world"] (defScope s_held) := ⟨rfl, rfl, rfl, by decide +kernel, rfl, by decide +kernel, by decide +kernel⟩
theorem ok_held (C : CtxG K mg) : Ok P w K mg base CX0 1 d_held ["world"] (spHeld K) := by
  refine ok_mk0 C.T.f_held sc_held (fun vs H Q E h => ?_) (fun fd F => F.bindsN fun _ _ _ _ _ _ us hl => match us, hl with | [_], _ => rfl) (fun cdv A outer s H vs Q E hr h => ?_)
  · obtain ⟨S, rfl, _⟩ := h
    rfl
  · obtain ⟨S, rfl, R, h5, k⟩ := h
    refine ⟨_, (pss_one (ps_ret (pe_lc (te := tCB (rListOf K) (tCons (tFld K (tVar 1) "slots") tNil)) (own := [("hand", 1)]) rfl sc_held.nd (pi_list (pe_fld (pv 0) rfl)) (blkOk_by (own := [("hand", 1)]) (by show blkC ["world", "hand"] (defScope s_held) _ _ = true; decide +kernel)) (fun _ _ _ _ _ => (pg_name (i := 1) sc_held.nd rfl (Or.inl rfl))) (fun _ _ _ _ _ => pts_nil) (fun _ _ _ _ _ => pe_callTy call_list_of (by rfl) C.fr_list (by decide +kernel) (pa_cons (pe_fld (pv 1) rfl) pa_nil))))), ?_⟩
    refine ⟨_, rfl, R.r_hands C.T ⟨S.hl, rfl, ⟨_, SqL.of R.hl⟩, fun D hD => lc_it (walk_list (K := K) (a := S.hl) (xs := S.hands.map fun d => V.ref d.ha))
      (fun i H' => Same H H' ∧ ∃ ls : List Addr, H' D = some (.lst (ls.map V.ref)) ∧ All2 (fun l r => H l = none ∧ l ≠ D ∧ H' l = some (.lst (r.map plV))) ls (S.heldRows.take i))
      ⟨Same.new hD, [], upd_same, rfl, fun i x y hx => by simp at hx⟩ (fun i H' _ ⟨e, _⟩ => SqL.of (e _ _ R.hl)) ?_ ?_⟩⟩
    · rintro i x H1 H2 hi ⟨e1, ls, hD1, al⟩ ⟨rfl, hx⟩
      rw [List.getElem?_map] at hx
      obtain ⟨d, hd, rfl⟩ := Option.map_eq_some_iff.mp hx
      refine ⟨rfl, ?_⟩
      show tCB (rListOf K) (tCons (tFld K (tVar 1) "slots") tNil) _ _ _
      have R1 := R.same e1
      refine ⟨_, rfl, R1.d_slots C.T hd ⟨d.sa, _, rfl, .inl (SqL.of (R1.hand i d hd).2.1), fun l hl => ?_⟩⟩
      have lD : D ≠ l := ne_of_none hD1 hl
      have hil : i < S.hands.length := (List.getElem?_eq_some_iff.mp hd).1
      have ll : ls.length = i := by
        rw [al.1, List.length_take]
        show min i (S.hands.map _).length = i
        rw [List.length_map]
        omega
      refine ⟨ls.map V.ref, (by rw [upd_ne lD]; exact hD1), (by rw [List.length_map]; exact big_line (by omega)), ?_⟩
      refine ⟨Same.mut (e1.trans (Same.new hl)) hD, ls ++ [l], (by rw [upd_same, List.map_append]; rfl), ?_⟩
      have hr : S.heldRows[i]? = some d.slots := by
        show (S.hands.map _)[i]? = _
        rw [List.getElem?_map, hd]
        rfl
      rw [take_more hr]
      refine All2.snoc (al.mono fun a r z => ⟨z.1, z.2.1, by rw [upd_ne z.2.1, upd_ne (ne_of_none z.2.2 hl)]; exact z.2.2⟩) ⟨e1.free hl, lD.symm, ?_⟩
      rw [upd_ne lD.symm]
      exact upd_same
    · rintro H1 ⟨e1, ls, hD1, al⟩
      have e : S.heldRows.take (S.hands.map fun d => V.ref d.ha).length = S.heldRows := by
        rw [List.length_map]
        exact List.take_of_length_le (by show (S.hands.map _).length ≤ _; rw [List.length_map]; exact Nat.le_refl _)
      rw [e] at al
      exact k H1 D e1 hD ⟨ls, hD1, al⟩
theorem sc_note_hands : FnScope ["world", "bits", "births", "rows", "hand"] ["world", "bits"] (defScope s_note_hands) := ⟨rfl, rfl, rfl, by decide +kernel, rfl, by decide +kernel, by decide +kernel⟩
theorem ok_note_hands (C : CtxG K mg) : Ok P w K mg base CX0 3 d_note_hands ["world", "bits"] (spNoteHands K) := by
  refine ok_mk0 C.T.f_note_hands sc_note_hands (fun vs H Q E h => ?_) (fun fd F => F.bindsN fun _ _ _ _ _ _ us hl => match us, hl with | [_, _], _ => rfl) (fun cdv A outer s H vs Q E hr h => ?_)
  · obtain ⟨lens, N, S, bits, rfl, _⟩ := h
    rfl
  · obtain ⟨lens, N, S, bits, rfl, R, X, k⟩ := h
    refine ⟨_, (pss_cons (ps_set (i := 2) sc_note_hands.nd rfl (Or.inl rfl) (pe_lst pa_nil))
      (pss_cons (ps_set (i := 3) sc_note_hands.nd rfl (Or.inl rfl) (pe_fn (ok_held C) (hr.mono (by decide)) C.g_held (pa_cons (pv 0) pa_nil)))
      (pss_cons (ps_for PassesOwn.never rfl (pi_range1 (by rfl) C.fr_range (pa_cons (pe_callB call_len_seq (by rfl) C.fr_len PySem.boot_len (pa_cons (pv 3) pa_nil)) pa_nil)) (pg_name (i := 4) sc_note_hands.nd rfl (Or.inl rfl)) (pss_one (ps_if (pt_cmpR op_eq (pe_op op_and (pe_op op_shr (pv 1) (pv 4)) pe_int) pe_int (nomark _)) (pss_one (ps_aug (i := 2) sc_note_hands.nd rfl (.inl rfl) (pe_fn (ok_noted C) (hr.mono (by decide)) C.g_noted (pa_cons (pv 0) (pa_cons (pe_ix ix_list (pv 3) (pv 4) (fun _ _ => rfl)) pa_nil))) ip_ext)) pss_nil)))
      (pss_one (ps_ret (pv 2)))))), ?_⟩
    refine ⟨(by decide), fun b hb => ?_⟩
    have R0 := R.same (Same.new (o := .lst []) hb)
    refine ⟨_, rfl, S, rfl, R0.toCore, X.hands5, fun H1 rb e1 hrb rn => ?_⟩
    have ro0 := rn.out R0.toCore hrb
    have G1 : Go K H S H1 S := ((Go.refl R).new hb).same e1
    have ob : Out H1 S b (.lst (([] : List Int).map V.int)) := ⟨e1 _ _ upd_same, R.fresh b hb⟩
    obtain ⟨ls, ⟨o1, al⟩, lsn⟩ := ro0
    have bl : ∀ l ∈ ls, l ≠ b := fun l hl z => by have := lsn l hl; rw [z, upd_same] at this; cases this
    have br : rb ≠ b := fun z => by rw [z, upd_same] at hrb; cases hrb
    have hlen : ls.length = S.hands.length := by rw [al.1]; show (S.hands.map _).length = _; rw [List.length_map]
    refine ⟨_, rfl, _, _, rfl, .inl (SqL.of o1.1), _, rfl, ?_, ?_, for_range (fun i σ H' => ∃ L v4, σ = [some (.ref S.wo), some (.int bits), some (.ref b), some (.ref rb), v4] ∧ FromSlots S L ∧ L.length ≤ 9 * i ∧ Go K H S H' (S.noted L).1 ∧ Out H' (S.noted L).1 b (.lst ((S.noted L).2.map V.int)) ∧ RowsOut H' (S.noted L).1 rb ls S.heldRows)
      ⟨[], none, rfl, (fun x hx => by cases hx), Nat.zero_le _, G1, ob, o1, al⟩ ?_ ?_⟩
    · rw [List.length_map]; omega
    · rw [List.length_map]; have := X.hands5; omega
    · rintro i σ H2 hi ⟨L, v4, rfl, fs, hL, G2, ob2, ro2⟩
      rw [List.length_map, Int.toNat_natCast, hlen] at hi
      refine ⟨_, rfl, _, rfl, _, _, rfl, rfl, (by omega), _, _, rfl, rfl, rfl, _, rfl, if2 (fun _ => ?_) fun _ => ⟨L, _, rfl, fs, by omega, G2, ob2, ro2⟩⟩
      obtain ⟨o2, al2⟩ := id ro2
      have hd : S.hands[i]? = some S.hands[i] := List.getElem?_eq_getElem hi
      generalize S.hands[i] = d at hd
      have hr : S.heldRows[i]? = some d.slots := by
        show (S.hands.map _)[i]? = _
        rw [List.getElem?_map, hd]
        rfl
      obtain ⟨l, hl, ol⟩ := al2.get' hr
      have K1 := noted_like L S
      have X1 := X.like K1
      have ad := K1.addr
      have dm := List.mem_of_getElem? hd
      have h9 := X.slots9 dm
      refine ⟨_, rfl, _, rfl, _, rfl, _, rfl, rdL (SqL.of o2.1) (by rw [List.getElem?_map, Nat.zero_add, hl]; rfl) ?_⟩
      refine ⟨lens, N, (S.noted L).1, l, d.slots, by rw [ad.1]; rfl, G2.rep, X1, fun q e => ?_, by omega, fun L0 H3 G3 => (ol.go G3).1, fun H3 b2 G3 hb2 o3 => ?_⟩
      · obtain ⟨c, hc⟩ := X.slots d dm q e
        rw [K1.len]
        exact cell_lt hc
      have ob3 := ob2.go G3
      have st : S.noted (L ++ d.slots) = (((S.noted L).1.noted d.slots).1, (S.noted L).2 ++ ((S.noted L).1.noted d.slots).2) := noted_append L d.slots S
      have n1 := noted_len L S
      have n2 := noted_len d.slots (S.noted L).1
      refine ⟨b, b2, _, _, rfl, rfl, ob3.1, o3.1, ?_, ?_⟩
      · rw [List.length_map, List.length_map]
        have : (200 : Nat) ≤ sizeLine := by decide
        have := X.hands5
        omega
      · have G4 := (G2.trans G3).mut (o := .lst ((S.noted L).2.map V.int ++ ((S.noted L).1.noted d.slots).2.map V.int)) hb ob3.2
        refine ⟨L ++ d.slots, _, rfl, fun x hx => ?_, by rw [List.length_append]; omega, by rw [st]; exact G4, ?_, ?_⟩
        · rcases List.mem_append.mp hx with h | h
          · exact fs x h
          · exact ⟨d, dm, h⟩
        · rw [st, List.map_append]
          exact ⟨upd_same, ob3.2⟩
        · rw [st]
          exact (ro2.go G3).upd br bl
    · rintro σ H2 ⟨L, v4, rfl, fs, hL, G2, ob2, ro2⟩
      rw [List.length_map, Int.toNat_natCast, hlen] at hL
      exact ⟨_, rfl, k H2 b L fs (by have := X.hands5; omega) G2 hb ob2⟩
end
end G

/-! The sweeper, 2: steps without ways. -/
namespace G
open PySem PySem.Spec PyProof.Rows L2
def spTold (K : PySem.W.Frag) : Sp := fun vs H Q _ => ∃ (S : WS) (a l : Addr) (b : V) (nums : List Int), vs = [.ref S.wo] ∧ Rep K H S ∧ S.loss = .ref a ∧ H a = some (.tup [.str "lost", b, .ref l]) ∧ H l = some (.lst (nums.map V.int)) ∧
  ∀ H' v, Go K H S H' S → EvN H H' S v ⟨"lost", b, nums⟩ → Q v H'
def spBegin (K : PySem.W.Frag) : Sp := fun vs H Q _ => ∃ S : WS, vs = [.ref S.wo] ∧ Rep K H S ∧ S.hands.length ≤ 5 ∧ ∀ H' gl r lk, Go K H S H' (S.begun gl r lk) → Q .non H'
/-- a step of the sweeper, from a phase -/
def spStepAt (K : PySem.W.Frag) (c : WS → Prop) : Sp := fun vs H Q _ => ∃ (lens : List Nat) (N : Nat) (S : WS), vs = [.ref S.wo] ∧ Rep K H S ∧ Wf lens N S ∧ c S ∧ ∀ H' S' e v, Go K H S H' S' → StepR S e S' → EvN H H' S' v e → Q v H'
theorem Wf.begun {lens : List Nat} {N : Nat} {S : WS} (X : Wf lens N S) (gl : Addr) (r : Addr → Role) (lk : Int) : Wf lens N (S.begun gl r lk) :=
  ⟨X.lensOk, X.small, ⟨X.bnd.shape, X.bnd.cells, X.bnd.names, X.bnd.flds⟩, X.slots, X.fields, X.names, fun _ => ⟨List.nodup_nil, fun q hq => by cases hq⟩, (fun h => by cases h), (fun h => by cases h)⟩
theorem go_begun {K : PySem.W.Frag} {H : Hp} {S S' : WS} (R : Rep K H S) {p : Addr} (hp : H p = none) {o : HO} (R' : Rep K (upd (upd H p (.lst [])) S.so o) S') (e : S'.rl = fun b => if b = p then .gl else S.rl b) : Go K H S (upd (upd H p (.lst [])) S.so o) S' := by
  refine ⟨R', fun b u hb hr => ⟨?_, ?_⟩, fun b hb => ?_⟩
  · rw [upd_ne fun z => by have := R.rso; rw [← z, hr] at this; cases this]
    exact Same.new hp b u hb
  · rw [e]
    show (if b = p then Role.gl else S.rl b) = .out
    rw [if_neg (ne_of_none hb hp)]
    exact hr
  · by_cases z : b = S.so
    · rw [z, upd_same] at hb
      cases hb
    · rw [upd_ne z] at hb
      exact (Same.new hp).free hb
section
variable {P : Program} {w : World} {K : PySem.W.Frag} {mg : Str → Option Value} {base : Heap}
theorem sc_Heap_there : FnScope ["self", "place", "cell"] ["self"] (defScope s_Heap_there) := ⟨rfl, rfl, rfl, by decide +kernel, rfl, by decide +kernel, by decide +kernel⟩
theorem ok_Heap_there (C : CtxG K mg) : Ok P w K mg base CX0 1 d_Heap_there ["self"] (spThere K) := by
  refine ok_mk0 C.T.f_Heap_there sc_Heap_there (fun vs H Q E h => ?_) (fun fd F => F.bindsN fun _ _ _ _ _ _ us hl => match us, hl with | [_], _ => rfl) (fun cdv A outer s H vs Q E hr h => ?_)
  · obtain ⟨S, rfl, _⟩ := h
    rfl
  · obtain ⟨S, rfl, R, hn, k⟩ := h
    refine ⟨_, (pss_one (ps_ret (pe_lc (g := gTup K 2 (gCons (gName 1) (gCons (gName 2) gNil))) (own := [("place", 1), ("cell", 2)]) rfl sc_Heap_there.nd (pi_enum (by rfl) C.fr_enumerate (pa_cons (pe_fld (pv 0) rfl) pa_nil)) (blkOk_by (own := [("place", 1), ("cell", 2)]) (by show blkC ["self", "place", "cell"] (defScope s_Heap_there) _ _ = true; decide +kernel)) (fun _ _ _ _ _ => (pg_tup rfl (pgs_cons (pg_name (i := 1) sc_Heap_there.nd rfl (Or.inl rfl)) (pgs_cons (pg_name (i := 2) sc_Heap_there.nd rfl (Or.inl rfl)) pgs_nil)))) (fun _ _ _ _ _ => pts_one (pt_cmp (pc_notN (pv 2)))) (fun _ _ _ _ _ => pv 1)))), ?_⟩
    refine ⟨_, rfl, R.r_cells C.T ⟨S.cl, _, rfl, SqL.of R.cl, fun D hD => lc_it walk_enum
      (fun i H' => Same H H' ∧ H' D = some (.lst (((List.range i).filter fun p => (S.cell p).isSome).map fun (p : Nat) => .int (p : Int))))
      ⟨Same.new hD, upd_same⟩ (fun i H' _ ⟨e, _⟩ => SqL.of (e _ _ R.cl)) ?_ ?_⟩⟩
    · rintro i x H1 H2 hi ⟨e1, hD1⟩ ⟨T, x1, y1, rfl, hT, rfl, hx, hy⟩
      cases hx
      rw [List.length_map] at hi
      have hy : (S.cells.map cellV)[i]? = some y1 := hy
      rw [List.getElem?_map] at hy
      obtain ⟨o, ho, rfl⟩ := Option.map_eq_some_iff.mp hy
      have DT : D ≠ T := ne_of_none hD1 hT
      have e2 : Same H (upd H1 T (.tup [.int (i : Nat), cellV o])) := e1.trans (Same.new hT)
      have hD2 : upd H1 T (.tup [.int (i : Nat), cellV o]) D = some (.lst (((List.range i).filter fun p => (S.cell p).isSome).map fun (p : Nat) => .int (p : Int))) := by rw [upd_ne DT]; exact hD1
      have oc : S.cell i = o := by unfold WS.cell; rw [ho]; rfl
      have hlen : ((List.range i).filter fun p => (S.cell p).isSome).length ≤ i := by
        have := List.length_filter_le (fun p => (S.cell p).isSome) (List.range i)
        rw [List.length_range] at this
        exact this
      refine ⟨T, _, rfl, SqT.of upd_same, rfl, _, _, rfl, _, _, rfl, rfl, rfl, ?_⟩
      rw [List.range_succ, List.filter_append, List.map_append]
      refine ⟨_, rfl, _, rfl, ?_⟩
      cases o with
      | none =>
        refine ifF rfl ⟨e2, ?_⟩
        rw [show [i].filter (fun p => (S.cell p).isSome) = [] by simp [oc]]
        simpa using hD2
      | some c =>
        refine ifT rfl ⟨_, rfl, _, hD2, (by rw [List.length_map]; exact big_line (by omega)), Same.mut e2 hD, ?_⟩
        rw [show [i].filter (fun p => (S.cell p).isSome) = [i] by simp [oc]]
        exact upd_same
    · rintro H1 ⟨e1, hD1⟩
      rw [List.length_map] at hD1
      exact k H1 D e1 hD hD1
theorem sc_Heap_back : FnScope ["self", "place", "cell"] ["self", "place"] (defScope s_Heap_back) := ⟨rfl, rfl, rfl, by decide +kernel, rfl, by decide +kernel, by decide +kernel⟩
theorem ok_Heap_back (C : CtxG K mg) : Ok P w K mg base CX0 2 d_Heap_back ["self", "place"] (spBack K) := by
  refine ok_mk0 C.T.f_Heap_back sc_Heap_back (fun vs H Q E h => ?_) (fun fd F => F.bindsN fun _ _ _ _ _ _ us hl => match us, hl with | [_, _], _ => rfl) (fun cdv A outer s H vs Q E hr h => ?_)
  · obtain ⟨S, p, c, rfl, _⟩ := h
    rfl
  · obtain ⟨S, p, c, rfl, R, hc, k⟩ := h
    refine ⟨_, (pss_cons (ps_set (i := 2) sc_Heap_back.nd rfl (Or.inl rfl) (pe_ix ix_list (pe_fld (pv 0) rfl) (pv 1) (fun _ _ => rfl)))
      (pss_cons (ps_fldaug (pv 0) (pe_mt0 (d := d_Cell_units) (pv 2) C.T.cls_Cell C.T.mt_Cell_units (ok_Cell_units C) (hr.mono (by decide))) in_sub)
      (pss_cons (ps_asg pe_non (pg_sub (pe_fld (pv 0) rfl) (pv 1) set_list))
      (pss_one (ps_ret (pe_fld (pv 2) rfl)))))), ?_⟩
    refine ⟨_, rfl, R.r_cells C.T ⟨_, rfl, R.ix_cell hc ?_⟩⟩
    obtain ⟨dh, hho⟩ := R.ho
    obtain ⟨⟨dx, h1⟩, h2, _⟩ := R.cell p c hc
    refine ⟨_, rfl, S.ho, _, dh, _, _, rfl, hho, C.T.cls_Heap, C.T.na_Heap_used, rfl, _, rfl, c.ca, dx, _, rfl, h1, rfl, c, dx, rfl, h1, h2, _, _, rfl, rfl, dh, _, hho, (by show 4 < 1000; decide), ?_⟩
    have R1 := R.heapN (S.used - (1 + (c.fields.length : Int) + c.bulk)) S.born (dx := dh)
    have G1 := go_upd R (by rw [R.rho]; decide) R1 rfl
    refine ⟨_, rfl, R1.r_cells C.T ⟨_, rfl, S.cl, _, _, p, rfl, rfl, R1.cl, ixN_nat (by rw [List.length_map]; exact cell_lt hc), ?_⟩⟩
    have R2 := R1.back p
    have G2 := go_upd R1 (by rw [R1.rcl]; decide) R2 rfl
    rw [List.map_set] at G2 R2
    have h1' := R1.cell p c hc
    obtain ⟨⟨dx1, h1'⟩, _, rc, _⟩ := h1'
    refine ⟨_, rfl, rdF (dx := dx1) (fs := cellF c) ?_ C.T.cls_Cell C.T.na_Cell_birth rfl (k _ _ (G1.trans G2))⟩
    exact (R1.role R1.rcl rc (by intro z; cases z)).trans h1'
theorem sc_told_loss : FnScope ["world", "word", "birth", "way"] ["world"] (defScope s_told_loss) := ⟨rfl, rfl, rfl, by decide +kernel, rfl, by decide +kernel, by decide +kernel⟩
theorem ok_told_loss (C : CtxG K mg) : Ok P w K mg base CX0 1 d_told_loss ["world"] (spTold K) := by
  refine ok_mk0 C.T.f_told_loss sc_told_loss (fun vs H Q E h => ?_) (fun fd F => F.bindsN fun _ _ _ _ _ _ us hl => match us, hl with | [_], _ => rfl) (fun cdv A outer s H vs Q E hr h => ?_)
  · obtain ⟨S, a, l, b, nums, rfl, _⟩ := h
    rfl
  · obtain ⟨S, a, l, b, nums, rfl, R, hs, ha, hl, k⟩ := h
    refine ⟨_, (pss_cons (ps_asg (pe_fld (pe_fld (pv 0) rfl) rfl) (pg_tup rfl (pgs_cons (pg_name (i := 1) sc_told_loss.nd rfl (Or.inl rfl)) (pgs_cons (pg_name (i := 2) sc_told_loss.nd rfl (Or.inl rfl)) (pgs_cons (pg_name (i := 3) sc_told_loss.nd rfl (Or.inl rfl)) pgs_nil)))))
      (pss_one (ps_ret (pe_tup (pa_cons (pv 1) (pa_cons (pv 2) (pa_cons (pe_callTy call_list_of (by rfl) C.fr_list (by decide +kernel) (pa_cons (pv 3) pa_nil)) pa_nil))))))), ?_⟩
    refine ⟨_, rfl, R.r_sweeper C.T (R.r_loss C.T ?_)⟩
    rw [hs]
    refine ⟨a, _, rfl, SqT.of ha, rfl, _, _, rfl, _, _, rfl, _, _, rfl, rfl, ?_⟩
    refine ⟨_, rfl, _, rfl, _, rfl, l, _, rfl, .inl (SqL.of hl), fun m hm => ⟨(by show 3 ≤ sizeLine; decide), fun t ht => ?_⟩⟩
    obtain ⟨G4, ev⟩ := ev_new (nums := nums) (Go.refl R) hm ht
    exact k _ _ G4 ev
theorem sc_begin : FnScope ["world", "sweeper"] ["world"] (defScope s_begin) := ⟨rfl, rfl, rfl, by decide +kernel, rfl, by decide +kernel, by decide +kernel⟩
theorem ok_begin (C : CtxG K mg) : Ok P w K mg base CX0 2 d_begin ["world"] (spBegin K) := by
  refine ok_mk0 C.T.f_begin sc_begin (fun vs H Q E h => ?_) (fun fd F => F.bindsN fun _ _ _ _ _ _ us hl => match us, hl with | [_], _ => rfl) (fun cdv A outer s H vs Q E hr h => ?_)
  · obtain ⟨S, rfl, _⟩ := h
    rfl
  · obtain ⟨S, rfl, R, h5, k⟩ := h
    obtain ⟨lk, hlk⟩ : ∃ lk, S.lk = lk := ⟨_, rfl⟩
    refine ⟨_, (pss_cons (ps_set (i := 1) sc_begin.nd rfl (Or.inl rfl) (pe_fld (pv 0) rfl))
      (pss_cons (ps_fld (pv 1) (pe_op op_sub pe_int (pe_fld (pv 1) rfl)) rfl)
      (pss_cons (ps_fldaug (pv 1) pe_int in_add)
      (pss_cons (ps_fld (pv 1) pe_str rfl)
      (pss_cons (ps_fld (pv 1) (pe_lst pa_nil) rfl)
      (pss_cons (ps_fld (pv 1) (pe_mt (d := dL_at_begin lk) (pe_fld (pe_fld (pv 0) rfl) rfl) (clsL C lk) (mtL_at_begin C lk) (okL_at_begin C lk) (hr.mono (by decide)) (pa_cons (pe_callB call_len_seq (by rfl) C.fr_len PySem.boot_len (pa_cons (pe_fld (pv 0) rfl) pa_nil)) pa_nil)) rfl)
      (pss_cons (ps_fld (pv 1) pe_int rfl)
      (pss_cons (ps_fld (pv 1) pe_int rfl)
      (pss_one (ps_fld (pv 1) pe_int rfl)))))))))), ?_⟩
    refine ⟨_, rfl, R.r_sweeper C.T ?_⟩
    obtain ⟨ds, hso⟩ := R.so
    refine ⟨_, rfl, R.r_sense C.T ⟨_, _, rfl, rfl, _, rfl, S.so, _, ds, _, rfl, hso, C.T.cls_Sweeper, C.T.na_Sweeper_sense, (by show 11 < 1000; decide), ?_⟩⟩
    generalize hE : upd H S.so _ = H1
    have R1 : Rep K H1 ({ S with sense := 1 - S.sense } : WS) := by rw [← hE]; exact R.sw (a := 1 - S.sense) (p := S.phase) (b := S.looked) (c := S.turn) (i := S.at_) (j := S.stop) (d := S.walks) (k := S.looks) (l := S.passes) (v := S.loss) (m := 0)
    have G1 : Go K H S H1 ({ S with sense := 1 - S.sense } : WS) := by rw [← hE] at R1 ⊢; exact go_upd R (by rw [R.rso]; decide) R1 rfl
    clear hE hso
    obtain ⟨ds, hso⟩ := R1.so
    refine ⟨_, rfl, S.so, _, ds, _, _, rfl, hso, C.T.cls_Sweeper, C.T.na_Sweeper_turn, rfl, _, _, rfl, rfl, ds, _, hso, (by show 11 < 1000; decide), ?_⟩
    generalize hE : upd H1 S.so _ = H2
    have R2 : Rep K H2 ({ S with sense := 1 - S.sense, turn := S.turn + 1 } : WS) := by rw [← hE]; exact R1.sw (a := 1 - S.sense) (p := S.phase) (b := S.looked) (c := S.turn + 1) (i := S.at_) (j := S.stop) (d := S.walks) (k := S.looks) (l := S.passes) (v := S.loss) (m := 0)
    have G2 : Go K H S H2 ({ S with sense := 1 - S.sense, turn := S.turn + 1 } : WS) := G1.trans (by rw [← hE] at R2 ⊢; exact go_upd R1 (by rw [R1.rso]; decide) R2 rfl)
    clear hE hso
    obtain ⟨ds, hso⟩ := R2.so
    refine ⟨_, rfl, S.so, _, ds, _, rfl, hso, C.T.cls_Sweeper, C.T.na_Sweeper_phase, (by show 11 < 1000; decide), ?_⟩
    generalize hE : upd H2 S.so _ = H3
    have R3 : Rep K H3 ({ S with sense := 1 - S.sense, turn := S.turn + 1, phase := .walk } : WS) := by rw [← hE]; exact R2.sw (a := 1 - S.sense) (p := .walk) (b := S.looked) (c := S.turn + 1) (i := S.at_) (j := S.stop) (d := S.walks) (k := S.looks) (l := S.passes) (v := S.loss) (m := 0)
    have G3 : Go K H S H3 ({ S with sense := 1 - S.sense, turn := S.turn + 1, phase := .walk } : WS) := G2.trans (by rw [← hE] at R3 ⊢; exact go_upd R2 (by rw [R2.rso]; decide) R3 rfl)
    clear hE hso
    refine ⟨(by decide), fun p hp => ?_⟩
    have rp := R3.fresh p hp
    obtain ⟨ds, hso⟩ := R3.so
    have hso4 : upd H3 p (.lst []) S.so = some (.ins (He.ga K "Sweeper") ds (sweepF { S with sense := 1 - S.sense, turn := S.turn + 1, phase := .walk })) := Same.new hp _ _ hso
    refine ⟨_, rfl, S.so, _, ds, _, rfl, hso4, C.T.cls_Sweeper, C.T.na_Sweeper_grey, (by show 11 < 1000; decide), ?_⟩
    generalize hE : upd (upd H3 p (.lst [])) S.so _ = H4
    have R4 : Rep K H4 ({ S with sense := 1 - S.sense, turn := S.turn + 1, phase := .walk, grey := [], gl := p, rl := fun b => if b = p then .gl else S.rl b } : WS) := by
      rw [← hE]
      exact (R3.same (Same.new (o := .lst []) hp)).begun upd_same rp (1 - S.sense) S.looked (S.turn + 1) S.walks S.looks S.passes .walk S.at_ S.stop S.loss (dx := ds) rfl
    have G4 := G3.trans (by rw [← hE] at R4 ⊢; exact go_begun R3 hp R4 rfl : Go K H3 _ H4 _)
    clear hE hso hso4
    obtain ⟨d4, hlo⟩ := R4.lo
    refine ⟨_, rfl, R4.r_kind C.T (R4.r_looking C.T ⟨S.lo, d4, _, rfl, hlk ▸ hlo, rfl, _, rfl, R4.r_hands C.T ⟨S.hl, _, rfl, .inl (SqL.of R4.hl), .ref S.lo, S.hands.length, ?_, h5, fun b => ?_⟩⟩)⟩
    · rw [List.length_map]
      rfl
    obtain ⟨ds, hso⟩ := R4.so
    refine ⟨_, rfl, S.so, _, ds, _, rfl, hso, C.T.cls_Sweeper, C.T.na_Sweeper_looked, (by show 11 < 1000; decide), ?_⟩
    generalize hE : upd H4 S.so _ = H5
    have R5 : Rep K H5 ({ S with sense := 1 - S.sense, turn := S.turn + 1, phase := .walk, grey := [], gl := p, rl := fun b => if b = p then .gl else S.rl b, looked := b } : WS) := by rw [← hE]; exact R4.sw (a := 1 - S.sense) (p := .walk) (b := b) (c := S.turn + 1) (i := S.at_) (j := S.stop) (d := S.walks) (k := S.looks) (l := S.passes) (v := S.loss) (m := 0)
    have G5 := G4.trans (by rw [← hE] at R5 ⊢; exact go_upd R4 (by rw [R4.rso]; decide) R5 rfl : Go K H4 _ H5 _)
    clear hE hso
    obtain ⟨ds, hso⟩ := R5.so
    refine ⟨_, rfl, S.so, _, ds, _, rfl, hso, C.T.cls_Sweeper, C.T.na_Sweeper_walks, (by show 11 < 1000; decide), ?_⟩
    generalize hE : upd H5 S.so _ = H6
    have R6 : Rep K H6 ({ S with sense := 1 - S.sense, turn := S.turn + 1, phase := .walk, grey := [], gl := p, rl := fun b => if b = p then .gl else S.rl b, looked := b, walks := 0 } : WS) := by rw [← hE]; exact R5.sw (a := 1 - S.sense) (p := .walk) (b := b) (c := S.turn + 1) (i := S.at_) (j := S.stop) (d := 0) (k := S.looks) (l := S.passes) (v := S.loss) (m := 0)
    have G6 := G5.trans (by rw [← hE] at R6 ⊢; exact go_upd R5 (by rw [R5.rso]; decide) R6 rfl : Go K H5 _ H6 _)
    clear hE hso
    obtain ⟨ds, hso⟩ := R6.so
    refine ⟨_, rfl, S.so, _, ds, _, rfl, hso, C.T.cls_Sweeper, C.T.na_Sweeper_looks, (by show 11 < 1000; decide), ?_⟩
    generalize hE : upd H6 S.so _ = H7
    have R7 : Rep K H7 ({ S with sense := 1 - S.sense, turn := S.turn + 1, phase := .walk, grey := [], gl := p, rl := fun b => if b = p then .gl else S.rl b, looked := b, walks := 0, looks := 0 } : WS) := by rw [← hE]; exact R6.sw (a := 1 - S.sense) (p := .walk) (b := b) (c := S.turn + 1) (i := S.at_) (j := S.stop) (d := 0) (k := 0) (l := S.passes) (v := S.loss) (m := 0)
    have G7 := G6.trans (by rw [← hE] at R7 ⊢; exact go_upd R6 (by rw [R6.rso]; decide) R7 rfl : Go K H6 _ H7 _)
    clear hE hso
    obtain ⟨ds, hso⟩ := R7.so
    refine ⟨_, rfl, S.so, _, ds, _, rfl, hso, C.T.cls_Sweeper, C.T.na_Sweeper_passes, (by show 11 < 1000; decide), ?_⟩
    generalize hE : upd H7 S.so _ = H8
    have R8 : Rep K H8 ({ S with sense := 1 - S.sense, turn := S.turn + 1, phase := .walk, grey := [], gl := p, rl := fun b => if b = p then .gl else S.rl b, looked := b, walks := 0, looks := 0, passes := 0 } : WS) := by rw [← hE]; exact R7.sw (a := 1 - S.sense) (p := .walk) (b := b) (c := S.turn + 1) (i := S.at_) (j := S.stop) (d := 0) (k := 0) (l := 0) (v := S.loss) (m := 0)
    have G8 := G7.trans (by rw [← hE] at R8 ⊢; exact go_upd R7 (by rw [R7.rso]; decide) R8 rfl : Go K H7 _ H8 _)
    clear hE hso
    exact k _ p _ b G8
end
end G

/-! The sweeper, 2: steps without ways. -/
namespace G
open PySem PySem.Spec PyProof.Rows L2
section
variable {P : Program} {w : World} {K : PySem.W.Frag} {mg : Str → Option Value} {base : Heap}
theorem sc_begin_round : FnScope ["world", "sweeper"] ["world"] (defScope s_begin_round) := ⟨rfl, rfl, rfl, by decide +kernel, rfl, by decide +kernel, by decide +kernel⟩
theorem ok_begin_round (C : CtxG K mg) : Ok P w K mg base CX0 4 d_begin_round ["world"] (spStepAt K fun S => S.phase = .rest) := by
  refine ok_mk0 C.T.f_begin_round sc_begin_round (fun vs H Q E h => ?_) (fun fd F => F.bindsN fun _ _ _ _ _ _ us hl => match us, hl with | [_], _ => rfl) (fun cdv A outer s H vs Q E hr h => ?_)
  · obtain ⟨lens, N, S, rfl, _⟩ := h
    rfl
  · obtain ⟨lens, N, S, rfl, R, X, hp, k⟩ := h
    refine ⟨_, (pss_cons (ps_expr (pe_fn (ok_begin C) (hr.mono (by decide)) C.g_begin (pa_cons (pv 0) pa_nil)))
      (pss_cons (ps_set (i := 1) sc_begin_round.nd rfl (Or.inl rfl) (pe_fld (pv 0) rfl))
      (pss_one (ps_ret (pe_tup (pa_cons pe_str (pa_cons (pe_fld (pv 1) rfl) (pa_cons (pe_fn (ok_note_hands C) (hr.mono (by decide)) C.g_note_hands (pa_cons (pv 0) (pa_cons (pe_fld (pv 1) rfl) pa_nil))) pa_nil)))))))), ?_⟩
    refine ⟨_, rfl, S, rfl, R, X.hands5, fun H1 gl r lk G1 => ?_⟩
    have R1 := G1.rep
    have X1 := X.begun gl r lk
    refine ⟨_, rfl, R1.r_sweeper C.T ?_⟩
    refine ⟨_, rfl, R1.r_turn C.T ⟨_, rfl, _, rfl, R1.r_looked C.T ⟨lens, N, S.begun gl r lk, _, rfl, R1, X1, fun H2 b L fs hL G2 hb o1 => ?_⟩⟩⟩
    refine ⟨(by show 3 ≤ sizeLine; decide), fun t ht => ?_⟩
    obtain ⟨G4, ev⟩ := ev_old (G1.trans G2) (G1.free b hb) o1 ht
    exact k _ _ _ _ G4 (.begin hp fs) ev
theorem sc_walk_one : FnScope ["world", "sweeper", "cell"] ["world"] (defScope s_walk_one) := ⟨rfl, rfl, rfl, by decide +kernel, rfl, by decide +kernel, by decide +kernel⟩
theorem ok_walk_one (C : CtxG K mg) : Ok P w K mg base CX0 3 d_walk_one ["world"] (spStepAt K fun S => S.phase = .walk ∧ S.grey ≠ []) := by
  refine ok_mk0 C.T.f_walk_one sc_walk_one (fun vs H Q E h => ?_) (fun fd F => F.bindsN fun _ _ _ _ _ _ us hl => match us, hl with | [_], _ => rfl) (fun cdv A outer s H vs Q E hr h => ?_)
  · obtain ⟨lens, N, S, rfl, _⟩ := h
    rfl
  · obtain ⟨lens, N, S, rfl, R, X, ⟨hw, hg⟩, k⟩ := h
    refine ⟨_, (pss_cons (ps_set (i := 1) sc_walk_one.nd rfl (Or.inl rfl) (pe_fld (pv 0) rfl))
      (pss_cons (ps_set (i := 2) sc_walk_one.nd rfl (Or.inl rfl) (pe_ix ix_list (pe_fld (pe_fld (pv 0) rfl) rfl) (pe_bm PySem.F.plainAttrs_list PySem.F.slot_list_pop PySem.F.type_list_pop mt_popAt (pe_fld (pv 1) rfl) (pa_cons pe_int pa_nil)) (fun _ _ => rfl)))
      (pss_cons (ps_fldaug (pv 1) pe_int in_add)
      (pss_one (ps_ret (pe_tup (pa_cons pe_str (pa_cons (pe_fld (pv 2) rfl) (pa_cons (pe_fn (ok_noted C) (hr.mono (by decide)) C.g_noted (pa_cons (pv 0) (pa_cons (pe_fld (pv 2) rfl) pa_nil))) pa_nil))))))))), ?_⟩
    obtain ⟨p, g, eg⟩ := List.exists_cons_of_ne_nil hg
    obtain ⟨nd, gok⟩ := X.grey hw
    obtain ⟨c, hc, ht⟩ := gok p (by rw [eg]; exact List.mem_cons_self)
    refine ⟨_, rfl, R.r_sweeper C.T ?_⟩
    refine ⟨_, rfl, R.r_heap C.T (R.r_cells C.T ⟨_, rfl, R.r_grey C.T ⟨.inl ⟨rfl, _, SqL.of R.gl⟩, ?_⟩⟩)⟩
    have R1 := R.grey g
    have G1 := go_upd R (by rw [R.rgl]; decide) R1 rfl
    have eg2 : S.grey.map (fun (p : Nat) => V.int (p : Int)) = V.int (p : Int) :: g.map (fun (p : Nat) => V.int (p : Int)) := by rw [eg]; rfl
    have hgl := R.gl
    rw [eg2] at hgl
    refine ⟨S.gl, _, 0, 0, _, rfl, rfl, hgl, by decide, by decide, by simp [seqIndex?], rfl, ?_⟩
    refine R1.ix_cell hc ?_
    obtain ⟨ds, hso⟩ := R1.so
    refine ⟨_, rfl, S.so, _, ds, _, _, rfl, hso, C.T.cls_Sweeper, C.T.na_Sweeper_walks, rfl, _, _, rfl, rfl, ds, _, hso, (by show 11 < 1000; decide), ?_⟩
    have R2 := R1.sw (a := S.sense) (p := S.phase) (b := S.looked) (c := S.turn) (i := S.at_) (j := S.stop) (d := S.walks + 1) (k := S.looks) (l := S.passes) (v := S.loss) (m := 0) (dx := ds)
    have G2 := G1.trans (go_upd R1 (by rw [R1.rso]; decide) R2 rfl)
    have X2 : Wf lens N ({ S with grey := g, walks := S.walks + 1 } : WS) := ⟨X.lensOk, X.small, ⟨X.bnd.shape, X.bnd.cells, X.bnd.names, X.bnd.flds⟩, X.slots, X.fields, X.names, fun _ => ⟨by rw [eg] at nd; exact (List.nodup_cons.mp nd).2, fun q hq => gok q (by rw [eg]; exact List.mem_cons_of_mem _ hq)⟩, X.give, X.lost⟩
    have R2 : Rep K _ ({ S with grey := g, walks := S.walks + 1 } : WS) := R2
    refine ⟨_, rfl, R2.c_birth C.T hc ⟨_, rfl, _, rfl, R2.c_fields C.T hc ⟨lens, N, ({ S with grey := g, walks := S.walks + 1 } : WS), c.fa, c.fields, rfl, R2, X2, fun q hq => X.fields p c hc q hq, by have := X.bnd.flds p c hc; omega, fun L0 H3 G3 => ?_, fun H3 b G3 hb o1 => ?_⟩⟩⟩
    · obtain ⟨c1, hc1, s1, s2, s3, s4, s5⟩ := noted_cell (S := ({ S with grey := g, walks := S.walks + 1 } : WS)) L0 hc
      have := (G3.rep.cell p c1 hc1).2.1
      rw [s2, s3] at this
      exact this
    refine ⟨(by show 3 ≤ sizeLine; decide), fun t ht => ?_⟩
    obtain ⟨G4, ev⟩ := ev_old (G2.trans G3) (G2.free b hb) o1 ht
    exact k _ _ _ _ G4 (.walk hw eg hc) ev
theorem sc_give_back : FnScope ["world", "sweeper", "heap", "place", "cell"] ["world"] (defScope s_give_back) := ⟨rfl, rfl, rfl, by decide +kernel, rfl, by decide +kernel, by decide +kernel⟩
theorem ok_give_back (C : CtxG K mg) : Ok P w K mg base CX0 3 d_give_back ["world"] (spStepAt K fun S => S.phase = .give) := by
  refine ok_mk0 C.T.f_give_back sc_give_back (fun vs H Q E h => ?_) (fun fd F => F.bindsN fun _ _ _ _ _ _ us hl => match us, hl with | [_], _ => rfl) (fun cdv A outer s H vs Q E hr h => ?_)
  · obtain ⟨lens, N, S, rfl, _⟩ := h
    rfl
  · obtain ⟨lens, N, S, rfl, R, X, hg, k⟩ := h
    refine ⟨_, (pss_cons (ps_set (i := 1) sc_give_back.nd rfl (Or.inl rfl) (pe_fld (pv 0) rfl))
      (pss_cons (ps_set (i := 2) sc_give_back.nd rfl (Or.inl rfl) (pe_fld (pv 0) rfl))
      (pss_cons (ps_set (i := 3) sc_give_back.nd rfl (Or.inl rfl) (pe_fld (pv 1) rfl))
      (pss_cons (ps_if (pt_cmpR op_eq (pv 3) (pe_fld (pv 1) rfl) (nomark _)) (pss_cons (ps_fld (pv 1) pe_str rfl)
      (pss_one (ps_ret (pe_tup (pa_cons pe_str (pa_cons (pe_fld (pv 1) rfl) (pa_cons (pe_lst (pa_cons (pe_fld (pv 1) rfl) (pa_cons (pe_fld (pv 1) rfl) (pa_cons (pe_fld (pv 1) rfl) pa_nil)))) pa_nil))))))) pss_nil)
      (pss_cons (ps_fldaug (pv 1) pe_int in_add)
      (pss_cons (ps_fldaug (pv 1) pe_int in_add)
      (pss_cons (ps_set (i := 4) sc_give_back.nd rfl (Or.inl rfl) (pe_ix ix_list (pe_fld (pv 2) rfl) (pv 3) (fun _ _ => rfl)))
      (pss_cons (ps_if (PW.pt (pw_and (pt_cmp (pc_notN (pv 4))) (pw_and1 (pt_cmpR op_ne (pe_fld (pv 4) rfl) (pe_fld (pv 1) rfl) (nomark _))))) (pss_one (ps_ret (pe_tup (pa_cons pe_str (pa_cons (pe_mt (d := d_Heap_back) (pv 2) C.T.cls_Heap C.T.mt_Heap_back (ok_Heap_back C) (hr.mono (by decide)) (pa_cons (pv 3) pa_nil)) (pa_cons (pe_lst (pa_cons (pv 3) pa_nil)) pa_nil)))))) pss_nil)
      (pss_one (ps_ret (pe_tup (pa_cons pe_str (pa_cons (pv 3) (pa_cons (pe_lst pa_nil) pa_nil)))))))))))))), ?_⟩
    obtain ⟨g1, g2⟩ := X.give hg
    obtain ⟨ds, hso⟩ := R.so
    refine ⟨_, rfl, R.r_sweeper C.T ⟨_, rfl, R.r_heap C.T ⟨_, rfl, R.r_at C.T ?_⟩⟩⟩
    refine ⟨_, rfl, _, rfl, R.r_stop C.T ⟨rfl, _, rfl, if2 (fun z => ?_) fun z => ?_⟩⟩
    · have e : S.at_ = S.stop := by have := V.int.inj (of_decide_eq_true z); omega
      refine ⟨_, rfl, S.so, _, ds, _, rfl, hso, C.T.cls_Sweeper, C.T.na_Sweeper_phase, (by show 11 < 1000; decide), ?_⟩
      have R1 := R.sw (a := S.sense) (p := .rest) (b := S.looked) (c := S.turn) (i := S.at_) (j := S.stop) (d := S.walks) (k := S.looks) (l := S.passes) (v := S.loss) (m := 0) (dx := ds)
      have G1 := go_upd R (by rw [R.rso]; decide) R1 rfl
      refine ⟨_, rfl, R1.r_turn C.T ⟨_, rfl, R1.r_walks C.T ⟨_, rfl, R1.r_looks C.T ⟨_, rfl, R1.r_passes C.T ⟨(by show 3 ≤ sizeLine; decide), fun l hl => ⟨(by show 3 ≤ sizeLine; decide), fun t ht => ?_⟩⟩⟩⟩⟩⟩
      obtain ⟨G4, ev⟩ := ev_new (nums := [S.walks, S.looks, S.passes]) G1 hl ht
      exact k _ _ _ _ G4 (.fin hg e) ev
    · have e : S.at_ ≠ S.stop := fun q => of_decide_eq_false z (by rw [q])
      have hat : S.at_ < S.cells.length := by omega
      refine ⟨_, rfl, S.so, _, ds, _, _, rfl, hso, C.T.cls_Sweeper, C.T.na_Sweeper_at, rfl, _, _, rfl, rfl, ds, _, hso, (by show 11 < 1000; decide), ?_⟩
      have R1 := R.sw (a := S.sense) (p := S.phase) (b := S.looked) (c := S.turn) (i := S.at_ + 1) (j := S.stop) (d := S.walks) (k := S.looks) (l := S.passes) (v := S.loss) (m := 0) (dx := ds)
      have G1 := go_upd R (by rw [R.rso]; decide) R1 rfl
      refine ⟨_, rfl, S.so, _, ds, _, _, rfl, upd_same, C.T.cls_Sweeper, C.T.na_Sweeper_passes, rfl, _, _, rfl, rfl, ds, _, upd_same, (by show 11 < 1000; decide), ?_⟩
      have R2 := R1.sw (a := S.sense) (p := S.phase) (b := S.looked) (c := S.turn) (i := S.at_ + 1) (j := S.stop) (d := S.walks) (k := S.looks) (l := S.passes + 1) (v := S.loss) (m := 0) (dx := ds)
      have G2 := G1.trans (go_upd R1 (by rw [R1.rso]; decide) R2 rfl)
      have R2 : Rep K _ ({ S with at_ := S.at_ + 1, passes := S.passes + 1 } : WS) := R2
      refine ⟨_, rfl, R2.r_cells C.T ⟨_, rfl, R2.ix_cells (p := S.at_) hat ?_⟩⟩
      have pass : (∀ c, S.cell S.at_ = some c → c.tone = S.sense) → ∀ H1, Go K H S H1 ({ S with at_ := S.at_ + 1, passes := S.passes + 1 } : WS) → ∀ l t, H1 l = none → upd H1 l (.lst []) t = none → Q (.ref t) (upd (upd H1 l (.lst [])) t (.tup [.str "pass", .int (S.at_ : Int), .ref l])) := fun hc H1 G3 l t hl ht => by
        obtain ⟨G4, ev⟩ := ev_new (nums := []) G3 hl ht
        exact k _ _ _ _ G4 (.pass hg e hc) ev
      have ec : WS.cell ({ S with at_ := S.at_ + 1, passes := S.passes + 1 } : WS) S.at_ = S.cell S.at_ := rfl
      rw [ec]
      refine ⟨_, rfl, ?_⟩
      cases hc : S.cell S.at_ with
      | none =>
        refine ⟨_, rfl, ifF rfl (ifF rfl ?_)⟩
        exact ⟨_, rfl, (by decide), fun l hl => ⟨(by show 3 ≤ sizeLine; decide), fun t ht => pass (fun c h => by rw [hc] at h; cases h) _ G2 l t hl ht⟩⟩
      | some c =>
        refine ⟨_, rfl, ifT rfl ⟨_, rfl, R2.c_tone C.T hc ⟨_, rfl, R2.r_sense C.T ⟨rfl, _, rfl, if2 (fun z => ?_) fun z => ?_⟩⟩⟩⟩
        · have ht : c.tone ≠ S.sense := by simpa using z
          obtain ⟨dh, hho⟩ := R2.ho
          refine ⟨_, rfl, S.ho, dh, _, rfl, hho, rfl, _, rfl, ({ S with at_ := S.at_ + 1, passes := S.passes + 1 } : WS), S.at_, c, rfl, R2, hc, fun H3 u G3 => ?_⟩
          refine ⟨_, rfl, (by show 1 ≤ sizeLine; decide), fun l hl => ⟨(by show 3 ≤ sizeLine; decide), fun t ht' => ?_⟩⟩
          obtain ⟨G4, ev⟩ := ev_new (nums := [(S.at_ : Int)]) (G2.trans G3) hl ht'
          exact k _ _ _ _ G4 (.back hg e hc ht) ev
        · have ht : c.tone = S.sense := by simpa using z
          exact ⟨_, rfl, (by decide), fun l hl => ⟨(by show 3 ≤ sizeLine; decide), fun t ht' => pass (fun c' h => by rw [hc] at h; cases h; exact ht) _ G2 l t hl ht'⟩⟩
end
end G

/-! The sweeper, 4: roots, ways. -/
namespace G
open PySem PySem.Spec PyProof.Rows L2
theorem wide_line {n : Nat} (h : n ≤ 1000000) : n < sizeLine := by
  have : (1000000 : Nat) < sizeLine := by decide
  omega
/-- rows of places in the heap -/
def RowsNow (H : Hp) (b : Addr) (rows : List (List (Option Nat))) : Prop := ∃ ls : List Addr, H b = some (.lst (ls.map V.ref)) ∧ All2 (fun l r => H l = some (.lst (r.map plV))) ls rows
theorem RowsNow.same {H H' : Hp} {b : Addr} {rows : List (List (Option Nat))} (h : RowsNow H b rows) (e : Same H H') : RowsNow H' b rows :=
  let ⟨ls, a, c⟩ := h
  ⟨ls, e _ _ a, c.mono fun _ _ z => e _ _ z⟩
theorem Core.no_upd {K : PySem.W.Frag} {H : Hp} {S : WS} (R : Core K H S) {o : HO} : Core K (upd H S.no o) S := by
  have ne : ∀ {a : Addr} {r : Role}, S.rl a = r → r ≠ .no → upd H S.no o a = H a := fun e n => R.role R.rno e n
  refine ⟨?_, ?_, ?_, ?_, ?_, ?_, ?_, ?_, fun i d hd => ?_, fun i d hd => ?_, fun n hn => ?_, R.rwo, R.rho, R.rso, R.rko, R.rlo, R.rhl, R.rcl, R.rgl, R.rno, fun b hb => ?_⟩
  · rw [ne R.rwo (by decide)]; exact R.wo
  · rw [ne R.rho (by decide)]; exact R.ho
  · rw [ne R.rso (by decide)]; exact R.so
  · rw [ne R.rko (by decide)]; exact R.ko
  · rw [ne R.rlo (by decide)]; exact R.lo
  · rw [ne R.rhl (by decide)]; exact R.hl
  · rw [ne R.rcl (by decide)]; exact R.cl
  · rw [ne R.rgl (by decide)]; exact R.gl
  · obtain ⟨a, b, c, d'⟩ := R.hand i d hd
    rw [ne c (by intro z; cases z), ne d' (by intro z; cases z)]
    exact ⟨a, b, c, d'⟩
  · obtain ⟨a, b, c, d'⟩ := R.cell i d hd
    rw [ne c (by intro z; cases z), ne d' (by intro z; cases z)]
    exact ⟨a, b, c, d'⟩
  · obtain ⟨a, b⟩ := R.nm n hn
    rw [ne b (by decide)]
    exact ⟨a, b⟩
  · by_cases e : b = S.no
    · rw [e, upd_same] at hb
      cases hb
    · rw [upd_ne e] at hb
      exact R.fresh b hb
def spRoots (K : PySem.W.Frag) : Sp := fun vs H Q _ => ∃ (lens : List Nat) (N : Nat) (S : WS), vs = [.ref S.wo] ∧ Rep K H S ∧ Wf lens N S ∧ ∀ H' b, Same H H' → RowsNow H' b (S.heldRows ++ [S.nameRow]) → Q (.ref b) H'
/-- a pair of a place and a way to it -/
def PairAt (H : Hp) (S : WS) (m : Nat) (pr : Addr × Nat) : Prop := S.There pr.2 ∧ ∃ (w : Addr) (ns : List Int), H pr.1 = some (.tup [.int (pr.2 : Int), .ref w]) ∧ H w = some (.tup (ns.map V.int)) ∧ ns ≠ [] ∧ ns.length ≤ m
theorem PairAt.same {H H' : Hp} {S : WS} {m : Nat} {pr : Addr × Nat} (h : PairAt H S m pr) (e : Same H H') : PairAt H' S m pr :=
  let ⟨t, w, ns, a, b, c, d⟩ := h
  ⟨t, w, ns, e _ _ a, e _ _ b, c, d⟩
theorem PairAt.mono {H : Hp} {S : WS} {m n : Nat} {pr : Addr × Nat} (h : PairAt H S m pr) (e : m ≤ n) : PairAt H S n pr :=
  let ⟨t, w, ns, a, b, c, d⟩ := h
  ⟨t, w, ns, a, b, c, Nat.le_trans d e⟩
theorem PairAt.mut {H : Hp} {S : WS} {m : Nat} {pr : Addr × Nat} {x : Addr} {o : HO} (h : PairAt H S m pr) (hx : ∀ ys, H x ≠ some (.tup ys)) : PairAt (upd H x o) S m pr :=
  let ⟨t, w, ns, a, b, c, d⟩ := h
  ⟨t, w, ns, by rw [upd_ne fun z => hx _ (z ▸ a)]; exact a, by rw [upd_ne fun z => hx _ (z ▸ b)]; exact b, c, d⟩
def prV (prs : List (Addr × Nat)) : List V := prs.map fun pr => V.ref pr.1
def spWays (K : PySem.W.Frag) : Sp := fun vs H Q _ => ∃ (S : WS) (a t : Addr) (ps : List (Option Nat)) (ns : List Int) (m : Nat), vs = [.ref S.ho, .ref a, .ref t] ∧ Core K H S ∧ H a = some (.lst (ps.map plV)) ∧ H t = some (.tup (ns.map V.int)) ∧ ns ≠ [] ∧ ns.length ≤ m ∧ m ≤ 20000 ∧
  ps.length ≤ 10000 ∧ (∀ q, some q ∈ ps → q < S.cells.length) ∧ ∀ H' b prs, Same H H' → H b = none → H' b = some (.lst (prV prs)) → prs.length ≤ ps.length → (∀ pr ∈ prs, PairAt H' S (m + 1) pr) → (∀ q, some q ∈ ps → S.There q → q ∈ prs.map (·.2)) → Q (.ref b) H'
structure RowsFit (S : WS) (rows : List (List (Option Nat))) : Prop where
  many : rows.length ≤ 6
  each : ∀ r ∈ rows, r.length ≤ 10000
  fit : ∀ r ∈ rows, ∀ q, some q ∈ r → q < S.cells.length
  cells : S.cells.length ≤ 10000
  flds : ∀ p c, S.cell p = some c → c.fields.length ≤ 8
  in_ : ∀ p c, S.cell p = some c → ∀ q, some q ∈ c.fields → q < S.cells.length
def spReached (K : PySem.W.Frag) : Sp := fun vs H Q _ => ∃ (S : WS) (rb : Addr) (rows : List (List (Option Nat))), vs = [.ref S.ho, .ref rb] ∧ Core K H S ∧ RowsNow H rb rows ∧ RowsFit S rows ∧
  ∀ H' b prs m, Same H H' → H' b = some (.lst (prV prs)) → (∀ pr ∈ prs, PairAt H' S m pr) → (∀ q, RchP S rows q → q ∈ prs.map (·.2)) → Q (.ref b) H'
section
variable {P : Program} {w : World} {K : PySem.W.Frag} {mg : Str → Option Value} {base : Heap}
theorem sc_roots : FnScope ["world", "rows", "last", "place", "birth"] ["world"] (defScope s_roots) := ⟨rfl, rfl, rfl, by decide +kernel, rfl, by decide +kernel, by decide +kernel⟩
theorem ok_roots (C : CtxG K mg) : Ok P w K mg base CX0 3 d_roots ["world"] (spRoots K) := by
  refine ok_mk0 C.T.f_roots sc_roots (fun vs H Q E h => ?_) (fun fd F => F.bindsN fun _ _ _ _ _ _ us hl => match us, hl with | [_], _ => rfl) (fun cdv A outer s H vs Q E hr h => ?_)
  · obtain ⟨lens, N, S, rfl, _⟩ := h
    rfl
  · obtain ⟨lens, N, S, rfl, R, X, k⟩ := h
    refine ⟨_, (pss_cons (ps_set (i := 1) sc_roots.nd rfl (Or.inl rfl) (pe_fn (ok_held C) (hr.mono (by decide)) C.g_held (pa_cons (pv 0) pa_nil)))
      (pss_cons (ps_set (i := 2) sc_roots.nd rfl (Or.inl rfl) (pe_lst pa_nil))
      (pss_cons (ps_lock (ps_for PassesOwn.never rfl (pi_values (pe_fld (pv 0) rfl)) (pg_tup rfl (pgs_cons (pg_name (i := 3) sc_roots.nd rfl (Or.inl rfl)) (pgs_cons (pg_name (i := 4) sc_roots.nd rfl (Or.inl rfl)) pgs_nil))) (pss_one (ps_if (pt_val (pe_fn (ok_stays_named C) (hr.mono (by decide)) C.g_stays_named (pa_cons (pv 0) (pa_cons (pv 3) (pa_cons (pv 4) pa_nil))))) (pss_one (ps_expr (pe_bm PySem.F.plainAttrs_list PySem.F.slot_list_append PySem.F.type_list_append mt_append (pv 2) (pa_cons (pv 3) pa_nil)))) (pss_one (ps_expr (pe_bm PySem.F.plainAttrs_list PySem.F.slot_list_append PySem.F.type_list_append mt_append (pv 2) (pa_cons pe_non pa_nil))))))))
      (pss_cons (ps_expr (pe_bm PySem.F.plainAttrs_list PySem.F.slot_list_append PySem.F.type_list_append mt_append (pv 1) (pa_cons (pv 2) pa_nil)))
      (pss_one (ps_ret (pv 1))))))), ?_⟩
    refine ⟨_, rfl, S, rfl, R.toCore, X.hands5, fun H1 rb e1 hrb rn => ?_⟩
    obtain ⟨ls, hr1, al⟩ := rn
    refine ⟨(by decide), fun lb hlb => ?_⟩
    have R2 := (R.same e1).same (Same.new (o := .lst []) hlb)
    have rbl : rb ≠ lb := ne_of_none hr1 hlb
    have rlb : S.rl lb = .out := (R.same e1).fresh lb hlb
    have nlb : S.no ≠ lb := fun z => by have := R.rno; rw [z, rlb] at this; cases this
    have nrb : S.no ≠ rb := fun z => by have := R.rno; rw [z, R.fresh rb hrb] at this; cases this
    refine ⟨S.no, _, R2.no, trivial, fun od => ?_⟩
    refine ⟨_, rfl, R2.toCore.no_upd.r_names C.T ⟨S.no, od, namesK S, rfl, upd_same, for_it walk_values
      (fun i σ H' => ∃ v3 v4 : Option V, σ = [some (.ref S.wo), some (.ref rb), some (.ref lb), v3, v4] ∧ Core K H' S ∧ H' S.no = some (.frz od (.dK (namesK S))) ∧ H' lb = some (.lst ((S.nameRow.take i).map plV)) ∧ ∀ b o, upd H1 lb (.lst []) b = some o → b ≠ S.no → b ≠ lb → H' b = some o)
      ⟨none, none, rfl, R2.toCore.no_upd, upd_same, by rw [upd_ne nlb.symm]; exact upd_same, fun b o h h1 h2 => by rw [upd_ne h1]; exact h⟩ (fun i σ H' _ ⟨_, _, _, _, h, _⟩ => h) ?_ ?_⟩⟩
    · rintro i x σ H2 H3 hi ⟨v3, v4, rfl, R3, hno, hl3, kp⟩ ⟨rfl, key, hx⟩
      have hx : (S.names.map fun n => (Sum.inr n.word, V.ref n.ta))[i]? = some (key, x) := hx
      rw [List.getElem?_map] at hx
      obtain ⟨n, hn, e⟩ := Option.map_eq_some_iff.mp hx
      cases e
      have nm := List.mem_of_getElem? hn
      refine ⟨n.ta, _, rfl, SqT.of (R3.nm n nm).1, rfl, _, _, rfl, _, _, rfl, rfl, ?_⟩
      refine ⟨_, rfl, _, rfl, _, rfl, S, n.place, n.birth, rfl, R3, X.names n nm, ?_⟩
      have hrow : S.nameRow[i]? = some (if S.staysB n.place n.birth = true then some n.place else none) := by
        show (S.names.map _)[i]? = _
        rw [List.getElem?_map, hn]
        rfl
      have hlen : ((S.nameRow.take i).map plV).length < sizeLine := by
        rw [List.length_map, List.length_take]
        have : S.nameRow.length = S.names.length := List.length_map _
        have := X.bnd.names
        have := X.small
        exact big_line (by omega)
      have fin : ∀ v, v = plV (if S.staysB n.place n.birth = true then some n.place else none) → ∃ v3 v4 : Option V, [some (.ref S.wo), some (.ref rb), some (.ref lb), some (.int (n.place : Int)), some (.int n.birth)] = [some (.ref S.wo), some (.ref rb), some (.ref lb), v3, v4] ∧ Core K (upd H3 lb (.lst ((S.nameRow.take i).map plV ++ [v]))) S ∧
          upd H3 lb (.lst ((S.nameRow.take i).map plV ++ [v])) S.no = some (.frz od (.dK (namesK S))) ∧ upd H3 lb (.lst ((S.nameRow.take i).map plV ++ [v])) lb = some (.lst ((S.nameRow.take (i + 1)).map plV)) ∧ ∀ b o, upd H1 lb (.lst []) b = some o → b ≠ S.no → b ≠ lb → upd H3 lb (.lst ((S.nameRow.take i).map plV ++ [v])) b = some o := fun v hv => by
        refine ⟨_, _, rfl, R3.out rlb, by rw [upd_ne nlb]; exact hno, ?_, fun b o h h1 h2 => by rw [upd_ne h2]; exact kp b o h h1 h2⟩
        rw [upd_same, take_more hrow, List.map_append, hv]
        rfl
      refine ⟨_, rfl, if2 (fun z => ?_) fun z => ?_⟩
      · refine ⟨_, rfl, .inl ⟨rfl, _, SqL.of hl3⟩, _, rfl, lb, _, _, rfl, rfl, hl3, hlen, ?_⟩
        exact fin _ (by rw [if_pos z]; rfl)
      · refine ⟨_, rfl, .inl ⟨rfl, _, SqL.of hl3⟩, lb, _, _, rfl, rfl, hl3, hlen, ?_⟩
        exact fin _ (by rw [if_neg (by rw [z]; decide)]; rfl)
    · rintro σ H3 ⟨v3, v4, rfl, R3, hno, hl3, kp⟩
      refine ⟨hno, ?_⟩
      have et : S.nameRow.take (namesK S).length = S.nameRow := List.take_of_length_le (by
        show (S.names.map _).length ≤ (S.names.map _).length
        rw [List.length_map, List.length_map]
        exact Nat.le_refl _)
      rw [et] at hl3
      have hr3 : upd H3 S.no (.dK (namesK S)) rb = some (.lst (ls.map V.ref)) := by
        rw [upd_ne nrb.symm]
        exact kp rb _ (by rw [upd_ne rbl]; exact hr1) nrb.symm rbl
      have hlen : ls.length ≤ 5 := by
        rw [al.1]
        show (S.hands.map _).length ≤ 5
        rw [List.length_map]
        exact X.hands5
      refine ⟨_, rfl, .inl ⟨rfl, _, SqL.of hr3⟩, _, rfl, rb, _, _, rfl, rfl, hr3, (by rw [List.length_map]; exact big_line (by omega)), ?_⟩
      refine ⟨_, rfl, k _ rb (fun b o hb => ?_) ⟨ls ++ [lb], (by rw [upd_same, List.map_append]; rfl), All2.snoc ⟨al.1, fun i l r hl hr => ?_⟩ ?_⟩⟩
      · rw [upd_ne (ne_of_none hb hrb)]
        by_cases e : b = S.no
        · subst e
          rw [upd_same, ← R.no]
          exact hb
        · rw [upd_ne e]
          have hb1 := e1 b o hb
          exact kp b o (by rw [upd_ne (ne_of_none hb1 hlb)]; exact hb1) e (ne_of_none hb1 hlb)
      · obtain ⟨z1, z2, z3⟩ := al.2 i l r hl hr
        have ln : l ≠ S.no := fun z => by have := R.rno; rw [← z, R.fresh l z1] at this; cases this
        rw [upd_ne z2, upd_ne ln]
        exact kp l _ (by rw [upd_ne (ne_of_none z3 hlb)]; exact z3) ln (ne_of_none z3 hlb)
      · rw [upd_ne rbl.symm, upd_ne nlb.symm]
        exact hl3
theorem sc_ways_on : FnScope ["heap", "places", "way", "pairs", "spot", "place"] ["heap", "places", "way"] (defScope s_ways_on) := ⟨rfl, rfl, rfl, by decide +kernel, rfl, by decide +kernel, by decide +kernel⟩
theorem ok_ways_on (C : CtxG K mg) : Ok P w K mg base CX0 2 d_ways_on ["heap", "places", "way"] (spWays K) := by
  refine ok_mk0 C.T.f_ways_on sc_ways_on (fun vs H Q E h => ?_) (fun fd F => F.bindsN fun _ _ _ _ _ _ us hl => match us, hl with | [_, _, _], _ => rfl) (fun cdv A outer s H vs Q E hr h => ?_)
  · obtain ⟨S, a, t, ps, ns, m, rfl, _⟩ := h
    rfl
  · obtain ⟨S, a, t, ps, ns, m, rfl, R, ha, ht, nn, nm, hm, hp, fit, k⟩ := h
    refine ⟨_, (pss_cons (ps_set (i := 3) sc_ways_on.nd rfl (Or.inl rfl) (pe_lst pa_nil))
      (pss_cons (ps_for PassesOwn.never rfl (pi_enum (by rfl) C.fr_enumerate (pa_cons (pv 1) pa_nil)) (pg_tup rfl (pgs_cons (pg_name (i := 4) sc_ways_on.nd rfl (Or.inl rfl)) (pgs_cons (pg_name (i := 5) sc_ways_on.nd rfl (Or.inl rfl)) pgs_nil))) (pss_one (ps_if (pt_cmp (pc_notN (pe_fn (ok_birth_at C) (hr.mono (by decide)) C.g_birth_at (pa_cons (pv 0) (pa_cons (pv 5) pa_nil))))) (pss_one (ps_expr (pe_bm PySem.F.plainAttrs_list PySem.F.slot_list_append PySem.F.type_list_append mt_append (pv 3) (pa_cons (pe_tup (pa_cons (pv 5) (pa_cons (pe_op op_catT (pv 2) (pe_tup (pa_cons (pv 4) pa_nil))) pa_nil))) pa_nil)))) pss_nil)))
      (pss_one (ps_ret (pv 3))))), ?_⟩
    refine ⟨(by decide), fun b hb => ?_⟩
    have e0 : Same H (upd H b (.lst [])) := Same.new hb
    refine ⟨_, rfl, a, _, rfl, SqL.of (e0 _ _ ha), for_it walk_enum (fun i σ H' => ∃ v4 v5 prs, σ = [some (.ref S.ho), some (.ref a), some (.ref t), some (.ref b), v4, v5] ∧ Same H H' ∧ H' b = some (.lst (prV prs)) ∧ prs.length ≤ i ∧ (∀ pr ∈ prs, PairAt H' S (m + 1) pr) ∧ ∀ q, some q ∈ ps.take i → S.There q → q ∈ prs.map (·.2))
      ⟨none, none, [], rfl, e0, upd_same, Nat.le_refl _, (fun pr h => by cases h), (fun q h => by simp at h)⟩ (fun i σ H' _ ⟨_, _, _, _, e, _⟩ => SqL.of (e _ _ ha)) ?_ ?_⟩
    · rintro i x σ H1 H2 hi ⟨v4, v5, prs, rfl, e1, hb1, hl, pa, cov⟩ ⟨T, x1, y1, rfl, hT, rfl, hx, hy⟩
      cases hx
      have hy : (ps.map plV)[i]? = some y1 := hy
      rw [List.getElem?_map] at hy
      obtain ⟨y, hy2, rfl⟩ := Option.map_eq_some_iff.mp hy
      clear hy
      have hy := hy2
      rw [List.length_map] at hi
      have e2 : Same H (upd H1 T (.tup [.int (i : Nat), plV y])) := e1.trans (Same.new hT)
      have eT : Same H1 (upd H1 T (.tup [.int (i : Nat), plV y])) := Same.new hT
      have hb2 := eT _ _ hb1
      have ym := List.mem_of_getElem? hy
      refine ⟨T, _, rfl, SqT.of upd_same, rfl, _, _, rfl, _, _, rfl, rfl, ?_⟩
      refine ⟨_, rfl, _, rfl, S, y, rfl, R.same e2, fun q e => fit q (e ▸ ym), ?_⟩
      have none_case : (∀ q, y = some q → ¬ S.There q) → ∃ v4 v5 prs, [some (.ref S.ho), some (.ref a), some (.ref t), some (.ref b), some (.int (i : Int)), some (plV y)] = [some (.ref S.ho), some (.ref a), some (.ref t), some (.ref b), v4, v5] ∧ Same H (upd H1 T (.tup [.int (i : Nat), plV y])) ∧ upd H1 T (.tup [.int (i : Nat), plV y]) b = some (.lst (prV prs)) ∧ prs.length ≤ i + 1 ∧ (∀ pr ∈ prs, PairAt (upd H1 T (.tup [.int (i : Nat), plV y])) S (m + 1) pr) ∧ ∀ q, some q ∈ ps.take (i + 1) → S.There q → q ∈ prs.map (·.2) := fun hn => by
        refine ⟨_, _, prs, rfl, e2, hb2, by omega, fun pr h => (pa pr h).same eT, fun q hq hth => ?_⟩
        rw [take_more hy] at hq
        rcases List.mem_append.mp hq with h | h
        · exact cov q h hth
        · exact absurd hth (hn q (List.mem_singleton.mp h).symm)
      cases y with
      | none => exact ⟨_, rfl, ifF rfl (none_case fun q e => by cases e)⟩
      | some q =>
        cases hc : S.cell q with
        | none =>
          rw [show S.birthAt (some q) = none by simp [WS.birthAt, hc]]
          exact ⟨_, rfl, ifF rfl (none_case fun q' e hth => by cases e; obtain ⟨c, h⟩ := hth; rw [hc] at h; cases h)⟩
        | some c =>
          rw [show S.birthAt (some q) = some c.birth by simp [WS.birthAt, hc]]
          refine ⟨_, rfl, ifT rfl ?_⟩
          refine ⟨_, rfl, .inl ⟨rfl, _, SqL.of hb2⟩, ?_⟩
          refine ⟨_, rfl, _, rfl, _, rfl, (by show 1 ≤ sizeLine; decide), fun u hu => ?_⟩
          have e3 := e2.trans (Same.new (o := .tup [.int (i : Int)]) hu)
          have eU := eT.trans (Same.new (o := .tup [.int (i : Int)]) hu)
          have hlen : ns.length + 1 < sizeLine := wide_line (by omega)
          refine ⟨t, u, ns.map V.int, [.int (i : Int)], rfl, rfl, SqT.of (e3 _ _ ht), SqT.of upd_same, fun z => nn (List.map_eq_nil_iff.mp z), (by rw [List.length_map]; exact Nat.le_of_lt hlen), (fun z => by cases z), fun _ wy hw => ?_⟩
          refine ⟨(by show 2 ≤ sizeLine; decide), fun pt hpt => ?_⟩
          have eW := eU.trans (Same.new (o := .tup (ns.map V.int ++ [.int (i : Int)])) hw)
          have eP := eW.trans (Same.new (o := .tup [.int (q : Int), .ref wy]) hpt)
          have hb4 := eP _ _ hb1
          refine ⟨b, _, _, rfl, rfl, hb4, (by unfold prV; rw [List.length_map]; exact big_line (by omega)), ?_⟩
          have hnt : ∀ ys, upd (upd (upd (upd H1 T (.tup [.int (i : Nat), plV (some q)])) u (.tup [.int (i : Int)])) wy (.tup (ns.map V.int ++ [.int (i : Int)]))) pt (.tup [.int (q : Int), .ref wy]) b ≠ some (.tup ys) := fun ys z => by
            have := hb4.symm.trans z
            cases this
          refine ⟨_, _, prs ++ [(pt, q)], rfl, Same.mut (e1.trans eP) hb, (by rw [upd_same]; unfold prV; rw [List.map_append]; rfl), by rw [List.length_append]; simp; omega, fun pr hpr => ?_, fun q' hq hth => ?_⟩
          · rcases List.mem_append.mp hpr with h | h
            · exact ((pa pr h).same eP).mut hnt
            · rw [List.mem_singleton.mp h]
              refine PairAt.mut ⟨⟨c, hc⟩, wy, ns ++ [(i : Int)], upd_same, ?_, by simp, by rw [List.length_append]; simp; omega⟩ hnt
              rw [upd_ne (ne_of_none upd_same hpt), upd_same, List.map_append]
              rfl
          · rw [List.map_append]
            rw [take_more hy] at hq
            rcases List.mem_append.mp hq with h | h
            · exact List.mem_append_left _ (cov q' h hth)
            · have := List.mem_singleton.mp h
              cases this
              exact List.mem_append_right _ (by simp)
    · rintro σ H1 ⟨v4, v5, prs, rfl, e1, hb1, hl, pa, cov⟩
      rw [List.length_map] at hl cov
      rw [List.take_length] at cov
      exact ⟨_, rfl, k H1 b prs e1 hb hb1 hl pa cov⟩
end
end G

/-! The sweeper, 5: what can be come to. -/
namespace G
open PySem PySem.Spec PyProof.Rows L2
def lstK (L : List (Addr × Nat)) : List (Key × V) := L.map fun pr => (Sum.inl (pr.2 : Int), V.bl true)
theorem lstK_get (L : List (Addr × Nat)) (p : Nat) : (valV (lstK L) (Sum.inl (p : Int))).isSome = decide (p ∈ L.map (·.2)) := by
  induction L with
  | nil => rfl
  | cons a r ih =>
    by_cases e : (Sum.inl (a.2 : Int) : Key) = Sum.inl (p : Int)
    · have : valV (lstK (a :: r)) (Sum.inl (p : Int)) = some (V.bl true) := valV_pos (p := (Sum.inl (a.2 : Int), V.bl true)) e
      rw [this]
      have e2 : a.2 = p := by have := Sum.inl.inj e; omega
      simp [e2]
    · have : valV (lstK (a :: r)) (Sum.inl (p : Int)) = valV (lstK r) (Sum.inl (p : Int)) := valV_neg (p := (Sum.inl (a.2 : Int), V.bl true)) e
      rw [this, ih]
      have e2 : p ≠ a.2 := fun z => e (by rw [z])
      simp [e2]
theorem lstK_put {L : List (Addr × Nat)} {T : Addr} {p : Nat} (h : p ∉ L.map (·.2)) : putK (lstK L) (Sum.inl (p : Int)) (.bl true) = lstK (L ++ [(T, p)]) := by
  unfold putK
  rw [valV_any, lstK_get, if_neg (by simpa using h)]
  unfold lstK
  rw [List.map_append]
  rfl
structure RInv (H : Hp) (S : WS) (rows : List (List (Option Nat))) (q ld pb : Addr) (i : Nat) (H' : Hp) (Q L : List (Addr × Nat)) : Prop where
  same : Same H H'
  hq : H' q = some (.lst (prV Q))
  hd : H' ld = some (.dK (lstK L))
  hp : H' pb = some (.lst (prV L))
  len : Q.length ≤ 60000 + 8 * L.length
  nd : (L.map (·.2)).Nodup
  pq : ∀ pr ∈ Q, PairAt H' S (L.length + 2) pr
  pl : ∀ pr ∈ L, PairAt H' S (L.length + 2) pr
  roots : ∀ r ∈ rows, ∀ p, some p ∈ r → S.There p → p ∈ Q.map (·.2)
  done : ∀ j, j < i → ∀ pr, Q[j]? = some pr → pr.2 ∈ L.map (·.2)
  closed : ∀ p ∈ L.map (·.2), ∀ c, S.cell p = some c → ∀ z, some z ∈ c.fields → S.There z → z ∈ Q.map (·.2)
  le : i ≤ Q.length
theorem RInv.small {H H' : Hp} {S : WS} {rows : List (List (Option Nat))} {q ld pb : Addr} {i : Nat} {Q L : List (Addr × Nat)} (h : RInv H S rows q ld pb i H' Q L) (f : RowsFit S rows) : L.length ≤ 10000 := by
  have := nodup_le S.cells.length (L.map (·.2)) h.nd fun p hp => by
    obtain ⟨pr, hpr, rfl⟩ := List.mem_map.mp hp
    obtain ⟨⟨c, hc⟩, _⟩ := h.pl pr hpr
    exact cell_lt hc
  rw [List.length_map] at this
  exact Nat.le_trans this f.cells
theorem RInv.all {H H' : Hp} {S : WS} {rows : List (List (Option Nat))} {q ld pb : Addr} {i : Nat} {Q L : List (Addr × Nat)} (h : RInv H S rows q ld pb i H' Q L) (e : Q.length ≤ i) : ∀ p, RchP S rows p → p ∈ L.map (·.2) := by
  have use : ∀ p, p ∈ Q.map (·.2) → p ∈ L.map (·.2) := fun p hp => by
    obtain ⟨pr, hpr, rfl⟩ := List.mem_map.mp hp
    obtain ⟨j, hj⟩ := List.getElem?_of_mem hpr
    exact h.done j (Nat.lt_of_lt_of_le (List.getElem?_eq_some_iff.mp hj).1 e) pr hj
  intro p hp
  induction hp with
  | root h1 h2 h3 => exact use _ (h.roots _ h1 _ h2 h3)
  | step _ h2 h3 h4 ih => exact use _ (h.closed _ ih _ h2 _ h3 h4)
def spFound (K : PySem.W.Frag) : Sp := fun vs H Q _ => ∃ (lens : List Nat) (N : Nat) (S : WS), vs = [.ref S.wo] ∧ Rep K H S ∧ Wf lens N S ∧
  (∀ H', Same H H' → (∀ p c, RchP S (S.heldRows ++ [S.nameRow]) p → S.cell p = some c → c.tone = S.sense) → Q .non H') ∧
  ∀ H' (a l : Addr) (b : V) (nums : List Int), Same H H' → H' a = some (.tup [.str "lost", b, .ref l]) → H' l = some (.lst (nums.map V.int)) → Q (.ref a) H'
theorem Wf.fit {lens : List Nat} {N : Nat} {S : WS} (X : Wf lens N S) : RowsFit S (S.heldRows ++ [S.nameRow]) := by
  have hn : S.nameRow.length = S.names.length := List.length_map _
  refine ⟨?_, fun r hr => ?_, fun r hr q hq => ?_, Nat.le_trans X.bnd.cells X.small, X.bnd.flds, X.fields⟩
  · rw [List.length_append]
    have : S.heldRows.length = S.hands.length := List.length_map _
    have := X.hands5
    simp
    omega
  · rcases List.mem_append.mp hr with h | h
    · obtain ⟨d, hd, rfl⟩ := List.mem_map.mp h
      have := X.slots9 hd
      omega
    · rw [List.mem_singleton.mp h, hn]
      exact Nat.le_trans X.bnd.names X.small
  · rcases List.mem_append.mp hr with h | h
    · obtain ⟨d, hd, rfl⟩ := List.mem_map.mp h
      obtain ⟨c, hc⟩ := X.slots d hd q hq
      exact cell_lt hc
    · rw [List.mem_singleton.mp h] at hq
      obtain ⟨n, hn, e⟩ := List.mem_map.mp hq
      split at e
      · cases e
        exact X.names n hn
      · cases e
section
variable {P : Program} {w : World} {K : PySem.W.Frag} {mg : Str → Option Value} {base : Heap}
theorem sc_reached : FnScope ["heap", "rows", "queue", "number", "places", "listed", "pairs", "at", "place", "way"] ["heap", "rows"] (defScope s_reached) := ⟨rfl, rfl, rfl, by decide +kernel, rfl, by decide +kernel, by decide +kernel⟩
theorem ok_reached (C : CtxG K mg) : Ok P w K mg base CX0 3 d_reached ["heap", "rows"] (spReached K) := by
  refine ok_mk0 C.T.f_reached sc_reached (fun vs H Q E h => ?_) (fun fd F => F.bindsN fun _ _ _ _ _ _ us hl => match us, hl with | [_, _], _ => rfl) (fun cdv A outer s H vs Q E hr h => ?_)
  · obtain ⟨S, rb, rows, rfl, _⟩ := h
    rfl
  · obtain ⟨S, rb, rows, rfl, R, rn, f, k⟩ := h
    refine ⟨_, (pss_cons (ps_set (i := 2) sc_reached.nd rfl (Or.inl rfl) (pe_lst pa_nil))
      (pss_cons (ps_for PassesOwn.never rfl (pi_enum (by rfl) C.fr_enumerate (pa_cons (pv 1) pa_nil)) (pg_tup rfl (pgs_cons (pg_name (i := 3) sc_reached.nd rfl (Or.inl rfl)) (pgs_cons (pg_name (i := 4) sc_reached.nd rfl (Or.inl rfl)) pgs_nil))) (pss_one (ps_aug (i := 2) sc_reached.nd rfl (.inl rfl) (pe_fn (ok_ways_on C) (hr.mono (by decide)) C.g_ways_on (pa_cons (pv 0) (pa_cons (pv 4) (pa_cons (pe_tup (pa_cons (pv 3) pa_nil)) pa_nil)))) ip_ext)))
      (pss_cons (ps_set (i := 5) sc_reached.nd rfl (Or.inl rfl) pe_dnewK)
      (pss_cons (ps_set (i := 6) sc_reached.nd rfl (Or.inl rfl) (pe_lst pa_nil))
      (pss_cons (ps_set (i := 7) sc_reached.nd rfl (Or.inl rfl) pe_int)
      (pss_cons (ps_while PassesOwn.never (pt_cmpR op_lt (pv 7) (pe_callB call_len_seq (by rfl) C.fr_len PySem.boot_len (pa_cons (pv 2) pa_nil)) (nomark _)) (pss_cons (ps_asg (pe_ix ix_list (pv 2) (pv 7) (fun _ _ => rfl)) (pg_tup rfl (pgs_cons (pg_name (i := 8) sc_reached.nd rfl (Or.inl rfl)) (pgs_cons (pg_name (i := 9) sc_reached.nd rfl (Or.inl rfl)) pgs_nil))))
      (pss_cons (ps_aug (i := 7) sc_reached.nd rfl (.inl rfl) pe_int ip_add)
      (pss_cons (ps_if (pt_cmp (pc_din (hu_of hr) (pv 8) (pv 5))) (pss_one ps_continue) pss_nil)
      (pss_cons (ps_dput (hu_of hr) (pv 5) (pv 8) pe_bl rfl)
      (pss_cons (ps_expr (pe_bm PySem.F.plainAttrs_list PySem.F.slot_list_append PySem.F.type_list_append mt_append (pv 6) (pa_cons (pe_tup (pa_cons (pv 8) (pa_cons (pv 9) pa_nil))) pa_nil)))
      (pss_one (ps_aug (i := 2) sc_reached.nd rfl (.inl rfl) (pe_fn (ok_ways_on C) (hr.mono (by decide)) C.g_ways_on (pa_cons (pv 0) (pa_cons (pe_fld (pe_ix ix_list (pe_fld (pv 0) rfl) (pv 8) (fun _ _ => rfl)) rfl) (pa_cons (pv 9) pa_nil)))) ip_ext))))))))
      (pss_one (ps_ret (pv 6))))))))), ?_⟩
    refine ⟨(by decide), fun q hq0 => ?_⟩
    have e0 : Same H (upd H q (.lst [])) := Same.new hq0
    obtain ⟨ls, hrb, al⟩ := rn
    have hls : ls.length = rows.length := al.1
    refine ⟨_, rfl, rb, _, rfl, SqL.of (e0 _ _ hrb), for_it walk_enum (fun i σ H' => ∃ v3 v4 Q, σ = [some (.ref S.ho), some (.ref rb), some (.ref q), v3, v4, none, none, none, none, none] ∧ Same H H' ∧ H' q = some (.lst (prV Q)) ∧ Q.length ≤ 10000 * i ∧ (∀ pr ∈ Q, PairAt H' S 2 pr) ∧ ∀ r ∈ rows.take i, ∀ p, some p ∈ r → S.There p → p ∈ Q.map (·.2))
      ⟨none, none, [], rfl, e0, upd_same, Nat.le_refl _, (fun pr h => by cases h), (fun r h => by simp at h)⟩ (fun i σ H' _ ⟨_, _, _, _, e, _⟩ => SqL.of (e _ _ hrb)) ?_ ?_⟩
    · rintro i x σ H1 H2 hi ⟨v3, v4, Q0, rfl, e1, hq1, hl, pq, cov⟩ ⟨T, x1, y1, rfl, hT, rfl, hx, hy⟩
      cases hx
      have hy : (ls.map V.ref)[i]? = some y1 := hy
      rw [List.getElem?_map] at hy
      obtain ⟨l, hl2, rfl⟩ := Option.map_eq_some_iff.mp hy
      obtain ⟨r, hr, hrl⟩ := al.get hl2
      have rm := List.mem_of_getElem? hr
      have eT : Same H1 (upd H1 T (.tup [.int (i : Nat), .ref l])) := Same.new hT
      refine ⟨T, _, rfl, SqT.of upd_same, rfl, _, _, rfl, _, _, rfl, rfl, ?_⟩
      have hi6 : i < rows.length := (List.getElem?_eq_some_iff.mp hr).1
      refine ⟨_, rfl, _, rfl, _, rfl, _, rfl, (by show 1 ≤ sizeLine; decide), fun u hu => ?_⟩
      have eU := eT.trans (Same.new (o := .tup [.int (i : Int)]) hu)
      refine ⟨S, l, u, r, [(i : Int)], 1, rfl, R.same (e1.trans eU), (e1.trans eU) _ _ hrl, upd_same, by simp, by simp, by decide, f.each r rm, f.fit r rm, fun H3 b prs e3 hb hbl hpl pa pc => ?_⟩
      have hq3 := e3 _ _ (eU _ _ hq1)
      have many := f.many
      have l1 := f.each r rm
      refine ⟨q, b, _, _, rfl, rfl, hq3, hbl, (by unfold prV; rw [List.length_map, List.length_map]; exact Nat.le_of_lt (wide_line (by omega))), ?_⟩
      have nt : ∀ ys, H3 q ≠ some (.tup ys) := fun ys z => by rw [hq3] at z; cases z
      refine ⟨_, _, Q0 ++ prs, rfl, Same.mut (e1.trans (eU.trans e3)) hq0, (by rw [upd_same]; unfold prV; rw [List.map_append]), by rw [List.length_append]; omega, fun pr h => ?_, fun r' hr' p hp hth => ?_⟩
      · rcases List.mem_append.mp h with h | h
        · exact ((pq pr h).same (eU.trans e3)).mut nt
        · exact (pa pr h).mut nt
      · rw [List.map_append]
        rw [take_more hr] at hr'
        rcases List.mem_append.mp hr' with h | h
        · exact List.mem_append_left _ (cov r' h p hp hth)
        · rw [List.mem_singleton.mp h] at hp
          exact List.mem_append_right _ (pc p hp hth)
    · rintro σ H1 ⟨v3, v4, Q0, rfl, e1, hq1, hl, pq, cov⟩
      rw [List.length_map, hls] at hl cov
      rw [List.take_length] at cov
      have many := f.many
      intro ld hld
      have eD : Same H1 (upd H1 ld (.dK [])) := Same.new hld
      refine ⟨(by decide), fun pb hpb => ?_⟩
      have eP := eD.trans (Same.new (o := .lst []) hpb)
      have qld : q ≠ ld := ne_of_none hq1 hld
      have qpb : q ≠ pb := ne_of_none (eD _ _ hq1) hpb
      have ldpb : ld ≠ pb := ne_of_none upd_same hpb
      have ldn : H ld = none := e1.free hld
      have pbn : H pb = none := (e1.trans eD).free hpb
      refine ⟨fun m σ H' => ∃ i v3 v4 v8 v9 Q L, m = 200000 - i ∧ σ = [some (.ref S.ho), some (.ref rb), some (.ref q), v3, v4, some (.ref ld), some (.ref pb), some (.int ((i : Nat) : Int)), v8, v9] ∧ RInv H S rows q ld pb i H' Q L,
        ⟨_, 0, v3, v4, none, none, Q0, [], rfl, rfl, e1.trans eP, eP _ _ hq1, by rw [upd_ne ldpb]; exact upd_same, upd_same, by simp; omega, List.nodup_nil, fun pr h => (pq pr h).same eP, (fun pr h => by cases h), cov, (fun j h => by omega), (fun p h => by cases h), Nat.zero_le _⟩, ?_⟩
      rintro m σ H2 ⟨i, v3, v4, v8, v9, Q1, L, rfl, rfl, r⟩
      have L1 := r.small f
      have len := r.len
      refine ⟨_, rfl, _, rfl, q, _, rfl, .inl (SqL.of r.hq), _, _, rfl, rfl, _, rfl, ?_⟩
      have el : (prV Q1).length = Q1.length := List.length_map _
      rw [el]
      refine if2 (fun z => ?_) fun z => ?_
      · have hi : i < Q1.length := by have := of_decide_eq_true z; omega
        have hpr : Q1[i]? = some Q1[i] := List.getElem?_eq_getElem hi
        generalize Q1[i] = pr at hpr
        have prm := List.mem_of_getElem? hpr
        obtain ⟨⟨c, hc⟩, wy, ns, h1, h2, h3, h4⟩ := r.pq pr prm
        refine ⟨fun σ H' => ∃ v3 v4 v8 v9 Q L, σ = [some (.ref S.ho), some (.ref rb), some (.ref q), v3, v4, some (.ref ld), some (.ref pb), some (.int (((i + 1) : Nat) : Int)), v8, v9] ∧ RInv H S rows q ld pb (i + 1) H' Q L,
          fun σ' H' ⟨v3, v4, v8, v9, Q, L, hσ, hr⟩ => ⟨200000 - (i + 1), by omega, i + 1, v3, v4, v8, v9, Q, L, rfl, hσ, hr⟩, ?_⟩
        refine ⟨_, rfl, _, rfl, rdL (SqL.of r.hq) (by unfold prV; rw [List.getElem?_map, hpr]; rfl) ?_⟩
        refine ⟨pr.1, _, rfl, SqT.of h1, rfl, _, _, rfl, _, _, rfl, rfl, ?_⟩
        refine ⟨_, rfl, _, _, rfl, rfl, ?_⟩
        refine ⟨_, rfl, _, rfl, ld, _, rfl, DGet.k r.hd (k := Sum.inl (pr.2 : Int)), _, rfl, ?_⟩
        rw [lstK_get]
        refine if2 (fun y => ?_) fun y => ?_
        · have hin := of_decide_eq_true y
          refine ⟨v3, v4, _, _, Q1, L, rfl, r.same, r.hq, r.hd, r.hp, r.len, r.nd, r.pq, r.pl, r.roots, fun j hj p hp => ?_, r.closed, hi⟩
          by_cases e : j = i
          · subst e
            rw [hpr] at hp
            cases hp
            exact hin
          · exact r.done j (by omega) p hp
        · have hnin := of_decide_eq_false y
          refine ⟨_, rfl, _, rfl, ld, _, rfl, .inl ⟨_, Sum.inl (pr.2 : Int), r.hd, rfl, ?_, rfl⟩, ?_⟩
          · unfold lstK
            rw [List.length_map]
            exact wide_line (by omega)
          have ntd : ∀ ys, H2 ld ≠ some (.tup ys) := fun ys z => by rw [r.hd] at z; cases z
          have hp1 : upd H2 ld (.dK (putK (lstK L) (Sum.inl (pr.2 : Int)) (.bl true))) pb = some (.lst (prV L)) := by rw [upd_ne ldpb.symm]; exact r.hp
          have hq1 : upd H2 ld (.dK (putK (lstK L) (Sum.inl (pr.2 : Int)) (.bl true))) q = some (.lst (prV Q1)) := by rw [upd_ne qld]; exact r.hq
          refine ⟨_, rfl, .inl ⟨rfl, _, SqL.of hp1⟩, ?_⟩
          refine ⟨_, rfl, _, rfl, (by show 2 ≤ sizeLine; decide), fun T hT => ?_⟩
          rw [lstK_put (T := T) hnin] at hT hp1 hq1 ⊢
          have s1 : Same H (upd H2 ld (.dK (lstK (L ++ [(T, pr.2)])))) := Same.mut r.same ldn
          have s2 := s1.trans (Same.new (o := .tup [.int (pr.2 : Int), .ref wy]) hT)
          have hp2 := Same.new (o := .tup [.int (pr.2 : Int), .ref wy]) hT _ _ hp1
          have hq2 := Same.new (o := .tup [.int (pr.2 : Int), .ref wy]) hT _ _ hq1
          have hT2 : H2 T = none := by
            by_cases e : T = ld
            · rw [e, upd_same] at hT
              cases hT
            · rw [upd_ne e] at hT
              exact hT
          refine ⟨pb, _, _, rfl, rfl, hp2, (by unfold prV; rw [List.length_map]; exact wide_line (by omega)), ?_⟩
          have Tpb : T ≠ pb := (ne_of_none hp1 hT).symm
          have Tq : T ≠ q := (ne_of_none hq1 hT).symm
          have Tld : T ≠ ld := fun z => by rw [z, upd_same] at hT; cases hT
          generalize hE : upd (upd (upd H2 ld (.dK (lstK (L ++ [(T, pr.2)])))) T (.tup [.int (pr.2 : Int), .ref wy])) pb (.lst (prV L ++ [V.ref T])) = H3
          have s3 : Same H H3 := by rw [← hE]; exact Same.mut s2 pbn
          have hq3 : H3 q = some (.lst (prV Q1)) := by rw [← hE, upd_ne qpb]; exact hq2
          have hp3 : H3 pb = some (.lst (prV (L ++ [(T, pr.2)]))) := by rw [← hE, upd_same]; unfold prV; rw [List.map_append]; rfl
          have hd3 : H3 ld = some (.dK (lstK (L ++ [(T, pr.2)]))) := by rw [← hE, upd_ne ldpb, upd_ne Tld.symm, upd_same]
          have pa3 : ∀ x m, PairAt H2 S m x → PairAt H3 S m x := fun x m hx => by
            rw [← hE]
            refine PairAt.mut ((hx.mut ntd).same (Same.new hT)) fun ys z => ?_
            rw [hp2] at z
            cases z
          have hT3 : H3 T = some (.tup [.int (pr.2 : Int), .ref wy]) := by rw [← hE, upd_ne Tpb, upd_same]
          have hw3 : H3 wy = some (.tup (ns.map V.int)) := by
            have n1 : wy ≠ pb := fun z => by rw [z, r.hp] at h2; cases h2
            have n2 : wy ≠ T := ne_of_none h2 hT2
            have n3 : wy ≠ ld := fun z => by rw [z, r.hd] at h2; cases h2
            rw [← hE, upd_ne n1, upd_ne n2, upd_ne n3]
            exact h2
          clear hE
          have R3 := R.same s3
          have nd2 : ((L ++ [(T, pr.2)]).map (·.2)).Nodup := by
            rw [List.map_append]
            refine List.nodup_append.mpr ⟨r.nd, by simp, fun a ha b hb e => ?_⟩
            have : b = pr.2 := by simpa using hb
            exact hnin (by rw [← this, ← e]; exact ha)
          refine ⟨_, rfl, _, rfl, _, rfl, R3.r_cells C.T ⟨_, rfl, R3.ix_cell hc (R3.c_fields C.T hc ⟨_, rfl, ?_⟩)⟩⟩
          refine ⟨S, c.fa, wy, c.fields, ns, L.length + 2, rfl, R3, (R3.cell pr.2 c hc).2.1, hw3, h3, h4, by omega, by have := f.flds pr.2 c hc; omega, fun z hz => f.in_ pr.2 c hc z hz, fun H4 b prs e4 hb hbl hpl pa pc => ?_⟩
          have hq4 := e4 _ _ hq3
          have fl := f.flds pr.2 c hc
          refine ⟨q, b, _, _, rfl, rfl, hq4, hbl, (by unfold prV; rw [List.length_map, List.length_map]; exact Nat.le_of_lt (wide_line (by omega))), ?_⟩
          have nt : ∀ ys, H4 q ≠ some (.tup ys) := fun ys z => by rw [hq4] at z; cases z
          have up : (L ++ [(T, pr.2)]).length = L.length + 1 := by rw [List.length_append]; rfl
          refine ⟨v3, v4, _, _, Q1 ++ prs, L ++ [(T, pr.2)], rfl, Same.mut (s3.trans e4) hq0, (by rw [upd_same]; unfold prV; rw [List.map_append]), (by rw [upd_ne qld.symm]; exact e4 _ _ hd3), (by rw [upd_ne qpb.symm]; exact e4 _ _ hp3), ?_, nd2, fun x hx => ?_, fun x hx => ?_, fun r' hr' p hp hth => ?_, fun j hj p hp => ?_, fun p hp c' hc' z hz hth => ?_, ?_⟩
          · rw [List.length_append, up]
            omega
          · rw [up]
            rcases List.mem_append.mp hx with h | h
            · exact (((pa3 x _ (r.pq x h)).mono (by omega)).same e4).mut nt
            · exact ((pa x h).mono (by omega)).mut nt
          · rw [up]
            rcases List.mem_append.mp hx with h | h
            · exact (((pa3 x _ (r.pl x h)).mono (by omega)).same e4).mut nt
            · rw [List.mem_singleton.mp h]
              exact PairAt.mut (PairAt.same ⟨⟨c, hc⟩, wy, ns, hT3, hw3, h3, by omega⟩ e4) nt
          · rw [List.map_append]
            exact List.mem_append_left _ (r.roots r' hr' p hp hth)
          · rw [List.map_append]
            rw [List.getElem?_append_left (by omega)] at hp
            by_cases e : j = i
            · subst e
              rw [hpr] at hp
              cases hp
              exact List.mem_append_right _ (by simp)
            · exact List.mem_append_left _ (r.done j (by omega) p hp)
          · rw [List.map_append] at hp ⊢
            rcases List.mem_append.mp hp with h | h
            · exact List.mem_append_left _ (r.closed p h c' hc' z hz hth)
            · have : p = pr.2 := by simpa using h
              rw [this, hc] at hc'
              cases hc'
              exact List.mem_append_right _ (pc z hz hth)
          · rw [List.length_append]
            omega
      · have hi : Q1.length ≤ i := by have := of_decide_eq_false z; omega
        exact ⟨_, rfl, k H2 pb L _ r.same r.hp r.pl (r.all hi)⟩
theorem sc_found_pale : FnScope ["world", "heap", "place", "way", "cell"] ["world"] (defScope s_found_pale) := ⟨rfl, rfl, rfl, by decide +kernel, rfl, by decide +kernel, by decide +kernel⟩
theorem ok_found_pale (C : CtxG K mg) : Ok P w K mg base CX0 4 d_found_pale ["world"] (spFound K) := by
  refine ok_mk0 C.T.f_found_pale sc_found_pale (fun vs H Q E h => ?_) (fun fd F => F.bindsN fun _ _ _ _ _ _ us hl => match us, hl with | [_], _ => rfl) (fun cdv A outer s H vs Q E hr h => ?_)
  · obtain ⟨lens, N, S, rfl, _⟩ := h
    rfl
  · obtain ⟨lens, N, S, rfl, R, X, k1, k2⟩ := h
    refine ⟨_, (pss_cons (ps_set (i := 1) sc_found_pale.nd rfl (Or.inl rfl) (pe_fld (pv 0) rfl))
      (pss_cons (ps_for PassesOwn.never rfl (pi_list (pe_fn (ok_reached C) (hr.mono (by decide)) C.g_reached (pa_cons (pv 1) (pa_cons (pe_fn (ok_roots C) (hr.mono (by decide)) C.g_roots (pa_cons (pv 0) pa_nil)) pa_nil)))) (pg_tup rfl (pgs_cons (pg_name (i := 2) sc_found_pale.nd rfl (Or.inl rfl)) (pgs_cons (pg_name (i := 3) sc_found_pale.nd rfl (Or.inl rfl)) pgs_nil))) (pss_cons (ps_set (i := 4) sc_found_pale.nd rfl (Or.inl rfl) (pe_ix ix_list (pe_fld (pv 1) rfl) (pv 2) (fun _ _ => rfl)))
      (pss_one (ps_if (pt_cmpR op_ne (pe_fld (pv 4) rfl) (pe_fld (pe_fld (pv 0) rfl) rfl) (nomark _)) (pss_one (ps_ret (pe_tup (pa_cons pe_str (pa_cons (pe_fld (pv 4) rfl) (pa_cons (pe_callTy call_list_of (by rfl) C.fr_list (by decide +kernel) (pa_cons (pv 3) pa_nil)) pa_nil)))))) pss_nil))))
      (pss_one (ps_ret pe_non)))), ?_⟩
    refine ⟨_, rfl, R.r_heap C.T ?_⟩
    refine ⟨_, rfl, _, rfl, lens, N, S, rfl, R, X, fun H1 rb e1 rn => ?_⟩
    refine ⟨S, rb, _, rfl, R.toCore.same e1, rn, X.fit, fun H2 b prs m e2 hb pa cov => ?_⟩
    have e12 := e1.trans e2
    have R2 := R.same e12
    refine ⟨b, rfl, ⟨_, SqL.of hb⟩, for_it (walk_list (xs := prV prs)) (fun i σ H' => ∃ v2 v3 v4, σ = [some (.ref S.wo), some (.ref S.ho), v2, v3, v4] ∧ H' = H2 ∧ ∀ pr ∈ prs.take i, ∀ c, S.cell pr.2 = some c → c.tone = S.sense)
      ⟨none, none, none, rfl, rfl, fun pr h => by simp at h⟩ (fun i σ H' _ ⟨_, _, _, _, e, _⟩ => by rw [e]; exact SqL.of hb) ?_ ?_⟩
    · rintro i x σ H3 H4 hi ⟨v2, v3, v4, rfl, e3, ton⟩ ⟨e4, hx⟩
      have e4 : H4 = H2 := e4.trans e3
      subst e4
      unfold prV at hx
      rw [List.getElem?_map] at hx
      obtain ⟨pr, hpr, rfl⟩ := Option.map_eq_some_iff.mp hx
      obtain ⟨⟨c, hc⟩, wy, ns, h1, h2, h3, h4⟩ := pa pr (List.mem_of_getElem? hpr)
      refine ⟨pr.1, _, rfl, SqT.of h1, rfl, _, _, rfl, _, _, rfl, rfl, ?_⟩
      refine ⟨_, rfl, R2.r_cells C.T ⟨_, rfl, R2.ix_cell hc ?_⟩⟩
      refine ⟨_, rfl, R2.c_tone C.T hc ⟨_, rfl, R2.r_sweeper C.T (R2.r_sense C.T ⟨rfl, _, rfl, if2 (fun z => ?_) fun z => ?_⟩)⟩⟩
      · refine ⟨_, rfl, R2.c_birth C.T hc ⟨_, rfl, wy, _, rfl, .inr (SqT.of h2), fun l hl => ⟨(by show 3 ≤ sizeLine; decide), fun t ht => ?_⟩⟩⟩
        exact k2 _ t l _ ns ((e12.trans (Same.new hl)).trans (Same.new ht)) upd_same (Same.new ht _ _ upd_same)
      · refine ⟨_, _, _, rfl, rfl, fun pr' hp' c' hc' => ?_⟩
        rw [take_more hpr] at hp'
        rcases List.mem_append.mp hp' with h | h
        · exact ton pr' h c' hc'
        · rw [List.mem_singleton.mp h, hc] at hc'
          cases hc'
          simpa using z
    · rintro σ H3 ⟨v2, v3, v4, rfl, rfl, ton⟩
      refine k1 _ e12 fun p c hr hc => ?_
      obtain ⟨pr, hpr, rfl⟩ := List.mem_map.mp (cov p hr)
      refine ton pr ?_ c hc
      have : (prV prs).length = prs.length := List.length_map _
      rw [this, List.take_length]
      exact hpr
end
end G

/-! The sweeper, 6: cut, look, step. -/
namespace G
open PySem PySem.Spec PyProof.Rows L2
/-- a list of ints and an empty one -/
def rEqI (K : PySem.W.Frag) : R2 := fun x y H Q => ∃ (a b : Addr) (xs : List Int), x = .ref a ∧ y = .ref b ∧ SqL K H a (xs.map V.int) ∧ SqL K H b [] ∧ Q (.bl xs.isEmpty) H
theorem ints_all {K : PySem.W.Frag} {H : Hp} : ∀ xs : List Int, DpAll K H (xs.map V.int) (xs.map PyData.int)
  | [] => .nil
  | x :: r => .cons (.int x) (ints_all r)
theorem ints_lay : ∀ xs : List Int, PyData.canLayAll0 (xs.map PyData.int) = true ∧ PyData.depthAll (xs.map PyData.int) = 0
  | [] => ⟨by simp [PyData.canLayAll0], by simp [PyData.depthAll]⟩
  | x :: r => by
    obtain ⟨h1, h2⟩ := ints_lay r
    constructor
    · simp [PyData.canLayAll0, PyData.canLay0, h1]
    · simp [PyData.depthAll, PyData.depth, h2]
theorem op_eqI {X : Cx} {k : Nat} (hr : Room k X.A) : OpR X (compareOp .Eq) (rEqI X.K) := by
  intro pins s σ H x y v u Q I rx ry h
  obtain ⟨a, b, xs, rfl, rfl, ha, hb, q⟩ := h
  have hu : X.A.units + 64 < cLine := by have := hr.un; omega
  refine op_eqD hu pins s σ H _ _ v u Q I rx ry ⟨.list (xs.map PyData.int), .list [], .lst ha (ints_all xs), .lst hb .nil, ?_, by decide +kernel, ?_⟩
  · obtain ⟨h1, h2⟩ := ints_lay xs
    unfold SeqAt.shaped
    simp [PyData.canLay0, PyData.depth, h1, h2]
  · cases xs with
    | nil =>
      have e : PyData.eqv (.list []) (.list []) = true := by decide +kernel
      show Q (.bl (PyData.eqv (.list []) (.list []))) H
      rw [e]
      exact q
    | cons x r =>
      have e : PyData.eqv (.list (PyData.int x :: r.map PyData.int)) (.list []) = false := by simp [PyData.eqv, PyData.eqvAll]
      show Q (.bl (PyData.eqv (.list (PyData.int x :: r.map PyData.int)) (.list []))) H
      rw [e]
      exact q
def paleF (S : WS) (p : Nat) : Option Int := (S.cell p).bind fun c => if c.tone ≠ S.sense then some c.birth else none
theorem pale_eq (S : WS) : S.thereL.filterMap (paleF S) = S.paleB := by
  unfold WS.thereL WS.paleB
  have hc : S.cells = (List.range S.cells.length).map S.cell := by
    apply List.ext_getElem?
    intro i
    rw [List.getElem?_map]
    by_cases hi : i < S.cells.length
    · rw [List.getElem?_range hi, List.getElem?_eq_getElem hi]
      show _ = some (S.cell i)
      unfold WS.cell
      rw [List.getElem?_eq_getElem hi]
      rfl
    · rw [List.getElem?_eq_none (by omega), List.getElem?_eq_none (by rw [List.length_range]; omega)]
      rfl
  have e2 : S.cells.filterMap (fun o => o.bind fun c => if c.tone ≠ S.sense then some c.birth else none) = (List.range S.cells.length).filterMap (paleF S) := by
    conv => lhs; rw [hc]
    rw [List.filterMap_map]
    rfl
  rw [e2, List.filterMap_filter]
  congr 1
  funext p
  unfold paleF
  cases S.cell p <;> rfl
theorem rch_at {S T : WS} {rows : List (List (Option Nat))} (e : ∀ p, T.cell p = S.cell p) {p : Nat} (h : RchP S rows p) : RchP T rows p := by
  induction h with
  | root h1 h2 h3 => exact .root h1 h2 (by obtain ⟨c, hc⟩ := h3; exact ⟨c, (e _).trans hc⟩)
  | step _ h2 h3 h4 ih => exact .step ih ((e _).trans h2) h3 (by obtain ⟨c, hc⟩ := h4; exact ⟨c, (e _).trans hc⟩)
def WS.cutS (S : WS) : WS := { S with at_ := 0, stop := S.cells.length, loss := .non, phase := .give }
def spCut (K : PySem.W.Frag) : Sp := fun vs H Q _ => ∃ (lens : List Nat) (N : Nat) (S : WS), vs = [.ref S.wo] ∧ Rep K H S ∧ Wf lens N S ∧ S.phase = .walk ∧
  (∀ H' v, (∀ p c, RchP S (S.heldRows ++ [S.nameRow]) p → S.cell p = some c → c.tone = S.sense) → Go K H S H' S.cutS → EvN H H' S.cutS v ⟨"cut", .int (S.paleB.length : Nat), S.paleB⟩ → Q v H') ∧
  ∀ H' S' b nums v, Go K H S H' S' → EvN H H' S' v ⟨"lost", b, nums⟩ → Q v H'
def spStep (K : PySem.W.Frag) : Sp := spStepAt K fun _ => True
section
variable {P : Program} {w : World} {K : PySem.W.Frag} {mg : Str → Option Value} {base : Heap}
theorem sc_cut_round : FnScope ["world", "sweeper", "heap", "births", "place", "cell"] ["world"] (defScope s_cut_round) := ⟨rfl, rfl, rfl, by decide +kernel, rfl, by decide +kernel, by decide +kernel⟩
theorem ok_cut_round (C : CtxG K mg) : Ok P w K mg base CX0 5 d_cut_round ["world"] (spCut K) := by
  refine ok_mk0 C.T.f_cut_round sc_cut_round (fun vs H Q E h => ?_) (fun fd F => F.bindsN fun _ _ _ _ _ _ us hl => match us, hl with | [_], _ => rfl) (fun cdv A outer s H vs Q E hr h => ?_)
  · obtain ⟨lens, N, S, rfl, _⟩ := h
    rfl
  · obtain ⟨lens, N, S, rfl, R, X, hw, k1, k2⟩ := h
    refine ⟨_, (pss_cons (ps_set (i := 1) sc_cut_round.nd rfl (Or.inl rfl) (pe_fld (pv 0) rfl))
      (pss_cons (ps_set (i := 2) sc_cut_round.nd rfl (Or.inl rfl) (pe_fld (pv 0) rfl))
      (pss_cons (ps_fld (pv 1) pe_int rfl)
      (pss_cons (ps_fld (pv 1) (pe_callB call_len_seq (by rfl) C.fr_len PySem.boot_len (pa_cons (pe_fld (pv 2) rfl) pa_nil)) rfl)
      (pss_cons (ps_fld (pv 1) (pe_fn (ok_found_pale C) (hr.mono (by decide)) C.g_found_pale (pa_cons (pv 0) pa_nil)) rfl)
      (pss_cons (ps_if (pt_cmp (pc_notN (pe_fld (pv 1) rfl))) (pss_cons (ps_fld (pv 1) pe_str rfl)
      (pss_one (ps_ret (pe_fn (ok_told_loss C) (hr.mono (by decide)) C.g_told_loss (pa_cons (pv 0) pa_nil))))) pss_nil)
      (pss_cons (ps_fld (pv 1) pe_str rfl)
      (pss_cons (ps_set (i := 3) sc_cut_round.nd rfl (Or.inl rfl) (pe_lst pa_nil))
      (pss_cons (ps_for PassesOwn.never rfl (pi_list (pe_mt0 (d := d_Heap_there) (pv 2) C.T.cls_Heap C.T.mt_Heap_there (ok_Heap_there C) (hr.mono (by decide)))) (pg_name (i := 4) sc_cut_round.nd rfl (Or.inl rfl)) (pss_cons (ps_set (i := 5) sc_cut_round.nd rfl (Or.inl rfl) (pe_ix ix_list (pe_fld (pv 2) rfl) (pv 4) (fun _ _ => rfl)))
      (pss_one (ps_if (pt_cmpR op_ne (pe_fld (pv 5) rfl) (pe_fld (pv 1) rfl) (nomark _)) (pss_one (ps_expr (pe_bm PySem.F.plainAttrs_list PySem.F.slot_list_append PySem.F.type_list_append mt_append (pv 3) (pa_cons (pe_fld (pv 5) rfl) pa_nil)))) pss_nil))))
      (pss_one (ps_ret (pe_tup (pa_cons pe_str (pa_cons (pe_callB call_len_seq (by rfl) C.fr_len PySem.boot_len (pa_cons (pv 3) pa_nil)) (pa_cons (pv 3) pa_nil))))))))))))))), ?_⟩
    refine ⟨_, rfl, R.r_sweeper C.T ⟨_, rfl, R.r_heap C.T ?_⟩⟩
    obtain ⟨ds, hso⟩ := R.so
    refine ⟨_, rfl, S.so, _, ds, _, rfl, hso, C.T.cls_Sweeper, C.T.na_Sweeper_at, (by show 11 < 1000; decide), ?_⟩
    generalize hE : upd H S.so _ = H1
    have R1 : Rep K H1 ({ S with at_ := 0 } : WS) := by rw [← hE]; exact R.sw (a := S.sense) (p := S.phase) (b := S.looked) (c := S.turn) (i := 0) (j := S.stop) (d := S.walks) (k := S.looks) (l := S.passes) (v := S.loss) (m := 0)
    have G1 : Go K H S H1 ({ S with at_ := 0 } : WS) := by rw [← hE] at R1 ⊢; exact go_upd R (by rw [R.rso]; decide) R1 rfl
    clear hE hso
    obtain ⟨ds, hso⟩ := R1.so
    refine ⟨_, rfl, R1.r_cells C.T ⟨S.cl, _, rfl, .inl (SqL.of R1.cl), _, rfl, S.so, _, ds, _, rfl, hso, C.T.cls_Sweeper, C.T.na_Sweeper_stop, (by show 11 < 1000; decide), ?_⟩⟩
    rw [List.length_map]
    generalize hE : upd H1 S.so _ = H2
    have R2 : Rep K H2 ({ S with at_ := 0, stop := S.cells.length } : WS) := by rw [← hE]; exact R1.sw (a := S.sense) (p := S.phase) (b := S.looked) (c := S.turn) (i := 0) (j := S.cells.length) (d := S.walks) (k := S.looks) (l := S.passes) (v := S.loss) (m := 0)
    have G2 : Go K H S H2 ({ S with at_ := 0, stop := S.cells.length } : WS) := G1.trans (by rw [← hE] at R2 ⊢; exact go_upd R1 (by rw [R1.rso]; decide) R2 rfl)
    clear hE hso
    have X2 : Wf lens N ({ S with at_ := 0, stop := S.cells.length } : WS) := ⟨X.lensOk, X.small, ⟨X.bnd.shape, X.bnd.cells, X.bnd.names, X.bnd.flds⟩, X.slots, X.fields, X.names, X.grey, fun _ => ⟨Nat.zero_le _, Nat.le_refl _⟩, X.lost⟩
    refine ⟨_, rfl, lens, N, ({ S with at_ := 0, stop := S.cells.length } : WS), rfl, R2, X2, fun H3 e3 ton => ?_, fun H3 a l b nums e3 ha hl => ?_⟩
    · have R3 := R2.same e3
      have G3 := G2.same e3
      obtain ⟨ds, hso⟩ := R3.so
      refine ⟨_, rfl, S.so, _, ds, _, rfl, hso, C.T.cls_Sweeper, C.T.na_Sweeper_loss, (by show 11 < 1000; decide), ?_⟩
      generalize hE : upd H3 S.so _ = H4
      have R4 : Rep K H4 ({ S with at_ := 0, stop := S.cells.length, loss := .non } : WS) := by rw [← hE]; exact R3.sw (a := S.sense) (p := S.phase) (b := S.looked) (c := S.turn) (i := 0) (j := S.cells.length) (d := S.walks) (k := S.looks) (l := S.passes) (v := .non) (m := 0)
      have G4 : Go K H S H4 ({ S with at_ := 0, stop := S.cells.length, loss := .non } : WS) := G3.trans (by rw [← hE] at R4 ⊢; exact go_upd R3 (by rw [R3.rso]; decide) R4 rfl)
      clear hE hso
      refine ⟨_, rfl, R4.r_loss C.T ⟨_, rfl, ifF rfl ?_⟩⟩
      obtain ⟨ds, hso⟩ := R4.so
      refine ⟨_, rfl, S.so, _, ds, _, rfl, hso, C.T.cls_Sweeper, C.T.na_Sweeper_phase, (by show 11 < 1000; decide), ?_⟩
      generalize hE : upd H4 S.so _ = H5
      have R5 : Rep K H5 S.cutS := by rw [← hE]; exact R4.sw (a := S.sense) (p := .give) (b := S.looked) (c := S.turn) (i := 0) (j := S.cells.length) (d := S.walks) (k := S.looks) (l := S.passes) (v := .non) (m := 0)
      have G5 : Go K H S H5 S.cutS := G4.trans (by rw [← hE] at R5 ⊢; exact go_upd R4 (by rw [R4.rso]; decide) R5 rfl)
      clear hE hso
      refine ⟨(by decide), fun b hb => ?_⟩
      have hbH : H b = none := G5.free b hb
      have G6 := G5.new (o := .lst []) hb
      have R6 := G6.rep
      have ob : Out (upd H5 b (.lst [])) S.cutS b (.lst []) := Out.new R5 hb
      obtain ⟨dh, hho⟩ := R6.ho
      refine ⟨_, rfl, S.ho, dh, _, rfl, hho, rfl, S.cutS, rfl, R6.toCore, Nat.le_trans X.bnd.cells X.small, fun H7 D e7 hD hDl => ?_⟩
      have bD : b ≠ D := ne_of_none ob.1 hD
      have hlt : S.thereL.length ≤ 10000 := by
        have h1 := List.length_filter_le (fun p => (S.cell p).isSome) (List.range S.cells.length)
        rw [List.length_range] at h1
        exact Nat.le_trans h1 (Nat.le_trans X.bnd.cells X.small)
      refine ⟨D, rfl, ⟨_, SqL.of hDl⟩, for_it walk_list (fun i σ H' => ∃ v4 v5, σ = [some (.ref S.wo), some (.ref S.so), some (.ref S.ho), some (.ref b), v4, v5] ∧ Go K H S H' S.cutS ∧ H' D = some (.lst (S.thereL.map fun (p : Nat) => .int (p : Int))) ∧ Out H' S.cutS b (.lst (((S.thereL.take i).filterMap (paleF S)).map V.int)))
        ⟨none, none, rfl, G6.same e7, hDl, ob.same e7⟩ (fun i σ H' _ ⟨_, _, _, _, e, _⟩ => SqL.of e) ?_ ?_⟩
      · rintro i x σ H8 H9 hi ⟨v4, v5, rfl, G8, hD8, o8⟩ ⟨rfl, hx⟩
        have hx : (S.thereL.map fun (p : Nat) => V.int (p : Int))[i]? = some x := hx
        rw [List.getElem?_map] at hx
        obtain ⟨p, hp, rfl⟩ := Option.map_eq_some_iff.mp hx
        have hm := (List.mem_filter.mp (List.mem_of_getElem? hp)).2
        obtain ⟨c, hc⟩ := Option.isSome_iff_exists.mp hm
        have R8 := G8.rep
        have hc8 : S.cutS.cell p = some c := hc
        rw [take_more hp, List.filterMap_append]
        refine ⟨_, rfl, R8.r_cells C.T ⟨_, rfl, R8.ix_cell hc8 ?_⟩⟩
        refine ⟨_, rfl, R8.c_tone C.T hc8 ⟨_, rfl, R8.r_sense C.T ⟨rfl, _, rfl, if2 (fun z => ?_) fun z => ?_⟩⟩⟩
        · have ht : c.tone ≠ S.sense := by simpa [WS.cutS] using z
          have hl : (((S.thereL.take i).filterMap (paleF S)).map V.int).length < sizeLine := by
            rw [List.length_map]
            have h1 := List.length_filterMap_le (paleF S) (S.thereL.take i)
            rw [List.length_take] at h1
            exact big_line (by omega)
          refine ⟨_, rfl, .inl ⟨rfl, _, SqL.of o8.1⟩, _, rfl, R8.c_birth C.T hc8 ⟨b, _, _, rfl, rfl, o8.1, hl, ?_⟩⟩
          refine ⟨_, _, rfl, G8.mut hbH o8.2, by rw [upd_ne bD.symm]; exact hD8, ?_, o8.2⟩
          rw [upd_same, show [p].filterMap (paleF S) = [c.birth] by simp [paleF, hc, ht], List.map_append]
          rfl
        · have ht : c.tone = S.sense := by simpa [WS.cutS] using z
          refine ⟨_, _, rfl, G8, hD8, ?_⟩
          rw [show [p].filterMap (paleF S) = [] by simp [paleF, hc, ht], List.append_nil]
          exact o8
      · rintro σ H8 ⟨v4, v5, rfl, G8, hD8, o8⟩
        rw [List.length_map] at o8
        rw [List.take_length, pale_eq] at o8
        refine ⟨_, rfl, b, _, rfl, .inl (SqL.of o8.1), _, rfl, (by show 3 ≤ sizeLine; decide), fun t ht => ?_⟩
        rw [List.length_map]
        obtain ⟨G9, ev⟩ := ev_old (word := "cut") (thing := .int (S.paleB.length : Nat)) G8 hbH o8 ht
        exact k1 _ _ (fun p c hr hc => ton p c (rch_at (S := S) (T := ({ S with at_ := 0, stop := S.cells.length } : WS)) (rows := S.heldRows ++ [S.nameRow]) (fun _ => rfl) hr) hc) G9 ev
    · have R3 := R2.same e3
      have G3 := G2.same e3
      obtain ⟨ds, hso⟩ := R3.so
      refine ⟨_, rfl, S.so, _, ds, _, rfl, hso, C.T.cls_Sweeper, C.T.na_Sweeper_loss, (by show 11 < 1000; decide), ?_⟩
      have as : a ≠ S.so := fun z => by
        have h := hso
        rw [show ({ S with at_ := 0, stop := S.cells.length } : WS).so = S.so from rfl, ← z, ha] at h
        cases h
      have ls : l ≠ S.so := fun z => by
        have h := hso
        rw [show ({ S with at_ := 0, stop := S.cells.length } : WS).so = S.so from rfl, ← z, hl] at h
        cases h
      generalize hE : upd H3 S.so _ = H4
      have R4 : Rep K H4 ({ S with at_ := 0, stop := S.cells.length, loss := .ref a } : WS) := by rw [← hE]; exact R3.sw (a := S.sense) (p := S.phase) (b := S.looked) (c := S.turn) (i := 0) (j := S.cells.length) (d := S.walks) (k := S.looks) (l := S.passes) (v := .ref a) (m := 0)
      have G4 : Go K H S H4 ({ S with at_ := 0, stop := S.cells.length, loss := .ref a } : WS) := G3.trans (by rw [← hE] at R4 ⊢; exact go_upd R3 (by rw [R3.rso]; decide) R4 rfl)
      have ha4 : H4 a = some (.tup [.str "lost", b, .ref l]) := by rw [← hE, upd_ne as]; exact ha
      have hl4 : H4 l = some (.lst (nums.map V.int)) := by rw [← hE, upd_ne ls]; exact hl
      clear hE hso
      refine ⟨_, rfl, R4.r_loss C.T ⟨_, rfl, ifT rfl ?_⟩⟩
      obtain ⟨ds, hso⟩ := R4.so
      refine ⟨_, rfl, S.so, _, ds, _, rfl, hso, C.T.cls_Sweeper, C.T.na_Sweeper_phase, (by show 11 < 1000; decide), ?_⟩
      generalize hE : upd H4 S.so _ = H5
      have R5 : Rep K H5 ({ S with at_ := 0, stop := S.cells.length, loss := .ref a, phase := .lost } : WS) := by rw [← hE]; exact R4.sw (a := S.sense) (p := .lost) (b := S.looked) (c := S.turn) (i := 0) (j := S.cells.length) (d := S.walks) (k := S.looks) (l := S.passes) (v := .ref a) (m := 0)
      have G5 := G4.trans (by rw [← hE] at R5 ⊢; exact go_upd R4 (by rw [R4.rso]; decide) R5 rfl : Go K H4 _ H5 _)
      have ha5 : H5 a = some (.tup [.str "lost", b, .ref l]) := by rw [← hE, upd_ne as]; exact ha4
      have hl5 : H5 l = some (.lst (nums.map V.int)) := by rw [← hE, upd_ne ls]; exact hl4
      clear hE hso
      exact ⟨_, rfl, ({ S with at_ := 0, stop := S.cells.length, loss := .ref a, phase := .lost } : WS), a, l, b, nums, rfl, R5, rfl, ha5, hl5, fun H6 v G6 ev => k2 _ _ _ _ _ (G5.trans G6) (ev.from G5.free)⟩
end
end G

/-! The sweeper, 7: look, step. -/
namespace G
open PySem PySem.Spec PyProof.Rows L2
section
variable {P : Program} {w : World} {K : PySem.W.Frag} {mg : Str → Option Value} {base : Heap}
theorem sc_look_round : FnScope ["world", "sweeper", "looking", "bits", "births"] ["world"] (defScope s_look_round) := ⟨rfl, rfl, rfl, by decide +kernel, rfl, by decide +kernel, by decide +kernel⟩
theorem ok_look_round (C : CtxG K mg) : Ok P w K mg base CX0 6 d_look_round ["world"] (spStepAt K fun S => S.phase = .walk) := by
  refine ok_mk0 C.T.f_look_round sc_look_round (fun vs H Q E h => ?_) (fun fd F => F.bindsN fun _ _ _ _ _ _ us hl => match us, hl with | [_], _ => rfl) (fun cdv A outer s H vs Q E hr h => ?_)
  · obtain ⟨lens, N, S, rfl, _⟩ := h
    rfl
  · obtain ⟨lens, N, S, rfl, R, X, hw, k⟩ := h
    obtain ⟨lk, hlk⟩ : ∃ lk, S.lk = lk := ⟨_, rfl⟩
    refine ⟨_, (pss_cons (ps_set (i := 1) sc_look_round.nd rfl (Or.inl rfl) (pe_fld (pv 0) rfl))
      (pss_cons (ps_set (i := 2) sc_look_round.nd rfl (Or.inl rfl) (pe_fld (pe_fld (pv 0) rfl) rfl))
      (pss_cons (ps_set (i := 3) sc_look_round.nd rfl (Or.inl rfl) (pe_mt (d := dL_next_look lk) (pv 2) (clsL C lk) (mtL_next_look C lk) (okL_next_look C lk) (hr.mono (by decide)) (pa_cons (pe_fld (pv 1) rfl) (pa_cons (pe_callB call_len_seq (by rfl) C.fr_len PySem.boot_len (pa_cons (pe_fld (pv 0) rfl) pa_nil)) pa_nil))))
      (pss_cons (ps_set (i := 4) sc_look_round.nd rfl (Or.inl rfl) (pe_fn (ok_note_hands C) (hr.mono (by decide)) C.g_note_hands (pa_cons (pv 0) (pa_cons (pv 3) pa_nil))))
      (C8.pss_cut (ps_if (PW.pt (pw_or (pt_cmpR op_eq (pv 3) pe_int (nomark _)) (pw_or1 (PW.pt (pw_and (pt_cmpR (op_eqI hr) (pv 4) (pe_lst pa_nil) (nomark _)) (pw_and1 (pt_not (pt_val (pe_mt0 (d := dL_stays lk) (pv 2) (clsL C lk) (mtL_stays C lk) (okL_stays C lk) (hr.mono (by decide))))))))))) (pss_one (ps_ret (pe_fn (ok_cut_round C) (hr.mono (by decide)) C.g_cut_round (pa_cons (pv 0) pa_nil)))) pss_nil)
      (pss_cons (ps_fldaug (pv 1) pe_int in_add)
      (C8.pss_cut (ps_if (pt_val (pe_mt0 (d := dL_stays lk) (pv 2) (clsL C lk) (mtL_stays C lk) (okL_stays C lk) (hr.mono (by decide)))) (pss_one (ps_fldaug (pv 1) (pv 3) in_or)) pss_nil)
      (pss_one (ps_ret (pe_tup (pa_cons pe_str (pa_cons (pv 3) (pa_cons (pv 4) pa_nil))))))))))))), ?_⟩
    obtain ⟨dl, hlo⟩ := R.lo
    refine ⟨_, rfl, R.r_sweeper C.T ⟨_, rfl, R.r_kind C.T (R.r_looking C.T ?_)⟩⟩
    refine ⟨_, rfl, S.lo, dl, _, rfl, hlk ▸ hlo, rfl, _, rfl, R.r_looked C.T ⟨_, rfl, R.r_hands C.T ⟨S.hl, _, rfl, .inl (SqL.of R.hl), .ref S.lo, S.looked, S.hands.length, ?_, X.hands5, fun bits => ?_⟩⟩⟩
    · rw [List.length_map]
      rfl
    refine ⟨_, rfl, _, rfl, lens, N, S, bits, rfl, R, X, fun H1 b L fs hL G1 hb o1 => ?_⟩
    have K1 := noted_like L S
    have ad := K1.addr
    have R1 := G1.rep
    have X1 := X.like K1
    have hw1 : (S.noted L).1.phase = .walk := by rw [ad.2.2.2.2.2.2.2.2.1]; exact hw
    have slo : (S.noted L).1.lo = S.lo ∧ (S.noted L).1.lk = S.lk := by rw [K1.eq]; exact ⟨rfl, rfl⟩
    have cut : ∀ (H2 : Hp), Go K H S H2 (S.noted L).1 → spCut K [.ref S.wo] H2 (fun v H' => Q v H') E0 := fun H2 G2 => by
      refine ⟨lens, N, (S.noted L).1, by rw [ad.1], G2.rep, X1, hw1, fun H3 v ton G3 ev => ?_, fun H3 S3 b nums v G3 ev => ?_⟩
      · exact k _ _ _ _ (G2.trans G3) (.cut hw fs rfl ton) (ev.from G2.free)
      · exact k _ _ _ _ (G2.trans G3) (.lost hw) (ev.from G2.free)
    have look : ∀ (H2 : Hp) n l, Go K H S H2 { (S.noted L).1 with looks := n, looked := l } → Out H2 { (S.noted L).1 with looks := n, looked := l } b (.lst ((S.noted L).2.map V.int)) → ∀ t, H2 t = none → Q (.ref t) (upd H2 t (.tup [.str "look", .int bits, .ref b])) := fun H2 n l G2 o2 t ht => by
      obtain ⟨G3, ev⟩ := ev_old (word := "look") (thing := .int bits) G2 hb o2 ht
      exact k _ _ _ _ G3 (.look hw fs) ev
    refine ⟨fun σ H' => σ = [some (.ref S.wo), some (.ref S.so), some (.ref S.lo), some (.int bits), some (.ref b)] ∧ Go K H S H' (S.noted L).1 ∧ Out H' (S.noted L).1 b (.lst ((S.noted L).2.map V.int)), ?_, ?_⟩
    · refine ⟨_, rfl, rfl, _, rfl, if2 (fun _ => ifT rfl ⟨_, rfl, cut H1 G1⟩) fun _ => ?_⟩
      refine ⟨_, rfl, (by decide), fun l hl => ?_⟩
      have G2 := G1.new (o := .lst []) hl
      have o2 := o1.same (Same.new (o := .lst []) hl)
      refine ⟨b, l, (S.noted L).2, rfl, rfl, SqL.of o2.1, SqL.of upd_same, _, rfl, if2 (fun _ => ?_) fun _ => ifF rfl ⟨rfl, G2, o2⟩⟩
      obtain ⟨d2, hlo2⟩ := G2.rep.lo
      rw [slo.1, slo.2, hlk] at hlo2
      refine ⟨_, rfl, S.lo, d2, _, rfl, hlo2, rfl, .ref S.lo, rfl, fun bb => ⟨_, rfl, ?_⟩⟩
      cases bb with
      | true => exact ifF rfl ⟨rfl, G2, o2⟩
      | false => exact ifT rfl ⟨_, rfl, cut _ G2⟩
    · rintro σ H2 ⟨rfl, G2, o2⟩
      have R2 := G2.rep
      obtain ⟨ds, hso⟩ := R2.so
      have eso : (S.noted L).1.so = S.so := ad.2.2.1
      rw [eso] at hso
      refine ⟨_, rfl, S.so, _, ds, _, _, rfl, hso, C.T.cls_Sweeper, C.T.na_Sweeper_looks, rfl, _, _, rfl, rfl, ds, _, hso, (by show 11 < 1000; decide), ?_⟩
      generalize hE : upd H2 S.so _ = H3
      have R3 : Rep K H3 ({ (S.noted L).1 with looks := (S.noted L).1.looks + 1 } : WS) := by
        rw [← hE, ← eso]
        exact R2.sw (a := (S.noted L).1.sense) (p := (S.noted L).1.phase) (b := (S.noted L).1.looked) (c := (S.noted L).1.turn) (i := (S.noted L).1.at_) (j := (S.noted L).1.stop) (d := (S.noted L).1.walks) (k := (S.noted L).1.looks + 1) (l := (S.noted L).1.passes) (v := (S.noted L).1.loss) (m := 0)
      have G3 : Go K H2 (S.noted L).1 H3 ({ (S.noted L).1 with looks := (S.noted L).1.looks + 1 } : WS) := by
        rw [← hE, ← eso] at R3 ⊢
        exact go_upd R2 (by rw [R2.rso]; decide) R3 rfl
      have o3 := o2.go G3
      have G03 := G2.trans G3
      clear hE hso
      refine ⟨fun σ H' => ∃ n l, σ = [some (.ref S.wo), some (.ref S.so), some (.ref S.lo), some (.int bits), some (.ref b)] ∧ Go K H S H' { (S.noted L).1 with looks := n, looked := l } ∧ Out H' { (S.noted L).1 with looks := n, looked := l } b (.lst ((S.noted L).2.map V.int)), ?_, ?_⟩
      · obtain ⟨d3, hlo3⟩ := R3.lo
        have hlo3 : H3 (S.noted L).1.lo = some (.ins (lkC K (S.noted L).1.lk) d3 []) := hlo3
        rw [slo.1, slo.2, hlk] at hlo3
        refine ⟨_, rfl, S.lo, d3, _, rfl, hlo3, rfl, .ref S.lo, rfl, fun bb => ?_⟩
        cases bb with
        | false => exact ⟨_, rfl, ifF rfl ⟨_, _, rfl, G03, o3⟩⟩
        | true =>
          refine ⟨_, rfl, ifT rfl ?_⟩
          obtain ⟨ds, hso⟩ := R3.so
          have hso : H3 (S.noted L).1.so = some (.ins (He.ga K "Sweeper") ds (sweepF ({ (S.noted L).1 with looks := (S.noted L).1.looks + 1 } : WS))) := hso
          rw [eso] at hso
          refine ⟨_, rfl, S.so, _, ds, _, _, rfl, hso, C.T.cls_Sweeper, C.T.na_Sweeper_looked, rfl, _, rfl, _, _, rfl, rfl, ds, _, hso, (by show 11 < 1000; decide), ?_⟩
          generalize hE : upd H3 S.so _ = H4
          have R4 : Rep K H4 ({ (S.noted L).1 with looks := (S.noted L).1.looks + 1, looked := Builtin.bitOr (S.noted L).1.looked bits } : WS) := by
            rw [← hE, ← eso]
            exact R3.sw (a := (S.noted L).1.sense) (p := (S.noted L).1.phase) (b := Builtin.bitOr (S.noted L).1.looked bits) (c := (S.noted L).1.turn) (i := (S.noted L).1.at_) (j := (S.noted L).1.stop) (d := (S.noted L).1.walks) (k := (S.noted L).1.looks + 1) (l := (S.noted L).1.passes) (v := (S.noted L).1.loss) (m := 0)
          have G4 : Go K H3 ({ (S.noted L).1 with looks := (S.noted L).1.looks + 1 } : WS) H4 ({ (S.noted L).1 with looks := (S.noted L).1.looks + 1, looked := Builtin.bitOr (S.noted L).1.looked bits } : WS) := by
            rw [← hE, ← eso] at R4 ⊢
            exact go_upd R3 (by rw [R3.rso]; decide) R4 rfl
          exact ⟨_, _, rfl, G03.trans G4, o3.go G4⟩
      · rintro σ H4 ⟨n, l, rfl, G4, o4⟩
        exact ⟨_, rfl, _, rfl, (by show 3 ≤ sizeLine; decide), fun t ht => look H4 n l G4 o4 t ht⟩
theorem sc_step : FnScope ["world", "sweeper"] ["world"] (defScope s_step) := ⟨rfl, rfl, rfl, by decide +kernel, rfl, by decide +kernel, by decide +kernel⟩
theorem ok_step (C : CtxG K mg) : Ok P w K mg base CX0 7 d_step ["world"] (spStep K) := by
  refine ok_mk0 C.T.f_step sc_step (fun vs H Q E h => ?_) (fun fd F => F.bindsN fun _ _ _ _ _ _ us hl => match us, hl with | [_], _ => rfl) (fun cdv A outer s H vs Q E hr h => ?_)
  · obtain ⟨lens, N, S, rfl, _⟩ := h
    rfl
  · obtain ⟨lens, N, S, rfl, R, X, _, k⟩ := h
    refine ⟨_, (pss_cons (ps_set (i := 1) sc_step.nd rfl (Or.inl rfl) (pe_fld (pv 0) rfl))
      (pss_cons (ps_if (pt_cmpR op_eq (pe_fld (pv 1) rfl) pe_str (nomark _)) (pss_one (ps_ret (pe_fn (ok_begin_round C) (hr.mono (by decide)) C.g_begin_round (pa_cons (pv 0) pa_nil)))) pss_nil)
      (pss_cons (ps_if (pt_cmpR op_eq (pe_fld (pv 1) rfl) pe_str (nomark _)) (pss_one (ps_ret (pe_fn (ok_give_back C) (hr.mono (by decide)) C.g_give_back (pa_cons (pv 0) pa_nil)))) pss_nil)
      (pss_cons (ps_if (pt_cmpR op_eq (pe_fld (pv 1) rfl) pe_str (nomark _)) (pss_one (ps_ret (pe_fn (ok_told_loss C) (hr.mono (by decide)) C.g_told_loss (pa_cons (pv 0) pa_nil)))) pss_nil)
      (pss_cons (ps_if (pt_cmpR (op_eqI hr) (pe_fld (pv 1) rfl) (pe_lst pa_nil) (nomark _)) (pss_one (ps_ret (pe_fn (ok_look_round C) (hr.mono (by decide)) C.g_look_round (pa_cons (pv 0) pa_nil)))) pss_nil)
      (pss_one (ps_ret (pe_fn (ok_walk_one C) (hr.mono (by decide)) C.g_walk_one (pa_cons (pv 0) pa_nil))))))))), ?_⟩
    refine ⟨_, rfl, R.r_sweeper C.T ?_⟩
    have no : ∀ {a b : Phase}, a ≠ b → decide (V.str (phS a) = V.str (phS b)) = false := fun h => decide_eq_false fun z => h (phS_inj (V.str.inj z))
    refine ⟨_, rfl, R.r_phase C.T ⟨rfl, _, rfl, ?_⟩⟩
    by_cases h1 : S.phase = .rest
    · exact ifT (by rw [h1]; rfl) ⟨_, rfl, lens, N, S, rfl, R, X, h1, k⟩
    refine ifF (no (b := .rest) h1) ⟨_, rfl, R.r_phase C.T ⟨rfl, _, rfl, ?_⟩⟩
    by_cases h2 : S.phase = .give
    · exact ifT (by rw [h2]; rfl) ⟨_, rfl, lens, N, S, rfl, R, X, h2, k⟩
    refine ifF (no (b := .give) h2) ⟨_, rfl, R.r_phase C.T ⟨rfl, _, rfl, ifF (no (b := .lost) X.lost) ?_⟩⟩
    have hw : S.phase = .walk := by
      cases e : S.phase with
      | rest => exact absurd e h1
      | walk => rfl
      | give => exact absurd e h2
      | lost => exact absurd e X.lost
    refine ⟨_, rfl, R.r_grey C.T ⟨(by decide), fun l hl => ?_⟩⟩
    have R1 := R.same (Same.new (o := .lst []) hl)
    have G1 := (Go.refl R).new (o := .lst []) hl
    refine ⟨S.gl, l, S.grey.map fun (p : Nat) => (p : Int), rfl, rfl, SqL.of (by rw [List.map_map]; exact R1.gl), SqL.of upd_same, _, rfl, if2 (fun z => ?_) fun z => ?_⟩
    · exact ⟨_, rfl, lens, N, S, rfl, R1, X, hw, fun H2 S2 e v G2 d ev => k _ _ _ _ (G1.trans G2) d (ev.from G1.free)⟩
    · refine ⟨_, rfl, lens, N, S, rfl, R1, X, ⟨hw, fun g => ?_⟩, fun H2 S2 e v G2 d ev => k _ _ _ _ (G1.trans G2) d (ev.from G1.free)⟩
      rw [g] at z
      cases z
end
end G

/-! Runs, 1: a row tried; a log's end. -/
namespace G
open PySem PySem.Spec PyProof.Rows L2
theorem noted_wo (S : WS) (L : List (Option Nat)) : (S.noted L).1.wo = S.wo := (noted_like L S).addr.1
theorem StepR.wo {S S' : WS} {e : Ev} (d : StepR S e S') : e.word = ("lost" : Str) ∨ S'.wo = S.wo := by
  cases d with
  | begin h1 h2 => exact .inr (noted_wo _ _)
  | walk h1 h2 h3 => exact .inr (noted_wo _ _)
  | @look L _ _ _ h1 h2 => exact .inr (noted_wo S L)
  | @cut S1 L h1 h2 h3 h4 => exact .inr (by show S1.wo = S.wo; rw [h3]; exact noted_wo _ _)
  | lost h1 => exact .inl rfl
  | back h1 h2 h3 h4 => exact .inr rfl
  | pass h1 h2 h3 => exact .inr rfl
  | fin h1 h2 => exact .inr rfl
theorem DealR.wo {S S' : WS} {r : Row} {e : Ev} (d : DealR S r e S') : S'.wo = S.wo := by
  cases d with
  | putIn h1 h2 h3 h4 h5 h6 h7 => subst h6; exact noted_wo _ _
  | given h1 h2 h3 => subst h3; exact noted_wo _ _
  | sought h1 h2 h3 h4 h5 => subst h5; exact noted_wo _ _
  | _ => rfl
/-- a list, != [] -/
def rNeL (K : PySem.W.Frag) : R2 := fun x y H Q => ∃ (a b : Addr) (xs : List V), x = .ref a ∧ y = .ref b ∧ SqL K H a xs ∧ SqL K H b [] ∧ Q (.bl (!xs.isEmpty)) H
theorem op_neL {X : Cx} {k : Nat} (hr : Room k X.A) : OpR X (compareOp .NotEq) (rNeL X.K) := by
  intro pins s σ H x y v u Q I rx ry h
  obtain ⟨a, b, xs, rfl, rfl, ha, hb, q⟩ := h
  cases xs with
  | nil => exact op_neD (by have := hr.un; omega) pins s σ H _ _ v u Q I rx ry ⟨.list [], .list [], .lst ha .nil, .lst hb .nil, by decide +kernel, by decide +kernel, q⟩
  | cons z r =>
    cases rx
    cases ry
    obtain ⟨its, rv, p1, _⟩ := I.list ha
    obtain ⟨its2, rv2, p2, _⟩ := I.list hb
    cases rv2
    refine SeqAt.RcNeAt.lists_lengths p1.isList p2.isList ?_ (by have := hr.un; omega) X.prog X.w X.xe _ ⟨.bl true, H, I, rfl, q⟩
    cases rv
    simp
theorem EvN.go {K : PySem.W.Frag} {H0 H H' : Hp} {S S' : WS} {v : V} {e : Ev} (h : EvN H0 H S v e) (g : Go K H S H' S') : EvN H0 H' S' v e := let ⟨t, l, a, z, b, c⟩ := h; ⟨t, l, a, z, b.go g, c.go g⟩
theorem EvN.same {H0 H H' : Hp} {S : WS} {v : V} {e : Ev} (h : EvN H0 H S v e) (g : Same H H') : EvN H0 H' S v e := let ⟨t, l, a, z, b, c⟩ := h; ⟨t, l, a, z, b.same g, c.same g⟩
theorem EvN.upd {H0 H : Hp} {S : WS} {v : V} {e : Ev} {x : Addr} {o : HO} (h : EvN H0 H S v e) (h1 : ∀ ys, H x ≠ some (.tup ys)) (h2 : H0 x ≠ none) : EvN H0 (upd H x o) S v e :=
  let ⟨t, l, a, z, b, c⟩ := h
  ⟨t, l, a, z, b.upd fun y => h1 _ (y ▸ b.1), c.upd fun y => h2 (y ▸ z)⟩
/-- events as they lie in the heap, new since H0 -/
def EvsN (H0 H : Hp) (S : WS) (b : Addr) (es : List Ev) : Prop := ∃ vs, Out H S b (.lst vs) ∧ All2 (EvN H0 H S) vs es
theorem EvsN.go {K : PySem.W.Frag} {H0 H H' : Hp} {S S' : WS} {b : Addr} {es : List Ev} (h : EvsN H0 H S b es) (g : Go K H S H' S') : EvsN H0 H' S' b es :=
  let ⟨vs, a, c⟩ := h
  ⟨vs, a.go g, c.mono fun _ _ z => EvN.go z g⟩
theorem EvsN.upd {H0 H : Hp} {S : WS} {b : Addr} {es : List Ev} {x : Addr} {o : HO} (h : EvsN H0 H S b es) (h1 : ∀ ys, H x ≠ some (.tup ys)) (h2 : H0 x ≠ none) (h3 : b ≠ x) : EvsN H0 (upd H x o) S b es :=
  let ⟨vs, a, c⟩ := h
  ⟨vs, a.upd h3, c.mono fun _ _ z => EvN.upd z h1 h2⟩
theorem EvsN.from {H0 H1 H : Hp} {S : WS} {b : Addr} {es : List Ev} (h : EvsN H1 H S b es) (f : ∀ b, H1 b = none → H0 b = none) : EvsN H0 H S b es :=
  let ⟨vs, a, c⟩ := h
  ⟨vs, a, c.mono fun _ _ z => EvN.from z f⟩
def lastLost (es : List Ev) : Prop := ∃ e, es.getLast? = some e ∧ e.word = ("lost" : Str)
structure Live (K : PySem.W.Frag) (H : Hp) (lens : List Nat) (N : Nat) (S : WS) (g : GS) : Prop where
  rep : Rep K H S
  sim : Sim S g
  bnd : Bnd lens N S
  lensOk : LensOk lens
  small : N ≤ 9999
theorem Live.wf {K : PySem.W.Frag} {H : Hp} {lens : List Nat} {N : Nat} {S : WS} {g : GS} (h : Live K H lens N S g) : Wf lens N S := wf_of h.sim h.bnd h.lensOk (Nat.le_trans h.small (by decide))
def spTried (K : PySem.W.Frag) : Sp := fun vs H Q _ => ∃ lens N S g r a, vs = [.ref S.wo, .ref a] ∧ H a = some (.tup (rowV r)) ∧ Live K H lens N S g ∧ RowOk lens r ∧
  ∀ H' S' b es g', Go K H S H' S' → H b = none → EvsN H H' S' b es → LawRow r g es g' → es ≠ [] → (lastLost es ∨ (Sim S' g' ∧ Bnd lens (N + 1) S' ∧ S'.wo = S.wo)) → (r.isSweep = false → es.length ≤ 1) → Q (.ref b) H'
/-- a log, plainly -/
def EvP (H : Hp) (v : V) (e : Ev) : Prop := ∃ t l, v = .ref t ∧ H t = some (.tup [.str e.word, e.thing, .ref l]) ∧ H l = some (.lst (e.nums.map V.int))
def EvsP (H : Hp) (v : V) (es : List Ev) : Prop := ∃ b vs, v = .ref b ∧ H b = some (.lst vs) ∧ All2 (EvP H) vs es
def spIsLost (K : PySem.W.Frag) : Sp := fun vs H Q _ => ∃ (b : Addr) (vs0 : List V) (v : V) (es : List Ev) (e : Ev), vs = [.ref b] ∧ H b = some (.lst vs0) ∧ vs0.getLast? = some v ∧ EvsP H v es ∧ es.getLast? = some e ∧ ∀ H', Same H H' → Q (.bl (decide (e.word = ("lost" : Str)))) H'
theorem at_last {xs : List V} {v : V} (h : xs.getLast? = some v) : atI xs (-1) = some v := by
  have hn : xs ≠ [] := fun z => by rw [z] at h; cases h
  have hp : 0 < xs.length := List.length_pos_iff.mpr hn
  unfold atI
  have e : ixN xs.length (-1) = some (xs.length - 1) := by
    unfold ixN
    simp
    omega
  rw [e]
  rw [List.getLast?_eq_getElem?] at h
  exact h
section
variable {P : Program} {w : World} {K : PySem.W.Frag} {mg : Str → Option Value} {base : Heap}
theorem sc_is_lost : FnScope ["log"] ["log"] (defScope s_is_lost) := ⟨rfl, rfl, rfl, by decide +kernel, rfl, by decide +kernel, by decide +kernel⟩
theorem ok_is_lost (C : CtxG K mg) : Ok P w K mg base CX0 1 d_is_lost ["log"] (spIsLost K) := by
  refine ok_mk0 C.T.f_is_lost sc_is_lost (fun vs H Q E h => ?_) (fun fd F => F.bindsN fun _ _ _ _ _ _ us hl => match us, hl with | [_], _ => rfl) (fun cdv A outer s H vs Q E hr h => ?_)
  · obtain ⟨b, vs0, v, es, e, rfl, _⟩ := h
    rfl
  · obtain ⟨b, vs0, v, es, e, rfl, hb, hv, ⟨c, vs, rfl, hc, al⟩, he, k⟩ := h
    refine ⟨_, (pss_one (ps_ret (pe_and (pe_cmpR (op_neL hr) (pv 0) (pe_lst pa_nil) (nomark _)) (pe_one (pe_cmpR op_eq (pe_ix ix_tup (pe_ix ix_list (pe_ix ix_list (pv 0) (pe_un un_neg pe_int) (fun _ _ => rfl)) (pe_un un_neg pe_int) (fun _ _ => rfl)) pe_int (fun _ _ => rfl)) pe_str (nomark _)))))), ?_⟩
    have hn : vs0.isEmpty = false := by
      cases vs0 with
      | nil => cases hv
      | cons _ _ => rfl
    obtain ⟨x, hx, t, l, rfl, ht, hl⟩ : ∃ x, vs.getLast? = some x ∧ EvP H x e := by
      rw [List.getLast?_eq_getElem?] at he
      obtain ⟨x, hx, r⟩ := al.get' he
      refine ⟨x, ?_, r⟩
      rw [List.getLast?_eq_getElem?, al.1]
      exact hx
    refine ⟨_, rfl, (by decide), fun l0 hl0 => ?_⟩
    have e0 : Same H (upd H l0 (.lst [])) := Same.new hl0
    have hb1 := e0 _ _ hb
    refine ⟨b, l0, vs0, rfl, rfl, SqL.of hb1, SqL.of upd_same, ?_⟩
    rw [hn]
    refine ⟨true, rfl, ifT rfl ?_⟩
    refine ⟨_, rfl, 1, rfl, b, vs0, -1, .ref c, rfl, rfl, SqL.of hb1, at_last hv, 1, rfl, c, vs, -1, .ref t, rfl, rfl, SqL.of (e0 _ _ hc), at_last hx, rdT (i := 0) (e0 _ _ ht) rfl ⟨rfl, ?_⟩⟩
    have e1 : decide (V.str e.word = V.str "lost") = decide (e.word = ("lost" : Str)) := decide_eq_decide.mpr ⟨fun z => V.str.inj z, fun z => by rw [z]⟩
    rw [e1]
    exact k _ e0
theorem sc_tried : FnScope ["world", "row", "events", "turn"] ["world", "row"] (defScope s_tried) := ⟨rfl, rfl, rfl, by decide +kernel, rfl, by decide +kernel, by decide +kernel⟩
theorem ok_tried (C : CtxG K mg) : Ok P w K mg base CX0 8 d_tried ["world", "row"] (spTried K) := by
  refine ok_mk0 C.T.f_tried sc_tried (fun vs H Q E h => ?_) (fun fd F => F.bindsN fun _ _ _ _ _ _ us hl => match us, hl with | [_, _], _ => rfl) (fun cdv A outer s H vs Q E hr h => ?_)
  · obtain ⟨lens, N, S, g, r, a, rfl, _⟩ := h
    rfl
  · obtain ⟨lens, N, S, g, r, a, rfl, ha, LV, ok, k⟩ := h
    have R := LV.rep
    refine ⟨_, (pss_cons (ps_if (pt_cmpR op_ne (pe_ix ix_tup (pv 1) pe_int (fun _ _ => rfl)) pe_str (nomark _)) (pss_one (ps_ret (pe_lst (pa_cons (pe_fnL (ok_deed_tried C) (hr.mono (by decide)) C.g_deed_tried (pa_cons (pv 0) (pa_cons (pv 1) pa_nil))) pa_nil)))) pss_nil)
      (pss_cons (ps_set (i := 2) sc_tried.nd rfl (Or.inl rfl) (pe_lst pa_nil))
      (pss_cons (ps_for PassesOwn.never rfl (pi_range1 (by rfl) C.fr_range (pa_cons (pe_ix ix_tup (pv 1) pe_int (fun _ _ => rfl)) pa_nil)) (pg_name (i := 3) sc_tried.nd rfl (Or.inl rfl)) (pss_cons (ps_expr (pe_bm PySem.F.plainAttrs_list PySem.F.slot_list_append PySem.F.type_list_append mt_append (pv 2) (pa_cons (pe_fn (ok_step C) (hr.mono (by decide)) C.g_step (pa_cons (pv 0) pa_nil)) pa_nil)))
      (pss_one (ps_if (pt_cmpR op_eq (pe_ix ix_tup (pe_ix ix_list (pv 2) (pv 3) (fun _ _ => rfl)) pe_int (fun _ _ => rfl)) pe_str (nomark _)) (pss_one ps_break) pss_nil))))
      (pss_one (ps_ret (pv 2)))))), ?_⟩
    cases hs : r.isSweep with
    | false =>
      have e : (rowV r)[0]? = (rowV r).head? := by cases r <;> rfl
      have hw : ∃ w0, (rowV r)[0]? = some (.str w0) ∧ decide (V.str w0 ≠ V.str "sweep") = true := by
        cases r with
        | sweep n => cases hs
        | _ => exact ⟨_, rfl, rfl⟩
      obtain ⟨w0, hw0, hw1⟩ := hw
      refine ⟨_, rfl, rdT (i := 0) ha hw0 ⟨rfl, _, rfl, ifT ?_ ?_⟩⟩
      · simpa using hw1
      refine ⟨_, rfl, _, rfl, lens, N, S, r, a, rfl, ha, hs, R, LV.wf, ok, fun H1 S1 e v G1 d ev => ?_⟩
      refine ⟨(by show 1 ≤ sizeLine; decide), fun b hb => ?_⟩
      obtain ⟨g', l1, s1⟩ := deal_sim LV.sim d
      have b1 := LV.bnd.deal ok d
      have lr : LawRow r g [e] g' := by
        cases r with
        | sweep n => cases hs
        | _ => exact Chain.cons l1 .nil
      refine k _ S1 b [e] g' (G1.new hb) (G1.free b hb) ⟨[v], Out.new G1.rep hb, rfl, fun i x y hx hy => ?_⟩ lr (by simp) (.inr ⟨s1, b1, d.wo⟩) (fun _ => Nat.le_refl 1)
      cases i with
      | zero =>
        cases hx
        cases hy
        exact EvN.same ev (Same.new hb)
      | succ i => simp at hx
    | true =>
      cases r with
      | sweep n =>
        obtain ⟨n1, n2⟩ := ok
        refine ⟨_, rfl, rdT (i := 0) ha rfl ⟨rfl, _, rfl, ifF rfl ?_⟩⟩
        refine ⟨(by decide), fun b hb => ?_⟩
        have G0 := (Go.refl R).new (o := .lst []) hb
        have fr0 : ∀ x, upd H b (.lst []) x = none → H x = none := fun x => (Same.new hb).free
        have fin : ∀ H' S' es g', Go K H S H' S' → EvsN (upd H b (.lst [])) H' S' b es → Chain LawStep g es g' → es ≠ [] → (lastLost es ∨ (Sim S' g' ∧ Bnd lens N S' ∧ S'.wo = S.wo)) → Q (.ref b) H' := fun H' S' es g' G1 ev ch ne fn =>
          k H' S' b es g' G1 hb (ev.from fr0) ch ne (fn.imp id fun z => ⟨z.1, z.2.1.mono (Nat.le_succ N), z.2.2⟩) (fun h => by cases h)
        refine ⟨_, rfl, rdT (i := 1) (Same.new hb _ _ ha) rfl ⟨_, rfl, by omega, by omega, for_range (fun i σ H' => ∃ v3 es g' S', σ = [some (.ref S.wo), some (.ref a), some (.ref b), v3] ∧ Go K H S H' S' ∧ S'.wo = S.wo ∧ EvsN (upd H b (.lst [])) H' S' b es ∧ es.length = i ∧ Chain LawStep g es g' ∧ Sim S' g' ∧ Bnd lens N S' ∧ ∀ x, H' x = none → upd H b (.lst []) x = none)
          ⟨none, [], g, S, rfl, G0, rfl, ⟨[], Out.new R hb, rfl, fun i x y h => by simp at h⟩, rfl, .nil, LV.sim, LV.bnd, fun x h => h⟩ ?_ ?_⟩⟩
        · rintro i σ H1 hi ⟨v3, es, g1, S1, rfl, G1, wo1, evs, le, ch, sm, bd, fr1⟩
          have X1 : Wf lens N S1 := wf_of sm bd LV.lensOk (Nat.le_trans LV.small (by decide))
          obtain ⟨vs, ob, al⟩ := evs
          refine ⟨_, rfl, .inl ⟨rfl, _, SqL.of ob.1⟩, _, rfl, lens, N, S1, by rw [wo1]; rfl, G1.rep, X1, trivial, fun H2 S2 e v G2 d ev => ?_⟩
          have ob2 := ob.go G2
          have lv : vs.length = i := al.1.trans le
          refine ⟨b, _, _, rfl, rfl, ob2.1, big_line (by omega), ?_⟩
          have G3 := (G1.trans G2).mut (o := .lst (vs ++ [v])) hb ob2.2
          have nt : ∀ ys, H2 b ≠ some (.tup ys) := fun ys z => by rw [ob2.1] at z; cases z
          have b0 : upd H b (.lst []) b ≠ none := by rw [upd_same]; intro z; cases z
          have ev2 : EvN (upd H b (.lst [])) (upd H2 b (.lst (vs ++ [v]))) S2 v e := EvN.upd (ev.from fr1) nt b0
          have evs2 : EvsN (upd H b (.lst [])) (upd H2 b (.lst (vs ++ [v]))) S2 b (es ++ [e]) := ⟨vs ++ [v], ⟨upd_same, ob2.2⟩, All2.snoc (al.mono fun _ _ z => EvN.upd (EvN.go z G2) nt b0) ev2⟩
          have fr2 : ∀ x, upd H2 b (.lst (vs ++ [v])) x = none → upd H b (.lst []) x = none := fun x hx => by
            by_cases z : x = b
            · rw [z, upd_same] at hx
              cases hx
            · rw [upd_ne z] at hx
              exact fr1 x (G2.free x hx)
          obtain ⟨t, l, rfl, _, ot, ol⟩ := ev2
          refine ⟨_, rfl, _, rfl, rdL (v := .ref t) (SqL.of upd_same) (by rw [Nat.zero_add, ← lv, List.getElem?_append_right (Nat.le_refl _), Nat.sub_self]; rfl) (rdT (i := 0) ot.1 rfl ⟨rfl, _, rfl, ?_⟩)⟩
          by_cases hl : e.word = ("lost" : Str)
          · refine ifT (by rw [hl]; simp) ⟨_, rfl, fin _ S2 (es ++ [e]) g1 G3 evs2 (ch.snoc (.other ?_ ?_ ?_ ?_)) (by simp) (.inl ⟨e, by simp, hl⟩)⟩ <;> (rw [hl]; decide +kernel)
          · refine ifF (decide_eq_false fun z => hl (V.str.inj z)) ?_
            rcases step_sim sm d with z | ⟨g2, l2, s2⟩
            · exact absurd z hl
            · rcases bd.step d with z | b2
              · exact absurd z hl
              · rcases d.wo with z | wo2
                · exact absurd z hl
                exact ⟨_, es ++ [e], g2, S2, rfl, G3, wo2.trans wo1, evs2, by rw [List.length_append, le]; rfl, ch.snoc l2, s2, b2, fr2⟩
        · rintro σ H1 ⟨v3, es, g1, S1, rfl, G1, wo1, evs, le, ch, sm, bd, fr1⟩
          refine ⟨_, rfl, fin H1 S1 es g1 G1 evs ch (fun z => ?_) (.inr ⟨sm, bd, wo1⟩)⟩
          rw [z] at le
          have : n = 0 := by simpa using le.symm
          omega
      | _ => cases hs
end
end G

/-! Runs, 2: makers. -/
namespace G
open PySem PySem.Spec PyProof.Rows L2
/-- an instance at x is filled, new objects beside it -/
structure Ini (H : Hp) (x : Addr) (H' : Hp) : Prop where
  keep : ∀ b o, H b = some o → b ≠ x → H' b = some o
  free : ∀ b, H' b = none → H b = none
theorem Ini.refl (H : Hp) (x : Addr) : Ini H x H := ⟨fun b o h _ => h, fun b h => h⟩
theorem Ini.trans {H H1 H2 : Hp} {x : Addr} (a : Ini H x H1) (b : Ini H1 x H2) : Ini H x H2 := ⟨fun c o h n => b.keep c o (a.keep c o h n) n, fun c h => a.free c (b.free c h)⟩
theorem Ini.set {H H' : Hp} {x : Addr} {o : HO} (a : Ini H x H') (hx : H' x ≠ none) : Ini H x (upd H' x o) := ⟨fun b u h n => by rw [upd_ne n]; exact a.keep b u h n, fun b h => by
  by_cases e : b = x
  · rw [e, upd_same] at h
    cases h
  · rw [upd_ne e] at h
    exact a.free b h⟩
theorem Ini.new {H H' : Hp} {x p : Addr} {o : HO} (a : Ini H x H') (hp : H' p = none) : Ini H x (upd H' p o) := ⟨fun b u h n => Same.new hp b u (a.keep b u h n), fun b h => a.free b ((Same.new hp).free h)⟩
theorem Ini.of_same {H H' : Hp} {x : Addr} (e : Same H H') : Ini H x H' := ⟨fun b o h _ => e b o h, fun b h => e.free h⟩
theorem rep_one : ∀ n : Nat, (List.replicate n [V.non]).flatten = List.replicate n V.non
  | 0 => rfl
  | n + 1 => by rw [List.replicate_succ, List.flatten_cons, rep_one n]; rfl
/-- what a maker leaves: the instance, its list -/
def Made (H : Hp) (x dx C : Addr) (F : Addr → List (Str × V)) (xs : List V) (H' : Hp) : Prop := ∃ l, Ini H x H' ∧ H l = none ∧ l ≠ x ∧ H' x = some (.ins C dx (F l)) ∧ H' l = some (.lst xs)
def spHeapInit (K : PySem.W.Frag) : Sp := fun vs H Q _ => ∃ (x dx : Addr) (room : Int), vs = [.ref x, .int room] ∧ H x = some (.ins (He.ga K "Heap") dx []) ∧
  ∀ H', Made H x dx (He.ga K "Heap") (fun l => [("room", .int room), ("cells", .ref l), ("used", .int 0), ("born", .int 0)]) [] H' → Q .non H'
def spSweepInit (K : PySem.W.Frag) : Sp := fun vs H Q _ => ∃ (x dx : Addr), vs = [.ref x] ∧ H x = some (.ins (He.ga K "Sweeper") dx []) ∧
  ∀ H', Made H x dx (He.ga K "Sweeper") (fun l => [("sense", .int 0), ("phase", .str "rest"), ("grey", .ref l), ("looked", .int 0), ("turn", .int 0), ("at", .int 0), ("stop", .int 0), ("walks", .int 0), ("looks", .int 0), ("passes", .int 0), ("loss", .non)]) [] H' → Q .non H'
def spHandInit (K : PySem.W.Frag) : Sp := fun vs H Q _ => ∃ (x dx : Addr) (name : Str) (many : Nat), vs = [.ref x, .str name, .int (many : Int)] ∧ H x = some (.ins (He.ga K "Hand") dx []) ∧ many ≤ 100 ∧
  ∀ H', Made H x dx (He.ga K "Hand") (fun l => [("name", .str name), ("slots", .ref l)]) (List.replicate many .non) H' → Q .non H'
def spKindInit (K : PySem.W.Frag) : Sp := fun vs H Q _ => ∃ (x dx : Addr) (look : V) (tells : V), vs = [.ref x, look, tells] ∧ H x = some (.ins (He.ga K "Kind") dx []) ∧
  Q .non (upd (upd H x (.ins (He.ga K "Kind") dx [("looking", look)])) x (.ins (He.ga K "Kind") dx [("looking", look), ("tells", tells)]))
def spSceneInit (K : PySem.W.Frag) : Sp := fun vs H Q _ => ∃ (x dx hb rb : Addr) (room kind : V) (hs rs : List V), vs = [.ref x, room, kind, .ref hb, .ref rb] ∧ H x = some (.ins (He.ga K "Scene") dx []) ∧ H hb = some (.lst hs) ∧ H rb = some (.lst rs) ∧
  ∀ H' h2 r2, Ini H x H' → h2 ≠ x → r2 ≠ x → H' x = some (.ins (He.ga K "Scene") dx [("room", room), ("kind", kind), ("hands", .ref h2), ("rows", .ref r2)]) → H' h2 = some (.lst hs) → H' r2 = some (.lst rs) → H h2 = none → H r2 = none → Q .non H'
section
variable {P : Program} {w : World} {K : PySem.W.Frag} {mg : Str → Option Value} {base : Heap}
theorem sc_Heap_init : FnScope ["self", "room"] ["self", "room"] (defScope s_Heap_init) := ⟨rfl, rfl, rfl, by decide +kernel, rfl, by decide +kernel, by decide +kernel⟩
theorem ok_Heap_init (C : CtxG K mg) : Ok P w K mg base CX0 1 d_Heap_init ["self", "room"] (spHeapInit K) := by
  refine ok_mk0 C.T.f_Heap_init sc_Heap_init (fun vs H Q E h => ?_) (fun fd F => F.bindsN fun _ _ _ _ _ _ us hl => match us, hl with | [_, _], _ => rfl) (fun cdv A outer s H vs Q E hr h => ?_)
  · obtain ⟨x, dx, room, rfl, _⟩ := h
    rfl
  · obtain ⟨x, dx, room, rfl, hx, k⟩ := h
    refine ⟨_, (pss_cons (ps_fld (pv 0) (pv 1) rfl)
      (pss_cons (ps_fld (pv 0) (pe_lst pa_nil) rfl)
      (pss_cons (ps_fld (pv 0) pe_int rfl)
      (pss_one (ps_fld (pv 0) pe_int rfl))))), ?_⟩
    refine ⟨_, rfl, _, rfl, x, _, dx, _, rfl, hx, C.T.cls_Heap, C.T.na_Heap_room, (by show 0 < 1000; decide), ?_⟩
    have i1 : Ini H x (upd H x (.ins (He.ga K "Heap") dx [("room", .int room)])) := (Ini.refl H x).set (by rw [hx]; intro z; cases z)
    refine ⟨(by decide), fun l hl => ?_⟩
    have xl : x ≠ l := ne_of_none upd_same hl
    refine ⟨_, rfl, x, _, dx, [("room", .int room)], rfl, (by rw [upd_ne xl]; exact upd_same), C.T.cls_Heap, C.T.na_Heap_cells, (by show 1 < 1000; decide), ?_⟩
    have i2 := (i1.new (o := .lst []) hl).set (o := .ins (He.ga K "Heap") dx [("room", .int room), ("cells", .ref l)]) (by rw [upd_ne xl, upd_same]; intro z; cases z)
    refine ⟨_, rfl, x, _, dx, _, rfl, upd_same, C.T.cls_Heap, C.T.na_Heap_used, (by show 2 < 1000; decide), ?_⟩
    have i3 := i2.set (o := .ins (He.ga K "Heap") dx [("room", .int room), ("cells", .ref l), ("used", .int 0)]) (by rw [upd_same]; intro z; cases z)
    refine ⟨_, rfl, x, _, dx, _, rfl, upd_same, C.T.cls_Heap, C.T.na_Heap_born, (by show 3 < 1000; decide), ?_⟩
    have i4 := i3.set (o := .ins (He.ga K "Heap") dx [("room", .int room), ("cells", .ref l), ("used", .int 0), ("born", .int 0)]) (by rw [upd_same]; intro z; cases z)
    exact k _ ⟨l, i4, i1.free l hl, xl.symm, upd_same, by rw [upd_ne xl.symm, upd_ne xl.symm, upd_ne xl.symm]; exact upd_same⟩
theorem sc_Sweeper_init : FnScope ["self"] ["self"] (defScope s_Sweeper_init) := ⟨rfl, rfl, rfl, by decide +kernel, rfl, by decide +kernel, by decide +kernel⟩
theorem ok_Sweeper_init (C : CtxG K mg) : Ok P w K mg base CX0 1 d_Sweeper_init ["self"] (spSweepInit K) := by
  refine ok_mk0 C.T.f_Sweeper_init sc_Sweeper_init (fun vs H Q E h => ?_) (fun fd F => F.bindsN fun _ _ _ _ _ _ us hl => match us, hl with | [_], _ => rfl) (fun cdv A outer s H vs Q E hr h => ?_)
  · obtain ⟨x, dx, rfl, _⟩ := h
    rfl
  · obtain ⟨x, dx, rfl, hx, k⟩ := h
    refine ⟨_, (pss_cons (ps_fld (pv 0) pe_int rfl)
      (pss_cons (ps_fld (pv 0) pe_str rfl)
      (pss_cons (ps_fld (pv 0) (pe_lst pa_nil) rfl)
      (pss_cons (ps_fld (pv 0) pe_int rfl)
      (pss_cons (ps_fld (pv 0) pe_int rfl)
      (pss_cons (ps_fld (pv 0) pe_int rfl)
      (pss_cons (ps_fld (pv 0) pe_int rfl)
      (pss_cons (ps_fld (pv 0) pe_int rfl)
      (pss_cons (ps_fld (pv 0) pe_int rfl)
      (pss_cons (ps_fld (pv 0) pe_int rfl)
      (pss_one (ps_fld (pv 0) pe_non rfl)))))))))))), ?_⟩
    have i0 := Ini.refl H x
    refine ⟨_, rfl, x, _, dx, _, rfl, hx, C.T.cls_Sweeper, C.T.na_Sweeper_sense, (by show 0 < 1000; decide), ?_⟩
    generalize hE : upd H x _ = H1
    have hx1 : H1 x = some (.ins (He.ga K "Sweeper") dx [("sense", .int 0)]) := by rw [← hE]; exact upd_same
    have i1 : Ini H x H1 := by rw [← hE]; exact i0.set (by rw [hx]; intro z; cases z)
    clear hE
    refine ⟨_, rfl, x, _, dx, _, rfl, hx1, C.T.cls_Sweeper, C.T.na_Sweeper_phase, (by show 1 < 1000; decide), ?_⟩
    generalize hE : upd H1 x _ = H2
    have hx2 : H2 x = some (.ins (He.ga K "Sweeper") dx [("sense", .int 0), ("phase", .str "rest")]) := by rw [← hE]; exact upd_same
    have i2 : Ini H x H2 := by rw [← hE]; exact i1.set (by rw [hx1]; intro z; cases z)
    clear hE
    refine ⟨(by decide), fun l hl => ?_⟩
    have xl : x ≠ l := ne_of_none hx2 hl
    have hx2' : upd H2 l (.lst []) x = some (.ins (He.ga K "Sweeper") dx [("sense", .int 0), ("phase", .str "rest")]) := (upd_ne xl).trans hx2
    have ln := i2.free l hl
    replace i2 := i2.new (o := .lst []) hl
    refine ⟨_, rfl, x, _, dx, _, rfl, hx2', C.T.cls_Sweeper, C.T.na_Sweeper_grey, (by show 2 < 1000; decide), ?_⟩
    generalize hE : upd (upd H2 l (.lst [])) x _ = H3
    have hx3 : H3 x = some (.ins (He.ga K "Sweeper") dx [("sense", .int 0), ("phase", .str "rest"), ("grey", .ref l)]) := by rw [← hE]; exact upd_same
    have i3 : Ini H x H3 := by rw [← hE]; exact i2.set (by rw [hx2']; intro z; cases z)
    have hl3 : H3 l = some (.lst []) := by rw [← hE, upd_ne xl.symm]; exact upd_same
    clear hE
    refine ⟨_, rfl, x, _, dx, _, rfl, hx3, C.T.cls_Sweeper, C.T.na_Sweeper_looked, (by show 3 < 1000; decide), ?_⟩
    generalize hE : upd H3 x _ = H4
    have hx4 : H4 x = some (.ins (He.ga K "Sweeper") dx [("sense", .int 0), ("phase", .str "rest"), ("grey", .ref l), ("looked", .int 0)]) := by rw [← hE]; exact upd_same
    have i4 : Ini H x H4 := by rw [← hE]; exact i3.set (by rw [hx3]; intro z; cases z)
    have hl4 : H4 l = some (.lst []) := by rw [← hE, upd_ne xl.symm]; exact hl3
    clear hE
    refine ⟨_, rfl, x, _, dx, _, rfl, hx4, C.T.cls_Sweeper, C.T.na_Sweeper_turn, (by show 4 < 1000; decide), ?_⟩
    generalize hE : upd H4 x _ = H5
    have hx5 : H5 x = some (.ins (He.ga K "Sweeper") dx [("sense", .int 0), ("phase", .str "rest"), ("grey", .ref l), ("looked", .int 0), ("turn", .int 0)]) := by rw [← hE]; exact upd_same
    have i5 : Ini H x H5 := by rw [← hE]; exact i4.set (by rw [hx4]; intro z; cases z)
    have hl5 : H5 l = some (.lst []) := by rw [← hE, upd_ne xl.symm]; exact hl4
    clear hE
    refine ⟨_, rfl, x, _, dx, _, rfl, hx5, C.T.cls_Sweeper, C.T.na_Sweeper_at, (by show 5 < 1000; decide), ?_⟩
    generalize hE : upd H5 x _ = H6
    have hx6 : H6 x = some (.ins (He.ga K "Sweeper") dx [("sense", .int 0), ("phase", .str "rest"), ("grey", .ref l), ("looked", .int 0), ("turn", .int 0), ("at", .int 0)]) := by rw [← hE]; exact upd_same
    have i6 : Ini H x H6 := by rw [← hE]; exact i5.set (by rw [hx5]; intro z; cases z)
    have hl6 : H6 l = some (.lst []) := by rw [← hE, upd_ne xl.symm]; exact hl5
    clear hE
    refine ⟨_, rfl, x, _, dx, _, rfl, hx6, C.T.cls_Sweeper, C.T.na_Sweeper_stop, (by show 6 < 1000; decide), ?_⟩
    generalize hE : upd H6 x _ = H7
    have hx7 : H7 x = some (.ins (He.ga K "Sweeper") dx [("sense", .int 0), ("phase", .str "rest"), ("grey", .ref l), ("looked", .int 0), ("turn", .int 0), ("at", .int 0), ("stop", .int 0)]) := by rw [← hE]; exact upd_same
    have i7 : Ini H x H7 := by rw [← hE]; exact i6.set (by rw [hx6]; intro z; cases z)
    have hl7 : H7 l = some (.lst []) := by rw [← hE, upd_ne xl.symm]; exact hl6
    clear hE
    refine ⟨_, rfl, x, _, dx, _, rfl, hx7, C.T.cls_Sweeper, C.T.na_Sweeper_walks, (by show 7 < 1000; decide), ?_⟩
    generalize hE : upd H7 x _ = H8
    have hx8 : H8 x = some (.ins (He.ga K "Sweeper") dx [("sense", .int 0), ("phase", .str "rest"), ("grey", .ref l), ("looked", .int 0), ("turn", .int 0), ("at", .int 0), ("stop", .int 0), ("walks", .int 0)]) := by rw [← hE]; exact upd_same
    have i8 : Ini H x H8 := by rw [← hE]; exact i7.set (by rw [hx7]; intro z; cases z)
    have hl8 : H8 l = some (.lst []) := by rw [← hE, upd_ne xl.symm]; exact hl7
    clear hE
    refine ⟨_, rfl, x, _, dx, _, rfl, hx8, C.T.cls_Sweeper, C.T.na_Sweeper_looks, (by show 8 < 1000; decide), ?_⟩
    generalize hE : upd H8 x _ = H9
    have hx9 : H9 x = some (.ins (He.ga K "Sweeper") dx [("sense", .int 0), ("phase", .str "rest"), ("grey", .ref l), ("looked", .int 0), ("turn", .int 0), ("at", .int 0), ("stop", .int 0), ("walks", .int 0), ("looks", .int 0)]) := by rw [← hE]; exact upd_same
    have i9 : Ini H x H9 := by rw [← hE]; exact i8.set (by rw [hx8]; intro z; cases z)
    have hl9 : H9 l = some (.lst []) := by rw [← hE, upd_ne xl.symm]; exact hl8
    clear hE
    refine ⟨_, rfl, x, _, dx, _, rfl, hx9, C.T.cls_Sweeper, C.T.na_Sweeper_passes, (by show 9 < 1000; decide), ?_⟩
    generalize hE : upd H9 x _ = H10
    have hx10 : H10 x = some (.ins (He.ga K "Sweeper") dx [("sense", .int 0), ("phase", .str "rest"), ("grey", .ref l), ("looked", .int 0), ("turn", .int 0), ("at", .int 0), ("stop", .int 0), ("walks", .int 0), ("looks", .int 0), ("passes", .int 0)]) := by rw [← hE]; exact upd_same
    have i10 : Ini H x H10 := by rw [← hE]; exact i9.set (by rw [hx9]; intro z; cases z)
    have hl10 : H10 l = some (.lst []) := by rw [← hE, upd_ne xl.symm]; exact hl9
    clear hE
    refine ⟨_, rfl, x, _, dx, _, rfl, hx10, C.T.cls_Sweeper, C.T.na_Sweeper_loss, (by show 10 < 1000; decide), ?_⟩
    generalize hE : upd H10 x _ = H11
    have hx11 : H11 x = some (.ins (He.ga K "Sweeper") dx [("sense", .int 0), ("phase", .str "rest"), ("grey", .ref l), ("looked", .int 0), ("turn", .int 0), ("at", .int 0), ("stop", .int 0), ("walks", .int 0), ("looks", .int 0), ("passes", .int 0), ("loss", .non)]) := by rw [← hE]; exact upd_same
    have i11 : Ini H x H11 := by rw [← hE]; exact i10.set (by rw [hx10]; intro z; cases z)
    have hl11 : H11 l = some (.lst []) := by rw [← hE, upd_ne xl.symm]; exact hl10
    clear hE
    exact k _ ⟨l, i11, ln, xl.symm, hx11, hl11⟩
theorem sc_Hand_init : FnScope ["self", "name", "many"] ["self", "name", "many"] (defScope s_Hand_init) := ⟨rfl, rfl, rfl, by decide +kernel, rfl, by decide +kernel, by decide +kernel⟩
theorem ok_Hand_init (C : CtxG K mg) : Ok P w K mg base CX0 1 d_Hand_init ["self", "name", "many"] (spHandInit K) := by
  refine ok_mk0 C.T.f_Hand_init sc_Hand_init (fun vs H Q E h => ?_) (fun fd F => F.bindsN fun _ _ _ _ _ _ us hl => match us, hl with | [_, _, _], _ => rfl) (fun cdv A outer s H vs Q E hr h => ?_)
  · obtain ⟨x, dx, name, many, rfl, _⟩ := h
    rfl
  · obtain ⟨x, dx, name, many, rfl, hx, hm, k⟩ := h
    refine ⟨_, (pss_cons (ps_fld (pv 0) (pv 1) rfl)
      (pss_one (ps_fld (pv 0) (pe_op op_rep (pe_lst (pa_cons pe_non pa_nil)) (pv 2)) rfl))), ?_⟩
    refine ⟨_, rfl, _, rfl, x, _, dx, _, rfl, hx, C.T.cls_Hand, C.T.na_Hand_name, (by show 0 < 1000; decide), ?_⟩
    have i1 : Ini H x (upd H x (.ins (He.ga K "Hand") dx [("name", .str name)])) := (Ini.refl H x).set (by rw [hx]; intro z; cases z)
    refine ⟨(by show 1 ≤ sizeLine; decide), fun l hl => ?_⟩
    have xl : x ≠ l := ne_of_none upd_same hl
    refine ⟨_, rfl, l, _, _, rfl, rfl, upd_same, (by omega), (by omega), ?_, fun p hp => ?_⟩
    · show 1 * (many : Int).toNat ≤ sizeLine
      have : (100 : Nat) ≤ sizeLine := by decide
      omega
    · have xp : x ≠ p := ne_of_none (by rw [upd_ne xl]; exact upd_same) hp
      have i2 := (i1.new (o := .lst [.non]) hl).new (o := .lst (List.replicate (many : Int).toNat [V.non]).flatten) hp
      refine ⟨_, rfl, x, _, dx, [("name", .str name)], rfl, (by rw [upd_ne xp, upd_ne xl]; exact upd_same), C.T.cls_Hand, C.T.na_Hand_slots, (by show 1 < 1000; decide), ?_⟩
      have i3 := i2.set (o := .ins (He.ga K "Hand") dx [("name", .str name), ("slots", .ref p)]) (by rw [upd_ne xp, upd_ne xl, upd_same]; intro z; cases z)
      refine k _ ⟨p, i3, (i1.new (o := .lst [.non]) hl).free p hp, xp.symm, upd_same, ?_⟩
      rw [upd_ne xp.symm, upd_same, Int.toNat_natCast, rep_one]
theorem sc_Kind_init : FnScope ["self", "looking", "tells"] ["self", "looking", "tells"] (defScope s_Kind_init) := ⟨rfl, rfl, rfl, by decide +kernel, rfl, by decide +kernel, by decide +kernel⟩
theorem ok_Kind_init (C : CtxG K mg) : Ok P w K mg base CX0 1 d_Kind_init ["self", "looking", "tells"] (spKindInit K) := by
  refine ok_mk0 C.T.f_Kind_init sc_Kind_init (fun vs H Q E h => ?_) (fun fd F => F.bindsN fun _ _ _ _ _ _ us hl => match us, hl with | [_, _, _], _ => rfl) (fun cdv A outer s H vs Q E hr h => ?_)
  · obtain ⟨x, dx, l, t, rfl, _⟩ := h
    rfl
  · obtain ⟨x, dx, l, t, rfl, hx, k⟩ := h
    refine ⟨_, (pss_cons (ps_fld (pv 0) (pv 1) rfl)
      (pss_one (ps_fld (pv 0) (pv 2) rfl))), ?_⟩
    refine ⟨_, rfl, _, rfl, x, _, dx, _, rfl, hx, C.T.cls_Kind, C.T.na_Kind_looking, (by show 0 < 1000; decide), ?_⟩
    exact ⟨_, rfl, _, rfl, x, _, dx, _, rfl, upd_same, C.T.cls_Kind, C.T.na_Kind_tells, (by show 1 < 1000; decide), k⟩
theorem sc_Scene_init : FnScope ["self", "room", "kind", "hands", "rows"] ["self", "room", "kind", "hands", "rows"] (defScope s_Scene_init) := ⟨rfl, rfl, rfl, by decide +kernel, rfl, by decide +kernel, by decide +kernel⟩
theorem ok_Scene_init (C : CtxG K mg) : Ok P w K mg base CX0 1 d_Scene_init ["self", "room", "kind", "hands", "rows"] (spSceneInit K) := by
  refine ok_mk0 C.T.f_Scene_init sc_Scene_init (fun vs H Q E h => ?_) (fun fd F => F.bindsN fun _ _ _ _ _ _ us hl => match us, hl with | [_, _, _, _, _], _ => rfl) (fun cdv A outer s H vs Q E hr h => ?_)
  · obtain ⟨x, dx, hb, rb, room, kind, hs, rs, rfl, _⟩ := h
    rfl
  · obtain ⟨x, dx, hb, rb, room, kind, hs, rs, rfl, hx, hh, hr', k⟩ := h
    refine ⟨_, (pss_cons (ps_fld (pv 0) (pv 1) rfl)
      (pss_cons (ps_fld (pv 0) (pv 2) rfl)
      (pss_cons (ps_fld (pv 0) (pe_callTy call_list_of (by rfl) C.fr_list (by decide +kernel) (pa_cons (pv 3) pa_nil)) rfl)
      (pss_one (ps_fld (pv 0) (pe_callTy call_list_of (by rfl) C.fr_list (by decide +kernel) (pa_cons (pv 4) pa_nil)) rfl))))), ?_⟩
    have hx0 : H x ≠ none := by rw [hx]; intro z; cases z
    have hbx : hb ≠ x := fun z => by rw [z, hx] at hh; cases hh
    have rbx : rb ≠ x := fun z => by rw [z, hx] at hr'; cases hr'
    refine ⟨_, rfl, _, rfl, x, _, dx, _, rfl, hx, C.T.cls_Scene, C.T.na_Scene_room, (by show 0 < 1000; decide), ?_⟩
    have i1 := (Ini.refl H x).set (o := .ins (He.ga K "Scene") dx [("room", room)]) hx0
    refine ⟨_, rfl, _, rfl, x, _, dx, _, rfl, upd_same, C.T.cls_Scene, C.T.na_Scene_kind, (by show 1 < 1000; decide), ?_⟩
    have i2 := i1.set (o := .ins (He.ga K "Scene") dx [("room", room), ("kind", kind)]) (by rw [upd_same]; intro z; cases z)
    refine ⟨_, rfl, hb, hs, rfl, .inl (SqL.of (i2.keep _ _ hh hbx)), fun h2 e2 => ?_⟩
    have xh : x ≠ h2 := ne_of_none upd_same e2
    have i3 := i2.new (o := .lst hs) e2
    refine ⟨_, rfl, x, _, dx, [("room", room), ("kind", kind)], rfl, (by rw [upd_ne xh]; exact upd_same), C.T.cls_Scene, C.T.na_Scene_hands, (by show 2 < 1000; decide), ?_⟩
    have i4 := i3.set (o := .ins (He.ga K "Scene") dx [("room", room), ("kind", kind), ("hands", .ref h2)]) (by rw [upd_ne xh, upd_same]; intro z; cases z)
    refine ⟨_, rfl, rb, rs, rfl, .inl (SqL.of (i4.keep _ _ hr' rbx)), fun r2 e3 => ?_⟩
    have xr : x ≠ r2 := ne_of_none upd_same e3
    have i5 := i4.new (o := .lst rs) e3
    refine ⟨_, rfl, x, _, dx, [("room", room), ("kind", kind), ("hands", .ref h2)], rfl, (by rw [upd_ne xr]; exact upd_same), C.T.cls_Scene, C.T.na_Scene_rows, (by show 3 < 1000; decide), ?_⟩
    have i6 := i5.set (o := .ins (He.ga K "Scene") dx [("room", room), ("kind", kind), ("hands", .ref h2), ("rows", .ref r2)]) (by rw [upd_ne xr, upd_same]; intro z; cases z)
    have h2r : h2 ≠ r2 := ne_of_none (by rw [upd_ne xh.symm]; exact upd_same) e3
    exact k _ h2 r2 i6 xh.symm xr.symm upd_same (by rw [upd_ne xh.symm, upd_ne h2r, upd_ne xh.symm]; exact upd_same) (by rw [upd_ne xr.symm]; exact upd_same) (i2.free _ e2) (i4.free _ e3)
end
end G

/-! Runs, 3: the world is made. -/
namespace G
open PySem PySem.Spec PyProof.Rows L2
theorem made_out {H H' : Hp} {y dy C : Addr} {F : Addr → List (Str × V)} {xs : List V} (hy : H y = none) (hd : H dy = none) (m : Made (upd (upd H dy (.own y)) y (.ins C dy [])) y dy C F xs H') :
    ∃ l, Same H H' ∧ H' y = some (.ins C dy (F l)) ∧ H' l = some (.lst xs) ∧ H l = none ∧ l ≠ y ∧ ∀ b, H' b = none → H b = none := by
  obtain ⟨l, ini, hl, ly, h1, h2⟩ := m
  have fr : ∀ b, upd (upd H dy (.own y)) y (.ins C dy []) b = none → H b = none := fun b h => by
    by_cases e : b = y
    · rw [e]
      exact hy
    · rw [upd_ne e] at h
      by_cases e2 : b = dy
      · rw [e2]
        exact hd
      · rw [upd_ne e2] at h
        exact h
  exact ⟨l, Same.made hy hd ini.keep, h1, h2, fr l hl, ly, fun b h => fr b (ini.free b h)⟩
/-- roles given so far -/
structure RL (H0 : Hp) (x : Addr) (H : Hp) (rl : Addr → Role) : Prop where
  out : ∀ b, H b = none → rl b = .out
  old : ∀ b o, H0 b = some o → b ≠ x → rl b = .out
  up : ∀ b, H b = none → H0 b = none
def setR (rl : Addr → Role) (p : Addr) (r : Role) : Addr → Role := fun b => if b = p then r else rl b
theorem setR_same {rl : Addr → Role} {p : Addr} {r : Role} : setR rl p r p = r := if_pos rfl
theorem setR_ne {rl : Addr → Role} {p b : Addr} {r : Role} (h : b ≠ p) : setR rl p r b = rl b := if_neg h
theorem RL.add {H0 H H' : Hp} {x p : Addr} {rl : Addr → Role} {r : Role} (a : RL H0 x H rl) (hp : H p = none) (hp' : H' p ≠ none) (f : ∀ b, H' b = none → H b = none) : RL H0 x H' (setR rl p r) :=
  ⟨fun b h => (setR_ne (fun z => hp' (by rw [← z]; exact h))).trans (a.out b (f b h)), fun b o h n => (setR_ne (fun z => by rw [z, a.up p hp] at h; cases h)).trans (a.old b o h n), fun b h => a.up b (f b h)⟩
theorem RL.grow {H0 H H' : Hp} {x : Addr} {rl : Addr → Role} (a : RL H0 x H rl) (f : ∀ b, H' b = none → H b = none) : RL H0 x H' rl := ⟨fun b h => a.out b (f b h), a.old, fun b h => a.up b (f b h)⟩
/-- a world as it is made -/
structure Init0 (S : WS) (hs : List (Str × Nat)) : Prop where
  cells : S.cells = []
  names : S.names = []
  phase : S.phase = .rest
  born : S.born = 0
  hands : S.hands.map (·.slots) = hs.map fun h => List.replicate h.2 none
def spWorldInit (K : PySem.W.Frag) : Sp := fun vs H Q _ => ∃ (x dx ko dk lo dlo hb : Addr) (room tells : Int) (lk : LK) (hs : List (Str × Nat)) (ts : List Addr), vs = [.ref x, .int room, .ref ko, .ref hb] ∧ H x = some (.ins (He.ga K "World") dx []) ∧
  H ko = some (.ins (He.ga K "Kind") dk [("looking", .ref lo), ("tells", .int tells)]) ∧ H lo = some (.ins (lkC K lk) dlo []) ∧ H hb = some (.lst (ts.map V.ref)) ∧ All2 (fun t (h : Str × Nat) => H t = some (.tup [.str h.1, .int (h.2 : Int)])) ts hs ∧
  hs.length ≤ 5 ∧ (∀ h ∈ hs, h.2 ≤ 9) ∧ ko ≠ x ∧ lo ≠ x ∧ hb ≠ x ∧ (∀ t ∈ ts, t ≠ x) ∧
  ∀ H' S, Rep K H' S → Init0 S hs → S.wo = x → Ini H x H' → (∀ b o, H b = some o → b ≠ x → b ≠ ko → b ≠ lo → S.rl b = .out) → Q .non H'
/-- the hands made so far -/
structure HandsUp (K : PySem.W.Frag) (H0 H3 : Hp) (x ho cl D : Addr) (hs : List (Str × Nat)) (i : Nat) (H : Hp) (ds : List HandD) (rl : Addr → Role) : Prop where
  hD : H D = some (.lst (ds.map fun d => V.ref d.ha))
  len : ds.length = i
  each : ∀ j d, ds[j]? = some d → (∃ dd, H d.ha = some (.ins (He.ga K "Hand") dd (handF d))) ∧ H d.sa = some (.lst (d.slots.map plV)) ∧ rl d.ha = .hand j ∧ rl d.sa = .slots j
  slots : ds.map (·.slots) = (hs.take i).map fun h => List.replicate h.2 none
  rlo : RL H0 x H rl
  rx : rl x = .wo
  rh : rl ho = .ho
  rc : rl cl = .cl
  rD : rl D = .hl
  same : Same H3 H
section
variable {P : Program} {w : World} {K : PySem.W.Frag} {mg : Str → Option Value} {base : Heap}
theorem sc_World_init : FnScope ["self", "room", "kind", "hands", "name", "many"] ["self", "room", "kind", "hands"] (defScope s_World_init) := ⟨rfl, rfl, rfl, by decide +kernel, rfl, by decide +kernel, by decide +kernel⟩
theorem ok_World_init (C : CtxG K mg) : Ok P w K mg base CX0 3 d_World_init ["self", "room", "kind", "hands"] (spWorldInit K) := by
  refine ok_mk0 C.T.f_World_init sc_World_init (fun vs H Q E h => ?_) (fun fd F => F.bindsN fun _ _ _ _ _ _ us hl => match us, hl with | [_, _, _, _], _ => rfl) (fun cdv A outer s H vs Q E hr h => ?_)
  · obtain ⟨x, dx, ko, dk, lo, dlo, hb, room, tells, lk, hs, ts, rfl, _⟩ := h
    rfl
  · obtain ⟨x, dx, ko, dk, lo, dlo, hb, room, tells, lk, hs, ts, rfl, hx, hko, hlo, hhb, al, h5, h9, kx, lx, hbx, tx, k⟩ := h
    refine ⟨_, (pss_cons (ps_fld (pv 0) (pe_mk (d := d_Heap_init) C.T.mk_Heap (ok_Heap_init C) (hr.mono (by decide)) C.g_Heap (pa_cons (pv 1) pa_nil)) rfl)
      (pss_cons (ps_fld (pv 0) (pv 2) rfl)
      (pss_cons (ps_fld (pv 0) (pe_lc (g := gTup K 2 (gCons (gName 4) (gCons (gName 5) gNil))) (te := tMake (He.ga K "Hand") (spHandInit K) [] E0 (tCons (tVar 4) (tCons (tVar 5) tNil))) (own := [("name", 4), ("many", 5)]) rfl sc_World_init.nd (pi_list (pv 3)) (blkOk_by (own := [("name", 4), ("many", 5)]) (by show blkC ["self", "room", "kind", "hands", "name", "many"] (defScope s_World_init) _ _ = true; decide +kernel)) (fun _ _ _ _ _ => (pg_tup rfl (pgs_cons (pg_name (i := 4) sc_World_init.nd rfl (Or.inl rfl)) (pgs_cons (pg_name (i := 5) sc_World_init.nd rfl (Or.inl rfl)) pgs_nil)))) (fun _ _ _ _ _ => pts_nil) (fun _ _ _ _ _ => pe_mk (d := d_Hand_init) C.T.mk_Hand (ok_Hand_init C) (hr.mono (by decide)) C.g_Hand (pa_cons (pv 4) (pa_cons (pv 5) pa_nil)))) rfl)
      (pss_cons (ps_fld (pv 0) pe_dnewK rfl)
      (pss_one (ps_fld (pv 0) (pe_mk0 (d := d_Sweeper_init) C.T.mk_Sweeper (ok_Sweeper_init C) (hr.mono (by decide)) C.g_Sweeper) rfl)))))), ?_⟩
    have r0 : RL H x H (fun b => if b = x then .wo else .out) := ⟨fun b h => if_neg (fun z => by rw [z, hx] at h; cases h), fun b o h n => if_neg n, fun b h => h⟩
    have w0 : (fun b => if b = x then Role.wo else Role.out) x = .wo := if_pos rfl
    generalize (fun b => if b = x then Role.wo else Role.out) = rl0 at r0 w0
    refine ⟨_, rfl, fun ho dh hho hdh _ => ⟨ho, dh, room, rfl, upd_same, fun H1 md => ⟨rfl, ?_⟩⟩⟩
    obtain ⟨cl, s1, ho1, cl1, clH, clho, f1⟩ := made_out hho hdh md
    have xho : x ≠ ho := ne_of_none hx hho
    have xcl : x ≠ cl := ne_of_none hx clH
    have r1 : RL H x H1 (setR (setR rl0 ho .ho) cl .cl) := RL.add (RL.add r0 hho (H' := upd H ho (.own ho)) (by rw [upd_same]; intro z; cases z) (fun b h => (Same.new hho).free h)) (by rw [upd_ne clho]; exact clH) (by rw [cl1]; intro z; cases z) fun b h => by
      have bho : b ≠ ho := fun z => by rw [z, ho1] at h; cases h
      rw [upd_ne bho]
      exact f1 b h
    generalize hr1 : setR (setR rl0 ho .ho) cl .cl = rl1 at r1
    have rx1 : rl1 x = .wo := by rw [← hr1, setR_ne xcl, setR_ne xho]; exact w0
    have rh1 : rl1 ho = .ho := by rw [← hr1, setR_ne clho.symm, setR_same]
    have rc1 : rl1 cl = .cl := by rw [← hr1, setR_same]
    clear hr1
    have x1 := s1 _ _ hx
    have i1 : Ini H x H1 := Ini.of_same s1
    refine ⟨_, rfl, x, _, dx, _, rfl, x1, C.T.cls_World, C.T.na_World_heap, (by show 0 < 1000; decide), ?_⟩
    generalize hE : upd H1 x _ = H2
    have x2 : H2 x = some (.ins (He.ga K "World") dx [("heap", .ref ho)]) := by rw [← hE]; exact upd_same
    have i2 : Ini H x H2 := by rw [← hE]; exact i1.set (by rw [x1]; intro z; cases z)
    have ho2 : H2 ho = some (.ins (He.ga K "Heap") dh [("room", .int room), ("cells", .ref cl), ("used", .int 0), ("born", .int 0)]) := by rw [← hE, upd_ne xho.symm]; exact ho1
    have cl2 : H2 cl = some (.lst []) := by rw [← hE, upd_ne xcl.symm]; exact cl1
    have r2 : RL H x H2 rl1 := r1.grow fun b h => by
      by_cases e : b = x
      · rw [e, x2] at h
        cases h
      · rw [← hE, upd_ne e] at h
        exact h
    clear hE
    refine ⟨_, rfl, _, rfl, x, _, dx, _, rfl, x2, C.T.cls_World, C.T.na_World_kind, (by show 1 < 1000; decide), ?_⟩
    generalize hE : upd H2 x _ = H3
    have x3 : H3 x = some (.ins (He.ga K "World") dx [("heap", .ref ho), ("kind", .ref ko)]) := by rw [← hE]; exact upd_same
    have i3 : Ini H x H3 := by rw [← hE]; exact i2.set (by rw [x2]; intro z; cases z)
    have ho3 : H3 ho = some (.ins (He.ga K "Heap") dh [("room", .int room), ("cells", .ref cl), ("used", .int 0), ("born", .int 0)]) := by rw [← hE, upd_ne xho.symm]; exact ho2
    have cl3 : H3 cl = some (.lst []) := by rw [← hE, upd_ne xcl.symm]; exact cl2
    have r3 : RL H x H3 rl1 := r2.grow fun b h => by
      by_cases e : b = x
      · rw [e, x3] at h
        cases h
      · rw [← hE, upd_ne e] at h
        exact h
    clear hE
    have hb3 := i3.keep _ _ hhb hbx
    refine ⟨_, rfl, hb, rfl, ⟨_, SqL.of hb3⟩, fun D hD => ?_⟩
    have s4 : Same H3 (upd H3 D (.lst [])) := Same.new hD
    have xD : x ≠ D := ne_of_none x3 hD
    have hoD : ho ≠ D := ne_of_none ho3 hD
    have clD : cl ≠ D := ne_of_none cl3 hD
    have u0 : HandsUp K H H3 x ho cl D hs 0 (upd H3 D (.lst [])) [] (setR rl1 D .hl) := ⟨upd_same, rfl, (fun j d h => by simp at h), rfl, r3.add hD (by rw [upd_same]; intro z; cases z) (fun b h => s4.free h), by rw [setR_ne xD]; exact rx1, by rw [setR_ne hoD]; exact rh1, by rw [setR_ne clD]; exact rc1, setR_same, s4⟩
    refine lc_it (walk_list (K := K) (a := hb) (xs := ts.map V.ref)) (fun i H' => ∃ ds rl, HandsUp K H H3 x ho cl D hs i H' ds rl) ⟨[], _, u0⟩ (fun i H' _ ⟨_, _, u⟩ => SqL.of (u.same _ _ hb3)) ?_ ?_
    · rintro i v H4 H4' hi ⟨ds, rl, u⟩ ⟨rfl, hv⟩
      rw [List.getElem?_map] at hv
      obtain ⟨t, ht, rfl⟩ := Option.map_eq_some_iff.mp hv
      obtain ⟨⟨name, many⟩, hh, htt⟩ := al.get ht
      have tm := List.mem_of_getElem? ht
      have hm := List.mem_of_getElem? hh
      have il : i < hs.length := (List.getElem?_eq_some_iff.mp hh).1
      have ht4 := u.same _ _ (i3.keep _ _ htt (tx t tm))
      refine ⟨t, _, rfl, SqT.of ht4, rfl, _, _, rfl, _, _, rfl, rfl, rfl, ?_⟩
      unfold tYes
      dsimp only
      rw [if_pos rfl]
      refine ⟨_, rfl, _, rfl, fun y dy hy hdy _ => ⟨y, dy, name, many, rfl, upd_same, by have := h9 _ hm; simp at this; omega, fun H5 md => ⟨rfl, ?_⟩⟩⟩
      obtain ⟨sa, s5, y5, sa5, san, say, f5⟩ := made_out hy hdy md
      have hD5 := s5 _ _ u.hD
      have ulen := u.len
      refine ⟨_, hD5, (by rw [List.length_map]; exact big_line (by omega)), ds ++ [⟨y, sa, name, List.replicate many none⟩], setR (setR rl y (.hand i)) sa (.slots i), ?_⟩
      have Dy : D ≠ y := ne_of_none u.hD hy
      have Dsa : D ≠ sa := ne_of_none u.hD san
      have f6 : ∀ b, upd H5 D (.lst (ds.map (fun d => V.ref d.ha) ++ [.ref y])) b = none → H4' b = none := fun b h => by
        by_cases e : b = D
        · rw [e, upd_same] at h
          cases h
        · rw [upd_ne e] at h
          exact f5 b h
      have r6 : RL H x (upd H5 D (.lst (ds.map (fun d => V.ref d.ha) ++ [.ref y]))) (setR (setR rl y (.hand i)) sa (.slots i)) := by
        refine RL.add (RL.add u.rlo hy (H' := upd H4' y (.ins (He.ga K "Hand") dy [])) (by rw [upd_same]; intro z; cases z) (fun b h => (Same.new hy).free h)) (by rw [upd_ne say]; exact san) (by rw [upd_ne Dsa.symm, sa5]; intro z; cases z) fun b h => ?_
        have by_ : b ≠ y := fun z => by rw [z, upd_ne Dy.symm, y5] at h; cases h
        rw [upd_ne by_]
        exact f6 b h
      have keepr : ∀ {a : Addr} {r : Role} {o : HO}, H4' a = some o → rl a = r → setR (setR rl y (.hand i)) sa (.slots i) a = r := fun ha hr => by
        rw [setR_ne (ne_of_none ha san), setR_ne (ne_of_none ha hy)]
        exact hr
      have x4 := u.same _ _ x3
      have ho4 := u.same _ _ ho3
      have cl4 := u.same _ _ cl3
      refine ⟨by rw [upd_same, List.map_append]; rfl, by rw [List.length_append, ulen]; rfl, fun j d hj => ?_, ?_, r6, keepr x4 u.rx, keepr ho4 u.rh, keepr cl4 u.rc, keepr u.hD u.rD, ?_⟩
      · by_cases hj2 : j < ds.length
        · rw [List.getElem?_append_left hj2] at hj
          obtain ⟨⟨dd, a1⟩, a2, a3, a4⟩ := u.each j d hj
          have n1 : d.ha ≠ D := fun z => by rw [z, u.hD] at a1; cases a1
          have n2 : d.sa ≠ D := fun z => by have := u.rD; rw [← z, a4] at this; cases this
          exact ⟨⟨dd, by rw [upd_ne n1]; exact s5 _ _ a1⟩, by rw [upd_ne n2]; exact s5 _ _ a2, keepr a1 a3, keepr a2 a4⟩
        · rw [List.getElem?_append_right (by omega)] at hj
          have e : j - ds.length = 0 := by
            have h := (List.getElem?_eq_some_iff.mp hj).1
            simp at h
            omega
          rw [e] at hj
          cases hj
          have ej : j = i := by omega
          subst ej
          exact ⟨⟨dy, by rw [upd_ne Dy.symm]; exact y5⟩, by rw [upd_ne Dsa.symm, List.map_replicate]; exact sa5, by rw [setR_ne say.symm, setR_same], setR_same⟩
      · rw [List.map_append, u.slots, take_more hh, List.map_append]
        rfl
      · intro b o h
        have h4 := u.same b o h
        by_cases e : b = D
        · rw [e, hD] at h
          cases h
        · rw [upd_ne e]
          exact s5 _ _ h4
    · rintro H4 ⟨ds, rl, u⟩
      have x4 := u.same _ _ x3
      have ho4 := u.same _ _ ho3
      have cl4 := u.same _ _ cl3
      have lts : ts.length = hs.length := al.1
      have usl := u.slots
      rw [List.length_map, lts, List.take_length] at usl
      have hDo := u.hD
      have i4 : Ini H x H4 := i3.trans (Ini.of_same u.same)
      refine ⟨_, rfl, x, _, dx, _, rfl, x4, C.T.cls_World, C.T.na_World_hands, (by show 2 < 1000; decide), ?_⟩
      generalize hE : upd H4 x _ = H5
      have x5 : H5 x = some (.ins (He.ga K "World") dx [("heap", .ref ho), ("kind", .ref ko), ("hands", .ref D)]) := by rw [← hE]; exact upd_same
      have i5 : Ini H x H5 := by rw [← hE]; exact i4.set (by rw [x4]; intro z; cases z)
      have i45 : Ini H4 x H5 := by rw [← hE]; exact (Ini.refl H4 x).set (by rw [x4]; intro z; cases z)
      have r5 : RL H x H5 rl := u.rlo.grow i45.free
      clear hE
      intro no hno
      have i6 := i5.new (o := .dK []) hno
      have i46 := i45.new (o := .dK []) hno
      have xno : x ≠ no := ne_of_none x5 hno
      refine ⟨_, rfl, x, _, dx, _, rfl, (upd_ne xno).trans x5, C.T.cls_World, C.T.na_World_names, (by show 3 < 1000; decide), ?_⟩
      generalize hE : upd (upd H5 no (.dK [])) x _ = H7
      have x7 : H7 x = some (.ins (He.ga K "World") dx [("heap", .ref ho), ("kind", .ref ko), ("hands", .ref D), ("names", .ref no)]) := by rw [← hE]; exact upd_same
      have no7 : H7 no = some (.dK []) := by rw [← hE, upd_ne xno.symm]; exact upd_same
      have nx : upd H5 no (.dK []) x ≠ none := by rw [upd_ne xno, x5]; intro z; cases z
      have i7 : Ini H x H7 := by rw [← hE]; exact i6.set nx
      have i47 : Ini H4 x H7 := by rw [← hE]; exact i46.set nx
      have i57 : Ini H5 x H7 := by rw [← hE]; exact ((Ini.refl H5 x).new hno).set nx
      clear hE
      have r7 : RL H x H7 (setR rl no .no) := r5.add hno (by rw [no7]; intro z; cases z) i57.free
      refine fun so ds_ hso hds _ => ⟨so, ds_, rfl, upd_same, fun H8 md => ⟨rfl, ?_⟩⟩
      obtain ⟨gl, s8, so8, gl8, gln, glso, f8⟩ := made_out hso hds md
      have r8 : RL H x H8 (setR (setR (setR rl no .no) so .so) gl .gl) := by
        refine RL.add (RL.add r7 hso (H' := upd H7 so (.ins (He.ga K "Sweeper") ds_ [])) (by rw [upd_same]; intro z; cases z) (fun b h => (Same.new hso).free h)) (by rw [upd_ne glso]; exact gln) (by rw [gl8]; intro z; cases z) fun b h => ?_
        have bso : b ≠ so := fun z => by rw [z, so8] at h; cases h
        rw [upd_ne bso]
        exact f8 b h
      have i48 : Ini H4 x H8 := i47.trans (Ini.of_same s8)
      have i8 : Ini H x H8 := i7.trans (Ini.of_same s8)
      have x8 := s8 _ _ x7
      have no8 := s8 _ _ no7
      have xso : x ≠ so := ne_of_none x7 hso
      have xgl : x ≠ gl := ne_of_none x7 gln
      have noso : no ≠ so := ne_of_none no7 hso
      have nogl : no ≠ gl := ne_of_none no7 gln
      have keepr : ∀ {a : Addr} {r : Role} {o : HO}, H4 a = some o → rl a = r → setR (setR (setR rl no .no) so .so) gl .gl a = r := fun {a r o} ha hr => by
        have an : a ≠ no := fun z => by
          by_cases e : a = x
          · exact xno (e ▸ z)
          · have := i45.keep a o ha e
            rw [z, hno] at this
            cases this
        have as_ : ∀ {p}, H7 p = none → a ≠ p := fun {p} hp z => by
          by_cases e : a = x
          · rw [← z, e, x7] at hp
            cases hp
          · have := i47.keep a o ha e
            rw [z, hp] at this
            cases this
        rw [setR_ne (as_ gln), setR_ne (as_ hso), setR_ne an]
        exact hr
      refine ⟨_, rfl, x, _, dx, _, rfl, x8, C.T.cls_World, C.T.na_World_sweeper, (by show 4 < 1000; decide), ?_⟩
      generalize hE : upd H8 x _ = H9
      have x9 : H9 x = some (.ins (He.ga K "World") dx [("heap", .ref ho), ("kind", .ref ko), ("hands", .ref D), ("names", .ref no), ("sweeper", .ref so)]) := by rw [← hE]; exact upd_same
      have nx8 : H8 x ≠ none := by rw [x8]; intro z; cases z
      have i9 : Ini H x H9 := by rw [← hE]; exact i8.set nx8
      have i49 : Ini H4 x H9 := by rw [← hE]; exact i48.set nx8
      have k89 : ∀ {b o}, H8 b = some o → b ≠ x → H9 b = some o := fun h n => by rw [← hE, upd_ne n]; exact h
      have r9 : RL H x H9 (setR (setR (setR rl no .no) so .so) gl .gl) := r8.grow (by rw [← hE]; exact ((Ini.refl H8 x).set nx8).free)
      clear hE
      have rso : setR (setR (setR rl no .no) so .so) gl .gl so = .so := by rw [setR_ne glso.symm, setR_same]
      have rgl : setR (setR (setR rl no .no) so .so) gl .gl gl = .gl := setR_same
      have rno : setR (setR (setR rl no .no) so .so) gl .gl no = .no := by rw [setR_ne nogl, setR_ne noso, setR_same]
      generalize setR (setR (setR rl no .no) so .so) gl .gl = rf at r9 rso rgl rno keepr
      have kl : ko ≠ lo := fun z => by
        rw [z, hlo] at hko
        have h := (HO.ins.inj (Option.some.inj hko)).2.2
        cases h
      have okr : rf ko = .out := r9.old ko _ hko kx
      have olr : rf lo = .out := r9.old lo _ hlo lx
      have fin : ∀ {a : Addr} {r : Role}, rf a = r → r ≠ .out → (if a = ko then Role.ko else if a = lo then Role.lo else rf a) = r := fun {a r} h n => by
        rw [if_neg (fun z => n (by rw [← h, z, okr])), if_neg (fun z => n (by rw [← h, z, olr]))]
        exact h
      have hox : ho ≠ x := xho.symm
      refine k H9 { wo := x, ho := ho, so := so, hl := D, cl := cl, gl := gl, no := no, ko := ko, lo := lo, rl := fun a => if a = ko then Role.ko else if a = lo then Role.lo else rf a, room := room, used := 0, born := 0, cells := [], hands := ds, names := [], lk := lk, tells := tells, sense := 0, phase := .rest, grey := [], looked := 0, turn := 0, at_ := 0, stop := 0, walks := 0, looks := 0, passes := 0, loss := .non } ?_ ⟨rfl, rfl, rfl, rfl, usl⟩ rfl i9 (fun b o h n1 n2 n3 => ?_)
      · refine { wo := ⟨dx, x9⟩, ho := ⟨dh, i49.keep _ _ ho4 hox⟩, so := ⟨ds_, k89 so8 xso.symm⟩, ko := ⟨dk, i9.keep _ _ hko kx⟩, lo := ⟨dlo, i9.keep _ _ hlo lx⟩, hl := i49.keep _ _ hDo xD.symm, cl := i49.keep _ _ cl4 xcl.symm, gl := k89 gl8 xgl.symm, hand := fun i d hd => ?_, cell := (fun p c hc => by simp [WS.cell] at hc), nm := (fun n hn => by cases hn), rwo := fin (keepr x4 u.rx) (by decide), rho := fin (keepr ho4 u.rh) (by decide), rso := fin rso (by decide), rko := if_pos rfl, rlo := (by show (if lo = ko then Role.ko else if lo = lo then Role.lo else rf lo) = .lo; rw [if_neg kl.symm, if_pos rfl]), rhl := fin (keepr hDo u.rD) (by decide), rcl := fin (keepr cl4 u.rc) (by decide), rgl := fin rgl (by decide), rno := fin rno (by decide), fresh := fun b h => ?_, no := k89 no8 xno.symm }
        · obtain ⟨⟨dd, a1⟩, a2, a3, a4⟩ := u.each i d hd
          have n1 : d.ha ≠ x := fun z => by have := u.rx; rw [← z, a3] at this; cases this
          have n2 : d.sa ≠ x := fun z => by have := u.rx; rw [← z, a4] at this; cases this
          exact ⟨⟨dd, i49.keep _ _ a1 n1⟩, i49.keep _ _ a2 n2, fin (keepr a1 a3) (by intro z; cases z), fin (keepr a2 a4) (by intro z; cases z)⟩
        · have n1 : b ≠ ko := fun z => by rw [z, i9.keep _ _ hko kx] at h; cases h
          have n2 : b ≠ lo := fun z => by rw [z, i9.keep _ _ hlo lx] at h; cases h
          show (if b = ko then Role.ko else if b = lo then Role.lo else rf b) = .out
          rw [if_neg n1, if_neg n2]
          exact r9.out b h
      · show (if b = ko then Role.ko else if b = lo then Role.lo else rf b) = .out
        rw [if_neg n2, if_neg n3]
        exact r9.old b o h n1
end
end G

/-! Runs, 4: run. -/
namespace G
open PySem PySem.Spec PyProof.Rows L2
def g0 (hs : List (Str × Nat)) : GS := ⟨hs.map fun h => List.replicate h.2 none, [], fun _ => False, fun _ => False, none, fun _ => False⟩
theorem init_hand {S : WS} {hs : List (Str × Nat)} (h : Init0 S hs) {i : Nat} {d : HandD} (hd : S.hands[i]? = some d) : ∃ p, hs[i]? = some p ∧ d.slots = List.replicate p.2 none := by
  have e : (S.hands.map (·.slots))[i]? = some d.slots := by rw [List.getElem?_map, hd]; rfl
  rw [h.hands, List.getElem?_map] at e
  obtain ⟨p, hp, e⟩ := Option.map_eq_some_iff.mp e
  exact ⟨p, hp, e.symm⟩
theorem init_len {S : WS} {hs : List (Str × Nat)} (h : Init0 S hs) : S.hands.length = hs.length := by
  have := congrArg List.length h.hands
  rw [List.length_map, List.length_map] at this
  exact this
theorem init_cell {S : WS} {hs : List (Str × Nat)} (h : Init0 S hs) (p : Nat) : S.cell p = none := by
  unfold WS.cell
  rw [h.cells]
  rfl
theorem init_sim {S : WS} {hs : List (Str × Nat)} (h : Init0 S hs) : Sim S (g0 hs) := by
  refine ⟨fun _ => False, ⟨⟨?_, fun i d r hd hr => ?_⟩, fun b z => z.elim, fun n hn => ?_, fun p c hc => ?_, fun p q c d hc => ?_, ?_, fun b => ⟨fun z => z.elim, fun ⟨p, c, hc, _⟩ => ?_⟩, fun p c hc => ?_⟩, ?_⟩
  · rw [init_len h]
    show _ = (hs.map _).length
    rw [List.length_map]
  · obtain ⟨p, hp, e⟩ := init_hand h hd
    have hr : (hs.map fun h => List.replicate h.2 (none : Option Int))[i]? = some r := hr
    rw [List.getElem?_map, hp] at hr
    cases hr
    rw [e]
    exact All2.repl (Rel1.none S _) _
  · rw [h.names] at hn
    cases hn
  · rw [init_cell h] at hc
    cases hc
  · rw [init_cell h] at hc
    cases hc
  · rw [h.born]
    rfl
  · rw [init_cell h] at hc
    cases hc
  · rw [init_cell h] at hc
    cases hc
  · unfold Ph
    rw [h.phase]
    exact ⟨rfl, fun p c hc => by rw [init_cell h] at hc; cases hc⟩
theorem init_bnd {S : WS} {hs : List (Str × Nat)} (h : Init0 S hs) : Bnd (hs.map (·.2)) 0 S := by
  refine ⟨?_, by rw [h.cells]; exact Nat.le_refl _, by rw [h.names]; exact Nat.le_refl _, fun p c hc => by rw [init_cell h] at hc; cases hc⟩
  apply List.ext_getElem?
  intro i
  rw [List.getElem?_map, List.getElem?_map]
  cases hd : S.hands[i]? with
  | none =>
    have : hs[i]? = none := by
      rw [List.getElem?_eq_none_iff] at hd ⊢
      rw [← init_len h]
      exact hd
    rw [this]
    rfl
  | some d =>
    obtain ⟨p, hp, e⟩ := init_hand h hd
    rw [hp]
    show some d.slots.length = some p.2
    rw [e, List.length_replicate]
/-- a scene in the heap, but its rows -/
structure SceneAt (K : PySem.W.Frag) (H : Hp) (sc ko lo rb : Addr) (hs : List (Str × Nat)) : Prop where
  ex : ∃ (ds dk dlo hb : Addr) (room tells : Int) (lk : LK) (ts : List Addr), H sc = some (.ins (He.ga K "Scene") ds [("room", .int room), ("kind", .ref ko), ("hands", .ref hb), ("rows", .ref rb)]) ∧
    H ko = some (.ins (He.ga K "Kind") dk [("looking", .ref lo), ("tells", .int tells)]) ∧ H lo = some (.ins (lkC K lk) dlo []) ∧ H hb = some (.lst (ts.map V.ref)) ∧ All2 (fun t (h : Str × Nat) => H t = some (.tup [.str h.1, .int (h.2 : Int)])) ts hs
  h5 : hs.length ≤ 5
  h9 : ∀ h ∈ hs, h.2 ≤ 9
def spWorldOf (K : PySem.W.Frag) : Sp := fun vs H Q _ => ∃ (sc ko lo rb : Addr) (hs : List (Str × Nat)), vs = [.ref sc] ∧ SceneAt K H sc ko lo rb hs ∧
  ∀ H' S, Rep K H' S → Init0 S hs → Same H H' → (∀ b o, H b = some o → b ≠ ko → b ≠ lo → S.rl b = .out) → Q (.ref S.wo) H'
def RowsAtH (H : Hp) (rb : Addr) (rows : List Row) : Prop := ∃ as : List Addr, H rb = some (.lst (as.map V.ref)) ∧ All2 (fun a r => H a = some (.tup (rowV r))) as rows
/-- what a run leaves -/
def RunEnd (H : Hp) (lb : Addr) (rows : List Row) (hs : List (Str × Nat)) (ess : List (List Ev)) : Prop :=
  (∃ vs, H lb = some (.lst vs) ∧ All2 (EvsP H) vs ess) ∧ (∃ g', LawLog (g0 hs) (rows.zip ess) g') ∧ ess.length ≤ rows.length ∧ (ess.length = rows.length ∨ ∃ es, ess.getLast? = some es ∧ lastLost es) ∧ ∀ p ∈ rows.zip ess, p.1.isSweep = false → p.2.length ≤ 1
def spRun (K : PySem.W.Frag) : Sp := fun vs H Q _ => ∃ (sc ko lo rb : Addr) (hs : List (Str × Nat)) (rows : List Row), vs = [.ref sc, .non] ∧ SceneAt K H sc ko lo rb hs ∧ RowsAtH H rb rows ∧ (∀ r ∈ rows, RowOk (hs.map (·.2)) r) ∧ rows.length ≤ 9000 ∧
  ∀ H' lb ess, (∀ b o, H b = some o → b ≠ ko → b ≠ lo → H' b = some o) → (∀ b, H' b = none → H b = none) → RunEnd H' lb rows hs ess → Q (.ref lb) H'
theorem EvsN.plain {H0 H : Hp} {S : WS} {b : Addr} {es : List Ev} (h : EvsN H0 H S b es) : EvsP H (.ref b) es :=
  let ⟨vs, a, c⟩ := h
  ⟨b, vs, rfl, a.1, c.mono fun _ _ ⟨t, l, e, _, x, y⟩ => ⟨t, l, e, x.1, y.1⟩⟩
theorem zip_snoc {α β : Type} : ∀ {xs : List α} {ys : List β} {x : α} {y : β}, xs[ys.length]? = some x → xs.zip (ys ++ [y]) = xs.zip ys ++ [(x, y)]
  | [], ys, x, y, h => by simp at h
  | a :: xs, [], x, y, h => by
    cases h
    simp
  | a :: xs, b :: ys, x, y, h => by
    have h : xs[ys.length]? = some x := h
    show (a, b) :: xs.zip (ys ++ [y]) = (a, b) :: xs.zip ys ++ [(x, y)]
    rw [zip_snoc h]
    rfl
section
variable {P : Program} {w : World} {K : PySem.W.Frag} {mg : Str → Option Value} {base : Heap}
theorem sc_world_of : FnScope ["scene"] ["scene"] (defScope s_world_of) := ⟨rfl, rfl, rfl, by decide +kernel, rfl, by decide +kernel, by decide +kernel⟩
theorem ok_world_of (C : CtxG K mg) : Ok P w K mg base CX0 5 d_world_of ["scene"] (spWorldOf K) := by
  refine ok_mk0 C.T.f_world_of sc_world_of (fun vs H Q E h => ?_) (fun fd F => F.bindsN fun _ _ _ _ _ _ us hl => match us, hl with | [_], _ => rfl) (fun cdv A outer s H vs Q E hr h => ?_)
  · obtain ⟨sc, ko, lo, rb, hs, rfl, _⟩ := h
    rfl
  · obtain ⟨sc, ko, lo, rb, hs, rfl, sa, k⟩ := h
    obtain ⟨ds, dk, dlo, hb, room, tells, lk, ts, hsc, hko, hlo, hhb, al⟩ := sa.ex
    refine ⟨_, (pss_one (ps_ret (pe_mk (d := d_World_init) C.T.mk_World (ok_World_init C) (hr.mono (by decide)) C.g_World (pa_cons (pe_fld (pv 0) rfl) (pa_cons (pe_fld (pv 0) rfl) (pa_cons (pe_fld (pv 0) rfl) pa_nil)))))), ?_⟩
    refine ⟨_, rfl, rdF hsc C.T.cls_Scene C.T.na_Scene_room rfl ⟨_, rfl, rdF hsc C.T.cls_Scene C.T.na_Scene_kind rfl ⟨_, rfl, rdF hsc C.T.cls_Scene C.T.na_Scene_hands rfl fun x dx hx hdx hne => ?_⟩⟩⟩
    have e0 : Same H (upd (upd H dx (.own x)) x (.ins (He.ga K "World") dx [])) := Same.made hx hdx fun b o h _ => h
    refine ⟨x, dx, ko, dk, lo, dlo, hb, room, tells, lk, hs, ts, rfl, upd_same, e0 _ _ hko, e0 _ _ hlo, e0 _ _ hhb, al.mono fun _ _ z => e0 _ _ z, sa.h5, sa.h9, ne_of_none hko hx, ne_of_none hlo hx, ne_of_none hhb hx, fun t ht => ?_, fun H' S R i0 hw ini ro => ⟨rfl, ?_⟩⟩
    · obtain ⟨h, _, z⟩ := al.mem ht
      exact ne_of_none z hx
    · rw [← hw]
      exact k H' S R i0 (Same.made hx hdx ini.keep) fun b o hb h1 h2 => ro b o (e0 _ _ hb) (ne_of_none hb hx) h1 h2
theorem fn_mk0 {d : He.DefD} {fd : FuncData} {N ps : List Str} {k : Nat} {sp : Sp} (F : FnP K d fd) (S : FnScope N ps d.scope) (len : ∀ vs H Q E, sp vs H Q E → vs.length = ps.length)
    (hbody : ∀ (cdv : Value) (A : Around) (outer : List Env) (s : Shared) (H : Hp) (vs : List V) (Q : VK) (E : XK), Room k (A.deeper (envOfC d.qual d.scope s.heap.objs.size (He.fAd K d.at_) cdv)) → sp vs H Q E →
      ∃ t, PSs (cxOf CX0 P w K mg base N d.qual d.scope (He.fAd K d.at_) cdv A outer s H E).nox d.body t ∧ t { nx := fun _ H' => Q .non H', rt := Q } (start N vs) H) : FnOk P w K mg base CX0 (k + 1) (He.fAd K d.at_) fd ps sp := by
  refine FunD.ok F S len fun cdv A outer s H vs Q E hr hsp => ?_
  obtain ⟨t, h, q⟩ := hbody cdv A outer s H vs Q E hr hsp
  exact ⟨t, h.nox, q⟩
theorem sc_run : FnScope ["scene", "most", "rows", "world", "log", "row"] ["scene", "most"] (defScope s_run) := ⟨rfl, rfl, rfl, by decide +kernel, rfl, by decide +kernel, by decide +kernel⟩
theorem ok_run (C : CtxG K mg) : ∃ fd, FnOk P w K mg base CX0 9 (He.fAd K d_run.at_) fd ["scene", "most"] (spRun K) ∧ PySem.W.keepIn K (.ref (He.fAd K d_run.at_)) = true ∧ ∃ ds, Vals [.non] ds ∧ Binds K fd ["scene", "most"] ds := by
  obtain ⟨fd, F⟩ := C.T.f_run
  refine ⟨fd, fn_mk0 F sc_run (fun vs H Q E h => ?_) (fun cdv A outer s H vs Q E hr h => ?_), F.kp, ?_⟩
  · obtain ⟨sc, ko, lo, rb, hs, rows, rfl, _⟩ := h
    rfl
  · obtain ⟨sc, ko, lo, rb, hs, rows, rfl, sa, ⟨as, hrb, al⟩, ok, many, k⟩ := h
    refine ⟨_, (pss_cons (ps_set (i := 2) sc_run.nd rfl (Or.inl rfl) (pe_fld (pv 0) rfl))
      (pss_cons (ps_if (pt_cmp (pc_notN (pv 1))) (pss_one (ps_set (i := 2) sc_run.nd rfl (Or.inl rfl) (pe_slice sl_list (pv 2) po_none (po_some (pv 1))))) pss_nil)
      (pss_cons (ps_set (i := 3) sc_run.nd rfl (Or.inl rfl) (pe_fn (ok_world_of C) (hr.mono (by decide)) C.g_world_of (pa_cons (pv 0) pa_nil)))
      (pss_cons (ps_set (i := 4) sc_run.nd rfl (Or.inl rfl) (pe_lst pa_nil))
      (pss_cons (ps_for PassesOwn.never rfl (pi_list (pv 2)) (pg_name (i := 5) sc_run.nd rfl (Or.inl rfl)) (pss_cons (ps_expr (pe_bm PySem.F.plainAttrs_list PySem.F.slot_list_append PySem.F.type_list_append mt_append (pv 4) (pa_cons (pe_fn (ok_tried C) (hr.mono (by decide)) C.g_tried (pa_cons (pv 3) (pa_cons (pv 5) pa_nil))) pa_nil)))
      (pss_one (ps_if (pt_val (pe_fn (ok_is_lost C) (hr.mono (by decide)) C.g_is_lost (pa_cons (pv 4) pa_nil))) (pss_one ps_break) pss_nil))))
      (pss_one (ps_ret (pv 4)))))))), ?_⟩
    obtain ⟨ds, dk, dlo, hb, room, tells, lk, ts, hsc, hko, hlo, hhb, alh⟩ := sa.ex
    refine ⟨_, rfl, rdF hsc C.T.cls_Scene C.T.na_Scene_rows rfl ?_⟩
    refine ⟨_, rfl, _, rfl, ifF rfl ?_⟩
    refine ⟨_, rfl, sc, ko, lo, rb, hs, rfl, sa, fun H1 S R i0 e1 ro => ?_⟩
    refine ⟨(by decide), fun lb hlb => ?_⟩
    have R2 := R.same (Same.new (o := .lst []) hlb)
    have e2 := e1.trans (Same.new (o := .lst []) hlb)
    have orb : Out (upd H1 lb (.lst [])) S rb (.lst (as.map V.ref)) := ⟨e2 _ _ hrb, ro _ _ hrb (fun z => by rw [z, hko] at hrb; cases hrb) fun z => by rw [z, hlo] at hrb; cases hrb⟩
    have oas : ∀ a ∈ as, ∀ r, H a = some (.tup (rowV r)) → Out (upd H1 lb (.lst [])) S a (.tup (rowV r)) := fun a _ r h => ⟨e2 _ _ h, ro _ _ h (fun z => by rw [z, hko] at h; cases h) fun z => by rw [z, hlo] at h; cases h⟩
    have las : as.length = rows.length := al.1
    have LO : LensOk (hs.map (·.2)) := ⟨by rw [List.length_map]; exact sa.h5, fun n hn => by obtain ⟨h, hh, rfl⟩ := List.mem_map.mp hn; exact sa.h9 h hh⟩
    have fr0 : ∀ x, upd H1 lb (.lst []) x = none → H1 x = none := fun x => (Same.new hlb).free
    have keepO : ∀ H' S', Go K (upd H1 lb (.lst [])) S H' S' → True := fun _ _ _ => trivial
    have b0 : upd H1 lb (.lst []) lb ≠ none := by rw [upd_same]; intro z; cases z
    refine ⟨_, rfl, rb, rfl, ⟨_, SqL.of orb.1⟩, for_it (walk_list (K := K) (a := rb) (xs := as.map V.ref)) (fun i σ H' => ∃ v5 vs ess g' S', σ = [some (.ref sc), some .non, some (.ref rb), some (.ref S.wo), some (.ref lb), v5] ∧ Go K H1 S H' S' ∧ Out H' S' lb (.lst vs) ∧ vs.length = i ∧
        All2 (fun v es => ∃ b, v = V.ref b ∧ b ≠ lb ∧ EvsN (upd H1 lb (.lst [])) H' S' b es) vs ess ∧ LawLog (g0 hs) (rows.zip ess) g' ∧ Sim S' g' ∧ Bnd (hs.map (·.2)) i S' ∧ S'.wo = S.wo ∧ (∀ x, H' x = none → upd H1 lb (.lst []) x = none) ∧ ∀ p ∈ rows.zip ess, p.1.isSweep = false → p.2.length ≤ 1)
      ⟨none, [], [], g0 hs, S, rfl, (Go.refl R).new hlb, Out.new R hlb, rfl, ⟨rfl, fun i x y h => by simp at h⟩, by rw [List.zip_nil_right]; exact .nil, init_sim i0, init_bnd i0, rfl, (fun x h => h), fun p hp => by rw [List.zip_nil_right] at hp; cases hp⟩ (fun i σ H' _ ⟨_, _, _, _, _, _, G1, _⟩ => SqL.of (G1.keep rb _ (e1 _ _ hrb) orb.2).1) ?_ ?_⟩
    · rintro i x σ H2 H3 hi ⟨v5, vs, ess, g1, S1, rfl, G1, olb, lv, alv, ll, sm, bd, wo1, fr1, one1⟩ ⟨rfl, hx⟩
      rw [List.getElem?_map] at hx
      obtain ⟨a, ha, rfl⟩ := Option.map_eq_some_iff.mp hx
      obtain ⟨r, hr, har⟩ := al.get ha
      have rm := List.mem_of_getElem? hr
      have hir : i < rows.length := (List.getElem?_eq_some_iff.mp hr).1
      have oa := oas a (List.mem_of_getElem? ha) r har
      have ha2 := (G1.keep a _ (e1 _ _ har) oa.2).1
      have le : ess.length = i := alv.1.symm.trans lv
      refine ⟨_, rfl, .inl ⟨rfl, _, SqL.of olb.1⟩, ?_⟩
      refine ⟨_, rfl, _, rfl, hs.map (·.2), i, S1, g1, r, a, by rw [wo1]; rfl, ha2, ⟨G1.rep, sm, bd, LO, by omega⟩, ok r rm, fun H4 S4 b es g2 G4 hbn evs lr ne fn one => ?_⟩
      have olb4 := olb.go G4
      refine ⟨lb, _, _, rfl, rfl, olb4.1, big_line (by omega), ?_⟩
      have blb : b ≠ lb := fun z => by rw [z, olb.1] at hbn; cases hbn
      have nt : ∀ ys, H4 lb ≠ some (.tup ys) := fun ys z => by rw [olb4.1] at z; cases z
      have G5 := (G1.trans G4).mut (o := .lst (vs ++ [.ref b])) hlb olb4.2
      have evs5 : EvsN (upd H1 lb (.lst [])) (upd H4 lb (.lst (vs ++ [.ref b]))) S4 b es := (evs.from fr1).upd nt b0 blb
      have alv5 : All2 (fun v es => ∃ c, v = V.ref c ∧ c ≠ lb ∧ EvsN (upd H1 lb (.lst [])) (upd H4 lb (.lst (vs ++ [.ref b]))) S4 c es) vs ess := alv.mono fun v es ⟨b', e, nb, z⟩ => ⟨b', e, nb, (z.go G4).upd nt b0 nb⟩
      have al5 := All2.snoc alv5 (x := V.ref b) (y := es) ⟨b, rfl, blb, evs5⟩
      have o5 : Out (upd H4 lb (.lst (vs ++ [.ref b]))) S4 lb (.lst (vs ++ [.ref b])) := ⟨upd_same, olb4.2⟩
      have ll5 : LawLog (g0 hs) (rows.zip (ess ++ [es])) g2 := by
        rw [zip_snoc (by rw [le]; exact hr)]
        exact ll.snoc lr
      have one5 : ∀ p ∈ rows.zip (ess ++ [es]), p.1.isSweep = false → p.2.length ≤ 1 := fun p hp => by
        rw [zip_snoc (by rw [le]; exact hr)] at hp
        rcases List.mem_append.mp hp with h | h
        · exact one1 p h
        · rw [List.mem_singleton.mp h]
          exact one
      have fr5 : ∀ x, upd H4 lb (.lst (vs ++ [.ref b])) x = none → upd H1 lb (.lst []) x = none := fun x h => by
        by_cases e : x = lb
        · rw [e, upd_same] at h
          cases h
        · rw [upd_ne e] at h
          exact fr1 x (G4.free x h)
      obtain ⟨e, he⟩ : ∃ e, es.getLast? = some e := by
        cases hq : es.getLast? with
        | none => exact absurd (List.getLast?_eq_none_iff.mp hq) ne
        | some e => exact ⟨e, rfl⟩
      refine ⟨_, rfl, lb, vs ++ [.ref b], .ref b, es, e, rfl, o5.1, by simp, evs5.plain, he, fun H6 e6 => ?_⟩
      have G6 := G5.same e6
      have o6 := o5.same e6
      have al6 : All2 (fun v es => ∃ b, v = V.ref b ∧ b ≠ lb ∧ EvsN (upd H1 lb (.lst [])) H6 S4 b es) (vs ++ [.ref b]) (ess ++ [es]) := al5.mono fun v es ⟨b', q, nb, z⟩ => ⟨b', q, nb, let ⟨us, x1, x2⟩ := z; ⟨us, x1.same e6, x2.mono fun _ _ y => EvN.same y e6⟩⟩
      refine ⟨_, rfl, if2 (fun z => ?_) fun z => ?_⟩
      · have hl := of_decide_eq_true z
        refine ⟨_, rfl, k H6 lb (ess ++ [es]) (fun c o hc n1 n2 => (G6.keep c o (e1 _ _ hc) (ro c o hc n1 n2)).1) (fun c hc => e1.free (G6.free c hc)) ⟨⟨vs ++ [.ref b], o6.1, al6.mono fun v es ⟨b', q, nb, y⟩ => by rw [q]; exact y.plain⟩, ⟨g2, ll5⟩, by rw [List.length_append, le]; simp; omega, .inr ⟨es, by simp, e, he, hl⟩, one5⟩⟩
      · have hl := of_decide_eq_false z
        rcases fn with ⟨e', h1, h2⟩ | ⟨s4, b4, w4⟩
        · rw [he] at h1
          cases h1
          exact absurd h2 hl
        · exact ⟨_, vs ++ [.ref b], ess ++ [es], g2, S4, rfl, G6, o6, by rw [List.length_append, lv]; rfl, al6, ll5, s4, b4, w4.trans wo1, (fun x h => fr5 x (e6.free h)), one5⟩
    · rintro σ H2 ⟨v5, vs, ess, g1, S1, rfl, G1, olb, lv, alv, ll, sm, bd, wo1, fr1, one1⟩
      have le : ess.length = rows.length := by rw [← alv.1, lv, List.length_map, las]
      exact ⟨_, rfl, k H2 lb ess (fun c o hc n1 n2 => (G1.keep c o (e1 _ _ hc) (ro c o hc n1 n2)).1) (fun c hc => e1.free (G1.free c hc)) ⟨⟨vs, olb.1, alv.mono fun v es ⟨b', q, nb, y⟩ => by rw [q]; exact y.plain⟩, ⟨g1, ll⟩, by omega, .inl le, one1⟩⟩
  · obtain ⟨ds, hv, hb⟩ := FunD.binds1 (ps := ["scene", "most"]) F 1 0 (by intro z; cases z) rfl fun T kV doc pm an cdv ct us its hu hi => match us, its, hu, hi with | [_], [_], _, _ => ⟨_, rfl, rfl⟩
    exact ⟨ds, hv, hb⟩
end
end G

/-! The law, 1: numbers drawn, hands, words. -/
namespace G
open PySem PySem.Spec PyProof.Rows L2
theorem at_lt {α : Type} {l : List α} {i : Int} (h0 : 0 ≤ i) (h1 : i < l.length) : ∃ c, atI l i = some c ∧ c ∈ l := by
  obtain ⟨n, rfl⟩ := Int.eq_ofNat_of_zero_le h0
  have hn : n < l.length := by omega
  refine ⟨l[n], ?_, List.getElem_mem hn⟩
  unfold atI
  rw [ixN_nat hn]
  exact List.getElem?_eq_getElem hn
theorem app_len (a b : Str) : (a ++ b).length = a.length + b.length := by
  show (a.cps ++ b.cps).size = a.cps.size + b.cps.size
  exact Array.size_append
def spCellL (K : PySem.W.Frag) : Sp := fun vs H Q _ => ∃ (s : Addr) (xs : List Int) (k : Nat), vs = [.ref s, .int (k : Int)] ∧ SqL K H s (xs.map V.int) ∧ ∀ n : Int, Q (.int n) H
def spDraw : Sp := fun vs H Q _ => ∃ (n p m : Int), vs = [.int n, .int p, .int m] ∧ 0 < p ∧ p < 1152921504606846976 ∧ 0 < m ∧ ∀ r : Int, 0 ≤ r → r < m → Q (.int r) H
def spRoom : Sp := fun vs H Q _ => ∃ n : Int, vs = [.int n] ∧ ∀ r : Int, Q (.int r) H
def spSlot : Sp := fun vs H Q _ => ∃ (d m : Int), vs = [.int d, .int m] ∧ 3 ≤ m ∧ ∀ r : Int, 0 ≤ r → r < m → Q (.int r) H
def spWord : Sp := fun vs H Q _ => ∃ (d m : Int), vs = [.int d, .int m] ∧ ∀ x : Str, Q (.str x) H
/-- hands told, as pairs -/
def HandsAt (H : Hp) (hb : Addr) (hs : List (Str × Nat)) : Prop := ∃ ts : List Addr, H hb = some (.lst (ts.map V.ref)) ∧ All2 (fun t (h : Str × Nat) => H t = some (.tup [.str h.1, .int (h.2 : Int)])) ts hs
structure HsOk (hs : List (Str × Nat)) : Prop where
  lo : 1 ≤ hs.length
  hi : hs.length ≤ 5
  each : ∀ h ∈ hs, 3 ≤ h.2 ∧ h.2 ≤ 9
def spHandsL : Sp := fun vs H Q _ => ∃ n : Int, vs = [.int n] ∧ ∀ H' hb hs, Same H H' → H hb = none → HandsAt H' hb hs → HsOk hs → Q (.ref hb) H'
section
variable {P : Program} {w : World} {K : PySem.W.Frag} {mg : Str → Option Value} {base : Heap}
theorem sc__law_cell : FnScope ["_law_script", "_law_k"] ["_law_script", "_law_k"] (defScope s__law_cell) := ⟨rfl, rfl, rfl, by decide +kernel, rfl, by decide +kernel, by decide +kernel⟩
theorem ok__law_cell (C : CtxG K mg) : Ok P w K mg base CX0 1 d__law_cell ["_law_script", "_law_k"] (spCellL K) := by
  refine ok_mk0 C.T.f__law_cell sc__law_cell (fun vs H Q E h => ?_) (fun fd F => F.bindsN fun _ _ _ _ _ _ us hl => match us, hl with | [_, _], _ => rfl) (fun cdv A outer s H vs Q E hr h => ?_)
  · obtain ⟨s, xs, k, rfl, _⟩ := h
    rfl
  · obtain ⟨s1, xs, k, rfl, hs, q⟩ := h
    refine ⟨_, (pss_cons (ps_if (pt_cmpR op_lt (pv 1) (pe_callB call_len_seq (by rfl) C.fr_len PySem.boot_len (pa_cons (pv 0) pa_nil)) (nomark _)) (pss_one (ps_ret (pe_ix ix_list (pv 0) (pv 1) (fun _ _ => rfl)))) pss_nil)
      (pss_one (ps_ret pe_int))), ?_⟩
    refine ⟨_, rfl, _, rfl, s1, _, rfl, .inl hs, _, _, rfl, rfl, _, rfl, if2 (fun z => ?_) fun z => q 0⟩
    have hk := of_decide_eq_true z
    obtain ⟨c, hc, hm⟩ := at_lt (l := xs.map V.int) (i := (k : Int)) (by omega) hk
    obtain ⟨n, _, rfl⟩ := List.mem_map.mp hm
    exact ⟨_, rfl, _, rfl, s1, _, _, _, rfl, rfl, hs, hc, q n⟩
theorem sc__law_draw : FnScope ["_law_cell_here", "_law_prime", "_law_many", "_law_drawn"] ["_law_cell_here", "_law_prime", "_law_many"] (defScope s__law_draw) := ⟨rfl, rfl, rfl, by decide +kernel, rfl, by decide +kernel, by decide +kernel⟩
theorem ok__law_draw (C : CtxG K mg) : Ok P w K mg base CX0 1 d__law_draw ["_law_cell_here", "_law_prime", "_law_many"] spDraw := by
  refine ok_mk0 C.T.f__law_draw sc__law_draw (fun vs H Q E h => ?_) (fun fd F => F.bindsN fun _ _ _ _ _ _ us hl => match us, hl with | [_, _, _], _ => rfl) (fun cdv A outer s H vs Q E hr h => ?_)
  · obtain ⟨n, p, m, rfl, _⟩ := h
    rfl
  · obtain ⟨n, p, m, rfl, p0, p1, m0, q⟩ := h
    refine ⟨_, (pss_cons (ps_set (i := 3) sc__law_draw.nd rfl (Or.inl rfl) (pe_op op_add (pe_op op_mod (pv 0) (pv 1)) pe_int))
      (pss_one (ps_ret (pe_op op_mod (pe_op op_mod (pe_op op_mul (pe_op op_mod (pe_op op_mul (pv 3) (pv 3)) (pv 1)) pe_int) (pv 1)) (pv 2))))), ?_⟩
    have d0 := Int.emod_nonneg n (by omega : p ≠ 0)
    have d1 := Int.emod_lt_of_pos n p0
    refine ⟨_, rfl, _, rfl, _, _, rfl, rfl, p0, _, _, rfl, rfl, ?_⟩
    refine ⟨_, rfl, _, rfl, _, _, rfl, rfl, .inl ⟨by omega, by omega⟩, _, rfl, _, _, rfl, rfl, p0, _, _, rfl, rfl, .inr ⟨by decide, by decide⟩, _, rfl, _, _, rfl, rfl, p0, _, rfl, _, _, rfl, rfl, m0, q _ (Int.emod_nonneg _ (by omega)) (Int.emod_lt_of_pos _ m0)⟩
theorem sc__law_room : FnScope ["_law_cell_here"] ["_law_cell_here"] (defScope s__law_room) := ⟨rfl, rfl, rfl, by decide +kernel, rfl, by decide +kernel, by decide +kernel⟩
theorem ok__law_room (C : CtxG K mg) : Ok P w K mg base CX0 1 d__law_room ["_law_cell_here"] spRoom := by
  refine ok_mk0 C.T.f__law_room sc__law_room (fun vs H Q E h => ?_) (fun fd F => F.bindsN fun _ _ _ _ _ _ us hl => match us, hl with | [_], _ => rfl) (fun cdv A outer s H vs Q E hr h => ?_)
  · obtain ⟨n, rfl, _⟩ := h
    rfl
  · obtain ⟨n, rfl, q⟩ := h
    refine ⟨_, (pss_cons (ps_if (pt_cmpR op_eq (pe_op op_mod (pv 0) pe_int) pe_int (nomark _)) (pss_one (ps_ret (pe_op op_add pe_int (pe_op op_mod (pe_op op_fdiv (pv 0) pe_int) pe_int)))) pss_nil)
      (pss_cons (ps_if (pt_cmpR op_eq (pe_op op_mod (pv 0) pe_int) pe_int (nomark _)) (pss_one (ps_ret (pe_op op_sub (pe_op op_pow pe_int pe_int) (pe_op op_mod (pe_op op_fdiv (pv 0) pe_int) (pe_op op_pow pe_int pe_int))))) pss_nil)
      (pss_one (ps_ret (pe_op op_add pe_int (pe_op op_mod (pe_op op_mod (pe_op op_mul (pv 0) pe_int) pe_int) (pe_op op_sub (pe_op op_pow pe_int pe_int) pe_int))))))), ?_⟩
    refine ⟨_, rfl, _, _, rfl, rfl, (by show (0 : Int) < _; decide +kernel), rfl, _, rfl, if2 (fun z => ?_) fun z => ?_⟩
    · exact ⟨_, rfl, _, _, rfl, rfl, ⟨by decide, by decide⟩, _, _, rfl, rfl, (by show (0 : Int) < _; decide +kernel), _, _, rfl, rfl, q _⟩
    refine ⟨_, rfl, _, _, rfl, rfl, (by show (0 : Int) < _; decide +kernel), rfl, _, rfl, if2 (fun z => ?_) fun z => ?_⟩
    · exact ⟨_, _, rfl, rfl, ⟨by decide, by decide, by decide⟩, _, rfl, _, _, rfl, rfl, ⟨by decide, by decide⟩, _, _, rfl, rfl, ⟨by decide, by decide, by decide⟩, _, _, rfl, rfl, (by show (0 : Int) < _; decide +kernel), _, _, rfl, rfl, q _⟩
    · exact ⟨_, rfl, _, _, rfl, rfl, .inr ⟨by decide, by decide⟩, _, _, rfl, rfl, (by show (0 : Int) < _; decide +kernel), _, _, rfl, rfl, ⟨by decide, by decide, by decide⟩, _, _, rfl, rfl, _, _, rfl, rfl, (by show (0 : Int) < _; decide +kernel), _, _, rfl, rfl, q _⟩
theorem sc__law_slot : FnScope ["_law_drawn", "_law_size"] ["_law_drawn", "_law_size"] (defScope s__law_slot) := ⟨rfl, rfl, rfl, by decide +kernel, rfl, by decide +kernel, by decide +kernel⟩
theorem ok__law_slot (C : CtxG K mg) : Ok P w K mg base CX0 1 d__law_slot ["_law_drawn", "_law_size"] spSlot := by
  refine ok_mk0 C.T.f__law_slot sc__law_slot (fun vs H Q E h => ?_) (fun fd F => F.bindsN fun _ _ _ _ _ _ us hl => match us, hl with | [_, _], _ => rfl) (fun cdv A outer s H vs Q E hr h => ?_)
  · obtain ⟨n, m, rfl, _⟩ := h
    rfl
  · obtain ⟨n, m, rfl, m3, q⟩ := h
    refine ⟨_, (pss_cons (ps_if (pt_cmpR op_eq (pe_op op_mod (pv 0) pe_int) pe_int (nomark _)) (pss_one (ps_ret (pe_op op_mod (pe_op op_fdiv (pv 0) pe_int) (pv 1)))) pss_nil)
      (pss_one (ps_ret (pe_op op_mod (pe_op op_fdiv (pv 0) pe_int) pe_int)))), ?_⟩
    refine ⟨_, rfl, _, _, rfl, rfl, (by show (0 : Int) < _; decide +kernel), rfl, _, rfl, if2 (fun z => ?_) fun z => ?_⟩
    · exact ⟨_, rfl, _, _, rfl, rfl, ⟨by decide, by decide⟩, _, rfl, _, _, rfl, rfl, by omega, q _ (Int.emod_nonneg _ (by omega)) (Int.emod_lt_of_pos _ (by omega))⟩
    · refine ⟨_, rfl, _, _, rfl, rfl, ⟨by decide, by decide⟩, _, _, rfl, rfl, (by show (0 : Int) < _; decide +kernel), q _ (Int.emod_nonneg _ (by decide)) ?_⟩
      have := Int.emod_lt_of_pos (n / 5) (by decide : (0 : Int) < 3)
      omega
theorem sl_len (z : Str) (k : Nat) (h : ∀ r : Nat, r < k → (Txt.slice z none (some (r : Int))).length ≤ 7) {i : Int} (h0 : 0 ≤ i) (h1 : i < (k : Int)) : (Txt.slice z none (some i)).length ≤ 7 := by
  obtain ⟨n, rfl⟩ := Int.eq_ofNat_of_zero_le h0
  exact h n (by omega)
theorem loom_len {i : Int} (h0 : 0 ≤ i) (h1 : i < 5) : (Txt.slice "loom" none (some i)).length ≤ 7 := sl_len "loom" 5 (by decide +kernel) h0 h1
theorem fern_len {i : Int} (h0 : 0 ≤ i) (h1 : i < 8) : (Txt.slice "fernway" none (some i)).length ≤ 7 := sl_len "fernway" 8 (by decide +kernel) h0 h1
theorem knot_len {i : Int} (h0 : 0 ≤ i) (h1 : i < 5) : (Txt.slice "knot" none (some i)).length ≤ 7 := sl_len "knot" 5 (by decide +kernel) h0 h1
theorem ted_len {i : Int} (h0 : 0 ≤ i) (h1 : i < 4) : (Txt.slice "ted" none (some i)).length ≤ 7 := sl_len "ted" 4 (by decide +kernel) h0 h1
theorem abc_at {i : Int} (h0 : 0 ≤ i) (h1 : i < 26) : ∃ c, atI ("abcdefghijklmnopqrstuvwxyz" : Str).cps.toList i = some c := by
  obtain ⟨c, hc, _⟩ := at_lt (l := ("abcdefghijklmnopqrstuvwxyz" : Str).cps.toList) h0 (by rw [show ("abcdefghijklmnopqrstuvwxyz" : Str).cps.toList.length = 26 by decide +kernel]; exact h1)
  exact ⟨c, hc⟩
theorem few_line {n : Nat} (h : n ≤ 1000) : n ≤ sizeLine := Nat.le_of_lt (big_line (by omega))
theorem sign_len (c : Nat) : (⟨#[c]⟩ : Str).length = 1 := rfl
theorem sc__law_word : FnScope ["_law_seed", "_law_number", "_law_letters", "_law_sign"] ["_law_seed", "_law_number"] (defScope s__law_word) := ⟨rfl, rfl, rfl, by decide +kernel, rfl, by decide +kernel, by decide +kernel⟩
theorem ok__law_word (C : CtxG K mg) : Ok P w K mg base CX0 1 d__law_word ["_law_seed", "_law_number"] spWord := by
  refine ok_mk0 C.T.f__law_word sc__law_word (fun vs H Q E h => ?_) (fun fd F => F.bindsN fun _ _ _ _ _ _ us hl => match us, hl with | [_, _], _ => rfl) (fun cdv A outer s H vs Q E hr h => ?_)
  · obtain ⟨n, m, rfl, _⟩ := h
    rfl
  · obtain ⟨n, m, rfl, q⟩ := h
    refine ⟨_, (pss_cons (ps_set (i := 2) sc__law_word.nd rfl (Or.inl rfl) pe_str)
      (pss_cons (ps_set (i := 3) sc__law_word.nd rfl (Or.inl rfl) (pe_ix ix_str (pv 2) (pe_op op_mod (pe_op op_add (pe_op op_fdiv (pv 0) pe_int) (pe_op op_mul pe_int (pv 1))) pe_int) (fun _ _ => rfl)))
      (pss_one (ps_ret (pe_op op_add_str (pe_op op_add_str (pe_slice C8.sl_txt pe_str po_none (po_some (pe_op op_mod (pv 0) pe_int))) (pv 3)) (pe_slice C8.sl_txt pe_str po_none (po_some (pe_op op_mod (pe_op op_fdiv (pv 0) pe_int) pe_int)))))))), ?_⟩
    obtain ⟨c, hc⟩ := abc_at (Int.emod_nonneg (n / 3 + 7 * m) (by decide)) (Int.emod_lt_of_pos (n / 3 + 7 * m) (by decide))
    have l1 := knot_len (Int.emod_nonneg n (by decide)) (Int.emod_lt_of_pos n (by decide))
    have l2 := ted_len (Int.emod_nonneg (n / 5) (by decide)) (Int.emod_lt_of_pos (n / 5) (by decide))
    refine ⟨_, rfl, _, rfl, _, _, rfl, rfl, ⟨by decide, by decide⟩, _, rfl, _, _, rfl, rfl, .inl ⟨by decide, by decide⟩, _, _, rfl, rfl, _, _, rfl, rfl, (by show (0 : Int) < _; decide +kernel), _, _, c, rfl, rfl, (by decide +kernel), hc, ?_⟩
    refine ⟨_, rfl, _, _, rfl, rfl, (by show (0 : Int) < _; decide +kernel), _, rfl, _, rfl, (by decide +kernel), _, rfl, _, _, rfl, rfl, few_line (by rw [sign_len]; omega), ?_⟩
    refine ⟨_, rfl, _, _, rfl, rfl, ⟨by decide, by decide⟩, _, _, rfl, rfl, (by show (0 : Int) < _; decide +kernel), _, rfl, _, rfl, (by decide +kernel), _, _, rfl, rfl, few_line (by rw [app_len, sign_len]; omega), q _⟩
end
end G

/-! The law, 2: hands, rows, kinds. -/
namespace G
open PySem PySem.Spec PyProof.Rows L2
def spMakeL : Sp := fun vs H Q _ => ∃ (n : Int) (h s : Nat), vs = [.int n, .int (h : Int), .int (s : Int)] ∧ ∀ H' t many bulk, Same H H' → H t = none → H' t = some (.tup (rowV (.make h s many bulk))) → many ≤ 8 → Q (.ref t) H'
def spStepsL : Sp := fun vs H Q _ => ∃ (n most : Int), vs = [.int n, .int most] ∧ 1 ≤ most ∧ most ≤ 999 ∧ ∀ H' t m, Same H H' → H t = none → H' t = some (.tup (rowV (.sweep m))) → 1 ≤ m → m ≤ 1000 → Q (.ref t) H'
def spOtherL : Sp := fun vs H Q _ => ∃ (n seed : Int) (h s : Nat) (hb : Addr) (hs : List (Str × Nat)), vs = [.int n, .int (h : Int), .int (s : Int), .ref hb, .int seed] ∧ HandsAt H hb hs ∧ HsOk hs ∧ SlotOk (hs.map (·.2)) h s ∧
  ∀ H' t r, Same H H' → H t = none → H' t = some (.tup (rowV r)) → RowOk (hs.map (·.2)) r → Q (.ref t) H'
def spRowL : Sp := fun vs H Q _ => ∃ (n seed most : Int) (hb : Addr) (hs : List (Str × Nat)), vs = [.int n, .ref hb, .int seed, .int most] ∧ HandsAt H hb hs ∧ HsOk hs ∧ 1 ≤ most ∧ most ≤ 999 ∧
  ∀ H' t r, Same H H' → H t = none → H' t = some (.tup (rowV r)) → RowOk (hs.map (·.2)) r → Q (.ref t) H'
def spRowsL (K : PySem.W.Frag) : Sp := fun vs H Q _ => ∃ (cb hb : Addr) (cs : List Int) (hs : List (Str × Nat)) (seed most : Int), vs = [.ref cb, .ref hb, .int seed, .int most] ∧ H cb = some (.lst (cs.map V.int)) ∧ cs.length ≤ 1000 ∧ HandsAt H hb hs ∧ HsOk hs ∧ 1 ≤ most ∧ most ≤ 999 ∧
  ∀ H' rb as rows, Same H H' → H rb = none → H' rb = some (.lst (as.map V.ref)) → All2 (fun a r => H a = none ∧ a ≠ rb ∧ H' a = some (.tup (rowV r))) as rows → rows.length = cs.length → (∀ r ∈ rows, RowOk (hs.map (·.2)) r) → Q (.ref rb) H'
def spKindL (K : PySem.W.Frag) : Sp := fun vs H Q _ => ∃ n : Int, vs = [.int n] ∧ ∀ H' ko dk lo dlo lk (tells : Int), Same H H' → H ko = none → H lo = none → H' ko = some (.ins (He.ga K "Kind") dk [("looking", .ref lo), ("tells", .int tells)]) → H' lo = some (.ins (lkC K lk) dlo []) → Q (.ref ko) H'
section
variable {P : Program} {w : World} {K : PySem.W.Frag} {mg : Str → Option Value} {base : Heap}
theorem sc__law_hands : FnScope ["_law_cell_here", "_law_letters", "_law_hands_here", "_law_hand", "_law_sign", "_law_name"] ["_law_cell_here"] (defScope s__law_hands) := ⟨rfl, rfl, rfl, by decide +kernel, rfl, by decide +kernel, by decide +kernel⟩
theorem ok__law_hands (C : CtxG K mg) : Ok P w K mg base CX0 1 d__law_hands ["_law_cell_here"] spHandsL := by
  refine ok_mk0 C.T.f__law_hands sc__law_hands (fun vs H Q E h => ?_) (fun fd F => F.bindsN fun _ _ _ _ _ _ us hl => match us, hl with | [_], _ => rfl) (fun cdv A outer s H vs Q E hr h => ?_)
  · obtain ⟨n, rfl, _⟩ := h
    rfl
  · obtain ⟨n, rfl, k⟩ := h
    refine ⟨_, (pss_cons (ps_set (i := 1) sc__law_hands.nd rfl (Or.inl rfl) pe_str)
      (pss_cons (ps_set (i := 2) sc__law_hands.nd rfl (Or.inl rfl) (pe_lst pa_nil))
      (pss_cons (ps_for PassesOwn.never rfl (pi_range1 (by rfl) C.fr_range (pa_cons (pe_op op_add pe_int (pe_op op_mod (pv 0) pe_int)) pa_nil)) (pg_name (i := 3) sc__law_hands.nd rfl (Or.inl rfl)) (pss_cons (ps_set (i := 4) sc__law_hands.nd rfl (Or.inl rfl) (pe_ix ix_str (pv 1) (pe_op op_mod (pe_op op_add (pe_op op_fdiv (pv 0) pe_int) (pe_op op_mul pe_int (pv 3))) pe_int) (fun _ _ => rfl)))
      (pss_cons (ps_set (i := 5) sc__law_hands.nd rfl (Or.inl rfl) (pe_op op_add_str (pe_op op_add_str (pe_slice C8.sl_txt pe_str po_none (po_some (pe_op op_mod (pe_op op_fdiv (pv 0) pe_int) pe_int))) (pv 4)) (pe_slice C8.sl_txt pe_str po_none (po_some (pe_op op_mod (pe_op op_fdiv (pv 0) pe_int) pe_int)))))
      (pss_one (ps_expr (pe_bm PySem.F.plainAttrs_list PySem.F.slot_list_append PySem.F.type_list_append mt_append (pv 2) (pa_cons (pe_tup (pa_cons (pv 5) (pa_cons (pe_op op_add pe_int (pe_op op_mul (pe_op op_mod (pe_op op_add (pe_op op_fdiv (pv 0) pe_int) (pe_op op_mul (pe_op op_mul pe_int (pv 3)) (pv 3))) pe_int) (pe_op op_mod (pe_op op_fdiv (pv 0) pe_int) pe_int))) pa_nil))) pa_nil)))))))
      (pss_one (ps_ret (pv 2)))))), ?_⟩
    have j0 := Int.emod_nonneg n (by decide : (5 : Int) ≠ 0)
    have j1 := Int.emod_lt_of_pos n (by decide : (0 : Int) < 5)
    refine ⟨(by decide), fun hb hhb => ?_⟩
    have e0 : Same H (upd H hb (.lst [])) := Same.new hhb
    refine ⟨_, rfl, _, _, rfl, rfl, (by show (0 : Int) < _; decide), _, _, rfl, rfl, _, rfl, by omega, by omega, for_range (fun i σ H' => ∃ v3 v4 v5 ts hs, σ = [some (.int n), some (.str "abcdefghijklmnopqrstuvwxyz"), some (.ref hb), v3, v4, v5] ∧ Same H H' ∧ H' hb = some (.lst (ts.map V.ref)) ∧ All2 (fun t (h : Str × Nat) => H' t = some (.tup [.str h.1, .int (h.2 : Int)])) ts hs ∧ hs.length = i ∧ ∀ h ∈ hs, 3 ≤ h.2 ∧ h.2 ≤ 9)
      ⟨none, none, none, [], [], rfl, e0, upd_same, ⟨rfl, fun i x y h => by simp at h⟩, rfl, fun h hh => by cases hh⟩ ?_ ?_⟩
    · rintro i σ H1 hi ⟨v3, v4, v5, ts, hs, rfl, e1, hb1, al, hl, ok⟩
      obtain ⟨c, hc⟩ := abc_at (Int.emod_nonneg (n / 5 + 5 * (0 + (i : Int))) (by decide)) (Int.emod_lt_of_pos (n / 5 + 5 * (0 + (i : Int))) (by decide))
      have l1 := loom_len (Int.emod_nonneg (n / 7) (by decide)) (Int.emod_lt_of_pos (n / 7) (by decide))
      have l2 := fern_len (Int.emod_nonneg (n / 11) (by decide)) (Int.emod_lt_of_pos (n / 11) (by decide))
      have hi5 : i < 6 := by omega
      refine ⟨_, rfl, _, rfl, _, _, rfl, rfl, ⟨by decide, by decide⟩, _, rfl, _, _, rfl, rfl, .inl ⟨by decide, by decide⟩, _, _, rfl, rfl, _, _, rfl, rfl, (by show (0 : Int) < _; decide), _, _, c, rfl, rfl, (by decide +kernel), hc, ?_⟩
      refine ⟨_, rfl, _, _, rfl, rfl, ⟨by decide, by decide⟩, _, _, rfl, rfl, (by show (0 : Int) < _; decide), _, rfl, _, rfl, (by decide +kernel), _, rfl, _, _, rfl, rfl, few_line (by rw [sign_len]; omega), ?_⟩
      refine ⟨_, rfl, _, _, rfl, rfl, ⟨by decide, by decide⟩, _, _, rfl, rfl, (by show (0 : Int) < _; decide), _, rfl, _, rfl, (by decide +kernel), _, _, rfl, rfl, few_line (by rw [app_len, sign_len]; omega), ?_⟩
      refine ⟨_, rfl, .inl ⟨rfl, _, SqL.of hb1⟩, ?_⟩
      have y0 := Int.emod_nonneg (n / 17) (by decide : (2 : Int) ≠ 0)
      have y1 := Int.emod_lt_of_pos (n / 17) (by decide : (0 : Int) < 2)
      have x0 := Int.emod_nonneg (n / 3 + 2 * (0 + (i : Int)) * (0 + (i : Int))) (by decide : (7 : Int) ≠ 0)
      have x1 := Int.emod_lt_of_pos (n / 3 + 2 * (0 + (i : Int)) * (0 + (i : Int))) (by decide : (0 : Int) < 7)
      refine ⟨_, rfl, _, rfl, _, _, rfl, rfl, ⟨by decide, by decide⟩, _, rfl, _, _, rfl, rfl, .inl ⟨by decide, by decide⟩, _, rfl, _, _, rfl, rfl, .inl ⟨by omega, by omega⟩, _, _, rfl, rfl, _, _, rfl, rfl, (by show (0 : Int) < _; decide), _, rfl, _, _, rfl, rfl, ⟨by decide, by decide⟩, _, _, rfl, rfl, (by show (0 : Int) < _; decide), _, _, rfl, rfl, .inl ⟨by omega, by omega⟩, _, _, rfl, rfl, (by show 2 ≤ sizeLine; decide), fun t ht => ?_⟩
      generalize (n / 3 + 2 * (0 + (i : Int)) * (0 + (i : Int))) % 7 = x at x0 x1 ht ⊢
      generalize n / 17 % 2 = y at y0 y1 ht ⊢
      have m0 : 3 ≤ 3 + x * y ∧ 3 + x * y ≤ 9 := by
        rcases (show y = 0 ∨ y = 1 by omega) with rfl | rfl
        · simp
        · simp
          omega
      obtain ⟨m, hm⟩ := Int.eq_ofNat_of_zero_le (show 0 ≤ 3 + x * y by omega)
      have hV : (fun i j : Int => V.int (i + j)) 3 (x * y) = V.int (m : Int) := congrArg V.int hm
      rw [hV]
      generalize Txt.slice ("loom" : Str) none (some (n / 7 % 5)) ++ (⟨#[c]⟩ : Str) ++ Txt.slice ("fernway" : Str) none (some (n / 11 % 8)) = nm
      have e2 := e1.trans (Same.new (o := .tup [V.str nm, .int (m : Int)]) ht)
      have hb2 := Same.new (o := .tup [V.str nm, .int (m : Int)]) ht _ _ hb1
      have tl : ts.length = i := al.1.trans hl
      refine ⟨hb, _, _, rfl, rfl, hb2, (by rw [List.length_map]; exact big_line (by omega)), ?_⟩
      have tb : t ≠ hb := (ne_of_none hb1 ht).symm
      refine ⟨_, _, _, ts ++ [t], hs ++ [(nm, m)], rfl, Same.mut e2 hhb, (by rw [upd_same, List.map_append]; rfl), All2.snoc ⟨al.1, fun j a h ha hh => ?_⟩ ?_, (by rw [List.length_append, hl]; rfl), fun h hh => ?_⟩
      · have z := al.2 j a h ha hh
        have ab : a ≠ hb := fun q => by rw [q, hb1] at z; cases z
        rw [upd_ne ab, upd_ne (ne_of_none z ht)]
        exact z
      · rw [upd_ne tb, upd_same]
      · rcases List.mem_append.mp hh with h1 | h1
        · exact ok h h1
        · rw [List.mem_singleton.mp h1]
          show 3 ≤ m ∧ m ≤ 9
          omega
    · rintro σ H1 ⟨v3, v4, v5, ts, hs, rfl, e1, hb1, al, hl, ok⟩
      exact ⟨_, rfl, k H1 hb hs e1 hhb ⟨ts, hb1, al⟩ ⟨by omega, by omega, ok⟩⟩
theorem sc__law_make : FnScope ["_law_n", "_law_hand", "_law_slot_here", "_law_many", "_law_bulk"] ["_law_n", "_law_hand", "_law_slot_here"] (defScope s__law_make) := ⟨rfl, rfl, rfl, by decide +kernel, rfl, by decide +kernel, by decide +kernel⟩
theorem ok__law_make (C : CtxG K mg) : Ok P w K mg base CX0 2 d__law_make ["_law_n", "_law_hand", "_law_slot_here"] spMakeL := by
  refine ok_mk0 C.T.f__law_make sc__law_make (fun vs H Q E h => ?_) (fun fd F => F.bindsN fun _ _ _ _ _ _ us hl => match us, hl with | [_, _, _], _ => rfl) (fun cdv A outer s H vs Q E hr h => ?_)
  · obtain ⟨n, h, s, rfl, _⟩ := h
    rfl
  · obtain ⟨n, h, s', rfl, k⟩ := h
    refine ⟨_, (pss_cons (ps_set (i := 3) sc__law_make.nd rfl (Or.inl rfl) (pe_ix ix_list (pe_lst (pa_cons pe_int (pa_cons pe_int (pa_cons pe_int (pa_cons pe_int (pa_cons pe_int (pa_cons pe_int (pa_cons pe_int (pa_cons pe_int (pa_cons pe_int (pa_cons pe_int pa_nil))))))))))) (pe_fn (ok__law_draw C) (hr.mono (by decide)) C.g__law_draw (pa_cons (pv 0) (pa_cons pe_int (pa_cons pe_int pa_nil)))) (fun _ _ => rfl)))
      (pss_cons (ps_set (i := 4) sc__law_make.nd rfl (Or.inl rfl) (pe_op op_mod (pv 0) pe_int))
      (pss_cons (ps_if (pt_cmpR op_eq (pe_fn (ok__law_draw C) (hr.mono (by decide)) C.g__law_draw (pa_cons (pv 0) (pa_cons pe_int (pa_cons pe_int pa_nil)))) pe_int (nomark _)) (pss_one (ps_set (i := 4) sc__law_make.nd rfl (Or.inl rfl) (pe_op op_mod (pv 0) (pe_op op_add (pe_op op_pow pe_int pe_int) pe_int)))) pss_nil)
      (pss_one (ps_ret (pe_tup (pa_cons pe_str (pa_cons (pv 1) (pa_cons (pv 2) (pa_cons (pv 3) (pa_cons (pv 4) pa_nil))))))))))), ?_⟩
    refine ⟨(by show 10 ≤ sizeLine; decide), fun l hl => ?_⟩
    have e1 : Same H (upd H l (.lst [.int 1, .int 1, .int 1, .int 2, .int 2, .int 2, .int 2, .int 3, .int 0, .int 8])) := Same.new hl
    refine ⟨_, rfl, n, 998717, 10, rfl, (by decide), (by decide), (by decide), fun r r0 r1 => ?_⟩
    obtain ⟨v, hv, hm⟩ := at_lt (l := [V.int 1, .int 1, .int 1, .int 2, .int 2, .int 2, .int 2, .int 3, .int 0, .int 8]) r0 r1
    have hv8 : ∃ m : Nat, v = .int (m : Int) ∧ m ≤ 8 := by
      simp only [List.mem_cons, List.not_mem_nil, or_false] at hm
      rcases hm with q | q | q | q | q | q | q | q | q | q <;> first | exact ⟨0, q, by decide⟩ | exact ⟨1, q, by decide⟩ | exact ⟨2, q, by decide⟩ | exact ⟨3, q, by decide⟩ | exact ⟨8, q, by decide⟩
    obtain ⟨m, rfl, m8⟩ := hv8
    refine ⟨l, _, r, _, rfl, rfl, SqL.of upd_same, hv, ?_⟩
    refine ⟨_, rfl, _, _, rfl, rfl, (by show (0 : Int) < _; decide), ?_⟩
    refine ⟨_, rfl, n, 998749, 8, rfl, (by decide), (by decide), (by decide), fun r2 _ _ => ⟨rfl, _, rfl, if2 (fun _ => ?_) fun _ => ?_⟩⟩
    · refine ⟨_, rfl, _, _, rfl, rfl, ⟨by decide, by decide, by decide⟩, _, _, rfl, rfl, _, _, rfl, rfl, (by show (0 : Int) < _; decide +kernel), ?_⟩
      exact ⟨_, rfl, _, rfl, _, rfl, _, rfl, (by show 5 ≤ sizeLine; decide), fun t ht => k _ t m _ (e1.trans (Same.new ht)) (e1.free ht) upd_same m8⟩
    · exact ⟨_, rfl, _, rfl, _, rfl, _, rfl, (by show 5 ≤ sizeLine; decide), fun t ht => k _ t m _ (e1.trans (Same.new ht)) (e1.free ht) upd_same m8⟩
theorem sc__law_steps : FnScope ["_law_n", "_law_most", "_law_drawn"] ["_law_n", "_law_most"] (defScope s__law_steps) := ⟨rfl, rfl, rfl, by decide +kernel, rfl, by decide +kernel, by decide +kernel⟩
theorem ok__law_steps (C : CtxG K mg) : Ok P w K mg base CX0 2 d__law_steps ["_law_n", "_law_most"] spStepsL := by
  refine ok_mk0 C.T.f__law_steps sc__law_steps (fun vs H Q E h => ?_) (fun fd F => F.bindsN fun _ _ _ _ _ _ us hl => match us, hl with | [_, _], _ => rfl) (fun cdv A outer s H vs Q E hr h => ?_)
  · obtain ⟨n, m, rfl, _⟩ := h
    rfl
  · obtain ⟨n, most, rfl, m1, m2, k⟩ := h
    refine ⟨_, (pss_cons (ps_set (i := 2) sc__law_steps.nd rfl (Or.inl rfl) (pe_fn (ok__law_draw C) (hr.mono (by decide)) C.g__law_draw (pa_cons (pv 0) (pa_cons pe_int (pa_cons pe_int pa_nil)))))
      (pss_cons (ps_if (pt_cmpR op_eq (pe_op op_mod (pv 2) pe_int) pe_int (nomark _)) (pss_one (ps_ret (pe_tup (pa_cons pe_str (pa_cons (pe_op op_add pe_int (pe_op op_mod (pe_op op_fdiv (pv 2) pe_int) pe_int)) pa_nil))))) pss_nil)
      (pss_one (ps_ret (pe_tup (pa_cons pe_str (pa_cons (pe_op op_add pe_int (pe_op op_mod (pe_op op_fdiv (pv 2) pe_int) (pv 1))) pa_nil))))))), ?_⟩
    refine ⟨_, rfl, n, 998759, 1000, rfl, (by decide), (by decide), (by decide), fun r r0 r1 => ?_⟩
    have fin : ∀ x : Int, 0 ≤ x → x ≤ 998 → ∀ t, H t = none → Q (.ref t) (upd H t (.tup [.str "sweep", .int (1 + x)])) := fun x x0 x1 t ht => by
      obtain ⟨m, hm⟩ := Int.eq_ofNat_of_zero_le (show 0 ≤ 1 + x by omega)
      rw [hm]
      exact k _ t m (Same.new ht) ht upd_same (by omega) (by omega)
    refine ⟨_, rfl, _, _, rfl, rfl, (by show (0 : Int) < _; decide), rfl, _, rfl, if2 (fun _ => ?_) fun _ => ?_⟩
    · have a0 := Int.emod_nonneg (r / 2) (by decide : (4 : Int) ≠ 0)
      have a1 := Int.emod_lt_of_pos (r / 2) (by decide : (0 : Int) < 4)
      exact ⟨_, rfl, _, _, rfl, rfl, ⟨by decide, by decide⟩, _, _, rfl, rfl, (by show (0 : Int) < _; decide), _, _, rfl, rfl, (by show 2 ≤ sizeLine; decide), fun t ht => fin _ a0 (by omega) t ht⟩
    · have a0 := Int.emod_nonneg (r / 2) (by omega : most ≠ 0)
      have a1 := Int.emod_lt_of_pos (r / 2) (by omega : 0 < most)
      exact ⟨_, rfl, _, _, rfl, rfl, ⟨by decide, by decide⟩, _, rfl, _, _, rfl, rfl, (by show (0 : Int) < _; omega), _, _, rfl, rfl, (by show 2 ≤ sizeLine; decide), fun t ht => fin _ a0 (by omega) t ht⟩
end
end G

/-! The law, 3: rows. -/
namespace G
open PySem PySem.Spec PyProof.Rows L2
theorem hands_at {H : Hp} {hb : Addr} {hs : List (Str × Nat)} (h : HandsAt H hb hs) {i : Nat} (hi : i < hs.length) : ∃ (ts : List Addr) (t : Addr) (p : Str × Nat), H hb = some (.lst (ts.map V.ref)) ∧ ts[i]? = some t ∧ hs[i]? = some p ∧ H t = some (.tup [.str p.1, .int (p.2 : Int)]) ∧ ts.length = hs.length := by
  obtain ⟨ts, h1, al⟩ := h
  have hp : hs[i]? = some hs[i] := List.getElem?_eq_getElem hi
  obtain ⟨t, ht, z⟩ := al.get' hp
  exact ⟨ts, t, _, h1, ht, hp, z, al.1⟩
theorem slot_ok {hs : List (Str × Nat)} {i s : Nat} {p : Str × Nat} (h : hs[i]? = some p) (hs' : s < p.2) : SlotOk (hs.map (·.2)) i s := ⟨p.2, by rw [List.getElem?_map, h]; rfl, hs'⟩
section
variable {P : Program} {w : World} {K : PySem.W.Frag} {mg : Str → Option Value} {base : Heap}
theorem sc__law_other : FnScope ["_law_n", "_law_hand", "_law_slot_here", "_law_hands_here", "_law_seed", "_law_sort", "_law_word_here", "_law_taker", "_law_size"] ["_law_n", "_law_hand", "_law_slot_here", "_law_hands_here", "_law_seed"] (defScope s__law_other) := ⟨rfl, rfl, rfl, by decide +kernel, rfl, by decide +kernel, by decide +kernel⟩
theorem ok__law_other (C : CtxG K mg) : Ok P w K mg base CX0 2 d__law_other ["_law_n", "_law_hand", "_law_slot_here", "_law_hands_here", "_law_seed"] spOtherL := by
  refine ok_mk0 C.T.f__law_other sc__law_other (fun vs H Q E h => ?_) (fun fd F => F.bindsN fun _ _ _ _ _ _ us hl => match us, hl with | [_, _, _, _, _], _ => rfl) (fun cdv A outer s H vs Q E hr h => ?_)
  · obtain ⟨n, seed, h, s, hb, hs, rfl, _⟩ := h
    rfl
  · obtain ⟨n, seed, h, s', hb, hs, rfl, ha, ho, so, k⟩ := h
    refine ⟨_, (pss_cons (ps_set (i := 5) sc__law_other.nd rfl (Or.inl rfl) (pe_op op_mod (pv 0) pe_int))
      (pss_cons (ps_set (i := 6) sc__law_other.nd rfl (Or.inl rfl) (pe_fn (ok__law_word C) (hr.mono (by decide)) C.g__law_word (pa_cons (pv 4) (pa_cons (pe_fn (ok__law_draw C) (hr.mono (by decide)) C.g__law_draw (pa_cons (pv 0) (pa_cons pe_int (pa_cons pe_int pa_nil)))) pa_nil))))
      (pss_cons (ps_if (pt_cmpR op_eq (pv 5) pe_int (nomark _)) (pss_cons (ps_set (i := 7) sc__law_other.nd rfl (Or.inl rfl) (pe_fn (ok__law_draw C) (hr.mono (by decide)) C.g__law_draw (pa_cons (pv 0) (pa_cons pe_int (pa_cons (pe_callB call_len_seq (by rfl) C.fr_len PySem.boot_len (pa_cons (pv 3) pa_nil)) pa_nil)))))
      (pss_cons (ps_set (i := 8) sc__law_other.nd rfl (Or.inl rfl) (pe_ix ix_tup (pe_ix ix_list (pv 3) (pv 7) (fun _ _ => rfl)) pe_int (fun _ _ => rfl)))
      (pss_one (ps_ret (pe_tup (pa_cons pe_str (pa_cons (pv 1) (pa_cons (pv 2) (pa_cons (pv 7) (pa_cons (pe_fn (ok__law_slot C) (hr.mono (by decide)) C.g__law_slot (pa_cons (pe_fn (ok__law_draw C) (hr.mono (by decide)) C.g__law_draw (pa_cons (pv 0) (pa_cons pe_int (pa_cons pe_int pa_nil)))) (pa_cons (pv 8) pa_nil))) pa_nil)))))))))) pss_nil)
      (pss_cons (ps_if (pt_cmpR op_eq (pv 5) pe_int (nomark _)) (pss_one (ps_ret (pe_tup (pa_cons pe_str (pa_cons (pv 1) (pa_cons (pv 2) (pa_cons (pv 6) pa_nil))))))) pss_nil)
      (pss_cons (ps_if (pt_cmpR op_eq (pv 5) pe_int (nomark _)) (pss_one (ps_ret (pe_tup (pa_cons pe_str (pa_cons (pv 1) (pa_cons (pv 2) (pa_cons (pv 6) pa_nil))))))) pss_nil)
      (pss_cons (ps_if (pt_cmpR op_eq (pe_op op_mod (pe_op op_fdiv (pv 0) pe_int) pe_int) pe_int (nomark _)) (pss_one (ps_ret (pe_tup (pa_cons pe_str (pa_cons (pv 1) (pa_cons (pv 2) pa_nil)))))) pss_nil)
      (pss_cons (ps_if (pt_cmpR op_eq (pe_op op_mod (pe_op op_fdiv (pv 0) pe_int) pe_int) pe_int (nomark _)) (pss_one (ps_ret (pe_tup (pa_cons pe_str (pa_cons (pv 1) (pa_cons (pv 2) (pa_cons (pe_op op_mod (pv 0) (pe_op op_pow pe_int pe_int)) pa_nil))))))) pss_nil)
      (pss_one (ps_ret (pe_tup (pa_cons pe_str (pa_cons (pv 1) (pa_cons (pv 2) (pa_cons (pe_un un_neg (pe_op op_mod (pe_op op_mul (pv 0) pe_int) (pe_op op_pow pe_int pe_int))) pa_nil)))))))))))))), ?_⟩
    have fin : ∀ r t, H t = none → RowOk (hs.map (·.2)) r → Q (.ref t) (upd H t (.tup (rowV r))) := fun r t ht ok => k _ t r (Same.new ht) ht upd_same ok
    refine ⟨_, rfl, _, _, rfl, rfl, (by show (0 : Int) < _; decide), ?_⟩
    refine ⟨_, rfl, _, rfl, n, 998779, 3, rfl, (by decide), (by decide), (by decide), fun r0 _ _ => ⟨_, _, rfl, fun word => ?_⟩⟩
    refine ⟨_, rfl, rfl, _, rfl, if2 (fun _ => ?_) fun _ => ?_⟩
    · have lo := ho.lo
      obtain ⟨ts0, _, _, hts, _, _, _, tl0⟩ := hands_at ha (i := 0) (by omega)
      refine ⟨_, rfl, _, rfl, _, _, rfl, .inl (SqL.of hts), n, 998813, ((hs.length : Nat) : Int), by rw [List.length_map, tl0]; rfl, (by decide), (by decide), by omega, fun r1 a0 a1 => ?_⟩
      obtain ⟨g, rfl⟩ := Int.eq_ofNat_of_zero_le a0
      have hg : g < hs.length := by omega
      obtain ⟨ts, t1, p, hb1, ht1, hp, hpt, _⟩ := hands_at ha hg
      refine ⟨_, rfl, _, rfl, rdL (SqL.of hb1) (by rw [List.getElem?_map, ht1]; rfl) (rdT (i := 1) hpt rfl ?_)⟩
      have p3 := (ho.each p (List.mem_of_getElem? hp)).1
      refine ⟨_, rfl, _, rfl, _, rfl, _, rfl, n, 998819, 5000, rfl, (by decide), (by decide), (by decide), fun r2 _ _ => ⟨_, rfl, _, _, rfl, by omega, fun r3 b0 b1 => ?_⟩⟩
      obtain ⟨t2, rfl⟩ := Int.eq_ofNat_of_zero_le b0
      exact ⟨(by show 5 ≤ sizeLine; decide), fun t ht => fin (.give h s' g t2) t ht ⟨so, slot_ok hp (by omega)⟩⟩
    refine ⟨_, rfl, rfl, _, rfl, if2 (fun _ => ?_) fun _ => ?_⟩
    · exact ⟨_, rfl, _, rfl, _, rfl, (by show 4 ≤ sizeLine; decide), fun t ht => fin (.name h s' word) t ht so⟩
    refine ⟨_, rfl, rfl, _, rfl, if2 (fun _ => ?_) fun _ => ?_⟩
    · exact ⟨_, rfl, _, rfl, _, rfl, (by show 4 ≤ sizeLine; decide), fun t ht => fin (.seek h s' word) t ht so⟩
    refine ⟨_, rfl, _, _, rfl, rfl, ⟨by decide, by decide⟩, _, _, rfl, rfl, (by show (0 : Int) < _; decide), rfl, _, rfl, if2 (fun _ => ?_) fun _ => ?_⟩
    · exact ⟨_, rfl, _, rfl, (by show 3 ≤ sizeLine; decide), fun t ht => fin (.read h s') t ht so⟩
    refine ⟨_, rfl, _, _, rfl, rfl, ⟨by decide, by decide⟩, _, _, rfl, rfl, (by show (0 : Int) < _; decide), rfl, _, rfl, if2 (fun _ => ?_) fun _ => ?_⟩
    · exact ⟨_, rfl, _, rfl, _, rfl, _, _, rfl, rfl, ⟨by decide, by decide, by decide⟩, _, _, rfl, rfl, (by show (0 : Int) < _; decide +kernel), (by show 4 ≤ sizeLine; decide), fun t ht => fin (.write h s' _) t ht so⟩
    · exact ⟨_, rfl, _, rfl, _, rfl, _, _, rfl, rfl, .inr ⟨by decide, by decide⟩, _, _, rfl, rfl, ⟨by decide, by decide, by decide⟩, _, _, rfl, rfl, (by show (0 : Int) < _; decide +kernel), _, rfl, (by show 4 ≤ sizeLine; decide), fun t ht => fin (.write h s' _) t ht so⟩
theorem sc__law_row : FnScope ["_law_n", "_law_hands_here", "_law_seed", "_law_most", "_law_hand", "_law_slot_here", "_law_inner_here", "_law_field", "_law_sort"] ["_law_n", "_law_hands_here", "_law_seed", "_law_most"] (defScope s__law_row) := ⟨rfl, rfl, rfl, by decide +kernel, rfl, by decide +kernel, by decide +kernel⟩
theorem ok__law_row (C : CtxG K mg) : Ok P w K mg base CX0 3 d__law_row ["_law_n", "_law_hands_here", "_law_seed", "_law_most"] spRowL := by
  refine ok_mk0 C.T.f__law_row sc__law_row (fun vs H Q E h => ?_) (fun fd F => F.bindsN fun _ _ _ _ _ _ us hl => match us, hl with | [_, _, _, _], _ => rfl) (fun cdv A outer s H vs Q E hr h => ?_)
  · obtain ⟨n, seed, most, hb, hs, rfl, _⟩ := h
    rfl
  · obtain ⟨n, seed, most, hb, hs, rfl, ha, ho, m1, m2, k⟩ := h
    refine ⟨_, (pss_cons (ps_set (i := 4) sc__law_row.nd rfl (Or.inl rfl) (pe_fn (ok__law_draw C) (hr.mono (by decide)) C.g__law_draw (pa_cons (pv 0) (pa_cons pe_int (pa_cons (pe_callB call_len_seq (by rfl) C.fr_len PySem.boot_len (pa_cons (pv 1) pa_nil)) pa_nil)))))
      (pss_cons (ps_set (i := 5) sc__law_row.nd rfl (Or.inl rfl) (pe_fn (ok__law_slot C) (hr.mono (by decide)) C.g__law_slot (pa_cons (pe_fn (ok__law_draw C) (hr.mono (by decide)) C.g__law_draw (pa_cons (pv 0) (pa_cons pe_int (pa_cons pe_int pa_nil)))) (pa_cons (pe_ix ix_tup (pe_ix ix_list (pv 1) (pv 4) (fun _ _ => rfl)) pe_int (fun _ _ => rfl)) pa_nil))))
      (pss_cons (ps_set (i := 6) sc__law_row.nd rfl (Or.inl rfl) (pe_fn (ok__law_slot C) (hr.mono (by decide)) C.g__law_slot (pa_cons (pe_fn (ok__law_draw C) (hr.mono (by decide)) C.g__law_draw (pa_cons (pv 0) (pa_cons pe_int (pa_cons pe_int pa_nil)))) (pa_cons (pe_ix ix_tup (pe_ix ix_list (pv 1) (pv 4) (fun _ _ => rfl)) pe_int (fun _ _ => rfl)) pa_nil))))
      (pss_cons (ps_set (i := 7) sc__law_row.nd rfl (Or.inl rfl) (pe_fn (ok__law_draw C) (hr.mono (by decide)) C.g__law_draw (pa_cons (pv 0) (pa_cons pe_int (pa_cons pe_int pa_nil)))))
      (pss_cons (ps_set (i := 8) sc__law_row.nd rfl (Or.inl rfl) (pe_op op_mod (pv 0) pe_int))
      (pss_cons (ps_if (pt_cmpR op_lt (pv 8) pe_int (nomark _)) (pss_one (ps_ret (pe_fn (ok__law_make C) (hr.mono (by decide)) C.g__law_make (pa_cons (pv 0) (pa_cons (pv 4) (pa_cons (pv 5) pa_nil)))))) pss_nil)
      (pss_cons (ps_if (pt_cmpR op_lt (pv 8) pe_int (nomark _)) (pss_one (ps_ret (pe_tup (pa_cons pe_str (pa_cons (pv 4) (pa_cons (pv 5) (pa_cons (pv 6) (pa_cons (pv 7) pa_nil)))))))) pss_nil)
      (pss_cons (ps_if (pt_cmpR op_lt (pv 8) pe_int (nomark _)) (pss_one (ps_ret (pe_tup (pa_cons pe_str (pa_cons (pv 4) (pa_cons (pv 5) (pa_cons (pv 7) (pa_cons (pv 6) pa_nil)))))))) pss_nil)
      (pss_cons (ps_if (pt_cmpR op_eq (pv 8) pe_int (nomark _)) (pss_one (ps_ret (pe_tup (pa_cons pe_str (pa_cons (pv 4) (pa_cons (pv 5) pa_nil)))))) pss_nil)
      (pss_cons (ps_if (pt_cmpR op_eq (pv 8) pe_int (nomark _)) (pss_one (ps_ret (pe_tup (pa_cons pe_str (pa_cons (pv 4) (pa_cons (pv 5) (pa_cons (pv 6) pa_nil))))))) pss_nil)
      (pss_cons (ps_if (pt_cmpR op_gt (pv 8) pe_int (nomark _)) (pss_one (ps_ret (pe_fn (ok__law_steps C) (hr.mono (by decide)) C.g__law_steps (pa_cons (pv 0) (pa_cons (pv 3) pa_nil))))) pss_nil)
      (pss_one (ps_ret (pe_fn (ok__law_other C) (hr.mono (by decide)) C.g__law_other (pa_cons (pv 0) (pa_cons (pv 4) (pa_cons (pv 5) (pa_cons (pv 1) (pa_cons (pv 2) pa_nil))))))))))))))))))), ?_⟩
    have fin : ∀ r t, H t = none → RowOk (hs.map (·.2)) r → Q (.ref t) (upd H t (.tup (rowV r))) := fun r t ht ok => k _ t r (Same.new ht) ht upd_same ok
    have lo := ho.lo
    obtain ⟨ts0, _, _, hts, _, _, _, tl0⟩ := hands_at ha (i := 0) (by omega)
    refine ⟨_, rfl, _, rfl, _, _, rfl, .inl (SqL.of hts), n, 999983, ((hs.length : Nat) : Int), by rw [List.length_map, tl0]; rfl, (by decide), (by decide), by omega, fun r1 a0 a1 => ?_⟩
    obtain ⟨h, rfl⟩ := Int.eq_ofNat_of_zero_le a0
    have hh : h < hs.length := by omega
    obtain ⟨ts, t1, p, hb1, ht1, hp, hpt, _⟩ := hands_at ha hh
    have p3 := (ho.each p (List.mem_of_getElem? hp)).1
    refine ⟨_, rfl, n, 1000003, 5000, rfl, (by decide), (by decide), (by decide), fun r2 _ _ => ⟨_, rfl, _, rfl, rdL (SqL.of hb1) (by rw [List.getElem?_map, ht1]; rfl) (rdT (i := 1) hpt rfl ⟨_, _, rfl, by omega, fun r3 b0 b1 => ?_⟩)⟩⟩
    obtain ⟨s', rfl⟩ := Int.eq_ofNat_of_zero_le b0
    refine ⟨_, rfl, n, 1000033, 5000, rfl, (by decide), (by decide), (by decide), fun r4 _ _ => ⟨_, rfl, _, rfl, rdL (SqL.of hb1) (by rw [List.getElem?_map, ht1]; rfl) (rdT (i := 1) hpt rfl ⟨_, _, rfl, by omega, fun r5 c0 c1 => ?_⟩)⟩⟩
    obtain ⟨i, rfl⟩ := Int.eq_ofNat_of_zero_le c0
    refine ⟨_, rfl, n, 1000037, 3, rfl, (by decide), (by decide), (by decide), fun r6 d0 d1 => ?_⟩
    obtain ⟨f, rfl⟩ := Int.eq_ofNat_of_zero_le d0
    have so := slot_ok hp (show s' < p.2 by omega)
    have io := slot_ok hp (show i < p.2 by omega)
    refine ⟨_, rfl, _, _, rfl, rfl, (by show (0 : Int) < _; decide), ?_⟩
    refine ⟨_, rfl, _, _, rfl, rfl, _, rfl, if2 (fun _ => ?_) fun _ => ?_⟩
    · exact ⟨_, rfl, _, rfl, _, rfl, n, h, s', rfl, fun H' t many bulk e h1 h2 m8 => k H' t _ e h1 h2 ⟨so, m8⟩⟩
    refine ⟨_, rfl, _, _, rfl, rfl, _, rfl, if2 (fun _ => ?_) fun _ => ?_⟩
    · exact ⟨_, rfl, _, rfl, _, rfl, _, rfl, (by show 5 ≤ sizeLine; decide), fun t ht => fin (.get h s' i f) t ht ⟨so, io⟩⟩
    refine ⟨_, rfl, _, _, rfl, rfl, _, rfl, if2 (fun _ => ?_) fun _ => ?_⟩
    · exact ⟨_, rfl, _, rfl, _, rfl, _, rfl, (by show 5 ≤ sizeLine; decide), fun t ht => fin (.put h s' f i) t ht ⟨so, io⟩⟩
    refine ⟨_, rfl, rfl, _, rfl, if2 (fun _ => ?_) fun _ => ?_⟩
    · exact ⟨_, rfl, _, rfl, (by show 3 ≤ sizeLine; decide), fun t ht => fin (.drop h s') t ht so⟩
    refine ⟨_, rfl, rfl, _, rfl, if2 (fun _ => ?_) fun _ => ?_⟩
    · exact ⟨_, rfl, _, rfl, _, rfl, (by show 4 ≤ sizeLine; decide), fun t ht => fin (.copy h s' i) t ht ⟨so, io⟩⟩
    refine ⟨_, rfl, _, _, rfl, rfl, _, rfl, if2 (fun _ => ?_) fun _ => ?_⟩
    · exact ⟨_, rfl, _, rfl, n, most, rfl, m1, m2, fun H' t m e h1 h2 q1 q2 => k H' t _ e h1 h2 ⟨q1, q2⟩⟩
    · exact ⟨_, rfl, _, rfl, _, rfl, _, rfl, _, rfl, n, seed, h, s', hb, hs, rfl, ha, ho, so, k⟩
theorem sc__law_rows : FnScope ["_law_cells", "_law_hands_here", "_law_seed", "_law_most", "_law_rows_here", "_law_k", "_law_cell_here"] ["_law_cells", "_law_hands_here", "_law_seed", "_law_most"] (defScope s__law_rows) := ⟨rfl, rfl, rfl, by decide +kernel, rfl, by decide +kernel, by decide +kernel⟩
theorem ok__law_rows (C : CtxG K mg) : Ok P w K mg base CX0 4 d__law_rows ["_law_cells", "_law_hands_here", "_law_seed", "_law_most"] (spRowsL K) := by
  refine ok_mk0 C.T.f__law_rows sc__law_rows (fun vs H Q E h => ?_) (fun fd F => F.bindsN fun _ _ _ _ _ _ us hl => match us, hl with | [_, _, _, _], _ => rfl) (fun cdv A outer s H vs Q E hr h => ?_)
  · obtain ⟨cb, hb, cs, hs, seed, most, rfl, _⟩ := h
    rfl
  · obtain ⟨cb, hb, cs, hs, seed, most, rfl, hc, c1, ha, ho, m1, m2, k⟩ := h
    refine ⟨_, (pss_cons (ps_set (i := 4) sc__law_rows.nd rfl (Or.inl rfl) (pe_lst pa_nil))
      (pss_cons (ps_for PassesOwn.never rfl (pi_enum (by rfl) C.fr_enumerate (pa_cons (pv 0) pa_nil)) (pg_tup rfl (pgs_cons (pg_name (i := 5) sc__law_rows.nd rfl (Or.inl rfl)) (pgs_cons (pg_name (i := 6) sc__law_rows.nd rfl (Or.inl rfl)) pgs_nil))) (pss_one (ps_expr (pe_bm PySem.F.plainAttrs_list PySem.F.slot_list_append PySem.F.type_list_append mt_append (pv 4) (pa_cons (pe_fn (ok__law_row C) (hr.mono (by decide)) C.g__law_row (pa_cons (pe_op op_add (pv 6) (pe_op op_mul (pe_op op_mul pe_int (pv 5)) (pv 5))) (pa_cons (pv 1) (pa_cons (pv 2) (pa_cons (pv 3) pa_nil))))) pa_nil)))))
      (pss_one (ps_ret (pv 4))))), ?_⟩
    refine ⟨(by decide), fun rb hrb => ?_⟩
    have e0 : Same H (upd H rb (.lst [])) := Same.new hrb
    refine ⟨_, rfl, cb, _, rfl, SqL.of (e0 _ _ hc), for_it walk_enum (fun i σ H' => ∃ v5 v6 as rows, σ = [some (.ref cb), some (.ref hb), some (.int seed), some (.int most), some (.ref rb), v5, v6] ∧ Same H H' ∧ H' rb = some (.lst (as.map V.ref)) ∧ All2 (fun a r => H a = none ∧ a ≠ rb ∧ H' a = some (.tup (rowV r))) as rows ∧ rows.length = i ∧ ∀ r ∈ rows, RowOk (hs.map (·.2)) r)
      ⟨none, none, [], [], rfl, e0, upd_same, ⟨rfl, fun i x y h => by simp at h⟩, rfl, fun r hr => by cases hr⟩ (fun i σ H' _ ⟨_, _, _, _, _, e, _⟩ => SqL.of (e _ _ hc)) ?_ ?_⟩
    · rintro i x σ H1 H2 hi ⟨v5, v6, as, rows, rfl, e1, hb1, al, hl, ok⟩ ⟨T, x1, y1, rfl, hT, rfl, hx, hy⟩
      cases hx
      have hy : (cs.map V.int)[i]? = some y1 := hy
      rw [List.getElem?_map] at hy
      obtain ⟨c, hc2, rfl⟩ := Option.map_eq_some_iff.mp hy
      rw [List.length_map] at hi
      have eT : Same H1 (upd H1 T (.tup [.int (i : Nat), .int c])) := Same.new hT
      refine ⟨T, _, rfl, SqT.of upd_same, rfl, _, _, rfl, _, _, rfl, rfl, ?_⟩
      have hb2 := eT _ _ hb1
      have ha2 : HandsAt (upd H1 T (.tup [.int (i : Nat), .int c])) hb hs := let ⟨ts, z1, z2⟩ := ha; ⟨ts, eT _ _ (e1 _ _ z1), z2.mono fun _ _ z => eT _ _ (e1 _ _ z)⟩
      refine ⟨_, rfl, .inl ⟨rfl, _, SqL.of hb2⟩, ?_⟩
      refine ⟨_, rfl, _, rfl, _, _, rfl, rfl, .inl ⟨by decide, by decide⟩, _, rfl, _, _, rfl, rfl, .inl ⟨by omega, by omega⟩, _, _, rfl, rfl, _, rfl, _, rfl, _, rfl, _, seed, most, hb, hs, rfl, ha2, ho, m1, m2, fun H3 t r e3 h1 h2 ro => ?_⟩
      have hb3 := e3 _ _ hb2
      have al0 : as.length = i := al.1.trans hl
      have tb : t ≠ rb := fun z => by rw [z, hb2] at h1; cases h1
      refine ⟨rb, _, _, rfl, rfl, hb3, (by rw [List.length_map]; exact big_line (by omega)), ?_⟩
      refine ⟨_, _, as ++ [t], rows ++ [r], rfl, Same.mut (e1.trans (eT.trans e3)) hrb, (by rw [upd_same, List.map_append]; rfl), All2.snoc (al.mono fun a r' z => ⟨z.1, z.2.1, by rw [upd_ne z.2.1]; exact e3 _ _ (eT _ _ z.2.2)⟩) ⟨(e1.trans eT).free h1, tb, by rw [upd_ne tb]; exact h2⟩, by rw [List.length_append, hl]; rfl, fun r' hr' => ?_⟩
      rcases List.mem_append.mp hr' with h | h
      · exact ok r' h
      · rw [List.mem_singleton.mp h]
        exact ro
    · rintro σ H1 ⟨v5, v6, as, rows, rfl, e1, hb1, al, hl, ok⟩
      rw [List.length_map] at hl
      exact ⟨_, rfl, k H1 rb as rows e1 hrb hb1 al hl ok⟩
theorem sc__law_kind : FnScope ["_law_number", "_law_tells"] ["_law_number"] (defScope s__law_kind) := ⟨rfl, rfl, rfl, by decide +kernel, rfl, by decide +kernel, by decide +kernel⟩
theorem ok__law_kind (C : CtxG K mg) : Ok P w K mg base CX0 3 d__law_kind ["_law_number"] (spKindL K) := by
  refine ok_mk0 C.T.f__law_kind sc__law_kind (fun vs H Q E h => ?_) (fun fd F => F.bindsN fun _ _ _ _ _ _ us hl => match us, hl with | [_], _ => rfl) (fun cdv A outer s H vs Q E hr h => ?_)
  · obtain ⟨n, rfl, _⟩ := h
    rfl
  · obtain ⟨n, rfl, k⟩ := h
    refine ⟨_, (pss_cons (ps_set (i := 1) sc__law_kind.nd rfl (Or.inl rfl) (pe_op op_mod (pe_op op_fdiv (pv 0) pe_int) pe_int))
      (pss_cons (ps_if (pt_cmpR op_eq (pe_op op_mod (pv 0) pe_int) pe_int (nomark _)) (pss_one (ps_ret (pe_mk (d := d_Kind_init) C.T.mk_Kind (ok_Kind_init C) (hr.mono (by decide)) C.g_Kind (pa_cons (pe_new C.T.ni_First C.T.kp_First C.g_First) (pa_cons (pv 1) pa_nil))))) pss_nil)
      (pss_cons (ps_if (pt_cmpR op_eq (pe_op op_mod (pv 0) pe_int) pe_int (nomark _)) (pss_one (ps_ret (pe_mk (d := d_Kind_init) C.T.mk_Kind (ok_Kind_init C) (hr.mono (by decide)) C.g_Kind (pa_cons (pe_new C.T.ni_Each C.T.kp_Each C.g_Each) (pa_cons (pv 1) pa_nil))))) pss_nil)
      (pss_one (ps_ret (pe_mk (d := d_Kind_init) C.T.mk_Kind (ok_Kind_init C) (hr.mono (by decide)) C.g_Kind (pa_cons (pe_new C.T.ni_Last C.T.kp_Last C.g_Last) (pa_cons (pv 1) pa_nil)))))))), ?_⟩
    have fin : ∀ (lk : LK) (tells : Int) lo dlo, H lo = none → H dlo = none → dlo ≠ lo → ∀ ko dk, upd (upd H dlo (.own lo)) lo (.ins (lkC K lk) dlo []) ko = none → upd (upd H dlo (.own lo)) lo (.ins (lkC K lk) dlo []) dk = none → dk ≠ ko →
        spKindInit K [.ref ko, .ref lo, .int tells] (upd (upd (upd (upd H dlo (.own lo)) lo (.ins (lkC K lk) dlo [])) dk (.own ko)) ko (.ins (He.ga K "Kind") dk [])) (fun v H2 => v = .non ∧ Q (.ref ko) H2) E0 := fun lk tells lo dlo hlo hdlo ne ko dk hko hdk ne2 => by
      refine ⟨ko, dk, _, _, rfl, upd_same, rfl, ?_⟩
      have e1 : Same H (upd (upd H dlo (.own lo)) lo (.ins (lkC K lk) dlo [])) := Same.made hlo hdlo fun b o h _ => h
      have lok : lo ≠ ko := ne_of_none upd_same hko
      have lod : lo ≠ dk := ne_of_none upd_same hdk
      refine k _ ko dk lo dlo lk tells (e1.trans (Same.made (C := He.ga K "Kind") hko hdk fun b o h n => ?_)) (e1.free hko) hlo upd_same ?_
      · rw [upd_ne n, upd_ne n]
        exact h
      · rw [upd_ne lok, upd_ne lok, upd_ne lok, upd_ne lod]
        exact upd_same
    refine ⟨_, rfl, _, _, rfl, rfl, ⟨by decide, by decide⟩, _, _, rfl, rfl, (by show (0 : Int) < _; decide), ?_⟩
    refine ⟨_, rfl, _, _, rfl, rfl, (by show (0 : Int) < _; decide), rfl, _, rfl, if2 (fun _ => ?_) fun _ => ?_⟩
    · exact fun lo dlo h1 h2 h3 => ⟨_, rfl, fun ko dk h4 h5 h6 => fin .first _ lo dlo h1 h2 h3 ko dk h4 h5 h6⟩
    refine ⟨_, rfl, _, _, rfl, rfl, (by show (0 : Int) < _; decide), rfl, _, rfl, if2 (fun _ => ?_) fun _ => ?_⟩
    · exact fun lo dlo h1 h2 h3 => ⟨_, rfl, fun ko dk h4 h5 h6 => fin .each _ lo dlo h1 h2 h3 ko dk h4 h5 h6⟩
    · exact fun lo dlo h1 h2 h3 => ⟨_, rfl, fun ko dk h4 h5 h6 => fin .last _ lo dlo h1 h2 h3 ko dk h4 h5 h6⟩
end
end G

/-! The law, 4: its own objects. -/
namespace G
open PySem PySem.Spec PyProof.Rows L2
inductive LR where
  | out | sl | row (i : Nat) | lk | ls (j : Nat) | ta | td | ed | md | dd
  deriving DecidableEq
structure LW where
  sl : Addr
  lk : Addr
  ta : Addr
  td : Addr
  ed : Addr
  md : Addr
  dd : Addr
  rows : List Addr
  ls : List Addr
  rl : Addr → LR
  g : GS
structure SetK (kvs : List (Key × V)) (P : Int → Prop) : Prop where
  has : ∀ b, P b ↔ (valV kvs (Sum.inl b)).isSome = true
  keys : ∀ kv ∈ kvs, ∃ b, kv.1 = Sum.inl b
  nd : (kvs.map (·.1)).Nodup
def SetAt (H : Hp) (a : Addr) (P : Int → Prop) : Prop := ∃ kvs, H a = some (.dK kvs) ∧ SetK kvs P
theorem SetK.nil : SetK [] fun _ => False := ⟨fun b => ⟨fun h => h.elim, fun h => by cases h⟩, (fun kv h => by cases h), List.nodup_nil⟩
theorem SetK.same {kvs : List (Key × V)} {P P' : Int → Prop} (h : SetK kvs P) (e : ∀ b, P b ↔ P' b) : SetK kvs P' := ⟨fun b => (e b).symm.trans (h.has b), h.keys, h.nd⟩
theorem SetK.empty {kvs : List (Key × V)} {P : Int → Prop} (h : SetK kvs P) (e : ∀ b, ¬ P b) : kvs = [] := by
  cases kvs with
  | nil => rfl
  | cons kv r =>
    obtain ⟨b, hb⟩ := h.keys kv List.mem_cons_self
    exact absurd ((h.has b).mpr (by rw [valV_pos hb]; rfl)) (e b)
theorem any_iff {kvs : List (Key × V)} {k : Key} : (kvs.any fun kv => decide (kv.1 = k)) = true ↔ k ∈ kvs.map (·.1) := by
  rw [List.any_eq_true]
  constructor
  · rintro ⟨kv, h1, h2⟩
    exact List.mem_map.mpr ⟨kv, h1, of_decide_eq_true h2⟩
  · intro h
    obtain ⟨kv, h1, h2⟩ := List.mem_map.mp h
    exact ⟨kv, h1, decide_eq_true h2⟩
theorem putK_keys {kvs : List (Key × V)} {k : Key} {v : V} : (putK kvs k v).map (·.1) = if (kvs.any fun kv => decide (kv.1 = k)) = true then kvs.map (·.1) else kvs.map (·.1) ++ [k] := by
  unfold putK
  by_cases h : (kvs.any fun kv => decide (kv.1 = k)) = true
  · rw [if_pos h, if_pos h, List.map_map]
    refine List.map_congr_left fun kv _ => ?_
    show (if kv.1 = k then (kv.1, v) else kv).1 = kv.1
    split <;> rfl
  · rw [if_neg h, if_neg h, List.map_append]
    rfl
theorem SetK.put {kvs : List (Key × V)} {P : Int → Prop} (h : SetK kvs P) (b : Int) (v : V) : SetK (putK kvs (Sum.inl b) v) fun x => P x ∨ x = b := by
  refine ⟨fun x => ?_, fun kv hkv => ?_, ?_⟩
  · rw [valV_put]
    by_cases e : (Sum.inl x : Key) = Sum.inl b
    · rw [if_pos e]
      exact ⟨fun _ => rfl, fun _ => .inr (Sum.inl.inj e)⟩
    · rw [if_neg e, ← h.has x]
      exact ⟨fun z => z.elim id fun z => absurd (by rw [z]) e, .inl⟩
  · have : kv.1 ∈ (putK kvs (Sum.inl b) v).map (·.1) := List.mem_map.mpr ⟨kv, hkv, rfl⟩
    rw [putK_keys] at this
    have old : kv.1 ∈ kvs.map (·.1) → ∃ b, kv.1 = Sum.inl b := fun q => by
      obtain ⟨kv2, h1, h2⟩ := List.mem_map.mp q
      rw [← h2]
      exact h.keys kv2 h1
    split at this
    · exact old this
    · rcases List.mem_append.mp this with q | q
      · exact old q
      · exact ⟨b, List.mem_singleton.mp q⟩
  · rw [putK_keys]
    split
    · exact h.nd
    · rename_i hn
      refine List.nodup_append.mpr ⟨h.nd, by simp, fun a ha c hc e => ?_⟩
      rw [List.mem_singleton.mp hc] at e
      exact hn (any_iff.mpr (e ▸ ha))
theorem valV_drop {kvs : List (Key × V)} {k j : Key} : valV (dropK kvs k) j = if j = k then none else valV kvs j := by
  induction kvs with
  | nil => simp [dropK, valV]
  | cons p r ih =>
    by_cases e : p.1 = k
    · have e1 : dropK (p :: r) k = dropK r k := by simp [dropK, e]
      rw [e1, ih]
      by_cases ej : j = k
      · rw [if_pos ej, if_pos ej]
      · rw [if_neg ej, if_neg ej, valV_neg (fun z => ej (z.symm.trans e))]
    · have e1 : dropK (p :: r) k = p :: dropK r k := by simp [dropK, e]
      rw [e1]
      by_cases ep : p.1 = j
      · rw [valV_pos ep, valV_pos ep, if_neg (fun z => e (ep.trans z))]
      · rw [valV_neg ep, valV_neg ep, ih]
theorem SetK.drop {kvs : List (Key × V)} {P : Int → Prop} (h : SetK kvs P) (b : Int) : SetK (dropK kvs (Sum.inl b)) fun x => P x ∧ x ≠ b := by
  refine ⟨fun x => ?_, fun kv hkv => h.keys kv (List.mem_filter.mp hkv).1, h.nd.sublist ((List.filter_sublist).map _)⟩
  rw [valV_drop]
  by_cases e : (Sum.inl x : Key) = Sum.inl b
  · rw [if_pos e]
    exact ⟨fun z => absurd (Sum.inl.inj e) z.2, fun z => by cases z⟩
  · rw [if_neg e, ← h.has x]
    exact ⟨fun z => z.1, fun z => ⟨z, fun q => e (by rw [q])⟩⟩
theorem SetK.len {kvs : List (Key × V)} {P : Int → Prop} (h : SetK kvs P) {n : Nat} (hn : ∀ b, P b → 1 ≤ b ∧ b ≤ (n : Int)) : kvs.length ≤ n := by
  have key : ∀ kv ∈ kvs, ∃ b : Int, kv.1 = Sum.inl b ∧ 1 ≤ b ∧ b ≤ n := fun kv hkv => by
    obtain ⟨b, hb⟩ := h.keys kv hkv
    have : P b := (h.has b).mpr (by
      rw [← valV_any]
      exact any_iff.mpr (List.mem_map.mpr ⟨kv, hkv, hb⟩))
    exact ⟨b, hb, hn b this⟩
  let f : Key → Nat := fun k => match k with
    | .inl b => (b - 1).toNat
    | .inr _ => 0
  have nd : ((kvs.map (·.1)).map f).Nodup := by
    refine List.pairwise_map.mpr (h.nd.imp_of_mem fun {a c} ha hc hac e => hac ?_)
    obtain ⟨kv1, m1, rfl⟩ := List.mem_map.mp ha
    obtain ⟨kv2, m2, rfl⟩ := List.mem_map.mp hc
    obtain ⟨b1, q1, r1⟩ := key kv1 m1
    obtain ⟨b2, q2, r2⟩ := key kv2 m2
    rw [q1, q2] at e ⊢
    have e : (b1 - 1).toNat = (b2 - 1).toNat := e
    have : b1 = b2 := by omega
    rw [this]
  have := nodup_le n _ nd fun x hx => by
    obtain ⟨k, hk, rfl⟩ := List.mem_map.mp hx
    obtain ⟨kv, m, rfl⟩ := List.mem_map.mp hk
    obtain ⟨b, q, r⟩ := key kv m
    rw [q]
    show (b - 1).toNat < n
    omega
  rw [List.length_map, List.length_map] at this
  exact this
def linkK (ls : List Addr) : List (Key × V) := ls.zipIdx.map fun p => (Sum.inl ((p.2 : Int) + 1), V.ref p.1)
theorem linkK_snoc (ls : List Addr) (p : Addr) : linkK (ls ++ [p]) = linkK ls ++ [(Sum.inl ((ls.length : Int) + 1), V.ref p)] := by
  unfold linkK
  rw [List.zipIdx_append, List.map_append]
  simp
theorem linkK_get : ∀ (n : Nat) (ls : List Addr), ls.length = n → ∀ b : Int, valV (linkK ls) (Sum.inl b) = if 1 ≤ b then (ls[(b - 1).toNat]?).map V.ref else none
  | 0, ls, hl, b => by
    have : ls = [] := List.length_eq_zero_iff.mp hl
    subst this
    simp [linkK, valV]
  | n + 1, ls, hl, b => by
    obtain ⟨ls', p, rfl⟩ : ∃ ls' p, ls = ls' ++ [p] := ⟨ls.dropLast, ls.getLast (by intro z; rw [z] at hl; cases hl), (List.dropLast_concat_getLast _).symm⟩
    have hl' : ls'.length = n := by simpa using hl
    have ih := linkK_get n ls' hl'
    have hno : valV (linkK ls') (Sum.inl ((ls'.length : Int) + 1)) = none := by
      rw [ih, if_pos (by omega), List.getElem?_eq_none (by omega)]
      rfl
    rw [linkK_snoc, valV_snoc _ _ _ _ hno]
    by_cases e : (Sum.inl b : Key) = Sum.inl ((ls'.length : Int) + 1)
    · have e2 := Sum.inl.inj e
      rw [if_pos e, if_pos (by omega), e2]
      have : ((ls'.length : Int) + 1 - 1).toNat = ls'.length := by omega
      rw [this, List.getElem?_append_right (Nat.le_refl _), Nat.sub_self]
      rfl
    · rw [if_neg e, ih]
      have e2 : b ≠ (ls'.length : Int) + 1 := fun z => e (by rw [z])
      by_cases h1 : 1 ≤ b
      · rw [if_pos h1, if_pos h1]
        by_cases h2 : (b - 1).toNat < ls'.length
        · rw [List.getElem?_append_left h2]
        · rw [List.getElem?_eq_none (by omega), List.getElem?_eq_none (by rw [List.length_append]; simp; omega)]
      · rw [if_neg h1, if_neg h1]
def metV (s : LW) : V := if s.g.met.isSome = true then .ref s.md else .non
def tallyK (s : LW) : List (Key × V) := [(Sum.inr "there", .ref s.td), (Sum.inr "early", .ref s.ed), (Sum.inr "met", metV s), (Sum.inr "doomed", .ref s.dd)]
structure LRep (H0 : Hp) (ex : Addr → Prop) (H : Hp) (s : LW) : Prop where
  sl : H s.sl = some (.lst (s.rows.map V.ref))
  rows : ∀ i r, s.g.slots[i]? = some r → ∃ a, s.rows[i]? = some a ∧ H a = some (.lst (r.map btV)) ∧ s.rl a = .row i
  rlen : s.rows.length = s.g.slots.length
  lk : H s.lk = some (.dK (linkK s.ls))
  ls : ∀ j fs, s.g.links[j]? = some fs → ∃ a, s.ls[j]? = some a ∧ H a = some (.lst (fs.map btV)) ∧ s.rl a = .ls j
  llen : s.ls.length = s.g.links.length
  ta : H s.ta = some (.dK (tallyK s))
  td : SetAt H s.td s.g.there
  ed : SetAt H s.ed s.g.early
  md : ∀ M, s.g.met = some M → SetAt H s.md M ∧ s.rl s.md = .md
  dd : SetAt H s.dd s.g.doomed
  rsl : s.rl s.sl = .sl
  rlk : s.rl s.lk = .lk
  rta : s.rl s.ta = .ta
  rtd : s.rl s.td = .td
  red : s.rl s.ed = .ed
  rdd : s.rl s.dd = .dd
  own : ∀ a, s.rl a ≠ .out → H0 a = none ∨ ex a
  fr : ∀ b o, H0 b = some o → ¬ ex b → H b = some o
  fresh : ∀ b, H b = none → s.rl b = .out
  free : ∀ b, H b = none → H0 b = none
section
variable {H0 H : Hp} {ex : Addr → Prop} {s : LW}
theorem LRep.role (R : LRep H0 ex H s) {x a : Addr} {o : HO} {r : LR} (ha : s.rl a = r) (n : r ≠ s.rl x) : upd H x o a = H a := upd_ne fun z => n (by rw [← ha, z])
theorem LRep.base (R : LRep H0 ex H s) {x : Addr} {o : HO} (hx : s.rl x ≠ .out) : (∀ b u, H0 b = some u → ¬ ex b → upd H x o b = some u) ∧ (∀ b, upd H x o b = none → s.rl b = .out) ∧ ∀ b, upd H x o b = none → H0 b = none := by
  refine ⟨fun b u h n => ?_, fun b h => ?_, fun b h => ?_⟩
  · rw [upd_ne fun z => by
      rcases R.own x hx with q | q
      · rw [← z, h] at q
        cases q
      · exact n (z ▸ q)]
    exact R.fr b u h n
  · by_cases z : b = x
    · rw [z, upd_same] at h
      cases h
    · rw [upd_ne z] at h
      exact R.fresh b h
  · by_cases z : b = x
    · rw [z, upd_same] at h
      cases h
    · rw [upd_ne z] at h
      exact R.free b h
theorem LRep.same {H' : Hp} (R : LRep H0 ex H s) (e : Same H H') : LRep H0 ex H' s where
  sl := e _ _ R.sl
  rows := fun i r h => let ⟨a, h1, h2, h3⟩ := R.rows i r h; ⟨a, h1, e _ _ h2, h3⟩
  rlen := R.rlen
  lk := e _ _ R.lk
  ls := fun i r h => let ⟨a, h1, h2, h3⟩ := R.ls i r h; ⟨a, h1, e _ _ h2, h3⟩
  llen := R.llen
  ta := e _ _ R.ta
  td := let ⟨k, h1, h2⟩ := R.td; ⟨k, e _ _ h1, h2⟩
  ed := let ⟨k, h1, h2⟩ := R.ed; ⟨k, e _ _ h1, h2⟩
  md := fun M h => let ⟨⟨k, h1, h2⟩, h3⟩ := R.md M h; ⟨⟨k, e _ _ h1, h2⟩, h3⟩
  dd := let ⟨k, h1, h2⟩ := R.dd; ⟨k, e _ _ h1, h2⟩
  rsl := R.rsl
  rlk := R.rlk
  rta := R.rta
  rtd := R.rtd
  red := R.red
  rdd := R.rdd
  own := R.own
  fr := fun b o h n => e _ _ (R.fr b o h n)
  fresh := fun b h => R.fresh b (e.free h)
  free := fun b h => R.free b (e.free h)
theorem LRep.slot (R : LRep H0 ex H s) {i k : Nat} {r : List (Option Int)} {x : Addr} (hr : s.g.slots[i]? = some r) (ha : s.rows[i]? = some x) (hx : s.rl x = .row i) (v : Option Int) : LRep H0 ex (upd H x (.lst ((r.set k v).map btV))) { s with g := s.g.setSlot i k v } := by
  have hx : s.rl x = .row i := hx
  have ne : ∀ {a : Addr} {r : LR} {o : HO}, s.rl a = r → r ≠ s.rl x → upd H x o a = H a := fun h n => R.role h n
  have bs := R.base (x := x) (o := .lst ((r.set k v).map btV)) (by rw [hx]; intro z; cases z)
  have rows : ∀ j r', (s.g.slots.modify i fun d => d.set k v)[j]? = some r' → ∃ a, s.rows[j]? = some a ∧ upd H x (.lst ((r.set k v).map btV)) a = some (.lst (r'.map btV)) ∧ s.rl a = .row j := fun j r' h => by
    rw [List.getElem?_modify] at h
    by_cases e : i = j
    · subst e
      rw [hr] at h
      simp at h
      subst h
      exact ⟨x, ha, upd_same, hx⟩
    · have h : s.g.slots[j]? = some r' := by
        cases q : s.g.slots[j]? with
        | none => rw [q] at h; simp at h
        | some z => rw [q] at h; simp [e] at h; rw [h]
      obtain ⟨a, h1, h2, h3⟩ := R.rows j r' h
      refine ⟨a, h1, (ne h3 ?_).trans h2, h3⟩
      rw [hx]
      intro z
      cases z
      exact e rfl
  exact {
    sl := (ne R.rsl (by rw [hx]; intro z; cases z)).trans R.sl
    rows := rows
    rlen := by show s.rows.length = (s.g.slots.modify i _).length; rw [List.length_modify]; exact R.rlen
    lk := (ne R.rlk (by rw [hx]; intro z; cases z)).trans R.lk
    ls := fun i r h => let ⟨a, h1, h2, h3⟩ := R.ls i r h; ⟨a, h1, (ne h3 (by rw [hx]; intro z; cases z)).trans h2, h3⟩
    llen := R.llen
    ta := (ne R.rta (by rw [hx]; intro z; cases z)).trans R.ta
    td := let ⟨k, h1, h2⟩ := R.td; ⟨k, (ne R.rtd (by rw [hx]; intro z; cases z)).trans h1, h2⟩
    ed := let ⟨k, h1, h2⟩ := R.ed; ⟨k, (ne R.red (by rw [hx]; intro z; cases z)).trans h1, h2⟩
    md := fun M h => let ⟨⟨k, h1, h2⟩, h3⟩ := R.md M h; ⟨⟨k, (ne h3 (by rw [hx]; intro z; cases z)).trans h1, h2⟩, h3⟩
    dd := let ⟨k, h1, h2⟩ := R.dd; ⟨k, (ne R.rdd (by rw [hx]; intro z; cases z)).trans h1, h2⟩
    rsl := R.rsl
    rlk := R.rlk
    rta := R.rta
    rtd := R.rtd
    red := R.red
    rdd := R.rdd
    own := R.own
    fr := bs.1
    fresh := bs.2.1
    free := bs.2.2
  }
theorem LRep.link (R : LRep H0 ex H s) {b : Int} {k : Nat} {r : List (Option Int)} {x : Addr} (hr : s.g.links[(b - 1).toNat]? = some r) (ha : s.ls[(b - 1).toNat]? = some x) (hx : s.rl x = .ls (b - 1).toNat) (v : Option Int) : LRep H0 ex (upd H x (.lst ((r.set k v).map btV))) { s with g := s.g.setLink b k v } := by
  have hx : s.rl x = .ls (b - 1).toNat := hx
  have ne : ∀ {a : Addr} {r : LR} {o : HO}, s.rl a = r → r ≠ s.rl x → upd H x o a = H a := fun h n => R.role h n
  have bs := R.base (x := x) (o := .lst ((r.set k v).map btV)) (by rw [hx]; intro z; cases z)
  generalize hi : (b - 1).toNat = i at hr ha hx
  have ls : ∀ j r', (s.g.links.modify (b - 1).toNat fun d => d.set k v)[j]? = some r' → ∃ a, s.ls[j]? = some a ∧ upd H x (.lst ((r.set k v).map btV)) a = some (.lst (r'.map btV)) ∧ s.rl a = .ls j := fun j r' h => by
    rw [hi, List.getElem?_modify] at h
    by_cases e : i = j
    · subst e
      rw [hr] at h
      simp at h
      subst h
      exact ⟨x, ha, upd_same, hx⟩
    · have h : s.g.links[j]? = some r' := by
        cases q : s.g.links[j]? with
        | none => rw [q] at h; simp at h
        | some z => rw [q] at h; simp [e] at h; rw [h]
      obtain ⟨a, h1, h2, h3⟩ := R.ls j r' h
      refine ⟨a, h1, (ne h3 ?_).trans h2, h3⟩
      rw [hx]
      intro z
      cases z
      exact e rfl
  exact {
    sl := (ne R.rsl (by rw [hx]; intro z; cases z)).trans R.sl
    rows := fun i r h => let ⟨a, h1, h2, h3⟩ := R.rows i r h; ⟨a, h1, (ne h3 (by rw [hx]; intro z; cases z)).trans h2, h3⟩
    rlen := R.rlen
    lk := (ne R.rlk (by rw [hx]; intro z; cases z)).trans R.lk
    ls := ls
    llen := by show s.ls.length = (s.g.links.modify _ _).length; rw [List.length_modify]; exact R.llen
    ta := (ne R.rta (by rw [hx]; intro z; cases z)).trans R.ta
    td := let ⟨k, h1, h2⟩ := R.td; ⟨k, (ne R.rtd (by rw [hx]; intro z; cases z)).trans h1, h2⟩
    ed := let ⟨k, h1, h2⟩ := R.ed; ⟨k, (ne R.red (by rw [hx]; intro z; cases z)).trans h1, h2⟩
    md := fun M h => let ⟨⟨k, h1, h2⟩, h3⟩ := R.md M h; ⟨⟨k, (ne h3 (by rw [hx]; intro z; cases z)).trans h1, h2⟩, h3⟩
    dd := let ⟨k, h1, h2⟩ := R.dd; ⟨k, (ne R.rdd (by rw [hx]; intro z; cases z)).trans h1, h2⟩
    rsl := R.rsl
    rlk := R.rlk
    rta := R.rta
    rtd := R.rtd
    red := R.red
    rdd := R.rdd
    own := R.own
    fr := bs.1
    fresh := bs.2.1
    free := bs.2.2
  }
theorem LRep.there (R : LRep H0 ex H s) {x : Addr} (ex_ : x = s.td) {kvs : List (Key × V)} {P : Int → Prop} (hk : SetK kvs P) : LRep H0 ex (upd H x (.dK kvs)) { s with g := { s.g with there := P } } := by
  have hx : s.rl x = .td := by rw [ex_]; exact R.rtd
  have ne : ∀ {a : Addr} {r : LR} {o : HO}, s.rl a = r → r ≠ s.rl x → upd H x o a = H a := fun h n => R.role h n
  have bs := R.base (x := x) (o := .dK kvs) (by rw [hx]; intro z; cases z)
  exact {
    sl := (ne R.rsl (by rw [hx]; intro z; cases z)).trans R.sl
    rows := fun i r h => let ⟨a, h1, h2, h3⟩ := R.rows i r h; ⟨a, h1, (ne h3 (by rw [hx]; intro z; cases z)).trans h2, h3⟩
    rlen := R.rlen
    lk := (ne R.rlk (by rw [hx]; intro z; cases z)).trans R.lk
    ls := fun i r h => let ⟨a, h1, h2, h3⟩ := R.ls i r h; ⟨a, h1, (ne h3 (by rw [hx]; intro z; cases z)).trans h2, h3⟩
    llen := R.llen
    ta := (ne R.rta (by rw [hx]; intro z; cases z)).trans R.ta
    td := ⟨kvs, by show upd H x _ s.td = _; rw [ex_]; exact upd_same, hk⟩
    ed := let ⟨k, h1, h2⟩ := R.ed; ⟨k, (ne R.red (by rw [hx]; intro z; cases z)).trans h1, h2⟩
    md := fun M h => let ⟨⟨k, h1, h2⟩, h3⟩ := R.md M h; ⟨⟨k, (ne h3 (by rw [hx]; intro z; cases z)).trans h1, h2⟩, h3⟩
    dd := let ⟨k, h1, h2⟩ := R.dd; ⟨k, (ne R.rdd (by rw [hx]; intro z; cases z)).trans h1, h2⟩
    rsl := R.rsl
    rlk := R.rlk
    rta := R.rta
    rtd := R.rtd
    red := R.red
    rdd := R.rdd
    own := R.own
    fr := bs.1
    fresh := bs.2.1
    free := bs.2.2
  }
theorem LRep.doom (R : LRep H0 ex H s) {x : Addr} (ex_ : x = s.dd) {kvs : List (Key × V)} {P : Int → Prop} (hk : SetK kvs P) : LRep H0 ex (upd H x (.dK kvs)) { s with g := { s.g with doomed := P } } := by
  have hx : s.rl x = .dd := by rw [ex_]; exact R.rdd
  have ne : ∀ {a : Addr} {r : LR} {o : HO}, s.rl a = r → r ≠ s.rl x → upd H x o a = H a := fun h n => R.role h n
  have bs := R.base (x := x) (o := .dK kvs) (by rw [hx]; intro z; cases z)
  exact {
    sl := (ne R.rsl (by rw [hx]; intro z; cases z)).trans R.sl
    rows := fun i r h => let ⟨a, h1, h2, h3⟩ := R.rows i r h; ⟨a, h1, (ne h3 (by rw [hx]; intro z; cases z)).trans h2, h3⟩
    rlen := R.rlen
    lk := (ne R.rlk (by rw [hx]; intro z; cases z)).trans R.lk
    ls := fun i r h => let ⟨a, h1, h2, h3⟩ := R.ls i r h; ⟨a, h1, (ne h3 (by rw [hx]; intro z; cases z)).trans h2, h3⟩
    llen := R.llen
    ta := (ne R.rta (by rw [hx]; intro z; cases z)).trans R.ta
    td := let ⟨k, h1, h2⟩ := R.td; ⟨k, (ne R.rtd (by rw [hx]; intro z; cases z)).trans h1, h2⟩
    ed := let ⟨k, h1, h2⟩ := R.ed; ⟨k, (ne R.red (by rw [hx]; intro z; cases z)).trans h1, h2⟩
    md := fun M h => let ⟨⟨k, h1, h2⟩, h3⟩ := R.md M h; ⟨⟨k, (ne h3 (by rw [hx]; intro z; cases z)).trans h1, h2⟩, h3⟩
    dd := ⟨kvs, by show upd H x _ s.dd = _; rw [ex_]; exact upd_same, hk⟩
    rsl := R.rsl
    rlk := R.rlk
    rta := R.rta
    rtd := R.rtd
    red := R.red
    rdd := R.rdd
    own := R.own
    fr := bs.1
    fresh := bs.2.1
    free := bs.2.2
  }
theorem LRep.met (R : LRep H0 ex H s) {x : Addr} (ex_ : x = s.md) {kvs : List (Key × V)} {M P : Int → Prop} (hm : s.g.met = some M) (hk : SetK kvs P) : LRep H0 ex (upd H x (.dK kvs)) { s with g := { s.g with met := some P } } := by
  have hx : s.rl x = .md := by rw [ex_]; exact (R.md M hm).2
  have ne : ∀ {a : Addr} {r : LR} {o : HO}, s.rl a = r → r ≠ s.rl x → upd H x o a = H a := fun h n => R.role h n
  have bs := R.base (x := x) (o := .dK kvs) (by rw [hx]; intro z; cases z)
  exact {
    sl := (ne R.rsl (by rw [hx]; intro z; cases z)).trans R.sl
    rows := fun i r h => let ⟨a, h1, h2, h3⟩ := R.rows i r h; ⟨a, h1, (ne h3 (by rw [hx]; intro z; cases z)).trans h2, h3⟩
    rlen := R.rlen
    lk := (ne R.rlk (by rw [hx]; intro z; cases z)).trans R.lk
    ls := fun i r h => let ⟨a, h1, h2, h3⟩ := R.ls i r h; ⟨a, h1, (ne h3 (by rw [hx]; intro z; cases z)).trans h2, h3⟩
    llen := R.llen
    ta := by show upd H x _ s.ta = some (.dK (tallyK { s with g := { s.g with met := some P } })); rw [ne R.rta (by rw [hx]; intro z; cases z), R.ta]; unfold tallyK metV; rw [hm]; rfl
    td := let ⟨k, h1, h2⟩ := R.td; ⟨k, (ne R.rtd (by rw [hx]; intro z; cases z)).trans h1, h2⟩
    ed := let ⟨k, h1, h2⟩ := R.ed; ⟨k, (ne R.red (by rw [hx]; intro z; cases z)).trans h1, h2⟩
    md := fun M2 h => by cases h; exact ⟨⟨kvs, by show upd H x _ s.md = _; rw [ex_]; exact upd_same, hk⟩, by rw [← ex_]; exact hx⟩
    dd := let ⟨k, h1, h2⟩ := R.dd; ⟨k, (ne R.rdd (by rw [hx]; intro z; cases z)).trans h1, h2⟩
    rsl := R.rsl
    rlk := R.rlk
    rta := R.rta
    rtd := R.rtd
    red := R.red
    rdd := R.rdd
    own := R.own
    fr := bs.1
    fresh := bs.2.1
    free := bs.2.2
  }
/-- a new object gets a role -/
theorem LRep.adopt (R : LRep H0 ex H s) {p : Addr} (hp : s.rl p = .out) (h0 : H0 p = none) (hn : H p ≠ none) (r : LR) : LRep H0 ex H { s with rl := fun b => if b = p then r else s.rl b } := by
  have k : ∀ {a : Addr} {q : LR}, s.rl a = q → q ≠ .out → (if a = p then r else s.rl a) = q := fun {a q} h n => by
    rw [if_neg fun z => n (by rw [← h, z, hp])]
    exact h
  exact {
    sl := R.sl
    rows := fun i q h => let ⟨a, h1, h2, h3⟩ := R.rows i q h; ⟨a, h1, h2, k h3 (by intro z; cases z)⟩
    rlen := R.rlen
    lk := R.lk
    ls := fun i q h => let ⟨a, h1, h2, h3⟩ := R.ls i q h; ⟨a, h1, h2, k h3 (by intro z; cases z)⟩
    llen := R.llen
    ta := R.ta
    td := R.td
    ed := R.ed
    md := fun M h => let ⟨h1, h3⟩ := R.md M h; ⟨h1, k h3 (by intro z; cases z)⟩
    dd := R.dd
    rsl := k R.rsl (by intro z; cases z)
    rlk := k R.rlk (by intro z; cases z)
    rta := k R.rta (by intro z; cases z)
    rtd := k R.rtd (by intro z; cases z)
    red := k R.red (by intro z; cases z)
    rdd := k R.rdd (by intro z; cases z)
    own := fun a h => by
      by_cases z : a = p
      · rw [z]
        exact .inl h0
      · exact R.own a (by
          have h : (if a = p then r else s.rl a) ≠ .out := h
          rw [if_neg z] at h
          exact h)
    fr := R.fr
    fresh := fun b h => by
      show (if b = p then r else s.rl b) = .out
      rw [if_neg (fun z => hn (by rw [← z]; exact h))]
      exact R.fresh b h
    free := R.free
  }
theorem LRep.grow (R : LRep H0 ex H s) {x p : Addr} (ex_ : x = s.lk) {fs : List (Option Int)} (hp : H p = some (.lst (fs.map btV))) (rp : s.rl p = .ls s.ls.length) : LRep H0 ex (upd H x (.dK (linkK (s.ls ++ [p])))) { s with ls := s.ls ++ [p], g := { s.g with links := s.g.links ++ [fs] } } := by
  have hx : s.rl x = .lk := by rw [ex_]; exact R.rlk
  have ne : ∀ {a : Addr} {r : LR} {o : HO}, s.rl a = r → r ≠ s.rl x → upd H x o a = H a := fun h n => R.role h n
  have bs := R.base (x := x) (o := .dK (linkK (s.ls ++ [p]))) (by rw [hx]; intro z; cases z)
  have ls : ∀ j r', (s.g.links ++ [fs])[j]? = some r' → ∃ a, (s.ls ++ [p])[j]? = some a ∧ upd H x (.dK (linkK (s.ls ++ [p]))) a = some (.lst (r'.map btV)) ∧ s.rl a = .ls j := fun j r' h => by
    by_cases e : j < s.g.links.length
    · rw [List.getElem?_append_left e] at h
      obtain ⟨a, h1, h2, h3⟩ := R.ls j r' h
      exact ⟨a, by rw [List.getElem?_append_left (by rw [R.llen]; exact e)]; exact h1, (ne h3 (by rw [hx]; intro z; cases z)).trans h2, h3⟩
    · rw [List.getElem?_append_right (by omega)] at h
      have e2 : j - s.g.links.length = 0 := by
        have := (List.getElem?_eq_some_iff.mp h).1
        simp at this
        omega
      rw [e2] at h
      cases h
      have ej : j = s.ls.length := by have := R.llen; omega
      exact ⟨p, by rw [ej, List.getElem?_append_right (Nat.le_refl _), Nat.sub_self]; rfl, (ne rp (by rw [hx]; intro z; cases z)).trans hp, by rw [ej]; exact rp⟩
  exact {
    sl := (ne R.rsl (by rw [hx]; intro z; cases z)).trans R.sl
    rows := fun i r h => let ⟨a, h1, h2, h3⟩ := R.rows i r h; ⟨a, h1, (ne h3 (by rw [hx]; intro z; cases z)).trans h2, h3⟩
    rlen := R.rlen
    lk := by show upd H x _ s.lk = _; rw [ex_]; exact upd_same
    ls := ls
    llen := by show (s.ls ++ [p]).length = (s.g.links ++ [fs]).length; rw [List.length_append, List.length_append, R.llen]; rfl
    ta := (ne R.rta (by rw [hx]; intro z; cases z)).trans R.ta
    td := let ⟨k, h1, h2⟩ := R.td; ⟨k, (ne R.rtd (by rw [hx]; intro z; cases z)).trans h1, h2⟩
    ed := let ⟨k, h1, h2⟩ := R.ed; ⟨k, (ne R.red (by rw [hx]; intro z; cases z)).trans h1, h2⟩
    md := fun M h => let ⟨⟨k, h1, h2⟩, h3⟩ := R.md M h; ⟨⟨k, (ne h3 (by rw [hx]; intro z; cases z)).trans h1, h2⟩, h3⟩
    dd := let ⟨k, h1, h2⟩ := R.dd; ⟨k, (ne R.rdd (by rw [hx]; intro z; cases z)).trans h1, h2⟩
    rsl := R.rsl
    rlk := R.rlk
    rta := R.rta
    rtd := R.rtd
    red := R.red
    rdd := R.rdd
    own := R.own
    fr := bs.1
    fresh := bs.2.1
    free := bs.2.2
  }
theorem LRep.early (R : LRep H0 ex H s) {x p : Addr} (ex_ : x = s.ta) {P : Int → Prop} (hp : SetAt H p P) (rp : s.rl p = .ed) : LRep H0 ex (upd H x (.dK (putK (tallyK s) (Sum.inr "early") (.ref p)))) { s with ed := p, g := { s.g with early := P } } := by
  have hx : s.rl x = .ta := by rw [ex_]; exact R.rta
  have ne : ∀ {a : Addr} {r : LR} {o : HO}, s.rl a = r → r ≠ s.rl x → upd H x o a = H a := fun h n => R.role h n
  have bs := R.base (x := x) (o := .dK (putK (tallyK s) (Sum.inr "early") (.ref p))) (by rw [hx]; intro z; cases z)
  exact {
    sl := (ne R.rsl (by rw [hx]; intro z; cases z)).trans R.sl
    rows := fun i r h => let ⟨a, h1, h2, h3⟩ := R.rows i r h; ⟨a, h1, (ne h3 (by rw [hx]; intro z; cases z)).trans h2, h3⟩
    rlen := R.rlen
    lk := (ne R.rlk (by rw [hx]; intro z; cases z)).trans R.lk
    ls := fun i r h => let ⟨a, h1, h2, h3⟩ := R.ls i r h; ⟨a, h1, (ne h3 (by rw [hx]; intro z; cases z)).trans h2, h3⟩
    llen := R.llen
    ta := by show upd H x _ s.ta = _; rw [ex_, upd_same]; rfl
    td := let ⟨k, h1, h2⟩ := R.td; ⟨k, (ne R.rtd (by rw [hx]; intro z; cases z)).trans h1, h2⟩
    ed := let ⟨k, h1, h2⟩ := hp; ⟨k, (ne rp (by rw [hx]; intro z; cases z)).trans h1, h2⟩
    md := fun M h => let ⟨⟨k, h1, h2⟩, h3⟩ := R.md M h; ⟨⟨k, (ne h3 (by rw [hx]; intro z; cases z)).trans h1, h2⟩, h3⟩
    dd := let ⟨k, h1, h2⟩ := R.dd; ⟨k, (ne R.rdd (by rw [hx]; intro z; cases z)).trans h1, h2⟩
    rsl := R.rsl
    rlk := R.rlk
    rta := R.rta
    rtd := R.rtd
    red := rp
    rdd := R.rdd
    own := R.own
    fr := bs.1
    fresh := bs.2.1
    free := bs.2.2
  }
theorem LRep.dooms (R : LRep H0 ex H s) {x p : Addr} (ex_ : x = s.ta) {P : Int → Prop} (hp : SetAt H p P) (rp : s.rl p = .dd) : LRep H0 ex (upd H x (.dK (putK (tallyK s) (Sum.inr "doomed") (.ref p)))) { s with dd := p, g := { s.g with doomed := P } } := by
  have hx : s.rl x = .ta := by rw [ex_]; exact R.rta
  have ne : ∀ {a : Addr} {r : LR} {o : HO}, s.rl a = r → r ≠ s.rl x → upd H x o a = H a := fun h n => R.role h n
  have bs := R.base (x := x) (o := .dK (putK (tallyK s) (Sum.inr "doomed") (.ref p))) (by rw [hx]; intro z; cases z)
  exact {
    sl := (ne R.rsl (by rw [hx]; intro z; cases z)).trans R.sl
    rows := fun i r h => let ⟨a, h1, h2, h3⟩ := R.rows i r h; ⟨a, h1, (ne h3 (by rw [hx]; intro z; cases z)).trans h2, h3⟩
    rlen := R.rlen
    lk := (ne R.rlk (by rw [hx]; intro z; cases z)).trans R.lk
    ls := fun i r h => let ⟨a, h1, h2, h3⟩ := R.ls i r h; ⟨a, h1, (ne h3 (by rw [hx]; intro z; cases z)).trans h2, h3⟩
    llen := R.llen
    ta := by show upd H x _ s.ta = _; rw [ex_, upd_same]; rfl
    td := let ⟨k, h1, h2⟩ := R.td; ⟨k, (ne R.rtd (by rw [hx]; intro z; cases z)).trans h1, h2⟩
    ed := let ⟨k, h1, h2⟩ := R.ed; ⟨k, (ne R.red (by rw [hx]; intro z; cases z)).trans h1, h2⟩
    md := fun M h => let ⟨⟨k, h1, h2⟩, h3⟩ := R.md M h; ⟨⟨k, (ne h3 (by rw [hx]; intro z; cases z)).trans h1, h2⟩, h3⟩
    dd := let ⟨k, h1, h2⟩ := hp; ⟨k, (ne rp (by rw [hx]; intro z; cases z)).trans h1, h2⟩
    rsl := R.rsl
    rlk := R.rlk
    rta := R.rta
    rtd := R.rtd
    red := R.red
    rdd := rp
    own := R.own
    fr := bs.1
    fresh := bs.2.1
    free := bs.2.2
  }
theorem LRep.mets (R : LRep H0 ex H s) {x p : Addr} (ex_ : x = s.ta) {P : Int → Prop} (hp : SetAt H p P) (rp : s.rl p = .md) : LRep H0 ex (upd H x (.dK (putK (tallyK s) (Sum.inr "met") (.ref p)))) { s with md := p, g := { s.g with met := some P } } := by
  have hx : s.rl x = .ta := by rw [ex_]; exact R.rta
  have ne : ∀ {a : Addr} {r : LR} {o : HO}, s.rl a = r → r ≠ s.rl x → upd H x o a = H a := fun h n => R.role h n
  have bs := R.base (x := x) (o := .dK (putK (tallyK s) (Sum.inr "met") (.ref p))) (by rw [hx]; intro z; cases z)
  exact {
    sl := (ne R.rsl (by rw [hx]; intro z; cases z)).trans R.sl
    rows := fun i r h => let ⟨a, h1, h2, h3⟩ := R.rows i r h; ⟨a, h1, (ne h3 (by rw [hx]; intro z; cases z)).trans h2, h3⟩
    rlen := R.rlen
    lk := (ne R.rlk (by rw [hx]; intro z; cases z)).trans R.lk
    ls := fun i r h => let ⟨a, h1, h2, h3⟩ := R.ls i r h; ⟨a, h1, (ne h3 (by rw [hx]; intro z; cases z)).trans h2, h3⟩
    llen := R.llen
    ta := by show upd H x _ s.ta = _; rw [ex_, upd_same]; rfl
    td := let ⟨k, h1, h2⟩ := R.td; ⟨k, (ne R.rtd (by rw [hx]; intro z; cases z)).trans h1, h2⟩
    ed := let ⟨k, h1, h2⟩ := R.ed; ⟨k, (ne R.red (by rw [hx]; intro z; cases z)).trans h1, h2⟩
    md := fun M h => by cases h; exact let ⟨k, h1, h2⟩ := hp; ⟨⟨k, (ne rp (by rw [hx]; intro z; cases z)).trans h1, h2⟩, rp⟩
    dd := let ⟨k, h1, h2⟩ := R.dd; ⟨k, (ne R.rdd (by rw [hx]; intro z; cases z)).trans h1, h2⟩
    rsl := R.rsl
    rlk := R.rlk
    rta := R.rta
    rtd := R.rtd
    red := R.red
    rdd := R.rdd
    own := R.own
    fr := bs.1
    fresh := bs.2.1
    free := bs.2.2
  }
theorem LRep.unmet (R : LRep H0 ex H s) {x : Addr} (ex_ : x = s.ta) : LRep H0 ex (upd H x (.dK (putK (tallyK s) (Sum.inr "met") .non))) { s with g := { s.g with met := none } } := by
  have hx : s.rl x = .ta := by rw [ex_]; exact R.rta
  have ne : ∀ {a : Addr} {r : LR} {o : HO}, s.rl a = r → r ≠ s.rl x → upd H x o a = H a := fun h n => R.role h n
  have bs := R.base (x := x) (o := .dK (putK (tallyK s) (Sum.inr "met") .non)) (by rw [hx]; intro z; cases z)
  exact {
    sl := (ne R.rsl (by rw [hx]; intro z; cases z)).trans R.sl
    rows := fun i r h => let ⟨a, h1, h2, h3⟩ := R.rows i r h; ⟨a, h1, (ne h3 (by rw [hx]; intro z; cases z)).trans h2, h3⟩
    rlen := R.rlen
    lk := (ne R.rlk (by rw [hx]; intro z; cases z)).trans R.lk
    ls := fun i r h => let ⟨a, h1, h2, h3⟩ := R.ls i r h; ⟨a, h1, (ne h3 (by rw [hx]; intro z; cases z)).trans h2, h3⟩
    llen := R.llen
    ta := by show upd H x _ s.ta = _; rw [ex_, upd_same]; rfl
    td := let ⟨k, h1, h2⟩ := R.td; ⟨k, (ne R.rtd (by rw [hx]; intro z; cases z)).trans h1, h2⟩
    ed := let ⟨k, h1, h2⟩ := R.ed; ⟨k, (ne R.red (by rw [hx]; intro z; cases z)).trans h1, h2⟩
    md := fun M h => by cases h
    dd := let ⟨k, h1, h2⟩ := R.dd; ⟨k, (ne R.rdd (by rw [hx]; intro z; cases z)).trans h1, h2⟩
    rsl := R.rsl
    rlk := R.rlk
    rta := R.rta
    rtd := R.rtd
    red := R.red
    rdd := R.rdd
    own := R.own
    fr := bs.1
    fresh := bs.2.1
    free := bs.2.2
  }
end
end G

/-! The law, 5: small questions; what can be come to. -/
namespace G
open PySem PySem.Spec PyProof.Rows L2
theorem hu2 {k : Nat} {A : Around} (hr : Room k A) : A.units < cLine := by have := hr.un; omega
def spWhole : Sp := fun vs H Q _ => ∃ b : Int, vs = [.int b] ∧ Q (.bl true) H
def spInner : Sp := fun vs H Q _ => ∃ (v : V) (lk : Addr), vs = [v, .ref lk] ∧ ((v = .non ∧ ∀ p, H p = none → Q (.ref p) (upd H p (.lst []))) ∨ ∃ (b : Int) (l : Addr) (kvs : List (Key × V)), v = .int b ∧ H lk = some (.dK kvs) ∧ valV kvs (Sum.inl b) = some (.ref l) ∧ Q (.ref l) H)
def spEvent (K : PySem.W.Frag) : Sp := fun vs H Q _ => ∃ (t l : Addr) (x : Str) (th : V) (xs : List V), vs = [.ref t] ∧ H t = some (.tup [.str x, th, .ref l]) ∧ H l = some (.lst xs) ∧ Q (.bl true) H
/-- slots and links as they lie, for a walk -/
structure WalkAt (H : Hp) (sl lk : Addr) (rows ls : List Addr) (g : GS) : Prop where
  sl : H sl = some (.lst (rows.map V.ref))
  rows : All2 (fun a (r : List (Option Int)) => H a = some (.lst (r.map btV))) rows g.slots
  lk : H lk = some (.dK (linkK ls))
  ls : All2 (fun a (r : List (Option Int)) => H a = some (.lst (r.map btV))) ls g.links
structure GFit (g : GS) : Prop where
  rows : g.slots.length ≤ 5
  slots : ∀ r ∈ g.slots, r.length ≤ 9
  links : g.links.length ≤ 20000
  flds : ∀ fs ∈ g.links, fs.length ≤ 8
def spReach : Sp := fun vs H Q _ => ∃ (sl lk md : Addr) (rows ls : List Addr) (g : GS) (kvs : List (Key × V)) (M : Int → Prop), vs = [.ref sl, .ref lk, .ref md] ∧ WalkAt H sl lk rows ls g ∧ GFit g ∧ Linked g ∧ H md = some (.dK kvs) ∧ SetK kvs M ∧ (∀ b, M b → 1 ≤ b ∧ b ≤ (g.links.length : Int)) ∧ md ≠ lk ∧
  ∀ H1 kvs', (∀ b o, H b = some o → b ≠ md → H1 b = some o) → (∀ b, H1 b = none → H b = none) → H1 md = some (.dK kvs') → SetK kvs' (fun b => M b ∨ RchB g b) → Q .non H1
theorem link_rng {g : GS} {b : Int} {fs : List (Option Int)} (h : g.link b = some fs) : 1 ≤ b ∧ b ≤ (g.links.length : Int) ∧ g.links[(b - 1).toNat]? = some fs := by
  unfold GS.link at h
  split at h
  · have := (List.getElem?_eq_some_iff.mp h).1
    exact ⟨by assumption, by omega, h⟩
  · cases h
theorem rch_rng {g : GS} (L : Linked g) {b : Int} (h : RchB g b) : 1 ≤ b ∧ b ≤ (g.links.length : Int) := let ⟨_, hf⟩ := L b h; let ⟨h1, h2, _⟩ := link_rng hf; ⟨h1, h2⟩
theorem walk_link {H : Hp} {sl lk : Addr} {rows ls : List Addr} {g : GS} (h : WalkAt H sl lk rows ls g) {b : Int} {fs : List (Option Int)} (hf : g.link b = some fs) : ∃ l, valV (linkK ls) (Sum.inl b) = some (.ref l) ∧ H l = some (.lst (fs.map btV)) := by
  obtain ⟨h1, h2, h3⟩ := link_rng hf
  obtain ⟨l, hl, z⟩ := h.ls.get' h3
  exact ⟨l, by rw [linkK_get _ ls rfl, if_pos h1, hl]; rfl, z⟩
def seenK (Sn : List Int) : List (Key × V) := Sn.map fun b => (Sum.inl b, V.bl true)
theorem seenK_get : ∀ (Sn : List Int) (b : Int), (valV (seenK Sn) (Sum.inl b)).isSome = decide (b ∈ Sn)
  | [], b => rfl
  | a :: r, b => by
    by_cases e : (Sum.inl a : Key) = Sum.inl b
    · have : valV (seenK (a :: r)) (Sum.inl b) = some (V.bl true) := valV_pos (p := (Sum.inl a, V.bl true)) e
      rw [this]
      have e2 := Sum.inl.inj e
      simp [e2]
    · have : valV (seenK (a :: r)) (Sum.inl b) = valV (seenK r) (Sum.inl b) := valV_neg (p := (Sum.inl a, V.bl true)) e
      rw [this, seenK_get r b]
      have e2 : b ≠ a := fun z => e (by rw [z])
      simp [e2]
theorem seenK_put {Sn : List Int} {b : Int} (h : b ∉ Sn) : putK (seenK Sn) (Sum.inl b) (.bl true) = seenK (Sn ++ [b]) := by
  unfold putK
  rw [valV_any, seenK_get, if_neg (by simpa using h)]
  unfold seenK
  rw [List.map_append]
  rfl
section
variable {P : Program} {w : World} {K : PySem.W.Frag} {mg : Str → Option Value} {base : Heap}
theorem sc__law_whole : FnScope ["_law_found"] ["_law_found"] (defScope s__law_whole) := ⟨rfl, rfl, rfl, by decide +kernel, rfl, by decide +kernel, by decide +kernel⟩
theorem ok__law_whole (C : CtxG K mg) : Ok P w K mg base CX0 1 d__law_whole ["_law_found"] spWhole := by
  refine ok_mk0 C.T.f__law_whole sc__law_whole (fun vs H Q E h => ?_) (fun fd F => F.bindsN fun _ _ _ _ _ _ us hl => match us, hl with | [_], _ => rfl) (fun cdv A outer s H vs Q E hr h => ?_)
  · obtain ⟨b, rfl, _⟩ := h
    rfl
  · obtain ⟨b, rfl, k⟩ := h
    refine ⟨_, (pss_one (ps_ret (pe_and (pe_callB call_isi (by rfl) C.fr_isinstance (by decide +kernel) (pa_cons (pv 0) (pa_cons (pe_bltn (v := .ty "int") (by rfl) C.fr_int (by decide +kernel) rfl) pa_nil))) (pe_one (pe_not (pe_callB call_isi (by rfl) C.fr_isinstance (by decide +kernel) (pa_cons (pv 0) (pa_cons (pe_bltn (v := .ty "bool") (by rfl) C.fr_bool (by decide +kernel) rfl) pa_nil)))))))), ?_⟩
    refine ⟨_, rfl, .int b, .ty "int", .type "int", .type "int", true, rfl, .ty _, .base (.int b), ?_, true, rfl, ifT rfl ?_⟩
    · unfold PySem.W.kitOne
      rw [if_pos (beq_self_eq_true _)]
    · refine ⟨_, rfl, .int b, .ty "bool", .type "int", .type "bool", false, rfl, .ty _, .base (.int b), ?_, false, rfl, k⟩
      rfl
theorem sc__law_inner : FnScope ["_law_birth", "_law_links"] ["_law_birth", "_law_links"] (defScope s__law_inner) := ⟨rfl, rfl, rfl, by decide +kernel, rfl, by decide +kernel, by decide +kernel⟩
theorem ok__law_inner (C : CtxG K mg) : Ok P w K mg base CX0 1 d__law_inner ["_law_birth", "_law_links"] spInner := by
  refine ok_mk0 C.T.f__law_inner sc__law_inner (fun vs H Q E h => ?_) (fun fd F => F.bindsN fun _ _ _ _ _ _ us hl => match us, hl with | [_, _], _ => rfl) (fun cdv A outer s H vs Q E hr h => ?_)
  · obtain ⟨v, lk, rfl, _⟩ := h
    rfl
  · obtain ⟨v, lk, rfl, h⟩ := h
    refine ⟨_, (pss_cons (ps_if (pt_cmp (pc_isN (pv 0))) (pss_one (ps_ret (pe_lst pa_nil))) pss_nil)
      (pss_one (ps_ret (pe_dget (hu_of hr) (pv 1) (pv 0) (fun _ _ => rfl))))), ?_⟩
    rcases h with ⟨rfl, k⟩ | ⟨b, l, kvs, rfl, h1, h2, k⟩
    · exact ⟨_, rfl, _, rfl, ifT rfl ⟨(by decide), fun p hp => k p hp⟩⟩
    · have hg : DGet H lk (.int b) (some (.ref l)) := h2 ▸ DGet.k h1 (k := Sum.inl b)
      exact ⟨_, rfl, _, rfl, ifF rfl ⟨_, rfl, _, rfl, lk, _, rfl, hg, k⟩⟩
theorem sc__law_event : FnScope ["_law_event_here"] ["_law_event_here"] (defScope s__law_event) := ⟨rfl, rfl, rfl, by decide +kernel, rfl, by decide +kernel, by decide +kernel⟩
theorem ok__law_event (C : CtxG K mg) : Ok P w K mg base CX0 1 d__law_event ["_law_event_here"] (spEvent K) := by
  refine ok_mk0 C.T.f__law_event sc__law_event (fun vs H Q E h => ?_) (fun fd F => F.bindsN fun _ _ _ _ _ _ us hl => match us, hl with | [_], _ => rfl) (fun cdv A outer s H vs Q E hr h => ?_)
  · obtain ⟨t, l, x, th, xs, rfl, _⟩ := h
    rfl
  · obtain ⟨t, l, x, th, xs, rfl, ht, hl, k⟩ := h
    refine ⟨_, (pss_cons (ps_if (PW.pt (pw_or (pt_not (pt_val (pe_callB call_isi (by rfl) C.fr_isinstance (by decide +kernel) (pa_cons (pv 0) (pa_cons (pe_bltn (v := .ty "tuple") (by rfl) C.fr_tuple (by decide +kernel) rfl) pa_nil))))) (pw_or1 (pt_cmpR op_ne (pe_callB call_len_seq (by rfl) C.fr_len PySem.boot_len (pa_cons (pv 0) pa_nil)) pe_int (nomark _))))) (pss_one (ps_ret pe_bl)) pss_nil)
      (pss_one (ps_ret (pe_and (pe_callB call_isi (by rfl) C.fr_isinstance (by decide +kernel) (pa_cons (pe_ix ix_tup (pv 0) pe_int (fun _ _ => rfl)) (pa_cons (pe_bltn (v := .ty "str") (by rfl) C.fr_str (by decide +kernel) rfl) pa_nil))) (pe_one (pe_callB call_isi (by rfl) C.fr_isinstance (by decide +kernel) (pa_cons (pe_ix ix_tup (pv 0) pe_int (fun _ _ => rfl)) (pa_cons (pe_bltn (v := .ty "list") (by rfl) C.fr_list (by decide +kernel) rfl) pa_nil)))))))), ?_⟩
    refine ⟨_, rfl, .ref t, .ty "tuple", .type "tuple", .type "tuple", true, rfl, .ty _, .base (.tup ht), ?_, _, rfl, ifF rfl ?_⟩
    · unfold PySem.W.kitOne
      rw [if_pos (beq_self_eq_true _)]
    refine ⟨_, rfl, t, _, rfl, .inr (SqT.of ht), rfl, _, rfl, ifF rfl ?_⟩
    refine ⟨_, rfl, rdT (i := 0) ht rfl ⟨.str x, .ty "str", .type "str", .type "str", true, rfl, .ty _, .base (.str x), ?_, true, rfl, ifT rfl ?_⟩⟩
    · unfold PySem.W.kitOne
      rw [if_pos (beq_self_eq_true _)]
    refine ⟨_, rfl, rdT (i := 2) ht rfl ⟨.ref l, .ty "list", .type "list", .type "list", true, rfl, .ty _, .base (.lst hl), ?_, k⟩⟩
    unfold PySem.W.kitOne
    rw [if_pos (beq_self_eq_true _)]
end
end G

/-! The law, 6: its walk. -/
namespace G
open PySem PySem.Spec PyProof.Rows L2
theorem seen_set {Sn : List Int} (h : Sn.Nodup) : SetK (seenK Sn) fun b => b ∈ Sn := by
  refine ⟨fun b => ?_, fun kv hkv => ?_, ?_⟩
  · rw [seenK_get]
    exact ⟨fun h => decide_eq_true h, fun h => of_decide_eq_true h⟩
  · obtain ⟨b, _, rfl⟩ := List.mem_map.mp hkv
    exact ⟨b, rfl⟩
  · unfold seenK
    rw [List.map_map]
    exact List.pairwise_map.mpr (h.imp fun {a c} hac e => hac (Sum.inl.inj e))
structure ReI (H H' : Hp) (td sd md : Addr) (g : GS) (M : Int → Prop) (T : List (Option Int)) (Sn : List Int) (kvs : List (Key × V)) : Prop where
  keep : ∀ b o, H b = some o → b ≠ md → H' b = some o
  free : ∀ b, H' b = none → H b = none
  htd : H' td = some (.lst (T.map btV))
  hsd : H' sd = some (.dK (seenK Sn))
  hmd : H' md = some (.dK kvs)
  hk : SetK kvs fun b => M b ∨ b ∈ Sn
  rT : ∀ b, some b ∈ T → RchB g b
  rS : ∀ b ∈ Sn, RchB g b
  nd : Sn.Nodup
  roots : ∀ r ∈ g.slots, ∀ b, some b ∈ r → b ∈ Sn ∨ some b ∈ T
  closed : ∀ b ∈ Sn, ∀ fs, g.link b = some fs → ∀ q, some q ∈ fs → q ∈ Sn ∨ some q ∈ T
  len : T.length ≤ 45 + 8 * Sn.length
theorem ReI.few {H H' : Hp} {td sd md : Addr} {g : GS} {M : Int → Prop} {T : List (Option Int)} {Sn : List Int} {kvs : List (Key × V)} (h : ReI H H' td sd md g M T Sn kvs) (L : Linked g) : Sn.length ≤ g.links.length := by
  have := (seen_set h.nd).len (n := g.links.length) fun b hb => rch_rng L (h.rS b hb)
  unfold seenK at this
  rw [List.length_map] at this
  exact this
theorem ReI.all {H H' : Hp} {td sd md : Addr} {g : GS} {M : Int → Prop} {Sn : List Int} {kvs : List (Key × V)} (h : ReI H H' td sd md g M [] Sn kvs) : ∀ b, RchB g b → b ∈ Sn := by
  intro b hb
  induction hb with
  | root h1 h2 => exact (h.roots _ h1 _ h2).elim id fun z => by cases z
  | step _ h2 h3 ih => exact (h.closed _ ih _ h2 _ h3).elim id fun z => by cases z
section
variable {P : Program} {w : World} {K : PySem.W.Frag} {mg : Str → Option Value} {base : Heap}
theorem sc__law_reach : FnScope ["_law_slots", "_law_links", "_law_met", "_law_todo", "_law_row_here", "_law_seen", "_law_birth"] ["_law_slots", "_law_links", "_law_met"] (defScope s__law_reach) := ⟨rfl, rfl, rfl, by decide +kernel, rfl, by decide +kernel, by decide +kernel⟩
theorem ok__law_reach (C : CtxG K mg) : Ok P w K mg base CX0 1 d__law_reach ["_law_slots", "_law_links", "_law_met"] spReach := by
  refine ok_mk0 C.T.f__law_reach sc__law_reach (fun vs H Q E h => ?_) (fun fd F => F.bindsN fun _ _ _ _ _ _ us hl => match us, hl with | [_, _, _], _ => rfl) (fun cdv A outer s H vs Q E hr h => ?_)
  · obtain ⟨sl, lk, md, rows, ls, g, kvs, M, rfl, _⟩ := h
    rfl
  · obtain ⟨sl, lk, md, rows, ls, g, kvs, M, rfl, wk, fit, L, hmd, hk, hM, mdlk, k⟩ := h
    refine ⟨_, (pss_cons (ps_set (i := 3) sc__law_reach.nd rfl (Or.inl rfl) (pe_lst pa_nil))
      (pss_cons (ps_for PassesOwn.never rfl (pi_list (pv 0)) (pg_name (i := 4) sc__law_reach.nd rfl (Or.inl rfl)) (pss_one (ps_aug (i := 3) sc__law_reach.nd rfl (.inl rfl) (pv 4) ip_ext)))
      (pss_cons (ps_set (i := 5) sc__law_reach.nd rfl (Or.inl rfl) pe_dnewK)
      (pss_one (ps_while PassesOwn.never (pt_cmpR (op_neL hr) (pv 3) (pe_lst pa_nil) (nomark _)) (pss_cons (ps_set (i := 6) sc__law_reach.nd rfl (Or.inl rfl) (pe_bm0 PySem.F.plainAttrs_list PySem.F.slot_list_pop PySem.F.type_list_pop mt_pop (pv 3)))
      (pss_one (ps_if (PW.pt (pw_and (pt_cmp (pc_notN (pv 6))) (pw_and1 (pt_cmp (pc_dnotin (hu_of hr) (pv 6) (pv 5)))))) (pss_cons (ps_dput (hu_of hr) (pv 5) (pv 6) pe_bl rfl)
      (pss_cons (ps_dput (hu_of hr) (pv 2) (pv 6) pe_bl rfl)
      (pss_one (ps_aug (i := 3) sc__law_reach.nd rfl (.inl rfl) (pe_dget (hu_of hr) (pv 1) (pv 6) (fun _ _ => rfl)) ip_ext)))) pss_nil)))))))), ?_⟩
    refine ⟨(by decide), fun td htd => ?_⟩
    have e0 : Same H (upd H td (.lst [])) := Same.new htd
    have rl : rows.length = g.slots.length := wk.rows.1
    refine ⟨_, rfl, sl, rfl, ⟨_, SqL.of (e0 _ _ wk.sl)⟩, for_it (walk_list (xs := rows.map V.ref)) (fun i σ H' => ∃ v4 T, σ = [some (.ref sl), some (.ref lk), some (.ref md), some (.ref td), v4, none, none] ∧ Same H H' ∧ H' td = some (.lst ((T : List (Option Int)).map btV)) ∧ T.length ≤ 9 * i ∧ (∀ b, some b ∈ T → ∃ r ∈ g.slots, some b ∈ r) ∧ ∀ r ∈ g.slots.take i, ∀ b, some b ∈ r → some b ∈ T)
      ⟨none, [], rfl, e0, upd_same, Nat.le_refl _, (fun b h => by cases h), (fun r h => by simp at h)⟩ (fun i σ H' _ ⟨_, _, _, e, _⟩ => SqL.of (e _ _ wk.sl)) ?_ ?_⟩
    · rintro i x σ H1 H1' hi ⟨v4, T, rfl, e1, h1, tl, tin, tcov⟩ ⟨rfl, hx⟩
      rw [List.getElem?_map] at hx
      obtain ⟨a, ha, rfl⟩ := Option.map_eq_some_iff.mp hx
      obtain ⟨r, hr, har⟩ := wk.rows.get ha
      have rm := List.mem_of_getElem? hr
      have r9 := fit.slots r rm
      have hi5 : i < g.slots.length := (List.getElem?_eq_some_iff.mp hr).1
      have r5 := fit.rows
      refine ⟨_, rfl, _, rfl, td, a, _, _, rfl, rfl, h1, e1 _ _ har, ?_, _, T ++ r, rfl, Same.mut e1 htd, by rw [upd_same, List.map_append], by rw [List.length_append]; omega, fun b hb => ?_, fun r' hr' b hb => ?_⟩
      · rw [List.length_map, List.length_map]
        exact few_line (by omega)
      · rcases List.mem_append.mp hb with h | h
        · exact tin b h
        · exact ⟨r, rm, h⟩
      · rw [take_more hr] at hr'
        rcases List.mem_append.mp hr' with h | h
        · exact List.mem_append_left _ (tcov r' h b hb)
        · rw [List.mem_singleton.mp h] at hb
          exact List.mem_append_right _ hb
    · rintro σ H1 ⟨v4, T, rfl, e1, h1, tl, tin, tcov⟩
      rw [List.length_map, rl] at tl tcov
      rw [List.take_length] at tcov
      have r5 := fit.rows
      intro sd hsd
      have eS := e1.trans (Same.new (o := .dK []) hsd)
      have tdsd : td ≠ sd := ne_of_none h1 hsd
      have tdmd : td ≠ md := (ne_of_none hmd htd).symm
      have sdn : H sd = none := e1.free hsd
      have sdmd : sd ≠ md := (ne_of_none hmd sdn).symm
      refine ⟨fun m σ H' => ∃ T Sn kv v4 v6, m = T.length + 9 * (g.links.length - Sn.length) ∧ σ = [some (.ref sl), some (.ref lk), some (.ref md), some (.ref td), v4, some (.ref sd), v6] ∧ ReI H H' td sd md g M T Sn kv,
        ⟨_, T, [], kvs, v4, none, rfl, rfl, ⟨fun b o h _ => eS b o h, fun b h => eS.free h, by rw [upd_ne tdsd]; exact h1, upd_same, eS _ _ hmd, hk.same fun b => ⟨.inl, fun z => z.elim id fun z => by cases z⟩, fun b hb => let ⟨r, h1, h2⟩ := tin b hb; .root h1 h2, (fun b h => by cases h), List.nodup_nil, fun r hr b hb => .inr (tcov r hr b hb), (fun b h => by cases h), by simp; omega⟩⟩, ?_⟩
      rintro m σ H2 ⟨T1, Sn, kv, v4, v6, rfl, rfl, r⟩
      have few := r.few L
      have lmany := fit.links
      refine ⟨_, rfl, (by decide), fun l hl => ?_⟩
      have eL : Same H2 (upd H2 l (.lst [])) := Same.new hl
      refine ⟨td, l, _, rfl, rfl, SqL.of (eL _ _ r.htd), SqL.of upd_same, _, rfl, ?_⟩
      by_cases hT : T1 = []
      · subst hT
        refine ifF rfl (k _ kv (fun b o h n => eL _ _ (r.keep b o h n)) (fun b h => r.free b (eL.free h)) (eL _ _ r.hmd) (r.hk.same fun b => or_congr Iff.rfl ⟨fun h => r.rS b h, fun h => r.all b h⟩))
      · obtain ⟨T', y, rfl⟩ : ∃ T' y, T1 = T' ++ [y] := ⟨T1.dropLast, T1.getLast hT, (List.dropLast_concat_getLast hT).symm⟩
        have hne : (!((T' ++ [y]).map btV).isEmpty) = true := by simp
        refine ifT hne ?_
        refine ⟨fun σ' H' => ∃ T2 Sn2 kv2 v4 v6, T2.length + 9 * (g.links.length - Sn2.length) < (T' ++ [y]).length + 9 * (g.links.length - Sn.length) ∧ σ' = [some (.ref sl), some (.ref lk), some (.ref md), some (.ref td), v4, some (.ref sd), v6] ∧ ReI H H' td sd md g M T2 Sn2 kv2,
          fun σ' H' ⟨T2, Sn2, kv2, v4, v6, hm, hσ, hr⟩ => ⟨_, hm, T2, Sn2, kv2, v4, v6, rfl, hσ, hr⟩, ?_⟩
        have htd2 := eL _ _ r.htd
        refine ⟨_, rfl, .inl ⟨rfl, _, SqL.of htd2⟩, td, _, btV y, rfl, rfl, htd2, by simp, ?_⟩
        rw [show ((T' ++ [y]).map btV).dropLast = T'.map btV by simp]
        generalize hE : upd (upd H2 l (.lst [])) td (.lst (T'.map btV)) = H3
        have keep3 : ∀ b o, H b = some o → b ≠ md → H3 b = some o := fun b o h n => by
          rw [← hE, upd_ne (ne_of_none h htd)]
          exact eL _ _ (r.keep b o h n)
        have free3 : ∀ b, H3 b = none → H b = none := fun b h => by
          by_cases e : b = td
          · rw [e]
            exact htd
          · rw [← hE, upd_ne e] at h
            exact r.free b (eL.free h)
        have td3 : H3 td = some (.lst (T'.map btV)) := by rw [← hE]; exact upd_same
        have sd3 : H3 sd = some (.dK (seenK Sn)) := by rw [← hE, upd_ne tdsd.symm]; exact eL _ _ r.hsd
        have md3 : H3 md = some (.dK kv) := by rw [← hE, upd_ne tdmd.symm]; exact eL _ _ r.hmd
        clear hE
        have len0 := r.len
        rw [List.length_append] at len0
        have len0 : T'.length + 1 ≤ 45 + 8 * Sn.length := len0
        have skip : (∀ b, y = some b → b ∈ Sn) → ∃ T2 Sn2 kv2 v4' v6, T2.length + 9 * (g.links.length - Sn2.length) < (T' ++ [y]).length + 9 * (g.links.length - Sn.length) ∧ [some (.ref sl), some (.ref lk), some (.ref md), some (.ref td), v4, some (.ref sd), some (btV y)] = [some (.ref sl), some (.ref lk), some (.ref md), some (.ref td), v4', some (.ref sd), v6] ∧ ReI H H3 td sd md g M T2 Sn2 kv2 := fun hy => by
          refine ⟨T', Sn, kv, v4, _, by rw [List.length_append, List.length_singleton]; omega, rfl, ⟨keep3, free3, td3, sd3, md3, r.hk, fun b hb => r.rT b (List.mem_append_left _ hb), r.rS, r.nd, fun r' hr' b hb => ?_, fun b hb fs hf q hq => ?_, by omega⟩⟩
          · rcases r.roots r' hr' b hb with h | h
            · exact .inl h
            · rcases List.mem_append.mp h with h | h
              · exact .inr h
              · exact .inl (hy b (List.mem_singleton.mp h).symm)
          · rcases r.closed b hb fs hf q hq with h | h
            · exact .inl h
            · rcases List.mem_append.mp h with h | h
              · exact .inr h
              · exact .inl (hy q (List.mem_singleton.mp h).symm)
        cases y with
        | none => exact ⟨_, rfl, _, rfl, ifF rfl (ifF rfl (skip fun b e => by cases e))⟩
        | some b =>
          refine ⟨_, rfl, _, rfl, ifT rfl ⟨_, rfl, _, rfl, sd, _, rfl, DGet.k sd3 (k := Sum.inl b), _, rfl, ?_⟩⟩
          rw [seenK_get]
          by_cases hb : b ∈ Sn
          · exact ifF (by simp [hb]) (skip fun b' e => by cases e; exact hb)
          · refine ifT (by simp [hb]) ?_
            have rb := r.rT b (List.mem_append_right _ (by simp))
            obtain ⟨fs, hf⟩ := L b rb
            obtain ⟨lf, hv, hlf⟩ := walk_link wk hf
            obtain ⟨_, _, hfl⟩ := link_rng hf
            have f8 := fit.flds fs (List.mem_of_getElem? hfl)
            have lm : (seenK Sn).length < sizeLine := by
              unfold seenK
              rw [List.length_map]
              exact wide_line (by omega)
            refine ⟨_, rfl, _, rfl, sd, _, rfl, .inl ⟨seenK Sn, Sum.inl b, sd3, rfl, lm, rfl⟩, ?_⟩
            rw [seenK_put hb]
            have md4 : upd H3 sd (.dK (seenK (Sn ++ [b]))) md = some (.dK kv) := by rw [upd_ne sdmd.symm]; exact md3
            have kl : kv.length < sizeLine := by
              have := r.hk.len (n := g.links.length) fun x hx => hx.elim (hM x) fun q => rch_rng L (r.rS x q)
              exact wide_line (by omega)
            refine ⟨_, rfl, _, rfl, md, _, rfl, .inl ⟨kv, Sum.inl b, md4, rfl, kl, rfl⟩, ?_⟩
            have lkn : lk ≠ sd := ne_of_none wk.lk sdn
            have lk5 : upd (upd H3 sd (.dK (seenK (Sn ++ [b])))) md (.dK (putK kv (Sum.inl b) (.bl true))) lk = some (.dK (linkK ls)) := by rw [upd_ne mdlk.symm, upd_ne lkn]; exact keep3 _ _ wk.lk mdlk.symm
            have td5 : upd (upd H3 sd (.dK (seenK (Sn ++ [b])))) md (.dK (putK kv (Sum.inl b) (.bl true))) td = some (.lst (T'.map btV)) := by rw [upd_ne tdmd, upd_ne tdsd]; exact td3
            have lfm : lf ≠ md := fun z => by rw [z, hmd] at hlf; cases hlf
            have lf5 : upd (upd H3 sd (.dK (seenK (Sn ++ [b])))) md (.dK (putK kv (Sum.inl b) (.bl true))) lf = some (.lst (fs.map btV)) := by rw [upd_ne lfm, upd_ne (ne_of_none hlf sdn)]; exact keep3 _ _ hlf lfm
            have hg : DGet (upd (upd H3 sd (.dK (seenK (Sn ++ [b])))) md (.dK (putK kv (Sum.inl b) (.bl true)))) lk (.int b) (some (.ref lf)) := hv ▸ DGet.k lk5 (k := Sum.inl b)
            refine ⟨_, rfl, _, rfl, _, rfl, lk, _, rfl, hg, td, lf, _, _, rfl, rfl, td5, lf5, ?_, ?_⟩
            · rw [List.length_map, List.length_map]
              exact Nat.le_of_lt (wide_line (by omega))
            · have nd2 : (Sn ++ [b]).Nodup := List.nodup_append.mpr ⟨r.nd, by simp, fun a ha c hc e => hb (by rw [List.mem_singleton.mp hc] at e; exact e ▸ ha)⟩
              have few2 : (Sn ++ [b]).length ≤ g.links.length := by
                have := (seen_set nd2).len (n := g.links.length) fun x hx => by
                  rcases List.mem_append.mp hx with h | h
                  · exact rch_rng L (r.rS x h)
                  · rw [List.mem_singleton.mp h]
                    exact rch_rng L rb
                unfold seenK at this
                rw [List.length_map] at this
                exact this
              rw [List.length_append] at few2
              have few2 : Sn.length + 1 ≤ g.links.length := few2
              have meas : (T' ++ fs).length + 9 * (g.links.length - (Sn ++ [b]).length) < (T' ++ [some b]).length + 9 * (g.links.length - Sn.length) := by
                rw [List.length_append, List.length_append, List.length_append]
                simp
                omega
              refine ⟨T' ++ fs, Sn ++ [b], _, v4, _, meas, rfl, ⟨fun c o h n => ?_, fun c h => ?_, by rw [upd_same, List.map_append], ?_, ?_, (r.hk.put b (.bl true)).same fun x => ?_, fun x hx => ?_, fun x hx => ?_, nd2, fun r' hr' x hx => ?_, fun x hx fs' hf' q hq => ?_, ?_⟩⟩
              · rw [upd_ne (ne_of_none h htd), upd_ne n, upd_ne (ne_of_none h sdn)]
                exact keep3 c o h n
              · by_cases e : c = td
                · rw [e]
                  exact htd
                · rw [upd_ne e] at h
                  by_cases e2 : c = md
                  · rw [e2, upd_same] at h
                    cases h
                  · rw [upd_ne e2] at h
                    by_cases e3 : c = sd
                    · rw [e3]
                      exact sdn
                    · rw [upd_ne e3] at h
                      exact free3 c h
              · rw [upd_ne tdsd.symm, upd_ne sdmd, upd_same]
              · rw [upd_ne tdmd.symm, upd_same]
              · rw [List.mem_append, List.mem_singleton]
                exact or_assoc
              · rcases List.mem_append.mp hx with h | h
                · exact r.rT x (List.mem_append_left _ h)
                · exact .step rb hf h
              · rcases List.mem_append.mp hx with h | h
                · exact r.rS x h
                · rw [List.mem_singleton.mp h]
                  exact rb
              · rcases r.roots r' hr' x hx with h | h
                · exact .inl (List.mem_append_left _ h)
                · rcases List.mem_append.mp h with h | h
                  · exact .inr (List.mem_append_left _ h)
                  · cases List.mem_singleton.mp h
                    exact .inl (List.mem_append_right _ (by simp))
              · rcases List.mem_append.mp hx with h | h
                · rcases r.closed x h fs' hf' q hq with h | h
                  · exact .inl (List.mem_append_left _ h)
                  · rcases List.mem_append.mp h with h | h
                    · exact .inr (List.mem_append_left _ h)
                    · cases List.mem_singleton.mp h
                      exact .inl (List.mem_append_right _ (by simp))
                · rw [List.mem_singleton.mp h, hf] at hf'
                  cases hf'
                  exact .inr (List.mem_append_right _ hq)
              · rw [List.length_append, List.length_append]
                simp
                omega
end
end G

/-! The law, 7: an event of the sweeper. -/
namespace G
open PySem PySem.Spec PyProof.Rows L2
structure GOk (lens : List Nat) (n : Nat) (g : GS) : Prop where
  shape : g.slots.map (·.length) = lens
  few : g.links.length ≤ n
  flds : ∀ fs ∈ g.links, fs.length ≤ 8
  there : ∀ b, g.there b → 1 ≤ b ∧ b ≤ (g.links.length : Int)
  early : ∀ b, g.early b → 1 ≤ b ∧ b ≤ (g.links.length : Int)
  met : ∀ M, g.met = some M → ∀ b, M b → 1 ≤ b ∧ b ≤ (g.links.length : Int)
  doomed : ∀ b, g.doomed b → 1 ≤ b ∧ b ≤ (g.links.length : Int)
theorem GOk.step {lens : List Nat} {n : Nat} {g g' : GS} {e : Ev} (h : GOk lens n g) (d : LawStep g e g') : GOk lens n g' := by
  cases d with
  | begin L => exact ⟨h.shape, h.few, h.flds, h.there, h.there, fun M hM b hb => by cases hM; exact rch_rng L hb, h.doomed⟩
  | cut h1 h2 h3 h4 => exact ⟨h.shape, h.few, h.flds, h.there, h.early, (fun M hM => by cases hM), fun b hb => h.there b (h3 b hb)⟩
  | back h1 h2 => exact ⟨h.shape, h.few, h.flds, fun b hb => h.there b hb.1, h.early, h.met, fun b hb => h.doomed b hb.1⟩
  | fin h1 => exact h
  | other h1 h2 h3 h4 => exact h
theorem GOk.fit {lens : List Nat} {n : Nat} {g : GS} (h : GOk lens n g) (L : LensOk lens) (hn : n ≤ 20000) : GFit g := by
  refine ⟨?_, fun r hr => ?_, Nat.le_trans h.few hn, h.flds⟩
  · have := congrArg List.length h.shape
    rw [List.length_map] at this
    rw [this]
    exact L.many
  · refine L.each _ ?_
    rw [← h.shape]
    exact List.mem_map.mpr ⟨r, hr, rfl⟩
theorem LRep.walk {H0 H : Hp} {ex : Addr → Prop} {s : LW} (R : LRep H0 ex H s) : WalkAt H s.sl s.lk s.rows s.ls s.g :=
  ⟨R.sl, ⟨R.rlen, fun i a r ha hr => let ⟨a', h1, h2, _⟩ := R.rows i r hr; by rw [ha] at h1; cases h1; exact h2⟩, R.lk, ⟨R.llen, fun i a r ha hr => let ⟨a', h1, h2, _⟩ := R.ls i r hr; by rw [ha] at h1; cases h1; exact h2⟩⟩
theorem rch_of {g g' : GS} (h1 : g'.slots = g.slots) (h2 : g'.links = g.links) {b : Int} (h : RchB g b) : RchB g' b := by
  have hl : ∀ b, g'.link b = g.link b := fun b => by unfold GS.link; rw [h2]
  induction h with
  | root a c => exact .root (h1 ▸ a) c
  | step _ a c ih => exact .step ih ((hl _).trans a) c
theorem upd_self {H : Hp} {a : Addr} {o : HO} (h : H a = some o) : upd H a o = H := by
  funext b
  by_cases e : b = a
  · rw [e, upd_same, h]
  · rw [upd_ne e]
def AdEq (s s' : LW) : Prop := s'.sl = s.sl ∧ s'.lk = s.lk ∧ s'.ta = s.ta
/-- an event that stands since the start -/
structure EvO (H0 : Hp) (ex : Addr → Prop) (t l : Addr) (e : Ev) : Prop where
  ht : H0 t = some (.tup [.str e.word, e.thing, .ref l])
  hl : H0 l = some (.lst (e.nums.map V.int))
  nt : ¬ ex t
  nl : ¬ ex l
theorem LRep.dg {H0 H : Hp} {ex : Addr → Prop} {s : LW} (R : LRep H0 ex H s) : DGet H s.ta (.str "there") (some (.ref s.td)) ∧ DGet H s.ta (.str "early") (some (.ref s.ed)) ∧ DGet H s.ta (.str "met") (some (metV s)) ∧ DGet H s.ta (.str "doomed") (some (.ref s.dd)) :=
  ⟨DGet.k R.ta (k := Sum.inr "there"), DGet.k R.ta (k := Sum.inr "early"), DGet.k R.ta (k := Sum.inr "met"), DGet.k R.ta (k := Sum.inr "doomed")⟩
theorem set_get {H : Hp} {a : Addr} {kvs : List (Key × V)} {P : Int → Prop} (h : H a = some (.dK kvs)) (hk : SetK kvs P) (b : Int) : ∃ o, DGet H a (.int b) o ∧ (P b ↔ o.isSome = true) := ⟨_, DGet.k h (k := Sum.inl b), hk.has b⟩
theorem tally_len (s : LW) : (tallyK s).length < sizeLine := by
  show 4 < sizeLine
  decide
def spCutL : Sp := fun vs H Q _ => ∃ (H0 : Hp) (ex : Addr → Prop) (s : LW) (t l : Addr) (nums : List Int) (M : Int → Prop) (lens : List Nat) (n : Nat), vs = [.ref t, .ref s.ta] ∧ LRep H0 ex H s ∧ EvO H0 ex t l ⟨"cut", .int (nums.length : Nat), nums⟩ ∧ GOk lens n s.g ∧ n ≤ 20000 ∧
  s.g.met = some M ∧ nums.Nodup ∧ (∀ b ∈ nums, s.g.there b) ∧ (∀ b, s.g.early b → M b ∨ b ∈ nums) ∧ ∀ H' s', LRep H0 ex H' s' → s'.g = { s.g with doomed := fun b => b ∈ nums, met := none } → AdEq s s' → Q (.bl true) H'
section
variable {P : Program} {w : World} {K : PySem.W.Frag} {mg : Str → Option Value} {base : Heap}
theorem sc__law_cut : FnScope ["_law_event_here", "_law_tally", "_law_doomed", "_law_birth"] ["_law_event_here", "_law_tally"] (defScope s__law_cut) := ⟨rfl, rfl, rfl, by decide +kernel, rfl, by decide +kernel, by decide +kernel⟩
theorem ok__law_cut (C : CtxG K mg) : Ok P w K mg base CX0 2 d__law_cut ["_law_event_here", "_law_tally"] spCutL := by
  refine ok_mk0 C.T.f__law_cut sc__law_cut (fun vs H Q E h => ?_) (fun fd F => F.bindsN fun _ _ _ _ _ _ us hl => match us, hl with | [_, _], _ => rfl) (fun cdv A outer s H vs Q E hr h => ?_)
  · obtain ⟨H0, ex, s, t, l, nums, M, lens, n, rfl, _⟩ := h
    rfl
  · obtain ⟨H0, ex, sw, t, l, nums, M, lens, n, rfl, R, eo, go, n2, hmet, nd, hth, hea, k⟩ := h
    refine ⟨_, (pss_cons (ps_set (i := 2) sc__law_cut.nd rfl (Or.inl rfl) pe_dnewK)
      (pss_cons (ps_for PassesOwn.never rfl (pi_list (pe_ix ix_tup (pv 0) pe_int (fun _ _ => rfl))) (pg_name (i := 3) sc__law_cut.nd rfl (Or.inl rfl)) (pss_cons (ps_if (PW.pt (pw_or (pt_not (pt_val (pe_fn (ok__law_whole C) (hr.mono (by decide)) C.g__law_whole (pa_cons (pv 3) pa_nil)))) (pw_or (pt_cmp (pc_din (hu_of hr) (pv 3) (pv 2))) (pw_or1 (pt_cmp (pc_dnotin (hu_of hr) (pv 3) (pe_dget (hu_of hr) (pv 1) pe_str (fun _ _ => rfl)))))))) (pss_one (ps_ret pe_bl)) pss_nil)
      (pss_one (ps_dput (hu_of hr) (pv 2) (pv 3) pe_bl rfl))))
      (pss_cons (ps_lock (ps_for PassesOwn.never rfl (pi_keys (pe_dget (hu_of hr) (pv 1) pe_str (fun _ _ => rfl))) (pg_name (i := 3) sc__law_cut.nd rfl (Or.inl rfl)) (pss_one (ps_if (PW.pt (pw_and (pt_cmp (pc_dnotin (hu_of hr) (pv 3) (pe_dget (hu_of hr) (pv 1) pe_str (fun _ _ => rfl)))) (pw_and1 (pt_cmp (pc_dnotin (hu_of hr) (pv 3) (pv 2)))))) (pss_one (ps_ret pe_bl)) pss_nil))))
      (pss_cons (ps_dput (hu_of hr) (pv 1) pe_str (pv 2) rfl)
      (pss_cons (ps_dput (hu_of hr) (pv 1) pe_str pe_non rfl)
      (pss_one (ps_ret (pe_and (pe_fn (ok__law_whole C) (hr.mono (by decide)) C.g__law_whole (pa_cons (pe_ix ix_tup (pv 0) pe_int (fun _ _ => rfl)) pa_nil)) (pe_one (pe_cmpR op_eq (pe_ix ix_tup (pv 0) pe_int (fun _ _ => rfl)) (pe_callB call_len_seq (by rfl) C.fr_len PySem.boot_len (pa_cons (pe_ix ix_tup (pv 0) pe_int (fun _ _ => rfl)) pa_nil)) (nomark _))))))))))), ?_⟩
    intro dm hdm
    have ht := R.fr _ _ eo.ht eo.nt
    have hl := R.fr _ _ eo.hl eo.nl
    have sm : ∀ o, Same H (upd H dm o) := fun o => Same.new hdm
    have nlen : nums.length ≤ n := by
      have h1 := (seen_set nd).len (n := sw.g.links.length) fun b hb => go.there b (hth b hb)
      unfold seenK at h1
      rw [List.length_map] at h1
      exact Nat.le_trans h1 go.few
    obtain ⟨kt, td1, tk⟩ := R.td
    obtain ⟨km, md1, mk⟩ := (R.md M hmet).1
    obtain ⟨ke, ed1, ek⟩ := R.ed
    refine ⟨_, rfl, rdT (i := 2) (sm _ _ _ ht) rfl ⟨l, rfl, ⟨_, SqL.of (sm _ _ _ hl)⟩, for_it (walk_list (xs := nums.map V.int)) (fun i σ H' => ∃ v3, σ = [some (.ref t), some (.ref sw.ta), some (.ref dm), v3] ∧ H' = upd H dm (.dK (seenK (nums.take i))))
      ⟨none, rfl, rfl⟩ (fun i σ H' _ ⟨_, _, e⟩ => by rw [e]; exact SqL.of (sm _ _ _ hl)) ?_ ?_⟩⟩
    · rintro i x σ H1 H1' hi ⟨v3, rfl, rfl⟩ ⟨rfl, hx⟩
      rw [List.getElem?_map] at hx
      obtain ⟨b, hb, rfl⟩ := Option.map_eq_some_iff.mp hx
      have bm := List.mem_of_getElem? hb
      have hil : i < nums.length := (List.getElem?_eq_some_iff.mp hb).1
      have bn : b ∉ nums.take i := fun hm => by
        obtain ⟨j, hj⟩ := List.getElem?_of_mem hm
        have hji : j < i := by
          have := (List.getElem?_eq_some_iff.mp hj).1
          rw [List.length_take] at this
          omega
        rw [List.getElem?_take_of_lt hji] at hj
        have := nd_ix nd hj hb
        omega
      have R1 := R.same (sm (.dK (seenK (nums.take i))))
      have hd := (sm (.dK (seenK (nums.take i)))) _ _ td1
      refine ⟨_, rfl, b, rfl, _, rfl, ifF rfl ?_⟩
      refine ⟨_, rfl, _, rfl, dm, _, rfl, DGet.k upd_same (k := Sum.inl b), _, rfl, ?_⟩
      rw [seenK_get]
      refine ifF (by simp [bn]) ?_
      obtain ⟨o, g1, g2⟩ := set_get hd tk b
      have os : o.isSome = true := g2.mp (hth b bm)
      refine ⟨_, rfl, _, rfl, sw.ta, _, rfl, R1.dg.1, sw.td, o, rfl, g1, _, rfl, ?_⟩
      rw [os]
      refine ifF rfl ?_
      refine ⟨_, rfl, _, rfl, dm, _, rfl, .inl ⟨seenK (nums.take i), Sum.inl b, upd_same, rfl, ?_, rfl⟩, ?_⟩
      · unfold seenK
        rw [List.length_map, List.length_take]
        exact wide_line (by omega)
      · refine ⟨_, rfl, ?_⟩
        rw [upd_upd, seenK_put bn, take_more hb]
    · rintro σ H1 ⟨v3, rfl, rfl⟩
      rw [List.length_map, List.take_length]
      have R2 := R.same (sm (.dK (seenK nums)))
      have ed2 := sm (.dK (seenK nums)) _ _ ed1
      have md2 := sm (.dK (seenK nums)) _ _ md1
      have dmE : dm ≠ sw.ed := (ne_of_none ed1 hdm).symm
      refine ⟨sw.ed, _, ed2, trivial, fun od => ?_⟩
      have tn : sw.ta ≠ sw.ed := fun z => by have := R.rta; rw [z, R.red] at this; cases this
      have mn : sw.md ≠ sw.ed := fun z => by have := (R.md M hmet).2; rw [z, R.red] at this; cases this
      have taL : upd (upd H dm (.dK (seenK nums))) sw.ed (.frz od (.dK ke)) sw.ta = some (.dK (tallyK sw)) := by rw [upd_ne tn]; exact R2.ta
      have mdL : upd (upd H dm (.dK (seenK nums))) sw.ed (.frz od (.dK ke)) sw.md = some (.dK km) := by rw [upd_ne mn]; exact md2
      have dmL : upd (upd H dm (.dK (seenK nums))) sw.ed (.frz od (.dK ke)) dm = some (.dK (seenK nums)) := by rw [upd_ne dmE]; exact upd_same
      refine ⟨_, rfl, sw.ta, _, rfl, DGet.k taL (k := Sum.inr "early"), sw.ed, od, rfl, .inl ⟨ke, upd_same, for_it walk_keys (fun i σ H' => ∃ v3, σ = [some (.ref t), some (.ref sw.ta), some (.ref dm), v3] ∧ H' = upd (upd H dm (.dK (seenK nums))) sw.ed (.frz od (.dK ke)))
        ⟨_, rfl, rfl⟩ (fun i σ H' _ ⟨_, _, e⟩ => by rw [e]; exact upd_same) ?_ ?_⟩⟩
      · rintro i x σ H1 H1' hi ⟨v3, rfl, rfl⟩ ⟨rfl, kk, vv, hkv, rfl⟩
        obtain ⟨b, hb⟩ := ek.keys _ (List.mem_of_getElem? hkv)
        have hb : kk = Sum.inl b := hb
        subst hb
        have eb : sw.g.early b := (ek.has b).mpr (by
          rw [← valV_any]
          exact any_iff.mpr (List.mem_map.mpr ⟨_, List.mem_of_getElem? hkv, rfl⟩))
        obtain ⟨o, g1, g2⟩ := set_get mdL mk b
        have mv : metV sw = .ref sw.md := by unfold metV; rw [hmet]; rfl
        refine ⟨_, rfl, _, rfl, sw.ta, _, rfl, DGet.k taL (k := Sum.inr "met"), sw.md, o, mv, g1, _, rfl, ?_⟩
        by_cases hm : M b
        · rw [g2.mp hm]
          exact ifF rfl (ifF rfl ⟨_, rfl, rfl⟩)
        · have bn := (hea b eb).resolve_left hm
          have os : o.isSome = false := by
            cases q : o.isSome with
            | true => exact absurd (g2.mpr q) hm
            | false => rfl
          rw [os]
          refine ifT rfl ⟨_, rfl, _, rfl, dm, _, rfl, DGet.k dmL (k := Sum.inl b), _, rfl, ?_⟩
          rw [seenK_get]
          exact ifF (by simp [bn]) ⟨_, rfl, rfl⟩
      · rintro σ H1 ⟨v3, rfl, rfl⟩
        refine ⟨upd_same, ?_⟩
        rw [upd_upd, upd_self ed2]
        have dmo : sw.rl dm = .out := R.fresh dm hdm
        have R3 := R2.adopt dmo (R.free dm hdm) (by rw [upd_same]; intro z; cases z) .dd
        refine ⟨_, rfl, _, rfl, sw.ta, _, rfl, .inl ⟨tallyK sw, Sum.inr "doomed", R2.ta, rfl, tally_len sw, rfl⟩, ?_⟩
        have R4 := R3.dooms (x := sw.ta) (p := dm) rfl (P := fun b => b ∈ nums) ⟨seenK nums, upd_same, seen_set nd⟩ (if_pos rfl)
        refine ⟨_, rfl, sw.ta, _, rfl, .inl ⟨_, Sum.inr "met", upd_same, rfl, tally_len { sw with dd := dm }, rfl⟩, ?_⟩
        have R5 := R4.unmet (x := sw.ta) rfl
        have ht5 := R5.fr _ _ eo.ht eo.nt
        have hl5 := R5.fr _ _ eo.hl eo.nl
        refine ⟨_, rfl, rdT (i := 1) ht5 rfl ⟨_, rfl, true, rfl, ifT rfl ?_⟩⟩
        refine ⟨_, rfl, rdT (i := 1) ht5 rfl ⟨_, rfl, rdT (i := 2) ht5 rfl ⟨l, _, rfl, .inl (SqL.of hl5), rfl, ?_⟩⟩⟩
        rw [List.length_map]
        have e : decide (V.int ((nums.length : Nat) : Int) = V.int ((nums.length : Nat) : Int)) = true := decide_eq_true rfl
        rw [e]
        exact k _ _ R5 rfl ⟨rfl, rfl, rfl⟩
end
end G

/-! The law, 8: a step followed. -/
namespace G
open PySem PySem.Spec PyProof.Rows L2
def spSteppedL : Sp := fun vs H Q _ => ∃ (H0 : Hp) (ex : Addr → Prop) (s : LW) (t l : Addr) (e : Ev) (g' : GS) (lens : List Nat) (n : Nat), vs = [.ref t, .ref s.sl, .ref s.lk, .ref s.ta] ∧ LRep H0 ex H s ∧ EvO H0 ex t l e ∧ GOk lens n s.g ∧ LensOk lens ∧ n ≤ 20000 ∧ LawStep s.g e g' ∧
  ∀ H' s', LRep H0 ex H' s' → s'.g = g' → AdEq s s' → Q (.bl true) H'
/-- cells met: a walk's end -/
theorem LRep.reach {H0 H H1 : Hp} {ex : Addr → Prop} {s : LW} {M P : Int → Prop} {kvs : List (Key × V)} (R : LRep H0 ex H s) (hm : s.g.met = some M) (keep : ∀ b o, H b = some o → b ≠ s.md → H1 b = some o) (h1 : H1 s.md = some (.dK kvs)) (hk : SetK kvs P) : LRep H0 ex H1 { s with g := { s.g with met := some P } } :=
  (R.met (x := s.md) rfl hm hk).same fun b o h => by
    by_cases e : b = s.md
    · rw [e, upd_same] at h
      cases h
      rw [e]
      exact h1
    · rw [upd_ne e] at h
      exact keep b o h e
section
variable {P : Program} {w : World} {K : PySem.W.Frag} {mg : Str → Option Value} {base : Heap}
theorem sc__law_stepped : FnScope ["_law_event_here", "_law_slots", "_law_links", "_law_tally"] ["_law_event_here", "_law_slots", "_law_links", "_law_tally"] (defScope s__law_stepped) := ⟨rfl, rfl, rfl, by decide +kernel, rfl, by decide +kernel, by decide +kernel⟩
theorem ok__law_stepped (C : CtxG K mg) : Ok P w K mg base CX0 3 d__law_stepped ["_law_event_here", "_law_slots", "_law_links", "_law_tally"] spSteppedL := by
  refine ok_mk0 C.T.f__law_stepped sc__law_stepped (fun vs H Q E h => ?_) (fun fd F => F.bindsN fun _ _ _ _ _ _ us hl => match us, hl with | [_, _, _, _], _ => rfl) (fun cdv A outer s H vs Q E hr h => ?_)
  · obtain ⟨H0, ex, s, t, l, e, g', lens, n, rfl, _⟩ := h
    rfl
  · obtain ⟨H0, ex, sw, t, l, e, g', lens, n, rfl, R, eo, go, LO, n2, st, k⟩ := h
    refine ⟨_, (pss_cons (ps_if (pt_cmpR op_eq (pe_ix ix_tup (pv 0) pe_int (fun _ _ => rfl)) pe_str (nomark _)) (pss_cons (ps_dput (hu_of hr) (pv 3) pe_str (pe_callTy call_dictD (by rfl) C.fr_dict (by decide +kernel) (pa_cons (pe_dget (hu_of hr) (pv 3) pe_str (fun _ _ => rfl)) pa_nil)) rfl)
      (pss_cons (ps_dput (hu_of hr) (pv 3) pe_str pe_dnewK rfl)
      (pss_one (ps_expr (pe_fn (ok__law_reach C) (hr.mono (by decide)) C.g__law_reach (pa_cons (pv 1) (pa_cons (pv 2) (pa_cons (pe_dget (hu_of hr) (pv 3) pe_str (fun _ _ => rfl)) pa_nil)))))))) pss_nil)
      (pss_cons (ps_if (pt_cmpR op_eq (pe_ix ix_tup (pv 0) pe_int (fun _ _ => rfl)) pe_str (nomark _)) (pss_one (ps_ret (pe_and (pe_cmp (pc_notN (pe_dget (hu_of hr) (pv 3) pe_str (fun _ _ => rfl)))) (pe_one (pe_fn (ok__law_cut C) (hr.mono (by decide)) C.g__law_cut (pa_cons (pv 0) (pa_cons (pv 3) pa_nil))))))) pss_nil)
      (pss_cons (ps_if (pt_cmpR op_eq (pe_ix ix_tup (pv 0) pe_int (fun _ _ => rfl)) pe_str (nomark _)) (pss_cons (ps_if (pt_cmp (pc_dnotin (hu_of hr) (pe_ix ix_tup (pv 0) pe_int (fun _ _ => rfl)) (pe_dget (hu_of hr) (pv 3) pe_str (fun _ _ => rfl)))) (pss_one (ps_ret pe_bl)) pss_nil)
      (pss_cons (ps_expr (pe_dpop1 (pe_dget (hu_of hr) (pv 3) pe_str (fun _ _ => rfl)) (pe_ix ix_tup (pv 0) pe_int (fun _ _ => rfl)) ⟨rfl, rfl, rfl, rfl⟩))
      (pss_one (ps_expr (pe_dpop1 (pe_dget (hu_of hr) (pv 3) pe_str (fun _ _ => rfl)) (pe_ix ix_tup (pv 0) pe_int (fun _ _ => rfl)) ⟨rfl, rfl, rfl, rfl⟩))))) pss_nil)
      (pss_cons (ps_if (pt_cmpR op_eq (pe_ix ix_tup (pv 0) pe_int (fun _ _ => rfl)) pe_str (nomark _)) (pss_one (ps_ret (pe_cmpR (op_eq_dictA (hu2 hr)) (pe_dget (hu_of hr) (pv 3) pe_str (fun _ _ => rfl)) pe_dnewK (nomark _)))) pss_nil)
      (pss_one (ps_ret pe_bl)))))), ?_⟩
    have ht := R.fr _ _ eo.ht eo.nt
    have hl := R.fr _ _ eo.hl eo.nl
    cases st with
    | @begin t0 n0 L =>
      refine ⟨_, rfl, rdT (i := 0) ht rfl ⟨rfl, _, rfl, ifT rfl ?_⟩⟩
      obtain ⟨kt, td1, tk⟩ := R.td
      refine ⟨_, rfl, sw.ta, _, rfl, R.dg.1, sw.td, kt, rfl, .inl td1, fun p hp => ?_⟩
      have s1 : Same H (upd H p (.dK kt)) := Same.new hp
      have R1 := R.same s1
      have R2 := R1.adopt (R.fresh p hp) (R.free p hp) (by rw [upd_same]; intro z; cases z) .ed
      refine ⟨_, rfl, sw.ta, _, rfl, .inl ⟨tallyK sw, Sum.inr "early", R1.ta, rfl, tally_len sw, rfl⟩, ?_⟩
      have R3 := R2.early (x := sw.ta) (p := p) rfl (P := sw.g.there) ⟨kt, upd_same, tk⟩ (if_pos rfl)
      intro q hq
      have s4 := Same.new (o := .dK []) hq
      have R4 := R3.same s4
      have R5 := R4.adopt (R3.fresh q hq) (R3.free q hq) (by rw [upd_same]; intro z; cases z) .md
      refine ⟨_, rfl, sw.ta, _, rfl, .inl ⟨_, Sum.inr "met", R4.ta, rfl, tally_len { sw with ed := p }, rfl⟩, ?_⟩
      have R6 := R5.mets (x := sw.ta) (p := q) rfl (P := fun _ => False) ⟨[], upd_same, SetK.nil⟩ (if_pos rfl)
      refine ⟨_, rfl, _, rfl, _, rfl, sw.ta, _, rfl, R6.dg.2.2.1, ?_⟩
      obtain ⟨km, mq, mk⟩ := (R6.md _ rfl).1
      have L6 : Linked { sw.g with early := sw.g.there, met := some fun _ => False } := fun b hb => L b (rch_of (g := { sw.g with early := sw.g.there, met := some fun _ => False }) (g' := sw.g) rfl rfl hb)
      have re : ∀ b, (False ∨ RchB { sw.g with early := sw.g.there, met := some fun _ => False } b) ↔ RchB sw.g b := fun b => ⟨fun z => z.elim False.elim (rch_of (g := { sw.g with early := sw.g.there, met := some fun _ => False }) (g' := sw.g) rfl rfl), fun z => .inr (rch_of (g := sw.g) (g' := { sw.g with early := sw.g.there, met := some fun _ => False }) rfl rfl z)⟩
      refine ⟨_, _, q, _, _, _, km, fun _ => False, rfl, R6.walk, ⟨(go.fit LO n2).rows, (go.fit LO n2).slots, (go.fit LO n2).links, (go.fit LO n2).flds⟩, L6, mq, mk, fun b hb => hb.elim, ?_, fun H1 kvs' keep free hm1 hk1 => ?_⟩
      · intro z
        have a1 := (R6.md _ rfl).2
        have a2 := R6.rlk
        rw [← z] at a2
        exact absurd (a1.symm.trans a2) (by intro z; cases z)
      · have R7 := R6.reach rfl keep hm1 (hk1.same re)
        have ht7 := R7.fr _ _ eo.ht eo.nt
        refine ⟨_, rfl, rdT (i := 0) ht7 rfl ⟨rfl, _, rfl, ifF rfl ?_⟩⟩
        refine ⟨_, rfl, rdT (i := 0) ht7 rfl ⟨rfl, _, rfl, ifF rfl ?_⟩⟩
        refine ⟨_, rfl, rdT (i := 0) ht7 rfl ⟨rfl, _, rfl, ifF rfl ?_⟩⟩
        exact k H1 _ R7 rfl ⟨rfl, rfl, rfl⟩
    | @cut M nums h1 h2 h3 h4 =>
      refine ⟨_, rfl, rdT (i := 0) ht rfl ⟨rfl, _, rfl, ifF rfl ?_⟩⟩
      refine ⟨_, rfl, rdT (i := 0) ht rfl ⟨rfl, _, rfl, ifT rfl ?_⟩⟩
      have mv : metV sw = .ref sw.md := by unfold metV; rw [h1]; rfl
      have d := R.dg.2.2.1
      rw [mv] at d
      refine ⟨_, rfl, sw.ta, _, rfl, d, true, rfl, ifT rfl ?_⟩
      exact ⟨_, rfl, _, rfl, H0, ex, sw, t, l, nums, M, lens, n, rfl, R, eo, go, n2, h1, h2, h3, h4, k⟩
    | @back b ns h1 h2 =>
      refine ⟨_, rfl, rdT (i := 0) ht rfl ⟨rfl, _, rfl, ifF rfl ?_⟩⟩
      refine ⟨_, rfl, rdT (i := 0) ht rfl ⟨rfl, _, rfl, ifF rfl ?_⟩⟩
      refine ⟨_, rfl, rdT (i := 0) ht rfl ⟨rfl, _, rfl, ifT rfl ?_⟩⟩
      obtain ⟨kd, dd1, dk⟩ := R.dd
      obtain ⟨o, g1, g2⟩ := set_get dd1 dk b
      have os := g2.mp h1
      refine ⟨_, rfl, rdT (i := 1) ht rfl ⟨_, rfl, sw.ta, _, rfl, R.dg.2.2.2, sw.dd, o, rfl, g1, _, rfl, ?_⟩⟩
      rw [os]
      refine ifF rfl ?_
      obtain ⟨v, hv⟩ := Option.isSome_iff_exists.mp ((dk.has b).mp h1)
      refine ⟨_, rfl, sw.ta, _, rfl, R.dg.2.2.2, sw.dd, rfl, ?_, _, rfl, rdT (i := 1) ht rfl ⟨kd, Sum.inl b, v, dd1, rfl, hv, ?_⟩⟩
      · exact .inl ⟨kd, .inl dd1⟩
      have R1 := R.doom (x := sw.dd) rfl (dk.drop b)
      have ht1 := R1.fr _ _ eo.ht eo.nt
      obtain ⟨kt, td1, tk⟩ := R1.td
      obtain ⟨v2, hv2⟩ := Option.isSome_iff_exists.mp ((tk.has b).mp h2)
      refine ⟨_, rfl, sw.ta, _, rfl, R1.dg.1, sw.td, rfl, ?_, _, rfl, rdT (i := 1) ht1 rfl ⟨kt, Sum.inl b, v2, td1, rfl, hv2, ?_⟩⟩
      · exact .inl ⟨kt, .inl td1⟩
      have R2 := R1.there (x := sw.td) rfl (tk.drop b)
      have ht2 := R2.fr _ _ eo.ht eo.nt
      refine ⟨_, rfl, rdT (i := 0) ht2 rfl ⟨rfl, _, rfl, ifF rfl ?_⟩⟩
      exact k _ _ R2 rfl ⟨rfl, rfl, rfl⟩
    | @fin t0 ns h1 =>
      refine ⟨_, rfl, rdT (i := 0) ht rfl ⟨rfl, _, rfl, ifF rfl ?_⟩⟩
      refine ⟨_, rfl, rdT (i := 0) ht rfl ⟨rfl, _, rfl, ifF rfl ?_⟩⟩
      refine ⟨_, rfl, rdT (i := 0) ht rfl ⟨rfl, _, rfl, ifF rfl ?_⟩⟩
      refine ⟨_, rfl, rdT (i := 0) ht rfl ⟨rfl, _, rfl, ifT rfl ?_⟩⟩
      obtain ⟨kd, dd1, dk⟩ := R.dd
      have k0 := dk.empty h1
      subst k0
      refine ⟨_, rfl, sw.ta, _, rfl, R.dg.2.2.2, fun p hp => ?_⟩
      exact ⟨sw.dd, p, [], [], rfl, rfl, Same.new hp _ _ dd1, upd_same, rfl, (fun q hq => by cases hq), k _ sw (R.same (Same.new hp)) rfl ⟨rfl, rfl, rfl⟩⟩
    | other h1 h2 h3 h4 =>
      have no : ∀ {x : Str}, e.word ≠ x → decide (V.str e.word = V.str x) = false := fun h => decide_eq_false fun z => h (V.str.inj z)
      refine ⟨_, rfl, rdT (i := 0) ht rfl ⟨rfl, _, rfl, ifF (no h1) ?_⟩⟩
      refine ⟨_, rfl, rdT (i := 0) ht rfl ⟨rfl, _, rfl, ifF (no h2) ?_⟩⟩
      refine ⟨_, rfl, rdT (i := 0) ht rfl ⟨rfl, _, rfl, ifF (no h3) ?_⟩⟩
      refine ⟨_, rfl, rdT (i := 0) ht rfl ⟨rfl, _, rfl, ifF (no h4) ?_⟩⟩
      exact k H sw R rfl ⟨rfl, rfl, rfl⟩
end
end G

/-! The law, 9: a deed followed. -/
namespace G
open PySem PySem.Spec PyProof.Rows L2
theorem GOk.slot {lens : List Nat} {n : Nat} {g : GS} (h : GOk lens n g) {i s : Nat} (o : SlotOk lens i s) : ∃ r v, g.slots[i]? = some r ∧ r[s]? = some v := by
  obtain ⟨m, h1, h2⟩ := o
  rw [← h.shape, List.getElem?_map] at h1
  obtain ⟨r, hr, rfl⟩ := Option.map_eq_some_iff.mp h1
  exact ⟨r, r[s], hr, List.getElem?_eq_getElem h2⟩
theorem mod_len {α : Type} {xs : List (List α)} {i s : Nat} {v : α} : (xs.modify i fun d => d.set s v).map (·.length) = xs.map (·.length) := by
  apply List.ext_getElem?
  intro j
  rw [List.getElem?_map, List.getElem?_map, List.getElem?_modify]
  cases xs[j]? with
  | none => rfl
  | some d =>
    show some _ = some _
    split
    · simp
    · rfl
theorem GOk.setSlot {lens : List Nat} {n : Nat} {g : GS} (h : GOk lens n g) (i s : Nat) (v : Option Int) : GOk lens n (g.setSlot i s v) := ⟨mod_len.trans h.shape, h.few, h.flds, h.there, h.early, h.met, h.doomed⟩
theorem GOk.more {lens : List Nat} {n m : Nat} {g : GS} (h : GOk lens n g) (e : n ≤ m) : GOk lens m g := ⟨h.shape, Nat.le_trans h.few e, h.flds, h.there, h.early, h.met, h.doomed⟩
theorem GOk.deed {lens : List Nat} {n : Nat} {g g' : GS} {r : Row} {e : Ev} (h : GOk lens n g) (ok : RowOk lens r) (d : LawDeed g r e g') : GOk lens (n + 1) g' := by
  have h1 := h.more (Nat.le_succ n)
  cases d with
  | @made hh s many bulk b ns hb =>
    have up : ∀ {x : Int}, 1 ≤ x ∧ x ≤ (g.links.length : Int) → 1 ≤ x ∧ x ≤ ((g.links ++ [List.replicate many none]).length : Int) := fun z => ⟨z.1, by rw [List.length_append]; simp; omega⟩
    refine GOk.setSlot (g := { g with links := g.links ++ [List.replicate many none], there := fun x => g.there x ∨ x = b }) ⟨h.shape, by show (g.links ++ [_]).length ≤ n + 1; rw [List.length_append]; have := h.few; simp; omega, fun fs hfs => ?_, fun x hx => ?_, fun x hx => up (h.early x hx), fun M hM x hx => up (h.met M hM x hx), fun x hx => up (h.doomed x hx)⟩ hh s (some b)
    · rcases List.mem_append.mp hfs with q | q
      · exact h.flds fs q
      · rw [List.mem_singleton.mp q, List.length_replicate]
        exact ok.2
    · rcases hx with hx | hx
      · exact up (h.there x hx)
      · rw [hx]
        refine ⟨by omega, ?_⟩
        show b ≤ ((g.links ++ [List.replicate many none]).length : Int)
        rw [List.length_append]
        simp
        omega
  | notMade h2 => exact h1
  | got h2 h3 h4 => exact h1.setSlot _ _ _
  | getNo h2 => exact h1
  | @putIn hh t f s b fs old v e' h2 h3 h4 h5 =>
    have le : (g.links.modify (b - 1).toNat fun d => d.set f v).length = g.links.length := List.length_modify ..
    have up : ∀ {x : Int}, 1 ≤ x ∧ x ≤ (g.links.length : Int) → 1 ≤ x ∧ x ≤ ((g.links.modify (b - 1).toNat fun d => d.set f v).length : Int) := fun z => by rw [le]; exact z
    refine ⟨h1.shape, by show (g.links.modify _ _).length ≤ _; rw [le]; exact h1.few, fun fs' hfs => ?_, fun x hx => up (h.there x hx), fun x hx => up (h.early x hx), fun M hM x hx => up (h.met M hM x hx), fun x hx => up (h.doomed x hx)⟩
    have : fs'.length ∈ (g.links.modify (b - 1).toNat fun d => d.set f v).map (·.length) := List.mem_map.mpr ⟨fs', hfs, rfl⟩
    rw [mod_len] at this
    obtain ⟨z, hz, e⟩ := List.mem_map.mp this
    rw [← e]
    exact h.flds z hz
  | putNo h2 => exact h1
  | copied h2 => exact h1.setSlot _ _ _
  | dropped => exact h1.setSlot _ _ _
  | given h2 => exact h1.setSlot _ _ _
  | wrote => exact h1
  | read => exact h1
  | named => exact h1
  | sought h2 => exact h1.setSlot _ _ _
  | soughtNo => exact h1.setSlot _ _ _
  | seekNo h2 => exact h1
theorem GOk.metUp {lens : List Nat} {n : Nat} {g : GS} (h : GOk lens n g) (L : Linked g) : GOk lens n (metUp g) := by
  refine ⟨h.shape, h.few, h.flds, h.there, h.early, fun M hM b hb => ?_, h.doomed⟩
  have hM : g.met.map (fun M b => M b ∨ RchB g b) = some M := hM
  obtain ⟨M0, h0, rfl⟩ := Option.map_eq_some_iff.mp hM
  exact hb.elim (h.met M0 h0 b) fun z => rch_rng L z
/-- the state within a deed: what stays -/
structure DS (H0 : Hp) (ex : Addr → Prop) (sw : LW) (g : GS) (H : Hp) (s : LW) : Prop where
  R : LRep H0 ex H s
  g : s.g = g
  ad : AdEq sw s
  rows : s.rows = sw.rows
theorem DS.mine {H0 H : Hp} {ex : Addr → Prop} {sw s : LW} {g : GS} (d : DS H0 ex sw g H s) {h : Nat} {r : List (Option Int)} (hr : g.slots[h]? = some r) : ∃ ma, sw.rows[h]? = some ma ∧ H ma = some (.lst (r.map btV)) ∧ s.rl ma = .row h := by
  obtain ⟨ma, h1, h2, h3⟩ := d.R.rows h r (by rw [d.g]; exact hr)
  exact ⟨ma, by rw [← d.rows]; exact h1, h2, h3⟩
theorem DS.set {H0 H : Hp} {ex : Addr → Prop} {sw s : LW} {g : GS} (d : DS H0 ex sw g H s) {h k : Nat} {r : List (Option Int)} {ma : Addr} (hr : g.slots[h]? = some r) (hm : sw.rows[h]? = some ma) (v : Option Int) : ∃ s', DS H0 ex sw (g.setSlot h k v) (upd H ma (.lst ((r.map btV).set k (btV v)))) s' := by
  obtain ⟨ma', h1, h2, h3⟩ := d.mine hr
  rw [hm] at h1
  cases h1
  have R := d.R.slot (i := h) (k := k) (r := r) (by rw [d.g]; exact hr) (by rw [d.rows]; exact hm) h3 v
  rw [List.map_set] at R
  exact ⟨_, R, by show s.g.setSlot h k v = _; rw [d.g], d.ad, d.rows⟩
theorem DS.link {H0 H : Hp} {ex : Addr → Prop} {sw s : LW} {g : GS} (d : DS H0 ex sw g H s) {b : Int} {fs : List (Option Int)} (hf : g.link b = some fs) : ∃ (lf : Addr) (kv : List (Key × V)), H sw.lk = some (.dK kv) ∧ valV kv (Sum.inl b) = some (.ref lf) ∧ H lf = some (.lst (fs.map btV)) ∧ s.ls[(b - 1).toNat]? = some lf ∧ s.rl lf = .ls (b - 1).toNat := by
  obtain ⟨b1, b2, b3⟩ := link_rng hf
  obtain ⟨lf, h1, h2, h3⟩ := d.R.ls _ fs (by rw [d.g]; exact b3)
  have hl := d.R.lk
  rw [d.ad.2.1] at hl
  exact ⟨lf, _, hl, by rw [linkK_get _ _ rfl, if_pos b1, h1]; rfl, h2, h1, h3⟩
theorem DS.setLink {H0 H : Hp} {ex : Addr → Prop} {sw s : LW} {g : GS} (d : DS H0 ex sw g H s) {b : Int} {k : Nat} {fs : List (Option Int)} {lf : Addr} (hf : g.link b = some fs) (h1 : s.ls[(b - 1).toNat]? = some lf) (h2 : s.rl lf = .ls (b - 1).toNat) (v : Option Int) : ∃ s', DS H0 ex sw (g.setLink b k v) (upd H lf (.lst ((fs.map btV).set k (btV v)))) s' := by
  obtain ⟨b1, b2, b3⟩ := link_rng hf
  have R := d.R.link (b := b) (k := k) (r := fs) (by rw [d.g]; exact b3) h1 h2 v
  rw [List.map_set] at R
  exact ⟨_, R, by show s.g.setLink b k v = _; rw [d.g], d.ad, d.rows⟩
theorem DS.same {H0 H H' : Hp} {ex : Addr → Prop} {sw s : LW} {g : GS} (d : DS H0 ex sw g H s) (e : Same H H') : DS H0 ex sw g H' s := ⟨d.R.same e, d.g, d.ad, d.rows⟩
def rowIx : Row → Nat
  | .make .. => 1
  | .seek .. => 2
  | .get .. => 3
  | .put .. => 4
  | .copy .. => 5
  | .drop .. => 6
  | .give .. => 7
  | _ => 0
theorem rowIx_le (r : Row) : rowIx r ≤ 7 := by cases r <;> simp [rowIx]
theorem linkK_put {ls : List Addr} {b : Int} {p : Addr} (hb : b = (ls.length : Int) + 1) : putK (linkK ls) (Sum.inl b) (.ref p) = linkK (ls ++ [p]) := by
  have hno : valV (linkK ls) (Sum.inl b) = none := by
    rw [linkK_get _ _ rfl, if_pos (by omega), List.getElem?_eq_none (by omega)]
    rfl
  unfold putK
  rw [valV_any, hno, linkK_snoc, hb]
  rfl
def gAt (k i : Nat) (g g1 : GS) : GS := if k < i then g else g1
theorem gAt_skip {k i : Nat} {g g1 : GS} (h : i ≠ k + 1) : gAt k i g g1 = gAt (k + 1) i g g1 := by
  unfold gAt
  by_cases e : k < i
  · rw [if_pos e, if_pos (by omega)]
  · rw [if_neg e, if_neg (by omega)]
theorem gAt_lt {k i : Nat} {g g1 : GS} (h : i = k + 1) : gAt k i g g1 = g := by
  unfold gAt
  rw [if_pos (by omega)]
theorem gAt_ge {k i : Nat} {g g1 : GS} (h : i ≤ k) : gAt k i g g1 = g1 := by
  unfold gAt
  rw [if_neg (by omega)]
theorem row_word (r : Row) : ∃ w0 : Str, (rowV r)[0]? = some (.str w0) ∧ (rowIx r ≠ 1 → w0 ≠ ("make" : Str)) ∧ (rowIx r ≠ 2 → w0 ≠ ("seek" : Str)) ∧ (rowIx r ≠ 3 → w0 ≠ ("get" : Str)) ∧ (rowIx r ≠ 4 → w0 ≠ ("put" : Str)) ∧ (rowIx r ≠ 5 → w0 ≠ ("copy" : Str)) ∧ (rowIx r ≠ 6 → w0 ≠ ("drop" : Str)) ∧ (rowIx r ≠ 7 → w0 ≠ ("give" : Str)) := by
  cases r <;> exact ⟨_, rfl, fun h => by first | exact absurd rfl h | decide +kernel, fun h => by first | exact absurd rfl h | decide +kernel, fun h => by first | exact absurd rfl h | decide +kernel, fun h => by first | exact absurd rfl h | decide +kernel, fun h => by first | exact absurd rfl h | decide +kernel, fun h => by first | exact absurd rfl h | decide +kernel, fun h => by first | exact absurd rfl h | decide +kernel⟩
def DMid (H0 : Hp) (ex : Addr → Prop) (sw : LW) (a t ma : Addr) (g : GS) : L2.St → Hp → Prop := fun σ H => ∃ v6 v7 s, σ = [some (.ref a), some (.ref t), some (.ref sw.sl), some (.ref sw.lk), some (.ref sw.ta), some (.ref ma), v6, v7] ∧ DS H0 ex sw g H s
def spDealtL : Sp := fun vs H Q _ => ∃ (H0 : Hp) (ex : Addr → Prop) (s : LW) (a t l : Addr) (r : Row) (e : Ev) (g' : GS) (lens : List Nat) (n : Nat), vs = [.ref a, .ref t, .ref s.sl, .ref s.lk, .ref s.ta] ∧ LRep H0 ex H s ∧ H0 a = some (.tup (rowV r)) ∧ ¬ ex a ∧ EvO H0 ex t l e ∧ GOk lens n s.g ∧ LensOk lens ∧ RowOk lens r ∧ r.isSweep = false ∧ n ≤ 10000 ∧ LawDeal s.g r e g' ∧
  ∀ H' s', LRep H0 ex H' s' → s'.g = g' → AdEq s s' → Q (.bl true) H'
section
variable {P : Program} {w : World} {K : PySem.W.Frag} {mg : Str → Option Value} {base : Heap}
theorem sc__law_dealt : FnScope ["_law_row_here", "_law_event_here", "_law_slots", "_law_links", "_law_tally", "_law_mine", "_law_inner_here", "_law_other_here"] ["_law_row_here", "_law_event_here", "_law_slots", "_law_links", "_law_tally"] (defScope s__law_dealt) := ⟨rfl, rfl, rfl, by decide +kernel, rfl, by decide +kernel, by decide +kernel⟩
theorem ok__law_dealt (C : CtxG K mg) : Ok P w K mg base CX0 2 d__law_dealt ["_law_row_here", "_law_event_here", "_law_slots", "_law_links", "_law_tally"] spDealtL := by
  refine ok_mk0 C.T.f__law_dealt sc__law_dealt (fun vs H Q E h => ?_) (fun fd F => F.bindsN fun _ _ _ _ _ _ us hl => match us, hl with | [_, _, _, _, _], _ => rfl) (fun cdv A outer s H vs Q E hr h => ?_)
  · obtain ⟨H0, ex, s, a, t, l, r, e, g', lens, n, rfl, _⟩ := h
    rfl
  · obtain ⟨H0, ex, sw, a, t, l, r, e, g', lens, n, rfl, R, ha0, na, eo, go, LO, ok, sweep, n2, deal, k⟩ := h
    refine ⟨_, (pss_cons (ps_set (i := 5) sc__law_dealt.nd rfl (Or.inl rfl) (pe_ix ix_list (pv 2) (pe_ix ix_tup (pv 0) pe_int (fun _ _ => rfl)) (fun _ _ => rfl)))
      (C8.pss_cut (ps_if (PW.pt (pw_and (pt_cmpR op_eq (pe_ix ix_tup (pv 1) pe_int (fun _ _ => rfl)) pe_str (nomark _)) (pw_and1 (pt_cmpR op_eq (pe_ix ix_tup (pv 0) pe_int (fun _ _ => rfl)) pe_str (nomark _))))) (pss_cons (ps_if (PW.pt (pw_or (pt_not (pt_val (pe_fn (ok__law_whole C) (hr.mono (by decide)) C.g__law_whole (pa_cons (pe_ix ix_tup (pv 1) pe_int (fun _ _ => rfl)) pa_nil)))) (pw_or1 (pt_cmp (pc_din (hu_of hr) (pe_ix ix_tup (pv 1) pe_int (fun _ _ => rfl)) (pv 3)))))) (pss_one (ps_ret pe_bl)) pss_nil)
      (pss_cons (ps_asg (pe_ix ix_tup (pv 1) pe_int (fun _ _ => rfl)) (pg_sub (pv 5) (pe_ix ix_tup (pv 0) pe_int (fun _ _ => rfl)) set_list))
      (pss_cons (ps_dput (hu_of hr) (pv 3) (pe_ix ix_tup (pv 1) pe_int (fun _ _ => rfl)) (pe_op op_rep (pe_lst (pa_cons pe_non pa_nil)) (pe_ix ix_tup (pv 0) pe_int (fun _ _ => rfl))) rfl)
      (pss_one (ps_dput (hu_of hr) (pe_dget (hu_of hr) (pv 4) pe_str (fun _ _ => rfl)) (pe_ix ix_tup (pv 1) pe_int (fun _ _ => rfl)) pe_bl rfl))))) pss_nil)
      (C8.pss_cut (ps_if (PW.pt (pw_and (pt_cmpR op_eq (pe_ix ix_tup (pv 1) pe_int (fun _ _ => rfl)) pe_str (nomark _)) (pw_and1 (pt_cmpR op_eq (pe_ix ix_tup (pv 0) pe_int (fun _ _ => rfl)) pe_str (nomark _))))) (pss_cons (ps_if (PW.pt (pw_and (pt_cmp (pc_notN (pe_ix ix_tup (pv 1) pe_int (fun _ _ => rfl)))) (pw_and1 (pt_cmp (pc_dnotin (hu_of hr) (pe_ix ix_tup (pv 1) pe_int (fun _ _ => rfl)) (pv 3)))))) (pss_one (ps_ret pe_bl)) pss_nil)
      (pss_one (ps_asg (pe_ix ix_tup (pv 1) pe_int (fun _ _ => rfl)) (pg_sub (pv 5) (pe_ix ix_tup (pv 0) pe_int (fun _ _ => rfl)) set_list)))) pss_nil)
      (C8.pss_cut (ps_if (PW.pt (pw_and (pt_cmpR op_eq (pe_ix ix_tup (pv 0) pe_int (fun _ _ => rfl)) pe_str (nomark _)) (pw_and1 (pt_cmpR op_lt (pe_ix ix_tup (pv 0) pe_int (fun _ _ => rfl)) (pe_callB call_len_seq (by rfl) C.fr_len PySem.boot_len (pa_cons (pe_fn (ok__law_inner C) (hr.mono (by decide)) C.g__law_inner (pa_cons (pe_ix ix_list (pv 5) (pe_ix ix_tup (pv 0) pe_int (fun _ _ => rfl)) (fun _ _ => rfl)) (pa_cons (pv 3) pa_nil))) pa_nil)) (nomark _))))) (pss_one (ps_asg (pe_ix ix_list (pe_dget (hu_of hr) (pv 3) (pe_ix ix_list (pv 5) (pe_ix ix_tup (pv 0) pe_int (fun _ _ => rfl)) (fun _ _ => rfl)) (fun _ _ => rfl)) (pe_ix ix_tup (pv 0) pe_int (fun _ _ => rfl)) (fun _ _ => rfl)) (pg_sub (pv 5) (pe_ix ix_tup (pv 0) pe_int (fun _ _ => rfl)) set_list))) pss_nil)
      (C8.pss_cut (ps_if (PW.pt (pw_and (pt_cmpR op_eq (pe_ix ix_tup (pv 0) pe_int (fun _ _ => rfl)) pe_str (nomark _)) (pw_and1 (pt_cmpR op_lt (pe_ix ix_tup (pv 0) pe_int (fun _ _ => rfl)) (pe_callB call_len_seq (by rfl) C.fr_len PySem.boot_len (pa_cons (pe_fn (ok__law_inner C) (hr.mono (by decide)) C.g__law_inner (pa_cons (pe_ix ix_list (pv 5) (pe_ix ix_tup (pv 0) pe_int (fun _ _ => rfl)) (fun _ _ => rfl)) (pa_cons (pv 3) pa_nil))) pa_nil)) (nomark _))))) (pss_cons (ps_set (i := 6) sc__law_dealt.nd rfl (Or.inl rfl) (pe_dget (hu_of hr) (pv 3) (pe_ix ix_list (pv 5) (pe_ix ix_tup (pv 0) pe_int (fun _ _ => rfl)) (fun _ _ => rfl)) (fun _ _ => rfl)))
      (pss_one (ps_asg (pe_ix ix_list (pv 5) (pe_ix ix_tup (pv 0) pe_int (fun _ _ => rfl)) (fun _ _ => rfl)) (pg_sub (pv 6) (pe_ix ix_tup (pv 0) pe_int (fun _ _ => rfl)) set_list)))) pss_nil)
      (C8.pss_cut (ps_if (pt_cmpR op_eq (pe_ix ix_tup (pv 0) pe_int (fun _ _ => rfl)) pe_str (nomark _)) (pss_one (ps_asg (pe_ix ix_list (pv 5) (pe_ix ix_tup (pv 0) pe_int (fun _ _ => rfl)) (fun _ _ => rfl)) (pg_sub (pv 5) (pe_ix ix_tup (pv 0) pe_int (fun _ _ => rfl)) set_list))) pss_nil)
      (C8.pss_cut (ps_if (pt_cmpR op_eq (pe_ix ix_tup (pv 0) pe_int (fun _ _ => rfl)) pe_str (nomark _)) (pss_one (ps_asg pe_non (pg_sub (pv 5) (pe_ix ix_tup (pv 0) pe_int (fun _ _ => rfl)) set_list))) pss_nil)
      (C8.pss_cut (ps_if (pt_cmpR op_eq (pe_ix ix_tup (pv 0) pe_int (fun _ _ => rfl)) pe_str (nomark _)) (pss_cons (ps_set (i := 7) sc__law_dealt.nd rfl (Or.inl rfl) (pe_ix ix_list (pv 2) (pe_ix ix_tup (pv 0) pe_int (fun _ _ => rfl)) (fun _ _ => rfl)))
      (pss_one (ps_asg (pe_ix ix_list (pv 5) (pe_ix ix_tup (pv 0) pe_int (fun _ _ => rfl)) (fun _ _ => rfl)) (pg_sub (pv 7) (pe_ix ix_tup (pv 0) pe_int (fun _ _ => rfl)) set_list)))) pss_nil)
      (pss_cons (ps_if (pt_cmp (pc_notN (pe_dget (hu_of hr) (pv 4) pe_str (fun _ _ => rfl)))) (pss_one (ps_expr (pe_fn (ok__law_reach C) (hr.mono (by decide)) C.g__law_reach (pa_cons (pv 2) (pa_cons (pv 3) (pa_cons (pe_dget (hu_of hr) (pv 4) pe_str (fun _ _ => rfl)) pa_nil)))))) pss_nil)
      (pss_one (ps_ret pe_bl))))))))))), ?_⟩
    obtain ⟨deed, lnk⟩ := deal
    rename_i g1
    have go1 := go.deed ok deed
    have tup : ∀ {g H s}, DS H0 ex sw g H s → H a = some (.tup (rowV r)) ∧ H t = some (.tup [.str e.word, e.thing, .ref l]) := fun d => ⟨d.R.fr _ _ ha0 na, d.R.fr _ _ eo.ht eo.nt⟩
    have d0 : DS H0 ex sw sw.g H sw := ⟨R, rfl, ⟨rfl, rfl, rfl⟩, rfl⟩
    obtain ⟨hh, hrow1, hslot⟩ : ∃ hh, (rowV r)[1]? = some (.int ((hh : Nat) : Int)) ∧ ∃ s, SlotOk lens hh s := by
      cases r with
      | sweep n => cases sweep
      | make h s many bulk => exact ⟨h, rfl, s, ok.1⟩
      | get h s t f => exact ⟨h, rfl, s, ok.1⟩
      | put h t f s => exact ⟨h, rfl, t, ok.1⟩
      | copy h s t => exact ⟨h, rfl, s, ok.1⟩
      | drop h s => exact ⟨h, rfl, s, ok⟩
      | give h s g t => exact ⟨h, rfl, s, ok.1⟩
      | write h t l => exact ⟨h, rfl, t, ok⟩
      | read h t => exact ⟨h, rfl, t, ok⟩
      | name h t x => exact ⟨h, rfl, t, ok⟩
      | seek h s x => exact ⟨h, rfl, s, ok⟩
    obtain ⟨s0, hso⟩ := hslot
    obtain ⟨r0, v0, hr0, _⟩ := go.slot hso
    obtain ⟨ma, hma, hma2, _⟩ := d0.mine hr0
    refine ⟨_, rfl, _, rfl, rdT (i := 1) (tup d0).1 hrow1 (rdL (v := .ref ma) (SqL.of R.sl) (by rw [List.getElem?_map, hma]; rfl) ?_)⟩
    obtain ⟨w0, hw0, nw1, nw2, nw3, nw4, nw5, nw6, nw7⟩ := row_word r
    have no : ∀ {x y : Str}, x ≠ y → decide (V.str x = V.str y) = false := fun h => decide_eq_false fun z => h (V.str.inj z)
    have dA : DS H0 ex sw (gAt 0 (rowIx r) sw.g g1) H sw := by
      cases r <;> first | exact d0 | (cases deed <;> exact d0)
    refine ⟨DMid H0 ex sw a t ma (gAt 1 (rowIx r) sw.g g1), ?_, ?_⟩
    · have d := dA
      by_cases hk : rowIx r = 1
      · clear dA
        rw [gAt_lt (k := 0) hk] at d
        rw [gAt_ge (k := 1) (by omega)]
        cases r with
        | make h s' many bulk =>
          have e1 : hh = h := by have := V.int.inj (Option.some.inj hrow1); omega
          subst e1
          obtain ⟨rr, vv, hrr, hvv⟩ := go.slot ok.1
          obtain ⟨ma', hm1, hm2, hm3⟩ := d.mine hrr
          rw [hma] at hm1
          cases hm1
          cases deed with
          | notMade h2 => exact ⟨_, rfl, rdT (i := 0) (tup d).2 rfl ⟨rfl, _, rfl, ifF (no h2) (ifF rfl ⟨_, _, _, rfl, d⟩)⟩⟩
          | made hb =>
            rename_i b ns
            refine ⟨_, rfl, rdT (i := 0) (tup d).2 rfl ⟨rfl, _, rfl, ifT rfl ⟨_, rfl, rdT (i := 0) (tup d).1 rfl ⟨rfl, _, rfl, ifT rfl ?_⟩⟩⟩⟩
            refine ⟨_, rfl, rdT (i := 1) (tup d).2 rfl ⟨b, rfl, _, rfl, ifF rfl ?_⟩⟩
            have ll := R.llen
            have hno : valV (linkK sw.ls) (Sum.inl b) = none := by
              rw [linkK_get _ _ rfl, if_pos (by omega), List.getElem?_eq_none (by omega)]
              rfl
            refine ⟨_, rfl, rdT (i := 1) (tup d).2 rfl ⟨_, rfl, sw.lk, _, rfl, DGet.k R.lk (k := Sum.inl b), _, rfl, ?_⟩⟩
            rw [hno]
            refine ifF rfl ?_
            have lt : s' < rr.length := (List.getElem?_eq_some_iff.mp hvv).1
            obtain ⟨s1, d1⟩ := d.set (k := s') hrr hma (some b)
            refine ⟨_, rfl, rdT (i := 1) (tup d).2 rfl ⟨_, rfl, _, rfl, rdT (i := 2) (tup d).1 rfl ⟨ma, _, _, s', rfl, rfl, hm2, ixN_nat (by rw [List.length_map]; exact lt), ?_⟩⟩⟩
            refine ⟨(by show 1 ≤ sizeLine; decide), fun l0 hl0 => ?_⟩
            have d2 := d1.same (Same.new (o := .lst [.non]) hl0)
            refine ⟨_, rfl, rdT (i := 3) (tup d2).1 rfl ⟨l0, _, _, rfl, rfl, upd_same, by omega, by have := ok.2; omega, ?_, fun p hp => ?_⟩⟩
            · show 1 * (many : Int).toNat ≤ sizeLine
              have := ok.2
              exact few_line (by omega)
            rw [Int.toNat_natCast, rep_one]
            have d3 := d2.same (Same.new (o := .lst (List.replicate many V.non)) hp)
            have sl1 : s1.ls.length = sw.g.links.length := by rw [d1.R.llen, d1.g]; rfl
            have lk1 : s1.lk = sw.lk := d1.ad.2.1
            have ta1 : s1.ta = sw.ta := d1.ad.2.2
            have R3 := d3.R.adopt (d2.R.fresh p hp) (d2.R.free p hp) (by rw [upd_same]; intro z; cases z) (.ls s1.ls.length)
            have hlk3 := d3.R.lk
            rw [lk1] at hlk3
            have kl : (linkK s1.ls).length < sizeLine := by
              unfold linkK
              rw [List.length_map, List.length_zipIdx]
              have := go.few
              exact big_line (by omega)
            refine ⟨_, rfl, _, rfl, rdT (i := 1) (tup d3).2 rfl ⟨sw.lk, _, rfl, .inl ⟨linkK s1.ls, Sum.inl b, hlk3, rfl, kl, rfl⟩, ?_⟩⟩
            rw [linkK_put (by omega)]
            have R4 := R3.grow (x := sw.lk) (p := p) lk1.symm (fs := List.replicate many none) (by rw [upd_same, List.map_replicate]; rfl) (if_pos rfl)
            obtain ⟨kt, td1, tk⟩ := R4.td
            have dgt := R4.dg.1
            have dgt : DGet _ s1.ta (.str "there") _ := dgt
            rw [ta1] at dgt
            have ht4 := R4.fr _ _ eo.ht eo.nt
            have kl2 : kt.length < sizeLine := by
              have h1 := tk.len (n := sw.g.links.length) fun x hx => go.there x (by have hx : s1.g.there x := hx; rw [d1.g] at hx; exact hx)
              have := go.few
              exact big_line (by omega)
            refine ⟨_, rfl, sw.ta, _, rfl, dgt, _, rfl, rdT (i := 1) ht4 rfl ⟨_, _, rfl, .inl ⟨kt, Sum.inl b, td1, rfl, kl2, rfl⟩, ?_⟩⟩
            have R5 := R4.there (x := s1.td) rfl (tk.put b (.bl true))
            refine ⟨_, _, _, rfl, R5, ?_, d1.ad, d1.rows⟩
            show { s1.g with links := s1.g.links ++ [List.replicate many none], there := fun x => s1.g.there x ∨ x = b } = _
            rw [d1.g]
            rfl
        | _ => simp [rowIx] at hk
      · have dk := d
        rw [gAt_skip (k := 0) hk] at dk
        exact ⟨_, rfl, rdT (i := 0) (tup d).2 rfl ⟨rfl, _, rfl, if2 (fun _ => ⟨_, rfl, rdT (i := 0) (tup d).1 hw0 ⟨rfl, _, rfl, ifF (no (nw1 hk)) ⟨_, _, _, rfl, dk⟩⟩⟩) fun _ => ifF rfl ⟨_, _, _, rfl, dk⟩⟩⟩
    clear dA
    rintro σ H1 ⟨v6, v7, s1, rfl, dk0⟩
    refine ⟨DMid H0 ex sw a t ma (gAt 2 (rowIx r) sw.g g1), ?_, ?_⟩
    · have d := dk0
      by_cases hk : rowIx r = 2
      · clear dk0
        rw [gAt_lt (k := 1) hk] at d
        rw [gAt_ge (k := 2) (by omega)]
        cases r with
        | seek h s' x =>
          have e1 : hh = h := by have := V.int.inj (Option.some.inj hrow1); omega
          subst e1
          obtain ⟨rr, vv, hrr, hvv⟩ := go.slot ok
          obtain ⟨ma', hm1, hm2, hm3⟩ := d.mine hrr
          rw [hma] at hm1
          cases hm1
          have lt : s' < rr.length := (List.getElem?_eq_some_iff.mp hvv).1
          cases deed with
          | seekNo h2 => exact ⟨_, rfl, rdT (i := 0) (tup d).2 rfl ⟨rfl, _, rfl, ifF (no h2) (ifF rfl ⟨_, _, _, rfl, d⟩)⟩⟩
          | sought h2 =>
            rename_i b ns
            obtain ⟨fs, hf⟩ := h2
            obtain ⟨b1, b2, b3⟩ := link_rng hf
            have hl1 := d.R.lk
            rw [d.ad.2.1] at hl1
            have hyes : (valV (linkK s1.ls) (Sum.inl b)).isSome = true := by
              have : s1.ls.length = sw.g.links.length := by rw [d.R.llen, d.g]
              rw [linkK_get _ _ rfl, if_pos b1, List.getElem?_eq_getElem (by omega)]
              rfl
            obtain ⟨s3, d3⟩ := d.set (k := s') hrr hma (some b)
            refine ⟨_, rfl, rdT (i := 0) (tup d).2 rfl ⟨rfl, _, rfl, ifT rfl ⟨_, rfl, rdT (i := 0) (tup d).1 rfl ⟨rfl, _, rfl, ifT rfl ?_⟩⟩⟩⟩
            refine ⟨_, rfl, rdT (i := 1) (tup d).2 rfl ⟨_, rfl, ifT rfl ⟨_, rfl, rdT (i := 1) (tup d).2 rfl ⟨_, rfl, sw.lk, _, rfl, DGet.k hl1 (k := Sum.inl b), _, rfl, ?_⟩⟩⟩⟩
            rw [hyes]
            refine ifF rfl ?_
            exact ⟨_, rfl, rdT (i := 1) (tup d).2 rfl ⟨_, rfl, _, rfl, rdT (i := 2) (tup d).1 rfl ⟨ma, _, _, s', rfl, rfl, hm2, ixN_nat (by rw [List.length_map]; exact lt), _, _, _, rfl, d3⟩⟩⟩
          | soughtNo =>
            obtain ⟨s3, d3⟩ := d.set (k := s') hrr hma none
            refine ⟨_, rfl, rdT (i := 0) (tup d).2 rfl ⟨rfl, _, rfl, ifT rfl ⟨_, rfl, rdT (i := 0) (tup d).1 rfl ⟨rfl, _, rfl, ifT rfl ?_⟩⟩⟩⟩
            refine ⟨_, rfl, rdT (i := 1) (tup d).2 rfl ⟨_, rfl, ifF rfl (ifF rfl ?_)⟩⟩
            exact ⟨_, rfl, rdT (i := 1) (tup d).2 rfl ⟨_, rfl, _, rfl, rdT (i := 2) (tup d).1 rfl ⟨ma, _, _, s', rfl, rfl, hm2, ixN_nat (by rw [List.length_map]; exact lt), _, _, _, rfl, d3⟩⟩⟩
        | _ => simp [rowIx] at hk
      · have dk := d
        rw [gAt_skip (k := 1) hk] at dk
        exact ⟨_, rfl, rdT (i := 0) (tup d).2 rfl ⟨rfl, _, rfl, if2 (fun _ => ⟨_, rfl, rdT (i := 0) (tup d).1 hw0 ⟨rfl, _, rfl, ifF (no (nw2 hk)) ⟨_, _, _, rfl, dk⟩⟩⟩) fun _ => ifF rfl ⟨_, _, _, rfl, dk⟩⟩⟩
    clear dk0
    rintro σ H2 ⟨v6, v7, s2, rfl, dk0⟩
    refine ⟨DMid H0 ex sw a t ma (gAt 3 (rowIx r) sw.g g1), ?_, ?_⟩
    · have d := dk0
      by_cases hk : rowIx r = 3
      · clear dk0
        rw [gAt_lt (k := 2) hk] at d
        rw [gAt_ge (k := 3) (by omega)]
        cases r with
        | get h s' t' f =>
          have e1 : hh = h := by have := V.int.inj (Option.some.inj hrow1); omega
          subst e1
          obtain ⟨rr, vv, hrr, hvv⟩ := go.slot ok.1
          obtain ⟨ma', hm1, hm2, hm3⟩ := d.mine hrr
          rw [hma] at hm1
          cases hm1
          have lt : s' < rr.length := (List.getElem?_eq_some_iff.mp hvv).1
          obtain ⟨r4, v4, hr4, hv4⟩ := go.slot ok.2
          rw [hrr] at hr4
          cases hr4
          cases deed with
          | getNo h2 =>
            rcases h2 with h2 | ⟨b, fs, h2, h3, h4⟩
            · obtain ⟨r2, hr2, hv2⟩ := gslot_iff.mp h2
              rw [hrr] at hr2
              cases hr2
              exact ⟨_, rfl, rdT (i := 0) (tup d).1 rfl ⟨rfl, _, rfl, ifT rfl ⟨_, rfl, rdT (i := 4) (tup d).1 rfl ⟨_, rfl, _, rfl, rdT (i := 3) (tup d).1 rfl (rdL (v := .non) (SqL.of hm2) (by rw [List.getElem?_map, hv2]; rfl) ⟨_, rfl, .non, sw.lk, rfl, .inl ⟨rfl, fun p hp => ⟨p, [], rfl, .inl (SqL.of upd_same), _, _, rfl, rfl, _, rfl, ifF (decide_eq_false (by show ¬ ((f : Int) < ((0 : Nat) : Int)); omega)) ⟨_, _, _, rfl, d.same (Same.new hp)⟩⟩⟩⟩)⟩⟩⟩⟩
            · obtain ⟨r2, hr2, hv2⟩ := gslot_iff.mp h2
              rw [hrr] at hr2
              cases hr2
              obtain ⟨lf, kv, hl1, hlv, hlf, hlr⟩ := d.link h3
              refine ⟨_, rfl, rdT (i := 0) (tup d).1 rfl ⟨rfl, _, rfl, ifT rfl ⟨_, rfl, rdT (i := 4) (tup d).1 rfl ⟨_, rfl, _, rfl, rdT (i := 3) (tup d).1 rfl (rdL (v := .int b) (SqL.of hm2) (by rw [List.getElem?_map, hv2]; rfl) ⟨_, rfl, .int b, sw.lk, rfl, .inr ⟨b, lf, kv, rfl, hl1, hlv, lf, _, rfl, .inl (SqL.of hlf), _, _, rfl, rfl, _, rfl, ifF (decide_eq_false ?_) ⟨_, _, _, rfl, d⟩⟩⟩)⟩⟩⟩⟩
              rw [List.length_map]
              omega
          | got h2 h3 h4 =>
            rename_i b fs v
            obtain ⟨r2, hr2, hv2⟩ := gslot_iff.mp h2
            rw [hrr] at hr2
            cases hr2
            obtain ⟨lf, kv, hl1, hlv, hlf, hlr⟩ := d.link h3
            have fl : f < fs.length := (List.getElem?_eq_some_iff.mp h4).1
            have hg : DGet H2 sw.lk (.int b) (some (.ref lf)) := hlv ▸ DGet.k hl1 (k := Sum.inl b)
            obtain ⟨s9, d9⟩ := d.set (k := s') hrr hma v
            refine ⟨_, rfl, rdT (i := 0) (tup d).1 rfl ⟨rfl, _, rfl, ifT rfl ⟨_, rfl, rdT (i := 4) (tup d).1 rfl ⟨_, rfl, _, rfl, rdT (i := 3) (tup d).1 rfl (rdL (v := .int b) (SqL.of hm2) (by rw [List.getElem?_map, hv2]; rfl) ⟨_, rfl, .int b, sw.lk, rfl, .inr ⟨b, lf, kv, rfl, hl1, hlv, lf, _, rfl, .inl (SqL.of hlf), _, _, rfl, rfl, _, rfl, ifT (decide_eq_true ?_) ?_⟩⟩)⟩⟩⟩⟩
            · rw [List.length_map]
              omega
            · exact ⟨_, rfl, _, rfl, _, rfl, rdT (i := 3) (tup d).1 rfl (rdL (v := .int b) (SqL.of hm2) (by rw [List.getElem?_map, hv2]; rfl) ⟨sw.lk, _, rfl, hg, _, rfl, rdT (i := 4) (tup d).1 rfl (rdL (v := btV v) (SqL.of hlf) (by rw [List.getElem?_map, h4]; rfl) ⟨_, rfl, _, rfl, rdT (i := 2) (tup d).1 rfl ⟨ma, _, _, s', rfl, rfl, hm2, ixN_nat (by rw [List.length_map]; exact lt), _, _, _, rfl, d9⟩⟩)⟩)⟩
        | _ => simp [rowIx] at hk
      · have dk := d
        rw [gAt_skip (k := 2) hk] at dk
        exact ⟨_, rfl, rdT (i := 0) (tup d).1 hw0 ⟨rfl, _, rfl, ifF (no (nw3 hk)) (ifF rfl ⟨_, _, _, rfl, dk⟩)⟩⟩
    clear dk0
    rintro σ H3 ⟨v6, v7, s3, rfl, dk0⟩
    refine ⟨DMid H0 ex sw a t ma (gAt 4 (rowIx r) sw.g g1), ?_, ?_⟩
    · have d := dk0
      by_cases hk : rowIx r = 4
      · clear dk0
        rw [gAt_lt (k := 3) hk] at d
        rw [gAt_ge (k := 4) (by omega)]
        cases r with
        | put h t' f s' =>
          have e1 : hh = h := by have := V.int.inj (Option.some.inj hrow1); omega
          subst e1
          obtain ⟨rr, vv, hrr, hvv⟩ := go.slot ok.1
          obtain ⟨ma', hm1, hm2, hm3⟩ := d.mine hrr
          rw [hma] at hm1
          cases hm1
          have lt : t' < rr.length := (List.getElem?_eq_some_iff.mp hvv).1
          cases deed with
          | putNo h2 =>
            rcases h2 with h2 | ⟨b, fs, h2, h3, h4⟩
            · obtain ⟨r2, hr2, hv2⟩ := gslot_iff.mp h2
              rw [hrr] at hr2
              cases hr2
              exact ⟨_, rfl, rdT (i := 0) (tup d).1 rfl ⟨rfl, _, rfl, ifT rfl ⟨_, rfl, rdT (i := 3) (tup d).1 rfl ⟨_, rfl, _, rfl, rdT (i := 2) (tup d).1 rfl (rdL (v := .non) (SqL.of hm2) (by rw [List.getElem?_map, hv2]; rfl) ⟨_, rfl, .non, sw.lk, rfl, .inl ⟨rfl, fun p hp => ⟨p, [], rfl, .inl (SqL.of upd_same), _, _, rfl, rfl, _, rfl, ifF (decide_eq_false (by show ¬ ((f : Int) < ((0 : Nat) : Int)); omega)) ⟨_, _, _, rfl, d.same (Same.new hp)⟩⟩⟩⟩)⟩⟩⟩⟩
            · obtain ⟨r2, hr2, hv2⟩ := gslot_iff.mp h2
              rw [hrr] at hr2
              cases hr2
              obtain ⟨lf, kv, hl1, hlv, hlf, hlr⟩ := d.link h3
              refine ⟨_, rfl, rdT (i := 0) (tup d).1 rfl ⟨rfl, _, rfl, ifT rfl ⟨_, rfl, rdT (i := 3) (tup d).1 rfl ⟨_, rfl, _, rfl, rdT (i := 2) (tup d).1 rfl (rdL (v := .int b) (SqL.of hm2) (by rw [List.getElem?_map, hv2]; rfl) ⟨_, rfl, .int b, sw.lk, rfl, .inr ⟨b, lf, kv, rfl, hl1, hlv, lf, _, rfl, .inl (SqL.of hlf), _, _, rfl, rfl, _, rfl, ifF (decide_eq_false ?_) ⟨_, _, _, rfl, d⟩⟩⟩)⟩⟩⟩⟩
              rw [List.length_map]
              omega
          | putIn h2 h3 h4 h5 =>
            rename_i b fs old v
            obtain ⟨r2, hr2, hv2⟩ := gslot_iff.mp h2
            rw [hrr] at hr2
            cases hr2
            obtain ⟨r6, hr6, hv6⟩ := gslot_iff.mp h5
            rw [hrr] at hr6
            cases hr6
            obtain ⟨lf, kv, hl1, hlv, hlf, hlr⟩ := d.link h3
            have fl : f < fs.length := (List.getElem?_eq_some_iff.mp h4).1
            have hg : DGet H3 sw.lk (.int b) (some (.ref lf)) := hlv ▸ DGet.k hl1 (k := Sum.inl b)
            obtain ⟨s9, d9⟩ := d.setLink (k := f) h3 hlr.1 hlr.2 v
            refine ⟨_, rfl, rdT (i := 0) (tup d).1 rfl ⟨rfl, _, rfl, ifT rfl ⟨_, rfl, rdT (i := 3) (tup d).1 rfl ⟨_, rfl, _, rfl, rdT (i := 2) (tup d).1 rfl (rdL (v := .int b) (SqL.of hm2) (by rw [List.getElem?_map, hv2]; rfl) ⟨_, rfl, .int b, sw.lk, rfl, .inr ⟨b, lf, kv, rfl, hl1, hlv, lf, _, rfl, .inl (SqL.of hlf), _, _, rfl, rfl, _, rfl, ifT (decide_eq_true ?_) ?_⟩⟩)⟩⟩⟩⟩
            · rw [List.length_map]
              omega
            · exact ⟨_, rfl, _, rfl, _, rfl, rdT (i := 2) (tup d).1 rfl (rdL (v := .int b) (SqL.of hm2) (by rw [List.getElem?_map, hv2]; rfl) ⟨sw.lk, _, rfl, hg, _, rfl, _, rfl, rdT (i := 4) (tup d).1 rfl (rdL (v := btV v) (SqL.of hm2) (by rw [List.getElem?_map, hv6]; rfl) ⟨_, rfl, _, rfl, rdT (i := 3) (tup d).1 rfl ⟨lf, _, _, f, rfl, rfl, hlf, ixN_nat (by rw [List.length_map]; exact fl), _, _, _, rfl, d9⟩⟩)⟩)⟩
        | _ => simp [rowIx] at hk
      · have dk := d
        rw [gAt_skip (k := 3) hk] at dk
        exact ⟨_, rfl, rdT (i := 0) (tup d).1 hw0 ⟨rfl, _, rfl, ifF (no (nw4 hk)) (ifF rfl ⟨_, _, _, rfl, dk⟩)⟩⟩
    clear dk0
    rintro σ H4 ⟨v6, v7, s4, rfl, dk0⟩
    refine ⟨DMid H0 ex sw a t ma (gAt 5 (rowIx r) sw.g g1), ?_, ?_⟩
    · have d := dk0
      by_cases hk : rowIx r = 5
      · clear dk0
        rw [gAt_lt (k := 4) hk] at d
        rw [gAt_ge (k := 5) (by omega)]
        cases r with
        | copy h s' t' =>
          have e1 : hh = h := by have := V.int.inj (Option.some.inj hrow1); omega
          subst e1
          obtain ⟨rr, vv, hrr, hvv⟩ := go.slot ok.1
          obtain ⟨ma', hm1, hm2, hm3⟩ := d.mine hrr
          rw [hma] at hm1
          cases hm1
          have lt : s' < rr.length := (List.getElem?_eq_some_iff.mp hvv).1
          cases deed with
          | copied h2 =>
            rename_i v
            obtain ⟨r2, hr2, hv2⟩ := gslot_iff.mp h2
            rw [hrr] at hr2
            cases hr2
            obtain ⟨s9, d9⟩ := d.set (k := s') hrr hma v
            exact ⟨_, rfl, rdT (i := 0) (tup d).1 rfl ⟨rfl, _, rfl, ifT rfl ⟨_, rfl, _, rfl, rdT (i := 3) (tup d).1 rfl (rdL (v := btV v) (SqL.of hm2) (by rw [List.getElem?_map, hv2]; rfl) ⟨_, rfl, _, rfl, rdT (i := 2) (tup d).1 rfl ⟨ma, _, _, s', rfl, rfl, hm2, ixN_nat (by rw [List.length_map]; exact lt), _, _, _, rfl, d9⟩⟩)⟩⟩⟩
        | _ => simp [rowIx] at hk
      · have dk := d
        rw [gAt_skip (k := 4) hk] at dk
        exact ⟨_, rfl, rdT (i := 0) (tup d).1 hw0 ⟨rfl, _, rfl, ifF (no (nw5 hk)) ⟨_, _, _, rfl, dk⟩⟩⟩
    clear dk0
    rintro σ H5 ⟨v6, v7, s5, rfl, dk0⟩
    refine ⟨DMid H0 ex sw a t ma (gAt 6 (rowIx r) sw.g g1), ?_, ?_⟩
    · have d := dk0
      by_cases hk : rowIx r = 6
      · clear dk0
        rw [gAt_lt (k := 5) hk] at d
        rw [gAt_ge (k := 6) (by omega)]
        cases r with
        | drop h s' =>
          have e1 : hh = h := by have := V.int.inj (Option.some.inj hrow1); omega
          subst e1
          obtain ⟨rr, vv, hrr, hvv⟩ := go.slot ok
          obtain ⟨ma', hm1, hm2, hm3⟩ := d.mine hrr
          rw [hma] at hm1
          cases hm1
          have lt : s' < rr.length := (List.getElem?_eq_some_iff.mp hvv).1
          cases deed with
          | dropped =>
            obtain ⟨s9, d9⟩ := d.set (k := s') hrr hma none
            exact ⟨_, rfl, rdT (i := 0) (tup d).1 rfl ⟨rfl, _, rfl, ifT rfl ⟨_, rfl, _, rfl, rdT (i := 2) (tup d).1 rfl ⟨ma, _, _, s', rfl, rfl, hm2, ixN_nat (by rw [List.length_map]; exact lt), _, _, _, rfl, d9⟩⟩⟩⟩
        | _ => simp [rowIx] at hk
      · have dk := d
        rw [gAt_skip (k := 5) hk] at dk
        exact ⟨_, rfl, rdT (i := 0) (tup d).1 hw0 ⟨rfl, _, rfl, ifF (no (nw6 hk)) ⟨_, _, _, rfl, dk⟩⟩⟩
    clear dk0
    rintro σ H6 ⟨v6, v7, s6, rfl, dk0⟩
    refine ⟨DMid H0 ex sw a t ma (gAt 7 (rowIx r) sw.g g1), ?_, ?_⟩
    · have d := dk0
      by_cases hk : rowIx r = 7
      · clear dk0
        rw [gAt_lt (k := 6) hk] at d
        rw [gAt_ge (k := 7) (by omega)]
        cases r with
        | give h s' k' t' =>
          have e1 : hh = h := by have := V.int.inj (Option.some.inj hrow1); omega
          subst e1
          obtain ⟨rr, vv, hrr, hvv⟩ := go.slot ok.1
          obtain ⟨ma', hm1, hm2, hm3⟩ := d.mine hrr
          rw [hma] at hm1
          cases hm1
          have lt : s' < rr.length := (List.getElem?_eq_some_iff.mp hvv).1
          obtain ⟨r3, v3, hr3, hv3⟩ := go.slot ok.2
          obtain ⟨mb, hb1, hb2, hb3⟩ := d.mine hr3
          have lt3 : t' < r3.length := (List.getElem?_eq_some_iff.mp hv3).1
          have hsl := d.R.sl
          rw [d.ad.1, d.rows] at hsl
          cases deed with
          | given h2 =>
            rename_i v
            obtain ⟨r2, hr2, hv2⟩ := gslot_iff.mp h2
            rw [hrr] at hr2
            cases hr2
            obtain ⟨s9, d9⟩ := d.set (k := t') hr3 hb1 v
            refine ⟨_, rfl, rdT (i := 0) (tup d).1 rfl ⟨rfl, _, rfl, ifT rfl ?_⟩⟩
            refine ⟨_, rfl, _, rfl, rdT (i := 3) (tup d).1 rfl (rdL (v := .ref mb) (SqL.of hsl) (by rw [List.getElem?_map, hb1]; rfl) ?_)⟩
            exact ⟨_, rfl, _, rfl, rdT (i := 2) (tup d).1 rfl (rdL (v := btV v) (SqL.of hm2) (by rw [List.getElem?_map, hv2]; rfl) ⟨_, rfl, _, rfl, rdT (i := 4) (tup d).1 rfl ⟨mb, _, _, t', rfl, rfl, hb2, ixN_nat (by rw [List.length_map]; exact lt3), _, _, _, rfl, d9⟩⟩)⟩
        | _ => simp [rowIx] at hk
      · have dk := d
        rw [gAt_skip (k := 6) hk] at dk
        exact ⟨_, rfl, rdT (i := 0) (tup d).1 hw0 ⟨rfl, _, rfl, ifF (no (nw7 hk)) ⟨_, _, _, rfl, dk⟩⟩⟩
    clear dk0
    rintro σ H7 ⟨v6, v7, s7, rfl, dk0⟩
    have d := dk0
    rw [gAt_ge (rowIx_le r)] at d
    have dg := d.R.dg.2.2.1
    rw [d.ad.2.2] at dg
    have eg := d.g
    cases hm : g1.met with
    | none =>
      have mv : metV s7 = .non := by unfold metV; rw [eg, hm]; rfl
      rw [mv] at dg
      refine ⟨_, rfl, sw.ta, _, rfl, dg, _, rfl, ifF rfl ?_⟩
      exact k _ s7 d.R (by rw [eg]; show g1 = { g1 with met := g1.met.map _ }; rw [hm]; cases g1; cases hm; rfl) d.ad
    | some M =>
      have mv : metV s7 = .ref s7.md := by unfold metV; rw [eg, hm]; rfl
      rw [mv] at dg
      obtain ⟨km, mq, mk⟩ := (d.R.md M (by rw [eg]; exact hm)).1
      refine ⟨_, rfl, sw.ta, _, rfl, dg, _, rfl, ifT rfl ?_⟩
      refine ⟨_, rfl, _, rfl, _, rfl, sw.ta, _, rfl, dg, s7.sl, s7.lk, s7.md, s7.rows, s7.ls, s7.g, km, M, by rw [d.ad.1, d.ad.2.1]; rfl, d.R.walk, by rw [eg]; exact go1.fit LO (by omega), by rw [eg]; exact lnk, mq, mk, by rw [eg]; exact go1.met M hm, ?_, fun H8 kvs' keep free hm1 hk1 => ?_⟩
      · intro z
        have a1 := (d.R.md M (by rw [eg]; exact hm)).2
        have a2 := d.R.rlk
        rw [← z] at a2
        exact absurd (a1.symm.trans a2) (by intro z; cases z)
      · have R8 := d.R.reach (by rw [eg]; exact hm) keep hm1 hk1
        refine k H8 _ R8 ?_ d.ad
        show { s7.g with met := some fun b => M b ∨ RchB s7.g b } = { g1 with met := g1.met.map fun M b => M b ∨ RchB g1 b }
        rw [hm, eg]
        rfl
end
end G

/-! The law, 10: a log followed. -/
namespace G
open PySem PySem.Spec PyProof.Rows L2
theorem ix_fun : ∀ (l : List Addr), l.Nodup → ∃ f : Addr → Nat, ∀ i a, l[i]? = some a → f a = i
  | [], _ => ⟨fun _ => 0, fun i a h => by simp at h⟩
  | x :: r, nd => by
    obtain ⟨h1, h2⟩ := List.nodup_cons.mp nd
    obtain ⟨f, hf⟩ := ix_fun r h2
    refine ⟨fun b => if b = x then 0 else f b + 1, fun i a h => ?_⟩
    cases i with
    | zero =>
      cases h
      exact if_pos rfl
    | succ i =>
      have h : r[i]? = some a := h
      show (if a = x then 0 else f a + 1) = i + 1
      rw [if_neg (fun z => h1 (by rw [← z]; exact List.mem_of_getElem? h)), hf i a h]
theorem lrep_init {H : Hp} {sl : Addr} {srows : List Addr} {hs : List (Str × Nat)} (hsl : H sl = some (.lst (srows.map V.ref))) (al : All2 (fun a (h : Str × Nat) => H a = some (.lst (List.replicate h.2 V.non))) srows hs) (ns : sl ∉ srows) (nd : srows.Nodup) {lk ta td ed dd : Addr}
    (n1 : H lk = none) (n2 : upd H lk (.dK []) ta = none) (n3 : upd (upd H lk (.dK [])) ta (.dK []) td = none) (n4 : upd (upd (upd H lk (.dK [])) ta (.dK [])) td (.dK []) ed = none) (n5 : upd (upd (upd (upd H lk (.dK [])) ta (.dK [])) td (.dK [])) ed (.dK []) dd = none) :
    ∃ s, LRep H (fun b => b = sl ∨ b ∈ srows) (upd (upd (upd (upd (upd (upd H lk (.dK [])) ta (.dK [])) td (.dK [])) ed (.dK [])) dd (.dK [])) ta (.dK [(Sum.inr "there", .ref td), (Sum.inr "early", .ref ed), (Sum.inr "met", .non), (Sum.inr "doomed", .ref dd)])) s ∧ s.g = g0 hs ∧ s.sl = sl ∧ s.lk = lk ∧ s.ta = ta := by
  obtain ⟨f, hf⟩ := ix_fun srows nd
  have s1 : Same H (upd H lk (.dK [])) := Same.new n1
  have s2 := s1.trans (Same.new (o := .dK []) n2)
  have s3 := s2.trans (Same.new (o := .dK []) n3)
  have s4 := s3.trans (Same.new (o := .dK []) n4)
  have s5 := s4.trans (Same.new (o := .dK []) n5)
  have hta := s1.free n2
  have htd := s2.free n3
  have hed := s3.free n4
  have hdd := s4.free n5
  have lt : lk ≠ ta := ne_of_none upd_same n2
  have l3 : lk ≠ td := ne_of_none (by rw [upd_ne lt]; exact upd_same) n3
  have t3 : ta ≠ td := ne_of_none upd_same n3
  have l4 : lk ≠ ed := ne_of_none (by rw [upd_ne l3, upd_ne lt]; exact upd_same) n4
  have t4 : ta ≠ ed := ne_of_none (by rw [upd_ne t3]; exact upd_same) n4
  have d4 : td ≠ ed := ne_of_none upd_same n4
  have l5 : lk ≠ dd := ne_of_none (by rw [upd_ne l4, upd_ne l3, upd_ne lt]; exact upd_same) n5
  have t5 : ta ≠ dd := ne_of_none (by rw [upd_ne t4, upd_ne t3]; exact upd_same) n5
  have d5 : td ≠ dd := ne_of_none (by rw [upd_ne d4]; exact upd_same) n5
  have e5 : ed ≠ dd := ne_of_none upd_same n5
  have old : ∀ {b : Addr} {o : HO}, H b = some o → b ≠ ta ∧ b ≠ dd ∧ b ≠ ed ∧ b ≠ td ∧ b ≠ lk := fun h => ⟨ne_of_none h hta, ne_of_none h hdd, ne_of_none h hed, ne_of_none h htd, ne_of_none h n1⟩
  have rowm : ∀ a ∈ srows, ∃ o, H a = some o := fun a ha => let ⟨_, _, z⟩ := al.mem ha; ⟨_, z⟩
  let rl : Addr → LR := fun b => if b = ta then .ta else if b = dd then .dd else if b = ed then .ed else if b = td then .td else if b = lk then .lk else if b = sl then .sl else if b ∈ srows then .row (f b) else .out
  have rold : ∀ {b : Addr} {o : HO}, H b = some o → rl b = if b = sl then .sl else if b ∈ srows then .row (f b) else .out := fun h => by
    obtain ⟨h1, h2, h3, h4, h5⟩ := old h
    show (if _ then _ else _) = _
    rw [if_neg h1, if_neg h2, if_neg h3, if_neg h4, if_neg h5]
  have rrow : ∀ {i a}, srows[i]? = some a → rl a = .row i := fun {i a} h => by
    have m := List.mem_of_getElem? h
    obtain ⟨o, ho⟩ := rowm a m
    rw [rold ho, if_neg (fun z => ns (by rw [← z]; exact m)), if_pos m, hf i a h]
  have keep : ∀ {b : Addr} {o : HO}, H b = some o → ∀ T, upd (upd (upd (upd (upd (upd H lk (.dK [])) ta (.dK [])) td (.dK [])) ed (.dK [])) dd (.dK [])) ta T b = some o := fun {b o} h T => by
    rw [upd_ne (old h).1]
    exact s5 b o h
  refine ⟨{ sl := sl, lk := lk, ta := ta, td := td, ed := ed, md := ta, dd := dd, rows := srows, ls := [], rl := rl, g := g0 hs }, ?_, rfl, rfl, rfl, rfl⟩
  refine { sl := keep hsl _, rows := fun i r h => ?_, rlen := ?_, lk := ?_, ls := fun j fs h => by simp [g0] at h, llen := rfl, ta := upd_same, td := ⟨[], ?_, SetK.nil⟩, ed := ⟨[], ?_, SetK.nil⟩, md := fun M h => by simp [g0] at h, dd := ⟨[], ?_, SetK.nil⟩, rsl := ?_, rlk := ?_, rta := if_pos rfl, rtd := ?_, red := ?_, rdd := ?_, own := fun a h => ?_, fr := fun b o h n => keep h _, fresh := fun b h => ?_, free := fun b h => ?_ }
  · have h : (hs.map fun h => List.replicate h.2 (none : Option Int))[i]? = some r := h
    rw [List.getElem?_map] at h
    obtain ⟨p, hp, rfl⟩ := Option.map_eq_some_iff.mp h
    obtain ⟨a, ha, z⟩ := al.get' hp
    refine ⟨a, ha, ?_, rrow ha⟩
    rw [List.map_replicate]
    exact keep z _
  · show srows.length = (hs.map _).length
    rw [List.length_map]
    exact al.1
  · show upd _ ta _ lk = _
    rw [upd_ne lt, upd_ne l5, upd_ne l4, upd_ne l3, upd_ne lt, upd_same]
    rfl
  · show upd _ ta _ td = _
    rw [upd_ne t3.symm, upd_ne d5, upd_ne d4, upd_same]
  · show upd _ ta _ ed = _
    rw [upd_ne t4.symm, upd_ne e5, upd_same]
  · show upd _ ta _ dd = _
    rw [upd_ne t5.symm, upd_same]
  · exact (rold hsl).trans (if_pos rfl)
  · show (if _ then _ else _) = _
    rw [if_neg lt, if_neg l5, if_neg l4, if_neg l3, if_pos rfl]
  · show (if _ then _ else _) = _
    rw [if_neg t3.symm, if_neg d5, if_neg d4, if_pos rfl]
  · show (if _ then _ else _) = _
    rw [if_neg t4.symm, if_neg e5, if_pos rfl]
  · show (if _ then _ else _) = _
    rw [if_neg t5.symm, if_pos rfl]
  · cases q : H a with
    | none => exact .inl rfl
    | some o =>
      have h : rl a ≠ .out := h
      rw [rold q] at h
      by_cases e : a = sl
      · exact .inr (.inl e)
      · rw [if_neg e] at h
        by_cases m : a ∈ srows
        · exact .inr (.inr m)
        · rw [if_neg m] at h
          exact absurd rfl h
  · have bt : b ≠ ta := fun z => by rw [z, upd_same] at h; cases h
    rw [upd_ne bt] at h
    have bd : b ≠ dd := fun z => by rw [z, upd_same] at h; cases h
    rw [upd_ne bd] at h
    have be : b ≠ ed := fun z => by rw [z, upd_same] at h; cases h
    rw [upd_ne be] at h
    have bb : b ≠ td := fun z => by rw [z, upd_same] at h; cases h
    rw [upd_ne bb, upd_ne bt] at h
    have bl : b ≠ lk := fun z => by rw [z, upd_same] at h; cases h
    rw [upd_ne bl] at h
    show (if _ then _ else _) = _
    rw [if_neg bt, if_neg bd, if_neg be, if_neg bb, if_neg bl, if_neg (fun z => by rw [z, hsl] at h; cases h), if_neg (fun m => by obtain ⟨o, ho⟩ := rowm b m; rw [ho] at h; cases h)]
  · by_cases bt : b = ta
    · rw [bt, upd_same] at h
      cases h
    · rw [upd_ne bt] at h
      exact s5.free h
def RowRel (r : Row) : GS → Ev → GS → Prop := match r with
  | .sweep _ => LawStep
  | r => fun g e g' => LawDeal g r e g'
theorem row_rel {r : Row} {g g' : GS} {es : List Ev} (h : LawRow r g es g') : Chain (RowRel r) g es g' := by
  cases r <;> exact h
theorem drop_more {α : Type} {l : List α} {i : Nat} {x : α} (h : l[i]? = some x) : l.drop i = x :: l.drop (i + 1) := by
  obtain ⟨h1, h2⟩ := List.getElem?_eq_some_iff.mp h
  rw [List.drop_eq_getElem_cons h1, h2]
theorem AdEq.trans {a b c : LW} (h : AdEq a b) (k : AdEq b c) : AdEq a c := ⟨k.1.trans h.1, k.2.1.trans h.2.1, k.2.2.trans h.2.2⟩
theorem g0_ok (hs : List (Str × Nat)) : GOk (hs.map (·.2)) 0 (g0 hs) := by
  refine ⟨?_, Nat.le_refl _, (fun fs h => by cases h), (fun b h => h.elim), (fun b h => h.elim), (fun M h => by cases h), (fun b h => h.elim)⟩
  show (hs.map fun h => List.replicate h.2 (none : Option Int)).map (·.length) = _
  rw [List.map_map]
  refine List.map_congr_left fun h _ => ?_
  simp
def spFollowed (K : PySem.W.Frag) : Sp := fun vs H Q _ => ∃ (H1 : Hp) (rb lb sl : Addr) (srows : List Addr) (hs : List (Str × Nat)) (rows : List Row) (ess : List (List Ev)), vs = [.ref rb, .ref lb, .ref sl] ∧ Same H1 H ∧ RowsAtH H1 rb rows ∧ RunEnd H1 lb rows hs ess ∧ H sl = some (.lst (srows.map V.ref)) ∧ All2 (fun a (h : Str × Nat) => H a = some (.lst (List.replicate h.2 V.non))) srows hs ∧
  sl ∉ srows ∧ srows.Nodup ∧ H1 sl = none ∧ (∀ a ∈ srows, H1 a = none) ∧ LensOk (hs.map (·.2)) ∧ (∀ r ∈ rows, RowOk (hs.map (·.2)) r) ∧ rows.length ≤ 9000 ∧ ∀ H', Q (.bl true) H'
section
variable {P : Program} {w : World} {K : PySem.W.Frag} {mg : Str → Option Value} {base : Heap}
theorem sc__law_followed : FnScope ["_law_rows_here", "_law_log", "_law_slots", "_law_links", "_law_tally", "_law_last", "_law_row_here", "_law_events", "_law_event_here"] ["_law_rows_here", "_law_log", "_law_slots"] (defScope s__law_followed) := ⟨rfl, rfl, rfl, by decide +kernel, rfl, by decide +kernel, by decide +kernel⟩
theorem ok__law_followed (C : CtxG K mg) : Ok P w K mg base CX0 4 d__law_followed ["_law_rows_here", "_law_log", "_law_slots"] (spFollowed K) := by
  refine ok_mk0 C.T.f__law_followed sc__law_followed (fun vs H Q E h => ?_) (fun fd F => F.bindsN fun _ _ _ _ _ _ us hl => match us, hl with | [_, _, _], _ => rfl) (fun cdv A outer s H vs Q E hr h => ?_)
  · obtain ⟨H1, rb, lb, sl, srows, hs, rows, ess, rfl, _⟩ := h
    rfl
  · obtain ⟨H1, rb, lb, sl, srows, hs, rows, ess, rfl, s01, ⟨as, hrb, al⟩, ⟨⟨lvs, hlb, all⟩, ⟨gE, LL⟩, le1, fin1, one⟩, hsl, sal, ns, nd, nsl, nrows, LO, rok, many, k⟩ := h
    refine ⟨_, (pss_cons (ps_set (i := 3) sc__law_followed.nd rfl (Or.inl rfl) pe_dnewK)
      (pss_cons (ps_set (i := 4) sc__law_followed.nd rfl (Or.inl rfl) (pe_disp (pps_cons pe_str pe_dnewK (pps_cons pe_str pe_dnewK (pps_cons pe_str pe_non (pps_cons pe_str pe_dnewK pps_nil)))) (by rfl) (by rfl) (fun z => by cases z) (by decide)))
      (pss_cons (ps_set (i := 5) sc__law_followed.nd rfl (Or.inl rfl) pe_non)
      (pss_cons (ps_for PassesOwn.never rfl (pi_zip (by rfl) C.fr_zip (pa_cons (pv 0) (pa_cons (pv 1) pa_nil))) (pg_tup rfl (pgs_cons (pg_name (i := 6) sc__law_followed.nd rfl (Or.inl rfl)) (pgs_cons (pg_name (i := 7) sc__law_followed.nd rfl (Or.inl rfl)) pgs_nil))) (pss_one (ps_for PassesOwn.never rfl (pi_list (pv 7)) (pg_name (i := 8) sc__law_followed.nd rfl (Or.inl rfl)) (pss_cons (ps_if (pt_not (pt_val (pe_fn (ok__law_event C) (hr.mono (by decide)) C.g__law_event (pa_cons (pv 8) pa_nil)))) (pss_one (ps_ret pe_bl)) pss_nil)
      (pss_cons (ps_set (i := 5) sc__law_followed.nd rfl (Or.inl rfl) (pe_ix ix_tup (pv 8) pe_int (fun _ _ => rfl)))
      (pss_one (ps_if (pt_cmpR op_eq (pe_ix ix_tup (pv 6) pe_int (fun _ _ => rfl)) pe_str (nomark _)) (pss_one (ps_if (pt_not (pt_val (pe_fn (ok__law_stepped C) (hr.mono (by decide)) C.g__law_stepped (pa_cons (pv 8) (pa_cons (pv 2) (pa_cons (pv 3) (pa_cons (pv 4) pa_nil))))))) (pss_one (ps_ret pe_bl)) pss_nil)) (pss_one (ps_if (pt_not (pt_val (pe_fn (ok__law_dealt C) (hr.mono (by decide)) C.g__law_dealt (pa_cons (pv 6) (pa_cons (pv 8) (pa_cons (pv 2) (pa_cons (pv 3) (pa_cons (pv 4) pa_nil)))))))) (pss_one (ps_ret pe_bl)) pss_nil)))))))))
      (pss_one (ps_ret (pe_or (pe_cmpR op_eq (pe_callB call_len_seq (by rfl) C.fr_len PySem.boot_len (pa_cons (pv 1) pa_nil)) (pe_callB call_len_seq (by rfl) C.fr_len PySem.boot_len (pa_cons (pv 0) pa_nil)) (nomark _)) (pe_one (pe_and (pe_cmpR op_lt (pe_callB call_len_seq (by rfl) C.fr_len PySem.boot_len (pa_cons (pv 1) pa_nil)) (pe_callB call_len_seq (by rfl) C.fr_len PySem.boot_len (pa_cons (pv 0) pa_nil)) (nomark _)) (pe_one (pe_cmpR op_eq (pv 5) pe_str (nomark _)))))))))))), ?_⟩
    intro lk n1 ta n2 td n3 ed n4 dd n5
    refine ⟨?_, [(Sum.inr "there", .ref td), (Sum.inr "early", .ref ed), (Sum.inr "met", .non), (Sum.inr "doomed", .ref dd)], rfl, (by show 4 ≤ 15; decide), ?_⟩
    · have t3 : ta ≠ td := ne_of_none upd_same n3
      have t4 : ta ≠ ed := ne_of_none (by rw [upd_ne t3]; exact upd_same) n4
      have t5 : ta ≠ dd := ne_of_none (by rw [upd_ne t4, upd_ne t3]; exact upd_same) n5
      rw [upd_ne t5, upd_ne t4, upd_ne t3]
      exact upd_same
    obtain ⟨s0, R0, g00, e1, e2, e3⟩ := lrep_init hsl sal ns nd n1 n2 n3 n4 n5
    have nex : ∀ {b : Addr} {o : HO}, H1 b = some o → ¬ (b = sl ∨ b ∈ srows) := fun h z => by
      rcases z with z | z
      · rw [z, nsl] at h
        cases h
      · rw [nrows _ z] at h
        cases h
    have st : ∀ {b : Addr} {o : HO} {H' : Hp} {s : LW}, LRep H (fun b => b = sl ∨ b ∈ srows) H' s → H1 b = some o → H' b = some o := fun R h => R.fr _ _ (s01 _ _ h) (nex h)
    have lrl : as.length = rows.length := al.1
    have lll : lvs.length = ess.length := all.1
    have nmin : ess.length = min (as.map V.ref).length lvs.length := by rw [List.length_map]; omega
    refine ⟨_, rfl, _, rfl, rb, lb, _, _, rfl, SqL.of (st R0 hrb), SqL.of (st R0 hlb), for_it (walk_zip (xs := as.map V.ref) (ys := lvs) nmin) (fun i σ H' => ∃ v5 v6 v7 v8 s, σ = [some (.ref rb), some (.ref lb), some (.ref sl), some (.ref lk), some (.ref ta), some v5, v6, v7, v8] ∧ LRep H (fun b => b = sl ∨ b ∈ srows) H' s ∧ AdEq s0 s ∧ GOk (hs.map (·.2)) i s.g ∧ (∃ gE, LawLog s.g ((rows.zip ess).drop i) gE) ∧
        ∀ j es, j + 1 = i → ess[j]? = some es → ∀ e, es.getLast? = some e → v5 = .str e.word)
      ⟨.non, none, none, none, s0, rfl, R0, ⟨rfl, rfl, rfl⟩, by rw [g00]; exact g0_ok hs, ⟨gE, by rw [g00]; exact LL⟩, fun j es h => by omega⟩ (fun i σ H' _ ⟨_, _, _, _, _, _, R, _⟩ => ⟨SqL.of (st R hrb), SqL.of (st R hlb)⟩) ?_ ?_⟩
    · rintro i x σ H2 H3 hi ⟨v5, v6, v7, v8, s, rfl, R, ad, go, ⟨gF, LF⟩, hv5⟩ ⟨T, x1, y1, rfl, hT, rfl, hx, hy⟩
      have hx : (as.map V.ref)[i]? = some x1 := hx
      have hy : lvs[i]? = some y1 := hy
      rw [List.getElem?_map] at hx
      obtain ⟨a, ha, rfl⟩ := Option.map_eq_some_iff.mp hx
      obtain ⟨r, hr, har⟩ := al.get ha
      obtain ⟨es, hes, eb, vs, rfl, heb, alv⟩ := all.get hy
      have hzip : (rows.zip ess)[i]? = some (r, es) := by
        rw [List.getElem?_zip_eq_some]
        exact ⟨hr, hes⟩
      have rm := List.mem_of_getElem? hr
      have one' := one _ (List.mem_of_getElem? hzip)
      have ir : i < rows.length := (List.getElem?_eq_some_iff.mp hr).1
      rw [drop_more hzip] at LF
      cases LF with
      | cons lr rest =>
      rename_i g1
      have ch0 := row_rel lr
      have sT : Same H2 (upd H2 T (.tup [.ref a, .ref eb])) := Same.new hT
      have R1 := R.same sT
      refine ⟨T, _, rfl, SqT.of upd_same, rfl, _, _, rfl, _, _, rfl, rfl, ?_⟩
      refine ⟨_, rfl, eb, rfl, ⟨_, SqL.of (st R1 heb)⟩, for_it (walk_list (xs := vs)) (fun j σ H' => ∃ v5 v8 s, σ = [some (.ref rb), some (.ref lb), some (.ref sl), some (.ref lk), some (.ref ta), some v5, some (.ref a), some (.ref eb), v8] ∧ LRep H (fun b => b = sl ∨ b ∈ srows) H' s ∧ AdEq s0 s ∧ GOk (hs.map (·.2)) (if r.isSweep = true then i else i + j) s.g ∧ Chain (RowRel r) s.g (es.drop j) g1 ∧
          ∀ m e, m + 1 = j → es[m]? = some e → v5 = .str e.word)
        ⟨v5, v8, s, rfl, R1, ad, by split <;> exact go, ch0, fun m e h => by omega⟩ (fun j σ H' _ ⟨_, _, _, _, R, _⟩ => SqL.of (st R heb)) ?_ ?_⟩
      · rintro j x σ H4 H4' hj ⟨v5, v8, s, rfl, R, ad, go, ch, hw5⟩ ⟨rfl, hx⟩
        obtain ⟨e, he, t, l, rfl, ht1, hl1⟩ := alv.get hx
        have ht := st R ht1
        have hl := st R hl1
        have jl : j < es.length := (List.getElem?_eq_some_iff.mp he).1
        rw [drop_more he] at ch
        cases ch with
        | cons c1 rest2 =>
        rename_i g2
        refine ⟨_, rfl, t, l, e.word, e.thing, _, rfl, ht, hl, _, rfl, ifF rfl ?_⟩
        refine ⟨_, rfl, rdT (i := 0) ht rfl ?_⟩
        have har4 := st R har
        have eo : EvO H (fun b => b = sl ∨ b ∈ srows) t l e := ⟨s01 _ _ ht1, s01 _ _ hl1, nex ht1, nex hl1⟩
        have adr : s.sl = sl ∧ s.lk = lk ∧ s.ta = ta := ⟨ad.1.trans e1, ad.2.1.trans e2, ad.2.2.trans e3⟩
        have last : ∀ m e', m + 1 = j + 1 → es[m]? = some e' → V.str e.word = .str e'.word := fun m e' hm h => by
          have : m = j := by omega
          rw [this, he] at h
          cases h
          rfl
        cases hsw : r.isSweep with
        | true =>
          rw [if_pos hsw] at go
          cases r with
          | sweep nn =>
            refine ⟨_, rfl, rdT (i := 0) har4 rfl ⟨rfl, _, rfl, ifT rfl ?_⟩⟩
            refine ⟨_, rfl, _, rfl, _, rfl, _, rfl, H, _, s, t, l, e, g2, hs.map (·.2), i, by rw [adr.1, adr.2.1, adr.2.2]; rfl, R, eo, go, LO, by omega, c1, fun H5 s5 R5 hg5 ad5 => ⟨_, rfl, ifF rfl ?_⟩⟩
            exact ⟨_, _, s5, rfl, R5, ad.trans ad5, by rw [hg5]; exact (if_pos hsw).symm ▸ go.step c1, by rw [hg5]; exact rest2, last⟩
          | _ => cases hsw
        | false =>
          rw [if_neg (by rw [hsw]; decide)] at go
          have oneL := one' hsw
          have j0 : j = 0 := by
            have : es.length ≤ 1 := oneL
            omega
          have deal : LawDeal s.g r e g2 := by
            cases r with
            | sweep nn => cases hsw
            | _ => exact c1
          obtain ⟨w0, hw0, hne⟩ : ∃ w0 : Str, (rowV r)[0]? = some (.str w0) ∧ w0 ≠ ("sweep" : Str) := by
            cases r with
            | sweep nn => cases hsw
            | _ => exact ⟨_, rfl, by decide +kernel⟩
          refine ⟨_, rfl, rdT (i := 0) har4 hw0 ⟨rfl, _, rfl, ifF (decide_eq_false fun z => hne (V.str.inj z)) ?_⟩⟩
          refine ⟨_, rfl, _, rfl, _, rfl, _, rfl, _, rfl, H, _, s, a, t, l, r, e, g2, hs.map (·.2), i + j, by rw [adr.1, adr.2.1, adr.2.2]; rfl, R, s01 _ _ har, nex har, eo, go, LO, rok r rm, hsw, by omega, deal, fun H5 s5 R5 hg5 ad5 => ⟨_, rfl, ifF rfl ?_⟩⟩
          refine ⟨_, _, s5, rfl, R5, ad.trans ad5, ?_, by rw [hg5]; exact rest2, last⟩
          rw [hg5, if_neg (by decide)]
          obtain ⟨dd1, dd2⟩ := deal
          exact (go.deed (rok r rm) dd1).metUp dd2
      · rintro σ H4 ⟨v5, v8, s, rfl, R, ad, go, ch, hw5⟩
        have vl : vs.length = es.length := alv.1
        rw [vl, List.drop_length] at ch
        cases ch
        refine ⟨v5, _, _, _, s, rfl, R, ad, ?_, ⟨gF, rest⟩, fun j es' hj h e he => ?_⟩
        · refine go.more ?_
          cases hsw : r.isSweep with
          | true => rw [if_pos rfl]; omega
          | false =>
            have := one' hsw
            have : es.length ≤ 1 := this
            rw [if_neg (by decide), vl]
            omega
        · have : j = i := by omega
          rw [this, hes] at h
          cases h
          rw [List.getLast?_eq_getElem?] at he
          have lp := (List.getElem?_eq_some_iff.mp he).1
          exact hw5 (es.length - 1) e (by omega) he
    · rintro σ H2 ⟨v5, v6, v7, v8, s, rfl, R, ad, go, _, hv5⟩
      refine ⟨_, rfl, lb, _, rfl, .inl (SqL.of (st R hlb)), _, rfl, rb, _, rfl, .inl (SqL.of (st R hrb)), rfl, ?_⟩
      rw [List.length_map, lrl, lll]
      by_cases eq : ess.length = rows.length
      · exact ⟨_, rfl, ifT (decide_eq_true (by rw [eq])) (k H2)⟩
      · obtain ⟨es, hes, e, he, hl⟩ := fin1.resolve_left eq
        have v5e : v5 = .str e.word := by
          rw [List.getLast?_eq_getElem?] at hes
          have := (List.getElem?_eq_some_iff.mp hes).1
          exact hv5 (ess.length - 1) es (by omega) hes e he
        refine ⟨_, rfl, ifF (decide_eq_false fun z => eq (by have := V.int.inj z; omega)) ?_⟩
        refine ⟨_, rfl, lb, _, rfl, .inl (SqL.of (st R hlb)), _, rfl, rb, _, rfl, .inl (SqL.of (st R hrb)), _, _, rfl, rfl, _, rfl, ifT ?_ ?_⟩
        · rw [List.length_map, lrl, lll]
          exact decide_eq_true (by omega)
        · refine ⟨_, rfl, by rw [v5e]; rfl, ?_⟩
          rw [v5e, hl, decide_eq_true rfl]
          exact k H2
end
end G

/-! The law itself. -/
namespace G
open PySem PySem.Spec PyProof.Rows L2
theorem cut_ints (xs : List Int) (lo hi : Option Int) : ∃ cs : List Int, cutV (xs.map V.int) lo hi = cs.map V.int ∧ cs.length ≤ xs.length := by
  refine ⟨(xs.drop (HT.sIx xs.length 0 lo)).take (HT.sIx xs.length xs.length hi - HT.sIx xs.length 0 lo), ?_, ?_⟩
  · unfold cutV
    rw [List.length_map, List.map_take, List.map_drop]
  · rw [List.length_take, List.length_drop]
    omega
theorem sql_same {K : PySem.W.Frag} {H H' : Hp} {a : Addr} {xs : List V} (h : SqL K H a xs) (e : Same H H') : SqL K H' a xs :=
  h.elim (fun h => .inl (h.elim (fun h => .inl (e _ _ h)) fun ⟨o, h⟩ => .inr ⟨o, e _ _ h⟩)) fun h => .inr h
def spLaw (K : PySem.W.Frag) : Sp := fun vs H Q _ => ∃ (a : Addr) (ns : List Int), vs = [.ref a] ∧ SqL K H a (ns.map V.int) ∧ ns.length ≤ 63 ∧ ∀ H', Q (.bl true) H'
section
variable {P : Program} {w : World} {K : PySem.W.Frag} {mg : Str → Option Value} {base : Heap}
theorem sc_law : FnScope ["_law_script", "_law_hands_here", "_law_seed", "_law_rows_here", "_law_scene", "_law_log", "_law_events", "_law_name", "_law_many"] ["_law_script"] (defScope s_law) := ⟨rfl, rfl, rfl, by decide +kernel, rfl, by decide +kernel, by decide +kernel⟩
theorem ok_law (C : CtxG K mg) {fd : FuncData} (F : FnP K d_law fd) : FnOk P w K mg base CX0 10 (He.fAd K d_law.at_) fd ["_law_script"] (spLaw K) := by
  obtain ⟨frun, Frun, krun, dsr, vrun, brun⟩ := ok_run (P := P) (w := w) (base := base) C
  refine fn_mk0 F sc_law (fun vs H Q E h => ?_) (fun cdv A outer s H vs Q E hr h => ?_)
  · obtain ⟨a, ns, rfl, _⟩ := h
    rfl
  · obtain ⟨sc, ns, rfl, hS, hn, k⟩ := h
    refine ⟨_, (pss_cons (ps_set (i := 1) sc_law.nd rfl (Or.inl rfl) (pe_fn (ok__law_hands C) (hr.mono (by decide)) C.g__law_hands (pa_cons (pe_fn (ok__law_cell C) (hr.mono (by decide)) C.g__law_cell (pa_cons (pv 0) (pa_cons pe_int pa_nil))) pa_nil)))
      (pss_cons (ps_set (i := 2) sc_law.nd rfl (Or.inl rfl) (pe_fn (ok__law_cell C) (hr.mono (by decide)) C.g__law_cell (pa_cons (pv 0) (pa_cons pe_int pa_nil))))
      (pss_cons (ps_set (i := 3) sc_law.nd rfl (Or.inl rfl) (pe_fn (ok__law_rows C) (hr.mono (by decide)) C.g__law_rows (pa_cons (pe_slice sl_list (pv 0) (po_some pe_int) (po_some pe_int)) (pa_cons (pv 1) (pa_cons (pv 2) (pa_cons pe_int pa_nil))))))
      (pss_cons (ps_expr (pe_bm PySem.F.plainAttrs_list PySem.F.slot_list_append PySem.F.type_list_append mt_append (pv 3) (pa_cons (pe_tup (pa_cons pe_str (pa_cons (pe_op op_add pe_int (pe_fn (ok__law_draw C) (hr.mono (by decide)) C.g__law_draw (pa_cons (pv 2) (pa_cons pe_int (pa_cons pe_int pa_nil))))) pa_nil))) pa_nil)))
      (pss_cons (ps_set (i := 4) sc_law.nd rfl (Or.inl rfl) (pe_mk (d := d_Scene_init) C.T.mk_Scene (ok_Scene_init C) (hr.mono (by decide)) C.g_Scene (pa_cons (pe_fn (ok__law_room C) (hr.mono (by decide)) C.g__law_room (pa_cons (pv 2) pa_nil)) (pa_cons (pe_fn (ok__law_kind C) (hr.mono (by decide)) C.g__law_kind (pa_cons (pe_fn (ok__law_cell C) (hr.mono (by decide)) C.g__law_cell (pa_cons (pv 0) (pa_cons pe_int pa_nil))) pa_nil)) (pa_cons (pe_callTy call_list_of (by rfl) C.fr_list (by decide +kernel) (pa_cons (pv 1) pa_nil)) (pa_cons (pe_callTy call_list_of (by rfl) C.fr_list (by decide +kernel) (pa_cons (pv 3) pa_nil)) pa_nil))))))
      (pss_cons (ps_set (i := 5) sc_law.nd rfl (Or.inl rfl) (pe_call Frun (hr.mono (by decide)) rfl C.g_run krun brun vrun pass0 (pa_cons (pv 4) pa_nil)))
      (pss_cons (ps_if (pt_not (pt_val (pe_callB call_isi (by rfl) C.fr_isinstance (by decide +kernel) (pa_cons (pv 5) (pa_cons (pe_bltn (v := .ty "list") (by rfl) C.fr_list (by decide +kernel) rfl) pa_nil))))) (pss_one (ps_ret pe_bl)) pss_nil)
      (pss_cons (ps_for PassesOwn.never rfl (pi_list (pv 5)) (pg_name (i := 6) sc_law.nd rfl (Or.inl rfl)) (pss_one (ps_if (pt_not (pt_val (pe_callB call_isi (by rfl) C.fr_isinstance (by decide +kernel) (pa_cons (pv 6) (pa_cons (pe_bltn (v := .ty "list") (by rfl) C.fr_list (by decide +kernel) rfl) pa_nil))))) (pss_one (ps_ret pe_bl)) pss_nil)))
      (pss_one (ps_ret (pe_fn (ok__law_followed C) (hr.mono (by decide)) C.g__law_followed (pa_cons (pv 3) (pa_cons (pv 5) (pa_cons (pe_lc (g := gTup K 2 (gCons (gName 7) (gCons (gName 8) gNil))) (te := tOp rRep (tLst (tCons (tC .non) tNil)) (tVar 8)) (own := [("_law_name", 7), ("_law_many", 8)]) rfl sc_law.nd (pi_list (pv 1)) (blkOk_by (own := [("_law_name", 7), ("_law_many", 8)]) (by show blkC ["_law_script", "_law_hands_here", "_law_seed", "_law_rows_here", "_law_scene", "_law_log", "_law_events", "_law_name", "_law_many"] (defScope s_law) _ _ = true; decide +kernel)) (fun _ _ _ _ _ => (pg_tup rfl (pgs_cons (pg_name (i := 7) sc_law.nd rfl (Or.inl rfl)) (pgs_cons (pg_name (i := 8) sc_law.nd rfl (Or.inl rfl)) pgs_nil)))) (fun _ _ _ _ _ => pts_nil) (fun _ _ _ _ _ => pe_op op_rep (pe_lst (pa_cons pe_non pa_nil)) (pv 8))) pa_nil)))))))))))))), ?_⟩
    refine ⟨_, rfl, sc, ns, 1, rfl, hS, fun n1 => ⟨n1, rfl, fun H1 hb hs e1 hb0 hands hok => ?_⟩⟩
    have hS1 := sql_same hS e1
    refine ⟨_, rfl, sc, ns, 2, rfl, hS1, fun seed => ?_⟩
    obtain ⟨cs, hcs, cl⟩ := cut_ints ns (some 3) (some 63)
    refine ⟨_, rfl, 3, rfl, 63, rfl, sc, _, rfl, hS1, fun cb hcb => ?_⟩
    rw [hcs]
    have e2 := e1.trans (Same.new (o := .lst (cs.map V.int)) hcb)
    have s12 : Same H1 (upd H1 cb (.lst (cs.map V.int))) := Same.new hcb
    have hands2 : HandsAt (upd H1 cb (.lst (cs.map V.int))) hb hs := let ⟨ts, z1, z2⟩ := hands; ⟨ts, s12 _ _ z1, z2.mono fun _ _ z => s12 _ _ z⟩
    refine ⟨_, rfl, _, rfl, cb, hb, cs, hs, seed, 24, rfl, upd_same, by omega, hands2, hok, by decide, by decide, fun H3 rb as rows e3 rb0 hrb al rl rok => ?_⟩
    have h3 := e2.trans e3
    refine ⟨_, rfl, .inl ⟨rfl, _, SqL.of hrb⟩, _, rfl, seed, 1000003, 150, rfl, by decide, by decide, by decide, fun r0 r1 r2 => ⟨_, _, rfl, rfl, (by show 2 ≤ sizeLine; decide), fun t ht => ?_⟩⟩
    obtain ⟨m, hm⟩ := Int.eq_ofNat_of_zero_le (show 0 ≤ 1 + r0 by omega)
    have hV : (fun i j : Int => V.int (i + j)) 1 r0 = V.int (m : Int) := congrArg V.int hm
    rw [hV]
    have s3t : Same H3 (upd H3 t (.tup [.str "sweep", .int (m : Int)])) := Same.new ht
    have hrb4 := s3t _ _ hrb
    have al0 : as.length = cs.length := al.1.trans rl
    have tb : t ≠ rb := (ne_of_none hrb ht).symm
    refine ⟨rb, _, _, rfl, rfl, hrb4, (by rw [List.length_map]; exact big_line (by omega)), ?_⟩
    have rbn : H rb = none := e2.free rb0
    generalize hE : upd (upd H3 t (.tup [.str "sweep", .int (m : Int)])) rb (.lst (as.map V.ref ++ [.ref t])) = H5
    have e5 : Same H H5 := by rw [← hE]; exact Same.mut (h3.trans s3t) rbn
    have hrb5 : H5 rb = some (.lst ((as ++ [t]).map V.ref)) := by rw [← hE, upd_same, List.map_append]; rfl
    have rows5 : RowsAtH H5 rb (rows ++ [Row.sweep m]) := by
      refine ⟨as ++ [t], hrb5, All2.snoc (al.mono fun a r z => ?_) ?_⟩
      · rw [← hE, upd_ne z.2.1]
        exact s3t _ _ z.2.2
      · rw [← hE, upd_ne tb]
        exact upd_same
    have hands5 : HandsAt H5 hb hs := by
      obtain ⟨ts, z1, z2⟩ := hands2
      have ne1 : ∀ {b o}, upd H1 cb (.lst (cs.map V.int)) b = some o → H5 b = some o := fun {b o} h => by
        rw [← hE, upd_ne (ne_of_none h rb0)]
        exact s3t _ _ (e3 _ _ h)
      exact ⟨ts, ne1 z1, z2.mono fun _ _ z => ne1 z⟩
    have rok5 : ∀ r ∈ rows ++ [Row.sweep m], RowOk (hs.map (·.2)) r := fun r hr => by
      rcases List.mem_append.mp hr with q | q
      · exact rok r q
      · rw [List.mem_singleton.mp q]
        show 1 ≤ m ∧ m ≤ 1000
        omega
    have len5 : (rows ++ [Row.sweep m]).length ≤ 9000 := by
      rw [List.length_append]
      simp
      omega
    clear hE
    have LO : LensOk (hs.map (·.2)) := ⟨by rw [List.length_map]; exact hok.hi, fun n hn => by obtain ⟨h, hh, rfl⟩ := List.mem_map.mp hn; exact (hok.each h hh).2⟩
    refine ⟨_, rfl, seed, rfl, fun room => ⟨_, rfl, sc, ns, 0, rfl, sql_same hS e5, fun n0 => ⟨n0, rfl, fun H6 ko dk lo dlo lk tells e6 ko0 lo0 hko hlo => ?_⟩⟩⟩
    obtain ⟨ts, hts, alh⟩ := hands5
    obtain ⟨as2, has2, alr⟩ := rows5
    refine ⟨_, rfl, hb, _, rfl, .inl (SqL.of (e6 _ _ hts)), fun h2 hh2 => ?_⟩
    have e7 := e6.trans (Same.new (o := .lst (ts.map V.ref)) hh2)
    have s67 : Same H6 (upd H6 h2 (.lst (ts.map V.ref))) := Same.new hh2
    refine ⟨_, rfl, rb, _, rfl, .inl (SqL.of (e7 _ _ has2)), fun r2 hr2 => ?_⟩
    have s78 := Same.new (o := .lst (as2.map V.ref)) hr2
    have e8 := e7.trans s78
    refine fun x dx hx hdx hne => ⟨x, dx, h2, r2, .int room, .ref ko, ts.map V.ref, as2.map V.ref, rfl, upd_same, ?_, ?_, fun H9 h3' r3 ini hx3 rx3 hsc hh3 hr3 h30 r30 => ⟨rfl, ?_⟩⟩
    · exact (Same.made (C := He.ga K "Scene") hx hdx fun b o h _ => h) _ _ (s78 _ _ upd_same)
    · exact (Same.made (C := He.ga K "Scene") hx hdx fun b o h _ => h) _ _ upd_same
    have s89 := Same.made (C := He.ga K "Scene") hx hdx ini.keep
    have e9 := e8.trans s89
    have hko9 := s89 _ _ (s78 _ _ (s67 _ _ hko))
    have hlo9 := s89 _ _ (s78 _ _ (s67 _ _ hlo))
    have sa : SceneAt K H9 x ko lo r3 hs := ⟨⟨dx, dk, dlo, h3', room, tells, lk, ts, hsc, hko9, hlo9, hh3, alh.mono fun _ _ z => e9 _ _ z⟩, hok.hi, fun h hh => (hok.each h hh).2⟩
    have ra : RowsAtH H9 r3 (rows ++ [Row.sweep m]) := ⟨as2, hr3, alr.mono fun _ _ z => e9 _ _ z⟩
    refine ⟨_, rfl, x, ko, lo, r3, hs, rows ++ [Row.sweep m], rfl, sa, ra, rok5, len5, fun H10 lb ess keep free re => ?_⟩
    obtain ⟨⟨lvs, hlb, all⟩, re2⟩ := id re
    have nk : ∀ {b : Addr} {o : HO}, H5 b = some o → b ≠ ko ∧ b ≠ lo := fun h => ⟨ne_of_none h ko0, ne_of_none h lo0⟩
    have e10 : ∀ {b : Addr} {o : HO}, H5 b = some o → H10 b = some o := fun h => keep _ _ (e9 _ _ h) (nk h).1 (nk h).2
    refine ⟨_, rfl, .ref lb, .ty "list", .type "list", .type "list", true, rfl, .ty _, .base (.lst hlb), ?_, _, rfl, ifF rfl ?_⟩
    · unfold PySem.W.kitOne
      rw [if_pos (beq_self_eq_true _)]
    refine ⟨_, rfl, lb, rfl, ⟨_, SqL.of hlb⟩, for_it (walk_list (xs := lvs)) (fun i σ H' => ∃ v6, σ = [some (.ref sc), some (.ref hb), some (.int seed), some (.ref rb), some (.ref x), some (.ref lb), v6, none, none] ∧ H' = H10)
      ⟨none, rfl, rfl⟩ (fun i σ H' _ ⟨_, _, e⟩ => by rw [e]; exact SqL.of hlb) ?_ ?_⟩
    · rintro i y σ H11 H11' hi ⟨v6, rfl, rfl⟩ ⟨rfl, hy⟩
      obtain ⟨es, hes, eb, evs, rfl, heb, _⟩ := all.get hy
      refine ⟨_, rfl, .ref eb, .ty "list", .type "list", .type "list", true, rfl, .ty _, .base (.lst heb), ?_, _, rfl, ifF rfl ⟨_, rfl, rfl⟩⟩
      unfold PySem.W.kitOne
      rw [if_pos (beq_self_eq_true _)]
    · rintro σ H11 ⟨v6, rfl, rfl⟩
      have hts10 := e10 hts
      have tl : ts.length = hs.length := alh.1
      refine ⟨_, rfl, _, rfl, _, rfl, hb, rfl, ⟨_, SqL.of hts10⟩, fun D hD => lc_it (walk_list (K := K) (a := hb) (xs := ts.map V.ref)) (fun i H' => Same H11 H' ∧ ∃ ps : List Addr, H' D = some (.lst (ps.map V.ref)) ∧ All2 (fun a (h : Str × Nat) => H11 a = none ∧ a ≠ D ∧ H' a = some (.lst (List.replicate h.2 V.non))) ps (hs.take i) ∧ ps.Nodup)
        ⟨Same.new hD, [], upd_same, ⟨rfl, fun i x y h => by simp at h⟩, List.nodup_nil⟩ (fun i H' _ ⟨e, _⟩ => SqL.of (e _ _ hts10)) ?_ ?_⟩
      · rintro i v H12 H12' hi ⟨e12, ps, hD12, alp, ndp⟩ ⟨rfl, hv⟩
        rw [List.getElem?_map] at hv
        obtain ⟨tt, htt, rfl⟩ := Option.map_eq_some_iff.mp hv
        obtain ⟨⟨name, many⟩, hh, hz⟩ := alh.get htt
        have hm := (hok.each _ (List.mem_of_getElem? hh)).2
        have hm : many ≤ 9 := hm
        have il : i < hs.length := (List.getElem?_eq_some_iff.mp hh).1
        have h5 := hok.hi
        refine ⟨tt, _, rfl, SqT.of (e12 _ _ (e10 hz)), rfl, _, _, rfl, _, _, rfl, rfl, rfl, ?_⟩
        unfold tYes
        dsimp only
        rw [if_pos rfl]
        refine ⟨(by show 1 ≤ sizeLine; decide), fun l0 hl0 => ?_⟩
        have sl0 : Same H12' (upd H12' l0 (.lst [.non])) := Same.new hl0
        refine ⟨_, rfl, l0, _, _, rfl, rfl, upd_same, by omega, by omega, ?_, fun p hp => ?_⟩
        · show 1 * (many : Int).toNat ≤ sizeLine
          exact few_line (by omega)
        rw [Int.toNat_natCast, rep_one]
        have sp : Same H12' (upd (upd H12' l0 (.lst [.non])) p (.lst (List.replicate many V.non))) := sl0.trans (Same.new hp)
        have pl : ps.length = i := by
          rw [alp.1, List.length_take]
          omega
        have pD : D ≠ p := ne_of_none (sl0 _ _ hD12) hp
        have pn : H12' p = none := sl0.free hp
        refine ⟨ps.map V.ref, sp _ _ hD12, (by rw [List.length_map]; exact big_line (by omega)), Same.mut (e12.trans sp) hD, ps ++ [p], (by rw [upd_same, List.map_append]; rfl), ?_, ?_⟩
        · rw [take_more hh]
          refine All2.snoc (alp.mono fun a h z => ⟨z.1, z.2.1, by rw [upd_ne z.2.1]; exact sp _ _ z.2.2⟩) ⟨e12.free pn, pD.symm, ?_⟩
          rw [upd_ne pD.symm]
          exact upd_same
        · refine List.nodup_append.mpr ⟨ndp, by simp, fun a ha c hc q => ?_⟩
          rw [List.mem_singleton.mp hc] at q
          obtain ⟨_, _, z⟩ := alp.mem ha
          exact ne_of_none z.2.2 pn q
      · rintro H12 ⟨e12, ps, hD12, alp, ndp⟩
        rw [List.length_map, tl, List.take_length] at alp
        refine ⟨H11, rb, lb, D, ps, hs, rows ++ [Row.sweep m], ess, rfl, e12, ⟨as2, e10 has2, alr.mono fun _ _ z => e10 z⟩, re, hD12, alp.mono fun _ _ z => z.2.2, fun hm => ?_, ndp, hD, fun a ha => ?_, LO, rok5, len5, k⟩
        · obtain ⟨_, _, z⟩ := alp.mem hm
          exact z.2.1 rfl
        · obtain ⟨_, _, z⟩ := alp.mem ha
          exact z.1
end
end G

/-! What the head asks. -/
namespace G
open PySem PySem.Spec PyProof.Rows L2
theorem law_out {P : Program} {w : World} {K : PySem.W.Frag} {mg : Str → Option Value} {h : Heap} (C : CtxG K mg) (KX : K.In h) :
    ∃ (K2 : PySem.W.Frag) (fd : FuncData) (sp : Sp), K2.In h ∧ (∀ (s : Shared) (u : Value), BindsTo s fd ⟨[u], []⟩ [("_law_script", u)]) ∧
      (∀ (H : Hp) (a : Addr) (ns : List Int), ns.length ≤ 63 → Only H → SqL K2 H a (ns.map V.int) → sp [.ref a] H (fun v _ => v = .bl true) fun _ _ _ => False) ∧
      ∀ base : Heap, K2.In base → base.Ns mainGlobals mg → FnOk P w K2 mg base CX0 10 (He.fAd K d_law.at_) fd ["_law_script"] sp := by
  obtain ⟨fd, F⟩ := C.T.f_law
  have b := FunD.bindsA (ps := ["_law_script"]) F fun _ _ _ _ _ _ us hl => match us, hl with | [_], _ => rfl
  exact ⟨K, fd, spLaw K, KX, fun s v => b s [v] rfl, fun H a ns hl _ hS => ⟨a, ns, rfl, hS, hl, fun _ => rfl⟩, fun base _ _ => ok_law C F⟩
end G
open PySem PySem.W PySem.Calls PyProof.Rows
theorem PySem.Challenge.cw_greywalk_k45_whole_given_back_holds : PySem.Challenge.rw_greywalk_k45_whole_given_back.Holds := by
  w_on; o_law
  refine HandSHeadRun.head_any (r := G.R) (q := view G.R.prog [88]) (H := G.hk) (ob := G.ob) (M := 8000) (loose := G.loose) (d := HandSHeadRun.topDef G.R.prog 88) (kwd := [])
    G.ob_eq (by kernel_rfl) (fun s => by kernel_rfl) G.run (by kernel_rfl) (by kernel_rfl) (by kernel_rfl) (by rfl) (by first | assumption | decide +kernel) (by decide +kernel)
    ⟨rfl, rfl, rfl, rfl, rfl, by decide +kernel⟩ ?hw ?hc
  case hw => w_witness2
  case hc =>
    refine L2.walk_ofE (l := PySem.Challenge.rw_greywalk_k45_whole_given_back) (n := 63) (k := 10) (x := "_law_script") (CX := L2.CX0) rfl (by decide) (by kernel_rfl) ⟨rfl, by decide, by decide⟩ ?F (fun _ _ _ _ z => z)
    intro w mg fa h Y Ns hmg0
    obtain ⟨K, KX, T⟩ := Y
    have C : G.CtxG K mg := ⟨T, h, KX, Ns⟩
    have hmg : mg ("law" : PySem.Str) = some (.ref fa) := by
      have e : (HandSHeadRun.topDef G.R.prog 88).name = ("law" : PySem.Str) := by kernel_rfl
      rw [← e]
      exact hmg0
    have e := hmg.symm.trans C.g_law
    cases e
    exact G.law_out C KX
