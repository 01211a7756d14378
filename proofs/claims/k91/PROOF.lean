import PyProof.Rows.All
import Wide.All
import OpenK.AllK
import Wide.FinOn
import HandS.ForMost
import HandS.ForExc
import HandS.Defaults
import HandS.ExcIs
import HandS.HeadHook1
import HandS.HeadHook2
import PySem.Challenge.RW_ownroom_k91_whole_counts_of_pages
import HandS.SetFor
import HandS.Conv
import HandS.DictTup
import HandS.ExcCtx
import PyProof.DictMoreH
import HandS.Walk
import HandS.More
import HandS.SortInts
import HandS.IsInst
import HandS.HotCalls
import KE.KStateDown
import Lean
import HandS.Head0
import HandS.Head1
import HandS.Head2
import HandS.HeadEnd
set_option Elab.async false
set_option linter.all false
set_option maxRecDepth 100000
set_option maxHeartbeats 0

namespace K9
open PySem PySem.Spec PyProof.Rows L2

-- part K9T
def top (i : Nat) : Stmt := PySem.Challenge.pw_ownroom_k91_whole_counts_of_pages.main.body.getD i (.Pass ⟨0, 0, 0, 0⟩)
abbrev st_Store_init : Stmt := inClass (top 10) 0
abbrev st_Store_take : Stmt := inClass (top 10) 1
abbrev st_Store_look_taken : Stmt := inClass (top 10) 2
abbrev st_Store_more : Stmt := inClass (top 10) 3
abbrev st_Store_less : Stmt := inClass (top 10) 4
abbrev st_Store_count : Stmt := inClass (top 10) 5
abbrev st_Store_cells : Stmt := inClass (top 10) 6
abbrev st_Store_put : Stmt := inClass (top 10) 7
abbrev st_Store_free : Stmt := inClass (top 10) 8
abbrev st_Paging_init : Stmt := inClass (top 13) 0
abbrev st_Paging_entry : Stmt := inClass (top 13) 1
abbrev st_Paging_lay : Stmt := inClass (top 13) 2
abbrev st_Paging_share : Stmt := inClass (top 13) 3
abbrev st_Paging_leave : Stmt := inClass (top 13) 4
abbrev st_Paging_lifted : Stmt := inClass (top 13) 5
abbrev st_Paging_settle : Stmt := inClass (top 13) 6
abbrev st_Paging_put_out : Stmt := inClass (top 13) 7
abbrev st_Paging_frame_taken : Stmt := inClass (top 13) 8
abbrev st_Paging_fetch : Stmt := inClass (top 13) 9
abbrev st_Paging_part : Stmt := inClass (top 13) 10
abbrev st_Paging_cells : Stmt := inClass (top 13) 11
abbrev st_Paging_put : Stmt := inClass (top 13) 12
abbrev st_Paging_counts : Stmt := inClass (top 13) 13
abbrev st_Table_init : Stmt := inClass (top 16) 0
abbrev st_Table_get : Stmt := inClass (top 16) 1
abbrev st_Table_lay : Stmt := inClass (top 16) 2
abbrev st_Table_clear : Stmt := inClass (top 16) 3
abbrev st_Table_pages : Stmt := inClass (top 16) 4
abbrev st_pages_asked : Stmt := top 19
abbrev st_stretches_of : Stmt := top 20
abbrev st_Rooms_init : Stmt := inClass (top 21) 0
abbrev st_Rooms_begin : Stmt := inClass (top 21) 1
abbrev st_Rooms_table_of : Stmt := inClass (top 21) 2
abbrev st_Rooms_close : Stmt := inClass (top 21) 3
abbrev st_Rooms_held : Stmt := inClass (top 21) 4
abbrev st_Rooms_ask_room : Stmt := inClass (top 21) 5
abbrev st_Rooms_map : Stmt := inClass (top 21) 6
abbrev st_Rooms_look_mapped : Stmt := inClass (top 21) 7
abbrev st_Rooms_drop : Stmt := inClass (top 21) 8
abbrev st_Rooms_stretches : Stmt := inClass (top 21) 9
abbrev st_Rooms_peek : Stmt := inClass (top 21) 10
abbrev st_Rooms_poke : Stmt := inClass (top 21) 11
abbrev st_Rooms_copy : Stmt := inClass (top 21) 12
abbrev st_Rooms_place : Stmt := inClass (top 21) 13
abbrev st_Rooms_counts : Stmt := inClass (top 21) 14
abbrev st_law_number : Stmt := top 23
abbrev st_law_tasks : Stmt := top 24
abbrev st_law_page : Stmt := top 25
abbrev st_law_many : Stmt := top 26
abbrev st_law_address : Stmt := top 27
abbrev st_law_cells : Stmt := top 28
abbrev st_law_deed : Stmt := top 29
abbrev st_law_do : Stmt := top 30
abbrev st_law_word : Stmt := top 31
abbrev st_law_told : Stmt := top 32
abbrev st_law_sizes : Stmt := top 33
abbrev st_law_mapped : Stmt := top 34
abbrev st_law_spot : Stmt := top 35
abbrev st_law_places : Stmt := top 36
abbrev st_law_standing : Stmt := top 37
abbrev st_law_owners : Stmt := top 38
abbrev st_law_counted : Stmt := top 39
abbrev st_law_put_out : Stmt := top 40
abbrev st_law_met : Stmt := top 41
abbrev st_law_out : Stmt := top 42
abbrev st_law_closed : Stmt := top 43
abbrev st_law : Stmt := top 44
theorem sc_Store_init : FnScope ["self", "many", "page"] ["self", "many"] (defScope st_Store_init) := ⟨rfl, rfl, rfl, by decide +kernel, rfl, by decide +kernel, by decide +kernel⟩
theorem sc_Store_take : FnScope ["self", "page"] ["self"] (defScope st_Store_take) := ⟨rfl, rfl, rfl, by decide +kernel, rfl, by decide +kernel, by decide +kernel⟩
theorem sc_Store_look_taken : FnScope ["self", "page"] ["self", "page"] (defScope st_Store_look_taken) := ⟨rfl, rfl, rfl, by decide +kernel, rfl, by decide +kernel, by decide +kernel⟩
theorem sc_Store_more : FnScope ["self", "page"] ["self", "page"] (defScope st_Store_more) := ⟨rfl, rfl, rfl, by decide +kernel, rfl, by decide +kernel, by decide +kernel⟩
theorem sc_Store_less : FnScope ["self", "page"] ["self", "page"] (defScope st_Store_less) := ⟨rfl, rfl, rfl, by decide +kernel, rfl, by decide +kernel, by decide +kernel⟩
theorem sc_Store_count : FnScope ["self", "page"] ["self", "page"] (defScope st_Store_count) := ⟨rfl, rfl, rfl, by decide +kernel, rfl, by decide +kernel, by decide +kernel⟩
theorem sc_Store_cells : FnScope ["self", "page"] ["self", "page"] (defScope st_Store_cells) := ⟨rfl, rfl, rfl, by decide +kernel, rfl, by decide +kernel, by decide +kernel⟩
theorem sc_Store_put : FnScope ["self", "page", "cells"] ["self", "page", "cells"] (defScope st_Store_put) := ⟨rfl, rfl, rfl, by decide +kernel, rfl, by decide +kernel, by decide +kernel⟩
theorem sc_Store_free : FnScope ["self"] ["self"] (defScope st_Store_free) := ⟨rfl, rfl, rfl, by decide +kernel, rfl, by decide +kernel, by decide +kernel⟩
theorem sc_Paging_init : FnScope ["self", "frames", "slots"] ["self", "frames", "slots"] (defScope st_Paging_init) := ⟨rfl, rfl, rfl, by decide +kernel, rfl, by decide +kernel, by decide +kernel⟩
theorem sc_Paging_entry : FnScope ["self", "owner", "task", "page"] ["self", "owner"] (defScope st_Paging_entry) := ⟨rfl, rfl, rfl, by decide +kernel, rfl, by decide +kernel, by decide +kernel⟩
theorem sc_Paging_lay : FnScope ["self", "owner", "entry", "task", "page"] ["self", "owner", "entry"] (defScope st_Paging_lay) := ⟨rfl, rfl, rfl, by decide +kernel, rfl, by decide +kernel, by decide +kernel⟩
theorem sc_Paging_share : FnScope ["self", "owner", "entry"] ["self", "owner", "entry"] (defScope st_Paging_share) := ⟨rfl, rfl, rfl, by decide +kernel, rfl, by decide +kernel, by decide +kernel⟩
theorem sc_Paging_leave : FnScope ["self", "owner", "entry"] ["self", "owner"] (defScope st_Paging_leave) := ⟨rfl, rfl, rfl, by decide +kernel, rfl, by decide +kernel, by decide +kernel⟩
theorem sc_Paging_lifted : FnScope ["self", "entry", "store", "cells", "owners", "owner"] ["self", "entry"] (defScope st_Paging_lifted) := ⟨rfl, rfl, rfl, by decide +kernel, rfl, by decide +kernel, by decide +kernel⟩
theorem sc_Paging_settle : FnScope ["self", "entry", "cells", "owners", "store", "owner"] ["self", "entry", "cells", "owners"] (defScope st_Paging_settle) := ⟨rfl, rfl, rfl, by decide +kernel, rfl, by decide +kernel, by decide +kernel⟩
theorem sc_Paging_put_out : FnScope ["self", "cells", "owners"] ["self"] (defScope st_Paging_put_out) := ⟨rfl, rfl, rfl, by decide +kernel, rfl, by decide +kernel, by decide +kernel⟩
theorem sc_Paging_frame_taken : FnScope ["self"] ["self"] (defScope st_Paging_frame_taken) := ⟨rfl, rfl, rfl, by decide +kernel, rfl, by decide +kernel, by decide +kernel⟩
theorem sc_Paging_fetch : FnScope ["self", "owner", "entry", "cells", "owners"] ["self", "owner"] (defScope st_Paging_fetch) := ⟨rfl, rfl, rfl, by decide +kernel, rfl, by decide +kernel, by decide +kernel⟩
theorem sc_Paging_part : FnScope ["self", "owner", "entry", "cells"] ["self", "owner"] (defScope st_Paging_part) := ⟨rfl, rfl, rfl, by decide +kernel, rfl, by decide +kernel, by decide +kernel⟩
theorem sc_Paging_cells : FnScope ["self", "owner", "entry"] ["self", "owner"] (defScope st_Paging_cells) := ⟨rfl, rfl, rfl, by decide +kernel, rfl, by decide +kernel, by decide +kernel⟩
theorem sc_Paging_put : FnScope ["self", "owner", "cells", "entry"] ["self", "owner", "cells"] (defScope st_Paging_put) := ⟨rfl, rfl, rfl, by decide +kernel, rfl, by decide +kernel, by decide +kernel⟩
theorem sc_Paging_counts : FnScope ["self", "kind", "many", "n"] ["self", "kind", "many"] (defScope st_Paging_counts) := ⟨rfl, rfl, rfl, by decide +kernel, rfl, by decide +kernel, by decide +kernel⟩
theorem sc_Table_init : FnScope ["self"] ["self"] (defScope st_Table_init) := ⟨rfl, rfl, rfl, by decide +kernel, rfl, by decide +kernel, by decide +kernel⟩
theorem sc_Table_get : FnScope ["self", "page", "second"] ["self", "page"] (defScope st_Table_get) := ⟨rfl, rfl, rfl, by decide +kernel, rfl, by decide +kernel, by decide +kernel⟩
theorem sc_Table_lay : FnScope ["self", "page", "entry"] ["self", "page", "entry"] (defScope st_Table_lay) := ⟨rfl, rfl, rfl, by decide +kernel, rfl, by decide +kernel, by decide +kernel⟩
theorem sc_Table_clear : FnScope ["self", "page", "second"] ["self", "page"] (defScope st_Table_clear) := ⟨rfl, rfl, rfl, by decide +kernel, rfl, by decide +kernel, by decide +kernel⟩
theorem sc_Table_pages : FnScope ["self", "found", "first", "second"] ["self"] (defScope st_Table_pages) := ⟨rfl, rfl, rfl, by decide +kernel, rfl, by decide +kernel, by decide +kernel⟩
theorem sc_pages_asked : FnScope ["page", "many"] ["page", "many"] (defScope st_pages_asked) := ⟨rfl, rfl, rfl, by decide +kernel, rfl, by decide +kernel, by decide +kernel⟩
theorem sc_stretches_of : FnScope ["address", "many", "found", "at", "end"] ["address", "many"] (defScope st_stretches_of) := ⟨rfl, rfl, rfl, by decide +kernel, rfl, by decide +kernel, by decide +kernel⟩
theorem sc_Rooms_init : FnScope ["self", "frames", "slots"] ["self", "frames", "slots"] (defScope st_Rooms_init) := ⟨rfl, rfl, rfl, by decide +kernel, rfl, by decide +kernel, by decide +kernel⟩
theorem sc_Rooms_begin : FnScope ["self", "task"] ["self", "task"] (defScope st_Rooms_begin) := ⟨rfl, rfl, rfl, by decide +kernel, rfl, by decide +kernel, by decide +kernel⟩
theorem sc_Rooms_table_of : FnScope ["self", "task"] ["self", "task"] (defScope st_Rooms_table_of) := ⟨rfl, rfl, rfl, by decide +kernel, rfl, by decide +kernel, by decide +kernel⟩
theorem sc_Rooms_close : FnScope ["self", "task", "page"] ["self", "task"] (defScope st_Rooms_close) := ⟨rfl, rfl, rfl, by decide +kernel, rfl, by decide +kernel, by decide +kernel⟩
theorem sc_Rooms_held : FnScope ["self", "table"] ["self"] (defScope st_Rooms_held) := ⟨rfl, rfl, rfl, by decide +kernel, rfl, by decide +kernel, by decide +kernel⟩
theorem sc_Rooms_ask_room : FnScope ["self", "many"] ["self", "many"] (defScope st_Rooms_ask_room) := ⟨rfl, rfl, rfl, by decide +kernel, rfl, by decide +kernel, by decide +kernel⟩
theorem sc_Rooms_map : FnScope ["self", "task", "page", "many", "table", "asked", "one"] ["self", "task", "page", "many"] (defScope st_Rooms_map) := ⟨rfl, rfl, rfl, by decide +kernel, rfl, by decide +kernel, by decide +kernel⟩
theorem sc_Rooms_look_mapped : FnScope ["self", "table", "pages", "one"] ["self", "table", "pages"] (defScope st_Rooms_look_mapped) := ⟨rfl, rfl, rfl, by decide +kernel, rfl, by decide +kernel, by decide +kernel⟩
theorem sc_Rooms_drop : FnScope ["self", "task", "page", "many", "table", "asked", "one"] ["self", "task", "page", "many"] (defScope st_Rooms_drop) := ⟨rfl, rfl, rfl, by decide +kernel, rfl, by decide +kernel, by decide +kernel⟩
theorem sc_Rooms_stretches : FnScope ["self", "task", "address", "many", "table", "found", "page", "low", "high"] ["self", "task", "address", "many"] (defScope st_Rooms_stretches) := ⟨rfl, rfl, rfl, by decide +kernel, rfl, by decide +kernel, by decide +kernel⟩
theorem sc_Rooms_peek : FnScope ["self", "task", "address", "many", "cells", "page", "low", "high"] ["self", "task", "address", "many"] (defScope st_Rooms_peek) := ⟨rfl, rfl, rfl, by decide +kernel, rfl, by decide +kernel, by decide +kernel⟩
theorem sc_Rooms_poke : FnScope ["self", "task", "address", "cells", "left", "page", "low", "high", "owner", "kept"] ["self", "task", "address", "cells"] (defScope st_Rooms_poke) := ⟨rfl, rfl, rfl, by decide +kernel, rfl, by decide +kernel, by decide +kernel⟩
theorem sc_Rooms_copy : FnScope ["self", "task", "other", "table", "page"] ["self", "task", "other"] (defScope st_Rooms_copy) := ⟨rfl, rfl, rfl, by decide +kernel, rfl, by decide +kernel, by decide +kernel⟩
theorem sc_Rooms_place : FnScope ["self", "task", "page"] ["self", "task", "page"] (defScope st_Rooms_place) := ⟨rfl, rfl, rfl, by decide +kernel, rfl, by decide +kernel, by decide +kernel⟩
theorem sc_Rooms_counts : FnScope ["self", "frames"] ["self"] (defScope st_Rooms_counts) := ⟨rfl, rfl, rfl, by decide +kernel, rfl, by decide +kernel, by decide +kernel⟩
theorem sc_law_number : FnScope ["_law_cell", "_law_k", "_law_digits", "_law_once"] ["_law_cell", "_law_k", "_law_digits"] (defScope st_law_number) := ⟨rfl, rfl, rfl, by decide +kernel, rfl, by decide +kernel, by decide +kernel⟩
theorem sc_law_tasks : FnScope ["_law_cell"] ["_law_cell"] (defScope st_law_tasks) := ⟨rfl, rfl, rfl, by decide +kernel, rfl, by decide +kernel, by decide +kernel⟩
theorem sc_law_page : FnScope ["_law_rest"] ["_law_rest"] (defScope st_law_page) := ⟨rfl, rfl, rfl, by decide +kernel, rfl, by decide +kernel, by decide +kernel⟩
theorem sc_law_many : FnScope ["_law_rest"] ["_law_rest"] (defScope st_law_many) := ⟨rfl, rfl, rfl, by decide +kernel, rfl, by decide +kernel, by decide +kernel⟩
theorem sc_law_address : FnScope ["_law_rest"] ["_law_rest"] (defScope st_law_address) := ⟨rfl, rfl, rfl, by decide +kernel, rfl, by decide +kernel, by decide +kernel⟩
theorem sc_law_cells : FnScope ["_law_rest", "_law_many_here", "_law_k"] ["_law_rest"] (defScope st_law_cells) := ⟨rfl, rfl, rfl, by decide +kernel, rfl, by decide +kernel, by decide +kernel⟩
theorem sc_law_deed : FnScope ["_law_number_here", "_law_tasks_here", "_law_kind", "_law_task", "_law_rest", "_law_many_here"] ["_law_number_here", "_law_tasks_here"] (defScope st_law_deed) := ⟨rfl, rfl, rfl, by decide +kernel, rfl, by decide +kernel, by decide +kernel⟩
theorem sc_law_do : FnScope ["_law_rooms", "_law_deed_here"] ["_law_rooms", "_law_deed_here"] (defScope st_law_do) := ⟨rfl, rfl, rfl, by decide +kernel, rfl, by decide +kernel, by decide +kernel⟩
theorem sc_law_word : FnScope ["_law_caught", "_law_kinds", "_law_words", "_law_kind", "_law_k"] ["_law_caught"] (defScope st_law_word) := ⟨rfl, rfl, rfl, by decide +kernel, rfl, by decide +kernel, by decide +kernel⟩
theorem sc_law_told : FnScope ["_law_rooms", "_law_deed_here", "_law_told_here", "_law_word_here", "e"] ["_law_rooms", "_law_deed_here"] (defScope st_law_told) := ⟨rfl, rfl, rfl, by decide +kernel, rfl, by decide +kernel, by decide +kernel⟩
theorem sc_law_sizes : FnScope ["_law_first", "_law_frames", "_law_slots"] ["_law_first"] (defScope st_law_sizes) := ⟨rfl, rfl, rfl, by decide +kernel, rfl, by decide +kernel, by decide +kernel⟩
theorem sc_law_mapped : FnScope ["_law_pages", "_law_deed_here", "_law_k", "_law_page_here", "_law_at"] ["_law_pages", "_law_deed_here", "_law_k"] (defScope st_law_mapped) := ⟨rfl, rfl, rfl, by decide +kernel, rfl, by decide +kernel, by decide +kernel⟩
theorem sc_law_spot : FnScope ["_law_spot_here", "_law_frames", "_law_slots"] ["_law_spot_here", "_law_frames", "_law_slots"] (defScope st_law_spot) := ⟨rfl, rfl, rfl, by decide +kernel, rfl, by decide +kernel, by decide +kernel⟩
theorem sc_law_places : FnScope ["_law_rooms", "_law_pages", "_law_found", "_law_task", "_law_page_here"] ["_law_rooms", "_law_pages"] (defScope st_law_places) := ⟨rfl, rfl, rfl, by decide +kernel, rfl, by decide +kernel, by decide +kernel⟩
theorem sc_law_standing : FnScope ["_law_places_here", "_law_frames", "_law_slots", "_law_by_poke", "_law_by_spot", "_law_task", "_law_page_here", "_law_poke", "_law_spot_here"] ["_law_places_here", "_law_frames", "_law_slots"] (defScope st_law_standing) := ⟨rfl, rfl, rfl, by decide +kernel, rfl, by decide +kernel, by decide +kernel⟩
theorem sc_law_owners : FnScope ["_law_places_here", "_law_frames", "_law_slots", "_law_owners_here", "_law_task", "_law_page_here", "_law_poke", "_law_spot_here"] ["_law_places_here", "_law_frames", "_law_slots"] (defScope st_law_owners) := ⟨rfl, rfl, rfl, by decide +kernel, rfl, by decide +kernel, by decide +kernel⟩
theorem sc_law_counted : FnScope ["_law_rooms", "_law_places_here", "_law_frames", "_law_slots", "_law_owners_here", "_law_found"] ["_law_rooms", "_law_places_here", "_law_frames", "_law_slots"] (defScope st_law_counted) := ⟨rfl, rfl, rfl, by decide +kernel, rfl, by decide +kernel, by decide +kernel⟩
theorem sc_law_put_out : FnScope ["_law_before", "_law_places_here", "_law_owners_here", "_law_ahead", "_law_task", "_law_page_here", "_law_poke", "_law_spot_here"] ["_law_before", "_law_places_here", "_law_owners_here"] (defScope st_law_put_out) := ⟨rfl, rfl, rfl, by decide +kernel, rfl, by decide +kernel, by decide +kernel⟩
theorem sc_law_met : FnScope ["_law_rooms", "_law_deed_here", "_law_many_here"] ["_law_rooms", "_law_deed_here"] (defScope st_law_met) := ⟨rfl, rfl, rfl, by decide +kernel, rfl, by decide +kernel, by decide +kernel⟩
theorem sc_law_out : FnScope ["_law_rooms", "_law_pages", "_law_task", "_law_page_here"] ["_law_rooms", "_law_pages"] (defScope st_law_out) := ⟨rfl, rfl, rfl, by decide +kernel, rfl, by decide +kernel, by decide +kernel⟩
theorem sc_law_closed : FnScope ["_law_rooms", "_law_pages", "_law_cell", "_law_task", "_law_page_here", "_law_left"] ["_law_rooms", "_law_pages", "_law_cell"] (defScope st_law_closed) := ⟨rfl, rfl, rfl, by decide +kernel, rfl, by decide +kernel, by decide +kernel⟩
theorem sc_law : FnScope ["_law_script", "_law_first", "_law_tasks_here", "_law_frames", "_law_slots", "_law_rooms", "_law_pages", "_law_k", "_law_before", "_law_cell", "_law_deed_here", "_law_told_here", "_law_word_here", "_law_places_here"] ["_law_script"] (defScope st_law) := ⟨rfl, rfl, rfl, by decide +kernel, rfl, by decide +kernel, by decide +kernel⟩
def d_Store_init : He.DefD := ⟨("Store", some "__init__"), "__init__", "Store.__init__", defArgs st_Store_init, defBody st_Store_init, defScope st_Store_init, [], []⟩
def d_Store_take : He.DefD := ⟨("Store", some "take"), "take", "Store.take", defArgs st_Store_take, defBody st_Store_take, defScope st_Store_take, [], []⟩
def d_Store_look_taken : He.DefD := ⟨("Store", some "look_taken"), "look_taken", "Store.look_taken", defArgs st_Store_look_taken, defBody st_Store_look_taken, defScope st_Store_look_taken, [], []⟩
def d_Store_more : He.DefD := ⟨("Store", some "more"), "more", "Store.more", defArgs st_Store_more, defBody st_Store_more, defScope st_Store_more, [], []⟩
def d_Store_less : He.DefD := ⟨("Store", some "less"), "less", "Store.less", defArgs st_Store_less, defBody st_Store_less, defScope st_Store_less, [], []⟩
def d_Store_count : He.DefD := ⟨("Store", some "count"), "count", "Store.count", defArgs st_Store_count, defBody st_Store_count, defScope st_Store_count, [], []⟩
def d_Store_cells : He.DefD := ⟨("Store", some "cells"), "cells", "Store.cells", defArgs st_Store_cells, defBody st_Store_cells, defScope st_Store_cells, [], []⟩
def d_Store_put : He.DefD := ⟨("Store", some "put"), "put", "Store.put", defArgs st_Store_put, defBody st_Store_put, defScope st_Store_put, [], []⟩
def d_Store_free : He.DefD := ⟨("Store", some "free"), "free", "Store.free", defArgs st_Store_free, defBody st_Store_free, defScope st_Store_free, [], []⟩
def d_Paging_init : He.DefD := ⟨("Paging", some "__init__"), "__init__", "Paging.__init__", defArgs st_Paging_init, defBody st_Paging_init, defScope st_Paging_init, [], []⟩
def d_Paging_entry : He.DefD := ⟨("Paging", some "entry"), "entry", "Paging.entry", defArgs st_Paging_entry, defBody st_Paging_entry, defScope st_Paging_entry, [], []⟩
def d_Paging_lay : He.DefD := ⟨("Paging", some "lay"), "lay", "Paging.lay", defArgs st_Paging_lay, defBody st_Paging_lay, defScope st_Paging_lay, [], []⟩
def d_Paging_share : He.DefD := ⟨("Paging", some "share"), "share", "Paging.share", defArgs st_Paging_share, defBody st_Paging_share, defScope st_Paging_share, [], []⟩
def d_Paging_leave : He.DefD := ⟨("Paging", some "leave"), "leave", "Paging.leave", defArgs st_Paging_leave, defBody st_Paging_leave, defScope st_Paging_leave, [], []⟩
def d_Paging_lifted : He.DefD := ⟨("Paging", some "lifted"), "lifted", "Paging.lifted", defArgs st_Paging_lifted, defBody st_Paging_lifted, defScope st_Paging_lifted, [], []⟩
def d_Paging_settle : He.DefD := ⟨("Paging", some "settle"), "settle", "Paging.settle", defArgs st_Paging_settle, defBody st_Paging_settle, defScope st_Paging_settle, [], []⟩
def d_Paging_put_out : He.DefD := ⟨("Paging", some "put_out"), "put_out", "Paging.put_out", defArgs st_Paging_put_out, defBody st_Paging_put_out, defScope st_Paging_put_out, [], []⟩
def d_Paging_frame_taken : He.DefD := ⟨("Paging", some "frame_taken"), "frame_taken", "Paging.frame_taken", defArgs st_Paging_frame_taken, defBody st_Paging_frame_taken, defScope st_Paging_frame_taken, [], []⟩
def d_Paging_fetch : He.DefD := ⟨("Paging", some "fetch"), "fetch", "Paging.fetch", defArgs st_Paging_fetch, defBody st_Paging_fetch, defScope st_Paging_fetch, [], []⟩
def d_Paging_part : He.DefD := ⟨("Paging", some "part"), "part", "Paging.part", defArgs st_Paging_part, defBody st_Paging_part, defScope st_Paging_part, [], []⟩
def d_Paging_cells : He.DefD := ⟨("Paging", some "cells"), "cells", "Paging.cells", defArgs st_Paging_cells, defBody st_Paging_cells, defScope st_Paging_cells, [], []⟩
def d_Paging_put : He.DefD := ⟨("Paging", some "put"), "put", "Paging.put", defArgs st_Paging_put, defBody st_Paging_put, defScope st_Paging_put, [], []⟩
def d_Paging_counts : He.DefD := ⟨("Paging", some "counts"), "counts", "Paging.counts", defArgs st_Paging_counts, defBody st_Paging_counts, defScope st_Paging_counts, [], []⟩
def d_Table_init : He.DefD := ⟨("Table", some "__init__"), "__init__", "Table.__init__", defArgs st_Table_init, defBody st_Table_init, defScope st_Table_init, [], []⟩
def d_Table_get : He.DefD := ⟨("Table", some "get"), "get", "Table.get", defArgs st_Table_get, defBody st_Table_get, defScope st_Table_get, [], []⟩
def d_Table_lay : He.DefD := ⟨("Table", some "lay"), "lay", "Table.lay", defArgs st_Table_lay, defBody st_Table_lay, defScope st_Table_lay, [], []⟩
def d_Table_clear : He.DefD := ⟨("Table", some "clear"), "clear", "Table.clear", defArgs st_Table_clear, defBody st_Table_clear, defScope st_Table_clear, [], []⟩
def d_Table_pages : He.DefD := ⟨("Table", some "pages"), "pages", "Table.pages", defArgs st_Table_pages, defBody st_Table_pages, defScope st_Table_pages, [], []⟩
def d_pages_asked : He.DefD := ⟨("pages_asked", none), "pages_asked", "pages_asked", defArgs st_pages_asked, defBody st_pages_asked, defScope st_pages_asked, [], []⟩
def d_stretches_of : He.DefD := ⟨("stretches_of", none), "stretches_of", "stretches_of", defArgs st_stretches_of, defBody st_stretches_of, defScope st_stretches_of, [], []⟩
def d_Rooms_init : He.DefD := ⟨("Rooms", some "__init__"), "__init__", "Rooms.__init__", defArgs st_Rooms_init, defBody st_Rooms_init, defScope st_Rooms_init, [], []⟩
def d_Rooms_begin : He.DefD := ⟨("Rooms", some "begin"), "begin", "Rooms.begin", defArgs st_Rooms_begin, defBody st_Rooms_begin, defScope st_Rooms_begin, [], []⟩
def d_Rooms_table_of : He.DefD := ⟨("Rooms", some "table_of"), "table_of", "Rooms.table_of", defArgs st_Rooms_table_of, defBody st_Rooms_table_of, defScope st_Rooms_table_of, [], []⟩
def d_Rooms_close : He.DefD := ⟨("Rooms", some "close"), "close", "Rooms.close", defArgs st_Rooms_close, defBody st_Rooms_close, defScope st_Rooms_close, [], []⟩
def d_Rooms_held : He.DefD := ⟨("Rooms", some "held"), "held", "Rooms.held", defArgs st_Rooms_held, defBody st_Rooms_held, defScope st_Rooms_held, [], []⟩
def d_Rooms_ask_room : He.DefD := ⟨("Rooms", some "ask_room"), "ask_room", "Rooms.ask_room", defArgs st_Rooms_ask_room, defBody st_Rooms_ask_room, defScope st_Rooms_ask_room, [], []⟩
def d_Rooms_map : He.DefD := ⟨("Rooms", some "map"), "map", "Rooms.map", defArgs st_Rooms_map, defBody st_Rooms_map, defScope st_Rooms_map, [], []⟩
def d_Rooms_look_mapped : He.DefD := ⟨("Rooms", some "look_mapped"), "look_mapped", "Rooms.look_mapped", defArgs st_Rooms_look_mapped, defBody st_Rooms_look_mapped, defScope st_Rooms_look_mapped, [], []⟩
def d_Rooms_drop : He.DefD := ⟨("Rooms", some "drop"), "drop", "Rooms.drop", defArgs st_Rooms_drop, defBody st_Rooms_drop, defScope st_Rooms_drop, [], []⟩
def d_Rooms_stretches : He.DefD := ⟨("Rooms", some "stretches"), "stretches", "Rooms.stretches", defArgs st_Rooms_stretches, defBody st_Rooms_stretches, defScope st_Rooms_stretches, [], []⟩
def d_Rooms_peek : He.DefD := ⟨("Rooms", some "peek"), "peek", "Rooms.peek", defArgs st_Rooms_peek, defBody st_Rooms_peek, defScope st_Rooms_peek, [], []⟩
def d_Rooms_poke : He.DefD := ⟨("Rooms", some "poke"), "poke", "Rooms.poke", defArgs st_Rooms_poke, defBody st_Rooms_poke, defScope st_Rooms_poke, [], []⟩
def d_Rooms_copy : He.DefD := ⟨("Rooms", some "copy"), "copy", "Rooms.copy", defArgs st_Rooms_copy, defBody st_Rooms_copy, defScope st_Rooms_copy, [], []⟩
def d_Rooms_place : He.DefD := ⟨("Rooms", some "place"), "place", "Rooms.place", defArgs st_Rooms_place, defBody st_Rooms_place, defScope st_Rooms_place, [], []⟩
def d_Rooms_counts : He.DefD := ⟨("Rooms", some "counts"), "counts", "Rooms.counts", defArgs st_Rooms_counts, defBody st_Rooms_counts, defScope st_Rooms_counts, [], []⟩
def d_law_number : He.DefD := ⟨("_law_number", none), "_law_number", "_law_number", defArgs st_law_number, defBody st_law_number, defScope st_law_number, [], []⟩
def d_law_tasks : He.DefD := ⟨("_law_tasks", none), "_law_tasks", "_law_tasks", defArgs st_law_tasks, defBody st_law_tasks, defScope st_law_tasks, [], []⟩
def d_law_page : He.DefD := ⟨("_law_page", none), "_law_page", "_law_page", defArgs st_law_page, defBody st_law_page, defScope st_law_page, [], []⟩
def d_law_many : He.DefD := ⟨("_law_many", none), "_law_many", "_law_many", defArgs st_law_many, defBody st_law_many, defScope st_law_many, [], []⟩
def d_law_address : He.DefD := ⟨("_law_address", none), "_law_address", "_law_address", defArgs st_law_address, defBody st_law_address, defScope st_law_address, [], []⟩
def d_law_cells : He.DefD := ⟨("_law_cells", none), "_law_cells", "_law_cells", defArgs st_law_cells, defBody st_law_cells, defScope st_law_cells, [], []⟩
def d_law_deed : He.DefD := ⟨("_law_deed", none), "_law_deed", "_law_deed", defArgs st_law_deed, defBody st_law_deed, defScope st_law_deed, [], []⟩
def d_law_do : He.DefD := ⟨("_law_do", none), "_law_do", "_law_do", defArgs st_law_do, defBody st_law_do, defScope st_law_do, [], []⟩
def d_law_word : He.DefD := ⟨("_law_word", none), "_law_word", "_law_word", defArgs st_law_word, defBody st_law_word, defScope st_law_word, [], []⟩
def d_law_told : He.DefD := ⟨("_law_told", none), "_law_told", "_law_told", defArgs st_law_told, defBody st_law_told, defScope st_law_told, [], []⟩
def d_law_sizes : He.DefD := ⟨("_law_sizes", none), "_law_sizes", "_law_sizes", defArgs st_law_sizes, defBody st_law_sizes, defScope st_law_sizes, [], []⟩
def d_law_mapped : He.DefD := ⟨("_law_mapped", none), "_law_mapped", "_law_mapped", defArgs st_law_mapped, defBody st_law_mapped, defScope st_law_mapped, [], []⟩
def d_law_spot : He.DefD := ⟨("_law_spot", none), "_law_spot", "_law_spot", defArgs st_law_spot, defBody st_law_spot, defScope st_law_spot, [], []⟩
def d_law_places : He.DefD := ⟨("_law_places", none), "_law_places", "_law_places", defArgs st_law_places, defBody st_law_places, defScope st_law_places, [], []⟩
def d_law_standing : He.DefD := ⟨("_law_standing", none), "_law_standing", "_law_standing", defArgs st_law_standing, defBody st_law_standing, defScope st_law_standing, [], []⟩
def d_law_owners : He.DefD := ⟨("_law_owners", none), "_law_owners", "_law_owners", defArgs st_law_owners, defBody st_law_owners, defScope st_law_owners, [], []⟩
def d_law_counted : He.DefD := ⟨("_law_counted", none), "_law_counted", "_law_counted", defArgs st_law_counted, defBody st_law_counted, defScope st_law_counted, [], []⟩
def d_law_put_out : He.DefD := ⟨("_law_put_out", none), "_law_put_out", "_law_put_out", defArgs st_law_put_out, defBody st_law_put_out, defScope st_law_put_out, [], []⟩
def d_law_met : He.DefD := ⟨("_law_met", none), "_law_met", "_law_met", defArgs st_law_met, defBody st_law_met, defScope st_law_met, [], []⟩
def d_law_out : He.DefD := ⟨("_law_out", none), "_law_out", "_law_out", defArgs st_law_out, defBody st_law_out, defScope st_law_out, [], []⟩
def d_law_closed : He.DefD := ⟨("_law_closed", none), "_law_closed", "_law_closed", defArgs st_law_closed, defBody st_law_closed, defScope st_law_closed, [], []⟩
def d_law : He.DefD := ⟨("law", none), "law", "law", defArgs st_law, defBody st_law, defScope st_law, [], []⟩
def fn : List He.DefD := [d_Store_init, d_Store_take, d_Store_look_taken, d_Store_more, d_Store_less, d_Store_count, d_Store_cells, d_Store_put, d_Store_free, d_Paging_init, d_Paging_entry, d_Paging_lay, d_Paging_share, d_Paging_leave, d_Paging_lifted, d_Paging_settle, d_Paging_put_out, d_Paging_frame_taken, d_Paging_fetch, d_Paging_part, d_Paging_cells, d_Paging_put, d_Paging_counts, d_Table_init, d_Table_get, d_Table_lay, d_Table_clear, d_Table_pages, d_pages_asked, d_stretches_of, d_Rooms_init, d_Rooms_begin, d_Rooms_table_of, d_Rooms_close, d_Rooms_held, d_Rooms_ask_room, d_Rooms_map, d_Rooms_look_mapped, d_Rooms_drop, d_Rooms_stretches, d_Rooms_peek, d_Rooms_poke, d_Rooms_copy, d_Rooms_place, d_Rooms_counts, d_law_number, d_law_tasks, d_law_page, d_law_many, d_law_address, d_law_cells, d_law_deed, d_law_do, d_law_word, d_law_told, d_law_sizes, d_law_mapped, d_law_spot, d_law_places, d_law_standing, d_law_owners, d_law_counted, d_law_put_out, d_law_met, d_law_out, d_law_closed, d_law]
def fa : List He.Fa := [.glo "Store", .glo "Paging", .glo "Table", .glo "Rooms", .glo "NoTask", .glo "NoPage", .glo "NoRoom", .glo "Taken", .glo "KernelError", .glo "NoOwner", .glo "pages_asked", .glo "stretches_of", .glo "_law_number", .glo "_law_tasks", .glo "_law_page", .glo "_law_many", .glo "_law_address", .glo "_law_cells", .glo "_law_deed", .glo "_law_do", .glo "_law_word", .glo "_law_told", .glo "_law_sizes", .glo "_law_mapped", .glo "_law_spot", .glo "_law_places", .glo "_law_standing", .glo "_law_owners", .glo "_law_counted", .glo "_law_put_out", .glo "_law_met", .glo "_law_out", .glo "_law_closed", .glo "law", .glo "BLANK", .free "range", .free "len", .free "list", .free "sorted", .free "sum", .free "any", .free "min", .free "isinstance", .free "dict", .free "enumerate", .free "tuple", .free "int", .free "bool", .free "ValueError", .int "PAGE_SIZE" 8, .int "STEP" 8, .int "PAGES" 64, .cls "Store", .mkr "Store", .cls "Paging", .mkr "Paging", .cls "Table", .mkr "Table", .cls "Rooms", .mkr "Rooms", .noat "Store" "owners", .noat "Store" "contents", .noat "Paging" "stores", .noat "Paging" "frames", .noat "Paging" "slots", .noat "Paging" "tables", .noat "Paging" "owners", .noat "Paging" "hand", .noat "Table" "firsts", .noat "Rooms" "paging", .meth "Store" "take", .meth "Store" "look_taken", .meth "Store" "more", .meth "Store" "less", .meth "Store" "count", .meth "Store" "cells", .meth "Store" "put", .meth "Store" "free", .meth "Paging" "entry", .meth "Paging" "lay", .meth "Paging" "share", .meth "Paging" "leave", .meth "Paging" "lifted", .meth "Paging" "settle", .meth "Paging" "put_out", .meth "Paging" "frame_taken", .meth "Paging" "fetch", .meth "Paging" "part", .meth "Paging" "cells", .meth "Paging" "put", .meth "Paging" "counts", .meth "Table" "get", .meth "Table" "lay", .meth "Table" "clear", .meth "Table" "pages", .meth "Rooms" "begin", .meth "Rooms" "table_of", .meth "Rooms" "close", .meth "Rooms" "held", .meth "Rooms" "ask_room", .meth "Rooms" "map", .meth "Rooms" "look_mapped", .meth "Rooms" "drop", .meth "Rooms" "stretches", .meth "Rooms" "peek", .meth "Rooms" "poke", .meth "Rooms" "copy", .meth "Rooms" "place", .meth "Rooms" "counts", .exc "NoTask", .exm "NoTask" "KernelError" true, .exc "NoPage", .exm "NoPage" "KernelError" true, .exc "NoRoom", .exm "NoRoom" "KernelError" true, .exc "Taken", .exm "Taken" "KernelError" true]
/-- what isinstance asks of an error's class -/
def excB (K : PySem.W.Frag) (D : Addr) : Bool :=
  decide (PySem.W.findIn K (.ref D) "__getattribute__" = some (some (.builtin "BaseException.__getattribute__"))) && (decide (PySem.W.findIn K (.ref D) "__getattr__" = some none) &&
  (decide (PySem.W.subIn K (.ref D) (.type "BaseException") = some true) && (PySem.W.hasDictIn K D && (decide (PySem.W.findIn K (.ref D) "__class__" = some (some (.builtin "object.__class__"))) &&
  (decide (PySem.W.specialIn K (.builtin "object.__class__") "__get__" = some (some (.builtin "getset_descriptor.__get__"))) && (decide (PySem.W.takesIn K (.builtin "object.__class__") = some true) &&
  decide (PySem.W.mroIn K D (.type "object") = some true)))))))
theorem excB_ok {K : PySem.W.Frag} {D : Addr} (h : excB K D = true) : ExcC K D := by
  unfold excB at h
  obtain ⟨h1, h⟩ := He.ba h
  obtain ⟨h2, h⟩ := He.ba h
  obtain ⟨h3, h⟩ := He.ba h
  obtain ⟨h4, h⟩ := He.ba h
  obtain ⟨h5, h⟩ := He.ba h
  obtain ⟨h6, h⟩ := He.ba h
  obtain ⟨h7, h8⟩ := He.ba h
  exact ⟨of_decide_eq_true h1, of_decide_eq_true h2, of_decide_eq_true h3, h4, of_decide_eq_true h5, of_decide_eq_true h6, of_decide_eq_true h7, of_decide_eq_true h8⟩
def excN : List Str := ["NoTask", "NoPage", "NoRoom", "Taken"]
def kitB (K : PySem.W.Frag) (x y : Str) : Bool := decide (PySem.W.kitOne K (.ref (He.ga K x)) (.ref (He.ga K y)) = some (decide (x = y)))
def kitV (K : PySem.W.Frag) (x : Str) : Bool := decide (PySem.W.kitOne K (.ref (He.ga K x)) (.type "ValueError") = some true)
def extra (K : PySem.W.Frag) : Bool := He.tupB K "BLANK" [.str "blank"] && (excN.all (fun x => excB K (He.ga K x) && (kitV K x && excN.all fun y => kitB K x y)))
def seen (K : PySem.W.Frag) : Bool × List He.FnW := (((fa.all fun z => z.ok K) && fn.all fun d => d.ok K) && extra K, fn.map fun d => He.fnW K d.at_)
def wanted : Bool × List He.FnW := (true, fn.map He.DefD.val)
/-- what the top has written -/
structure Tx (K : PySem.W.Frag) (mg : Str → Option Value) : Prop where
  says : seen K = wanted
  names : ∃ h : Heap, K.In h ∧ h.Ns mainGlobals mg
section
variable {K : PySem.W.Frag} {mg : Str → Option Value}
theorem Tx.both (T : Tx K mg) : ((fa.all fun z => z.ok K) && fn.all fun d => d.ok K) = true ∧ extra K = true := He.ba (congrArg (fun z : Bool × List He.FnW => z.1) T.says)
theorem Tx.fact (T : Tx K mg) (i : Nat) {z : He.Fa} (h : fa[i]? = some z := by rfl) : z.ok K = true := List.all_eq_true.mp (He.ba T.both.1).1 z (List.mem_of_getElem? h)
theorem Tx.def_ (T : Tx K mg) (i : Nat) {d : He.DefD} (h : fn[i]? = some d := by rfl) : ∃ fd, FunD K d.name d.qual d.params d.body d.scope (d.dvs K) (d.kws K) (He.fAd K d.at_) fd := by
  have e : fn.map (fun d => He.fnW K d.at_) = fn.map He.DefD.val := congrArg (fun z : Bool × List He.FnW => z.2) T.says
  have e2 : (fn.map fun d => He.fnW K d.at_)[i]? = (fn.map He.DefD.val)[i]? := by rw [e]
  rw [List.getElem?_map, List.getElem?_map, h] at e2
  exact He.DefD.funD (Option.some.inj e2) (List.all_eq_true.mp (He.ba T.both.1).2 d (List.mem_of_getElem? h))
theorem Tx.blank (T : Tx K mg) (H : Hp) : SqT K H (He.ga K "BLANK") [.str "blank"] := He.tupB_ok (He.ba T.both.2).1 H
theorem Tx.excOf (T : Tx K mg) {x : Str} (h : x ∈ excN) : ExcC K (He.ga K x) ∧ PySem.W.kitOne K (.ref (He.ga K x)) (.type "ValueError") = some true ∧ ∀ y, y ∈ excN → PySem.W.kitOne K (.ref (He.ga K x)) (.ref (He.ga K y)) = some (decide (x = y)) := by
  have q := List.all_eq_true.mp (He.ba T.both.2).2 x h
  obtain ⟨q1, q2⟩ := He.ba q
  obtain ⟨q2, q3⟩ := He.ba q2
  exact ⟨excB_ok q1, of_decide_eq_true q2, fun y hy => of_decide_eq_true (List.all_eq_true.mp q3 y hy)⟩
theorem Tx.g_Store (T : Tx K mg) : mg "Store" = some (.ref (He.ga K "Store")) := by
  obtain ⟨h, X, G⟩ := T.names
  exact He.glo_ok X G (T.fact 0)
theorem Tx.g_Paging (T : Tx K mg) : mg "Paging" = some (.ref (He.ga K "Paging")) := by
  obtain ⟨h, X, G⟩ := T.names
  exact He.glo_ok X G (T.fact 1)
theorem Tx.g_Table (T : Tx K mg) : mg "Table" = some (.ref (He.ga K "Table")) := by
  obtain ⟨h, X, G⟩ := T.names
  exact He.glo_ok X G (T.fact 2)
theorem Tx.g_Rooms (T : Tx K mg) : mg "Rooms" = some (.ref (He.ga K "Rooms")) := by
  obtain ⟨h, X, G⟩ := T.names
  exact He.glo_ok X G (T.fact 3)
theorem Tx.g_NoTask (T : Tx K mg) : mg "NoTask" = some (.ref (He.ga K "NoTask")) := by
  obtain ⟨h, X, G⟩ := T.names
  exact He.glo_ok X G (T.fact 4)
theorem Tx.g_NoPage (T : Tx K mg) : mg "NoPage" = some (.ref (He.ga K "NoPage")) := by
  obtain ⟨h, X, G⟩ := T.names
  exact He.glo_ok X G (T.fact 5)
theorem Tx.g_NoRoom (T : Tx K mg) : mg "NoRoom" = some (.ref (He.ga K "NoRoom")) := by
  obtain ⟨h, X, G⟩ := T.names
  exact He.glo_ok X G (T.fact 6)
theorem Tx.g_Taken (T : Tx K mg) : mg "Taken" = some (.ref (He.ga K "Taken")) := by
  obtain ⟨h, X, G⟩ := T.names
  exact He.glo_ok X G (T.fact 7)
theorem Tx.g_KernelError (T : Tx K mg) : mg "KernelError" = some (.ref (He.ga K "KernelError")) := by
  obtain ⟨h, X, G⟩ := T.names
  exact He.glo_ok X G (T.fact 8)
theorem Tx.g_NoOwner (T : Tx K mg) : mg "NoOwner" = some (.ref (He.ga K "NoOwner")) := by
  obtain ⟨h, X, G⟩ := T.names
  exact He.glo_ok X G (T.fact 9)
theorem Tx.g_pages_asked (T : Tx K mg) : mg "pages_asked" = some (.ref (He.ga K "pages_asked")) := by
  obtain ⟨h, X, G⟩ := T.names
  exact He.glo_ok X G (T.fact 10)
theorem Tx.g_stretches_of (T : Tx K mg) : mg "stretches_of" = some (.ref (He.ga K "stretches_of")) := by
  obtain ⟨h, X, G⟩ := T.names
  exact He.glo_ok X G (T.fact 11)
theorem Tx.g_law_number (T : Tx K mg) : mg "_law_number" = some (.ref (He.ga K "_law_number")) := by
  obtain ⟨h, X, G⟩ := T.names
  exact He.glo_ok X G (T.fact 12)
theorem Tx.g_law_tasks (T : Tx K mg) : mg "_law_tasks" = some (.ref (He.ga K "_law_tasks")) := by
  obtain ⟨h, X, G⟩ := T.names
  exact He.glo_ok X G (T.fact 13)
theorem Tx.g_law_page (T : Tx K mg) : mg "_law_page" = some (.ref (He.ga K "_law_page")) := by
  obtain ⟨h, X, G⟩ := T.names
  exact He.glo_ok X G (T.fact 14)
theorem Tx.g_law_many (T : Tx K mg) : mg "_law_many" = some (.ref (He.ga K "_law_many")) := by
  obtain ⟨h, X, G⟩ := T.names
  exact He.glo_ok X G (T.fact 15)
theorem Tx.g_law_address (T : Tx K mg) : mg "_law_address" = some (.ref (He.ga K "_law_address")) := by
  obtain ⟨h, X, G⟩ := T.names
  exact He.glo_ok X G (T.fact 16)
theorem Tx.g_law_cells (T : Tx K mg) : mg "_law_cells" = some (.ref (He.ga K "_law_cells")) := by
  obtain ⟨h, X, G⟩ := T.names
  exact He.glo_ok X G (T.fact 17)
theorem Tx.g_law_deed (T : Tx K mg) : mg "_law_deed" = some (.ref (He.ga K "_law_deed")) := by
  obtain ⟨h, X, G⟩ := T.names
  exact He.glo_ok X G (T.fact 18)
theorem Tx.g_law_do (T : Tx K mg) : mg "_law_do" = some (.ref (He.ga K "_law_do")) := by
  obtain ⟨h, X, G⟩ := T.names
  exact He.glo_ok X G (T.fact 19)
theorem Tx.g_law_word (T : Tx K mg) : mg "_law_word" = some (.ref (He.ga K "_law_word")) := by
  obtain ⟨h, X, G⟩ := T.names
  exact He.glo_ok X G (T.fact 20)
theorem Tx.g_law_told (T : Tx K mg) : mg "_law_told" = some (.ref (He.ga K "_law_told")) := by
  obtain ⟨h, X, G⟩ := T.names
  exact He.glo_ok X G (T.fact 21)
theorem Tx.g_law_sizes (T : Tx K mg) : mg "_law_sizes" = some (.ref (He.ga K "_law_sizes")) := by
  obtain ⟨h, X, G⟩ := T.names
  exact He.glo_ok X G (T.fact 22)
theorem Tx.g_law_mapped (T : Tx K mg) : mg "_law_mapped" = some (.ref (He.ga K "_law_mapped")) := by
  obtain ⟨h, X, G⟩ := T.names
  exact He.glo_ok X G (T.fact 23)
theorem Tx.g_law_spot (T : Tx K mg) : mg "_law_spot" = some (.ref (He.ga K "_law_spot")) := by
  obtain ⟨h, X, G⟩ := T.names
  exact He.glo_ok X G (T.fact 24)
theorem Tx.g_law_places (T : Tx K mg) : mg "_law_places" = some (.ref (He.ga K "_law_places")) := by
  obtain ⟨h, X, G⟩ := T.names
  exact He.glo_ok X G (T.fact 25)
theorem Tx.g_law_standing (T : Tx K mg) : mg "_law_standing" = some (.ref (He.ga K "_law_standing")) := by
  obtain ⟨h, X, G⟩ := T.names
  exact He.glo_ok X G (T.fact 26)
theorem Tx.g_law_owners (T : Tx K mg) : mg "_law_owners" = some (.ref (He.ga K "_law_owners")) := by
  obtain ⟨h, X, G⟩ := T.names
  exact He.glo_ok X G (T.fact 27)
theorem Tx.g_law_counted (T : Tx K mg) : mg "_law_counted" = some (.ref (He.ga K "_law_counted")) := by
  obtain ⟨h, X, G⟩ := T.names
  exact He.glo_ok X G (T.fact 28)
theorem Tx.g_law_put_out (T : Tx K mg) : mg "_law_put_out" = some (.ref (He.ga K "_law_put_out")) := by
  obtain ⟨h, X, G⟩ := T.names
  exact He.glo_ok X G (T.fact 29)
theorem Tx.g_law_met (T : Tx K mg) : mg "_law_met" = some (.ref (He.ga K "_law_met")) := by
  obtain ⟨h, X, G⟩ := T.names
  exact He.glo_ok X G (T.fact 30)
theorem Tx.g_law_out (T : Tx K mg) : mg "_law_out" = some (.ref (He.ga K "_law_out")) := by
  obtain ⟨h, X, G⟩ := T.names
  exact He.glo_ok X G (T.fact 31)
theorem Tx.g_law_closed (T : Tx K mg) : mg "_law_closed" = some (.ref (He.ga K "_law_closed")) := by
  obtain ⟨h, X, G⟩ := T.names
  exact He.glo_ok X G (T.fact 32)
theorem Tx.g_law (T : Tx K mg) : mg "law" = some (.ref (He.ga K "law")) := by
  obtain ⟨h, X, G⟩ := T.names
  exact He.glo_ok X G (T.fact 33)
theorem Tx.g_BLANK (T : Tx K mg) : mg "BLANK" = some (.ref (He.ga K "BLANK")) := by
  obtain ⟨h, X, G⟩ := T.names
  exact He.glo_ok X G (T.fact 34)
theorem Tx.n_range (T : Tx K mg) : mg "range" = none := by
  obtain ⟨h, X, G⟩ := T.names
  exact He.free_ok X G (T.fact 35)
theorem Tx.n_len (T : Tx K mg) : mg "len" = none := by
  obtain ⟨h, X, G⟩ := T.names
  exact He.free_ok X G (T.fact 36)
theorem Tx.n_list (T : Tx K mg) : mg "list" = none := by
  obtain ⟨h, X, G⟩ := T.names
  exact He.free_ok X G (T.fact 37)
theorem Tx.n_sorted (T : Tx K mg) : mg "sorted" = none := by
  obtain ⟨h, X, G⟩ := T.names
  exact He.free_ok X G (T.fact 38)
theorem Tx.n_sum (T : Tx K mg) : mg "sum" = none := by
  obtain ⟨h, X, G⟩ := T.names
  exact He.free_ok X G (T.fact 39)
theorem Tx.n_any (T : Tx K mg) : mg "any" = none := by
  obtain ⟨h, X, G⟩ := T.names
  exact He.free_ok X G (T.fact 40)
theorem Tx.n_min (T : Tx K mg) : mg "min" = none := by
  obtain ⟨h, X, G⟩ := T.names
  exact He.free_ok X G (T.fact 41)
theorem Tx.n_isinstance (T : Tx K mg) : mg "isinstance" = none := by
  obtain ⟨h, X, G⟩ := T.names
  exact He.free_ok X G (T.fact 42)
theorem Tx.n_dict (T : Tx K mg) : mg "dict" = none := by
  obtain ⟨h, X, G⟩ := T.names
  exact He.free_ok X G (T.fact 43)
theorem Tx.n_enumerate (T : Tx K mg) : mg "enumerate" = none := by
  obtain ⟨h, X, G⟩ := T.names
  exact He.free_ok X G (T.fact 44)
theorem Tx.n_tuple (T : Tx K mg) : mg "tuple" = none := by
  obtain ⟨h, X, G⟩ := T.names
  exact He.free_ok X G (T.fact 45)
theorem Tx.n_int (T : Tx K mg) : mg "int" = none := by
  obtain ⟨h, X, G⟩ := T.names
  exact He.free_ok X G (T.fact 46)
theorem Tx.n_bool (T : Tx K mg) : mg "bool" = none := by
  obtain ⟨h, X, G⟩ := T.names
  exact He.free_ok X G (T.fact 47)
theorem Tx.n_ValueError (T : Tx K mg) : mg "ValueError" = none := by
  obtain ⟨h, X, G⟩ := T.names
  exact He.free_ok X G (T.fact 48)
theorem Tx.i_PAGE_SIZE (T : Tx K mg) : ∃ t, mg "PAGE_SIZE" = some (.int 8 t) := by
  obtain ⟨h, X, G⟩ := T.names
  exact He.int_ok X G (T.fact 49)
theorem Tx.i_STEP (T : Tx K mg) : ∃ t, mg "STEP" = some (.int 8 t) := by
  obtain ⟨h, X, G⟩ := T.names
  exact He.int_ok X G (T.fact 50)
theorem Tx.i_PAGES (T : Tx K mg) : ∃ t, mg "PAGES" = some (.int 64 t) := by
  obtain ⟨h, X, G⟩ := T.names
  exact He.int_ok X G (T.fact 51)
theorem Tx.c_Store (T : Tx K mg) : Cls K (He.ga K "Store") := He.cls_ok (T.fact 52)
theorem Tx.k_Store (T : Tx K mg) : Mk K (He.ga K "Store") (He.fAd K ("Store", some "__init__")) := He.mkr_ok (T.fact 53)
theorem Tx.c_Paging (T : Tx K mg) : Cls K (He.ga K "Paging") := He.cls_ok (T.fact 54)
theorem Tx.k_Paging (T : Tx K mg) : Mk K (He.ga K "Paging") (He.fAd K ("Paging", some "__init__")) := He.mkr_ok (T.fact 55)
theorem Tx.c_Table (T : Tx K mg) : Cls K (He.ga K "Table") := He.cls_ok (T.fact 56)
theorem Tx.k_Table (T : Tx K mg) : Mk K (He.ga K "Table") (He.fAd K ("Table", some "__init__")) := He.mkr_ok (T.fact 57)
theorem Tx.c_Rooms (T : Tx K mg) : Cls K (He.ga K "Rooms") := He.cls_ok (T.fact 58)
theorem Tx.k_Rooms (T : Tx K mg) : Mk K (He.ga K "Rooms") (He.fAd K ("Rooms", some "__init__")) := He.mkr_ok (T.fact 59)
theorem Tx.a_Store_owners (T : Tx K mg) : NoAttr K (He.ga K "Store") "owners" := He.noat_ok (T.fact 60)
theorem Tx.a_Store_contents (T : Tx K mg) : NoAttr K (He.ga K "Store") "contents" := He.noat_ok (T.fact 61)
theorem Tx.a_Paging_stores (T : Tx K mg) : NoAttr K (He.ga K "Paging") "stores" := He.noat_ok (T.fact 62)
theorem Tx.a_Paging_frames (T : Tx K mg) : NoAttr K (He.ga K "Paging") "frames" := He.noat_ok (T.fact 63)
theorem Tx.a_Paging_slots (T : Tx K mg) : NoAttr K (He.ga K "Paging") "slots" := He.noat_ok (T.fact 64)
theorem Tx.a_Paging_tables (T : Tx K mg) : NoAttr K (He.ga K "Paging") "tables" := He.noat_ok (T.fact 65)
theorem Tx.a_Paging_owners (T : Tx K mg) : NoAttr K (He.ga K "Paging") "owners" := He.noat_ok (T.fact 66)
theorem Tx.a_Paging_hand (T : Tx K mg) : NoAttr K (He.ga K "Paging") "hand" := He.noat_ok (T.fact 67)
theorem Tx.a_Table_firsts (T : Tx K mg) : NoAttr K (He.ga K "Table") "firsts" := He.noat_ok (T.fact 68)
theorem Tx.a_Rooms_paging (T : Tx K mg) : NoAttr K (He.ga K "Rooms") "paging" := He.noat_ok (T.fact 69)
theorem Tx.m_Store_take (T : Tx K mg) : Meth K (He.ga K "Store") "take" (He.fAd K ("Store", some "take")) := He.meth_ok (T.fact 70)
theorem Tx.m_Store_look_taken (T : Tx K mg) : Meth K (He.ga K "Store") "look_taken" (He.fAd K ("Store", some "look_taken")) := He.meth_ok (T.fact 71)
theorem Tx.m_Store_more (T : Tx K mg) : Meth K (He.ga K "Store") "more" (He.fAd K ("Store", some "more")) := He.meth_ok (T.fact 72)
theorem Tx.m_Store_less (T : Tx K mg) : Meth K (He.ga K "Store") "less" (He.fAd K ("Store", some "less")) := He.meth_ok (T.fact 73)
theorem Tx.m_Store_count (T : Tx K mg) : Meth K (He.ga K "Store") "count" (He.fAd K ("Store", some "count")) := He.meth_ok (T.fact 74)
theorem Tx.m_Store_cells (T : Tx K mg) : Meth K (He.ga K "Store") "cells" (He.fAd K ("Store", some "cells")) := He.meth_ok (T.fact 75)
theorem Tx.m_Store_put (T : Tx K mg) : Meth K (He.ga K "Store") "put" (He.fAd K ("Store", some "put")) := He.meth_ok (T.fact 76)
theorem Tx.m_Store_free (T : Tx K mg) : Meth K (He.ga K "Store") "free" (He.fAd K ("Store", some "free")) := He.meth_ok (T.fact 77)
theorem Tx.m_Paging_entry (T : Tx K mg) : Meth K (He.ga K "Paging") "entry" (He.fAd K ("Paging", some "entry")) := He.meth_ok (T.fact 78)
theorem Tx.m_Paging_lay (T : Tx K mg) : Meth K (He.ga K "Paging") "lay" (He.fAd K ("Paging", some "lay")) := He.meth_ok (T.fact 79)
theorem Tx.m_Paging_share (T : Tx K mg) : Meth K (He.ga K "Paging") "share" (He.fAd K ("Paging", some "share")) := He.meth_ok (T.fact 80)
theorem Tx.m_Paging_leave (T : Tx K mg) : Meth K (He.ga K "Paging") "leave" (He.fAd K ("Paging", some "leave")) := He.meth_ok (T.fact 81)
theorem Tx.m_Paging_lifted (T : Tx K mg) : Meth K (He.ga K "Paging") "lifted" (He.fAd K ("Paging", some "lifted")) := He.meth_ok (T.fact 82)
theorem Tx.m_Paging_settle (T : Tx K mg) : Meth K (He.ga K "Paging") "settle" (He.fAd K ("Paging", some "settle")) := He.meth_ok (T.fact 83)
theorem Tx.m_Paging_put_out (T : Tx K mg) : Meth K (He.ga K "Paging") "put_out" (He.fAd K ("Paging", some "put_out")) := He.meth_ok (T.fact 84)
theorem Tx.m_Paging_frame_taken (T : Tx K mg) : Meth K (He.ga K "Paging") "frame_taken" (He.fAd K ("Paging", some "frame_taken")) := He.meth_ok (T.fact 85)
theorem Tx.m_Paging_fetch (T : Tx K mg) : Meth K (He.ga K "Paging") "fetch" (He.fAd K ("Paging", some "fetch")) := He.meth_ok (T.fact 86)
theorem Tx.m_Paging_part (T : Tx K mg) : Meth K (He.ga K "Paging") "part" (He.fAd K ("Paging", some "part")) := He.meth_ok (T.fact 87)
theorem Tx.m_Paging_cells (T : Tx K mg) : Meth K (He.ga K "Paging") "cells" (He.fAd K ("Paging", some "cells")) := He.meth_ok (T.fact 88)
theorem Tx.m_Paging_put (T : Tx K mg) : Meth K (He.ga K "Paging") "put" (He.fAd K ("Paging", some "put")) := He.meth_ok (T.fact 89)
theorem Tx.m_Paging_counts (T : Tx K mg) : Meth K (He.ga K "Paging") "counts" (He.fAd K ("Paging", some "counts")) := He.meth_ok (T.fact 90)
theorem Tx.m_Table_get (T : Tx K mg) : Meth K (He.ga K "Table") "get" (He.fAd K ("Table", some "get")) := He.meth_ok (T.fact 91)
theorem Tx.m_Table_lay (T : Tx K mg) : Meth K (He.ga K "Table") "lay" (He.fAd K ("Table", some "lay")) := He.meth_ok (T.fact 92)
theorem Tx.m_Table_clear (T : Tx K mg) : Meth K (He.ga K "Table") "clear" (He.fAd K ("Table", some "clear")) := He.meth_ok (T.fact 93)
theorem Tx.m_Table_pages (T : Tx K mg) : Meth K (He.ga K "Table") "pages" (He.fAd K ("Table", some "pages")) := He.meth_ok (T.fact 94)
theorem Tx.m_Rooms_begin (T : Tx K mg) : Meth K (He.ga K "Rooms") "begin" (He.fAd K ("Rooms", some "begin")) := He.meth_ok (T.fact 95)
theorem Tx.m_Rooms_table_of (T : Tx K mg) : Meth K (He.ga K "Rooms") "table_of" (He.fAd K ("Rooms", some "table_of")) := He.meth_ok (T.fact 96)
theorem Tx.m_Rooms_close (T : Tx K mg) : Meth K (He.ga K "Rooms") "close" (He.fAd K ("Rooms", some "close")) := He.meth_ok (T.fact 97)
theorem Tx.m_Rooms_held (T : Tx K mg) : Meth K (He.ga K "Rooms") "held" (He.fAd K ("Rooms", some "held")) := He.meth_ok (T.fact 98)
theorem Tx.m_Rooms_ask_room (T : Tx K mg) : Meth K (He.ga K "Rooms") "ask_room" (He.fAd K ("Rooms", some "ask_room")) := He.meth_ok (T.fact 99)
theorem Tx.m_Rooms_map (T : Tx K mg) : Meth K (He.ga K "Rooms") "map" (He.fAd K ("Rooms", some "map")) := He.meth_ok (T.fact 100)
theorem Tx.m_Rooms_look_mapped (T : Tx K mg) : Meth K (He.ga K "Rooms") "look_mapped" (He.fAd K ("Rooms", some "look_mapped")) := He.meth_ok (T.fact 101)
theorem Tx.m_Rooms_drop (T : Tx K mg) : Meth K (He.ga K "Rooms") "drop" (He.fAd K ("Rooms", some "drop")) := He.meth_ok (T.fact 102)
theorem Tx.m_Rooms_stretches (T : Tx K mg) : Meth K (He.ga K "Rooms") "stretches" (He.fAd K ("Rooms", some "stretches")) := He.meth_ok (T.fact 103)
theorem Tx.m_Rooms_peek (T : Tx K mg) : Meth K (He.ga K "Rooms") "peek" (He.fAd K ("Rooms", some "peek")) := He.meth_ok (T.fact 104)
theorem Tx.m_Rooms_poke (T : Tx K mg) : Meth K (He.ga K "Rooms") "poke" (He.fAd K ("Rooms", some "poke")) := He.meth_ok (T.fact 105)
theorem Tx.m_Rooms_copy (T : Tx K mg) : Meth K (He.ga K "Rooms") "copy" (He.fAd K ("Rooms", some "copy")) := He.meth_ok (T.fact 106)
theorem Tx.m_Rooms_place (T : Tx K mg) : Meth K (He.ga K "Rooms") "place" (He.fAd K ("Rooms", some "place")) := He.meth_ok (T.fact 107)
theorem Tx.m_Rooms_counts (T : Tx K mg) : Meth K (He.ga K "Rooms") "counts" (He.fAd K ("Rooms", some "counts")) := He.meth_ok (T.fact 108)
theorem Tx.e_NoTask (T : Tx K mg) : PySem.W.excIn K (He.ga K "NoTask") He.veBase "ValueError.__new__" = true ∧ PySem.W.keepIn K (.ref (He.ga K "NoTask")) = true ∧ PySem.W.subIn K (.ref (He.ga K "NoTask")) (.type "BaseException") = some true ∧ PySem.W.typeIn K (.ref (He.ga K "NoTask")) = some (.type "type") := He.exc_ok (T.fact 109)
theorem Tx.x_NoTask (T : Tx K mg) : PySem.W.exmOne K (.ref (He.ga K "NoTask")) (.ref (He.ga K "KernelError")) = some true := He.exm_ok (T.fact 110)
theorem Tx.e_NoPage (T : Tx K mg) : PySem.W.excIn K (He.ga K "NoPage") He.veBase "ValueError.__new__" = true ∧ PySem.W.keepIn K (.ref (He.ga K "NoPage")) = true ∧ PySem.W.subIn K (.ref (He.ga K "NoPage")) (.type "BaseException") = some true ∧ PySem.W.typeIn K (.ref (He.ga K "NoPage")) = some (.type "type") := He.exc_ok (T.fact 111)
theorem Tx.x_NoPage (T : Tx K mg) : PySem.W.exmOne K (.ref (He.ga K "NoPage")) (.ref (He.ga K "KernelError")) = some true := He.exm_ok (T.fact 112)
theorem Tx.e_NoRoom (T : Tx K mg) : PySem.W.excIn K (He.ga K "NoRoom") He.veBase "ValueError.__new__" = true ∧ PySem.W.keepIn K (.ref (He.ga K "NoRoom")) = true ∧ PySem.W.subIn K (.ref (He.ga K "NoRoom")) (.type "BaseException") = some true ∧ PySem.W.typeIn K (.ref (He.ga K "NoRoom")) = some (.type "type") := He.exc_ok (T.fact 113)
theorem Tx.x_NoRoom (T : Tx K mg) : PySem.W.exmOne K (.ref (He.ga K "NoRoom")) (.ref (He.ga K "KernelError")) = some true := He.exm_ok (T.fact 114)
theorem Tx.e_Taken (T : Tx K mg) : PySem.W.excIn K (He.ga K "Taken") He.veBase "ValueError.__new__" = true ∧ PySem.W.keepIn K (.ref (He.ga K "Taken")) = true ∧ PySem.W.subIn K (.ref (He.ga K "Taken")) (.type "BaseException") = some true ∧ PySem.W.typeIn K (.ref (He.ga K "Taken")) = some (.type "type") := He.exc_ok (T.fact 115)
theorem Tx.x_Taken (T : Tx K mg) : PySem.W.exmOne K (.ref (He.ga K "Taken")) (.ref (He.ga K "KernelError")) = some true := He.exm_ok (T.fact 116)
theorem Tx.f_Store_init (T : Tx K mg) : ∃ fd, FunD K "__init__" "Store.__init__" (defArgs st_Store_init) (defBody st_Store_init) (defScope st_Store_init) [] [] (He.fAd K ("Store", some "__init__")) fd ∧ Binds K fd ["self", "many"] [] := by
  obtain ⟨fd, F⟩ := T.def_ 0 (d := d_Store_init)
  exact ⟨fd, F, FunD.bindsN F fun _ _ _ _ _ _ us hl => match us, hl with | [_, _], _ => rfl⟩
theorem Tx.f_Store_take (T : Tx K mg) : ∃ fd, FunD K "take" "Store.take" (defArgs st_Store_take) (defBody st_Store_take) (defScope st_Store_take) [] [] (He.fAd K ("Store", some "take")) fd ∧ Binds K fd ["self"] [] := by
  obtain ⟨fd, F⟩ := T.def_ 1 (d := d_Store_take)
  exact ⟨fd, F, FunD.bindsN F fun _ _ _ _ _ _ us hl => match us, hl with | [_], _ => rfl⟩
theorem Tx.f_Store_look_taken (T : Tx K mg) : ∃ fd, FunD K "look_taken" "Store.look_taken" (defArgs st_Store_look_taken) (defBody st_Store_look_taken) (defScope st_Store_look_taken) [] [] (He.fAd K ("Store", some "look_taken")) fd ∧ Binds K fd ["self", "page"] [] := by
  obtain ⟨fd, F⟩ := T.def_ 2 (d := d_Store_look_taken)
  exact ⟨fd, F, FunD.bindsN F fun _ _ _ _ _ _ us hl => match us, hl with | [_, _], _ => rfl⟩
theorem Tx.f_Store_more (T : Tx K mg) : ∃ fd, FunD K "more" "Store.more" (defArgs st_Store_more) (defBody st_Store_more) (defScope st_Store_more) [] [] (He.fAd K ("Store", some "more")) fd ∧ Binds K fd ["self", "page"] [] := by
  obtain ⟨fd, F⟩ := T.def_ 3 (d := d_Store_more)
  exact ⟨fd, F, FunD.bindsN F fun _ _ _ _ _ _ us hl => match us, hl with | [_, _], _ => rfl⟩
theorem Tx.f_Store_less (T : Tx K mg) : ∃ fd, FunD K "less" "Store.less" (defArgs st_Store_less) (defBody st_Store_less) (defScope st_Store_less) [] [] (He.fAd K ("Store", some "less")) fd ∧ Binds K fd ["self", "page"] [] := by
  obtain ⟨fd, F⟩ := T.def_ 4 (d := d_Store_less)
  exact ⟨fd, F, FunD.bindsN F fun _ _ _ _ _ _ us hl => match us, hl with | [_, _], _ => rfl⟩
theorem Tx.f_Store_count (T : Tx K mg) : ∃ fd, FunD K "count" "Store.count" (defArgs st_Store_count) (defBody st_Store_count) (defScope st_Store_count) [] [] (He.fAd K ("Store", some "count")) fd ∧ Binds K fd ["self", "page"] [] := by
  obtain ⟨fd, F⟩ := T.def_ 5 (d := d_Store_count)
  exact ⟨fd, F, FunD.bindsN F fun _ _ _ _ _ _ us hl => match us, hl with | [_, _], _ => rfl⟩
theorem Tx.f_Store_cells (T : Tx K mg) : ∃ fd, FunD K "cells" "Store.cells" (defArgs st_Store_cells) (defBody st_Store_cells) (defScope st_Store_cells) [] [] (He.fAd K ("Store", some "cells")) fd ∧ Binds K fd ["self", "page"] [] := by
  obtain ⟨fd, F⟩ := T.def_ 6 (d := d_Store_cells)
  exact ⟨fd, F, FunD.bindsN F fun _ _ _ _ _ _ us hl => match us, hl with | [_, _], _ => rfl⟩
theorem Tx.f_Store_put (T : Tx K mg) : ∃ fd, FunD K "put" "Store.put" (defArgs st_Store_put) (defBody st_Store_put) (defScope st_Store_put) [] [] (He.fAd K ("Store", some "put")) fd ∧ Binds K fd ["self", "page", "cells"] [] := by
  obtain ⟨fd, F⟩ := T.def_ 7 (d := d_Store_put)
  exact ⟨fd, F, FunD.bindsN F fun _ _ _ _ _ _ us hl => match us, hl with | [_, _, _], _ => rfl⟩
theorem Tx.f_Store_free (T : Tx K mg) : ∃ fd, FunD K "free" "Store.free" (defArgs st_Store_free) (defBody st_Store_free) (defScope st_Store_free) [] [] (He.fAd K ("Store", some "free")) fd ∧ Binds K fd ["self"] [] := by
  obtain ⟨fd, F⟩ := T.def_ 8 (d := d_Store_free)
  exact ⟨fd, F, FunD.bindsN F fun _ _ _ _ _ _ us hl => match us, hl with | [_], _ => rfl⟩
theorem Tx.f_Paging_init (T : Tx K mg) : ∃ fd, FunD K "__init__" "Paging.__init__" (defArgs st_Paging_init) (defBody st_Paging_init) (defScope st_Paging_init) [] [] (He.fAd K ("Paging", some "__init__")) fd ∧ Binds K fd ["self", "frames", "slots"] [] := by
  obtain ⟨fd, F⟩ := T.def_ 9 (d := d_Paging_init)
  exact ⟨fd, F, FunD.bindsN F fun _ _ _ _ _ _ us hl => match us, hl with | [_, _, _], _ => rfl⟩
theorem Tx.f_Paging_entry (T : Tx K mg) : ∃ fd, FunD K "entry" "Paging.entry" (defArgs st_Paging_entry) (defBody st_Paging_entry) (defScope st_Paging_entry) [] [] (He.fAd K ("Paging", some "entry")) fd ∧ Binds K fd ["self", "owner"] [] := by
  obtain ⟨fd, F⟩ := T.def_ 10 (d := d_Paging_entry)
  exact ⟨fd, F, FunD.bindsN F fun _ _ _ _ _ _ us hl => match us, hl with | [_, _], _ => rfl⟩
theorem Tx.f_Paging_lay (T : Tx K mg) : ∃ fd, FunD K "lay" "Paging.lay" (defArgs st_Paging_lay) (defBody st_Paging_lay) (defScope st_Paging_lay) [] [] (He.fAd K ("Paging", some "lay")) fd ∧ Binds K fd ["self", "owner", "entry"] [] := by
  obtain ⟨fd, F⟩ := T.def_ 11 (d := d_Paging_lay)
  exact ⟨fd, F, FunD.bindsN F fun _ _ _ _ _ _ us hl => match us, hl with | [_, _, _], _ => rfl⟩
theorem Tx.f_Paging_share (T : Tx K mg) : ∃ fd, FunD K "share" "Paging.share" (defArgs st_Paging_share) (defBody st_Paging_share) (defScope st_Paging_share) [] [] (He.fAd K ("Paging", some "share")) fd ∧ Binds K fd ["self", "owner", "entry"] [] := by
  obtain ⟨fd, F⟩ := T.def_ 12 (d := d_Paging_share)
  exact ⟨fd, F, FunD.bindsN F fun _ _ _ _ _ _ us hl => match us, hl with | [_, _, _], _ => rfl⟩
theorem Tx.f_Paging_leave (T : Tx K mg) : ∃ fd, FunD K "leave" "Paging.leave" (defArgs st_Paging_leave) (defBody st_Paging_leave) (defScope st_Paging_leave) [] [] (He.fAd K ("Paging", some "leave")) fd ∧ Binds K fd ["self", "owner"] [] := by
  obtain ⟨fd, F⟩ := T.def_ 13 (d := d_Paging_leave)
  exact ⟨fd, F, FunD.bindsN F fun _ _ _ _ _ _ us hl => match us, hl with | [_, _], _ => rfl⟩
theorem Tx.f_Paging_lifted (T : Tx K mg) : ∃ fd, FunD K "lifted" "Paging.lifted" (defArgs st_Paging_lifted) (defBody st_Paging_lifted) (defScope st_Paging_lifted) [] [] (He.fAd K ("Paging", some "lifted")) fd ∧ Binds K fd ["self", "entry"] [] := by
  obtain ⟨fd, F⟩ := T.def_ 14 (d := d_Paging_lifted)
  exact ⟨fd, F, FunD.bindsN F fun _ _ _ _ _ _ us hl => match us, hl with | [_, _], _ => rfl⟩
theorem Tx.f_Paging_settle (T : Tx K mg) : ∃ fd, FunD K "settle" "Paging.settle" (defArgs st_Paging_settle) (defBody st_Paging_settle) (defScope st_Paging_settle) [] [] (He.fAd K ("Paging", some "settle")) fd ∧ Binds K fd ["self", "entry", "cells", "owners"] [] := by
  obtain ⟨fd, F⟩ := T.def_ 15 (d := d_Paging_settle)
  exact ⟨fd, F, FunD.bindsN F fun _ _ _ _ _ _ us hl => match us, hl with | [_, _, _, _], _ => rfl⟩
theorem Tx.f_Paging_put_out (T : Tx K mg) : ∃ fd, FunD K "put_out" "Paging.put_out" (defArgs st_Paging_put_out) (defBody st_Paging_put_out) (defScope st_Paging_put_out) [] [] (He.fAd K ("Paging", some "put_out")) fd ∧ Binds K fd ["self"] [] := by
  obtain ⟨fd, F⟩ := T.def_ 16 (d := d_Paging_put_out)
  exact ⟨fd, F, FunD.bindsN F fun _ _ _ _ _ _ us hl => match us, hl with | [_], _ => rfl⟩
theorem Tx.f_Paging_frame_taken (T : Tx K mg) : ∃ fd, FunD K "frame_taken" "Paging.frame_taken" (defArgs st_Paging_frame_taken) (defBody st_Paging_frame_taken) (defScope st_Paging_frame_taken) [] [] (He.fAd K ("Paging", some "frame_taken")) fd ∧ Binds K fd ["self"] [] := by
  obtain ⟨fd, F⟩ := T.def_ 17 (d := d_Paging_frame_taken)
  exact ⟨fd, F, FunD.bindsN F fun _ _ _ _ _ _ us hl => match us, hl with | [_], _ => rfl⟩
theorem Tx.f_Paging_fetch (T : Tx K mg) : ∃ fd, FunD K "fetch" "Paging.fetch" (defArgs st_Paging_fetch) (defBody st_Paging_fetch) (defScope st_Paging_fetch) [] [] (He.fAd K ("Paging", some "fetch")) fd ∧ Binds K fd ["self", "owner"] [] := by
  obtain ⟨fd, F⟩ := T.def_ 18 (d := d_Paging_fetch)
  exact ⟨fd, F, FunD.bindsN F fun _ _ _ _ _ _ us hl => match us, hl with | [_, _], _ => rfl⟩
theorem Tx.f_Paging_part (T : Tx K mg) : ∃ fd, FunD K "part" "Paging.part" (defArgs st_Paging_part) (defBody st_Paging_part) (defScope st_Paging_part) [] [] (He.fAd K ("Paging", some "part")) fd ∧ Binds K fd ["self", "owner"] [] := by
  obtain ⟨fd, F⟩ := T.def_ 19 (d := d_Paging_part)
  exact ⟨fd, F, FunD.bindsN F fun _ _ _ _ _ _ us hl => match us, hl with | [_, _], _ => rfl⟩
theorem Tx.f_Paging_cells (T : Tx K mg) : ∃ fd, FunD K "cells" "Paging.cells" (defArgs st_Paging_cells) (defBody st_Paging_cells) (defScope st_Paging_cells) [] [] (He.fAd K ("Paging", some "cells")) fd ∧ Binds K fd ["self", "owner"] [] := by
  obtain ⟨fd, F⟩ := T.def_ 20 (d := d_Paging_cells)
  exact ⟨fd, F, FunD.bindsN F fun _ _ _ _ _ _ us hl => match us, hl with | [_, _], _ => rfl⟩
theorem Tx.f_Paging_put (T : Tx K mg) : ∃ fd, FunD K "put" "Paging.put" (defArgs st_Paging_put) (defBody st_Paging_put) (defScope st_Paging_put) [] [] (He.fAd K ("Paging", some "put")) fd ∧ Binds K fd ["self", "owner", "cells"] [] := by
  obtain ⟨fd, F⟩ := T.def_ 21 (d := d_Paging_put)
  exact ⟨fd, F, FunD.bindsN F fun _ _ _ _ _ _ us hl => match us, hl with | [_, _, _], _ => rfl⟩
theorem Tx.f_Paging_counts (T : Tx K mg) : ∃ fd, FunD K "counts" "Paging.counts" (defArgs st_Paging_counts) (defBody st_Paging_counts) (defScope st_Paging_counts) [] [] (He.fAd K ("Paging", some "counts")) fd ∧ Binds K fd ["self", "kind", "many"] [] := by
  obtain ⟨fd, F⟩ := T.def_ 22 (d := d_Paging_counts)
  exact ⟨fd, F, FunD.bindsN F fun _ _ _ _ _ _ us hl => match us, hl with | [_, _, _], _ => rfl⟩
theorem Tx.f_Table_init (T : Tx K mg) : ∃ fd, FunD K "__init__" "Table.__init__" (defArgs st_Table_init) (defBody st_Table_init) (defScope st_Table_init) [] [] (He.fAd K ("Table", some "__init__")) fd ∧ Binds K fd ["self"] [] := by
  obtain ⟨fd, F⟩ := T.def_ 23 (d := d_Table_init)
  exact ⟨fd, F, FunD.bindsN F fun _ _ _ _ _ _ us hl => match us, hl with | [_], _ => rfl⟩
theorem Tx.f_Table_get (T : Tx K mg) : ∃ fd, FunD K "get" "Table.get" (defArgs st_Table_get) (defBody st_Table_get) (defScope st_Table_get) [] [] (He.fAd K ("Table", some "get")) fd ∧ Binds K fd ["self", "page"] [] := by
  obtain ⟨fd, F⟩ := T.def_ 24 (d := d_Table_get)
  exact ⟨fd, F, FunD.bindsN F fun _ _ _ _ _ _ us hl => match us, hl with | [_, _], _ => rfl⟩
theorem Tx.f_Table_lay (T : Tx K mg) : ∃ fd, FunD K "lay" "Table.lay" (defArgs st_Table_lay) (defBody st_Table_lay) (defScope st_Table_lay) [] [] (He.fAd K ("Table", some "lay")) fd ∧ Binds K fd ["self", "page", "entry"] [] := by
  obtain ⟨fd, F⟩ := T.def_ 25 (d := d_Table_lay)
  exact ⟨fd, F, FunD.bindsN F fun _ _ _ _ _ _ us hl => match us, hl with | [_, _, _], _ => rfl⟩
theorem Tx.f_Table_clear (T : Tx K mg) : ∃ fd, FunD K "clear" "Table.clear" (defArgs st_Table_clear) (defBody st_Table_clear) (defScope st_Table_clear) [] [] (He.fAd K ("Table", some "clear")) fd ∧ Binds K fd ["self", "page"] [] := by
  obtain ⟨fd, F⟩ := T.def_ 26 (d := d_Table_clear)
  exact ⟨fd, F, FunD.bindsN F fun _ _ _ _ _ _ us hl => match us, hl with | [_, _], _ => rfl⟩
theorem Tx.f_Table_pages (T : Tx K mg) : ∃ fd, FunD K "pages" "Table.pages" (defArgs st_Table_pages) (defBody st_Table_pages) (defScope st_Table_pages) [] [] (He.fAd K ("Table", some "pages")) fd ∧ Binds K fd ["self"] [] := by
  obtain ⟨fd, F⟩ := T.def_ 27 (d := d_Table_pages)
  exact ⟨fd, F, FunD.bindsN F fun _ _ _ _ _ _ us hl => match us, hl with | [_], _ => rfl⟩
theorem Tx.f_pages_asked (T : Tx K mg) : ∃ fd, FunD K "pages_asked" "pages_asked" (defArgs st_pages_asked) (defBody st_pages_asked) (defScope st_pages_asked) [] [] (He.fAd K ("pages_asked", none)) fd ∧ Binds K fd ["page", "many"] [] := by
  obtain ⟨fd, F⟩ := T.def_ 28 (d := d_pages_asked)
  exact ⟨fd, F, FunD.bindsN F fun _ _ _ _ _ _ us hl => match us, hl with | [_, _], _ => rfl⟩
theorem Tx.f_stretches_of (T : Tx K mg) : ∃ fd, FunD K "stretches_of" "stretches_of" (defArgs st_stretches_of) (defBody st_stretches_of) (defScope st_stretches_of) [] [] (He.fAd K ("stretches_of", none)) fd ∧ Binds K fd ["address", "many"] [] := by
  obtain ⟨fd, F⟩ := T.def_ 29 (d := d_stretches_of)
  exact ⟨fd, F, FunD.bindsN F fun _ _ _ _ _ _ us hl => match us, hl with | [_, _], _ => rfl⟩
theorem Tx.f_Rooms_init (T : Tx K mg) : ∃ fd, FunD K "__init__" "Rooms.__init__" (defArgs st_Rooms_init) (defBody st_Rooms_init) (defScope st_Rooms_init) [] [] (He.fAd K ("Rooms", some "__init__")) fd ∧ Binds K fd ["self", "frames", "slots"] [] := by
  obtain ⟨fd, F⟩ := T.def_ 30 (d := d_Rooms_init)
  exact ⟨fd, F, FunD.bindsN F fun _ _ _ _ _ _ us hl => match us, hl with | [_, _, _], _ => rfl⟩
theorem Tx.f_Rooms_begin (T : Tx K mg) : ∃ fd, FunD K "begin" "Rooms.begin" (defArgs st_Rooms_begin) (defBody st_Rooms_begin) (defScope st_Rooms_begin) [] [] (He.fAd K ("Rooms", some "begin")) fd ∧ Binds K fd ["self", "task"] [] := by
  obtain ⟨fd, F⟩ := T.def_ 31 (d := d_Rooms_begin)
  exact ⟨fd, F, FunD.bindsN F fun _ _ _ _ _ _ us hl => match us, hl with | [_, _], _ => rfl⟩
theorem Tx.f_Rooms_table_of (T : Tx K mg) : ∃ fd, FunD K "table_of" "Rooms.table_of" (defArgs st_Rooms_table_of) (defBody st_Rooms_table_of) (defScope st_Rooms_table_of) [] [] (He.fAd K ("Rooms", some "table_of")) fd ∧ Binds K fd ["self", "task"] [] := by
  obtain ⟨fd, F⟩ := T.def_ 32 (d := d_Rooms_table_of)
  exact ⟨fd, F, FunD.bindsN F fun _ _ _ _ _ _ us hl => match us, hl with | [_, _], _ => rfl⟩
theorem Tx.f_Rooms_close (T : Tx K mg) : ∃ fd, FunD K "close" "Rooms.close" (defArgs st_Rooms_close) (defBody st_Rooms_close) (defScope st_Rooms_close) [] [] (He.fAd K ("Rooms", some "close")) fd ∧ Binds K fd ["self", "task"] [] := by
  obtain ⟨fd, F⟩ := T.def_ 33 (d := d_Rooms_close)
  exact ⟨fd, F, FunD.bindsN F fun _ _ _ _ _ _ us hl => match us, hl with | [_, _], _ => rfl⟩
theorem Tx.f_Rooms_held (T : Tx K mg) : ∃ fd, FunD K "held" "Rooms.held" (defArgs st_Rooms_held) (defBody st_Rooms_held) (defScope st_Rooms_held) [] [] (He.fAd K ("Rooms", some "held")) fd ∧ Binds K fd ["self"] [] := by
  obtain ⟨fd, F⟩ := T.def_ 34 (d := d_Rooms_held)
  exact ⟨fd, F, FunD.bindsN F fun _ _ _ _ _ _ us hl => match us, hl with | [_], _ => rfl⟩
theorem Tx.f_Rooms_ask_room (T : Tx K mg) : ∃ fd, FunD K "ask_room" "Rooms.ask_room" (defArgs st_Rooms_ask_room) (defBody st_Rooms_ask_room) (defScope st_Rooms_ask_room) [] [] (He.fAd K ("Rooms", some "ask_room")) fd ∧ Binds K fd ["self", "many"] [] := by
  obtain ⟨fd, F⟩ := T.def_ 35 (d := d_Rooms_ask_room)
  exact ⟨fd, F, FunD.bindsN F fun _ _ _ _ _ _ us hl => match us, hl with | [_, _], _ => rfl⟩
theorem Tx.f_Rooms_map (T : Tx K mg) : ∃ fd, FunD K "map" "Rooms.map" (defArgs st_Rooms_map) (defBody st_Rooms_map) (defScope st_Rooms_map) [] [] (He.fAd K ("Rooms", some "map")) fd ∧ Binds K fd ["self", "task", "page", "many"] [] := by
  obtain ⟨fd, F⟩ := T.def_ 36 (d := d_Rooms_map)
  exact ⟨fd, F, FunD.bindsN F fun _ _ _ _ _ _ us hl => match us, hl with | [_, _, _, _], _ => rfl⟩
theorem Tx.f_Rooms_look_mapped (T : Tx K mg) : ∃ fd, FunD K "look_mapped" "Rooms.look_mapped" (defArgs st_Rooms_look_mapped) (defBody st_Rooms_look_mapped) (defScope st_Rooms_look_mapped) [] [] (He.fAd K ("Rooms", some "look_mapped")) fd ∧ Binds K fd ["self", "table", "pages"] [] := by
  obtain ⟨fd, F⟩ := T.def_ 37 (d := d_Rooms_look_mapped)
  exact ⟨fd, F, FunD.bindsN F fun _ _ _ _ _ _ us hl => match us, hl with | [_, _, _], _ => rfl⟩
theorem Tx.f_Rooms_drop (T : Tx K mg) : ∃ fd, FunD K "drop" "Rooms.drop" (defArgs st_Rooms_drop) (defBody st_Rooms_drop) (defScope st_Rooms_drop) [] [] (He.fAd K ("Rooms", some "drop")) fd ∧ Binds K fd ["self", "task", "page", "many"] [] := by
  obtain ⟨fd, F⟩ := T.def_ 38 (d := d_Rooms_drop)
  exact ⟨fd, F, FunD.bindsN F fun _ _ _ _ _ _ us hl => match us, hl with | [_, _, _, _], _ => rfl⟩
theorem Tx.f_Rooms_stretches (T : Tx K mg) : ∃ fd, FunD K "stretches" "Rooms.stretches" (defArgs st_Rooms_stretches) (defBody st_Rooms_stretches) (defScope st_Rooms_stretches) [] [] (He.fAd K ("Rooms", some "stretches")) fd ∧ Binds K fd ["self", "task", "address", "many"] [] := by
  obtain ⟨fd, F⟩ := T.def_ 39 (d := d_Rooms_stretches)
  exact ⟨fd, F, FunD.bindsN F fun _ _ _ _ _ _ us hl => match us, hl with | [_, _, _, _], _ => rfl⟩
theorem Tx.f_Rooms_peek (T : Tx K mg) : ∃ fd, FunD K "peek" "Rooms.peek" (defArgs st_Rooms_peek) (defBody st_Rooms_peek) (defScope st_Rooms_peek) [] [] (He.fAd K ("Rooms", some "peek")) fd ∧ Binds K fd ["self", "task", "address", "many"] [] := by
  obtain ⟨fd, F⟩ := T.def_ 40 (d := d_Rooms_peek)
  exact ⟨fd, F, FunD.bindsN F fun _ _ _ _ _ _ us hl => match us, hl with | [_, _, _, _], _ => rfl⟩
theorem Tx.f_Rooms_poke (T : Tx K mg) : ∃ fd, FunD K "poke" "Rooms.poke" (defArgs st_Rooms_poke) (defBody st_Rooms_poke) (defScope st_Rooms_poke) [] [] (He.fAd K ("Rooms", some "poke")) fd ∧ Binds K fd ["self", "task", "address", "cells"] [] := by
  obtain ⟨fd, F⟩ := T.def_ 41 (d := d_Rooms_poke)
  exact ⟨fd, F, FunD.bindsN F fun _ _ _ _ _ _ us hl => match us, hl with | [_, _, _, _], _ => rfl⟩
theorem Tx.f_Rooms_copy (T : Tx K mg) : ∃ fd, FunD K "copy" "Rooms.copy" (defArgs st_Rooms_copy) (defBody st_Rooms_copy) (defScope st_Rooms_copy) [] [] (He.fAd K ("Rooms", some "copy")) fd ∧ Binds K fd ["self", "task", "other"] [] := by
  obtain ⟨fd, F⟩ := T.def_ 42 (d := d_Rooms_copy)
  exact ⟨fd, F, FunD.bindsN F fun _ _ _ _ _ _ us hl => match us, hl with | [_, _, _], _ => rfl⟩
theorem Tx.f_Rooms_place (T : Tx K mg) : ∃ fd, FunD K "place" "Rooms.place" (defArgs st_Rooms_place) (defBody st_Rooms_place) (defScope st_Rooms_place) [] [] (He.fAd K ("Rooms", some "place")) fd ∧ Binds K fd ["self", "task", "page"] [] := by
  obtain ⟨fd, F⟩ := T.def_ 43 (d := d_Rooms_place)
  exact ⟨fd, F, FunD.bindsN F fun _ _ _ _ _ _ us hl => match us, hl with | [_, _, _], _ => rfl⟩
theorem Tx.f_Rooms_counts (T : Tx K mg) : ∃ fd, FunD K "counts" "Rooms.counts" (defArgs st_Rooms_counts) (defBody st_Rooms_counts) (defScope st_Rooms_counts) [] [] (He.fAd K ("Rooms", some "counts")) fd ∧ Binds K fd ["self"] [] := by
  obtain ⟨fd, F⟩ := T.def_ 44 (d := d_Rooms_counts)
  exact ⟨fd, F, FunD.bindsN F fun _ _ _ _ _ _ us hl => match us, hl with | [_], _ => rfl⟩
theorem Tx.f_law_number (T : Tx K mg) : ∃ fd, FunD K "_law_number" "_law_number" (defArgs st_law_number) (defBody st_law_number) (defScope st_law_number) [] [] (He.fAd K ("_law_number", none)) fd ∧ Binds K fd ["_law_cell", "_law_k", "_law_digits"] [] := by
  obtain ⟨fd, F⟩ := T.def_ 45 (d := d_law_number)
  exact ⟨fd, F, FunD.bindsN F fun _ _ _ _ _ _ us hl => match us, hl with | [_, _, _], _ => rfl⟩
theorem Tx.f_law_tasks (T : Tx K mg) : ∃ fd, FunD K "_law_tasks" "_law_tasks" (defArgs st_law_tasks) (defBody st_law_tasks) (defScope st_law_tasks) [] [] (He.fAd K ("_law_tasks", none)) fd ∧ Binds K fd ["_law_cell"] [] := by
  obtain ⟨fd, F⟩ := T.def_ 46 (d := d_law_tasks)
  exact ⟨fd, F, FunD.bindsN F fun _ _ _ _ _ _ us hl => match us, hl with | [_], _ => rfl⟩
theorem Tx.f_law_page (T : Tx K mg) : ∃ fd, FunD K "_law_page" "_law_page" (defArgs st_law_page) (defBody st_law_page) (defScope st_law_page) [] [] (He.fAd K ("_law_page", none)) fd ∧ Binds K fd ["_law_rest"] [] := by
  obtain ⟨fd, F⟩ := T.def_ 47 (d := d_law_page)
  exact ⟨fd, F, FunD.bindsN F fun _ _ _ _ _ _ us hl => match us, hl with | [_], _ => rfl⟩
theorem Tx.f_law_many (T : Tx K mg) : ∃ fd, FunD K "_law_many" "_law_many" (defArgs st_law_many) (defBody st_law_many) (defScope st_law_many) [] [] (He.fAd K ("_law_many", none)) fd ∧ Binds K fd ["_law_rest"] [] := by
  obtain ⟨fd, F⟩ := T.def_ 48 (d := d_law_many)
  exact ⟨fd, F, FunD.bindsN F fun _ _ _ _ _ _ us hl => match us, hl with | [_], _ => rfl⟩
theorem Tx.f_law_address (T : Tx K mg) : ∃ fd, FunD K "_law_address" "_law_address" (defArgs st_law_address) (defBody st_law_address) (defScope st_law_address) [] [] (He.fAd K ("_law_address", none)) fd ∧ Binds K fd ["_law_rest"] [] := by
  obtain ⟨fd, F⟩ := T.def_ 49 (d := d_law_address)
  exact ⟨fd, F, FunD.bindsN F fun _ _ _ _ _ _ us hl => match us, hl with | [_], _ => rfl⟩
theorem Tx.f_law_cells (T : Tx K mg) : ∃ fd, FunD K "_law_cells" "_law_cells" (defArgs st_law_cells) (defBody st_law_cells) (defScope st_law_cells) [] [] (He.fAd K ("_law_cells", none)) fd ∧ Binds K fd ["_law_rest"] [] := by
  obtain ⟨fd, F⟩ := T.def_ 50 (d := d_law_cells)
  exact ⟨fd, F, FunD.bindsN F fun _ _ _ _ _ _ us hl => match us, hl with | [_], _ => rfl⟩
theorem Tx.f_law_deed (T : Tx K mg) : ∃ fd, FunD K "_law_deed" "_law_deed" (defArgs st_law_deed) (defBody st_law_deed) (defScope st_law_deed) [] [] (He.fAd K ("_law_deed", none)) fd ∧ Binds K fd ["_law_number_here", "_law_tasks_here"] [] := by
  obtain ⟨fd, F⟩ := T.def_ 51 (d := d_law_deed)
  exact ⟨fd, F, FunD.bindsN F fun _ _ _ _ _ _ us hl => match us, hl with | [_, _], _ => rfl⟩
theorem Tx.f_law_do (T : Tx K mg) : ∃ fd, FunD K "_law_do" "_law_do" (defArgs st_law_do) (defBody st_law_do) (defScope st_law_do) [] [] (He.fAd K ("_law_do", none)) fd ∧ Binds K fd ["_law_rooms", "_law_deed_here"] [] := by
  obtain ⟨fd, F⟩ := T.def_ 52 (d := d_law_do)
  exact ⟨fd, F, FunD.bindsN F fun _ _ _ _ _ _ us hl => match us, hl with | [_, _], _ => rfl⟩
theorem Tx.f_law_word (T : Tx K mg) : ∃ fd, FunD K "_law_word" "_law_word" (defArgs st_law_word) (defBody st_law_word) (defScope st_law_word) [] [] (He.fAd K ("_law_word", none)) fd ∧ Binds K fd ["_law_caught"] [] := by
  obtain ⟨fd, F⟩ := T.def_ 53 (d := d_law_word)
  exact ⟨fd, F, FunD.bindsN F fun _ _ _ _ _ _ us hl => match us, hl with | [_], _ => rfl⟩
theorem Tx.f_law_told (T : Tx K mg) : ∃ fd, FunD K "_law_told" "_law_told" (defArgs st_law_told) (defBody st_law_told) (defScope st_law_told) [] [] (He.fAd K ("_law_told", none)) fd ∧ Binds K fd ["_law_rooms", "_law_deed_here"] [] := by
  obtain ⟨fd, F⟩ := T.def_ 54 (d := d_law_told)
  exact ⟨fd, F, FunD.bindsN F fun _ _ _ _ _ _ us hl => match us, hl with | [_, _], _ => rfl⟩
theorem Tx.f_law_sizes (T : Tx K mg) : ∃ fd, FunD K "_law_sizes" "_law_sizes" (defArgs st_law_sizes) (defBody st_law_sizes) (defScope st_law_sizes) [] [] (He.fAd K ("_law_sizes", none)) fd ∧ Binds K fd ["_law_first"] [] := by
  obtain ⟨fd, F⟩ := T.def_ 55 (d := d_law_sizes)
  exact ⟨fd, F, FunD.bindsN F fun _ _ _ _ _ _ us hl => match us, hl with | [_], _ => rfl⟩
theorem Tx.f_law_mapped (T : Tx K mg) : ∃ fd, FunD K "_law_mapped" "_law_mapped" (defArgs st_law_mapped) (defBody st_law_mapped) (defScope st_law_mapped) [] [] (He.fAd K ("_law_mapped", none)) fd ∧ Binds K fd ["_law_pages", "_law_deed_here", "_law_k"] [] := by
  obtain ⟨fd, F⟩ := T.def_ 56 (d := d_law_mapped)
  exact ⟨fd, F, FunD.bindsN F fun _ _ _ _ _ _ us hl => match us, hl with | [_, _, _], _ => rfl⟩
theorem Tx.f_law_spot (T : Tx K mg) : ∃ fd, FunD K "_law_spot" "_law_spot" (defArgs st_law_spot) (defBody st_law_spot) (defScope st_law_spot) [] [] (He.fAd K ("_law_spot", none)) fd ∧ Binds K fd ["_law_spot_here", "_law_frames", "_law_slots"] [] := by
  obtain ⟨fd, F⟩ := T.def_ 57 (d := d_law_spot)
  exact ⟨fd, F, FunD.bindsN F fun _ _ _ _ _ _ us hl => match us, hl with | [_, _, _], _ => rfl⟩
theorem Tx.f_law_places (T : Tx K mg) : ∃ fd, FunD K "_law_places" "_law_places" (defArgs st_law_places) (defBody st_law_places) (defScope st_law_places) [] [] (He.fAd K ("_law_places", none)) fd ∧ Binds K fd ["_law_rooms", "_law_pages"] [] := by
  obtain ⟨fd, F⟩ := T.def_ 58 (d := d_law_places)
  exact ⟨fd, F, FunD.bindsN F fun _ _ _ _ _ _ us hl => match us, hl with | [_, _], _ => rfl⟩
theorem Tx.f_law_standing (T : Tx K mg) : ∃ fd, FunD K "_law_standing" "_law_standing" (defArgs st_law_standing) (defBody st_law_standing) (defScope st_law_standing) [] [] (He.fAd K ("_law_standing", none)) fd ∧ Binds K fd ["_law_places_here", "_law_frames", "_law_slots"] [] := by
  obtain ⟨fd, F⟩ := T.def_ 59 (d := d_law_standing)
  exact ⟨fd, F, FunD.bindsN F fun _ _ _ _ _ _ us hl => match us, hl with | [_, _, _], _ => rfl⟩
theorem Tx.f_law_owners (T : Tx K mg) : ∃ fd, FunD K "_law_owners" "_law_owners" (defArgs st_law_owners) (defBody st_law_owners) (defScope st_law_owners) [] [] (He.fAd K ("_law_owners", none)) fd ∧ Binds K fd ["_law_places_here", "_law_frames", "_law_slots"] [] := by
  obtain ⟨fd, F⟩ := T.def_ 60 (d := d_law_owners)
  exact ⟨fd, F, FunD.bindsN F fun _ _ _ _ _ _ us hl => match us, hl with | [_, _, _], _ => rfl⟩
theorem Tx.f_law_counted (T : Tx K mg) : ∃ fd, FunD K "_law_counted" "_law_counted" (defArgs st_law_counted) (defBody st_law_counted) (defScope st_law_counted) [] [] (He.fAd K ("_law_counted", none)) fd ∧ Binds K fd ["_law_rooms", "_law_places_here", "_law_frames", "_law_slots"] [] := by
  obtain ⟨fd, F⟩ := T.def_ 61 (d := d_law_counted)
  exact ⟨fd, F, FunD.bindsN F fun _ _ _ _ _ _ us hl => match us, hl with | [_, _, _, _], _ => rfl⟩
theorem Tx.f_law_put_out (T : Tx K mg) : ∃ fd, FunD K "_law_put_out" "_law_put_out" (defArgs st_law_put_out) (defBody st_law_put_out) (defScope st_law_put_out) [] [] (He.fAd K ("_law_put_out", none)) fd ∧ Binds K fd ["_law_before", "_law_places_here", "_law_owners_here"] [] := by
  obtain ⟨fd, F⟩ := T.def_ 62 (d := d_law_put_out)
  exact ⟨fd, F, FunD.bindsN F fun _ _ _ _ _ _ us hl => match us, hl with | [_, _, _], _ => rfl⟩
theorem Tx.f_law_met (T : Tx K mg) : ∃ fd, FunD K "_law_met" "_law_met" (defArgs st_law_met) (defBody st_law_met) (defScope st_law_met) [] [] (He.fAd K ("_law_met", none)) fd ∧ Binds K fd ["_law_rooms", "_law_deed_here"] [] := by
  obtain ⟨fd, F⟩ := T.def_ 63 (d := d_law_met)
  exact ⟨fd, F, FunD.bindsN F fun _ _ _ _ _ _ us hl => match us, hl with | [_, _], _ => rfl⟩
theorem Tx.f_law_out (T : Tx K mg) : ∃ fd, FunD K "_law_out" "_law_out" (defArgs st_law_out) (defBody st_law_out) (defScope st_law_out) [] [] (He.fAd K ("_law_out", none)) fd ∧ Binds K fd ["_law_rooms", "_law_pages"] [] := by
  obtain ⟨fd, F⟩ := T.def_ 64 (d := d_law_out)
  exact ⟨fd, F, FunD.bindsN F fun _ _ _ _ _ _ us hl => match us, hl with | [_, _], _ => rfl⟩
theorem Tx.f_law_closed (T : Tx K mg) : ∃ fd, FunD K "_law_closed" "_law_closed" (defArgs st_law_closed) (defBody st_law_closed) (defScope st_law_closed) [] [] (He.fAd K ("_law_closed", none)) fd ∧ Binds K fd ["_law_rooms", "_law_pages", "_law_cell"] [] := by
  obtain ⟨fd, F⟩ := T.def_ 65 (d := d_law_closed)
  exact ⟨fd, F, FunD.bindsN F fun _ _ _ _ _ _ us hl => match us, hl with | [_, _, _], _ => rfl⟩
theorem Tx.f_law (T : Tx K mg) : ∃ fd, FunD K "law" "law" (defArgs st_law) (defBody st_law) (defScope st_law) [] [] (He.fAd K ("law", none)) fd ∧ Binds K fd ["_law_script"] [] := by
  obtain ⟨fd, F⟩ := T.def_ 66 (d := d_law)
  exact ⟨fd, F, FunD.bindsN F fun _ _ _ _ _ _ us hl => match us, hl with | [_], _ => rfl⟩
end

-- part K9A
/-! ### colours: each object that is changed has a role -/
inductive Role where
  | rob | pob | sdi | tdi | odi
  | sob (b : Bool) | sow (b : Bool) | sco (b : Bool) | sce (b : Bool)
  | tob (t : Int) | tfi (t : Int) | tse (t f : Int)
  | inn (b : Bool) (n : Nat)
  | lpd | lpi (t : Int)
  deriving DecidableEq
abbrev Col := Addr → Option Role
def updC (g : Col) (a : Addr) (r : Role) : Col := fun b => if b = a then some r else g b
theorem updC_same {g : Col} {a : Addr} {r : Role} : updC g a r a = some r := by unfold updC; rw [if_pos rfl]
theorem updC_ne {g : Col} {a b : Addr} {r : Role} (h : b ≠ a) : updC g a r b = g b := by unfold updC; rw [if_neg h]
/-- what has a colour is tracked -/
def Live (g : Col) (H : Hp) : Prop := ∀ a r, g a = some r → H a ≠ none
/-- from (g, H) to (g', H'): only things of R are written, new things have a colour of R or none -/
structure Grow (R : Role → Bool) (g : Col) (H : Hp) (g' : Col) (H' : Hp) : Prop where
  col : ∀ a, H a ≠ none → g' a = g a
  new : ∀ a r, H a = none → g' a = some r → R r = true ∧ H' a ≠ none
  fr : ∀ a o, H a = some o → (∀ r, g a = some r → R r = false) → H' a = some o
  dom : ∀ a, H a ≠ none → H' a ≠ none
  tup : ∀ a xs, H a = some (.tup xs) → H' a = some (.tup xs)
section
variable {R S : Role → Bool} {g g1 g2 : Col} {H H1 H2 : Hp}
theorem Grow.refl (l : Live g H) : Grow R g H g H := ⟨fun _ _ => rfl, fun a r n c => absurd n (l a r c), fun _ _ e _ => e, fun _ n => n, fun _ _ e => e⟩
theorem Grow.trans (a : Grow R g H g1 H1) (b : Grow R g1 H1 g2 H2) : Grow R g H g2 H2 where
  col := fun x n => (b.col x (a.dom x n)).trans (a.col x n)
  new := fun x r n c => by
    by_cases h : H1 x = none
    · exact b.new x r h c
    · rw [b.col x h] at c
      exact ⟨(a.new x r n c).1, b.dom x h⟩
  fr := fun x o e n => by
    have e1 := a.fr x o e n
    refine b.fr x o e1 fun r c => n r ?_
    rw [← a.col x (by rw [e]; simp)]
    exact c
  dom := fun x n => b.dom x (a.dom x n)
  tup := fun x xs e => b.tup x xs (a.tup x xs e)
theorem Grow.mono (a : Grow R g H g1 H1) (h : ∀ r, R r = true → S r = true) : Grow S g H g1 H1 :=
  ⟨a.col, fun x r n c => ⟨h r (a.new x r n c).1, (a.new x r n c).2⟩, fun x o e n => a.fr x o e fun r c => by
    cases q : R r with
    | false => rfl
    | true => exact absurd (h r q) (by rw [n r c]; simp), a.dom, a.tup⟩
theorem Grow.live (a : Grow R g H g1 H1) (l : Live g H) : Live g1 H1 := fun x r c => by
  by_cases h : H x = none
  · exact (a.new x r h c).2
  · exact a.dom x h
theorem Live.none (l : Live g H) {p : Addr} (h : H p = none) : g p = none := by
  cases e : g p with
  | none => rfl
  | some r => exact absurd h (l p r e)
/-- a thing without a colour is made -/
theorem Grow.temp (l : Live g H) {p : Addr} {o : HO} (h : H p = none) : Grow R g H g (upd H p o) := by
  refine ⟨fun _ _ => rfl, fun a r n c => absurd n (l a r c), fun a u e _ => ?_, fun a n => ?_, fun a xs e => ?_⟩
  · rw [upd_ne (ne_of_none e h)]; exact e
  · by_cases q : a = p
    · rw [q] at n; exact absurd h n
    · rw [upd_ne q]; exact n
  · rw [upd_ne (ne_of_none e h)]; exact e
/-- a coloured thing is made -/
theorem Grow.made (l : Live g H) {p : Addr} {o : HO} {r : Role} (h : H p = none) (hr : R r = true) : Grow R g H (updC g p r) (upd H p o) := by
  refine ⟨fun a n => updC_ne fun q => ?_, fun a r' n c => ?_, fun a u e _ => ?_, fun a n => ?_, fun a xs e => ?_⟩
  · rw [q] at n; exact n h
  · by_cases q : a = p
    · rw [q, updC_same] at c
      cases c
      exact ⟨hr, by rw [q, upd_same]; simp⟩
    · rw [updC_ne q] at c
      exact absurd n (l a r' c)
  · rw [upd_ne (ne_of_none e h)]; exact e
  · by_cases q : a = p
    · rw [q] at n; exact absurd h n
    · rw [upd_ne q]; exact n
  · rw [upd_ne (ne_of_none e h)]; exact e
/-- a coloured thing is written -/
theorem Grow.write (l : Live g H) {p : Addr} {o u : HO} {r : Role} (h : H p = some u) (nt : ∀ xs, u ≠ .tup xs) (c : g p = some r) (hr : R r = true) : Grow R g H g (upd H p o) := by
  refine ⟨fun _ _ => rfl, fun a r n c => absurd n (l a r c), fun a v e n => ?_, fun a n => ?_, fun a xs e => ?_⟩
  · have q : a ≠ p := fun q => by
      have := n r (by rw [q]; exact c)
      rw [hr] at this
      cases this
    rw [upd_ne q]; exact e
  · by_cases q : a = p
    · rw [q, upd_same]; simp
    · rw [upd_ne q]; exact n
  · have q : a ≠ p := fun q => by rw [q, h] at e; exact nt xs (Option.some.inj e)
    rw [upd_ne q]; exact e
theorem Grow.same (l : Live g H) (s : Same H H1) : Grow R g H g H1 :=
  ⟨fun _ _ => rfl, fun a r n c => absurd n (l a r c), fun a o e _ => s a o e, fun a n => by
    cases e : H a with
    | none => exact absurd e n
    | some o => rw [s a o e]; simp, fun a xs e => s a _ e⟩
/-- a thing of a colour stands -/
structure Pt (g : Col) (r : Role) (H : Hp) (a : Addr) (o : HO) : Prop where
  c : g a = some r
  h : H a = some o
theorem Pt.keep {r : Role} {a : Addr} {o : HO} (p : Pt g r H a o) (G : Grow R g H g1 H1) (n : R r = false) : Pt g1 r H1 a o :=
  ⟨(G.col a (by rw [p.h]; simp)).trans p.c, G.fr a o p.h fun r' c => by rw [p.c] at c; cases c; exact n⟩
theorem Pt.ne {r r' : Role} {a b : Addr} {o u : HO} (p : Pt g r H a o) (q : Pt g r' H b u) (d : r ≠ r') : a ≠ b := fun e => by
  have := p.c
  rw [e, q.c] at this
  exact d (Option.some.inj this).symm
theorem Pt.new {r : Role} {a p : Addr} {o : HO} (x : Pt g r H a o) (h : H p = none) : a ≠ p := ne_of_none x.h h
/-- behind a store to another thing -/
theorem Pt.other {r r' : Role} {a b : Addr} {o u v : HO} (p : Pt g r H a o) (q : Pt g r' H b u) (d : r ≠ r') : Pt g r (upd H b v) a o := ⟨p.c, by rw [upd_ne (p.ne q d)]; exact p.h⟩
theorem Pt.self {r : Role} {a : Addr} {o v : HO} (p : Pt g r H a o) : Pt g r (upd H a v) a v := ⟨p.c, upd_same⟩
theorem Pt.temp {r : Role} {a p : Addr} {o v : HO} (x : Pt g r H a o) (h : H p = none) : Pt g r (upd H p v) a o := ⟨x.c, by rw [upd_ne (x.new h)]; exact x.h⟩
theorem Pt.made {r r' : Role} {a p : Addr} {o v : HO} (x : Pt g r H a o) (h : H p = none) : Pt (updC g p r') r (upd H p v) a o := ⟨by rw [updC_ne (x.new h)]; exact x.c, by rw [upd_ne (x.new h)]; exact x.h⟩
theorem Pt.mk' {r : Role} {p : Addr} {v : HO} : Pt (updC g p r) r (upd H p v) p v := ⟨updC_same, upd_same⟩
end
/-- a tuple that is read -/
def TupV (K : PySem.W.Frag) (H : Hp) (a : Addr) (xs : List V) : Prop := H a = some (.tup xs) ∨
  ∃ (o : Obj) (its : Array Value) (n : Nat), K.lookup a = some o ∧ o.cls = .type "tuple" ∧ o.data = .seq its n ∧ its.size ≤ sizeLine ∧ Vals xs its.toList
theorem TupV.sq {K : PySem.W.Frag} {H : Hp} {a : Addr} {xs : List V} (h : TupV K H a xs) : SqT K H a xs := h.elim (fun h => .inl (.inl h)) .inr
theorem TupV.keep {K : PySem.W.Frag} {H H' : Hp} {a : Addr} {xs : List V} (h : TupV K H a xs) (k : ∀ a xs, H a = some (.tup xs) → H' a = some (.tup xs)) : TupV K H' a xs := h.elim (fun h => .inl (k _ _ h)) .inr
theorem tup_new {H : Hp} {p : Addr} {o : HO} (h : H p = none) : ∀ a xs, H a = some (.tup xs) → (upd H p o) a = some (.tup xs) := fun a xs e => by rw [upd_ne (ne_of_none e h)]; exact e
theorem tup_wr {H : Hp} {p : Addr} {u o : HO} (h : H p = some u) (nt : ∀ xs, u ≠ .tup xs) : ∀ a xs, H a = some (.tup xs) → (upd H p o) a = some (.tup xs) := fun a xs e => by
  rw [upd_ne fun q => ?_]
  · exact e
  · rw [q, h] at e
    exact nt xs (Option.some.inj e)
/-! ### defs and their promises -/
theorem passN {X : Cx} : Passes (L2N.CX X.prog X.w) X E0 := fun _ _ _ _ _ _ _ h => by
  obtain ⟨_, _, _, _, _, _, _, _, _, _, _, _, z⟩ := h
  exact z.elim
theorem takesN {X : Cx} : L2N.Takes X (fun _ _ _ _ => False) := fun _ _ x => by
  obtain ⟨_, _, _, _, _, _, _, _, _, _, _, _, _, _, _, _, z⟩ := x
  exact z.elim
def Sp1 (f : V → Hp → VK → XK → Prop) : Sp := fun vs H Q E => ∃ a, vs = [a] ∧ f a H Q E
def Sp2 (f : V → V → Hp → VK → XK → Prop) : Sp := fun vs H Q E => ∃ a b, vs = [a, b] ∧ f a b H Q E
def Sp3 (f : V → V → V → Hp → VK → XK → Prop) : Sp := fun vs H Q E => ∃ a b c, vs = [a, b, c] ∧ f a b c H Q E
def Sp4 (f : V → V → V → V → Hp → VK → XK → Prop) : Sp := fun vs H Q E => ∃ a b c d, vs = [a, b, c, d] ∧ f a b c d H Q E
/-- the def at f keeps the promise -/
structure Okp (P : Program) (w : World) (K : PySem.W.Frag) (mg : Str → Option Value) (base : Heap) (k : Nat) (f : Addr) (ps : List Str) (sp : Sp) : Prop where
  ex : ∃ fd, FnOk P w K mg base (L2N.CX P w) k f fd ps sp ∧ Binds K fd ps [] ∧ PySem.W.keepIn K (.ref f) = true
section
variable {P : Program} {w : World} {K : PySem.W.Frag} {mg : Str → Option Value} {base : Heap} {x qual : Str} {params : Arguments} {body : List Stmt} {scope : Scope} {f : Addr} {N ps : List Str} {k : Nat}
theorem Okp.mono {j : Nat} {sp : Sp} (o : Okp P w K mg base j f ps sp) (h : j ≤ k) : Okp P w K mg base k f ps sp := let ⟨fd, F, b, kp⟩ := o.ex; ⟨fd, F.mono h, b, kp⟩
theorem okx {sp : Sp} (len : ∀ vs H Q E, sp vs H Q E → vs.length = ps.length) (F : ∃ fd, FunD K x qual params body scope [] [] f fd ∧ Binds K fd ps []) (S : FnScope N ps scope)
    (hb : ∀ (cdv : Value) (A : Around) (outer : List Env) (s : Shared) (H : Hp) (vs : List V) (Q : VK) (E : XK), Room k (A.deeper (envOfC qual scope s.heap.objs.size f cdv)) → sp vs H Q E →
      ∃ t, PSs (cxOf (L2N.CX P w) P w K mg base N qual scope f cdv A outer s H E) body t ∧ t { nx := fun _ H' => Q .non H', rt := Q } (start N vs) H) : Okp P w K mg base (k + 1) f ps sp := by
  obtain ⟨fd, F, b⟩ := F
  exact ⟨fd, F.ok S len hb, b, F.kp⟩
theorem okn {sp : Sp} (len : ∀ vs H Q E, sp vs H Q E → vs.length = ps.length) (F : ∃ fd, FunD K x qual params body scope [] [] f fd ∧ Binds K fd ps []) (S : FnScope N ps scope)
    (hb : ∀ (cdv : Value) (A : Around) (outer : List Env) (s : Shared) (H : Hp) (vs : List V) (Q : VK) (E : XK), Room k (A.deeper (envOfC qual scope s.heap.objs.size f cdv)) → sp vs H Q E →
      ∃ t, PSs (cxOf (L2N.CX P w) P w K mg base N qual scope f cdv A outer s H E).nox body t ∧ t { nx := fun _ H' => Q .non H', rt := Q } (start N vs) H) : Okp P w K mg base (k + 1) f ps sp :=
  okx len F S fun cdv A outer s H vs Q E hr h => let ⟨t, h1, h2⟩ := hb cdv A outer s H vs Q E hr h; ⟨t, h1.nox, h2⟩
theorem len1 {f : V → Hp → VK → XK → Prop} {a : Str} : ∀ vs H Q E, Sp1 f vs H Q E → vs.length = [a].length := fun _ _ _ _ ⟨_, e, _⟩ => by rw [e]; rfl
theorem len2 {f : V → V → Hp → VK → XK → Prop} {a b : Str} : ∀ vs H Q E, Sp2 f vs H Q E → vs.length = [a, b].length := fun _ _ _ _ ⟨_, _, e, _⟩ => by rw [e]; rfl
theorem len3 {f : V → V → V → Hp → VK → XK → Prop} {a b c : Str} : ∀ vs H Q E, Sp3 f vs H Q E → vs.length = [a, b, c].length := fun _ _ _ _ ⟨_, _, _, e, _⟩ => by rw [e]; rfl
theorem len4 {f : V → V → V → V → Hp → VK → XK → Prop} {a b c d : Str} : ∀ vs H Q E, Sp4 f vs H Q E → vs.length = [a, b, c, d].length := fun _ _ _ _ ⟨_, _, _, _, e, _⟩ => by rw [e]; rfl
end
section
variable {X : Cx} {k : Nat} {f C : Addr} {ps : List Str} {sp : Sp} {E : XK} {x m : Str} {p pos apos : Pos} {e o : Expr} {es : List Expr} {ta : TE} {t : TA}
/-- a call of a def that lets nothing out -/
theorem pe_c (F : Okp X.prog X.w X.K X.mg X.base k f ps sp) (hm : X.mg x = some (.ref f)) (hr : Room k X.A) (ha : PA X (e :: es) t) (hg : Gl X x := by rfl) (hdb : (x == ("__debug__" : Str)) = false := by decide)
    (he : starEach (e :: es) X.env = (false, eval e X.env) :: starEach es X.env := by rfl) (hpl : (backTo pos (starEach es X.env)).any (·.1) = false := by rfl) : PE X (.Call (.Name x p) (e :: es) [] pos) (tCall sp [] E0 t) := by
  obtain ⟨fd, G, b, kp⟩ := F.ex
  exact pe_call G hr hg hm kp b .nil passN ha hdb he hpl
theorem pe_m {pl : Sem Bool} (he : PE X o ta) (c : Cls X.K C) (hm : Meth X.K C m f) (F : Okp X.prog X.w X.K X.mg X.base k f ps sp) (hr : Room k X.A) (ha : PA X (e :: es) t)
    (hst : starEach (e :: es) X.env = (false, eval e X.env) :: starEach es X.env := by rfl) (hpl : (backTo pos (starEach es X.env)).any (·.1) = false := by rfl)
    (ht : eval (.Call (.Attribute o m apos) (e :: es) [] pos) X.env = (do
      let ov ← eval o X.env
      standAt apos.atName
      let (f, first) ← holding [ov] (getMethod ov m pl)
      callWith pos f first (backTo pos (starEach (e :: es) X.env)) (backToKw pos (keywordEach [] X.env))) := by rfl) : PE X (.Call (.Attribute o m apos) (e :: es) [] pos) (tMeth C m sp [] E0 ta t) := by
  obtain ⟨fd, G, b, kp⟩ := F.ex
  exact pe_meth he c hm G hr b .nil passN ha hst hpl ht
theorem pe_m0 {pl : Sem Bool} (he : PE X o ta) (c : Cls X.K C) (hm : Meth X.K C m f) (F : Okp X.prog X.w X.K X.mg X.base k f ps sp) (hr : Room k X.A)
    (ht : eval (.Call (.Attribute o m apos) [] [] pos) X.env = (do
      let ov ← eval o X.env
      standAt apos.atName
      let (f, first) ← holding [ov] (getMethod ov m pl)
      callWith pos f first (backTo pos (starEach [] X.env)) (backToKw pos (keywordEach [] X.env))) := by rfl) : PE X (.Call (.Attribute o m apos) [] [] pos) (tMeth C m sp [] E0 ta tNil) := by
  obtain ⟨fd, G, b, kp⟩ := F.ex
  exact pe_meth0 he c hm G hr b .nil passN ht
/-- C(..) -/
theorem pe_mk (M : Mk X.K C f) (F : Okp X.prog X.w X.K X.mg X.base k f ps sp) (hm : X.mg x = some (.ref C)) (hr : Room (k + 1) X.A) (ha : PA X (e :: es) t) (hg : Gl X x := by rfl) (hdb : (x == ("__debug__" : Str)) = false := by decide)
    (he : starEach (e :: es) X.env = (false, eval e X.env) :: starEach es X.env := by rfl) (hpl : (backTo pos (starEach es X.env)).any (·.1) = false := by rfl) : PE X (.Call (.Name x p) (e :: es) [] pos) (tMake C sp [] E0 t) := by
  obtain ⟨fd, G, b, kp⟩ := F.ex
  exact pe_make M G hr hg hm b .nil passN ha hdb he hpl
theorem pe_mk0 (M : Mk X.K C f) (F : Okp X.prog X.w X.K X.mg X.base k f ps sp) (hm : X.mg x = some (.ref C)) (hr : Room (k + 1) X.A) (hg : Gl X x := by rfl) (hdb : (x == ("__debug__" : Str)) = false := by decide) : PE X (.Call (.Name x p) [] [] pos) (tMake C sp [] E0 tNil) := by
  obtain ⟨fd, G, b, kp⟩ := F.ex
  exact pe_make0 M G hr hg hm b .nil passN hdb
/-- xs[i], for xs[i] op= e -/
theorem get_list : PGet X (rIxL X.K) := by
  intro pins s σ H x y v u Q I rx ry h
  obtain ⟨p, xs, i, z, rfl, rfl, hq, he, q⟩ := h
  cases rx
  obtain ⟨t, rfl⟩ := ry
  obtain ⟨its, r, pl, hz⟩ := I.list hq
  obtain ⟨j, h1, h2, h3, h4, h5⟩ := atI_get he
  obtain ⟨w, ew, rw'⟩ := r.get h2
  have hl := r.length
  have hn := line63
  have fin : EP X pins σ Q w s := ⟨z, H, I, rw', q⟩
  by_cases h0 : 0 ≤ i
  · have hj : i.toNat = j := by
      rw [seqIndex_of h0 h5] at h1
      exact Option.some.inj h1
    exact wpAny_getItem_list pl.isList h0 (by omega) (by rw [hj]; simpa using ew) fin
  · have hj : (i + (its.toArray.size : Int)).toNat = j := by
      rw [seqIndex_neg (by omega) h4] at h1
      rw [List.size_toArray, ← hl]
      exact Option.some.inj h1
    exact wpAny_getItem_list_neg (Q := fun r s' => EP X pins σ Q r s') pl.isList (by omega) (by rw [List.size_toArray] <;> omega) (by omega) (by rw [hj]; simpa using ew) fin
end

-- part K9S
/-! ### Store -/
def owV (ow : List Nat) : List V := ow.map fun n : Nat => V.int (n : Int)
theorem owV_len (ow : List Nat) : (owV ow).length = ow.length := by unfold owV; rw [List.length_map]
def stF (lo lc : Addr) : List (Str × V) := [("owners", .ref lo), ("contents", .ref lc)]
theorem stF_owners (lo lc : Addr) : (stF lo lc).lookup ("owners" : Str) = some (.ref lo) := by kernel_rfl
theorem stF_contents (lo lc : Addr) : (stF lo lc).lookup ("contents" : Str) = some (.ref lc) := by kernel_rfl
theorem stF_put (lo lc : Addr) : putF "contents" (.ref lc) (putF "owners" (.ref lo) []) = stF lo lc := by kernel_rfl
abbrev cSt (K : PySem.W.Frag) : Addr := He.ga K "Store"
structure StoreAt (K : PySem.W.Frag) (g : Col) (H : Hp) (b : Bool) (s : Addr) (ow : List Nat) : Prop where
  ex : ∃ (dx lo lc : Addr) (cs : List Addr), Pt g (.sob b) H s (.ins (cSt K) dx (stF lo lc)) ∧ Pt g (.sow b) H lo (.lst (owV ow)) ∧ Pt g (.sco b) H lc (.lst (cs.map V.ref)) ∧ cs.length = ow.length ∧
    ∀ c, c ∈ cs → ∃ vs, Pt g (.sce b) H c (.lst vs) ∧ vs.length ≤ 8
  len : ow.length ≤ 60
def isSt (b : Bool) : Role → Bool
  | .sob c => c == b
  | .sow c => c == b
  | .sco c => c == b
  | .sce c => c == b
  | _ => false
theorem St_ne {b : Bool} {r0 : Role} (h0 : isSt b r0 = false) : ∀ r, isSt b r = true → (r == r0) = false := fun r h => beq_false_of_ne fun e => by rw [e, h0] at h; cases h
theorem St_St {b c : Bool} (n : b ≠ c) : ∀ r, isSt b r = true → isSt c r = false := fun r h => by
  cases r <;> first | (cases h; done) | (simp only [isSt, beq_iff_eq] at h ⊢; rw [h]; simp [n])
theorem StoreAt.keep {K : PySem.W.Frag} {R : Role → Bool} {g g1 : Col} {H H1 : Hp} {b : Bool} {s : Addr} {ow : List Nat} (x : StoreAt K g H b s ow) (G : Grow R g H g1 H1) (n : ∀ r, isSt b r = true → R r = false) : StoreAt K g1 H1 b s ow := by
  obtain ⟨dx, lo, lc, cs, h1, h2, h3, h4, h5⟩ := x.ex
  refine ⟨⟨dx, lo, lc, cs, h1.keep G (n _ (by simp [isSt])), h2.keep G (n _ (by simp [isSt])), h3.keep G (n _ (by simp [isSt])), h4, fun c hc => ?_⟩, x.len⟩
  obtain ⟨vs, e, l⟩ := h5 c hc
  exact ⟨vs, e.keep G (n _ (by simp [isSt])), l⟩
theorem StoreAt.same {K : PySem.W.Frag} {g : Col} {H H1 : Hp} {b : Bool} {s : Addr} {ow : List Nat} (x : StoreAt K g H b s ow) (l : Live g H) (e : Same H H1) : StoreAt K g H1 b s ow :=
  x.keep (R := fun _ => false) (Grow.same l e) fun _ _ => rfl
section
variable {P : Program} {w : World} {K : PySem.W.Frag} {mg : Str → Option Value} {base : Heap}
theorem line60 {n : Nat} (h : n ≤ 1000) : n ≤ sizeLine := Nat.le_of_lt (small1000 h)
/-- the arguments' heap, then a promise with a new colouring -/
def Out (R : Role → Bool) (g : Col) (H : Hp) (Φ : Col → Hp → Prop) (q : Hp → Prop) : Prop := ∀ g' H', Grow R g H g' H' → Φ g' H' → q H'
def spStInit (K : PySem.W.Frag) : Sp := Sp2 fun x v H Q _ => ∃ (g : Col) (b : Bool) (p dx : Addr) (m : Nat), x = .ref p ∧ v = .int (m : Int) ∧ m ≤ 60 ∧ Live g H ∧ Pt g (.sob b) H p (.ins (cSt K) dx []) ∧
  Out (isSt b) g H (fun g' H' => StoreAt K g' H' b p (List.replicate m 0)) (Q .non)
theorem flat_rep {α : Type} (a : α) : ∀ n : Nat, (List.replicate n [a]).flatten = List.replicate n a
  | 0 => rfl
  | n + 1 => by rw [List.replicate_succ, List.flatten_cons, flat_rep a n]; rfl
theorem owV_rep (m : Nat) : owV (List.replicate m 0) = List.replicate m (V.int 0) := by unfold owV; rw [List.map_replicate]; rfl
def isCo (b : Bool) : Role → Bool
  | .sco c => c == b
  | .sce c => c == b
  | _ => false
theorem isCo_St {b : Bool} : ∀ r, isCo b r = true → isSt b r = true := fun r h => by cases r <;> simp_all [isCo, isSt]
theorem ok_StInit (T : Tx K mg) : Okp P w K mg base 1 (He.fAd K ("Store", some "__init__")) ["self", "many"] (spStInit K) := by
  refine okn len2 T.f_Store_init sc_Store_init fun cdv A outer s H vs Q E hr h => ?_
  obtain ⟨_, _, rfl, g, b, p, dx, m, rfl, rfl, hm, L, hp, k⟩ := h
  obtain ⟨ti, hti⟩ := T.i_PAGE_SIZE
  have nd := sc_Store_init.nd
  refine ⟨_, pss_cons (ps_fld (pv 0) (pe_op op_rep (pe_lst (pa_cons pe_int pa_nil)) (pv 1)) rfl)
    (pss_one (ps_fld (pv 0) (pe_lc (own := [("page", 2)]) (g := gName 2) (tt := tYes) rfl nd (pi_range1 rfl T.n_range (pa_cons (pv 1) pa_nil)) (blkOk_by (N := ["self", "many", "page"]) (sc := defScope st_Store_init) (by decide +kernel))
      (fun _ _ _ _ _ => pg_name (i := 2) nd rfl (Or.inl rfl)) (fun _ _ _ _ _ => pts_nil) (fun _ _ _ _ _ => pe_op op_rep (pe_lst (pa_cons pe_int pa_nil)) (pe_glob (v := .int 8) rfl hti ⟨_, rfl⟩))) rfl)), ?_⟩
  -- self.owners = [0] * many
  refine ⟨by decide, fun q hq => ⟨_, rfl, q, (m : Int), _, rfl, rfl, upd_same, by omega, by omega, by simp; exact line60 (by omega), fun lo hlo => ?_⟩⟩
  have nlo : H lo = none := by
    by_cases e : lo = q
    · rw [e]; exact hq
    · rw [upd_ne e] at hlo; exact hlo
  refine ⟨_, rfl, p, cSt K, dx, [], rfl, ?_, T.c_Store, T.a_Store_owners, by decide, ?_⟩
  · rw [upd_ne (hp.temp hq |>.new hlo), upd_ne (hp.new hq)]
    exact hp.h
  -- colours
  have G1 : Grow (isSt b) g H g (upd H q (.lst [.int 0])) := Grow.temp L hq
  have L1 := G1.live L
  have G2 : Grow (isSt b) g (upd H q (.lst [.int 0])) (updC g lo (.sow b)) (upd (upd H q (.lst [.int 0])) lo (.lst (owV (List.replicate m 0)))) := Grow.made L1 hlo (by simp [isSt])
  have L2' := G2.live L1
  have hp2 : Pt (updC g lo (.sow b)) (.sob b) (upd (upd H q (.lst [.int 0])) lo (.lst (owV (List.replicate m 0)))) p (.ins (cSt K) dx []) := (hp.temp hq).made hlo
  have hl2 : Pt (updC g lo (.sow b)) (.sow b) (upd (upd H q (.lst [.int 0])) lo (.lst (owV (List.replicate m 0)))) lo (.lst (owV (List.replicate m 0))) := Pt.mk'
  have G3 := Grow.write (R := isSt b) (o := .ins (cSt K) dx (putF "owners" (.ref lo) [])) L2' hp2.h (by intro xs z; cases z) hp2.c (by simp [isSt])
  have hp3 := hp2.self (v := .ins (cSt K) dx (putF "owners" (.ref lo) []))
  have hl3 := hl2.other (v := .ins (cSt K) dx (putF "owners" (.ref lo) [])) hp2 (by simp)
  have eH : (List.replicate (m : Int).toNat [V.int 0]).flatten = owV (List.replicate m 0) := by rw [flat_rep, owV_rep]; rfl
  rw [eH]
  have GA := (G1.trans G2).trans G3
  have LA := GA.live L
  generalize hgA : updC g lo (.sow b) = gA at *
  generalize hHA : upd (upd (upd H q (.lst [.int 0])) lo (.lst (owV (List.replicate m 0)))) p (.ins (cSt K) dx (putF "owners" (.ref lo) [])) = HA at *
  -- the comprehension
  refine ⟨_, rfl, _, rfl, by omega, by omega, fun D hD => lc_range (lo := 0) (n := (m : Int).toNat) (fun i H2 => ∃ (g2 : Col) (cs : List Addr), Grow (isCo b) gA HA g2 H2 ∧ Pt g2 (.sco b) H2 D (.lst (cs.map V.ref)) ∧ cs.length = i ∧
      ∀ c, c ∈ cs → ∃ vs, Pt g2 (.sce b) H2 c (.lst vs) ∧ vs.length ≤ 8) ?_ ?_ ?_⟩
  · exact ⟨updC gA D (.sco b), [], Grow.made LA hD (by simp [isCo]), Pt.mk', rfl, fun c hc => by cases hc⟩
  · rintro i H2 hi ⟨g2, cs, GB, hD2, hcs, hc⟩
    have LB := GB.live LA
    refine ⟨rfl, ?_⟩
    dsimp only [tYes]
    refine iteT ?_
    refine ⟨by decide, fun q2 hq2 => ⟨q2, 8, _, rfl, rfl, upd_same, by omega, by omega, by decide, fun c2 hc2 => ?_⟩⟩
    have G4 : Grow (isCo b) g2 H2 g2 (upd H2 q2 (.lst [.int 0])) := Grow.temp LB hq2
    have G5 := Grow.made (R := isCo b) (r := .sce b) (o := .lst (List.replicate (8 : Int).toNat [V.int 0]).flatten) (G4.live LB) hc2 (by simp [isCo])
    have hD5 := (hD2.temp (v := .lst [.int 0]) hq2).made (r' := .sce b) (v := .lst (List.replicate (8 : Int).toNat [V.int 0]).flatten) hc2
    have hc5 : Pt (updC g2 c2 (.sce b)) (.sce b) (upd (upd H2 q2 (.lst [.int 0])) c2 (.lst (List.replicate (8 : Int).toNat [V.int 0]).flatten)) c2 _ := Pt.mk'
    refine ⟨_, hD5.h, by rw [List.length_map, hcs]; exact Nat.lt_of_lt_of_le (by omega) (line60 (n := 61) (by omega)), updC g2 c2 (.sce b), cs ++ [c2], ?_, ?_, by simp [hcs], fun c hcm => ?_⟩
    · exact ((GB.trans G4).trans G5).trans (Grow.write ((G5.live (G4.live LB))) hD5.h (by intro xs z; cases z) hD5.c (by simp [isCo]))
    · rw [List.map_append]
      exact hD5.self
    · rcases List.mem_append.mp hcm with hcm | hcm
      · obtain ⟨vs, e, l⟩ := hc c hcm
        exact ⟨vs, ((e.temp hq2).made hc2).other hD5 (by simp), l⟩
      · have ec : c = c2 := by simpa using hcm
        subst ec
        exact ⟨_, hc5.other hD5 (by simp), by decide⟩
  · rintro H2 ⟨g2, cs, GB, hD2, hcs, hc⟩
    have LB := GB.live LA
    -- self.contents = ..
    have hp5 := hp3.keep GB (by simp [isCo])
    have hl5 := hl3.keep GB (by simp [isCo])
    refine ⟨_, rfl, p, cSt K, dx, _, rfl, hp5.h, T.c_Store, T.a_Store_contents, (by show (1 : Nat) < 1000; decide), ?_⟩
    refine k g2 _ ((GA.trans (GB.mono isCo_St)).trans (Grow.write LB hp5.h (by intro xs z; cases z) hp5.c (by simp [isSt]))) ⟨⟨dx, lo, D, cs, ?_, hl5.other hp5 (by simp), hD2.other hp5 (by simp), ?_, fun c hcm => ?_⟩, ?_⟩
    · rw [← stF_put]
      exact hp5.self
    · rw [hcs, List.length_replicate]
      omega
    · obtain ⟨vs, e, l⟩ := hc c hcm
      exact ⟨vs, e.other hp5 (by simp), l⟩
    · rw [List.length_replicate]
      exact hm
/-- the least free page -/
def frst : List Nat → Option Nat
  | [] => none
  | n :: r => if n = 0 then some 0 else (frst r).map (· + 1)
theorem frst_some : ∀ {l : List Nat} {i : Nat}, frst l = some i → l[i]? = some 0 ∧ ∀ j n, j < i → l[j]? = some n → n ≠ 0
  | [], i, h => by cases h
  | n :: r, i, h => by
    unfold frst at h
    by_cases e : n = 0
    · rw [if_pos e] at h
      cases h
      exact ⟨by rw [e]; rfl, fun j n hj => absurd hj (Nat.not_lt_zero _)⟩
    · rw [if_neg e] at h
      cases q : frst r with
      | none => rw [q] at h; cases h
      | some k =>
        rw [q] at h
        have h : k + 1 = i := by simpa using h
        subst h
        obtain ⟨a, b⟩ := frst_some q
        refine ⟨by simpa using a, fun j m hj hm => ?_⟩
        cases j with
        | zero => simp at hm; rw [← hm]; exact e
        | succ j => exact b j m (by omega) (by simpa using hm)
theorem frst_none : ∀ {l : List Nat}, frst l = none → ∀ n, n ∈ l → n ≠ 0
  | [], h => fun n hn => by cases hn
  | n :: r, h => by
    unfold frst at h
    by_cases e : n = 0
    · rw [if_pos e] at h; cases h
    · rw [if_neg e] at h
      have q : frst r = none := by
        cases q : frst r with
        | none => rfl
        | some k => rw [q] at h; cases h
      intro m hm
      rcases List.mem_cons.mp hm with z | z
      · rw [z]; exact e
      · exact frst_none q m z
theorem flat_owV (ow : List Nat) : (owV ow).all flatV = true := by
  unfold owV
  rw [List.all_map, List.all_eq_true]
  intro n _
  rfl
theorem owV_at {ow : List Nat} {i n : Nat} (h : ow[i]? = some n) : (owV ow)[i]? = some (V.int (n : Int)) := by
  unfold owV
  rw [List.getElem?_map, h]
  rfl
theorem owV_of {ow : List Nat} {i : Nat} {v : V} (h : (owV ow)[i]? = some v) : ∃ n : Nat, ow[i]? = some n ∧ v = V.int (n : Int) := by
  unfold owV at h
  rw [List.getElem?_map] at h
  cases q : ow[i]? with
  | none => rw [q] at h; cases h
  | some n => rw [q] at h; cases h; exact ⟨n, rfl, rfl⟩
theorem owV_set (ow : List Nat) (i n : Nat) : (owV ow).set i (V.int (n : Int)) = owV (ow.set i n) := by
  unfold owV
  rw [List.map_set]
theorem inV_owV (ow : List Nat) : inV (.int 0) (owV ow) = (frst ow).isSome := by
  unfold inV owV
  rw [List.any_map]
  induction ow with
  | nil => rfl
  | cons n r ih =>
    rw [List.any_cons, ih]
    show _ = (if n = 0 then some 0 else (frst r).map (· + 1)).isSome
    by_cases e : n = 0
    · rw [if_pos e, e]
      rfl
    · rw [if_neg e]
      have q : eqV (V.int (n : Int)) (.int 0) = false := by
        show ((n : Int) == 0) = false
        rw [beq_eq_false_iff_ne]
        omega
      show (eqV (V.int (n : Int)) (.int 0) || (frst r).isSome) = _
      rw [q]
      cases frst r <;> rfl
theorem ixN_nat {n i : Nat} (h : i < n) : ixN n (i : Int) = some i := by
  unfold ixN
  rw [if_pos (by omega), if_pos (by omega)]
  simp
def spStCount (K : PySem.W.Frag) : Sp := Sp2 fun x v H Q _ => ∃ (g : Col) (b : Bool) (s : Addr) (ow : List Nat) (i n : Nat), x = .ref s ∧ v = .int (i : Int) ∧ StoreAt K g H b s ow ∧ ow[i]? = some n ∧ Q (.int (n : Int)) H
theorem ok_StCount (T : Tx K mg) : Okp P w K mg base 1 (He.fAd K ("Store", some "count")) ["self", "page"] (spStCount K) := by
  refine okn len2 T.f_Store_count sc_Store_count fun cdv A outer s0 H vs Q E hr h => ?_
  obtain ⟨_, _, rfl, g, b, s, ow, i, n, rfl, rfl, S, hi, k⟩ := h
  obtain ⟨dx, lo, lc, cs, h1, h2, h3, h4, h5⟩ := S.ex
  refine ⟨_, pss_cons (ps_if (pt_not (pt_chain op_le op_lt pe_int (pv 1) (pe_callB call_len_seq (by rfl) T.n_len PySem.boot_len (pa_cons (pe_fld (pv 0) rfl) pa_nil)))) (pss_one (ps_ret pe_int)) pss_nil)
    (pss_one (ps_ret (pe_ix ix_list (pe_fld (pv 0) rfl) (pv 1) (fun _ _ => rfl)))), ?_⟩
  have hil : i < ow.length := (List.getElem?_eq_some_iff.mp hi).1
  refine ⟨_, rfl, _, _, rfl, rfl, _, rfl, ?_⟩
  have e0 : decide ((0 : Int) ≤ (i : Int)) = true := decide_eq_true (by omega)
  rw [e0]
  refine iteT ?_
  refine ⟨_, rfl, s, cSt K, dx, _, _, rfl, h1.h, T.c_Store, T.a_Store_owners, stF_owners lo lc, lo, _, rfl, .inl (SqL.of h2.h), _, _, rfl, rfl, _, rfl, ?_⟩
  have e1 : decide ((i : Int) < ((owV ow).length : Nat)) = true := decide_eq_true (by rw [owV_len]; omega)
  rw [e1]
  refine iteF ?_
  exact ⟨_, rfl, s, cSt K, dx, _, _, rfl, h1.h, T.c_Store, T.a_Store_owners, stF_owners lo lc, _, rfl, lo, _, _, _, rfl, rfl, SqL.of h2.h, atI_nat (owV_at hi), k⟩
def spStLook (K : PySem.W.Frag) : Sp := Sp2 fun x v H Q _ => ∃ (g : Col) (b : Bool) (s : Addr) (ow : List Nat) (i n : Nat), x = .ref s ∧ v = .int (i : Int) ∧ StoreAt K g H b s ow ∧ ow[i]? = some (n + 1) ∧ Q .non H
theorem ok_StLook (T : Tx K mg) : Okp P w K mg base 2 (He.fAd K ("Store", some "look_taken")) ["self", "page"] (spStLook K) := by
  refine okn len2 T.f_Store_look_taken sc_Store_look_taken fun cdv A outer s0 H vs Q E hr h => ?_
  obtain ⟨_, _, rfl, g, b, s, ow, i, n, rfl, rfl, S, hi, k⟩ := h
  obtain ⟨dx, lo, lc, cs, h1, h2, h3, h4, h5⟩ := S.ex
  refine ⟨_, pss_one (ps_if (pt_cmpR op_eq (pe_m (pv 0) T.c_Store T.m_Store_count (ok_StCount T) hr (pa_cons (pv 1) pa_nil)) pe_int (nomark _)) (pss_one ps_never) pss_nil), ?_⟩
  refine ⟨_, rfl, s, dx, _, rfl, h1.h, by kernel_rfl, _, rfl, _, _, rfl, g, b, s, ow, i, n + 1, rfl, rfl, S, hi, rfl, _, rfl, ?_⟩
  have e : decide (V.int ((n + 1 : Nat) : Int) = V.int 0) = false := decide_eq_false (by intro z; injection z with z; omega)
  rw [e]
  exact iteF k
def spStAdd (K : PySem.W.Frag) (z : Nat → Nat) : Sp := Sp2 fun x v H Q _ => ∃ (g : Col) (b : Bool) (s : Addr) (ow : List Nat) (i n : Nat), x = .ref s ∧ v = .int (i : Int) ∧ Live g H ∧ StoreAt K g H b s ow ∧ ow[i]? = some (n + 1) ∧
  Out (isSt b) g H (fun g' H' => StoreAt K g' H' b s (ow.set i (z n))) (Q .non)
theorem StoreAt.own {g : Col} {H : Hp} {b : Bool} {s dx lo lc : Addr} {ow : List Nat} {cs : List Addr} (h1 : Pt g (.sob b) H s (.ins (cSt K) dx (stF lo lc))) (h2 : Pt g (.sow b) H lo (.lst (owV ow))) (h3 : Pt g (.sco b) H lc (.lst (cs.map V.ref))) (h4 : cs.length = ow.length)
    (h5 : ∀ c, c ∈ cs → ∃ vs, Pt g (.sce b) H c (.lst vs) ∧ vs.length ≤ 8) (hl : ow.length ≤ 60) (i n : Nat) : StoreAt K g (upd H lo (.lst (owV (ow.set i n)))) b s (ow.set i n) :=
  ⟨⟨dx, lo, lc, cs, h1.other h2 (by simp), h2.self, h3.other h2 (by simp), by rw [List.length_set]; exact h4, fun c hc => let ⟨vs, e, l⟩ := h5 c hc; ⟨vs, e.other h2 (by simp), l⟩⟩, by rw [List.length_set]; exact hl⟩
theorem ok_StMore (T : Tx K mg) : Okp P w K mg base 3 (He.fAd K ("Store", some "more")) ["self", "page"] (spStAdd K fun n => n + 2) := by
  refine okn len2 T.f_Store_more sc_Store_more fun cdv A outer s0 H vs Q E hr h => ?_
  obtain ⟨_, _, rfl, g, b, s, ow, i, n, rfl, rfl, L, S, hi, k⟩ := h
  obtain ⟨dx, lo, lc, cs, h1, h2, h3, h4, h5⟩ := S.ex
  refine ⟨_, pss_cons (ps_expr (pe_m (pv 0) T.c_Store T.m_Store_look_taken (ok_StLook T) hr (pa_cons (pv 1) pa_nil)))
    (pss_one (ps_augS (pe_fld (pv 0) rfl) (pv 1) get_list pe_int ip_add set_list)), ?_⟩
  have hil : i < ow.length := (List.getElem?_eq_some_iff.mp hi).1
  refine ⟨_, rfl, s, dx, _, rfl, h1.h, by kernel_rfl, _, rfl, _, _, rfl, g, b, s, ow, i, n, rfl, rfl, S, hi, ?_⟩
  refine ⟨_, rfl, s, cSt K, dx, _, _, rfl, h1.h, T.c_Store, T.a_Store_owners, stF_owners lo lc, _, rfl, lo, _, _, _, rfl, rfl, SqL.of h2.h, atI_nat (owV_at hi), _, _, rfl, rfl, lo, _, _, i, rfl, rfl, h2.h, ixN_nat (by rw [owV_len]; exact hil), ?_⟩
  have e : V.int (((n + 1 : Nat) : Int) + 1) = V.int ((n + 2 : Nat) : Int) := by congr 1
  rw [e, owV_set]
  exact k g _ (Grow.write L h2.h (by intro xs z; cases z) h2.c (by simp [isSt])) (StoreAt.own h1 h2 h3 h4 h5 S.len i (n + 2))
theorem ok_StLess (T : Tx K mg) : Okp P w K mg base 3 (He.fAd K ("Store", some "less")) ["self", "page"] (spStAdd K fun n => n) := by
  refine okn len2 T.f_Store_less sc_Store_less fun cdv A outer s0 H vs Q E hr h => ?_
  obtain ⟨_, _, rfl, g, b, s, ow, i, n, rfl, rfl, L, S, hi, k⟩ := h
  obtain ⟨dx, lo, lc, cs, h1, h2, h3, h4, h5⟩ := S.ex
  refine ⟨_, pss_cons (ps_expr (pe_m (pv 0) T.c_Store T.m_Store_look_taken (ok_StLook T) hr (pa_cons (pv 1) pa_nil)))
    (pss_one (ps_augS (pe_fld (pv 0) rfl) (pv 1) get_list pe_int ip_sub set_list)), ?_⟩
  have hil : i < ow.length := (List.getElem?_eq_some_iff.mp hi).1
  refine ⟨_, rfl, s, dx, _, rfl, h1.h, by kernel_rfl, _, rfl, _, _, rfl, g, b, s, ow, i, n, rfl, rfl, S, hi, ?_⟩
  refine ⟨_, rfl, s, cSt K, dx, _, _, rfl, h1.h, T.c_Store, T.a_Store_owners, stF_owners lo lc, _, rfl, lo, _, _, _, rfl, rfl, SqL.of h2.h, atI_nat (owV_at hi), _, _, rfl, rfl, lo, _, _, i, rfl, rfl, h2.h, ixN_nat (by rw [owV_len]; exact hil), ?_⟩
  have e : V.int (((n + 1 : Nat) : Int) - 1) = V.int (n : Int) := by congr 1; omega
  rw [e, owV_set]
  exact k g _ (Grow.write L h2.h (by intro xs z; cases z) h2.c (by simp [isSt])) (StoreAt.own h1 h2 h3 h4 h5 S.len i n)
theorem count_int (ow : List Nat) : (ow.map fun n : Nat => (n : Int)).count 0 = ow.count 0 := by
  induction ow with
  | nil => rfl
  | cons n r ih =>
    rw [List.map_cons, List.count_cons, List.count_cons, ih]
    by_cases z : n = 0
    · rw [z]; rfl
    · have z1 : (((n : Nat) : Int) == 0) = false := by rw [beq_eq_false_iff_ne]; omega
      have z2 : (n == 0) = false := by rw [beq_eq_false_iff_ne]; exact z
      rw [z1, z2]
def spStFree (K : PySem.W.Frag) : Sp := Sp1 fun x H Q _ => ∃ (g : Col) (b : Bool) (s : Addr) (ow : List Nat), x = .ref s ∧ StoreAt K g H b s ow ∧ Q (.int (ow.count 0 : Nat)) H
theorem ok_StFree (T : Tx K mg) : Okp P w K mg base 1 (He.fAd K ("Store", some "free")) ["self"] (spStFree K) := by
  refine okn len1 T.f_Store_free sc_Store_free fun cdv A outer s0 H vs Q E hr h => ?_
  obtain ⟨_, rfl, g, b, s, ow, rfl, S, k⟩ := h
  obtain ⟨dx, lo, lc, cs, h1, h2, h3, h4, h5⟩ := S.ex
  refine ⟨_, pss_one (ps_ret (pe_bm PySem.F.plainAttrs_list PySem.F.slot_list_count PySem.F.type_list_count mt_lcount (pe_fld (pv 0) rfl) (pa_cons pe_int pa_nil))), ?_⟩
  have e : owV ow = (ow.map fun n : Nat => (n : Int)).map V.int := by unfold owV; rw [List.map_map]; rfl
  refine ⟨_, rfl, s, cSt K, dx, _, _, rfl, h1.h, T.c_Store, T.a_Store_owners, stF_owners lo lc, .inl ⟨rfl, _, SqL.of h2.h⟩, lo, ow.map fun n : Nat => (n : Int), 0, rfl, rfl, SqL.of (by rw [← e]; exact h2.h), ?_⟩
  have e2 := count_int ow
  rw [e2]
  exact k
def spStCells (K : PySem.W.Frag) : Sp := Sp2 fun x v H Q _ => ∃ (g : Col) (b : Bool) (s : Addr) (ow : List Nat) (i n : Nat), x = .ref s ∧ v = .int (i : Int) ∧ StoreAt K g H b s ow ∧ ow[i]? = some (n + 1) ∧
  ∀ p vs, H p = none → vs.length ≤ 8 → Q (.ref p) (upd H p (.lst vs))
theorem ok_StCells (T : Tx K mg) : Okp P w K mg base 3 (He.fAd K ("Store", some "cells")) ["self", "page"] (spStCells K) := by
  refine okn len2 T.f_Store_cells sc_Store_cells fun cdv A outer s0 H vs Q E hr h => ?_
  obtain ⟨_, _, rfl, g, b, s, ow, i, n, rfl, rfl, S, hi, k⟩ := h
  obtain ⟨dx, lo, lc, cs, h1, h2, h3, h4, h5⟩ := S.ex
  refine ⟨_, pss_cons (ps_expr (pe_m (pv 0) T.c_Store T.m_Store_look_taken (ok_StLook T) hr (pa_cons (pv 1) pa_nil)))
    (pss_one (ps_ret (pe_callTy call_list_of (by rfl) T.n_list (by decide +kernel) (pa_cons (pe_ix ix_list (pe_fld (pv 0) rfl) (pv 1) (fun _ _ => rfl)) pa_nil)))), ?_⟩
  have hil : i < ow.length := (List.getElem?_eq_some_iff.mp hi).1
  have hic : i < cs.length := by omega
  obtain ⟨vs, e, l⟩ := h5 cs[i] (List.getElem_mem hic)
  have hcv : (cs.map V.ref)[i]? = some (.ref cs[i]) := by rw [List.getElem?_map, List.getElem?_eq_getElem hic]; rfl
  refine ⟨_, rfl, s, dx, _, rfl, h1.h, by kernel_rfl, _, rfl, _, _, rfl, g, b, s, ow, i, n, rfl, rfl, S, hi, ?_⟩
  exact ⟨_, rfl, s, cSt K, dx, _, _, rfl, h1.h, T.c_Store, T.a_Store_contents, stF_contents lo lc, _, rfl, lc, _, _, _, rfl, rfl, SqL.of h3.h, atI_nat hcv, cs[i], vs, rfl, .inl (SqL.of e.h), fun p hp => k p vs hp l⟩
/-- the contents' list has another item -/
theorem StoreAt.con {g : Col} {H : Hp} {b : Bool} {s dx lo lc p : Addr} {ow : List Nat} {cs : List Addr} {vs : List V} (L : Live g H) (h1 : Pt g (.sob b) H s (.ins (cSt K) dx (stF lo lc))) (h2 : Pt g (.sow b) H lo (.lst (owV ow))) (h3 : Pt g (.sco b) H lc (.lst (cs.map V.ref))) (h4 : cs.length = ow.length)
    (h5 : ∀ c, c ∈ cs → ∃ vs, Pt g (.sce b) H c (.lst vs) ∧ vs.length ≤ 8) (hl : ow.length ≤ 60) (hp : H p = none) (hv : vs.length ≤ 8) (i : Nat) :
    Grow (isSt b) g H (updC g p (.sce b)) (upd (upd H p (.lst vs)) lc (.lst ((cs.set i p).map V.ref))) ∧ StoreAt K (updC g p (.sce b)) (upd (upd H p (.lst vs)) lc (.lst ((cs.set i p).map V.ref))) b s ow := by
  have G1 : Grow (isSt b) g H (updC g p (.sce b)) (upd H p (.lst vs)) := Grow.made L hp (by simp [isSt])
  have h3' : Pt (updC g p (.sce b)) (.sco b) (upd H p (.lst vs)) lc _ := h3.made hp
  refine ⟨G1.trans (Grow.write (G1.live L) h3'.h (by intro xs z; cases z) h3'.c (by simp [isSt])), ⟨dx, lo, lc, cs.set i p, (h1.made hp).other h3' (by simp), (h2.made hp).other h3' (by simp), h3'.self, by rw [List.length_set]; exact h4, fun c hc => ?_⟩, hl⟩
  rcases List.mem_or_eq_of_mem_set hc with hc | rfl
  · obtain ⟨vs, e, l⟩ := h5 c hc
    exact ⟨vs, (e.made hp).other h3' (by simp), l⟩
  · exact ⟨vs, Pt.other (Pt.mk' (g := g)) h3' (by simp), hv⟩
theorem refs_set (cs : List Addr) (i : Nat) (p : Addr) : (cs.map V.ref).set i (.ref p) = (cs.set i p).map V.ref := by rw [List.map_set]
def spStPut (K : PySem.W.Frag) : Sp := Sp3 fun x v c H Q _ => ∃ (g : Col) (b : Bool) (s : Addr) (ow : List Nat) (i n : Nat) (a : Addr) (vs : List V), x = .ref s ∧ v = .int (i : Int) ∧ c = .ref a ∧ Live g H ∧ StoreAt K g H b s ow ∧ ow[i]? = some (n + 1) ∧ H a = some (.lst vs) ∧ vs.length ≤ 8 ∧
  Out (isSt b) g H (fun g' H' => StoreAt K g' H' b s ow) (Q .non)
theorem ok_StPut (T : Tx K mg) : Okp P w K mg base 3 (He.fAd K ("Store", some "put")) ["self", "page", "cells"] (spStPut K) := by
  refine okn len3 T.f_Store_put sc_Store_put fun cdv A outer s0 H vs Q E hr h => ?_
  obtain ⟨_, _, _, rfl, g, b, s, ow, i, n, a, vs, rfl, rfl, rfl, L, S, hi, ha, hv, k⟩ := h
  obtain ⟨dx, lo, lc, cs, h1, h2, h3, h4, h5⟩ := S.ex
  refine ⟨_, pss_cons (ps_expr (pe_m (pv 0) T.c_Store T.m_Store_look_taken (ok_StLook T) hr (pa_cons (pv 1) pa_nil)))
    (pss_one (ps_asg (pe_callTy call_list_of (by rfl) T.n_list (by decide +kernel) (pa_cons (pv 2) pa_nil)) (pg_sub (pe_fld (pv 0) rfl) (pv 1) set_list))), ?_⟩
  have hil : i < ow.length := (List.getElem?_eq_some_iff.mp hi).1
  have hic : i < (cs.map V.ref).length := by rw [List.length_map]; omega
  refine ⟨_, rfl, s, dx, _, rfl, h1.h, by kernel_rfl, _, rfl, _, _, rfl, g, b, s, ow, i, n, rfl, rfl, S, hi, ?_⟩
  refine ⟨_, rfl, a, vs, rfl, .inl (SqL.of ha), fun p hp => ?_⟩
  refine ⟨_, rfl, s, cSt K, dx, _, _, rfl, (h1.temp hp).h, T.c_Store, T.a_Store_contents, stF_contents lo lc, _, rfl, lc, _, _, i, rfl, rfl, (h3.temp hp).h, ixN_nat hic, ?_⟩
  rw [refs_set]
  obtain ⟨G, S'⟩ := StoreAt.con L h1 h2 h3 h4 h5 S.len hp hv i
  exact k _ _ G S'
def spStTake (K : PySem.W.Frag) : Sp := Sp1 fun x H Q _ => ∃ (g : Col) (b : Bool) (s : Addr) (ow : List Nat) (i : Nat), x = .ref s ∧ Live g H ∧ StoreAt K g H b s ow ∧ frst ow = some i ∧
  Out (isSt b) g H (fun g' H' => StoreAt K g' H' b s (ow.set i 1)) (Q (.int (i : Int)))
theorem ok_StTake (T : Tx K mg) : Okp P w K mg base 1 (He.fAd K ("Store", some "take")) ["self"] (spStTake K) := by
  refine okn len1 T.f_Store_take sc_Store_take fun cdv A outer s0 H vs Q E hr h => ?_
  obtain ⟨_, rfl, g, b, s, ow, i, rfl, L, S, hi, k⟩ := h
  obtain ⟨dx, lo, lc, cs, h1, h2, h3, h4, h5⟩ := S.ex
  obtain ⟨ti, hti⟩ := T.i_PAGE_SIZE
  have nd := sc_Store_take.nd
  refine ⟨_, pss_cons (ps_if (pt_cmpR op_notIn_seq pe_int (pe_fld (pv 0) rfl) (by rfl)) (pss_one (ps_ret pe_non)) pss_nil)
    (pss_cons (ps_set (i := 1) nd rfl (Or.inl rfl) (pe_bm PySem.F.plainAttrs_list PySem.F.slot_list_index PySem.F.type_list_index mt_index (pe_fld (pv 0) rfl) (pa_cons pe_int pa_nil)))
    (pss_cons (ps_asg pe_int (pg_sub (pe_fld (pv 0) rfl) (pv 1) set_list))
    (pss_cons (ps_asg (pe_op op_rep (pe_lst (pa_cons pe_int pa_nil)) (pe_glob (v := .int 8) rfl hti ⟨_, rfl⟩)) (pg_sub (pe_fld (pv 0) rfl) (pv 1) set_list))
    (pss_one (ps_ret (pv 1)))))), ?_⟩
  obtain ⟨z1, z2⟩ := frst_some hi
  have hil : i < ow.length := (List.getElem?_eq_some_iff.mp z1).1
  have hic : i < (cs.map V.ref).length := by rw [List.length_map]; omega
  refine ⟨_, rfl, s, cSt K, dx, _, _, rfl, h1.h, T.c_Store, T.a_Store_owners, stF_owners lo lc, lo, _, rfl, .inl (SqL.of h2.h), rfl, flat_owV ow, _, rfl, ?_⟩
  have e : (if true = true then !inV (.int 0) (owV ow) else inV (.int 0) (owV ow)) = false := by rw [if_pos rfl, inV_owV, hi]; rfl
  rw [e]
  refine iteF ?_
  refine ⟨_, rfl, s, cSt K, dx, _, _, rfl, h1.h, T.c_Store, T.a_Store_owners, stF_owners lo lc, .inl ⟨rfl, _, SqL.of h2.h⟩, lo, _, _, i, _, rfl, rfl, SqL.of h2.h, rfl, flat_owV ow, owV_at z1, rfl, fun m z' hm hz => ?_, ?_⟩
  · obtain ⟨n, hn, rfl⟩ := owV_of hz
    have := z2 m n hm hn
    show ((n : Int) == 0) = false
    rw [beq_eq_false_iff_ne]
    omega
  refine ⟨_, rfl, s, cSt K, dx, _, _, rfl, h1.h, T.c_Store, T.a_Store_owners, stF_owners lo lc, _, rfl, lo, _, _, i, rfl, rfl, h2.h, ixN_nat (by rw [owV_len]; exact hil), ?_⟩
  have S1 := StoreAt.own h1 h2 h3 h4 h5 S.len i 1
  have G1 : Grow (isSt b) g H g (upd H lo (.lst (owV (ow.set i 1)))) := Grow.write L h2.h (by intro xs z; cases z) h2.c (by simp [isSt])
  have L1 := G1.live L
  have e1 : (owV ow).set i (V.int 1) = owV (ow.set i 1) := owV_set ow i 1
  rw [e1]
  generalize upd H lo (.lst (owV (ow.set i 1))) = H1 at *
  obtain ⟨dx, lo, lc, cs, h1, h2, h3, h4, h5⟩ := S1.ex
  have hic : i < (cs.map V.ref).length := by rw [List.length_map, h4, List.length_set]; exact hil
  refine ⟨by decide, fun q hq => ⟨q, 8, _, rfl, rfl, upd_same, by omega, by omega, by decide, fun p hp => ?_⟩⟩
  have G2 : Grow (isSt b) g H1 g (upd H1 q (.lst [.int 0])) := Grow.temp L1 hq
  refine ⟨_, rfl, s, cSt K, dx, _, _, rfl, ((h1.temp hq).temp hp).h, T.c_Store, T.a_Store_contents, stF_contents lo lc, _, rfl, lc, _, _, i, rfl, rfl, ((h3.temp hq).temp hp).h, ixN_nat hic, ?_⟩
  rw [refs_set]
  obtain ⟨G, S'⟩ := StoreAt.con (G2.live L1) (h1.temp hq) (h2.temp hq) (h3.temp hq) h4 (fun c hc => let ⟨vs, e, l⟩ := h5 c hc; ⟨vs, e.temp hq, l⟩) S1.len hp (by decide : ((List.replicate (8 : Int).toNat [V.int 0]).flatten).length ≤ 8) i
  exact ⟨_, rfl, k _ _ ((G1.trans G2).trans G) S'⟩
end

-- part K9D
/-! ### what a dict's pairs hold -/
section
variable {κ : Type} [DecidableEq κ]
theorem valV_mem : ∀ {kvs : List (κ × V)} {k : κ} {v : V}, valV kvs k = some v → (k, v) ∈ kvs
  | [], k, v, h => by rw [valV_nil] at h; cases h
  | p :: r, k, v, h => by
    by_cases e : p.1 = k
    · rw [valV_pos e] at h
      cases h
      subst e
      exact List.mem_cons_self
    · rw [valV_neg e] at h
      exact List.mem_cons_of_mem _ (valV_mem h)
theorem valV_some {kvs : List (κ × V)} {k : κ} (h : k ∈ kvs.map (·.1)) : ∃ v, valV kvs k = some v := by
  cases e : valV kvs k with
  | some v => exact ⟨v, rfl⟩
  | none => exact absurd h (valV_not e)
theorem valV_of_mem : ∀ {kvs : List (κ × V)} {k : κ} {v : V}, (kvs.map (·.1)).Nodup → (k, v) ∈ kvs → valV kvs k = some v
  | [], k, v, _, h => by cases h
  | p :: r, k, v, nd, h => by
    have nd : (p.1 :: r.map (·.1)).Nodup := nd
    obtain ⟨n1, n2⟩ := List.nodup_cons.mp nd
    rcases List.mem_cons.mp h with e | h
    · subst e
      exact valV_pos rfl
    · have e : ¬ p.1 = k := fun e => n1 (by rw [e]; exact List.mem_map.mpr ⟨_, h, rfl⟩)
      rw [valV_neg e]
      exact valV_of_mem n2 h
theorem valV_drop (k j : κ) : ∀ kvs : List (κ × V), valV (dropK kvs k) j = if j = k then none else valV kvs j
  | [] => by simp [dropK, valV_nil]
  | p :: r => by
    by_cases e : p.1 = k
    · rw [dropK_pos e, valV_drop k j r]
      by_cases z : j = k
      · rw [if_pos z, if_pos z]
      · rw [if_neg z, if_neg z, valV_neg fun q => z (q.symm.trans e)]
    · rw [dropK_neg e]
      by_cases q : p.1 = j
      · rw [valV_pos q, valV_pos q, if_neg fun z => e (q.trans z)]
      · rw [valV_neg q, valV_neg q, valV_drop k j r]
theorem keys_put_old {kvs : List (κ × V)} {k : κ} {v u : V} (h : valV kvs k = some u) : (putK kvs k v).map (·.1) = kvs.map (·.1) := by
  unfold putK
  rw [if_pos (by rw [valV_any, h]; rfl), List.map_map]
  refine List.map_congr_left fun p _ => ?_
  show (if p.1 = k then (p.1, v) else p).1 = p.1
  split <;> rfl
theorem keys_put_new {kvs : List (κ × V)} {k : κ} (v : V) (h : valV kvs k = none) : (putK kvs k v).map (·.1) = kvs.map (·.1) ++ [k] := by
  rw [putK_new v h, List.map_append]
  rfl
theorem len_put_old {kvs : List (κ × V)} {k : κ} {v u : V} (h : valV kvs k = some u) : (putK kvs k v).length = kvs.length := by
  have e := congrArg List.length (keys_put_old (v := v) h)
  rw [List.length_map, List.length_map] at e
  exact e
theorem mem_put {kvs : List (κ × V)} {k j : κ} {v : V} : j ∈ (putK kvs k v).map (·.1) ↔ j = k ∨ j ∈ kvs.map (·.1) := by
  cases h : valV kvs k with
  | some u =>
    rw [keys_put_old h]
    exact ⟨.inr, fun z => z.elim (fun e => by rw [e]; exact valV_in h) id⟩
  | none =>
    rw [keys_put_new v h, List.mem_append, List.mem_singleton]
    exact ⟨Or.symm, Or.symm⟩
theorem nd_put {kvs : List (κ × V)} {k : κ} {v : V} (nd : (kvs.map (·.1)).Nodup) : ((putK kvs k v).map (·.1)).Nodup := by
  cases h : valV kvs k with
  | some u => rw [keys_put_old h]; exact nd
  | none => exact nd_putK v nd h
theorem mem_drop {kvs : List (κ × V)} {k j : κ} (h : j ∈ (dropK kvs k).map (·.1)) : j ∈ kvs.map (·.1) := by
  obtain ⟨p, hp, e⟩ := List.mem_map.mp h
  exact List.mem_map.mpr ⟨p, dropK_mem hp, e⟩
end
/-! ### dicts whose keys are ints -/
def liK (ks : List (Int × V)) : List (Key × V) := ks.map fun p => (Sum.inl p.1, p.2)
theorem liK_keys (ks : List (Int × V)) : (liK ks).map (·.1) = (ks.map (·.1)).map Sum.inl := by unfold liK; rw [List.map_map, List.map_map]; rfl
theorem liK_len (ks : List (Int × V)) : (liK ks).length = ks.length := by unfold liK; rw [List.length_map]
theorem liK_cons (p : Int × V) (r : List (Int × V)) : liK (p :: r) = (Sum.inl p.1, p.2) :: liK r := rfl
theorem liK_val (k : Int) : ∀ ks : List (Int × V), valV (liK ks) (Sum.inl k) = valV ks k
  | [] => rfl
  | p :: r => by
    rw [liK_cons]
    by_cases e : p.1 = k
    · rw [valV_pos e, valV_pos (p := ((Sum.inl p.1 : Key), p.2)) (by rw [e])]
    · rw [valV_neg e, valV_neg (p := ((Sum.inl p.1 : Key), p.2)) (fun z => e (Sum.inl.inj z)), liK_val k r]
theorem liK_any (k : Int) : ∀ ks : List (Int × V), ((liK ks).any fun kv => decide (kv.1 = Sum.inl k)) = ks.any fun kv => decide (kv.1 = k) := fun ks => by rw [valV_any, valV_any, liK_val]
theorem liK_put (ks : List (Int × V)) (k : Int) (v : V) : putK (liK ks) (Sum.inl k) v = liK (putK ks k v) := by
  unfold putK
  rw [liK_any]
  split
  · unfold liK
    rw [List.map_map, List.map_map]
    refine List.map_congr_left fun p _ => ?_
    show (if (Sum.inl p.1 : Key) = Sum.inl k then ((Sum.inl p.1 : Key), v) else (Sum.inl p.1, p.2)) = (Sum.inl (if p.1 = k then (p.1, v) else p).1, (if p.1 = k then (p.1, v) else p).2)
    by_cases e : p.1 = k
    · rw [if_pos e, if_pos (by rw [e])]
    · rw [if_neg e, if_neg fun z => e (Sum.inl.inj z)]
  · unfold liK
    rw [List.map_append]
    rfl
theorem liK_drop (k : Int) : ∀ ks : List (Int × V), dropK (liK ks) (Sum.inl k) = liK (dropK ks k)
  | [] => rfl
  | p :: r => by
    rw [liK_cons]
    by_cases e : p.1 = k
    · rw [dropK_pos e, dropK_pos (p := ((Sum.inl p.1 : Key), p.2)) (by rw [e]), liK_drop k r]
    · rw [dropK_neg e, dropK_neg (p := ((Sum.inl p.1 : Key), p.2)) (fun z => e (Sum.inl.inj z)), liK_drop k r, liK_cons]
/-- few keys -/
theorem few_keys {ks : List Int} {n : Nat} (nd : ks.Nodup) (h : ∀ k, k ∈ ks → 0 ≤ k ∧ k < n) : ks.length ≤ n := by
  have z : ks ⊆ (List.range n).map fun i : Nat => (i : Int) := fun k hk => by
    obtain ⟨h1, h2⟩ := h k hk
    exact List.mem_map.mpr ⟨k.toNat, List.mem_range.mpr (by omega), by omega⟩
  have := nd.length_le_of_subset z
  rwa [List.length_map, List.length_range] at this
/-- a sorted list without repeats rises -/
theorem rises {ys ks : List Int} (p : ys.Perm ks) (s : ys.Pairwise (· ≤ ·)) (nd : ks.Nodup) : ys.Pairwise (· < ·) := by
  have n1 : ys.Nodup := p.nodup_iff.mpr nd
  refine (s.and n1).imp fun h => ?_
  obtain ⟨a, b⟩ := h
  omega
/-- two rising lists with the same members -/
theorem rising_eq {xs ys : List Int} (a : xs.Pairwise (· < ·)) (b : ys.Pairwise (· < ·)) (h : ∀ z, z ∈ xs ↔ z ∈ ys) : xs = ys := by
  have na : xs.Nodup := a.imp fun h => by omega
  have nb : ys.Nodup := b.imp fun h => by omega
  exact List.Perm.eq_of_pairwise (le := (· < ·)) (fun x y _ _ h1 h2 => by omega) a b ((List.perm_ext_iff_of_nodup na nb).mpr h)
/-- the pages that have an entry, rising -/
def pgs (m : Int → Option V) : List Int := ((List.range 64).map fun i : Nat => (i : Int)).filter fun p => (m p).isSome
theorem pgs_mem {m : Int → Option V} {p : Int} : p ∈ pgs m ↔ (0 ≤ p ∧ p < 64) ∧ (m p).isSome = true := by
  unfold pgs
  rw [List.mem_filter, List.mem_map]
  constructor
  · rintro ⟨⟨i, hi, rfl⟩, h⟩
    have := List.mem_range.mp hi
    exact ⟨by omega, h⟩
  · rintro ⟨h1, h2⟩
    exact ⟨⟨p.toNat, List.mem_range.mpr (by omega), by omega⟩, h2⟩
theorem pgs_rises (m : Int → Option V) : (pgs m).Pairwise (· < ·) := by
  unfold pgs
  refine List.Pairwise.filter _ ?_
  rw [List.pairwise_map]
  exact List.pairwise_lt_range.imp fun h => by omega
theorem pgs_len (m : Int → Option V) : (pgs m).length ≤ 64 := by
  unfold pgs
  refine Nat.le_trans (List.length_filter_le _ _) ?_
  rw [List.length_map, List.length_range]
  omega

-- part K9B
/-! ### Table -/
abbrev cTa (K : PySem.W.Frag) : Addr := He.ga K "Table"
def taF (F : Addr) : List (Str × V) := [("firsts", .ref F)]
theorem taF_firsts (F : Addr) : (taF F).lookup ("firsts" : Str) = some (.ref F) := by kernel_rfl
/-- a second dict: its keys from 0 to 7, what it holds is m's -/
structure SecAt (g : Col) (H : Hp) (t f : Int) (m : Int → Option V) (v : V) : Prop where
  ex : ∃ (a : Addr) (ks : List (Int × V)), v = .ref a ∧ Pt g (.tse t f) H a (.dK (liK ks)) ∧ (ks.map (·.1)).Nodup ∧ (∀ s : Int, s ∈ ks.map (·.1) → 0 ≤ s ∧ s < (8 : Nat)) ∧ ∀ s, 0 ≤ s → s < 8 → valV ks s = m (8 * f + s)
structure TableAt (K : PySem.W.Frag) (g : Col) (H : Hp) (t : Int) (a : Addr) (m : Int → Option V) : Prop where
  ex : ∃ (dx F : Addr) (kf : List (Int × V)), Pt g (.tob t) H a (.ins (cTa K) dx (taF F)) ∧ Pt g (.tfi t) H F (.dK (liK kf)) ∧ (kf.map (·.1)).Nodup ∧ (∀ f : Int, f ∈ kf.map (·.1) → 0 ≤ f ∧ f < (8 : Nat)) ∧
    (∀ f v, valV kf f = some v → SecAt g H t f m v) ∧ ∀ f, valV kf f = none → ∀ s, 0 ≤ s → s < 8 → m (8 * f + s) = none
def isTa (t : Int) : Role → Bool
  | .tob u => u == t
  | .tfi u => u == t
  | .tse u _ => u == t
  | _ => false
theorem SecAt.keep {R : Role → Bool} {g g1 : Col} {H H1 : Hp} {t f : Int} {m : Int → Option V} {v : V} (x : SecAt g H t f m v) (G : Grow R g H g1 H1) (n : R (.tse t f) = false) : SecAt g1 H1 t f m v := by
  obtain ⟨a, ks, e, p, h1, h2, h3⟩ := x.ex
  exact ⟨a, ks, e, p.keep G n, h1, h2, h3⟩
theorem TableAt.keep {K : PySem.W.Frag} {R : Role → Bool} {g g1 : Col} {H H1 : Hp} {t : Int} {a : Addr} {m : Int → Option V} (x : TableAt K g H t a m) (G : Grow R g H g1 H1) (n : ∀ r, isTa t r = true → R r = false) : TableAt K g1 H1 t a m := by
  obtain ⟨dx, F, kf, h1, h2, h3, h4, h5, h6⟩ := x.ex
  exact ⟨dx, F, kf, h1.keep G (n _ (by simp [isTa])), h2.keep G (n _ (by simp [isTa])), h3, h4, fun f v e => (h5 f v e).keep G (n _ (by simp [isTa])), h6⟩
theorem TableAt.same {K : PySem.W.Frag} {g : Col} {H H1 : Hp} {t : Int} {a : Addr} {m : Int → Option V} (x : TableAt K g H t a m) (l : Live g H) (e : Same H H1) : TableAt K g H1 t a m :=
  x.keep (R := fun _ => false) (Grow.same l e) fun _ _ => rfl
theorem pg_div (p : Int) : 8 * (p / 8) + p % 8 = p ∧ 0 ≤ p % 8 ∧ p % 8 < 8 := by omega
section
variable {P : Program} {w : World} {K : PySem.W.Frag} {mg : Str → Option Value} {base : Heap}
def spTaInit (K : PySem.W.Frag) : Sp := Sp1 fun x H Q _ => ∃ (g : Col) (t : Int) (a dx : Addr), x = .ref a ∧ Live g H ∧ Pt g (.tob t) H a (.ins (cTa K) dx []) ∧ Out (isTa t) g H (fun g' H' => TableAt K g' H' t a fun _ => none) (Q .non)
theorem ok_TaInit (T : Tx K mg) : Okp P w K mg base 1 (He.fAd K ("Table", some "__init__")) ["self"] (spTaInit K) := by
  refine okn len1 T.f_Table_init sc_Table_init fun cdv A outer s0 H vs Q E hr h => ?_
  obtain ⟨_, rfl, g, t, a, dx, rfl, L, ha, k⟩ := h
  refine ⟨_, pss_one (ps_fld (pv 0) pe_dnewK rfl), ?_⟩
  intro F hF
  have G1 : Grow (isTa t) g H (updC g F (.tfi t)) (upd H F (.dK [])) := Grow.made L hF (by simp [isTa])
  have ha1 : Pt (updC g F (.tfi t)) (.tob t) (upd H F (.dK [])) a (.ins (cTa K) dx []) := ha.made hF
  have hF1 : Pt (updC g F (.tfi t)) (.tfi t) (upd H F (.dK [])) F (.dK (liK [])) := Pt.mk'
  refine ⟨_, rfl, a, cTa K, dx, [], rfl, ha1.h, T.c_Table, T.a_Table_firsts, by decide, ?_⟩
  exact k _ _ (G1.trans (Grow.write (G1.live L) ha1.h (by intro xs z; cases z) ha1.c (by simp [isTa])))
    ⟨dx, F, [], ha1.self, hF1.other ha1 (by simp), List.nodup_nil, fun f hf => (by cases hf), fun f v e => (by cases e), fun _ _ _ _ _ => rfl⟩
def spTaGet (K : PySem.W.Frag) : Sp := Sp2 fun x v H Q _ => ∃ (g : Col) (t : Int) (a : Addr) (m : Int → Option V) (p : Int), x = .ref a ∧ v = .int p ∧ TableAt K g H t a m ∧ Q ((m p).getD .non) H
theorem ok_TaGet (T : Tx K mg) : Okp P w K mg base 1 (He.fAd K ("Table", some "get")) ["self", "page"] (spTaGet K) := by
  refine okn len2 T.f_Table_get sc_Table_get fun cdv A outer s0 H vs Q E hr h => ?_
  obtain ⟨_, _, rfl, g, t, a, m, p, rfl, rfl, S, k⟩ := h
  obtain ⟨dx, F, kf, h1, h2, h3, h4, h5, h6⟩ := S.ex
  have hu := hu_of hr
  obtain ⟨ti, hti⟩ := T.i_STEP
  have nd := sc_Table_get.nd
  refine ⟨_, pss_cons (ps_set (i := 2) nd rfl (Or.inl rfl) (pe_dget2 hu (pe_fld (pv 0) rfl) (pe_op op_fdiv (pv 1) (pe_glob (v := .int 8) rfl hti ⟨_, rfl⟩)) pe_non ⟨rfl, rfl, rfl, rfl⟩))
    (pss_cons (ps_if (pt_cmp (pc_isN (pv 2))) (pss_one (ps_ret pe_non)) pss_nil)
    (pss_one (ps_ret (pe_dget2 hu (pv 2) (pe_op op_mod (pv 1) (pe_glob (v := .int 8) rfl hti ⟨_, rfl⟩)) pe_non ⟨rfl, rfl, rfl, rfl⟩)))), ?_⟩
  obtain ⟨d1, d2, d3⟩ := pg_div p
  refine ⟨_, rfl, a, cTa K, dx, _, _, rfl, h1.h, T.c_Table, T.a_Table_firsts, taF_firsts F, F, rfl, .inl ⟨_, .inl h2.h⟩, _, rfl, _, _, rfl, rfl, ⟨by decide, by decide⟩, _, DGet.k (k := Sum.inl (p / 8)) h2.h, ?_⟩
  rw [liK_val]
  cases e : valV kf (p / 8) with
  | none =>
    have em : m p = none := by
      have := h6 _ e _ d2 d3
      rwa [d1] at this
    refine ⟨_, rfl, _, rfl, ?_⟩
    show if decide (V.non = .non) = true then _ else _
    rw [decide_eq_true rfl]
    refine iteT ?_
    rw [em] at k
    exact k
  | some v =>
    obtain ⟨b, ks, rfl, p1, n1, r1, q1⟩ := (h5 _ _ e).ex
    refine ⟨_, rfl, _, rfl, ?_⟩
    show if decide (V.ref b = .non) = true then _ else _
    rw [decide_eq_false (by intro z; cases z)]
    refine iteF ?_
    refine ⟨_, rfl, b, rfl, .inl ⟨_, .inl p1.h⟩, _, rfl, _, _, rfl, rfl, (by show (0 : Int) < 8; decide), _, DGet.k (k := Sum.inl (p % 8)) p1.h, ?_⟩
    rw [liK_val, q1 _ d2 d3, d1]
    exact k
def setM (m : Int → Option V) (p : Int) (v : Option V) : Int → Option V := fun q => if q = p then v else m q
def spTaLay (K : PySem.W.Frag) : Sp := Sp3 fun x v e H Q _ => ∃ (g : Col) (t : Int) (a : Addr) (m : Int → Option V) (p : Int), x = .ref a ∧ v = .int p ∧ 0 ≤ p ∧ p < 64 ∧ Live g H ∧ TableAt K g H t a m ∧
  Out (isTa t) g H (fun g' H' => TableAt K g' H' t a (setM m p (some e))) (Q .non)
/-- the second dict of the page's is written -/
theorem sec_put {g : Col} {H : Hp} {t p : Int} {a b dx F : Addr} {m : Int → Option V} {kf ks : List (Int × V)} {e : V} (L : Live g H) (hp0 : 0 ≤ p) (hp1 : p < 64) (h1 : Pt g (.tob t) H a (.ins (cTa K) dx (taF F))) (h2 : Pt g (.tfi t) H F (.dK (liK kf))) (h3 : (kf.map (·.1)).Nodup) (h4 : ∀ f : Int, f ∈ kf.map (·.1) → 0 ≤ f ∧ f < (8 : Nat))
    (h5 : ∀ f v, valV kf f = some v → SecAt g H t f m v) (h6 : ∀ f, valV kf f = none → ∀ s, 0 ≤ s → s < 8 → m (8 * f + s) = none) (ef : valV kf (p / 8) = some (.ref b))
    (hb : Pt g (.tse t (p / 8)) H b (.dK (liK ks))) (n1 : (ks.map (·.1)).Nodup) (r1 : ∀ s : Int, s ∈ ks.map (·.1) → 0 ≤ s ∧ s < (8 : Nat)) (q1 : ∀ s, 0 ≤ s → s < 8 → valV ks s = m (8 * (p / 8) + s)) :
    Grow (isTa t) g H g (upd H b (.dK (liK (putK ks (p % 8) e)))) ∧ TableAt K g (upd H b (.dK (liK (putK ks (p % 8) e)))) t a (setM m p (some e)) := by
  obtain ⟨d1, d2, d3⟩ := pg_div p
  refine ⟨Grow.write L hb.h (by intro xs z; cases z) hb.c (by simp [isTa]), dx, F, kf, h1.other hb (by simp), h2.other hb (by simp), h3, h4, fun f v ev => ?_, fun f ev s s0 s1 => ?_⟩
  · by_cases z : f = p / 8
    · subst z
      rw [ef] at ev
      cases ev
      refine ⟨b, _, rfl, hb.self, nd_put n1, fun s hs => ?_, fun s s0 s1 => ?_⟩
      · rcases mem_put.mp hs with rfl | hs
        · exact ⟨d2, d3⟩
        · exact r1 s hs
      · rw [valV_put]
        unfold setM
        by_cases q : s = p % 8
        · rw [if_pos q, if_pos (by omega)]
        · rw [if_neg q, if_neg (by omega), q1 s s0 s1]
    · obtain ⟨b2, ks2, e2, p2, n2, r2, q2⟩ := (h5 f v ev).ex
      refine ⟨b2, ks2, e2, p2.other hb (by simp [z]), n2, r2, fun s s0 s1 => ?_⟩
      unfold setM
      rw [if_neg (by omega)]
      exact q2 s s0 s1
  · unfold setM
    have z : f ≠ p / 8 := fun z => by rw [z, ef] at ev; cases ev
    rw [if_neg (by omega)]
    exact h6 f ev s s0 s1
theorem ok_TaLay (T : Tx K mg) : Okp P w K mg base 1 (He.fAd K ("Table", some "lay")) ["self", "page", "entry"] (spTaLay K) := by
  refine okn len3 T.f_Table_lay sc_Table_lay fun cdv A outer s0 H vs Q E hr h => ?_
  obtain ⟨_, _, en, rfl, g, t, a, m, p, rfl, rfl, hp0, hp1, L, S, k⟩ := h
  obtain ⟨dx, F, kf, h1, h2, h3, h4, h5, h6⟩ := S.ex
  have hu := hu_of hr
  obtain ⟨ti, hti⟩ := T.i_STEP
  have nd := sc_Table_lay.nd
  refine ⟨_, pss_cons (ps_if (pt_cmp (pc_dnotin hu (pe_op op_fdiv (pv 1) (pe_glob (v := .int 8) rfl hti ⟨_, rfl⟩)) (pe_fld (pv 0) rfl)) (by rfl)) (pss_one (ps_dput hu (pe_fld (pv 0) rfl) (pe_op op_fdiv (pv 1) (pe_glob (v := .int 8) rfl hti ⟨_, rfl⟩)) pe_dnewK rfl)) pss_nil)
    (pss_one (ps_dput hu (pe_dget hu (pe_fld (pv 0) rfl) (pe_op op_fdiv (pv 1) (pe_glob (v := .int 8) rfl hti ⟨_, rfl⟩)) (fun _ _ => rfl)) (pe_op op_mod (pv 1) (pe_glob (v := .int 8) rfl hti ⟨_, rfl⟩)) (pv 2) rfl)), ?_⟩
  obtain ⟨d1, d2, d3⟩ := pg_div p
  have hff : 0 ≤ p / 8 ∧ p / 8 < 8 := by omega
  -- the store, where the second dict is there
  have fin : ∀ (g1 : Col) (H1 : Hp) (kf : List (Int × V)) (b : Addr) (ks : List (Int × V)), Grow (isTa t) g H g1 H1 → Pt g1 (.tob t) H1 a (.ins (cTa K) dx (taF F)) → Pt g1 (.tfi t) H1 F (.dK (liK kf)) → (kf.map (·.1)).Nodup → (∀ f : Int, f ∈ kf.map (·.1) → 0 ≤ f ∧ f < (8 : Nat)) →
      (∀ f v, valV kf f = some v → SecAt g1 H1 t f m v) → (∀ f, valV kf f = none → ∀ s, 0 ≤ s → s < 8 → m (8 * f + s) = none) → valV kf (p / 8) = some (.ref b) →
      Pt g1 (.tse t (p / 8)) H1 b (.dK (liK ks)) → (ks.map (·.1)).Nodup → (∀ s : Int, s ∈ ks.map (·.1) → 0 ≤ s ∧ s < (8 : Nat)) → (∀ s, 0 ≤ s → s < 8 → valV ks s = m (8 * (p / 8) + s)) →
      ∃ v1, ([V.ref a, V.int p, en].map some)[2]? = some (some v1) ∧ v1 = en ∧ DGet H1 F (.int (p / 8)) (some (.ref b)) ∧ DPut H1 b (.int (p % 8)) en (upd H1 b (.dK (liK (putK ks (p % 8) en)))) ∧ Q .non (upd H1 b (.dK (liK (putK ks (p % 8) en)))) := by
    intro g1 H1 kf b ks G1 h1 h2 h3 h4 h5 h6 ef hb n1 r1 q1
    obtain ⟨G2, S2⟩ := sec_put (e := en) (G1.live L) hp0 hp1 h1 h2 h3 h4 h5 h6 ef hb n1 r1 q1
    refine ⟨en, rfl, rfl, ?_, ?_, k _ _ (G1.trans G2) S2⟩
    · rw [← ef, ← liK_val]
      exact DGet.k (k := Sum.inl (p / 8)) h2.h
    · rw [← liK_put]
      exact DPut.k (k := Sum.inl (p % 8)) hb.h (by rw [liK_len]; have := few_keys n1 r1; rw [List.length_map] at this; exact Nat.lt_of_le_of_lt this (by decide))
  refine ⟨_, rfl, _, _, rfl, rfl, ⟨by decide, by decide⟩, _, rfl, a, cTa K, dx, _, _, rfl, h1.h, T.c_Table, T.a_Table_firsts, taF_firsts F, F, _, rfl, DGet.k (k := Sum.inl (p / 8)) h2.h, _, rfl, ?_⟩
  rw [liK_val]
  cases e : valV kf (p / 8) with
  | some v =>
    refine iteF ?_
    obtain ⟨b, ks, rfl, p1, n1, r1, q1⟩ := (h5 _ _ e).ex
    obtain ⟨_, _, _, f1, f2, f3⟩ := fin g H kf b ks (Grow.refl L) h1 h2 h3 h4 h5 h6 e p1 n1 r1 q1
    exact ⟨_, rfl, _, rfl, a, cTa K, dx, _, _, rfl, h1.h, T.c_Table, T.a_Table_firsts, taF_firsts F, _, rfl, _, _, rfl, rfl, ⟨by decide, by decide⟩, F, _, rfl, f1, _, rfl, _, _, rfl, rfl, (by show (0 : Int) < 8; decide), b, _, rfl, f2, f3⟩
  | none =>
    refine iteT ?_
    intro b hb
    have G1 : Grow (isTa t) g H (updC g b (.tse t (p / 8))) (upd H b (.dK [])) := Grow.made L hb (by simp [isTa])
    have h1' : Pt (updC g b (.tse t (p / 8))) (.tob t) (upd H b (.dK [])) a _ := h1.made hb
    have h2' : Pt (updC g b (.tse t (p / 8))) (.tfi t) (upd H b (.dK [])) F _ := h2.made hb
    have hb' : Pt (updC g b (.tse t (p / 8))) (.tse t (p / 8)) (upd H b (.dK [])) b (.dK (liK [])) := Pt.mk'
    have lk : (liK kf).length < sizeLine := by rw [liK_len]; have := few_keys h3 h4; rw [List.length_map] at this; exact Nat.lt_of_le_of_lt this (by decide)
    refine ⟨_, rfl, a, cTa K, dx, _, _, rfl, h1'.h, T.c_Table, T.a_Table_firsts, taF_firsts F, _, rfl, _, _, rfl, rfl, ⟨by decide, by decide⟩, F, _, rfl, DPut.k (k := Sum.inl (p / 8)) h2'.h lk, ?_⟩
    rw [liK_put]
    have G2 := Grow.write (R := isTa t) (o := .dK (liK (putK kf (p / 8) (.ref b)))) (G1.live L) h2'.h (by intro xs z; cases z) h2'.c (by simp [isTa])
    have ev : valV (putK kf (p / 8) (.ref b)) (p / 8) = some (.ref b) := by rw [valV_put, if_pos rfl]
    have hb2 := hb'.other (v := .dK (liK (putK kf (p / 8) (.ref b)))) h2' (by simp)
    have h12 := h1'.other (v := .dK (liK (putK kf (p / 8) (.ref b)))) h2' (by simp)
    obtain ⟨_, _, _, f1, f2, f3⟩ := fin _ _ (putK kf (p / 8) (.ref b)) b [] (G1.trans G2) h12 h2'.self (nd_put h3) (fun f hf => by
        rcases mem_put.mp hf with rfl | hq
        · exact hff
        · exact h4 f hq) (fun f v ev2 => by
        rw [valV_put] at ev2
        by_cases z : f = p / 8
        · subst z
          rw [if_pos rfl] at ev2
          cases ev2
          exact ⟨b, [], rfl, hb2, List.nodup_nil, fun s hs => (by cases hs), fun s s0 s1 => (h6 _ e s s0 s1).symm⟩
        · rw [if_neg z] at ev2
          exact ((h5 f v ev2).keep (R := fun r => r == .tse t (p / 8)) (Grow.made L hb (by simp)) (by simp [z])).keep (R := fun r => r == .tfi t) (Grow.write (G1.live L) h2'.h (by intro xs z; cases z) h2'.c (by simp)) (by simp))
      (fun f ev2 s s0 s1 => by
        rw [valV_put] at ev2
        by_cases z : f = p / 8
        · rw [if_pos z] at ev2; cases ev2
        · rw [if_neg z] at ev2
          exact h6 f ev2 s s0 s1) ev hb2 List.nodup_nil (fun s hs => by cases hs) (fun s s0 s1 => (h6 _ e s s0 s1).symm)
    exact ⟨_, rfl, _, rfl, a, cTa K, dx, _, _, rfl, h12.h, T.c_Table, T.a_Table_firsts, taF_firsts F, _, rfl, _, _, rfl, rfl, ⟨by decide, by decide⟩, F, _, rfl, f1, _, rfl, _, _, rfl, rfl, (by show (0 : Int) < 8; decide), b, _, rfl, f2, f3⟩
def spTaClear (K : PySem.W.Frag) : Sp := Sp2 fun x v H Q _ => ∃ (g : Col) (t : Int) (a : Addr) (m : Int → Option V) (p : Int) (u : V), x = .ref a ∧ v = .int p ∧ m p = some u ∧ Live g H ∧ TableAt K g H t a m ∧
  Out (isTa t) g H (fun g' H' => TableAt K g' H' t a (setM m p none)) (Q .non)
theorem nd_drop' {κ : Type} [DecidableEq κ] {kvs : List (κ × V)} {k : κ} (h : (kvs.map (·.1)).Nodup) : ((dropK kvs k).map (·.1)).Nodup := nd_dropK h
theorem ok_TaClear (T : Tx K mg) : Okp P w K mg base 1 (He.fAd K ("Table", some "clear")) ["self", "page"] (spTaClear K) := by
  refine okn len2 T.f_Table_clear sc_Table_clear fun cdv A outer s0 H vs Q E hr h => ?_
  obtain ⟨_, _, rfl, g, t, a, m, p, u, rfl, rfl, hm, L, S, k⟩ := h
  obtain ⟨dx, F, kf, h1, h2, h3, h4, h5, h6⟩ := S.ex
  have hu := hu_of hr
  obtain ⟨ti, hti⟩ := T.i_STEP
  have nd := sc_Table_clear.nd
  refine ⟨_, pss_cons (ps_set (i := 2) nd rfl (Or.inl rfl) (pe_dget2 hu (pe_fld (pv 0) rfl) (pe_op op_fdiv (pv 1) (pe_glob (v := .int 8) rfl hti ⟨_, rfl⟩)) pe_non ⟨rfl, rfl, rfl, rfl⟩))
    (pss_cons (ps_if (pt_cmp (pc_isN (pv 2))) (pss_one ps_retN) pss_nil)
    (pss_cons (ps_expr (pe_dpop2 (pv 2) (pe_op op_mod (pv 1) (pe_glob (v := .int 8) rfl hti ⟨_, rfl⟩)) pe_non ⟨rfl, rfl, rfl, rfl⟩))
    (pss_one (ps_if (pt_cmpR op_eq (pe_callB call_lenD (by rfl) T.n_len PySem.boot_len (pa_cons (pv 2) pa_nil)) pe_int (nomark _))
      (pss_one (ps_expr (pe_dpop2 (pe_fld (pv 0) rfl) (pe_op op_fdiv (pv 1) (pe_glob (v := .int 8) rfl hti ⟨_, rfl⟩)) pe_non ⟨rfl, rfl, rfl, rfl⟩))) pss_nil)))), ?_⟩
  obtain ⟨d1, d2, d3⟩ := pg_div p
  refine ⟨_, rfl, a, cTa K, dx, _, _, rfl, h1.h, T.c_Table, T.a_Table_firsts, taF_firsts F, F, rfl, .inl ⟨_, .inl h2.h⟩, _, rfl, _, _, rfl, rfl, ⟨by decide, by decide⟩, _, DGet.k (k := Sum.inl (p / 8)) h2.h, ?_⟩
  rw [liK_val]
  cases e : valV kf (p / 8) with
  | none =>
    have := h6 _ e _ d2 d3
    rw [d1, hm] at this
    cases this
  | some v =>
    obtain ⟨b, ks, rfl, p1, n1, r1, q1⟩ := (h5 _ _ e).ex
    refine ⟨_, rfl, _, rfl, ?_⟩
    show if decide (V.ref b = .non) = true then _ else _
    rw [decide_eq_false (by intro z; cases z)]
    refine iteF ?_
    have eu : valV ks (p % 8) = some u := by rw [q1 _ d2 d3, d1, hm]
    have G1 : Grow (isTa t) g H g (upd H b (.dK (liK (dropK ks (p % 8))))) := Grow.write L p1.h (by intro xs z; cases z) p1.c (by simp [isTa])
    have L1 := G1.live L
    have h1' := h1.other (v := .dK (liK (dropK ks (p % 8)))) p1 (by simp)
    have h2' := h2.other (v := .dK (liK (dropK ks (p % 8)))) p1 (by simp)
    have p1' := p1.self (v := .dK (liK (dropK ks (p % 8))))
    have r1' : ∀ s : Int, s ∈ (dropK ks (p % 8)).map (·.1) → 0 ≤ s ∧ s < (8 : Nat) := fun s hs => r1 s (mem_drop hs)
    have qd : ∀ s, 0 ≤ s → s < 8 → valV (dropK ks (p % 8)) s = setM m p none (8 * (p / 8) + s) := fun s s0 s1 => by
      rw [valV_drop]
      unfold setM
      by_cases q : s = p % 8
      · rw [if_pos q, if_pos (by omega)]
      · rw [if_neg q, if_neg (by omega), q1 s s0 s1]
    have rest : ∀ f v, f ≠ p / 8 → valV kf f = some v → SecAt g (upd H b (.dK (liK (dropK ks (p % 8))))) t f (setM m p none) v := fun f v z ev => by
      obtain ⟨b2, ks2, e2, p2, n2, r2, q2⟩ := (h5 f v ev).ex
      refine ⟨b2, ks2, e2, p2.other p1 (by simp [z]), n2, r2, fun s s0 s1 => ?_⟩
      unfold setM
      rw [if_neg (by omega)]
      exact q2 s s0 s1
    have gone : ∀ f, valV kf f = none → ∀ s, 0 ≤ s → s < 8 → setM m p none (8 * f + s) = none := fun f ev s s0 s1 => by
      unfold setM
      split
      · rfl
      · exact h6 f ev s s0 s1
    refine ⟨_, rfl, b, rfl, .inl ⟨_, .inl p1.h⟩, _, rfl, _, _, rfl, rfl, (by show (0 : Int) < 8; decide), _, Sum.inl (p % 8), p1.h, rfl, fun v2 ev2 => ?_, fun ev2 => ?_⟩
    · rw [liK_drop]
      refine ⟨_, rfl, b, _, rfl, p1'.h, rfl, _, rfl, ?_⟩
      refine ite2 (fun ez => ?_) (fun _ => ?_)
      · have e0 : dropK ks (p % 8) = [] := by
          have ez := of_decide_eq_true ez
          rw [liK_len] at ez
          injection ez with ez
          exact List.length_eq_zero_iff.mp (by omega)
        refine ⟨_, rfl, a, cTa K, dx, _, _, rfl, h1'.h, T.c_Table, T.a_Table_firsts, taF_firsts F, F, rfl, .inl ⟨_, .inl h2'.h⟩, _, rfl, _, _, rfl, rfl, ⟨by decide, by decide⟩, _, Sum.inl (p / 8), h2'.h, rfl, fun _ _ => ?_, fun z => ?_⟩
        · rw [liK_drop]
          refine k g _ (G1.trans (Grow.write L1 h2'.h (by intro xs z; cases z) h2'.c (by simp [isTa]))) ⟨dx, F, dropK kf (p / 8), h1'.other h2' (by simp), h2'.self, nd_drop' h3, fun f hf => h4 f (mem_drop hf), fun f v ev => ?_, fun f ev s s0 s1 => ?_⟩
          · rw [valV_drop] at ev
            by_cases z : f = p / 8
            · rw [if_pos z] at ev; cases ev
            · rw [if_neg z] at ev
              exact (rest f v z ev).keep (R := fun r => r == .tfi t) (Grow.write L1 h2'.h (by intro xs z; cases z) h2'.c (by simp)) (by simp)
          · rw [valV_drop] at ev
            by_cases z : f = p / 8
            · subst z
              have := qd s s0 s1
              rw [e0] at this
              exact this.symm
            · rw [if_neg z] at ev
              exact gone f ev s s0 s1
        · rw [liK_val, e] at z
          cases z
      · refine k g _ G1 ⟨dx, F, kf, h1', h2', h3, h4, fun f v ev => ?_, gone⟩
        by_cases z : f = p / 8
        · subst z
          rw [e] at ev
          cases ev
          exact ⟨b, _, rfl, p1', nd_drop' n1, r1', qd⟩
        · exact rest f v z ev
    · rw [liK_val, eu] at ev2
      cases ev2
theorem TableAt.dom {g : Col} {H : Hp} {t : Int} {a : Addr} {m : Int → Option V} (x : TableAt K g H t a m) {p : Int} (h : (m p).isSome = true) : 0 ≤ p ∧ p < 64 := by
  obtain ⟨dx, F, kf, h1, h2, h3, h4, h5, h6⟩ := x.ex
  obtain ⟨d1, d2, d3⟩ := pg_div p
  cases e : valV kf (p / 8) with
  | none =>
    have := h6 _ e _ d2 d3
    rw [d1] at this
    rw [this] at h
    cases h
  | some v =>
    have := h4 _ (valV_in e)
    omega
def spTaPages (K : PySem.W.Frag) : Sp := Sp1 fun x H Q _ => ∃ (g : Col) (t : Int) (a : Addr) (m : Int → Option V), x = .ref a ∧ TableAt K g H t a m ∧
  ∀ p H', Same H H' → H p = none → H' p = some (.lst ((pgs m).map V.int)) → Q (.ref p) H'
theorem at_map {xs : List Int} {i : Nat} {x : V} (h : (xs.map V.int)[i]? = some x) : ∃ z : Int, xs[i]? = some z ∧ x = V.int z := by
  rw [List.getElem?_map] at h
  cases e : xs[i]? with
  | none => rw [e] at h; cases h
  | some z => rw [e] at h; cases h; exact ⟨z, rfl, rfl⟩
theorem lt_of_rises {ys : List Int} (h : ys.Pairwise (· < ·)) {i j : Nat} {a b : Int} (hij : i < j) (ha : ys[i]? = some a) (hb : ys[j]? = some b) : a < b := by
  obtain ⟨h1, e1⟩ := List.getElem?_eq_some_iff.mp ha
  obtain ⟨h2, e2⟩ := List.getElem?_eq_some_iff.mp hb
  rw [← e1, ← e2]
  exact List.pairwise_iff_getElem.mp h i j h1 h2 hij
theorem rises_snoc {fs : List Int} {z : Int} (h : fs.Pairwise (· < ·)) (k : ∀ x, x ∈ fs → x < z) : (fs ++ [z]).Pairwise (· < ·) := by
  rw [List.pairwise_append]
  refine ⟨h, List.pairwise_singleton _ _, fun a ha b hb => ?_⟩
  rw [List.mem_singleton] at hb
  rw [hb]
  exact k a ha
theorem same_new {H0 H : Hp} {l : Addr} {o : HO} (s : Same H0 H) (h : H0 l = none) : Same H0 (upd H l o) := fun b u e => by
  rw [upd_ne (ne_of_none e h)]
  exact s b u e
theorem ok_TaPages (T : Tx K mg) : Okp P w K mg base 1 (He.fAd K ("Table", some "pages")) ["self"] (spTaPages K) := by
  refine okn len1 T.f_Table_pages sc_Table_pages fun cdv A outer s0 H vs Q E hr h => ?_
  obtain ⟨_, rfl, g, t, a, m, rfl, S, k⟩ := h
  have dom := @TableAt.dom K g H t a m S
  obtain ⟨dx, F, kf, h1, h2, h3, h4, h5, h6⟩ := S.ex
  have hu := hu_of hr
  obtain ⟨ti, hti⟩ := T.i_STEP
  have nd := sc_Table_pages.nd
  refine ⟨_, pss_cons (ps_set (i := 1) nd rfl (Or.inl rfl) (pe_lst pa_nil))
    (pss_cons (ps_for PassesOwn.never rfl (pi_list (pe_callB (call_sortedDI rfl) (by rfl) T.n_sorted (by decide +kernel) (pa_cons (pe_fld (pv 0) rfl) pa_nil))) (pg_name (i := 2) nd rfl (Or.inl rfl))
      (pss_one (ps_for PassesOwn.never rfl (pi_list (pe_callB (call_sortedDI rfl) (by rfl) T.n_sorted (by decide +kernel) (pa_cons (pe_dget hu (pe_fld (pv 0) rfl) (pv 2) (fun _ _ => rfl)) pa_nil))) (pg_name (i := 3) nd rfl (Or.inl rfl))
        (pss_one (ps_expr (pe_bm PySem.F.plainAttrs_list PySem.F.slot_list_append PySem.F.type_list_append mt_append (pv 1) (pa_cons (pe_op op_add (pe_op op_mul (pv 2) (pe_glob (v := .int 8) rfl hti ⟨_, rfl⟩)) (pv 3)) pa_nil)))))))
    (pss_one (ps_ret (pv 1)))), ?_⟩
  refine ⟨by decide, fun l hl => ?_⟩
  have s1 : Same H (upd H l (.lst [])) := same_new (Same.refl H) hl
  have lf : (kf.map (·.1)).length < 64 := Nat.lt_of_le_of_lt (few_keys h3 h4) (by decide)
  refine ⟨_, rfl, a, cTa K, dx, _, _, rfl, s1 _ _ h1.h, T.c_Table, T.a_Table_firsts, taF_firsts F, F, _, kf.map (·.1), rfl, .inl (s1 _ _ h2.h), liK_keys kf, lf, fun ys q perm srt hq => ?_⟩
  have ris := rises perm srt h3
  have hq0 : H q = none := s1.free hq
  have hql : q ≠ l := fun z => by rw [z, upd_same] at hq; cases hq
  have inys : ∀ f : Int, f ∈ ys ↔ f ∈ kf.map (·.1) := fun f => perm.mem_iff
  refine ⟨q, rfl, ⟨_, SqL.of upd_same⟩, for_list (K := K) (a := q) (xs := ys.map V.int) (fun i σ H2 => ∃ (v2 v3 : Option V) (fs : List Int), σ = [some (.ref a), some (.ref l), v2, v3] ∧ Same H H2 ∧ H2 q = some (.lst (ys.map V.int)) ∧ H2 l = some (.lst (fs.map V.int)) ∧ fs.Pairwise (· < ·) ∧
      ∀ p : Int, p ∈ fs ↔ ((m p).isSome = true ∧ ∃ j, j < i ∧ ys[j]? = some (p / 8))) ?_ ?_ ?_ ?_⟩
  · refine ⟨none, none, [], rfl, same_new s1 hq0, upd_same, by rw [upd_ne hql.symm, upd_same]; rfl, List.Pairwise.nil, fun p => ⟨fun z => (by cases z), fun z => ?_⟩⟩
    obtain ⟨_, j, hj, _⟩ := z
    exact absurd hj (Nat.not_lt_zero _)
  · rintro i σ H2 hi ⟨v2, v3, fs, rfl, s2, hq2, hl2, rf, mf⟩
    exact SqL.of hq2
  · rintro i x σ H2 hx ⟨v2, v3, fs, rfl, s2, hq2, hl2, rf, mf⟩
    obtain ⟨f, hf, rfl⟩ := at_map hx
    have hfk : f ∈ kf.map (·.1) := (inys f).mp (List.mem_of_getElem? hf)
    obtain ⟨v, ev⟩ := valV_some hfk
    obtain ⟨b, ks, rfl, p1, n1, r1, q1⟩ := (h5 _ _ ev).ex
    have ls : (ks.map (·.1)).length < 64 := Nat.lt_of_le_of_lt (few_keys n1 r1) (by decide)
    have dg : DGet H2 F (V.int f) (some (.ref b)) := by
      rw [← ev, ← liK_val]
      exact DGet.k (k := Sum.inl f) (s2 _ _ h2.h)
    refine ⟨_, rfl, a, cTa K, dx, _, _, rfl, s2 _ _ h1.h, T.c_Table, T.a_Table_firsts, taF_firsts F, _, rfl, F, _, rfl, dg, b, _, ks.map (·.1), rfl, .inl (s2 _ _ p1.h), liK_keys ks, ls, fun zs q2 perm2 srt2 hqq => ?_⟩
    have ris2 := rises perm2 srt2 n1
    have hq20 : H q2 = none := s2.free hqq
    have inzs : ∀ s : Int, s ∈ zs ↔ s ∈ ks.map (·.1) := fun s => perm2.mem_iff
    have hi : i < ys.length := (List.getElem?_eq_some_iff.mp hf).1
    refine ⟨q2, rfl, ⟨_, SqL.of upd_same⟩, for_list (K := K) (a := q2) (xs := zs.map V.int) (fun i2 σ H3 => ∃ (v3 : Option V) (fs : List Int), σ = [some (.ref a), some (.ref l), some (.int f), v3] ∧ Same H H3 ∧ H3 q = some (.lst (ys.map V.int)) ∧ H3 q2 = some (.lst (zs.map V.int)) ∧ H3 l = some (.lst (fs.map V.int)) ∧ fs.Pairwise (· < ·) ∧ fs.length ≤ 64 ∧
        ∀ p : Int, p ∈ fs ↔ ((m p).isSome = true ∧ ((∃ j, j < i ∧ ys[j]? = some (p / 8)) ∨ (p / 8 = f ∧ ∃ j, j < i2 ∧ zs[j]? = some (p % 8))))) ?_ ?_ ?_ ?_⟩
    · refine ⟨v3, fs, rfl, same_new s2 hq20, by rw [upd_ne (ne_of_none hq2 hqq)]; exact hq2, upd_same, by rw [upd_ne (ne_of_none hl2 hqq)]; exact hl2, rf, few_keys (rf.imp fun h => by omega) fun p hp => dom ((mf p).mp hp).1, fun p => ?_⟩
      rw [mf]
      refine ⟨fun ⟨z1, z2⟩ => ⟨z1, .inl z2⟩, fun ⟨z1, z2⟩ => ⟨z1, z2.elim id fun ⟨_, j, hj, _⟩ => absurd hj (Nat.not_lt_zero _)⟩⟩
    · rintro i2 σ H3 hi2 ⟨v3, fs, rfl, s3, hq3, hz3, hl3, rf3, lf3, mf3⟩
      exact SqL.of hz3
    · rintro i2 x2 σ H3 hx2 ⟨v3, fs, rfl, s3, hq3, hz3, hl3, rf3, lf3, mf3⟩
      obtain ⟨z, hz, rfl⟩ := at_map hx2
      have hzk : z ∈ ks.map (·.1) := (inzs z).mp (List.mem_of_getElem? hz)
      have hz8 := r1 z hzk
      have hf8 := h4 f hfk
      obtain ⟨u, eu⟩ := valV_some hzk
      have em : (m (8 * f + z)).isSome = true := by rw [← q1 z hz8.1 (by omega), eu]; rfl
      refine ⟨_, rfl, .inl ⟨rfl, _, SqL.of hl3⟩, _, rfl, _, _, rfl, rfl, .inr ⟨by decide, by decide⟩, _, rfl, _, _, rfl, rfl, l, _, _, rfl, rfl, hl3, by rw [List.length_map]; exact Nat.lt_of_le_of_lt lf3 (by decide), ?_⟩
      have ne1 : l ≠ q := fun e => hql e.symm
      have ne2 : l ≠ q2 := fun e => by rw [← e] at hqq; rw [hl2] at hqq; cases hqq
      have ez : f * 8 + z = 8 * f + z := by omega
      have old : ∀ x, x ∈ fs → x < 8 * f + z := fun x hx => by
        obtain ⟨_, hx⟩ := (mf3 x).mp hx
        rcases hx with ⟨j, hj, e⟩ | ⟨e, j, hj, e2⟩
        · have := lt_of_rises ris hj e hf
          omega
        · have := lt_of_rises ris2 hj e2 hz
          omega
      refine ⟨some (.int z), fs ++ [8 * f + z], rfl, same_new s3 hl, by rw [upd_ne ne1.symm]; exact hq3, by rw [upd_ne ne2.symm]; exact hz3, by rw [upd_same, List.map_append, ← ez]; rfl, rises_snoc rf3 old, ?_, fun p => ?_⟩
      · refine few_keys (n := 64) ((rises_snoc rf3 old).imp fun h => by omega) fun p hp => ?_
        rcases List.mem_append.mp hp with hp | hp
        · exact dom ((mf3 p).mp hp).1
        · rw [List.mem_singleton] at hp
          rw [hp]
          exact dom em
      · rw [List.mem_append, List.mem_singleton, mf3]
        constructor
        · rintro (⟨z1, z2 | ⟨z2, j, hj, e⟩⟩ | rfl)
          · exact ⟨z1, .inl z2⟩
          · exact ⟨z1, .inr ⟨z2, j, by omega, e⟩⟩
          · refine ⟨em, .inr ⟨by omega, i2, by omega, ?_⟩⟩
            rw [hz]
            congr 1
            omega
        · rintro ⟨z1, z2 | ⟨z2, j, hj, e⟩⟩
          · exact .inl ⟨z1, .inl z2⟩
          · by_cases hji : j = i2
            · subst hji
              rw [hz] at e
              have e := Option.some.inj e
              right
              have := pg_div p
              omega
            · exact .inl ⟨z1, .inr ⟨z2, j, by omega, e⟩⟩
    · rintro σ H3 ⟨v3, fs, rfl, s3, hq3, hz3, hl3, rf3, lf3, mf3⟩
      refine ⟨_, _, fs, rfl, s3, hq3, hl3, rf3, fun p => ?_⟩
      rw [mf3]
      constructor
      · rintro ⟨z1, ⟨j, hj, e⟩ | ⟨e, _⟩⟩
        · exact ⟨z1, j, by omega, e⟩
        · exact ⟨z1, i, by omega, by rw [hf, e]⟩
      · rintro ⟨z1, j, hj, e⟩
        refine ⟨z1, ?_⟩
        by_cases hji : j = i
        · subst hji
          rw [hf] at e
          have e := Option.some.inj e
          obtain ⟨d1, d2, d3⟩ := pg_div p
          have := q1 _ d2 d3
          rw [e, d1] at this
          have hs : p % 8 ∈ ks.map (·.1) := by
            cases e3 : valV ks (p % 8) with
            | none => rw [e3] at this; rw [← this] at z1; cases z1
            | some v => exact valV_in e3
          obtain ⟨j2, hj2⟩ := List.getElem?_of_mem ((inzs _).mpr hs)
          exact .inr ⟨e.symm, j2, by rw [List.length_map]; exact (List.getElem?_eq_some_iff.mp hj2).1, hj2⟩
        · exact .inl ⟨j, by omega, e⟩
  · rintro σ H2 ⟨v2, v3, fs, rfl, s2, hq2, hl2, rf, mf⟩
    have e : fs = pgs m := rising_eq rf (pgs_rises m) fun p => by
      rw [mf, pgs_mem]
      constructor
      · rintro ⟨z1, _⟩
        exact ⟨dom z1, z1⟩
      · rintro ⟨_, z1⟩
        refine ⟨z1, ?_⟩
        obtain ⟨d1, d2, d3⟩ := pg_div p
        cases e : valV kf (p / 8) with
        | none =>
          have := h6 _ e _ d2 d3
          rw [d1] at this
          rw [this] at z1
          cases z1
        | some v =>
          obtain ⟨j, hj⟩ := List.getElem?_of_mem ((inys _).mpr (valV_in e))
          exact ⟨j, by rw [List.length_map]; exact (List.getElem?_eq_some_iff.mp hj).1, hj⟩
    rw [e] at hl2
    exact ⟨_, rfl, k l H2 s2 hl hl2⟩
end

-- part K9R
/-! ### rules of our own: dicts with tuple keys -/
section
variable {X : Cx}
/-- d.pop(k), k a tuple that is there -/
def rPopT1 : V → List V → Hp → VK → Prop := fun x xs H Q => ∃ (a : Addr) (kvs : List (List Key × V)) (k : List Key) (b : Addr) (v : V), x = .ref a ∧ xs = [.ref b] ∧ H a = some (.dT kvs) ∧ H b = some (.tup (k.map kV)) ∧ valV kvs k = some v ∧ Q v (upd H a (.dT (dropK kvs k)))
theorem mt_popT1 (hu : X.A.units + 1 < cLine) : MtR X "dict.pop" rPopT1 := by
  intro pins s σ H x xs v us Q I rx rxs h
  obtain ⟨a, kvs, k, b, v0, rfl, rfl, ha, hb, ev, q1⟩ := h
  cases rx
  obtain ⟨u1, rfl, r1⟩ := vals1 rxs
  cases r1
  obtain ⟨z, hd, ys, rel, dd⟩ := dt_of I.hok ha
  have hz : ys.length ≤ sizeLine := by rw [← Paired.length rel]; exact z
  have r := rel.val k
  rw [ev] at r
  cases ep : atKey ys k with
  | none => rw [ep] at r; exact (show False from r).elim
  | some p =>
    rw [ep] at r
    have rv : RelV v0 p.2 := r
    refine call_pop_heap (hsz := hz) (.inl rfl) (PySem.F.args_dict_pop_2 _ _) (tupleKind_room_in1 hu) (key_of I.hok hb) hd dd ep fun h' dd' hs => ?_
    obtain ⟨o, es, ep', hq, h2, h3, h4, _, h5⟩ := dd'
    exact ⟨v0, _, d_write (ob := .dT (dropK kvs k)) I (by rw [ha]; exact True.intro) hs ⟨o, hq⟩ ⟨Nat.le_trans (dropK_le kvs k) z, hd, _, KT.keeps (L2.DX.KT_drop k rel) (fun c ys ec => (by rw [upd_ne (ne_of ec ha (fun z => nomatch z))]; exact ec)), o, es, ep', hq, h2, h3, h4, h5⟩, rv, q1⟩
/-- d.setdefault(k, x), k a tuple -/
def rSetdT : V → List V → Hp → VK → Prop := fun x xs H Q => ∃ (a : Addr) (kvs : List (List Key × V)) (k : List Key) (b : Addr) (d : V), x = .ref a ∧ xs = [.ref b, d] ∧ H a = some (.dT kvs) ∧ H b = some (.tup (k.map kV)) ∧ kvs.length < sizeLine ∧
  (∀ v, valV kvs k = some v → Q v H) ∧ (valV kvs k = none → Q d (upd H a (.dT (putK kvs k d))))
theorem mt_setdT (hu : X.A.units + 1 < cLine) : MtR X "dict.setdefault" rSetdT := by
  intro pins s σ H x xs v us Q I rx rxs h
  obtain ⟨a, kvs, k, b, d, rfl, rfl, ha, hb, hl, q1, q2⟩ := h
  cases rx
  obtain ⟨u1, u2, rfl, r1, r2⟩ := vals2 rxs
  cases r1
  obtain ⟨z, hd, ys, rel, dd⟩ := dt_of I.hok ha
  have hz : ys.length ≤ sizeLine := by rw [← Paired.length rel]; exact z
  have r := rel.val k
  refine call_setdefault_heap (hsz := hz) (tupleKind_room_in1 hu) (key_of I.hok hb) hd dd (fun p hp => ?_) fun hn h' dd' hs => ?_
  · rw [hp] at r
    cases ev : valV kvs k with
    | none => rw [ev] at r; exact (show False from r).elim
    | some v0 =>
      rw [ev] at r
      exact ⟨v0, H, I.tok _, r, q1 v0 ev⟩
  · rw [hn] at r
    cases ev : valV kvs k with
    | some v0 => rw [ev] at r; exact (show False from r).elim
    | none =>
      obtain ⟨o, es, ep', hq, h2, h3, h4, _, h5⟩ := dd'
      have hl2 : (putK kvs k d).length ≤ sizeLine := by
        have := length_putK kvs k d
        omega
      exact ⟨d, _, d_write (ob := .dT (putK kvs k d)) I (by rw [ha]; exact True.intro) hs ⟨o, hq⟩ ⟨hl2, hd, _, KT.keeps (rel.put k hb r2) (fun c ys ec => (by rw [upd_ne (ne_of ec ha (fun z => nomatch z))]; exact ec)), o, es, ep', hq, h2, h3, h4, h5⟩, r2, q2 ev⟩
end

-- part K9P
/-! ### where a page lies -/
inductive Ent where
  | blank
  | «at» (b : Bool) (n : Nat)
  deriving DecidableEq
def kn : Bool → Str
  | false => "frame"
  | true => "slot"
def entXs : Ent → List V
  | .blank => [.str "blank"]
  | .at b n => [.str (kn b), .int (n : Int)]
def dE : Ent → PyData
  | .blank => .tuple [.str "blank"]
  | .at b n => .tuple [.str (kn b), .int (n : Int)]
theorem dE_shaped (e : Ent) : SeqAt.shaped (dE e) = true := by
  cases e with
  | blank => kernel_rfl
  | «at» b n => cases b <;> kernel_rfl
theorem kn_eq (b c : Bool) : (kn b == kn c) = decide (b = c) := by cases b <;> cases c <;> decide +kernel
theorem dE_eqv (e f : Ent) : PyData.eqv (dE e) (dE f) = decide (e = f) := by
  cases e with
  | blank =>
    cases f with
    | blank => decide +kernel
    | «at» c m =>
      have : PyData.eqv (dE .blank) (dE (.at c m)) = ((("blank" : Str) == kn c) && false) := rfl
      rw [this, Bool.and_false, decide_eq_false (by intro z; cases z)]
  | «at» b n =>
    cases f with
    | blank =>
      have : PyData.eqv (dE (.at b n)) (dE .blank) = ((kn b == ("blank" : Str)) && false) := rfl
      rw [this, Bool.and_false, decide_eq_false (by intro z; cases z)]
    | «at» c m =>
      have : PyData.eqv (dE (.at b n)) (dE (.at c m)) = ((kn b == kn c) && (((n : Int) == (m : Int)) && true)) := rfl
      rw [this, kn_eq, Bool.and_true]
      by_cases e1 : b = c
      · by_cases e2 : n = m
        · subst e1 e2
          simp
        · have z : ((n : Int) == (m : Int)) = false := by rw [beq_eq_false_iff_ne]; omega
          rw [z, Bool.and_false, decide_eq_false (by intro q; injection q with _ q; exact e2 q)]
      · rw [decide_eq_false e1, Bool.false_and, decide_eq_false (by intro q; injection q with q _; exact e1 q)]
/-- the value of an entry -/
structure EntV (K : PySem.W.Frag) (H : Hp) (v : V) (e : Ent) : Prop where
  ex : ∃ a : Addr, v = .ref a ∧ TupV K H a (entXs e) ∧ (e ≠ .blank → H a = some (.tup (entXs e)))
theorem EntV.keep {K : PySem.W.Frag} {H H' : Hp} {v : V} {e : Ent} (x : EntV K H v e) (k : ∀ a xs, H a = some (.tup xs) → H' a = some (.tup xs)) : EntV K H' v e := by
  obtain ⟨a, h1, h2, h3⟩ := x.ex
  exact ⟨a, h1, h2.keep k, fun n => k _ _ (h3 n)⟩
theorem EntV.dp {K : PySem.W.Frag} {H : Hp} {v : V} {e : Ent} (x : EntV K H v e) : Dp K H v (dE e) := by
  obtain ⟨a, rfl, h2, h3⟩ := x.ex
  cases e with
  | blank => exact .tup h2.sq (.cons (.str _) .nil)
  | «at» b n => exact .tup h2.sq (.cons (.str _) (.cons (.int _) .nil))
theorem EntV.mk' {K : PySem.W.Frag} {H : Hp} {p : Addr} {e : Ent} (h : H p = some (.tup (entXs e))) : EntV K H (.ref p) e := ⟨p, rfl, .inl h, fun _ => h⟩
section
variable {X : Cx}
def rEqE (K : PySem.W.Frag) : R2 := fun x y H Q => ∃ e f, EntV K H x e ∧ EntV K H y f ∧ Q (.bl (decide (e = f))) H
def rNeE (K : PySem.W.Frag) : R2 := fun x y H Q => ∃ e f, EntV K H x e ∧ EntV K H y f ∧ Q (.bl (!decide (e = f))) H
theorem op_eqE (hu : X.A.units + 64 < cLine) : OpR X (compareOp .Eq) (rEqE X.K) := by
  intro pins s σ H x y v u Q I rx ry ⟨e, f, he, hf, q⟩
  exact op_eqD hu pins s σ H x y v u Q I rx ry ⟨_, _, he.dp, hf.dp, dE_shaped e, dE_shaped f, by rw [dE_eqv]; exact q⟩
theorem op_neE (hu : X.A.units + 64 < cLine) : OpR X (compareOp .NotEq) (rNeE X.K) := by
  intro pins s σ H x y v u Q I rx ry ⟨e, f, he, hf, q⟩
  exact op_neD hu pins s σ H x y v u Q I rx ry ⟨_, _, he.dp, hf.dp, dE_shaped e, dE_shaped f, by rw [dE_eqv]; exact q⟩
end
def entK (b : Bool) (n : Nat) : List Key := [Sum.inr (kn b), Sum.inl (n : Int)]
theorem entK_v (b : Bool) (n : Nat) : (entK b n).map kV = entXs (.at b n) := rfl
theorem kn_inj {b c : Bool} (h : kn b = kn c) : b = c := by
  have := kn_eq b c
  rw [h, beq_self_eq_true] at this
  exact of_decide_eq_true this.symm
theorem entK_inj {b c : Bool} {n m : Nat} (h : entK b n = entK c m) : b = c ∧ n = m := by
  have h1 : (Sum.inr (kn b) : Key) = Sum.inr (kn c) := (List.cons.inj h).1
  have h2 : (Sum.inl (n : Int) : Key) = Sum.inl (m : Int) := (List.cons.inj (List.cons.inj h).2).1
  exact ⟨kn_inj (Sum.inr.inj h1), by have := Sum.inl.inj h2; omega⟩
def ownK (x : Int × Int) : List Key := [Sum.inl x.1, Sum.inl x.2]
def ownXs (x : Int × Int) : List V := [.int x.1, .int x.2]
theorem ownK_v (x : Int × Int) : (ownK x).map kV = ownXs x := rfl
theorem ownK_inj {x y : Int × Int} (h : ownK x = ownK y) : x = y := by
  have h1 : (Sum.inl x.1 : Key) = Sum.inl y.1 := (List.cons.inj h).1
  have h2 : (Sum.inl x.2 : Key) = Sum.inl y.2 := (List.cons.inj (List.cons.inj h).2).1
  exact Prod.ext (Sum.inl.inj h1) (Sum.inl.inj h2)
/-- the dict of the pages that lie at one place -/
def owT (l : List (Int × Int)) : List (List Key × V) := l.map fun x => (ownK x, V.bl true)
theorem owT_val (l : List (Int × Int)) (x : Int × Int) : valV (owT l) (ownK x) = if x ∈ l then some (.bl true) else none := by
  induction l with
  | nil => rfl
  | cons y r ih =>
    show valV ((ownK y, V.bl true) :: owT r) (ownK x) = _
    by_cases e : y = x
    · rw [valV_pos (by rw [e]), if_pos (by rw [e]; exact List.mem_cons_self)]
    · rw [valV_neg (fun z => e (ownK_inj z)), ih]
      by_cases m : x ∈ r
      · rw [if_pos m, if_pos (List.mem_cons_of_mem _ m)]
      · rw [if_neg m, if_neg fun z => (List.mem_cons.mp z).elim (fun q => e q.symm) m]
def addO (l : List (Int × Int)) (x : Int × Int) : List (Int × Int) := if x ∈ l then l else l ++ [x]
theorem owT_put (l : List (Int × Int)) (x : Int × Int) : putK (owT l) (ownK x) (.bl true) = owT (addO l x) := by
  unfold addO
  by_cases h : x ∈ l
  · rw [if_pos h]
    unfold putK
    rw [if_pos (by rw [valV_any, owT_val, if_pos h]; rfl)]
    unfold owT
    rw [List.map_map]
    refine List.map_congr_left fun y _ => ?_
    show (if ownK y = ownK x then (ownK y, V.bl true) else (ownK y, V.bl true)) = _
    split <;> rfl
  · rw [if_neg h, putK_new _ (by rw [owT_val, if_neg h])]
    unfold owT
    rw [List.map_append]
    rfl
def delO (l : List (Int × Int)) (x : Int × Int) : List (Int × Int) := l.filter fun y => decide (y ≠ x)
theorem owT_drop (l : List (Int × Int)) (x : Int × Int) : dropK (owT l) (ownK x) = owT (delO l x) := by
  unfold dropK delO owT
  rw [List.filter_map]
  congr 1
  refine List.filter_congr fun y _ => ?_
  show decide (ownK y ≠ ownK x) = decide (y ≠ x)
  by_cases e : y = x
  · rw [e]; simp
  · have z : ¬ ownK y = ownK x := fun z => e (ownK_inj z)
    simp [e, z]
theorem owT_len (l : List (Int × Int)) : (owT l).length = l.length := by unfold owT; rw [List.length_map]
theorem addO_len (l : List (Int × Int)) (x : Int × Int) : (addO l x).length ≤ l.length + 1 := by
  unfold addO
  split
  · omega
  · rw [List.length_append]; exact Nat.le_refl _
theorem addO_nd {l : List (Int × Int)} {x : Int × Int} (h : l.Nodup) : (addO l x).Nodup := by
  unfold addO
  split
  · exact h
  · exact nd_snoc h (by assumption)
theorem delO_nd {l : List (Int × Int)} {x : Int × Int} (h : l.Nodup) : (delO l x).Nodup := List.Nodup.sublist List.filter_sublist h
theorem delO_len (l : List (Int × Int)) (x : Int × Int) : (delO l x).length ≤ l.length := List.length_filter_le _ _
/-! ### the state of the pages, in plain words -/
structure PS where
  fr : Nat
  sl : Nat
  hand : Nat
  own : Bool → List Nat
  ts : List Int
  pl : Int → Int → Option Ent
  ow : Bool → Nat → List (Int × Int)
def updB (f : Bool → List Nat) (b : Bool) (l : List Nat) : Bool → List Nat := fun c => if c = b then l else f c
def updO (f : Bool → Nat → List (Int × Int)) (b : Bool) (n : Nat) (l : List (Int × Int)) : Bool → Nat → List (Int × Int) := fun c k => if c = b ∧ k = n then l else f c k
def setE (m : Int → Option Ent) (p : Int) (e : Option Ent) : Int → Option Ent := fun q => if q = p then e else m q
def setP (f : Int → Int → Option Ent) (t : Int) (m : Int → Option Ent) : Int → Int → Option Ent := fun u => if u = t then m else f u
/-- a room's pages: what the table holds, in plain words and as values -/
structure RelM (K : PySem.W.Frag) (H : Hp) (e : Int → Option Ent) (m : Int → Option V) : Prop where
  is : ∀ p x, e p = some x → ∃ v, m p = some v ∧ EntV K H v x
  no : ∀ p, e p = none → m p = none
theorem RelM.keep {K : PySem.W.Frag} {H H' : Hp} {e : Int → Option Ent} {m : Int → Option V} (x : RelM K H e m) (k : ∀ a xs, H a = some (.tup xs) → H' a = some (.tup xs)) : RelM K H' e m :=
  ⟨fun p y h => let ⟨v, h1, h2⟩ := x.is p y h; ⟨v, h1, h2.keep k⟩, x.no⟩
theorem RelM.set {K : PySem.W.Frag} {H : Hp} {e : Int → Option Ent} {m : Int → Option V} (x : RelM K H e m) (p : Int) {v : V} {y : Ent} (h : EntV K H v y) : RelM K H (setE e p (some y)) (setM m p (some v)) := by
  refine ⟨fun q z hq => ?_, fun q hq => ?_⟩
  · unfold setE at hq
    unfold setM
    by_cases e : q = p
    · rw [if_pos e] at hq ⊢
      cases hq
      exact ⟨v, rfl, h⟩
    · rw [if_neg e] at hq ⊢
      exact x.is q z hq
  · unfold setE at hq
    unfold setM
    by_cases e : q = p
    · rw [if_pos e] at hq
      cases hq
    · rw [if_neg e] at hq ⊢
      exact x.no q hq
theorem RelM.unset {K : PySem.W.Frag} {H : Hp} {e : Int → Option Ent} {m : Int → Option V} (x : RelM K H e m) (p : Int) : RelM K H (setE e p none) (setM m p none) := by
  refine ⟨fun q z hq => ?_, fun q hq => ?_⟩
  · unfold setE at hq
    unfold setM
    by_cases e : q = p
    · rw [if_pos e] at hq
      cases hq
    · rw [if_neg e] at hq ⊢
      exact x.is q z hq
  · unfold setE at hq
    unfold setM
    by_cases e : q = p
    · rw [if_pos e]
    · rw [if_neg e] at hq ⊢
      exact x.no q hq
abbrev cPa (K : PySem.W.Frag) : Addr := He.ga K "Paging"
/-- where Paging's own things stand -/
structure Ly where
  dx : Addr
  sd : Addr
  td : Addr
  od : Addr
  sa : Bool → Addr
  ko : List (List Key × V)
def paF (sd td od : Addr) (fr sl hand : Nat) : List (Str × V) := [("stores", .ref sd), ("frames", .int (fr : Int)), ("slots", .int (sl : Int)), ("tables", .ref td), ("owners", .ref od), ("hand", .int (hand : Int))]
theorem paF_stores (sd td od : Addr) (fr sl hand : Nat) : (paF sd td od fr sl hand).lookup ("stores" : Str) = some (.ref sd) := by kernel_rfl
theorem paF_frames (sd td od : Addr) (fr sl hand : Nat) : (paF sd td od fr sl hand).lookup ("frames" : Str) = some (.int (fr : Int)) := by kernel_rfl
theorem paF_slots (sd td od : Addr) (fr sl hand : Nat) : (paF sd td od fr sl hand).lookup ("slots" : Str) = some (.int (sl : Int)) := by kernel_rfl
theorem paF_tables (sd td od : Addr) (fr sl hand : Nat) : (paF sd td od fr sl hand).lookup ("tables" : Str) = some (.ref td) := by kernel_rfl
theorem paF_owners (sd td od : Addr) (fr sl hand : Nat) : (paF sd td od fr sl hand).lookup ("owners" : Str) = some (.ref od) := by kernel_rfl
theorem paF_hand (sd td od : Addr) (fr sl hand : Nat) : (paF sd td od fr sl hand).lookup ("hand" : Str) = some (.int (hand : Int)) := by kernel_rfl
theorem paF_put (sd td od : Addr) (fr sl hand h2 : Nat) : putF "hand" (.int (h2 : Int)) (paF sd td od fr sl hand) = paF sd td od fr sl h2 := by kernel_rfl
theorem paF_mk (sd td od : Addr) (fr sl : Nat) : putF "hand" (.int 0) (putF "owners" (.ref od) (putF "tables" (.ref td) (putF "slots" (.int (sl : Int)) (putF "frames" (.int (fr : Int)) (putF "stores" (.ref sd) []))))) = paF sd td od fr sl 0 := by kernel_rfl
def sdK (sa : Bool → Addr) : List (Key × V) := [(Sum.inr "frame", .ref (sa false)), (Sum.inr "slot", .ref (sa true))]
theorem sdK_val (sa : Bool → Addr) (b : Bool) : valV (sdK sa) (Sum.inr (kn b)) = some (.ref (sa b)) := by cases b <;> kernel_rfl
/-- Paging stands at p; its tables dict holds kt -/
structure PagL (K : PySem.W.Frag) (g : Col) (H : Hp) (p : Addr) (S : PS) (kt : List (Int × V)) (y : Ly) : Prop where
  pob : Pt g .pob H p (.ins (cPa K) y.dx (paF y.sd y.td y.od S.fr S.sl S.hand))
  sdi : Pt g .sdi H y.sd (.dK (sdK y.sa))
  sto : ∀ b, StoreAt K g H b (y.sa b) (S.own b)
  tdi : Pt g .tdi H y.td (.dK (liK kt))
  tks : kt.map (·.1) = S.ts
  tnd : S.ts.Nodup
  tln : S.ts.length ≤ 1000
  tab : ∀ t v, valV kt t = some v → ∃ a m, v = .ref a ∧ TableAt K g H t a m ∧ RelM K H (S.pl t) m
  odi : Pt g .odi H y.od (.dT y.ko)
  ond : (y.ko.map (·.1)).Nodup
  okk : ∀ k, k ∈ y.ko.map (·.1) → ∃ b n, k = entK b n ∧ n < 60
  inn : ∀ b n v, valV y.ko (entK b n) = some v → ∃ a, v = .ref a ∧ Pt g (.inn b n) H a (.dT (owT (S.ow b n)))
  inz : ∀ b n, valV y.ko (entK b n) = none → S.ow b n = []
  ows : ∀ b n, (S.ow b n).Nodup ∧ (S.ow b n).length ≤ 1000
  lnf : (S.own false).length = S.fr
  lns : (S.own true).length = S.sl
  hnd : S.hand < S.fr
def isRm : Role → Bool
  | .lpd => false
  | .lpi _ => false
  | .rob => false
  | _ => true
section
variable {K : PySem.W.Frag} {R : Role → Bool} {g g1 : Col} {H H1 : Hp} {p : Addr} {S : PS} {kt : List (Int × V)} {y : Ly}
theorem isSt_rm {b : Bool} : ∀ r, isSt b r = true → isRm r = true := fun r h => by cases r <;> simp_all [isSt, isRm]
theorem isTa_rm {t : Int} : ∀ r, isTa t r = true → isRm r = true := fun r h => by cases r <;> simp_all [isTa, isRm]
theorem PagL.keep (x : PagL K g H p S kt y) (G : Grow R g H g1 H1) (n : ∀ r, isRm r = true → R r = false) : PagL K g1 H1 p S kt y :=
  { x with
    pob := x.pob.keep G (n _ rfl)
    sdi := x.sdi.keep G (n _ rfl)
    sto := fun b => (x.sto b).keep G fun r h => n r (isSt_rm r h)
    tdi := x.tdi.keep G (n _ rfl)
    tab := fun t v e => let ⟨a, m, h1, h2, h3⟩ := x.tab t v e; ⟨a, m, h1, h2.keep G fun r h => n r (isTa_rm r h), h3.keep G.tup⟩
    odi := x.odi.keep G (n _ rfl)
    inn := fun b k v e => let ⟨a, h1, h2⟩ := x.inn b k v e; ⟨a, h1, h2.keep G (n _ rfl)⟩ }
theorem PagL.same (x : PagL K g H p S kt y) (l : Live g H) (e : Same H H1) : PagL K g H1 p S kt y := x.keep (R := fun _ => false) (Grow.same l e) fun _ _ => rfl
/-- one store is changed -/
theorem PagL.store (x : PagL K g H p S kt y) {b : Bool} {l : List Nat} (G : Grow (isSt b) g H g1 H1) (s : StoreAt K g1 H1 b (y.sa b) l) (hl : l.length = (S.own b).length) : PagL K g1 H1 p { S with own := updB S.own b l } kt y :=
  { x with
    pob := x.pob.keep G rfl
    sdi := x.sdi.keep G rfl
    sto := fun c => by
      show StoreAt K g1 H1 c (y.sa c) (updB S.own b l c)
      unfold updB
      by_cases e : c = b
      · rw [if_pos e, e]; exact s
      · rw [if_neg e]
        refine (x.sto c).keep G fun r h => ?_
        cases r <;> simp_all [isSt]
    tdi := x.tdi.keep G rfl
    tab := fun t v e => let ⟨a, m, h1, h2, h3⟩ := x.tab t v e; ⟨a, m, h1, h2.keep G fun r h => by cases r <;> simp_all [isSt, isTa], h3.keep G.tup⟩
    odi := x.odi.keep G rfl
    inn := fun b k v e => let ⟨a, h1, h2⟩ := x.inn b k v e; ⟨a, h1, h2.keep G rfl⟩
    lnf := by
      show (updB S.own b l false).length = _
      unfold updB
      by_cases e : false = b
      · rw [if_pos e, hl, ← e]; exact x.lnf
      · rw [if_neg e]; exact x.lnf
    lns := by
      show (updB S.own b l true).length = _
      unfold updB
      by_cases e : true = b
      · rw [if_pos e, hl, ← e]; exact x.lns
      · rw [if_neg e]; exact x.lns }
/-- one room's table is changed -/
theorem PagL.table (x : PagL K g H p S kt y) {t : Int} {a : Addr} {m : Int → Option V} {e : Int → Option Ent} (G : Grow (isTa t) g H g1 H1) (ev : valV kt t = some (.ref a)) (s : TableAt K g1 H1 t a m) (r : RelM K H1 e m) : PagL K g1 H1 p { S with pl := setP S.pl t e } kt y :=
  { x with
    pob := x.pob.keep G rfl
    sdi := x.sdi.keep G rfl
    sto := fun c => (x.sto c).keep G fun r h => by cases r <;> simp_all [isSt, isTa]
    tdi := x.tdi.keep G rfl
    tab := fun u v ev2 => by
      show ∃ a m, v = .ref a ∧ TableAt K g1 H1 u a m ∧ RelM K H1 (setP S.pl t e u) m
      unfold setP
      by_cases z : u = t
      · subst z
        rw [ev] at ev2
        cases ev2
        rw [if_pos rfl]
        exact ⟨a, m, rfl, s, r⟩
      · rw [if_neg z]
        obtain ⟨b, k, h1, h2, h3⟩ := x.tab u v ev2
        exact ⟨b, k, h1, h2.keep G fun r h => by cases r <;> simp_all [isTa], h3.keep G.tup⟩
    odi := x.odi.keep G rfl
    inn := fun b k v e => let ⟨a, h1, h2⟩ := x.inn b k v e; ⟨a, h1, h2.keep G rfl⟩ }
/-- the dict of one place's pages is changed -/
theorem PagL.place (x : PagL K g H p S kt y) {b : Bool} {n : Nat} {a : Addr} {l : List (Int × Int)} (L : Live g H) (ev : valV y.ko (entK b n) = some (.ref a)) (hl : l.length ≤ 1000) (nd : l.Nodup) :
    Grow isRm g H g (upd H a (.dT (owT l))) ∧ PagL K g (upd H a (.dT (owT l))) p { S with ow := updO S.ow b n l } kt y := by
  obtain ⟨a2, e2, h⟩ := x.inn b n _ ev
  cases e2
  have G : Grow (fun r => r == .inn b n) g H g (upd H a (.dT (owT l))) := Grow.write L h.h (by intro xs z; cases z) h.c (by simp)
  refine ⟨G.mono fun r h => by have := eq_of_beq h; subst this; rfl, { x with
    pob := x.pob.keep G rfl
    sdi := x.sdi.keep G rfl
    sto := fun c => (x.sto c).keep G fun r h => by cases r <;> simp_all [isSt]
    tdi := x.tdi.keep G rfl
    tab := fun t v e => let ⟨a, m, h1, h2, h3⟩ := x.tab t v e; ⟨a, m, h1, h2.keep G fun r h => by cases r <;> simp_all [isTa], h3.keep G.tup⟩
    odi := x.odi.keep G rfl
    inn := fun c k v e => ?_
    inz := fun c k e => ?_
    ows := fun c k => ?_ }⟩
  · show ∃ a', v = .ref a' ∧ Pt g (.inn c k) (upd H a (.dT (owT l))) a' (.dT (owT (updO S.ow b n l c k)))
    unfold updO
    by_cases z : c = b ∧ k = n
    · obtain ⟨rfl, rfl⟩ := z
      rw [ev] at e
      cases e
      rw [if_pos ⟨rfl, rfl⟩]
      exact ⟨a, rfl, h.self⟩
    · rw [if_neg z]
      obtain ⟨a2, h1, h2⟩ := x.inn c k v e
      refine ⟨a2, h1, h2.keep G ?_⟩
      rw [beq_eq_false_iff_ne]
      intro q
      injection q with q1 q2
      exact z ⟨q1, q2⟩
  · show updO S.ow b n l c k = []
    unfold updO
    by_cases z : c = b ∧ k = n
    · obtain ⟨rfl, rfl⟩ := z
      rw [ev] at e
      cases e
    · rw [if_neg z]
      exact x.inz c k e
  · show (updO S.ow b n l c k).Nodup ∧ (updO S.ow b n l c k).length ≤ 1000
    unfold updO
    by_cases z : c = b ∧ k = n
    · rw [if_pos z]; exact ⟨nd, hl⟩
    · rw [if_neg z]; exact x.ows c k
end

-- part K9Q
/-! ### Paging: its own deeds -/
/-- a thing without a colour: nobody changes it -/
structure Fz (g : Col) (H : Hp) (a : Addr) (o : HO) : Prop where
  c : g a = none
  h : H a = some o
theorem Fz.keep {R : Role → Bool} {g g1 : Col} {H H1 : Hp} {a : Addr} {o : HO} (x : Fz g H a o) (G : Grow R g H g1 H1) : Fz g1 H1 a o := ⟨(G.col a (by rw [x.h]; simp)).trans x.c, G.fr a o x.h fun r c => by rw [x.c] at c; cases c⟩
theorem Fz.new {g : Col} {H : Hp} {a : Addr} {o : HO} (l : Live g H) (h : H a = none) : Fz g (upd H a o) a o := ⟨l.none h, upd_same⟩
/-- the pages' tuples, one after another -/
abbrev OwnL (H : Hp) (l : List (Int × Int)) (bs : List Addr) : Prop := Paired (fun (x : Int × Int) (b : Addr) => H b = some (.tup (ownXs x))) l bs
theorem OwnL.keep {H H' : Hp} {l : List (Int × Int)} {bs : List Addr} (x : OwnL H l bs) (k : ∀ a xs, H a = some (.tup xs) → H' a = some (.tup xs)) : OwnL H' l bs := Paired.mapP x fun _ _ h => k _ _ h
theorem OwnL.at {H : Hp} : ∀ {l : List (Int × Int)} {bs : List Addr} {i : Nat} {b : Addr}, OwnL H l bs → bs[i]? = some b → ∃ x, l[i]? = some x ∧ H b = some (.tup (ownXs x))
  | _, _, _, _, .nil, h => by simp at h
  | _, _, 0, _, .cons r _, h => by simp at h; subst h; exact ⟨_, rfl, r⟩
  | _, _, i + 1, b, .cons _ t, h => by
    obtain ⟨x, h1, h2⟩ := OwnL.at (i := i) t (by simpa using h)
    exact ⟨x, by simpa using h1, h2⟩
theorem ownL_of {H : Hp} : ∀ {l : List (Int × Int)} {bs : List Addr}, IsKeys H (owT l) bs → OwnL H l bs
  | [], _, h => by cases h; exact .nil
  | x :: l, _, h => by
    cases h with
    | cons r t => exact .cons r (ownL_of t)
def PagA (K : PySem.W.Frag) (g : Col) (H : Hp) (p : Addr) (S : PS) (kt : List (Int × V)) : Prop := ∃ y, PagL K g H p S kt y
def PS.lay (S : PS) (x : Int × Int) (e : Ent) : PS := { S with
  pl := setP S.pl x.1 (setE (S.pl x.1) x.2 (some e))
  ow := match e with
    | .blank => S.ow
    | .at b n => updO S.ow b n (addO (S.ow b n) x) }
def PS.leave (S : PS) (x : Int × Int) : PS := match S.pl x.1 x.2 with
  | some (.at b n) => { S with ow := updO S.ow b n (delO (S.ow b n) x), own := updB S.own b ((S.own b).set n (((S.own b)[n]?).getD 0 - 1)) }
  | _ => S
section
variable {P : Program} {w : World} {K : PySem.W.Frag} {mg : Str → Option Value} {base : Heap}
theorem Tx.blankV (T : Tx K mg) (H : Hp) : EntV K H (.ref (He.ga K "BLANK")) .blank := by
  refine ⟨_, rfl, ?_, fun n => absurd rfl n⟩
  rcases T.blank (fun _ => none) with (h | ⟨o, h⟩) | h
  · cases h
  · cases h
  · exact .inr h
section
variable {g : Col} {H : Hp} {p : Addr} {S : PS} {kt : List (Int × V)} {y : Ly}
theorem PagL.tabOf (x : PagL K g H p S kt y) {t : Int} (h : t ∈ S.ts) : ∃ a m, valV kt t = some (.ref a) ∧ DGet H y.td (.int t) (some (.ref a)) ∧ TableAt K g H t a m ∧ RelM K H (S.pl t) m := by
  rw [← x.tks] at h
  obtain ⟨v, ev⟩ := valV_some h
  obtain ⟨a, m, rfl, h1, h2⟩ := x.tab t v ev
  refine ⟨a, m, ev, ?_, h1, h2⟩
  rw [← ev, ← liK_val]
  exact DGet.k (k := Sum.inl t) x.tdi.h
theorem PagL.stoGet (x : PagL K g H p S kt y) (b : Bool) : DGet H y.sd (.str (kn b)) (some (.ref (y.sa b))) := by
  rw [← sdK_val]
  exact DGet.k (k := Sum.inr (kn b)) x.sdi.h
theorem PagL.sob (x : PagL K g H p S kt y) (b : Bool) : ∃ dx lo lc, H (y.sa b) = some (.ins (cSt K) dx (stF lo lc)) := by
  obtain ⟨dx, lo, lc, cs, h, _⟩ := (x.sto b).ex
  exact ⟨dx, lo, lc, h.h⟩
theorem PagL.koLen (x : PagL K g H p S kt y) : y.ko.length < sizeLine := by
  have z : y.ko.map (·.1) ⊆ (List.range 60).map (entK false) ++ (List.range 60).map (entK true) := fun k hk => by
    obtain ⟨b, n, rfl, hn⟩ := x.okk k hk
    rw [List.mem_append]
    cases b with
    | false => exact .inl (List.mem_map.mpr ⟨n, List.mem_range.mpr hn, rfl⟩)
    | true => exact .inr (List.mem_map.mpr ⟨n, List.mem_range.mpr hn, rfl⟩)
  have := x.ond.length_le_of_subset z
  rw [List.length_map, List.length_append, List.length_map, List.length_map, List.length_range] at this
  exact small1000 (by omega)
/-- a place's dict is new -/
theorem PagL.newInn (x : PagL K g H p S kt y) (L : Live g H) {b : Bool} {n : Nat} {d : Addr} (hd : H d = none) (ev : valV y.ko (entK b n) = none) (hn : n < 60) :
    Grow isRm g H (updC g d (.inn b n)) (upd (upd H d (.dT [])) y.od (.dT (putK y.ko (entK b n) (.ref d)))) ∧
    PagL K (updC g d (.inn b n)) (upd (upd H d (.dT [])) y.od (.dT (putK y.ko (entK b n) (.ref d)))) p S kt { y with ko := putK y.ko (entK b n) (.ref d) } := by
  have G1 : Grow (fun r => r == .inn b n) g H (updC g d (.inn b n)) (upd H d (.dT [])) := Grow.made L hd (by simp)
  have L1 := G1.live L
  have ho1 := x.odi.made (r' := .inn b n) (v := .dT []) hd
  have hd1 : Pt (updC g d (.inn b n)) (.inn b n) (upd H d (.dT [])) d (.dT []) := Pt.mk'
  have G2 : Grow (fun r => r == .odi) (updC g d (.inn b n)) (upd H d (.dT [])) (updC g d (.inn b n)) (upd (upd H d (.dT [])) y.od (.dT (putK y.ko (entK b n) (.ref d)))) := Grow.write L1 ho1.h (by intro xs z; cases z) ho1.c (by simp)
  have hd2 := hd1.other (v := .dT (putK y.ko (entK b n) (.ref d))) ho1 (by simp)
  have ez := x.inz b n ev
  refine ⟨(G1.mono fun r h => by have := eq_of_beq h; subst this; rfl).trans (G2.mono fun r h => by have := eq_of_beq h; subst this; rfl), { x with
    pob := (x.pob.made hd).keep G2 rfl
    sdi := (x.sdi.made hd).keep G2 rfl
    sto := fun c => ((x.sto c).keep G1 fun r h => by cases r <;> simp_all [isSt]).keep G2 fun r h => by cases r <;> simp_all [isSt]
    tdi := (x.tdi.made hd).keep G2 rfl
    tab := fun t v e => let ⟨a, m, h1, h2, h3⟩ := x.tab t v e; ⟨a, m, h1, (h2.keep G1 fun r h => by cases r <;> simp_all [isTa]).keep G2 fun r h => by cases r <;> simp_all [isTa], (h3.keep G1.tup).keep G2.tup⟩
    odi := ho1.self
    ond := nd_put x.ond
    okk := fun k hk => by
      rcases mem_put.mp hk with rfl | hk
      · exact ⟨b, n, rfl, hn⟩
      · exact x.okk k hk
    inn := fun c m v e => ?_
    inz := fun c m e => ?_ }⟩
  · have e : valV (putK y.ko (entK b n) (.ref d)) (entK c m) = some v := e
    rw [valV_put] at e
    by_cases z : entK c m = entK b n
    · rw [if_pos z] at e
      cases e
      obtain ⟨rfl, rfl⟩ := entK_inj z
      rw [ez]
      exact ⟨d, rfl, hd2⟩
    · rw [if_neg z] at e
      obtain ⟨a, h1, h2⟩ := x.inn c m v e
      exact ⟨a, h1, (h2.made hd).keep G2 rfl⟩
  · have e : valV (putK y.ko (entK b n) (.ref d)) (entK c m) = none := e
    rw [valV_put] at e
    by_cases z : entK c m = entK b n
    · rw [if_pos z] at e; cases e
    · rw [if_neg z] at e; exact x.inz c m e
/-- a place's dict goes -/
theorem PagL.popInn (x : PagL K g H p S kt y) (L : Live g H) (b : Bool) (n : Nat) :
    Grow isRm g H g (upd H y.od (.dT (dropK y.ko (entK b n)))) ∧ PagL K g (upd H y.od (.dT (dropK y.ko (entK b n)))) p { S with ow := updO S.ow b n [] } kt { y with ko := dropK y.ko (entK b n) } := by
  have G2 : Grow (fun r => r == .odi) g H g (upd H y.od (.dT (dropK y.ko (entK b n)))) := Grow.write L x.odi.h (by intro xs z; cases z) x.odi.c (by simp)
  refine ⟨G2.mono fun r h => by have := eq_of_beq h; subst this; rfl, { x with
    pob := x.pob.keep G2 rfl
    sdi := x.sdi.keep G2 rfl
    sto := fun c => (x.sto c).keep G2 fun r h => by cases r <;> simp_all [isSt]
    tdi := x.tdi.keep G2 rfl
    tab := fun t v e => let ⟨a, m, h1, h2, h3⟩ := x.tab t v e; ⟨a, m, h1, h2.keep G2 fun r h => by cases r <;> simp_all [isTa], h3.keep G2.tup⟩
    odi := x.odi.self
    ond := nd_dropK x.ond
    okk := fun k hk => x.okk k (mem_drop hk)
    inn := fun c m v e => ?_
    inz := fun c m e => ?_
    ows := fun c m => ?_ }⟩
  · have e : valV (dropK y.ko (entK b n)) (entK c m) = some v := e
    show ∃ a, v = .ref a ∧ Pt g (.inn c m) _ a (.dT (owT (updO S.ow b n [] c m)))
    rw [valV_drop] at e
    by_cases z : entK c m = entK b n
    · rw [if_pos z] at e; cases e
    · rw [if_neg z] at e
      unfold updO
      rw [if_neg fun q => z (by rw [q.1, q.2])]
      obtain ⟨a, h1, h2⟩ := x.inn c m v e
      exact ⟨a, h1, h2.keep G2 rfl⟩
  · have e : valV (dropK y.ko (entK b n)) (entK c m) = none := e
    show updO S.ow b n [] c m = []
    unfold updO
    split
    · rfl
    · rename_i z
      rw [valV_drop, if_neg fun q => z (entK_inj q)] at e
      exact x.inz c m e
  · show (updO S.ow b n [] c m).Nodup ∧ (updO S.ow b n [] c m).length ≤ 1000
    unfold updO
    split
    · exact ⟨List.nodup_nil, by simp⟩
    · exact x.ows c m
end
def spEntry (K : PySem.W.Frag) : Sp := Sp2 fun x v H Q _ => ∃ (g : Col) (p : Addr) (S : PS) (kt : List (Int × V)) (y : Ly) (o : Addr) (z : Int × Int) (e : Ent), x = .ref p ∧ v = .ref o ∧ PagL K g H p S kt y ∧ H o = some (.tup (ownXs z)) ∧ z.1 ∈ S.ts ∧ S.pl z.1 z.2 = some e ∧ ∀ v, EntV K H v e → Q v H
theorem ok_Entry (T : Tx K mg) : Okp P w K mg base 2 (He.fAd K ("Paging", some "entry")) ["self", "owner"] (spEntry K) := by
  refine okn len2 T.f_Paging_entry sc_Paging_entry fun cdv A outer s0 H vs Q E hr h => ?_
  obtain ⟨_, _, rfl, g, p, S, kt, y, o, z, e, rfl, rfl, X, ho, ht, he, k⟩ := h
  have hu := hu_of hr
  have nd := sc_Paging_entry.nd
  refine ⟨_, pss_cons (ps_asg (pv 1) (pg_tup rfl (pgs_cons (pg_name (i := 2) nd rfl (Or.inl rfl)) (pgs_cons (pg_name (i := 3) nd rfl (Or.inl rfl)) pgs_nil))))
    (pss_one (ps_ret (pe_m (pe_dget hu (pe_fld (pv 0) rfl) (pv 2) (fun _ _ => rfl)) T.c_Table T.m_Table_get (ok_TaGet T) hr (pa_cons (pv 3) pa_nil)))), ?_⟩
  obtain ⟨a, m, ev, dg, TA, RM⟩ := X.tabOf ht
  obtain ⟨v, hv, hE⟩ := RM.is _ _ he
  obtain ⟨dx, F, kf, q1, _⟩ := id TA.ex
  refine ⟨_, rfl, o, _, rfl, SqT.of ho, rfl, _, _, rfl, _, _, rfl, rfl, ?_⟩
  refine ⟨_, rfl, p, cPa K, y.dx, _, _, rfl, X.pob.h, T.c_Paging, T.a_Paging_tables, paF_tables _ _ _ _ _ _, _, rfl, y.td, _, rfl, dg, ?_⟩
  refine ⟨a, dx, _, rfl, q1.h, by kernel_rfl, _, rfl, _, _, rfl, g, z.1, a, m, z.2, rfl, rfl, TA, ?_⟩
  rw [hv]
  exact k v hE
def spLay (K : PySem.W.Frag) : Sp := Sp3 fun x v u H Q _ => ∃ (g : Col) (p : Addr) (S : PS) (kt : List (Int × V)) (y : Ly) (o : Addr) (z : Int × Int) (e : Ent), x = .ref p ∧ v = .ref o ∧ Live g H ∧ PagL K g H p S kt y ∧ H o = some (.tup (ownXs z)) ∧ EntV K H u e ∧ z.1 ∈ S.ts ∧ 0 ≤ z.2 ∧ z.2 < 64 ∧
  (∀ b n, e = .at b n → n < 60 ∧ (S.ow b n).length < 1000) ∧ Out isRm g H (fun g' H' => PagA K g' H' p (S.lay z e) kt) (Q .non)
theorem ok_Lay (T : Tx K mg) : Okp P w K mg base 2 (He.fAd K ("Paging", some "lay")) ["self", "owner", "entry"] (spLay K) := by
  refine okn len3 T.f_Paging_lay sc_Paging_lay fun cdv A outer s0 H vs Q E hr h => ?_
  obtain ⟨_, _, u, rfl, g, p, S, kt, y, o, z, e, rfl, rfl, L, X, ho, hE, ht, hz0, hz1, hb, k⟩ := h
  have hu := hu_of hr
  have nd := sc_Paging_lay.nd
  refine ⟨_, pss_cons (ps_asg (pv 1) (pg_tup rfl (pgs_cons (pg_name (i := 3) nd rfl (Or.inl rfl)) (pgs_cons (pg_name (i := 4) nd rfl (Or.inl rfl)) pgs_nil))))
    (pss_cons (ps_expr (pe_m (pe_dget hu (pe_fld (pv 0) rfl) (pv 3) (fun _ _ => rfl)) T.c_Table T.m_Table_lay (ok_TaLay T) hr (pa_cons (pv 4) (pa_cons (pv 2) pa_nil))))
    (pss_one (ps_if (pt_cmpR (op_neE hr.units) (pv 2) (pe_glob (v := .ref (He.ga K "BLANK")) rfl T.g_BLANK rfl) (nomark _))
      (pss_one (ps_dput hu (pe_bm PySem.F.plainAttrs_dict PySem.F.slot_dict_setdefault PySem.F.type_dict_setdefault (mt_setdT hu) (pe_fld (pv 0) rfl) (pa_cons (pv 2) (pa_cons pe_dnewT pa_nil))) (pv 1) pe_bl rfl)) pss_nil))), ?_⟩
  obtain ⟨a, m, ev, dg, TA, RM⟩ := X.tabOf ht
  obtain ⟨dx, F, kf, q1, _⟩ := id TA.ex
  refine ⟨_, rfl, o, _, rfl, SqT.of ho, rfl, _, _, rfl, _, _, rfl, rfl, ?_⟩
  refine ⟨_, rfl, p, cPa K, y.dx, _, _, rfl, X.pob.h, T.c_Paging, T.a_Paging_tables, paF_tables _ _ _ _ _ _, _, rfl, y.td, _, rfl, dg, ?_⟩
  refine ⟨a, dx, _, rfl, q1.h, by kernel_rfl, _, rfl, _, rfl, _, _, _, rfl, g, z.1, a, m, z.2, rfl, rfl, hz0, hz1, L, TA, fun g1 H1 G1 TA1 => ?_⟩
  have X1 := X.table G1 ev TA1 ((RM.keep G1.tup).set z.2 (hE.keep G1.tup))
  have L1 := G1.live L
  have G1' := G1.mono isTa_rm
  refine ⟨_, rfl, e, .blank, hE.keep G1.tup, T.blankV H1, _, rfl, ?_⟩
  cases e with
  | blank =>
    have q : (!decide (Ent.blank = Ent.blank)) = false := by simp
    rw [q]
    exact iteF (k g1 H1 G1' ⟨y, X1⟩)
  | «at» b n =>
    have q : (!decide (Ent.at b n = Ent.blank)) = true := by simp
    rw [q]
    refine iteT ?_
    obtain ⟨hn, hlen⟩ := hb b n rfl
    obtain ⟨ea, rfl, _, het⟩ := (hE.keep G1.tup).ex
    have het := het (by intro z; cases z)
    refine ⟨_, rfl, p, cPa K, y.dx, _, _, rfl, X1.pob.h, T.c_Paging, T.a_Paging_owners, paF_owners _ _ _ _ _ _, .inr (.inr (.inl ⟨rfl, .inr ⟨_, X1.odi.h⟩⟩)), _, rfl, fun d hd => ?_⟩
    have he2 : upd H1 d (.dT []) ea = some (.tup (entXs (.at b n))) := tup_new hd _ _ het
    refine ⟨y.od, y.ko, entK b n, ea, .ref d, rfl, rfl, (X1.odi.temp hd).h, he2, X1.koLen, fun v hv => ?_, fun hv => ?_⟩
    · obtain ⟨ia, rfl, hi⟩ := X1.inn b n v hv
      have Gt : Grow isRm g1 H1 g1 (upd H1 d (.dT [])) := Grow.temp L1 hd
      have X2 := X1.keep (R := fun _ => false) (Grow.temp L1 hd (o := .dT [])) fun _ _ => rfl
      have L2' := Gt.live L1
      obtain ⟨G3, X3⟩ := X2.place L2' hv (Nat.le_trans (addO_len _ z) hlen) (addO_nd (X2.ows b n).1)
      have ho2 : upd H1 d (.dT []) o = some (.tup (ownXs z)) := tup_new hd _ _ (G1.tup _ _ ho)
      refine ⟨_, rfl, ia, _, rfl, DPut.t (k := ownK z) (hi.temp hd).h ho2 (by rw [owT_len]; exact Nat.lt_of_lt_of_le hlen (line60 (by omega))), ?_⟩
      rw [owT_put]
      exact k g1 _ ((G1'.trans Gt).trans G3) ⟨_, X3⟩
    · obtain ⟨G2, X2⟩ := X1.newInn L1 hd hv hn
      have ho2 : upd (upd H1 d (.dT [])) y.od (.dT (putK y.ko (entK b n) (.ref d))) o = some (.tup (ownXs z)) := G2.tup _ _ (G1.tup _ _ ho)
      have ez : S.ow b n = [] := X1.inz b n hv
      have hv2 : valV (putK y.ko (entK b n) (.ref d)) (entK b n) = some (.ref d) := by rw [valV_put, if_pos rfl]
      obtain ⟨ia, e1, hi⟩ := X2.inn b n (.ref d) hv2
      cases e1
      have hi' : upd (upd H1 d (.dT [])) y.od (.dT (putK y.ko (entK b n) (.ref d))) d = some (.dT (owT (S.ow b n))) := hi.h
      obtain ⟨G3, X3⟩ := X2.place (G2.live L1) hv2 (Nat.le_trans (addO_len (S.ow b n) z) hlen) (addO_nd (X2.ows b n).1)
      refine ⟨_, rfl, d, _, rfl, DPut.t (k := ownK z) hi' ho2 (by rw [owT_len]; exact Nat.lt_of_lt_of_le hlen (line60 (by omega))), ?_⟩
      rw [owT_put]
      exact k _ _ ((G1'.trans G2).trans G3) ⟨_, X3⟩
end

-- part K9U
section
variable {P : Program} {w : World} {K : PySem.W.Frag} {mg : Str → Option Value} {base : Heap}
theorem EntV.tupOf {H : Hp} {v : V} {b : Bool} {n : Nat} (x : EntV K H v (.at b n)) : ∃ a : Addr, v = .ref a ∧ H a = some (.tup [.str (kn b), .int (n : Int)]) := by
  obtain ⟨a, h1, _, h3⟩ := x.ex
  exact ⟨a, h1, h3 (by intro z; cases z)⟩
theorem at0 {x y : V} : atI [x, y] 0 = some x := atI_nat (j := 0) rfl
theorem at1 {x y : V} : atI [x, y] 1 = some y := atI_nat (j := 1) rfl
def spShare (K : PySem.W.Frag) : Sp := Sp3 fun x v u H Q _ => ∃ (g : Col) (p : Addr) (S : PS) (kt : List (Int × V)) (y : Ly) (o : Addr) (z : Int × Int) (e : Ent), x = .ref p ∧ v = .ref o ∧ Live g H ∧ PagL K g H p S kt y ∧ H o = some (.tup (ownXs z)) ∧ EntV K H u e ∧ z.1 ∈ S.ts ∧ 0 ≤ z.2 ∧ z.2 < 64 ∧
  (match e with
    | .blank => Out isRm g H (fun g' H' => PagA K g' H' p (S.lay z e) kt) (Q .non)
    | .at b n => ∃ c, (S.own b)[n]? = some (c + 1) ∧ n < 60 ∧ (S.ow b n).length < 1000 ∧ Out isRm g H (fun g' H' => PagA K g' H' p (PS.lay { S with own := updB S.own b ((S.own b).set n (c + 2)) } z e) kt) (Q .non))
theorem ok_Share (T : Tx K mg) : Okp P w K mg base 4 (He.fAd K ("Paging", some "share")) ["self", "owner", "entry"] (spShare K) := by
  refine okn len3 T.f_Paging_share sc_Paging_share fun cdv A outer s0 H vs Q E hr h => ?_
  obtain ⟨_, _, u, rfl, g, p, S, kt, y, o, z, e, rfl, rfl, L, X, ho, hE, ht, hz0, hz1, hb⟩ := h
  have hu := hu_of hr
  refine ⟨_, pss_cons (ps_if (pt_cmpR (op_neE hr.units) (pv 2) (pe_glob (v := .ref (He.ga K "BLANK")) rfl T.g_BLANK rfl) (nomark _))
      (pss_one (ps_expr (pe_m (pe_dget hu (pe_fld (pv 0) rfl) (pe_ix ix_tup (pv 2) pe_int (fun _ _ => rfl)) (fun _ _ => rfl)) T.c_Store T.m_Store_more (ok_StMore T) hr (pa_cons (pe_ix ix_tup (pv 2) pe_int (fun _ _ => rfl)) pa_nil)))) pss_nil)
    (pss_one (ps_expr (pe_m (pv 0) T.c_Paging T.m_Paging_lay (ok_Lay T) (hr.mono (by decide)) (pa_cons (pv 1) (pa_cons (pv 2) pa_nil))))), ?_⟩
  refine ⟨_, rfl, e, .blank, hE, T.blankV H, _, rfl, ?_⟩
  cases e with
  | blank =>
    have q : (!decide (Ent.blank = Ent.blank)) = false := by simp
    rw [q]
    refine iteF ?_
    exact ⟨_, rfl, p, y.dx, _, rfl, X.pob.h, by kernel_rfl, _, rfl, _, rfl, _, _, _, rfl, g, p, S, kt, y, o, z, .blank, rfl, rfl, L, X, ho, hE, ht, hz0, hz1, fun b n q => (by cases q), hb⟩
  | «at» b n =>
    have q : (!decide (Ent.at b n = Ent.blank)) = true := by simp
    rw [q]
    refine iteT ?_
    obtain ⟨c, hc, hn, hlen, k⟩ := hb
    obtain ⟨ea, rfl, het⟩ := hE.tupOf
    obtain ⟨sx, lo, lc, hs⟩ := X.sob b
    refine ⟨_, rfl, p, cPa K, y.dx, _, _, rfl, X.pob.h, T.c_Paging, T.a_Paging_stores, paF_stores _ _ _ _ _ _, _, rfl, ea, _, _, _, rfl, rfl, SqT.of het, at0, y.sd, _, rfl, X.stoGet b, ?_⟩
    refine ⟨_, sx, _, rfl, hs, by kernel_rfl, _, rfl, ea, _, _, _, rfl, rfl, SqT.of het, at1, _, _, rfl, g, b, y.sa b, S.own b, n, c, rfl, rfl, L, X.sto b, hc, fun g1 H1 G1 S1 => ?_⟩
    have X1 := X.store G1 S1 (by rw [List.length_set])
    have G1' := G1.mono isSt_rm
    have L1 := G1.live L
    refine ⟨_, rfl, p, y.dx, _, rfl, X1.pob.h, by kernel_rfl, _, rfl, _, rfl, _, _, _, rfl, g1, p, _, kt, y, o, z, .at b n, rfl, rfl, L1, X1, G1.tup _ _ ho, hE.keep G1.tup, ht, hz0, hz1, fun b' n' q => ?_, fun g2 H2 G2 X2 => k g2 H2 (G1'.trans G2) X2⟩
    injection q with q1 q2
    subst q1 q2
    exact ⟨hn, hlen⟩
def spLeave (K : PySem.W.Frag) : Sp := Sp2 fun x v H Q _ => ∃ (g : Col) (p : Addr) (S : PS) (kt : List (Int × V)) (y : Ly) (o : Addr) (z : Int × Int) (e : Ent), x = .ref p ∧ v = .ref o ∧ Live g H ∧ PagL K g H p S kt y ∧ H o = some (.tup (ownXs z)) ∧ z.1 ∈ S.ts ∧ S.pl z.1 z.2 = some e ∧
  (∀ b n, e = .at b n → z ∈ S.ow b n ∧ ∃ c, (S.own b)[n]? = some (c + 1)) ∧ Out isRm g H (fun g' H' => PagA K g' H' p (S.leave z) kt) (Q .non)
theorem ok_Leave (T : Tx K mg) : Okp P w K mg base 4 (He.fAd K ("Paging", some "leave")) ["self", "owner"] (spLeave K) := by
  refine okn len2 T.f_Paging_leave sc_Paging_leave fun cdv A outer s0 H vs Q E hr h => ?_
  obtain ⟨_, _, rfl, g, p, S, kt, y, o, z, e, rfl, rfl, L, X, ho, ht, he, hb, k⟩ := h
  have hu := hu_of hr
  have nd := sc_Paging_leave.nd
  refine ⟨_, pss_cons (ps_set (i := 2) nd rfl (Or.inl rfl) (pe_m (pv 0) T.c_Paging T.m_Paging_entry (ok_Entry T) (hr.mono (by decide)) (pa_cons (pv 1) pa_nil)))
    (pss_one (ps_if (pt_cmpR (op_neE hr.units) (pv 2) (pe_glob (v := .ref (He.ga K "BLANK")) rfl T.g_BLANK rfl) (nomark _))
      (pss_cons (ps_expr (pe_bm PySem.F.plainAttrs_dict PySem.F.slot_dict_pop PySem.F.type_dict_pop (mt_popT1 hu) (pe_dget hu (pe_fld (pv 0) rfl) (pv 2) (fun _ _ => rfl)) (pa_cons (pv 1) pa_nil)))
      (pss_one (ps_expr (pe_m (pe_dget hu (pe_fld (pv 0) rfl) (pe_ix ix_tup (pv 2) pe_int (fun _ _ => rfl)) (fun _ _ => rfl)) T.c_Store T.m_Store_less (ok_StLess T) hr (pa_cons (pe_ix ix_tup (pv 2) pe_int (fun _ _ => rfl)) pa_nil))))) pss_nil)), ?_⟩
  refine ⟨_, rfl, p, y.dx, _, rfl, X.pob.h, by kernel_rfl, _, rfl, _, _, rfl, g, p, S, kt, y, o, z, e, rfl, rfl, X, ho, ht, he, fun v hE => ?_⟩
  refine ⟨_, rfl, e, .blank, hE, T.blankV H, _, rfl, ?_⟩
  cases e with
  | blank =>
    have q : (!decide (Ent.blank = Ent.blank)) = false := by simp
    rw [q]
    refine iteF ?_
    refine k g H (Grow.refl L) ⟨y, ?_⟩
    unfold PS.leave
    rw [he]
    exact X
  | «at» b n =>
    have q : (!decide (Ent.at b n = Ent.blank)) = true := by simp
    rw [q]
    refine iteT ?_
    obtain ⟨hm, c, hc⟩ := hb b n rfl
    obtain ⟨ea, rfl, het⟩ := hE.tupOf
    have hko : ∃ v, valV y.ko (entK b n) = some v := by
      cases q : valV y.ko (entK b n) with
      | some v => exact ⟨v, rfl⟩
      | none => rw [X.inz b n q] at hm; cases hm
    obtain ⟨v0, hv⟩ := hko
    obtain ⟨ia, rfl, hi⟩ := X.inn b n v0 hv
    have dg : DGet H y.od (.ref ea) (some (.ref ia)) := by
      rw [← hv]
      exact DGet.t (k := entK b n) X.odi.h het
    refine ⟨_, rfl, p, cPa K, y.dx, _, _, rfl, X.pob.h, T.c_Paging, T.a_Paging_owners, paF_owners _ _ _ _ _ _, _, rfl, y.od, _, rfl, dg, .inr (.inr (.inl ⟨rfl, .inr ⟨_, hi.h⟩⟩)), _, rfl, ia, _, ownK z, o, _, rfl, rfl, hi.h, ho, by rw [owT_val, if_pos hm], ?_⟩
    rw [owT_drop]
    obtain ⟨G1, X1⟩ := X.place L hv (Nat.le_trans (delO_len _ z) (X.ows b n).2) (delO_nd (X.ows b n).1)
    have L1 := G1.live L
    obtain ⟨sx, lo, lc, hs⟩ := X1.sob b
    have het1 := G1.tup _ _ het
    refine ⟨_, rfl, p, cPa K, y.dx, _, _, rfl, X1.pob.h, T.c_Paging, T.a_Paging_stores, paF_stores _ _ _ _ _ _, _, rfl, ea, _, _, _, rfl, rfl, SqT.of het1, at0, y.sd, _, rfl, X1.stoGet b, ?_⟩
    refine ⟨_, sx, _, rfl, hs, by kernel_rfl, _, rfl, ea, _, _, _, rfl, rfl, SqT.of het1, at1, _, _, rfl, g, b, y.sa b, S.own b, n, c, rfl, rfl, L1, X1.sto b, hc, fun g2 H2 G2 S2 => ?_⟩
    have X2 := X1.store G2 S2 (by rw [List.length_set])
    refine k g2 H2 (G1.trans (G2.mono isSt_rm)) ⟨y, ?_⟩
    unfold PS.leave
    have e2 : ((S.own b)[n]?).getD 0 - 1 = c := by rw [hc]; rfl
    rw [he]
    dsimp only
    rw [e2]
    exact X2
def spCells (K : PySem.W.Frag) : Sp := Sp2 fun x v H Q _ => ∃ (g : Col) (p : Addr) (S : PS) (kt : List (Int × V)) (y : Ly) (o : Addr) (z : Int × Int) (e : Ent), x = .ref p ∧ v = .ref o ∧ PagL K g H p S kt y ∧ H o = some (.tup (ownXs z)) ∧ z.1 ∈ S.ts ∧ S.pl z.1 z.2 = some e ∧
  (∀ b n, e = .at b n → ∃ c, (S.own b)[n]? = some (c + 1)) ∧ ∀ q vs H', Same H H' → H q = none → H' q = some (.lst vs) → vs.length ≤ 8 → (e = .blank → vs = List.replicate 8 (V.int 0)) → Q (.ref q) H'
theorem ok_Cells (T : Tx K mg) : Okp P w K mg base 4 (He.fAd K ("Paging", some "cells")) ["self", "owner"] (spCells K) := by
  refine okn len2 T.f_Paging_cells sc_Paging_cells fun cdv A outer s0 H vs Q E hr h => ?_
  obtain ⟨_, _, rfl, g, p, S, kt, y, o, z, e, rfl, rfl, X, ho, ht, he, hb, k⟩ := h
  have hu := hu_of hr
  have nd := sc_Paging_cells.nd
  obtain ⟨ti, hti⟩ := T.i_PAGE_SIZE
  refine ⟨_, pss_cons (ps_set (i := 2) nd rfl (Or.inl rfl) (pe_m (pv 0) T.c_Paging T.m_Paging_entry (ok_Entry T) (hr.mono (by decide)) (pa_cons (pv 1) pa_nil)))
    (pss_cons (ps_if (pt_cmpR (op_eqE hr.units) (pv 2) (pe_glob (v := .ref (He.ga K "BLANK")) rfl T.g_BLANK rfl) (nomark _))
      (pss_one (ps_ret (pe_op op_rep (pe_lst (pa_cons pe_int pa_nil)) (pe_glob (v := .int 8) rfl hti ⟨_, rfl⟩)))) pss_nil)
    (pss_one (ps_ret (pe_m (pe_dget hu (pe_fld (pv 0) rfl) (pe_ix ix_tup (pv 2) pe_int (fun _ _ => rfl)) (fun _ _ => rfl)) T.c_Store T.m_Store_cells (ok_StCells T) hr (pa_cons (pe_ix ix_tup (pv 2) pe_int (fun _ _ => rfl)) pa_nil))))), ?_⟩
  refine ⟨_, rfl, p, y.dx, _, rfl, X.pob.h, by kernel_rfl, _, rfl, _, _, rfl, g, p, S, kt, y, o, z, e, rfl, rfl, X, ho, ht, he, fun v hE => ?_⟩
  refine ⟨_, rfl, e, .blank, hE, T.blankV H, _, rfl, ?_⟩
  cases e with
  | blank =>
    rw [decide_eq_true rfl]
    refine iteT ?_
    refine ⟨by decide, fun q hq => ⟨q, 8, _, rfl, rfl, upd_same, by omega, by omega, by decide, fun r hr => ?_⟩⟩
    have hr0 : H r = none := (same_new (Same.refl H) hq).free hr
    exact k r _ _ (same_new (same_new (Same.refl H) hq) hr0) hr0 upd_same (by decide) fun _ => by rw [flat_rep]; rfl
  | «at» b n =>
    rw [decide_eq_false (by intro q; cases q)]
    refine iteF ?_
    obtain ⟨c, hc⟩ := hb b n rfl
    obtain ⟨ea, rfl, het⟩ := hE.tupOf
    obtain ⟨sx, lo, lc, hs⟩ := X.sob b
    refine ⟨_, rfl, p, cPa K, y.dx, _, _, rfl, X.pob.h, T.c_Paging, T.a_Paging_stores, paF_stores _ _ _ _ _ _, _, rfl, ea, _, _, _, rfl, rfl, SqT.of het, at0, y.sd, _, rfl, X.stoGet b, ?_⟩
    exact ⟨_, sx, _, rfl, hs, by kernel_rfl, _, rfl, ea, _, _, _, rfl, rfl, SqT.of het, at1, _, _, rfl, g, b, y.sa b, S.own b, n, c, rfl, rfl, X.sto b, hc, fun q vs hq hl => k q vs _ (same_new (Same.refl H) hq) hq upd_same hl fun z => (by cases z)⟩
def spPut (K : PySem.W.Frag) : Sp := Sp3 fun x v u H Q _ => ∃ (g : Col) (p : Addr) (S : PS) (kt : List (Int × V)) (y : Ly) (o : Addr) (z : Int × Int) (b : Bool) (n c : Nat) (l : Addr) (vs : List V), x = .ref p ∧ v = .ref o ∧ u = .ref l ∧ Live g H ∧ PagL K g H p S kt y ∧ H o = some (.tup (ownXs z)) ∧ z.1 ∈ S.ts ∧ S.pl z.1 z.2 = some (.at b n) ∧
  (S.own b)[n]? = some (c + 1) ∧ H l = some (.lst vs) ∧ vs.length ≤ 8 ∧ Out isRm g H (fun g' H' => PagA K g' H' p S kt) (Q .non)
theorem updB_self (f : Bool → List Nat) (b : Bool) : updB f b (f b) = f := by
  funext c
  unfold updB
  split
  · rename_i h; rw [h]
  · rfl
theorem ok_Put (T : Tx K mg) : Okp P w K mg base 4 (He.fAd K ("Paging", some "put")) ["self", "owner", "cells"] (spPut K) := by
  refine okn len3 T.f_Paging_put sc_Paging_put fun cdv A outer s0 H vs Q E hr h => ?_
  obtain ⟨_, _, _, rfl, g, p, S, kt, y, o, z, b, n, c, l, vs, rfl, rfl, rfl, L, X, ho, ht, he, hc, hl, hv, k⟩ := h
  have hu := hu_of hr
  have nd := sc_Paging_put.nd
  refine ⟨_, pss_cons (ps_set (i := 3) nd rfl (Or.inl rfl) (pe_m (pv 0) T.c_Paging T.m_Paging_entry (ok_Entry T) (hr.mono (by decide)) (pa_cons (pv 1) pa_nil)))
    (pss_one (ps_expr (pe_m (pe_dget hu (pe_fld (pv 0) rfl) (pe_ix ix_tup (pv 3) pe_int (fun _ _ => rfl)) (fun _ _ => rfl)) T.c_Store T.m_Store_put (ok_StPut T) hr (pa_cons (pe_ix ix_tup (pv 3) pe_int (fun _ _ => rfl)) (pa_cons (pv 2) pa_nil))))), ?_⟩
  refine ⟨_, rfl, p, y.dx, _, rfl, X.pob.h, by kernel_rfl, _, rfl, _, _, rfl, g, p, S, kt, y, o, z, .at b n, rfl, rfl, X, ho, ht, he, fun v hE => ?_⟩
  obtain ⟨ea, rfl, het⟩ := hE.tupOf
  obtain ⟨sx, lo, lc, hs⟩ := X.sob b
  refine ⟨_, rfl, p, cPa K, y.dx, _, _, rfl, X.pob.h, T.c_Paging, T.a_Paging_stores, paF_stores _ _ _ _ _ _, _, rfl, ea, _, _, _, rfl, rfl, SqT.of het, at0, y.sd, _, rfl, X.stoGet b, ?_⟩
  refine ⟨_, sx, _, rfl, hs, by kernel_rfl, _, rfl, ea, _, _, _, rfl, rfl, SqT.of het, at1, _, rfl, _, _, _, rfl, g, b, y.sa b, S.own b, n, c, l, vs, rfl, rfl, rfl, L, X.sto b, hc, hl, hv, fun g1 H1 G1 S1 => ?_⟩
  have X1 := X.store G1 S1 rfl
  rw [updB_self] at X1
  exact k g1 H1 (G1.mono isSt_rm) ⟨y, X1⟩
def spPCounts (K : PySem.W.Frag) : Sp := Sp3 fun x v u H Q _ => ∃ (g : Col) (p : Addr) (S : PS) (kt : List (Int × V)) (y : Ly) (b : Bool), x = .ref p ∧ v = .str (kn b) ∧ u = .int ((S.own b).length : Int) ∧ PagL K g H p S kt y ∧
  ∀ q H', Same H H' → H q = none → H' q = some (.lst (owV (S.own b))) → Q (.ref q) H'
theorem ok_PCounts (T : Tx K mg) : Okp P w K mg base 2 (He.fAd K ("Paging", some "counts")) ["self", "kind", "many"] (spPCounts K) := by
  refine okn len3 T.f_Paging_counts sc_Paging_counts fun cdv A outer s0 H vs Q E hr h => ?_
  obtain ⟨_, _, _, rfl, g, p, S, kt, y, b, rfl, rfl, rfl, X, k⟩ := h
  have hu := hu_of hr
  have nd := sc_Paging_counts.nd
  have h60 := (X.sto b).len
  refine ⟨_, pss_one (ps_ret (pe_lc (own := [("n", 3)]) (g := gName 3) (tt := tYes) (te := tMeth (cSt K) "count" (spStCount K) [] E0 (tDGet (tFld K (tVar 0) "stores") (tVar 1)) (tCons (tVar 3) tNil)) rfl nd (pi_range1 rfl T.n_range (pa_cons (pv 2) pa_nil)) (blkOk_by (N := ["self", "kind", "many", "n"]) (sc := defScope st_Paging_counts) (by decide +kernel))
      (fun _ _ _ _ _ => pg_name (i := 3) nd rfl (Or.inl rfl)) (fun _ _ _ _ _ => pts_nil) (fun _ _ _ _ _ => by
        refine pe_m ?_ T.c_Store T.m_Store_count (ok_StCount T) hr (pa_cons (pv 3) pa_nil)
        exact pe_dget hu (pe_fld (pv 0) rfl) (pv 1) (fun _ _ => rfl)))), ?_⟩
  refine ⟨_, rfl, _, rfl, by omega, by omega, fun D hD => lc_range (lo := 0) (n := ((S.own b).length : Int).toNat) (fun i H2 => Same H H2 ∧ H2 D = some (.lst ((owV (S.own b)).take i))) ?_ ?_ ?_⟩
  · exact ⟨same_new (Same.refl H) hD, upd_same⟩
  · rintro i H2 hi ⟨s2, hD2⟩
    refine ⟨rfl, ?_⟩
    dsimp only [tYes]
    refine iteT ?_
    obtain ⟨sx, lo, lc, hs⟩ := X.sob b
    have hi' : i < (S.own b).length := by omega
    have ec : (0 : Int) + (i : Int) = (i : Int) := by omega
    have SA : StoreAt K g H2 b (y.sa b) (S.own b) := by
      obtain ⟨dx, lo, lc, cs, h1, h2, h3, h4, h5⟩ := (X.sto b).ex
      exact ⟨⟨dx, lo, lc, cs, ⟨h1.c, s2 _ _ h1.h⟩, ⟨h2.c, s2 _ _ h2.h⟩, ⟨h3.c, s2 _ _ h3.h⟩, h4, fun c hc => let ⟨vs, e, l⟩ := h5 c hc; ⟨vs, ⟨e.c, s2 _ _ e.h⟩, l⟩⟩, h60⟩
    have dg : DGet H2 y.sd (.str (kn b)) (some (.ref (y.sa b))) := by
      rw [← sdK_val]
      exact DGet.k (k := Sum.inr (kn b)) (s2 _ _ X.sdi.h)
    refine ⟨_, rfl, p, cPa K, y.dx, _, _, rfl, s2 _ _ X.pob.h, T.c_Paging, T.a_Paging_stores, paF_stores _ _ _ _ _ _, _, rfl, y.sd, _, rfl, dg, ?_⟩
    refine ⟨_, sx, _, rfl, s2 _ _ hs, by kernel_rfl, _, rfl, _, _, rfl, g, b, y.sa b, S.own b, i, (S.own b)[i], rfl, by rw [ec], SA, List.getElem?_eq_getElem hi', ?_⟩
    have le : (List.take i (owV (S.own b))).length = i := by rw [List.length_take, owV_len]; omega
    refine ⟨_, hD2, by rw [le]; exact Nat.lt_of_lt_of_le (by omega) (line60 (n := 61) (by omega)), same_new s2 (by rw [← (show H D = none from hD)]), ?_⟩
    rw [upd_same, List.take_add_one, owV_at (List.getElem?_eq_getElem hi')]
    rfl
  · rintro H2 ⟨s2, hD2⟩
    have e : (owV (S.own b)).take ((S.own b).length : Int).toNat = owV (S.own b) := List.take_of_length_le (by rw [owV_len]; omega)
    rw [e] at hD2
    exact k D H2 s2 hD hD2
end

-- part K9V
/-! ### a place's pages move -/
def PS.lifted (S : PS) (b : Bool) (n : Nat) : PS := { S with own := updB S.own b ((S.own b).set n 0), ow := updO S.ow b n [] }
def PS.take (S : PS) (b : Bool) : PS := { S with own := updB S.own b ((S.own b).set ((frst (S.own b)).getD 0) 1) }
def PS.lays (S : PS) (e : Ent) (l : List (Int × Int)) : PS := l.foldl (fun S x => S.lay x e) S
def PS.settle (S : PS) (b : Bool) (n : Nat) (l : List (Int × Int)) : PS := PS.lays { S with own := updB S.own b ((S.own b).set n (((S.own b)[n]?).getD 0 + (l.length - 1))) } (.at b n) l
def PS.setHand (S : PS) (h : Nat) : PS := { S with hand := h }
def PS.putOut (S : PS) : PS := PS.settle (((S.lifted false S.hand).setHand ((S.hand + 1) % S.fr)).take true) true ((frst (S.own true)).getD 0) (S.ow false S.hand)
def PS.ft1 (S : PS) : PS := if frst (S.own false) = none then S.putOut else S
def PS.fti (S : PS) : Nat := (frst (S.ft1.own false)).getD 0
def PS.ft (S : PS) : PS := S.ft1.take false
def PS.fetch (S : PS) (z : Int × Int) : PS := match S.pl z.1 z.2 with
  | some (.at true n) => PS.settle (S.lifted true n).ft false (S.lifted true n).fti (S.ow true n)
  | _ => S
def PS.afresh (S : PS) (z : Int × Int) : PS := PS.settle (S.leave z).ft false (S.leave z).fti [z]
def PS.part (S : PS) (z : Int × Int) : PS := match S.pl z.1 z.2 with
  | some (.at b n) => if (S.own b)[n]? = some 1 then S.fetch z else S.afresh z
  | _ => S.afresh z
section
variable {S : PS} {e : Ent} {z : Int × Int} {l : List (Int × Int)} {b : Bool} {n : Nat}
theorem lay_ts : (S.lay z e).ts = S.ts := rfl
theorem lay_own : (S.lay z e).own = S.own := rfl
theorem lay_fr : (S.lay z e).fr = S.fr := rfl
theorem lays_cons : S.lays e (z :: l) = (S.lay z e).lays e l := rfl
theorem lays_ts : ∀ (l : List (Int × Int)) (S : PS), (S.lays e l).ts = S.ts
  | [], _ => rfl
  | z :: l, S => by rw [lays_cons, lays_ts l, lay_ts]
theorem lays_own : ∀ (l : List (Int × Int)) (S : PS), (S.lays e l).own = S.own
  | [], _ => rfl
  | z :: l, S => by rw [lays_cons, lays_own l, lay_own]
theorem lays_fr : ∀ (l : List (Int × Int)) (S : PS), (S.lays e l).fr = S.fr ∧ (S.lays e l).sl = S.sl ∧ (S.lays e l).hand = S.hand
  | [], _ => ⟨rfl, rfl, rfl⟩
  | z :: l, S => by rw [lays_cons]; exact lays_fr l (S.lay z e)
theorem lay_ow_len (c : Bool) (m : Nat) : ((S.lay z e).ow c m).length ≤ (S.ow c m).length + 1 := by
  unfold PS.lay
  cases e with
  | blank => exact Nat.le_succ _
  | «at» b n =>
    show (updO S.ow b n (addO (S.ow b n) z) c m).length ≤ _
    unfold updO
    split
    · rename_i h
      rw [h.1, h.2]
      exact addO_len _ _
    · exact Nat.le_succ _
theorem lays_ow_len (c : Bool) (m : Nat) : ∀ (l : List (Int × Int)) (S : PS), ((S.lays e l).ow c m).length ≤ (S.ow c m).length + l.length
  | [], _ => Nat.le_refl _
  | z :: l, S => by
    rw [lays_cons]
    have h1 := lays_ow_len c m l (S.lay z e)
    have h2 := lay_ow_len (S := S) (z := z) (e := e) c m
    rw [List.length_cons]
    omega
theorem lay_ow_ne {c : Bool} {m : Nat} (h : ¬ (c = b ∧ m = n)) : (S.lay z (.at b n)).ow c m = S.ow c m := by
  show updO S.ow b n (addO (S.ow b n) z) c m = _
  unfold updO
  rw [if_neg h]
theorem lays_ow_ne {c : Bool} {m : Nat} (h : ¬ (c = b ∧ m = n)) : ∀ (l : List (Int × Int)) (S : PS), (S.lays (.at b n) l).ow c m = S.ow c m
  | [], _ => rfl
  | z :: l, S => by rw [lays_cons, lays_ow_ne h l, lay_ow_ne h]
theorem lays_snoc (e : Ent) (z : Int × Int) : ∀ (l : List (Int × Int)) (S : PS), S.lays e (l ++ [z]) = (S.lays e l).lay z e
  | [], _ => rfl
  | y :: l, S => by rw [List.cons_append, lays_cons, lays_snoc e z l, lays_cons]
end
theorem updB_same (f : Bool → List Nat) (b : Bool) (l : List Nat) : updB f b l b = l := by unfold updB; rw [if_pos rfl]
theorem updB_ne (f : Bool → List Nat) {b c : Bool} (l : List Nat) (h : c ≠ b) : updB f b l c = f c := by unfold updB; rw [if_neg h]
theorem updO_same (f : Bool → Nat → List (Int × Int)) (b : Bool) (n : Nat) (l : List (Int × Int)) : updO f b n l b n = l := by unfold updO; rw [if_pos ⟨rfl, rfl⟩]
theorem updO_ne (f : Bool → Nat → List (Int × Int)) {b c : Bool} {n m : Nat} (l : List (Int × Int)) (h : ¬ (c = b ∧ m = n)) : updO f b n l c m = f c m := by unfold updO; rw [if_neg h]
section
variable {P : Program} {w : World} {K : PySem.W.Frag} {mg : Str → Option Value} {base : Heap}
def spLifted (K : PySem.W.Frag) : Sp := Sp2 fun x u H Q _ => ∃ (g : Col) (p : Addr) (S : PS) (kt : List (Int × V)) (y : Ly) (b : Bool) (n : Nat), x = .ref p ∧ Live g H ∧ PagL K g H p S kt y ∧ EntV K H u (.at b n) ∧ S.ow b n ≠ [] ∧ (S.own b)[n]? = some (S.ow b n).length ∧
  ∀ g' H' tp c lo vs bs, Grow isRm g H g' H' → PagA K g' H' p (S.lifted b n) kt → H' tp = some (.tup [.ref c, .ref lo]) → Fz g' H' c (.lst vs) → vs.length ≤ 8 → Fz g' H' lo (.lst (bs.map V.ref)) → OwnL H' (S.ow b n) bs → Q (.ref tp) H'
theorem ref_at {bs : List Addr} {i : Nat} {x : V} (h : (bs.map V.ref)[i]? = some x) : ∃ b, bs[i]? = some b ∧ x = .ref b := by
  rw [List.getElem?_map] at h
  cases e : bs[i]? with
  | none => rw [e] at h; cases h
  | some z => rw [e] at h; cases h; exact ⟨z, rfl, rfl⟩
theorem set_set {l : List Nat} {n a b : Nat} : (l.set n a).set n b = l.set n b := by rw [List.set_set]
theorem set_eq {l : List Nat} {n c : Nat} (h : l[n]? = some c) : l.set n c = l := by
  obtain ⟨h1, h2⟩ := List.getElem?_eq_some_iff.mp h
  subst h2
  exact List.set_getElem_self h1
theorem set_at {l : List Nat} {n a c : Nat} (h : l[n]? = some c) : (l.set n a)[n]? = some a := List.getElem?_set_self (List.getElem?_eq_some_iff.mp h).1
theorem ok_Lifted (T : Tx K mg) : Okp P w K mg base 4 (He.fAd K ("Paging", some "lifted")) ["self", "entry"] (spLifted K) := by
  refine okn len2 T.f_Paging_lifted sc_Paging_lifted fun cdv A outer s0 H vs Q E hr h => ?_
  obtain ⟨_, u, rfl, g, p, S, kt, y, b, n, rfl, L, X, hE, hne, hc, k⟩ := h
  have hu := hu_of hr
  have nd := sc_Paging_lifted.nd
  obtain ⟨ea, rfl, het⟩ := hE.tupOf
  obtain ⟨c, hcl⟩ : ∃ c, (S.ow b n).length = c + 1 := by
    cases e : S.ow b n with
    | nil => exact absurd e hne
    | cons a r => exact ⟨r.length, rfl⟩
  refine ⟨_, pss_cons (ps_set (i := 2) nd rfl (Or.inl rfl) (pe_dget hu (pe_fld (pv 0) rfl) (pe_ix ix_tup (pv 1) pe_int (fun _ _ => rfl)) (fun _ _ => rfl)))
    (pss_cons (ps_set (i := 3) nd rfl (Or.inl rfl) (pe_m (pv 2) T.c_Store T.m_Store_cells (ok_StCells T) hr (pa_cons (pe_ix ix_tup (pv 1) pe_int (fun _ _ => rfl)) pa_nil)))
    (pss_cons (ps_set (i := 4) nd rfl (Or.inl rfl) (pe_callTy (call_list_dT rfl) (by rfl) T.n_list (by decide +kernel) (pa_cons (pe_bm PySem.F.plainAttrs_dict PySem.F.slot_dict_pop PySem.F.type_dict_pop (mt_popT1 hu) (pe_fld (pv 0) rfl) (pa_cons (pv 1) pa_nil)) pa_nil)))
    (pss_cons (ps_for PassesOwn.never rfl (pi_list (pv 4)) (pg_name (i := 5) nd rfl (Or.inl rfl))
      (pss_one (ps_expr (pe_m (pv 2) T.c_Store T.m_Store_less (ok_StLess T) hr (pa_cons (pe_ix ix_tup (pv 1) pe_int (fun _ _ => rfl)) pa_nil)))))
    (pss_one (ps_ret (pe_tup (pa_cons (pv 3) (pa_cons (pv 4) pa_nil)))))))), ?_⟩
  -- store, cells
  obtain ⟨sx, lo0, lc, hs⟩ := X.sob b
  refine ⟨_, rfl, p, cPa K, y.dx, _, _, rfl, X.pob.h, T.c_Paging, T.a_Paging_stores, paF_stores _ _ _ _ _ _, _, rfl, ea, _, _, _, rfl, rfl, SqT.of het, at0, y.sd, _, rfl, X.stoGet b, ?_⟩
  refine ⟨_, rfl, _, sx, _, rfl, hs, by kernel_rfl, _, rfl, ea, _, _, _, rfl, rfl, SqT.of het, at1, _, _, rfl, g, b, y.sa b, S.own b, n, c, rfl, rfl, X.sto b, by rw [hc, hcl], fun cl vs hcn hv => ?_⟩
  have G1 : Grow isRm g H g (upd H cl (.lst vs)) := Grow.temp L hcn
  have X1 := X.keep (R := fun _ => false) (Grow.temp L hcn (o := .lst vs)) fun _ _ => rfl
  have L1 := G1.live L
  have het1 := G1.tup _ _ het
  have F1 : Fz g (upd H cl (.lst vs)) cl (.lst vs) := Fz.new L hcn
  generalize upd H cl (.lst vs) = H1 at *
  -- self.owners.pop(entry)
  obtain ⟨v0, hv0⟩ : ∃ v, valV y.ko (entK b n) = some v := by
    cases q : valV y.ko (entK b n) with
    | some v => exact ⟨v, rfl⟩
    | none => exact absurd (X.inz b n q) hne
  obtain ⟨ia, rfl, hi⟩ := X1.inn b n v0 hv0
  obtain ⟨G2, X2⟩ := X1.popInn L1 b n
  have hi2 := hi.other (v := .dT (dropK y.ko (entK b n))) X1.odi (by simp)
  refine ⟨_, rfl, p, cPa K, y.dx, _, _, rfl, X1.pob.h, T.c_Paging, T.a_Paging_owners, paF_owners _ _ _ _ _ _, .inr (.inr (.inl ⟨rfl, .inr ⟨_, X1.odi.h⟩⟩)), _, rfl, y.od, _, entK b n, ea, _, rfl, rfl, X1.odi.h, het1, hv0, ?_⟩
  have L2' := G2.live L1
  have F2 := F1.keep G2
  have het2 := G2.tup _ _ het1
  generalize upd H1 y.od (.dT (dropK y.ko (entK b n))) = H2 at *
  refine ⟨ia, _, rfl, .inl hi2.h, fun lo bs hlo hks => ?_⟩
  have O2 := ownL_of hks
  have G3 : Grow isRm g H2 g (upd H2 lo (.lst (bs.map V.ref))) := Grow.temp L2' hlo
  have X3 := X2.keep (R := fun _ => false) (Grow.temp L2' hlo (o := .lst (bs.map V.ref))) fun _ _ => rfl
  have L3 := G3.live L2'
  have F3 := F2.keep G3
  have FL : Fz g (upd H2 lo (.lst (bs.map V.ref))) lo (.lst (bs.map V.ref)) := Fz.new L2' hlo
  have O3 := O2.keep G3.tup
  have het3 := G3.tup _ _ het2
  generalize upd H2 lo (.lst (bs.map V.ref)) = H3 at *
  have hlen : bs.length = (S.ow b n).length := (Paired.length O3).symm
  -- for owner in owners
  refine ⟨_, rfl, lo, rfl, ⟨_, SqL.of FL.h⟩, for_list (K := K) (a := lo) (xs := bs.map V.ref) (fun i σ H4 => ∃ (v5 : Option V) (g4 : Col), σ = [some (.ref p), some (.ref ea), some (.ref (y.sa b)), some (.ref cl), some (.ref lo), v5] ∧ Grow (isSt b) g H3 g4 H4 ∧ StoreAt K g4 H4 b (y.sa b) ((S.own b).set n ((S.ow b n).length - i))) ?_ ?_ ?_ ?_⟩
  · refine ⟨none, g, rfl, Grow.refl L3, ?_⟩
    have e : (S.own b).set n ((S.ow b n).length - 0) = S.own b := by
      rw [Nat.sub_zero]
      exact set_eq hc
    rw [e]
    exact X3.sto b
  · rintro i σ H4 hi4 ⟨v5, g4, rfl, G4, S4⟩
    exact SqL.of (FL.keep G4).h
  · rintro i x σ H4 hx ⟨v5, g4, rfl, G4, S4⟩
    have hil : i < (bs.map V.ref).length := (List.getElem?_eq_some_iff.mp hx).1
    rw [List.length_map] at hil
    obtain ⟨sx4, lo4, lc4, cs4, q4, _⟩ := id S4.ex
    have het4 := G4.tup _ _ het3
    obtain ⟨d, hd⟩ : ∃ d, (S.ow b n).length - i = d + 1 := ⟨(S.ow b n).length - i - 1, by omega⟩
    refine ⟨_, rfl, _, sx4, _, rfl, q4.h, by kernel_rfl, _, rfl, ea, _, _, _, rfl, rfl, SqT.of het4, at1, _, _, rfl, g4, b, y.sa b, _, n, d, rfl, rfl, G4.live L3, S4, by rw [set_at hc, hd], fun g5 H5 G5 S5 => ?_⟩
    refine ⟨_, g5, rfl, G4.trans G5, ?_⟩
    rw [set_set] at S5
    have e : (S.ow b n).length - (i + 1) = d := by omega
    rw [e]
    exact S5
  · rintro σ H4 ⟨v5, g4, rfl, G4, S4⟩
    have e : (S.ow b n).length - (bs.map V.ref).length = 0 := by rw [List.length_map, hlen]; omega
    rw [e] at S4
    have X4 := X3.store G4 S4 (by rw [List.length_set])
    have L4 := G4.live L3
    refine ⟨_, rfl, _, rfl, (by show 2 ≤ sizeLine; decide), fun tp htp => ?_⟩
    have G5 : Grow isRm g4 H4 g4 (upd H4 tp (.tup [.ref cl, .ref lo])) := Grow.temp L4 htp
    have X5 := X4.keep (R := fun _ => false) (Grow.temp L4 htp (o := .tup [.ref cl, .ref lo])) fun _ _ => rfl
    have G4' := G4.mono isSt_rm
    refine k g4 _ tp cl lo vs bs ((((G1.trans G2).trans G3).trans G4').trans G5) ⟨_, X5⟩ upd_same ((F3.keep G4).keep G5) hv ((FL.keep G4).keep G5) ((O3.keep G4.tup).keep G5.tup)
theorem cut1 (xs : List V) : cutV xs (some 1) none = xs.drop 1 := by
  unfold cutV
  have e : HT.sIx xs.length 0 (some 1) = min 1 xs.length := HT.sIx_nat xs.length 0 1
  rw [e, HT.sIx_none]
  cases xs with
  | nil => rfl
  | cons a r =>
    have e2 : min 1 (a :: r).length = 1 := by rw [List.length_cons]; omega
    rw [e2]
    exact List.take_of_length_le (by rw [List.length_drop]; exact Nat.le_refl _)
def spSettle (K : PySem.W.Frag) : Sp := Sp4 fun x u c d H Q _ => ∃ (g : Col) (p : Addr) (S : PS) (kt : List (Int × V)) (y : Ly) (b : Bool) (n k : Nat) (cl lo : Addr) (vs : List V) (bs : List Addr) (l : List (Int × Int)), x = .ref p ∧ c = .ref cl ∧ d = .ref lo ∧ Live g H ∧ PagL K g H p S kt y ∧ EntV K H u (.at b n) ∧ Fz g H cl (.lst vs) ∧ vs.length ≤ 8 ∧
  Fz g H lo (.lst (bs.map V.ref)) ∧ OwnL H l bs ∧ (S.own b)[n]? = some (k + 1) ∧ n < 60 ∧ (S.ow b n).length + l.length ≤ 1000 ∧ (∀ z, z ∈ l → z.1 ∈ S.ts ∧ 0 ≤ z.2 ∧ z.2 < 64) ∧ Out isRm g H (fun g' H' => PagA K g' H' p (S.settle b n l) kt) (Q .non)
theorem ok_Settle (T : Tx K mg) : Okp P w K mg base 4 (He.fAd K ("Paging", some "settle")) ["self", "entry", "cells", "owners"] (spSettle K) := by
  refine okn len4 T.f_Paging_settle sc_Paging_settle fun cdv A outer s0 H vs Q E hr h => ?_
  obtain ⟨_, u, _, _, rfl, g, p, S, kt, y, b, n, c0, cl, lo, vs, bs, l, rfl, rfl, rfl, L, X, hE, FC, hv, FL, OL, hc, hn, hlen, hval, k⟩ := h
  have hu := hu_of hr
  have nd := sc_Paging_settle.nd
  obtain ⟨ea, rfl, het⟩ := hE.tupOf
  refine ⟨_, pss_cons (ps_set (i := 4) nd rfl (Or.inl rfl) (pe_dget hu (pe_fld (pv 0) rfl) (pe_ix ix_tup (pv 1) pe_int (fun _ _ => rfl)) (fun _ _ => rfl)))
    (pss_cons (ps_expr (pe_m (pv 4) T.c_Store T.m_Store_put (ok_StPut T) hr (pa_cons (pe_ix ix_tup (pv 1) pe_int (fun _ _ => rfl)) (pa_cons (pv 2) pa_nil))))
    (pss_cons (ps_for PassesOwn.never rfl (pi_list (pe_slice sl_list (pv 3) (po_some pe_int) po_none)) (pg_name (i := 5) nd rfl (Or.inl rfl))
      (pss_one (ps_expr (pe_m (pv 4) T.c_Store T.m_Store_more (ok_StMore T) hr (pa_cons (pe_ix ix_tup (pv 1) pe_int (fun _ _ => rfl)) pa_nil)))))
    (pss_one (ps_for PassesOwn.never rfl (pi_list (pv 3)) (pg_name (i := 5) nd rfl (Or.inl rfl))
      (pss_one (ps_expr (pe_m (pv 0) T.c_Paging T.m_Paging_lay (ok_Lay T) (hr.mono (by decide)) (pa_cons (pv 5) (pa_cons (pv 1) pa_nil))))))))), ?_⟩
  obtain ⟨sx, lo0, lc, hs⟩ := X.sob b
  refine ⟨_, rfl, p, cPa K, y.dx, _, _, rfl, X.pob.h, T.c_Paging, T.a_Paging_stores, paF_stores _ _ _ _ _ _, _, rfl, ea, _, _, _, rfl, rfl, SqT.of het, at0, y.sd, _, rfl, X.stoGet b, ?_⟩
  refine ⟨_, rfl, _, sx, _, rfl, hs, by kernel_rfl, _, rfl, ea, _, _, _, rfl, rfl, SqT.of het, at1, _, rfl, _, _, _, rfl, g, b, y.sa b, S.own b, n, c0, cl, vs, rfl, rfl, rfl, L, X.sto b, hc, FC.h, hv, fun g1 H1 G1 S1 => ?_⟩
  have X1 := X.store G1 S1 rfl
  rw [updB_self] at X1
  have L1 := G1.live L
  have FL1 := FL.keep G1
  have OL1 := OL.keep G1.tup
  have het1 := G1.tup _ _ het
  have G1' := G1.mono isSt_rm
  -- owners[1:]
  refine ⟨_, rfl, 1, rfl, lo, _, rfl, SqL.of FL1.h, fun q hq => ?_⟩
  have G2 : Grow isRm g1 H1 g1 (upd H1 q (.lst (cutV (bs.map V.ref) (some 1) none))) := Grow.temp L1 hq
  have X2 := X1.keep (R := fun _ => false) (Grow.temp L1 hq (o := .lst (cutV (bs.map V.ref) (some 1) none))) fun _ _ => rfl
  have L2' := G2.live L1
  have FL2 := FL1.keep G2
  have FQ : Fz g1 (upd H1 q (.lst (cutV (bs.map V.ref) (some 1) none))) q (.lst (cutV (bs.map V.ref) (some 1) none)) := Fz.new L1 hq
  have OL2 := OL1.keep G2.tup
  have het2 := G2.tup _ _ het1
  have hlb : bs.length = l.length := (Paired.length OL).symm
  have hcl : (cutV (bs.map V.ref) (some 1) none).length = l.length - 1 := by rw [cut1, List.length_drop, List.length_map, hlb]
  generalize upd H1 q (.lst (cutV (bs.map V.ref) (some 1) none)) = H2 at *
  refine ⟨q, rfl, ⟨_, SqL.of FQ.h⟩, for_list (K := K) (a := q) (xs := cutV (bs.map V.ref) (some 1) none) (fun i σ H4 => ∃ (v5 : Option V) (g4 : Col), σ = [some (.ref p), some (.ref ea), some (.ref cl), some (.ref lo), some (.ref (y.sa b)), v5] ∧ Grow (isSt b) g1 H2 g4 H4 ∧ StoreAt K g4 H4 b (y.sa b) ((S.own b).set n (c0 + 1 + i))) ?_ ?_ ?_ ?_⟩
  · refine ⟨none, g1, rfl, Grow.refl L2', ?_⟩
    have e : (S.own b).set n (c0 + 1 + 0) = S.own b := set_eq hc
    rw [e]
    exact X2.sto b
  · rintro i σ H4 hi4 ⟨v5, g4, rfl, G4, S4⟩
    exact SqL.of (FQ.keep G4).h
  · rintro i x σ H4 hx ⟨v5, g4, rfl, G4, S4⟩
    obtain ⟨sx4, lo4, lc4, cs4, q4, _⟩ := id S4.ex
    have het4 := G4.tup _ _ het2
    refine ⟨_, rfl, _, sx4, _, rfl, q4.h, by kernel_rfl, _, rfl, ea, _, _, _, rfl, rfl, SqT.of het4, at1, _, _, rfl, g4, b, y.sa b, _, n, c0 + i, rfl, rfl, G4.live L2', S4, by rw [set_at hc]; congr 1; omega, fun g5 H5 G5 S5 => ?_⟩
    refine ⟨_, g5, rfl, G4.trans G5, ?_⟩
    rw [set_set] at S5
    have e : c0 + 1 + (i + 1) = c0 + i + 2 := by omega
    rw [e]
    exact S5
  · rintro σ H4 ⟨v5, g4, rfl, G4, S4⟩
    rw [hcl] at S4
    have X4 := X2.store G4 S4 (by rw [List.length_set])
    have L4 := G4.live L2'
    have G4' := G4.mono isSt_rm
    have GA := (G1'.trans G2).trans G4'
    have FL4 := FL2.keep G4
    have OL4 := OL2.keep G4.tup
    have het4 := G4.tup _ _ het2
    have eS : PS.settle S b n l = PS.lays { S with own := updB S.own b ((S.own b).set n (c0 + 1 + (l.length - 1))) } (.at b n) l := by
      unfold PS.settle
      rw [hc]
      rfl
    refine ⟨_, rfl, lo, rfl, ⟨_, SqL.of FL4.h⟩, for_list (K := K) (a := lo) (xs := bs.map V.ref) (fun i σ H6 => ∃ (v5 : Option V) (g6 : Col), σ = [some (.ref p), some (.ref ea), some (.ref cl), some (.ref lo), some (.ref (y.sa b)), v5] ∧ Grow isRm g4 H4 g6 H6 ∧
      PagA K g6 H6 p (PS.lays { S with own := updB S.own b ((S.own b).set n (c0 + 1 + (l.length - 1))) } (.at b n) (l.take i)) kt) ?_ ?_ ?_ ?_⟩
    · exact ⟨v5, g4, rfl, Grow.refl L4, y, X4⟩
    · rintro i σ H6 hi6 ⟨v5, g6, rfl, G6, S6⟩
      exact SqL.of (FL4.keep G6).h
    · rintro i x σ H6 hx ⟨v5, g6, rfl, G6, y6, X6⟩
      obtain ⟨o, ho, rfl⟩ := ref_at hx
      obtain ⟨z, hz, hoz⟩ := (OL4.keep G6.tup).at ho
      obtain ⟨hv1, hv2, hv3⟩ := hval z (List.mem_of_getElem? hz)
      have hil : i < l.length := (List.getElem?_eq_some_iff.mp hz).1
      refine ⟨_, rfl, p, _, _, rfl, X6.pob.h, by kernel_rfl, _, rfl, _, rfl, _, _, _, rfl, g6, p, _, kt, y6, o, z, .at b n, rfl, rfl, G6.live L4, X6, hoz, EntV.mk' (G6.tup _ _ het4), by rw [lays_ts]; exact hv1, hv2, hv3, fun b' n' q => ?_, fun g7 H7 G7 X7 => ?_⟩
      · injection q with q1 q2
        subst q1 q2
        refine ⟨hn, ?_⟩
        have := lays_ow_len (e := .at b n) b n (l.take i) { S with own := updB S.own b ((S.own b).set n (c0 + 1 + (l.length - 1))) }
        rw [List.length_take] at this
        have h2 : ({ S with own := updB S.own b ((S.own b).set n (c0 + 1 + (l.length - 1))) } : PS).ow b n = S.ow b n := rfl
        rw [h2] at this
        omega
      · refine ⟨_, g7, rfl, G6.trans G7, ?_⟩
        have e : l.take (i + 1) = l.take i ++ [z] := by rw [List.take_add_one, hz]; rfl
        rw [e, lays_snoc]
        exact X7
    · rintro σ H6 ⟨v5, g6, rfl, G6, S6⟩
      rw [List.length_map, hlb, List.take_length, ← eS] at S6
      exact k g6 H6 (GA.trans G6) S6
end

-- part K9W
section
variable {P : Program} {w : World} {K : PySem.W.Frag} {mg : Str → Option Value} {base : Heap}
theorem PagL.hand {g : Col} {H : Hp} {p : Addr} {S : PS} {kt : List (Int × V)} {y : Ly} (x : PagL K g H p S kt y) (L : Live g H) (h2 : Nat) (hh : h2 < S.fr) :
    Grow isRm g H g (upd H p (.ins (cPa K) y.dx (paF y.sd y.td y.od S.fr S.sl h2))) ∧ PagL K g (upd H p (.ins (cPa K) y.dx (paF y.sd y.td y.od S.fr S.sl h2))) p (S.setHand h2) kt y := by
  have G : Grow (fun r => r == .pob) g H g (upd H p (.ins (cPa K) y.dx (paF y.sd y.td y.od S.fr S.sl h2))) := Grow.write L x.pob.h (by intro xs z; cases z) x.pob.c (by simp)
  exact ⟨G.mono fun r h => by have := eq_of_beq h; subst this; rfl, { x with
    pob := x.pob.self
    sdi := x.sdi.keep G rfl
    sto := fun c => (x.sto c).keep G fun r h => by cases r <;> simp_all [isSt]
    tdi := x.tdi.keep G rfl
    tab := fun t v e => let ⟨a, m, h1, h2, h3⟩ := x.tab t v e; ⟨a, m, h1, h2.keep G fun r h => by cases r <;> simp_all [isTa], h3.keep G.tup⟩
    odi := x.odi.keep G rfl
    inn := fun b k v e => let ⟨a, h1, h2⟩ := x.inn b k v e; ⟨a, h1, h2.keep G rfl⟩
    hnd := hh }⟩
theorem PagL.lenOwn {g : Col} {H : Hp} {p : Addr} {S : PS} {kt : List (Int × V)} {y : Ly} (x : PagL K g H p S kt y) (b : Bool) : (S.own b).length ≤ 60 := (x.sto b).len
/-- a page's place can be made free: what frame_taken wants -/
structure FtOk (S : PS) : Prop where
  cnt : ∀ n, n < S.fr → (S.own false)[n]? = some (S.ow false n).length
  slot : frst (S.own false) = none → ∃ j, frst (S.own true) = some j
  val : ∀ n z, z ∈ S.ow false n → z.1 ∈ S.ts ∧ 0 ≤ z.2 ∧ z.2 < 64
  few : ∀ b n, (S.ow b n).length ≤ 400
def spPutOut (K : PySem.W.Frag) : Sp := Sp1 fun x H Q _ => ∃ (g : Col) (p : Addr) (S : PS) (kt : List (Int × V)) (y : Ly), x = .ref p ∧ Live g H ∧ PagL K g H p S kt y ∧ FtOk S ∧ frst (S.own false) = none ∧ Out isRm g H (fun g' H' => PagA K g' H' p S.putOut kt) (Q .non)
theorem ok_PutOut (T : Tx K mg) : Okp P w K mg base 5 (He.fAd K ("Paging", some "put_out")) ["self"] (spPutOut K) := by
  refine okn len1 T.f_Paging_put_out sc_Paging_put_out fun cdv A outer s0 H vs Q E hr h => ?_
  obtain ⟨_, rfl, g, p, S, kt, y, rfl, L, X, F, hf, k⟩ := h
  have hu := hu_of hr
  have nd := sc_Paging_put_out.nd
  have hh := X.hnd
  have hcnt := F.cnt S.hand hh
  have hne : S.ow false S.hand ≠ [] := fun e => by
    rw [e] at hcnt
    exact frst_none hf 0 (List.mem_of_getElem? hcnt) rfl
  obtain ⟨j, hj⟩ := F.slot hf
  have hjl : j < (S.own true).length := (List.getElem?_eq_some_iff.mp (frst_some hj).1).1
  have hj60 : j < 60 := Nat.lt_of_lt_of_le hjl (X.lenOwn true)
  refine ⟨_, pss_cons (ps_asg (pe_m (pv 0) T.c_Paging T.m_Paging_lifted (ok_Lifted T) hr (pa_cons (pe_tup (pa_cons pe_str (pa_cons (pe_fld (pv 0) rfl) pa_nil))) pa_nil))
      (pg_tup rfl (pgs_cons (pg_name (i := 1) nd rfl (Or.inl rfl)) (pgs_cons (pg_name (i := 2) nd rfl (Or.inl rfl)) pgs_nil))))
    (pss_cons (ps_fld (pv 0) (pe_op op_mod (pe_op op_add (pe_fld (pv 0) rfl) pe_int) (pe_fld (pv 0) rfl)) rfl)
    (pss_one (ps_expr (pe_m (pv 0) T.c_Paging T.m_Paging_settle (ok_Settle T) hr
      (pa_cons (pe_tup (pa_cons pe_str (pa_cons (pe_m0 (pe_dget hu (pe_fld (pv 0) rfl) pe_str (fun _ _ => rfl)) T.c_Store T.m_Store_take (ok_StTake T) (hr.mono (by decide))) pa_nil))) (pa_cons (pv 1) (pa_cons (pv 2) pa_nil))))))), ?_⟩
  -- self.lifted(("frame", self.hand))
  refine ⟨_, rfl, p, y.dx, _, rfl, X.pob.h, by kernel_rfl, _, rfl, p, cPa K, y.dx, _, _, rfl, X.pob.h, T.c_Paging, T.a_Paging_hand, paF_hand _ _ _ _ _ _, (by show 2 ≤ sizeLine; decide), fun tp htp => ?_⟩
  have G1 : Grow isRm g H g (upd H tp (.tup (entXs (.at false S.hand)))) := Grow.temp L htp
  have X1 := X.keep (R := fun _ => false) (Grow.temp L htp (o := .tup (entXs (.at false S.hand)))) fun _ _ => rfl
  have L1 := G1.live L
  refine ⟨_, _, rfl, g, p, S, kt, y, false, S.hand, rfl, L1, X1, EntV.mk' upd_same, hne, hcnt, fun g2 H2 tq cl lo vs bs G2 ⟨y2, X2⟩ htq FC hv FL OL => ?_⟩
  have L2' := G2.live L1
  refine ⟨tq, _, rfl, SqT.of htq, rfl, _, _, rfl, _, _, rfl, rfl, ?_⟩
  -- self.hand
  have X2 : PagL K g2 H2 p (S.lifted false S.hand) kt y2 := X2
  have eo : ∀ h2 : Nat, ((S.lifted false S.hand).setHand h2).own true = S.own true := fun h2 => updB_ne S.own ((S.own false).set S.hand 0) (b := false) (c := true) (by simp)
  have eow : ∀ h2 : Nat, (((S.lifted false S.hand).setHand h2).take true).ow true j = S.ow true j := fun h2 => updO_ne S.ow [] (b := false) (c := true) (n := S.hand) (m := j) (by simp)
  have e1 : (S.lifted false S.hand).hand = S.hand := rfl
  have e2 : (S.lifted false S.hand).fr = S.fr := rfl
  have e3 : (S.lifted false S.hand).ts = S.ts := rfl
  have eP : S.putOut = PS.settle (((S.lifted false S.hand).setHand ((S.hand + 1) % S.fr)).take true) true j (S.ow false S.hand) := by
    unfold PS.putOut
    rw [hj]
    rfl
  generalize S.lifted false S.hand = S2 at *
  have hfr : (0 : Int) < (S2.fr : Int) := by rw [e2]; omega
  refine ⟨_, rfl, p, cPa K, y2.dx, _, _, rfl, X2.pob.h, T.c_Paging, T.a_Paging_hand, paF_hand _ _ _ _ _ _, _, _, rfl, rfl, _, rfl, p, cPa K, y2.dx, _, _, rfl, X2.pob.h, T.c_Paging, T.a_Paging_frames, paF_frames _ _ _ _ _ _, _, _, rfl, rfl, hfr, _, rfl, p, cPa K, y2.dx, _, rfl, X2.pob.h, T.c_Paging, T.a_Paging_hand, (by show (6 : Nat) < 1000; decide), ?_⟩
  have eh : ((S2.hand : Int) + 1) % (S2.fr : Int) = (((S2.hand + 1) % S2.fr : Nat) : Int) := by rw [Int.natCast_emod]; rfl
  have eF : putF "hand" (V.int (((S2.hand : Int) + 1) % (S2.fr : Int))) (paF y2.sd y2.td y2.od S2.fr S2.sl S2.hand) = paF y2.sd y2.td y2.od S2.fr S2.sl ((S2.hand + 1) % S2.fr) := by rw [eh, paF_put]
  obtain ⟨G3', X3'⟩ := X2.hand L2' ((S2.hand + 1) % S2.fr) (Nat.mod_lt _ (by omega))
  dsimp only
  rw [eF]
  have L3 := G3'.live L2'
  have FC3 := FC.keep G3'
  have FL3 := FL.keep G3'
  have OL3 := OL.keep G3'.tup
  generalize upd H2 p (.ins (cPa K) y2.dx (paF y2.sd y2.td y2.od S2.fr S2.sl ((S2.hand + 1) % S2.fr))) = H3 at *
  have eo := eo ((S2.hand + 1) % S2.fr)
  have eow := eow ((S2.hand + 1) % S2.fr)
  have eP : S.putOut = PS.settle ((S2.setHand ((S2.hand + 1) % S2.fr)).take true) true j (S.ow false S.hand) := by
    rw [e1, e2]
    exact eP
  have e3 : (S2.setHand ((S2.hand + 1) % S2.fr)).ts = S.ts := e3
  generalize S2.setHand ((S2.hand + 1) % S2.fr) = S3 at *
  -- self.settle(("slot", self.stores["slot"].take()), cells, owners)
  obtain ⟨sx, lo0, lc, hs⟩ := X3'.sob true
  refine ⟨_, rfl, p, y2.dx, _, rfl, X3'.pob.h, by kernel_rfl, _, rfl, p, cPa K, y2.dx, _, _, rfl, X3'.pob.h, T.c_Paging, T.a_Paging_stores, paF_stores _ _ _ _ _ _, y2.sd, _, rfl, X3'.stoGet true, ?_⟩
  refine ⟨_, sx, _, rfl, hs, by kernel_rfl, _, rfl, g2, true, y2.sa true, _, j, rfl, L3, X3'.sto true, by rw [eo]; exact hj, fun g4 H4 G4 S4 => ?_⟩
  have X4 := X3'.store G4 S4 (by rw [List.length_set])
  have L4 := G4.live L3
  refine ⟨(by show 2 ≤ sizeLine; decide), fun tr htr => ?_⟩
  have G5 : Grow isRm g4 H4 g4 (upd H4 tr (.tup (entXs (.at true j)))) := Grow.temp L4 htr
  have X5 := X4.keep (R := fun _ => false) (Grow.temp L4 htr (o := .tup (entXs (.at true j)))) fun _ _ => rfl
  have G4' := G4.mono isSt_rm
  have FC5 := (FC3.keep G4).keep G5
  have FL5 := (FL3.keep G4).keep G5
  have OL5 := (OL3.keep G4.tup).keep G5.tup
  have eT : ({ S3 with own := updB S3.own true ((S3.own true).set j 1) } : PS) = PS.take S3 true := by
    unfold PS.take
    rw [eo, hj]
    rfl
  rw [eT] at X5
  refine ⟨_, rfl, _, rfl, _, _, _, _, rfl, g4, p, PS.take S3 true, kt, y2, true, j, 0, cl, lo, vs, bs, S.ow false S.hand, rfl, rfl, rfl, G5.live L4, X5, EntV.mk' upd_same, FC5, hv, FL5, OL5, ?_, hj60, ?_, fun z hz => ?_, fun g6 H6 G6 X6 => ?_⟩
  · rw [← eT]
    show (updB S3.own true _ true)[j]? = some 1
    rw [updB_same, eo]
    exact List.getElem?_set_self hjl
  · rw [eow]
    have := F.few true j
    have := F.few false S.hand
    omega
  · show z.1 ∈ S3.ts ∧ _
    rw [e3]
    exact F.val S.hand z hz
  · refine k g6 H6 (((((G1.trans G2).trans G3').trans G4').trans G5).trans G6) ?_
    rw [eP]
    exact X6
theorem settle_own {S : PS} {b c : Bool} {n : Nat} {l : List (Int × Int)} (h : c ≠ b) : (S.settle b n l).own c = S.own c := by
  unfold PS.settle
  rw [lays_own]
  exact updB_ne _ _ h
theorem putOut_own (S : PS) : S.putOut.own false = (S.own false).set S.hand 0 := by
  unfold PS.putOut
  rw [settle_own (by simp)]
  simp [PS.take, PS.lifted, PS.setHand, updB]
theorem frst_has {l : List Nat} {n : Nat} (h : l[n]? = some 0) : ∃ i, frst l = some i := by
  cases e : frst l with
  | some i => exact ⟨i, rfl⟩
  | none => exact absurd rfl (frst_none e 0 (List.mem_of_getElem? h))
theorem count_zero (l : List Nat) : (l.count 0 = 0) ↔ frst l = none := by
  rw [List.count_eq_zero]
  constructor
  · intro h
    cases e : frst l with
    | none => rfl
    | some i => exact absurd (List.mem_of_getElem? (frst_some e).1) h
  · intro h m
    exact frst_none h 0 m rfl
theorem ft1_frst {S : PS} (hh : S.hand < (S.own false).length) : frst (S.ft1.own false) = some S.fti := by
  have : ∃ i, frst (S.ft1.own false) = some i := by
    unfold PS.ft1
    split
    · rw [putOut_own]
      exact frst_has (List.getElem?_set_self hh)
    · rename_i h
      cases e : frst (S.own false) with
      | none => exact absurd e h
      | some i => exact ⟨i, rfl⟩
  obtain ⟨i, hi⟩ := this
  unfold PS.fti
  rw [hi]
  rfl
def spFt (K : PySem.W.Frag) : Sp := Sp1 fun x H Q _ => ∃ (g : Col) (p : Addr) (S : PS) (kt : List (Int × V)) (y : Ly), x = .ref p ∧ Live g H ∧ PagL K g H p S kt y ∧ FtOk S ∧ ∀ v, Out isRm g H (fun g' H' => PagA K g' H' p S.ft kt ∧ EntV K H' v (.at false S.fti)) (Q v)
theorem ok_Ft (T : Tx K mg) : Okp P w K mg base 6 (He.fAd K ("Paging", some "frame_taken")) ["self"] (spFt K) := by
  refine okn len1 T.f_Paging_frame_taken sc_Paging_frame_taken fun cdv A outer s0 H vs Q E hr h => ?_
  obtain ⟨_, rfl, g, p, S, kt, y, rfl, L, X, F, k⟩ := h
  have hu := hu_of hr
  have nd := sc_Paging_frame_taken.nd
  refine ⟨_, pss_cons (ps_if (pt_cmpR op_eq (pe_m0 (pe_dget hu (pe_fld (pv 0) rfl) pe_str (fun _ _ => rfl)) T.c_Store T.m_Store_free (ok_StFree T) (hr.mono (by decide))) pe_int (nomark _))
      (pss_one (ps_expr (pe_m0 (pv 0) T.c_Paging T.m_Paging_put_out (ok_PutOut T) hr))) pss_nil)
    (pss_one (ps_ret (pe_tup (pa_cons pe_str (pa_cons (pe_m0 (pe_dget hu (pe_fld (pv 0) rfl) pe_str (fun _ _ => rfl)) T.c_Store T.m_Store_take (ok_StTake T) (hr.mono (by decide))) pa_nil))))), ?_⟩
  obtain ⟨sx, lo0, lc, hs⟩ := X.sob false
  have hfr : S.hand < (S.own false).length := by rw [X.lnf]; exact X.hnd
  have hfti := ft1_frst hfr
  refine ⟨_, rfl, p, cPa K, y.dx, _, _, rfl, X.pob.h, T.c_Paging, T.a_Paging_stores, paF_stores _ _ _ _ _ _, y.sd, _, rfl, X.stoGet false, ?_⟩
  refine ⟨_, sx, _, rfl, hs, by kernel_rfl, _, rfl, g, false, y.sa false, _, rfl, X.sto false, rfl, _, rfl, ?_⟩
  -- the frame is taken
  have fin : ∀ g1 H1, Grow isRm g H g1 H1 → PagA K g1 H1 p S.ft1 kt → tRet (tTup (tCons (tC (.str "frame")) (tCons (tMeth (cSt K) "take" (spStTake K) [] E0 (tDGet (tFld K (tVar 0) "stores") (tC (.str "frame"))) tNil) tNil)))
      { nx := fun _ H' => Q .non H', rt := Q } [some (.ref p)] H1 := by
    rintro g1 H1 G1 ⟨y1, X1⟩
    have L1 := G1.live L
    obtain ⟨sx, lo0, lc, hs⟩ := X1.sob false
    refine ⟨_, rfl, p, cPa K, y1.dx, _, _, rfl, X1.pob.h, T.c_Paging, T.a_Paging_stores, paF_stores _ _ _ _ _ _, y1.sd, _, rfl, X1.stoGet false, ?_⟩
    refine ⟨_, sx, _, rfl, hs, by kernel_rfl, _, rfl, g1, false, y1.sa false, _, S.fti, rfl, L1, X1.sto false, hfti, fun g2 H2 G2 S2 => ?_⟩
    have X2 := X1.store G2 S2 (by rw [List.length_set])
    have L2' := G2.live L1
    refine ⟨(by show 2 ≤ sizeLine; decide), fun tp htp => ?_⟩
    have G3 : Grow isRm g2 H2 g2 (upd H2 tp (.tup (entXs (.at false S.fti)))) := Grow.temp L2' htp
    have X3 := X2.keep (R := fun _ => false) (Grow.temp L2' htp (o := .tup (entXs (.at false S.fti)))) fun _ _ => rfl
    refine k _ g2 _ ((G1.trans (G2.mono isSt_rm)).trans G3) ⟨⟨y1, ?_⟩, EntV.mk' upd_same⟩
    have eT : S.ft = { S.ft1 with own := updB S.ft1.own false ((S.ft1.own false).set S.fti 1) } := by
      unfold PS.ft PS.take
      rw [hfti]
      rfl
    rw [eT]
    exact X3
  refine ite2 (fun ez => ?_) (fun ez => ?_)
  · have ez := of_decide_eq_true ez
    injection ez with ez
    have e0 : frst (S.own false) = none := (count_zero _).mp (by omega)
    refine ⟨_, rfl, p, y.dx, _, rfl, X.pob.h, by kernel_rfl, _, rfl, g, p, S, kt, y, rfl, L, X, F, e0, fun g1 H1 G1 X1 => ?_⟩
    refine fin g1 H1 G1 ?_
    unfold PS.ft1
    rw [if_pos e0]
    exact X1
  · refine fin g H (Grow.refl L) ⟨y, ?_⟩
    unfold PS.ft1
    rw [if_neg fun e0 => ez (decide_eq_true (by rw [(count_zero _).mpr e0]; rfl))]
    exact X
end

-- part K9X
theorem putOut_ts (S : PS) : S.putOut.ts = S.ts := by
  unfold PS.putOut PS.settle
  rw [lays_ts]
  rfl
theorem ft1_ts (S : PS) : S.ft1.ts = S.ts := by
  unfold PS.ft1
  split
  · exact putOut_ts S
  · rfl
theorem ft_ts (S : PS) : S.ft.ts = S.ts := ft1_ts S
theorem putOut_ow (S : PS) (m : Nat) : S.putOut.ow false m = if m = S.hand then [] else S.ow false m := by
  unfold PS.putOut PS.settle
  rw [lays_ow_ne (by simp)]
  show updO S.ow false S.hand [] false m = _
  unfold updO
  by_cases h : m = S.hand
  · rw [if_pos ⟨rfl, h⟩, if_pos h]
  · rw [if_neg fun z => h z.2, if_neg h]
theorem ft_own {S : PS} (hh : S.hand < (S.own false).length) : (S.ft.own false)[S.fti]? = some 1 := by
  have h := ft1_frst hh
  have hl := (List.getElem?_eq_some_iff.mp (frst_some h).1).1
  unfold PS.ft PS.take
  show (updB S.ft1.own false _ false)[S.fti]? = _
  rw [updB_same, h]
  exact List.getElem?_set_self hl
theorem ft1_len (S : PS) : (S.ft1.own false).length = (S.own false).length := by
  unfold PS.ft1
  split
  · rw [putOut_own, List.length_set]
  · rfl
theorem fti_lt {S : PS} (hh : S.hand < (S.own false).length) : S.fti < (S.own false).length := by
  have hl := (List.getElem?_eq_some_iff.mp (frst_some (ft1_frst hh)).1).1
  rwa [ft1_len] at hl
theorem ft_few {S : PS} (F : FtOk S) (m : Nat) : (S.ft.ow false m).length ≤ 400 := by
  have e : S.ft.ow = S.ft1.ow := rfl
  rw [e]
  unfold PS.ft1
  split
  · rw [putOut_ow]
    split
    · simp
    · exact F.few false m
  · exact F.few false m
section
variable {P : Program} {w : World} {K : PySem.W.Frag} {mg : Str → Option Value} {base : Heap}
def spFetch (K : PySem.W.Frag) : Sp := Sp2 fun x v H Q _ => ∃ (g : Col) (p : Addr) (S : PS) (kt : List (Int × V)) (y : Ly) (o : Addr) (z : Int × Int) (e : Ent), x = .ref p ∧ v = .ref o ∧ Live g H ∧ PagL K g H p S kt y ∧ H o = some (.tup (ownXs z)) ∧ z.1 ∈ S.ts ∧ S.pl z.1 z.2 = some e ∧
  (∀ n, e = .at true n → S.ow true n ≠ [] ∧ (S.own true)[n]? = some (S.ow true n).length ∧ FtOk (S.lifted true n) ∧ (S.ow true n).length ≤ 400 ∧ ∀ x, x ∈ S.ow true n → x.1 ∈ S.ts ∧ 0 ≤ x.2 ∧ x.2 < 64) ∧ Out isRm g H (fun g' H' => PagA K g' H' p (S.fetch z) kt) (Q .non)
theorem kn_ne : decide (V.str (kn false) = V.str "slot") = false := by decide +kernel
theorem kn_is : decide (V.str (kn true) = V.str "slot") = true := by decide +kernel
theorem bl_ne : decide (V.str "blank" = V.str "slot") = false := by decide +kernel
theorem at0' {x : V} {r : List V} : atI (x :: r) 0 = some x := atI_nat (j := 0) rfl
theorem ok_Fetch (T : Tx K mg) : Okp P w K mg base 7 (He.fAd K ("Paging", some "fetch")) ["self", "owner"] (spFetch K) := by
  refine okn len2 T.f_Paging_fetch sc_Paging_fetch fun cdv A outer s0 H vs Q E hr h => ?_
  obtain ⟨_, _, rfl, g, p, S, kt, y, o, z, e, rfl, rfl, L, X, ho, ht, he, hb, k⟩ := h
  have hu := hu_of hr
  have nd := sc_Paging_fetch.nd
  refine ⟨_, pss_cons (ps_set (i := 2) nd rfl (Or.inl rfl) (pe_m (pv 0) T.c_Paging T.m_Paging_entry (ok_Entry T) (hr.mono (by decide)) (pa_cons (pv 1) pa_nil)))
    (pss_one (ps_if (pt_cmpR op_eq (pe_ix ix_tup (pv 2) pe_int (fun _ _ => rfl)) pe_str (nomark _))
      (pss_cons (ps_asg (pe_m (pv 0) T.c_Paging T.m_Paging_lifted (ok_Lifted T) (hr.mono (by decide)) (pa_cons (pv 2) pa_nil))
        (pg_tup rfl (pgs_cons (pg_name (i := 3) nd rfl (Or.inl rfl)) (pgs_cons (pg_name (i := 4) nd rfl (Or.inl rfl)) pgs_nil))))
      (pss_one (ps_expr (pe_m (pv 0) T.c_Paging T.m_Paging_settle (ok_Settle T) (hr.mono (by decide)) (pa_cons (pe_m0 (pv 0) T.c_Paging T.m_Paging_frame_taken (ok_Ft T) hr) (pa_cons (pv 3) (pa_cons (pv 4) pa_nil))))))) pss_nil)), ?_⟩
  refine ⟨_, rfl, p, y.dx, _, rfl, X.pob.h, by kernel_rfl, _, rfl, _, _, rfl, g, p, S, kt, y, o, z, e, rfl, rfl, X, ho, ht, he, fun v hE => ?_⟩
  obtain ⟨ea, rfl, hsq, _⟩ := id hE.ex
  have stay : S.fetch z = S → Q .non H := fun q => k g H (Grow.refl L) ⟨y, by rw [q]; exact X⟩
  cases e with
  | blank =>
    refine ⟨_, rfl, ea, _, _, _, rfl, rfl, hsq.sq, at0', rfl, _, rfl, ?_⟩
    rw [bl_ne]
    refine iteF (stay ?_)
    unfold PS.fetch
    rw [he]
  | «at» b n =>
    refine ⟨_, rfl, ea, _, _, _, rfl, rfl, hsq.sq, at0', rfl, _, rfl, ?_⟩
    cases b with
    | false =>
      rw [kn_ne]
      refine iteF (stay ?_)
      unfold PS.fetch
      rw [he]
    | true =>
      rw [kn_is]
      refine iteT ?_
      obtain ⟨b1, b2, b3, b4, b5⟩ := hb n rfl
      refine ⟨_, rfl, p, y.dx, _, rfl, X.pob.h, by kernel_rfl, _, rfl, _, _, rfl, g, p, S, kt, y, true, n, rfl, L, X, hE, b1, b2, fun g2 H2 tq cl lo vs bs G2 ⟨y2, X2⟩ htq FC hv FL OL => ?_⟩
      have L2' := G2.live L
      refine ⟨tq, _, rfl, SqT.of htq, rfl, _, _, rfl, _, _, rfl, rfl, ?_⟩
      have hh : (S.lifted true n).hand < ((S.lifted true n).own false).length := by
        rw [X2.lnf]
        exact X2.hnd
      have h60 := X2.lenOwn false
      have hlt := fti_lt hh
      have hown := ft_own hh
      have hfew := ft_few b3 (S.lifted true n).fti
      have hts : (S.lifted true n).ft.ts = S.ts := ft_ts (S.lifted true n)
      refine ⟨_, rfl, p, y2.dx, _, rfl, X2.pob.h, by kernel_rfl, _, rfl, p, y2.dx, _, rfl, X2.pob.h, by kernel_rfl, _, rfl, g2, p, S.lifted true n, kt, y2, rfl, L2', X2, b3, fun v g3 H3 G3 ⟨⟨y3, X3⟩, hE3⟩ => ?_⟩
      refine ⟨_, rfl, _, rfl, _, _, _, _, rfl, g3, p, (S.lifted true n).ft, kt, y3, false, (S.lifted true n).fti, 0, cl, lo, vs, bs, S.ow true n, rfl, rfl, rfl, G3.live L2', X3, hE3, FC.keep G3, hv, FL.keep G3, OL.keep G3.tup, hown, by omega, by omega, fun x hx => by rw [hts]; exact b5 x hx, fun g4 H4 G4 X4 => ?_⟩
      refine k g4 H4 ((G2.trans G3).trans G4) ?_
      have ef : S.fetch z = PS.settle (S.lifted true n).ft false (S.lifted true n).fti (S.ow true n) := by
        unfold PS.fetch
        rw [he]
      rw [ef]
      exact X4
theorem leave_ts (S : PS) (z : Int × Int) : (S.leave z).ts = S.ts := by
  unfold PS.leave
  split <;> rfl
def spPart (K : PySem.W.Frag) : Sp := Sp2 fun x v H Q _ => ∃ (g : Col) (p : Addr) (S : PS) (kt : List (Int × V)) (y : Ly) (o : Addr) (z : Int × Int) (e : Ent), x = .ref p ∧ v = .ref o ∧ Live g H ∧ PagL K g H p S kt y ∧ H o = some (.tup (ownXs z)) ∧ z.1 ∈ S.ts ∧ 0 ≤ z.2 ∧ z.2 < 64 ∧ S.pl z.1 z.2 = some e ∧
  (∀ b n, e = .at b n → z ∈ S.ow b n ∧ (S.own b)[n]? = some (S.ow b n).length ∧ (S.ow b n).length ≤ 400 ∧ ∀ x, x ∈ S.ow b n → x.1 ∈ S.ts ∧ 0 ≤ x.2 ∧ x.2 < 64) ∧
  (∀ n, e = .at true n → (S.own true)[n]? = some 1 → FtOk (S.lifted true n)) ∧ ((∀ b n, e = .at b n → (S.own b)[n]? ≠ some 1) → FtOk (S.leave z)) ∧ Out isRm g H (fun g' H' => PagA K g' H' p (S.part z) kt) (Q .non)
theorem ok_Part (T : Tx K mg) : Okp P w K mg base 8 (He.fAd K ("Paging", some "part")) ["self", "owner"] (spPart K) := by
  refine okn len2 T.f_Paging_part sc_Paging_part fun cdv A outer s0 H vs Q E hr h => ?_
  obtain ⟨_, _, rfl, g, p, S, kt, y, o, z, e, rfl, rfl, L, X, ho, ht, hz0, hz1, he, hat, h1, h2, k⟩ := h
  have hu := hu_of hr
  have nd := sc_Paging_part.nd
  refine ⟨_, pss_cons (ps_set (i := 2) nd rfl (Or.inl rfl) (pe_m (pv 0) T.c_Paging T.m_Paging_entry (ok_Entry T) (hr.mono (by decide)) (pa_cons (pv 1) pa_nil)))
    (pss_cons (ps_if (PW.pt (pw_and (pt_cmpR (op_neE hr.units) (pv 2) (pe_glob (v := .ref (He.ga K "BLANK")) rfl T.g_BLANK rfl) (nomark _))
        (pw_and1 (pt_cmpR op_eq (pe_m (pe_dget hu (pe_fld (pv 0) rfl) (pe_ix ix_tup (pv 2) pe_int (fun _ _ => rfl)) (fun _ _ => rfl)) T.c_Store T.m_Store_count (ok_StCount T) (hr.mono (by decide)) (pa_cons (pe_ix ix_tup (pv 2) pe_int (fun _ _ => rfl)) pa_nil)) pe_int (nomark _)))))
      (pss_cons (ps_expr (pe_m (pv 0) T.c_Paging T.m_Paging_fetch (ok_Fetch T) hr (pa_cons (pv 1) pa_nil))) (pss_one ps_retN)) pss_nil)
    (pss_cons (ps_set (i := 3) nd rfl (Or.inl rfl) (pe_m (pv 0) T.c_Paging T.m_Paging_cells (ok_Cells T) (hr.mono (by decide)) (pa_cons (pv 1) pa_nil)))
    (pss_cons (ps_expr (pe_m (pv 0) T.c_Paging T.m_Paging_leave (ok_Leave T) (hr.mono (by decide)) (pa_cons (pv 1) pa_nil)))
    (pss_one (ps_expr (pe_m (pv 0) T.c_Paging T.m_Paging_settle (ok_Settle T) (hr.mono (by decide)) (pa_cons (pe_m0 (pv 0) T.c_Paging T.m_Paging_frame_taken (ok_Ft T) (hr.mono (by decide))) (pa_cons (pv 3) (pa_cons (pe_lst (pa_cons (pv 1) pa_nil)) pa_nil))))))))), ?_⟩
  refine ⟨_, rfl, p, y.dx, _, rfl, X.pob.h, by kernel_rfl, _, rfl, _, _, rfl, g, p, S, kt, y, o, z, e, rfl, rfl, X, ho, ht, he, fun v hE => ?_⟩
  have hpos : ∀ b n, e = .at b n → ∃ c, (S.own b)[n]? = some (c + 1) := fun b n q => by
    obtain ⟨a1, a2, _⟩ := hat b n q
    rw [a2]
    cases q : S.ow b n with
    | nil => rw [q] at a1; cases a1
    | cons a r => exact ⟨r.length, rfl⟩
  -- what follows where the page is to lie afresh
  have fresh : S.part z = S.afresh z → FtOk (S.leave z) → tSeq (tAsg (tMeth (cPa K) "cells" (spCells K) [] E0 (tVar 0) (tCons (tVar 1) tNil)) (gName 3))
      (tSeq (tDrop (tMeth (cPa K) "leave" (spLeave K) [] E0 (tVar 0) (tCons (tVar 1) tNil)))
        (tDrop (tMeth (cPa K) "settle" (spSettle K) [] E0 (tVar 0) (tCons (tMeth (cPa K) "frame_taken" (spFt K) [] E0 (tVar 0) tNil) (tCons (tVar 3) (tCons (tLst (tCons (tVar 1) tNil)) tNil))))))
      { nx := fun _ H' => Q .non H', rt := Q } [some (.ref p), some (.ref o), some v, none] H := by
    intro eq F
    refine ⟨_, rfl, p, y.dx, _, rfl, X.pob.h, by kernel_rfl, _, rfl, _, _, rfl, g, p, S, kt, y, o, z, e, rfl, rfl, X, ho, ht, he, hpos, fun cl vs H1 s1 hcl hcl1 hv _ => ?_⟩
    have G1 : Grow isRm g H g H1 := Grow.same L s1
    have X1 := X.same L s1
    have L1 := G1.live L
    have FC : Fz g H1 cl (.lst vs) := ⟨L.none hcl, hcl1⟩
    refine ⟨_, rfl, p, y.dx, _, rfl, X1.pob.h, by kernel_rfl, _, rfl, _, _, rfl, g, p, S, kt, y, o, z, e, rfl, rfl, L1, X1, G1.tup _ _ ho, ht, he, fun b n q => ⟨(hat b n q).1, hpos b n q⟩, fun g2 H2 G2 ⟨y2, X2⟩ => ?_⟩
    have L2' := G2.live L1
    have hh : (S.leave z).hand < ((S.leave z).own false).length := by
      rw [X2.lnf]
      exact X2.hnd
    have h60 := X2.lenOwn false
    have hlt := fti_lt hh
    have hown := ft_own hh
    have hfew := ft_few F (S.leave z).fti
    refine ⟨_, rfl, p, y2.dx, _, rfl, X2.pob.h, by kernel_rfl, _, rfl, p, y2.dx, _, rfl, X2.pob.h, by kernel_rfl, _, rfl, g2, p, S.leave z, kt, y2, rfl, L2', X2, F, fun v g3 H3 G3 ⟨⟨y3, X3⟩, hE3⟩ => ?_⟩
    have L3 := G3.live L2'
    refine ⟨_, rfl, _, rfl, (by show 1 ≤ sizeLine; decide), fun lo hlo => ?_⟩
    have G4 : Grow isRm g3 H3 g3 (upd H3 lo (.lst [.ref o])) := Grow.temp L3 hlo
    have X4 := X3.keep (R := fun _ => false) (Grow.temp L3 hlo (o := .lst [.ref o])) fun _ _ => rfl
    have ho4 := G4.tup _ _ (G3.tup _ _ (G2.tup _ _ (G1.tup _ _ ho)))
    refine ⟨_, _, _, _, rfl, g3, p, (S.leave z).ft, kt, y3, false, (S.leave z).fti, 0, cl, lo, vs, [o], [z], rfl, rfl, rfl, G4.live L3, X4, hE3.keep G4.tup, ((FC.keep G2).keep G3).keep G4, hv, Fz.new L3 hlo, .cons ho4 .nil, hown, by omega, by show _ + 1 ≤ 1000; omega, fun x hx => ?_, fun g5 H5 G5 X5 => ?_⟩
    · rw [List.mem_singleton] at hx
      subst hx
      rw [ft_ts, leave_ts]
      exact ⟨ht, hz0, hz1⟩
    · refine k g5 H5 ((((G1.trans G2).trans G3).trans G4).trans G5) ?_
      rw [eq]
      exact X5
  refine ⟨_, rfl, e, .blank, hE, T.blankV H, _, rfl, ?_⟩
  cases e with
  | blank =>
    have q : (!decide (Ent.blank = Ent.blank)) = false := by simp
    rw [q]
    refine iteF (iteF (fresh ?_ (h2 fun b n q => by cases q)))
    unfold PS.part
    rw [he]
  | «at» b n =>
    have q : (!decide (Ent.at b n = Ent.blank)) = true := by simp
    rw [q]
    refine iteT ?_
    obtain ⟨ea, rfl, het⟩ := hE.tupOf
    obtain ⟨sx, lo, lc, hs⟩ := X.sob b
    obtain ⟨c, hc⟩ := hpos b n rfl
    obtain ⟨a1, a2, a3, a4⟩ := hat b n rfl
    refine ⟨_, rfl, p, cPa K, y.dx, _, _, rfl, X.pob.h, T.c_Paging, T.a_Paging_stores, paF_stores _ _ _ _ _ _, _, rfl, ea, _, _, _, rfl, rfl, SqT.of het, at0, y.sd, _, rfl, X.stoGet b, ?_⟩
    refine ⟨_, sx, _, rfl, hs, by kernel_rfl, _, rfl, ea, _, _, _, rfl, rfl, SqT.of het, at1, _, _, rfl, g, b, y.sa b, S.own b, n, c + 1, rfl, rfl, X.sto b, hc, rfl, _, rfl, ?_⟩
    by_cases c0 : c = 0
    · subst c0
      rw [decide_eq_true (by rfl)]
      refine iteT ?_
      refine ⟨_, rfl, p, y.dx, _, rfl, X.pob.h, by kernel_rfl, _, rfl, _, _, rfl, g, p, S, kt, y, o, z, .at b n, rfl, rfl, L, X, ho, ht, he, fun n' q => ?_, fun g2 H2 G2 X2 => k g2 H2 G2 ?_⟩
      · injection q with q1 q2
        subst q1 q2
        exact ⟨fun e => (by rw [e] at a1; cases a1), a2, h1 n rfl hc, a3, a4⟩
      · have ef : S.part z = S.fetch z := by
          unfold PS.part
          rw [he]
          exact if_pos hc
        rw [ef]
        exact X2
    · rw [decide_eq_false (by intro q; injection q with q; omega)]
      have hn1 : (S.own b)[n]? ≠ some 1 := fun q => by rw [hc] at q; injection q with q; omega
      refine iteF (fresh ?_ (h2 fun b' n' q => ?_))
      · unfold PS.part
        rw [he]
        exact if_neg hn1
      · injection q with q1 q2
        subst q1 q2
        exact hn1
def PS.new (fr sl : Nat) : PS := ⟨fr, sl, 0, fun b => List.replicate (if b then sl else fr) 0, [], fun _ _ => none, fun _ _ => []⟩
def spPaInit (K : PySem.W.Frag) : Sp := Sp3 fun x v u H Q _ => ∃ (g : Col) (p dx : Addr) (fr sl : Nat), x = .ref p ∧ v = .int (fr : Int) ∧ u = .int (sl : Int) ∧ 2 ≤ fr ∧ fr ≤ 60 ∧ sl ≤ 60 ∧ Live g H ∧ Pt g .pob H p (.ins (cPa K) dx []) ∧ Out isRm g H (fun g' H' => PagA K g' H' p (PS.new fr sl) []) (Q .non)
theorem sd_mk (a b : Addr) : mergeK [] ([(Sum.inr ("frame" : Str), V.ref a), (Sum.inr ("slot" : Str), V.ref b)] : List (Key × V)) = ([(Sum.inr ("frame" : Str), V.ref a), (Sum.inr ("slot" : Str), V.ref b)] : List (Key × V)) := by kernel_rfl
theorem ok_PaInit (T : Tx K mg) : Okp P w K mg base 3 (He.fAd K ("Paging", some "__init__")) ["self", "frames", "slots"] (spPaInit K) := by
  refine okn len3 T.f_Paging_init sc_Paging_init fun cdv A outer s0 H vs Q E hr h => ?_
  obtain ⟨_, _, _, rfl, g, p, dx, fr, sl, rfl, rfl, rfl, h2, h60, hs60, L, hp, k⟩ := h
  have nd := sc_Paging_init.nd
  refine ⟨_, pss_cons (ps_fld (pv 0) (pe_disp (pps_cons pe_str (pe_mk T.k_Store (ok_StInit T) T.g_Store hr (pa_cons (pv 1) pa_nil)) (pps_cons pe_str (pe_mk T.k_Store (ok_StInit T) T.g_Store hr (pa_cons (pv 2) pa_nil)) pps_nil)) (by rfl) (by rfl) (fun z => by cases z) (by decide)) rfl)
    (pss_cons (ps_fld (pv 0) (pv 1) rfl) (pss_cons (ps_fld (pv 0) (pv 2) rfl) (pss_cons (ps_fld (pv 0) pe_dnewK rfl) (pss_cons (ps_fld (pv 0) pe_dnewT rfl) (pss_one (ps_fld (pv 0) pe_int rfl)))))), ?_⟩
  intro sd hsd
  -- the stores dict
  have G1 : Grow isRm g H (updC g sd .sdi) (upd H sd (.dK [])) := Grow.made L hsd rfl
  have L1 := G1.live L
  have d1 : Pt (updC g sd .sdi) .sdi (upd H sd (.dK [])) sd (.dK []) := Pt.mk'
  have p1 := hp.made (r' := .sdi) (v := .dK []) hsd
  -- a store made
  have made : ∀ (g1 : Col) (H1 : Hp) (b : Bool) (x xd : Addr), Live g1 H1 → H1 x = none → H1 xd = none → xd ≠ x →
      Grow isRm g1 H1 (updC g1 x (.sob b)) (upd (upd H1 xd (.own x)) x (.ins (cSt K) xd [])) ∧ Pt (updC g1 x (.sob b)) (.sob b) (upd (upd H1 xd (.own x)) x (.ins (cSt K) xd [])) x (.ins (cSt K) xd []) := by
    intro g1 H1 b x xd L1 hx hxd ne
    have Ga : Grow isRm g1 H1 g1 (upd H1 xd (.own x)) := Grow.temp L1 hxd
    have hx' : upd H1 xd (.own x) x = none := by rw [upd_ne ne.symm]; exact hx
    exact ⟨Ga.trans (Grow.made (Ga.live L1) hx' rfl), Pt.mk'⟩
  refine ⟨_, rfl, fun x xd hx hxd ne => ?_⟩
  obtain ⟨G2, o2⟩ := made _ _ false x xd L1 hx hxd ne
  have L2' := G2.live L1
  have Gs2 : Grow (isSt false) (updC g sd .sdi) (upd H sd (.dK [])) (updC (updC g sd .sdi) x (.sob false)) (upd (upd (upd H sd (.dK [])) xd (.own x)) x (.ins (cSt K) xd [])) := by
    have Ga : Grow (isSt false) (updC g sd .sdi) (upd H sd (.dK [])) (updC g sd .sdi) (upd (upd H sd (.dK [])) xd (.own x)) := Grow.temp L1 hxd
    exact Ga.trans (Grow.made (Ga.live L1) (by rw [upd_ne ne.symm]; exact hx) (by simp [isSt]))
  refine ⟨_, _, rfl, _, false, x, xd, fr, rfl, rfl, h60, L2', o2, fun g3 H3 G3 S3 => ⟨rfl, ?_⟩⟩
  have L3 := G3.live L2'
  have d3 := (d1.keep Gs2 rfl).keep G3 rfl
  have p3 := (p1.keep Gs2 rfl).keep G3 rfl
  have GA := (G1.trans G2).trans (G3.mono isSt_rm)
  refine ⟨_, rfl, fun x2 xd2 hx2 hxd2 ne2 => ?_⟩
  obtain ⟨G4, o4⟩ := made _ _ true x2 xd2 L3 hx2 hxd2 ne2
  have L4 := G4.live L3
  have Gs4 : Grow (isSt true) g3 H3 (updC g3 x2 (.sob true)) (upd (upd H3 xd2 (.own x2)) x2 (.ins (cSt K) xd2 [])) := by
    have Ga : Grow (isSt true) g3 H3 g3 (upd H3 xd2 (.own x2)) := Grow.temp L3 hxd2
    exact Ga.trans (Grow.made (Ga.live L3) (by rw [upd_ne ne2.symm]; exact hx2) (by simp [isSt]))
  refine ⟨_, _, rfl, _, true, x2, xd2, sl, rfl, rfl, hs60, L4, o4, fun g5 H5 G5 S5 => ⟨rfl, ?_⟩⟩
  have L5 := G5.live L4
  have d5 := (d3.keep Gs4 rfl).keep G5 rfl
  have p5 := (p3.keep Gs4 rfl).keep G5 rfl
  have GB := (GA.trans G4).trans (G5.mono isSt_rm)
  have S3' : StoreAt K g5 H5 false x (List.replicate fr 0) := (S3.keep Gs4 (St_St (by simp))).keep G5 (St_St (by simp))
  refine ⟨d5.h, [(Sum.inr "frame", .ref x), (Sum.inr "slot", .ref x2)], rfl, (by show (2 : Nat) ≤ 15; decide), ?_⟩
  rw [sd_mk]
  have GC : Grow (fun r => r == .sdi) g5 H5 g5 (upd H5 sd (.dK (sdK fun b => if b then x2 else x))) := Grow.write L5 d5.h (by intro xs z; cases z) d5.c (by simp)
  have d6 := d5.self (v := .dK (sdK fun b => if b then x2 else x))
  have p6 := p5.keep GC rfl
  have S6a : StoreAt K g5 (upd H5 sd (.dK (sdK fun b => if b then x2 else x))) false x (List.replicate fr 0) := S3'.keep GC (St_ne rfl)
  have S6b : StoreAt K g5 (upd H5 sd (.dK (sdK fun b => if b then x2 else x))) true x2 (List.replicate sl 0) := S5.keep GC (St_ne rfl)
  have GD := GB.trans (GC.mono fun r h => by have := eq_of_beq h; subst this; rfl)
  have L6 := GC.live L5
  have eS : upd H5 sd (.dK [(Sum.inr "frame", .ref x), (Sum.inr "slot", .ref x2)]) = upd H5 sd (.dK (sdK fun b => if b then x2 else x)) := rfl
  rw [eS]
  generalize upd H5 sd (.dK (sdK fun b => if b then x2 else x)) = H6 at *
  -- self.stores, frames, slots
  have wr : ∀ (g1 : Col) (H1 : Hp) (fs fs2 : List (Str × V)), Live g1 H1 → Pt g1 .pob H1 p (.ins (cPa K) dx fs) → Grow (fun r => r == .pob) g1 H1 g1 (upd H1 p (.ins (cPa K) dx fs2)) := fun g1 H1 fs fs2 L1 q => Grow.write L1 q.h (by intro xs z; cases z) q.c (by simp)
  have pm : ∀ r, (r == Role.pob) = true → isRm r = true := fun r h => by have := eq_of_beq h; subst this; rfl
  have G7 := wr _ _ _ (putF "stores" (.ref sd) []) L6 p6
  refine ⟨_, rfl, p, cPa K, dx, _, rfl, p6.h, T.c_Paging, T.a_Paging_stores, (by show (0 : Nat) < 1000; decide), ?_⟩
  have p7 := p6.self (v := .ins (cPa K) dx (putF "stores" (.ref sd) []))
  have L7 := G7.live L6
  have G8 := wr _ _ _ (putF "frames" (.int (fr : Int)) (putF "stores" (.ref sd) [])) L7 p7
  refine ⟨_, rfl, _, rfl, p, cPa K, dx, _, rfl, p7.h, T.c_Paging, T.a_Paging_frames, (by show (1 : Nat) < 1000; decide), ?_⟩
  have p8 := p7.self (v := .ins (cPa K) dx (putF "frames" (.int (fr : Int)) (putF "stores" (.ref sd) [])))
  have L8 := G8.live L7
  have G9 := wr _ _ _ (putF "slots" (.int (sl : Int)) (putF "frames" (.int (fr : Int)) (putF "stores" (.ref sd) []))) L8 p8
  refine ⟨_, rfl, _, rfl, p, cPa K, dx, _, rfl, p8.h, T.c_Paging, T.a_Paging_slots, (by show (2 : Nat) < 1000; decide), ?_⟩
  have p9 := p8.self (v := .ins (cPa K) dx (putF "slots" (.int (sl : Int)) (putF "frames" (.int (fr : Int)) (putF "stores" (.ref sd) []))))
  have L9 := G9.live L8
  have GE := ((GD.trans (G7.mono pm)).trans (G8.mono pm)).trans (G9.mono pm)
  have d9 := ((d6.keep G7 rfl).keep G8 rfl).keep G9 rfl
  have S9a := ((S6a.keep G7 (St_ne rfl)).keep G8 (St_ne rfl)).keep G9 (St_ne rfl)
  have S9b := ((S6b.keep G7 (St_ne rfl)).keep G8 (St_ne rfl)).keep G9 (St_ne rfl)
  generalize upd (upd (upd H6 p (.ins (cPa K) dx (putF "stores" (.ref sd) []))) p (.ins (cPa K) dx (putF "frames" (.int (fr : Int)) (putF "stores" (.ref sd) [])))) p (.ins (cPa K) dx (putF "slots" (.int (sl : Int)) (putF "frames" (.int (fr : Int)) (putF "stores" (.ref sd) [])))) = H9 at *
  generalize hF9 : putF "slots" (.int (sl : Int)) (putF "frames" (.int (fr : Int)) (putF "stores" (.ref sd) [])) = F9 at *
  have lF9 : F9.length = 3 := by rw [← hF9]; kernel_rfl
  -- self.tables
  intro td htd
  have Ga : Grow (fun r => r == .tdi) g5 H9 (updC g5 td .tdi) (upd H9 td (.dK [])) := Grow.made L9 htd (by simp)
  have La := Ga.live L9
  have pa := p9.keep Ga rfl
  have ta : Pt (updC g5 td .tdi) .tdi (upd H9 td (.dK [])) td (.dK []) := Pt.mk'
  have Gb := wr _ _ _ (putF "tables" (.ref td) F9) La pa
  refine ⟨_, rfl, p, cPa K, dx, _, rfl, pa.h, T.c_Paging, T.a_Paging_tables, (by rw [lF9]; decide), ?_⟩
  have Lb := Gb.live La
  have pb := pa.self (v := .ins (cPa K) dx (putF "tables" (.ref td) F9))
  have tb := ta.keep Gb rfl
  have db := (d9.keep Ga rfl).keep Gb rfl
  have Sba := (S9a.keep Ga (St_ne rfl)).keep Gb (St_ne rfl)
  have Sbb := (S9b.keep Ga (St_ne rfl)).keep Gb (St_ne rfl)
  have GF := (GE.trans (Ga.mono fun r h => by have := eq_of_beq h; subst this; rfl)).trans (Gb.mono pm)
  generalize upd (upd H9 td (.dK [])) p (.ins (cPa K) dx (putF "tables" (.ref td) F9)) = Hb at *
  generalize updC g5 td .tdi = gb at *
  -- self.owners
  intro od hod
  have Gc : Grow (fun r => r == .odi) gb Hb (updC gb od .odi) (upd Hb od (.dT [])) := Grow.made Lb hod (by simp)
  have Lc := Gc.live Lb
  have pc := pb.keep Gc rfl
  have oc : Pt (updC gb od .odi) .odi (upd Hb od (.dT [])) od (.dT []) := Pt.mk'
  have Gd := wr _ _ _ (putF "owners" (.ref od) (putF "tables" (.ref td) F9)) Lc pc
  refine ⟨_, rfl, p, cPa K, dx, _, rfl, pc.h, T.c_Paging, T.a_Paging_owners, (by have := length_putF "tables" (.ref td) F9; omega), ?_⟩
  have Ld := Gd.live Lc
  have pd := pc.self (v := .ins (cPa K) dx (putF "owners" (.ref od) (putF "tables" (.ref td) F9)))
  have Ge := wr _ _ _ (paF sd td od fr sl 0) Ld pd
  refine ⟨_, rfl, p, cPa K, dx, _, rfl, pd.h, T.c_Paging, T.a_Paging_hand, (by have h1 := length_putF "tables" (.ref td) F9; have h2 := length_putF "owners" (.ref od) (putF "tables" (.ref td) F9); omega), ?_⟩
  have eF : putF "hand" (.int 0) (putF "owners" (.ref od) (putF "tables" (.ref td) F9)) = paF sd td od fr sl 0 := by rw [← hF9]; exact paF_mk sd td od fr sl
  rw [eF]
  refine k _ _ ((GF.trans (Gc.mono fun r h => by have := eq_of_beq h; subst this; rfl)).trans ((Gd.mono pm).trans (Ge.mono pm))) ⟨⟨dx, sd, td, od, fun b => if b then x2 else x, []⟩, ?_⟩
  exact {
    pob := pd.self
    sdi := ((db.keep Gc rfl).keep Gd rfl).keep Ge rfl
    sto := fun b => by
      cases b with
      | false => exact ((Sba.keep Gc (St_ne rfl)).keep Gd (St_ne rfl)).keep Ge (St_ne rfl)
      | true => exact ((Sbb.keep Gc (St_ne rfl)).keep Gd (St_ne rfl)).keep Ge (St_ne rfl)
    tdi := ((tb.keep Gc rfl).keep Gd rfl).keep Ge rfl
    tks := rfl
    tnd := List.nodup_nil
    tln := Nat.zero_le _
    tab := fun t v e => by cases e
    odi := (oc.keep Gd rfl).keep Ge rfl
    ond := List.nodup_nil
    okk := fun k hk => by cases hk
    inn := fun b n v e => by cases e
    inz := fun b n _ => rfl
    ows := fun b n => ⟨List.nodup_nil, Nat.zero_le _⟩
    lnf := List.length_replicate
    lns := List.length_replicate
    hnd := by show 0 < fr; omega }
end

-- part K9G
/-! ### the plain law of the pages -/
abbrev PS.e (S : PS) (z : Int × Int) : Option Ent := S.pl z.1 z.2
def pgsE (m : Int → Option Ent) : List Int := ((List.range 64).map fun i : Nat => (i : Int)).filter fun p => (m p).isSome
theorem pgsE_mem {m : Int → Option Ent} {p : Int} : p ∈ pgsE m ↔ (0 ≤ p ∧ p < 64) ∧ (m p).isSome = true := by
  unfold pgsE
  rw [List.mem_filter, List.mem_map]
  constructor
  · rintro ⟨⟨i, hi, rfl⟩, h⟩
    have := List.mem_range.mp hi
    exact ⟨by omega, h⟩
  · rintro ⟨h1, h2⟩
    exact ⟨⟨p.toNat, List.mem_range.mpr (by omega), by omega⟩, h2⟩
theorem pgsE_rises (m : Int → Option Ent) : (pgsE m).Pairwise (· < ·) := by
  unfold pgsE
  refine List.Pairwise.filter _ ?_
  rw [List.pairwise_map]
  exact List.pairwise_lt_range.imp fun h => by omega
theorem pgsE_nd (m : Int → Option Ent) : (pgsE m).Nodup := (pgsE_rises m).imp fun h => by omega
theorem pgsE_congr {m m' : Int → Option Ent} (h : ∀ p, (m p).isSome = (m' p).isSome) : pgsE m = pgsE m' := by
  unfold pgsE
  congr 1
  funext p
  rw [h]
/-- all pages of all rooms -/
def PS.all (S : PS) : List (Int × Int) := S.ts.flatMap fun t => (pgsE (S.pl t)).map fun p => (t, p)
def PS.total (S : PS) : Nat := (S.ts.map fun t => (pgsE (S.pl t)).length).sum
theorem all_len (S : PS) : S.all.length = S.total := by
  unfold PS.all PS.total
  rw [List.length_flatMap]
  congr 1
  refine List.map_congr_left fun t _ => ?_
  rw [List.length_map]
/-- what stands between the deeds; D: pages that lie nowhere for the moment -/
structure Gx (S : PS) (D : List (Int × Int)) : Prop where
  l0 : (S.own false).length = S.fr
  l1 : (S.own true).length = S.sl
  bnd : S.fr ≤ 60 ∧ S.sl ≤ 60 ∧ 2 ≤ S.fr
  hnd : S.hand < S.fr
  tsn : S.ts.Nodup
  off : ∀ t q, t ∉ S.ts → S.pl t q = none
  dom : ∀ t q, (S.pl t q).isSome = true → 0 ≤ q ∧ q < 64
  mem : ∀ b n z, z ∈ S.ow b n ↔ (S.e z = some (.at b n) ∧ z ∉ D)
  cnt : ∀ b n, n < (S.own b).length → (S.own b)[n]? = some (S.ow b n).length
  out : ∀ b n, (S.own b).length ≤ n → S.ow b n = []
  nd : ∀ b n, (S.ow b n).Nodup
  det : ∀ z, z ∈ D → (S.e z).isSome = true
  tot : S.total ≤ S.fr + S.sl
theorem Gx.allMem {S : PS} {D : List (Int × Int)} (x : Gx S D) {z : Int × Int} : z ∈ S.all ↔ (S.e z).isSome = true := by
  unfold PS.all
  rw [List.mem_flatMap]
  constructor
  · rintro ⟨t, ht, hz⟩
    obtain ⟨p, hp, rfl⟩ := List.mem_map.mp hz
    exact (pgsE_mem.mp hp).2
  · intro h
    have ht : z.1 ∈ S.ts := Classical.byContradiction fun q => by
      have := x.off z.1 z.2 q
      have h : (S.pl z.1 z.2).isSome = true := h
      rw [this] at h
      cases h
    exact ⟨z.1, ht, List.mem_map.mpr ⟨z.2, pgsE_mem.mpr ⟨x.dom _ _ h, h⟩, rfl⟩⟩
theorem Gx.allLen {S : PS} {D : List (Int × Int)} (x : Gx S D) : S.all.length ≤ 120 := by
  rw [all_len]
  have := x.tot
  have := x.bnd
  omega
theorem Gx.few {S : PS} {D : List (Int × Int)} (x : Gx S D) (b : Bool) (n : Nat) : (S.ow b n).length ≤ 120 := by
  refine Nat.le_trans ((x.nd b n).length_le_of_subset fun z hz => ?_) x.allLen
  rw [x.allMem, ((x.mem b n z).mp hz).1]
  rfl
theorem Gx.val {S : PS} {D : List (Int × Int)} (x : Gx S D) {z : Int × Int} (h : (S.e z).isSome = true) : z.1 ∈ S.ts ∧ 0 ≤ z.2 ∧ z.2 < 64 := by
  refine ⟨Classical.byContradiction fun q => ?_, x.dom _ _ h⟩
  have := x.off z.1 z.2 q
  have h : (S.pl z.1 z.2).isSome = true := h
  rw [this] at h
  cases h
theorem Gx.owVal {S : PS} {D : List (Int × Int)} (x : Gx S D) {b : Bool} {n : Nat} {z : Int × Int} (h : z ∈ S.ow b n) : z.1 ∈ S.ts ∧ 0 ≤ z.2 ∧ z.2 < 64 :=
  x.val (by rw [((x.mem b n z).mp h).1]; rfl)
/-- the place of a page is one -/
theorem Gx.at_lt {S : PS} {D : List (Int × Int)} (x : Gx S D) {b : Bool} {n : Nat} {z : Int × Int} (h : z ∈ S.ow b n) : n < (S.own b).length :=
  Classical.byContradiction fun q => by
    rw [x.out b n (by omega)] at h
    cases h
/-- all that lies somewhere -/
def PS.lie (S : PS) : List (Int × Int) := ((List.range S.fr).flatMap fun n => S.ow false n) ++ (List.range S.sl).flatMap fun n => S.ow true n
theorem Gx.lie_mem {S : PS} {D : List (Int × Int)} (x : Gx S D) {z : Int × Int} (h : z ∈ S.lie) : ∃ b n, z ∈ S.ow b n := by
  unfold PS.lie at h
  rw [List.mem_append, List.mem_flatMap, List.mem_flatMap] at h
  rcases h with ⟨n, _, h⟩ | ⟨n, _, h⟩
  · exact ⟨false, n, h⟩
  · exact ⟨true, n, h⟩
theorem Gx.lie_nd {S : PS} {D : List (Int × Int)} (x : Gx S D) : S.lie.Nodup := by
  have one : ∀ (b : Bool) (k : Nat), ((List.range k).flatMap fun n => S.ow b n).Nodup := fun b k => by
    show List.Pairwise _ _
    rw [List.pairwise_flatMap]
    refine ⟨fun n _ => x.nd b n, List.nodup_range.imp fun {n m} hnm z hz y hy e => ?_⟩
    subst e
    have h1 := ((x.mem b n z).mp hz).1
    have h2 := ((x.mem b m z).mp hy).1
    rw [h1] at h2
    injection h2 with h2
    injection h2 with _ h2
    exact hnm h2
  unfold PS.lie
  rw [List.nodup_append]
  refine ⟨one false S.fr, one true S.sl, fun z hz y hy e => ?_⟩
  subst e
  obtain ⟨n, _, h1⟩ := List.mem_flatMap.mp hz
  obtain ⟨m, _, h2⟩ := List.mem_flatMap.mp hy
  have h1 := ((x.mem false n z).mp h1).1
  have h2 := ((x.mem true m z).mp h2).1
  rw [h1] at h2
  injection h2 with h2
  injection h2 with h2 _
  cases h2
theorem flat_ge (f : Nat → List (Int × Int)) : ∀ k : Nat, (∀ n, n < k → f n ≠ []) → k ≤ ((List.range k).flatMap f).length
  | 0, _ => Nat.zero_le _
  | k + 1, h => by
    have ih := flat_ge f k fun n hn => h n (by omega)
    have hk := h k (by omega)
    rw [List.range_succ, List.flatMap_append, List.length_append]
    have : 0 < ([k].flatMap f).length := by
      rw [List.flatMap_cons, List.flatMap_nil, List.append_nil]
      exact List.length_pos_iff.mpr hk
    omega
/-- where one page lies nowhere and no frame is free, a slot is -/
theorem Gx.slot {S : PS} {D : List (Int × Int)} (x : Gx S D) {z : Int × Int} (hz : (S.e z).isSome = true) (hd : z ∈ D ∨ S.e z = some .blank) (hf : frst (S.own false) = none) : ∃ j, frst (S.own true) = some j := by
  cases hs : frst (S.own true) with
  | some j => exact ⟨j, rfl⟩
  | none =>
    have full : ∀ b, frst (S.own b) = none → ∀ n, n < (S.own b).length → S.ow b n ≠ [] := fun b h n hn e => by
      have := x.cnt b n hn
      rw [e] at this
      exact frst_none h 0 (List.mem_of_getElem? this) rfl
    have h1 : S.fr + S.sl ≤ S.lie.length := by
      unfold PS.lie
      rw [List.length_append]
      have a := flat_ge (fun n => S.ow false n) S.fr fun n hn => full false hf n (by rw [x.l0]; exact hn)
      have b := flat_ge (fun n => S.ow true n) S.sl fun n hn => full true hs n (by rw [x.l1]; exact hn)
      omega
    have hzl : z ∉ S.lie := fun h => by
      obtain ⟨b, n, hn⟩ := x.lie_mem h
      have hm := (x.mem b n z).mp hn
      rcases hd with hd | hd
      · exact hm.2 hd
      · rw [hm.1] at hd
        injection hd with hd
        cases hd
    have h2 : (z :: S.lie).length ≤ S.all.length := (List.nodup_cons.mpr ⟨hzl, x.lie_nd⟩).length_le_of_subset fun y hy => by
      rw [x.allMem]
      rcases List.mem_cons.mp hy with rfl | hy
      · exact hz
      · obtain ⟨b, n, hn⟩ := x.lie_mem hy
        rw [((x.mem b n y).mp hn).1]
        rfl
    rw [all_len, List.length_cons] at h2
    have := x.tot
    omega
theorem Gx.ftOk {S : PS} {D : List (Int × Int)} (x : Gx S D) (h : frst (S.own false) = none → ∃ j, frst (S.own true) = some j) : FtOk S :=
  ⟨fun n hn => x.cnt false n (by rw [x.l0]; exact hn), h, fun n z hz => x.owVal hz, fun b n => Nat.le_trans (x.few b n) (by omega)⟩
/-! #### a place is emptied -/
theorem Gx.lifted {S : PS} {D : List (Int × Int)} (x : Gx S D) (b : Bool) (n : Nat) : Gx (S.lifted b n) (S.ow b n ++ D) := by
  have eo : ∀ c, ((S.lifted b n).own c).length = (S.own c).length := fun c => by
    show (updB S.own b ((S.own b).set n 0) c).length = _
    unfold updB
    split
    · rename_i h; rw [h, List.length_set]
    · rfl
  have ew : ∀ c m, (S.lifted b n).ow c m = if c = b ∧ m = n then [] else S.ow c m := fun c m => rfl
  refine ⟨(eo false).trans x.l0, (eo true).trans x.l1, x.bnd, x.hnd, x.tsn, x.off, x.dom, fun c m z => ?_, fun c m hm => ?_, fun c m hm => ?_, fun c m => ?_, fun z hz => ?_, x.tot⟩
  · rw [ew]
    by_cases h : c = b ∧ m = n
    · rw [if_pos h, h.1, h.2]
      refine ⟨fun q => (by cases q), fun ⟨h1, h2⟩ => absurd (List.mem_append.mpr (.inl ((x.mem b n z).mpr ⟨h1, fun q => h2 (List.mem_append.mpr (.inr q))⟩))) h2⟩
    · rw [if_neg h, x.mem c m z]
      refine ⟨fun ⟨h1, h2⟩ => ⟨h1, fun q => ?_⟩, fun ⟨h1, h2⟩ => ⟨h1, fun q => h2 (List.mem_append.mpr (.inr q))⟩⟩
      rcases List.mem_append.mp q with q | q
      · have := ((x.mem b n z).mp q).1
        have h1 : S.e z = some (.at c m) := h1
        rw [h1] at this
        injection this with this
        injection this with q1 q2
        exact h ⟨q1, q2⟩
      · exact h2 q
  · rw [eo] at hm
    rw [ew]
    show (updB S.own b ((S.own b).set n 0) c)[m]? = _
    unfold updB
    by_cases hc : c = b
    · subst hc
      rw [if_pos rfl]
      by_cases h : m = n
      · subst h
        rw [if_pos ⟨rfl, rfl⟩, List.getElem?_set_self hm]
        rfl
      · rw [if_neg fun q => h q.2, List.getElem?_set_ne (Ne.symm h)]
        exact x.cnt c m hm
    · rw [if_neg hc, if_neg fun q => hc q.1]
      exact x.cnt c m hm
  · rw [eo] at hm
    rw [ew]
    split
    · rfl
    · exact x.out c m hm
  · rw [ew]
    split
    · exact List.nodup_nil
    · exact x.nd c m
  · rcases List.mem_append.mp hz with hz | hz
    · show (S.e z).isSome = true
      rw [((x.mem b n z).mp hz).1]
      rfl
    · exact x.det z hz
theorem Gx.setHand {S : PS} {D : List (Int × Int)} (x : Gx S D) {h : Nat} (hh : h < S.fr) : Gx (S.setHand h) D := { x with hnd := hh }
/-! #### pages come to a place that was free -/
def PS.placed (S : PS) (b : Bool) (i : Nat) (l : List (Int × Int)) : PS := (S.take b).settle b i l
section
variable {S : PS} {b : Bool} {i : Nat} {l : List (Int × Int)}
theorem lays_pl (e : Ent) : ∀ (l : List (Int × Int)) (S : PS) (z : Int × Int), (S.lays e l).e z = if z ∈ l then some e else S.e z
  | [], S, z => by rw [if_neg (by simp)]; rfl
  | y :: l, S, z => by
    rw [lays_cons, lays_pl e l (S.lay y e) z]
    by_cases h : z ∈ l
    · rw [if_pos h, if_pos (List.mem_cons_of_mem _ h)]
    · rw [if_neg h]
      show setP S.pl y.1 (setE (S.pl y.1) y.2 (some e)) z.1 z.2 = _
      unfold setP setE
      by_cases e1 : z = y
      · rw [e1, if_pos rfl, if_pos List.mem_cons_self]
        show (if y.2 = y.2 then some e else S.pl y.1 y.2) = _
        rw [if_pos rfl]
      · rw [if_neg fun q => (List.mem_cons.mp q).elim e1 h]
        by_cases e2 : z.1 = y.1
        · rw [if_pos e2]
          show (if z.2 = y.2 then some e else S.pl y.1 z.2) = _
          rw [if_neg fun q => e1 (Prod.ext e2 q), ← e2]
        · rw [if_neg e2]
theorem lays_ow (b : Bool) (n : Nat) : ∀ (l : List (Int × Int)) (S : PS), (S.lays (.at b n) l).ow b n = l.foldl addO (S.ow b n)
  | [], _ => rfl
  | y :: l, S => by
    rw [lays_cons, lays_ow b n l (S.lay y (.at b n)), List.foldl_cons]
    have : (S.lay y (.at b n)).ow b n = addO (S.ow b n) y := updO_same _ _ _ _
    rw [this]
theorem foldl_add : ∀ (l a : List (Int × Int)), (a ++ l).Nodup → l.foldl addO a = a ++ l
  | [], a, _ => by simp
  | y :: l, a, h => by
    rw [List.foldl_cons]
    have hy : y ∉ a := fun q => (List.nodup_append.mp h).2.2 y q y List.mem_cons_self rfl
    have e : addO a y = a ++ [y] := by unfold addO; rw [if_neg hy]
    rw [e, foldl_add l (a ++ [y]) (by rw [List.append_assoc]; exact h), List.append_assoc]
    rfl
theorem placed_e (z : Int × Int) : (S.placed b i l).e z = if z ∈ l then some (.at b i) else S.e z := by
  unfold PS.placed PS.settle
  rw [lays_pl]
  rfl
theorem placed_ts : (S.placed b i l).ts = S.ts := by
  unfold PS.placed PS.settle
  rw [lays_ts]
  rfl
theorem placed_fr : (S.placed b i l).fr = S.fr ∧ (S.placed b i l).sl = S.sl ∧ (S.placed b i l).hand = S.hand := by
  unfold PS.placed PS.settle
  exact lays_fr _ _
theorem placed_own (h : frst (S.own b) = some i) (hl : l ≠ []) : (S.placed b i l).own = updB S.own b ((S.own b).set i l.length) := by
  unfold PS.placed PS.settle
  rw [lays_own]
  have et : (S.take b).own = updB S.own b ((S.own b).set i 1) := by unfold PS.take; rw [h]; rfl
  show updB (S.take b).own b _ = _
  rw [et, updB_same, set_at (frst_some h).1, set_set]
  have e : (some 1 : Option Nat).getD 0 + (l.length - 1) = l.length := by
    have := List.length_pos_iff.mpr hl
    show 1 + (l.length - 1) = l.length
    omega
  rw [e]
  funext c
  unfold updB
  split <;> rfl
theorem placed_ow (h : S.ow b i = []) (hl : l.Nodup) : (S.placed b i l).ow = updO S.ow b i l := by
  unfold PS.placed PS.settle
  funext c m
  unfold updO
  by_cases q : c = b ∧ m = i
  · rw [if_pos q, q.1, q.2, lays_ow]
    show l.foldl addO (S.ow b i) = l
    rw [h, foldl_add l [] (by simpa using hl), List.nil_append]
  · rw [if_neg q, lays_ow_ne q]
    rfl
end
theorem total_congr {S S' : PS} (ht : S'.ts = S.ts) (h : ∀ z : Int × Int, (S'.e z).isSome = (S.e z).isSome) : S'.total = S.total := by
  unfold PS.total
  rw [ht]
  congr 1
  refine List.map_congr_left fun t _ => ?_
  rw [pgsE_congr fun p => h (t, p)]
theorem Gx.free {S : PS} {D : List (Int × Int)} (x : Gx S D) {b : Bool} {i : Nat} (h : frst (S.own b) = some i) : S.ow b i = [] := by
  obtain ⟨h1, _⟩ := frst_some h
  have := x.cnt b i (List.getElem?_eq_some_iff.mp h1).1
  rw [h1] at this
  injection this with this
  exact List.length_eq_zero_iff.mp this.symm
theorem Gx.place {S : PS} {D l : List (Int × Int)} {b : Bool} {i : Nat} (x : Gx S (l ++ D)) (h : frst (S.own b) = some i) (hl : l ≠ []) (nd : l.Nodup) (dj : ∀ z, z ∈ l → z ∉ D) : Gx (S.placed b i l) D := by
  have hf := x.free h
  have eo := placed_own h hl
  have ew := placed_ow hf nd
  obtain ⟨e1, e2, e3⟩ := placed_fr (S := S) (b := b) (i := i) (l := l)
  have et := placed_ts (S := S) (b := b) (i := i) (l := l)
  have eol : ∀ c, ((S.placed b i l).own c).length = (S.own c).length := fun c => by
    rw [eo]
    unfold updB
    split
    · rename_i h; rw [h, List.length_set]
    · rfl
  have es : ∀ z : Int × Int, ((S.placed b i l).e z).isSome = (S.e z).isSome := fun z => by
    rw [placed_e]
    split
    · rename_i h
      rw [x.det z (List.mem_append.mpr (.inl h))]
      rfl
    · rfl
  refine ⟨by rw [eol, e1]; exact x.l0, by rw [eol, e2]; exact x.l1, by rw [e1, e2]; exact x.bnd, by rw [e1, e3]; exact x.hnd, by rw [et]; exact x.tsn, fun t q ht => ?_, fun t q hq => ?_, fun c m z => ?_, fun c m hm => ?_, fun c m hm => ?_, fun c m => ?_, fun z hz => ?_, ?_⟩
  · rw [et] at ht
    have := x.off t q ht
    have k := es (t, q)
    have q0 : S.e (t, q) = none := this
    rw [q0] at k
    cases e : (S.placed b i l).pl t q with
    | none => rfl
    | some v =>
      have k : ((S.placed b i l).pl t q).isSome = false := k
      rw [e] at k
      cases k
  · have k : ((S.placed b i l).e (t, q)).isSome = true := hq
    rw [es] at k
    exact x.dom t q k
  · rw [ew, placed_e]
    unfold updO
    by_cases q : c = b ∧ m = i
    · rw [if_pos q]
      obtain ⟨rfl, rfl⟩ := q
      by_cases hz : z ∈ l
      · rw [if_pos hz]
        exact ⟨fun _ => ⟨rfl, dj z hz⟩, fun _ => hz⟩
      · rw [if_neg hz]
        refine ⟨fun q => absurd q hz, fun ⟨h1, h2⟩ => ?_⟩
        have := (x.mem c m z).mpr ⟨h1, fun q => (List.mem_append.mp q).elim hz h2⟩
        rw [hf] at this
        cases this
    · rw [if_neg q, x.mem c m z]
      by_cases hz : z ∈ l
      · rw [if_pos hz]
        refine ⟨fun ⟨_, h2⟩ => absurd (List.mem_append.mpr (.inl hz)) h2, fun ⟨h1, _⟩ => ?_⟩
        injection h1 with h1
        injection h1 with h1 h2
        exact absurd ⟨h1.symm, h2.symm⟩ q
      · rw [if_neg hz]
        exact ⟨fun ⟨h1, h2⟩ => ⟨h1, fun k => h2 (List.mem_append.mpr (.inr k))⟩, fun ⟨h1, h2⟩ => ⟨h1, fun k => (List.mem_append.mp k).elim hz h2⟩⟩
  · rw [eol] at hm
    rw [eo, ew]
    unfold updB updO
    by_cases hc : c = b
    · subst hc
      rw [if_pos rfl]
      by_cases q : m = i
      · subst q
        rw [if_pos ⟨rfl, rfl⟩, List.getElem?_set_self hm]
      · rw [if_neg fun k => q k.2, List.getElem?_set_ne (Ne.symm q)]
        exact x.cnt c m hm
    · rw [if_neg hc, if_neg fun k => hc k.1]
      exact x.cnt c m hm
  · rw [eol] at hm
    rw [ew]
    unfold updO
    have hi : i < (S.own b).length := (List.getElem?_eq_some_iff.mp (frst_some h).1).1
    rw [if_neg fun q => by rw [q.1, q.2] at hm; omega]
    exact x.out c m hm
  · rw [ew]
    unfold updO
    split
    · exact nd
    · exact x.nd c m
  · rw [es]
    exact x.det z (List.mem_append.mpr (.inr hz))
  · rw [total_congr et es, e1, e2]
    exact x.tot
/-! #### how pages stand: pk tells the poke that a page stands by, 0 for none -/
structure Std (S : PS) (pk : Int × Int → Int) (D : List (Int × Int)) : Prop where
  bl : ∀ z, (S.e z).isSome = true → z ∉ D → (S.e z = some .blank ↔ pk z = 0)
  eq : ∀ z y, (S.e z).isSome = true → (S.e y).isSome = true → z ∉ D → y ∉ D → S.e z ≠ some .blank → S.e y ≠ some .blank → (S.e z = S.e y ↔ pk z = pk y)
/-- where a frame is free behind it, one was ahead, and no page has left the frames -/
def FrSt (S S' : PS) : Prop := frst (S'.own false) ≠ none → frst (S.own false) ≠ none ∧ ∀ z n, S.e z = some (.at false n) → ∃ m, S'.e z = some (.at false m)
theorem FrSt.refl (S : PS) : FrSt S S := fun h => ⟨h, fun z n e => ⟨n, e⟩⟩
theorem FrSt.trans {S S1 S2 : PS} (a : FrSt S S1) (b : FrSt S1 S2) : FrSt S S2 := fun h => by
  obtain ⟨h1, f1⟩ := b h
  obtain ⟨h0, f0⟩ := a h1
  exact ⟨h0, fun z n e => let ⟨m, e1⟩ := f0 z n e; f1 z m e1⟩
theorem Std.mono {S : PS} {pk : Int × Int → Int} {D D' : List (Int × Int)} (x : Std S pk D) (h : ∀ z, z ∈ D → z ∈ D') : Std S pk D' :=
  ⟨fun z hz hd => x.bl z hz fun q => hd (h z q), fun z y hz hy dz dy => x.eq z y hz hy (fun q => dz (h z q)) fun q => dy (h y q)⟩
/-- all pages of l come to one free place: they stand by the poke c -/
theorem Std.place {S : PS} {pk : Int × Int → Int} {D l : List (Int × Int)} {b : Bool} {i : Nat} {c : Int} (x : Std S pk (l ++ D)) (G : Gx S (l ++ D)) (h : frst (S.own b) = some i) (c0 : c ≠ 0) (hc : ∀ z, z ∈ l → pk z = c) (ho : ∀ z, (S.e z).isSome = true → z ∉ l → z ∉ D → pk z ≠ c) : Std (S.placed b i l) pk D := by
  have es : ∀ z : Int × Int, ((S.placed b i l).e z).isSome = true → (S.e z).isSome = true := fun z hz => by
    rw [placed_e] at hz
    split at hz
    · rename_i q
      exact G.det z (List.mem_append.mpr (.inl q))
    · exact hz
  have hf := G.free h
  have no : ∀ z, z ∉ l → z ∉ D → S.e z ≠ some (.at b i) := fun z h1 h2 e => by
    have := (G.mem b i z).mpr ⟨e, fun q => (List.mem_append.mp q).elim h1 h2⟩
    rw [hf] at this
    cases this
  refine ⟨fun z hz hd => ?_, fun z y hz hy dz dy bz b_y => ?_⟩
  · have hs := es z hz
    rw [placed_e]
    by_cases q : z ∈ l
    · rw [if_pos q, hc z q]
      exact ⟨fun e => (by cases e), fun e => absurd e c0⟩
    · rw [if_neg q]
      exact x.bl z hs fun k => (List.mem_append.mp k).elim q hd
  · have hs := es z hz
    have ys := es y hy
    rw [placed_e] at bz b_y
    rw [placed_e, placed_e]
    by_cases q : z ∈ l
    · rw [if_pos q]
      by_cases r : y ∈ l
      · rw [if_pos r, hc z q, hc y r]
        exact ⟨fun _ => rfl, fun _ => rfl⟩
      · rw [if_neg r, hc z q]
        exact ⟨fun e => absurd e.symm (no y r dy), fun e => absurd e.symm (ho y ys r dy)⟩
    · rw [if_neg q] at bz ⊢
      by_cases r : y ∈ l
      · rw [if_pos r, hc y r]
        exact ⟨fun e => absurd e (no z q dz), fun e => absurd e (ho z hs q dz)⟩
      · rw [if_neg r] at b_y ⊢
        exact x.eq z y hs ys (fun k => (List.mem_append.mp k).elim q dz) (fun k => (List.mem_append.mp k).elim r dy) bz b_y
/-- a place's pages stand by one poke, and nobody else by it -/
theorem Std.cls {S : PS} {pk : Int × Int → Int} {D : List (Int × Int)} (x : Std S pk D) (G : Gx S D) {b : Bool} {n : Nat} (hne : S.ow b n ≠ []) : ∃ c, c ≠ 0 ∧ (∀ z, z ∈ S.ow b n → pk z = c) ∧ ∀ z, (S.e z).isSome = true → z ∉ S.ow b n → z ∉ D → pk z ≠ c := by
  obtain ⟨y, hy⟩ := List.exists_mem_of_ne_nil _ hne
  obtain ⟨ey, dy⟩ := (G.mem b n y).mp hy
  have sy : (S.e y).isSome = true := by rw [ey]; rfl
  have by0 : S.e y ≠ some .blank := by rw [ey]; intro e; cases e
  have cy : pk y ≠ 0 := fun e => by0 ((x.bl y sy dy).mpr e)
  refine ⟨pk y, cy, fun z hz => ?_, fun z hz hn hd e => ?_⟩
  · obtain ⟨ez, dz⟩ := (G.mem b n z).mp hz
    exact (x.eq z y (by rw [ez]; rfl) sy dz dy (by rw [ez]; intro e; cases e) by0).mp (ez.trans ey.symm)
  · have bz : S.e z ≠ some .blank := fun q => cy (e.symm.trans ((x.bl z hz hd).mp q))
    have := (x.eq z y hz sy hd dy bz by0).mpr e
    exact hn ((G.mem b n z).mpr ⟨this.trans ey, hd⟩)
/-- what a move keeps of the pages -/
structure Kp (S S' : PS) : Prop where
  ts : S'.ts = S.ts
  fr : S'.fr = S.fr
  sl : S'.sl = S.sl
  is : ∀ z : Int × Int, (S'.e z).isSome = (S.e z).isSome
  bl : ∀ z : Int × Int, S'.e z = some .blank ↔ S.e z = some .blank
theorem Kp.refl (S : PS) : Kp S S := ⟨rfl, rfl, rfl, fun _ => rfl, fun _ => Iff.rfl⟩
theorem Kp.trans {S S1 S2 : PS} (a : Kp S S1) (b : Kp S1 S2) : Kp S S2 := ⟨b.ts.trans a.ts, b.fr.trans a.fr, b.sl.trans a.sl, fun z => (b.is z).trans (a.is z), fun z => (b.bl z).trans (a.bl z)⟩
/-- put_out: the pages D stay as they were -/
theorem putOut_law {S : PS} {D : List (Int × Int)} (G : Gx S D) (hf : frst (S.own false) = none) {j : Nat} (hj : frst (S.own true) = some j) :
    Gx S.putOut D ∧ S.putOut.ts = S.ts ∧ S.putOut.fr = S.fr ∧ S.putOut.sl = S.sl ∧ (∀ z : Int × Int, S.putOut.e z = if z ∈ S.ow false S.hand then some (.at true j) else S.e z) ∧ (∀ pk, Std S pk D → Std S.putOut pk D) ∧ S.putOut.own false = (S.own false).set S.hand 0 := by
  have hcnt := G.cnt false S.hand (by rw [G.l0]; exact G.hnd)
  have hne : S.ow false S.hand ≠ [] := fun e => by
    rw [e] at hcnt
    exact frst_none hf 0 (List.mem_of_getElem? hcnt) rfl
  have G1 := (G.lifted false S.hand).setHand (h := (S.hand + 1) % S.fr) (Nat.mod_lt _ (by have := G.hnd; show 0 < S.fr; omega))
  have eP : S.putOut = PS.placed ((S.lifted false S.hand).setHand ((S.hand + 1) % S.fr)) true j (S.ow false S.hand) := by
    unfold PS.putOut PS.placed
    rw [hj]
    rfl
  have hj1 : frst (((S.lifted false S.hand).setHand ((S.hand + 1) % S.fr)).own true) = some j := by
    have e : ((S.lifted false S.hand).setHand ((S.hand + 1) % S.fr)).own true = S.own true := updB_ne S.own ((S.own false).set S.hand 0) (b := false) (c := true) (by simp)
    rw [e]
    exact hj
  have dj : ∀ z, z ∈ S.ow false S.hand → z ∉ D := fun z hz => ((G.mem _ _ _).mp hz).2
  have G2 := G1.place hj1 hne (G.nd _ _) dj
  rw [← eP] at G2
  refine ⟨G2, putOut_ts S, ?_, ?_, fun z => ?_, fun pk st => ?_, putOut_own S⟩
  · rw [eP]
    exact placed_fr.1
  · rw [eP]
    exact placed_fr.2.1
  · rw [eP, placed_e]
    rfl
  · obtain ⟨c, c0, hc, ho⟩ := st.cls G hne
    rw [eP]
    have s1 : Std ((S.lifted false S.hand).setHand ((S.hand + 1) % S.fr)) pk (S.ow false S.hand ++ D) := Std.mono (S := (S.lifted false S.hand).setHand ((S.hand + 1) % S.fr)) ⟨st.bl, st.eq⟩ fun z hz => List.mem_append.mpr (.inr hz)
    exact s1.place G1 hj1 c0 hc ho
theorem ft1_law {S : PS} {D : List (Int × Int)} (G : Gx S D) (hs : frst (S.own false) = none → ∃ j, frst (S.own true) = some j) :
    Gx S.ft1 D ∧ S.ft1.ts = S.ts ∧ S.ft1.fr = S.fr ∧ S.ft1.sl = S.sl ∧ (∀ z, (S.ft1.e z).isSome = (S.e z).isSome ∧ (S.ft1.e z = some .blank ↔ S.e z = some .blank) ∧ (z ∈ D → S.ft1.e z = S.e z)) ∧ (∀ pk, Std S pk D → Std S.ft1 pk D) ∧ (frst (S.own false) ≠ none → S.ft1 = S) := by
  unfold PS.ft1
  split
  · rename_i hf
    obtain ⟨j, hj⟩ := hs hf
    obtain ⟨a, b, c, d, e, f, _⟩ := putOut_law G hf hj
    refine ⟨a, b, c, d, fun z => ?_, f, fun h => absurd hf h⟩
    rw [e]
    by_cases q : z ∈ S.ow false S.hand
    · rw [if_pos q]
      obtain ⟨e1, d1⟩ := (G.mem _ _ _).mp q
      exact ⟨by rw [e1]; rfl, ⟨fun k => (by cases k), fun k => by rw [e1] at k; injection k with k; cases k⟩, fun k => absurd k d1⟩
    · rw [if_neg q]
      exact ⟨rfl, Iff.rfl, fun _ => rfl⟩
  · exact ⟨G, rfl, rfl, rfl, fun z => ⟨rfl, Iff.rfl, fun _ => rfl⟩, fun pk h => h, fun _ => rfl⟩
/-- pages D that lie nowhere come to a frame -/
theorem ft_place {S : PS} {D : List (Int × Int)} (G : Gx S D) (hs : frst (S.own false) = none → ∃ j, frst (S.own true) = some j) (hD : D ≠ []) (nd : D.Nodup) :
    Gx (PS.settle S.ft false S.fti D) [] ∧ (PS.settle S.ft false S.fti D).ts = S.ts ∧ (PS.settle S.ft false S.fti D).fr = S.fr ∧ (PS.settle S.ft false S.fti D).sl = S.sl ∧ (∀ z, (PS.settle S.ft false S.fti D).e z = if z ∈ D then some (.at false S.fti) else S.ft1.e z) ∧
    (∀ pk c, Std S pk D → c ≠ 0 → (∀ z, z ∈ D → pk z = c) → (∀ z, (S.e z).isSome = true → z ∉ D → pk z ≠ c) → Std (PS.settle S.ft false S.fti D) pk []) ∧
    (frst (S.own false) = none → frst ((PS.settle S.ft false S.fti D).own false) = none) := by
  obtain ⟨G1, e1, e2, e3, e4, e5, e6⟩ := ft1_law G hs
  have hh : S.hand < (S.own false).length := by rw [G.l0]; exact G.hnd
  have hi := ft1_frst hh
  have eP : PS.settle S.ft false S.fti D = S.ft1.placed false S.fti D := rfl
  have G1' : Gx S.ft1 (D ++ []) := by rw [List.append_nil]; exact G1
  have G2 := G1'.place hi hD nd fun z _ q => by cases q
  rw [eP]
  obtain ⟨p1, p2, p3⟩ := placed_fr (S := S.ft1) (b := false) (i := S.fti) (l := D)
  refine ⟨G2, placed_ts.trans e1, p1.trans e2, p2.trans e3, fun z => placed_e z, fun pk c st c0 hc ho => ?_, fun hf => ?_⟩
  · have s1 : Std S.ft1 pk (D ++ []) := by rw [List.append_nil]; exact e5 pk st
    exact s1.place G1' hi c0 hc fun z hz h1 _ => ho z (by rw [← (e4 z).1]; exact hz) h1
  · obtain ⟨j, hj⟩ := hs hf
    have po := (putOut_law G hf hj).2.2.2.2.2.2
    have ef : S.ft1 = S.putOut := by unfold PS.ft1; rw [if_pos hf]
    rw [placed_own hi hD, updB_same, ef, po]
    rw [ef, po] at hi
    have hhand : S.fti = S.hand := by
      obtain ⟨z1, z2⟩ := frst_some hi
      refine Classical.byContradiction fun q => ?_
      rw [List.getElem?_set_ne (Ne.symm q)] at z1
      exact frst_none hf 0 (List.mem_of_getElem? z1) rfl
    rw [hhand, set_set]
    cases e : frst ((S.own false).set S.hand D.length) with
    | none => rfl
    | some k =>
      obtain ⟨z1, _⟩ := frst_some e
      by_cases q : k = S.hand
      · subst q
        rw [List.getElem?_set_self hh] at z1
        injection z1 with z1
        exact absurd (List.length_eq_zero_iff.mp z1) hD
      · rw [List.getElem?_set_ne (Ne.symm q)] at z1
        exact absurd rfl (frst_none hf 0 (List.mem_of_getElem? z1))
/-- a free frame behind a store of something else -/
theorem frst_set {l : List Nat} {i c : Nat} (hc : c ≠ 0) (h : frst (l.set i c) ≠ none) : frst l ≠ none := fun q => by
  cases e : frst (l.set i c) with
  | none => exact h e
  | some k =>
    obtain ⟨z1, _⟩ := frst_some e
    by_cases qk : k = i
    · subst qk
      have hl : k < l.length := by
        have := (List.getElem?_eq_some_iff.mp z1).1
        rwa [List.length_set] at this
      rw [List.getElem?_set_self hl] at z1
      injection z1 with z1
      exact hc z1
    · rw [List.getElem?_set_ne (Ne.symm qk)] at z1
      exact frst_none q 0 (List.mem_of_getElem? z1) rfl
/-- fetch -/
structure Mv (S S' : PS) : Prop where
  gx : Gx S' []
  kp : Kp S S'
  st : ∀ pk, Std S pk [] → Std S' pk []
  fr : FrSt S S'
theorem Mv.refl {S : PS} (G : Gx S []) : Mv S S := ⟨G, Kp.refl S, fun _ h => h, FrSt.refl S⟩
theorem Mv.trans {S S1 S2 : PS} (a : Mv S S1) (b : Mv S1 S2) : Mv S S2 := ⟨b.gx, a.kp.trans b.kp, fun pk h => b.st pk (a.st pk h), a.fr.trans b.fr⟩
theorem fetch_pre {S : PS} (G : Gx S []) {z : Int × Int} {n : Nat} (h : S.e z = some (.at true n)) :
    S.ow true n ≠ [] ∧ (S.own true)[n]? = some (S.ow true n).length ∧ Gx (S.lifted true n) (S.ow true n) ∧ frst ((S.lifted true n).own true) ≠ none := by
  have hz : z ∈ S.ow true n := (G.mem true n z).mpr ⟨h, by simp⟩
  have hl := G.at_lt hz
  have G1 := G.lifted true n
  rw [List.append_nil] at G1
  refine ⟨fun e => (by rw [e] at hz; cases hz), G.cnt true n hl, G1, ?_⟩
  show frst (updB S.own true ((S.own true).set n 0) true) ≠ none
  rw [updB_same]
  obtain ⟨i, hi⟩ := frst_has (l := (S.own true).set n 0) (n := n) (List.getElem?_set_self hl)
  rw [hi]
  simp
theorem lifted_slot {S : PS} {n : Nat} (h : frst ((S.lifted true n).own true) ≠ none) : frst ((S.lifted true n).own false) = none → ∃ j, frst ((S.lifted true n).own true) = some j := fun _ => by
  cases e : frst ((S.lifted true n).own true) with
  | none => exact absurd e h
  | some j => exact ⟨j, rfl⟩
theorem fetch_law {S : PS} (G : Gx S []) {z : Int × Int} {e : Ent} (he : S.e z = some e) : Mv S (S.fetch z) ∧ ((S.fetch z).e z = some .blank ∨ ∃ m, (S.fetch z).e z = some (.at false m)) := by
  cases e with
  | blank =>
    have q : S.fetch z = S := by
      have he : S.pl z.1 z.2 = some .blank := he
      unfold PS.fetch
      rw [he]
    rw [q]
    exact ⟨Mv.refl G, .inl he⟩
  | «at» b n =>
    cases b with
    | false =>
      have q : S.fetch z = S := by
        have he : S.pl z.1 z.2 = some (.at false n) := he
        unfold PS.fetch
        rw [he]
      rw [q]
      exact ⟨Mv.refl G, .inr ⟨n, he⟩⟩
    | true =>
      have q : S.fetch z = PS.settle (S.lifted true n).ft false (S.lifted true n).fti (S.ow true n) := by
        have he : S.pl z.1 z.2 = some (.at true n) := he
        unfold PS.fetch
        rw [he]
      obtain ⟨h1, h2, G1, h3⟩ := fetch_pre G he
      have hs := lifted_slot h3
      obtain ⟨a1, a2, a3, a4, a5, a6, a7⟩ := ft_place G1 hs h1 (G.nd _ _)
      obtain ⟨f1, f2, f3, f4, f5, f6, f7⟩ := ft1_law G1 hs
      have hz : z ∈ S.ow true n := (G.mem true n z).mpr ⟨he, by simp⟩
      have eo : (S.lifted true n).own false = S.own false := updB_ne S.own ((S.own true).set n 0) (b := true) (c := false) (by simp)
      rw [q]
      have ine : ∀ x, x ∈ S.ow true n → S.e x = some (.at true n) := fun x hx => ((G.mem true n x).mp hx).1
      refine ⟨⟨a1, ⟨a2, a3, a4, fun x => ?_, fun x => ?_⟩, fun pk st => ?_, fun hfr => ?_⟩, .inr ⟨_, by rw [a5, if_pos hz]⟩⟩
      · rw [a5]
        split
        · rename_i hx
          rw [ine x hx]
          rfl
        · exact (f5 x).1
      · rw [a5]
        split
        · rename_i hx
          rw [ine x hx]
          exact ⟨fun k => (by cases k), fun k => (by cases k)⟩
        · exact (f5 x).2.1
      · obtain ⟨c, c0, hc, ho⟩ := st.cls G h1
        exact a6 pk c (Std.mono (S := S.lifted true n) ⟨st.bl, st.eq⟩ fun x hx => by cases hx) c0 hc fun x hx h4 => ho x hx h4 (by simp)
      · have hf0 : frst (S.own false) ≠ none := fun k => hfr (a7 (by rw [eo]; exact k))
        have e1 := f7 (by rw [eo]; exact hf0)
        refine ⟨hf0, fun x m hx => ⟨m, ?_⟩⟩
        rw [a5, if_neg fun k => ?_, e1]
        · exact hx
        · rw [ine x k] at hx
          cases hx

-- part K9I
theorem all_raw {S : PS} {z : Int × Int} : z ∈ S.all ↔ z.1 ∈ S.ts ∧ (0 ≤ z.2 ∧ z.2 < 64) ∧ (S.e z).isSome = true := by
  unfold PS.all
  rw [List.mem_flatMap]
  constructor
  · rintro ⟨t, ht, hz⟩
    obtain ⟨p, hp, rfl⟩ := List.mem_map.mp hz
    exact ⟨ht, pgsE_mem.mp hp⟩
  · rintro ⟨ht, h⟩
    exact ⟨z.1, ht, List.mem_map.mpr ⟨z.2, pgsE_mem.mpr h, rfl⟩⟩
theorem all_nd {S : PS} (h : S.ts.Nodup) : S.all.Nodup := by
  unfold PS.all
  show List.Pairwise _ _
  rw [List.pairwise_flatMap]
  refine ⟨fun t _ => ?_, h.imp fun {t u} htu z hz y hy e => ?_⟩
  · rw [List.pairwise_map]
    exact (pgsE_nd (S.pl t)).imp fun h e => h (Prod.mk.inj e).2
  · obtain ⟨p, _, rfl⟩ := List.mem_map.mp hz
    obtain ⟨q, _, rfl⟩ := List.mem_map.mp hy
    exact htu (Prod.mk.inj e).1
theorem total_le {S S' : PS} (h : S'.ts.Nodup) (k : ∀ z, z ∈ S'.all → z ∈ S.all) : S'.total ≤ S.total := by
  rw [← all_len, ← all_len]
  exact (all_nd h).length_le_of_subset k
theorem total_add {S S' : PS} (h : S'.ts.Nodup) (l : List (Int × Int)) (k : ∀ z, z ∈ S'.all → z ∈ l ∨ z ∈ S.all) : S'.total ≤ S.total + l.length := by
  rw [← all_len, ← all_len]
  have := (all_nd h).length_le_of_subset (l₂ := l ++ S.all) fun z hz => List.mem_append.mpr (k z hz)
  rw [List.length_append] at this
  omega
theorem delO_mem {l : List (Int × Int)} {z y : Int × Int} : y ∈ delO l z ↔ y ∈ l ∧ y ≠ z := by
  unfold delO
  rw [List.mem_filter]
  simp
theorem delO_one {l : List (Int × Int)} {z : Int × Int} (nd : l.Nodup) (h : z ∈ l) : (delO l z).length + 1 = l.length := by
  have e : delO l z = l.erase z := by
    rw [nd.erase_eq_filter]
    unfold delO
    refine List.filter_congr fun y _ => ?_
    rw [bne, Bool.eq_iff_iff]
    simp
  rw [e, List.length_erase_of_mem h]
  have := List.length_pos_of_mem h
  omega
theorem leave_at {S : PS} {z : Int × Int} {b : Bool} {n : Nat} (h : S.e z = some (.at b n)) : S.leave z = { S with ow := updO S.ow b n (delO (S.ow b n) z), own := updB S.own b ((S.own b).set n (((S.own b)[n]?).getD 0 - 1)) } := by
  have h : S.pl z.1 z.2 = some (.at b n) := h
  unfold PS.leave
  rw [h]
theorem leave_bl {S : PS} {z : Int × Int} (h : S.e z = some .blank) : S.leave z = S := by
  have h : S.pl z.1 z.2 = some .blank := h
  unfold PS.leave
  rw [h]
theorem leave_pl (S : PS) (z : Int × Int) : (S.leave z).pl = S.pl := by
  unfold PS.leave
  split <;> rfl
theorem leave_fr (S : PS) (z : Int × Int) : (S.leave z).fr = S.fr ∧ (S.leave z).sl = S.sl ∧ (S.leave z).hand = S.hand := by
  unfold PS.leave
  split <;> exact ⟨rfl, rfl, rfl⟩
theorem Gx.leave {S : PS} {D : List (Int × Int)} (x : Gx S D) {z : Int × Int} {e : Ent} (he : S.e z = some e) (hd : z ∉ D) : Gx (S.leave z) (z :: D) := by
  have hz : (S.e z).isSome = true := by rw [he]; rfl
  cases e with
  | blank =>
    rw [leave_bl he]
    refine { x with
      mem := fun b n y => ?_
      det := fun y hy => ?_ }
    · rw [x.mem]
      refine ⟨fun ⟨h1, h2⟩ => ⟨h1, fun q => ?_⟩, fun ⟨h1, h2⟩ => ⟨h1, fun q => h2 (List.mem_cons_of_mem _ q)⟩⟩
      rcases List.mem_cons.mp q with rfl | q
      · rw [he] at h1
        cases h1
      · exact h2 q
    · rcases List.mem_cons.mp hy with rfl | hy
      · exact hz
      · exact x.det y hy
  | «at» b n =>
    have hm : z ∈ S.ow b n := (x.mem b n z).mpr ⟨he, hd⟩
    have hl := x.at_lt hm
    have hc := x.cnt b n hl
    have d1 := delO_one (x.nd b n) hm
    rw [leave_at he]
    have eol : ∀ c, (updB S.own b ((S.own b).set n (((S.own b)[n]?).getD 0 - 1)) c).length = (S.own c).length := fun c => by
      unfold updB
      split
      · rename_i h; rw [h, List.length_set]
      · rfl
    refine ⟨(eol false).trans x.l0, (eol true).trans x.l1, x.bnd, x.hnd, x.tsn, x.off, x.dom, fun c m y => ?_, fun c m hm2 => ?_, fun c m hm2 => ?_, fun c m => ?_, fun y hy => ?_, x.tot⟩
    · show y ∈ updO S.ow b n (delO (S.ow b n) z) c m ↔ _
      unfold updO
      by_cases q : c = b ∧ m = n
      · rw [if_pos q, delO_mem, q.1, q.2, x.mem]
        refine ⟨fun ⟨⟨h1, h2⟩, h3⟩ => ⟨h1, fun k => (List.mem_cons.mp k).elim h3 h2⟩, fun ⟨h1, h2⟩ => ⟨⟨h1, fun k => h2 (List.mem_cons_of_mem _ k)⟩, fun k => h2 (by rw [k]; exact List.mem_cons_self)⟩⟩
      · rw [if_neg q, x.mem]
        refine ⟨fun ⟨h1, h2⟩ => ⟨h1, fun k => ?_⟩, fun ⟨h1, h2⟩ => ⟨h1, fun k => h2 (List.mem_cons_of_mem _ k)⟩⟩
        rcases List.mem_cons.mp k with rfl | k
        · rw [he] at h1
          injection h1 with h1
          injection h1 with h1 h3
          exact q ⟨h1.symm, h3.symm⟩
        · exact h2 k
    · have hm3 : m < (S.own c).length := by rw [← eol c]; exact hm2
      show (updB S.own b ((S.own b).set n (((S.own b)[n]?).getD 0 - 1)) c)[m]? = some (updO S.ow b n (delO (S.ow b n) z) c m).length
      unfold updB updO
      by_cases hcb : c = b
      · subst hcb
        rw [if_pos rfl]
        by_cases q : m = n
        · subst q
          rw [if_pos ⟨rfl, rfl⟩, List.getElem?_set_self hm3, hc]
          congr 1
          show (S.ow c m).length - 1 = _
          omega
        · rw [if_neg fun k => q k.2, List.getElem?_set_ne (Ne.symm q)]
          exact x.cnt c m hm3
      · rw [if_neg hcb, if_neg fun k => hcb k.1]
        exact x.cnt c m hm3
    · have hm2 : (S.own c).length ≤ m := by rw [← eol c]; exact hm2
      show updO S.ow b n (delO (S.ow b n) z) c m = []
      unfold updO
      rw [if_neg fun q => by rw [q.1, q.2] at hm2; omega]
      exact x.out c m hm2
    · show (updO S.ow b n (delO (S.ow b n) z) c m).Nodup
      unfold updO
      split
      · exact delO_nd (x.nd b n)
      · exact x.nd c m
    · rcases List.mem_cons.mp hy with rfl | hy
      · exact hz
      · exact x.det y hy
theorem Std.same {S S' : PS} {pk : Int × Int → Int} {D : List (Int × Int)} (x : Std S pk D) (h : S'.pl = S.pl) : Std S' pk D := by
  have e : ∀ z, S'.e z = S.e z := fun z => by show S'.pl z.1 z.2 = S.pl z.1 z.2; rw [h]
  exact ⟨fun z hz hd => by rw [e] at hz ⊢; exact x.bl z hz hd, fun z y hz hy dz dy bz b_y => by rw [e] at hz bz; rw [e] at hy b_y; rw [e, e]; exact x.eq z y hz hy dz dy bz b_y⟩
theorem Std.off {S : PS} {pk pk' : Int × Int → Int} {D : List (Int × Int)} (x : Std S pk D) (h : ∀ z, z ∉ D → pk' z = pk z) : Std S pk' D :=
  ⟨fun z hz hd => by rw [h z hd]; exact x.bl z hz hd, fun z y hz hy dz dy bz b_y => by rw [h z dz, h y dy]; exact x.eq z y hz hy dz dy bz b_y⟩
def upk (pk : Int × Int → Int) (z : Int × Int) (c : Int) : Int × Int → Int := fun x => if x = z then c else pk x
/-- one page is poked -/
structure Pk1 (S S' : PS) (z : Int × Int) : Prop where
  gx : Gx S' []
  ts : S'.ts = S.ts
  fr : S'.fr = S.fr
  sl : S'.sl = S.sl
  is : ∀ x : Int × Int, (S'.e x).isSome = (S.e x).isSome
  bl : ∀ x : Int × Int, x ≠ z → (S'.e x = some .blank ↔ S.e x = some .blank)
  lie : ∃ m, S'.e z = some (.at false m)
  st : ∀ pk c, Std S pk [] → c ≠ 0 → (∀ x, (S.e x).isSome = true → x ≠ z → pk x ≠ c) → Std S' (upk pk z c) []
  fs : FrSt S S'
theorem Std.repoke {S : PS} {pk : Int × Int → Int} {z : Int × Int} {c : Int} (x : Std S pk []) (hb : S.e z ≠ some .blank) (hn : ∀ y, y ≠ z → S.e y ≠ S.e z) (c0 : c ≠ 0) (hc : ∀ y, (S.e y).isSome = true → y ≠ z → pk y ≠ c) : Std S (upk pk z c) [] := by
  refine ⟨fun y hy _ => ?_, fun y u hy hu _ _ b_y bu => ?_⟩
  · unfold upk
    by_cases q : y = z
    · rw [if_pos q, q]
      exact ⟨fun k => absurd k hb, fun k => absurd k c0⟩
    · rw [if_neg q]
      exact x.bl y hy (by simp)
  · unfold upk
    by_cases q : y = z
    · rw [if_pos q, q]
      by_cases r : u = z
      · rw [if_pos r, r]
        exact ⟨fun _ => rfl, fun _ => rfl⟩
      · rw [if_neg r]
        exact ⟨fun k => absurd k.symm (hn u r), fun k => absurd k.symm (hc u hu r)⟩
    · rw [if_neg q]
      by_cases r : u = z
      · rw [if_pos r, r]
        exact ⟨fun k => absurd k (hn y q), fun k => absurd k (hc y hy q)⟩
      · rw [if_neg r]
        exact x.eq y u hy hu (by simp) (by simp) b_y bu
theorem frst_sub {l : List Nat} {n c : Nat} (h : l[n]? = some c) (hc : 2 ≤ c) (k : frst (l.set n (c - 1)) ≠ none) : frst l ≠ none := frst_set (by omega) k
theorem part_leave {S : PS} (G : Gx S []) {z : Int × Int} {e : Ent} (he : S.e z = some e) : Gx (S.leave z) [z] ∧ (frst ((S.leave z).own false) = none → ∃ j, frst ((S.leave z).own true) = some j) := by
  have G1 := G.leave he (by simp)
  refine ⟨G1, G1.slot (z := z) ?_ (.inl (by simp))⟩
  show ((S.leave z).pl z.1 z.2).isSome = true
  rw [leave_pl]
  have he : S.pl z.1 z.2 = some e := he
  rw [he]
  rfl
theorem afresh_law {S : PS} (G : Gx S []) {z : Int × Int} {e : Ent} (he : S.e z = some e) (h1 : ∀ b n, e = .at b n → (S.own b)[n]? ≠ some 1) : Pk1 S (S.afresh z) z := by
  obtain ⟨G1, hs⟩ := part_leave G he
  obtain ⟨a1, a2, a3, a4, a5, a6, a7⟩ := ft_place G1 hs (by simp) (by simp)
  obtain ⟨f1, f2, f3, f4, f5, f6, f7⟩ := ft1_law G1 hs
  obtain ⟨l1, l2, l3⟩ := leave_fr S z
  have ee : ∀ x, (S.leave z).e x = S.e x := fun x => by show (S.leave z).pl x.1 x.2 = S.pl x.1 x.2; rw [leave_pl]
  have hzs : (S.e z).isSome = true := by rw [he]; rfl
  have a5' : ∀ x, (S.afresh z).e x = if x = z then some (.at false (S.leave z).fti) else (S.leave z).ft1.e x := fun x => by
    have := a5 x
    unfold PS.afresh
    rw [this]
    by_cases q : x = z
    · rw [if_pos q, if_pos (by rw [q]; simp)]
    · rw [if_neg q, if_neg (by simpa using q)]
  refine ⟨a1, a2.trans (leave_ts S z), a3.trans l1, a4.trans l2, fun x => ?_, fun x hx => ?_, ⟨_, by rw [a5', if_pos rfl]⟩, fun pk c st c0 hc => ?_, fun hfr => ?_⟩
  · rw [a5']
    by_cases q : x = z
    · rw [if_pos q, q, hzs]
      rfl
    · rw [if_neg q, (f5 x).1, ee]
  · rw [a5', if_neg hx, (f5 x).2.1, ee]
  · have s1 : Std (S.leave z) (upk pk z c) [z] := by
      refine Std.off (pk := pk) ?_ fun x hx => ?_
      · exact (st.same (S' := S.leave z) (leave_pl S z)).mono fun x hx => by cases hx
      · unfold upk
        rw [if_neg (by simpa using hx)]
    refine a6 (upk pk z c) c s1 c0 (fun x hx => ?_) fun x hx hn => ?_
    · have : x = z := by simpa using hx
      unfold upk
      rw [if_pos this]
    · have hn : x ≠ z := by simpa using hn
      unfold upk
      rw [if_neg hn]
      rw [ee] at hx
      exact hc x hx hn
  · have k1 : frst ((S.leave z).own false) ≠ none := fun k => hfr (a7 k)
    have k0 : frst (S.own false) ≠ none := by
      cases e with
      | blank => rw [leave_bl he] at k1; exact k1
      | «at» b n =>
        rw [leave_at he] at k1
        have k1 : frst (updB S.own b ((S.own b).set n (((S.own b)[n]?).getD 0 - 1)) false) ≠ none := k1
        cases b with
        | true => rwa [updB_ne _ _ (by simp)] at k1
        | false =>
          rw [updB_same] at k1
          have hm : z ∈ S.ow false n := (G.mem false n z).mpr ⟨he, by simp⟩
          have hc := G.cnt false n (G.at_lt hm)
          have h1 := h1 false n rfl
          rw [hc] at k1 h1
          have hp := List.length_pos_of_mem hm
          exact frst_sub hc (by
            have : (S.ow false n).length ≠ 1 := fun q => h1 (by rw [q])
            omega) k1
    refine ⟨k0, fun x m hx => ?_⟩
    rw [a5']
    by_cases q : x = z
    · rw [if_pos q]
      exact ⟨_, rfl⟩
    · rw [if_neg q, f7 k1, ee]
      exact ⟨m, hx⟩
theorem part_law {S : PS} (G : Gx S []) {z : Int × Int} {e : Ent} (he : S.e z = some e) : Pk1 S (S.part z) z := by
  cases e with
  | blank =>
    have q : S.part z = S.afresh z := by
      have he : S.pl z.1 z.2 = some .blank := he
      unfold PS.part
      rw [he]
    rw [q]
    exact afresh_law G he fun b n k => by cases k
  | «at» b n =>
    by_cases h1 : (S.own b)[n]? = some 1
    · have q : S.part z = S.fetch z := by
        have he : S.pl z.1 z.2 = some (.at b n) := he
        unfold PS.part
        rw [he]
        exact if_pos h1
      rw [q]
      obtain ⟨M, hl⟩ := fetch_law G he
      have hm : z ∈ S.ow b n := (G.mem b n z).mpr ⟨he, by simp⟩
      have hc := G.cnt b n (G.at_lt hm)
      rw [h1] at hc
      injection hc with hc
      have one : ∀ y, y ≠ z → S.e y ≠ S.e z := fun y hy k => by
        have h2 : y ∈ S.ow b n := (G.mem b n y).mpr ⟨k.trans he, by simp⟩
        have h3 : ([y, z] : List (Int × Int)).length ≤ (S.ow b n).length := by
          refine List.Nodup.length_le_of_subset (List.nodup_cons.mpr ⟨by simpa using hy, by simp⟩) fun u hu => ?_
          rcases List.mem_cons.mp hu with rfl | hu
          · exact h2
          · rw [List.mem_singleton.mp hu]; exact hm
        rw [← hc] at h3
        simp at h3
      have nb : (S.fetch z).e z ≠ some .blank := fun k => by
        have := (M.kp.bl z).mp k
        rw [he] at this
        cases this
      obtain ⟨m, hm2⟩ := hl.resolve_left nb
      refine ⟨M.gx, M.kp.ts, M.kp.fr, M.kp.sl, M.kp.is, fun x _ => M.kp.bl x, ⟨m, hm2⟩, fun pk c st c0 hc2 => ?_, M.fr⟩
      refine (M.st pk st).repoke nb (fun y hy k => ?_) c0 fun y hy hn => hc2 y (by rw [← M.kp.is]; exact hy) hn
      have sy : ((S.fetch z).e y).isSome = true := by rw [k, hm2]; rfl
      have sz : ((S.fetch z).e z).isSome = true := by rw [hm2]; rfl
      have nby : (S.fetch z).e y ≠ some .blank := by rw [k]; exact nb
      have k2 := ((M.st pk st).eq y z sy sz (by simp) (by simp) nby nb).mp k
      have sy0 : (S.e y).isSome = true := by rw [← M.kp.is]; exact sy
      have nby0 : S.e y ≠ some .blank := fun q => nby ((M.kp.bl y).mpr q)
      have nb0 : S.e z ≠ some .blank := by rw [he]; intro q; cases q
      exact one y hy ((st.eq y z sy0 (by rw [he]; rfl) (by simp) (by simp) nby0 nb0).mpr k2)
    · have q : S.part z = S.afresh z := by
        have he : S.pl z.1 z.2 = some (.at b n) := he
        unfold PS.part
        rw [he]
        exact if_neg h1
      rw [q]
      refine afresh_law G he fun c m k => ?_
      injection k with k1 k2
      subst k1 k2
      exact h1
/-- pages poked one behind another -/
structure Pks (S S' : PS) (l : List (Int × Int)) : Prop where
  gx : Gx S' []
  ts : S'.ts = S.ts
  fr : S'.fr = S.fr
  sl : S'.sl = S.sl
  is : ∀ x : Int × Int, (S'.e x).isSome = (S.e x).isSome
  bl : ∀ x : Int × Int, x ∉ l → (S'.e x = some .blank ↔ S.e x = some .blank)
  nb : ∀ x : Int × Int, x ∈ l → S'.e x ≠ some .blank
  st : ∀ (pk c : Int × Int → Int), Std S pk [] → (∀ z, z ∈ l → c z ≠ 0) → (∀ z x, z ∈ l → (S.e x).isSome = true → pk x ≠ c z) → (∀ z y, z ∈ l → y ∈ l → c z = c y → z = y) → Std S' (fun x => if x ∈ l then c x else pk x) []
  fs : FrSt S S'
  lie : ∀ z, l.getLast? = some z → ∃ m, S'.e z = some (.at false m)
theorem Pks.nil {S : PS} (G : Gx S []) : Pks S S [] :=
  ⟨G, rfl, rfl, rfl, fun _ => rfl, fun _ _ => Iff.rfl, fun x hx => (by cases hx), fun pk c st _ _ _ => by simpa using st, FrSt.refl S, fun z hz => by cases hz⟩
theorem Pks.snoc {S S1 S2 : PS} {l : List (Int × Int)} {z : Int × Int} (a : Pks S S1 l) (b : Pk1 S1 S2 z) (hz : z ∉ l) (sz : (S.e z).isSome = true) : Pks S S2 (l ++ [z]) := by
  refine ⟨b.gx, b.ts.trans a.ts, b.fr.trans a.fr, b.sl.trans a.sl, fun x => (b.is x).trans (a.is x), fun x hx => ?_, fun x hx => ?_, fun pk c st c0 hc hi => ?_, a.fs.trans b.fs, fun y hy => ?_⟩
  · rw [List.mem_append, List.mem_singleton] at hx
    rw [b.bl x fun k => hx (.inr k), a.bl x fun k => hx (.inl k)]
  · rw [List.mem_append, List.mem_singleton] at hx
    by_cases q : x = z
    · obtain ⟨m, hm⟩ := b.lie
      rw [q, hm]
      intro k
      cases k
    · rw [ne_eq, b.bl x q]
      exact a.nb x (hx.resolve_right q)
  · have s1 := a.st pk c st (fun y hy => c0 y (List.mem_append.mpr (.inl hy))) (fun y x hy hx => hc y x (List.mem_append.mpr (.inl hy)) hx) fun y u hy hu => hi y u (List.mem_append.mpr (.inl hy)) (List.mem_append.mpr (.inl hu))
    have hzz : z ∈ l ++ [z] := List.mem_append.mpr (.inr (by simp))
    have s2 := b.st _ (c z) s1 (c0 z hzz) fun x hx hn => by
      by_cases q : x ∈ l
      · rw [if_pos q]
        exact fun k => hn (hi x z (List.mem_append.mpr (.inl q)) hzz k)
      · rw [if_neg q]
        exact hc z x hzz (by rw [← a.is]; exact hx)
    refine s2.off fun x _ => ?_
    unfold upk
    by_cases q : x = z
    · rw [if_pos q, q, if_pos hzz]
    · rw [if_neg q]
      show (if x ∈ l ++ [z] then c x else pk x) = (if x ∈ l then c x else pk x)
      by_cases r : x ∈ l
      · rw [if_pos r, if_pos (List.mem_append.mpr (.inl r))]
      · rw [if_neg r, if_neg fun k => (List.mem_append.mp k).elim r fun k => q (by simpa using k)]
  · rw [List.getLast?_append] at hy
    have : z = y := by simpa using hy
    rw [← this]
    exact b.lie

-- part K9J
theorem Gx.perm {S : PS} {D D' : List (Int × Int)} (x : Gx S D) (h : ∀ z, z ∈ D ↔ z ∈ D') : Gx S D' :=
  { x with
    mem := fun b n z => by rw [x.mem, h]
    det := fun z hz => x.det z ((h z).mpr hz) }
/-! #### begin -/
def PS.begin (S : PS) (t : Int) : PS := { S with ts := S.ts ++ [t] }
theorem Gx.begin {S : PS} (x : Gx S []) {t : Int} (ht : t ∉ S.ts) : Gx (S.begin t) [] := by
  have nd : (S.begin t).ts.Nodup := nd_snoc x.tsn ht
  refine { x with
    tsn := nd
    off := fun u q hu => x.off u q fun k => hu (List.mem_append.mpr (.inl k))
    tot := ?_ }
  refine Nat.le_trans (total_le nd fun z hz => ?_) x.tot
  obtain ⟨_, _, h⟩ := all_raw.mp hz
  exact x.allMem.mpr h
/-! #### lay -/
def setZ (S : PS) (z : Int × Int) (e : Option Ent) : Int → Int → Option Ent := setP S.pl z.1 (setE (S.pl z.1) z.2 e)
theorem setZ_e (S : PS) (z x : Int × Int) (e : Option Ent) : setZ S z e x.1 x.2 = if x = z then e else S.e x := by
  unfold setZ setP setE
  by_cases h : x = z
  · subst h
    rw [if_pos rfl]
    show (if x.2 = x.2 then e else _) = _
    rw [if_pos rfl, if_pos rfl]
  · rw [if_neg h]
    by_cases h1 : x.1 = z.1
    · rw [if_pos h1]
      show (if x.2 = z.2 then e else _) = _
      rw [if_neg fun q => h (Prod.ext h1 q), ← h1]
    · rw [if_neg h1]
def PS.share (S : PS) (z : Int × Int) (e : Ent) : PS := match e with
  | .blank => S.lay z .blank
  | .at b n => PS.lay { S with own := updB S.own b ((S.own b).set n (((S.own b)[n]?).getD 0 + 1)) } z (.at b n)
theorem share_e (S : PS) (z : Int × Int) (e : Ent) (x : Int × Int) : (S.share z e).e x = if x = z then some e else S.e x := by
  cases e with
  | blank => exact setZ_e S z x (some .blank)
  | «at» b n => exact setZ_e S z x (some (.at b n))
theorem share_ts (S : PS) (z : Int × Int) (e : Ent) : (S.share z e).ts = S.ts ∧ (S.share z e).fr = S.fr ∧ (S.share z e).sl = S.sl := by cases e <;> exact ⟨rfl, rfl, rfl⟩
theorem share_total {S : PS} (x : Gx S []) {z : Int × Int} {e : Ent} : (S.share z e).total ≤ S.total + 1 := by
  refine total_add (l := [z]) (by rw [(share_ts S z e).1]; exact x.tsn) fun y hy => ?_
  obtain ⟨h1, h2, h3⟩ := all_raw.mp hy
  rw [share_e] at h3
  by_cases q : y = z
  · exact .inl (by rw [q]; simp)
  · rw [if_neg q] at h3
    exact .inr (x.allMem.mpr h3)
theorem Gx.share {S : PS} (x : Gx S []) {z : Int × Int} {e : Ent} (h1 : z.1 ∈ S.ts) (h2 : 0 ≤ z.2 ∧ z.2 < 64) (hz : S.e z = none) (he : ∀ b n, e = .at b n → ∃ y, S.e y = some (.at b n)) (ht : S.total + 1 ≤ S.fr + S.sl) : Gx (S.share z e) [] := by
  obtain ⟨t1, t2, t3⟩ := share_ts S z e
  have tot : (S.share z e).total ≤ (S.share z e).fr + (S.share z e).sl := by
    rw [t2, t3]
    exact Nat.le_trans (share_total x) ht
  have off : ∀ t q, t ∉ (S.share z e).ts → (S.share z e).pl t q = none := fun t q hq => by
    rw [t1] at hq
    have := share_e S z e (t, q)
    have e2 : (S.share z e).pl t q = if (t, q) = z then some e else S.pl t q := this
    rw [e2, if_neg fun k => hq (by rw [← k] at h1; exact h1)]
    exact x.off t q hq
  have dom : ∀ t q, ((S.share z e).pl t q).isSome = true → 0 ≤ q ∧ q < 64 := fun t q hq => by
    have := share_e S z e (t, q)
    have e2 : (S.share z e).pl t q = if (t, q) = z then some e else S.pl t q := this
    rw [e2] at hq
    by_cases k : (t, q) = z
    · rw [← k] at h2
      exact h2
    · rw [if_neg k] at hq
      exact x.dom t q hq
  have nz : ∀ b n, z ∉ S.ow b n := fun b n k => by
    have := ((x.mem b n z).mp k).1
    rw [hz] at this
    cases this
  cases e with
  | blank =>
    exact { x with
      off := off
      dom := dom
      mem := fun b n y => by
        show y ∈ S.ow b n ↔ _
        rw [share_e, x.mem]
        by_cases q : y = z
        · rw [if_pos q, q, hz]
          exact ⟨fun k => (by cases k.1), fun k => (by cases k.1)⟩
        · rw [if_neg q]
      det := fun y hy => by cases hy
      tot := tot }
  | «at» b n =>
    obtain ⟨y, hy⟩ := he b n rfl
    have hym : y ∈ S.ow b n := (x.mem b n y).mpr ⟨hy, by simp⟩
    have hl := x.at_lt hym
    have hc := x.cnt b n hl
    have eow : (S.share z (.at b n)).ow = updO S.ow b n (S.ow b n ++ [z]) := by
      show updO S.ow b n (addO (S.ow b n) z) = _
      unfold addO
      rw [if_neg (nz b n)]
    have eown : (S.share z (.at b n)).own = updB S.own b ((S.own b).set n ((S.ow b n).length + 1)) := by
      show updB S.own b ((S.own b).set n (((S.own b)[n]?).getD 0 + 1)) = _
      rw [hc]
      rfl
    have eol : ∀ c, ((S.share z (.at b n)).own c).length = (S.own c).length := fun c => by
      rw [eown]
      unfold updB
      split
      · rename_i h; rw [h, List.length_set]
      · rfl
    refine ⟨(eol false).trans x.l0, (eol true).trans x.l1, x.bnd, x.hnd, x.tsn, off, dom, fun c m u => ?_, fun c m hm => ?_, fun c m hm => ?_, fun c m => ?_, fun u hu => (by cases hu), tot⟩
    · rw [eow, share_e]
      unfold updO
      by_cases q : c = b ∧ m = n
      · obtain ⟨rfl, rfl⟩ := q
        rw [if_pos ⟨rfl, rfl⟩, List.mem_append, List.mem_singleton, x.mem]
        by_cases r : u = z
        · rw [if_pos r]
          exact ⟨fun _ => ⟨rfl, by simp⟩, fun _ => .inr r⟩
        · rw [if_neg r]
          exact ⟨fun k => k.resolve_right r, .inl⟩
      · rw [if_neg q, x.mem]
        by_cases r : u = z
        · rw [if_pos r, r, hz]
          refine ⟨fun k => (by cases k.1), fun k => ?_⟩
          obtain ⟨k, _⟩ := k
          injection k with k
          injection k with k1 k2
          exact absurd ⟨k1.symm, k2.symm⟩ q
        · rw [if_neg r]
    · rw [eol] at hm
      rw [eown, eow]
      unfold updB updO
      by_cases hcb : c = b
      · subst hcb
        rw [if_pos rfl]
        by_cases q : m = n
        · subst q
          rw [if_pos ⟨rfl, rfl⟩, List.getElem?_set_self hm, List.length_append]
          rfl
        · rw [if_neg fun k => q k.2, List.getElem?_set_ne (Ne.symm q)]
          exact x.cnt c m hm
      · rw [if_neg hcb, if_neg fun k => hcb k.1]
        exact x.cnt c m hm
    · rw [eol] at hm
      rw [eow]
      unfold updO
      rw [if_neg fun q => by rw [q.1, q.2] at hm; omega]
      exact x.out c m hm
    · rw [eow]
      unfold updO
      split
      · exact nd_snoc (x.nd b n) (nz b n)
      · exact x.nd c m
/-- a page comes that stands as y does, or is blank -/
theorem Std.share {S : PS} {pk : Int × Int → Int} (x : Std S pk []) {z : Int × Int} {e : Ent} (hz : S.e z = none) {c : Int} (h : (e = .blank ∧ c = 0) ∨ ∃ y, S.e y = some e ∧ c = pk y) : Std (S.share z e) (upk pk z c) [] := by
  have k0 : (some e = some Ent.blank ↔ c = 0) := by
    rcases h with ⟨rfl, rfl⟩ | ⟨y, hy, rfl⟩
    · exact ⟨fun _ => rfl, fun _ => rfl⟩
    · rw [← hy]
      exact x.bl y (by rw [hy]; rfl) (by simp)
  have kk : ∀ u, (S.e u).isSome = true → S.e u ≠ some .blank → e ≠ .blank → (some e = S.e u ↔ c = pk u) := fun u hu nb ne => by
    rcases h with ⟨h1, _⟩ | ⟨y, hy, rfl⟩
    · exact absurd h1 ne
    · rw [← hy]
      exact x.eq y u (by rw [hy]; rfl) hu (by simp) (by simp) (by rw [hy]; intro q; injection q with q; exact ne q) nb
  have old : ∀ u, u ≠ z → (S.share z e).e u = S.e u := fun u q => by rw [share_e, if_neg q]
  have new : (S.share z e).e z = some e := by rw [share_e, if_pos rfl]
  refine ⟨fun u hu _ => ?_, fun u v hu hv _ _ bu bv => ?_⟩
  · unfold upk
    by_cases q : u = z
    · rw [if_pos q, q, new]
      exact k0
    · rw [if_neg q, old u q]
      rw [old u q] at hu
      exact x.bl u hu (by simp)
  · unfold upk
    by_cases q : u = z
    · rw [q, new] at bu
      have ne : e ≠ .blank := fun k => bu (by rw [k])
      rw [if_pos q, q, new]
      by_cases r : v = z
      · rw [if_pos r, r, new]
        exact ⟨fun _ => rfl, fun _ => rfl⟩
      · rw [if_neg r, old v r]
        rw [old v r] at hv bv
        exact kk v hv bv ne
    · rw [if_neg q, old u q]
      rw [old u q] at hu bu
      by_cases r : v = z
      · rw [r, new] at bv
        have ne : e ≠ .blank := fun k => bv (by rw [k])
        rw [if_pos r, r, new]
        have := kk u hu bu ne
        exact ⟨fun k => (this.mp k.symm).symm, fun k => (this.mpr k.symm).symm⟩
      · rw [if_neg r, old v r]
        rw [old v r] at hv bv
        exact x.eq u v hu hv (by simp) (by simp) bu bv
/-! #### drop -/
def PS.unmap (S : PS) (z : Int × Int) : PS := { S with pl := setZ S z none }
theorem unmap_e (S : PS) (z x : Int × Int) : (S.unmap z).e x = if x = z then none else S.e x := setZ_e S z x none
theorem Gx.unmap {S : PS} {D : List (Int × Int)} (x : Gx S (z :: D)) (hd : z ∉ D) : Gx (S.unmap z) D := by
  have sub : ∀ y, ((S.unmap z).e y).isSome = true → (S.e y).isSome = true := fun y hy => by
    rw [unmap_e] at hy
    split at hy
    · cases hy
    · exact hy
  refine { x with
    off := fun t q hq => ?_
    dom := fun t q hq => x.dom t q (sub (t, q) hq)
    mem := fun b n y => ?_
    det := fun y hy => ?_
    tot := ?_ }
  · have := unmap_e S z (t, q)
    have e : (S.unmap z).pl t q = if (t, q) = z then none else S.pl t q := this
    rw [e]
    split
    · rfl
    · exact x.off t q hq
  · rw [unmap_e]
    show y ∈ S.ow b n ↔ _
    rw [x.mem]
    by_cases q : y = z
    · rw [if_pos q]
      exact ⟨fun ⟨_, k⟩ => absurd (by rw [q]; exact List.mem_cons_self) k, fun ⟨k, _⟩ => by cases k⟩
    · rw [if_neg q]
      exact ⟨fun ⟨k, l⟩ => ⟨k, fun m => l (List.mem_cons_of_mem _ m)⟩, fun ⟨k, l⟩ => ⟨k, fun m => (List.mem_cons.mp m).elim q l⟩⟩
  · rw [unmap_e, if_neg fun q => hd (by rw [← q]; exact hy)]
    exact x.det y (List.mem_cons_of_mem _ hy)
  · refine Nat.le_trans (total_le x.tsn fun y hy => ?_) x.tot
    obtain ⟨_, _, h⟩ := all_raw.mp hy
    exact x.allMem.mpr (sub y h)
theorem Std.less {S S' : PS} {pk : Int × Int → Int} {D : List (Int × Int)} (x : Std S pk D) (h : ∀ z, S'.e z = none ∨ S'.e z = S.e z) : Std S' pk D := by
  have e : ∀ z, (S'.e z).isSome = true → S'.e z = S.e z := fun z hz => (h z).resolve_left fun k => by rw [k] at hz; cases hz
  refine ⟨fun z hz hd => ?_, fun z y hz hy dz dy bz b_y => ?_⟩
  · have := e z hz
    rw [this] at hz ⊢
    exact x.bl z hz hd
  · have e1 := e z hz
    have e2 := e y hy
    rw [e1] at hz bz ⊢
    rw [e2] at hy b_y ⊢
    exact x.eq z y hz hy dz dy bz b_y
def PS.drop1 (S : PS) (z : Int × Int) : PS := (S.leave z).unmap z
theorem drop1_e (S : PS) (z x : Int × Int) : (S.drop1 z).e x = if x = z then none else S.e x := by
  unfold PS.drop1
  rw [unmap_e]
  show (if x = z then none else (S.leave z).pl x.1 x.2) = _
  rw [leave_pl]
theorem drop1_ts (S : PS) (z : Int × Int) : (S.drop1 z).ts = S.ts ∧ (S.drop1 z).fr = S.fr ∧ (S.drop1 z).sl = S.sl := ⟨leave_ts S z, (leave_fr S z).1, (leave_fr S z).2.1⟩
theorem Gx.drop1 {S : PS} (x : Gx S []) {z : Int × Int} {e : Ent} (he : S.e z = some e) : Gx (S.drop1 z) [] := (x.leave he (by simp)).unmap (by simp)
def PS.drops (S : PS) (l : List (Int × Int)) : PS := l.foldl PS.drop1 S
theorem drops_snoc (l : List (Int × Int)) (z : Int × Int) (S : PS) : S.drops (l ++ [z]) = (S.drops l).drop1 z := by unfold PS.drops; rw [List.foldl_append]; rfl
theorem drops_e : ∀ (l : List (Int × Int)) (S : PS) (x : Int × Int), (S.drops l).e x = if x ∈ l then none else S.e x
  | [], S, x => by rw [if_neg (by simp)]; rfl
  | z :: l, S, x => by
    show ((S.drop1 z).drops l).e x = _
    rw [drops_e l, drop1_e]
    by_cases h : x ∈ l
    · rw [if_pos h, if_pos (List.mem_cons_of_mem _ h)]
    · rw [if_neg h]
      by_cases q : x = z
      · rw [if_pos q, if_pos (by rw [q]; exact List.mem_cons_self)]
      · rw [if_neg q, if_neg fun k => (List.mem_cons.mp k).elim q h]
theorem drops_ts : ∀ (l : List (Int × Int)) (S : PS), (S.drops l).ts = S.ts ∧ (S.drops l).fr = S.fr ∧ (S.drops l).sl = S.sl
  | [], S => ⟨rfl, rfl, rfl⟩
  | z :: l, S => by
    obtain ⟨a, b, c⟩ := drops_ts l (S.drop1 z)
    obtain ⟨d, e, f⟩ := drop1_ts S z
    exact ⟨a.trans d, b.trans e, c.trans f⟩
theorem Gx.drops : ∀ {l : List (Int × Int)} {S : PS}, Gx S [] → l.Nodup → (∀ z, z ∈ l → (S.e z).isSome = true) → Gx (S.drops l) []
  | [], S, x, _, _ => x
  | z :: l, S, x, nd, h => by
    obtain ⟨n1, n2⟩ := List.nodup_cons.mp nd
    cases he : S.e z with
    | none => have := h z List.mem_cons_self; rw [he] at this; cases this
    | some e =>
      refine Gx.drops (l := l) (S := S.drop1 z) (x.drop1 he) n2 fun y hy => ?_
      rw [drop1_e, if_neg fun q => n1 (by rw [← q]; exact hy)]
      exact h y (List.mem_cons_of_mem _ hy)
/-! #### close -/
def PS.leaves (S : PS) (l : List (Int × Int)) : PS := l.foldl PS.leave S
theorem leaves_snoc (l : List (Int × Int)) (z : Int × Int) (S : PS) : S.leaves (l ++ [z]) = (S.leaves l).leave z := by unfold PS.leaves; rw [List.foldl_append]; rfl
theorem leaves_pl : ∀ (l : List (Int × Int)) (S : PS), (S.leaves l).pl = S.pl
  | [], _ => rfl
  | z :: l, S => (leaves_pl l (S.leave z)).trans (leave_pl S z)
theorem leaves_ts : ∀ (l : List (Int × Int)) (S : PS), (S.leaves l).ts = S.ts ∧ (S.leaves l).fr = S.fr ∧ (S.leaves l).sl = S.sl
  | [], S => ⟨rfl, rfl, rfl⟩
  | z :: l, S => by
    obtain ⟨a, b, c⟩ := leaves_ts l (S.leave z)
    obtain ⟨e, f, _⟩ := leave_fr S z
    exact ⟨a.trans (leave_ts S z), b.trans e, c.trans f⟩
theorem Gx.leaves : ∀ {l : List (Int × Int)} {S : PS} {D : List (Int × Int)}, Gx S D → l.Nodup → (∀ z, z ∈ l → z ∉ D) → (∀ z, z ∈ l → (S.e z).isSome = true) → Gx (S.leaves l) (l ++ D)
  | [], S, D, x, _, _, _ => x
  | z :: l, S, D, x, nd, hd, h => by
    obtain ⟨n1, n2⟩ := List.nodup_cons.mp nd
    cases he : S.e z with
    | none => have := h z List.mem_cons_self; rw [he] at this; cases this
    | some e =>
      have G := Gx.leaves (l := l) (S := S.leave z) (D := z :: D) (x.leave he (hd z List.mem_cons_self)) n2 (fun y hy q => (List.mem_cons.mp q).elim (fun e => n1 (by rw [← e]; exact hy)) (hd y (List.mem_cons_of_mem _ hy))) fun y hy => by
        show ((S.leave z).pl y.1 y.2).isSome = true
        rw [leave_pl]
        exact h y (List.mem_cons_of_mem _ hy)
      refine G.perm fun y => ?_
      rw [List.mem_append, List.mem_cons, List.cons_append, List.mem_cons, List.mem_append]
      constructor
      · rintro (a | b | c)
        · exact .inr (.inl a)
        · exact .inl b
        · exact .inr (.inr c)
      · rintro (a | b | c)
        · exact .inr (.inl a)
        · exact .inl b
        · exact .inr (.inr c)
def PS.gone (S : PS) (t : Int) : PS := { S with ts := S.ts.filter (fun u => decide (u ≠ t)), pl := setP S.pl t fun _ => none }
theorem gone_e (S : PS) (t : Int) (x : Int × Int) : (S.gone t).e x = if x.1 = t then none else S.e x := by
  show setP S.pl t (fun _ => none) x.1 x.2 = _
  unfold setP
  split <;> rfl
theorem Gx.gone {S : PS} {D : List (Int × Int)} {t : Int} (x : Gx S D) (h : ∀ z, (S.e z).isSome = true → (z.1 = t ↔ z ∈ D)) : Gx (S.gone t) [] := by
  have nd : (S.gone t).ts.Nodup := List.Nodup.sublist List.filter_sublist x.tsn
  have sub : ∀ y, ((S.gone t).e y).isSome = true → (S.e y).isSome = true ∧ y.1 ≠ t := fun y hy => by
    rw [gone_e] at hy
    split at hy
    · cases hy
    · rename_i q
      exact ⟨hy, q⟩
  refine { x with
    tsn := nd
    off := fun u q hu => ?_
    dom := fun u q hq => x.dom u q (sub (u, q) hq).1
    mem := fun b n y => ?_
    det := fun y hy => by cases hy
    tot := ?_ }
  · have e : (S.gone t).pl u q = if u = t then none else S.pl u q := gone_e S t (u, q)
    rw [e]
    split
    · rfl
    · rename_i ne
      refine x.off u q fun k => hu ?_
      exact List.mem_filter.mpr ⟨k, by simpa using ne⟩
  · rw [gone_e]
    show y ∈ S.ow b n ↔ _
    rw [x.mem]
    by_cases q : y.1 = t
    · rw [if_pos q]
      refine ⟨fun ⟨k, l⟩ => absurd ((h y (by rw [k]; rfl)).mp q) l, fun ⟨k, _⟩ => by cases k⟩
    · rw [if_neg q]
      exact ⟨fun ⟨k, _⟩ => ⟨k, by simp⟩, fun ⟨k, _⟩ => ⟨k, fun m => q ((h y (by rw [k]; rfl)).mpr m)⟩⟩
  · refine Nat.le_trans (total_le nd fun y hy => ?_) x.tot
    obtain ⟨_, _, k⟩ := all_raw.mp hy
    exact x.allMem.mpr (sub y k).1
/-- behind a deed that leaves a frame free no page has gone from a frame to a slot -/
def FrD (S S' : PS) : Prop := frst (S'.own false) ≠ none → ∀ z n m, S.e z = some (.at false n) → S'.e z ≠ some (.at true m)
theorem FrSt.d {S S' : PS} (h : FrSt S S') : FrD S S' := fun hf z n m e k => by
  obtain ⟨j, hj⟩ := (h hf).2 z n e
  rw [hj] at k
  cases k
theorem FrD.stay {S S' : PS} (h : ∀ z, (S.e z).isSome = true → S'.e z = none ∨ S'.e z = S.e z) : FrD S S' := fun _ z n m e k => by
  rcases h z (by rw [e]; rfl) with q | q
  · rw [q] at k; cases k
  · rw [q, e] at k; cases k

-- part K9M
/-! ### Rooms -/
section
variable {P : Program} {w : World} {K : PySem.W.Frag} {mg : Str → Option Value} {base : Heap}
theorem Ta_ne {t : Int} {r0 : Role} (h0 : isTa t r0 = false) : ∀ r, isTa t r = true → (r == r0) = false := fun r h => beq_false_of_ne fun e => by rw [e, h0] at h; cases h
theorem filter_keys (kt : List (Int × V)) (t : Int) : (dropK kt t).map (·.1) = (kt.map (·.1)).filter fun u => decide (u ≠ t) := by
  unfold dropK
  rw [List.filter_map]
  rfl
section
variable {g : Col} {H : Hp} {p : Addr} {S : PS} {kt : List (Int × V)} {y : Ly}
theorem PagL.addTab (x : PagL K g H p S kt y) (L : Live g H) {t : Int} {a : Addr} (ht : t ∉ S.ts) (hl : S.ts.length < 1000) (hp : ∀ q, S.pl t q = none) (TA : TableAt K g H t a fun _ => none) :
    DPut H y.td (.int t) (.ref a) (upd H y.td (.dK (liK (putK kt t (.ref a))))) ∧ Grow isRm g H g (upd H y.td (.dK (liK (putK kt t (.ref a))))) ∧ PagL K g (upd H y.td (.dK (liK (putK kt t (.ref a))))) p (S.begin t) (putK kt t (.ref a)) y := by
  have G : Grow (fun r => r == .tdi) g H g (upd H y.td (.dK (liK (putK kt t (.ref a))))) := Grow.write L x.tdi.h (by intro xs z; cases z) x.tdi.c (by simp)
  have hn : valV kt t = none := by
    cases e : valV kt t with
    | none => rfl
    | some v => exact absurd (valV_in e) (by rw [x.tks]; exact ht)
  have hlen : (liK kt).length < sizeLine := by
    rw [liK_len]
    have := congrArg List.length x.tks
    rw [List.length_map] at this
    rw [this]
    exact Nat.lt_of_lt_of_le hl (line60 (Nat.le_refl _))
  refine ⟨?_, G.mono fun r h => by have := eq_of_beq h; subst this; rfl, { x with
    pob := x.pob.keep G rfl
    sdi := x.sdi.keep G rfl
    sto := fun c => (x.sto c).keep G (St_ne rfl)
    tdi := x.tdi.self
    tks := by rw [keys_put_new _ hn, x.tks]; rfl
    tnd := nd_snoc x.tnd ht
    tln := by show (S.ts ++ [t]).length ≤ 1000; rw [List.length_append]; exact hl
    tab := fun u v e => ?_
    odi := x.odi.keep G rfl
    inn := fun c m v e => let ⟨a, h1, h2⟩ := x.inn c m v e; ⟨a, h1, h2.keep G rfl⟩ }⟩
  · rw [← liK_put]
    exact DPut.k (k := Sum.inl t) x.tdi.h hlen
  · rw [valV_put] at e
    by_cases z : u = t
    · subst z
      rw [if_pos rfl] at e
      cases e
      refine ⟨a, _, rfl, TA.keep G (Ta_ne rfl), ⟨fun q en (h : S.pl u q = some en) => ?_, fun _ _ => rfl⟩⟩
      rw [hp q] at h
      cases h
    · rw [if_neg z] at e
      obtain ⟨b, m, h1, h2, h3⟩ := x.tab u v e
      exact ⟨b, m, h1, h2.keep G (Ta_ne rfl), h3.keep G.tup⟩
theorem PagL.popTab (x : PagL K g H p S kt y) (L : Live g H) (t : Int) :
    Grow isRm g H g (upd H y.td (.dK (liK (dropK kt t)))) ∧ PagL K g (upd H y.td (.dK (liK (dropK kt t)))) p (S.gone t) (dropK kt t) y := by
  have G : Grow (fun r => r == .tdi) g H g (upd H y.td (.dK (liK (dropK kt t)))) := Grow.write L x.tdi.h (by intro xs z; cases z) x.tdi.c (by simp)
  refine ⟨G.mono fun r h => by have := eq_of_beq h; subst this; rfl, { x with
    pob := x.pob.keep G rfl
    sdi := x.sdi.keep G rfl
    sto := fun c => (x.sto c).keep G (St_ne rfl)
    tdi := x.tdi.self
    tks := by rw [filter_keys, x.tks]; rfl
    tnd := List.Nodup.sublist List.filter_sublist x.tnd
    tln := Nat.le_trans (List.length_filter_le _ _) x.tln
    tab := fun u v e => ?_
    odi := x.odi.keep G rfl
    inn := fun c m v e => let ⟨a, h1, h2⟩ := x.inn c m v e; ⟨a, h1, h2.keep G rfl⟩ }⟩
  rw [valV_drop] at e
  by_cases z : u = t
  · rw [if_pos z] at e; cases e
  · rw [if_neg z] at e
    obtain ⟨b, m, h1, h2, h3⟩ := x.tab u v e
    refine ⟨b, m, h1, h2.keep G (Ta_ne rfl), ?_⟩
    have e2 : (S.gone t).pl u = S.pl u := by
      show setP S.pl t (fun _ => none) u = _
      unfold setP
      rw [if_neg z]
    rw [e2]
    exact h3.keep G.tup
end
abbrev cRo (K : PySem.W.Frag) : Addr := He.ga K "Rooms"
def roF (p : Addr) : List (Str × V) := [("paging", .ref p)]
theorem roF_paging (p : Addr) : (roF p).lookup ("paging" : Str) = some (.ref p) := by kernel_rfl
/-- the rooms at r hold S -/
structure RoL (K : PySem.W.Frag) (g : Col) (H : Hp) (r : Addr) (S : PS) (dx p : Addr) (kt : List (Int × V)) (y : Ly) : Prop where
  rob : Pt g .rob H r (.ins (cRo K) dx (roF p))
  pag : PagL K g H p S kt y
  gx : Gx S []
def RoA (K : PySem.W.Frag) (g : Col) (H : Hp) (r : Addr) (S : PS) : Prop := ∃ dx p kt y, RoL K g H r S dx p kt y
theorem RoL.same {g : Col} {H H1 : Hp} {r : Addr} {S : PS} {dx p : Addr} {kt : List (Int × V)} {y : Ly} (x : RoL K g H r S dx p kt y) (l : Live g H) (e : Same H H1) : RoL K g H1 r S dx p kt y :=
  ⟨⟨x.rob.c, e _ _ x.rob.h⟩, x.pag.same l e, x.gx⟩
theorem RoA.same {g : Col} {H H1 : Hp} {r : Addr} {S : PS} (x : RoA K g H r S) (l : Live g H) (e : Same H H1) : RoA K g H1 r S := let ⟨dx, p, kt, y, h⟩ := x; ⟨dx, p, kt, y, h.same l e⟩
section
variable {X : Cx} {k : Nat} {f C : Addr} {ps : List Str} {sp : Sp} {E : XK} {x m : Str} {p pos apos p2 pos2 : Pos} {j : Nat} {e o : Expr} {es : List Expr} {ta : TE} {t : TA}
/-- raise X('..') -/
theorem ps_rz (hc : X.calm = true) (tk : L2N.Takes X fun cls d _ H => E cls d H) (e : PySem.W.excIn X.K C He.veBase "ValueError.__new__" = true ∧ PySem.W.keepIn X.K (.ref C) = true ∧ PySem.W.subIn X.K (.ref C) (.type "BaseException") = some true ∧ PySem.W.typeIn X.K (.ref C) = some (.type "type"))
    (g : X.mg x = some (.ref C)) (hg : Gl X x) (hdb : (x == ("__debug__" : Str)) = false := by decide) : L2.PS X (.Raise (some (.Call (.Name x p) [.Constant (.str m) j p2] [] pos)) none pos2) (fun _ _ H => E (.ref C) none H) :=
  L2N.ps_raise hc tk (L2N.pmk_own PySem.F.excBase_ValueError e.1 g e.2.1 (raises_own e.2.2.1 e.2.2.2) hg hdb)
/-- a call of a def that may let something out -/
theorem pe_cx (tk : L2N.Takes X fun cls d _ H => E cls d H) (F : Okp X.prog X.w X.K X.mg X.base k f ps sp) (hm : X.mg x = some (.ref f)) (hr : Room k X.A) (ha : PA X (e :: es) t) (hg : Gl X x := by rfl) (hdb : (x == ("__debug__" : Str)) = false := by decide)
    (he : starEach (e :: es) X.env = (false, eval e X.env) :: starEach es X.env := by rfl) (hpl : (backTo pos (starEach es X.env)).any (·.1) = false := by rfl) : PE X (.Call (.Name x p) (e :: es) [] pos) (tCall sp [] E t) := by
  obtain ⟨fd, G, b, kp⟩ := F.ex
  exact pe_call G hr hg hm kp b .nil (L2N.passes_call tk fun _ _ _ _ h => h) ha hdb he hpl
theorem pe_mx {pl : Sem Bool} (tk : L2N.Takes X fun cls d _ H => E cls d H) (he : PE X o ta) (c : Cls X.K C) (hm : Meth X.K C m f) (F : Okp X.prog X.w X.K X.mg X.base k f ps sp) (hr : Room k X.A) (ha : PA X (e :: es) t)
    (hst : starEach (e :: es) X.env = (false, eval e X.env) :: starEach es X.env := by rfl) (hpl : (backTo pos (starEach es X.env)).any (·.1) = false := by rfl)
    (ht : eval (.Call (.Attribute o m apos) (e :: es) [] pos) X.env = (do
      let ov ← eval o X.env
      standAt apos.atName
      let (f, first) ← holding [ov] (getMethod ov m pl)
      callWith pos f first (backTo pos (starEach (e :: es) X.env)) (backToKw pos (keywordEach [] X.env))) := by rfl) : PE X (.Call (.Attribute o m apos) (e :: es) [] pos) (tMeth C m sp [] E ta t) := by
  obtain ⟨fd, G, b, kp⟩ := F.ex
  exact pe_meth he c hm G hr b .nil (L2N.passes_call tk fun _ _ _ _ h => h) ha hst hpl ht
end
def isRo : Role → Bool
  | .lpd => false
  | .lpi _ => false
  | _ => true
theorem isRm_Ro : ∀ r, isRm r = true → isRo r = true := fun r h => by cases r <;> first | rfl | cases h
theorem gx_new {fr sl : Nat} (h2 : 2 ≤ fr) (h60 : fr ≤ 60) (hs : sl ≤ 60) : Gx (PS.new fr sl) [] where
  l0 := List.length_replicate
  l1 := List.length_replicate
  bnd := ⟨h60, hs, h2⟩
  hnd := by show 0 < fr; omega
  tsn := List.nodup_nil
  off := fun _ _ _ => rfl
  dom := fun t q h => by cases h
  mem := fun b n z => ⟨fun h => (by cases h), fun h => by cases h.1⟩
  cnt := fun b n h => by
    cases b with
    | false =>
      have h : n < (List.replicate fr 0).length := h
      show (List.replicate fr 0)[n]? = some 0
      rw [List.length_replicate] at h
      rw [List.getElem?_replicate, if_pos h]
    | true =>
      have h : n < (List.replicate sl 0).length := h
      show (List.replicate sl 0)[n]? = some 0
      rw [List.length_replicate] at h
      rw [List.getElem?_replicate, if_pos h]
  out := fun _ _ _ => rfl
  nd := fun _ _ => List.nodup_nil
  det := fun z h => by cases h
  tot := Nat.zero_le _
def spRoInit (K : PySem.W.Frag) : Sp := Sp3 fun x v u H Q _ => ∃ (g : Col) (r dx : Addr) (fr sl : Nat), x = .ref r ∧ v = .int (fr : Int) ∧ u = .int (sl : Int) ∧ 2 ≤ fr ∧ fr ≤ 60 ∧ sl ≤ 60 ∧ Live g H ∧ Pt g .rob H r (.ins (cRo K) dx []) ∧
  Out isRo g H (fun g' H' => RoA K g' H' r (PS.new fr sl)) (Q .non)
theorem ok_RoInit (T : Tx K mg) : Okp P w K mg base 5 (He.fAd K ("Rooms", some "__init__")) ["self", "frames", "slots"] (spRoInit K) := by
  refine okn len3 T.f_Rooms_init sc_Rooms_init fun cdv A outer s0 H vs Q E hr h => ?_
  obtain ⟨_, _, _, rfl, g, r, dx, fr, sl, rfl, rfl, rfl, h2, h60, hs60, L, hr0, k⟩ := h
  refine ⟨_, pss_one (ps_fld (pv 0) (pe_mk T.k_Paging (ok_PaInit T) T.g_Paging hr (pa_cons (pv 1) (pa_cons (pv 2) pa_nil))) rfl), ?_⟩
  refine ⟨_, rfl, _, rfl, fun x xd hx hxd ne => ?_⟩
  have Ga : Grow isRm g H g (upd H xd (.own x)) := Grow.temp L hxd
  have La := Ga.live L
  have hx' : upd H xd (.own x) x = none := by rw [upd_ne ne.symm]; exact hx
  have Gb : Grow isRm g (upd H xd (.own x)) (updC g x .pob) (upd (upd H xd (.own x)) x (.ins (cPa K) xd [])) := Grow.made La hx' rfl
  have Lb := Gb.live La
  refine ⟨_, _, _, rfl, _, x, xd, fr, sl, rfl, rfl, rfl, h2, h60, hs60, Lb, Pt.mk', fun g1 H1 G1 ⟨y, X1⟩ => ⟨rfl, ?_⟩⟩
  have GA := (Ga.trans Gb).trans G1
  have L1 := G1.live Lb
  have hr1 := hr0.keep GA rfl
  refine ⟨_, rfl, r, cRo K, dx, [], rfl, hr1.h, T.c_Rooms, T.a_Rooms_paging, (by decide), ?_⟩
  have Gc : Grow (fun q => q == .rob) g1 H1 g1 (upd H1 r (.ins (cRo K) dx (roF x))) := Grow.write L1 hr1.h (by intro xs z; cases z) hr1.c (by simp)
  exact k g1 _ ((GA.mono isRm_Ro).trans (Gc.mono fun r h => by have := eq_of_beq h; subst this; rfl)) ⟨dx, x, [], y, hr1.self, X1.keep Gc (fun q hq => by cases q <;> first | rfl | cases hq), gx_new h2 h60 hs60⟩
/-- the rooms behind a deed, where Paging has grown -/
theorem RoL.grow {g g1 : Col} {H H1 : Hp} {r : Addr} {S S1 : PS} {dx p : Addr} {kt kt1 : List (Int × V)} {y y1 : Ly} (x : RoL K g H r S dx p kt y) (G : Grow isRm g H g1 H1) (h : PagL K g1 H1 p S1 kt1 y1) (gx : Gx S1 []) : RoA K g1 H1 r S1 :=
  ⟨dx, p, kt1, y1, x.rob.keep G rfl, h, gx⟩
/-- what a raising deed says -/
abbrev xC (K : PySem.W.Frag) (n : Str) : Value := .ref (He.ga K n)
def spBegin (K : PySem.W.Frag) : Sp := Sp2 fun x v H Q E => ∃ (g : Col) (r : Addr) (S : PS) (t : Int), x = .ref r ∧ v = .int t ∧ Live g H ∧ RoA K g H r S ∧ S.ts.length < 1000 ∧
  (t ∈ S.ts → E (xC K "Taken") none H) ∧ (t ∉ S.ts → Out isRm g H (fun g' H' => RoA K g' H' r (S.begin t)) (Q .non))
theorem ok_Begin (T : Tx K mg) : Okp P w K mg base 3 (He.fAd K ("Rooms", some "begin")) ["self", "task"] (spBegin K) := by
  refine okx len2 T.f_Rooms_begin sc_Rooms_begin fun cdv A outer s0 H vs Q E hr h => ?_
  obtain ⟨_, _, rfl, g, r, S, t, rfl, rfl, L, ⟨dx, p, kt, y, X⟩, hl, kx, k⟩ := h
  have hu := hu_of hr
  refine ⟨_, pss_cons (ps_if (pt_cmp (pc_din hu (pv 1) (pe_fld (pe_fld (pv 0) rfl) rfl)) (by rfl)) (pss_one (ps_rz rfl (L2N.takes_of rfl rfl rfl rfl) T.e_Taken T.g_Taken rfl)) pss_nil)
    (pss_one (ps_dput hu (pe_fld (pe_fld (pv 0) rfl) rfl) (pv 1) (PE.nox (pe_mk0 T.k_Table (ok_TaInit T) T.g_Table hr)) rfl)), ?_⟩
  refine ⟨_, rfl, _, rfl, r, cRo K, dx, _, _, rfl, X.rob.h, T.c_Rooms, T.a_Rooms_paging, roF_paging p, p, cPa K, y.dx, _, _, rfl, X.pag.pob.h, T.c_Paging, T.a_Paging_tables, paF_tables _ _ _ _ _ _, y.td, _, rfl, DGet.k (k := Sum.inl t) X.pag.tdi.h, _, rfl, ?_⟩
  rw [liK_val]
  by_cases ht : t ∈ S.ts
  · obtain ⟨v, ev⟩ := valV_some (kvs := kt) (k := t) (by rw [X.pag.tks]; exact ht)
    rw [ev]
    exact iteT (kx ht)
  · have hn : valV kt t = none := by
      cases e : valV kt t with
      | none => rfl
      | some v => exact absurd (valV_in e) (by rw [X.pag.tks]; exact ht)
    rw [hn]
    refine iteF ?_
    intro x xd hx hxd ne
    have Ga : Grow (fun _ => false) g H g (upd H xd (.own x)) := Grow.temp L hxd
    have La := Ga.live L
    have hx' : upd H xd (.own x) x = none := by rw [upd_ne ne.symm]; exact hx
    have Gb : Grow (isTa t) g (upd H xd (.own x)) (updC g x (.tob t)) (upd (upd H xd (.own x)) x (.ins (cTa K) xd [])) := Grow.made La hx' (by simp [isTa])
    have Lb := Gb.live La
    refine ⟨_, rfl, _, t, x, xd, rfl, Lb, Pt.mk', fun g1 H1 G1 TA => ⟨rfl, ?_⟩⟩
    have GA : Grow (isTa t) g H g1 H1 := ((Ga.mono (by intro r h; cases h)).trans Gb).trans G1
    have L1 := GA.live L
    have GA' := GA.mono isTa_rm
    have hob := X.rob.keep GA rfl
    have X1 : PagL K g1 H1 p S kt y := { X.pag with
      pob := X.pag.pob.keep GA rfl
      sdi := X.pag.sdi.keep GA rfl
      sto := fun c => (X.pag.sto c).keep GA fun r h => by cases r <;> simp_all [isSt, isTa]
      tdi := X.pag.tdi.keep GA rfl
      tab := fun u v e => by
        have ne : u ≠ t := fun q => by rw [q, hn] at e; cases e
        obtain ⟨b, m, h1, h2, h3⟩ := X.pag.tab u v e
        exact ⟨b, m, h1, h2.keep GA fun r h => by cases r <;> simp_all [isTa], h3.keep GA.tup⟩
      odi := X.pag.odi.keep GA rfl
      inn := fun b k v e => let ⟨a, h1, h2⟩ := X.pag.inn b k v e; ⟨a, h1, h2.keep GA rfl⟩ }
    obtain ⟨dp, G2, X2⟩ := X1.addTab L1 ht hl (fun q => X.gx.off t q ht) TA
    refine ⟨_, rfl, r, cRo K, dx, _, _, rfl, hob.h, T.c_Rooms, T.a_Rooms_paging, roF_paging p, p, cPa K, y.dx, _, _, rfl, X1.pob.h, T.c_Paging, T.a_Paging_tables, paF_tables _ _ _ _ _ _, ?_⟩
    exact ⟨_, rfl, y.td, _, rfl, dp, k ht _ _ (GA'.trans G2) (X.grow (GA'.trans G2) X2 (X.gx.begin ht))⟩
def spTableOf (K : PySem.W.Frag) : Sp := Sp2 fun x v H Q E => ∃ (g : Col) (r : Addr) (S : PS) (t : Int) (dx p : Addr) (kt : List (Int × V)) (y : Ly), x = .ref r ∧ v = .int t ∧ RoL K g H r S dx p kt y ∧
  (t ∉ S.ts → E (xC K "NoTask") none H) ∧ (t ∈ S.ts → ∀ a m, valV kt t = some (.ref a) → TableAt K g H t a m → RelM K H (S.pl t) m → Q (.ref a) H)
theorem ok_TableOf (T : Tx K mg) : Okp P w K mg base 1 (He.fAd K ("Rooms", some "table_of")) ["self", "task"] (spTableOf K) := by
  refine okx len2 T.f_Rooms_table_of sc_Rooms_table_of fun cdv A outer s0 H vs Q E hr h => ?_
  obtain ⟨_, _, rfl, g, r, S, t, dx, p, kt, y, rfl, rfl, X, kx, k⟩ := h
  have hu := hu_of hr
  refine ⟨_, pss_cons (ps_if (pt_cmp (pc_dnotin hu (pv 1) (pe_fld (pe_fld (pv 0) rfl) rfl)) (by rfl)) (pss_one (ps_rz rfl (L2N.takes_of rfl rfl rfl rfl) T.e_NoTask T.g_NoTask rfl)) pss_nil)
    (pss_one (ps_ret (pe_dget hu (pe_fld (pe_fld (pv 0) rfl) rfl) (pv 1) (fun _ _ => rfl)))), ?_⟩
  refine ⟨_, rfl, _, rfl, r, cRo K, dx, _, _, rfl, X.rob.h, T.c_Rooms, T.a_Rooms_paging, roF_paging p, p, cPa K, y.dx, _, _, rfl, X.pag.pob.h, T.c_Paging, T.a_Paging_tables, paF_tables _ _ _ _ _ _, y.td, _, rfl, DGet.k (k := Sum.inl t) X.pag.tdi.h, _, rfl, ?_⟩
  rw [liK_val]
  by_cases ht : t ∈ S.ts
  · obtain ⟨a, m, ev, dg, TA, RM⟩ := X.pag.tabOf ht
    rw [ev]
    refine iteF ?_
    exact ⟨_, rfl, r, cRo K, dx, _, _, rfl, X.rob.h, T.c_Rooms, T.a_Rooms_paging, roF_paging p, p, cPa K, y.dx, _, _, rfl, X.pag.pob.h, T.c_Paging, T.a_Paging_tables, paF_tables _ _ _ _ _ _, _, rfl, y.td, _, rfl, dg, k ht a m ev TA RM⟩
  · have hn : valV kt t = none := by
      cases e : valV kt t with
      | none => rfl
      | some v => exact absurd (valV_in e) (by rw [X.pag.tks]; exact ht)
    rw [hn]
    exact iteT (kx ht)
/-- self.paging, and what stands there -/
theorem RoL.tab {g : Col} {H : Hp} {r : Addr} {S : PS} {dx p : Addr} {kt : List (Int × V)} {y : Ly} (x : RoL K g H r S dx p kt y) {t : Int} {a : Addr} (ev : valV kt t = some (.ref a)) : ∃ m, TableAt K g H t a m ∧ RelM K H (S.pl t) m := by
  obtain ⟨b, m, e, h1, h2⟩ := x.pag.tab t _ ev
  cases e
  exact ⟨m, h1, h2⟩
theorem RelM.pgs {H : Hp} {e : Int → Option Ent} {m : Int → Option V} (x : RelM K H e m) : pgs m = pgsE e := by
  unfold K9.pgs pgsE
  congr 1
  funext p
  cases h : e p with
  | none => rw [x.no p h]; rfl
  | some z => obtain ⟨v, h1, _⟩ := x.is p z h; rw [h1]; rfl
/-- the pages of all rooms -/
theorem held_sum (S : PS) : (S.ts.map fun t => ((pgsE (S.pl t)).length : Int)).sum = (S.total : Int) := by
  unfold PS.total
  generalize S.ts = l
  induction l with
  | nil => rfl
  | cons a r ih =>
    rw [List.map_cons, List.sum_cons, ih, List.map_cons, List.sum_cons]
    omega
def rLen2 (K : PySem.W.Frag) : List V → Hp → VK → Prop := fun xs H Q => ∃ p ys, xs = [.ref p] ∧ (SqL K H p ys ∨ SqT K H p ys) ∧ Q (.int ys.length) H
def spHeld (K : PySem.W.Frag) : Sp := Sp1 fun x H Q _ => ∃ (g : Col) (r : Addr) (S : PS), x = .ref r ∧ Live g H ∧ RoA K g H r S ∧ ∀ H', Same H H' → Q (.int (S.total : Int)) H'
theorem at_kt {kt : List (Int × V)} {ts : List Int} (h : kt.map (·.1) = ts) {i : Nat} {k : Key} {v : V} (e : (liK kt)[i]? = some (k, v)) : ∃ t, ts[i]? = some t ∧ kt[i]? = some (t, v) ∧ k = Sum.inl t := by
  unfold liK at e
  rw [List.getElem?_map] at e
  cases q : kt[i]? with
  | none => rw [q] at e; cases e
  | some z =>
    rw [q] at e
    cases e
    refine ⟨z.1, ?_, rfl, rfl⟩
    rw [← h, List.getElem?_map, q]
    rfl
theorem ok_Held (T : Tx K mg) : Okp P w K mg base 2 (He.fAd K ("Rooms", some "held")) ["self"] (spHeld K) := by
  refine okn len1 T.f_Rooms_held sc_Rooms_held fun cdv A outer s0 H vs Q E hr h => ?_
  obtain ⟨_, rfl, g, r, S, rfl, L, ⟨dx, p, kt, y, X⟩, k⟩ := h
  have hu := hu_of hr
  have nd := sc_Rooms_held.nd
  refine ⟨_, pss_one (ps_ret (pe_callB (cr_sum rfl) (by rfl) T.n_sum (by decide +kernel) (pa_cons (pe_lock (pe_lc (own := [("table", 1)]) (g := gName 1) (tt := tYes) (te := tCB (rLen2 K) (tCons (tMeth (cTa K) "pages" (spTaPages K) [] E0 (tVar 1) tNil) tNil)) rfl nd (pi_values (pe_fld (pe_fld (pv 0) rfl) rfl)) (blkOk_by (N := ["self", "table"]) (sc := defScope st_Rooms_held) (by decide +kernel))
      (fun _ _ _ _ _ => pg_name (i := 1) nd rfl (Or.inl rfl)) (fun _ _ _ _ _ => pts_nil) (fun _ _ _ _ _ => by
        refine pe_callB call_len_seq (by rfl) T.n_len PySem.boot_len (pa_cons ?_ pa_nil)
        exact pe_m0 (pv 1) T.c_Table T.m_Table_pages (ok_TaPages T) hr))) pa_nil))), ?_⟩
  have Gl : ∀ od, Grow (fun r => r == .tdi) g H g (upd H y.td (.frz od (.dK (liK kt)))) := fun od => Grow.write L X.pag.tdi.h (by intro xs z; cases z) X.pag.tdi.c (by simp)
  refine ⟨y.td, _, X.pag.tdi.h, trivial, fun od => ?_⟩
  have G := Gl od
  have LL := G.live L
  have hr1 := X.rob.keep G rfl
  have hp1 := X.pag.pob.keep G rfl
  have ht1 : upd H y.td (.frz od (.dK (liK kt))) y.td = some (.frz od (.dK (liK kt))) := upd_same
  have back : ∀ H', Same (upd H y.td (.frz od (.dK (liK kt)))) H' → Same H (upd H' y.td (.dK (liK kt))) := fun H' s a o e => by
    by_cases q : a = y.td
    · rw [q, upd_same, ← X.pag.tdi.h, ← q, e]
    · rw [upd_ne q]
      exact s a o (by rw [upd_ne q]; exact e)
  have tabs : ∀ i k v, (liK kt)[i]? = some (k, v) → ∃ t a m, S.ts[i]? = some t ∧ v = V.ref a ∧ TableAt K g (upd H y.td (.frz od (.dK (liK kt)))) t a m ∧ RelM K H (S.pl t) m := fun i k v e => by
    obtain ⟨t, h1, h2, _⟩ := at_kt X.pag.tks e
    have nd1 : (kt.map (·.1)).Nodup := by rw [X.pag.tks]; exact X.pag.tnd
    have ev := valV_of_mem nd1 (List.mem_of_getElem? h2)
    obtain ⟨a, m, e1, h3, h4⟩ := X.pag.tab t v ev
    exact ⟨t, a, m, h1, e1, h3.keep G (Ta_ne rfl), h4⟩
  generalize upd H y.td (.frz od (.dK (liK kt))) = HL at *
  have hlk : (liK kt).length = S.ts.length := by
    rw [liK_len]
    have := congrArg List.length X.pag.tks
    rw [List.length_map] at this
    exact this
  refine ⟨_, rfl, r, cRo K, dx, _, _, rfl, hr1.h, T.c_Rooms, T.a_Rooms_paging, roF_paging p, p, cPa K, y.dx, _, _, rfl, hp1.h, T.c_Paging, T.a_Paging_tables, paF_tables _ _ _ _ _ _, y.td, od, liK kt, rfl, ht1, fun D hD => lc_it walk_values
    (fun i H2 => Same HL H2 ∧ H2 D = some (.lst (((S.ts.take i).map fun t => ((pgsE (S.pl t)).length : Int)).map V.int))) ?_ ?_ ?_ ?_⟩
  · exact ⟨same_new (Same.refl HL) hD, by rw [upd_same]; rfl⟩
  · rintro i H2 hi ⟨s2, _⟩
    exact s2 _ _ ht1
  · rintro i x H2 H3 hi ⟨s2, hD2⟩ ⟨rfl, kk, ek⟩
    obtain ⟨t, a, m, et, rfl, TA, RM⟩ := tabs i kk x ek
    refine ⟨rfl, ?_⟩
    dsimp only [tYes]
    refine iteT ?_
    have TA2 := TA.same LL s2
    obtain ⟨tx, F, kf, q1, _⟩ := id TA2.ex
    refine ⟨_, rfl, a, tx, _, rfl, q1.h, by kernel_rfl, _, rfl, g, t, a, m, rfl, TA2, fun q H4 s4 hq4 hq => ?_⟩
    refine ⟨q, _, rfl, .inl (SqL.of hq), ?_⟩
    have s5 := s2.trans s4
    have hil : i < S.ts.length := by rw [← hlk]; exact hi
    refine ⟨_, s4 _ _ hD2, by rw [List.length_map, List.length_map, List.length_take]; exact small1000 (Nat.le_trans (Nat.min_le_right _ _) X.pag.tln), same_new s5 hD, ?_⟩
    rw [upd_same, List.take_add_one, et, List.length_map, RM.pgs, List.map_append, List.map_append]
    rfl
  · rintro H2 ⟨s2, hD2⟩
    rw [hlk, List.take_length] at hD2
    refine ⟨s2 _ _ ht1, ?_⟩
    have neD : D ≠ y.td := fun q => by
      have hD : HL D = none := hD
      rw [q, ht1] at hD
      cases hD
    refine ⟨D, _, rfl, SqL.of (by rw [upd_ne neD]; exact hD2), ?_⟩
    rw [held_sum]
    exact k _ (back H2 s2)
end

-- part K9N
theorem nod {p : Prop} [Decidable p] (h : ¬ decide p = true) : ¬ p := fun q => h (decide_eq_true q)
section
variable {P : Program} {w : World} {K : PySem.W.Frag} {mg : Str → Option Value} {base : Heap}
def spAsk (K : PySem.W.Frag) : Sp := Sp2 fun x v H Q E => ∃ (g : Col) (r : Addr) (S : PS) (n : Int), x = .ref r ∧ v = .int n ∧ Live g H ∧ RoA K g H r S ∧
  (S.total + n > S.fr + S.sl → ∀ H', Same H H' → E (xC K "NoRoom") none H') ∧ (S.total + n ≤ S.fr + S.sl → ∀ H', Same H H' → Q .non H')
theorem ok_Ask (T : Tx K mg) : Okp P w K mg base 3 (He.fAd K ("Rooms", some "ask_room")) ["self", "many"] (spAsk K) := by
  refine okx len2 T.f_Rooms_ask_room sc_Rooms_ask_room fun cdv A outer s0 H vs Q E hr h => ?_
  obtain ⟨_, _, rfl, g, r, S, n, rfl, rfl, L, ⟨dx, p, kt, y, X⟩, kx, k⟩ := h
  refine ⟨_, pss_one (ps_if (pt_cmpR op_gt (pe_op op_add (PE.nox (pe_m0 (pv 0) T.c_Rooms T.m_Rooms_held (ok_Held T) hr)) (pv 1)) (pe_op op_add (pe_fld (pe_fld (pv 0) rfl) rfl) (pe_fld (pe_fld (pv 0) rfl) rfl)) (nomark _))
    (pss_one (ps_rz rfl (L2N.takes_of rfl rfl rfl rfl) T.e_NoRoom T.g_NoRoom rfl)) pss_nil), ?_⟩
  refine ⟨_, rfl, r, dx, _, rfl, X.rob.h, by kernel_rfl, _, rfl, g, r, S, rfl, L, ⟨dx, p, kt, y, X⟩, fun H1 s1 => ?_⟩
  have X1 := X.same L s1
  refine ⟨_, rfl, _, _, rfl, rfl, ?_⟩
  refine ⟨_, rfl, r, cRo K, dx, _, _, rfl, X1.rob.h, T.c_Rooms, T.a_Rooms_paging, roF_paging p, p, cPa K, y.dx, _, _, rfl, X1.pag.pob.h, T.c_Paging, T.a_Paging_frames, paF_frames _ _ _ _ _ _, ?_⟩
  refine ⟨_, rfl, r, cRo K, dx, _, _, rfl, X1.rob.h, T.c_Rooms, T.a_Rooms_paging, roF_paging p, p, cPa K, y.dx, _, _, rfl, X1.pag.pob.h, T.c_Paging, T.a_Paging_slots, paF_slots _ _ _ _ _ _, ?_⟩
  refine ⟨_, _, rfl, rfl, _, _, rfl, rfl, _, rfl, ?_⟩
  refine ite2 (fun e => kx (by have := of_decide_eq_true e; omega) H1 s1) (fun e => k (by have := nod e; omega) H1 s1)
def spAsked (K : PySem.W.Frag) : Sp := Sp2 fun x v H Q E => ∃ (p n : Int), x = .int p ∧ v = .int n ∧
  (¬ (1 ≤ n ∧ 0 ≤ p ∧ p + n ≤ 64) → E (xC K "NoPage") none H) ∧ (1 ≤ n ∧ 0 ≤ p ∧ p + n ≤ 64 → ∀ q, H q = none → Q (.ref q) (upd H q (.lst (rgV p (p + n)))))
theorem ok_Asked (T : Tx K mg) : Okp P w K mg base 1 (He.fAd K ("pages_asked", none)) ["page", "many"] (spAsked K) := by
  refine okx len2 T.f_pages_asked sc_pages_asked fun cdv A outer s0 H vs Q E hr h => ?_
  obtain ⟨_, _, rfl, p, n, rfl, rfl, kx, k⟩ := h
  obtain ⟨ti, hti⟩ := T.i_PAGES
  refine ⟨_, pss_cons (ps_if (PW.pt (pw_or (pt_cmpR op_lt (pv 1) pe_int (nomark _)) (pw_or (pt_cmpR op_lt (pv 0) pe_int (nomark _)) (pw_or1 (pt_cmpR op_gt (pe_op op_add (pv 0) (pv 1)) (pe_glob (v := .int 64) rfl hti ⟨_, rfl⟩) (nomark _))))))
    (pss_one (ps_rz rfl (L2N.takes_of rfl rfl rfl rfl) T.e_NoPage T.g_NoPage rfl)) pss_nil)
    (pss_one (ps_ret (pe_listRg rfl rfl T.n_list (prg_2 rfl T.n_range (pv 0) (pe_op op_add (pv 0) (pv 1)))))), ?_⟩
  refine ⟨_, rfl, _, _, rfl, rfl, _, rfl, ite2 (fun e => ?_) (fun e => ?_)⟩
  · exact iteT (kx fun z => by have := of_decide_eq_true e; omega)
  have e1 := nod e
  refine ⟨_, rfl, _, _, rfl, rfl, _, rfl, ite2 (fun e => ?_) (fun e => ?_)⟩
  · exact iteT (kx fun z => by have := of_decide_eq_true e; omega)
  have e2 := nod e
  refine ⟨_, rfl, _, rfl, _, _, rfl, rfl, _, _, rfl, rfl, _, rfl, ite2 (fun e => ?_) (fun e => ?_)⟩
  · exact kx fun z => by have := of_decide_eq_true e; omega
  have e3 := nod e
  refine ⟨_, rfl, _, rfl, _, rfl, _, _, rfl, rfl, _, _, rfl, rfl, RgOk.of_le (by omega) (by omega) (by omega) (by omega), fun q hq => k ⟨by omega, by omega, by omega⟩ q hq⟩
theorem rg_at {a b : Int} {i : Nat} {x : V} (h : (rgV a b)[i]? = some x) : x = .int (a + (i : Nat)) ∧ i < (b - a).toNat := by
  unfold rgV at h
  rw [List.getElem?_map] at h
  cases e : (List.range (b - a).toNat)[i]? with
  | none => rw [e] at h; cases h
  | some z =>
    rw [e] at h
    have h1 := (List.getElem?_eq_some_iff.mp e).1
    rw [List.getElem?_range (by simpa using h1)] at e
    cases e
    cases h
    exact ⟨rfl, by simpa using h1⟩
/-- what table.get tells -/
theorem RelM.nn {H : Hp} {e : Int → Option Ent} {m : Int → Option V} (x : RelM K H e m) (p : Int) : decide ((m p).getD .non = .non) = (e p).isNone := by
  cases h : e p with
  | none => rw [x.no p h]; rfl
  | some z =>
    obtain ⟨v, h1, h2⟩ := x.is p z h
    obtain ⟨a, rfl, _⟩ := h2.ex
    rw [h1]
    rfl
def spLookM (K : PySem.W.Frag) : Sp := Sp3 fun x v u H Q E => ∃ (g : Col) (t : Int) (a l : Addr) (m : Int → Option V) (e : Int → Option Ent) (ps : List Int), v = .ref a ∧ u = .ref l ∧ Live g H ∧ TableAt K g H t a m ∧ RelM K H e m ∧ SqL K H l (ps.map V.int) ∧ ps.length ≤ 1000 ∧
  ((∃ z, z ∈ ps ∧ e z = none) → ∀ H', Same H H' → E (xC K "NoPage") none H') ∧ ((∀ z, z ∈ ps → e z ≠ none) → ∀ H', Same H H' → Q .non H')
theorem ok_LookM (T : Tx K mg) : Okp P w K mg base 2 (He.fAd K ("Rooms", some "look_mapped")) ["self", "table", "pages"] (spLookM K) := by
  refine okx len3 T.f_Rooms_look_mapped sc_Rooms_look_mapped fun cdv A outer s0 H vs Q E hr h => ?_
  obtain ⟨sf, _, _, rfl, g, t, a, l, m, e, ps, rfl, rfl, L, TA, RM, hl, hlen, kx, k⟩ := h
  have nd := sc_Rooms_look_mapped.nd
  refine ⟨_, pss_one (ps_if (pt_val (PE.nox (pe_callB (cr_any rfl) (by rfl) T.n_any (by decide +kernel) (pa_cons (pe_lc (own := [("one", 3)]) (g := gName 3) (tt := tYes) (te := (tIsN (tMeth (cTa K) "get" (spTaGet K) [] E0 (tVar 1) (tCons (tVar 3) tNil)))) rfl nd (pi_list (pv 2)) (blkOk_by (N := ["self", "table", "pages", "one"]) (sc := defScope st_Rooms_look_mapped) (by decide +kernel))
      (fun _ _ _ _ _ => pg_name (i := 3) nd rfl (Or.inl rfl)) (fun _ _ _ _ _ => pts_nil) (fun _ _ _ _ _ => by
        refine pe_cmp (pc_isN ?_) rfl
        exact pe_m (pv 1) T.c_Table T.m_Table_get (ok_TaGet T) hr (pa_cons (pv 3) pa_nil))) pa_nil))))
    (pss_one (ps_rz rfl (L2N.takes_of rfl rfl rfl rfl) T.e_NoPage T.g_NoPage rfl)) pss_nil), ?_⟩
  refine ⟨_, rfl, l, rfl, ⟨_, hl⟩, fun D hD => lc_list (K := K) (a := l) (xs := ps.map V.int) (fun i H2 => Same H H2 ∧ H2 D = some (.lst (((ps.take i).map fun z => (e z).isNone).map V.bl))) ?_ ?_ ?_ ?_⟩
  · exact ⟨same_new (Same.refl H) hD, by rw [upd_same]; rfl⟩
  · rintro i H2 hi ⟨s2, _⟩
    exact s2.seq hl
  · rintro i x H2 hx ⟨s2, hD2⟩
    obtain ⟨z, hz, rfl⟩ := at_map hx
    refine ⟨rfl, ?_⟩
    dsimp only [tYes]
    refine iteT ?_
    have TA2 := TA.same L s2
    obtain ⟨tx, F, kf, q1, _⟩ := id TA2.ex
    refine ⟨_, rfl, a, tx, _, rfl, q1.h, by kernel_rfl, _, rfl, _, _, rfl, g, t, a, m, z, rfl, rfl, TA2, ?_⟩
    dsimp only [tIsN]
    rw [RM.nn z]
    have hil : i < ps.length := (List.getElem?_eq_some_iff.mp hz).1
    refine ⟨_, hD2, by rw [List.length_map, List.length_map, List.length_take]; exact small1000 (Nat.le_trans (Nat.min_le_right _ _) hlen), same_new s2 (by rw [← (show H D = none from hD)]), ?_⟩
    rw [upd_same, List.take_add_one, hz, List.map_append, List.map_append]
    rfl
  · rintro H2 ⟨s2, hD2⟩
    rw [List.length_map, List.take_length] at hD2
    refine ⟨D, _, rfl, SqL.of hD2, _, rfl, ite2 (fun q => ?_) (fun q => ?_)⟩
    · refine kx ?_ H2 s2
      rw [List.any_map, List.any_eq_true] at q
      obtain ⟨z, hz, q⟩ := q
      refine ⟨z, hz, ?_⟩
      have q : (e z).isNone = true := q
      cases h : e z with
      | none => rfl
      | some v => rw [h] at q; cases q
    · refine k (fun z hz q2 => q ?_) H2 s2
      rw [List.any_map, List.any_eq_true]
      exact ⟨z, hz, by show (e z).isNone = true; rw [q2]; rfl⟩
def tz (t p : Int) (n : Nat) : List (Int × Int) := (List.range n).map fun i : Nat => (t, p + (i : Int))
theorem tz_mem {t p : Int} {n : Nat} {z : Int × Int} : z ∈ tz t p n ↔ z.1 = t ∧ p ≤ z.2 ∧ z.2 < p + (n : Int) := by
  unfold tz
  rw [List.mem_map]
  constructor
  · rintro ⟨i, hi, rfl⟩
    have := List.mem_range.mp hi
    exact ⟨rfl, by show p ≤ p + (i : Int); omega, by show p + (i : Int) < _; omega⟩
  · rintro ⟨h1, h2, h3⟩
    refine ⟨(z.2 - p).toNat, List.mem_range.mpr (by omega), ?_⟩
    refine Prod.ext h1.symm ?_
    show p + ((z.2 - p).toNat : Int) = z.2
    omega
theorem tz_succ (t p : Int) (i : Nat) : tz t p (i + 1) = tz t p i ++ [(t, p + (i : Int))] := by
  unfold tz
  rw [List.range_succ, List.map_append]
  rfl
theorem tz_nd (t p : Int) (n : Nat) : (tz t p n).Nodup := by
  unfold tz
  show List.Pairwise _ _
  rw [List.pairwise_map]
  refine List.pairwise_lt_range.imp fun {i j} h e => ?_
  have := (Prod.mk.inj e).2
  omega
theorem tz_len (t p : Int) (n : Nat) : (tz t p n).length = n := by unfold tz; rw [List.length_map, List.length_range]
/-- pages mapped one behind another -/
structure Mpd (S : PS) (l : List (Int × Int)) : Prop where
  gx : Gx (S.lays .blank l) []
  tot : (S.lays .blank l).total ≤ S.total + l.length
theorem Mpd.nil {S : PS} (x : Gx S []) : Mpd S [] := ⟨x, Nat.le_refl _⟩
theorem Mpd.snoc {S : PS} {l : List (Int × Int)} {z : Int × Int} (x : Mpd S l) (h1 : z.1 ∈ S.ts) (h2 : 0 ≤ z.2 ∧ z.2 < 64) (h3 : S.e z = none) (hz : z ∉ l) (ht : S.total + (l.length + 1) ≤ S.fr + S.sl) : Mpd S (l ++ [z]) := by
  obtain ⟨f1, f2, f3⟩ := lays_fr (e := .blank) l S
  have e : S.lays .blank (l ++ [z]) = (S.lays .blank l).share z .blank := lays_snoc .blank z l S
  have e2 : (S.lays .blank l).e z = none := by rw [lays_pl, if_neg hz]; exact h3
  have hsm := share_total (e := .blank) (z := z) x.gx
  refine ⟨?_, ?_⟩
  · rw [e]
    refine x.gx.share (by rw [lays_ts]; exact h1) h2 e2 (fun b n q => by cases q) ?_
    rw [f1, f2]
    have := x.tot
    omega
  · rw [e, List.length_append]
    have := x.tot
    show _ ≤ S.total + (l.length + 1)
    omega
def spMap (K : PySem.W.Frag) : Sp := Sp4 fun x v u c H Q E => ∃ (g : Col) (r : Addr) (S : PS) (t p n : Int), x = .ref r ∧ v = .int t ∧ u = .int p ∧ c = .int n ∧ Live g H ∧ RoA K g H r S ∧
  (∀ nm, nm ∈ excN → ∀ H', Same H H' → E (xC K nm) none H') ∧
  (t ∈ S.ts → 1 ≤ n ∧ 0 ≤ p ∧ p + n ≤ 64 → (∀ z, z ∈ tz t p n.toNat → S.e z = none) → Out isRm g H (fun g' H' => RoA K g' H' r (S.lays .blank (tz t p n.toNat))) (Q .non))
theorem ok_Map (T : Tx K mg) : Okp P w K mg base 4 (He.fAd K ("Rooms", some "map")) ["self", "task", "page", "many"] (spMap K) := by
  refine okx len4 T.f_Rooms_map sc_Rooms_map fun cdv A outer s0 H vs Q E hr h => ?_
  obtain ⟨_, _, _, _, rfl, g, r, S, t, pg, n, rfl, rfl, rfl, rfl, L, ⟨dx, p, kt, y, X⟩, kx, k⟩ := h
  have nd := sc_Rooms_map.nd
  have hu := hu_of hr
  have tk := L2N.takes_of (X := cxOf (L2N.CX P w) P w K mg base ["self", "task", "page", "many", "table", "asked", "one"] "Rooms.map" (defScope st_Rooms_map) (He.fAd K ("Rooms", some "map")) cdv A outer s0 H E) rfl rfl rfl rfl
  refine ⟨_, pss_cons (ps_set (i := 4) nd rfl (Or.inr rfl) (pe_mx tk (pv 0) T.c_Rooms T.m_Rooms_table_of (ok_TableOf T) (hr.mono (by decide)) (pa_cons (pv 1) pa_nil)))
    (pss_cons (ps_set (i := 5) nd rfl (Or.inl rfl) (pe_cx tk (ok_Asked T) T.g_pages_asked (hr.mono (by decide)) (pa_cons (pv 2) (pa_cons (pv 3) pa_nil))))
    (pss_cons (ps_if (pt_val (PE.nox (pe_callB (cr_any rfl) (by rfl) T.n_any (by decide +kernel) (pa_cons (pe_lc (own := [("one", 6)]) (g := gName 6) (tt := tYes) (te := (tNotN (tMeth (cTa K) "get" (spTaGet K) [] E0 (tVar 4) (tCons (tVar 6) tNil)))) rfl nd (pi_list (pv 5)) (blkOk_by (N := ["self", "task", "page", "many", "table", "asked", "one"]) (sc := defScope st_Rooms_map) (by decide +kernel))
      (fun _ _ _ _ _ => pg_name (i := 6) nd rfl (Or.inl rfl)) (fun _ _ _ _ _ => pts_nil) (fun _ _ _ _ _ => by
        refine pe_cmp (pc_notN ?_) rfl
        exact pe_m (pv 4) T.c_Table T.m_Table_get (ok_TaGet T) (hr.mono (by decide)) (pa_cons (pv 6) pa_nil))) pa_nil))))
      (pss_one (ps_rz rfl tk T.e_Taken T.g_Taken rfl)) pss_nil)
    (pss_cons (ps_expr (pe_mx tk (pv 0) T.c_Rooms T.m_Rooms_ask_room (ok_Ask T) hr (pa_cons (pv 3) pa_nil)))
    (pss_one (ps_for (passes_of rfl) rfl (pi_list (pv 5)) (pg_name (i := 6) nd rfl (Or.inl rfl))
      (pss_one (ps_expr (PE.nox (pe_m (pe_fld (pv 0) rfl) T.c_Paging T.m_Paging_lay (ok_Lay T) (hr.mono (by decide)) (pa_cons (pe_tup (pa_cons (pv 1) (pa_cons (pv 6) pa_nil))) (pa_cons (pe_glob (v := .ref (He.ga K "BLANK")) rfl T.g_BLANK rfl) pa_nil))))))))))), ?_⟩
  have XC : ∀ nm, nm ∈ excN → ∀ H', Same H H' → E (xC K nm) none H' := kx
  refine ⟨_, rfl, r, dx, _, rfl, X.rob.h, by kernel_rfl, _, rfl, _, _, rfl, g, r, S, t, dx, p, kt, y, rfl, rfl, X, fun _ => kx "NoTask" (by decide +kernel) H (Same.refl H), fun ht a m ev TA RM => ?_⟩
  refine ⟨_, rfl, _, rfl, _, _, rfl, pg, n, rfl, rfl, fun _ => kx "NoPage" (by decide +kernel) H (Same.refl H), fun hpn q hq => ?_⟩
  have hq0 : H q = none := hq
  have s1 : Same H (upd H q (.lst (rgV pg (pg + n)))) := same_new (Same.refl H) hq
  have hq1 : upd H q (.lst (rgV pg (pg + n))) q = some (.lst (rgV pg (pg + n))) := upd_same
  generalize upd H q (.lst (rgV pg (pg + n))) = H1 at *
  have X1 := X.same L s1
  have TA1 := TA.same L s1
  have L1 : Live g H1 := (Grow.same (R := fun _ => false) L s1).live L
  have hn : (n.toNat : Int) = n := by omega
  refine ⟨_, rfl, q, rfl, ⟨_, SqL.of hq1⟩, fun D hD => lc_list (K := K) (a := q) (xs := rgV pg (pg + n)) (fun i H2 => Same H1 H2 ∧ H2 D = some (.lst (((List.range i).map fun j : Nat => (S.pl t (pg + (j : Int))).isSome).map V.bl))) ?_ ?_ ?_ ?_⟩
  · exact ⟨same_new (Same.refl H1) hD, by rw [upd_same]; rfl⟩
  · rintro i H2 hi ⟨s2, _⟩
    exact SqL.of (s2 _ _ hq1)
  · rintro i x H2 hx ⟨s2, hD2⟩
    obtain ⟨rfl, hi⟩ := rg_at hx
    refine ⟨rfl, ?_⟩
    dsimp only [tYes]
    refine iteT ?_
    have TA2 := TA1.same L1 s2
    obtain ⟨tx, F, kf, q1, _⟩ := id TA2.ex
    refine ⟨_, rfl, a, tx, _, rfl, q1.h, by kernel_rfl, _, rfl, _, _, rfl, g, t, a, m, _, rfl, rfl, TA2, ?_⟩
    dsimp only [tNotN]
    rw [RM.nn]
    refine ⟨_, hD2, by rw [List.length_map, List.length_map, List.length_range]; exact small1000 (by omega), same_new s2 hD, ?_⟩
    rw [upd_same, List.range_succ, List.map_append, List.map_append]
    congr 3
    show [V.bl (!(S.pl t (pg + (i : Int))).isNone)] = [V.bl (S.pl t (pg + (i : Int))).isSome]
    cases S.pl t (pg + (i : Int)) <;> rfl
  · rintro H2 ⟨s2, hD2⟩
    rw [rgV_length] at hD2
    have sA := s1.trans s2
    refine ⟨D, _, rfl, SqL.of hD2, _, rfl, ite2 (fun qz => kx "Taken" (by decide +kernel) H2 sA) (fun qz => ?_)⟩
    have hfree : ∀ z, z ∈ tz t pg n.toNat → S.e z = none := fun z hz => by
      obtain ⟨z1, z2, z3⟩ := tz_mem.mp hz
      cases e : S.e z with
      | none => rfl
      | some v =>
        refine absurd ?_ qz
        rw [List.any_map, List.any_eq_true]
        refine ⟨(z.2 - pg).toNat, List.mem_range.mpr (by omega), ?_⟩
        show (S.pl t (pg + ((z.2 - pg).toNat : Int))).isSome = true
        have e3 : pg + ((z.2 - pg).toNat : Int) = z.2 := by omega
        rw [e3, ← z1]
        have e : S.pl z.1 z.2 = some v := e
        rw [e]
        rfl
    have X2 := X.same L sA
    have L2' : Live g H2 := (Grow.same (R := fun _ => false) L sA).live L
    refine ⟨_, rfl, r, dx, _, rfl, X2.rob.h, by kernel_rfl, _, rfl, _, _, rfl, g, r, S, n, rfl, rfl, L2', ⟨dx, p, kt, y, X2⟩, fun _ H3 s3 => kx "NoRoom" (by decide +kernel) H3 (sA.trans s3), fun hroom H3 s3 => ?_⟩
    have s13 := s2.trans s3
    have X3 := X2.same L2' s3
    have L3 : Live g H3 := (Grow.same (R := fun _ => false) L2' s3).live L2'
    have hq3 := s13 _ _ hq1
    have FQ : Fz g H3 q (.lst (rgV pg (pg + n))) := ⟨by rw [L.none hq0], hq3⟩
    have G0 : Grow isRm g H g H3 := Grow.same L (sA.trans s3)
    have k := k ht hpn hfree
    refine ⟨_, rfl, q, rfl, ⟨_, SqL.of hq3⟩, for_list (K := K) (a := q) (xs := rgV pg (pg + n)) (fun i σ H4 => ∃ (v6 : Option V) (g4 : Col) (y4 : Ly), σ = [some (.ref r), some (.int t), some (.int pg), some (.int n), some (.ref a), some (.ref q), v6] ∧ Grow isRm g H3 g4 H4 ∧
      Mpd S (tz t pg i) ∧ Pt g4 .rob H4 r (.ins (cRo K) dx (roF p)) ∧ PagL K g4 H4 p (S.lays .blank (tz t pg i)) kt y4) ?_ ?_ ?_ ?_⟩
    · exact ⟨none, g, y, rfl, Grow.refl L3, Mpd.nil X3.gx, X3.rob, X3.pag⟩
    · rintro i σ H4 hi ⟨v6, g4, y4, rfl, G4, M4, R4, P4⟩
      exact SqL.of (FQ.keep G4).h
    · rintro i x σ H4 hx ⟨v6, g4, y4, rfl, G4, M4, R4, P4⟩
      obtain ⟨rfl, hi⟩ := rg_at hx
      have L4 := G4.live L3
      refine ⟨_, rfl, r, cRo K, dx, _, _, rfl, R4.h, T.c_Rooms, T.a_Rooms_paging, roF_paging p, p, y4.dx, _, rfl, P4.pob.h, by kernel_rfl, _, rfl, _, rfl, (by show 2 ≤ sizeLine; decide), fun tp htp => ?_⟩
      have G5 : Grow isRm g4 H4 g4 (upd H4 tp (.tup [.int t, .int (pg + (i : Int))])) := Grow.temp L4 htp
      have P5 := P4.keep (R := fun _ => false) (Grow.temp L4 htp (o := .tup [.int t, .int (pg + (i : Int))])) fun _ _ => rfl
      have hz : ((t, pg + (i : Int)) : Int × Int) ∈ tz t pg n.toNat := tz_mem.mpr ⟨rfl, by show pg ≤ pg + (i : Int); omega, by show pg + (i : Int) < _; omega⟩
      refine ⟨_, _, _, rfl, g4, p, _, kt, y4, tp, (t, pg + (i : Int)), .blank, rfl, rfl, G5.live L4, P5, upd_same, T.blankV _, by rw [lays_ts]; exact ht, by show 0 ≤ pg + (i : Int); omega, by show pg + (i : Int) < 64; omega, fun b n q => (by cases q), fun g6 H6 G6 ⟨y6, P6⟩ => ?_⟩
      refine ⟨_, g6, y6, rfl, (G4.trans G5).trans G6, ?_, (R4.keep G5 rfl).keep G6 rfl, ?_⟩
      · rw [tz_succ]
        refine M4.snoc ht (by show 0 ≤ pg + (i : Int) ∧ pg + (i : Int) < 64; omega) (hfree _ hz) (fun q => ?_) (by rw [tz_len]; omega)
        obtain ⟨_, _, q3⟩ := tz_mem.mp q
        have q3 : pg + (i : Int) < pg + (i : Int) := q3
        omega
      · rw [tz_succ, lays_snoc]
        exact P6
    · rintro σ H4 ⟨v6, g4, y4, rfl, G4, M4, R4, P4⟩
      rw [rgV_length] at P4 M4
      have e : (pg + n - pg).toNat = n.toNat := by omega
      rw [e] at P4 M4
      exact k g4 H4 (G0.trans G4) ⟨dx, p, kt, y4, R4, P4, M4.gx⟩
end

-- part K9O
theorem Gx.atOwn {S : PS} {D : List (Int × Int)} (x : Gx S D) {z : Int × Int} {b : Bool} {n : Nat} (h : S.e z = some (.at b n)) (hd : z ∉ D) : z ∈ S.ow b n ∧ (∃ c, (S.own b)[n]? = some (c + 1)) ∧ (S.own b)[n]? = some (S.ow b n).length ∧ n < 60 := by
  have hm : z ∈ S.ow b n := (x.mem b n z).mpr ⟨h, hd⟩
  have hl := x.at_lt hm
  have hc := x.cnt b n hl
  have hp := List.length_pos_of_mem hm
  refine ⟨hm, ⟨(S.ow b n).length - 1, ?_⟩, hc, ?_⟩
  · rw [hc]
    congr 1
    omega
  · have h0 := x.l0
    have h1 := x.l1
    have hb := x.bnd
    cases b <;> omega
section
variable {P : Program} {w : World} {K : PySem.W.Frag} {mg : Str → Option Value} {base : Heap}
def spDrop (K : PySem.W.Frag) : Sp := Sp4 fun x v u c H Q E => ∃ (g : Col) (r : Addr) (S : PS) (t p n : Int), x = .ref r ∧ v = .int t ∧ u = .int p ∧ c = .int n ∧ Live g H ∧ RoA K g H r S ∧
  (∀ nm, nm ∈ excN → nm ≠ "NoRoom" → ∀ H', Same H H' → E (xC K nm) none H') ∧
  (t ∈ S.ts → 1 ≤ n ∧ 0 ≤ p ∧ p + n ≤ 64 → (∀ z, z ∈ tz t p n.toNat → (S.e z).isSome = true) → Out isRm g H (fun g' H' => RoA K g' H' r (S.drops (tz t p n.toNat))) (Q .non))
theorem ok_Drop (T : Tx K mg) : Okp P w K mg base 5 (He.fAd K ("Rooms", some "drop")) ["self", "task", "page", "many"] (spDrop K) := by
  refine okx len4 T.f_Rooms_drop sc_Rooms_drop fun cdv A outer s0 H vs Q E hr h => ?_
  obtain ⟨_, _, _, _, rfl, g, r, S, t, pg, n, rfl, rfl, rfl, rfl, L, ⟨dx, p, kt, y, X⟩, kx, k⟩ := h
  have nd := sc_Rooms_drop.nd
  have hu := hu_of hr
  have tk := L2N.takes_of (X := cxOf (L2N.CX P w) P w K mg base ["self", "task", "page", "many", "table", "asked", "one"] "Rooms.drop" (defScope st_Rooms_drop) (He.fAd K ("Rooms", some "drop")) cdv A outer s0 H E) rfl rfl rfl rfl
  refine ⟨_, pss_cons (ps_set (i := 4) nd rfl (Or.inl rfl) (pe_mx tk (pv 0) T.c_Rooms T.m_Rooms_table_of (ok_TableOf T) (hr.mono (by decide)) (pa_cons (pv 1) pa_nil)))
    (pss_cons (ps_set (i := 5) nd rfl (Or.inl rfl) (pe_cx tk (ok_Asked T) T.g_pages_asked (hr.mono (by decide)) (pa_cons (pv 2) (pa_cons (pv 3) pa_nil))))
    (pss_cons (ps_expr (pe_mx tk (pv 0) T.c_Rooms T.m_Rooms_look_mapped (ok_LookM T) (hr.mono (by decide)) (pa_cons (pv 4) (pa_cons (pv 5) pa_nil))))
    (pss_one (ps_for (passes_of rfl) rfl (pi_list (pv 5)) (pg_name (i := 6) nd rfl (Or.inl rfl))
      (pss_cons (ps_expr (pe_m (pe_fld (pv 0) rfl) T.c_Paging T.m_Paging_leave (ok_Leave T) hr (pa_cons (pe_tup (pa_cons (pv 1) (pa_cons (pv 6) pa_nil))) pa_nil)))
        (pss_one (ps_expr (pe_m (pv 4) T.c_Table T.m_Table_clear (ok_TaClear T) (hr.mono (by decide)) (pa_cons (pv 6) pa_nil))))))))), ?_⟩
  refine ⟨_, rfl, r, dx, _, rfl, X.rob.h, by kernel_rfl, _, rfl, _, _, rfl, g, r, S, t, dx, p, kt, y, rfl, rfl, X, fun _ => kx "NoTask" (by decide +kernel) (by decide +kernel) H (Same.refl H), fun ht a m ev TA RM => ?_⟩
  refine ⟨_, rfl, _, rfl, _, _, rfl, pg, n, rfl, rfl, fun _ => kx "NoPage" (by decide +kernel) (by decide +kernel) H (Same.refl H), fun hpn q hq => ?_⟩
  have hq0 : H q = none := hq
  have s1 : Same H (upd H q (.lst (rgV pg (pg + n)))) := same_new (Same.refl H) hq
  have hq1 : upd H q (.lst (rgV pg (pg + n))) q = some (.lst (rgV pg (pg + n))) := upd_same
  generalize upd H q (.lst (rgV pg (pg + n))) = H1 at *
  have X1 := X.same L s1
  have TA1 := TA.same L s1
  have L1 : Live g H1 := (Grow.same (R := fun _ => false) L s1).live L
  have hn : (n.toNat : Int) = n := by omega
  have er : rgV pg (pg + n) = ((List.range n.toNat).map fun i : Nat => pg + (i : Int)).map V.int := by
    unfold rgV
    rw [List.map_map]
    have : (pg + n - pg).toNat = n.toNat := by omega
    rw [this]
    rfl
  have RM1 : RelM K H1 (S.pl t) m := RM.keep fun a xs e => s1 _ _ e
  refine ⟨_, rfl, r, dx, _, rfl, X1.rob.h, by kernel_rfl, _, rfl, _, rfl, _, _, _, rfl, g, t, a, q, m, S.pl t, (List.range n.toNat).map fun i : Nat => pg + (i : Int), rfl, rfl, L1, TA1, RM1, SqL.of (by rw [← er]; exact hq1), by rw [List.length_map, List.length_range]; omega, fun _ H2 s2 => kx "NoPage" (by decide +kernel) (by decide +kernel) H2 (s1.trans s2), fun hmap H3 s13 => ?_⟩
  have sA := s1.trans s13
  have X3 := X.same L sA
  have L3 : Live g H3 := (Grow.same (R := fun _ => false) L sA).live L
  have hq3 := s13 _ _ hq1
  have FQ : Fz g H3 q (.lst (rgV pg (pg + n))) := ⟨by rw [L.none hq0], hq3⟩
  have G0 : Grow isRm g H g H3 := Grow.same L sA
  have hmapped : ∀ z, z ∈ tz t pg n.toNat → (S.e z).isSome = true := fun z hz => by
    obtain ⟨z1, z2, z3⟩ := tz_mem.mp hz
    have := hmap z.2 (List.mem_map.mpr ⟨(z.2 - pg).toNat, List.mem_range.mpr (by omega), by omega⟩)
    show (S.pl z.1 z.2).isSome = true
    rw [z1]
    cases e : S.pl t z.2 with
    | none => exact absurd e this
    | some v => rfl
  have k := k ht hpn hmapped
  refine ⟨_, rfl, q, rfl, ⟨_, SqL.of hq3⟩, for_list (K := K) (a := q) (xs := rgV pg (pg + n)) (fun i σ H4 => ∃ (v6 : Option V) (g4 : Col) (y4 : Ly), σ = [some (.ref r), some (.int t), some (.int pg), some (.int n), some (.ref a), some (.ref q), v6] ∧ Grow isRm g H3 g4 H4 ∧
    Gx (S.drops (tz t pg i)) [] ∧ Pt g4 .rob H4 r (.ins (cRo K) dx (roF p)) ∧ PagL K g4 H4 p (S.drops (tz t pg i)) kt y4) ?_ ?_ ?_ ?_⟩
  · exact ⟨none, g, y, rfl, Grow.refl L3, X3.gx, X3.rob, X3.pag⟩
  · rintro i σ H4 hi ⟨v6, g4, y4, rfl, G4, M4, R4, P4⟩
    exact SqL.of (FQ.keep G4).h
  · rintro i x σ H4 hx ⟨v6, g4, y4, rfl, G4, M4, R4, P4⟩
    obtain ⟨rfl, hi⟩ := rg_at hx
    have L4 := G4.live L3
    refine ⟨_, rfl, r, cRo K, dx, _, _, rfl, R4.h, T.c_Rooms, T.a_Rooms_paging, roF_paging p, p, y4.dx, _, rfl, P4.pob.h, by kernel_rfl, _, rfl, _, rfl, (by show 2 ≤ sizeLine; decide), fun tp htp => ?_⟩
    have G5 : Grow isRm g4 H4 g4 (upd H4 tp (.tup [.int t, .int (pg + (i : Int))])) := Grow.temp L4 htp
    have P5 := P4.keep (R := fun _ => false) (Grow.temp L4 htp (o := .tup [.int t, .int (pg + (i : Int))])) fun _ _ => rfl
    have hz : ((t, pg + (i : Int)) : Int × Int) ∈ tz t pg n.toNat := tz_mem.mpr ⟨rfl, by show pg ≤ pg + (i : Int); omega, by show pg + (i : Int) < _; omega⟩
    have hni : ((t, pg + (i : Int)) : Int × Int) ∉ tz t pg i := fun q => by
      obtain ⟨_, _, q3⟩ := tz_mem.mp q
      have q3 : pg + (i : Int) < pg + (i : Int) := q3
      omega
    obtain ⟨e, he⟩ : ∃ e, (S.drops (tz t pg i)).e (t, pg + (i : Int)) = some e := by
      rw [drops_e, if_neg hni]
      have := hmapped _ hz
      cases e : S.e (t, pg + (i : Int)) with
      | none => rw [e] at this; cases this
      | some v => exact ⟨v, rfl⟩
    refine ⟨_, _, rfl, g4, p, _, kt, y4, tp, (t, pg + (i : Int)), e, rfl, rfl, G5.live L4, P5, upd_same, by rw [(drops_ts _ _).1]; exact ht, he, fun b n' q => ?_, fun g6 H6 G6 ⟨y6, P6⟩ => ?_⟩
    · subst q
      obtain ⟨q1, q2, _, _⟩ := M4.atOwn he (by simp)
      exact ⟨q1, q2⟩
    have L6 := G6.live (G5.live L4)
    have tin : t ∈ ((S.drops (tz t pg i)).leave (t, pg + (i : Int))).ts := by rw [leave_ts, (drops_ts _ _).1]; exact ht
    obtain ⟨a', m6, ev6, dg6, TA6, RM6⟩ := P6.tabOf tin
    rw [ev] at ev6
    cases ev6
    obtain ⟨v6', hv6, _⟩ := RM6.is (pg + (i : Int)) e (by rw [leave_pl]; exact he)
    obtain ⟨tx, F, kf, q1, _⟩ := id TA6.ex
    refine ⟨_, rfl, a, tx, _, rfl, q1.h, by kernel_rfl, _, rfl, _, _, rfl, g6, t, a, m6, pg + (i : Int), v6', rfl, rfl, hv6, L6, TA6, fun g7 H7 G7 TA7 => ?_⟩
    have P7 := P6.table G7 ev TA7 ((RM6.keep G7.tup).unset (pg + (i : Int)))
    refine ⟨_, g7, y6, rfl, ((G4.trans G5).trans G6).trans (G7.mono isTa_rm), ?_, ((R4.keep G5 rfl).keep G6 rfl).keep G7 rfl, ?_⟩
    · rw [tz_succ, drops_snoc]
      exact M4.drop1 he
    · rw [tz_succ, drops_snoc]
      exact P7
  · rintro σ H4 ⟨v6, g4, y4, rfl, G4, M4, R4, P4⟩
    rw [rgV_length] at P4 M4
    have e : (pg + n - pg).toNat = n.toNat := by omega
    rw [e] at P4 M4
    exact k g4 H4 (G0.trans G4) ⟨dx, p, kt, y4, R4, P4, M4⟩
/-! #### close -/
def tl (t : Int) (l : List Int) : List (Int × Int) := l.map fun q => (t, q)
def PS.close (S : PS) (t : Int) : PS := (S.leaves (tl t (pgsE (S.pl t)))).gone t
theorem tl_mem {t : Int} {l : List Int} {z : Int × Int} : z ∈ tl t l ↔ z.1 = t ∧ z.2 ∈ l := by
  unfold tl
  rw [List.mem_map]
  constructor
  · rintro ⟨q, hq, rfl⟩
    exact ⟨rfl, hq⟩
  · rintro ⟨h1, h2⟩
    exact ⟨z.2, h2, Prod.ext h1.symm rfl⟩
theorem tl_nd {t : Int} {l : List Int} (h : l.Nodup) : (tl t l).Nodup := by
  unfold tl
  show List.Pairwise _ _
  rw [List.pairwise_map]
  exact h.imp fun h e => h (Prod.mk.inj e).2
theorem Gx.pages {S : PS} {D : List (Int × Int)} (x : Gx S D) {z : Int × Int} : z.2 ∈ pgsE (S.pl z.1) ↔ (S.e z).isSome = true := by
  rw [pgsE_mem]
  exact ⟨fun h => h.2, fun h => ⟨x.dom z.1 z.2 h, h⟩⟩
theorem Gx.close {S : PS} (x : Gx S []) (t : Int) : Gx (S.close t) [] := by
  have h1 : ∀ z, z ∈ tl t (pgsE (S.pl t)) ↔ z.1 = t ∧ (S.e z).isSome = true := fun z => by
    rw [tl_mem]
    refine ⟨fun ⟨h1, h2⟩ => ⟨h1, ?_⟩, fun ⟨h1, h2⟩ => ⟨h1, ?_⟩⟩
    · rw [← h1] at h2
      exact x.pages.mp h2
    · rw [← h1]
      exact x.pages.mpr h2
  have G := x.leaves (l := tl t (pgsE (S.pl t))) (tl_nd (pgsE_nd _)) (fun _ _ q => by cases q) (fun z hz => ((h1 z).mp hz).2)
  unfold PS.close
  refine G.gone fun z hz => ?_
  have hz : ((S.leaves (tl t (pgsE (S.pl t)))).pl z.1 z.2).isSome = true := hz
  rw [leaves_pl] at hz
  rw [List.append_nil, h1]
  exact ⟨fun q => ⟨q, hz⟩, fun q => q.1⟩
theorem close_e (S : PS) (t : Int) (z : Int × Int) : (S.close t).e z = if z.1 = t then none else S.e z := by
  unfold PS.close
  rw [gone_e]
  split
  · rfl
  · show (S.leaves (tl t (pgsE (S.pl t)))).pl z.1 z.2 = _
    rw [leaves_pl]
theorem close_ts (S : PS) (t : Int) : (S.close t).ts = S.ts.filter (fun u => decide (u ≠ t)) ∧ (S.close t).fr = S.fr ∧ (S.close t).sl = S.sl := by
  obtain ⟨a, b, c⟩ := leaves_ts (tl t (pgsE (S.pl t))) S
  refine ⟨?_, b, c⟩
  show (S.leaves (tl t (pgsE (S.pl t)))).ts.filter _ = _
  rw [a]
def spClose (K : PySem.W.Frag) : Sp := Sp2 fun x v H Q E => ∃ (g : Col) (r : Addr) (S : PS) (t : Int), x = .ref r ∧ v = .int t ∧ Live g H ∧ RoA K g H r S ∧
  (t ∉ S.ts → E (xC K "NoTask") none H) ∧ (t ∈ S.ts → ∀ v, Out isRm g H (fun g' H' => RoA K g' H' r (S.close t)) (Q v))
theorem ok_Close (T : Tx K mg) : Okp P w K mg base 5 (He.fAd K ("Rooms", some "close")) ["self", "task"] (spClose K) := by
  refine okx len2 T.f_Rooms_close sc_Rooms_close fun cdv A outer s0 H vs Q E hr h => ?_
  obtain ⟨_, _, rfl, g, r, S, t, rfl, rfl, L, ⟨dx, p, kt, y, X⟩, kx, k⟩ := h
  have nd := sc_Rooms_close.nd
  have hu := hu_of hr
  have tk := L2N.takes_of (X := cxOf (L2N.CX P w) P w K mg base ["self", "task", "page"] "Rooms.close" (defScope st_Rooms_close) (He.fAd K ("Rooms", some "close")) cdv A outer s0 H E) rfl rfl rfl rfl
  refine ⟨_, pss_cons (ps_for (passes_of rfl) rfl (pi_list (pe_m0 (pe_mx tk (pv 0) T.c_Rooms T.m_Rooms_table_of (ok_TableOf T) (hr.mono (by decide)) (pa_cons (pv 1) pa_nil)) T.c_Table T.m_Table_pages (ok_TaPages T) (hr.mono (by decide)))) (pg_name (i := 2) nd rfl (Or.inl rfl))
      (pss_one (ps_expr (pe_m (pe_fld (pv 0) rfl) T.c_Paging T.m_Paging_leave (ok_Leave T) hr (pa_cons (pe_tup (pa_cons (pv 1) (pa_cons (pv 2) pa_nil))) pa_nil)))))
    (pss_one (ps_expr (pe_dpop1 (pe_fld (pe_fld (pv 0) rfl) rfl) (pv 1) ⟨rfl, rfl, rfl, rfl⟩))), ?_⟩
  refine ⟨_, rfl, r, dx, _, rfl, X.rob.h, by kernel_rfl, _, rfl, _, _, rfl, g, r, S, t, dx, p, kt, y, rfl, rfl, X, kx, fun ht a m ev TA RM => ?_⟩
  have k := k ht
  obtain ⟨tx, F, kf, q1, _⟩ := id TA.ex
  refine ⟨a, tx, _, rfl, q1.h, by kernel_rfl, _, rfl, g, t, a, m, rfl, TA, fun q H3 sA hq0 hq3 => ?_⟩
  rw [RM.pgs] at hq3
  have X3 := X.same L sA
  have L3 : Live g H3 := (Grow.same (R := fun _ => false) L sA).live L
  have FQ : Fz g H3 q (.lst ((pgsE (S.pl t)).map V.int)) := ⟨by rw [L.none hq0], hq3⟩
  have G0 : Grow isRm g H g H3 := Grow.same L sA
  have ndl := pgsE_nd (S.pl t)
  refine ⟨q, rfl, ⟨_, SqL.of hq3⟩, for_list (K := K) (a := q) (xs := (pgsE (S.pl t)).map V.int) (fun i σ H4 => ∃ (v6 : Option V) (g4 : Col) (y4 : Ly), σ = [some (.ref r), some (.int t), v6] ∧ Grow isRm g H3 g4 H4 ∧
    Gx (S.leaves (tl t ((pgsE (S.pl t)).take i))) (tl t ((pgsE (S.pl t)).take i) ++ []) ∧ Pt g4 .rob H4 r (.ins (cRo K) dx (roF p)) ∧ PagL K g4 H4 p (S.leaves (tl t ((pgsE (S.pl t)).take i))) kt y4) ?_ ?_ ?_ ?_⟩
  · exact ⟨none, g, y, rfl, Grow.refl L3, X3.gx, X3.rob, X3.pag⟩
  · rintro i σ H4 hi ⟨v6, g4, y4, rfl, G4, M4, R4, P4⟩
    exact SqL.of (FQ.keep G4).h
  · rintro i x σ H4 hx ⟨v6, g4, y4, rfl, G4, M4, R4, P4⟩
    obtain ⟨pg, hpg, rfl⟩ := at_map hx
    have L4 := G4.live L3
    refine ⟨_, rfl, r, cRo K, dx, _, _, rfl, R4.h, T.c_Rooms, T.a_Rooms_paging, roF_paging p, p, y4.dx, _, rfl, P4.pob.h, by kernel_rfl, _, rfl, _, rfl, (by show 2 ≤ sizeLine; decide), fun tp htp => ?_⟩
    have G5 : Grow isRm g4 H4 g4 (upd H4 tp (.tup [.int t, .int pg])) := Grow.temp L4 htp
    have P5 := P4.keep (R := fun _ => false) (Grow.temp L4 htp (o := .tup [.int t, .int pg])) fun _ _ => rfl
    have hmem : pg ∈ pgsE (S.pl t) := List.mem_of_getElem? hpg
    have hsome := (pgsE_mem.mp hmem).2
    have hil : i < (pgsE (S.pl t)).length := (List.getElem?_eq_some_iff.mp hpg).1
    have hni : pg ∉ (pgsE (S.pl t)).take i := fun q => by
      obtain ⟨j, hj⟩ := List.getElem?_of_mem q
      have hj1 := (List.getElem?_eq_some_iff.mp hj).1
      rw [List.length_take] at hj1
      rw [List.getElem?_take_of_lt (by omega)] at hj
      have := lt_of_rises (pgsE_rises (S.pl t)) (i := j) (j := i) (by omega) hj hpg
      omega
    have hnt : ((t, pg) : Int × Int) ∉ tl t ((pgsE (S.pl t)).take i) ++ [] := by
      rw [List.append_nil]
      exact fun q => hni (tl_mem.mp q).2
    obtain ⟨e, he⟩ : ∃ e, (S.leaves (tl t ((pgsE (S.pl t)).take i))).e (t, pg) = some e := by
      have e1 : (S.leaves (tl t ((pgsE (S.pl t)).take i))).e (t, pg) = S.pl t pg := by
        show (S.leaves (tl t ((pgsE (S.pl t)).take i))).pl t pg = _
        rw [leaves_pl]
      rw [e1]
      cases e : S.pl t pg with
      | none => rw [e] at hsome; cases hsome
      | some v => exact ⟨v, rfl⟩
    have e2 : tl t ((pgsE (S.pl t)).take (i + 1)) = tl t ((pgsE (S.pl t)).take i) ++ [(t, pg)] := by
      rw [List.take_add_one, hpg]
      unfold tl
      rw [List.map_append]
      rfl
    refine ⟨_, _, rfl, g4, p, _, kt, y4, tp, (t, pg), e, rfl, rfl, G5.live L4, P5, upd_same, by rw [(leaves_ts _ _).1]; exact ht, he, fun b n' q => ?_, fun g6 H6 G6 ⟨y6, P6⟩ => ?_⟩
    · subst q
      obtain ⟨q1, q2, _, _⟩ := M4.atOwn he hnt
      exact ⟨q1, q2⟩
    refine ⟨_, g6, y6, rfl, (G4.trans G5).trans G6, ?_, (R4.keep G5 rfl).keep G6 rfl, ?_⟩
    · rw [e2, leaves_snoc]
      refine (M4.leave he hnt).perm fun z => ?_
      rw [List.append_nil, List.append_nil, List.mem_append, List.mem_cons, List.mem_singleton]
      exact ⟨fun q => q.elim .inr .inl, fun q => q.elim .inr .inl⟩
    · rw [e2, leaves_snoc]
      exact P6
  · rintro σ H4 ⟨v6, g4, y4, rfl, G4, M4, R4, P4⟩
    have eT : (pgsE (S.pl t)).take ((pgsE (S.pl t)).map V.int).length = pgsE (S.pl t) := by rw [List.length_map, List.take_length]
    rw [eT] at M4 P4
    have L4 := G4.live L3
    obtain ⟨G5, P5⟩ := P4.popTab L4 t
    refine ⟨_, rfl, r, cRo K, dx, _, _, rfl, R4.h, T.c_Rooms, T.a_Rooms_paging, roF_paging p, p, cPa K, y4.dx, _, _, rfl, P4.pob.h, T.c_Paging, T.a_Paging_tables, paF_tables _ _ _ _ _ _, y4.td, rfl, .inl ⟨_, .inl P4.tdi.h⟩, _, rfl, _, Sum.inl t, _, P4.tdi.h, rfl, by rw [liK_val]; exact ev, ?_⟩
    rw [liK_drop]
    exact k _ g4 _ ((G0.trans G4).trans G5) ⟨dx, p, _, y4, R4.keep G5 rfl, P5, X.gx.close t⟩
end

-- part K9Y
/-! #### copy -/
theorem Std.congr {S : PS} {pk pk' : Int × Int → Int} {D : List (Int × Int)} (x : Std S pk D) (h : ∀ z, (S.e z).isSome = true → pk' z = pk z) : Std S pk' D :=
  ⟨fun z hz hd => by rw [h z hz]; exact x.bl z hz hd, fun z y hz hy dz dy bz b_y => by rw [h z hz, h y hy]; exact x.eq z y hz hy dz dy bz b_y⟩
def cpk (pk : Int × Int → Int) (t u : Int) : Int × Int → Int := fun z => if z.1 = u then pk (t, z.2) else pk z
/-- pages l of t's room are copied to u's -/
structure Cpd (S : PS) (t u : Int) (l : List Int) (S1 : PS) : Prop where
  ts : S1.ts = S.ts ++ [u]
  fr : S1.fr = S.fr
  sl : S1.sl = S.sl
  e : ∀ z, S1.e z = if z.1 = u then (if z.2 ∈ l then S.e (t, z.2) else none) else S.e z
  gx : Gx S1 []
  tot : S1.total ≤ S.total + l.length
  st : ∀ pk, Std S pk [] → Std S1 (cpk pk t u) []
theorem begin_total {S : PS} (x : Gx S []) {t : Int} (ht : t ∉ S.ts) : (S.begin t).total ≤ S.total := total_le (nd_snoc x.tsn ht) fun z hz => by
  obtain ⟨_, _, h⟩ := all_raw.mp hz
  exact x.allMem.mpr h
theorem Cpd.nil {S : PS} (x : Gx S []) {t u : Int} (hu : u ∉ S.ts) : Cpd S t u [] (S.begin u) := by
  have e0 : ∀ z : Int × Int, z.1 = u → S.e z = none := fun z hz => by
    show S.pl z.1 z.2 = none
    rw [hz]
    exact x.off u z.2 hu
  refine ⟨rfl, rfl, rfl, fun z => ?_, x.begin hu, begin_total x hu, fun pk st => ?_⟩
  · show S.e z = _
    by_cases h : z.1 = u
    · rw [if_pos h, if_neg (by simp), e0 z h]
    · rw [if_neg h]
  · have s1 : Std (S.begin u) pk [] := st.same rfl
    refine s1.congr fun z hz => ?_
    unfold cpk
    rw [if_neg fun q => ?_]
    have : (S.e z).isSome = true := hz
    rw [e0 z q] at this
    cases this
theorem Cpd.snoc {S S1 : PS} {t u : Int} {l : List Int} (a : Cpd S t u l S1) {q : Int} {e : Ent} (htu : t ≠ u) (hq : 0 ≤ q ∧ q < 64) (hl : q ∉ l) (he : S.e (t, q) = some e) (hr : S.total + (l.length + 1) ≤ S.fr + S.sl) : Cpd S t u (l ++ [q]) (S1.share (u, q) e) := by
  obtain ⟨f1, f2, f3⟩ := share_ts S1 (u, q) e
  have e1 : S1.e (u, q) = none := by rw [a.e, if_pos rfl, if_neg hl]
  have e2 : S1.e (t, q) = some e := by rw [a.e, if_neg htu, he]
  have tt := share_total (z := (u, q)) (e := e) a.gx
  refine ⟨f1.trans a.ts, f2.trans a.fr, f3.trans a.sl, fun z => ?_, ?_, ?_, fun pk st => ?_⟩
  · rw [share_e, a.e]
    by_cases h : z = (u, q)
    · rw [if_pos h, h, if_pos rfl, if_pos (by simp)]
      exact he.symm
    · rw [if_neg h]
      by_cases h1 : z.1 = u
      · have h2 : z.2 ≠ q := fun k => h (Prod.ext h1 k)
        rw [if_pos h1, if_pos h1]
        by_cases h3 : z.2 ∈ l
        · rw [if_pos h3, if_pos (by simp [h3])]
        · rw [if_neg h3, if_neg (by simp [h3, h2])]
      · rw [if_neg h1, if_neg h1]
  · refine a.gx.share (by rw [a.ts]; simp) hq e1 (fun b n k => ⟨(t, q), by rw [e2, k]⟩) ?_
    rw [a.fr, a.sl]
    have := a.tot
    omega
  · rw [List.length_append]
    have := a.tot
    show _ ≤ S.total + (l.length + 1)
    omega
  · have s2 := (a.st pk st).share (z := (u, q)) (e := e) e1 (c := pk (t, q)) (.inr ⟨(t, q), e2, by unfold cpk; rw [if_neg htu]⟩)
    refine s2.congr fun z _ => ?_
    unfold upk
    by_cases h : z = (u, q)
    · rw [if_pos h, h]
      unfold cpk
      rw [if_pos rfl]
    · rw [if_neg h]
section
variable {P : Program} {w : World} {K : PySem.W.Frag} {mg : Str → Option Value} {base : Heap}
def spCopy (K : PySem.W.Frag) : Sp := Sp3 fun x v w H Q E => ∃ (g : Col) (r : Addr) (S : PS) (t u : Int), x = .ref r ∧ v = .int t ∧ w = .int u ∧ Live g H ∧ RoA K g H r S ∧ S.ts.length < 1000 ∧
  (∀ nm, nm ∈ excN → ∀ H', Same H H' → E (xC K nm) none H') ∧
  (t ∈ S.ts → u ∉ S.ts → Out isRm g H (fun g' H' => ∃ S1, RoA K g' H' r S1 ∧ Cpd S t u (pgsE (S.pl t)) S1) (Q .non))
theorem ok_Copy (T : Tx K mg) : Okp P w K mg base 5 (He.fAd K ("Rooms", some "copy")) ["self", "task", "other"] (spCopy K) := by
  refine okx len3 T.f_Rooms_copy sc_Rooms_copy fun cdv A outer s0 H vs Q E hr h => ?_
  obtain ⟨_, _, _, rfl, g, r, S, t, u, rfl, rfl, rfl, L, ⟨dx, p, kt, y, X⟩, hl, kx, k⟩ := h
  have nd := sc_Rooms_copy.nd
  have hu := hu_of hr
  have tk := L2N.takes_of (X := cxOf (L2N.CX P w) P w K mg base ["self", "task", "other", "table", "page"] "Rooms.copy" (defScope st_Rooms_copy) (He.fAd K ("Rooms", some "copy")) cdv A outer s0 H E) rfl rfl rfl rfl
  refine ⟨_, pss_cons (ps_set (i := 3) nd rfl (Or.inl rfl) (pe_mx tk (pv 0) T.c_Rooms T.m_Rooms_table_of (ok_TableOf T) (hr.mono (by decide)) (pa_cons (pv 1) pa_nil)))
    (pss_cons (ps_if (pt_cmp (pc_din hu (pv 2) (pe_fld (pe_fld (pv 0) rfl) rfl)) (by rfl)) (pss_one (ps_rz rfl tk T.e_Taken T.g_Taken rfl)) pss_nil)
    (pss_cons (ps_expr (pe_mx tk (pv 0) T.c_Rooms T.m_Rooms_ask_room (ok_Ask T) (hr.mono (by decide)) (pa_cons (pe_callB call_len_seq (by rfl) T.n_len PySem.boot_len (pa_cons (pe_m0 (pv 3) T.c_Table T.m_Table_pages (ok_TaPages T) (hr.mono (by decide))) pa_nil)) pa_nil)))
    (pss_cons (ps_dput hu (pe_fld (pe_fld (pv 0) rfl) rfl) (pv 2) (pe_mk0 T.k_Table (ok_TaInit T) T.g_Table (hr.mono (by decide))) rfl)
    (pss_one (ps_for (passes_of rfl) rfl (pi_list (pe_m0 (pv 3) T.c_Table T.m_Table_pages (ok_TaPages T) (hr.mono (by decide)))) (pg_name (i := 4) nd rfl (Or.inl rfl))
      (pss_one (ps_expr (pe_m (pe_fld (pv 0) rfl) T.c_Paging T.m_Paging_share (ok_Share T) hr (pa_cons (pe_tup (pa_cons (pv 2) (pa_cons (pv 4) pa_nil))) (pa_cons (pe_m (pv 3) T.c_Table T.m_Table_get (ok_TaGet T) (hr.mono (by decide)) (pa_cons (pv 4) pa_nil)) pa_nil)))))))))), ?_⟩
  refine ⟨_, rfl, r, dx, _, rfl, X.rob.h, by kernel_rfl, _, rfl, _, _, rfl, g, r, S, t, dx, p, kt, y, rfl, rfl, X, fun _ => kx "NoTask" (by decide +kernel) H (Same.refl H), fun ht a m ev TA RM => ?_⟩
  refine ⟨_, rfl, _, rfl, r, cRo K, dx, _, _, rfl, X.rob.h, T.c_Rooms, T.a_Rooms_paging, roF_paging p, p, cPa K, y.dx, _, _, rfl, X.pag.pob.h, T.c_Paging, T.a_Paging_tables, paF_tables _ _ _ _ _ _, y.td, _, rfl, DGet.k (k := Sum.inl u) X.pag.tdi.h, _, rfl, ?_⟩
  rw [liK_val]
  by_cases hut : u ∈ S.ts
  · obtain ⟨v, ev⟩ := valV_some (kvs := kt) (k := u) (by rw [X.pag.tks]; exact hut)
    rw [ev]
    exact iteT (kx "Taken" (by decide +kernel) H (Same.refl H))
  have hn : valV kt u = none := by
    cases e : valV kt u with
    | none => rfl
    | some v => exact absurd (valV_in e) (by rw [X.pag.tks]; exact hut)
  rw [hn]
  refine iteF ?_
  have htu : t ≠ u := fun q => hut (by rw [← q]; exact ht)
  have k := k ht hut
  obtain ⟨tx, F, kf, q1, _⟩ := id TA.ex
  refine ⟨_, rfl, r, dx, _, rfl, X.rob.h, by kernel_rfl, _, rfl, a, tx, _, rfl, q1.h, by kernel_rfl, _, rfl, g, t, a, m, rfl, TA, fun q0 H1 s1 hq0 hq1 => ?_⟩
  rw [RM.pgs] at hq1
  have X1 := X.same L s1
  have L1 : Live g H1 := (Grow.same (R := fun _ => false) L s1).live L
  refine ⟨q0, _, rfl, .inl (SqL.of hq1), ?_⟩
  refine ⟨_, _, rfl, g, r, S, _, rfl, rfl, L1, ⟨dx, p, kt, y, X1⟩, fun _ H3 s3 => kx "NoRoom" (by decide +kernel) H3 (s1.trans s3), fun hroom H3 s3 => ?_⟩
  rw [List.length_map] at hroom
  have sA := s1.trans s3
  have X3 := X.same L sA
  have L3 : Live g H3 := (Grow.same (R := fun _ => false) L sA).live L
  have G0 : Grow isRm g H g H3 := Grow.same L sA
  -- the new table
  intro x xd hx hxd ne
  have Ga : Grow (fun _ => false) g H3 g (upd H3 xd (.own x)) := Grow.temp L3 hxd
  have La := Ga.live L3
  have hx' : upd H3 xd (.own x) x = none := by rw [upd_ne ne.symm]; exact hx
  have Gb : Grow (isTa u) g (upd H3 xd (.own x)) (updC g x (.tob u)) (upd (upd H3 xd (.own x)) x (.ins (cTa K) xd [])) := Grow.made La hx' (by simp [isTa])
  have Lb := Gb.live La
  refine ⟨_, rfl, _, u, x, xd, rfl, Lb, Pt.mk', fun g1 H4 G1 TA1 => ⟨rfl, ?_⟩⟩
  have GA : Grow (isTa u) g H3 g1 H4 := ((Ga.mono (by intro r h; cases h)).trans Gb).trans G1
  have L4 := GA.live L3
  have GA' := GA.mono isTa_rm
  have hob := X3.rob.keep GA rfl
  have X4 : PagL K g1 H4 p S kt y := { X3.pag with
    pob := X3.pag.pob.keep GA rfl
    sdi := X3.pag.sdi.keep GA rfl
    sto := fun c => (X3.pag.sto c).keep GA fun r h => by cases r <;> simp_all [isSt, isTa]
    tdi := X3.pag.tdi.keep GA rfl
    tab := fun u' v e => by
      have ne : u' ≠ u := fun q => by rw [q, hn] at e; cases e
      obtain ⟨b, m, h1, h2, h3⟩ := X3.pag.tab u' v e
      exact ⟨b, m, h1, h2.keep GA fun r h => by cases r <;> simp_all [isTa], h3.keep GA.tup⟩
    odi := X3.pag.odi.keep GA rfl
    inn := fun b k v e => let ⟨a, h1, h2⟩ := X3.pag.inn b k v e; ⟨a, h1, h2.keep GA rfl⟩ }
  obtain ⟨dp, G5, X5⟩ := X4.addTab L4 hut hl (fun q => X.gx.off u q hut) TA1
  have L5 := G5.live L4
  have hob5 := hob.keep G5 rfl
  refine ⟨_, rfl, r, cRo K, dx, _, _, rfl, hob.h, T.c_Rooms, T.a_Rooms_paging, roF_paging p, p, cPa K, y.dx, _, _, rfl, X4.pob.h, T.c_Paging, T.a_Paging_tables, paF_tables _ _ _ _ _ _, _, rfl, y.td, _, rfl, dp, ?_⟩
  have G05 := (G0.trans GA').trans G5
  generalize upd H4 y.td (.dK (liK (putK kt u (.ref x)))) = H5 at *
  have evt : valV (putK kt u (.ref x)) t = some (.ref a) := by rw [valV_put, if_neg htu]; exact ev
  -- table.pages() again
  obtain ⟨a5, m5, e5, TA5, RM5⟩ := X5.tab t _ evt
  cases e5
  have RM5 : RelM K H5 (S.pl t) m5 := RM5
  obtain ⟨tx5, F5, kf5, q5, _⟩ := id TA5.ex
  refine ⟨_, rfl, a, tx5, _, rfl, q5.h, by kernel_rfl, _, rfl, g1, t, a, m5, rfl, TA5, fun q H6 s6 hq0 hq6 => ?_⟩
  rw [RM5.pgs] at hq6
  have L6 : Live g1 H6 := (Grow.same (R := fun _ => false) L5 s6).live L5
  have X6 := X5.same L5 s6
  have hob6 : Pt g1 .rob H6 r (.ins (cRo K) dx (roF p)) := ⟨hob5.c, s6 _ _ hob5.h⟩
  have FQ : Fz g1 H6 q (.lst ((pgsE (S.pl t)).map V.int)) := ⟨by rw [L5.none hq0], hq6⟩
  have G06 : Grow isRm g H g1 H6 := G05.trans (Grow.same L5 s6)
  refine ⟨q, rfl, ⟨_, SqL.of hq6⟩, for_list (K := K) (a := q) (xs := (pgsE (S.pl t)).map V.int) (fun i σ H7 => ∃ (v6 : Option V) (g7 : Col) (S7 : PS) (y7 : Ly), σ = [some (.ref r), some (.int t), some (.int u), some (.ref a), v6] ∧ Grow isRm g1 H6 g7 H7 ∧
    Cpd S t u ((pgsE (S.pl t)).take i) S7 ∧ Pt g7 .rob H7 r (.ins (cRo K) dx (roF p)) ∧ PagL K g7 H7 p S7 (putK kt u (.ref x)) y7) ?_ ?_ ?_ ?_⟩
  · exact ⟨none, g1, S.begin u, y, rfl, Grow.refl L6, Cpd.nil X.gx hut, hob6, X6⟩
  · rintro i σ H7 hi ⟨v6, g7, S7, y7, rfl, G7, M7, R7, P7⟩
    exact SqL.of (FQ.keep G7).h
  · rintro i x7 σ H7 hx7 ⟨v6, g7, S7, y7, rfl, G7, M7, R7, P7⟩
    obtain ⟨pg, hpg, rfl⟩ := at_map hx7
    have L7 := G7.live L6
    have hmem : pg ∈ pgsE (S.pl t) := List.mem_of_getElem? hpg
    obtain ⟨hpg64, hsome⟩ := pgsE_mem.mp hmem
    have hil : i < (pgsE (S.pl t)).length := (List.getElem?_eq_some_iff.mp hpg).1
    have hni : pg ∉ (pgsE (S.pl t)).take i := fun q => by
      obtain ⟨j, hj⟩ := List.getElem?_of_mem q
      have hj1 := (List.getElem?_eq_some_iff.mp hj).1
      rw [List.length_take] at hj1
      rw [List.getElem?_take_of_lt (by omega)] at hj
      have := lt_of_rises (pgsE_rises (S.pl t)) (i := j) (j := i) (by omega) hj hpg
      omega
    have e2 : (pgsE (S.pl t)).take (i + 1) = (pgsE (S.pl t)).take i ++ [pg] := by rw [List.take_add_one, hpg]; rfl
    have hlt : ((pgsE (S.pl t)).take i).length = i := by rw [List.length_take]; omega
    obtain ⟨e, he⟩ : ∃ e, S.e (t, pg) = some e := by
      have h : (S.pl t pg).isSome = true := hsome
      cases e : S.pl t pg with
      | none => rw [e] at h; cases h
      | some v => exact ⟨v, e⟩
    have he7 : S7.e (t, pg) = some e := by rw [M7.e, if_neg htu]; exact he
    refine ⟨_, rfl, r, cRo K, dx, _, _, rfl, R7.h, T.c_Rooms, T.a_Rooms_paging, roF_paging p, p, y7.dx, _, rfl, P7.pob.h, by kernel_rfl, _, rfl, _, rfl, (by show 2 ≤ sizeLine; decide), fun tp htp => ?_⟩
    have G8 : Grow isRm g7 H7 g7 (upd H7 tp (.tup [.int u, .int pg])) := Grow.temp L7 htp
    have P8 := P7.keep (R := fun _ => false) (Grow.temp L7 htp (o := .tup [.int u, .int pg])) fun _ _ => rfl
    obtain ⟨a8, m8, e8, TA8, RM8⟩ := P8.tab t _ evt
    cases e8
    obtain ⟨v8, hv8, hE8⟩ := RM8.is pg e he7
    obtain ⟨tx8, F8, kf8, q8, _⟩ := id TA8.ex
    refine ⟨_, rfl, a, tx8, _, rfl, q8.h, by kernel_rfl, _, rfl, _, _, rfl, g7, t, a, m8, pg, rfl, rfl, TA8, ?_⟩
    rw [hv8]
    have fin : ∀ S9 g9 H9, S9 = S7.share (u, pg) e → Grow isRm g7 (upd H7 tp (.tup [.int u, .int pg])) g9 H9 → PagA K g9 H9 p S9 (putK kt u (.ref x)) → ∃ (v6 : Option V) (g7' : Col) (S7' : PS) (y7 : Ly), ([some (.ref r), some (.int t), some (.int u), some (.ref a), some (.int pg)] : L2.St) = [some (.ref r), some (.int t), some (.int u), some (.ref a), v6] ∧ Grow isRm g1 H6 g7' H9 ∧
        Cpd S t u ((pgsE (S.pl t)).take (i + 1)) S7' ∧ Pt g7' .rob H9 r (.ins (cRo K) dx (roF p)) ∧ PagL K g7' H9 p S7' (putK kt u (.ref x)) y7 := by
      rintro S9 g9 H9 rfl G9 ⟨y9, P9⟩
      refine ⟨_, g9, _, y9, rfl, (G7.trans G8).trans G9, ?_, (R7.keep G8 rfl).keep G9 rfl, P9⟩
      rw [e2]
      exact M7.snoc htu hpg64 hni he (by rw [hlt]; omega)
    have tin : u ∈ S7.ts := by rw [M7.ts]; simp
    cases e with
    | blank => exact ⟨_, _, _, rfl, g7, p, S7, _, y7, tp, (u, pg), .blank, rfl, rfl, G8.live L7, P8, upd_same, hE8, tin, hpg64.1, hpg64.2, fun g9 H9 G9 P9 => fin _ g9 H9 rfl G9 P9⟩
    | «at» b n' =>
      obtain ⟨q1, ⟨c, q2⟩, q3, q4⟩ := M7.gx.atOwn he7 (by simp)
      refine ⟨_, _, _, rfl, g7, p, S7, _, y7, tp, (u, pg), .at b n', rfl, rfl, G8.live L7, P8, upd_same, hE8, tin, hpg64.1, hpg64.2, c, q2, q4, Nat.lt_of_le_of_lt (M7.gx.few b n') (by decide), fun g9 H9 G9 P9 => fin _ g9 H9 ?_ G9 P9⟩
      show _ = PS.lay { S7 with own := updB S7.own b ((S7.own b).set n' (((S7.own b)[n']?).getD 0 + 1)) } (u, pg) (.at b n')
      rw [q2]
      rfl
  · rintro σ H7 ⟨v6, g7, S7, y7, rfl, G7, M7, R7, P7⟩
    rw [List.length_map, List.take_length] at M7
    exact k g7 H7 (G06.trans G7) ⟨S7, ⟨dx, p, _, y7, R7, P7, M7.gx⟩, M7⟩
end

-- part K9C
/-! #### stretches -/
def sBd (a e : Int) (i : Nat) : Int := if i = 0 then a else if 8 * (a / 8 + i) < e then 8 * (a / 8 + i) else e
def sCnt (a e : Int) : Nat := if a < e then ((e - 1) / 8 - a / 8 + 1).toNat else 0
def sSt (a e : Int) (i : Nat) : Int × Int × Int := (a / 8 + i, sBd a e i - 8 * (a / 8 + i), sBd a e (i + 1) - 8 * (a / 8 + i))
structure SOk (a e : Int) : Prop where
  h : a = e ∨ (0 ≤ a ∧ a < e ∧ e ≤ 512)
theorem sBd_in {a e : Int} (h : SOk a e) {i : Nat} (hi : i < sCnt a e) : 0 ≤ sBd a e i ∧ sBd a e i < e ∧ sBd a e i / 8 = a / 8 + i ∧ sBd a e i % 8 = sBd a e i - 8 * (a / 8 + i) ∧ i < 64 ∧ 0 ≤ a ∧ a < e ∧ e ≤ 512 ∧ a / 8 + i < 64 := by
  have h0 := h.h
  unfold sCnt at hi
  by_cases q : a < e
  · rw [if_pos q] at hi
    have hh : 0 ≤ a ∧ a < e ∧ e ≤ 512 := h0.resolve_left (by omega)
    have e1 : sBd a e i = if i = 0 then a else 8 * (a / 8 + i) := by
      unfold sBd
      by_cases z : i = 0
      · rw [if_pos z, if_pos z]
      · rw [if_neg z, if_neg z, if_pos (by omega)]
    rw [e1]
    by_cases z : i = 0
    · rw [if_pos z]
      omega
    · rw [if_neg z]
      omega
  · rw [if_neg q] at hi
    omega
theorem sBd_next {a e : Int} (h : SOk a e) {i : Nat} (hi : i < sCnt a e) : (if (sBd a e i / 8 + 1) * 8 < e then (sBd a e i / 8 + 1) * 8 else e) = sBd a e (i + 1) := by
  obtain ⟨h1, h2, h3, h4, h5, _⟩ := sBd_in h hi
  rw [h3]
  unfold sBd
  rw [if_neg (show ¬ (i + 1 = 0) by omega)]
  have e1 : (a / 8 + (i : Int) + 1) * 8 = 8 * (a / 8 + ((i + 1 : Nat) : Int)) := by omega
  rw [e1]
theorem sBd_end {a e : Int} (h : SOk a e) {i : Nat} (hi : ¬ i < sCnt a e) (hi2 : i ≤ sCnt a e) : ¬ sBd a e i < e := by
  have h0 := h.h
  unfold sCnt at hi hi2
  by_cases q : a < e
  · rw [if_pos q] at hi hi2
    unfold sBd
    by_cases z : i = 0
    · omega
    · rw [if_neg z]
      split <;> omega
  · rw [if_neg q] at hi hi2
    have : i = 0 := by omega
    unfold sBd
    rw [if_pos this]
    omega
theorem sSt_ok {a e : Int} (h : SOk a e) {i : Nat} (hi : i < sCnt a e) : 0 ≤ (sSt a e i).2.1 ∧ (sSt a e i).2.1 < (sSt a e i).2.2 ∧ (sSt a e i).2.2 ≤ 8 := by
  obtain ⟨h1, h2, h3, h4, h5, h6, h7, h8, _⟩ := sBd_in h hi
  have hn := sBd_next h hi
  unfold sSt
  show 0 ≤ sBd a e i - _ ∧ sBd a e i - _ < sBd a e (i + 1) - _ ∧ sBd a e (i + 1) - _ ≤ 8
  rw [← hn]
  split <;> omega
def stsL (a e : Int) : List (Int × Int × Int) := (List.range (sCnt a e)).map (sSt a e)
theorem stsL_len (a e : Int) : (stsL a e).length = sCnt a e := by unfold stsL; rw [List.length_map, List.length_range]
theorem stsL_at {a e : Int} {i : Nat} {s : Int × Int × Int} (h : (stsL a e)[i]? = some s) : i < sCnt a e ∧ s = sSt a e i := by
  have h1 := (List.getElem?_eq_some_iff.mp h).1
  rw [stsL_len] at h1
  unfold stsL at h
  rw [List.getElem?_map, List.getElem?_range h1] at h
  exact ⟨h1, (Option.some.inj h).symm⟩
theorem sCnt64 {a e : Int} (h : SOk a e) : sCnt a e ≤ 64 := by
  by_cases q : sCnt a e = 0
  · omega
  · have := (sBd_in h (i := sCnt a e - 1) (by omega)).2.2.2.2.1
    omega
abbrev StrL (H : Hp) (l : List (Int × Int × Int)) (bs : List Addr) : Prop := Paired (fun (s : Int × Int × Int) (b : Addr) => H b = some (.tup [.int s.1, .int s.2.1, .int s.2.2])) l bs
theorem StrL.keep {H H' : Hp} {l : List (Int × Int × Int)} {bs : List Addr} (x : StrL H l bs) (k : ∀ a xs, H a = some (.tup xs) → H' a = some (.tup xs)) : StrL H' l bs := Paired.mapP x fun _ _ h => k _ _ h
theorem StrL.snoc {H : Hp} : ∀ {l : List (Int × Int × Int)} {bs : List Addr} {s : Int × Int × Int} {b : Addr}, StrL H l bs → H b = some (.tup [.int s.1, .int s.2.1, .int s.2.2]) → StrL H (l ++ [s]) (bs ++ [b])
  | _, _, _, _, .nil, h => .cons h .nil
  | _, _, _, _, .cons r t, h => .cons r (StrL.snoc t h)
theorem StrL.at {H : Hp} : ∀ {l : List (Int × Int × Int)} {bs : List Addr} {i : Nat} {b : Addr}, StrL H l bs → bs[i]? = some b → ∃ s, l[i]? = some s ∧ H b = some (.tup [.int s.1, .int s.2.1, .int s.2.2])
  | _, _, _, _, .nil, h => by simp at h
  | _, _, 0, _, .cons r _, h => by simp at h; subst h; exact ⟨_, rfl, r⟩
  | _, _, i + 1, b, .cons _ t, h => by
    obtain ⟨x, h1, h2⟩ := StrL.at (i := i) t (by simpa using h)
    exact ⟨x, by simpa using h1, h2⟩
section
variable {P : Program} {w : World} {K : PySem.W.Frag} {mg : Str → Option Value} {base : Heap}
def spStrOf (K : PySem.W.Frag) : Sp := Sp2 fun x v H Q E => ∃ (a n : Int), x = .int a ∧ v = .int n ∧ SOk a (a + n) ∧
  ∀ q H' bs, Same H H' → H q = none → H' q = some (.lst (bs.map V.ref)) → StrL H' (stsL a (a + n)) bs → Q (.ref q) H'
theorem ok_StrOf (T : Tx K mg) : Okp P w K mg base 1 (He.fAd K ("stretches_of", none)) ["address", "many"] (spStrOf K) := by
  refine okn len2 T.f_stretches_of sc_stretches_of fun cdv A outer s0 H vs Q E hr h => ?_
  obtain ⟨_, _, rfl, a, n, rfl, rfl, ok, k⟩ := h
  obtain ⟨ti, hti⟩ := T.i_PAGE_SIZE
  have nd := sc_stretches_of.nd
  refine ⟨_, pss_cons (ps_set (i := 2) nd rfl (Or.inl rfl) (pe_lst pa_nil))
    (pss_cons (ps_set (i := 3) nd rfl (Or.inl rfl) (pv 0))
    (pss_cons (ps_while PassesOwn.never (pt_cmpR op_lt (pv 3) (pe_op op_add (pv 0) (pv 1)) (nomark _))
      (pss_cons (ps_set (i := 4) nd rfl (Or.inl rfl) (pe_callB (call_min2 rfl) (by rfl) T.n_min (by decide +kernel) (pa_cons (pe_op op_add (pv 0) (pv 1)) (pa_cons (pe_op op_mul (pe_op op_add (pe_op op_fdiv (pv 3) (pe_glob (v := .int 8) rfl hti ⟨_, rfl⟩)) pe_int) (pe_glob (v := .int 8) rfl hti ⟨_, rfl⟩)) pa_nil))))
      (pss_cons (ps_expr (pe_bm PySem.F.plainAttrs_list PySem.F.slot_list_append PySem.F.type_list_append mt_append (pv 2) (pa_cons (pe_tup (pa_cons (pe_op op_fdiv (pv 3) (pe_glob (v := .int 8) rfl hti ⟨_, rfl⟩)) (pa_cons (pe_op op_mod (pv 3) (pe_glob (v := .int 8) rfl hti ⟨_, rfl⟩)) (pa_cons (pe_op op_sub (pe_op op_add (pe_op op_mod (pv 3) (pe_glob (v := .int 8) rfl hti ⟨_, rfl⟩)) (pv 4)) (pv 3)) pa_nil)))) pa_nil)))
      (pss_one (ps_set (i := 3) nd rfl (Or.inl rfl) (pv 4))))))
    (pss_one (ps_ret (pv 2))))), ?_⟩
  refine ⟨by decide, fun q hq => ?_⟩
  have hq0 : H q = none := hq
  refine ⟨_, rfl, while_by (fun σ H2 => ∃ (i : Nat) (v4 : Option V) (bs : List Addr), i ≤ sCnt a (a + n) ∧ σ = [some (.int a), some (.int n), some (.ref q), some (.int (sBd a (a + n) i)), v4] ∧ Same H H2 ∧ H2 q = some (.lst (bs.map V.ref)) ∧ StrL H2 ((stsL a (a + n)).take i) bs)
    (fun σ _ => match σ with | [_, _, _, some (.int z), _] => (a + n - z).toNat | _ => 0) ?_ ?_ ?_⟩
  · exact ⟨0, none, [], Nat.zero_le _, rfl, same_new (Same.refl H) hq, upd_same, .nil⟩
  · rintro σ H2 ⟨i, v4, bs, hi, rfl, s2, hq2, hS⟩
    refine ⟨_, rfl, _, rfl, _, rfl, _, _, rfl, rfl, _, _, rfl, rfl, _, rfl, ?_⟩
    by_cases hic : i < sCnt a (a + n)
    · obtain ⟨b1, b2, b3, b4, b5, b6, b7, b8, b9⟩ := sBd_in ok hic
      have bn := sBd_next ok hic
      rw [decide_eq_true b2]
      refine iteT ?_
      refine ⟨_, rfl, _, rfl, _, _, rfl, rfl, _, rfl, _, _, rfl, rfl, ⟨by decide, by decide⟩, _, _, rfl, rfl, _, _, rfl, rfl, .inl ⟨by omega, by omega⟩, _, _, rfl, ?_⟩
      rw [bn]
      refine ⟨_, rfl, .inl ⟨rfl, _, SqL.of hq2⟩, _, rfl, _, _, rfl, rfl, ⟨by decide, by decide⟩, _, rfl, _, _, rfl, rfl, (by show (0 : Int) < 8; decide), _, rfl, _, _, rfl, rfl, (by show (0 : Int) < 8; decide), _, rfl, _, _, rfl, rfl, _, rfl, _, _, rfl, rfl, (by show 3 ≤ sizeLine; decide), fun tp htp => ?_⟩
      have hc := sCnt64 ok
      have hlb : bs.length = i := by
        have := Paired.length hS
        rw [List.length_take, stsL_len] at this
        omega
      have ne : q ≠ tp := fun e => by rw [← e, hq2] at htp; cases htp
      refine ⟨q, _, _, rfl, rfl, by rw [upd_ne ne]; exact hq2, by rw [List.length_map]; exact small1000 (by omega), ?_⟩
      refine ⟨_, rfl, ⟨i + 1, _, bs ++ [tp], hic, rfl, same_new (same_new s2 (s2.free htp)) hq0, ?_, ?_⟩, ?_⟩
      · rw [upd_same, List.map_append]
        rfl
      · have e1 : (stsL a (a + n)).take (i + 1) = (stsL a (a + n)).take i ++ [sSt a (a + n) i] := by
          rw [List.take_add_one]
          unfold stsL
          rw [List.getElem?_map, List.getElem?_range hic]
          rfl
        rw [e1]
        have kp : ∀ o, ∀ b xs, H2 b = some (.tup xs) → upd (upd H2 tp o) q (.lst (bs.map V.ref ++ [V.ref tp])) b = some (.tup xs) := fun o b xs e => by
          have n1 : b ≠ tp := fun z => by rw [z, htp] at e; cases e
          have n2 : b ≠ q := fun z => by rw [z, hq2] at e; cases e
          rw [upd_ne n2, upd_ne n1]
          exact e
        refine StrL.snoc (hS.keep (kp _)) ?_
        rw [upd_ne ne.symm, upd_same]
        have c1 : sBd a (a + n) i / 8 = (sSt a (a + n) i).1 := b3
        have c2 : sBd a (a + n) i % 8 = (sSt a (a + n) i).2.1 := b4
        have c3 : (sSt a (a + n) i).2.1 + sBd a (a + n) (i + 1) - sBd a (a + n) i = (sSt a (a + n) i).2.2 := by
          show (sBd a (a + n) i - 8 * (a / 8 + (i : Int))) + sBd a (a + n) (i + 1) - sBd a (a + n) i = sBd a (a + n) (i + 1) - 8 * (a / 8 + (i : Int))
          omega
        show some (HO.tup [V.int (sBd a (a + n) i / 8), V.int (sBd a (a + n) i % 8), V.int (sBd a (a + n) i % 8 + sBd a (a + n) (i + 1) - sBd a (a + n) i)]) = _
        rw [c1, c2, c3]
      · show (a + n - sBd a (a + n) (i + 1)).toNat < (a + n - sBd a (a + n) i).toNat
        have : sBd a (a + n) i < sBd a (a + n) (i + 1) := by
          rw [← bn]
          split <;> omega
        omega
    · rw [decide_eq_false (sBd_end ok hic hi)]
      refine iteF ?_
      have e : (stsL a (a + n)).take i = stsL a (a + n) := List.take_of_length_le (by rw [stsL_len]; omega)
      rw [e] at hS
      exact ⟨_, rfl, k q H2 bs s2 hq0 hq2 hS⟩
  · rintro σ H2 Q1 Q2 mono ⟨v, h1, v2, h2, v3, h3, i, j, e1, e2, i2, j2, e3, e4, k, e5, q⟩
    exact ⟨v, h1, v2, h2, v3, h3, i, j, e1, e2, i2, j2, e3, e4, k, e5, mono _ _ q⟩
end

-- part K9E
/-- addresses that can be peeked -/
structure PkOk (S : PS) (t a n : Int) : Prop where
  ht : t ∈ S.ts
  hn : 0 ≤ n
  ha : 0 < n → 0 ≤ a ∧ a + n ≤ 512
  hm : ∀ s, s ∈ stsL a (a + n) → (S.e (t, s.1)).isSome = true
theorem PkOk.sok {S : PS} {t a n : Int} (x : PkOk S t a n) : SOk a (a + n) := by
  refine ⟨?_⟩
  by_cases h : n = 0
  · exact .inl (by omega)
  · have := x.hn
    have := x.ha (by omega)
    exact .inr (by omega)
section
variable {P : Program} {w : World} {K : PySem.W.Frag} {mg : Str → Option Value} {base : Heap}
def tBadA : TT := fun σ H Q => ∃ n a : Int, σ[3]? = some (some (.int n)) ∧ σ[2]? = some (some (.int a)) ∧ Q (decide (n < 0 ∨ 0 < n ∧ (a < 0 ∨ 512 < a + n))) H
theorem pt_badA {X : Cx} {e : Expr} {t : TT} (h : PT X e t) (k : ∀ σ H Q, tBadA σ H Q → t σ H Q) : PT X e tBadA := ⟨fun pins s σ H Q I hw => h.run pins s σ H Q I (k σ H Q hw)⟩
theorem badA_ok {σ : L2.St} {H : Hp} {Q : Bool → Hp → Prop} {n a : Int} (h1 : σ[3]? = some (some (.int n))) (h2 : σ[2]? = some (some (.int a))) (q : Q (decide (n < 0 ∨ 0 < n ∧ (a < 0 ∨ 512 < a + n))) H) :
  tOr (tTest (tOp (rI0 fun i j => V.bl (decide (i < j))) (tVar 3) (tC (V.int 0))))
    (tAnd (tTest (tOp (rI0 fun i j => V.bl (decide (j < i))) (tVar 3) (tC (V.int 0))))
      (tOr (tTest (tOp (rI0 fun i j => V.bl (decide (i < j))) (tVar 2) (tC (V.int 0))))
        (tTest
          (tOp (rI0 fun i j => V.bl (decide (j < i))) (tOp (rI0 fun i j => V.int (i + j)) (tVar 2) (tVar 3))
            (tOp (rI CMul fun i j => V.int (i * j)) (tC (V.int 64)) (tC (V.int 8)))))))
    σ H Q := by
  have tr : (n < 0 ∨ 0 < n ∧ (a < 0 ∨ 512 < a + n)) → Q true H := fun z => by rw [decide_eq_true z] at q; exact q
  have fa : ¬ (n < 0 ∨ 0 < n ∧ (a < 0 ∨ 512 < a + n)) → Q false H := fun z => by rw [decide_eq_false z] at q; exact q
  refine ⟨_, h1, _, _, rfl, rfl, _, rfl, ite2 (fun z => tr ?_) fun z => ?_⟩
  · have := of_decide_eq_true z
    omega
  have z1 := nod z
  refine ⟨_, h1, _, _, rfl, rfl, _, rfl, ite2 (fun z => ?_) fun z => fa ?_⟩
  · have z2 := of_decide_eq_true z
    refine ⟨_, h2, _, _, rfl, rfl, _, rfl, ite2 (fun z => tr ?_) fun z => ?_⟩
    · have := of_decide_eq_true z
      omega
    have z3 := nod z
    refine ⟨_, h2, _, h1, _, _, rfl, rfl, _, _, rfl, rfl, .inl ⟨by decide, by decide⟩, _, _, rfl, rfl, _, rfl, ?_⟩
    by_cases z4 : 512 < a + n
    · have e : decide (64 * 8 < a + n) = true := decide_eq_true (by omega)
      rw [e]
      exact tr (by omega)
    · have e : decide (64 * 8 < a + n) = false := decide_eq_false (by omega)
      rw [e]
      exact fa (by omega)
  · have := nod z
    omega
def spStretch (K : PySem.W.Frag) : Sp := Sp4 fun x v u c H Q E => ∃ (g : Col) (r : Addr) (S : PS) (t a n : Int), x = .ref r ∧ v = .int t ∧ u = .int a ∧ c = .int n ∧ Live g H ∧ RoA K g H r S ∧
  (¬ PkOk S t a n → ∀ nm, nm ∈ excN → nm ≠ "NoRoom" → ∀ H', Same H H' → E (xC K nm) none H') ∧
  (PkOk S t a n → ∀ q H' bs, Same H H' → H q = none → H' q = some (.lst (bs.map V.ref)) → StrL H' (stsL a (a + n)) bs → Q (.ref q) H')
theorem ok_Stretch (T : Tx K mg) : Okp P w K mg base 3 (He.fAd K ("Rooms", some "stretches")) ["self", "task", "address", "many"] (spStretch K) := by
  refine okx len4 T.f_Rooms_stretches sc_Rooms_stretches fun cdv A outer s0 H vs Q E hr h => ?_
  obtain ⟨_, _, _, _, rfl, g, r, S, t, ad, n, rfl, rfl, rfl, rfl, L, ⟨dx, p, kt, y, X⟩, kx, k⟩ := h
  have nd := sc_Rooms_stretches.nd
  obtain ⟨ti, hti⟩ := T.i_PAGES
  obtain ⟨tj, htj⟩ := T.i_PAGE_SIZE
  have tk := L2N.takes_of (X := cxOf (L2N.CX P w) P w K mg base ["self", "task", "address", "many", "table", "found", "page", "low", "high"] "Rooms.stretches" (defScope st_Rooms_stretches) (He.fAd K ("Rooms", some "stretches")) cdv A outer s0 H E) rfl rfl rfl rfl
  refine ⟨_, pss_cons (ps_set (i := 4) nd rfl (Or.inl rfl) (pe_mx tk (pv 0) T.c_Rooms T.m_Rooms_table_of (ok_TableOf T) (hr.mono (by decide)) (pa_cons (pv 1) pa_nil)))
    (pss_cons (ps_if (pt_badA (PW.pt (pw_or (pt_cmpR op_lt (pv 3) pe_int (nomark _)) (pw_or1 (PW.pt (pw_and (pt_cmpR op_gt (pv 3) pe_int (nomark _)) (pw_and1 (PW.pt (pw_or (pt_cmpR op_lt (pv 2) pe_int (nomark _)) (pw_or1 (pt_cmpR op_gt (pe_op op_add (pv 2) (pv 3)) (pe_op op_mul (pe_glob (v := .int 64) rfl hti ⟨_, rfl⟩) (pe_glob (v := .int 8) rfl htj ⟨_, rfl⟩)) (nomark _))))))))))) (fun σ H Q ⟨n, a, h1, h2, q⟩ => badA_ok h1 h2 q))
      (pss_one (ps_rz rfl tk T.e_NoPage T.g_NoPage rfl)) pss_nil)
    (pss_cons (ps_set (i := 5) nd rfl (Or.inl rfl) (pe_c (ok_StrOf T) T.g_stretches_of (hr.mono (by decide)) (pa_cons (pv 2) (pa_cons (pv 3) pa_nil))))
    (pss_cons (ps_expr (pe_mx tk (pv 0) T.c_Rooms T.m_Rooms_look_mapped (ok_LookM T) hr (pa_cons (pv 4) (pa_cons (PE.nox (pe_lc (own := [("page", 6), ("low", 7), ("high", 8)]) (g := gTup K 3 (gCons (gName 6) (gCons (gName 7) (gCons (gName 8) gNil)))) (tt := tYes) (te := tVar 6) rfl nd (pi_list (pv 5)) (blkOk_by (N := ["self", "task", "address", "many", "table", "found", "page", "low", "high"]) (sc := defScope st_Rooms_stretches) (by decide +kernel))
      (fun _ _ _ _ _ => pg_tup rfl (pgs_cons (pg_name (i := 6) nd rfl (Or.inl rfl)) (pgs_cons (pg_name (i := 7) nd rfl (Or.inl rfl)) (pgs_cons (pg_name (i := 8) nd rfl (Or.inl rfl)) pgs_nil)))) (fun _ _ _ _ _ => pts_nil) (fun _ _ _ _ _ => pv 6))) pa_nil))))
    (pss_one (ps_ret (pv 5)))))), ?_⟩
  have nt : t ∉ S.ts → ∀ H', Same H H' → E (xC K "NoTask") none H' := fun h => kx (fun z => h z.ht) "NoTask" (by decide +kernel) (by decide +kernel)
  refine ⟨_, rfl, r, dx, _, rfl, X.rob.h, by kernel_rfl, _, rfl, _, _, rfl, g, r, S, t, dx, p, kt, y, rfl, rfl, X, fun h => nt h H (Same.refl H), fun ht a m ev TA RM => ?_⟩
  have bad : ¬ (0 ≤ n ∧ (0 < n → 0 ≤ ad ∧ ad + n ≤ 512)) → E (xC K "NoPage") none H := fun h => kx (fun z => h ⟨z.hn, z.ha⟩) "NoPage" (by decide +kernel) (by decide +kernel) H (Same.refl H)
  refine ⟨n, ad, rfl, rfl, ite2 (fun q => bad fun z => by have := of_decide_eq_true q; omega) fun q => ?_⟩
  have hok := nod q
  have sok : SOk ad (ad + n) := ⟨by omega⟩
  refine ⟨_, rfl, _, rfl, _, _, rfl, ad, n, rfl, rfl, sok, fun q0 H1 bs s1 hq0 hq1 hS => ?_⟩
  have X1 := X.same L s1
  have L1 : Live g H1 := (Grow.same (R := fun _ => false) L s1).live L
  refine ⟨_, rfl, r, dx, _, rfl, X1.rob.h, by kernel_rfl, _, rfl, _, rfl, q0, rfl, ⟨_, SqL.of hq1⟩, fun D hD => lc_list (K := K) (a := q0) (xs := bs.map V.ref) (fun i H2 => Same H1 H2 ∧ H2 D = some (.lst ((((stsL ad (ad + n)).take i).map (·.1)).map V.int))) ?_ ?_ ?_ ?_⟩
  · exact ⟨same_new (Same.refl H1) hD, by rw [upd_same]; rfl⟩
  · rintro i H2 hi ⟨s2, _⟩
    exact SqL.of (s2 _ _ hq1)
  · rintro i x H2 hx ⟨s2, hD2⟩
    obtain ⟨b, hb, rfl⟩ := ref_at hx
    obtain ⟨s, hs, hb2⟩ := hS.at hb
    have hb3 := s2 _ _ hb2
    refine ⟨b, _, rfl, SqT.of hb3, rfl, _, _, rfl, _, _, rfl, _, _, rfl, rfl, rfl, ?_⟩
    dsimp only [tYes]
    refine iteT ?_
    have hl64 := sCnt64 sok
    refine ⟨_, rfl, _, hD2, by rw [List.length_map, List.length_map, List.length_take, stsL_len]; exact small1000 (by omega), same_new s2 hD, ?_⟩
    rw [upd_same, List.take_add_one, hs, List.map_append, List.map_append]
    rfl
  · rintro H2 ⟨s2, hD2⟩
    have hlb : bs.length = (stsL ad (ad + n)).length := (Paired.length hS).symm
    rw [List.length_map, hlb, List.take_length] at hD2
    have s02 := s1.trans s2
    have TA2 := TA.same L s02
    have RM2 : RelM K H2 (S.pl t) m := RM.keep fun a xs e => s02 _ _ e
    have hl64 := sCnt64 sok
    refine ⟨_, _, _, rfl, g, t, a, D, m, S.pl t, (stsL ad (ad + n)).map (·.1), rfl, rfl, (Grow.same (R := fun _ => false) L s02).live L, TA2, RM2, SqL.of hD2, by rw [List.length_map, stsL_len]; omega, fun ⟨z, hz, ez⟩ H3 s3 => ?_, fun hall H3 s3 => ?_⟩
    · refine kx (fun z2 => ?_) "NoPage" (by decide +kernel) (by decide +kernel) H3 (s02.trans s3)
      obtain ⟨s, hs, rfl⟩ := List.mem_map.mp hz
      have := z2.hm s hs
      have h : (S.pl t s.1).isSome = true := this
      rw [ez] at h
      cases h
    · have s13 := s2.trans s3
      refine ⟨_, rfl, k ⟨ht, by omega, fun _ => by omega, fun s hs => ?_⟩ q0 H3 bs (s02.trans s3) hq0 (s13 _ _ hq1) (hS.keep fun a xs e => s13 _ _ e)⟩
      have := hall s.1 (List.mem_map.mpr ⟨s, hs, rfl⟩)
      show (S.pl t s.1).isSome = true
      cases e : S.pl t s.1 with
      | none => exact absurd e this
      | some v => rfl
end

-- part K9F
section
variable {P : Program} {w : World} {K : PySem.W.Frag} {mg : Str → Option Value} {base : Heap}
/-! #### place, counts -/
def spPlace (K : PySem.W.Frag) : Sp := Sp3 fun x v u H Q E => ∃ (g : Col) (r : Addr) (S : PS) (t pg : Int), x = .ref r ∧ v = .int t ∧ u = .int pg ∧ RoA K g H r S ∧ t ∈ S.ts ∧
  (S.pl t pg = none → Q .non H) ∧ (∀ e v, S.pl t pg = some e → EntV K H v e → Q v H)
theorem ok_Place (T : Tx K mg) : Okp P w K mg base 2 (He.fAd K ("Rooms", some "place")) ["self", "task", "page"] (spPlace K) := by
  refine okn len3 T.f_Rooms_place sc_Rooms_place fun cdv A outer s0 H vs Q E hr h => ?_
  obtain ⟨_, _, _, rfl, g, r, S, t, pg, rfl, rfl, rfl, ⟨dx, p, kt, y, X⟩, ht, kn, ke⟩ := h
  refine ⟨_, pss_one (ps_ret (pe_m (pe_m (pv 0) T.c_Rooms T.m_Rooms_table_of (ok_TableOf T) hr (pa_cons (pv 1) pa_nil)) T.c_Table T.m_Table_get (ok_TaGet T) hr (pa_cons (pv 2) pa_nil))), ?_⟩
  refine ⟨_, rfl, r, dx, _, rfl, X.rob.h, by kernel_rfl, _, rfl, _, _, rfl, g, r, S, t, dx, p, kt, y, rfl, rfl, X, fun h => absurd ht h, fun _ a m ev TA RM => ?_⟩
  obtain ⟨tx, F, kf, q1, _⟩ := id TA.ex
  refine ⟨a, tx, _, rfl, q1.h, by kernel_rfl, _, rfl, _, _, rfl, g, t, a, m, pg, rfl, rfl, TA, ?_⟩
  cases e : S.pl t pg with
  | none =>
    rw [RM.no pg e]
    exact kn e
  | some z =>
    obtain ⟨v, h1, h2⟩ := RM.is pg z e
    rw [h1]
    exact ke z v e h2
def spCounts (K : PySem.W.Frag) : Sp := Sp1 fun x H Q E => ∃ (g : Col) (r : Addr) (S : PS), x = .ref r ∧ Live g H ∧ RoA K g H r S ∧
  ∀ tp f s H', Same H H' → H tp = none → H f = none → H s = none → f ≠ s → H' tp = some (.tup [.ref f, .ref s]) → H' f = some (.lst (owV (S.own false))) → H' s = some (.lst (owV (S.own true))) → Q (.ref tp) H'
theorem ok_Counts (T : Tx K mg) : Okp P w K mg base 3 (He.fAd K ("Rooms", some "counts")) ["self"] (spCounts K) := by
  refine okn len1 T.f_Rooms_counts sc_Rooms_counts fun cdv A outer s0 H vs Q E hr h => ?_
  obtain ⟨_, rfl, g, r, S, rfl, L, ⟨dx, p, kt, y, X⟩, k⟩ := h
  have nd := sc_Rooms_counts.nd
  refine ⟨_, pss_cons (ps_set (i := 1) nd rfl (Or.inl rfl) (pe_m (pe_fld (pv 0) rfl) T.c_Paging T.m_Paging_counts (ok_PCounts T) hr (pa_cons pe_str (pa_cons (pe_fld (pe_fld (pv 0) rfl) rfl) pa_nil))))
    (pss_one (ps_ret (pe_tup (pa_cons (pv 1) (pa_cons (pe_m (pe_fld (pv 0) rfl) T.c_Paging T.m_Paging_counts (ok_PCounts T) hr (pa_cons pe_str (pa_cons (pe_fld (pe_fld (pv 0) rfl) rfl) pa_nil))) pa_nil))))), ?_⟩
  refine ⟨_, rfl, r, cRo K, dx, _, _, rfl, X.rob.h, T.c_Rooms, T.a_Rooms_paging, roF_paging p, p, y.dx, _, rfl, X.pag.pob.h, by kernel_rfl, _, rfl, r, cRo K, dx, _, _, rfl, X.rob.h, T.c_Rooms, T.a_Rooms_paging, roF_paging p, p, cPa K, y.dx, _, _, rfl, X.pag.pob.h, T.c_Paging, T.a_Paging_frames, paF_frames _ _ _ _ _ _, ?_⟩
  refine ⟨_, _, _, rfl, g, p, S, kt, y, false, rfl, rfl, by rw [X.pag.lnf], X.pag, fun f H1 s1 hf0 hf1 => ?_⟩
  have X1 := X.same L s1
  refine ⟨_, rfl, _, rfl, r, cRo K, dx, _, _, rfl, X1.rob.h, T.c_Rooms, T.a_Rooms_paging, roF_paging p, p, y.dx, _, rfl, X1.pag.pob.h, by kernel_rfl, _, rfl, r, cRo K, dx, _, _, rfl, X1.rob.h, T.c_Rooms, T.a_Rooms_paging, roF_paging p, p, cPa K, y.dx, _, _, rfl, X1.pag.pob.h, T.c_Paging, T.a_Paging_slots, paF_slots _ _ _ _ _ _, ?_⟩
  refine ⟨_, _, _, rfl, g, p, S, kt, y, true, rfl, rfl, by rw [X.pag.lns], X1.pag, fun s H2 s2 hs1 hs2 => ?_⟩
  refine ⟨(by show 2 ≤ sizeLine; decide), fun tp htp => ?_⟩
  have s02 := s1.trans s2
  have nfs : f ≠ s := fun e => by rw [e, hs1] at hf1; cases hf1
  have h2f := s2 _ _ hf1
  exact k tp f s _ (same_new s02 (s02.free htp)) (s02.free htp) hf0 (s1.free hs1) nfs upd_same (by rw [upd_ne fun z => by rw [← z, h2f] at htp; cases htp]; exact h2f) (by rw [upd_ne fun z => by rw [← z, hs2] at htp; cases htp]; exact hs2)
/-! #### peek -/
theorem fetch_ok {S : PS} (G : Gx S []) {z : Int × Int} : ∀ n, S.e z = some (.at true n) → S.ow true n ≠ [] ∧ (S.own true)[n]? = some (S.ow true n).length ∧ FtOk (S.lifted true n) ∧ (S.ow true n).length ≤ 400 ∧ ∀ x, x ∈ S.ow true n → x.1 ∈ S.ts ∧ 0 ≤ x.2 ∧ x.2 < 64 := fun n h => by
  obtain ⟨h1, h2, G1, h3⟩ := fetch_pre G h
  exact ⟨h1, h2, G1.ftOk (lifted_slot h3), Nat.le_trans (G.few true n) (by omega), fun x hx => G.owVal hx⟩
theorem cut_rep (n : Nat) (lo hi : Int) (v : V) (h0 : 0 ≤ lo) (h1 : lo ≤ hi) (h2 : hi ≤ (n : Int)) : cutV (List.replicate n v) (some lo) (some hi) = List.replicate (hi - lo).toNat v := by
  obtain ⟨a, rfl⟩ : ∃ a : Nat, lo = (a : Int) := ⟨lo.toNat, by omega⟩
  obtain ⟨b, rfl⟩ : ∃ b : Nat, hi = (b : Int) := ⟨hi.toNat, by omega⟩
  unfold cutV
  rw [HT.sIx_nat, HT.sIx_nat, List.length_replicate, List.drop_replicate, List.take_replicate]
  congr 1
  omega
theorem cut_len (xs : List V) (lo hi : Int) (h0 : 0 ≤ lo) (h1 : lo ≤ hi) : (cutV xs (some lo) (some hi)).length ≤ (hi - lo).toNat := by
  obtain ⟨a, rfl⟩ : ∃ a : Nat, lo = (a : Int) := ⟨lo.toNat, by omega⟩
  obtain ⟨b, rfl⟩ : ∃ b : Nat, hi = (b : Int) := ⟨hi.toNat, by omega⟩
  unfold cutV
  rw [HT.sIx_nat, HT.sIx_nat, List.length_take, List.length_drop]
  omega
/-- nothing that has a colour is changed -/
structure GrC (g : Col) (H : Hp) (g1 : Col) (H1 : Hp) : Prop where
  pt : ∀ r a o, Pt g r H a o → Pt g1 r H1 a o
  tup : ∀ a xs, H a = some (.tup xs) → H1 a = some (.tup xs)
theorem GrC.loc {g : Col} {H : Hp} {a : Addr} {xs : List V} {o : HO} (h : H a = some (.lst xs)) (c : g a = none) : GrC g H g (upd H a o) :=
  ⟨fun r b u p => ⟨p.c, by rw [upd_ne fun e => by have := p.c; rw [e, c] at this; cases this]; exact p.h⟩, fun b ys e => by rw [upd_ne fun q => by rw [q, h] at e; cases e]; exact e⟩
theorem StoreAt.mapC {g g1 : Col} {H H1 : Hp} {b : Bool} {s : Addr} {ow : List Nat} (x : StoreAt K g H b s ow) (G : GrC g H g1 H1) : StoreAt K g1 H1 b s ow := by
  obtain ⟨dx, lo, lc, cs, h1, h2, h3, h4, h5⟩ := x.ex
  exact ⟨⟨dx, lo, lc, cs, G.pt _ _ _ h1, G.pt _ _ _ h2, G.pt _ _ _ h3, h4, fun c hc => let ⟨vs, e, l⟩ := h5 c hc; ⟨vs, G.pt _ _ _ e, l⟩⟩, x.len⟩
theorem TableAt.mapC {g g1 : Col} {H H1 : Hp} {t : Int} {a : Addr} {m : Int → Option V} (x : TableAt K g H t a m) (G : GrC g H g1 H1) : TableAt K g1 H1 t a m := by
  obtain ⟨dx, F, kf, h1, h2, h3, h4, h5, h6⟩ := x.ex
  exact ⟨dx, F, kf, G.pt _ _ _ h1, G.pt _ _ _ h2, h3, h4, fun f v e => let ⟨b, ks, e1, p1, q1, q2, q3⟩ := (h5 f v e).ex; ⟨b, ks, e1, G.pt _ _ _ p1, q1, q2, q3⟩, h6⟩
theorem PagL.mapC {g g1 : Col} {H H1 : Hp} {p : Addr} {S : PS} {kt : List (Int × V)} {y : Ly} (x : PagL K g H p S kt y) (G : GrC g H g1 H1) : PagL K g1 H1 p S kt y :=
  { x with
    pob := G.pt _ _ _ x.pob
    sdi := G.pt _ _ _ x.sdi
    sto := fun b => (x.sto b).mapC G
    tdi := G.pt _ _ _ x.tdi
    tab := fun t v e => let ⟨a, m, h1, h2, h3⟩ := x.tab t v e; ⟨a, m, h1, h2.mapC G, h3.keep G.tup⟩
    odi := G.pt _ _ _ x.odi
    inn := fun b k v e => let ⟨a, h1, h2⟩ := x.inn b k v e; ⟨a, h1, G.pt _ _ _ h2⟩ }
theorem Grow.loc {R : Role → Bool} {g g1 : Col} {H H1 : Hp} {a : Addr} {o : HO} (G : Grow R g H g1 H1) (h : H a = none) (c : g1 a = none) : Grow R g H g1 (upd H1 a o) where
  col := G.col
  new := fun b r hb hc => by
    obtain ⟨q1, q2⟩ := G.new b r hb hc
    exact ⟨q1, by rw [upd_ne fun e => by rw [e, c] at hc; cases hc]; exact q2⟩
  fr := fun b u e n => by rw [upd_ne (ne_of_none e h)]; exact G.fr b u e n
  dom := fun b n => by
    by_cases q : b = a
    · rw [q] at n; exact absurd h n
    · rw [upd_ne q]; exact G.dom b n
  tup := fun b ys e => by rw [upd_ne (ne_of_none e h)]; exact G.tup b ys e
def spPeek (K : PySem.W.Frag) : Sp := Sp4 fun x v u c H Q E => ∃ (g : Col) (r : Addr) (S : PS) (t a n : Int), x = .ref r ∧ v = .int t ∧ u = .int a ∧ c = .int n ∧ Live g H ∧ RoA K g H r S ∧
  (¬ PkOk S t a n → ∀ nm, nm ∈ excN → nm ≠ "NoRoom" → ∀ H', Same H H' → E (xC K nm) none H') ∧
  (PkOk S t a n → ∀ q, Out isRm g H (fun g' H' => ∃ S' xs, RoA K g' H' r S' ∧ Mv S S' ∧ H' q = some (.lst xs) ∧ (0 < n → S'.e (t, (a + n - 1) / 8) = some .blank ∨ ∃ m, S'.e (t, (a + n - 1) / 8) = some (.at false m)) ∧
    ((∀ s, s ∈ stsL a (a + n) → S.e (t, s.1) = some .blank) → xs = List.replicate n.toNat (V.int 0))) (Q (.ref q)))
theorem ok_Peek (T : Tx K mg) : Okp P w K mg base 8 (He.fAd K ("Rooms", some "peek")) ["self", "task", "address", "many"] (spPeek K) := by
  refine okx len4 T.f_Rooms_peek sc_Rooms_peek fun cdv A outer s0 H vs Q E hr h => ?_
  obtain ⟨_, _, _, _, rfl, g, r, S, t, ad, n, rfl, rfl, rfl, rfl, L, ⟨dx, p, kt, y, X⟩, kx, k⟩ := h
  have nd := sc_Rooms_peek.nd
  have tk := L2N.takes_of (X := cxOf (L2N.CX P w) P w K mg base ["self", "task", "address", "many", "cells", "page", "low", "high"] "Rooms.peek" (defScope st_Rooms_peek) (He.fAd K ("Rooms", some "peek")) cdv A outer s0 H E) rfl rfl rfl rfl
  refine ⟨_, pss_cons (ps_set (i := 4) nd rfl (Or.inl rfl) (pe_lst pa_nil))
    (pss_cons (ps_for (passes_of rfl) rfl (pi_list (pe_mx tk (pv 0) T.c_Rooms T.m_Rooms_stretches (ok_Stretch T) (hr.mono (by decide)) (pa_cons (pv 1) (pa_cons (pv 2) (pa_cons (pv 3) pa_nil))))) (pg_tup rfl (pgs_cons (pg_name (i := 5) nd rfl (Or.inl rfl)) (pgs_cons (pg_name (i := 6) nd rfl (Or.inl rfl)) (pgs_cons (pg_name (i := 7) nd rfl (Or.inl rfl)) pgs_nil))))
      (pss_cons (ps_expr (pe_m (pe_fld (pv 0) rfl) T.c_Paging T.m_Paging_fetch (ok_Fetch T) hr (pa_cons (pe_tup (pa_cons (pv 1) (pa_cons (pv 5) pa_nil))) pa_nil)))
        (pss_one (ps_expr (pe_bm PySem.F.plainAttrs_list PySem.F.slot_list_extend PySem.F.type_list_extend mt_extend (pv 4) (pa_cons (pe_slice sl_list (pe_m (pe_fld (pv 0) rfl) T.c_Paging T.m_Paging_cells (ok_Cells T) (hr.mono (by decide)) (pa_cons (pe_tup (pa_cons (pv 1) (pa_cons (pv 5) pa_nil))) pa_nil)) (po_some (pv 6)) (po_some (pv 7))) pa_nil))))))
    (pss_one (ps_ret (pv 4)))), ?_⟩
  refine ⟨by decide, fun cl hcl => ?_⟩
  have hcl0 : H cl = none := hcl
  have s1 : Same H (upd H cl (.lst [])) := same_new (Same.refl H) hcl
  have hc1 : upd H cl (.lst []) cl = some (.lst []) := upd_same
  generalize upd H cl (.lst []) = H1 at *
  have X1 := X.same L s1
  have L1 : Live g H1 := (Grow.same (R := fun _ => false) L s1).live L
  refine ⟨_, rfl, r, dx, _, rfl, X1.rob.h, by kernel_rfl, _, rfl, _, rfl, _, rfl, _, _, _, _, rfl, g, r, S, t, ad, n, rfl, rfl, rfl, rfl, L1, ⟨dx, p, kt, y, X1⟩, fun hn nm h1 h2 H2 s2 => kx hn nm h1 h2 H2 (s1.trans s2), fun ok q0 H2 bs s2 hq0 hq2 hS => ?_⟩
  have k := k ok cl
  have sok := ok.sok
  have sA := s1.trans s2
  have X2 := X1.same L1 s2
  have L2' : Live g H2 := (Grow.same (R := fun _ => false) L1 s2).live L1
  have G0 : Grow isRm g H g H2 := Grow.same L sA
  have hc2 := s2 _ _ hc1
  have FQ : Fz g H2 q0 (.lst (bs.map V.ref)) := ⟨by rw [L1.none hq0], hq2⟩
  have FC : Fz g H2 cl (.lst []) := ⟨by rw [L.none hcl0], hc2⟩
  have nqc : cl ≠ q0 := fun e => by rw [← e, hc1] at hq0; cases hq0
  have hlb : bs.length = sCnt ad (ad + n) := by rw [← stsL_len]; exact (Paired.length hS).symm
  have hl64 := sCnt64 sok
  refine ⟨q0, rfl, ⟨_, SqL.of hq2⟩, for_list (K := K) (a := q0) (xs := bs.map V.ref) (fun i σ H4 => ∃ (v5 v6 v7 : Option V) (g4 : Col) (S4 : PS) (y4 : Ly) (xs : List V), σ = [some (.ref r), some (.int t), some (.int ad), some (.int n), some (.ref cl), v5, v6, v7] ∧ Live g4 H4 ∧ Grow isRm g H g4 H4 ∧ g4 q0 = none ∧ g4 cl = none ∧
    H4 q0 = some (.lst (bs.map V.ref)) ∧ H4 cl = some (.lst xs) ∧ xs.length ≤ 8 * i ∧ StrL H4 (stsL ad (ad + n)) bs ∧ Mv S S4 ∧ Pt g4 .rob H4 r (.ins (cRo K) dx (roF p)) ∧ PagL K g4 H4 p S4 kt y4 ∧
    (0 < i → S4.e (t, ad / 8 + (i : Int) - 1) = some .blank ∨ ∃ m, S4.e (t, ad / 8 + (i : Int) - 1) = some (.at false m)) ∧ ((∀ s, s ∈ stsL ad (ad + n) → S.e (t, s.1) = some .blank) → xs = List.replicate (sBd ad (ad + n) i - ad).toNat (V.int 0))) ?_ ?_ ?_ ?_⟩
  · refine ⟨none, none, none, g, S, y, [], rfl, L2', G0, FQ.c, FC.c, hq2, hc2, Nat.zero_le _, hS, Mv.refl X.gx, X2.rob, X2.pag, fun h => absurd h (Nat.lt_irrefl _), fun _ => ?_⟩
    have : sBd ad (ad + n) 0 = ad := rfl
    rw [this]
    have : (ad - ad).toNat = 0 := by omega
    rw [this]
    rfl
  · rintro i σ H4 hi ⟨v5, v6, v7, g4, S4, y4, xs, rfl, L4, G4, cq, cc, hq4, hc4, hx4, hS4, M4, R4, P4, w4, z4⟩
    exact SqL.of hq4
  · rintro i x σ H4 hx ⟨v5, v6, v7, g4, S4, y4, xs, rfl, L4, G4, cq, cc, hq4, hc4, hx4, hS4, M4, R4, P4, w4, z4⟩
    obtain ⟨b, hb, rfl⟩ := ref_at hx
    obtain ⟨s, hs, hb4⟩ := hS4.at hb
    obtain ⟨hic, rfl⟩ := stsL_at hs
    have smem : sSt ad (ad + n) i ∈ stsL ad (ad + n) := List.mem_of_getElem? hs
    obtain ⟨o1, o2, o3⟩ := sSt_ok sok hic
    have hsome : (S4.e (t, (sSt ad (ad + n) i).1)).isSome = true := by rw [M4.kp.is]; exact ok.hm _ smem
    obtain ⟨e, he⟩ : ∃ e, S4.e (t, (sSt ad (ad + n) i).1) = some e := by
      cases e : S4.e (t, (sSt ad (ad + n) i).1) with
      | none => rw [e] at hsome; cases hsome
      | some v => exact ⟨v, rfl⟩
    have htS4 : t ∈ S4.ts := by rw [M4.kp.ts]; exact ok.ht
    refine ⟨b, _, rfl, SqT.of hb4, rfl, _, _, rfl, _, _, rfl, _, _, rfl, rfl, ?_⟩
    refine ⟨_, rfl, r, cRo K, dx, _, _, rfl, R4.h, T.c_Rooms, T.a_Rooms_paging, roF_paging p, p, y4.dx, _, rfl, P4.pob.h, by kernel_rfl, _, rfl, _, rfl, (by show 2 ≤ sizeLine; decide), fun tp htp => ?_⟩
    have G5 : Grow isRm g4 H4 g4 (upd H4 tp (.tup (ownXs (t, (sSt ad (ad + n) i).1)))) := Grow.temp L4 htp
    have P5 := P4.keep (R := fun _ => false) (Grow.temp L4 htp (o := .tup (ownXs (t, (sSt ad (ad + n) i).1)))) fun _ _ => rfl
    have L5 := G5.live L4
    refine ⟨_, _, rfl, g4, p, S4, kt, y4, tp, (t, (sSt ad (ad + n) i).1), e, rfl, rfl, L5, P5, upd_same, htS4, he, fun m hm => ?_, fun g6 H6 G6 ⟨y6, P6⟩ => ?_⟩
    · subst hm
      exact fetch_ok M4.gx m he
    obtain ⟨Mf, lf⟩ := fetch_law M4.gx (z := (t, (sSt ad (ad + n) i).1)) he
    have M6 := M4.trans Mf
    have L6 := G6.live L5
    have R6 := (R4.keep G5 rfl).keep G6 rfl
    have G56 := G5.trans G6
    have FQ4 : Fz g4 H4 q0 (.lst (bs.map V.ref)) := ⟨cq, hq4⟩
    have FC4 : Fz g4 H4 cl (.lst xs) := ⟨cc, hc4⟩
    have FQ6 := FQ4.keep G56
    have FC6 := FC4.keep G56
    -- cells.extend(self.paging.cells(..)[low:high])
    obtain ⟨e6, he6⟩ : ∃ e6, (S4.fetch (t, (sSt ad (ad + n) i).1)).e (t, (sSt ad (ad + n) i).1) = some e6 := lf.elim (fun h => ⟨_, h⟩) fun ⟨m, h⟩ => ⟨_, h⟩
    refine ⟨_, rfl, .inl ⟨rfl, _, SqL.of FC6.h⟩, _, rfl, r, cRo K, dx, _, _, rfl, R6.h, T.c_Rooms, T.a_Rooms_paging, roF_paging p, p, y6.dx, _, rfl, P6.pob.h, by kernel_rfl, _, rfl, _, rfl, (by show 2 ≤ sizeLine; decide), fun tp2 htp2 => ?_⟩
    have G7 : Grow isRm g6 H6 g6 (upd H6 tp2 (.tup (ownXs (t, (sSt ad (ad + n) i).1)))) := Grow.temp L6 htp2
    have P7 := P6.keep (R := fun _ => false) (Grow.temp L6 htp2 (o := .tup (ownXs (t, (sSt ad (ad + n) i).1)))) fun _ _ => rfl
    have L7 := G7.live L6
    refine ⟨_, _, rfl, g6, p, _, kt, y6, tp2, (t, (sSt ad (ad + n) i).1), e6, rfl, rfl, P7, upd_same, by rw [Mf.kp.ts]; exact htS4, he6, fun b' n' q => ?_, fun q vs H8 s8 hq7 hq8 hv8 hz8 => ?_⟩
    · subst q
      exact (Mf.gx.atOwn he6 (by simp)).2.1
    have G8 : Grow isRm g6 (upd H6 tp2 (.tup (ownXs (t, (sSt ad (ad + n) i).1)))) g6 H8 := Grow.same L7 s8
    have L8 := G8.live L7
    refine ⟨_, rfl, _, rfl, _, rfl, _, rfl, q, vs, rfl, SqL.of hq8, fun q9 hq9 => ?_⟩
    have hc8 := (FC6.keep (G7.trans G8)).h
    have nc9 : cl ≠ q9 := fun z => by rw [← z, hc8] at hq9; cases hq9
    have cl9 := cut_len vs (sSt ad (ad + n) i).2.1 (sSt ad (ad + n) i).2.2 o1 (by omega)
    have G9 : Grow isRm g6 H8 g6 (upd H8 q9 (.lst (cutV vs (some (sSt ad (ad + n) i).2.1) (some (sSt ad (ad + n) i).2.2)))) := Grow.temp L8 hq9
    have L9 := G9.live L8
    have F9 := (FQ6.keep ((G7.trans G8).trans G9))
    have C9 := (FC6.keep ((G7.trans G8).trans G9))
    have R9 := R6.keep ((G7.trans G8).trans G9) rfl
    have P9 := P7.keep (R := fun _ => false) ((Grow.same L7 s8).trans (Grow.temp L8 hq9 (o := .lst (cutV vs (some (sSt ad (ad + n) i).2.1) (some (sSt ad (ad + n) i).2.2))))) fun _ _ => rfl
    refine ⟨cl, q9, xs, _, rfl, rfl, C9.h, upd_same, by
      have : xs.length + (cutV vs (some (sSt ad (ad + n) i).2.1) (some (sSt ad (ad + n) i).2.2)).length ≤ 1000 := by omega
      exact Nat.le_of_lt (small1000 this), ?_⟩
    have S9 := ((hS4.keep G56.tup).keep (G7.trans G8).tup).keep G9.tup
    have Gall := ((G4.trans G56).trans (G7.trans G8)).trans G9
    generalize upd H8 q9 (.lst (cutV vs (some (sSt ad (ad + n) i).2.1) (some (sSt ad (ad + n) i).2.2))) = H9 at *
    have C := GrC.loc (o := .lst (xs ++ cutV vs (some (sSt ad (ad + n) i).2.1) (some (sSt ad (ad + n) i).2.2))) C9.h C9.c
    refine ⟨_, _, _, g6, _, y6, _, rfl, Grow.live (Gall.loc hcl0 C9.c) L, Gall.loc hcl0 C9.c, F9.c, C9.c, by rw [upd_ne nqc.symm]; exact F9.h, upd_same, ?_, S9.keep C.tup, M6, C.pt _ _ _ R9, P9.mapC C, fun _ => ?_, fun hbl => ?_⟩
    · rw [List.length_append]
      omega
    · have e1 : ad / 8 + ((i + 1 : Nat) : Int) - 1 = (sSt ad (ad + n) i).1 := by
        show _ = ad / 8 + (i : Int)
        omega
      rw [e1]
      exact lf
    · have hb0 : S4.e (t, (sSt ad (ad + n) i).1) = some .blank := (M4.kp.bl _).mpr (hbl _ smem)
      have hb6 := (Mf.kp.bl (t, (sSt ad (ad + n) i).1)).mpr hb0
      rw [he6] at hb6
      cases hb6
      rw [hz8 rfl, cut_rep 8 _ _ _ o1 (by omega) (by omega), z4 hbl, List.replicate_append_replicate]
      congr 1
      have a1 : (sSt ad (ad + n) i).2.1 = sBd ad (ad + n) i - 8 * (ad / 8 + (i : Int)) := rfl
      have a2 : (sSt ad (ad + n) i).2.2 = sBd ad (ad + n) (i + 1) - 8 * (ad / 8 + (i : Int)) := rfl
      have a3 : ad ≤ sBd ad (ad + n) i := by
        unfold sBd
        obtain ⟨_, _, _, _, _, _, _, _, _⟩ := sBd_in sok hic
        split
        · omega
        · split <;> omega
      rw [a1, a2] at o2
      rw [a1, a2]
      omega
  · rintro σ H4 ⟨v5, v6, v7, g4, S4, y4, xs, rfl, L4, G4, cq, cc, hq4, hc4, hx4, hS4, M4, R4, P4, w4, z4⟩
    rw [List.length_map, hlb] at w4 z4
    refine ⟨_, rfl, k g4 H4 G4 ⟨S4, xs, ⟨dx, p, kt, y4, R4, P4, M4.gx⟩, M4, hc4, fun hn => ?_, fun hbl => ?_⟩⟩
    · have hc : 0 < sCnt ad (ad + n) := by
        unfold sCnt
        rw [if_pos (by omega)]
        omega
      have e1 : ad / 8 + (sCnt ad (ad + n) : Int) - 1 = (ad + n - 1) / 8 := by
        unfold sCnt
        rw [if_pos (by omega)]
        omega
      rw [← e1]
      exact w4 hc
    · have h1 := sBd_end sok (i := sCnt ad (ad + n)) (Nat.lt_irrefl _) (Nat.le_refl _)
      have h2 : sBd ad (ad + n) (sCnt ad (ad + n)) = ad + n := by
        have h3 := ok.hn
        unfold sBd at h1 ⊢
        unfold sCnt at h1 ⊢
        by_cases q : ad < ad + n
        · rw [if_pos q] at h1 ⊢
          split
          · omega
          · rename_i q2
            rw [if_neg q2] at h1
            split
            · rename_i q3
              rw [if_pos q3] at h1
              omega
            · rfl
        · rw [if_neg q]
          rw [if_pos rfl]
          omega
      rw [z4 hbl, h2]
      congr 1
      omega
end

-- part K9K
section
variable {P : Program} {w : World} {K : PySem.W.Frag} {mg : Str → Option Value} {base : Heap}
/-! #### poke -/
theorem cut_lenR (xs : List V) (hi : Int) (h0 : 0 ≤ hi) : (cutV xs none (some hi)).length ≤ hi.toNat := by
  obtain ⟨b, rfl⟩ : ∃ b : Nat, hi = (b : Int) := ⟨hi.toNat, by omega⟩
  unfold cutV
  rw [HT.sIx_nat, HT.sIx_none, List.length_take]
  omega
theorem cut_lenL (xs : List V) (lo : Int) (h0 : 0 ≤ lo) : (cutV xs (some lo) none).length ≤ xs.length - lo.toNat := by
  obtain ⟨a, rfl⟩ : ∃ a : Nat, lo = (a : Int) := ⟨lo.toNat, by omega⟩
  unfold cutV
  rw [HT.sIx_nat, HT.sIx_none, List.length_take, List.length_drop]
  omega
theorem part_ok {S : PS} (G : Gx S []) {z : Int × Int} {e : Ent} (he : S.e z = some e) :
    (∀ b n, e = .at b n → z ∈ S.ow b n ∧ (S.own b)[n]? = some (S.ow b n).length ∧ (S.ow b n).length ≤ 400 ∧ ∀ x, x ∈ S.ow b n → x.1 ∈ S.ts ∧ 0 ≤ x.2 ∧ x.2 < 64) ∧
    (∀ n, e = .at true n → (S.own true)[n]? = some 1 → FtOk (S.lifted true n)) ∧ ((∀ b n, e = .at b n → (S.own b)[n]? ≠ some 1) → FtOk (S.leave z)) := by
  refine ⟨fun b n h => ?_, fun n h _ => ?_, fun _ => ?_⟩
  · subst h
    obtain ⟨h1, _, h3, _⟩ := G.atOwn he (by simp)
    exact ⟨h1, h3, Nat.le_trans (G.few b n) (by omega), fun x hx => G.owVal hx⟩
  · subst h
    exact (fetch_ok G n he).2.2.1
  · obtain ⟨h1, h2⟩ := part_leave G he
    exact h1.ftOk h2
def pgl (t a e : Int) : List (Int × Int) := (stsL a e).map fun s => (t, s.1)
theorem pgl_take (t a e : Int) {i : Nat} (hi : i < sCnt a e) : ((stsL a e).take (i + 1)).map (fun s => (t, s.1)) = ((stsL a e).take i).map (fun s => (t, s.1)) ++ [(t, a / 8 + (i : Int))] := by
  have e1 : (stsL a e)[i]? = some (sSt a e i) := by
    unfold stsL
    rw [List.getElem?_map, List.getElem?_range hi]
    rfl
  rw [List.take_add_one, e1, List.map_append]
  rfl
theorem pgl_no {t a e : Int} {i : Nat} : ((t, a / 8 + (i : Int)) : Int × Int) ∉ ((stsL a e).take i).map fun s => (t, s.1) := fun h => by
  obtain ⟨s, hs, e1⟩ := List.mem_map.mp h
  obtain ⟨j, hj⟩ := List.getElem?_of_mem hs
  have hj1 := (List.getElem?_eq_some_iff.mp hj).1
  rw [List.length_take] at hj1
  rw [List.getElem?_take_of_lt (by omega)] at hj
  obtain ⟨h1, rfl⟩ := stsL_at hj
  have e2 : a / 8 + (j : Int) = a / 8 + (i : Int) := (Prod.mk.inj e1).2
  omega
def spPoke (K : PySem.W.Frag) : Sp := Sp4 fun x v u c H Q E => ∃ (g : Col) (r : Addr) (S : PS) (t a : Int) (cl : Addr) (cs : List V), x = .ref r ∧ v = .int t ∧ u = .int a ∧ c = .ref cl ∧ Live g H ∧ RoA K g H r S ∧ SqL K H cl cs ∧ cs.length ≤ 64 ∧
  (¬ PkOk S t a (cs.length : Int) → ∀ nm, nm ∈ excN → nm ≠ "NoRoom" → ∀ H', Same H H' → E (xC K nm) none H') ∧
  (PkOk S t a (cs.length : Int) → Out isRm g H (fun g' H' => ∃ S', RoA K g' H' r S' ∧ Pks S S' (pgl t a (a + (cs.length : Int))) ∧ (0 < cs.length → ∃ m, S'.e (t, (a + (cs.length : Int) - 1) / 8) = some (.at false m))) (Q .non))
theorem ok_Poke (T : Tx K mg) : Okp P w K mg base 9 (He.fAd K ("Rooms", some "poke")) ["self", "task", "address", "cells"] (spPoke K) := by
  refine okx len4 T.f_Rooms_poke sc_Rooms_poke fun cdv A outer s0 H vs Q E hr h => ?_
  obtain ⟨_, _, _, _, rfl, g, r, S, t, ad, cl, cs, rfl, rfl, rfl, rfl, L, ⟨dx, p, kt, y, X⟩, hcl, hcs, kx, k⟩ := h
  have nd := sc_Rooms_poke.nd
  generalize hn : (cs.length : Int) = n at *
  have tk := L2N.takes_of (X := cxOf (L2N.CX P w) P w K mg base ["self", "task", "address", "cells", "left", "page", "low", "high", "owner", "kept"] "Rooms.poke" (defScope st_Rooms_poke) (He.fAd K ("Rooms", some "poke")) cdv A outer s0 H E) rfl rfl rfl rfl
  refine ⟨_, pss_cons (ps_set (i := 4) nd rfl (Or.inl rfl) (pe_callTy call_list_of (by rfl) T.n_list (by decide +kernel) (pa_cons (pv 3) pa_nil)))
    (pss_one (ps_for (passes_of rfl) rfl (pi_list (pe_mx tk (pv 0) T.c_Rooms T.m_Rooms_stretches (ok_Stretch T) (hr.mono (by decide)) (pa_cons (pv 1) (pa_cons (pv 2) (pa_cons (pe_callB call_len_seq (by rfl) T.n_len PySem.boot_len (pa_cons (pv 4) pa_nil)) pa_nil))))) (pg_tup rfl (pgs_cons (pg_name (i := 5) nd rfl (Or.inl rfl)) (pgs_cons (pg_name (i := 6) nd rfl (Or.inl rfl)) (pgs_cons (pg_name (i := 7) nd rfl (Or.inl rfl)) pgs_nil))))
      (pss_cons (ps_set (i := 8) nd rfl (Or.inl rfl) (pe_tup (pa_cons (pv 1) (pa_cons (pv 5) pa_nil))))
      (pss_cons (ps_expr (pe_m (pe_fld (pv 0) rfl) T.c_Paging T.m_Paging_part (ok_Part T) hr (pa_cons (pv 8) pa_nil)))
      (pss_cons (ps_set (i := 9) nd rfl (Or.inl rfl) (pe_m (pe_fld (pv 0) rfl) T.c_Paging T.m_Paging_cells (ok_Cells T) (hr.mono (by decide)) (pa_cons (pv 8) pa_nil)))
      (pss_cons (ps_expr (pe_m (pe_fld (pv 0) rfl) T.c_Paging T.m_Paging_put (ok_Put T) (hr.mono (by decide)) (pa_cons (pv 8) (pa_cons (pe_op op_cat (pe_op op_cat (pe_slice sl_list (pv 9) po_none (po_some (pv 6))) (pe_slice sl_list (pv 4) po_none (po_some (pe_op op_sub (pv 7) (pv 6))))) (pe_slice sl_list (pv 9) (po_some (pv 7)) po_none)) pa_nil))))
      (pss_one (ps_set (i := 4) nd rfl (Or.inl rfl) (pe_slice sl_list (pv 4) (po_some (pe_op op_sub (pv 7) (pv 6))) po_none))))))))), ?_⟩
  refine ⟨_, rfl, cl, _, rfl, .inl hcl, fun lf hlf => ?_⟩
  have hlf0 : H lf = none := hlf
  have s1 : Same H (upd H lf (.lst cs)) := same_new (Same.refl H) hlf
  have hl1 : upd H lf (.lst cs) lf = some (.lst cs) := upd_same
  generalize upd H lf (.lst cs) = H1 at *
  have X1 := X.same L s1
  have L1 : Live g H1 := (Grow.same (R := fun _ => false) L s1).live L
  refine ⟨_, rfl, r, dx, _, rfl, X1.rob.h, by kernel_rfl, _, rfl, _, rfl, _, rfl, lf, _, rfl, .inl (SqL.of hl1), ?_⟩
  rw [hn]
  refine ⟨_, _, _, _, rfl, g, r, S, t, ad, n, rfl, rfl, rfl, rfl, L1, ⟨dx, p, kt, y, X1⟩, fun hn nm h1 h2 H2 s2 => kx hn nm h1 h2 H2 (s1.trans s2), fun ok q0 H2 bs s2 hq0 hq2 hS => ?_⟩
  have k := k ok
  have sok := ok.sok
  have sA := s1.trans s2
  have X2 := X1.same L1 s2
  have L2' : Live g H2 := (Grow.same (R := fun _ => false) L1 s2).live L1
  have G0 : Grow isRm g H g H2 := Grow.same L sA
  have hl2 := s2 _ _ hl1
  have FQ : Fz g H2 q0 (.lst (bs.map V.ref)) := ⟨by rw [L1.none hq0], hq2⟩
  have FL : Fz g H2 lf (.lst cs) := ⟨by rw [L.none hlf0], hl2⟩
  have hlb : bs.length = sCnt ad (ad + n) := by rw [← stsL_len]; exact (Paired.length hS).symm
  have hl64 := sCnt64 sok
  refine ⟨q0, rfl, ⟨_, SqL.of hq2⟩, for_list (K := K) (a := q0) (xs := bs.map V.ref) (fun i σ H4 => ∃ (v5 v6 v7 v8 v9 : Option V) (g4 : Col) (S4 : PS) (y4 : Ly) (al : Addr) (xs : List V), σ = [some (.ref r), some (.int t), some (.int ad), some (.ref cl), some (.ref al), v5, v6, v7, v8, v9] ∧ Grow isRm g H2 g4 H4 ∧
    Fz g4 H4 al (.lst xs) ∧ xs.length ≤ 64 ∧ Pks S S4 (((stsL ad (ad + n)).take i).map fun s => (t, s.1)) ∧ Pt g4 .rob H4 r (.ins (cRo K) dx (roF p)) ∧ PagL K g4 H4 p S4 kt y4 ∧
    (0 < i → ∃ m, S4.e (t, ad / 8 + (i : Int) - 1) = some (.at false m))) ?_ ?_ ?_ ?_⟩
  · exact ⟨none, none, none, none, none, g, S, y, lf, cs, rfl, Grow.refl L2', FL, hcs, Pks.nil X.gx, X2.rob, X2.pag, fun h => absurd h (Nat.lt_irrefl _)⟩
  · rintro i σ H4 hi ⟨v5, v6, v7, v8, v9, g4, S4, y4, al, xs, rfl, G4, F4, hx4, M4, R4, P4, w4⟩
    exact SqL.of (FQ.keep G4).h
  · rintro i x σ H4 hx ⟨v5, v6, v7, v8, v9, g4, S4, y4, al, xs, rfl, G4, F4, hx4, M4, R4, P4, w4⟩
    obtain ⟨b, hb, rfl⟩ := ref_at hx
    obtain ⟨s, hs, hb4⟩ := (hS.keep G4.tup).at hb
    obtain ⟨hic, rfl⟩ := stsL_at hs
    have L4 := G4.live L2'
    have smem : sSt ad (ad + n) i ∈ stsL ad (ad + n) := List.mem_of_getElem? hs
    obtain ⟨o1, o2, o3⟩ := sSt_ok sok hic
    obtain ⟨_, _, _, _, _, i6, i7, i8, i9⟩ := sBd_in sok hic
    have hsome0 := ok.hm _ smem
    have hsome : (S4.e (t, (sSt ad (ad + n) i).1)).isSome = true := by rw [M4.is]; exact hsome0
    obtain ⟨e, he⟩ : ∃ e, S4.e (t, (sSt ad (ad + n) i).1) = some e := by
      cases e : S4.e (t, (sSt ad (ad + n) i).1) with
      | none => rw [e] at hsome; cases hsome
      | some v => exact ⟨v, rfl⟩
    have htS4 : t ∈ S4.ts := by rw [M4.ts]; exact ok.ht
    refine ⟨b, _, rfl, SqT.of hb4, rfl, _, _, rfl, _, _, rfl, _, _, rfl, rfl, ?_⟩
    refine ⟨_, rfl, _, rfl, (by show 2 ≤ sizeLine; decide), fun tp htp => ?_⟩
    have G5 : Grow isRm g4 H4 g4 (upd H4 tp (.tup (ownXs (t, (sSt ad (ad + n) i).1)))) := Grow.temp L4 htp
    have P5 := P4.keep (R := fun _ => false) (Grow.temp L4 htp (o := .tup (ownXs (t, (sSt ad (ad + n) i).1)))) fun _ _ => rfl
    have L5 := G5.live L4
    have R5 := R4.keep G5 rfl
    have F5 := F4.keep G5
    have ht5 : upd H4 tp (.tup (ownXs (t, (sSt ad (ad + n) i).1))) tp = some (.tup (ownXs (t, (sSt ad (ad + n) i).1))) := upd_same
    refine ⟨_, rfl, r, cRo K, dx, _, _, rfl, R5.h, T.c_Rooms, T.a_Rooms_paging, roF_paging p, p, y4.dx, _, rfl, P5.pob.h, by kernel_rfl, _, rfl, ?_⟩
    obtain ⟨po1, po2, po3⟩ := part_ok M4.gx he
    have hpg : (0 : Int) ≤ (sSt ad (ad + n) i).1 ∧ (sSt ad (ad + n) i).1 < 64 := by
      show 0 ≤ ad / 8 + (i : Int) ∧ ad / 8 + (i : Int) < 64
      omega
    refine ⟨_, _, rfl, g4, p, S4, kt, y4, tp, (t, (sSt ad (ad + n) i).1), e, rfl, rfl, L5, P5, ht5, htS4, hpg.1, hpg.2, he, po1, po2, po3, fun g6 H6 G6 ⟨y6, P6⟩ => ?_⟩
    have M6 := part_law M4.gx he
    have L6 := G6.live L5
    have R6 := R5.keep G6 rfl
    have F6 := F5.keep G6
    have ht6 := G6.tup _ _ ht5
    obtain ⟨fm, he6⟩ := M6.lie
    have hts6 : t ∈ (S4.part (t, (sSt ad (ad + n) i).1)).ts := by rw [M6.ts]; exact htS4
    obtain ⟨_, ⟨c6, hc6⟩, _, _⟩ := M6.gx.atOwn he6 (by simp)
    -- kept
    refine ⟨_, rfl, r, cRo K, dx, _, _, rfl, R6.h, T.c_Rooms, T.a_Rooms_paging, roF_paging p, p, y6.dx, _, rfl, P6.pob.h, by kernel_rfl, _, rfl, ?_⟩
    refine ⟨_, _, rfl, g6, p, _, kt, y6, tp, (t, (sSt ad (ad + n) i).1), .at false fm, rfl, rfl, P6, ht6, hts6, he6, fun b' n' q => (by injection q with q1 q2; subst q1 q2; exact ⟨c6, hc6⟩), fun kp vs H7 s7 hk0 hk7 hv7 _ => ?_⟩
    have G7 : Grow isRm g6 H6 g6 H7 := Grow.same L6 s7
    have L7 := G7.live L6
    have R7 := R6.keep G7 rfl
    have F7 := F6.keep G7
    have P7 := P6.same L6 s7
    have ht7 := s7 _ _ ht6
    -- put
    refine ⟨_, rfl, r, cRo K, dx, _, _, rfl, R7.h, T.c_Rooms, T.a_Rooms_paging, roF_paging p, p, y6.dx, _, rfl, P7.pob.h, by kernel_rfl, _, rfl, ?_⟩
    refine ⟨_, rfl, _, rfl, _, rfl, kp, vs, rfl, SqL.of hk7, fun q1 hq1 => ?_⟩
    have s8 : Same H7 (upd H7 q1 (.lst (cutV vs none (some (sSt ad (ad + n) i).2.1)))) := same_new (Same.refl H7) hq1
    have h81 : upd H7 q1 (.lst (cutV vs none (some (sSt ad (ad + n) i).2.1))) q1 = some (.lst (cutV vs none (some (sSt ad (ad + n) i).2.1))) := upd_same
    generalize upd H7 q1 (.lst (cutV vs none (some (sSt ad (ad + n) i).2.1))) = H8 at *
    refine ⟨_, rfl, _, rfl, _, rfl, _, _, rfl, rfl, _, rfl, al, xs, rfl, SqL.of (s8 _ _ F7.h), fun q2 hq2 => ?_⟩
    have s9 : Same H7 (upd H8 q2 (.lst (cutV xs none (some ((sSt ad (ad + n) i).2.2 - (sSt ad (ad + n) i).2.1))))) := same_new s8 (s8.free hq2)
    have n12 : q1 ≠ q2 := fun z => by rw [← z, h81] at hq2; cases hq2
    have l1 := cut_lenR vs (sSt ad (ad + n) i).2.1 o1
    have l2 := cut_lenR xs ((sSt ad (ad + n) i).2.2 - (sSt ad (ad + n) i).2.1) (by omega)
    have l3 := cut_lenL vs (sSt ad (ad + n) i).2.2 (by omega)
    refine ⟨q1, q2, _, _, rfl, rfl, by rw [upd_ne n12]; exact h81, upd_same, Nat.le_of_lt (small1000 (by omega)), fun q3 hq3 => ?_⟩
    have s10 := same_new (o := .lst (cutV vs none (some (sSt ad (ad + n) i).2.1) ++ cutV xs none (some ((sSt ad (ad + n) i).2.2 - (sSt ad (ad + n) i).2.1)))) s9 (s9.free hq3)
    refine ⟨_, rfl, _, rfl, _, rfl, kp, vs, rfl, SqL.of (s10 _ _ hk7), fun q4 hq4 => ?_⟩
    have s11 := same_new (o := .lst (cutV vs (some (sSt ad (ad + n) i).2.2) none)) s10 (s10.free hq4)
    have n34 : q3 ≠ q4 := fun z => by rw [← z, upd_same] at hq4; cases hq4
    refine ⟨q3, q4, _, _, rfl, rfl, by rw [upd_ne n34, upd_same], upd_same, Nat.le_of_lt (small1000 (by rw [List.length_append]; omega)), fun q5 hq5 => ?_⟩
    have s12 := same_new (o := .lst ((cutV vs none (some (sSt ad (ad + n) i).2.1) ++ cutV xs none (some ((sSt ad (ad + n) i).2.2 - (sSt ad (ad + n) i).2.1))) ++ cutV vs (some (sSt ad (ad + n) i).2.2) none)) s11 (s11.free hq5)
    have h12 : upd (upd (upd (upd H8 q2 (.lst (cutV xs none (some ((sSt ad (ad + n) i).2.2 - (sSt ad (ad + n) i).2.1))))) q3 (.lst (cutV vs none (some (sSt ad (ad + n) i).2.1) ++ cutV xs none (some ((sSt ad (ad + n) i).2.2 - (sSt ad (ad + n) i).2.1))))) q4 (.lst (cutV vs (some (sSt ad (ad + n) i).2.2) none))) q5 (.lst ((cutV vs none (some (sSt ad (ad + n) i).2.1) ++ cutV xs none (some ((sSt ad (ad + n) i).2.2 - (sSt ad (ad + n) i).2.1))) ++ cutV vs (some (sSt ad (ad + n) i).2.2) none)) q5 = some (.lst ((cutV vs none (some (sSt ad (ad + n) i).2.1) ++ cutV xs none (some ((sSt ad (ad + n) i).2.2 - (sSt ad (ad + n) i).2.1))) ++ cutV vs (some (sSt ad (ad + n) i).2.2) none)) := upd_same
    generalize upd (upd (upd (upd H8 q2 (.lst (cutV xs none (some ((sSt ad (ad + n) i).2.2 - (sSt ad (ad + n) i).2.1))))) q3 (.lst (cutV vs none (some (sSt ad (ad + n) i).2.1) ++ cutV xs none (some ((sSt ad (ad + n) i).2.2 - (sSt ad (ad + n) i).2.1))))) q4 (.lst (cutV vs (some (sSt ad (ad + n) i).2.2) none))) q5 (.lst ((cutV vs none (some (sSt ad (ad + n) i).2.1) ++ cutV xs none (some ((sSt ad (ad + n) i).2.2 - (sSt ad (ad + n) i).2.1))) ++ cutV vs (some (sSt ad (ad + n) i).2.2) none)) = H12 at *
    have G12 : Grow isRm g6 H7 g6 H12 := Grow.same L7 s12
    have L12 := G12.live L7
    have R12 := R7.keep G12 rfl
    have F12 := F7.keep G12
    have P12 := P7.same L7 s12
    refine ⟨_, _, _, rfl, g6, p, _, kt, y6, tp, (t, (sSt ad (ad + n) i).1), false, fm, c6, q5, _, rfl, rfl, rfl, L12, P12, s12 _ _ ht7, hts6, he6, hc6, h12, by rw [List.length_append, List.length_append]; omega, fun g13 H13 G13 ⟨y13, P13⟩ => ?_⟩
    have L13 := G13.live L12
    have R13 := R12.keep G13 rfl
    have F13 := F12.keep G13
    refine ⟨_, rfl, _, rfl, _, rfl, _, _, rfl, rfl, _, rfl, al, xs, rfl, SqL.of F13.h, fun q6 hq6 => ?_⟩
    have G14 : Grow isRm g13 H13 g13 (upd H13 q6 (.lst (cutV xs (some ((sSt ad (ad + n) i).2.2 - (sSt ad (ad + n) i).2.1)) none))) := Grow.temp L13 hq6
    have P14 := P13.keep (R := fun _ => false) (Grow.temp L13 hq6 (o := .lst (cutV xs (some ((sSt ad (ad + n) i).2.2 - (sSt ad (ad + n) i).2.1)) none))) fun _ _ => rfl
    refine ⟨_, _, _, _, _, g13, _, y13, q6, _, rfl, (((((G4.trans G5).trans G6).trans G7).trans G12).trans G13).trans G14, Fz.new L13 hq6, Nat.le_trans (cutV_length _ _ _) hx4, ?_, R13.keep G14 rfl, P14, fun _ => ?_⟩
    · rw [pgl_take t ad (ad + n) hic]
      exact M4.snoc M6 pgl_no hsome0
    · have e1 : ad / 8 + ((i + 1 : Nat) : Int) - 1 = (sSt ad (ad + n) i).1 := by
        show _ = ad / 8 + (i : Int)
        omega
      rw [e1]
      exact ⟨fm, he6⟩
  · rintro σ H4 ⟨v5, v6, v7, v8, v9, g4, S4, y4, al, xs, rfl, G4, F4, hx4, M4, R4, P4, w4⟩
    rw [List.length_map, hlb] at w4 M4
    have eT : (stsL ad (ad + n)).take (sCnt ad (ad + n)) = stsL ad (ad + n) := by rw [← stsL_len, List.take_length]
    rw [eT] at M4
    refine k g4 H4 (G0.trans G4) ⟨S4, ⟨dx, p, kt, y4, R4, P4, M4.gx⟩, M4, fun hn0 => ?_⟩
    have e1 : ad / 8 + (sCnt ad (ad + n) : Int) - 1 = (ad + n - 1) / 8 := by
      unfold sCnt
      rw [if_pos (by omega)]
      omega
    rw [← e1]
    refine w4 ?_
    unfold sCnt
    rw [if_pos (by omega)]
    omega
end

-- part K9La
/-! ### the law's own defs: numbers -/
theorem at_ints (ns : List Int) (i : Int) (h0 : 0 ≤ i) (h1 : i < (ns.length : Int)) : ∃ z, z ∈ ns ∧ atI (ns.map V.int) i = some (.int z) := by
  obtain ⟨j, rfl⟩ : ∃ j : Nat, i = (j : Int) := ⟨i.toNat, by omega⟩
  have hj : j < ns.length := by omega
  refine ⟨ns[j], List.getElem_mem hj, atI_nat ?_⟩
  rw [List.getElem?_map, List.getElem?_eq_getElem hj]
  rfl
theorem md {x m : Int} (h : 0 < m) : 0 ≤ x % m ∧ x % m < m := ⟨Int.emod_nonneg _ (by omega), Int.emod_lt_of_pos _ h⟩
theorem ps60 : (0 : Int) < 10 ^ Int.toNat 60 := by decide +kernel
theorem ps40 : (0 : Int) < 10 ^ Int.toNat 40 := by decide +kernel
section
variable {P : Program} {w : World} {K : PySem.W.Frag} {mg : Str → Option Value} {base : Heap}
def spI1 : Sp := Sp1 fun x H Q _ => ∃ i : Int, x = .int i ∧ ∀ (z : Int) H', Same H H' → Q (.int z) H'
def spNumber : Sp := Sp3 fun x y z H Q _ => ∃ (i j : Int) (b : Bool), x = .int i ∧ y = .int j ∧ z = .bl b ∧ ∀ z : Int, Q (.int z) H
theorem ok_Number (T : Tx K mg) : Okp P w K mg base 1 (He.fAd K ("_law_number", none)) ["_law_cell", "_law_k", "_law_digits"] spNumber := by
  refine okn len3 T.f_law_number sc_law_number fun cdv A outer s0 H vs Q E hr h => ?_
  obtain ⟨_, _, _, rfl, i, j, b, rfl, rfl, rfl, k⟩ := h
  have nd := sc_law_number.nd
  refine ⟨_, pss_cons (ps_if (pt_val (pv 2)) (pss_one (ps_ret (pe_op op_mod (pv 0) (pe_op op_pow pe_int pe_int)))) pss_nil)
    (pss_cons (ps_set (i := 3) nd rfl (Or.inl rfl) (pe_op op_mod (pe_op op_mul (pe_op op_add (pe_op op_add (pe_op op_mod (pv 0) (pe_op op_pow pe_int pe_int)) (pe_op op_mul pe_int (pv 1))) pe_int) pe_int) pe_int))
    (pss_one (ps_ret (pe_op op_add (pe_op op_mul (pv 3) pe_int) (pe_op op_mod (pe_op op_mul (pv 3) (pv 3)) pe_int))))), ?_⟩
  refine ⟨_, rfl, b, rfl, ite2 (fun _ => ?_) fun _ => ?_⟩
  · exact ⟨_, rfl, _, _, rfl, rfl, ⟨by decide, by decide, by decide⟩, _, _, rfl, rfl, ps60, k _⟩
  · have hm := md (x := ((i % (10 ^ 40) + 7919 * j + 11) * 48271)) (m := 2147483647) (by decide)
    refine ⟨_, rfl, _, _, rfl, rfl, ⟨by decide, by decide, by decide⟩, _, _, rfl, rfl, ps40, _, rfl, _, _, rfl, rfl, .inl ⟨by decide, by decide⟩, _, _, rfl, rfl, _, _, rfl, rfl, _, _, rfl, rfl, .inr ⟨by decide, by decide⟩, _, _, rfl, rfl, (by show (0 : Int) < 2147483647; decide), ?_⟩
    exact ⟨_, rfl, _, _, rfl, rfl, .inl ⟨by omega, by omega⟩, _, rfl, _, rfl, _, _, rfl, rfl, .inl ⟨by omega, by omega⟩, _, _, rfl, rfl, (by show (0 : Int) < 2147483629; decide), _, _, rfl, rfl, k _⟩
def spTasks : Sp := Sp1 fun x H Q _ => ∃ i : Int, x = .int i ∧ ∀ q H' (a b : Int), Same H H' → H q = none → H' q = some (.lst ([1, 2, a, b].map V.int)) → Q (.ref q) H'
theorem ok_Tasks (T : Tx K mg) : Okp P w K mg base 1 (He.fAd K ("_law_tasks", none)) ["_law_cell"] spTasks := by
  refine okn len1 T.f_law_tasks sc_law_tasks fun cdv A outer s0 H vs Q E hr h => ?_
  obtain ⟨_, rfl, i, rfl, k⟩ := h
  refine ⟨_, pss_one (ps_ret (pe_lst (pa_cons pe_int (pa_cons pe_int (pa_cons (pe_op op_add pe_int (pe_op op_mod (pv 0) pe_int)) (pa_cons (pe_op op_add (pe_op op_pow pe_int pe_int) (pe_op op_mod (pv 0) (pe_op op_pow pe_int pe_int))) pa_nil)))))), ?_⟩
  refine ⟨_, rfl, _, _, rfl, rfl, (by show (0 : Int) < 9; decide), _, _, rfl, rfl, _, _, rfl, rfl, ⟨by decide, by decide, by decide⟩, _, rfl, _, _, rfl, rfl, ⟨by decide, by decide, by decide⟩, _, _, rfl, rfl, ps40, _, _, rfl, rfl, (by show 4 ≤ sizeLine; decide), fun q hq => ?_⟩
  exact k q _ _ _ (same_new (Same.refl H) hq) hq upd_same
/-- [..][i] -/
theorem ok_Page (T : Tx K mg) : Okp P w K mg base 1 (He.fAd K ("_law_page", none)) ["_law_rest"] spI1 := by
  refine okn len1 T.f_law_page sc_law_page fun cdv A outer s0 H vs Q E hr h => ?_
  obtain ⟨_, rfl, r, rfl, k⟩ := h
  refine ⟨_, pss_cons (ps_if (pt_cmpR op_eq (pe_op op_mod (pv 0) pe_int) pe_int (nomark _))
      (pss_one (ps_ret (pe_ix ix_list (pe_lst (pa_cons (pe_un un_neg pe_int) (pa_cons pe_int (pa_cons (pe_un un_neg (pe_op op_pow pe_int pe_int)) (pa_cons (pe_op op_pow pe_int pe_int) pa_nil))))) (pe_op op_mod (pe_op op_fdiv (pv 0) pe_int) pe_int) (fun _ _ => rfl)))) pss_nil)
    (pss_one (ps_ret (pe_ix ix_list (pe_lst (pa_cons (pe_op op_mod (pe_op op_fdiv (pv 0) pe_int) pe_int) (pa_cons (pe_op op_mod (pe_op op_fdiv (pv 0) pe_int) pe_int) pa_nil))) (pe_op op_mod (pv 0) pe_int) (fun _ _ => rfl)))), ?_⟩
  refine ⟨_, rfl, _, _, rfl, rfl, (by show (0 : Int) < 16; decide), rfl, _, rfl, ite2 (fun _ => ?_) fun _ => ?_⟩
  · refine ⟨_, rfl, _, _, rfl, rfl, ⟨by decide, by decide, by decide⟩, _, rfl, _, _, rfl, rfl, ⟨by decide, by decide, by decide⟩, by decide, fun q hq => ?_⟩
    obtain ⟨z, _, hz⟩ := at_ints [-1, 64, -(10 ^ Int.toNat 50), 10 ^ Int.toNat 55] (r / 16 % 4) (md (by decide)).1 (md (by decide)).2
    exact ⟨_, rfl, _, _, rfl, rfl, ⟨by decide, by decide⟩, _, _, rfl, rfl, (by show (0 : Int) < 4; decide), q, _, _, _, rfl, rfl, SqL.of upd_same, hz, k z _ (same_new (Same.refl H) hq)⟩
  · refine ⟨_, rfl, _, _, rfl, rfl, ⟨by decide, by decide⟩, _, _, rfl, rfl, (by show (0 : Int) < 6; decide), _, rfl, _, _, rfl, rfl, ⟨by decide, by decide⟩, _, _, rfl, rfl, (by show (0 : Int) < 64; decide), (by show 2 ≤ sizeLine; decide), fun q hq => ?_⟩
    obtain ⟨z, _, hz⟩ := at_ints [r / 16 % 6, r / 16 % 64] (r % 2) (md (by decide)).1 (md (by decide)).2
    exact ⟨_, rfl, _, _, rfl, rfl, (by show (0 : Int) < 2; decide), q, _, _, _, rfl, rfl, SqL.of upd_same, hz, k z _ (same_new (Same.refl H) hq)⟩
theorem ok_Many (T : Tx K mg) : Okp P w K mg base 1 (He.fAd K ("_law_many", none)) ["_law_rest"] spI1 := by
  refine okn len1 T.f_law_many sc_law_many fun cdv A outer s0 H vs Q E hr h => ?_
  obtain ⟨_, rfl, r, rfl, k⟩ := h
  refine ⟨_, pss_cons (ps_if (pt_cmpR op_eq (pe_op op_mod (pv 0) pe_int) pe_int (nomark _))
      (pss_one (ps_ret (pe_ix ix_list (pe_lst (pa_cons pe_int (pa_cons (pe_un un_neg pe_int) (pa_cons pe_int (pa_cons pe_int (pa_cons (pe_op op_pow pe_int pe_int) (pa_cons (pe_un un_neg (pe_op op_pow pe_int pe_int)) pa_nil))))))) (pe_op op_mod (pe_op op_fdiv (pv 0) pe_int) pe_int) (fun _ _ => rfl)))) pss_nil)
    (pss_one (ps_ret (pe_ix ix_list (pe_lst (pa_cons pe_int (pa_cons (pe_op op_add pe_int (pe_op op_mod (pe_op op_fdiv (pv 0) pe_int) pe_int)) (pa_cons (pe_op op_add pe_int (pe_op op_mod (pe_op op_fdiv (pv 0) pe_int) pe_int)) pa_nil)))) (pe_op op_mod (pv 0) pe_int) (fun _ _ => rfl)))), ?_⟩
  refine ⟨_, rfl, _, _, rfl, rfl, (by show (0 : Int) < 16; decide), rfl, _, rfl, ite2 (fun _ => ?_) fun _ => ?_⟩
  · refine ⟨_, rfl, _, _, rfl, rfl, ⟨by decide, by decide, by decide⟩, _, _, rfl, rfl, ⟨by decide, by decide, by decide⟩, _, rfl, (by show 6 ≤ sizeLine; decide), fun q hq => ?_⟩
    obtain ⟨z, _, hz⟩ := at_ints [0, -1, 64, 65, 10 ^ Int.toNat 55, -(10 ^ Int.toNat 40)] (r / 16 % 6) (md (by decide)).1 (md (by decide)).2
    exact ⟨_, rfl, _, _, rfl, rfl, ⟨by decide, by decide⟩, _, _, rfl, rfl, (by show (0 : Int) < 6; decide), q, _, _, _, rfl, rfl, SqL.of upd_same, hz, k z _ (same_new (Same.refl H) hq)⟩
  · refine ⟨_, rfl, _, _, rfl, rfl, ⟨by decide, by decide⟩, _, _, rfl, rfl, (by show (0 : Int) < 3; decide), _, _, rfl, rfl, _, rfl, _, _, rfl, rfl, ⟨by decide, by decide⟩, _, _, rfl, rfl, (by show (0 : Int) < 12; decide), _, _, rfl, rfl, (by show 3 ≤ sizeLine; decide), fun q hq => ?_⟩
    obtain ⟨z, _, hz⟩ := at_ints [1, 1 + r / 16 % 3, 1 + r / 16 % 12] (r % 3) (md (by decide)).1 (md (by decide)).2
    exact ⟨_, rfl, _, _, rfl, rfl, (by show (0 : Int) < 3; decide), q, _, _, _, rfl, rfl, SqL.of upd_same, hz, k z _ (same_new (Same.refl H) hq)⟩
theorem ok_Address (T : Tx K mg) : Okp P w K mg base 1 (He.fAd K ("_law_address", none)) ["_law_rest"] spI1 := by
  refine okn len1 T.f_law_address sc_law_address fun cdv A outer s0 H vs Q E hr h => ?_
  obtain ⟨_, rfl, r, rfl, k⟩ := h
  refine ⟨_, pss_cons (ps_if (pt_cmpR op_eq (pe_op op_mod (pv 0) pe_int) pe_int (nomark _))
      (pss_one (ps_ret (pe_ix ix_list (pe_lst (pa_cons (pe_un un_neg pe_int) (pa_cons pe_int (pa_cons pe_int (pa_cons (pe_un un_neg (pe_op op_pow pe_int pe_int)) (pa_cons (pe_op op_pow pe_int pe_int) pa_nil)))))) (pe_op op_mod (pe_op op_fdiv (pv 0) pe_int) pe_int) (fun _ _ => rfl)))) pss_nil)
    (pss_one (ps_ret (pe_ix ix_list (pe_lst (pa_cons (pe_op op_mod (pe_op op_fdiv (pv 0) pe_int) pe_int) (pa_cons (pe_op op_mod (pe_op op_fdiv (pv 0) pe_int) pe_int) pa_nil))) (pe_op op_mod (pv 0) pe_int) (fun _ _ => rfl)))), ?_⟩
  refine ⟨_, rfl, _, _, rfl, rfl, (by show (0 : Int) < 16; decide), rfl, _, rfl, ite2 (fun _ => ?_) fun _ => ?_⟩
  · refine ⟨_, rfl, _, _, rfl, rfl, ⟨by decide, by decide, by decide⟩, _, rfl, _, _, rfl, rfl, ⟨by decide, by decide, by decide⟩, (by show 5 ≤ sizeLine; decide), fun q hq => ?_⟩
    obtain ⟨z, _, hz⟩ := at_ints [-1, 512, 511, -(10 ^ Int.toNat 50), 10 ^ Int.toNat 55] (r / 16 % 5) (md (by decide)).1 (md (by decide)).2
    exact ⟨_, rfl, _, _, rfl, rfl, ⟨by decide, by decide⟩, _, _, rfl, rfl, (by show (0 : Int) < 5; decide), q, _, _, _, rfl, rfl, SqL.of upd_same, hz, k z _ (same_new (Same.refl H) hq)⟩
  · refine ⟨_, rfl, _, _, rfl, rfl, ⟨by decide, by decide⟩, _, _, rfl, rfl, (by show (0 : Int) < 48; decide), _, rfl, _, _, rfl, rfl, ⟨by decide, by decide⟩, _, _, rfl, rfl, (by show (0 : Int) < 512; decide), (by show 2 ≤ sizeLine; decide), fun q hq => ?_⟩
    obtain ⟨z, _, hz⟩ := at_ints [r / 16 % 48, r / 16 % 512] (r % 2) (md (by decide)).1 (md (by decide)).2
    exact ⟨_, rfl, _, _, rfl, rfl, (by show (0 : Int) < 2; decide), q, _, _, _, rfl, rfl, SqL.of upd_same, hz, k z _ (same_new (Same.refl H) hq)⟩
def spSizes : Sp := Sp1 fun x H Q _ => ∃ i : Int, x = .int i ∧ ∀ tp H' (fr sl : Nat), Same H H' → H' tp = some (.tup [.int (fr : Int), .int (sl : Int)]) → 2 ≤ fr → fr ≤ 60 → sl ≤ 60 → Q (.ref tp) H'
theorem ok_Sizes (T : Tx K mg) : Okp P w K mg base 1 (He.fAd K ("_law_sizes", none)) ["_law_first"] spSizes := by
  refine okn len1 T.f_law_sizes sc_law_sizes fun cdv A outer s0 H vs Q E hr h => ?_
  obtain ⟨_, rfl, r, rfl, k⟩ := h
  have nd := sc_law_sizes.nd
  refine ⟨_, pss_cons (ps_set (i := 1) nd rfl (Or.inl rfl) (pe_ix ix_list (pe_lst (pa_cons pe_int (pa_cons pe_int (pa_cons (pe_op op_add pe_int (pe_op op_mod (pe_op op_fdiv (pv 0) pe_int) pe_int)) (pa_cons (pe_op op_add pe_int (pe_op op_mod (pe_op op_fdiv (pv 0) pe_int) pe_int)) pa_nil))))) (pe_op op_mod (pe_op op_fdiv (pv 0) pe_int) pe_int) (fun _ _ => rfl)))
    (pss_cons (ps_set (i := 2) nd rfl (Or.inl rfl) (pe_ix ix_list (pe_lst (pa_cons pe_int (pa_cons pe_int (pa_cons (pe_op op_mod (pe_op op_fdiv (pv 0) pe_int) pe_int) (pa_cons (pe_op op_mod (pe_op op_fdiv (pv 0) pe_int) pe_int) pa_nil))))) (pe_op op_mod (pe_op op_fdiv (pv 0) pe_int) pe_int) (fun _ _ => rfl)))
    (pss_one (ps_ret (pe_tup (pa_cons (pv 1) (pa_cons (pv 2) pa_nil)))))), ?_⟩
  have m5 := md (x := r / 2) (m := 5) (by decide)
  have m39 := md (x := r / 2) (m := 39) (by decide)
  have m6 := md (x := r / 40) (m := 6) (by decide)
  have m61 := md (x := r / 40) (m := 61) (by decide)
  refine ⟨_, rfl, _, _, rfl, rfl, ⟨by decide, by decide⟩, _, _, rfl, rfl, (by show (0 : Int) < 5; decide), _, _, rfl, rfl, _, rfl, _, _, rfl, rfl, ⟨by decide, by decide⟩, _, _, rfl, rfl, (by show (0 : Int) < 39; decide), _, _, rfl, rfl, (by show 4 ≤ sizeLine; decide), fun q hq => ?_⟩
  obtain ⟨z, hm, hz⟩ := at_ints [2, 3, 2 + r / 2 % 5, 2 + r / 2 % 39] (r / 10 % 4) (md (by decide)).1 (md (by decide)).2
  have hz1 : 2 ≤ z ∧ z ≤ 60 := by
    simp only [List.mem_cons, List.not_mem_nil, or_false] at hm
    omega
  have s1 : Same H (upd H q (.lst [V.int 2, V.int 3, V.int (2 + r / 2 % 5), V.int (2 + r / 2 % 39)])) := same_new (Same.refl H) hq
  refine ⟨_, rfl, _, _, rfl, rfl, ⟨by decide, by decide⟩, _, _, rfl, rfl, (by show (0 : Int) < 4; decide), q, _, _, _, rfl, rfl, SqL.of upd_same, hz, ?_⟩
  refine ⟨_, rfl, _, _, rfl, rfl, ⟨by decide, by decide⟩, _, _, rfl, rfl, (by show (0 : Int) < 6; decide), _, rfl, _, _, rfl, rfl, ⟨by decide, by decide⟩, _, _, rfl, rfl, (by show (0 : Int) < 61; decide), (by show 4 ≤ sizeLine; decide), fun q2 hq2 => ?_⟩
  obtain ⟨u, hn, hu⟩ := at_ints [0, 1, r / 40 % 6, r / 40 % 61] (r / 160 % 4) (md (by decide)).1 (md (by decide)).2
  have hu1 : 0 ≤ u ∧ u ≤ 60 := by
    simp only [List.mem_cons, List.not_mem_nil, or_false] at hn
    omega
  refine ⟨_, rfl, _, _, rfl, rfl, ⟨by decide, by decide⟩, _, _, rfl, rfl, (by show (0 : Int) < 4; decide), q2, _, _, _, rfl, rfl, SqL.of upd_same, hu, ?_⟩
  refine ⟨_, rfl, _, rfl, (by show 2 ≤ sizeLine; decide), fun tp htp => ?_⟩
  obtain ⟨fr, rfl⟩ : ∃ n : Nat, z = (n : Int) := ⟨z.toNat, by omega⟩
  obtain ⟨sl, rfl⟩ : ∃ n : Nat, u = (n : Int) := ⟨u.toNat, by omega⟩
  have s2 := same_new (o := .lst [V.int 0, V.int 1, V.int (r / 40 % 6), V.int (r / 40 % 61)]) s1 (s1.free hq2)
  exact k tp _ fr sl (same_new s2 (s2.free htp)) upd_same (by omega) (by omega) (by omega)
end

-- part K9Lb
section
variable {P : Program} {w : World} {K : PySem.W.Frag} {mg : Str → Option Value} {base : Heap}
def spLCells : Sp := Sp1 fun x H Q _ => ∃ i : Int, x = .int i ∧ ∀ q H' (cs : List Int), Same H H' → H q = none → H' q = some (.lst (cs.map V.int)) → cs.length ≤ 64 → Q (.ref q) H'
theorem ok_LCells (T : Tx K mg) : Okp P w K mg base 1 (He.fAd K ("_law_cells", none)) ["_law_rest"] spLCells := by
  refine okn len1 T.f_law_cells sc_law_cells fun cdv A outer s0 H vs Q E hr h => ?_
  obtain ⟨_, rfl, r, rfl, k⟩ := h
  have nd := sc_law_cells.nd
  refine ⟨_, pss_cons (ps_set (i := 1) nd rfl (Or.inl rfl) (pe_ix ix_list (pe_lst (pa_cons pe_int (pa_cons (pe_op op_add pe_int (pe_op op_mod (pe_op op_fdiv (pv 0) pe_int) pe_int)) (pa_cons pe_int (pa_cons (pe_op op_add pe_int (pe_op op_mod (pe_op op_fdiv (pv 0) pe_int) pe_int)) (pa_cons (pe_ix ix_list (pe_lst (pa_cons pe_int (pa_cons pe_int pa_nil))) (pe_op op_mod (pe_op op_fdiv (pv 0) pe_int) pe_int) (fun _ _ => rfl)) pa_nil)))))) (pe_op op_mod (pv 0) pe_int) (fun _ _ => rfl)))
    (pss_one (ps_ret (pe_lc (own := [("_law_k", 2)]) (g := gName 2) (tt := tYes) (te := tOp (rI (fun _ j => 0 < j) fun i j => V.int (i % j)) (tOp (rI0 fun i j => V.int (i + j)) (tOp (rI CDiv fun i j => V.int (i / j)) (tVar 0) (tC (V.int 320))) (tOp (rI CMul fun i j => V.int (i * j)) (tVar 2) (tOp (rI CDiv fun i j => V.int (i / j)) (tVar 0) (tC (V.int 81920))))) (tC (V.int 256))) rfl nd (pi_range1 rfl T.n_range (pa_cons (pv 1) pa_nil)) (blkOk_by (N := ["_law_rest", "_law_many_here", "_law_k"]) (sc := defScope st_law_cells) (by decide +kernel))
      (fun _ _ _ _ _ => pg_name (i := 2) nd rfl (Or.inl rfl)) (fun _ _ _ _ _ => pts_nil) (fun _ _ _ _ _ => by
        refine pe_op op_mod (pe_op op_add (pe_op op_fdiv ?_ pe_int) (pe_op op_mul ?_ (pe_op op_fdiv ?_ pe_int))) pe_int
        · exact pv 0
        · exact pv 2
        · exact pv 0)))), ?_⟩
  have m8 := md (x := r / 5) (m := 8) (by decide)
  have m24 := md (x := r / 5) (m := 24) (by decide)
  refine ⟨_, rfl, _, _, rfl, rfl, ⟨by decide, by decide⟩, _, _, rfl, rfl, (by show (0 : Int) < 8; decide), _, _, rfl, rfl, _, rfl, _, _, rfl, rfl, ⟨by decide, by decide⟩, _, _, rfl, rfl, (by show (0 : Int) < 24; decide), _, _, rfl, rfl, by decide, fun q0 hq0 => ?_⟩
  obtain ⟨z0, hm0, hz0⟩ := at_ints [0, 64] (r / 5 % 2) (md (by decide)).1 (md (by decide)).2
  have s0 : Same H (upd H q0 (.lst [V.int 0, V.int 64])) := same_new (Same.refl H) hq0
  refine ⟨_, rfl, _, _, rfl, rfl, ⟨by decide, by decide⟩, _, _, rfl, rfl, (by show (0 : Int) < 2; decide), q0, _, _, _, rfl, rfl, SqL.of upd_same, hz0, (by show 5 ≤ sizeLine; decide), fun q hq => ?_⟩
  obtain ⟨z, hm, hz⟩ := at_ints [1, 1 + r / 5 % 8, 8, 1 + r / 5 % 24, z0] (r % 5) (md (by decide)).1 (md (by decide)).2
  have hz1 : 0 ≤ z ∧ z ≤ 64 := by
    simp only [List.mem_cons, List.not_mem_nil, or_false] at hm hm0
    omega
  refine ⟨_, rfl, _, _, rfl, rfl, (by show (0 : Int) < 5; decide), q, _, _, _, rfl, rfl, SqL.of upd_same, hz, ?_⟩
  have s1 := same_new (o := .lst [V.int 1, V.int (1 + r / 5 % 8), V.int 8, V.int (1 + r / 5 % 24), V.int z0]) s0 (s0.free hq)
  generalize upd (upd H q0 (.lst [V.int 0, V.int 64])) q (.lst [V.int 1, V.int (1 + r / 5 % 8), V.int 8, V.int (1 + r / 5 % 24), V.int z0]) = H1 at *
  refine ⟨_, rfl, _, rfl, by omega, by omega, fun D hD => lc_range (lo := 0) (n := z.toNat) (fun i H2 => Same H1 H2 ∧ H2 D = some (.lst (((List.range i).map fun j : Nat => (r / 320 + (0 + (j : Int)) * (r / 81920)) % 256).map V.int))) ?_ ?_ ?_⟩
  · exact ⟨same_new (Same.refl H1) hD, by rw [upd_same]; rfl⟩
  · rintro i H2 hi ⟨s2, hD2⟩
    refine ⟨rfl, ?_⟩
    dsimp only [tYes]
    refine iteT ?_
    refine ⟨_, rfl, _, _, rfl, rfl, ⟨by decide, by decide⟩, _, rfl, _, rfl, _, _, rfl, rfl, ⟨by decide, by decide⟩, _, _, rfl, rfl, .inl ⟨by omega, by omega⟩, _, _, rfl, rfl, _, _, rfl, rfl, (by show (0 : Int) < 256; decide), ?_⟩
    refine ⟨_, hD2, by rw [List.length_map, List.length_map, List.length_range]; exact small1000 (by omega), same_new s2 hD, ?_⟩
    rw [upd_same, List.range_succ, List.map_append, List.map_append]
    rfl
  · rintro H2 ⟨s2, hD2⟩
    exact k D H2 _ (s1.trans s2) (s1.free hD) hD2 (by rw [List.length_map, List.length_range]; omega)
end

-- part K9Lc
/-! ### deeds -/
inductive Deed where
  | begin (t : Int)
  | close (t : Int)
  | map (t p n : Int)
  | drop (t p n : Int)
  | peek (t a n : Int)
  | poke (t a : Int) (cs : List Int)
  | copy (t u : Int)
def Deed.nm : Deed → Str
  | .begin _ => "begin"
  | .close _ => "close"
  | .map _ _ _ => "map"
  | .drop _ _ _ => "drop"
  | .peek _ _ _ => "peek"
  | .poke _ _ _ => "poke"
  | .copy _ _ => "copy"
/-- the deed's own values, l the list of a poke's cells -/
def Deed.xs (l : Addr) : Deed → List V
  | .begin t => [.str "begin", .int t]
  | .close t => [.str "close", .int t]
  | .map t p n => [.str "map", .int t, .int p, .int n]
  | .drop t p n => [.str "drop", .int t, .int p, .int n]
  | .peek t a n => [.str "peek", .int t, .int a, .int n]
  | .poke t a _ => [.str "poke", .int t, .int a, .ref l]
  | .copy t u => [.str "copy", .int t, .int u]
def Deed.cs : Deed → List Int
  | .poke _ _ cs => cs
  | _ => []
def Deed.ok (ts : List Int) : Deed → Prop
  | .begin t => t ∈ ts
  | .close t => t ∈ ts
  | .map t _ _ => t ∈ ts
  | .drop t _ _ => t ∈ ts
  | .peek t _ _ => t ∈ ts
  | .poke t _ cs => t ∈ ts ∧ cs.length ≤ 64
  | .copy t u => t ∈ ts ∧ u ∈ ts
/-- a deed stands at a; its cells at l -/
structure DeedV (H : Hp) (a : Addr) (d : Deed) (l : Addr) : Prop where
  tup : H a = some (.tup (d.xs l))
  lst : ∀ t c cs, d = .poke t c cs → H l = some (.lst (cs.map V.int))
theorem at2 {a b c : V} {r : List V} : atI (a :: b :: c :: r) 2 = some c := atI_nat (j := 2) rfl
theorem at3 {a b c d : V} {r : List V} : atI (a :: b :: c :: d :: r) 3 = some d := atI_nat (j := 3) rfl
section
variable {P : Program} {w : World} {K : PySem.W.Frag} {mg : Str → Option Value} {base : Heap}
def tIs1 : TT := fun σ H Q => ∃ n a : Int, σ[2]? = some (some (.int n)) ∧ σ[4]? = some (some (.int a)) ∧ Q (decide (n = 1 ∧ a % 3 = 0)) H
theorem pt_is1 {X : Cx} {e : Expr} {t : TT} (h : PT X e t) (k : ∀ σ H Q, tIs1 σ H Q → t σ H Q) : PT X e tIs1 := ⟨fun pins s σ H Q I hw => h.run pins s σ H Q I (k σ H Q hw)⟩
theorem vi {a b : Int} (h : decide (V.int a = V.int b) = true) : a = b := V.int.inj (of_decide_eq_true h)
theorem nvi {a b : Int} (h : ¬ decide (V.int a = V.int b) = true) : a ≠ b := fun e => h (decide_eq_true (by rw [e]))
theorem is1_ok {σ : L2.St} {H : Hp} {Q : Bool → Hp → Prop} {n a : Int} (h1 : σ[2]? = some (some (.int n))) (h2 : σ[4]? = some (some (.int a))) (q : Q (decide (n = 1 ∧ a % 3 = 0)) H) :
    tAnd (tTest (tOp rEq (tVar 2) (tC (V.int 1)))) (tTest (tOp rEq (tOp (rI (fun x j => 0 < j) fun i j => V.int (i % j)) (tVar 4) (tC (V.int 3))) (tC (V.int 0)))) σ H Q := by
  have tr : (n = 1 ∧ a % 3 = 0) → Q true H := fun z => by rw [decide_eq_true z] at q; exact q
  have fa : ¬ (n = 1 ∧ a % 3 = 0) → Q false H := fun z => by rw [decide_eq_false z] at q; exact q
  refine ⟨_, h1, rfl, _, rfl, ite2 (fun z => ?_) fun z => fa fun q => nvi z q.1⟩
  have z1 := vi z
  refine ⟨_, h2, _, _, rfl, rfl, (by show (0 : Int) < 3; decide), rfl, _, rfl, ?_⟩
  by_cases z2 : a % 3 = 0
  · rw [decide_eq_true (show V.int (a % 3) = V.int 0 by rw [z2])]
    exact tr ⟨z1, z2⟩
  · rw [decide_eq_false (show ¬ V.int (a % 3) = V.int 0 from fun e => z2 (V.int.inj e))]
    exact fa fun q => z2 q.2
def spDeed (K : PySem.W.Frag) : Sp := Sp2 fun x y H Q _ => ∃ (n : Int) (tl : Addr) (ts : List Int), x = .int n ∧ y = .ref tl ∧ SqL K H tl (ts.map V.int) ∧ ts.length = 4 ∧
  ∀ a l d H', Same H H' → H l = none → H' a = some (.tup (Deed.xs l d)) → (∀ t c cs, d = .poke t c cs → H' l = some (.lst (cs.map V.int))) → d.ok ts → Q (.ref a) H'
theorem ok_Deed (T : Tx K mg) : Okp P w K mg base 2 (He.fAd K ("_law_deed", none)) ["_law_number_here", "_law_tasks_here"] (spDeed K) := by
  refine okn len2 T.f_law_deed sc_law_deed fun cdv A outer s0 H vs Q E hr h => ?_
  obtain ⟨_, _, rfl, n, tl, ts, rfl, rfl, hts, h4, k⟩ := h
  have nd := sc_law_deed.nd
  refine ⟨_, pss_cons (ps_set (i := 2) nd rfl (Or.inl rfl) (pe_op op_mod (pv 0) pe_int))
    (pss_cons (ps_set (i := 3) nd rfl (Or.inl rfl) (pe_ix ix_list (pv 1) (pe_op op_mod (pe_op op_fdiv (pv 0) pe_int) pe_int) (fun _ _ => rfl)))
    (pss_cons (ps_set (i := 4) nd rfl (Or.inl rfl) (pe_op op_fdiv (pv 0) pe_int))
    (pss_cons (ps_if (pt_cmpR op_eq (pv 2) pe_int (nomark _)) (pss_one (ps_ret (pe_tup (pa_cons pe_str (pa_cons (pv 3) pa_nil))))) pss_nil)
    (pss_cons (ps_if (pt_is1 (PW.pt (pw_and (pt_cmpR op_eq (pv 2) pe_int (nomark _)) (pw_and1 (pt_cmpR op_eq (pe_op op_mod (pv 4) pe_int) pe_int (nomark _))))) (fun σ H Q ⟨n, a, h1, h2, q⟩ => is1_ok h1 h2 q)) (pss_one (ps_ret (pe_tup (pa_cons pe_str (pa_cons (pv 3) pa_nil))))) pss_nil)
    (pss_cons (ps_if (pt_cmpR op_lt (pv 2) pe_int (nomark _)) (pss_one (ps_ret (pe_tup (pa_cons pe_str (pa_cons (pv 3) (pa_cons (pe_c (ok_Page T) T.g_law_page hr (pa_cons (pv 4) pa_nil)) (pa_cons (pe_c (ok_Many T) T.g_law_many hr (pa_cons (pe_op op_fdiv (pv 4) pe_int) pa_nil)) pa_nil))))))) pss_nil)
    (pss_cons (ps_if (pt_cmpR op_eq (pv 2) pe_int (nomark _)) (pss_one (ps_ret (pe_tup (pa_cons pe_str (pa_cons (pv 3) (pa_cons (pe_c (ok_Page T) T.g_law_page hr (pa_cons (pv 4) pa_nil)) (pa_cons (pe_c (ok_Many T) T.g_law_many hr (pa_cons (pe_op op_fdiv (pv 4) pe_int) pa_nil)) pa_nil))))))) pss_nil)
    (pss_cons (ps_if (pt_cmpR op_lt (pv 2) pe_int (nomark _))
      (pss_cons (ps_set (i := 5) nd rfl (Or.inl rfl) (pe_c (ok_Many T) T.g_law_many hr (pa_cons (pe_op op_fdiv (pv 4) pe_int) pa_nil)))
        (pss_one (ps_ret (pe_tup (pa_cons pe_str (pa_cons (pv 3) (pa_cons (pe_c (ok_Address T) T.g_law_address hr (pa_cons (pv 4) pa_nil)) (pa_cons (pe_ifExp (pt_chain op_lt op_lt pe_int (pv 5) pe_int) (pe_callB (call_min2 rfl) (by rfl) T.n_min (by decide +kernel) (pa_cons pe_int (pa_cons (pv 5) pa_nil))) (pv 5)) pa_nil)))))))) pss_nil)
    (pss_cons (ps_if (pt_cmpR op_lt (pv 2) pe_int (nomark _)) (pss_one (ps_ret (pe_tup (pa_cons pe_str (pa_cons (pv 3) (pa_cons (pe_c (ok_Address T) T.g_law_address hr (pa_cons (pv 4) pa_nil)) (pa_cons (pe_c (ok_LCells T) T.g_law_cells hr (pa_cons (pe_op op_fdiv (pv 4) pe_int) pa_nil)) pa_nil))))))) pss_nil)
    (pss_one (ps_ret (pe_tup (pa_cons pe_str (pa_cons (pv 3) (pa_cons (pe_ix ix_list (pv 1) (pe_op op_mod (pv 4) pe_int) (fun _ _ => rfl)) pa_nil)))))))))))))), ?_⟩
  obtain ⟨t, ht, hat⟩ := at_ints ts (n / 12 % 4) (md (by decide)).1 (by rw [h4]; exact (md (by decide)).2)
  refine ⟨_, rfl, _, _, rfl, rfl, (by show (0 : Int) < 12; decide), _, rfl, _, rfl, _, _, rfl, rfl, ⟨by decide, by decide⟩, _, _, rfl, rfl, (by show (0 : Int) < 4; decide), tl, _, _, _, rfl, rfl, hts, hat, _, rfl, _, _, rfl, rfl, ⟨by decide, by decide⟩, ?_⟩
  -- a free address for the deeds without cells
  have two : ∀ (d : Deed) (x y : V), (∀ l, d.xs l = [x, y]) → d.ok ts → (∀ t c cs, d ≠ .poke t c cs) → 2 ≤ sizeLine ∧ ∀ tp, H tp = none → Q (.ref tp) (upd H tp (.tup [x, y])) := fun d x y hd ho hp =>
    ⟨by decide, fun tp htp => k tp tp d _ (same_new (Same.refl H) htp) htp (by rw [upd_same, hd]) (fun t c cs e => absurd e (hp t c cs)) ho⟩
  refine ⟨_, rfl, rfl, _, rfl, ite2 (fun _ => ?_) fun _ => ?_⟩
  · exact ⟨_, rfl, two (.begin t) _ _ (fun _ => rfl) ht fun _ _ _ e => by cases e⟩
  refine ⟨_, _, rfl, rfl, ite2 (fun _ => ?_) fun _ => ?_⟩
  · exact ⟨_, rfl, two (.close t) _ _ (fun _ => rfl) ht fun _ _ _ e => by cases e⟩
  have four : ∀ (d : Deed) (xs : List V) (H1 : Hp), Same H H1 → xs.length = 4 → (∀ l, d.xs l = xs) → d.ok ts → (∀ t c cs, d ≠ .poke t c cs) → xs.length ≤ sizeLine ∧ ∀ tp, H1 tp = none → Q (.ref tp) (upd H1 tp (.tup xs)) := fun d xs H1 s1 hx hd ho hp =>
    ⟨by rw [hx]; decide, fun tp htp => k tp tp d _ (same_new s1 (s1.free htp)) (s1.free htp) (by rw [upd_same, hd]) (fun t c cs e => absurd e (hp t c cs)) ho⟩
  refine ⟨_, rfl, _, _, rfl, rfl, _, rfl, ite2 (fun _ => ?_) fun _ => ?_⟩
  · refine ⟨_, rfl, _, rfl, _, rfl, _, rfl, fun z1 H1 s1 => ?_⟩
    refine ⟨_, rfl, _, _, rfl, rfl, ⟨by decide, by decide⟩, _, rfl, _, rfl, fun z2 H2 s2 => ?_⟩
    exact four (.map t z1 z2) _ H2 (s1.trans s2) rfl (fun _ => rfl) ht fun _ _ _ e => by cases e
  refine ⟨_, rfl, rfl, _, rfl, ite2 (fun _ => ?_) fun _ => ?_⟩
  · refine ⟨_, rfl, _, rfl, _, rfl, _, rfl, fun z1 H1 s1 => ?_⟩
    refine ⟨_, rfl, _, _, rfl, rfl, ⟨by decide, by decide⟩, _, rfl, _, rfl, fun z2 H2 s2 => ?_⟩
    exact four (.drop t z1 z2) _ H2 (s1.trans s2) rfl (fun _ => rfl) ht fun _ _ _ e => by cases e
  refine ⟨_, rfl, _, _, rfl, rfl, _, rfl, ite2 (fun _ => ?_) fun _ => ?_⟩
  · refine ⟨_, rfl, _, _, rfl, rfl, ⟨by decide, by decide⟩, _, rfl, _, rfl, fun z1 H1 s1 => ?_⟩
    refine ⟨_, rfl, _, rfl, _, rfl, _, rfl, fun z2 H2 s2 => ?_⟩
    have fin : ∀ z : Int, [V.str "peek", V.int t, V.int z2, V.int z].length ≤ sizeLine ∧ ∀ tp, H2 tp = none → Q (.ref tp) (upd H2 tp (.tup [V.str "peek", V.int t, V.int z2, V.int z])) := fun z =>
      four (.peek t z2 z) _ H2 (s1.trans s2) rfl (fun _ => rfl) ht fun _ _ _ e => by cases e
    refine ⟨_, rfl, _, _, rfl, rfl, _, rfl, ite2 (fun _ => ?_) fun _ => ?_⟩
    · refine ⟨_, _, rfl, rfl, _, rfl, ite2 (fun _ => ?_) fun _ => ?_⟩
      · exact ⟨_, rfl, _, _, rfl, fin _⟩
      · exact ⟨_, rfl, fin _⟩
    · exact ⟨_, rfl, iteF ⟨_, rfl, fin _⟩⟩
  refine ⟨_, rfl, _, _, rfl, rfl, _, rfl, ite2 (fun _ => ?_) fun _ => ?_⟩
  · refine ⟨_, rfl, _, rfl, _, rfl, _, rfl, fun z1 H1 s1 => ?_⟩
    refine ⟨_, rfl, _, _, rfl, rfl, ⟨by decide, by decide⟩, _, rfl, _, rfl, fun l H2 cs s2 hl0 hl2 hcs => ?_⟩
    refine ⟨(by show 4 ≤ sizeLine; decide), fun tp htp => ?_⟩
    have s12 := s1.trans s2
    refine k tp l (.poke t z1 cs) _ (same_new s12 (s12.free htp)) (s1.free hl0) upd_same (fun t' c' cs' e => ?_) ⟨ht, hcs⟩
    cases e
    rw [upd_ne fun z => by rw [← z, hl2] at htp; cases htp]
    exact hl2
  · obtain ⟨u, hu, hau⟩ := at_ints ts (n / 48 % 4) (md (by decide)).1 (by rw [h4]; exact (md (by decide)).2)
    refine ⟨_, rfl, _, rfl, _, rfl, _, _, rfl, rfl, (by show (0 : Int) < 4; decide), tl, _, _, _, rfl, rfl, hts, hau, (by show 3 ≤ sizeLine; decide), fun tp htp => ?_⟩
    exact k tp tp (.copy t u) _ (same_new (Same.refl H) htp) htp upd_same (fun _ _ _ e => by cases e) ⟨ht, hu⟩
end

-- part K9Ld
/-- a deed that was done -/
def Dn (S : PS) (d : Deed) (S' : PS) : Prop := match d with
  | .begin t => t ∉ S.ts ∧ S' = S.begin t
  | .close t => t ∈ S.ts ∧ S' = S.close t
  | .map t p n => t ∈ S.ts ∧ (1 ≤ n ∧ 0 ≤ p ∧ p + n ≤ 64) ∧ (∀ z, z ∈ tz t p n.toNat → S.e z = none) ∧ S' = S.lays .blank (tz t p n.toNat)
  | .drop t p n => t ∈ S.ts ∧ (1 ≤ n ∧ 0 ≤ p ∧ p + n ≤ 64) ∧ (∀ z, z ∈ tz t p n.toNat → (S.e z).isSome = true) ∧ S' = S.drops (tz t p n.toNat)
  | .peek t a n => PkOk S t a n ∧ Mv S S' ∧ (0 < n → S'.e (t, (a + n - 1) / 8) = some .blank ∨ ∃ m, S'.e (t, (a + n - 1) / 8) = some (.at false m))
  | .poke t a cs => PkOk S t a (cs.length : Int) ∧ Pks S S' (pgl t a (a + (cs.length : Int))) ∧ (0 < cs.length → ∃ m, S'.e (t, (a + (cs.length : Int) - 1) / 8) = some (.at false m))
  | .copy t u => t ∈ S.ts ∧ u ∉ S.ts ∧ Cpd S t u (pgsE (S.pl t)) S'
theorem a0 {a : V} {r : List V} : atI (a :: r) 0 = some a := atI_nat (j := 0) rfl
theorem a1 {a b : V} {r : List V} : atI (a :: b :: r) 1 = some b := atI_nat (j := 1) rfl
def Deed.room : Deed → Bool
  | .map _ _ _ => true
  | .copy _ _ => true
  | _ => false
theorem strT {a : Str} {P Q : Prop} (p : P) : if decide (V.str a = V.str a) = true then P else Q := by rw [decide_eq_true rfl]; exact iteT p
theorem strF {a b : Str} {P Q : Prop} (h : (decide (V.str a = V.str b)) = false) (q : Q) : if decide (V.str a = V.str b) = true then P else Q := by rw [h]; exact iteF q
section
variable {P : Program} {w : World} {K : PySem.W.Frag} {mg : Str → Option Value} {base : Heap}
def spDo (K : PySem.W.Frag) : Sp := Sp2 fun x y H Q E => ∃ (g : Col) (r : Addr) (S : PS) (a l : Addr) (d : Deed), x = .ref r ∧ y = .ref a ∧ Live g H ∧ RoA K g H r S ∧ DeedV H a d l ∧ d.cs.length ≤ 64 ∧ S.ts.length < 1000 ∧
  (∀ nm, nm ∈ excN → (d.room = false → nm ≠ "NoRoom") → ∀ H', Same H H' → E (xC K nm) none H') ∧
  (∀ S' v, Dn S d S' → Out isRm g H (fun g' H' => RoA K g' H' r S') (Q v))
theorem ok_Do (T : Tx K mg) : Okp P w K mg base 10 (He.fAd K ("_law_do", none)) ["_law_rooms", "_law_deed_here"] (spDo K) := by
  refine okx len2 T.f_law_do sc_law_do fun cdv A outer s0 H vs Q E hr h => ?_
  obtain ⟨_, _, rfl, g, r, S, a, l, d, rfl, rfl, L, X, D, h64, hts, kx, k⟩ := h
  have nd := sc_law_do.nd
  have tk := L2N.takes_of (X := cxOf (L2N.CX P w) P w K mg base ["_law_rooms", "_law_deed_here"] "_law_do" (defScope st_law_do) (He.fAd K ("_law_do", none)) cdv A outer s0 H E) rfl rfl rfl rfl
  refine ⟨_, pss_cons (ps_if (pt_cmpR op_eq (pe_ix ix_tup (pv 1) pe_int (fun _ _ => rfl)) pe_str (nomark _)) (pss_one (ps_ret (pe_mx tk (pv 0) T.c_Rooms T.m_Rooms_begin (ok_Begin T) (hr.mono (by decide)) (pa_cons (pe_ix ix_tup (pv 1) pe_int (fun _ _ => rfl)) pa_nil)))) pss_nil)
    (pss_cons (ps_if (pt_cmpR op_eq (pe_ix ix_tup (pv 1) pe_int (fun _ _ => rfl)) pe_str (nomark _)) (pss_one (ps_ret (pe_mx tk (pv 0) T.c_Rooms T.m_Rooms_close (ok_Close T) (hr.mono (by decide)) (pa_cons (pe_ix ix_tup (pv 1) pe_int (fun _ _ => rfl)) pa_nil)))) pss_nil)
    (pss_cons (ps_if (pt_cmpR op_eq (pe_ix ix_tup (pv 1) pe_int (fun _ _ => rfl)) pe_str (nomark _)) (pss_one (ps_ret (pe_mx tk (pv 0) T.c_Rooms T.m_Rooms_map (ok_Map T) (hr.mono (by decide)) (pa_cons (pe_ix ix_tup (pv 1) pe_int (fun _ _ => rfl)) (pa_cons (pe_ix ix_tup (pv 1) pe_int (fun _ _ => rfl)) (pa_cons (pe_ix ix_tup (pv 1) pe_int (fun _ _ => rfl)) pa_nil)))))) pss_nil)
    (pss_cons (ps_if (pt_cmpR op_eq (pe_ix ix_tup (pv 1) pe_int (fun _ _ => rfl)) pe_str (nomark _)) (pss_one (ps_ret (pe_mx tk (pv 0) T.c_Rooms T.m_Rooms_drop (ok_Drop T) (hr.mono (by decide)) (pa_cons (pe_ix ix_tup (pv 1) pe_int (fun _ _ => rfl)) (pa_cons (pe_ix ix_tup (pv 1) pe_int (fun _ _ => rfl)) (pa_cons (pe_ix ix_tup (pv 1) pe_int (fun _ _ => rfl)) pa_nil)))))) pss_nil)
    (pss_cons (ps_if (pt_cmpR op_eq (pe_ix ix_tup (pv 1) pe_int (fun _ _ => rfl)) pe_str (nomark _)) (pss_one (ps_ret (pe_mx tk (pv 0) T.c_Rooms T.m_Rooms_peek (ok_Peek T) (hr.mono (by decide)) (pa_cons (pe_ix ix_tup (pv 1) pe_int (fun _ _ => rfl)) (pa_cons (pe_ix ix_tup (pv 1) pe_int (fun _ _ => rfl)) (pa_cons (pe_ix ix_tup (pv 1) pe_int (fun _ _ => rfl)) pa_nil)))))) pss_nil)
    (pss_cons (ps_if (pt_cmpR op_eq (pe_ix ix_tup (pv 1) pe_int (fun _ _ => rfl)) pe_str (nomark _)) (pss_one (ps_ret (pe_mx tk (pv 0) T.c_Rooms T.m_Rooms_poke (ok_Poke T) hr (pa_cons (pe_ix ix_tup (pv 1) pe_int (fun _ _ => rfl)) (pa_cons (pe_ix ix_tup (pv 1) pe_int (fun _ _ => rfl)) (pa_cons (pe_ix ix_tup (pv 1) pe_int (fun _ _ => rfl)) pa_nil)))))) pss_nil)
    (pss_one (ps_ret (pe_mx tk (pv 0) T.c_Rooms T.m_Rooms_copy (ok_Copy T) (hr.mono (by decide)) (pa_cons (pe_ix ix_tup (pv 1) pe_int (fun _ _ => rfl)) (pa_cons (pe_ix ix_tup (pv 1) pe_int (fun _ _ => rfl)) pa_nil)))))))))), ?_⟩
  have rob : ∃ dx p, H r = some (.ins (cRo K) dx (roF p)) := let ⟨dx, p, _, _, h⟩ := X; ⟨dx, p, h.rob.h⟩
  obtain ⟨dx, p, hro⟩ := rob
  have hD := SqT.of (K := K) D.tup
  have small : ∀ nm, nm ∈ excN → nm ≠ "NoRoom" → ∀ H', Same H H' → E (xC K nm) none H' := fun nm h1 h2 => kx nm h1 fun _ => h2
  cases d with
  | begin t =>
    refine ⟨_, rfl, a, _, _, _, rfl, rfl, hD, a0, rfl, _, rfl, strT ?_⟩
    refine ⟨_, rfl, r, dx, _, rfl, hro, by kernel_rfl, _, rfl, a, _, _, _, rfl, rfl, hD, a1, _, _, rfl, g, r, S, t, rfl, rfl, L, X, hts, fun ht => small "Taken" (by decide +kernel) (by decide +kernel) H (Same.refl H), fun ht g' H' G R => k _ _ ⟨ht, rfl⟩ g' H' G R⟩
  | close t =>
    refine ⟨_, rfl, a, _, _, _, rfl, rfl, hD, a0, rfl, _, rfl, strF (by decide +kernel) ?_⟩
    refine ⟨_, rfl, a, _, _, _, rfl, rfl, hD, a0, rfl, _, rfl, strT ?_⟩
    refine ⟨_, rfl, r, dx, _, rfl, hro, by kernel_rfl, _, rfl, a, _, _, _, rfl, rfl, hD, a1, _, _, rfl, g, r, S, t, rfl, rfl, L, X, fun ht => small "NoTask" (by decide +kernel) (by decide +kernel) H (Same.refl H), fun ht v g' H' G R => k _ _ ⟨ht, rfl⟩ g' H' G R⟩
  | map t p n =>
    refine ⟨_, rfl, a, _, _, _, rfl, rfl, hD, a0, rfl, _, rfl, strF (by decide +kernel) ?_⟩
    refine ⟨_, rfl, a, _, _, _, rfl, rfl, hD, a0, rfl, _, rfl, strF (by decide +kernel) ?_⟩
    refine ⟨_, rfl, a, _, _, _, rfl, rfl, hD, a0, rfl, _, rfl, strT ?_⟩
    refine ⟨_, rfl, r, dx, _, rfl, hro, by kernel_rfl, _, rfl, a, _, _, _, rfl, rfl, hD, a1, _, rfl, a, _, _, _, rfl, rfl, hD, at2, _, rfl, a, _, _, _, rfl, rfl, hD, at3, _, _, _, _, rfl, g, r, S, t, p, n, rfl, rfl, rfl, rfl, L, X, fun nm h1 => kx nm h1 fun h => (by cases h), fun ht hn hf g' H' G R => k _ _ ⟨ht, hn, hf, rfl⟩ g' H' G R⟩
  | drop t p n =>
    refine ⟨_, rfl, a, _, _, _, rfl, rfl, hD, a0, rfl, _, rfl, strF (by decide +kernel) ?_⟩
    refine ⟨_, rfl, a, _, _, _, rfl, rfl, hD, a0, rfl, _, rfl, strF (by decide +kernel) ?_⟩
    refine ⟨_, rfl, a, _, _, _, rfl, rfl, hD, a0, rfl, _, rfl, strF (by decide +kernel) ?_⟩
    refine ⟨_, rfl, a, _, _, _, rfl, rfl, hD, a0, rfl, _, rfl, strT ?_⟩
    refine ⟨_, rfl, r, dx, _, rfl, hro, by kernel_rfl, _, rfl, a, _, _, _, rfl, rfl, hD, a1, _, rfl, a, _, _, _, rfl, rfl, hD, at2, _, rfl, a, _, _, _, rfl, rfl, hD, at3, _, _, _, _, rfl, g, r, S, t, p, n, rfl, rfl, rfl, rfl, L, X, small, fun ht hn hf g' H' G R => k _ _ ⟨ht, hn, hf, rfl⟩ g' H' G R⟩
  | peek t ad n =>
    refine ⟨_, rfl, a, _, _, _, rfl, rfl, hD, a0, rfl, _, rfl, strF (by decide +kernel) ?_⟩
    refine ⟨_, rfl, a, _, _, _, rfl, rfl, hD, a0, rfl, _, rfl, strF (by decide +kernel) ?_⟩
    refine ⟨_, rfl, a, _, _, _, rfl, rfl, hD, a0, rfl, _, rfl, strF (by decide +kernel) ?_⟩
    refine ⟨_, rfl, a, _, _, _, rfl, rfl, hD, a0, rfl, _, rfl, strF (by decide +kernel) ?_⟩
    refine ⟨_, rfl, a, _, _, _, rfl, rfl, hD, a0, rfl, _, rfl, strT ?_⟩
    refine ⟨_, rfl, r, dx, _, rfl, hro, by kernel_rfl, _, rfl, a, _, _, _, rfl, rfl, hD, a1, _, rfl, a, _, _, _, rfl, rfl, hD, at2, _, rfl, a, _, _, _, rfl, rfl, hD, at3, _, _, _, _, rfl, g, r, S, t, ad, n, rfl, rfl, rfl, rfl, L, X, fun _ => small, fun ok q g' H' G ⟨S', xs, R, M, _, hl, _⟩ => k S' _ ⟨ok, M, hl⟩ g' H' G R⟩
  | poke t ad cs =>
    refine ⟨_, rfl, a, _, _, _, rfl, rfl, hD, a0, rfl, _, rfl, strF (by decide +kernel) ?_⟩
    refine ⟨_, rfl, a, _, _, _, rfl, rfl, hD, a0, rfl, _, rfl, strF (by decide +kernel) ?_⟩
    refine ⟨_, rfl, a, _, _, _, rfl, rfl, hD, a0, rfl, _, rfl, strF (by decide +kernel) ?_⟩
    refine ⟨_, rfl, a, _, _, _, rfl, rfl, hD, a0, rfl, _, rfl, strF (by decide +kernel) ?_⟩
    refine ⟨_, rfl, a, _, _, _, rfl, rfl, hD, a0, rfl, _, rfl, strF (by decide +kernel) ?_⟩
    refine ⟨_, rfl, a, _, _, _, rfl, rfl, hD, a0, rfl, _, rfl, strT ?_⟩
    have ec : ((cs.map V.int).length : Int) = (cs.length : Int) := by rw [List.length_map]
    refine ⟨_, rfl, r, dx, _, rfl, hro, by kernel_rfl, _, rfl, a, _, _, _, rfl, rfl, hD, a1, _, rfl, a, _, _, _, rfl, rfl, hD, at2, _, rfl, a, _, _, _, rfl, rfl, hD, at3, _, _, _, _, rfl, g, r, S, t, ad, l, cs.map V.int, rfl, rfl, rfl, rfl, L, X, SqL.of (D.lst _ _ _ rfl), by rw [List.length_map]; exact h64, fun _ => small, ?_⟩
    rw [List.length_map]
    exact fun ok g' H' G ⟨S', R, M, hl⟩ => k S' _ ⟨ok, M, hl⟩ g' H' G R
  | copy t u =>
    refine ⟨_, rfl, a, _, _, _, rfl, rfl, hD, a0, rfl, _, rfl, strF (by decide +kernel) ?_⟩
    refine ⟨_, rfl, a, _, _, _, rfl, rfl, hD, a0, rfl, _, rfl, strF (by decide +kernel) ?_⟩
    refine ⟨_, rfl, a, _, _, _, rfl, rfl, hD, a0, rfl, _, rfl, strF (by decide +kernel) ?_⟩
    refine ⟨_, rfl, a, _, _, _, rfl, rfl, hD, a0, rfl, _, rfl, strF (by decide +kernel) ?_⟩
    refine ⟨_, rfl, a, _, _, _, rfl, rfl, hD, a0, rfl, _, rfl, strF (by decide +kernel) ?_⟩
    refine ⟨_, rfl, a, _, _, _, rfl, rfl, hD, a0, rfl, _, rfl, strF (by decide +kernel) ?_⟩
    refine ⟨_, rfl, r, dx, _, rfl, hro, by kernel_rfl, _, rfl, a, _, _, _, rfl, rfl, hD, a1, _, rfl, a, _, _, _, rfl, rfl, hD, at2, _, _, _, rfl, g, r, S, t, u, rfl, rfl, rfl, L, X, hts, fun nm h1 => kx nm h1 fun h => (by cases h), fun ht hu g' H' G ⟨S', R, C⟩ => k S' _ ⟨ht, hu, C⟩ g' H' G R⟩
end

-- part K9Le
/-! ### the law's own pages -/
def isLp : Role → Bool
  | .lpd => true
  | .lpi _ => true
  | _ => false
/-- a dict of rooms' dicts: m tells what each holds -/
structure LpM (g : Col) (H : Hp) (lp : Addr) (ts : List Int) (m : Int → Int → Option Int) (kl : List (Int × V)) : Prop where
  lpd : Pt g .lpd H lp (.dK (liK kl))
  kls : kl.map (·.1) = ts
  nd : ts.Nodup
  few : ts.length ≤ 1000
  inn : ∀ t v, valV kl t = some v → ∃ (a : Addr) (ks : List (Int × V)), v = .ref a ∧ Pt g (.lpi t) H a (.dK (liK ks)) ∧ (ks.map (·.1)).Nodup ∧ ∀ q, valV ks q = (m t q).map V.int
  dom : ∀ t q, (m t q).isSome = true → 0 ≤ q ∧ q < 64
def LpA (g : Col) (H : Hp) (lp : Addr) (ts : List Int) (m : Int → Int → Option Int) : Prop := ∃ kl, LpM g H lp ts m kl
def setI (m : Int → Int → Option Int) (t q : Int) (c : Option Int) : Int → Int → Option Int := fun u x => if u = t ∧ x = q then c else m u x
def setR (m : Int → Int → Option Int) (t : Int) (f : Int → Option Int) : Int → Int → Option Int := fun u => if u = t then f else m u
section
variable {g g1 : Col} {H H1 : Hp} {lp : Addr} {ts : List Int} {m : Int → Int → Option Int} {kl : List (Int × V)} {R : Role → Bool}
theorem LpM.keep (x : LpM g H lp ts m kl) (G : Grow R g H g1 H1) (n : ∀ r, isLp r = true → R r = false) : LpM g1 H1 lp ts m kl :=
  { x with
    lpd := x.lpd.keep G (n _ rfl)
    inn := fun t v e => let ⟨a, ks, h1, h2, h3, h4⟩ := x.inn t v e; ⟨a, ks, h1, h2.keep G (n _ rfl), h3, h4⟩ }
theorem LpM.same (x : LpM g H lp ts m kl) (l : Live g H) (s : Same H H1) : LpM g H1 lp ts m kl := x.keep (R := fun _ => false) (Grow.same l s) fun _ _ => rfl
theorem LpM.dict (x : LpM g H lp ts m kl) {t : Int} (ht : t ∈ ts) : ∃ (a : Addr) (ks : List (Int × V)), valV kl t = some (.ref a) ∧ DGet H lp (.int t) (some (.ref a)) ∧ Pt g (.lpi t) H a (.dK (liK ks)) ∧ (ks.map (·.1)).Nodup ∧ (∀ q, valV ks q = (m t q).map V.int) ∧ (∀ q, q ∈ ks.map (·.1) ↔ (m t q).isSome = true) ∧ ks.length ≤ 64 := by
  rw [← x.kls] at ht
  obtain ⟨v, ev⟩ := valV_some ht
  obtain ⟨a, ks, rfl, h2, h3, h4⟩ := x.inn t v ev
  have hk : ∀ q, q ∈ ks.map (·.1) ↔ (m t q).isSome = true := fun q => by
    constructor
    · intro h
      obtain ⟨v, e⟩ := valV_some h
      rw [h4] at e
      cases e2 : m t q with
      | none => rw [e2] at e; cases e
      | some z => rfl
    · intro h
      cases e2 : m t q with
      | none => rw [e2] at h; cases h
      | some z =>
        have := h4 q
        rw [e2] at this
        exact valV_in this
  refine ⟨a, ks, ev, ?_, h2, h3, h4, hk, ?_⟩
  · rw [← ev, ← liK_val]
    exact DGet.k (k := Sum.inl t) x.lpd.h
  · have := few_keys h3 (n := 64) fun q hq => x.dom t q ((hk q).mp hq)
    rw [List.length_map] at this
    exact this
theorem lp_line {n : Nat} (h : n ≤ 64) : n < sizeLine := small1000 (by omega)
/-- pages[t][q] = c -/
theorem LpM.put (x : LpM g H lp ts m kl) (L : Live g H) {t q c : Int} {a : Addr} {ks : List (Int × V)} (ev : valV kl t = some (.ref a)) (ha : Pt g (.lpi t) H a (.dK (liK ks))) (nd : (ks.map (·.1)).Nodup) (hv : ∀ q, valV ks q = (m t q).map V.int) (hl : ks.length ≤ 64) (hq : 0 ≤ q ∧ q < 64) :
    DPut H a (.int q) (.int c) (upd H a (.dK (liK (putK ks q (.int c))))) ∧ Grow isLp g H g (upd H a (.dK (liK (putK ks q (.int c))))) ∧ LpM g (upd H a (.dK (liK (putK ks q (.int c))))) lp ts (setI m t q (some c)) kl := by
  have G : Grow (fun r => r == .lpi t) g H g (upd H a (.dK (liK (putK ks q (.int c))))) := Grow.write L ha.h (by intro xs z; cases z) ha.c (by simp)
  refine ⟨?_, G.mono fun r h => by have := eq_of_beq h; subst this; rfl, { x with
    lpd := x.lpd.keep G rfl
    inn := fun u v e => ?_
    dom := fun u p hp => ?_ }⟩
  · rw [← liK_put]
    exact DPut.k (k := Sum.inl q) ha.h (by rw [liK_len]; exact lp_line hl)
  · by_cases z : u = t
    · subst z
      rw [ev] at e
      cases e
      refine ⟨a, putK ks q (.int c), rfl, ha.self, nd_put nd, fun p => ?_⟩
      rw [valV_put]
      unfold setI
      by_cases z : p = q
      · rw [if_pos z, if_pos ⟨rfl, z⟩]
        rfl
      · rw [if_neg z, if_neg fun k => z k.2]
        exact hv p
    · obtain ⟨b, ks2, h1, h2, h3, h4⟩ := x.inn u v e
      refine ⟨b, ks2, h1, h2.keep G (beq_false_of_ne fun k => z (by injection k)), h3, fun p => ?_⟩
      rw [h4]
      unfold setI
      rw [if_neg fun k => z k.1]
  · unfold setI at hp
    by_cases k : u = t ∧ p = q
    · rw [k.2]; exact hq
    · rw [if_neg k] at hp
      exact x.dom u p hp
/-- pages[t].pop(q) -/
theorem LpM.pop (x : LpM g H lp ts m kl) (L : Live g H) {t q : Int} {a : Addr} {ks : List (Int × V)} (ev : valV kl t = some (.ref a)) (ha : Pt g (.lpi t) H a (.dK (liK ks))) (nd : (ks.map (·.1)).Nodup) (hv : ∀ q, valV ks q = (m t q).map V.int) :
    Grow isLp g H g (upd H a (.dK (liK (dropK ks q)))) ∧ LpM g (upd H a (.dK (liK (dropK ks q)))) lp ts (setI m t q none) kl := by
  have G : Grow (fun r => r == .lpi t) g H g (upd H a (.dK (liK (dropK ks q)))) := Grow.write L ha.h (by intro xs z; cases z) ha.c (by simp)
  refine ⟨G.mono fun r h => by have := eq_of_beq h; subst this; rfl, { x with
    lpd := x.lpd.keep G rfl
    inn := fun u v e => ?_
    dom := fun u p hp => ?_ }⟩
  · by_cases z : u = t
    · subst z
      rw [ev] at e
      cases e
      refine ⟨a, dropK ks q, rfl, ha.self, nd_dropK nd, fun p => ?_⟩
      rw [valV_drop]
      unfold setI
      by_cases z : p = q
      · rw [if_pos z, if_pos ⟨rfl, z⟩]
        rfl
      · rw [if_neg z, if_neg fun k => z k.2]
        exact hv p
    · obtain ⟨b, ks2, h1, h2, h3, h4⟩ := x.inn u v e
      refine ⟨b, ks2, h1, h2.keep G (beq_false_of_ne fun k => z (by injection k)), h3, fun p => ?_⟩
      rw [h4]
      unfold setI
      rw [if_neg fun k => z k.1]
  · unfold setI at hp
    by_cases k : u = t ∧ p = q
    · rw [if_pos k] at hp; cases hp
    · rw [if_neg k] at hp
      exact x.dom u p hp
/-- pages[t] = d, d a new dict that holds f -/
theorem LpM.newT (x : LpM g H lp ts m kl) (L : Live g H) {t : Int} {d : Addr} {ks : List (Int × V)} {f : Int → Option Int} (ht : t ∉ ts) (hd : H d = none) (hl : ts.length < 1000) (nd : (ks.map (·.1)).Nodup) (hv : ∀ q, valV ks q = (f q).map V.int) (hf : ∀ q, (f q).isSome = true → 0 ≤ q ∧ q < 64) :
    DPut (upd H d (.dK (liK ks))) lp (.int t) (.ref d) (upd (upd H d (.dK (liK ks))) lp (.dK (liK (putK kl t (.ref d))))) ∧
    Grow isLp g H (updC g d (.lpi t)) (upd (upd H d (.dK (liK ks))) lp (.dK (liK (putK kl t (.ref d))))) ∧ LpM (updC g d (.lpi t)) (upd (upd H d (.dK (liK ks))) lp (.dK (liK (putK kl t (.ref d))))) lp (ts ++ [t]) (setR m t f) (putK kl t (.ref d)) := by
  have hn : valV kl t = none := by
    cases e : valV kl t with
    | none => rfl
    | some v => exact absurd (valV_in e) (by rw [x.kls]; exact ht)
  have G1 : Grow (fun r => r == .lpi t) g H (updC g d (.lpi t)) (upd H d (.dK (liK ks))) := Grow.made L hd (by simp)
  have L1 := G1.live L
  have hl1 := x.lpd.made (r' := .lpi t) (v := .dK (liK ks)) hd
  have hd1 : Pt (updC g d (.lpi t)) (.lpi t) (upd H d (.dK (liK ks))) d (.dK (liK ks)) := Pt.mk'
  have G2 : Grow (fun r => r == .lpd) (updC g d (.lpi t)) (upd H d (.dK (liK ks))) (updC g d (.lpi t)) (upd (upd H d (.dK (liK ks))) lp (.dK (liK (putK kl t (.ref d))))) := Grow.write L1 hl1.h (by intro xs z; cases z) hl1.c (by simp)
  refine ⟨?_, (G1.mono fun r h => by have := eq_of_beq h; subst this; rfl).trans (G2.mono fun r h => by have := eq_of_beq h; subst this; rfl), ⟨hl1.self, by rw [keys_put_new _ hn, x.kls], nd_snoc x.nd ht, by rw [List.length_append]; exact hl, fun u v e => ?_, fun u p hp => ?_⟩⟩
  · rw [← liK_put]
    refine DPut.k (k := Sum.inl t) hl1.h ?_
    rw [liK_len]
    have := congrArg List.length x.kls
    rw [List.length_map] at this
    rw [this]
    exact small1000 (Nat.le_of_lt hl)
  · rw [valV_put] at e
    by_cases z : u = t
    · subst z
      rw [if_pos rfl] at e
      cases e
      refine ⟨d, ks, rfl, hd1.keep G2 rfl, nd, fun q => ?_⟩
      rw [hv]
      unfold setR
      rw [if_pos rfl]
    · rw [if_neg z] at e
      obtain ⟨b, ks2, h1, h2, h3, h4⟩ := x.inn u v e
      refine ⟨b, ks2, h1, (h2.keep G1 (beq_false_of_ne fun k => z (by injection k))).keep G2 rfl, h3, fun q => ?_⟩
      rw [h4]
      unfold setR
      rw [if_neg z]
  · unfold setR at hp
    by_cases z : u = t
    · rw [if_pos z] at hp; exact hf p hp
    · rw [if_neg z] at hp; exact x.dom u p hp
/-- pages.pop(t) -/
theorem LpM.popT (x : LpM g H lp ts m kl) (L : Live g H) (t : Int) :
    Grow isLp g H g (upd H lp (.dK (liK (dropK kl t)))) ∧ LpM g (upd H lp (.dK (liK (dropK kl t)))) lp (ts.filter fun u => decide (u ≠ t)) (setR m t fun _ => none) (dropK kl t) := by
  have G : Grow (fun r => r == .lpd) g H g (upd H lp (.dK (liK (dropK kl t)))) := Grow.write L x.lpd.h (by intro xs z; cases z) x.lpd.c (by simp)
  refine ⟨G.mono fun r h => by have := eq_of_beq h; subst this; rfl, ⟨x.lpd.self, by rw [filter_keys, x.kls], List.Nodup.sublist List.filter_sublist x.nd, Nat.le_trans (List.length_filter_le _ _) x.few, fun u v e => ?_, fun u p hp => ?_⟩⟩
  · rw [valV_drop] at e
    by_cases z : u = t
    · rw [if_pos z] at e; cases e
    · rw [if_neg z] at e
      obtain ⟨b, ks2, h1, h2, h3, h4⟩ := x.inn u v e
      refine ⟨b, ks2, h1, h2.keep G rfl, h3, fun q => ?_⟩
      rw [h4]
      unfold setR
      rw [if_neg z]
  · unfold setR at hp
    by_cases z : u = t
    · rw [if_pos z] at hp; cases hp
    · rw [if_neg z] at hp; exact x.dom u p hp
end
/-- what the law's pages say of S -/
def mOf (S : PS) (pk : Int × Int → Int) : Int → Int → Option Int := fun t q => if (S.pl t q).isSome then some (pk (t, q)) else none
def pkD (k : Int) (pk : Int × Int → Int) : Deed → Int × Int → Int
  | .map t p n => fun z => if z ∈ tz t p n.toNat then 0 else pk z
  | .poke t a cs => fun z => if z ∈ pgl t a (a + (cs.length : Int)) then 64 * k + z.2 + 1 else pk z
  | .copy t u => cpk pk t u
  | _ => pk

-- part K9Lf
theorem LpM.congr {g : Col} {H : Hp} {lp : Addr} {ts : List Int} {m m' : Int → Int → Option Int} {kl : List (Int × V)} (x : LpM g H lp ts m kl) (h : ∀ t q, m t q = m' t q) : LpM g H lp ts m' kl := by
  have e : m = m' := funext fun t => funext fun q => h t q
  rw [← e]
  exact x
theorem pgl_mem {t a n : Int} {z : Int × Int} (ok : SOk a (a + n)) : z ∈ pgl t a (a + n) ↔ z.1 = t ∧ z.2 ∈ (List.range n.toNat).map fun j : Nat => (a + (j : Int)) / 8 := by
  have h0 := ok.h
  unfold pgl
  rw [List.mem_map, List.mem_map]
  constructor
  · rintro ⟨s, hs, rfl⟩
    obtain ⟨i, hi⟩ := List.getElem?_of_mem hs
    obtain ⟨hic, rfl⟩ := stsL_at hi
    obtain ⟨b1, b2, b3, b4, b5, b6, b7, b8, b9⟩ := sBd_in ok hic
    refine ⟨rfl, (sBd a (a + n) i - a).toNat, List.mem_range.mpr ?_, ?_⟩
    · omega
    · show (a + ((sBd a (a + n) i - a).toNat : Int)) / 8 = a / 8 + (i : Int)
      have : a ≤ sBd a (a + n) i := by
        unfold sBd
        split
        · omega
        · split <;> omega
      rw [← b3]
      congr 1
      omega
  · rintro ⟨h1, j, hj, h2⟩
    have hj := List.mem_range.mp hj
    have hc : ((a + (j : Int)) / 8 - a / 8).toNat < sCnt a (a + n) := by
      unfold sCnt
      rw [if_pos (by omega)]
      omega
    refine ⟨sSt a (a + n) ((a + (j : Int)) / 8 - a / 8).toNat, List.mem_map.mpr ⟨_, List.mem_range.mpr hc, rfl⟩, Prod.ext h1.symm ?_⟩
    show a / 8 + (((a + (j : Int)) / 8 - a / 8).toNat : Int) = z.2
    rw [← h2]
    omega
section
variable {P : Program} {w : World} {K : PySem.W.Frag} {mg : Str → Option Value} {base : Heap}
def spMapped (K : PySem.W.Frag) : Sp := Sp3 fun x y z H Q _ => ∃ (g : Col) (lp a l : Addr) (S S' : PS) (pk : Int × Int → Int) (d : Deed) (kk : Int), x = .ref lp ∧ y = .ref a ∧ z = .int kk ∧ Live g H ∧ LpA g H lp S.ts (mOf S pk) ∧ DeedV H a d l ∧ Gx S [] ∧ S.ts.length < 1000 ∧ Dn S d S' ∧
  Out isLp g H (fun g' H' => LpA g' H' lp S'.ts (mOf S' (pkD kk pk d))) (Q .non)
theorem ok_Mapped (T : Tx K mg) : Okp P w K mg base 1 (He.fAd K ("_law_mapped", none)) ["_law_pages", "_law_deed_here", "_law_k"] (spMapped K) := by
  refine okn len3 T.f_law_mapped sc_law_mapped fun cdv A outer s0 H vs Q E hr h => ?_
  obtain ⟨_, _, _, rfl, g, lp, a, l, S, S', pk, d, kk, rfl, rfl, rfl, L, ⟨kl, X⟩, D, Gs, hts, dn, k⟩ := h
  have hu := hu_of hr
  have nd := sc_law_mapped.nd
  refine ⟨_, pss_cons (ps_if (pt_cmpR op_eq (pe_ix ix_tup (pv 1) pe_int (fun _ _ => rfl)) pe_str (nomark _)) (pss_one (ps_dput hu (pv 0) (pe_ix ix_tup (pv 1) pe_int (fun _ _ => rfl)) pe_dnewK rfl)) pss_nil)
    (pss_cons (ps_if (pt_cmpR op_eq (pe_ix ix_tup (pv 1) pe_int (fun _ _ => rfl)) pe_str (nomark _)) (pss_one (ps_expr (pe_dpop1 (pv 0) (pe_ix ix_tup (pv 1) pe_int (fun _ _ => rfl)) ⟨rfl, rfl, rfl, rfl⟩))) pss_nil)
    (pss_cons (ps_if (pt_cmpR op_eq (pe_ix ix_tup (pv 1) pe_int (fun _ _ => rfl)) pe_str (nomark _)) (pss_one (ps_dput hu (pv 0) (pe_ix ix_tup (pv 1) pe_int (fun _ _ => rfl)) (pe_callTy call_dictD (by rfl) T.n_dict (by decide +kernel) (pa_cons (pe_dget hu (pv 0) (pe_ix ix_tup (pv 1) pe_int (fun _ _ => rfl)) (fun _ _ => rfl)) pa_nil)) rfl)) pss_nil)
    (pss_cons (ps_if (pt_cmpR op_eq (pe_ix ix_tup (pv 1) pe_int (fun _ _ => rfl)) pe_str (nomark _)) (pss_one (ps_for PassesOwn.never rfl (pi_range2 (by rfl) T.n_range (pa_cons (pe_ix ix_tup (pv 1) pe_int (fun _ _ => rfl)) (pa_cons (pe_op op_add (pe_ix ix_tup (pv 1) pe_int (fun _ _ => rfl)) (pe_ix ix_tup (pv 1) pe_int (fun _ _ => rfl))) pa_nil))) (pg_name (i := 3) nd rfl (Or.inl rfl))
      (pss_one (ps_dput hu (pe_dget hu (pv 0) (pe_ix ix_tup (pv 1) pe_int (fun _ _ => rfl)) (fun _ _ => rfl)) (pv 3) pe_int rfl)))) pss_nil)
    (pss_cons (ps_if (pt_cmpR op_eq (pe_ix ix_tup (pv 1) pe_int (fun _ _ => rfl)) pe_str (nomark _)) (pss_one (ps_for PassesOwn.never rfl (pi_range2 (by rfl) T.n_range (pa_cons (pe_ix ix_tup (pv 1) pe_int (fun _ _ => rfl)) (pa_cons (pe_op op_add (pe_ix ix_tup (pv 1) pe_int (fun _ _ => rfl)) (pe_ix ix_tup (pv 1) pe_int (fun _ _ => rfl))) pa_nil))) (pg_name (i := 3) nd rfl (Or.inl rfl))
      (pss_one (ps_expr (pe_dpop1 (pe_dget hu (pv 0) (pe_ix ix_tup (pv 1) pe_int (fun _ _ => rfl)) (fun _ _ => rfl)) (pv 3) ⟨rfl, rfl, rfl, rfl⟩))))) pss_nil)
    (pss_one (ps_if (pt_cmpR op_eq (pe_ix ix_tup (pv 1) pe_int (fun _ _ => rfl)) pe_str (nomark _)) (pss_one (ps_for PassesOwn.never rfl (pi_range1 rfl T.n_range (pa_cons (pe_callB call_len_seq (by rfl) T.n_len PySem.boot_len (pa_cons (pe_ix ix_tup (pv 1) pe_int (fun _ _ => rfl)) pa_nil)) pa_nil)) (pg_name (i := 4) nd rfl (Or.inl rfl))
      (pss_cons (ps_set (i := 3) nd rfl (Or.inl rfl) (pe_op op_fdiv (pe_op op_add (pe_ix ix_tup (pv 1) pe_int (fun _ _ => rfl)) (pv 4)) pe_int))
        (pss_one (ps_dput hu (pe_dget hu (pv 0) (pe_ix ix_tup (pv 1) pe_int (fun _ _ => rfl)) (fun _ _ => rfl)) (pv 3) (pe_op op_add (pe_op op_add (pe_op op_mul pe_int (pv 2)) (pv 3)) pe_int) rfl))))) pss_nil)))))), ?_⟩
  have hD := SqT.of (K := K) D.tup
  cases d with
  | begin t =>
    obtain ⟨ht, rfl⟩ := dn
    refine ⟨_, rfl, a, _, _, _, rfl, rfl, hD, a0, rfl, _, rfl, strT ?_⟩
    intro d hd
    have hD1 := SqT.of (K := K) (tup_new (o := .dK []) hd _ _ D.tup)
    obtain ⟨dp, G, X2⟩ := X.newT L (ks := []) (f := fun _ => none) ht hd hts List.nodup_nil (fun _ => rfl) (fun _ h => by cases h)
    refine ⟨_, rfl, _, rfl, a, _, _, _, rfl, rfl, hD1, a1, lp, _, rfl, dp, ?_⟩
    have hD2 := SqT.of (K := K) (G.tup _ _ D.tup)
    refine ⟨_, rfl, a, _, _, _, rfl, rfl, hD2, a0, rfl, _, rfl, strF (by decide +kernel) ?_⟩
    refine ⟨_, rfl, a, _, _, _, rfl, rfl, hD2, a0, rfl, _, rfl, strF (by decide +kernel) ?_⟩
    refine ⟨_, rfl, a, _, _, _, rfl, rfl, hD2, a0, rfl, _, rfl, strF (by decide +kernel) ?_⟩
    refine ⟨_, rfl, a, _, _, _, rfl, rfl, hD2, a0, rfl, _, rfl, strF (by decide +kernel) ?_⟩
    refine ⟨_, rfl, a, _, _, _, rfl, rfl, hD2, a0, rfl, _, rfl, strF (by decide +kernel) ?_⟩
    refine k _ _ G ⟨_, X2.congr fun u q => ?_⟩
    unfold setR
    by_cases z : u = t
    · rw [if_pos z]
      show none = mOf S pk u q
      unfold mOf
      rw [z, Gs.off t q ht]
      rfl
    · rw [if_neg z]
      rfl
  | close t =>
    obtain ⟨ht, rfl⟩ := dn
    refine ⟨_, rfl, a, _, _, _, rfl, rfl, hD, a0, rfl, _, rfl, strF (by decide +kernel) ?_⟩
    refine ⟨_, rfl, a, _, _, _, rfl, rfl, hD, a0, rfl, _, rfl, strT ?_⟩
    obtain ⟨b, ks, ev, _, _, _, _, _, _⟩ := X.dict ht
    obtain ⟨G, X2⟩ := X.popT L t
    refine ⟨_, rfl, lp, rfl, .inl ⟨_, .inl X.lpd.h⟩, _, rfl, a, _, _, _, rfl, rfl, hD, a1, _, Sum.inl t, _, X.lpd.h, rfl, by rw [liK_val]; exact ev, ?_⟩
    rw [liK_drop]
    have hD2 := SqT.of (K := K) (G.tup _ _ D.tup)
    refine ⟨_, rfl, a, _, _, _, rfl, rfl, hD2, a0, rfl, _, rfl, strF (by decide +kernel) ?_⟩
    refine ⟨_, rfl, a, _, _, _, rfl, rfl, hD2, a0, rfl, _, rfl, strF (by decide +kernel) ?_⟩
    refine ⟨_, rfl, a, _, _, _, rfl, rfl, hD2, a0, rfl, _, rfl, strF (by decide +kernel) ?_⟩
    refine ⟨_, rfl, a, _, _, _, rfl, rfl, hD2, a0, rfl, _, rfl, strF (by decide +kernel) ?_⟩
    refine k _ _ G ⟨dropK kl t, ?_⟩
    rw [(close_ts S t).1]
    refine X2.congr fun u q => ?_
    have e := close_e S t (u, q)
    have e : (S.close t).pl u q = if u = t then none else S.pl u q := e
    unfold setR mOf
    rw [e]
    by_cases z : u = t
    · rw [if_pos z, if_pos z]
      rfl
    · rw [if_neg z, if_neg z]
      rfl
  | map t p n =>
    obtain ⟨ht, hn, hf, rfl⟩ := dn
    refine ⟨_, rfl, a, _, _, _, rfl, rfl, hD, a0, rfl, _, rfl, strF (by decide +kernel) ?_⟩
    refine ⟨_, rfl, a, _, _, _, rfl, rfl, hD, a0, rfl, _, rfl, strF (by decide +kernel) ?_⟩
    refine ⟨_, rfl, a, _, _, _, rfl, rfl, hD, a0, rfl, _, rfl, strF (by decide +kernel) ?_⟩
    refine ⟨_, rfl, a, _, _, _, rfl, rfl, hD, a0, rfl, _, rfl, strT ?_⟩
    refine ⟨_, rfl, a, _, _, _, rfl, rfl, hD, at2, _, rfl, a, _, _, _, rfl, rfl, hD, at2, _, rfl, a, _, _, _, rfl, rfl, hD, at3, _, _, rfl, rfl, p, p + n, rfl, ⟨by omega, by omega, by omega, by omega⟩, for_range (lo := p) (n := (p + n - p).toNat) (fun i σ H2 => ∃ (v3 v4 : Option V) (g2 : Col), σ = [some (.ref lp), some (.ref a), some (.int kk), v3, v4] ∧ Grow isLp g H g2 H2 ∧ LpM g2 H2 lp S.ts (fun u x => if ((u, x) : Int × Int) ∈ tz t p i then some 0 else mOf S pk u x) kl) ?_ ?_ ?_⟩
    · exact ⟨none, none, g, rfl, Grow.refl L, X.congr fun u q => by rw [if_neg (by simp [tz])]⟩
    · rintro i σ H2 hi ⟨v3, v4, g2, rfl, G2, X2⟩
      have L2' := G2.live L
      have hD2 := SqT.of (K := K) (G2.tup _ _ D.tup)
      obtain ⟨b, ks, ev, dg, hb, nd2, hv2, _, hl2⟩ := X2.dict ht
      obtain ⟨dp, G3, X3⟩ := X2.put L2' (q := p + (i : Int)) (c := 0) ev hb nd2 hv2 hl2 ⟨by omega, by omega⟩
      refine ⟨_, rfl, _, rfl, a, _, _, _, rfl, rfl, hD2, a1, lp, _, rfl, dg, _, rfl, b, _, rfl, dp, _, _, g2, rfl, G2.trans G3, X3.congr fun u x => ?_⟩
      rw [tz_succ]
      unfold setI
      dsimp only
      by_cases z : u = t ∧ x = p + (i : Int)
      · rw [if_pos z, if_pos (by rw [z.1, z.2]; simp)]
      · rw [if_neg z]
        by_cases z2 : ((u, x) : Int × Int) ∈ tz t p i
        · rw [if_pos z2, if_pos (List.mem_append.mpr (.inl z2))]
        · rw [if_neg z2, if_neg fun q => (List.mem_append.mp q).elim z2 fun q => z (by simpa using q)]
    · rintro σ H2 ⟨v3, v4, g2, rfl, G2, X2⟩
      have hD2 := SqT.of (K := K) (G2.tup _ _ D.tup)
      refine ⟨_, rfl, a, _, _, _, rfl, rfl, hD2, a0, rfl, _, rfl, strF (by decide +kernel) ?_⟩
      refine ⟨_, rfl, a, _, _, _, rfl, rfl, hD2, a0, rfl, _, rfl, strF (by decide +kernel) ?_⟩
      refine k _ _ G2 ⟨kl, ?_⟩
      rw [lays_ts]
      refine X2.congr fun u q => ?_
      have e := lays_pl .blank (tz t p n.toNat) S (u, q)
      have e : (S.lays .blank (tz t p n.toNat)).pl u q = if ((u, q) : Int × Int) ∈ tz t p n.toNat then some .blank else S.pl u q := e
      have en : (p + n - p).toNat = n.toNat := by omega
      rw [en]
      unfold mOf pkD
      rw [e]
      show _ = if (if ((u, q) : Int × Int) ∈ tz t p n.toNat then some Ent.blank else S.pl u q).isSome then some (if ((u, q) : Int × Int) ∈ tz t p n.toNat then 0 else pk (u, q)) else none
      by_cases z : ((u, q) : Int × Int) ∈ tz t p n.toNat
      · rw [if_pos z, if_pos z, if_pos z]
        rfl
      · rw [if_neg z, if_neg z, if_neg z]
  | drop t p n =>
    obtain ⟨ht, hn, hf, rfl⟩ := dn
    refine ⟨_, rfl, a, _, _, _, rfl, rfl, hD, a0, rfl, _, rfl, strF (by decide +kernel) ?_⟩
    refine ⟨_, rfl, a, _, _, _, rfl, rfl, hD, a0, rfl, _, rfl, strF (by decide +kernel) ?_⟩
    refine ⟨_, rfl, a, _, _, _, rfl, rfl, hD, a0, rfl, _, rfl, strF (by decide +kernel) ?_⟩
    refine ⟨_, rfl, a, _, _, _, rfl, rfl, hD, a0, rfl, _, rfl, strF (by decide +kernel) ?_⟩
    refine ⟨_, rfl, a, _, _, _, rfl, rfl, hD, a0, rfl, _, rfl, strT ?_⟩
    refine ⟨_, rfl, a, _, _, _, rfl, rfl, hD, at2, _, rfl, a, _, _, _, rfl, rfl, hD, at2, _, rfl, a, _, _, _, rfl, rfl, hD, at3, _, _, rfl, rfl, p, p + n, rfl, ⟨by omega, by omega, by omega, by omega⟩, for_range (lo := p) (n := (p + n - p).toNat) (fun i σ H2 => ∃ (v3 v4 : Option V) (g2 : Col), σ = [some (.ref lp), some (.ref a), some (.int kk), v3, v4] ∧ Grow isLp g H g2 H2 ∧ LpM g2 H2 lp S.ts (fun u x => if ((u, x) : Int × Int) ∈ tz t p i then none else mOf S pk u x) kl) ?_ ?_ ?_⟩
    · exact ⟨none, none, g, rfl, Grow.refl L, X.congr fun u q => by rw [if_neg (by simp [tz])]⟩
    · rintro i σ H2 hi ⟨v3, v4, g2, rfl, G2, X2⟩
      have L2' := G2.live L
      have hD2 := SqT.of (K := K) (G2.tup _ _ D.tup)
      obtain ⟨b, ks, ev, dg, hb, nd2, hv2, _, hl2⟩ := X2.dict ht
      obtain ⟨G3, X3⟩ := X2.pop L2' (q := p + (i : Int)) ev hb nd2 hv2
      have hz : ((t, p + (i : Int)) : Int × Int) ∈ tz t p n.toNat := tz_mem.mpr ⟨rfl, by show p ≤ p + (i : Int); omega, by show p + (i : Int) < _; omega⟩
      have hni : ((t, p + (i : Int)) : Int × Int) ∉ tz t p i := fun q => by
        obtain ⟨_, _, q3⟩ := tz_mem.mp q
        have q3 : p + (i : Int) < p + (i : Int) := q3
        omega
      have hval : valV ks (p + (i : Int)) = some (.int (pk (t, p + (i : Int)))) := by
        rw [hv2]
        show ((if ((t, p + (i : Int)) : Int × Int) ∈ tz t p i then none else mOf S pk t (p + (i : Int))) : Option Int).map V.int = _
        rw [if_neg hni]
        unfold mOf
        have : (S.pl t (p + (i : Int))).isSome = true := hf _ hz
        rw [if_pos this]
        rfl
      refine ⟨_, rfl, _, rfl, a, _, _, _, rfl, rfl, hD2, a1, lp, _, rfl, dg, b, rfl, .inl ⟨_, .inl hb.h⟩, _, rfl, _, Sum.inl (p + (i : Int)), _, hb.h, rfl, by rw [liK_val]; exact hval, ?_⟩
      rw [liK_drop]
      refine ⟨_, _, g2, rfl, G2.trans G3, X3.congr fun u x => ?_⟩
      rw [tz_succ]
      unfold setI
      dsimp only
      by_cases z : u = t ∧ x = p + (i : Int)
      · rw [if_pos z, if_pos (by rw [z.1, z.2]; simp)]
      · rw [if_neg z]
        by_cases z2 : ((u, x) : Int × Int) ∈ tz t p i
        · rw [if_pos z2, if_pos (List.mem_append.mpr (.inl z2))]
        · rw [if_neg z2, if_neg fun q => (List.mem_append.mp q).elim z2 fun q => z (by simpa using q)]
    · rintro σ H2 ⟨v3, v4, g2, rfl, G2, X2⟩
      have hD2 := SqT.of (K := K) (G2.tup _ _ D.tup)
      refine ⟨_, rfl, a, _, _, _, rfl, rfl, hD2, a0, rfl, _, rfl, strF (by decide +kernel) ?_⟩
      refine k _ _ G2 ⟨kl, ?_⟩
      rw [(drops_ts _ _).1]
      refine X2.congr fun u q => ?_
      have e := drops_e (tz t p n.toNat) S (u, q)
      have e : (S.drops (tz t p n.toNat)).pl u q = if ((u, q) : Int × Int) ∈ tz t p n.toNat then none else S.pl u q := e
      have en : (p + n - p).toNat = n.toNat := by omega
      rw [en]
      unfold mOf
      rw [e]
      by_cases z : ((u, q) : Int × Int) ∈ tz t p n.toNat
      · rw [if_pos z, if_pos z]
        rfl
      · rw [if_neg z, if_neg z]
        rfl
  | peek t ad n =>
    obtain ⟨ok, M, _⟩ := dn
    refine ⟨_, rfl, a, _, _, _, rfl, rfl, hD, a0, rfl, _, rfl, strF (by decide +kernel) ?_⟩
    refine ⟨_, rfl, a, _, _, _, rfl, rfl, hD, a0, rfl, _, rfl, strF (by decide +kernel) ?_⟩
    refine ⟨_, rfl, a, _, _, _, rfl, rfl, hD, a0, rfl, _, rfl, strF (by decide +kernel) ?_⟩
    refine ⟨_, rfl, a, _, _, _, rfl, rfl, hD, a0, rfl, _, rfl, strF (by decide +kernel) ?_⟩
    refine ⟨_, rfl, a, _, _, _, rfl, rfl, hD, a0, rfl, _, rfl, strF (by decide +kernel) ?_⟩
    refine ⟨_, rfl, a, _, _, _, rfl, rfl, hD, a0, rfl, _, rfl, strF (by decide +kernel) ?_⟩
    refine k _ _ (Grow.refl L) ⟨kl, ?_⟩
    rw [M.kp.ts]
    refine X.congr fun u q => ?_
    have := M.kp.is (u, q)
    have this : (S'.pl u q).isSome = (S.pl u q).isSome := this
    unfold mOf
    rw [this]
    rfl
  | poke t ad cs =>
    obtain ⟨ok, M, _⟩ := dn
    refine ⟨_, rfl, a, _, _, _, rfl, rfl, hD, a0, rfl, _, rfl, strF (by decide +kernel) ?_⟩
    refine ⟨_, rfl, a, _, _, _, rfl, rfl, hD, a0, rfl, _, rfl, strF (by decide +kernel) ?_⟩
    refine ⟨_, rfl, a, _, _, _, rfl, rfl, hD, a0, rfl, _, rfl, strF (by decide +kernel) ?_⟩
    refine ⟨_, rfl, a, _, _, _, rfl, rfl, hD, a0, rfl, _, rfl, strF (by decide +kernel) ?_⟩
    refine ⟨_, rfl, a, _, _, _, rfl, rfl, hD, a0, rfl, _, rfl, strF (by decide +kernel) ?_⟩
    refine ⟨_, rfl, a, _, _, _, rfl, rfl, hD, a0, rfl, _, rfl, strT ?_⟩
    have hlen : (cs.map V.int).length = cs.length := by rw [List.length_map]
    have n512 : (cs.length : Int) ≤ 512 := by
      have := ok.ha
      omega
    refine ⟨_, rfl, a, _, _, _, rfl, rfl, hD, at3, l, _, rfl, .inl (SqL.of (D.lst _ _ _ rfl)), _, rfl, by show -(2 ^ 62 : Int) ≤ ((cs.map V.int).length : Int); omega, by show ((cs.map V.int).length : Int) < 2 ^ 62; rw [hlen]; omega, for_range (lo := 0) (n := ((cs.map V.int).length : Int).toNat) (fun i σ H2 => ∃ (v3 v4 : Option V) (g2 : Col), σ = [some (.ref lp), some (.ref a), some (.int kk), v3, v4] ∧ Grow isLp g H g2 H2 ∧ LpM g2 H2 lp S.ts (fun u x => if u = t ∧ x ∈ (List.range i).map (fun j : Nat => (ad + (j : Int)) / 8) then some (64 * kk + x + 1) else mOf S pk u x) kl) ?_ ?_ ?_⟩
    · exact ⟨none, none, g, rfl, Grow.refl L, X.congr fun u q => by rw [if_neg (by simp)]⟩
    · rintro i σ H2 hi ⟨v3, v4, g2, rfl, G2, X2⟩
      rw [hlen] at hi
      have L2' := G2.live L
      have hD2 := SqT.of (K := K) (G2.tup _ _ D.tup)
      obtain ⟨b, ks, ev, dg, hb, nd2, hv2, _, hl2⟩ := X2.dict ok.ht
      have ha := ok.ha (by omega)
      obtain ⟨dp, G3, X3⟩ := X2.put L2' (q := (ad + (0 + (i : Int))) / 8) (c := 64 * kk + (ad + (0 + (i : Int))) / 8 + 1) ev hb nd2 hv2 hl2 ⟨by omega, by omega⟩
      refine ⟨_, rfl, a, _, _, _, rfl, rfl, hD2, at2, _, rfl, _, _, rfl, rfl, _, _, rfl, rfl, ⟨by decide, by decide⟩, ?_⟩
      refine ⟨_, rfl, _, _, rfl, rfl, .inl ⟨by decide, by decide⟩, _, rfl, _, _, rfl, rfl, _, _, rfl, rfl, _, rfl, _, rfl, a, _, _, _, rfl, rfl, hD2, a1, lp, _, rfl, dg, _, rfl, b, _, rfl, dp, _, _, g2, rfl, G2.trans G3, X3.congr fun u x => ?_⟩
      rw [List.range_succ, List.map_append]
      have e0 : (ad + (0 + (i : Int))) / 8 = (ad + (i : Int)) / 8 := by rw [Int.zero_add]
      rw [e0]
      unfold setI
      dsimp only
      by_cases z : u = t ∧ x = (ad + (i : Int)) / 8
      · rw [if_pos z, if_pos ⟨z.1, by rw [z.2]; simp⟩, z.2]
      · rw [if_neg z]
        by_cases z2 : u = t ∧ x ∈ (List.range i).map (fun j : Nat => (ad + (j : Int)) / 8)
        · rw [if_pos z2, if_pos ⟨z2.1, List.mem_append.mpr (.inl z2.2)⟩]
        · rw [if_neg z2, if_neg fun q => (List.mem_append.mp q.2).elim (fun k => z2 ⟨q.1, k⟩) fun k => z ⟨q.1, by simpa using k⟩]
    · rintro σ H2 ⟨v3, v4, g2, rfl, G2, X2⟩
      refine k _ _ G2 ⟨kl, ?_⟩
      rw [M.ts]
      refine X2.congr fun u q => ?_
      have en : ((cs.map V.int).length : Int).toNat = ((cs.length : Int)).toNat := by rw [hlen]
      rw [en]
      have hm : ((u, q) : Int × Int) ∈ pgl t ad (ad + (cs.length : Int)) ↔ u = t ∧ q ∈ (List.range ((cs.length : Int)).toNat).map (fun j : Nat => (ad + (j : Int)) / 8) := pgl_mem (t := t) (z := (u, q)) ok.sok
      have e := M.is (u, q)
      have e : (S'.pl u q).isSome = (S.pl u q).isSome := e
      unfold mOf pkD
      rw [e]
      show _ = if (S.pl u q).isSome then some (if ((u, q) : Int × Int) ∈ pgl t ad (ad + (cs.length : Int)) then 64 * kk + q + 1 else pk (u, q)) else none
      by_cases z : ((u, q) : Int × Int) ∈ pgl t ad (ad + (cs.length : Int))
      · rw [if_pos (hm.mp z), if_pos z]
        obtain ⟨s, hs, hse⟩ := List.mem_map.mp z
        have h1 := ok.hm s hs
        rw [hse] at h1
        have h1 : (S.pl u q).isSome = true := h1
        rw [if_pos h1]
      · rw [if_neg fun k => z (hm.mpr k), if_neg z]
  | copy t u =>
    obtain ⟨ht, hu', C⟩ := dn
    refine ⟨_, rfl, a, _, _, _, rfl, rfl, hD, a0, rfl, _, rfl, strF (by decide +kernel) ?_⟩
    refine ⟨_, rfl, a, _, _, _, rfl, rfl, hD, a0, rfl, _, rfl, strF (by decide +kernel) ?_⟩
    refine ⟨_, rfl, a, _, _, _, rfl, rfl, hD, a0, rfl, _, rfl, strT ?_⟩
    obtain ⟨b, ks, ev, dg, hb, nd2, hv2, hk2, hl2⟩ := X.dict ht
    refine ⟨_, rfl, _, rfl, a, _, _, _, rfl, rfl, hD, a1, lp, _, rfl, dg, b, _, rfl, .inl hb.h, fun d hd => ?_⟩
    have hD1 := SqT.of (K := K) (tup_new (o := .dK (liK ks)) hd _ _ D.tup)
    obtain ⟨dp, G, X2⟩ := X.newT L (ks := ks) (f := mOf S pk t) hu' hd hts nd2 hv2 (X.dom t)
    refine ⟨_, rfl, _, rfl, a, _, _, _, rfl, rfl, hD1, at2, lp, _, rfl, dp, ?_⟩
    have hD2 := SqT.of (K := K) (G.tup _ _ D.tup)
    refine ⟨_, rfl, a, _, _, _, rfl, rfl, hD2, a0, rfl, _, rfl, strF (by decide +kernel) ?_⟩
    refine ⟨_, rfl, a, _, _, _, rfl, rfl, hD2, a0, rfl, _, rfl, strF (by decide +kernel) ?_⟩
    refine ⟨_, rfl, a, _, _, _, rfl, rfl, hD2, a0, rfl, _, rfl, strF (by decide +kernel) ?_⟩
    refine k _ _ G ⟨putK kl u (.ref d), ?_⟩
    rw [C.ts]
    refine X2.congr fun v q => ?_
    have e := C.e (v, q)
    have e : S'.pl v q = if v = u then (if q ∈ pgsE (S.pl t) then S.pl t q else none) else S.pl v q := e
    unfold setR
    show (if v = u then mOf S pk t else mOf S pk v) q = mOf S' (cpk pk t u) v q
    unfold mOf
    rw [e]
    show _ = if (if v = u then (if q ∈ pgsE (S.pl t) then S.pl t q else none) else S.pl v q).isSome then some (if v = u then pk (t, q) else pk (v, q)) else none
    by_cases z : v = u
    · rw [if_pos z, if_pos z, if_pos z]
      by_cases hq : q ∈ pgsE (S.pl t)
      · rw [if_pos hq]
      · rw [if_neg hq]
        have : ¬ (S.pl t q).isSome = true := fun k => hq (Gs.pages (z := (t, q)) |>.mpr k)
        rw [if_neg this]
        rfl
    · rw [if_neg z, if_neg z, if_neg z]
end

-- part K9Lg
/-! ### sorted(d) of a dict with int keys, however many -/
section
variable {X : Cx}
def rSortK : List V → Hp → VK → Prop := fun xs H Q => ∃ (d : Addr) (kvs : List (Key × V)) (ks : List Int), xs = [.ref d] ∧ Rd H d (.dK kvs) ∧ kvs.map (·.1) = ks.map Sum.inl ∧
  ∀ (ys : List Int) (p : Addr), ys.Perm ks → ys.Pairwise (· ≤ ·) → H p = none → Q (.ref p) (upd H p (.lst (ys.map V.int)))
theorem ints_of_keys {ks : List Int} {vs : List (Key × Value)} {acc : Array Value} (hk : vs.map (·.1) = ks.map Sum.inl) (hs : acc.size = vs.length) (h : ∀ (j : Nat) v, acc[j]? = some v → ∃ k x, vs[j]? = some (k, x) ∧ keyIs k v = true) : IntsAre acc.toList ks := by
  have hl : acc.toList.length = ks.length := by
    have := congrArg List.length hk
    rw [List.length_map, List.length_map] at this
    rw [Array.length_toList, hs, this]
  refine ints_each hl fun j v e => ?_
  obtain ⟨k, x, e1, e2⟩ := h j v (by rw [← Array.getElem?_toList]; exact e)
  have e3 : (ks.map Sum.inl)[j]? = some k := by rw [← hk, List.getElem?_map, e1]; rfl
  rw [List.getElem?_map] at e3
  cases e4 : ks[j]? with
  | none => rw [e4] at e3; cases e3
  | some i =>
    rw [e4] at e3
    cases e3
    rcases keyIs_shape (show keyIs (Sum.inl i) v = true from e2) with ⟨n, t, a, b⟩ | ⟨n, t, a, b⟩
    · cases a
      exact ⟨i, t, rfl, b⟩
    · cases a
theorem cr_sortK (cal : X.calm = true) : CallR X (.builtin "sorted") rSortK := by
  intro pins s σ H xs us Q I rv hq
  obtain ⟨d, kvs, ks, rfl, rd, keq, fin⟩ := hq
  obtain ⟨w1, rfl, rw1⟩ := vals1 rv
  cases rw1
  obtain ⟨hz, low, vs, rl, da⟩ := dk_rd I.hok rd
  obtain ⟨ep, at'⟩ := da.dictAt
  have kk : vs.map (·.1) = ks.map Sum.inl := rl.keys.symm.trans keq
  have nn : vs.length = ks.length := by simpa using congrArg List.length kk
  have sz : vs.length ≤ sizeLine := by rw [← rl.length]; exact hz
  refine Calls.call_function_entry PyProof.Rows.kind_sorted PyProof.Rows.plain_sorted PyProof.Rows.entry_sorted (PyProof.Rows.args_sorted1 _) ?_
  unfold Builtin.«sorted»
  refine wpAny_bind (m := checkCount "sorted" 1 1 _) (wpAny_pure (wpAny_bind (PySem.W.kdu_collect (A := X.A.in1) (PySem.W.kdl_dict (knd := mixKind X.prog X.w) (kvs := vs) (ep := ep) low) (I.ok.hd cal) at' sz fun h1 tk acc up items => ?_)))
  have II : IntsAre acc.toList ks := ints_of_keys kk items.1 items.2
  have al : acc.toList.length ≤ sizeLine := by rw [Array.length_toList, items.1]; exact sz
  have J : Inv X pins σ H { s with heap := h1, toks := tk } := I.kept up
  refine wpAny_bind (wpAny_newList ?_ al)
  have new : (h1.push (seqObj "list" acc.toList.toArray 0)).get? h1.objs.size = some (seqObj "list" acc.toList.toArray 0) := Heap.get?_push_size _ rfl
  show wpAny _ _ _ _ _ { s with heap := h1.push (seqObj "list" acc.toList.toArray 0), toks := tk }
  refine wpAny_bind (wpAny_holding (wpAny_call_entry PyProof.Rows.slot_list_sort ⟨_, new, rfl⟩ PyProof.Rows.entry_list_sort
    (SrtO.list_sort_ord (s := { s with heap := h1.push (seqObj "list" acc.toList.toArray 0), toks := tk }) SrtO.swo_int new al (fun two => SrtO.ints_sortable II two) fun out o1 o2 => ⟨_, rfl, ?_⟩) (PyProof.Rows.args_list_sort _)))
  obtain ⟨c1, c2, c3⟩ := SrtO.ints_out II o1 o2
  obtain ⟨n', got⟩ := PyProof.Rows.sortedHeap_at (vs := acc.toList) (out := out.toArray) new
  have ll : ((out.map SrtO.iv).map V.int).length ≤ sizeLine := by
    rw [List.length_map, c2.length_eq, ← nn]
    exact sz
  refine wpAny_pure ⟨_, rfl, .ref h1.objs.size, _, J.laid (t' := tk) (fun b u hb => ?_) (Nat.le_refl _) (show ObjOk X.prog X.w _ _ _ (.lst ((out.map SrtO.iv).map V.int)) from ⟨ll, out, n', vals_of_ints c1, got⟩), rfl, fin _ _ c2 c3 (J.hok.fresh (Nat.le_refl _))⟩
  have lt := Heap.lt_size hb
  rw [PyProof.Rows.sortedHeap_old (Nat.ne_of_lt lt) (by rw [size_push']; exact Nat.lt_succ_of_lt lt)]
  exact Heap.get?_push_of_some _ hb
end

-- part K9Lh
/-! ### places -/
theorem paired_snoc {α β : Type} {R : α → β → Prop} : ∀ {l : List α} {bs : List β} {x : α} {b : β}, Paired R l bs → R x b → Paired R (l ++ [x]) (bs ++ [b])
  | _, _, _, _, .nil, h => .cons h .nil
  | _, _, _, _, .cons r t, h => .cons r (paired_snoc t h)
theorem paired_at {α β : Type} {R : α → β → Prop} : ∀ {l : List α} {bs : List β} {i : Nat} {b : β}, Paired R l bs → bs[i]? = some b → ∃ x, l[i]? = some x ∧ R x b
  | _, _, _, _, .nil, h => by simp at h
  | _, _, 0, _, .cons r _, h => by simp at h; subst h; exact ⟨_, rfl, r⟩
  | _, _, i + 1, b, .cons _ t, h => by
    obtain ⟨x, h1, h2⟩ := paired_at (i := i) t (by simpa using h)
    exact ⟨x, by simpa using h1, h2⟩
/-- one line of places -/
structure PlV (K : PySem.W.Frag) (H : Hp) (S : PS) (pk : Int × Int → Int) (z : Int × Int) (a : Addr) : Prop where
  ex : ∃ v e, H a = some (.tup [.int z.1, .int z.2, .int (pk z), v]) ∧ S.e z = some e ∧ EntV K H v e
theorem PlV.keep {K : PySem.W.Frag} {H H' : Hp} {S : PS} {pk : Int × Int → Int} {z : Int × Int} {a : Addr} (x : PlV K H S pk z a) (k : ∀ a xs, H a = some (.tup xs) → H' a = some (.tup xs)) : PlV K H' S pk z a :=
  let ⟨v, e, h1, h2, h3⟩ := x.ex
  ⟨v, e, k _ _ h1, h2, h3.keep k⟩
abbrev PlL (K : PySem.W.Frag) (H : Hp) (S : PS) (pk : Int × Int → Int) (l : List (Int × Int)) (bs : List Addr) : Prop := Paired (PlV K H S pk) l bs
theorem PlL.keep {K : PySem.W.Frag} {H H' : Hp} {S : PS} {pk : Int × Int → Int} {l : List (Int × Int)} {bs : List Addr} (x : PlL K H S pk l bs) (k : ∀ a xs, H a = some (.tup xs) → H' a = some (.tup xs)) : PlL K H' S pk l bs := Paired.mapP x fun _ _ h => PlV.keep h k
theorem RoL.keep {K : PySem.W.Frag} {R : Role → Bool} {g g1 : Col} {H H1 : Hp} {r : Addr} {S : PS} {dx p : Addr} {kt : List (Int × V)} {y : Ly} (x : RoL K g H r S dx p kt y) (G : Grow R g H g1 H1) (n : ∀ r, isRo r = true → R r = false) : RoL K g1 H1 r S dx p kt y :=
  ⟨x.rob.keep G (n _ rfl), x.pag.keep G fun r h => n r (isRm_Ro r h), x.gx⟩
theorem RoA.keep {K : PySem.W.Frag} {R : Role → Bool} {g g1 : Col} {H H1 : Hp} {r : Addr} {S : PS} (x : RoA K g H r S) (G : Grow R g H g1 H1) (n : ∀ r, isRo r = true → R r = false) : RoA K g1 H1 r S := let ⟨dx, p, kt, y, h⟩ := x; ⟨dx, p, kt, y, h.keep G n⟩
theorem Ro_ne {r0 : Role} (h0 : isRo r0 = false) : ∀ r, isRo r = true → (r == r0) = false := fun r h => beq_false_of_ne fun e => by rw [e, h0] at h; cases h
theorem Ro_Lp : ∀ r, isRo r = true → isLp r = false := fun r h => by cases r <;> first | rfl | cases h
theorem Lp_Rm : ∀ r, isLp r = true → isRm r = false := fun r h => by cases r <;> first | rfl | cases h
theorem all_tl (S : PS) : S.all = S.ts.flatMap fun t => tl t (pgsE (S.pl t)) := rfl
theorem flat_le {α β : Type} (f : α → List β) (ts : List α) {i j : Nat} {t : α} (h : ts[i]? = some t) : ((ts.take i).flatMap f ++ (f t).take j).length ≤ (ts.flatMap f).length := by
  obtain ⟨hi, e⟩ := List.getElem?_eq_some_iff.mp h
  have e1 : ts = ts.take i ++ t :: ts.drop (i + 1) := by
    rw [← e, List.getElem_cons_drop, List.take_append_drop]
  have e2 : ts.flatMap f = (ts.take i).flatMap f ++ (f t ++ (ts.drop (i + 1)).flatMap f) := by
    conv => lhs; rw [e1]
    rw [List.flatMap_append, List.flatMap_cons]
  rw [e2, List.length_append, List.length_append, List.length_append, List.length_take]
  omega
/-- a dict that is locked, and freed again -/
theorem unlock {H HL H' : Hp} {d : Addr} {u : HO} (hd : H d = some u) (e : ∀ a, a ≠ d → HL a = H a) (s : Same HL H') : Same H (upd H' d u) := fun a o h => by
  by_cases q : a = d
  · rw [q, upd_same, ← hd, ← q, h]
  · rw [upd_ne q]
    exact s a o (by rw [e a q]; exact h)
section
variable {P : Program} {w : World} {K : PySem.W.Frag} {mg : Str → Option Value} {base : Heap}
theorem sortedKeys {S : PS} {pk : Int × Int → Int} {ks : List (Int × V)} {t : Int} {ys : List Int} (G : Gx S []) (nd : (ks.map (·.1)).Nodup) (hk : ∀ q, q ∈ ks.map (·.1) ↔ (mOf S pk t q).isSome = true) (pm : ys.Perm (ks.map (·.1))) (st : ys.Pairwise (· ≤ ·)) : ys = pgsE (S.pl t) := by
  refine rising_eq (rises pm st nd) (pgsE_rises (S.pl t)) fun q => ?_
  rw [pm.mem_iff, hk, pgsE_mem]
  unfold mOf
  constructor
  · intro h
    by_cases z : (S.pl t q).isSome = true
    · exact ⟨G.dom t q z, z⟩
    · rw [if_neg z] at h; cases h
  · rintro ⟨_, z⟩
    rw [if_pos z]
    rfl
def spPlaces (K : PySem.W.Frag) : Sp := Sp2 fun x y H Q _ => ∃ (g : Col) (r lp : Addr) (S : PS) (pk : Int × Int → Int), x = .ref r ∧ y = .ref lp ∧ Live g H ∧ RoA K g H r S ∧ LpA g H lp S.ts (mOf S pk) ∧
  ∀ q H' bs, Same H H' → H q = none → H' q = some (.lst (bs.map V.ref)) → PlL K H' S pk S.all bs → Q (.ref q) H'
theorem ok_Places (T : Tx K mg) : Okp P w K mg base 3 (He.fAd K ("_law_places", none)) ["_law_rooms", "_law_pages"] (spPlaces K) := by
  refine okn len2 T.f_law_places sc_law_places fun cdv A outer s0 H vs Q E hr h => ?_
  obtain ⟨_, _, rfl, g, r, lp, S, pk, rfl, rfl, L, ⟨dx, p, kt, y, X⟩, ⟨kl, Y⟩, k⟩ := h
  have hu := hu_of hr
  have nd := sc_law_places.nd
  refine ⟨_, pss_cons (ps_set (i := 2) nd rfl (Or.inl rfl) (pe_lst pa_nil))
    (pss_cons (ps_lock (ps_for PassesOwn.never rfl (pi_keys (pv 1)) (pg_name (i := 3) nd rfl (Or.inl rfl))
      (pss_one (ps_for PassesOwn.never rfl (pi_list (pe_callB (cr_sortK rfl) (by rfl) T.n_sorted (by decide +kernel) (pa_cons (pe_dget hu (pv 1) (pv 3) (fun _ _ => rfl)) pa_nil))) (pg_name (i := 4) nd rfl (Or.inl rfl))
        (pss_one (ps_expr (pe_bm PySem.F.plainAttrs_list PySem.F.slot_list_append PySem.F.type_list_append mt_append (pv 2) (pa_cons (pe_tup (pa_cons (pv 3) (pa_cons (pv 4) (pa_cons (pe_dget hu (pe_dget hu (pv 1) (pv 3) (fun _ _ => rfl)) (pv 4) (fun _ _ => rfl)) (pa_cons (pe_m (pv 0) T.c_Rooms T.m_Rooms_place (ok_Place T) hr (pa_cons (pv 3) (pa_cons (pv 4) pa_nil))) pa_nil))))) pa_nil))))))))
    (pss_one (ps_ret (pv 2)))), ?_⟩
  refine ⟨by decide, fun l hl => ?_⟩
  have hl0 : H l = none := hl
  have s1 : Same H (upd H l (.lst [])) := same_new (Same.refl H) hl
  have hl1 : upd H l (.lst []) l = some (.lst []) := upd_same
  generalize upd H l (.lst []) = H1 at *
  have L1 : Live g H1 := (Grow.same (R := fun _ => false) L s1).live L
  have X1 := X.same L s1
  have Y1 := Y.same L s1
  refine ⟨lp, _, Y1.lpd.h, trivial, fun od => ?_⟩
  have GL : Grow (fun q => q == .lpd) g H1 g (upd H1 lp (.frz od (.dK (liK kl)))) := Grow.write L1 Y1.lpd.h (by intro xs z; cases z) Y1.lpd.c (by simp)
  have LL := GL.live L1
  have XL := X1.keep GL (Ro_ne rfl)
  have hlpL : upd H1 lp (.frz od (.dK (liK kl))) lp = some (.frz od (.dK (liK kl))) := upd_same
  have nll : l ≠ lp := fun e => by rw [e, Y.lpd.h] at hl0; cases hl0
  have hlL : upd H1 lp (.frz od (.dK (liK kl))) l = some (.lst []) := by rw [upd_ne nll]; exact hl1
  have offL : ∀ a, a ≠ lp → upd H1 lp (.frz od (.dK (liK kl))) a = H1 a := fun a q => upd_ne q
  have inn : ∀ t, t ∈ S.ts → ∃ (a : Addr) (ks : List (Int × V)), valV kl t = some (.ref a) ∧ Pt g (.lpi t) (upd H1 lp (.frz od (.dK (liK kl)))) a (.dK (liK ks)) ∧ (ks.map (·.1)).Nodup ∧ (∀ q, valV ks q = (mOf S pk t q).map V.int) ∧ ∀ q, q ∈ ks.map (·.1) ↔ (mOf S pk t q).isSome = true := fun t ht => by
    obtain ⟨a, ks, e1, _, e2, e3, e4, e5, _⟩ := Y1.dict ht
    exact ⟨a, ks, e1, e2.keep GL rfl, e3, e4, e5⟩
  generalize upd H1 lp (.frz od (.dK (liK kl))) = HL at *
  have hlk : (liK kl).length = S.ts.length := by
    rw [liK_len]
    have := congrArg List.length Y.kls
    rw [List.length_map] at this
    exact this
  have dgL : ∀ (H2 : Hp), H2 lp = some (.frz od (.dK (liK kl))) → ∀ t a, valV kl t = some (.ref a) → DGet H2 lp (.int t) (some (.ref a)) := fun H2 s2 t a e => .inl ⟨liK kl, Sum.inl t, .inr ⟨od, s2⟩, rfl, by rw [liK_val]; exact e.symm⟩
  refine ⟨_, rfl, lp, od, rfl, .inl ⟨liK kl, hlpL, for_it walk_keys (fun i σ H2 => ∃ (v3 v4 : Option V) (bs : List Addr), σ = [some (.ref r), some (.ref lp), some (.ref l), v3, v4] ∧ (∀ a o, a ≠ l → HL a = some o → H2 a = some o) ∧ H2 l = some (.lst (bs.map V.ref)) ∧ PlL K H2 S pk ((S.ts.take i).flatMap fun t => tl t (pgsE (S.pl t))) bs) ?_ ?_ ?_ ?_⟩⟩
  · exact ⟨none, none, [], rfl, fun a o _ e => e, hlL, .nil⟩
  · rintro i σ H2 hi ⟨v3, v4, bs, rfl, s2, hl2, P2⟩
    exact s2 _ _ nll.symm hlpL
  · rintro i x σ H2 H3 hi ⟨v3, v4, bs, rfl, s2, hl2, P2⟩ ⟨rfl, kk, vv, ek, rfl⟩
    obtain ⟨t, et, ekt, rfl⟩ := at_kt Y.kls ek
    have ht := List.mem_of_getElem? et
    obtain ⟨a, ks, ev, ha, nd2, hv2, hk2⟩ := inn t ht
    have sl : ∀ a o, HL a = some o → a ≠ l → H3 a = some o := fun a o e q => s2 a o q e
    have nal : a ≠ l := fun e => by have := ha.h; rw [e, hlL] at this; cases this
    have hlp2 := s2 _ _ nll.symm hlpL
    have ha2 := s2 _ _ nal ha.h
    refine ⟨_, rfl, _, rfl, lp, _, rfl, dgL _ hlp2 t a ev, a, _, ks.map (·.1), rfl, .inl ha2, liK_keys ks, fun ys q pm st hq => ?_⟩
    have eys := sortedKeys X.gx nd2 hk2 pm st
    subst eys
    have nql : l ≠ q := fun e => by rw [← e, hl2] at hq; cases hq
    refine ⟨q, rfl, ⟨_, SqL.of upd_same⟩, for_list (K := K) (a := q) (xs := (pgsE (S.pl t)).map V.int) (fun j σ H4 => ∃ (v4 : Option V) (bs : List Addr), σ = [some (.ref r), some (.ref lp), some (.ref l), some (.int t), v4] ∧ (∀ a o, a ≠ l → HL a = some o → H4 a = some o) ∧ H4 q = some (.lst ((pgsE (S.pl t)).map V.int)) ∧ H4 l = some (.lst (bs.map V.ref)) ∧
      PlL K H4 S pk ((S.ts.take i).flatMap (fun t => tl t (pgsE (S.pl t))) ++ (tl t (pgsE (S.pl t))).take j) bs) ?_ ?_ ?_ ?_⟩
    · refine ⟨v4, bs, rfl, fun a o n e => by rw [upd_ne (ne_of_none (s2 a o n e) hq)]; exact s2 a o n e, upd_same, by rw [upd_ne nql]; exact hl2, ?_⟩
      rw [List.take_zero, List.append_nil]
      exact P2.keep (tup_new hq)
    · rintro j σ H4 hj ⟨v4, bs, rfl, s4, hq4, hl4, P4⟩
      exact SqL.of hq4
    · rintro j x σ H4 hx ⟨v4, bs, rfl, s4, hq4, hl4, P4⟩
      obtain ⟨pg, hpg, rfl⟩ := at_map hx
      have hmem := List.mem_of_getElem? hpg
      obtain ⟨_, hsome⟩ := pgsE_mem.mp hmem
      obtain ⟨e, he⟩ : ∃ e, S.pl t pg = some e := by
        cases e : S.pl t pg with
        | none => rw [e] at hsome; cases hsome
        | some v => exact ⟨v, rfl⟩
      have hlp4 := s4 _ _ nll.symm hlpL
      have ha4 := s4 _ _ nal ha.h
      have hval : valV ks pg = some (.int (pk (t, pg))) := by
        rw [hv2]
        unfold mOf
        rw [if_pos hsome]
        rfl
      have htl : (tl t (pgsE (S.pl t)))[j]? = some (t, pg) := by
        unfold tl
        rw [List.getElem?_map, hpg]
        rfl
      have hlen := Paired.length P4
      have hle := flat_le (fun t => tl t (pgsE (S.pl t))) S.ts et (j := j)
      have hle2 : (S.ts.flatMap fun t => tl t (pgsE (S.pl t))).length ≤ 120 := X.gx.allLen
      -- the rooms stand at H4
      have X4 : RoA K g H4 r S := by
        have G4 : GrC g HL g H4 := ⟨fun r0 b u p => ⟨p.c, s4 b u (fun z => by have := p.c; rw [z, L.none hl0] at this; cases this) p.h⟩, fun b xs z => s4 b _ (fun z2 => by rw [z2, hlL] at z; cases z) z⟩
        exact ⟨dx, p, kt, y, G4.pt _ _ _ XL.rob, XL.pag.mapC G4, X.gx⟩
      have rob : ∃ dx p, H4 r = some (.ins (cRo K) dx (roF p)) := let ⟨dx, p, _, _, h⟩ := X4; ⟨dx, p, h.rob.h⟩
      obtain ⟨dx4, p4, hro⟩ := rob
      refine ⟨_, rfl, .inl ⟨rfl, _, SqL.of hl4⟩, _, rfl, _, rfl, _, rfl, _, rfl, lp, _, rfl, dgL _ hlp4 t a ev, _, rfl, a, V.int (pk (t, pg)), rfl, ?_, _, rfl, r, dx4, _, rfl, hro, by kernel_rfl, _, rfl, _, rfl, _, _, _, rfl, g, r, S, t, pg, rfl, rfl, rfl, X4, ht, fun z => (by rw [he] at z; cases z), fun e' v he' hE => ?_⟩
      · rw [← hval, ← liK_val]
        exact DGet.k (k := Sum.inl pg) ha4
      refine ⟨(by show 4 ≤ sizeLine; decide), fun tp htp => ?_⟩
      have ntl : l ≠ tp := fun z => by rw [← z, hl4] at htp; cases htp
      have nqt : q ≠ tp := fun z => by rw [← z, hq4] at htp; cases htp
      refine ⟨l, _, _, rfl, rfl, by rw [upd_ne ntl]; exact hl4, by rw [List.length_map, ← hlen]; exact small1000 (by omega), ?_⟩
      have kp : ∀ b xs, H4 b = some (.tup xs) → upd (upd H4 tp (.tup [V.int t, V.int pg, V.int (pk (t, pg)), v])) l (.lst (bs.map V.ref ++ [V.ref tp])) b = some (.tup xs) := fun b xs z => by
        rw [upd_ne (fun z2 => by rw [z2, hl4] at z; cases z), upd_ne (fun z2 => by rw [z2, htp] at z; cases z)]
        exact z
      refine ⟨_, bs ++ [tp], rfl, fun b o n z => ?_, ?_, ?_, ?_⟩
      · have := s4 b o n z
        rw [upd_ne n, upd_ne fun z2 => by rw [z2, htp] at this; cases this]
        exact this
      · rw [upd_ne nql.symm, upd_ne nqt]
        exact hq4
      · rw [upd_same, List.map_append]
        rfl
      · have e1 : (tl t (pgsE (S.pl t))).take (j + 1) = (tl t (pgsE (S.pl t))).take j ++ [(t, pg)] := by rw [List.take_add_one, htl]; rfl
        rw [e1, ← List.append_assoc]
        refine paired_snoc (P4.keep kp) ⟨v, e', ?_, he', hE.keep kp⟩
        rw [upd_ne ntl.symm, upd_same]
    · rintro σ H4 ⟨v4, bs, rfl, s4, hq4, hl4, P4⟩
      refine ⟨_, _, bs, rfl, s4, hl4, ?_⟩
      have e1 : (tl t (pgsE (S.pl t))).take ((pgsE (S.pl t)).map V.int).length = tl t (pgsE (S.pl t)) := List.take_of_length_le (by unfold tl; rw [List.length_map, List.length_map]; exact Nat.le_refl _)
      rw [e1] at P4
      have e2 : (S.ts.take (i + 1)).flatMap (fun t => tl t (pgsE (S.pl t))) = (S.ts.take i).flatMap (fun t => tl t (pgsE (S.pl t))) ++ tl t (pgsE (S.pl t)) := by
        rw [List.take_add_one, et, List.flatMap_append]
        show _ ++ [t].flatMap _ = _
        rw [List.flatMap_cons, List.flatMap_nil, List.append_nil]
      rw [e2]
      exact P4
  · rintro σ H2 ⟨v3, v4, bs, rfl, s2, hl2, P2⟩
    rw [hlk, List.take_length] at P2
    have hlp2 := s2 _ _ nll.symm hlpL
    refine ⟨hlp2, _, rfl, ?_⟩
    have S2 : Same H (upd H2 lp (.dK (liK kl))) := fun a o e => by
      by_cases q : a = lp
      · rw [q, upd_same, ← Y.lpd.h, ← q, e]
      · rw [upd_ne q]
        have e1 := s1 _ _ e
        rw [← offL a q] at e1
        exact s2 a o (ne_of_none e hl0) e1
    exact k l _ bs S2 hl0 (by rw [upd_ne nll]; exact hl2) (P2.keep fun b xs e => by rw [upd_ne fun q => by rw [q, hlp2] at e; cases e]; exact e)
end

-- part K9Li
section
variable {P : Program} {w : World} {K : PySem.W.Frag} {mg : Str → Option Value} {base : Heap}
theorem EntV.ty {H : Hp} {v : V} {e : Ent} (x : EntV K H v e) : TyX K H v (.type "tuple") := by
  obtain ⟨a, rfl, h, _⟩ := x.ex
  rcases h with h | ⟨o, _, _, h1, h2, _⟩
  · exact .base (.tup h)
  · exact .kTuple h1 h2
def spSpot (K : PySem.W.Frag) : Sp := Sp3 fun x y z H Q _ => ∃ (e : Ent) (fr sl : Nat), EntV K H x e ∧ y = .int (fr : Int) ∧ z = .int (sl : Int) ∧ (∀ n, e = .at false n → n < fr) ∧ (∀ n, e = .at true n → n < sl) ∧ ∀ H', Same H H' → Q (.bl true) H'
theorem ok_Spot (T : Tx K mg) : Okp P w K mg base 1 (He.fAd K ("_law_spot", none)) ["_law_spot_here", "_law_frames", "_law_slots"] (spSpot K) := by
  refine okn len3 T.f_law_spot sc_law_spot fun cdv A outer s0 H vs Q E hr h => ?_
  obtain ⟨v, _, _, rfl, e, fr, sl, hE, rfl, rfl, hf, hs, k⟩ := h
  have nd := sc_law_spot.nd
  have hu := hu_of hr
  refine ⟨_, pss_cons (ps_if (PW.pt (pw_or (pt_not (pt_val (pe_callB call_isi (by rfl) T.n_isinstance (by decide +kernel) (pa_cons (pv 0) (pa_cons (pe_bltn (v := .ty "tuple") (by rfl) T.n_tuple (by decide +kernel) rfl) pa_nil)))))
      (pw_or (pt_cmpR op_ne (pe_callB call_len_seq (by rfl) T.n_len PySem.boot_len (pa_cons (pv 0) pa_nil)) pe_int (nomark _))
      (pw_or (pt_not (pt_val (pe_callB call_isi (by rfl) T.n_isinstance (by decide +kernel) (pa_cons (pe_ix ix_tup (pv 0) pe_int (fun _ _ => rfl)) (pa_cons (pe_bltn (v := .ty "int") (by rfl) T.n_int (by decide +kernel) rfl) pa_nil)))))
      (pw_or1 (pt_val (pe_callB call_isi (by rfl) T.n_isinstance (by decide +kernel) (pa_cons (pe_ix ix_tup (pv 0) pe_int (fun _ _ => rfl)) (pa_cons (pe_bltn (v := .ty "bool") (by rfl) T.n_bool (by decide +kernel) rfl) pa_nil)))))))))
      (pss_one (ps_ret (pe_cmpR (op_eqE hr.units) (pv 0) (pe_tup (pa_cons pe_str pa_nil)) (nomark _)))) pss_nil)
    (pss_one (ps_ret (pe_or (pe_and (pe_cmpR op_eq (pe_ix ix_tup (pv 0) pe_int (fun _ _ => rfl)) pe_str (nomark _)) (pe_one (pe_chain op_le op_lt pe_int (pe_ix ix_tup (pv 0) pe_int (fun _ _ => rfl)) (pv 1))))
      (pe_one (pe_and (pe_cmpR op_eq (pe_ix ix_tup (pv 0) pe_int (fun _ _ => rfl)) pe_str (nomark _)) (pe_one (pe_chain op_le op_lt pe_int (pe_ix ix_tup (pv 0) pe_int (fun _ _ => rfl)) (pv 2)))))))), ?_⟩
  refine ⟨_, rfl, v, _, _, _, _, rfl, .ty "tuple", hE.ty, kit_ty (by decide +kernel), true, rfl, ?_⟩
  refine iteF ?_
  obtain ⟨a, rfl, hT, _⟩ := hE.ex
  refine ⟨_, rfl, a, _, rfl, .inr hT.sq, rfl, _, rfl, ?_⟩
  cases e with
  | blank =>
    refine iteT ?_
    refine ⟨_, rfl, by decide, fun tp htp => ⟨.blank, .blank, hE.keep (tup_new htp), EntV.mk' upd_same, ?_⟩⟩
    rw [decide_eq_true rfl]
    exact k _ (same_new (Same.refl H) htp)
  | «at» b n =>
    refine iteF ?_
    refine ⟨_, rfl, a, _, _, _, rfl, rfl, hT.sq, a1, _, _, _, _, _, rfl, .ty "int", .base (.int _), kit_ty (by decide +kernel), true, rfl, ?_⟩
    refine iteF ?_
    refine ⟨_, rfl, a, _, _, _, rfl, rfl, hT.sq, a1, _, _, _, _, _, rfl, .ty "bool", .base (.int _), kit_ty (by decide +kernel), false, rfl, ?_⟩
    refine iteF ?_
    refine ⟨_, rfl, a, _, _, _, rfl, rfl, hT.sq, a0, rfl, _, rfl, ?_⟩
    cases b with
    | false =>
      refine strT ?_
      have hn := hf n rfl
      refine ⟨_, rfl, a, _, _, _, rfl, rfl, hT.sq, a1, _, _, rfl, rfl, _, rfl, ?_⟩
      rw [decide_eq_true (show (0 : Int) ≤ (n : Int) by omega)]
      refine iteT ?_
      exact ⟨_, rfl, _, _, rfl, rfl, _, rfl, ite2 (fun _ => k H (Same.refl H)) fun q => absurd (decide_eq_true (show (n : Int) < (fr : Int) by omega)) q⟩
    | true =>
      refine strF (by decide +kernel) ?_
      have hn := hs n rfl
      refine ⟨_, rfl, iteF ?_⟩
      refine ⟨_, rfl, a, _, _, _, rfl, rfl, hT.sq, a0, rfl, _, rfl, ?_⟩
      refine strT ?_
      refine ⟨_, rfl, a, _, _, _, rfl, rfl, hT.sq, a1, _, _, rfl, rfl, _, rfl, ?_⟩
      rw [decide_eq_true (show (0 : Int) ≤ (n : Int) by omega)]
      refine iteT ?_
      refine ⟨_, rfl, _, _, rfl, rfl, ?_⟩
      have e : V.bl (decide ((n : Int) < (sl : Int))) = V.bl true := by rw [decide_eq_true (show (n : Int) < (sl : Int) by omega)]
      show Q (V.bl (decide ((n : Int) < (sl : Int)))) H
      rw [e]
      exact k H (Same.refl H)
end

-- part K9Lj
section
variable {P : Program} {w : World} {K : PySem.W.Frag} {mg : Str → Option Value} {base : Heap}
/-- the first i pages of all -/
structure Seen (K : PySem.W.Frag) (H : Hp) (S : PS) (pk : Int × Int → Int) (kp : List (Int × V)) (ks : List (List Key × V)) : Prop where
  poke : ∀ c v, valV kp c = some v → ∃ z e, S.e z = some e ∧ e ≠ .blank ∧ pk z = c ∧ EntV K H v e
  spot : ∀ b n v, valV ks (entK b n) = some v → ∃ z, S.e z = some (.at b n) ∧ v = .int (pk z)
def spStanding (K : PySem.W.Frag) : Sp := Sp3 fun x y z H Q _ => ∃ (S : PS) (pk : Int × Int → Int) (l : Addr) (bs : List Addr), x = .ref l ∧ y = .int (S.fr : Int) ∧ z = .int (S.sl : Int) ∧ SqL K H l (bs.map V.ref) ∧ PlL K H S pk S.all bs ∧ Gx S [] ∧ Std S pk [] ∧ (∀ z, (S.e z).isSome = true → 0 ≤ pk z) ∧ ∀ H', Same H H' → Q (.bl true) H'
theorem ok_Standing (T : Tx K mg) : Okp P w K mg base 2 (He.fAd K ("_law_standing", none)) ["_law_places_here", "_law_frames", "_law_slots"] (spStanding K) := by
  refine okn len3 T.f_law_standing sc_law_standing fun cdv A outer s0 H vs Q E hr h => ?_
  obtain ⟨_, _, _, rfl, S, pk, l, bs, rfl, rfl, rfl, hl, PL, G, st, pos, k⟩ := h
  have nd := sc_law_standing.nd
  have hu := hu_of hr
  refine ⟨_, pss_cons (ps_set (i := 3) nd rfl (Or.inl rfl) pe_dnewK)
    (pss_cons (ps_set (i := 4) nd rfl (Or.inl rfl) pe_dnewT)
    (pss_cons (ps_for PassesOwn.never rfl (pi_list (pv 0)) (pg_tup rfl (pgs_cons (pg_name (i := 5) nd rfl (Or.inl rfl)) (pgs_cons (pg_name (i := 6) nd rfl (Or.inl rfl)) (pgs_cons (pg_name (i := 7) nd rfl (Or.inl rfl)) (pgs_cons (pg_name (i := 8) nd rfl (Or.inl rfl)) pgs_nil)))))
      (pss_cons (ps_if (PW.pt (pw_or (pt_not (pt_val (pe_c (ok_Spot T) T.g_law_spot hr (pa_cons (pv 8) (pa_cons (pv 1) (pa_cons (pv 2) pa_nil))))))
          (pw_or1 (pt_cmpR op_ne (pe_cmpR (op_eqE hr.units) (pv 8) (pe_tup (pa_cons pe_str pa_nil)) (nomark _)) (pe_cmpR op_eq (pv 7) pe_int (nomark _)) (nomark _))))) (pss_one ps_never) pss_nil)
      (pss_one (ps_if (pt_cmpR op_gt (pv 7) pe_int (nomark _))
        (pss_cons (ps_if (PW.pt (pw_or (pt_cmpR (op_neE hr.units) (pe_dget2 hu (pv 3) (pv 7) (pv 8) ⟨rfl, rfl, rfl, rfl⟩) (pv 8) (nomark _)) (pw_or1 (pt_cmpR op_ne (pe_dget2 hu (pv 4) (pv 8) (pv 7) ⟨rfl, rfl, rfl, rfl⟩) (pv 7) (nomark _))))) (pss_one ps_never) pss_nil)
          (pss_cons (ps_dput hu (pv 3) (pv 7) (pv 8) rfl)
            (pss_one (ps_dput hu (pv 4) (pv 8) (pv 7) rfl)))) pss_nil))))
    (pss_one (ps_ret pe_bl)))), ?_⟩
  intro d1 hd1
  have hd10 : H d1 = none := hd1
  intro d2 hd2
  have n12 : d1 ≠ d2 := fun e => by rw [← e, upd_same] at hd2; cases hd2
  have s1 : Same H (upd H d1 (.dK [])) := same_new (Same.refl H) hd1
  have hd20 : H d2 = none := s1.free hd2
  have s2 : Same H (upd (upd H d1 (.dK [])) d2 (.dT [])) := same_new s1 hd20
  have hlb : bs.length = S.all.length := (Paired.length PL).symm
  have hal := G.allLen
  refine ⟨_, rfl, l, rfl, ⟨_, s2.seq hl⟩, for_list (K := K) (a := l) (xs := bs.map V.ref) (fun i σ H4 => ∃ (v5 v6 v7 v8 : Option V) (kp : List (Int × V)) (ks : List (List Key × V)), σ = [some (.ref l), some (.int (S.fr : Int)), some (.int (S.sl : Int)), some (.ref d1), some (.ref d2), v5, v6, v7, v8] ∧ Same H H4 ∧
    H4 d1 = some (.dK (liK kp)) ∧ H4 d2 = some (.dT ks) ∧ kp.length ≤ i ∧ ks.length ≤ i ∧ Seen K H S pk kp ks) ?_ ?_ ?_ ?_⟩
  · exact ⟨none, none, none, none, [], [], rfl, s2, by rw [upd_ne n12]; exact upd_same, upd_same, Nat.le_refl _, Nat.le_refl _, ⟨fun c v h => (by cases h), fun b n v h => (by cases h)⟩⟩
  · rintro i σ H4 hi ⟨v5, v6, v7, v8, kp, ks, rfl, s4, _⟩
    exact s4.seq hl
  · rintro i x σ H4 hx ⟨v5, v6, v7, v8, kp, ks, rfl, s4, h1, h2, l1, l2, sn⟩
    obtain ⟨b, hb, rfl⟩ := ref_at hx
    obtain ⟨z, hz, pz⟩ := paired_at PL hb
    obtain ⟨v, e, ht, he, hE⟩ := pz.ex
    have hi : i < (bs.map V.ref).length := (List.getElem?_eq_some_iff.mp hx).1
    rw [List.length_map] at hi
    have tk4 : ∀ a xs, H a = some (.tup xs) → H4 a = some (.tup xs) := fun a xs e => s4 _ _ e
    have hE4 := hE.keep tk4
    have ht4 := tk4 _ _ ht
    have he' : S.e z = some e := he
    have hsz : (S.e z).isSome = true := by rw [he]; rfl
    refine ⟨b, _, rfl, SqT.of ht4, rfl, _, _, rfl, _, _, rfl, _, _, rfl, _, _, rfl, rfl, ?_⟩
    refine ⟨_, rfl, _, rfl, _, rfl, _, _, _, rfl, e, S.fr, S.sl, hE4, rfl, rfl, fun n hn => ?_, fun n hn => ?_, fun H5 s5 => ?_⟩
    · subst hn
      have := (G.atOwn he (by simp)).1
      have := G.at_lt this
      rw [← G.l0]
      exact this
    · subst hn
      have := (G.atOwn he (by simp)).1
      have := G.at_lt this
      rw [← G.l1]
      exact this
    have s45 := s4.trans s5
    have h15 := s5 _ _ h1
    have h25 := s5 _ _ h2
    have hE5 := hE.keep fun a xs q => s45 _ _ q
    refine ⟨true, rfl, ?_⟩
    refine iteF ?_
    refine ⟨_, rfl, by decide, fun tp htp => ⟨e, .blank, hE5.keep (tup_new htp), EntV.mk' upd_same, ?_⟩⟩
    have s6 := same_new (o := .tup [.str "blank"]) s45 (s45.free htp)
    have nt1 : d1 ≠ tp := fun q => by rw [← q, h15] at htp; cases htp
    have nt2 : d2 ≠ tp := fun q => by rw [← q, h25] at htp; cases htp
    have h16 : upd H5 tp (.tup [.str "blank"]) d1 = some (.dK (liK kp)) := by rw [upd_ne nt1]; exact h15
    have h26 : upd H5 tp (.tup [.str "blank"]) d2 = some (.dT ks) := by rw [upd_ne nt2]; exact h25
    have eT : upd H5 tp (.tup (entXs .blank)) = upd H5 tp (.tup [.str "blank"]) := rfl
    generalize upd H5 tp (.tup [.str "blank"]) = H6 at *
    have tk6 : ∀ a xs, H a = some (.tup xs) → H6 a = some (.tup xs) := fun a xs q => s6 _ _ q
    have hE6 := hE.keep tk6
    have eqb : e = .blank ↔ pk z = 0 := by
      have := st.bl z hsz (by simp)
      rw [he] at this
      exact ⟨fun q => this.mp (by rw [q]), fun q => Option.some.inj (this.mpr q)⟩
    have eqd : V.bl (decide (e = .blank)) = V.bl (decide (V.int (pk z) = V.int 0)) := by
      congr 1
      rw [decide_eq_decide, eqb]
      exact ⟨fun q => by rw [q], V.int.inj⟩
    refine ⟨_, rfl, rfl, rfl, _, rfl, iteNS eqd ?_⟩
    refine ⟨_, rfl, _, _, rfl, rfl, _, rfl, ite2 (fun q => ?_) fun q => ?_⟩
    · have hpos := of_decide_eq_true q
      have hne : e ≠ .blank := fun q => by have := eqb.mp q; omega
      cases e with
      | blank => exact absurd rfl hne
      | «at» b n =>
        have g1 : EntV K H6 ((valV kp (pk z)).getD v) (.at b n) := by
          cases ev : valV kp (pk z) with
          | none => exact hE6
          | some u =>
            obtain ⟨y, e2, q1, q2, q3, q4⟩ := sn.poke _ _ ev
            have q5 := (st.eq z y hsz (by rw [q1]; rfl) (by simp) (by simp) (by rw [he]; simp) (by rw [q1]; simpa using q2)).mpr q3.symm
            rw [he, q1] at q5
            cases q5
            exact q4.keep tk6
        have g2 : (valV ks (entK b n)).getD (.int (pk z)) = .int (pk z) := by
          cases ev : valV ks (entK b n) with
          | none => rfl
          | some u =>
            obtain ⟨y, q1, q2⟩ := sn.spot _ _ _ ev
            have q5 := (st.eq z y hsz (by rw [q1]; rfl) (by simp) (by simp) (by rw [he]; simp) (by rw [q1]; simp)).mp (by rw [he, q1])
            rw [q2, q5]
            rfl
        obtain ⟨a0', rfl, _, hat⟩ := id hE6.ex
        have hat := hat (by simp)
        refine ⟨_, rfl, d1, rfl, .inl ⟨_, .inl h16⟩, _, rfl, _, rfl, _, DGet.k (k := Sum.inl (pk z)) h16, _, rfl, .at b n, .at b n, (by rw [liK_val]; exact g1), hE6, _, rfl, ?_⟩
        rw [decide_eq_true rfl]
        refine iteF ?_
        refine ⟨_, rfl, d2, rfl, .inr ⟨_, .inl h26⟩, _, rfl, _, rfl, _, DGet.t (k := entK b n) h26 hat, _, rfl, ?_⟩
        rw [g2]
        refine ⟨rfl, _, rfl, iteNS rfl ?_⟩
        refine ⟨_, rfl, _, rfl, _, rfl, d1, _, rfl, DPut.k (k := Sum.inl (pk z)) h16 (by rw [liK_len]; exact small1000 (by omega)), ?_⟩
        rw [liK_put]
        have h27 : upd H6 d1 (.dK (liK (putK kp (pk z) (.ref a0')))) d2 = some (.dT ks) := by rw [upd_ne n12.symm]; exact h26
        have hat7 : upd H6 d1 (.dK (liK (putK kp (pk z) (.ref a0')))) a0' = some (.tup ((entK b n).map kV)) := by
          rw [upd_ne fun q => by rw [q, h16] at hat; cases hat]
          exact hat
        refine ⟨_, rfl, _, rfl, _, rfl, d2, _, rfl, DPut.t (k := entK b n) h27 hat7 (small1000 (by omega)), ?_⟩
        have p1 := length_putK kp (pk z) (.ref a0')
        have p2 := length_putK ks (entK b n) (.int (pk z))
        refine ⟨_, _, _, _, putK kp (pk z) (.ref a0'), putK ks (entK b n) (.int (pk z)), rfl, same_new (same_new s6 hd10) hd20, by rw [upd_ne n12]; exact upd_same, upd_same, by omega, by omega, ⟨fun c u hc => ?_, fun b' n' u hc => ?_⟩⟩
        · rw [valV_put] at hc
          by_cases qc : c = pk z
          · rw [if_pos qc] at hc
            cases hc
            exact ⟨z, .at b n, he, by simp, qc.symm, hE⟩
          · rw [if_neg qc] at hc
            exact sn.poke c u hc
        · rw [valV_put] at hc
          by_cases qc : entK b' n' = entK b n
          · rw [if_pos qc] at hc
            cases hc
            obtain ⟨rfl, rfl⟩ := entK_inj qc
            exact ⟨z, he, rfl⟩
          · rw [if_neg qc] at hc
            exact sn.spot b' n' u hc
    · exact ⟨_, _, _, _, kp, ks, rfl, s6, h16, h26, by omega, by omega, sn⟩
  · rintro σ H4 ⟨v5, v6, v7, v8, kp, ks, rfl, s4, _⟩
    exact k H4 s4
end

-- part K9Lk
/-! ### counting -/
def cntI (S : PS) (l : List (Int × Int)) (b : Bool) (n : Nat) : Nat := (l.filter fun z => decide (S.e z = some (.at b n))).length
def cntL (S : PS) (l : List (Int × Int)) (b : Bool) (k : Nat) : List Nat := (List.range k).map fun n => cntI S l b n
theorem cntI_snoc (S : PS) (l : List (Int × Int)) (z : Int × Int) (b : Bool) (n : Nat) : cntI S (l ++ [z]) b n = cntI S l b n + if S.e z = some (.at b n) then 1 else 0 := by
  unfold cntI
  rw [List.filter_append, List.length_append]
  congr 1
  by_cases h : S.e z = some (.at b n)
  · rw [if_pos h, List.filter_cons, if_pos (by simpa using h)]
    rfl
  · rw [if_neg h, List.filter_cons, if_neg (by simpa using h)]
    rfl
theorem cntL_len (S : PS) (l : List (Int × Int)) (b : Bool) (k : Nat) : (cntL S l b k).length = k := by unfold cntL; rw [List.length_map, List.length_range]
theorem cntL_at {S : PS} {l : List (Int × Int)} {b : Bool} {k n : Nat} (h : n < k) : (cntL S l b k)[n]? = some (cntI S l b n) := by
  unfold cntL
  rw [List.getElem?_map, List.getElem?_range h]
  rfl
theorem cntL_nil (S : PS) (b : Bool) (k : Nat) : cntL S [] b k = List.replicate k 0 := by
  unfold cntL
  refine List.ext_getElem? fun i => ?_
  rw [List.getElem?_map, List.getElem?_replicate]
  by_cases h : i < k
  · rw [List.getElem?_range h, if_pos h]
    rfl
  · rw [if_neg h, List.getElem?_eq_none (by rw [List.length_range]; omega)]
    rfl
theorem cntL_set {S : PS} {l : List (Int × Int)} {z : Int × Int} {b : Bool} {k n : Nat} (he : S.e z = some (.at b n)) (h : n < k) : (cntL S l b k).set n (cntI S l b n + 1) = cntL S (l ++ [z]) b k := by
  refine List.ext_getElem? fun i => ?_
  by_cases hi : i < k
  · rw [cntL_at hi, cntI_snoc]
    by_cases q : i = n
    · subst q
      rw [List.getElem?_set_self (by rw [cntL_len]; exact hi), if_pos he]
    · rw [List.getElem?_set_ne (Ne.symm q), cntL_at hi, if_neg fun e => q ?_]
      · rfl
      · rw [he] at e
        cases e
        rfl
  · rw [List.getElem?_eq_none (by rw [List.length_set, cntL_len]; omega), List.getElem?_eq_none (by rw [cntL_len]; omega)]
theorem cntL_keep {S : PS} {l : List (Int × Int)} {z : Int × Int} {b : Bool} {k : Nat} (h : ∀ n, S.e z ≠ some (.at b n)) : cntL S (l ++ [z]) b k = cntL S l b k := by
  unfold cntL
  refine List.map_congr_left fun n _ => ?_
  rw [cntI_snoc, if_neg (h n)]
  rfl
theorem Gx.counted {S : PS} (x : Gx S []) (b : Bool) : cntL S S.all b (S.own b).length = S.own b := by
  refine List.ext_getElem? fun i => ?_
  by_cases hi : i < (S.own b).length
  · rw [cntL_at hi, x.cnt b i hi]
    congr 1
    unfold cntI
    refine Nat.le_antisymm ?_ ?_
    · refine List.Nodup.length_le_of_subset (List.Nodup.sublist List.filter_sublist (all_nd x.tsn)) fun z hz => ?_
      obtain ⟨_, h2⟩ := List.mem_filter.mp hz
      exact (x.mem b i z).mpr ⟨of_decide_eq_true h2, by simp⟩
    · refine (x.nd b i).length_le_of_subset fun z hz => ?_
      have h := ((x.mem b i z).mp hz).1
      exact List.mem_filter.mpr ⟨x.allMem.mpr (by rw [h]; rfl), decide_eq_true h⟩
  · rw [List.getElem?_eq_none (by rw [cntL_len]; omega), List.getElem?_eq_none (by omega)]
section
variable {P : Program} {w : World} {K : PySem.W.Frag} {mg : Str → Option Value} {base : Heap}
def spOwners (K : PySem.W.Frag) : Sp := Sp3 fun x y z H Q _ => ∃ (S : PS) (pk : Int × Int → Int) (l : Addr) (bs : List Addr), x = .ref l ∧ y = .int (S.fr : Int) ∧ z = .int (S.sl : Int) ∧ SqL K H l (bs.map V.ref) ∧ PlL K H S pk S.all bs ∧ Gx S [] ∧ Std S pk [] ∧ (∀ z, (S.e z).isSome = true → 0 ≤ pk z) ∧
  ∀ tp f s H', Same H H' → H tp = none → H f = none → H s = none → f ≠ s → H' tp = some (.tup [.ref f, .ref s]) → H' f = some (.lst (owV (S.own false))) → H' s = some (.lst (owV (S.own true))) → Q (.ref tp) H'
theorem ok_Owners (T : Tx K mg) : Okp P w K mg base 1 (He.fAd K ("_law_owners", none)) ["_law_places_here", "_law_frames", "_law_slots"] (spOwners K) := by
  refine okn len3 T.f_law_owners sc_law_owners fun cdv A outer s0 H vs Q E hr h => ?_
  obtain ⟨_, _, _, rfl, S, pk, l, bs, rfl, rfl, rfl, hl, PL, G, st, pos, k⟩ := h
  have nd := sc_law_owners.nd
  have hu := hu_of hr
  refine ⟨_, pss_cons (ps_set (i := 3) nd rfl (Or.inl rfl) (pe_tup (pa_cons (pe_op op_rep (pe_lst (pa_cons pe_int pa_nil)) (pv 1)) (pa_cons (pe_op op_rep (pe_lst (pa_cons pe_int pa_nil)) (pv 2)) pa_nil))))
    (pss_cons (ps_for PassesOwn.never rfl (pi_list (pv 0)) (pg_tup rfl (pgs_cons (pg_name (i := 4) nd rfl (Or.inl rfl)) (pgs_cons (pg_name (i := 5) nd rfl (Or.inl rfl)) (pgs_cons (pg_name (i := 6) nd rfl (Or.inl rfl)) (pgs_cons (pg_name (i := 7) nd rfl (Or.inl rfl)) pgs_nil)))))
      (pss_one (ps_if (pt_cmpR op_gt (pv 6) pe_int (nomark _))
        (pss_one (ps_augS (pe_ix ix_tup (pv 3) (pe_callTy call_int1 (by rfl) T.n_int (by decide +kernel) (pa_cons (pe_cmpR op_eq (pe_ix ix_tup (pv 7) pe_int (fun _ _ => rfl)) pe_str (nomark _)) pa_nil)) (fun _ _ => rfl)) (pe_ix ix_tup (pv 7) pe_int (fun _ _ => rfl)) get_list pe_int ip_add set_list)) pss_nil)))
    (pss_one (ps_ret (pv 3)))), ?_⟩
  have hb := G.bnd
  refine ⟨by decide, fun q1 hq1 => ⟨_, rfl, q1, (S.fr : Int), _, rfl, rfl, upd_same, by omega, by omega, by simp; exact line60 (by omega), fun f hf => ?_⟩⟩
  have s1 := same_new (o := .lst [V.int 0]) (Same.refl H) hq1
  have eF : (List.replicate (S.fr : Int).toNat [V.int 0]).flatten = owV (List.replicate S.fr 0) := by rw [flat_rep, owV_rep]; rfl
  rw [eF]
  have hf0 : H f = none := s1.free hf
  have s2 := same_new (o := .lst (owV (List.replicate S.fr 0))) s1 hf0
  refine ⟨by decide, fun q2 hq2 => ⟨_, rfl, q2, (S.sl : Int), _, rfl, rfl, upd_same, by omega, by omega, by simp; exact line60 (by omega), fun s hs => ?_⟩⟩
  have hq20 := s2.free hq2
  have s3 := same_new (o := .lst [V.int 0]) s2 hq20
  have eS : (List.replicate (S.sl : Int).toNat [V.int 0]).flatten = owV (List.replicate S.sl 0) := by rw [flat_rep, owV_rep]; rfl
  rw [eS]
  have hs0 : H s = none := s3.free hs
  have nfq : f ≠ q2 := fun e => by rw [← e, upd_same] at hq2; cases hq2
  have hf2 : upd (upd (upd H q1 (.lst [V.int 0])) f (.lst (owV (List.replicate S.fr 0)))) q2 (.lst [V.int 0]) f = some (.lst (owV (List.replicate S.fr 0))) := by rw [upd_ne nfq]; exact upd_same
  have nfs : f ≠ s := fun e => by rw [← e, hf2] at hs; cases hs
  have s4 := same_new (o := .lst (owV (List.replicate S.sl 0))) s3 hs0
  refine ⟨(by show 2 ≤ sizeLine; decide), fun tp htp => ?_⟩
  have htp0 := s4.free htp
  have nft : f ≠ tp := fun e => by rw [← e, upd_ne nfs, hf2] at htp; cases htp
  have nst : s ≠ tp := fun e => by rw [← e, upd_same] at htp; cases htp
  have s5 := same_new (o := .tup [V.ref f, V.ref s]) s4 htp0
  have hlb : bs.length = S.all.length := (Paired.length PL).symm
  refine ⟨_, rfl, l, rfl, ⟨_, s5.seq hl⟩, for_list (K := K) (a := l) (xs := bs.map V.ref) (fun i σ H4 => ∃ (v4 v5 v6 v7 : Option V), σ = [some (.ref l), some (.int (S.fr : Int)), some (.int (S.sl : Int)), some (.ref tp), v4, v5, v6, v7] ∧ Same H H4 ∧
    H4 tp = some (.tup [.ref f, .ref s]) ∧ H4 f = some (.lst (owV (cntL S (S.all.take i) false S.fr))) ∧ H4 s = some (.lst (owV (cntL S (S.all.take i) true S.sl)))) ?_ ?_ ?_ ?_⟩
  · refine ⟨none, none, none, none, rfl, s5, upd_same, ?_, ?_⟩
    · rw [upd_ne nft, upd_ne nfs, hf2, List.take_zero, cntL_nil]
    · rw [upd_ne nst, upd_same, List.take_zero, cntL_nil]
  · rintro i σ H4 hi ⟨v4, v5, v6, v7, rfl, s6, _⟩
    exact s6.seq hl
  · rintro i x σ H4 hx ⟨v4, v5, v6, v7, rfl, s6, ht6, hf6, hs6⟩
    obtain ⟨b, hb', rfl⟩ := ref_at hx
    obtain ⟨z, hz, pz⟩ := paired_at PL hb'
    obtain ⟨v, e, ht, he, hE⟩ := pz.ex
    have hsz : (S.e z).isSome = true := by rw [he]; rfl
    have hE6 := hE.keep fun a xs q => s6 _ _ q
    have eqb : e = .blank ↔ pk z = 0 := by
      have := st.bl z hsz (by simp)
      rw [he] at this
      exact ⟨fun q => this.mp (by rw [q]), fun q => Option.some.inj (this.mpr q)⟩
    have et : S.all.take (i + 1) = S.all.take i ++ [z] := by rw [List.take_add_one, hz]; rfl
    refine ⟨b, _, rfl, SqT.of (s6 _ _ ht), rfl, _, _, rfl, _, _, rfl, _, _, rfl, _, _, rfl, rfl, ?_⟩
    refine ⟨_, rfl, _, _, rfl, rfl, _, rfl, ite2 (fun q => ?_) fun q => ?_⟩
    · have hpos := of_decide_eq_true q
      cases e with
      | blank => have := eqb.mp rfl; omega
      | «at» c n =>
        obtain ⟨_, _, _, n60⟩ := G.atOwn he (by simp)
        have hlt := G.at_lt (G.atOwn he (by simp)).1
        obtain ⟨ea, rfl, hT, _⟩ := hE6.ex
        cases c with
        | false =>
          have hn : n < S.fr := by rw [← G.l0]; exact hlt
          refine ⟨_, rfl, _, rfl, ea, _, _, _, rfl, rfl, hT.sq, a0, rfl, .inr ⟨_, rfl, tp, _, _, V.ref f, rfl, rfl, SqT.of ht6, ?_, _, rfl, ea, _, _, _, rfl, rfl, hT.sq, a1, f, _, _, _, rfl, rfl, SqL.of hf6, atI_nat (owV_at (cntL_at hn)), _, _, rfl, rfl, f, _, _, n, rfl, rfl, hf6, ixN_nat (by rw [owV_len, cntL_len]; exact hn), ?_⟩⟩
          · rw [kn_ne]
            exact a0
          · have ev : V.int (((cntI S (S.all.take i) false n : Nat) : Int) + 1) = V.int ((cntI S (S.all.take i) false n + 1 : Nat) : Int) := by congr 1
            rw [ev, owV_set, cntL_set he hn, ← et]
            refine ⟨_, _, _, _, rfl, same_new s6 hf0, by rw [upd_ne nft.symm]; exact ht6, upd_same, ?_⟩
            rw [upd_ne nfs.symm, hs6, et, cntL_keep fun m => by rw [he]; simp]
        | true =>
          have hn : n < S.sl := by rw [← G.l1]; exact hlt
          refine ⟨_, rfl, _, rfl, ea, _, _, _, rfl, rfl, hT.sq, a0, rfl, .inr ⟨_, rfl, tp, _, _, V.ref s, rfl, rfl, SqT.of ht6, ?_, _, rfl, ea, _, _, _, rfl, rfl, hT.sq, a1, s, _, _, _, rfl, rfl, SqL.of hs6, atI_nat (owV_at (cntL_at hn)), _, _, rfl, rfl, s, _, _, n, rfl, rfl, hs6, ixN_nat (by rw [owV_len, cntL_len]; exact hn), ?_⟩⟩
          · rw [kn_is]
            exact a1
          · have ev : V.int (((cntI S (S.all.take i) true n : Nat) : Int) + 1) = V.int ((cntI S (S.all.take i) true n + 1 : Nat) : Int) := by congr 1
            rw [ev, owV_set, cntL_set he hn, ← et]
            refine ⟨_, _, _, _, rfl, same_new s6 hs0, by rw [upd_ne nst.symm]; exact ht6, ?_, upd_same⟩
            rw [upd_ne nfs, hf6, et, cntL_keep fun m => by rw [he]; simp]
    · have hz0 : e = .blank := eqb.mpr (by have := pos z hsz; have := nod q; omega)
      subst hz0
      refine ⟨_, _, _, _, rfl, s6, ht6, ?_, ?_⟩
      · rw [et, cntL_keep fun m => by rw [he]; simp]
        exact hf6
      · rw [et, cntL_keep fun m => by rw [he]; simp]
        exact hs6
  · rintro σ H4 ⟨v4, v5, v6, v7, rfl, s6, ht6, hf6, hs6⟩
    rw [List.length_map, hlb, List.take_length] at hf6 hs6
    have c0 := G.counted false
    have c1 := G.counted true
    rw [G.l0] at c0
    rw [G.l1] at c1
    rw [c0] at hf6
    rw [c1] at hs6
    exact ⟨_, rfl, k tp f s H4 s6 htp0 hf0 hs0 nfs ht6 hf6 hs6⟩
end

-- part K9Ll
/-! ### the counts, compared -/
def iD (l : List Nat) : PyData := .list (l.map fun n : Nat => PyData.int (n : Int))
theorem iD_lay : ∀ l : List Nat, PyData.canLayAll0 (l.map fun n : Nat => PyData.int (n : Int)) = true
  | [] => by simp [PyData.canLayAll0]
  | n :: r => by
    have := iD_lay r
    simp only [List.map_cons, PyData.canLayAll0, PyData.canLay0, this, Bool.and_self]
theorem iD_depth : ∀ l : List Nat, PyData.depthAll (l.map fun n : Nat => PyData.int (n : Int)) ≤ 1
  | [] => by simp [PyData.depthAll]
  | n :: r => by
    have := iD_depth r
    simp only [List.map_cons, PyData.depthAll, PyData.depth]
    omega
def cD (f s : List Nat) : PyData := .tuple [iD f, iD s]
theorem cD_shaped (f s : List Nat) : SeqAt.shaped (cD f s) = true := by
  unfold SeqAt.shaped
  rw [Bool.and_eq_true]
  refine ⟨?_, decide_eq_true ?_⟩
  · unfold cD iD
    simp only [PyData.canLay0, PyData.canLayAll0, iD_lay, Bool.and_self]
  · have h1 := iD_depth f
    have h2 := iD_depth s
    unfold cD iD
    simp only [PyData.depth, PyData.depthAll]
    omega
theorem cD_refl (f s : List Nat) : PyData.eqv (cD f s) (cD f s) = true := SeqAt.eqv_refl _ (SeqAt.canLay_of_shaped (cD_shaped f s))
theorem iD_all {K : PySem.W.Frag} {H : Hp} : ∀ l : List Nat, DpAll K H (owV l) (l.map fun n : Nat => PyData.int (n : Int))
  | [] => .nil
  | n :: r => .cons (.int _) (iD_all r)
theorem cD_dp {K : PySem.W.Frag} {H : Hp} {tp a b : Addr} {f s : List Nat} (ht : H tp = some (.tup [.ref a, .ref b])) (ha : H a = some (.lst (owV f))) (hb : H b = some (.lst (owV s))) : Dp K H (.ref tp) (cD f s) :=
  .tup (SqT.of ht) (.cons (.lst (SqL.of ha) (iD_all f)) (.cons (.lst (SqL.of hb) (iD_all s)) .nil))
section
variable {P : Program} {w : World} {K : PySem.W.Frag} {mg : Str → Option Value} {base : Heap}
def spCounted (K : PySem.W.Frag) : Sp := Sp4 fun x y z u H Q _ => ∃ (g : Col) (r : Addr) (S : PS) (pk : Int × Int → Int) (l : Addr) (bs : List Addr), x = .ref r ∧ y = .ref l ∧ z = .int (S.fr : Int) ∧ u = .int (S.sl : Int) ∧ Live g H ∧ RoA K g H r S ∧ SqL K H l (bs.map V.ref) ∧ PlL K H S pk S.all bs ∧ Std S pk [] ∧ (∀ z, (S.e z).isSome = true → 0 ≤ pk z) ∧
  ∀ H', Same H H' → Q (.bl true) H'
theorem ok_Counted (T : Tx K mg) : Okp P w K mg base 4 (He.fAd K ("_law_counted", none)) ["_law_rooms", "_law_places_here", "_law_frames", "_law_slots"] (spCounted K) := by
  refine okn len4 T.f_law_counted sc_law_counted fun cdv A outer s0 H vs Q E hr h => ?_
  obtain ⟨_, _, _, _, rfl, g, r, S, pk, l, bs, rfl, rfl, rfl, rfl, L, X, hl, PL, st, pos, k⟩ := h
  have nd := sc_law_counted.nd
  have hu := hu_of hr
  refine ⟨_, pss_cons (ps_set (i := 4) nd rfl (Or.inl rfl) (pe_c (ok_Owners T) T.g_law_owners (hr.mono (by decide)) (pa_cons (pv 1) (pa_cons (pv 2) (pa_cons (pv 3) pa_nil)))))
    (pss_cons (ps_set (i := 5) nd rfl (Or.inl rfl) (pe_m0 (pv 0) T.c_Rooms T.m_Rooms_counts (ok_Counts T) hr))
    (pss_cons (ps_if (PW.pt (pw_or (pt_not (pt_val (pe_callB call_isi (by rfl) T.n_isinstance (by decide +kernel) (pa_cons (pv 5) (pa_cons (pe_bltn (v := .ty "tuple") (by rfl) T.n_tuple (by decide +kernel) rfl) pa_nil)))))
        (pw_or (pt_cmpR op_ne (pe_callB call_len_seq (by rfl) T.n_len PySem.boot_len (pa_cons (pv 5) pa_nil)) pe_int (nomark _))
        (pw_or1 (pt_cmpR (op_neD hr.units) (pv 5) (pv 4) (nomark _)))))) (pss_one ps_never) pss_nil)
    (pss_cons (ps_if (PW.pt (pw_or (pt_not (pt_val (pe_callB call_isi (by rfl) T.n_isinstance (by decide +kernel) (pa_cons (pe_ix ix_tup (pv 5) pe_int (fun _ _ => rfl)) (pa_cons (pe_bltn (v := .ty "list") (by rfl) T.n_list (by decide +kernel) rfl) pa_nil)))))
        (pw_or1 (pt_not (pt_val (pe_callB call_isi (by rfl) T.n_isinstance (by decide +kernel) (pa_cons (pe_ix ix_tup (pv 5) pe_int (fun _ _ => rfl)) (pa_cons (pe_bltn (v := .ty "list") (by rfl) T.n_list (by decide +kernel) rfl) pa_nil)))))))) (pss_one ps_never) pss_nil)
    (pss_cons (ps_expr (pe_bm PySem.F.plainAttrs_list PySem.F.slot_list_append PySem.F.type_list_append mt_append (pe_ix ix_tup (pv 5) pe_int (fun _ _ => rfl)) (pa_cons pe_int pa_nil)))
    (pss_cons (ps_expr (pe_bm0 PySem.F.plainAttrs_list PySem.F.slot_list_clear PySem.F.type_list_clear mt_clear (pe_ix ix_tup (pv 5) pe_int (fun _ _ => rfl))))
    (pss_one (ps_ret (pe_cmpR (op_eqD hr.units) (pe_m0 (pv 0) T.c_Rooms T.m_Rooms_counts (ok_Counts T) hr) (pv 4) (nomark _))))))))), ?_⟩
  have G : Gx S [] := let ⟨_, _, _, _, h⟩ := X; h.gx
  refine ⟨_, rfl, _, rfl, _, rfl, _, _, _, rfl, S, pk, l, bs, rfl, rfl, rfl, hl, PL, G, st, pos, fun tp f s H1 s1 htp hf hs nfs ht1 hf1 hs1 => ?_⟩
  have X1 := X.same L s1
  have L1 : Live g H1 := (Grow.same (R := fun _ => false) L s1).live L
  have rob : ∀ {H}, RoA K g H r S → ∃ dx p, H r = some (.ins (cRo K) dx (roF p)) := fun X => let ⟨dx, p, _, _, h⟩ := X; ⟨dx, p, h.rob.h⟩
  obtain ⟨dx, p, hro⟩ := rob X1
  refine ⟨_, rfl, r, dx, _, rfl, hro, by kernel_rfl, _, rfl, g, r, S, rfl, L1, X1, fun tp2 f2 s2' H2 s2 htp2 hf2 hs2 nfs2 ht2 hf2' hs2'' => ?_⟩
  have s02 := s1.trans s2
  have X2 := X.same L s02
  have L2' : Live g H2 := (Grow.same (R := fun _ => false) L s02).live L
  have e1 := cD_dp (K := K) ht2 hf2' hs2''
  have e2 := cD_dp (K := K) (s2 _ _ ht1) (s2 _ _ hf1) (s2 _ _ hs1)
  refine ⟨_, rfl, _, _, _, _, _, rfl, .ty "tuple", .base (.tup ht2), kit_ty (by decide +kernel), true, rfl, iteF ?_⟩
  refine ⟨_, rfl, tp2, _, rfl, .inr (SqT.of ht2), rfl, _, rfl, iteF ?_⟩
  refine ⟨_, rfl, _, rfl, _, _, e1, e2, cD_shaped _ _, cD_shaped _ _, _, rfl, ?_⟩
  rw [cD_refl]
  refine iteF ?_
  refine ⟨_, rfl, tp2, _, _, _, rfl, rfl, SqT.of ht2, a0, _, _, _, _, _, rfl, .ty "list", .base (.lst hf2'), kit_ty (by decide +kernel), true, rfl, iteF ?_⟩
  refine ⟨_, rfl, tp2, _, _, _, rfl, rfl, SqT.of ht2, a1, _, _, _, _, _, rfl, .ty "list", .base (.lst hs2''), kit_ty (by decide +kernel), true, rfl, iteF ?_⟩
  -- found[0].append(5); found[1].clear()
  have ho := owV_len (S.own false)
  have hb := G.bnd
  have h0 := G.l0
  refine ⟨_, rfl, tp2, _, _, _, rfl, rfl, SqT.of ht2, a0, .inl ⟨rfl, _, SqL.of hf2'⟩, f2, _, _, rfl, rfl, hf2', by rw [ho]; exact small1000 (by omega), ?_⟩
  have s3 : Same H (upd H2 f2 (.lst (owV (S.own false) ++ [V.int 5]))) := same_new s02 (s1.free hf2)
  have ht3 : upd H2 f2 (.lst (owV (S.own false) ++ [V.int 5])) tp2 = some (.tup [.ref f2, .ref s2']) := by rw [upd_ne fun z => by rw [z, hf2'] at ht2; cases ht2]; exact ht2
  have hs3 : upd H2 f2 (.lst (owV (S.own false) ++ [V.int 5])) s2' = some (.lst (owV (S.own true))) := by rw [upd_ne nfs2.symm]; exact hs2''
  have old3 : ∀ a o, H1 a = some o → upd H2 f2 (.lst (owV (S.own false) ++ [V.int 5])) a = some o := fun a o e => by rw [upd_ne (ne_of_none e hf2)]; exact s2 _ _ e
  generalize upd H2 f2 (.lst (owV (S.own false) ++ [V.int 5])) = H3 at *
  refine ⟨_, rfl, tp2, _, _, _, rfl, rfl, SqT.of ht3, a1, .inl ⟨rfl, _, SqL.of hs3⟩, s2', _, rfl, rfl, hs3, ?_⟩
  have s4 : Same H (upd H3 s2' (.lst [])) := same_new s3 (s1.free hs2)
  have old4 : ∀ a o, H1 a = some o → upd H3 s2' (.lst []) a = some o := fun a o e => by rw [upd_ne (ne_of_none e hs2)]; exact old3 _ _ e
  generalize upd H3 s2' (.lst []) = H4 at *
  have X4 := X.same L s4
  have L4 : Live g H4 := (Grow.same (R := fun _ => false) L s4).live L
  obtain ⟨dx4, p4, hro4⟩ := rob X4
  refine ⟨_, rfl, r, dx4, _, rfl, hro4, by kernel_rfl, _, rfl, g, r, S, rfl, L4, X4, fun tp5 f5 s5' H5 s5 htp5 hf5 hs5 nfs5 ht5 hf5' hs5'' => ?_⟩
  refine ⟨_, rfl, _, _, cD_dp (K := K) ht5 hf5' hs5'', cD_dp (K := K) (s5 _ _ (old4 _ _ ht1)) (s5 _ _ (old4 _ _ hf1)) (s5 _ _ (old4 _ _ hs1)), cD_shaped _ _, cD_shaped _ _, ?_⟩
  rw [cD_refl]
  exact k H5 (s4.trans s5)
end

-- part K9Lm
section
variable {P : Program} {w : World} {K : PySem.W.Frag} {mg : Str → Option Value} {base : Heap}
def e0s : Ent → Str
  | .blank => "blank"
  | .at b _ => kn b
theorem EntV.ix0 {H : Hp} {v : V} {e : Ent} (x : EntV K H v e) : ∃ a xs c, v = .ref a ∧ SqT K H a xs ∧ atI xs 0 = some (.str c) ∧ c = e0s e := by
  obtain ⟨a, rfl, hT, _⟩ := x.ex
  cases e with
  | blank => exact ⟨a, _, _, rfl, hT.sq, a0, rfl⟩
  | «at» b n => exact ⟨a, _, _, rfl, hT.sq, a0, rfl⟩
def spPO (K : PySem.W.Frag) : Sp := Sp3 fun x y z H Q _ => ∃ (S0 S : PS) (pk0 pk : Int × Int → Int) (l0 l tp f s : Addr) (ls0 ls : List (Int × Int)) (bs0 bs : List Addr), x = .ref l0 ∧ y = .ref l ∧ z = .ref tp ∧ SqL K H l0 (bs0.map V.ref) ∧ PlL K H S0 pk0 ls0 bs0 ∧ ls0.length ≤ 200 ∧ SqL K H l (bs.map V.ref) ∧ PlL K H S pk ls bs ∧
  H tp = some (.tup [.ref f, .ref s]) ∧ H f = some (.lst (owV (S.own false))) ∧ (frst (S.own false) ≠ none → ∀ z n m, S0.e z = some (.at false n) → S.e z ≠ some (.at true m)) ∧ ∀ H', Same H H' → Q (.bl true) H'
theorem ok_PO (T : Tx K mg) : Okp P w K mg base 1 (He.fAd K ("_law_put_out", none)) ["_law_before", "_law_places_here", "_law_owners_here"] (spPO K) := by
  refine okn len3 T.f_law_put_out sc_law_put_out fun cdv A outer s0 H vs Q E hr h => ?_
  obtain ⟨_, _, _, rfl, S0, S, pk0, pk, l0, l, tp, f, s, ls0, ls, bs0, bs, rfl, rfl, rfl, hl0, PL0, h200, hl, PL, htp, hf, fr, k⟩ := h
  have nd := sc_law_put_out.nd
  have hu := hu_of hr
  refine ⟨_, pss_cons (ps_if (pt_cmpR op_notIn_seq pe_int (pe_ix ix_tup (pv 2) pe_int (fun _ _ => rfl)) (by rfl)) (pss_one (ps_ret pe_bl)) pss_nil)
    (pss_cons (ps_set (i := 3) nd rfl (Or.inl rfl) pe_dnewT)
    (pss_cons (ps_for PassesOwn.never rfl (pi_list (pv 0)) (pg_tup rfl (pgs_cons (pg_name (i := 4) nd rfl (Or.inl rfl)) (pgs_cons (pg_name (i := 5) nd rfl (Or.inl rfl)) (pgs_cons (pg_name (i := 6) nd rfl (Or.inl rfl)) (pgs_cons (pg_name (i := 7) nd rfl (Or.inl rfl)) pgs_nil)))))
      (pss_one (ps_dput hu (pv 3) (pe_tup (pa_cons (pv 4) (pa_cons (pv 5) pa_nil))) (pv 7) rfl)))
    (pss_cons (ps_for PassesOwn.never rfl (pi_list (pv 1)) (pg_tup rfl (pgs_cons (pg_name (i := 4) nd rfl (Or.inl rfl)) (pgs_cons (pg_name (i := 5) nd rfl (Or.inl rfl)) (pgs_cons (pg_name (i := 6) nd rfl (Or.inl rfl)) (pgs_cons (pg_name (i := 7) nd rfl (Or.inl rfl)) pgs_nil)))))
      (pss_one (ps_if (PW.pt (pw_and (pt_cmpR op_eq (pe_ix ix_tup (pv 7) pe_int (fun _ _ => rfl)) pe_str (nomark _)) (pw_and1 (pt_cmpR op_eq (pe_ix ix_tup (pe_dget2 hu (pv 3) (pe_tup (pa_cons (pv 4) (pa_cons (pv 5) pa_nil))) (pv 7) ⟨rfl, rfl, rfl, rfl⟩) pe_int (fun _ _ => rfl)) pe_str (nomark _))))) (pss_one ps_never) pss_nil)))
    (pss_one (ps_ret pe_bl))))), ?_⟩
  refine ⟨_, rfl, tp, _, _, _, rfl, rfl, SqT.of htp, a0, f, _, rfl, .inl (SqL.of hf), rfl, flat_owV _, _, rfl, ?_⟩
  rw [inV_owV]
  cases ef : frst (S.own false) with
  | none => exact iteT (k H (Same.refl H))
  | some i0 =>
  refine iteF ?_
  have fr := fr (by rw [ef]; simp)
  intro d hd
  have hd0 : H d = none := hd
  have s1 : Same H (upd H d (.dT [])) := same_new (Same.refl H) hd
  have hlb0 : bs0.length = ls0.length := (Paired.length PL0).symm
  refine ⟨_, rfl, l0, rfl, ⟨_, s1.seq hl0⟩, for_list (K := K) (a := l0) (xs := bs0.map V.ref) (fun i σ H4 => ∃ (v4 v5 v6 v7 : Option V) (ka : List (List Key × V)), σ = [some (.ref l0), some (.ref l), some (.ref tp), some (.ref d), v4, v5, v6, v7] ∧ Same H H4 ∧
    H4 d = some (.dT ka) ∧ ka.length ≤ i ∧ ∀ z v, valV ka (ownK z) = some v → ∃ e, S0.e z = some e ∧ EntV K H v e) ?_ ?_ ?_ ?_⟩
  · exact ⟨none, none, none, none, [], rfl, s1, upd_same, Nat.le_refl _, fun z v h => by cases h⟩
  · rintro i σ H4 hi ⟨v4, v5, v6, v7, ka, rfl, s4, _⟩
    exact s4.seq hl0
  · rintro i x σ H4 hx ⟨v4, v5, v6, v7, ka, rfl, s4, h4, l4, sn⟩
    obtain ⟨b, hb, rfl⟩ := ref_at hx
    obtain ⟨z, hz, pz⟩ := paired_at PL0 hb
    obtain ⟨v, e, ht, he, hE⟩ := pz.ex
    have hi : i < (bs0.map V.ref).length := (List.getElem?_eq_some_iff.mp hx).1
    rw [List.length_map] at hi
    refine ⟨b, _, rfl, SqT.of (s4 _ _ ht), rfl, _, _, rfl, _, _, rfl, _, _, rfl, _, _, rfl, rfl, ?_⟩
    refine ⟨_, rfl, _, rfl, _, rfl, _, rfl, (by show 2 ≤ sizeLine; decide), fun q hq => ?_⟩
    have ndq : d ≠ q := fun z => by rw [← z, h4] at hq; cases hq
    have h5 : upd H4 q (.tup [V.int z.1, V.int z.2]) d = some (.dT ka) := by rw [upd_ne ndq]; exact h4
    refine ⟨d, _, rfl, DPut.t (k := ownK z) h5 upd_same (small1000 (by omega)), ?_⟩
    have p1 := length_putK ka (ownK z) v
    refine ⟨_, _, _, _, putK ka (ownK z) v, rfl, same_new (same_new s4 (s4.free hq)) hd0, upd_same, by omega, fun y u hy => ?_⟩
    rw [valV_put] at hy
    by_cases qy : ownK y = ownK z
    · rw [if_pos qy] at hy
      cases hy
      rw [ownK_inj qy]
      exact ⟨e, he, hE⟩
    · rw [if_neg qy] at hy
      exact sn y u hy
  · rintro σ H4 ⟨v4, v5, v6, v7, ka, rfl, s4, h4, l4, sn⟩
    refine ⟨_, rfl, l, rfl, ⟨_, s4.seq hl⟩, for_list (K := K) (a := l) (xs := bs.map V.ref) (fun i σ H5 => ∃ (v4 v5 v6 v7 : Option V), σ = [some (.ref l0), some (.ref l), some (.ref tp), some (.ref d), v4, v5, v6, v7] ∧ Same H H5 ∧ H5 d = some (.dT ka)) ?_ ?_ ?_ ?_⟩
    · exact ⟨v4, v5, v6, v7, rfl, s4, h4⟩
    · rintro i σ H5 hi ⟨v4, v5, v6, v7, rfl, s5, _⟩
      exact s5.seq hl
    · rintro i x σ H5 hx ⟨v4, v5, v6, v7, rfl, s5, h5⟩
      obtain ⟨b, hb, rfl⟩ := ref_at hx
      obtain ⟨z, hz, pz⟩ := paired_at PL hb
      obtain ⟨v, e, ht, he, hE⟩ := pz.ex
      have hE5 := hE.keep fun a xs q => s5 _ _ q
      obtain ⟨va, xs, c, rfl, hva, hat, hc⟩ := hE5.ix0
      refine ⟨b, _, rfl, SqT.of (s5 _ _ ht), rfl, _, _, rfl, _, _, rfl, _, _, rfl, _, _, rfl, rfl, ?_⟩
      refine ⟨_, rfl, va, _, _, _, rfl, rfl, hva, hat, rfl, _, rfl, ite2 (fun q => ?_) fun q => ?_⟩
      · have q := V.str.inj (of_decide_eq_true q)
        -- z lies in a slot
        have hslot : ∃ m, e = .at true m := by
          cases e with
          | blank => rw [hc] at q; exact absurd q (by show ¬ (_ : Str) = _; decide +kernel)
          | «at» b n =>
            cases b with
            | false => rw [hc] at q; exact absurd q (by show ¬ kn false = "slot"; decide +kernel)
            | true => exact ⟨n, rfl⟩
        obtain ⟨m, rfl⟩ := hslot
        refine ⟨_, rfl, d, rfl, .inr ⟨_, .inl h5⟩, _, rfl, _, rfl, (by show 2 ≤ sizeLine; decide), fun q2 hq2 => ?_⟩
        have ndq : d ≠ q2 := fun z => by rw [← z, h5] at hq2; cases hq2
        have h6 : upd H5 q2 (.tup [V.int z.1, V.int z.2]) d = some (.dT ka) := by rw [upd_ne ndq]; exact h5
        have s6 := same_new (o := .tup [V.int z.1, V.int z.2]) s5 (s5.free hq2)
        refine ⟨_, rfl, _, DGet.t (k := ownK z) h6 upd_same, ?_⟩
        have got : ∃ e', EntV K (upd H5 q2 (.tup [V.int z.1, V.int z.2])) ((valV ka (ownK z)).getD (.ref va)) e' ∧ ∀ n, e' ≠ .at false n := by
          cases ev : valV ka (ownK z) with
          | none => exact ⟨.at true m, hE5.keep (tup_new hq2), fun n q => by cases q⟩
          | some u =>
            obtain ⟨e0, h1, h2⟩ := sn z u ev
            exact ⟨e0, h2.keep fun a xs q => s6 _ _ q, fun n q => fr z n m (by rw [h1, q]) he⟩
        obtain ⟨e', hE', hne⟩ := got
        obtain ⟨ua, ys, c', hu', hsq, hat', hc'⟩ := hE'.ix0
        rw [hu']
        refine ⟨ua, _, _, _, rfl, rfl, hsq, hat', rfl, _, rfl, strF ?_ ?_⟩
        · rw [hc']
          cases e' with
          | blank => show decide (V.str ("blank" : Str) = V.str "frame") = false; decide +kernel
          | «at» b n =>
            cases b with
            | false => exact absurd rfl (hne n)
            | true => show decide (V.str (kn true) = V.str "frame") = false; decide +kernel
        · exact ⟨_, _, _, _, rfl, s6, h6⟩
      · exact ⟨_, _, _, _, rfl, s5, h5⟩
    · rintro σ H5 ⟨v4, v5, v6, v7, rfl, s5, h5⟩
      exact k H5 s5
end

-- part K9Ln
def Met (S : PS) : Deed → Prop
  | .peek t a n => t ∈ S.ts ∧ (n ≠ 0 → S.e (t, (a + n - 1) / 8) = some .blank ∨ ∃ m, S.e (t, (a + n - 1) / 8) = some (.at false m))
  | .poke t a cs => t ∈ S.ts ∧ ((cs.length : Int) ≠ 0 → S.e (t, (a + (cs.length : Int) - 1) / 8) = some .blank ∨ ∃ m, S.e (t, (a + (cs.length : Int) - 1) / 8) = some (.at false m))
  | _ => False
section
variable {P : Program} {w : World} {K : PySem.W.Frag} {mg : Str → Option Value} {base : Heap}
def spMet (K : PySem.W.Frag) : Sp := Sp2 fun x y H Q _ => ∃ (g : Col) (r : Addr) (S : PS) (a l : Addr) (d : Deed), x = .ref r ∧ y = .ref a ∧ RoA K g H r S ∧ DeedV H a d l ∧ Met S d ∧ ∀ H', Same H H' → Q (.bl true) H'
theorem ok_Met (T : Tx K mg) : Okp P w K mg base 3 (He.fAd K ("_law_met", none)) ["_law_rooms", "_law_deed_here"] (spMet K) := by
  refine okn len2 T.f_law_met sc_law_met fun cdv A outer s0 H vs Q E hr h => ?_
  obtain ⟨_, _, rfl, g, r, S, a, l, d, rfl, rfl, X, D, M, k⟩ := h
  have nd := sc_law_met.nd
  refine ⟨_, pss_cons (ps_set (i := 2) nd rfl (Or.inl rfl) (pe_ifExp (pt_cmpR op_eq (pe_ix ix_tup (pv 1) pe_int (fun _ _ => rfl)) pe_str (nomark _)) (pe_ix ix_tup (pv 1) pe_int (fun _ _ => rfl)) (pe_callB call_len_seq (by rfl) T.n_len PySem.boot_len (pa_cons (pe_ix ix_tup (pv 1) pe_int (fun _ _ => rfl)) pa_nil))))
    (pss_cons (ps_if (pt_cmpR op_eq (pv 2) pe_int (nomark _)) (pss_one (ps_ret pe_bl)) pss_nil)
    (pss_one (ps_ret (pe_cmpR op_in_seq (pe_ix ix_tup (pe_m (pv 0) T.c_Rooms T.m_Rooms_place (ok_Place T) hr (pa_cons (pe_ix ix_tup (pv 1) pe_int (fun _ _ => rfl)) (pa_cons (pe_op op_fdiv (pe_op op_sub (pe_op op_add (pe_ix ix_tup (pv 1) pe_int (fun _ _ => rfl)) (pv 2)) pe_int) pe_int) pa_nil))) pe_int (fun _ _ => rfl)) (pe_lst (pa_cons pe_str (pa_cons pe_str pa_nil))) (by rfl))))), ?_⟩
  have hD := SqT.of (K := K) D.tup
  obtain ⟨dx, p, hro⟩ : ∃ dx p, H r = some (.ins (cRo K) dx (roF p)) := let ⟨dx, p, _, _, h⟩ := X; ⟨dx, p, h.rob.h⟩
  have fin : ∀ (v : V) (e : Ent), EntV K H v e → (e = .blank ∨ ∃ m, e = .at false m) → ∃ ea xs c, v = .ref ea ∧ SqT K H ea xs ∧ atI xs 0 = some (.str c) ∧ inV (.str c) [V.str "frame", V.str "blank"] = true := fun v e hE he => by
    obtain ⟨ea, xs, c, h1, h2, h3, h4⟩ := hE.ix0
    refine ⟨ea, xs, c, h1, h2, h3, ?_⟩
    rcases he with rfl | ⟨m, rfl⟩
    · rw [h4]; show inV (.str ("blank" : Str)) [V.str "frame", V.str "blank"] = true; decide +kernel
    · rw [h4]; show inV (.str (kn false)) [V.str "frame", V.str "blank"] = true; decide +kernel
  cases d with
  | peek t ad n =>
    obtain ⟨ht, hm⟩ := M
    refine ⟨_, rfl, a, _, _, _, rfl, rfl, hD, a0, rfl, _, rfl, strT ?_⟩
    refine ⟨_, rfl, a, _, _, _, rfl, rfl, hD, at3, ?_⟩
    refine ⟨_, rfl, rfl, _, rfl, ite2 (fun _ => k H (Same.refl H)) fun q => ?_⟩
    have hm := hm (nvi q)
    refine ⟨_, rfl, r, dx, _, rfl, hro, by kernel_rfl, _, rfl, a, _, _, _, rfl, rfl, hD, a1, _, rfl, a, _, _, _, rfl, rfl, hD, at2, _, rfl, _, _, rfl, rfl, _, _, rfl, rfl, _, _, rfl, rfl, ⟨by decide, by decide⟩, ?_⟩
    refine ⟨_, _, _, rfl, g, r, S, t, (ad + n - 1) / 8, rfl, rfl, rfl, X, ht, fun z => ?_, fun e v he hE => ?_⟩
    · rcases hm with h | ⟨m, h⟩ <;> (have h : S.pl t ((ad + n - 1) / 8) = _ := h; rw [z] at h; cases h)
    · have he : S.e (t, (ad + n - 1) / 8) = some e := he
      obtain ⟨ea, xs, c, h1, h2, h3, h4⟩ := fin v e hE (hm.elim (fun h => .inl (by rw [he] at h; exact Option.some.inj h)) fun ⟨m, h⟩ => .inr ⟨m, by rw [he] at h; exact Option.some.inj h⟩)
      refine ⟨ea, _, _, _, h1, rfl, h2, h3, by decide, fun q hq => ?_⟩
      refine ⟨q, _, rfl, .inl (SqL.of upd_same), rfl, by decide +kernel, ?_⟩
      rw [h4]
      exact k _ (same_new (Same.refl H) hq)
  | poke t ad cs =>
    obtain ⟨ht, hm⟩ := M
    refine ⟨_, rfl, a, _, _, _, rfl, rfl, hD, a0, rfl, _, rfl, strF (by decide +kernel) ?_⟩
    refine ⟨_, rfl, a, _, _, _, rfl, rfl, hD, at3, l, _, rfl, .inl (SqL.of (D.lst _ _ _ rfl)), ?_⟩
    have el : (cs.map V.int).length = cs.length := by rw [List.length_map]
    rw [el]
    refine ⟨_, rfl, rfl, _, rfl, ite2 (fun _ => k H (Same.refl H)) fun q => ?_⟩
    have hm := hm (nvi q)
    refine ⟨_, rfl, r, dx, _, rfl, hro, by kernel_rfl, _, rfl, a, _, _, _, rfl, rfl, hD, a1, _, rfl, a, _, _, _, rfl, rfl, hD, at2, _, rfl, _, _, rfl, rfl, _, _, rfl, rfl, _, _, rfl, rfl, ⟨by decide, by decide⟩, ?_⟩
    refine ⟨_, _, _, rfl, g, r, S, t, (ad + (cs.length : Int) - 1) / 8, rfl, rfl, rfl, X, ht, fun z => ?_, fun e v he hE => ?_⟩
    · rcases hm with h | ⟨m, h⟩ <;> (have h : S.pl t ((ad + (cs.length : Int) - 1) / 8) = _ := h; rw [z] at h; cases h)
    · have he : S.e (t, (ad + (cs.length : Int) - 1) / 8) = some e := he
      obtain ⟨ea, xs, c, h1, h2, h3, h4⟩ := fin v e hE (hm.elim (fun h => .inl (by rw [he] at h; exact Option.some.inj h)) fun ⟨m, h⟩ => .inr ⟨m, by rw [he] at h; exact Option.some.inj h⟩)
      refine ⟨ea, _, _, _, h1, rfl, h2, h3, by decide, fun q hq => ?_⟩
      refine ⟨q, _, rfl, .inl (SqL.of upd_same), rfl, by decide +kernel, ?_⟩
      rw [h4]
      exact k _ (same_new (Same.refl H) hq)
  | begin t => exact absurd M id
  | close t => exact absurd M id
  | map t p n => exact absurd M id
  | drop t p n => exact absurd M id
  | copy t u => exact absurd M id
end

-- part K9Lo
def rLenDk : List V → Hp → VK → Prop := fun xs H Q => ∃ a kvs, xs = [V.ref a] ∧ H a = some (.dK kvs) ∧ Q (.int kvs.length) H
section
variable {P : Program} {w : World} {K : PySem.W.Frag} {mg : Str → Option Value} {base : Heap}
theorem keys_len {S : PS} {pk : Int × Int → Int} {ks : List (Int × V)} {t : Int} (G : Gx S []) (nd : (ks.map (·.1)).Nodup) (hk : ∀ q, q ∈ ks.map (·.1) ↔ (mOf S pk t q).isSome = true) : ks.length = (pgsE (S.pl t)).length := by
  have h : ∀ q, q ∈ ks.map (·.1) ↔ q ∈ pgsE (S.pl t) := fun q => by
    rw [hk, pgsE_mem]
    unfold mOf
    constructor
    · intro h
      by_cases z : (S.pl t q).isSome = true
      · exact ⟨G.dom t q z, z⟩
      · rw [if_neg z] at h; cases h
    · rintro ⟨_, z⟩
      rw [if_pos z]
      rfl
  have h1 := nd.length_le_of_subset fun q hq => (h q).mp hq
  have h2 := (pgsE_nd (S.pl t)).length_le_of_subset fun q hq => (h q).mpr hq
  rw [List.length_map] at h1 h2
  omega
def spOut (K : PySem.W.Frag) : Sp := Sp2 fun x y H Q _ => ∃ (g : Col) (r lp : Addr) (S : PS) (pk : Int × Int → Int), x = .ref r ∧ y = .ref lp ∧ Live g H ∧ RoA K g H r S ∧ LpA g H lp S.ts (mOf S pk) ∧ ∀ H', Same H H' → Q (.bl true) H'
theorem ok_Out (T : Tx K mg) : Okp P w K mg base 3 (He.fAd K ("_law_out", none)) ["_law_rooms", "_law_pages"] (spOut K) := by
  refine okn len2 T.f_law_out sc_law_out fun cdv A outer s0 H vs Q E hr h => ?_
  obtain ⟨_, _, rfl, g, r, lp, S, pk, rfl, rfl, L, ⟨dx, p, kt, y, X⟩, ⟨kl, Y⟩, k⟩ := h
  have hu := hu_of hr
  have nd := sc_law_out.nd
  refine ⟨_, pss_cons (ps_lock (ps_for PassesOwn.never rfl (pi_keys (pv 1)) (pg_name (i := 2) nd rfl (Or.inl rfl))
      (pss_one (ps_for PassesOwn.never rfl (pi_list (pe_op op_cat (pe_lst (pa_cons (pe_un un_neg pe_int) (pa_cons pe_int (pa_cons (pe_op op_pow pe_int pe_int) pa_nil)))) (pe_lock (pe_lc (own := [("_law_page_here", 3)]) (g := gName 3) (tt := tYes) (te := tOp (rI0 fun i j => V.int (i + j)) (tVar 3) (tC (V.int 1))) rfl nd (pi_keys (pe_dget hu (pv 1) (pv 2) (fun _ _ => rfl))) (blkOk_by (N := ["_law_rooms", "_law_pages", "_law_task", "_law_page_here"]) (sc := defScope st_law_out) (by decide +kernel))
          (fun _ _ _ _ _ => pg_name (i := 3) nd rfl (Or.inl rfl)) (fun _ _ _ _ _ => pts_nil) (fun _ _ _ _ _ => by
            refine pe_op op_add ?_ pe_int
            exact pv 3))))) (pg_name (i := 3) nd rfl (Or.inl rfl))
        (pss_one (ps_if (PW.pt (pw_and (pt_cmp (pc_dnotin hu (pv 3) (pe_dget hu (pv 1) (pv 2) (fun _ _ => rfl))) (by rfl)) (pw_and1 (pt_cmp (pc_notN (pe_m (pv 0) T.c_Rooms T.m_Rooms_place (ok_Place T) hr (pa_cons (pv 2) (pa_cons (pv 3) pa_nil))))))))
          (pss_one ps_never) pss_nil))))))
    (pss_one (ps_ret (pe_cmpR op_eq (pe_m0 (pv 0) T.c_Rooms T.m_Rooms_held (ok_Held T) hr) (pe_callB (cr_sum rfl) (by rfl) T.n_sum (by decide +kernel) (pa_cons (pe_lock (pe_lc (own := [("_law_task", 2)]) (g := gName 2) (tt := tYes) (te := tCB rLenDk (tCons (tDGet (tVar 1) (tVar 2)) tNil)) rfl nd (pi_keys (pv 1)) (blkOk_by (N := ["_law_rooms", "_law_pages", "_law_task", "_law_page_here"]) (sc := defScope st_law_out) (by decide +kernel))
      (fun _ _ _ _ _ => pg_name (i := 2) nd rfl (Or.inl rfl)) (fun _ _ _ _ _ => pts_nil) (fun _ _ _ _ _ => by
        refine pe_callB call_lenD (by rfl) T.n_len PySem.boot_len (pa_cons ?_ pa_nil)
        exact pe_dget hu (pv 1) (pv 2) (fun _ _ => rfl)))) pa_nil)) (nomark _)))), ?_⟩
  refine ⟨lp, _, Y.lpd.h, trivial, fun od => ?_⟩
  have lock : ∀ (H0 : Hp) (od : Obj), Same H H0 → Grow (fun q => q == .lpd) g H0 g (upd H0 lp (.frz od (.dK (liK kl)))) := fun H0 od s => Grow.write ((Grow.same (R := fun _ => false) L s).live L) (s _ _ Y.lpd.h) (by intro xs z; cases z) Y.lpd.c (by simp)
  have innAt : ∀ (H0 : Hp) (od : Obj), Same H H0 → ∀ t, t ∈ S.ts → ∃ (a : Addr) (ks : List (Int × V)), valV kl t = some (.ref a) ∧ Pt g (.lpi t) (upd H0 lp (.frz od (.dK (liK kl)))) a (.dK (liK ks)) ∧ (ks.map (·.1)).Nodup ∧ (∀ q, valV ks q = (mOf S pk t q).map V.int) ∧ (∀ q, q ∈ ks.map (·.1) ↔ (mOf S pk t q).isSome = true) ∧ ks.length ≤ 64 := fun H0 od s t ht => by
    obtain ⟨a, ks, e1, _, e2, e3, e4, e5, e6⟩ := (Y.same L s).dict ht
    exact ⟨a, ks, e1, e2.keep (lock H0 od s) rfl, e3, e4, e5, e6⟩
  have hlk : (liK kl).length = S.ts.length := by
    rw [liK_len]
    have := congrArg List.length Y.kls
    rw [List.length_map] at this
    exact this
  have dgL : ∀ (od : Obj) (H2 : Hp), H2 lp = some (.frz od (.dK (liK kl))) → ∀ t a, valV kl t = some (.ref a) → DGet H2 lp (.int t) (some (.ref a)) := fun od H2 s2 t a e => .inl ⟨liK kl, Sum.inl t, .inr ⟨od, s2⟩, rfl, by rw [liK_val]; exact e.symm⟩
  have offL : ∀ (H0 : Hp) (od : Obj), ∀ a, a ≠ lp → upd H0 lp (.frz od (.dK (liK kl))) a = H0 a := fun H0 od a q => upd_ne q
  have GL := lock H od (Same.refl H)
  have LL := GL.live L
  have XL := X.keep GL (Ro_ne rfl)
  have hlpL : upd H lp (.frz od (.dK (liK kl))) lp = some (.frz od (.dK (liK kl))) := upd_same
  have inn := innAt H od (Same.refl H)
  have off := offL H od
  generalize upd H lp (.frz od (.dK (liK kl))) = HL at *
  refine ⟨_, rfl, lp, od, rfl, .inl ⟨liK kl, hlpL, for_it walk_keys (fun i σ H2 => ∃ (v2 v3 : Option V), σ = [some (.ref r), some (.ref lp), v2, v3] ∧ Same HL H2) ?_ ?_ ?_ ?_⟩⟩
  · exact ⟨none, none, rfl, Same.refl HL⟩
  · rintro i σ H2 hi ⟨v2, v3, rfl, s2⟩
    exact s2 _ _ hlpL
  · rintro i x σ H2 H3 hi ⟨v2, v3, rfl, s2⟩ ⟨rfl, kk, vv, ek, rfl⟩
    obtain ⟨t, et, ekt, rfl⟩ := at_kt Y.kls ek
    have ht := List.mem_of_getElem? et
    obtain ⟨a, ks, ev, ha, nd2, hv2, hk2, hl2⟩ := inn t ht
    refine ⟨_, rfl, _, _, rfl, rfl, ⟨by decide, by decide, by decide⟩, by decide, fun q hq => ?_⟩
    have sq3 := same_new (o := .lst [V.int (-1), V.int 64, V.int (10 ^ Int.toNat 55)]) s2 (s2.free hq)
    have hq4 : upd H3 q (.lst [V.int (-1), V.int 64, V.int (10 ^ Int.toNat 55)]) q = some (.lst [V.int (-1), V.int 64, V.int (10 ^ Int.toNat 55)]) := upd_same
    generalize upd H3 q (.lst [V.int (-1), V.int 64, V.int (10 ^ Int.toNat 55)]) = H4 at *
    have ha4 := sq3 _ _ ha.h
    have hlp4 := sq3 _ _ hlpL
    have nalp : a ≠ lp := fun e => by rw [e, hlp4] at ha4; cases ha4
    have nqa : q ≠ a := fun e => by rw [e, ha4] at hq4; cases hq4
    refine ⟨a, _, ha4, trivial, fun oi => ?_⟩
    have hai : upd H4 a (.frz oi (.dK (liK ks))) a = some (.frz oi (.dK (liK ks))) := upd_same
    have hlpi : upd H4 a (.frz oi (.dK (liK ks))) lp = some (.frz od (.dK (liK kl))) := by rw [upd_ne nalp.symm]; exact hlp4
    have hqi : upd H4 a (.frz oi (.dK (liK ks))) q = some (.lst [V.int (-1), V.int 64, V.int (10 ^ Int.toNat 55)]) := by rw [upd_ne nqa]; exact hq4
    have offi : ∀ b, b ≠ a → upd H4 a (.frz oi (.dK (liK ks))) b = H4 b := fun b n => upd_ne n
    generalize upd H4 a (.frz oi (.dK (liK ks))) = HI at *
    refine ⟨_, rfl, _, rfl, lp, _, rfl, dgL od _ hlpi t a ev, a, oi, rfl, .inl ⟨liK ks, hai, fun D hD => lc_it walk_keys (fun j H5 => Same HI H5 ∧ ∃ zs : List Int, zs.length ≤ j ∧ H5 D = some (.lst (zs.map V.int))) ?_ ?_ ?_ ?_⟩⟩
    · exact ⟨same_new (Same.refl HI) hD, [], Nat.le_refl _, upd_same⟩
    · rintro j H5 hj ⟨s5, _⟩
      exact s5 _ _ hai
    · rintro j x H5 H6 hj ⟨s5, zs, hzs, hD5⟩ ⟨rfl, k2, v2', ek2, rfl⟩
      obtain ⟨pg, _, _, rfl⟩ := at_kt (ts := ks.map (·.1)) rfl ek2
      refine ⟨rfl, ?_⟩
      dsimp only [tYes]
      refine iteT ?_
      rw [liK_len] at hj
      refine ⟨_, rfl, pg, 1, rfl, rfl, _, hD5, by rw [List.length_map]; exact small1000 (by omega), same_new s5 hD, zs ++ [pg + 1], by rw [List.length_append]; exact Nat.succ_le_succ hzs, ?_⟩
      rw [upd_same, List.map_append]
      rfl
    · rintro H5 ⟨s5, zs, hzs, hD5⟩
      rw [liK_len] at hzs
      refine ⟨s5 _ _ hai, ?_⟩
      have hDn : HI D = none := hD
      have nDa : D ≠ a := fun e => by rw [e, hai] at hDn; cases hDn
      have s45 : Same H4 (upd H5 a (.dK (liK ks))) := unlock ha4 offi s5
      have hD6 : upd H5 a (.dK (liK ks)) D = some (.lst (zs.map V.int)) := by rw [upd_ne nDa]; exact hD5
      generalize upd H5 a (.dK (liK ks)) = H6 at *
      refine ⟨q, D, _, _, rfl, rfl, s45 _ _ hq4, hD6, Nat.le_of_lt (small1000 (by rw [List.length_map]; show 3 + zs.length ≤ 1000; omega)), fun q7 hq7 => ?_⟩
      have s07 := same_new (o := .lst ([V.int (-1), V.int 64, V.int (10 ^ Int.toNat 55)] ++ zs.map V.int)) (sq3.trans s45) ((sq3.trans s45).free hq7)
      have ez : [V.int (-1), V.int 64, V.int (10 ^ Int.toNat 55)] ++ zs.map V.int = ([-1, 64, 10 ^ Int.toNat 55] ++ zs).map V.int := by rw [List.map_append]; rfl
      rw [ez] at s07 ⊢
      generalize hws : [-1, 64, 10 ^ Int.toNat 55] ++ zs = ws at *
      refine ⟨q7, rfl, ⟨_, SqL.of upd_same⟩, for_list (K := K) (a := q7) (xs := ws.map V.int) (fun j σ H8 => ∃ v3 : Option V, σ = [some (.ref r), some (.ref lp), some (.int t), v3] ∧ Same HL H8 ∧ H8 q7 = some (.lst (ws.map V.int))) ?_ ?_ ?_ ?_⟩
      · exact ⟨v3, rfl, s07, upd_same⟩
      · rintro j σ H8 hj ⟨v3, rfl, s8, h8⟩
        exact SqL.of h8
      · rintro j x σ H8 hx ⟨v3, rfl, s8, h8⟩
        obtain ⟨pg, hpg, rfl⟩ := at_map hx
        refine ⟨_, rfl, _, rfl, _, rfl, lp, _, rfl, dgL od _ (s8 _ _ hlpL) t a ev, a, _, rfl, DGet.k (k := Sum.inl pg) (s8 _ _ ha.h), _, rfl, ?_⟩
        rw [liK_val, hv2]
        unfold mOf
        cases e : S.pl t pg with
        | some z => exact iteF ⟨_, rfl, s8, h8⟩
        | none =>
          refine iteT ?_
          have X8 := XL.same LL s8
          refine ⟨_, rfl, r, dx, _, rfl, X8.rob.h, by kernel_rfl, _, rfl, _, rfl, _, _, _, rfl, g, r, S, t, pg, rfl, rfl, rfl, ⟨dx, p, kt, y, X8⟩, ht, fun _ => ?_, fun e' v he' _ => by rw [e] at he'; cases he'⟩
          exact ⟨_, rfl, iteF ⟨_, rfl, s8, h8⟩⟩
      · rintro σ H8 ⟨v3, rfl, s8, h8⟩
        exact ⟨_, _, rfl, s8⟩
  · rintro σ H2 ⟨v2, v3, rfl, s2⟩
    have hlp2 := s2 _ _ hlpL
    refine ⟨hlp2, ?_⟩
    have S2 : Same H (upd H2 lp (.dK (liK kl))) := unlock Y.lpd.h off s2
    generalize upd H2 lp (.dK (liK kl)) = H5 at *
    have X5 := X.same L S2
    have L5 : Live g H5 := (Grow.same (R := fun _ => false) L S2).live L
    refine ⟨_, rfl, r, dx, _, rfl, X5.rob.h, by kernel_rfl, _, rfl, g, r, S, rfl, L5, ⟨dx, p, kt, y, X5⟩, fun H6 s6 => ?_⟩
    have S6 := S2.trans s6
    refine ⟨lp, _, S6 _ _ Y.lpd.h, trivial, fun od2 => ?_⟩
    have inn2 := innAt H6 od2 S6
    have hlp6 : upd H6 lp (.frz od2 (.dK (liK kl))) lp = some (.frz od2 (.dK (liK kl))) := upd_same
    have off2 := offL H6 od2
    generalize upd H6 lp (.frz od2 (.dK (liK kl))) = HM at *
    refine ⟨_, rfl, lp, od2, rfl, .inl ⟨liK kl, hlp6, fun D hD => lc_it walk_keys (fun i H7 => Same HM H7 ∧ H7 D = some (.lst (((S.ts.take i).map fun t => ((pgsE (S.pl t)).length : Int)).map V.int))) ?_ ?_ ?_ ?_⟩⟩
    · exact ⟨same_new (Same.refl HM) hD, by rw [upd_same]; rfl⟩
    · rintro i H7 hi ⟨s7, _⟩
      exact s7 _ _ hlp6
    · rintro i x H7 H8 hi ⟨s7, hD7⟩ ⟨rfl, kk, vv, ek, rfl⟩
      obtain ⟨t, et, ekt, rfl⟩ := at_kt Y.kls ek
      obtain ⟨a, ks, ev, ha, nd2, hv2, hk2, hl2⟩ := inn2 t (List.mem_of_getElem? et)
      refine ⟨rfl, ?_⟩
      dsimp only [tYes]
      refine iteT ?_
      refine ⟨_, rfl, _, rfl, lp, _, rfl, dgL od2 _ (s7 _ _ hlp6) t a ev, a, _, rfl, s7 _ _ ha.h, ?_⟩
      refine ⟨_, hD7, by rw [List.length_map, List.length_map, List.length_take]; exact small1000 (Nat.le_trans (Nat.min_le_right _ _) Y.few), same_new s7 hD, ?_⟩
      rw [upd_same, List.take_add_one, et, List.map_append, List.map_append, liK_len, keys_len X.gx nd2 hk2]
      rfl
    · rintro H7 ⟨s7, hD7⟩
      rw [hlk, List.take_length] at hD7
      have neD : D ≠ lp := fun q => by
        have hD : HM D = none := hD
        rw [q, hlp6] at hD
        cases hD
      refine ⟨s7 _ _ hlp6, D, _, rfl, SqL.of (by rw [upd_ne neD]; exact hD7), rfl, ?_⟩
      rw [held_sum, decide_eq_true rfl]
      exact k _ (S6.trans (unlock (S6 _ _ Y.lpd.h) off2 s7))
end

-- part K9Lp
def zD (l : List Int) : PyData := .list (l.map PyData.int)
theorem zD_lay : ∀ l : List Int, PyData.canLayAll0 (l.map PyData.int) = true
  | [] => by simp [PyData.canLayAll0]
  | n :: r => by
    have := zD_lay r
    simp only [List.map_cons, PyData.canLayAll0, PyData.canLay0, this, Bool.and_self]
theorem zD_depth : ∀ l : List Int, PyData.depthAll (l.map PyData.int) ≤ 1
  | [] => by simp [PyData.depthAll]
  | n :: r => by
    have := zD_depth r
    simp only [List.map_cons, PyData.depthAll, PyData.depth]
    omega
theorem zD_shaped (l : List Int) : SeqAt.shaped (zD l) = true := by
  unfold SeqAt.shaped
  rw [Bool.and_eq_true]
  refine ⟨?_, decide_eq_true ?_⟩
  · unfold zD
    simp only [PyData.canLay0, zD_lay]
  · have h1 := zD_depth l
    unfold zD
    simp only [PyData.depth]
    omega
theorem zD_all {K : PySem.W.Frag} {H : Hp} : ∀ l : List Int, DpAll K H (l.map V.int) (l.map PyData.int)
  | [] => .nil
  | n :: r => .cons (.int _) (zD_all r)
theorem zD_nil (l : List Int) : PyData.eqv (zD l) (zD []) = decide (l = []) := by
  cases l with
  | nil => rfl
  | cons a r =>
    rw [decide_eq_false (by simp)]
    rfl
theorem one_page {pg : Int} {s : Int × Int × Int} (h0 : 0 ≤ pg) (h1 : pg < 64) (h : s ∈ stsL (8 * pg) (8 * pg + 8)) : s.1 = pg := by
  obtain ⟨i, hi⟩ := List.getElem?_of_mem h
  obtain ⟨hic, rfl⟩ := stsL_at hi
  unfold sCnt at hic
  rw [if_pos (by omega)] at hic
  show 8 * pg / 8 + (i : Int) = pg
  omega
section
variable {P : Program} {w : World} {K : PySem.W.Frag} {mg : Str → Option Value} {base : Heap}
theorem RoA.mapC {g g1 : Col} {H H1 : Hp} {r : Addr} {S : PS} (x : RoA K g H r S) (G : GrC g H g1 H1) : RoA K g1 H1 r S := let ⟨dx, p, kt, y, h⟩ := x; ⟨dx, p, kt, y, G.pt _ _ _ h.rob, h.pag.mapC G, h.gx⟩
theorem RoA.rob {g : Col} {H : Hp} {r : Addr} {S : PS} (x : RoA K g H r S) : ∃ dx p, H r = some (.ins (cRo K) dx (roF p)) := let ⟨dx, p, _, _, h⟩ := x; ⟨dx, p, h.rob.h⟩
theorem RoA.gx {g : Col} {H : Hp} {r : Addr} {S : PS} (x : RoA K g H r S) : Gx S [] := let ⟨_, _, _, _, h⟩ := x; h.gx
theorem nd_inj {α : Type} {l : List α} (h : l.Nodup) {i j : Nat} {x : α} (hi : l[i]? = some x) (hj : l[j]? = some x) : i = j := by
  obtain ⟨h1, e1⟩ := List.getElem?_eq_some_iff.mp hi
  obtain ⟨h2, e2⟩ := List.getElem?_eq_some_iff.mp hj
  have p := List.pairwise_iff_getElem.mp h
  rcases Nat.lt_trichotomy i j with q | q | q
  · exact absurd (e1.trans e2.symm) (p i j h1 h2 q)
  · exact q
  · exact absurd (e2.trans e1.symm) (p j i h2 h1 q)
theorem erase_map {α β : Type} (f : α → β) : ∀ (l : List α) (k : Nat), (l.map f).eraseIdx k = (l.eraseIdx k).map f
  | [], _ => rfl
  | _ :: _, 0 => rfl
  | a :: r, k + 1 => by
    show f a :: (r.map f).eraseIdx k = f a :: (r.eraseIdx k).map f
    rw [erase_map f r k]
theorem live_loc {g : Col} {H : Hp} {a : Addr} {o : HO} (L : Live g H) : Live g (upd H a o) := fun b r h => by
  by_cases q : b = a
  · rw [q, upd_same]; simp
  · rw [upd_ne q]; exact L b r h
def spClosed (K : PySem.W.Frag) : Sp := Sp3 fun x y z H Q _ => ∃ (g : Col) (r lp : Addr) (S : PS) (pk : Int × Int → Int) (c : Int), x = .ref r ∧ y = .ref lp ∧ z = .int c ∧ Live g H ∧ RoA K g H r S ∧ LpA g H lp S.ts (mOf S pk) ∧ Std S pk [] ∧ S.ts.length < 1000 ∧
  ∀ g' H' S', Live g' H' → RoA K g' H' r S' → S'.ts = [] → S'.fr = S.fr → S'.sl = S.sl → Q (.bl true) H'
theorem ok_Closed (T : Tx K mg) : Okp P w K mg base 9 (He.fAd K ("_law_closed", none)) ["_law_rooms", "_law_pages", "_law_cell"] (spClosed K) := by
  refine okn len3 T.f_law_closed sc_law_closed fun cdv A outer s0 H vs Q E hr h => ?_
  obtain ⟨_, _, _, rfl, g, r, lp, S, pk, c, rfl, rfl, rfl, L, X, ⟨kl, Y⟩, st, h1000, k⟩ := h
  have hu := hu_of hr
  have nd := sc_law_closed.nd
  refine ⟨_, pss_cons (ps_for PassesOwn.never rfl (pi_list (pe_callB (cr_sortK rfl) (by rfl) T.n_sorted (by decide +kernel) (pa_cons (pv 1) pa_nil))) (pg_name (i := 3) nd rfl (Or.inl rfl))
      (pss_one (ps_for PassesOwn.never rfl (pi_list (pe_callB (cr_sortK rfl) (by rfl) T.n_sorted (by decide +kernel) (pa_cons (pe_dget hu (pv 1) (pv 3) (fun _ _ => rfl)) pa_nil))) (pg_name (i := 4) nd rfl (Or.inl rfl))
        (pss_one (ps_if (PW.pt (pw_and (pt_cmpR op_eq (pe_dget hu (pe_dget hu (pv 1) (pv 3) (fun _ _ => rfl)) (pv 4) (fun _ _ => rfl)) pe_int (nomark _))
            (pw_and1 (pt_cmpR (op_neD hr.units) (pe_m (pv 0) T.c_Rooms T.m_Rooms_peek (ok_Peek T) hr (pa_cons (pv 3) (pa_cons (pe_op op_mul pe_int (pv 4)) (pa_cons pe_int pa_nil)))) (pe_op op_rep (pe_lst (pa_cons pe_int pa_nil)) pe_int) (nomark _)))))
          (pss_one ps_never) pss_nil)))))
    (pss_cons (ps_set (i := 5) nd rfl (Or.inl rfl) (pe_callB (cr_sortK rfl) (by rfl) T.n_sorted (by decide +kernel) (pa_cons (pv 1) pa_nil)))
    (pss_cons (ps_while PassesOwn.never (pt_cmpR (op_neD hr.units) (pv 5) (pe_lst pa_nil) (nomark _))
      (pss_one (ps_expr (pe_m (pv 0) T.c_Rooms T.m_Rooms_close (ok_Close T) (hr.mono (by decide)) (pa_cons (pe_bm PySem.F.plainAttrs_list PySem.F.slot_list_pop PySem.F.type_list_pop mt_popAt (pv 5) (pa_cons (pe_op op_mod (pv 2) (pe_callB call_len_seq (by rfl) T.n_len PySem.boot_len (pa_cons (pv 5) pa_nil))) pa_nil)) pa_nil)))))
    (pss_one (ps_ret (pe_cmpR op_eq (pe_m0 (pv 0) T.c_Rooms T.m_Rooms_held (ok_Held T) (hr.mono (by decide))) pe_int (nomark _)))))), ?_⟩
  have keys : (liK kl).map (·.1) = S.ts.map Sum.inl := by rw [liK_keys, Y.kls]
  refine ⟨_, rfl, lp, _, S.ts, rfl, .inl Y.lpd.h, keys, fun ys q pm srt hq => ?_⟩
  have hq0 : H q = none := hq
  have s1 : Same H (upd H q (.lst (ys.map V.int))) := same_new (Same.refl H) hq
  have hq1 : upd H q (.lst (ys.map V.int)) q = some (.lst (ys.map V.int)) := upd_same
  generalize upd H q (.lst (ys.map V.int)) = H1 at *
  have L1 : Live g H1 := (Grow.same (R := fun _ => false) L s1).live L
  have X1 := X.same L s1
  have Y1 := Y.same L s1
  have FQ : Fz g H1 q (.lst (ys.map V.int)) := ⟨by rw [L.none hq0], hq1⟩
  refine ⟨q, rfl, ⟨_, SqL.of hq1⟩, for_list (K := K) (a := q) (xs := ys.map V.int) (fun i σ H2 => ∃ (v3 v4 v5 : Option V) (g2 : Col) (S2 : PS), σ = [some (.ref r), some (.ref lp), some (.int c), v3, v4, v5] ∧ Grow isRm g H1 g2 H2 ∧ RoA K g2 H2 r S2 ∧ Mv S S2) ?_ ?_ ?_ ?_⟩
  · exact ⟨none, none, none, g, S, rfl, Grow.refl L1, X1, Mv.refl X.gx⟩
  · rintro i σ H2 hi ⟨v3, v4, v5, g2, S2, rfl, G2, X2, M2⟩
    exact SqL.of (FQ.keep G2).h
  · rintro i x σ H2 hx ⟨v3, v4, v5, g2, S2, rfl, G2, X2, M2⟩
    obtain ⟨t, et, rfl⟩ := at_map hx
    have ht : t ∈ S.ts := pm.mem_iff.mp (List.mem_of_getElem? et)
    have L2' := G2.live L1
    have Y2 := Y1.keep G2 Lp_Rm
    obtain ⟨a, ks, ev, dg, ha, nd2, hv2, hk2, hl2⟩ := Y2.dict ht
    refine ⟨_, rfl, _, rfl, lp, _, rfl, dg, a, _, ks.map (·.1), rfl, .inl ha.h, liK_keys ks, fun zs q2 pm2 srt2 hq2 => ?_⟩
    have ezs := sortedKeys X.gx nd2 hk2 pm2 srt2
    subst ezs
    have hq20 : H2 q2 = none := hq2
    have G3 : Grow isRm g2 H2 g2 (upd H2 q2 (.lst ((pgsE (S.pl t)).map V.int))) := Grow.temp L2' hq2
    have s3 := same_new (o := .lst ((pgsE (S.pl t)).map V.int)) (Same.refl H2) hq2
    have F3 : Fz g2 (upd H2 q2 (.lst ((pgsE (S.pl t)).map V.int))) q2 (.lst ((pgsE (S.pl t)).map V.int)) := Fz.new L2' hq2
    generalize upd H2 q2 (.lst ((pgsE (S.pl t)).map V.int)) = H3 at *
    have L3 := G3.live L2'
    refine ⟨q2, rfl, ⟨_, SqL.of F3.h⟩, for_list (K := K) (a := q2) (xs := (pgsE (S.pl t)).map V.int) (fun j σ H4 => ∃ (v4 v5 : Option V) (g4 : Col) (S4 : PS), σ = [some (.ref r), some (.ref lp), some (.int c), some (.int t), v4, v5] ∧ Grow isRm g2 H3 g4 H4 ∧ RoA K g4 H4 r S4 ∧ Mv S S4) ?_ ?_ ?_ ?_⟩
    · exact ⟨v4, v5, g2, S2, rfl, Grow.refl L3, X2.same L2' s3, M2⟩
    · rintro j σ H4 hj ⟨v4, v5, g4, S4, rfl, G4, X4, M4⟩
      exact SqL.of (F3.keep G4).h
    · rintro j x σ H4 hx ⟨v4, v5, g4, S4, rfl, G4, X4, M4⟩
      obtain ⟨pg, epg, rfl⟩ := at_map hx
      obtain ⟨hpg, hsome⟩ := pgsE_mem.mp (List.mem_of_getElem? epg)
      have L4 := G4.live L3
      have Y4 := (Y2.same L2' s3).keep G4 Lp_Rm
      obtain ⟨a4, ks4, ev4, dg4, ha4, nd4, hv4, hk4, hl4⟩ := Y4.dict ht
      have hval : valV ks4 pg = some (.int (pk (t, pg))) := by
        rw [hv4]
        unfold mOf
        rw [if_pos hsome]
        rfl
      have hsz : (S.e (t, pg)).isSome = true := hsome
      refine ⟨_, rfl, _, rfl, lp, _, rfl, dg4, _, rfl, a4, V.int (pk (t, pg)), rfl, ?_, rfl, _, rfl, ite2 (fun e0 => ?_) fun _ => ?_⟩
      · rw [← hval, ← liK_val]
        exact DGet.k (k := Sum.inl pg) ha4.h
      · have hbl := (st.bl (t, pg) hsz (by simp)).mpr (vi e0)
        obtain ⟨dx, p, hro⟩ := X4.rob
        have ok : PkOk S4 t (8 * pg) 8 := ⟨by rw [M4.kp.ts]; exact ht, by decide, fun _ => by omega, fun s hs => by rw [one_page hpg.1 hpg.2 hs, M4.kp.is]; exact hsz⟩
        refine ⟨_, rfl, r, dx, _, rfl, hro, by kernel_rfl, _, rfl, _, rfl, _, _, rfl, rfl, .inl ⟨by decide, by decide⟩, _, _, _, _, rfl, g4, r, S4, t, 8 * pg, 8, rfl, rfl, rfl, rfl, L4, X4, fun h => absurd ok h, fun _ q5 g5 H5 G5 ⟨S5, xs, X5, M5, hq5, _, hz5⟩ => ?_⟩
        have hxs := hz5 fun s hs => by
          rw [one_page hpg.1 hpg.2 hs]
          exact (M4.kp.bl (t, pg)).mpr hbl
        have L5 := G5.live L4
        refine ⟨by decide, fun q6 hq6 => ⟨q6, 8, _, rfl, rfl, upd_same, by omega, by omega, by decide, fun q7 hq7 => ?_⟩⟩
        have s6 := same_new (o := .lst [V.int 0]) (Same.refl H5) hq6
        have s7 := same_new (o := .lst (List.replicate (8 : Int).toNat [V.int 0]).flatten) s6 (s6.free hq7)
        have e5 : upd (upd H5 q6 (.lst [V.int 0])) q7 (.lst (List.replicate (8 : Int).toNat [V.int 0]).flatten) q5 = some (.lst (([0, 0, 0, 0, 0, 0, 0, 0] : List Int).map V.int)) := by
          rw [s7 _ _ hq5, hxs]
          rfl
        have e7 : upd (upd H5 q6 (.lst [V.int 0])) q7 (.lst (List.replicate (8 : Int).toNat [V.int 0]).flatten) q7 = some (.lst (([0, 0, 0, 0, 0, 0, 0, 0] : List Int).map V.int)) := by rw [upd_same]; rfl
        refine ⟨zD [0, 0, 0, 0, 0, 0, 0, 0], zD [0, 0, 0, 0, 0, 0, 0, 0], .lst (SqL.of e5) (zD_all _), .lst (SqL.of e7) (zD_all _), zD_shaped _, zD_shaped _, _, rfl, ?_⟩
        rw [SeqAt.eqv_refl _ (SeqAt.canLay_of_shaped (zD_shaped _))]
        refine iteF ?_
        exact ⟨_, _, g5, S5, rfl, (G4.trans G5).trans (Grow.same L5 s7), X5.same L5 s7, M4.trans M5⟩
      · exact ⟨_, _, g4, S4, rfl, G4, X4, M4⟩
    · rintro σ H4 ⟨v4, v5, g4, S4, rfl, G4, X4, M4⟩
      exact ⟨_, _, _, g4, S4, rfl, (G2.trans G3).trans G4, X4, M4⟩
  · rintro σ H2 ⟨v3, v4, v5, g2, S2, rfl, G2, X2, M2⟩
    have L2' := G2.live L1
    have Y2 := Y1.keep G2 Lp_Rm
    refine ⟨_, rfl, lp, _, S.ts, rfl, .inl Y2.lpd.h, keys, fun zs q3 pm3 srt3 hq3 => ?_⟩
    have s3 := same_new (o := .lst (zs.map V.int)) (Same.refl H2) hq3
    have F3 : Fz g2 (upd H2 q3 (.lst (zs.map V.int))) q3 (.lst (zs.map V.int)) := Fz.new L2' hq3
    have X3 := X2.same L2' s3
    have L3 : Live g2 (upd H2 q3 (.lst (zs.map V.int))) := (Grow.same (R := fun _ => false) L2' s3).live L2'
    generalize upd H2 q3 (.lst (zs.map V.int)) = H3 at *
    have zle : zs.length ≤ 1000 := by rw [pm3.length_eq]; omega
    refine while_by (fun σ H4 => ∃ (v3 v4 : Option V) (zs : List Int) (g4 : Col) (S4 : PS), σ = [some (.ref r), some (.ref lp), some (.int c), v3, v4, some (.ref q3)] ∧ Live g4 H4 ∧ RoA K g4 H4 r S4 ∧ g4 q3 = none ∧ H4 q3 = some (.lst (zs.map V.int)) ∧ zs.Nodup ∧ zs.length ≤ 1000 ∧ (∀ t, t ∈ zs ↔ t ∈ S4.ts) ∧ S4.fr = S.fr ∧ S4.sl = S.sl)
      (fun σ H4 => match H4 q3 with | some (.lst xs) => xs.length | _ => 0) ?_ ?_ ?_
    · exact ⟨v3, v4, zs, g2, S2, rfl, L3, X3, F3.c, F3.h, pm3.nodup_iff.mpr X.gx.tsn, zle, fun t => by rw [M2.kp.ts]; exact pm3.mem_iff, M2.kp.fr, M2.kp.sl⟩
    · rintro σ H4 ⟨v3, v4, zs, g4, S4, rfl, L4, X4, c4, h4, nz, z4, m4, f4, l4⟩
      refine ⟨_, rfl, by decide, fun q5 hq5 => ?_⟩
      have s5 := same_new (o := .lst []) (Same.refl H4) hq5
      have h5 : upd H4 q5 (.lst []) q3 = some (.lst (zs.map V.int)) := s5 _ _ h4
      have h55 : upd H4 q5 (.lst []) q5 = some (.lst []) := upd_same
      have L5 : Live g4 (upd H4 q5 (.lst [])) := (Grow.same (R := fun _ => false) L4 s5).live L4
      have X5 := X4.same L4 s5
      generalize upd H4 q5 (.lst []) = H5 at *
      refine ⟨zD zs, zD [], .lst (SqL.of h5) (zD_all _), .lst (SqL.of h55) .nil, zD_shaped _, zD_shaped _, _, rfl, ?_⟩
      rw [zD_nil]
      cases zs with
      | nil =>
        rw [decide_eq_true rfl]
        refine iteF ?_
        obtain ⟨dx, p, hro⟩ := X5.rob
        have ts0 : S4.ts = [] := List.eq_nil_iff_forall_not_mem.mpr fun t ht => by have := (m4 t).mpr ht; cases this
        refine ⟨_, rfl, r, dx, _, rfl, hro, by kernel_rfl, _, rfl, g4, r, S4, rfl, L5, X5, fun H6 s6 => ⟨rfl, ?_⟩⟩
        have e0 : S4.total = 0 := by unfold PS.total; rw [ts0]; rfl
        rw [e0]
        show Q (V.bl (decide (V.int ((0 : Nat) : Int) = V.int 0))) H6
        rw [decide_eq_true (show V.int ((0 : Nat) : Int) = V.int 0 from rfl)]
        exact k g4 H6 S4 ((Grow.same (R := fun _ => false) L5 s6).live L5) (X5.same L5 s6) ts0 f4 l4
      | cons z0 zr =>
        rw [decide_eq_false (by simp)]
        refine iteT ?_
        obtain ⟨dx, p, hro⟩ := X5.rob
        have hlen : (((z0 :: zr).map V.int).length : Int) = ((z0 :: zr).length : Int) := by rw [List.length_map]
        have npos : (0 : Int) < (((z0 :: zr).map V.int).length : Int) := by rw [hlen, List.length_cons]; omega
        have mm := md (x := c) npos
        obtain ⟨kx, hkx⟩ : ∃ kx : Nat, c % (((z0 :: zr).map V.int).length : Int) = (kx : Int) := ⟨(c % (((z0 :: zr).map V.int).length : Int)).toNat, by omega⟩
        have hkl : kx < (z0 :: zr).length := by rw [hkx, hlen] at mm; omega
        have hget : ((z0 :: zr).map V.int)[kx]? = some (.int (z0 :: zr)[kx]) := by rw [List.getElem?_map, List.getElem?_eq_getElem hkl]; rfl
        refine ⟨_, rfl, r, dx, _, rfl, hro, by kernel_rfl, _, rfl, .inl ⟨rfl, _, SqL.of h5⟩, _, rfl, _, rfl, q3, _, rfl, .inl (SqL.of h5), _, _, rfl, rfl, npos, q3, _, _, kx, _, rfl, rfl, h5, by omega, by omega, by rw [hkx, seqIndex_of (by omega) (by rw [List.length_map]; omega)]; simp, hget, ?_⟩
        generalize ht : (z0 :: zr)[kx] = t at *
        have tin : t ∈ z0 :: zr := by rw [← ht]; exact List.getElem_mem hkl
        have C := GrC.loc (o := .lst (((z0 :: zr).map V.int).eraseIdx kx)) h5 c4
        refine ⟨_, _, rfl, g4, r, S4, t, rfl, rfl, live_loc L5, X5.mapC C, fun h => absurd ((m4 t).mp tin) h, fun _ v g6 H6 G6 X6 => ?_⟩
        have F5 : Fz g4 (upd H5 q3 (.lst (((z0 :: zr).map V.int).eraseIdx kx))) q3 (.lst (((z0 :: zr).map V.int).eraseIdx kx)) := ⟨c4, upd_same⟩
        have F6 := F5.keep G6
        rw [erase_map] at F6
        obtain ⟨e1, e2, e3⟩ := close_ts S4 t
        refine ⟨⟨_, _, (z0 :: zr).eraseIdx kx, g6, S4.close t, rfl, G6.live (live_loc L5), X6, F6.c, F6.h, List.Nodup.sublist (List.eraseIdx_sublist _ _) nz, Nat.le_trans (List.eraseIdx_sublist _ _).length_le z4, fun u => ?_, e2.trans f4, e3.trans l4⟩, ?_⟩
        · rw [e1, List.mem_filter, ← m4, List.mem_eraseIdx_iff_getElem?]
          constructor
          · rintro ⟨i, hi, hu⟩
            refine ⟨List.mem_of_getElem? hu, decide_eq_true fun e => hi ?_⟩
            refine nd_inj nz hu ?_
            rw [e, List.getElem?_eq_getElem hkl, ht]
          · rintro ⟨h1, h2⟩
            obtain ⟨i, hi⟩ := List.getElem?_of_mem h1
            refine ⟨i, fun e => ?_, hi⟩
            obtain ⟨hi2, hu2⟩ := List.getElem?_eq_some_iff.mp hi
            subst e
            exact (of_decide_eq_true h2) (by rw [← hu2, ← ht])
        · show (match H6 q3 with | some (.lst xs) => xs.length | _ => 0) < (match H4 q3 with | some (.lst xs) => xs.length | _ => 0)
          rw [F6.h, h4]
          show (((z0 :: zr).eraseIdx kx).map V.int).length < ((z0 :: zr).map V.int).length
          rw [List.length_map, List.length_map, List.length_eraseIdx, if_pos hkl]
          omega
    · rintro σ H4 Q1 Q2 mono ⟨v, h1, h2, h3⟩
      exact ⟨v, h1, h2, fun q hq => let ⟨d, e, a, b, c, d', k, ek, qq⟩ := h3 q hq; ⟨d, e, a, b, c, d', k, ek, mono _ _ qq⟩⟩
end

-- part K9Lq
/-- a deed done keeps what stands between the deeds -/
structure Kept (S S' : PS) (pk' : Int × Int → Int) (k : Int) : Prop where
  st : Std S' pk' []
  bd : ∀ z, (S'.e z).isSome = true → 0 ≤ pk' z ∧ pk' z ≤ 64 * (k + 1)
  fd : FrD S S'
  fr : S'.fr = S.fr
  sl : S'.sl = S.sl
theorem dn_law {S S' : PS} {d : Deed} {pk : Int × Int → Int} {k : Int} (G : Gx S []) (G' : Gx S' []) (st : Std S pk []) (hb : ∀ z, (S.e z).isSome = true → 0 ≤ pk z ∧ pk z ≤ 64 * k) (hk : 0 ≤ k) (dn : Dn S d S') : Kept S S' (pkD k pk d) k := by
  have up : ∀ z, (S.e z).isSome = true → 0 ≤ pk z ∧ pk z ≤ 64 * (k + 1) := fun z hz => by have := hb z hz; omega
  cases d with
  | begin t =>
    obtain ⟨ht, rfl⟩ := dn
    exact ⟨st.same rfl, fun z hz => up z hz, FrD.stay fun z hz => .inr rfl, rfl, rfl⟩
  | close t =>
    obtain ⟨ht, rfl⟩ := dn
    have e : ∀ z, (S.close t).e z = none ∨ (S.close t).e z = S.e z := fun z => by
      rw [close_e]
      split
      · exact .inl rfl
      · exact .inr rfl
    refine ⟨st.less e, fun z hz => up z ?_, FrD.stay fun z _ => e z, (close_ts S t).2.1, (close_ts S t).2.2⟩
    rcases e z with h | h
    · rw [h] at hz; cases hz
    · rw [h] at hz; exact hz
  | map t p n =>
    obtain ⟨ht, hn, hf, rfl⟩ := dn
    have e : ∀ z, (S.lays .blank (tz t p n.toNat)).e z = if z ∈ tz t p n.toNat then some .blank else S.e z := lays_pl .blank (tz t p n.toNat) S
    obtain ⟨f1, f2, _⟩ := lays_fr (e := .blank) (tz t p n.toNat) S
    refine ⟨⟨fun z hz _ => ?_, fun z y hz hy _ _ bz b_y => ?_⟩, fun z hz => ?_, FrD.stay fun z hz => .inr ?_, f1, f2⟩
    · show _ ↔ (if z ∈ tz t p n.toNat then 0 else pk z) = 0
      rw [e] at hz ⊢
      by_cases q : z ∈ tz t p n.toNat
      · rw [if_pos q, if_pos q]; exact ⟨fun _ => rfl, fun _ => rfl⟩
      · rw [if_neg q] at hz
        rw [if_neg q, if_neg q]
        exact st.bl z hz (by simp)
    · show _ ↔ (if z ∈ tz t p n.toNat then 0 else pk z) = (if y ∈ tz t p n.toNat then 0 else pk y)
      rw [e] at hz bz
      rw [e] at hy b_y
      rw [e, e]
      by_cases q : z ∈ tz t p n.toNat
      · rw [if_pos q] at bz; exact absurd rfl bz
      · by_cases r : y ∈ tz t p n.toNat
        · rw [if_pos r] at b_y; exact absurd rfl b_y
        · rw [if_neg q] at hz bz
          rw [if_neg r] at hy b_y
          rw [if_neg q, if_neg r, if_neg q, if_neg r]
          exact st.eq z y hz hy (by simp) (by simp) bz b_y
    · show 0 ≤ (if z ∈ tz t p n.toNat then 0 else pk z) ∧ (if z ∈ tz t p n.toNat then 0 else pk z) ≤ _
      rw [e] at hz
      by_cases q : z ∈ tz t p n.toNat
      · rw [if_pos q]; omega
      · rw [if_neg q] at hz ⊢
        exact up z hz
    · rw [e, if_neg fun q => by rw [hf z q] at hz; cases hz]
  | drop t p n =>
    obtain ⟨ht, hn, hf, rfl⟩ := dn
    have e : ∀ z, (S.drops (tz t p n.toNat)).e z = none ∨ (S.drops (tz t p n.toNat)).e z = S.e z := fun z => by
      rw [drops_e]
      split
      · exact .inl rfl
      · exact .inr rfl
    obtain ⟨_, f1, f2⟩ := drops_ts (tz t p n.toNat) S
    refine ⟨st.less e, fun z hz => up z ?_, FrD.stay fun z _ => e z, f1, f2⟩
    rcases e z with h | h
    · rw [h] at hz; cases hz
    · rw [h] at hz; exact hz
  | peek t a n =>
    obtain ⟨ok, M, _⟩ := dn
    exact ⟨M.st pk st, fun z hz => up z (by rw [← M.kp.is]; exact hz), M.fr.d, M.kp.fr, M.kp.sl⟩
  | poke t a cs =>
    obtain ⟨ok, M, _⟩ := dn
    have hm : ∀ z, z ∈ pgl t a (a + (cs.length : Int)) → z.1 = t ∧ (S.e z).isSome = true := fun z hz => by
      obtain ⟨s, hs, rfl⟩ := List.mem_map.mp hz
      exact ⟨rfl, ok.hm s hs⟩
    have hp : ∀ z, z ∈ pgl t a (a + (cs.length : Int)) → 0 ≤ z.2 ∧ z.2 < 64 := fun z hz => G.dom z.1 z.2 (hm z hz).2
    refine ⟨M.st pk (fun z => 64 * k + z.2 + 1) st (fun z hz => ?_) (fun z x hz hx => ?_) (fun z y hz hy e => ?_), fun z hz => ?_, M.fs.d, M.fr, M.sl⟩
    · have := hp z hz
      show 64 * k + z.2 + 1 ≠ 0
      omega
    · have := hp z hz
      have := hb x hx
      show pk x ≠ 64 * k + z.2 + 1
      omega
    · have e : 64 * k + z.2 + 1 = 64 * k + y.2 + 1 := e
      exact Prod.ext ((hm z hz).1.trans (hm y hy).1.symm) (by omega)
    · show 0 ≤ (if z ∈ pgl t a (a + (cs.length : Int)) then 64 * k + z.2 + 1 else pk z) ∧ (if z ∈ pgl t a (a + (cs.length : Int)) then 64 * k + z.2 + 1 else pk z) ≤ _
      rw [M.is] at hz
      by_cases q : z ∈ pgl t a (a + (cs.length : Int))
      · have := hp z q
        rw [if_pos q]
        omega
      · rw [if_neg q]
        exact up z hz
  | copy t u =>
    obtain ⟨ht, hu, C⟩ := dn
    refine ⟨C.st pk st, fun z hz => ?_, FrD.stay fun z hz => .inr ?_, C.fr, C.sl⟩
    · show 0 ≤ (if z.1 = u then pk (t, z.2) else pk z) ∧ (if z.1 = u then pk (t, z.2) else pk z) ≤ _
      rw [C.e] at hz
      by_cases q : z.1 = u
      · rw [if_pos q] at hz ⊢
        by_cases r : z.2 ∈ pgsE (S.pl t)
        · rw [if_pos r] at hz
          exact up (t, z.2) hz
        · rw [if_neg r] at hz; cases hz
      · rw [if_neg q] at hz ⊢
        exact up z hz
    · rw [C.e, if_neg fun q => ?_]
      have hz : (S.pl z.1 z.2).isSome = true := hz
      rw [G.off z.1 z.2 (by rw [q]; exact hu)] at hz
      cases hz
theorem dn_ts {S S' : PS} {d : Deed} {ts : List Int} (dn : Dn S d S') (ok : d.ok ts) (h : ∀ t, t ∈ S.ts → t ∈ ts) : ∀ t, t ∈ S'.ts → t ∈ ts := by
  cases d with
  | begin t =>
    obtain ⟨ht, rfl⟩ := dn
    intro u hu
    rcases List.mem_append.mp hu with hu | hu
    · exact h u hu
    · rw [List.mem_singleton.mp hu]; exact ok
  | close t =>
    obtain ⟨ht, rfl⟩ := dn
    intro u hu
    rw [(close_ts S t).1] at hu
    exact h u (List.mem_filter.mp hu).1
  | map t p n =>
    obtain ⟨ht, hn, hf, rfl⟩ := dn
    intro u hu
    rw [lays_ts] at hu
    exact h u hu
  | drop t p n =>
    obtain ⟨ht, hn, hf, rfl⟩ := dn
    intro u hu
    rw [(drops_ts _ _).1] at hu
    exact h u hu
  | peek t a n =>
    obtain ⟨_, M, _⟩ := dn
    intro u hu
    rw [M.kp.ts] at hu
    exact h u hu
  | poke t a cs =>
    obtain ⟨_, M, _⟩ := dn
    intro u hu
    rw [M.ts] at hu
    exact h u hu
  | copy t u =>
    obtain ⟨ht, hu', C⟩ := dn
    intro v hv
    rw [C.ts] at hv
    rcases List.mem_append.mp hv with hv | hv
    · exact h v hv
    · rw [List.mem_singleton.mp hv]; exact ok.2
theorem few_ts {S : PS} {ts : List Int} (G : Gx S []) (h : ∀ t, t ∈ S.ts → t ∈ ts) (h4 : ts.length = 4) : S.ts.length < 1000 := by
  have := G.tsn.length_le_of_subset h
  omega
def Deed.eyes : Deed → Bool
  | .peek _ _ _ => true
  | .poke _ _ _ => true
  | _ => false
theorem dn_met {S S' : PS} {d : Deed} (dn : Dn S d S') (h : d.eyes = true) : Met S' d := by
  cases d with
  | peek t a n =>
    obtain ⟨ok, M, hl⟩ := dn
    exact ⟨by rw [M.kp.ts]; exact ok.ht, fun hn => hl (by have := ok.hn; omega)⟩
  | poke t a cs =>
    obtain ⟨ok, M, hl⟩ := dn
    exact ⟨by rw [M.ts]; exact ok.ht, fun hn => .inr (hl (by omega))⟩
  | begin t => cases h
  | close t => cases h
  | map t p n => cases h
  | drop t p n => cases h
  | copy t u => cases h

-- part K9Ls
section
variable {P : Program} {w : World} {K : PySem.W.Frag} {mg : Str → Option Value} {base : Heap}
def spTold (K : PySem.W.Frag) : Sp := Sp2 fun x y H Q _ => ∃ (g : Col) (r : Addr) (S : PS) (a l : Addr) (d : Deed), x = .ref r ∧ y = .ref a ∧ Live g H ∧ RoA K g H r S ∧ DeedV H a d l ∧ d.cs.length ≤ 64 ∧ S.ts.length < 1000 ∧
  (∀ tp H' v nm, Same H H' → nm ∈ excN → (d.room = false → nm ≠ "NoRoom") → H' tp = some (.tup [v, .str nm]) → Q (.ref tp) H') ∧
  (∀ S', Dn S d S' → ∀ tp v, Out isRm g H (fun g' H' => RoA K g' H' r S' ∧ H' tp = some (.tup [v, .str ""])) (Q (.ref tp)))
end

-- part K9Wa
/-! ### while an exception is handled: the end of a list's walk, sum, comprehensions -/
section
variable {prog : Program} {w : World} {A : Around} {E : Value → Shared → Prop} {s : Shared}
theorem lst_end {it l x1 : Addr} {i : Nat} {items : Array Value} {Q : Option Value → Shared → Prop} (hot : HotX.HotAt A x1 s.heap) (nx : x1 ≠ it) (hit : s.heap.IsListIter it l i) (hl : s.heap.IsList l items) (none' : items[i]? = none)
    (hQ : ∀ h', (∀ b o, b ≠ it → s.heap.get? b = some o → h'.get? b = some o) → Q none { s with heap := h' }) : wpAny (model prog w) A (pyNext (.ref it)) Q E s := by
  obtain ⟨hh, o1, vs1, st1, dt1, cx1⟩ := hot
  obtain ⟨oi, gi, ci, di⟩ := id hit
  obtain ⟨ol, gl, _, nl, dl⟩ := hl
  unfold pyNext
  refine wpAny_bind (wpAny_attempt (wpAny_callSpecial?_slot (name := Str.ofString "__next__") hit.typeIs slot_listiter_next (wpAny_call_entry slot_listiter_next hit.typeIs entry_listiter_next ?_ (args_listiter_next _))))
  show wpAny _ _ (field (.ref it) 0 >>= _) _ _ s; refine wpAny_bind (wpAny_field gi di (x := .ref l) rfl ?_)
  show wpAny _ _ (if (Value.ref l == Value.none) = true then _ else _) _ _ s; rw [if_neg (show ¬ ((Value.ref l == Value.none) = true) from Bool.false_ne_true)]
  show wpAny _ _ (field (.ref it) 1 >>= _) _ _ s; refine wpAny_bind (wpAny_field gi di (x := .int i 0) rfl ?_)
  show wpAny _ _ (seqItems? (.ref l) >>= _) _ _ s; refine wpAny_bind (wpAny_seqItems gl dl ?_)
  simp only [Int.toNat_natCast, none']
  refine wpAny_bind (wpAny_rule (wpAny_bind (wpAny_setField gi di (by simp) ?_)))
  show wpAny _ _ (newExc (.type "StopIteration") [] >>= _) _ _ _; refine wpAny_bind ?_
  simp only [newExc, newTuple]
  refine wpAny_bind (wpAny_newObj_type ?_ (by size_fits)); refine wpAny_bind (m := firstArgMember _ _) (wpAny_of_eq (a := Value.none) (by first | rfl | (simp only [firstArgMember]; rfl)) ?_)
  refine wpAny_newObj_type ?_ (by size_fits)
  have still : ∀ f : Obj → Obj, (s.heap.update it f).get? x1 = some o1 := fun f => by rw [Heap.get?_update_other _ _ nx.symm]; exact st1
  refine HotX.raiseNew_hot ⟨hh, o1, vs1, Heap.get?_push_of_some _ (Heap.get?_push_of_some _ (still _)), dt1, cx1⟩ (Nat.ne_of_lt (Heap.lt_size (Heap.get?_push_of_some _ (still _)))) (Heap.get?_push_size _ rfl) rfl (by first | (simp; done) | (simp; omega) | (simp only [Array.size_append]; simp; omega)) ?_
  refine wpAny_bind (wpAny_isInstance (T := "StopIteration") (b := true) ⟨_, Heap.get?_update_self _ (Heap.get?_push_size _ rfl) rfl, rfl⟩ isSubtype_stop ?_)
  refine wpAny_pure (hQ _ fun b o nb e => ?_)
  have e2 : ∀ f : Obj → Obj, (s.heap.update it f).get? b = some o := fun f => by rw [Heap.get?_update_other _ _ nb.symm]; exact e
  rw [Heap.get?_update_other _ _ (Nat.ne_of_gt (Heap.lt_size (Heap.get?_push_of_some _ (e2 _))))]
  exact Heap.get?_push_of_some _ (Heap.get?_push_of_some _ (e2 _))
/-- an object that is the handled exception -/
def HotO (x1 : Addr) (h : Heap) : Prop := ∃ (o : Obj) (vs : Array Value), h.get? x1 = some o ∧ o.data = .fields vs ∧ vs[2]? = some .none
theorem walks_hot (hh : A.handled = some (.ref x1)) (it ax : Addr) (ne : ax ≠ it) (nx : x1 ≠ it) (items : Array Value) :
    Walks prog w A it [it, ax, x1] [it] items.size (fun i v => items[i]? = some v) (fun i h => h.IsListIter it ax i ∧ h.IsList ax items ∧ HotO x1 h) where
  sub := fun b hb => by simp at hb; simp [hb]
  frame := fun _ _ _ st hk => ⟨st.1.at fun o e => hk it (by simp) o e, st.2.1.at fun o e => hk ax (by simp) o e, let ⟨o, vs, a, b, c⟩ := st.2.2; ⟨o, vs, hk x1 (by simp) o a, b, c⟩⟩
  item := fun i s Q E hi st hQ => by
    refine wpAny_pyNext_list_item st.1 st.2.1 (x := items[i]) (by simp [hi]) fun h' it' sb => ?_
    refine hQ _ h' s.toks (by simp [hi]) ⟨it', st.2.1.extBut sb.extBut ne, ?_⟩ fun b o hb e => sb.extBut b o (fun h => hb (by simp [h])) e
    obtain ⟨o, vs, a, b, c⟩ := st.2.2
    exact ⟨o, vs, sb.extBut x1 o nx a, b, c⟩
  done := fun s Q E st hQ => by
    obtain ⟨o, vs, a, b, c⟩ := st.2.2
    exact lst_end ⟨hh, o, vs, a, b, c⟩ nx st.1 st.2.1 (by simp) fun h' k => hQ h' s.toks fun b o hb e => k b o (fun h => hb (by simp [h])) e
  self := fun _ _ _ _ st hQ => wpAny_pyIter_listiter st.1 hQ
theorem sum_hot {l x1 : Addr} {its : List Value} {ns : List Int} {Q : Value → Shared → Prop} (hot : HotX.HotAt A x1 s.heap) (hl : s.heap.IsList l its.toArray) (hi : IntsAre its ns)
    (h : ∀ h' tk t', (∀ b o, s.heap.get? b = some o → h'.get? b = some o) → Q (.int ns.sum t') { s with heap := h', toks := tk }) : wpAny (model prog w) A (call (.builtin "sum") [.ref l]) Q E s := by
  obtain ⟨xs, e⟩ := hi.allInts.items
  have hn : numsOf (intItems xs).toList = ns := by rw [← e]; exact hi.numsOf
  rw [nums_intItems] at hn
  rw [e] at hl
  obtain ⟨hh, o1, vs1, g1, d1, c1⟩ := hot
  refine call_sum_walkG (iter_intList hl fun s₂ e2 st hfp hlI => ?_)
  subst e2
  have lt1 := Heap.lt_size g1
  refine ⟨_, _, _, _, _, _, numAt xs, rfl, walks_hot (A := A.in1) (x1 := x1) hh s.heap.objs.size l hlI (Nat.ne_of_lt lt1) (intItems xs), ⟨st.1, st.2, o1, vs1, Heap.get?_push_of_some _ g1, d1, c1⟩, fun b hb => ?_, (fun _ _ => intItems_at), fun h' tk t' hk => ?_⟩
  · rcases List.mem_cons.mp hb with rfl | hb
    · exact hfp _ (by simp)
    · rcases List.mem_cons.mp hb with rfl | hb
      · exact hfp _ (by simp)
      · rw [List.mem_singleton.mp hb]
        show x1 < (s.heap.push _).objs.size
        rw [Heap.size_push]
        exact Nat.lt_succ_of_lt lt1
  · have := h h' tk t' (old_kept hk)
    rw [preSum_eq, List.take_of_length_le (by simp [intItems]), hn]
    exact this
end

-- part K9Wb
/-- an iterator's turns, calm or not; x1 the exception that is handled -/
structure TurnN (P : Program) (w : World) (K : PySem.W.Frag) (tg : Expr) (J : It) (fp : List Addr) (it x1 : Addr) (tn : Nat → Heap → Prop) : Prop where
  mem : it ∈ fp
  obj : ∀ i h, tn i h → ∀ b ∈ fp, ∃ o, h.get? b = some o ∧ ∀ v, o.data ≠ .cell v
  keep : ∀ i h h', tn i h → (∀ b ∈ fp, ∀ o, h.get? b = some o → h'.get? b = some o) → tn i h'
  item : ∀ (X : Cx), X.prog = P → X.w = w → X.K = K → ∀ (i : Nat) (pins : List (Addr × Obj)) (s : Shared) (σ : L2.St) (H : Hp) (E : Value → Shared → Prop), Inv X pins σ H s → (∀ b ∈ fp, FpOk X pins H b) → tn i s.heap → J.go i H →
    wpAny (model P w) X.A (pyNext (.ref it)) (fun r s1 => ∃ u, r = some u ∧ wpAny (model P w) X.A (letOwnedTupleGo tg (.ref it) u) (fun _ s2 => ∃ x H', Inv X pins σ H' s2 ∧ RelV x u ∧ J.yld i H x H' ∧ tn (i + 1) s2.heap ∧ ∀ b ∈ fp, H' b = none) E s1) E s
  done : ∀ (X : Cx), X.prog = P → X.w = w → X.K = K → ∀ (i : Nat) (pins : List (Addr × Obj)) (s : Shared) (σ : L2.St) (H : Hp) (E : Value → Shared → Prop), HotX.HotAt X.A x1 s.heap → x1 ∉ fp → Inv X pins σ H s → (∀ b ∈ fp, FpOk X pins H b) → tn i s.heap → J.stop i H →
    wpAny (model P w) X.A (pyNext (.ref it)) (fun r s1 => r = none ∧ Inv X pins σ H s1) E s
  self : ∀ (A : Around) (i : Nat) (s : Shared) (Q : Value → Shared → Prop) (E : Value → Shared → Prop), tn i s.heap → Q (.ref it) s → wpAny (model P w) A (pyIter (.ref it)) Q E s
theorem turnN_list {P : Program} {w : World} {K : PySem.W.Frag} {tg : Expr} (a it x1 : Addr) : TurnN P w K tg (Itl K a) [it] it x1 (fun i h => h.IsListIter it a i) where
  mem := List.mem_singleton.mpr rfl
  obj := fun i h st b hb => by
    rw [List.mem_singleton.mp hb]
    obtain ⟨o, e, _, d⟩ := st
    exact ⟨o, e, fun v z => by rw [d] at z; cases z⟩
  keep := fun i h h' st k => st.at fun o e => k it (List.mem_singleton.mpr rfl) o e
  item := fun X hP hw hK i pins s σ H E I hf st hg => by
    subst hP hw hK
    obtain ⟨xs, x, sq, hx⟩ := hg
    obtain ⟨its, rv, pl, _⟩ := I.list sq
    obtain ⟨u, eu, ru⟩ := rv.get hx
    obtain ⟨p0, p1, _, p3, p4, p5⟩ := hf it (List.mem_singleton.mpr rfl)
    refine wpAny_pyNext_list_item st pl.isList (x := u) (by simpa using eu) fun h2 st2 sb => ?_
    obtain ⟨o, e, c, d⟩ := id st2
    exact ⟨u, rfl, go_of (s := { s with heap := h2 }) e c d (by decide) ⟨x, H, I.turned (t' := s.toks) (fun b o hb e => (sb.2 b hb).trans e) p0 p1 p3 p4 p5, ru, ⟨rfl, fun ys hy => (by rw [I.list_inj hy sq]; exact hx)⟩, st2, fun b hb => (hf b hb).1⟩⟩
  done := fun X hP hw hK i pins s σ H E hot nx I hf st hg => by
    subst hP hw hK
    obtain ⟨xs, sq, hx⟩ := hg
    obtain ⟨its, rv, pl, _⟩ := I.list sq
    have ll := rv.length
    obtain ⟨p0, p1, _, p3, p4, p5⟩ := hf it (List.mem_singleton.mpr rfl)
    exact lst_end hot (fun q => nx (List.mem_singleton.mpr q)) st pl.isList (by simp; omega) fun h2 k => ⟨rfl, I.turned (t' := s.toks) (fun b o hb e => k b o hb e) p0 p1 p3 p4 p5⟩
  self := fun _ _ _ _ _ st h => wpAny_pyIter_listiter st h
theorem turnN_range {P : Program} {w : World} {K : PySem.W.Frag} {tg : Expr} (it x1 : Addr) (lo : Int) (n : Nat) : TurnN P w K tg (Itr lo n) [it] it x1 (fun i h => IsRangeIter h it (lo + (i : Nat) * 1) ((n : Int) - (i : Nat)) 1) where
  mem := List.mem_singleton.mpr rfl
  obj := fun i h st b hb => by
    rw [List.mem_singleton.mp hb]
    exact ⟨_, st, fun v z => Data.noConfusion (show Data.fields _ = Data.cell v from z)⟩
  keep := fun i h h' st k => k it (List.mem_singleton.mpr rfl) _ st
  item := fun X hP hw hK i pins s σ H E I hf st hg => by
    subst hP hw hK
    obtain ⟨p0, p1, _, p3, p4, p5⟩ := hf it (List.mem_singleton.mpr rfl)
    have lt : i < n := hg
    refine wpAny_pyNext_range_item st (by omega) fun h2 st2 sb => ?_
    have st3 : IsRangeIter h2 it (lo + ((i + 1 : Nat) : Int) * 1) ((n : Int) - ((i + 1 : Nat) : Int)) 1 := by
      rw [show lo + ((i + 1 : Nat) : Int) * 1 = lo + ((i : Nat) : Int) * 1 + 1 by omega, show (n : Int) - ((i + 1 : Nat) : Int) = (n : Int) - ((i : Nat) : Int) - 1 by omega]
      exact st2
    exact ⟨_, rfl, go_of (s := { s with heap := h2, toks := s.toks + 1 }) (n := "range_iterator") st3 rfl rfl (by decide) ⟨.int (lo + i), H, I.turned (fun b o hb e => (sb.2 b hb).trans e) p0 p1 p3 p4 p5, ⟨s.toks, (by rw [Int.mul_one])⟩, ⟨rfl, rfl⟩, st3, fun b hb => (hf b hb).1⟩⟩
  done := fun X hP hw hK i pins s σ H E hot nx I hf st hg => by
    subst hP hw hK
    obtain ⟨p0, p1, _, p3, p4, p5⟩ := hf it (List.mem_singleton.mpr rfl)
    exact HotX.pyNext_range_end_hot hot st (by have : n ≤ i := hg; omega) fun h2 eb => ⟨rfl, I.turned (t' := s.toks) (fun b o _ e => eb b o e) p0 p1 p3 p4 p5⟩
  self := fun _ _ _ _ _ st h => wpAny_pyIter_rangeiter st h
def PIEN (X : Cx) (x1 : Addr) (pins : List (Addr × Obj)) (σ : L2.St) (tg : Expr) (R : It → Hp → Prop) (itv : Value) (s2 : Shared) : Prop :=
  ∃ (it : Addr) (fp : List Addr) (tn : Nat → Heap → Prop) (J : It) (H' : Hp), itv = .ref it ∧ Inv X pins σ H' s2 ∧ TurnN X.prog X.w X.K tg J fp it x1 tn ∧ tn 0 s2.heap ∧ (∀ b ∈ fp, FpOk X pins H' b) ∧ R J H'
structure PIN (X : Cx) (x1 : Addr) (tg iter : Expr) (wi : TI) : Prop where
  run : ∀ (pins : List (Addr × Obj)) (s : Shared) (σ : L2.St) (H : Hp) (R : It → Hp → Prop), Inv X pins σ H s → wi σ H R → wpAny (model X.prog X.w) X.A (eval iter X.env) (fun v s1 => wpAny (model X.prog X.w) X.A (pyIter v) (PIEN X x1 pins σ tg R) X.xe s1) X.xe s
section
variable {X : Cx} {x1 : Addr} {tg : Expr}
theorem pin_list {l : Expr} {tl : TE} (hl : PE X l tl) : PIN X x1 tg l (iList X.K tl) := by
  refine ⟨fun pins s σ H R I h => thn (hl.run pins s σ H _ I h) fun v s1 hv => ?_⟩
  obtain ⟨_, H1, I1, r1, a, rfl, ⟨xs, sq⟩, q⟩ := hv
  cases r1
  obtain ⟨its, rv, pl, _⟩ := I1.list sq
  refine wpAny_pyIter_list pl.isList ⟨s1.heap.objs.size, [s1.heap.objs.size], _, _, H1, rfl, I1.kept (t' := s1.toks) fun b o e => Heap.get?_push_of_some _ e, turnN_list a _ x1, ⟨_, Heap.get?_push_size _ rfl, rfl, rfl⟩, fun b hb => ?_, q⟩
  rw [List.mem_singleton.mp hb]
  exact I1.fpOk (Nat.le_refl _) (I1.hok.fresh (Nat.le_refl _))
theorem pin_range {a : Expr} {ta : TA} {p pos : Pos} (hg : Gl X "range") (hm : X.mg "range" = none) (ha : PA X [a] ta) (hs : starEach [a] X.env = [(false, eval a X.env)] := by rfl) : PIN X x1 tg (.Call (.Name "range" p) [a] [] pos) (iRng1 ta) := by
  refine ⟨fun pins s σ H R I h => Call_ (ld_blt I hg hm boot_range (PyProof.Rows.callWith_type1 (thn (ha.run pos pins s σ H _ I h) fun us s1 hu => ?_) hs rfl))⟩
  obtain ⟨vs, H1, I1, r1, j, rfl, b1, b2, q⟩ := hu
  obtain ⟨u, rfl, t, rfl⟩ := vals1 r1
  refine call_range_1 (wpAny_pyIter_range (IsRange.new ..) (small_one (by omega) (by omega) b1 b2) ?_)
  have I2 : Inv X pins σ H1 { s1 with heap := s1.heap.push { cls := .type "range", data := .fields #[.int 0 s1.toks, .int j t, .int 1 (s1.toks + 1)] }, toks := s1.toks + 1 + 1 } := I1.kept fun b o e => Heap.get?_push_of_some _ e
  refine ⟨_, [_], _, _, H1, rfl, I2.kept (t' := s1.toks + 1 + 1) fun b o e => Heap.get?_push_of_some _ e, turnN_range _ x1 0 j.toNat, ?_, fun b hb => ?_, q⟩
  · show IsRangeIter _ _ ((0 : Int) + ((0 : Nat) : Int) * 1) (((j.toNat : Nat) : Int) - ((0 : Nat) : Int)) 1
    rw [show (0 : Int) + ((0 : Nat) : Int) * 1 = 0 by simp, show ((j.toNat : Nat) : Int) - ((0 : Nat) : Int) = Builtin.Range.rangeSize 0 j 1 by rw [rangeSize_one]; split <;> omega]
    exact Heap.get?_push_size _ rfl
  · rw [List.mem_singleton.mp hb]
    exact I2.fpOk (Nat.le_refl _) (I2.hok.fresh (Nat.le_refl _))
/-- [elt for tg in iter if ..] while an exception is handled -/
theorem pe_lcN {elt iter : Expr} {ifs : List Expr} {scope : Scope} {own : List (Str × Nat)} {pos : Pos} {wi : TI} {g : TG} {tt : TT} {te : TE} {p : Addr × Obj} (hp : p ∈ X.pn) (hot : L2H.Hot1 X.A p) (hN : X.N.Nodup) (hi : PIN X p.1 tg iter wi) (ok : BlkOk X.N X.env.scope scope own)
    (hg : ∀ (s : Shared) (H : Hp) (C : Addr) (cl : List (Str × Addr)) (fp : List Addr), PG (X.blk s H scope (compEnvC scope cl C X.env) fp) tg g) (ht : ∀ (s : Shared) (H : Hp) (C : Addr) (cl : List (Str × Addr)) (fp : List Addr), PTs (X.blk s H scope (compEnvC scope cl C X.env) fp) ifs tt)
    (he : ∀ (s : Shared) (H : Hp) (C : Addr) (cl : List (Str × Addr)) (fp : List Addr), PE (X.blk s H scope (compEnvC scope cl C X.env) fp) elt te) (hs : ∀ x, foldedSetIterable iter X.env x = pure x := by intro _; rfl) :
    PE X (.ListComp elt [⟨tg, iter, ifs, 0⟩] scope pos) (tLc wi g tt te (own.map (·.2))) := by
  refine ⟨fun pins s σ H Q I h => ?_⟩
  rw [eval_ListComp]
  have fr : ∀ y ∈ scope.names, y.2 = .free → ∃ c, X.env.cells.lookup y.1 = some c := fun y hy e => (ok.free y hy e).elim (fun k => I.ok.has _ (.inl k)) fun k => I.ok.has _ (.inr k)
  refine wpAny_comprehension_free (use := none) rfl hs (closure_ok fr) ok.kind (fun y hy e => by rw [ok.uniq y hy, e]) (thn (hi.run pins s σ H _ I h) fun _ s1 h1 => thn h1 fun _ s2 h2 => ?_)
  obtain ⟨it, fp, tn, J, Hb, rfl, Ib, TT', tn0, ffp, wj⟩ := h2
  refine wpAny_newObj_type (newEnv_comp ?_) (Nat.zero_le _)
  generalize eD : s2.heap.objs.size = D
  have freeD : Hb D = none := Ib.hok.fresh (Nat.le_of_eq eD)
  obtain ⟨W, ⟨m0, start0⟩, turn⟩ := wj D freeD
  generalize e3 : ({ s2 with heap := s2.heap.push { cls := .type "list", data := .seq ([] : List Value).toArray } } : Shared) = s3
  have hp3 : s3.heap = s2.heap.push { cls := .type "list", data := .seq ([] : List Value).toArray } := by rw [← e3]
  have Ic : Inv X pins σ (upd Hb D (.lst [])) s3 := by
    rw [← e3]
    refine Ib.laid (t' := s2.toks) (fun b o e => Heap.get?_push_of_some _ e) (Nat.le_of_eq eD) ⟨Nat.zero_le _, [], 0, .nil, ?_⟩
    rw [← eD]; exact Heap.get?_push_size _ rfl
  have low : ∀ b ∈ fp, b < s2.heap.objs.size := fun b hb => let ⟨_, e, _⟩ := TT'.obj _ _ tn0 b hb; Heap.lt_size e
  have fC : ∀ b ∈ fp, FpOk X pins (upd Hb D (.lst [])) b ∧ b < s3.heap.objs.size := fun b hb =>
    ⟨⟨by rw [upd_ne (by rw [← eD]; exact Nat.ne_of_lt (low b hb))]; exact (ffp b hb).1, (ffp b hb).2⟩, by rw [hp3, Heap.size_push]; exact Nat.lt_succ_of_lt (low b hb)⟩
  have tn3 : tn 0 s3.heap := TT'.keep _ _ _ tn0 fun b _ o e => by rw [hp3]; exact Heap.get?_push_of_some _ e
  have Id := block_start Ic ok hN fC
  have gg := hg s3 (upd Hb D (.lst [])) s3.heap.objs.size (cellsFrom (s3.heap.objs.size + 1) scope.names (cloFrom X.env.cells scope.names [])) fp
  have gt := ht s3 (upd Hb D (.lst [])) s3.heap.objs.size (cellsFrom (s3.heap.objs.size + 1) scope.names (cloFrom X.env.cells scope.names [])) fp
  have ge := he s3 (upd Hb D (.lst [])) s3.heap.objs.size (cellsFrom (s3.heap.objs.size + 1) scope.names (cloFrom X.env.cells scope.names [])) fp
  show codeAny _ _ (.compStart (.ListComp elt [⟨tg, iter, ifs, 0⟩] scope pos) 0 (.ref it) (.ref D) (compEnvC scope (cellsFrom (s3.heap.objs.size + 1) scope.names (cloFrom X.env.cells scope.names [])) s3.heap.objs.size X.env)) (compPost (model X.prog X.w) X.A X.xe none (EP X pins σ Q) (.ref D) s3.heap.objs.size) { s3 with heap := pushCells (s3.heap.push { cls := .type "dict", data := .dict #[] }) scope.names }
  have fz : ∀ b ∈ fp, (upd Hb D (.lst [])) b = none := fun b hb => (fC b hb).1.1
  generalize eE : compEnvC scope (cellsFrom (s3.heap.objs.size + 1) scope.names (cloFrom X.env.cells scope.names [])) s3.heap.objs.size X.env = ce at Id gg gt ge ⊢
  have ceL : ce.locals = s3.heap.objs.size := by subst eE; rfl
  -- the handled exception
  obtain ⟨hh, vs1, d1, c1⟩ := hot
  obtain ⟨pg, pf, pl, pfs, _⟩ := Ic.pin p (List.mem_append_left _ hp)
  have nfp : p.1 ∉ fp := fun q => (fC _ q).1.2.2.2.2.2 p (List.mem_append_left _ hp) rfl
  have nst : p.1 ∉ frs X.stack := fun q => (List.mem_cons.mp (Ic.stkSub p.1 q)).elim pl pfs
  generalize eH : upd Hb D (.lst []) = Hc at Ic Id gg gt ge start0 fz fC pf
  have stand : ∀ {σ' : L2.St} {H' : Hp} {s' : Shared}, Inv (X.blk s3 Hc scope ce fp) [] σ' H' s' → HotX.HotAt X.A p.1 s'.heap := fun I' => ⟨hh, p.2, vs1, I'.base.keep p.1 p.2 pg pf nst nfp, d1, c1⟩
  generalize e4 : ({ s3 with heap := pushCells (s3.heap.push { cls := .type "dict", data := .dict #[] }) scope.names } : Shared) = s4 at Id ⊢
  have tn4 : tn 0 s4.heap := TT'.keep _ _ _ tn3 fun b _ o e => by rw [← e4]; exact pushCells_keeps _ _ _ _ (Heap.get?_push_of_some _ e)
  have ffb : ∀ {σ' : L2.St} {H' : Hp} {s' : Shared}, Inv (X.blk s3 Hc scope ce fp) [] σ' H' s' → (∀ b ∈ fp, H' b = none) → ∀ b ∈ fp, FpOk (X.blk s3 Hc scope ce fp) [] H' b := fun {σ' H' s'} I' hn b hb =>
    ⟨hn b hb, (I'.ok.exf b hb).1, I'.ok.exfs b hb, .inl hb, fun x c e => (I'.ok.exf b hb).2 x c e, fun p hp => absurd (show p ∈ ([] : List (Addr × Obj)) ++ [] from hp) (by simp)⟩
  have loop : codeAny (model X.prog X.w) X.A (.compLoop (.ListComp elt [⟨tg, iter, ifs, 0⟩] scope pos) 0 (.ref it) (.ref D) ce) (compPost (model X.prog X.w) X.A X.xe none (EP X pins σ Q) (.ref D) s3.heap.objs.size) s4 := by
    refine compLoop_any (fun n s' => ∃ i H', Inv (X.blk s3 Hc scope ce fp) [] (wipe σ (own.map (·.2))) H' s' ∧ tn i s'.heap ∧ (∀ b ∈ fp, H' b = none) ∧ W i n H') ?_ m0 ⟨0, Hc, Id, tn4, fz, start0⟩
    rintro n s5 ⟨i, H5, I5, t5, n5, w5⟩
    rcases turn i n H5 w5 with ⟨stop, qq⟩ | ⟨go, Nx, hNx, step⟩
    · refine thnF (TT'.done (X.blk s3 Hc scope ce fp) rfl rfl rfl i [] s5 _ H5 (fun _ _ => False) (stand I5) nfp I5 (ffb I5 n5) t5 stop) fun r s6 ⟨er, I6⟩ => ?_
      subst er
      have I7 : Inv X pins σ H5 s6 := Ic.call' (ch := fp) I6.os I6.base I6.hok I6.bare fun b hb => ⟨(fC b hb).1.2.2.2.1, (fC b hb).1.2.1, (fC b hb).1.2.2.2.2.1, (fC b hb).1.2.2.2.2.2⟩
      have zC : H5 s3.heap.objs.size = none := by rw [← ceL]; exact I6.free
      obtain ⟨m, ns, _⟩ := I6.loc
      have ns : s6.heap.Ns ce.locals m := ns
      rw [ceL] at ns
      obtain ⟨f0, f1, _, f3, f4, f5⟩ := Ic.fpOk (Nat.le_refl _) zC
      exact ⟨m, ns, fun h2 sb => ⟨.ref D, H5, I7.turned (t' := s6.toks) (fun b o hb e => (sb.2 b hb).trans e) f0 f1 f3 f4 f5, rfl, qq⟩⟩
    · refine thnF (TT'.item (X.blk s3 Hc scope ce fp) rfl rfl rfl i [] s5 _ H5 (fun _ _ => False) I5 (ffb I5 n5) t5 go) fun r s6 ⟨u, er, h6⟩ => ?_
      subst er
      refine thnF h6 fun _ s7 ⟨x, H7, I7, r7, y7, t7, n7⟩ => ?_
      refine thnF (gg.run _ s7 _ H7 x u _ (I7.pinned (ffb I7 n7) (TT'.obj _ _ t7)) r7 (step x H7 y7)) fun _ s8 ⟨σ8, H8, I8, hw8, q8⟩ => ?_
      refine thnF (gt.run _ s8 σ8 H8 _ I8 q8) fun b s9 ⟨H9, I9, q9⟩ => ?_
      have fin : ∀ {s' : Shared} {H' : Hp}, Inv (X.blk s3 Hc scope ce fp) ([] ++ pinsAt fp s7.heap) σ8 H' s' → Nx H' → ∃ m, m < n ∧ ∃ i H', Inv (X.blk s3 Hc scope ce fp) [] (wipe σ (own.map (·.2))) H' s' ∧ tn i s'.heap ∧ (∀ b ∈ fp, H' b = none) ∧ W i m H' := fun {s' H'} I' nx => by
        obtain ⟨m', lt, w'⟩ := hNx H' nx
        have pins' : ∀ b ∈ fp, ∀ o, s7.heap.get? b = some o → s'.heap.get? b = some o ∧ H' b = none := fun b hb o e => let z := I'.pin (b, o) (List.mem_append_right _ (List.mem_append_right _ (mem_pinsAt hb e))); ⟨z.1, z.2.1⟩
        refine ⟨m', lt, i + 1, H', (I'.unpinned (pins := [])).weak (by rw [← hw8, wipe_length]) (fun j v e => ?_), TT'.keep _ _ _ t7 fun b hb o e => (pins' b hb o e).1, fun b hb => ?_, w'⟩
        · rw [← hw8] at e; exact (wipe_some e).1
        · obtain ⟨o, e, _⟩ := TT'.obj _ _ t7 b hb; exact (pins' b hb o e).2
      cases b with
      | false => simp only [Bool.false_eq_true, if_false] at q9 ⊢; exact fin I9 q9
      | true =>
        simp only [if_true] at q9 ⊢
        exact thnF (ge.run _ s9 σ8 H9 _ I9 q9) fun z s10 ⟨yv, H10, I10, r10, acc, hD10, hz10, nx⟩ => app_ok (X := X.blk s3 Hc scope ce fp) I10 hD10 hz10 r10 fun s11 I11 => fin I11 nx
  exact codeAny_compStart_list loop (TT'.self X.A 0 _ _ _ tn4 loop)
end

-- part K9Wc
section
variable {X : Cx}
/-- isinstance(e, c), e the exception that is handled -/
theorem call_isP {D : Addr} {p : Addr × Obj} (hp : p ∈ X.pn) (C : ExcC X.K D) (hz : Zc (.ref D) none p.2) (hf : ∃ vs, p.2.data = .fields vs) : CallR X (.builtin "isinstance") (rIsE X.K D p.1) := by
  intro pins s σ H xs us Q I rv hw
  obtain ⟨c, cv, b, rfl, uniq, kit, q⟩ := hw
  obtain ⟨u1, u2, rfl, ra, rb⟩ := vals2 rv
  cases ra
  cases uniq _ rb
  obtain ⟨a, oe⟩ := p
  have J : PySem.W.InstAt s.heap a oe D none := by
    have at1 := (I.pin (a, oe) (List.mem_append_left _ hp)).1
    obtain ⟨fs, hv⟩ := hf
    obtain ⟨oc, od, oda, osl⟩ := oe
    obtain ⟨z1, z2⟩ := hz
    dsimp only at z1 z2 hv
    subst z1 z2 hv
    exact ⟨at1, rfl, rfl, trivial⟩
  exact PySem.W.kia_one (PySem.W.handS_kitx_exc C.hg C.hk C.hs C.hd C.ha C.hn C.ht C.hm) I.kIn J kit (fun z => nomatch z) fun tk => ⟨.bl b, H, I.kept (t' := tk) fun _ _ z => z, rfl, q⟩
theorem cr_sumN {p : Addr × Obj} (hp : p ∈ X.pn) (hot : L2H.Hot1 X.A p) : CallR X (.builtin "sum") (rSum X.K) := by
  intro pins s σ H vs us Q I r h
  obtain ⟨a, ns, rfl, hs, q⟩ := h
  obtain ⟨its, rv, hl, _⟩ := I.list hs
  rw [Vals.ref1 r]
  obtain ⟨hh, v1, d1, c1⟩ := hot
  exact sum_hot (x1 := p.1) ⟨hh, p.2, v1, (I.pin p (List.mem_append_left _ hp)).1, d1, c1⟩ hl.isList rv.ints fun h' tk t' hk => ⟨.int _, H, I.kept hk, ⟨_, rfl⟩, q⟩
end
section
variable {P : Program} {w : World} {K : PySem.W.Frag} {mg : Str → Option Value} {base : Heap} {x qual : Str} {params : Arguments} {body : List Stmt} {scope : Scope} {f : Addr} {fd : FuncData} {N ps : List Str} {k : Nat} {CX : CXT}
/-- a def that is called while p is handled -/
theorem run_hot {A : Around} {outer : List Env} {s : Shared} {H : Hp} {us : List Value} {vs : List V} {Q : VK} {E : XK} (F : FunD K x qual params body scope [] [] f fd) (b : Binds K fd ps []) (S : FnScope N ps scope) (hr : L2H.RoomH (k + 1) A) {p : Addr × Obj} (pin : L2H.PinOk outer H s p) (e0 : Env0 P w K mg base A outer s H) (r : Vals vs us) (hl : vs.length = ps.length)
    (hb : ∀ cdv, L2H.RoomH k (A.deeper (envOfC qual scope s.heap.objs.size f cdv)) → ∃ t, PSs (L2H.cxH CX P w K mg base N qual scope f cdv A outer s H E p) body t ∧ t { nx := fun _ H' => Q .non H', rt := Q } (L2.start N vs) H) :
    codeAny (model P w) A (.call (.ref f) ⟨us, []⟩) (CR CX outer P w H s Q E) s := by
  have KX : K.In s.heap := e0.mod.kin.keeps fun b o e => (e0.bs b o e).1
  have bt := b s us KX (by rw [List.append_nil, ← r.length]; exact hl)
  rw [List.append_nil] at bt
  obtain ⟨oc, od, dV, kV, doc, pm, an, cdv, ct, osl, rfl, lk, hcd, _, _⟩ := F.ex
  have kinds : ∀ y ∈ ps.zip us, scope.names.lookup y.1 = some .local ∨ (scope.names.lookup y.1 = some .cell ∧ ((cellsFrom (s.heap.objs.size + 1) scope.names []).lookup y.1).isSome = true) := fun ⟨n, v⟩ hy =>
    (S.par n (List.of_mem_zip hy).1).elim .inl fun q => .inr ⟨q, PySem.W.cellsFrom_some _ _ _ (.inl q)⟩
  refine codeAny_call_function hr.depth (KX _ _ lk) rfl S.co S.gen rfl (PySem.W.codeRec_of KX hcd) (bt _ _ _ _ (wpAny_newFunctionEnv_cells S.kind kinds fun env he s1 ic => ?_))
  subst he
  refine ⟨(e0.mod.nolimit.keeps fun b o e => (e0.bs b o e).1).keeps ic.toInCall.keep, codeAny_func ?_⟩
  obtain ⟨t, ht, hq⟩ := hb cdv (hr.deeper _)
  refine wpAny_mono (ht.run [] s1 (L2.start N vs) H _ (L2H.inv_startH S pin e0 hl r ic) hq) (fun fl s2 hs => ?_) fun e s2 hs => hs
  cases fl with
  | ret u => obtain ⟨v, _, H2, J, rv, q⟩ := hs; exact ⟨v, H2, J.os, J.bare, J.base, J.hok, rv, q⟩
  | next => obtain ⟨_, H2, J, q⟩ := hs; exact ⟨V.non, H2, J.os, J.bare, J.base, J.hok, (rfl : Value.none = Value.none), q⟩
  | brk => exact hs.elim fun _ ⟨_, _, q⟩ => False.elim q
  | cont => exact hs.elim fun _ ⟨_, _, q⟩ => False.elim q
end

-- part K9Wd
def rInt1 : List V → Hp → VK → Prop := fun xs H Q => (∃ i, xs = [.int i] ∧ Q (.int i) H) ∨ ∃ k, xs = [.bl k] ∧ Q (.int (if k then 1 else 0)) H
def wds : List Str := ["NoTask", "NoPage", "NoRoom", "Taken"]
def sel (bs : List Bool) (i : Nat) : List Str := ((List.range i).filter fun j => (bs[j]?).getD false).map fun j => (wds[j]?).getD ""
theorem sel_succ (bs : List Bool) (i : Nat) : sel bs (i + 1) = sel bs i ++ if (bs[i]?).getD false = true then [(wds[i]?).getD ""] else [] := by
  unfold sel
  rw [List.range_succ, List.filter_append, List.map_append]
  congr 1
  by_cases h : (bs[i]?).getD false = true
  · rw [if_pos h, List.filter_cons, if_pos h]
    rfl
  · rw [if_neg h, List.filter_cons, if_neg h]
    rfl
def bsOf (x : Str) : List Bool := [decide (x = "NoTask"), decide (x = "NoPage"), decide (x = "NoRoom"), decide (x = "Taken")]
theorem exc_cases' {nm : Str} (h : nm ∈ excN) : nm = "NoTask" ∨ nm = "NoPage" ∨ nm = "NoRoom" ∨ nm = "Taken" := by
  unfold excN at h
  simpa only [List.mem_cons, List.not_mem_nil, or_false] using h
section
variable {P : Program} {w : World} {K : PySem.W.Frag} {mg : Str → Option Value} {base : Heap}
theorem word_body (T : Tx K mg) {CX : CXT} {A : Around} {outer : List Env} {s : Shared} {H : Hp} {Q : VK} {E : XK} {f : Addr} {cdv : Value} {p : Addr × Obj} {x : Str} (hx : x ∈ excN) (hot : L2H.Hot1 A p) (hz : Zc (.ref (He.ga K x)) none p.2) (k1 : ∀ H', Same H H' → Q (.str x) H') :
    ∃ t, PSs (L2H.cxH CX P w K mg base ["_law_caught", "_law_kinds", "_law_words", "_law_kind", "_law_k"] "_law_word" (defScope st_law_word) f cdv A outer s H E p) (defBody st_law_word) t ∧
      t { nx := fun _ H' => Q .non H', rt := Q } (L2.start ["_law_caught", "_law_kinds", "_law_words", "_law_kind", "_law_k"] [.ref p.1]) H := by
  have nd := sc_law_word.nd
  obtain ⟨ex, kv, kc⟩ := T.excOf hx
  have hp : p ∈ (L2H.cxH CX P w K mg base ["_law_caught", "_law_kinds", "_law_words", "_law_kind", "_law_k"] "_law_word" (defScope st_law_word) f cdv A outer s H E p).pn := List.mem_singleton.mpr rfl
  have hot' : L2H.Hot1 (L2H.cxH CX P w K mg base ["_law_caught", "_law_kinds", "_law_words", "_law_kind", "_law_k"] "_law_word" (defScope st_law_word) f cdv A outer s H E p).A p := hot
  have hf : ∃ vs, p.2.data = .fields vs := let ⟨vs, a, _⟩ := hot.2; ⟨vs, a⟩
  refine ⟨_, pss_cons (ps_set (i := 1) nd rfl (Or.inr rfl) (pe_lst (pa_cons (pe_callB (call_isP hp ex hz hf) (by rfl) T.n_isinstance (by decide +kernel) (pa_cons (pv 0) (pa_cons (pe_glob (v := .ref (He.ga K "NoTask")) rfl T.g_NoTask rfl) pa_nil))) (pa_cons (pe_callB (call_isP hp ex hz hf) (by rfl) T.n_isinstance (by decide +kernel) (pa_cons (pv 0) (pa_cons (pe_glob (v := .ref (He.ga K "NoPage")) rfl T.g_NoPage rfl) pa_nil))) pa_nil))))
    (pss_cons (ps_set (i := 1) nd rfl (Or.inr rfl) (pe_op op_cat (pv 1) (pe_lst (pa_cons (pe_callB (call_isP hp ex hz hf) (by rfl) T.n_isinstance (by decide +kernel) (pa_cons (pv 0) (pa_cons (pe_glob (v := .ref (He.ga K "NoRoom")) rfl T.g_NoRoom rfl) pa_nil))) (pa_cons (pe_callB (call_isP hp ex hz hf) (by rfl) T.n_isinstance (by decide +kernel) (pa_cons (pv 0) (pa_cons (pe_glob (v := .ref (He.ga K "Taken")) rfl T.g_Taken rfl) pa_nil))) pa_nil)))))
    (pss_cons (ps_set (i := 2) nd rfl (Or.inr rfl) (pe_lst (pa_cons pe_str (pa_cons pe_str (pa_cons pe_str (pa_cons pe_str pa_nil))))))
    (pss_cons (ps_if (PW.pt (pw_or (pt_cmpR op_ne (pe_callB (cr_sumN hp hot') (by rfl) T.n_sum (by decide +kernel) (pa_cons (pe_lcN (own := [("_law_kind", 3)]) (g := gName 3) (tt := tYes) (te := tCB rInt1 (tCons (tVar 3) tNil)) hp hot' nd (pin_list (pv 1)) (blkOk_by (N := ["_law_caught", "_law_kinds", "_law_words", "_law_kind", "_law_k"]) (sc := defScope st_law_word) (by decide +kernel))
          (fun _ _ _ _ _ => pg_name (i := 3) nd rfl (Or.inl rfl)) (fun _ _ _ _ _ => pts_nil) (fun _ _ _ _ _ => by
            refine pe_callTy call_int1 (by rfl) T.n_int (by decide +kernel) (pa_cons ?_ pa_nil)
            exact pv 3)) pa_nil)) pe_int (nomark _))
        (pw_or1 (pt_not (pt_val (pe_callB (call_isP hp ex hz hf) (by rfl) T.n_isinstance (by decide +kernel) (pa_cons (pv 0) (pa_cons (pe_bltn (v := .ty "ValueError") (by rfl) T.n_ValueError (by decide +kernel) rfl) pa_nil)))))))) (pss_one ps_never) pss_nil)
    (pss_one (ps_ret (pe_ix ix_list (pe_lcN (own := [("_law_k", 4)]) (g := gName 4) (tt := tB (tOp (rIxL K) (tVar 1) (tVar 4))) (te := tOp (rIxL K) (tVar 2) (tVar 4)) hp hot' nd (pin_range (by rfl) T.n_range (pa_cons pe_int pa_nil)) (blkOk_by (N := ["_law_caught", "_law_kinds", "_law_words", "_law_kind", "_law_k"]) (sc := defScope st_law_word) (by decide +kernel))
          (fun _ _ _ _ _ => pg_name (i := 4) nd rfl (Or.inl rfl)) (fun _ _ _ _ _ => by
            refine pts_one (pt_val ?_)
            refine pe_ix ix_list ?_ ?_ (fun _ _ => rfl)
            · exact pv 1
            · exact pv 4) (fun _ _ _ _ _ => by
            refine pe_ix ix_list ?_ ?_ (fun _ _ => rfl)
            · exact pv 2
            · exact pv 4)) pe_int (fun _ _ => rfl))))))), ?_⟩
  refine ⟨_, rfl, _, _, _, rfl, fun u r => r, kc "NoTask" (by decide +kernel), _, rfl, _, _, _, rfl, fun u r => r, kc "NoPage" (by decide +kernel), (by show 2 ≤ sizeLine; decide), fun q1 hq1 => ?_⟩
  have s1 := same_new (o := .lst [V.bl (decide (x = "NoTask")), V.bl (decide (x = "NoPage"))]) (Same.refl H) hq1
  have h1 : upd H q1 (.lst [V.bl (decide (x = "NoTask")), V.bl (decide (x = "NoPage"))]) q1 = some (.lst [V.bl (decide (x = "NoTask")), V.bl (decide (x = "NoPage"))]) := upd_same
  generalize upd H q1 (.lst [V.bl (decide (x = "NoTask")), V.bl (decide (x = "NoPage"))]) = H1 at *
  refine ⟨_, rfl, _, rfl, _, _, _, rfl, fun u r => r, kc "NoRoom" (by decide +kernel), _, rfl, _, _, _, rfl, fun u r => r, kc "Taken" (by decide +kernel), (by show 2 ≤ sizeLine; decide), fun q2 hq2 => ?_⟩
  have s2 := same_new (o := .lst [V.bl (decide (x = "NoRoom")), V.bl (decide (x = "Taken"))]) s1 (s1.free hq2)
  have n12 : q1 ≠ q2 := fun e => by rw [← e, h1] at hq2; cases hq2
  refine ⟨q1, q2, _, _, rfl, rfl, by rw [upd_ne n12]; exact h1, upd_same, (by show 2 + 2 ≤ sizeLine; decide), fun q3 hq3 => ?_⟩
  have e3 : [V.bl (decide (x = "NoTask")), V.bl (decide (x = "NoPage"))] ++ [V.bl (decide (x = "NoRoom")), V.bl (decide (x = "Taken"))] = (bsOf x).map V.bl := rfl
  rw [e3]
  have s3 := same_new (o := .lst ((bsOf x).map V.bl)) s2 (s2.free hq3)
  have h3 : upd (upd H1 q2 (.lst [V.bl (decide (x = "NoRoom")), V.bl (decide (x = "Taken"))])) q3 (.lst ((bsOf x).map V.bl)) q3 = some (.lst ((bsOf x).map V.bl)) := upd_same
  generalize upd (upd H1 q2 (.lst [V.bl (decide (x = "NoRoom")), V.bl (decide (x = "Taken"))])) q3 (.lst ((bsOf x).map V.bl)) = H3 at *
  refine ⟨by decide, fun q4 hq4 => ?_⟩
  have e4 : [V.str "NoTask", V.str "NoPage", V.str "NoRoom", V.str "Taken"] = wds.map V.str := rfl
  rw [e4]
  have s4 := same_new (o := .lst (wds.map V.str)) s3 (s3.free hq4)
  have h4 : upd H3 q4 (.lst (wds.map V.str)) q4 = some (.lst (wds.map V.str)) := upd_same
  have h34 : upd H3 q4 (.lst (wds.map V.str)) q3 = some (.lst ((bsOf x).map V.bl)) := by rw [upd_ne fun e => by rw [← e, h3] at hq4; cases hq4]; exact h3
  generalize upd H3 q4 (.lst (wds.map V.str)) = H4 at *
  have l4 : (bsOf x).length = 4 := rfl
  refine ⟨_, rfl, q3, rfl, ⟨_, SqL.of h34⟩, fun D hD => lc_list (K := K) (a := q3) (xs := (bsOf x).map V.bl) (fun i H5 => Same H4 H5 ∧ H5 D = some (.lst ((((bsOf x).take i).map fun b => if b then (1 : Int) else 0).map V.int))) ?_ ?_ ?_ ?_⟩
  · exact ⟨same_new (Same.refl H4) hD, by rw [upd_same]; rfl⟩
  · rintro i H5 hi ⟨s5, _⟩
    exact SqL.of (s5 _ _ h34)
  · rintro i y H5 hy ⟨s5, hD5⟩
    obtain ⟨b, hb, rfl⟩ : ∃ b : Bool, (bsOf x)[i]? = some b ∧ y = V.bl b := by
      rw [List.getElem?_map] at hy
      cases e : (bsOf x)[i]? with
      | none => rw [e] at hy; cases hy
      | some z => rw [e] at hy; cases hy; exact ⟨z, rfl, rfl⟩
    refine ⟨rfl, ?_⟩
    dsimp only [tYes]
    refine iteT ?_
    refine ⟨_, rfl, .inr ⟨b, rfl, ?_⟩⟩
    refine ⟨_, hD5, by rw [List.length_map, List.length_map, List.length_take]; exact small1000 (by omega), same_new s5 hD, ?_⟩
    rw [upd_same, List.take_add_one, hb, List.map_append, List.map_append]
    rfl
  · rintro H5 ⟨s5, hD5⟩
    rw [List.length_map, List.take_length] at hD5
    have h35 := s5 _ _ h34
    have h45 := s5 _ _ h4
    have s45 := s4.trans s5
    have one : (((bsOf x).map fun b => if b then (1 : Int) else 0)).sum = 1 := by
      rcases exc_cases' hx with rfl | rfl | rfl | rfl <;> decide +kernel
    refine ⟨D, _, rfl, SqL.of hD5, rfl, _, rfl, ?_⟩
    rw [one]
    refine iteNS rfl ?_
    refine ⟨_, rfl, _, _, _, rfl, fun u r => r, kv, true, rfl, iteF ?_⟩
    refine ⟨4, rfl, by decide, by decide, fun D2 hD2 => lc_range (lo := 0) (n := (4 : Int).toNat) (fun i H6 => Same H5 H6 ∧ H6 D2 = some (.lst ((sel (bsOf x) i).map V.str))) ?_ ?_ ?_⟩
    · exact ⟨same_new (Same.refl H5) hD2, by rw [upd_same]; rfl⟩
    · rintro i H6 hi ⟨s6, hD6⟩
      have hi4 : i < 4 := hi
      have hb : (bsOf x)[i]? = some (((bsOf x)[i]?).getD false) := by rw [List.getElem?_eq_getElem (by rw [l4]; exact hi4)]; rfl
      have hw : wds[i]? = some ((wds[i]?).getD "") := by rw [List.getElem?_eq_getElem (show i < wds.length from hi4)]; rfl
      have z0 : (0 : Int) + (i : Int) = (i : Int) := Int.zero_add _
      refine ⟨rfl, _, rfl, _, rfl, q3, _, _, _, rfl, rfl, SqL.of (s6 _ _ h35), (by rw [z0]; refine atI_nat ?_; rw [List.getElem?_map, hb]; rfl), _, rfl, ?_⟩
      have sl : (sel (bsOf x) i).length ≤ 4 := by
        unfold sel
        rw [List.length_map]
        refine Nat.le_trans (List.length_filter_le _ _) ?_
        rw [List.length_range]
        omega
      cases hbb : ((bsOf x)[i]?).getD false with
      | false =>
        refine iteF ⟨s6, ?_⟩
        rw [sel_succ, hbb, if_neg Bool.false_ne_true, List.append_nil]
        exact hD6
      | true =>
        refine iteT ?_
        refine ⟨_, rfl, _, rfl, q4, _, _, V.str ((wds[i]?).getD ""), rfl, rfl, SqL.of (s6 _ _ h45), (by rw [z0]; refine atI_nat ?_; rw [List.getElem?_map, hw]; rfl), _, hD6, by rw [List.length_map]; exact small1000 (by omega), same_new s6 hD2, ?_⟩
        rw [upd_same, sel_succ, hbb, if_pos rfl, List.map_append]
        rfl
    · rintro H6 ⟨s6, hD6⟩
      have es : sel (bsOf x) (4 : Int).toNat = [x] := by
        rcases exc_cases' hx with rfl | rfl | rfl | rfl <;> decide +kernel
      rw [es] at hD6
      exact ⟨D2, _, _, V.str x, rfl, rfl, SqL.of hD6, a0, k1 _ (s45.trans s6)⟩
end

-- part K9We
section
variable {P : Program} {w : World} {K : PySem.W.Frag} {mg : Str → Option Value} {base : Heap}
/-- the call of _law_word for the exception that is handled -/
def tWord (K : PySem.W.Frag) (a : Addr) (cls : Value) (dd : Option Addr) (t : TA) : TE := fun σ H Q => t σ H fun vs H1 => vs = [.ref a] ∧ dd = none ∧ ∃ x, x ∈ excN ∧ cls = .ref (He.ga K x) ∧ ∀ H', Same H1 H' → Q (.str x) H'
theorem pe_word {X : Cx} (T : Tx X.K X.mg) {p : Addr × Obj} {cls : Value} {dd : Option Addr} {e : Expr} {t : TA} {q pos : Pos} (hp : p ∈ X.pn) (hot : L2H.Hot1 X.A p) (hz : L2N.Zn cls dd p.2) (hr : L2H.RoomH 2 X.A) (ha : PA X [e] t) (hg : Gl X "_law_word" := by rfl)
    (he : starEach [e] X.env = (false, eval e X.env) :: starEach [] X.env := by rfl) (hpl : (backTo pos (starEach [] X.env)).any (·.1) = false := by rfl) : PE X (.Call (.Name "_law_word" q) [e] [] pos) (tWord X.K p.1 cls dd t) := by
  obtain ⟨fd, F, b⟩ := T.f_law_word
  have kp := F.kp
  refine ⟨fun pins s σ H Q I h => ?_⟩
  refine wpAny_Call_Name_kw (ld_glob I hg T.g_law_word ?_ (by decide))
  refine PySem.W.callWith_K (h₀ := X.base) I.ok.mod.kin kp (thn (ha.run pos pins s σ H _ I h) fun us s1 hu => ?_) he hpl
  obtain ⟨vs, H1, I1, r, rfl, rfl, x, hx, rfl, kq⟩ := hu
  refine ⟨I1.kIn, ?_⟩
  have P1 := I1.pin p (List.mem_append_left _ hp)
  have pin : L2H.PinOk X.stack H1 s1 p := ⟨P1.1, P1.2.1, fun hm => (List.mem_cons.mp (I1.stkSub p.1 hm)).elim P1.2.2.1 P1.2.2.2.1, P1.2.2.2.2⟩
  show wpAny _ _ (call (.ref (He.fAd X.K ("_law_word", none))) us) _ _ _
  refine wpAny_call (codeAny_mono (run_hot (CX := L2N.CX X.prog X.w) (k := 1) (E := E0) (Q := Q) F b sc_law_word hr pin I1.env0 r rfl fun cdv hr1 => word_body T hx hot hz.zc kq) fun res s2 hq => ?_)
  cases res with
  | error er => exact passN pins σ H1 s1 er s2 I1 hq
  | ok fl =>
    cases fl with
    | ret u => exact I1.after hq
    | next => exact False.elim hq
    | brk => exact False.elim hq
    | cont => exact False.elim hq
theorem nm_at0 {l : Addr} (d : Deed) : atI (d.xs l) 0 = some (.str d.nm) := by cases d <;> exact a0
theorem ok_Told (T : Tx K mg) : Okp P w K mg base 12 (He.fAd K ("_law_told", none)) ["_law_rooms", "_law_deed_here"] (spTold K) := by
  refine okn len2 T.f_law_told sc_law_told fun cdv A outer s0 H vs Q E hr h => ?_
  obtain ⟨_, _, rfl, g, r, S, a, l, d, rfl, rfl, L, X, D, h64, hts, kx, k⟩ := h
  have nd := sc_law_told.nd
  obtain ⟨fdD, FD, bD, kD⟩ := (ok_Do (P := P) (w := w) (base := base) T).ex
  refine ⟨_, pss_cons (ps_set (i := 2) nd rfl (Or.inl rfl) pe_non)
    (pss_cons (ps_set (i := 3) nd rfl (Or.inl rfl) pe_str)
    (pss_cons (L2N.ps_try_as (i := 4) (tb := fun W => tAsg (tCallS (spDo K) (WE W) (tCons (tVar 0) (tCons (tVar 1) tNil))) (gName 2)) (ts := fun a cls dd => tAsg (tWord K a cls dd (tCons (tVar 4) tNil)) (gName 3)) (Wout := fun _ _ _ _ => False) rfl rfl nd rfl rfl ⟨rfl, by decide, .inl T.g_KernelError⟩ takesN
      (fun W pn xe tk _ => pss_one (ps_set (i := 2) nd rfl (Or.inl rfl) (pe_callS FD (hr.mono (show 10 ≤ 11 by decide)) rfl T.g_law_do kD bD (fun σ => L2N.passAt tk σ) (pa_cons (pv 0) (pa_cons (pv 1) pa_nil)))))
      (fun a oe cls dd pn hz hf => pss_one (ps_set (i := 3) nd rfl (Or.inl rfl) (pe_word T (p := (a, oe)) (cls := cls) List.mem_cons_self ⟨rfl, let ⟨fs, e⟩ := hf; ⟨fs, e, hz.2.2 fs e⟩⟩ hz ⟨(hr.mono (show 2 ≤ 11 by decide)).dp, (hr.mono (show 2 ≤ 11 by decide)).un⟩ (pa_cons (pv 4) pa_nil)))))
    (pss_cons (ps_if (pt_cmpR op_ne (pe_ix ix_tup (pv 1) pe_int (fun _ _ => rfl)) pe_str (nomark _)) (pss_one (ps_set (i := 2) nd rfl (Or.inl rfl) pe_non)) pss_nil)
    (pss_one (ps_ret (pe_tup (pa_cons (pv 2) (pa_cons (pv 3) pa_nil)))))))), ?_⟩
  refine ⟨_, rfl, _, rfl, _, _, rfl, g, r, S, a, l, d, rfl, rfl, L, X, D, h64, hts, fun nm hnm hroom H' s1 => ?_, fun S' v dn g' H' G R => ?_⟩
  · -- refused
    have xm : PySem.W.exmOne K (xC K nm) (.ref (He.ga K "KernelError")) = some true := by
      rcases exc_cases' hnm with rfl | rfl | rfl | rfl
      · exact T.x_NoTask
      · exact T.x_NoPage
      · exact T.x_NoRoom
      · exact T.x_Taken
    refine ⟨true, xm, fun _ ea hea => ?_, fun q => nomatch q⟩
    refine ⟨_, rfl, rfl, rfl, nm, hnm, rfl, fun H2 s2 => ?_⟩
    have s12 := s1.trans s2
    have hD := SqT.of (K := K) (s12 _ _ D.tup)
    have fin : ∀ v, [v, V.str nm].length ≤ sizeLine ∧ ∀ tp, H2 tp = none → Q (.ref tp) (upd H2 tp (.tup [v, .str nm])) := fun v => ⟨(by show 2 ≤ sizeLine; decide), fun tp htp => kx tp _ v nm (same_new s12 (s12.free htp)) hnm hroom upd_same⟩
    refine ⟨_, rfl, a, _, _, _, rfl, rfl, hD, nm_at0 d, rfl, _, rfl, ite2 (fun _ => ?_) fun _ => ?_⟩
    · exact ⟨_, rfl, _, rfl, fin _⟩
    · exact ⟨_, rfl, _, rfl, fin _⟩
  · have hD := SqT.of (K := K) (G.tup _ _ D.tup)
    have fin : ∀ v, [v, V.str ""].length ≤ sizeLine ∧ ∀ tp, H' tp = none → Q (.ref tp) (upd H' tp (.tup [v, .str ""])) := fun v => ⟨(by show 2 ≤ sizeLine; decide), fun tp htp => by
      have LG := G.live L
      exact k S' dn tp v g' _ (G.trans (Grow.temp LG htp)) ⟨R.same LG (same_new (Same.refl H') htp), upd_same⟩⟩
    refine ⟨_, rfl, a, _, _, _, rfl, rfl, hD, nm_at0 d, rfl, _, rfl, ite2 (fun _ => ?_) fun _ => ?_⟩
    · exact ⟨_, rfl, _, rfl, fin _⟩
    · exact ⟨_, rfl, _, rfl, fin _⟩
end

-- part K9Lr
def spLaw (K : PySem.W.Frag) : Sp := fun vs H Q _ => ∃ (a : Addr) (ns : List Int), vs = [.ref a] ∧ SqL K H a (ns.map V.int) ∧ ns.length ≤ 63 ∧ Only H ∧ ∀ H', Q (.bl true) H'
theorem pss_wk {X : Cx} {b : List Stmt} {t t' : TS} (h : PSs X b t) (k : ∀ D σ H, t' D σ H → t D σ H) : PSs X b t' := ⟨fun pins s σ H D I hw => h.run pins s σ H D I (k D σ H hw)⟩
theorem pt_wk {X : Cx} {e : Expr} {t t' : TT} (h : PT X e t) (k : ∀ σ H Q, t' σ H Q → t σ H Q) : PT X e t' := ⟨fun pins s σ H Q I hw => h.run pins s σ H Q I (k σ H Q hw)⟩
/-- a test that says no -/
def tNo (c : L2.St → Hp → Prop) : TT := fun σ H Q => c σ H ∧ ∀ H', Same H H' → Q false H'
def condB : L2.St → Hp → Prop := fun σ H => ∃ (nm : Str) (d : Deed) (da dl : Addr), σ[12]? = some (some (.str nm)) ∧ σ[10]? = some (some (.ref da)) ∧ H da = some (.tup (d.xs dl)) ∧ (nm = "" ∨ (nm ∈ excN ∧ (d.room = false → nm ≠ "NoRoom")))
def condC (K : PySem.W.Frag) : L2.St → Hp → Prop := fun σ H => ∃ (nm : Str) (d : Deed) (da dl : Addr), σ[12]? = some (some (.str nm)) ∧ σ[10]? = some (some (.ref da)) ∧ DeedV H da d dl ∧ (nm ∈ excN ∨ (nm = "" ∧ (d.eyes = true → ∃ g r S, σ[5]? = some (some (.ref r)) ∧ Live g H ∧ RoA K g H r S ∧ Met S d)))
theorem exc_cases {nm : Str} (h : nm ∈ excN) : nm = "NoTask" ∨ nm = "NoPage" ∨ nm = "NoRoom" ∨ nm = "Taken" := by
  unfold excN at h
  simpa only [List.mem_cons, List.not_mem_nil, or_false] using h
theorem exc_no {nm : Str} (h : nm ∈ excN) : decide (V.str nm = V.str "") = false := by
  rcases exc_cases h with rfl | rfl | rfl | rfl <;> decide +kernel
theorem nm_at {l : Addr} (d : Deed) : atI (d.xs l) 0 = some (.str d.nm) := by cases d <;> exact a0
theorem cut_take (xs : List V) (n : Nat) : cutV xs none (some (n : Int)) = xs.take n := by
  unfold cutV
  rw [HT.sIx_nat, HT.sIx_none, List.drop_zero, Nat.sub_zero, ← List.take_take, List.take_length]
theorem sql_grow {K : PySem.W.Frag} {R : Role → Bool} {g g1 : Col} {H H1 : Hp} {a : Addr} {xs : List V} (x : SqL K H a xs) (c : g a = none) (G : Grow R g H g1 H1) : SqL K H1 a xs := by
  rcases x with (h | ⟨o, h⟩) | h
  · exact .inl (.inl (G.fr a _ h fun r q => by rw [c] at q; cases q))
  · exact .inl (.inr ⟨o, G.fr a _ h fun r q => by rw [c] at q; cases q⟩)
  · exact .inr h
theorem first2 {ta tb : Int} {i : Nat} (h : i < 2) : ∃ t, ([1, 2, ta, tb] : List Int)[i]? = some t ∧ t ∉ ([1, 2] : List Int).take i ∧ ([1, 2] : List Int).take (i + 1) = ([1, 2] : List Int).take i ++ [t] := by
  rcases (show i = 0 ∨ i = 1 by omega) with rfl | rfl
  · exact ⟨1, rfl, by decide, rfl⟩
  · exact ⟨2, rfl, by decide, rfl⟩
theorem all0 {S : PS} (G : Gx S []) (h : S.ts = []) (b : Bool) : S.own b = List.replicate (S.own b).length 0 := by
  refine List.ext_getElem? fun i => ?_
  rw [List.getElem?_replicate]
  by_cases hi : i < (S.own b).length
  · rw [if_pos hi, G.cnt b i hi]
    congr 1
    refine List.length_eq_zero_iff.mpr (List.eq_nil_iff_forall_not_mem.mpr fun z hz => ?_)
    have := (G.owVal hz).1
    rw [h] at this
    cases this
  · rw [if_neg hi, List.getElem?_eq_none (by omega)]
/-- the checks behind a deed -/
def tChk (K : PySem.W.Frag) : TS := fun D σ H => ∃ (a0 a1 a2 a7 a9 a10 a11 a12 a13 : Option V) (g : Col) (r lp b0 : Addr) (S S0 : PS) (pk pk0 : Int × Int → Int) (ls0 : List (Int × Int)) (bs0 : List Addr),
  σ = [a0, a1, a2, some (.int (S.fr : Int)), some (.int (S.sl : Int)), some (.ref r), some (.ref lp), a7, some (.ref b0), a9, a10, a11, a12, a13] ∧ Live g H ∧ RoA K g H r S ∧ LpA g H lp S.ts (mOf S pk) ∧ Std S pk [] ∧ (∀ z, (S.e z).isSome = true → 0 ≤ pk z) ∧
  H b0 = some (.lst (bs0.map V.ref)) ∧ PlL K H S0 pk0 ls0 bs0 ∧ ls0.length ≤ 200 ∧ (frst (S.own false) ≠ none → ∀ z n m, S0.e z = some (.at false n) → S.e z ≠ some (.at true m)) ∧
  ∀ H' b' bs', Same H H' → H b' = none → H' b' = some (.lst (bs'.map V.ref)) → PlL K H' S pk S.all bs' → D.nx [a0, a1, a2, some (.int (S.fr : Int)), some (.int (S.sl : Int)), some (.ref r), some (.ref lp), a7, some (.ref b'), a9, a10, a11, a12, some (.ref b')] H'
section
variable {P : Program} {w : World} {K : PySem.W.Frag} {mg : Str → Option Value} {base : Heap}
theorem ok_law (T : Tx K mg) {fd : FuncData} (F : FunD K "law" "law" (defArgs st_law) (defBody st_law) (defScope st_law) [] [] (He.fAd K ("law", none)) fd) :
  FnOk P w K mg base CX0 20 (He.fAd K ("law", none)) fd ["_law_script"] (spLaw K) := by
  refine F.ok sc_law (fun vs H Q E h => by obtain ⟨a, ns, rfl, _⟩ := h; rfl) fun cdv A outer s0 H vs Q E hr h => ?_
  obtain ⟨as, ns, rfl, hS, h63, hO, k⟩ := h
  have hu := hu_of hr
  have nd := sc_law.nd
  suffices hh : ∃ t, PSs (cxOf CX0 P w K mg base ["_law_script", "_law_first", "_law_tasks_here", "_law_frames", "_law_slots", "_law_rooms", "_law_pages", "_law_k", "_law_before", "_law_cell", "_law_deed_here", "_law_told_here", "_law_word_here", "_law_places_here"] "law" (defScope st_law) (He.fAd K ("law", none)) cdv A outer s0 H E).nox (defBody st_law) t ∧ t { nx := fun _ H' => Q .non H', rt := Q } (L2.start ["_law_script", "_law_first", "_law_tasks_here", "_law_frames", "_law_slots", "_law_rooms", "_law_pages", "_law_k", "_law_before", "_law_cell", "_law_deed_here", "_law_told_here", "_law_word_here", "_law_places_here"] [.ref as]) H from
    let ⟨t, h1, h2⟩ := hh; ⟨t, h1.nox, h2⟩
  refine ⟨_, pss_cons (ps_set (i := 1) nd rfl (Or.inl rfl) (pe_callB (cr_sum rfl) (by rfl) T.n_sum (by decide +kernel) (pa_cons (pe_slice sl_list (pv 0) po_none (po_some pe_int)) pa_nil)))
    (pss_cons (ps_set (i := 2) nd rfl (Or.inl rfl) (pe_c (ok_Tasks T) T.g_law_tasks (hr.mono (by decide)) (pa_cons (pe_op op_fdiv (pv 1) pe_int) pa_nil)))
    (pss_cons (ps_asg (pe_c (ok_Sizes T) T.g_law_sizes (hr.mono (by decide)) (pa_cons (pe_op op_fdiv (pv 1) pe_int) pa_nil)) (pg_tup rfl (pgs_cons (pg_name (i := 3) nd rfl (Or.inl rfl)) (pgs_cons (pg_name (i := 4) nd rfl (Or.inl rfl)) pgs_nil))))
    (pss_cons (ps_set (i := 5) nd rfl (Or.inl rfl) (pe_mk T.k_Rooms (ok_RoInit T) T.g_Rooms (hr.mono (by decide)) (pa_cons (pv 3) (pa_cons (pv 4) pa_nil))))
    (pss_cons (ps_set (i := 6) nd rfl (Or.inl rfl) pe_dnewK)
    (pss_cons (ps_for PassesOwn.never rfl (pi_range1 rfl T.n_range (pa_cons (pe_op op_add pe_int (pe_op op_mod (pe_op op_fdiv (pv 1) pe_int) pe_int)) pa_nil)) (pg_name (i := 7) nd rfl (Or.inl rfl))
      (pss_cons (ps_expr (pe_m (pv 5) T.c_Rooms T.m_Rooms_begin (ok_Begin T) (hr.mono (by decide)) (pa_cons (pe_ix ix_list (pv 2) (pv 7) (fun _ _ => rfl)) pa_nil)))
        (pss_one (ps_dput hu (pv 6) (pe_ix ix_list (pv 2) (pv 7) (fun _ _ => rfl)) pe_dnewK rfl))))
    (pss_cons (ps_set (i := 8) nd rfl (Or.inl rfl) (pe_lst pa_nil))
    (pss_cons (ps_for PassesOwn.never rfl (pi_enum (by rfl) T.n_enumerate (pa_cons (pe_slice sl_list (pv 0) po_none (po_some pe_int)) pa_nil)) (pg_tup rfl (pgs_cons (pg_name (i := 7) nd rfl (Or.inl rfl)) (pgs_cons (pg_name (i := 9) nd rfl (Or.inl rfl)) pgs_nil)))
      (pss_cons (ps_set (i := 10) nd rfl (Or.inl rfl) (pe_c (ok_Deed T) T.g_law_deed (hr.mono (by decide)) (pa_cons (pe_c (ok_Number T) T.g_law_number (hr.mono (by decide)) (pa_cons (pv 9) (pa_cons (pv 7) (pa_cons (pe_cmpR op_eq (pe_op op_mod (pv 1) pe_int) pe_int (nomark _)) pa_nil)))) (pa_cons (pv 2) pa_nil))))
      (pss_cons (ps_asg (pe_c (ok_Told T) T.g_law_told (hr.mono (by decide)) (pa_cons (pv 5) (pa_cons (pv 10) pa_nil))) (pg_tup rfl (pgs_cons (pg_name (i := 11) nd rfl (Or.inl rfl)) (pgs_cons (pg_name (i := 12) nd rfl (Or.inl rfl)) pgs_nil))))
      (pss_cons (ps_if (pt_cmpR op_eq (pv 12) pe_str (nomark _)) (pss_one (ps_expr (pe_c (ok_Mapped T) T.g_law_mapped (hr.mono (by decide)) (pa_cons (pv 6) (pa_cons (pv 10) (pa_cons (pv 7) pa_nil)))))) pss_nil)
      (pss_cons (ps_if (pt_wk (t' := tNo condB) (PW.pt (pw_and (pt_cmpR op_in_seq (pv 12) (pe_lst (pa_cons pe_str (pa_cons pe_str pa_nil))) (by rfl)) (pw_and1 (pt_cmpR op_notIn_seq (pe_ix ix_tup (pv 10) pe_int (fun _ _ => rfl)) (pe_lst (pa_cons pe_str (pa_cons pe_str pa_nil))) (by rfl))))) (fun σ H2 Q2 hc => by
          obtain ⟨⟨nm, d, da, dl, h12, h10, hda, hcase⟩, kk⟩ := hc
          refine ⟨_, h12, by decide, fun q hq => ?_⟩
          have s1 := same_new (o := .lst [V.str "other", V.str "NoRoom"]) (Same.refl H2) hq
          refine ⟨q, _, rfl, .inl (SqL.of upd_same), rfl, by decide +kernel, _, rfl, ?_⟩
          cases hi : inV (.str nm) [V.str "other", V.str "NoRoom"] with
          | false => exact iteF (kk _ s1)
          | true =>
            have hroom : d.room = true := by
              rcases hcase with rfl | ⟨hn, hroom⟩
              · exact absurd hi (by decide +kernel)
              cases hd : d.room with
              | true => rfl
              | false =>
                have hne := hroom hd
                rcases exc_cases hn with rfl | rfl | rfl | rfl
                · exact absurd hi (by decide +kernel)
                · exact absurd hi (by decide +kernel)
                · exact absurd rfl hne
                · exact absurd hi (by decide +kernel)
            refine iteT ?_
            refine ⟨_, h10, da, _, _, _, rfl, rfl, SqT.of (s1 _ _ hda), nm_at d, by decide, fun q2 hq2 => ⟨q2, _, rfl, .inl (SqL.of upd_same), rfl, by decide +kernel, _, rfl, ?_⟩⟩
            have e : (!inV (.str d.nm) [V.str "map", V.str "copy"]) = false := by
              cases d with
              | map t p n => show (!inV (.str ("map" : Str)) [V.str "map", V.str "copy"]) = false; decide +kernel
              | copy t u => show (!inV (.str ("copy" : Str)) [V.str "map", V.str "copy"]) = false; decide +kernel
              | begin t => cases hroom
              | close t => cases hroom
              | drop t p n => cases hroom
              | peek t p n => cases hroom
              | poke t p n => cases hroom
            exact e ▸ kk _ (same_new s1 (s1.free hq2)))) (pss_one ps_never) pss_nil)
      (pss_cons (ps_if (pt_wk (t' := tNo (condC K)) (PW.pt (pw_and (pt_cmpR op_eq (pv 12) pe_str (nomark _)) (pw_and (pt_cmpR op_in_seq (pe_ix ix_tup (pv 10) pe_int (fun _ _ => rfl)) (pe_lst (pa_cons pe_str (pa_cons pe_str pa_nil))) (by rfl)) (pw_and1 (pt_not (pt_val (pe_c (ok_Met T) T.g_law_met (hr.mono (by decide)) (pa_cons (pv 5) (pa_cons (pv 10) pa_nil))))))))) (fun σ H2 Q2 hc => by
          obtain ⟨⟨nm, d, da, dl, h12, h10, D, hcase⟩, kk⟩ := hc
          refine ⟨_, h12, rfl, _, rfl, ?_⟩
          rcases hcase with hn | ⟨rfl, hey⟩
          · exact strF (exc_no hn) (kk H2 (Same.refl H2))
          refine strT ?_
          refine ⟨_, h10, da, _, _, _, rfl, rfl, SqT.of D.tup, nm_at d, by decide, fun q hq => ⟨q, _, rfl, .inl (SqL.of upd_same), rfl, by decide +kernel, _, rfl, ?_⟩⟩
          have s1 := same_new (o := .lst [V.str "peek", V.str "poke"]) (Same.refl H2) hq
          have e : inV (.str d.nm) [V.str "peek", V.str "poke"] = d.eyes := by
            cases d with
            | map t p n => show inV (.str ("map" : Str)) [V.str "peek", V.str "poke"] = false; decide +kernel
            | copy t u => show inV (.str ("copy" : Str)) [V.str "peek", V.str "poke"] = false; decide +kernel
            | begin t => show inV (.str ("begin" : Str)) [V.str "peek", V.str "poke"] = false; decide +kernel
            | close t => show inV (.str ("close" : Str)) [V.str "peek", V.str "poke"] = false; decide +kernel
            | drop t p n => show inV (.str ("drop" : Str)) [V.str "peek", V.str "poke"] = false; decide +kernel
            | peek t p n => show inV (.str ("peek" : Str)) [V.str "peek", V.str "poke"] = true; decide +kernel
            | poke t p n => show inV (.str ("poke" : Str)) [V.str "peek", V.str "poke"] = true; decide +kernel
          rw [e]
          cases he : d.eyes with
          | false => exact iteF (kk _ s1)
          | true =>
            refine iteT ?_
            obtain ⟨g, r, S, h5, L2', X2, M⟩ := hey he
            exact ⟨_, h5, _, h10, _, _, rfl, g, r, S, da, dl, d, rfl, rfl, X2.same L2' s1, ⟨s1 _ _ D.tup, fun t c cs q => s1 _ _ (D.lst t c cs q)⟩, M, fun H5 s5 => ⟨true, rfl, kk _ (s1.trans s5)⟩⟩)) (pss_one ps_never) pss_nil)
      (pss_wk (t' := tChk K) (pss_cons (ps_set (i := 13) nd rfl (Or.inl rfl) (pe_c (ok_Places T) T.g_law_places (hr.mono (by decide)) (pa_cons (pv 5) (pa_cons (pv 6) pa_nil))))
        (pss_cons (ps_if (PW.pt (pw_or (pt_not (pt_val (pe_c (ok_Standing T) T.g_law_standing (hr.mono (by decide)) (pa_cons (pv 13) (pa_cons (pv 3) (pa_cons (pv 4) pa_nil)))))) (pw_or1 (pt_not (pt_val (pe_c (ok_Counted T) T.g_law_counted (hr.mono (by decide)) (pa_cons (pv 5) (pa_cons (pv 13) (pa_cons (pv 3) (pa_cons (pv 4) pa_nil)))))))))) (pss_one ps_never) pss_nil)
        (pss_cons (ps_if (PW.pt (pw_or (pt_not (pt_val (pe_c (ok_PO T) T.g_law_put_out (hr.mono (by decide)) (pa_cons (pv 8) (pa_cons (pv 13) (pa_cons (pe_c (ok_Owners T) T.g_law_owners (hr.mono (by decide)) (pa_cons (pv 13) (pa_cons (pv 3) (pa_cons (pv 4) pa_nil)))) pa_nil)))))) (pw_or1 (pt_not (pt_val (pe_c (ok_Out T) T.g_law_out (hr.mono (by decide)) (pa_cons (pv 5) (pa_cons (pv 6) pa_nil)))))))) (pss_one ps_never) pss_nil)
        (pss_one (ps_set (i := 8) nd rfl (Or.inl rfl) (pv 13)))))) (fun D σ H2 hc => by
          obtain ⟨c0, c1, c2, c7, c9, c10, c11, c12, c13, g, r, lp, b0, S, S0, pk, pk0, ls0, bs0, rfl, L2', X2, Y2, st, pos, hb0, PL0, h200, fr, kk⟩ := hc
          refine ⟨_, rfl, _, rfl, _, _, rfl, g, r, lp, S, pk, rfl, rfl, L2', X2, Y2, fun b' H3 bs' s3 hb'0 hb'3 P3 => ?_⟩
          have X3 := X2.same L2' s3
          have L3 : Live g H3 := (Grow.same (R := fun _ => false) L2' s3).live L2'
          obtain ⟨kl, Y2⟩ := Y2
          refine ⟨_, rfl, _, rfl, _, rfl, _, _, _, rfl, S, pk, b', bs', rfl, rfl, rfl, SqL.of hb'3, P3, X2.gx, st, pos, fun H4 s4 => ⟨true, rfl, iteF ?_⟩⟩
          have s34 := s3.trans s4
          have X4 := X2.same L2' s34
          have L4 : Live g H4 := (Grow.same (R := fun _ => false) L2' s34).live L2'
          have P4 := P3.keep fun a xs e => s4 _ _ e
          refine ⟨_, rfl, _, rfl, _, rfl, _, rfl, _, _, _, _, rfl, g, r, S, pk, b', bs', rfl, rfl, rfl, rfl, L4, X4, SqL.of (s4 _ _ hb'3), P4, st, pos, fun H5 s5 => ⟨true, rfl, iteF ?_⟩⟩
          have s35 := s34.trans s5
          have X5 := X2.same L2' s35
          have L5 : Live g H5 := (Grow.same (R := fun _ => false) L2' s35).live L2'
          have s45 := s4.trans s5
          have P5 := P3.keep fun a xs e => s45 _ _ e
          refine ⟨_, rfl, _, rfl, _, rfl, _, rfl, _, rfl, _, _, _, rfl, S, pk, b', bs', rfl, rfl, rfl, SqL.of (s45 _ _ hb'3), P5, X2.gx, st, pos, fun tp f s' H6 s6 _ _ _ _ htp6 hf6 _ => ?_⟩
          have s36 := s35.trans s6
          have s46 := s45.trans s6
          refine ⟨_, _, _, rfl, S0, S, pk0, pk, b0, b', tp, f, s', ls0, S.all, bs0, bs', rfl, rfl, rfl, SqL.of (s36 _ _ hb0), PL0.keep (fun a xs e => s36 _ _ e), h200, SqL.of (s46 _ _ hb'3), P3.keep (fun a xs e => s46 _ _ e), htp6, hf6, fr, fun H7 s7 => ⟨true, rfl, iteF ?_⟩⟩
          have s37 := s36.trans s7
          have s47 := s46.trans s7
          have X7 := X2.same L2' s37
          have L7 : Live g H7 := (Grow.same (R := fun _ => false) L2' s37).live L2'
          refine ⟨_, rfl, _, rfl, _, _, rfl, g, r, lp, S, pk, rfl, rfl, L7, X7, ⟨kl, Y2.same L2' s37⟩, fun H8 s8 => ⟨true, rfl, iteF ?_⟩⟩
          exact ⟨_, rfl, kk H8 b' bs' (s37.trans s8) hb'0 (s8 _ _ (s47 _ _ hb'3)) (P3.keep fun a xs e => s8 _ _ (s47 _ _ e))⟩))))))))
    (pss_one (ps_ret (pe_and (pe_c (ok_Closed T) T.g_law_closed (hr.mono (by decide)) (pa_cons (pv 5) (pa_cons (pv 6) (pa_cons (pe_op op_fdiv (pv 1) pe_int) pa_nil)))) (pe_one (pe_cmpR (op_eqD hr.units) (pe_m0 (pv 5) T.c_Rooms T.m_Rooms_counts (ok_Counts T) (hr.mono (by decide))) (pe_tup (pa_cons (pe_op op_rep (pe_lst (pa_cons pe_int pa_nil)) (pv 3)) (pa_cons (pe_op op_rep (pe_lst (pa_cons pe_int pa_nil)) (pv 4)) pa_nil))) (nomark _))))))))))))), ?_⟩
  -- first, tasks, sizes
  have ct1 : cutV (ns.map V.int) none (some 1) = (ns.take 1).map V.int := by
    have := cut_take (ns.map V.int) 1
    rw [List.map_take]
    exact this
  have ct63 : cutV (ns.map V.int) none (some 63) = (ns.take 63).map V.int := by
    have := cut_take (ns.map V.int) 63
    rw [List.map_take]
    exact this
  refine ⟨_, rfl, 1, rfl, as, _, rfl, hS, fun q hq => ?_⟩
  have s1 := same_new (o := .lst (cutV (ns.map V.int) none (some 1))) (Same.refl H) hq
  refine ⟨q, ns.take 1, rfl, SqL.of (by rw [upd_same, ct1]), ?_⟩
  generalize upd H q (.lst (cutV (ns.map V.int) none (some 1))) = H1 at *
  generalize (ns.take 1).sum = first
  refine ⟨_, rfl, _, _, rfl, rfl, ⟨by decide, by decide⟩, _, rfl, _, rfl, fun tq H2 ta tb s2 htq0 htq => ?_⟩
  refine ⟨_, rfl, _, _, rfl, rfl, ⟨by decide, by decide⟩, _, rfl, _, rfl, fun tp H3 fr sl s3 htp h2 h60 hs60 => ?_⟩
  refine ⟨tp, _, rfl, SqT.of htp, rfl, _, _, rfl, _, _, rfl, rfl, ?_⟩
  have s13 := (s1.trans s2).trans s3
  have htq3 := s3 _ _ htq
  have hS3 : SqL K H3 as (ns.map V.int) := s13.seq hS
  -- Rooms(..)
  have L0 : Live (fun _ => none) H3 := fun a r h => by cases h
  refine ⟨_, rfl, _, rfl, fun r rd hrn hrd nrd => ?_⟩
  have Ga : Grow isRo (fun _ => none) H3 (fun _ => none) (upd H3 rd (.own r)) := Grow.temp L0 hrd
  have La := Ga.live L0
  have hr' : upd H3 rd (.own r) r = none := by rw [upd_ne nrd.symm]; exact hrn
  have Gb : Grow isRo (fun _ => none) (upd H3 rd (.own r)) (updC (fun _ => none) r .rob) (upd (upd H3 rd (.own r)) r (.ins (cRo K) rd [])) := Grow.made La hr' rfl
  have Lb := Gb.live La
  refine ⟨_, _, _, rfl, _, r, rd, fr, sl, rfl, rfl, rfl, h2, h60, hs60, Lb, Pt.mk', fun g4 H4 G4 X4 => ⟨rfl, ?_⟩⟩
  have G04 : Grow (fun _ => true) (fun _ => none) H3 g4 H4 := ((Ga.trans Gb).trans G4).mono fun _ _ => rfl
  have L4 := G4.live Lb
  -- pages = {}
  intro lp hlp
  have G5 : Grow (fun q => q == .lpd) g4 H4 (updC g4 lp .lpd) (upd H4 lp (.dK [])) := Grow.made L4 hlp (by simp)
  have L5 := G5.live L4
  have X5 : RoA K (updC g4 lp .lpd) (upd H4 lp (.dK [])) r (PS.new fr sl) := X4.keep G5 (Ro_ne rfl)
  have Y5 : LpA (updC g4 lp .lpd) (upd H4 lp (.dK [])) lp [] (mOf (PS.new fr sl) fun _ => 0) := ⟨[], Pt.mk', rfl, List.nodup_nil, Nat.zero_le _, fun t v e => (by cases e), fun t q h => (by cases h)⟩
  have G05 : Grow (fun _ => true) (fun _ => none) H3 (updC g4 lp .lpd) (upd H4 lp (.dK [])) := G04.trans (G5.mono fun _ _ => rfl)
  generalize updC g4 lp .lpd = g5 at *
  generalize upd H4 lp (.dK []) = H5 at *
  have cnone : ∀ {g H'} {R : Role → Bool}, Grow R (fun _ => none) H3 g H' → ∀ a, H3 a ≠ none → g a = none := fun G a n => G.col a n
  have ntq : H3 tq ≠ none := by rw [htq3]; simp
  have hS5 : ∀ {g H'}, Grow (fun _ => true) (fun _ => none) H3 g H' → SqL K H' as (ns.map V.int) := fun G => sql_grow hS3 rfl G
  have tq5 : ∀ {g H'}, Grow (fun _ => true) (fun _ => none) H3 g H' → H' tq = some (.lst (([1, 2, ta, tb] : List Int).map V.int)) := fun G => G.fr tq _ htq3 fun r q => by cases q
  have m2 := md (x := first / 8) (m := 2) (by decide)
  refine ⟨_, rfl, _, _, rfl, rfl, ⟨by decide, by decide⟩, _, _, rfl, rfl, (by show (0 : Int) < 2; decide), _, _, rfl, rfl, _, rfl, by omega, by omega, for_range (lo := 0) (n := (1 + first / 8 % 2).toNat) (fun i σ H6 => ∃ (v7 : Option V) (g6 : Col) (S : PS), σ = [some (.ref as), some (.int first), some (.ref tq), some (.int (fr : Int)), some (.int (sl : Int)), some (.ref r), some (.ref lp), v7, none, none, none, none, none, none] ∧ Grow (fun _ => true) (fun _ => none) H3 g6 H6 ∧ RoA K g6 H6 r S ∧ LpA g6 H6 lp S.ts (mOf S fun _ => 0) ∧
    S.ts = ([1, 2] : List Int).take i ∧ (∀ t q, S.pl t q = none) ∧ S.fr = fr ∧ S.sl = sl) ?_ ?_ ?_⟩
  · exact ⟨none, g5, PS.new fr sl, rfl, G05, X5, Y5, rfl, fun _ _ => rfl, rfl, rfl⟩
  · rintro i σ H6 hi ⟨v7, g6, S, rfl, G6, X6, ⟨kl, Y6⟩, ts6, p6, f6, l6⟩
    have hi2 : i < 2 := by omega
    obtain ⟨t, hget, hnin, hnext⟩ := first2 (ta := ta) (tb := tb) hi2
    have L6 := G6.live L0
    have tq6 := tq5 G6
    have hnt : t ∉ S.ts := by rw [ts6]; exact hnin
    have hts : S.ts.length < 1000 := by rw [ts6, List.length_take]; omega
    have hat : atI (([1, 2, ta, tb] : List Int).map V.int) (0 + (i : Int)) = some (.int t) := by
      rw [Int.zero_add]
      refine atI_nat ?_
      rw [List.getElem?_map, hget]
      rfl
    obtain ⟨dx, p, hro⟩ := X6.rob
    refine ⟨_, rfl, r, dx, _, rfl, hro, by kernel_rfl, _, rfl, _, rfl, tq, _, _, _, rfl, rfl, SqL.of tq6, hat, _, _, rfl, g6, r, S, t, rfl, rfl, L6, X6, hts, fun h => absurd h hnt, fun _ g7 H7 G7 X7 => ?_⟩
    have L7 := G7.live L6
    have Y7 := Y6.keep G7 Lp_Rm
    have G37 : Grow (fun _ => true) (fun _ => none) H3 g7 H7 := G6.trans (G7.mono fun _ _ => rfl)
    intro d hd
    have tq7 := tq5 G37
    obtain ⟨dp, G8, Y8⟩ := Y7.newT L7 (ks := []) (f := fun _ => none) hnt hd hts List.nodup_nil (fun _ => rfl) (fun _ h => by cases h)
    have tq7' : upd H7 d (.dK []) tq = some (.lst (([1, 2, ta, tb] : List Int).map V.int)) := by rw [upd_ne (ne_of_none tq7 hd)]; exact tq7
    refine ⟨_, rfl, _, rfl, _, rfl, tq, _, _, _, rfl, rfl, SqL.of tq7', hat, lp, _, rfl, dp, ?_⟩
    refine ⟨_, _, S.begin t, rfl, G37.trans (G8.mono fun _ _ => rfl), X7.keep G8 Ro_Lp, ⟨_, Y8.congr fun u x => ?_⟩, by rw [hnext, ← ts6]; rfl, p6, f6, l6⟩
    have em : mOf (S.begin t) (fun _ => 0) u x = none := by
      unfold mOf
      rw [show (S.begin t).pl u x = none from p6 u x]
      rfl
    have em2 : mOf S (fun _ => 0) u x = none := by
      unfold mOf
      rw [p6 u x]
      rfl
    rw [em]
    unfold setR
    by_cases z : u = t
    · rw [if_pos z]
    · rw [if_neg z]; exact em2
  · rintro σ H6 ⟨v7, g6, S1, rfl, G6, X6, Y6, ts6, p6, f6, l6⟩
    -- before = []
    refine ⟨by decide, fun b0 hb0 => ?_⟩
    have L6 := G6.live L0
    have sb := same_new (o := .lst []) (Same.refl H6) hb0
    have Gs : Grow (fun _ => true) g6 H6 g6 (upd H6 b0 (.lst [])) := Grow.same L6 sb
    have hb1 : upd H6 b0 (.lst []) b0 = some (.lst []) := upd_same
    have X7 := X6.same L6 sb
    obtain ⟨kl, Y6⟩ := Y6
    have Y7 := Y6.same L6 sb
    have cb : g6 b0 = none := L6.none hb0
    generalize upd H6 b0 (.lst []) = H7 at *
    have G7 := G6.trans Gs
    have L7 := G7.live L0
    refine ⟨_, rfl, 63, rfl, as, _, rfl, hS5 G7, fun q2 hq2 => ?_⟩
    rw [ct63]
    have sq := same_new (o := .lst ((ns.take 63).map V.int)) (Same.refl H7) hq2
    have Gq : Grow (fun _ => true) g6 H7 g6 (upd H7 q2 (.lst ((ns.take 63).map V.int))) := Grow.same L7 sq
    have F2 : Fz g6 (upd H7 q2 (.lst ((ns.take 63).map V.int))) q2 (.lst ((ns.take 63).map V.int)) := Fz.new L7 hq2
    have X8 := X7.same L7 sq
    have Y8 := Y7.same L7 sq
    have hb8 := sq _ _ hb1
    generalize upd H7 q2 (.lst ((ns.take 63).map V.int)) = H8 at *
    have G8 := G7.trans Gq
    have L8 := G8.live L0
    have n63 : ((ns.take 63).map V.int).length ≤ 63 := by rw [List.length_map, List.length_take]; omega
    subst f6 l6
    refine ⟨q2, _, rfl, SqL.of F2.h, for_it (walk_enum (xs := (ns.take 63).map V.int)) (fun i σ H9 => ∃ (v7 v9 v10 v11 v12 v13 : Option V) (g9 : Col) (S : PS) (pk : Int × Int → Int) (b : Addr) (ls0 : List (Int × Int)) (bs0 : List Addr), σ = [some (.ref as), some (.int first), some (.ref tq), some (.int (S.fr : Int)), some (.int (S.sl : Int)), some (.ref r), some (.ref lp), v7, some (.ref b), v9, v10, v11, v12, v13] ∧
      Grow (fun _ => true) g6 H8 g9 H9 ∧ RoA K g9 H9 r S ∧ LpA g9 H9 lp S.ts (mOf S pk) ∧ Std S pk [] ∧ (∀ z, (S.e z).isSome = true → 0 ≤ pk z ∧ pk z ≤ 64 * (i : Int)) ∧ (∀ t, t ∈ S.ts → t ∈ ([1, 2, ta, tb] : List Int)) ∧ S.fr = S1.fr ∧ S.sl = S1.sl ∧
      g9 b = none ∧ H9 b = some (.lst (bs0.map V.ref)) ∧ PlL K H9 S pk ls0 bs0 ∧ ls0.length ≤ 200) ?_ ?_ ?_ ?_⟩
    · have no : ∀ z, (S1.e z).isSome = true → False := fun z hz => by
        have hz : (S1.pl z.1 z.2).isSome = true := hz
        rw [p6] at hz
        cases hz
      refine ⟨v7, none, none, none, none, none, g6, S1, fun _ => 0, b0, [], [], rfl, Grow.refl L8, X8, ⟨kl, Y8⟩, ⟨fun z hz => (no z hz).elim, fun z y hz => (no z hz).elim⟩, fun z hz => (no z hz).elim, fun t ht => ?_, rfl, rfl, cb, hb8, .nil, Nat.zero_le _⟩
      rw [ts6] at ht
      have := List.mem_of_mem_take ht
      simp only [List.mem_cons, List.not_mem_nil, or_false] at this ⊢
      omega
    · rintro i σ H9 hi ⟨v7, v9, v10, v11, v12, v13, g9, S, pk, b, ls0, bs0, rfl, G9, _⟩
      exact SqL.of (F2.keep G9).h
    · rintro i x σ H9 H9' hi ⟨v7, v9, v10, v11, v12, v13, g9, S, pk, b, ls0, bs0, rfl, G9, X9, Y9, st, bd, tsub, f9, l9, cb9, hb9, P9, h200⟩ ⟨Tp, x0, y0, rfl, hTp, rfl, e1, e2⟩
      cases e1
      obtain ⟨cell, _, rfl⟩ := at_map e2
      have L9 := G9.live L8
      have sT := same_new (o := .tup [V.int (i : Int), V.int cell]) (Same.refl H9) hTp
      have hT1 : upd H9 Tp (.tup [V.int (i : Int), V.int cell]) Tp = some (.tup [V.int (i : Int), V.int cell]) := upd_same
      generalize upd H9 Tp (.tup [V.int (i : Int), V.int cell]) = HA at *
      have hts := few_ts X9.gx tsub rfl
      have G39 : Grow (fun _ => true) (fun _ => none) H3 g9 H9 := G8.trans G9
      have tqA := sT _ _ (tq5 G39)
      have LA : Live g9 HA := (Grow.same (R := fun _ => false) L9 sT).live L9
      refine ⟨Tp, _, rfl, SqT.of hT1, rfl, _, _, rfl, _, _, rfl, rfl, ?_⟩
      -- the deed
      refine ⟨_, rfl, _, rfl, _, rfl, _, _, rfl, rfl, (by show (0 : Int) < 2; decide), rfl, _, _, _, rfl, cell, (i : Int), _, rfl, rfl, rfl, fun z => ?_⟩
      refine ⟨_, rfl, _, _, rfl, z, tq, [1, 2, ta, tb], rfl, rfl, SqL.of tqA, rfl, fun da dl d HB sB hdl0 hda hdl dok => ?_⟩
      have s9B := sT.trans sB
      have XB := X9.same L9 s9B
      obtain ⟨kl9, Y9⟩ := Y9
      have YB := Y9.same L9 s9B
      have LB : Live g9 HB := (Grow.same (R := fun _ => false) L9 s9B).live L9
      have cdl : g9 dl = none := LA.none hdl0
      have DV : DeedV HB da d dl := ⟨hda, hdl⟩
      have d64 : d.cs.length ≤ 64 := by
        cases d with
        | poke t c cs => exact dok.2
        | begin t => exact Nat.zero_le _
        | close t => exact Nat.zero_le _
        | map t p n => exact Nat.zero_le _
        | drop t p n => exact Nat.zero_le _
        | peek t a n => exact Nat.zero_le _
        | copy t u => exact Nat.zero_le _
      have hbB := s9B _ _ hb9
      have PB := P9.keep fun a xs e => s9B _ _ e
      have GB : Grow (fun _ => true) g6 H8 g9 HB := G9.trans (Grow.same L9 s9B)
      -- behind the checks
      have done : ∀ (gC : Col) (HC : Hp) (S' : PS) (pk' : Int × Int → Int) (u10 u11 u12 : Option V) (HD : Hp) (b' : Addr) (bs' : List Addr), Grow (fun _ => true) g6 H8 gC HC → RoA K gC HC r S' → LpA gC HC lp S'.ts (mOf S' pk') → Std S' pk' [] → (∀ z, (S'.e z).isSome = true → 0 ≤ pk' z ∧ pk' z ≤ 64 * ((i : Int) + 1)) → (∀ t, t ∈ S'.ts → t ∈ ([1, 2, ta, tb] : List Int)) → S'.fr = S.fr → S'.sl = S.sl →
          Same HC HD → HC b' = none → HD b' = some (.lst (bs'.map V.ref)) → PlL K HD S' pk' S'.all bs' → ∃ (v7 v9 v10 v11 v12 v13 : Option V) (g9 : Col) (S : PS) (pk : Int × Int → Int) (b : Addr) (ls0 : List (Int × Int)) (bs0 : List Addr), ([some (.ref as), some (.int first), some (.ref tq), some (.int (S'.fr : Int)), some (.int (S'.sl : Int)), some (.ref r), some (.ref lp), some (.int (i : Int)), some (.ref b'), some (.int cell), u10, u11, u12, some (.ref b')] : L2.St) = [some (.ref as), some (.int first), some (.ref tq), some (.int (S.fr : Int)), some (.int (S.sl : Int)), some (.ref r), some (.ref lp), v7, some (.ref b), v9, v10, v11, v12, v13] ∧
          Grow (fun _ => true) g6 H8 g9 HD ∧ RoA K g9 HD r S ∧ LpA g9 HD lp S.ts (mOf S pk) ∧ Std S pk [] ∧ (∀ z, (S.e z).isSome = true → 0 ≤ pk z ∧ pk z ≤ 64 * ((i + 1 : Nat) : Int)) ∧ (∀ t, t ∈ S.ts → t ∈ ([1, 2, ta, tb] : List Int)) ∧ S.fr = S1.fr ∧ S.sl = S1.sl ∧
          g9 b = none ∧ HD b = some (.lst (bs0.map V.ref)) ∧ PlL K HD S pk ls0 bs0 ∧ ls0.length ≤ 200 := by
        intro gC HC S' pk' u10 u11 u12 HD b' bs' GC XC ⟨kC, YC⟩ stC bdC tsC fC lC sCD hb'0 hb' PD
        have LC := GC.live L8
        exact ⟨_, _, _, _, _, _, gC, S', pk', b', S'.all, bs', rfl, GC.trans (Grow.same LC sCD), XC.same LC sCD, ⟨kC, YC.same LC sCD⟩, stC, fun z hz => by have := bdC z hz; omega, tsC, fC.trans f9, lC.trans l9, LC.none hb'0, hb', PD, Nat.le_trans XC.gx.allLen (by decide)⟩
      refine ⟨_, rfl, _, rfl, _, _, rfl, g9, r, S, da, dl, d, rfl, rfl, LB, XB, DV, d64, hts, fun tp3 HC v nm sC hnm hroom htp3 => ?_, fun S' dn tp3 v gC HC GC ⟨XC, htp3⟩ => ?_⟩
      · -- refused
        have sBC := sC
        refine ⟨tp3, _, rfl, SqT.of htp3, rfl, _, _, rfl, _, _, rfl, rfl, ?_⟩
        refine ⟨_, rfl, rfl, _, rfl, strF (exc_no hnm) ?_⟩
        refine ⟨⟨nm, d, da, dl, rfl, rfl, sC _ _ hda, .inr ⟨hnm, hroom⟩⟩, fun HD sD => iteF ?_⟩
        have sBD := sC.trans sD
        refine ⟨⟨nm, d, da, dl, rfl, rfl, ⟨sBD _ _ hda, fun t c cs q => sBD _ _ (hdl t c cs q)⟩, .inl hnm⟩, fun HE sE => iteF ?_⟩
        have sBE := sBD.trans sE
        have LE : Live g9 HE := (Grow.same (R := fun _ => false) LB sBE).live LB
        refine ⟨_, _, _, _, _, _, _, _, _, g9, r, lp, b, S, S, pk, pk, ls0, bs0, rfl, LE, XB.same LB sBE, ⟨kl9, YB.same LB sBE⟩, st, fun z hz => (bd z hz).1, sBE _ _ hbB, PB.keep (fun a xs e => sBE _ _ e), h200, FrD.stay fun z _ => .inr rfl, fun HF b' bs' sF hb'0 hb' PF => ?_⟩
        exact done g9 HE S pk _ _ _ HF b' bs' (GB.trans (Grow.same LB sBE)) (XB.same LB sBE) ⟨kl9, YB.same LB sBE⟩ st (fun z hz => by have := bd z hz; omega) tsub rfl rfl sF hb'0 hb' PF
      · -- done
        have LC := GC.live LB
        have YC := YB.keep GC Lp_Rm
        have gx' := XC.gx
        have kept := dn_law X9.gx gx' st bd (by omega) dn
        have ts' := dn_ts dn dok tsub
        have daC := GC.tup _ _ hda
        refine ⟨tp3, _, rfl, SqT.of htp3, rfl, _, _, rfl, _, _, rfl, rfl, ?_⟩
        refine ⟨_, rfl, rfl, _, rfl, strT ?_⟩
        have dlC : ∀ t c cs, d = .poke t c cs → HC dl = some (.lst (cs.map V.int)) := fun t c cs q => GC.fr dl _ (hdl t c cs q) fun r q => by rw [cdl] at q; cases q
        refine ⟨_, rfl, _, rfl, _, rfl, _, _, _, rfl, gC, lp, da, dl, S, S', pk, d, (i : Int), rfl, rfl, rfl, LC, ⟨kl9, YC⟩, ⟨daC, dlC⟩, X9.gx, hts, dn, fun gD HD GD YD => ?_⟩
        have LD := GD.live LC
        have XD : RoA K gD HD r S' := XC.keep GD Ro_Lp
        have daD := GD.tup _ _ daC
        have dlD : ∀ t c cs, d = .poke t c cs → HD dl = some (.lst (cs.map V.int)) := fun t c cs q => GD.fr dl _ (dlC t c cs q) fun r q2 => by
          rw [GC.col dl (by rw [hdl t c cs q]; simp), cdl] at q2
          cases q2
        refine ⟨⟨"", d, da, dl, rfl, rfl, daD, .inl rfl⟩, fun HE sE => iteF ?_⟩
        have LE : Live gD HE := (Grow.same (R := fun _ => false) LD sE).live LD
        have XE := XD.same LD sE
        refine ⟨⟨"", d, da, dl, rfl, rfl, ⟨sE _ _ daD, fun t c cs q => sE _ _ (dlD t c cs q)⟩, .inr ⟨rfl, fun he => ⟨gD, r, S', rfl, LE, XE, dn_met dn he⟩⟩⟩, fun HF sF => iteF ?_⟩
        have sDF := sE.trans sF
        have LF : Live gD HF := (Grow.same (R := fun _ => false) LD sDF).live LD
        obtain ⟨klD, YD⟩ := YD
        have GBD : Grow (fun _ => true) g9 HB gD HF := ((GC.mono fun _ _ => rfl).trans (GD.mono fun _ _ => rfl)).trans (Grow.same LD sDF)
        have bF : HF b = some (.lst (bs0.map V.ref)) := GBD.fr b _ hbB fun r q => by rw [cb9] at q; cases q
        refine ⟨_, _, _, _, _, _, _, _, _, gD, r, lp, b, S', S, pkD (i : Int) pk d, pk, ls0, bs0, by rw [kept.fr, kept.sl]; rfl, LF, XD.same LD sDF, ⟨klD, YD.same LD sDF⟩, kept.st, fun z hz => (kept.bd z hz).1, bF, PB.keep GBD.tup, h200, kept.fd, fun HG b' bs' sG hb'0 hb' PG => ?_⟩
        have := done gD HF S' (pkD (i : Int) pk d) (some (.ref da)) (some v) (some (.str "")) HG b' bs' (GB.trans GBD) (XD.same LD sDF) ⟨klD, YD.same LD sDF⟩ kept.st kept.bd ts' kept.fr kept.sl sG hb'0 hb' PG
        exact this
    · rintro σ H9 ⟨v7, v9, v10, v11, v12, v13, g9, S, pk, b, ls0, bs0, rfl, G9, X9, Y9, st, bd, tsub, f9, l9, _⟩
      have L9 := G9.live L8
      have hts := few_ts X9.gx tsub rfl
      refine ⟨_, rfl, _, rfl, _, rfl, _, _, rfl, rfl, ⟨by decide, by decide⟩, _, _, _, rfl, g9, r, lp, S, pk, first / 3, rfl, rfl, rfl, L9, X9, Y9, st, hts, fun g' H' S' L' X' ts0 f0 l0 => ⟨true, rfl, iteT ?_⟩⟩
      obtain ⟨dx, p, hro⟩ := X'.rob
      refine ⟨_, rfl, r, dx, _, rfl, hro, by kernel_rfl, _, rfl, g', r, S', rfl, L', X', fun tp' f s H10 s10 htp0 hf0 hs0 nfs htp1 hf1 hs1 => ?_⟩
      have G' := X'.gx
      have hb := G'.bnd
      refine ⟨by decide, fun q1 hq1 => ⟨_, rfl, q1, (S.fr : Int), _, rfl, rfl, upd_same, by omega, by omega, by simp; exact line60 (by omega), fun fa hfa => ?_⟩⟩
      have s11 := same_new (o := .lst [V.int 0]) (Same.refl H10) hq1
      have eF : (List.replicate (S.fr : Int).toNat [V.int 0]).flatten = owV (List.replicate S.fr 0) := by rw [flat_rep, owV_rep]; rfl
      rw [eF]
      have s12 := same_new (o := .lst (owV (List.replicate S.fr 0))) s11 (s11.free hfa)
      refine ⟨by decide, fun q2' hq2' => ⟨_, rfl, q2', (S.sl : Int), _, rfl, rfl, upd_same, by omega, by omega, by simp; exact line60 (by omega), fun sa hsa => ?_⟩⟩
      have nfq : fa ≠ q2' := fun e => by rw [← e, upd_same] at hq2'; cases hq2'
      have s13' := same_new (o := .lst [V.int 0]) s12 (s12.free hq2')
      have eS : (List.replicate (S.sl : Int).toNat [V.int 0]).flatten = owV (List.replicate S.sl 0) := by rw [flat_rep, owV_rep]; rfl
      rw [eS]
      have hfa2 : upd (upd (upd H10 q1 (.lst [V.int 0])) fa (.lst (owV (List.replicate S.fr 0)))) q2' (.lst [V.int 0]) fa = some (.lst (owV (List.replicate S.fr 0))) := by rw [upd_ne nfq]; exact upd_same
      have nfs' : fa ≠ sa := fun e => by rw [← e, hfa2] at hsa; cases hsa
      have s14 := same_new (o := .lst (owV (List.replicate S.sl 0))) s13' (s13'.free hsa)
      refine ⟨(by show 2 ≤ sizeLine; decide), fun tp2 htp2 => ?_⟩
      have nft : fa ≠ tp2 := fun e => by rw [← e, upd_ne nfs', hfa2] at htp2; cases htp2
      have nst : sa ≠ tp2 := fun e => by rw [← e, upd_same] at htp2; cases htp2
      have s15 := same_new (o := .tup [V.ref fa, V.ref sa]) s14 (s14.free htp2)
      have d1 := cD_dp (K := K) (s15 _ _ htp1) (s15 _ _ hf1) (s15 _ _ hs1)
      have d2 := cD_dp (K := K) (H := upd (upd (upd (upd (upd H10 q1 (.lst [V.int 0])) fa (.lst (owV (List.replicate S.fr 0)))) q2' (.lst [V.int 0])) sa (.lst (owV (List.replicate S.sl 0)))) tp2 (.tup [V.ref fa, V.ref sa])) (tp := tp2) (a := fa) (b := sa) (f := List.replicate S.fr 0) (s := List.replicate S.sl 0) upd_same (by rw [upd_ne nft, upd_ne nfs', hfa2]) (by rw [upd_ne nst, upd_same])
      have z0 : S'.own false = List.replicate S.fr 0 := by rw [all0 G' ts0 false, G'.l0, f0]
      have z1 : S'.own true = List.replicate S.sl 0 := by rw [all0 G' ts0 true, G'.l1, l0]
      rw [z0, z1] at d1
      refine ⟨_, _, d1, d2, cD_shaped _ _, cD_shaped _ _, ?_⟩
      rw [cD_refl]
      exact k _
end

-- part K9H
abbrev RR : PySem.W.OpenRow := PySem.W.OpenLaw.row PySem.Challenge.rw_ownroom_k91_whole_counts_of_pages
def seenG (g : Addr → Option Obj) : Bool × List He.FnW := seen (He.frG g (He.asD g 5))
abbrev hk : PySem.W.Hook where
  α := Bool × List He.FnW
  obs := fun s => seenG s.heap.get?
  val := fun _ => wanted
  says := fun _ h => ∃ K : PySem.W.Frag, K.In h ∧ seen K = wanted
  of := fun _ _ e => ⟨_, He.frG_in, e⟩
  keeps := fun _ _ _ ⟨K, hK, c⟩ k => ⟨K, PySem.W.Frag.In.keeps hK k, c⟩
def ob (s : PySem.W.SharedT) : Bool × List He.FnW := seenG (HandSHeadRun.getT s)
theorem ob_eq (s : PySem.W.SharedT) : ob s = hk.obs s.abs := by
  have e : HandSHeadRun.getT s = s.abs.heap.get? := funext fun a => HandSHeadRun.getT_eq s a
  show seenG (HandSHeadRun.getT s) = seenG s.abs.heap.get?
  rw [e]
def names1 : List PySem.Str := ["_wall", "KernelError", "NoOwner", "NoTask", "NoPage", "NoRoom", "Taken", "PAGE_SIZE", "Store", "BLANK", "Paging", "STEP", "Table", "PAGES", "pages_asked", "stretches_of", "Rooms"]
def names2 : List PySem.Str := ["_law_number", "_law_tasks", "_law_page", "_law_many", "_law_address", "_law_cells", "_law_deed", "_law_do", "_law_word", "_law_told", "_law_sizes", "_law_mapped", "_law_spot", "_law_places", "_law_standing", "_law_owners", "_law_counted", "_law_put_out", "_law_met", "_law_out", "_law_closed"]
def names : List PySem.Str := names1 ++ names2
theorem run (w : World) : HandSHeadRun.RunEq RR (PySem.W.view RR.prog [44]) hk ob 6000 names w := by
  intro os
  kernel_rfl

-- part K9Z
theorem facts {P : Program} {w : World} {K : PySem.W.Frag} {h : Heap} {mg : Str → Option Value} {f : Addr} (X : K.In h) (G : h.Ns mainGlobals mg) (hfa : mg ("law" : Str) = some (.ref f)) (c : seen K = wanted) :
    ∃ fd : FuncData, (∀ (s : Shared) (v : Value), BindsTo s fd ⟨[v], []⟩ [("_law_script", v)]) ∧ ∀ base : Heap, K.In base → base.Ns mainGlobals mg → FnOk P w K mg base CX0 20 f fd ["_law_script"] (spLaw K) := by
  have T : Tx K mg := ⟨c, h, X, G⟩
  obtain ⟨fd, F, _⟩ := T.f_law
  have e := hfa.symm.trans T.g_law
  cases e
  have b := FunD.bindsA (ps := ["_law_script"]) F fun _ _ _ _ _ _ us hl => match us, hl with | [_], _ => rfl
  exact ⟨fd, fun s v => b s [v] rfl, fun base _ _ => ok_law T F⟩
end K9
open PySem PySem.W PySem.Calls PyProof.Rows
theorem PySem.Challenge.cw_ownroom_k91_whole_counts_of_pages_holds : PySem.Challenge.rw_ownroom_k91_whole_counts_of_pages.Holds := by
  w_on; o_law
  refine HandSHeadRun.head_any (r := K9.RR) (q := view K9.RR.prog [44]) (H := K9.hk) (ob := K9.ob) (M := 6000) (loose := K9.names) (d := HandSHeadRun.topDef K9.RR.prog 44) (kwd := []) K9.ob_eq
    (by kernel_rfl) (fun s => by kernel_rfl) K9.run (by kernel_rfl) (by kernel_rfl) (by kernel_rfl) (by rfl) (by first | assumption | decide +kernel) (by decide +kernel) ⟨rfl, rfl, rfl, rfl, rfl, by decide +kernel⟩ ?hw ?hc
  case hw => w_witness2
  case hc =>
    refine L2.walk_ofE (l := PySem.Challenge.rw_ownroom_k91_whole_counts_of_pages) (n := 63) (k := 20) (x := "_law_script") (CX := L2.CX0) rfl (by decide) (by kernel_rfl) ⟨rfl, by decide, by decide⟩ ?F (fun _ _ _ _ z => z)
    intro w mg fa h Y G hmg0
    obtain ⟨K, KX, c⟩ := Y
    have hmg : mg ("law" : PySem.Str) = some (.ref fa) := by
      have e : (HandSHeadRun.topDef K9.RR.prog 44).name = ("law" : PySem.Str) := by kernel_rfl
      rw [← e]
      exact hmg0
    obtain ⟨fd, hb, hF⟩ := K9.facts (P := PySem.Challenge.rw_ownroom_k91_whole_counts_of_pages.prog) (w := w) KX G hmg c
    exact ⟨K, fd, K9.spLaw K, KX, hb, fun H a ns hl hO hS => ⟨a, ns, rfl, hS, hl, hO, fun _ => rfl⟩, hF⟩

