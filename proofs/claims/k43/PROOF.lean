import PyProof.Rows.All
import Wide.All
import OpenK.AllK
import Wide.FinOn
import HandS.ForMost
import HandS.HeadEnd
import HandS.HeadHook1
import HandS.HeadHook2
import HandS.HeadHook3
import HandS.HeadHook4
import HandS.Head0
import HandS.Head1
import HandS.Head2
import HandS.IsInst
import HandS.Defaults
import HandS.Style
import HandS.TupAny
import HandS.Zip
import KE.GoesEnum
import KE.GoesMore
import KE.GoesZip
import HandS.Walk
import HandS.More
import KE.KDictOf
import HandS.WideBits
import PySem.Challenge.RW_viewlease_k43_whole_cuts_onto_themselves
set_option Elab.async false
section
set_option linter.all false
set_option maxRecDepth 100000
set_option maxHeartbeats 0
namespace VL
open PySem PySem.Spec PyProof.Rows L2
def top (i : Nat) : Stmt := PySem.Challenge.pw_viewlease_k43_whole_cuts_onto_themselves.main.body.getD i (.Pass ⟨0, 0, 0, 0⟩)
abbrev sf_count_from : Stmt := top 34
abbrev sf_field_of : Stmt := top 35
abbrev sf_read_layout : Stmt := top 36
abbrev sf_calcsize : Stmt := top 37
abbrev sf_same_layout : Stmt := top 38
abbrev sf_is_integer : Stmt := top 40
abbrev sf_is_byte : Stmt := top 41
abbrev sf_is_bytes : Stmt := top 42
abbrev sf_is_row : Stmt := top 43
abbrev sf_row_steps : Stmt := top 45
abbrev sf_column_steps : Stmt := top 46
abbrev sf_are_due : Stmt := top 47
abbrev sf_are_contiguous : Stmt := top 48
abbrev sf_is_c_contiguous : Stmt := top 49
abbrev sf_is_f_contiguous : Stmt := top 50
abbrev sf_addresses : Stmt := top 51
abbrev sf_code_of : Stmt := top 72
abbrev sf_native_code : Stmt := top 73
abbrev sf_item_size : Stmt := top 74
abbrev sf_number_from : Stmt := top 76
abbrev sf_value_of : Stmt := top 77
abbrev sf_read_item : Stmt := top 82
abbrev sf_is_asked : Stmt := top 94
abbrev sf_is_holder : Stmt := top 99
abbrev sf_lent : Stmt := top 100
abbrev sf_hand_back : Stmt := top 101
abbrev sf_check_request : Stmt := top 102
abbrev sf_seen : Stmt := top 103
abbrev sf_gathered : Stmt := top 104
abbrev sf_bytes_in : Stmt := top 105
abbrev sf_whole_bytes : Stmt := top 106
abbrev sf_ordered_bytes : Stmt := top 109
abbrev sf_item_at : Stmt := top 110
abbrev sf_write_at : Stmt := top 111
abbrev sf_nested_items : Stmt := top 112
abbrev sf_item_rows : Stmt := top 113
abbrev sf_write_rows : Stmt := top 114
abbrev sf_bounded : Stmt := top 116
abbrev sf_cut_of : Stmt := top 117
abbrev sf_cut_places : Stmt := top 118
abbrev sf_key_kind : Stmt := top 123
abbrev sf_asked : Stmt := top 127
abbrev sf_checked_byte : Stmt := top 130
abbrev sf_bytes_of_row : Stmt := top 131
abbrev sf_bytes_given : Stmt := top 132
abbrev sf_l_places : Stmt := top 139
abbrev sf_l_v_sizes : Stmt := top 140
abbrev sf_l_v_number : Stmt := top 141
abbrev sf_l_v_read_value : Stmt := top 146
abbrev sf_l_w_is_native : Stmt := top 147
abbrev sf_l_w_size : Stmt := top 148
abbrev sf_l_w_at : Stmt := top 149
abbrev sf_l_w_nested : Stmt := top 150
abbrev sf_l_w_bytes : Stmt := top 151
abbrev sf_l_w_cut : Stmt := top 152
abbrev sf_l_w_model : Stmt := top 153
abbrev sf_l_w_seen_right : Stmt := top 154
abbrev sf_l_draw : Stmt := top 155
abbrev sf_l_start : Stmt := top 156
abbrev sf_l_pick : Stmt := top 157
abbrev sf_l_same : Stmt := top 158
abbrev sf_l_bytes : Stmt := top 159
abbrev sf_l_cut_of : Stmt := top 160
abbrev sf_l_part : Stmt := top 161
abbrev sf_l_cut : Stmt := top 162
abbrev sf_l_w_shared : Stmt := top 163
abbrev sf_l_w_cut_twice : Stmt := top 164
abbrev sf_l_w_some_cut : Stmt := top 165
abbrev sf_lw : Stmt := top 166
abbrev sm_mem_init : Stmt := inClass (top 96) 0
abbrev sm_buf_init : Stmt := inClass (top 98) 0
abbrev sm_cut_init : Stmt := inClass (top 121) 0
abbrev sm_seen_init : Stmt := inClass (top 126) 0
abbrev sm_ba_init : Stmt := inClass (top 135) 0
abbrev sm_ba_lend : Stmt := inClass (top 135) 2
abbrev sm_ba_take_back : Stmt := inClass (top 135) 3
abbrev sm_ba_data : Stmt := inClass (top 135) 6
abbrev sm_st_init : Stmt := inClass (top 137) 0
abbrev sm_st_lend : Stmt := inClass (top 137) 1
abbrev sm_st_take_back : Stmt := inClass (top 137) 2
abbrev sm_st_data : Stmt := inClass (top 137) 3
abbrev sm_mv_init : Stmt := inClass (top 128) 0
abbrev sm_mv_lay_out : Stmt := inClass (top 128) 1
abbrev sm_mv_check_open : Stmt := inClass (top 128) 2
abbrev sm_mv_memory_now : Stmt := inClass (top 128) 16
abbrev sm_mv_item : Stmt := inClass (top 128) 18
abbrev sm_mv_cut_first : Stmt := inClass (top 128) 20
abbrev sm_mv_check_writable : Stmt := inClass (top 128) 21
abbrev sm_mv_put : Stmt := inClass (top 128) 22
abbrev sm_mv_put_cut : Stmt := inClass (top 128) 23
abbrev sm_mv_places_for : Stmt := inClass (top 128) 24
abbrev sm_mv_tobytes : Stmt := inClass (top 128) 29
abbrev sm_mv_tolist : Stmt := inClass (top 128) 30
abbrev sm_mv_lend : Stmt := inClass (top 128) 36
abbrev sm_mv_take_back : Stmt := inClass (top 128) 37
def df_count_from : He.DefD := ⟨("count_from", none), "count_from", "count_from", defArgs sf_count_from, defBody sf_count_from, defScope sf_count_from, [], []⟩
def df_field_of : He.DefD := ⟨("field_of", none), "field_of", "field_of", defArgs sf_field_of, defBody sf_field_of, defScope sf_field_of, [], []⟩
def df_read_layout : He.DefD := ⟨("read_layout", none), "read_layout", "read_layout", defArgs sf_read_layout, defBody sf_read_layout, defScope sf_read_layout, [], []⟩
def df_calcsize : He.DefD := ⟨("calcsize", none), "calcsize", "calcsize", defArgs sf_calcsize, defBody sf_calcsize, defScope sf_calcsize, [], []⟩
def df_same_layout : He.DefD := ⟨("same_layout", none), "same_layout", "same_layout", defArgs sf_same_layout, defBody sf_same_layout, defScope sf_same_layout, [], []⟩
def df_is_integer : He.DefD := ⟨("is_integer", none), "is_integer", "is_integer", defArgs sf_is_integer, defBody sf_is_integer, defScope sf_is_integer, [], []⟩
def df_is_byte : He.DefD := ⟨("is_byte", none), "is_byte", "is_byte", defArgs sf_is_byte, defBody sf_is_byte, defScope sf_is_byte, [], []⟩
def df_is_bytes : He.DefD := ⟨("is_bytes", none), "is_bytes", "is_bytes", defArgs sf_is_bytes, defBody sf_is_bytes, defScope sf_is_bytes, [], []⟩
def df_is_row : He.DefD := ⟨("is_row", none), "is_row", "is_row", defArgs sf_is_row, defBody sf_is_row, defScope sf_is_row, [], []⟩
def df_row_steps : He.DefD := ⟨("row_steps", none), "row_steps", "row_steps", defArgs sf_row_steps, defBody sf_row_steps, defScope sf_row_steps, [], []⟩
def df_column_steps : He.DefD := ⟨("column_steps", none), "column_steps", "column_steps", defArgs sf_column_steps, defBody sf_column_steps, defScope sf_column_steps, [], []⟩
def df_are_due : He.DefD := ⟨("are_due", none), "are_due", "are_due", defArgs sf_are_due, defBody sf_are_due, defScope sf_are_due, [], []⟩
def df_are_contiguous : He.DefD := ⟨("are_contiguous", none), "are_contiguous", "are_contiguous", defArgs sf_are_contiguous, defBody sf_are_contiguous, defScope sf_are_contiguous, [], []⟩
def df_is_c_contiguous : He.DefD := ⟨("is_c_contiguous", none), "is_c_contiguous", "is_c_contiguous", defArgs sf_is_c_contiguous, defBody sf_is_c_contiguous, defScope sf_is_c_contiguous, [], []⟩
def df_is_f_contiguous : He.DefD := ⟨("is_f_contiguous", none), "is_f_contiguous", "is_f_contiguous", defArgs sf_is_f_contiguous, defBody sf_is_f_contiguous, defScope sf_is_f_contiguous, [], []⟩
def df_addresses : He.DefD := ⟨("addresses", none), "addresses", "addresses", defArgs sf_addresses, defBody sf_addresses, defScope sf_addresses, [], []⟩
def df_code_of : He.DefD := ⟨("code_of", none), "code_of", "code_of", defArgs sf_code_of, defBody sf_code_of, defScope sf_code_of, [], []⟩
def df_native_code : He.DefD := ⟨("native_code", none), "native_code", "native_code", defArgs sf_native_code, defBody sf_native_code, defScope sf_native_code, [], []⟩
def df_item_size : He.DefD := ⟨("item_size", none), "item_size", "item_size", defArgs sf_item_size, defBody sf_item_size, defScope sf_item_size, [], []⟩
def df_number_from : He.DefD := ⟨("number_from", none), "number_from", "number_from", defArgs sf_number_from, defBody sf_number_from, defScope sf_number_from, [], []⟩
def df_value_of : He.DefD := ⟨("value_of", none), "value_of", "value_of", defArgs sf_value_of, defBody sf_value_of, defScope sf_value_of, [], []⟩
def df_read_item : He.DefD := ⟨("read_item", none), "read_item", "read_item", defArgs sf_read_item, defBody sf_read_item, defScope sf_read_item, [], []⟩
def df_is_asked : He.DefD := ⟨("is_asked", none), "is_asked", "is_asked", defArgs sf_is_asked, defBody sf_is_asked, defScope sf_is_asked, [], []⟩
def df_is_holder : He.DefD := ⟨("is_holder", none), "is_holder", "is_holder", defArgs sf_is_holder, defBody sf_is_holder, defScope sf_is_holder, [], []⟩
def df_lent : He.DefD := ⟨("lent", none), "lent", "lent", defArgs sf_lent, defBody sf_lent, defScope sf_lent, [], []⟩
def df_hand_back : He.DefD := ⟨("hand_back", none), "hand_back", "hand_back", defArgs sf_hand_back, defBody sf_hand_back, defScope sf_hand_back, [], []⟩
def df_check_request : He.DefD := ⟨("check_request", none), "check_request", "check_request", defArgs sf_check_request, defBody sf_check_request, defScope sf_check_request, [], []⟩
def df_seen : He.DefD := ⟨("seen", none), "seen", "seen", defArgs sf_seen, defBody sf_seen, defScope sf_seen, [], []⟩
def df_gathered : He.DefD := ⟨("gathered", none), "gathered", "gathered", defArgs sf_gathered, defBody sf_gathered, defScope sf_gathered, [], []⟩
def df_bytes_in : He.DefD := ⟨("bytes_in", none), "bytes_in", "bytes_in", defArgs sf_bytes_in, defBody sf_bytes_in, defScope sf_bytes_in, [], []⟩
def df_whole_bytes : He.DefD := ⟨("whole_bytes", none), "whole_bytes", "whole_bytes", defArgs sf_whole_bytes, defBody sf_whole_bytes, defScope sf_whole_bytes, [], []⟩
def df_ordered_bytes : He.DefD := ⟨("ordered_bytes", none), "ordered_bytes", "ordered_bytes", defArgs sf_ordered_bytes, defBody sf_ordered_bytes, defScope sf_ordered_bytes, [], []⟩
def df_item_at : He.DefD := ⟨("item_at", none), "item_at", "item_at", defArgs sf_item_at, defBody sf_item_at, defScope sf_item_at, [], []⟩
def df_write_at : He.DefD := ⟨("write_at", none), "write_at", "write_at", defArgs sf_write_at, defBody sf_write_at, defScope sf_write_at, [], []⟩
def df_nested_items : He.DefD := ⟨("nested_items", none), "nested_items", "nested_items", defArgs sf_nested_items, defBody sf_nested_items, defScope sf_nested_items, [], []⟩
def df_item_rows : He.DefD := ⟨("item_rows", none), "item_rows", "item_rows", defArgs sf_item_rows, defBody sf_item_rows, defScope sf_item_rows, [], []⟩
def df_write_rows : He.DefD := ⟨("write_rows", none), "write_rows", "write_rows", defArgs sf_write_rows, defBody sf_write_rows, defScope sf_write_rows, [], []⟩
def df_bounded : He.DefD := ⟨("bounded", none), "bounded", "bounded", defArgs sf_bounded, defBody sf_bounded, defScope sf_bounded, [], []⟩
def df_cut_of : He.DefD := ⟨("cut_of", none), "cut_of", "cut_of", defArgs sf_cut_of, defBody sf_cut_of, defScope sf_cut_of, [], []⟩
def df_cut_places : He.DefD := ⟨("cut_places", none), "cut_places", "cut_places", defArgs sf_cut_places, defBody sf_cut_places, defScope sf_cut_places, [], []⟩
def df_key_kind : He.DefD := ⟨("key_kind", none), "key_kind", "key_kind", defArgs sf_key_kind, defBody sf_key_kind, defScope sf_key_kind, [], []⟩
def df_asked : He.DefD := ⟨("asked", none), "asked", "asked", defArgs sf_asked, defBody sf_asked, defScope sf_asked, [], []⟩
def df_checked_byte : He.DefD := ⟨("checked_byte", none), "checked_byte", "checked_byte", defArgs sf_checked_byte, defBody sf_checked_byte, defScope sf_checked_byte, [], []⟩
def df_bytes_of_row : He.DefD := ⟨("bytes_of_row", none), "bytes_of_row", "bytes_of_row", defArgs sf_bytes_of_row, defBody sf_bytes_of_row, defScope sf_bytes_of_row, [], []⟩
def df_bytes_given : He.DefD := ⟨("bytes_given", none), "bytes_given", "bytes_given", defArgs sf_bytes_given, defBody sf_bytes_given, defScope sf_bytes_given, [], []⟩
def df_l_places : He.DefD := ⟨("_law_places", none), "_law_places", "_law_places", defArgs sf_l_places, defBody sf_l_places, defScope sf_l_places, [], []⟩
def df_l_v_sizes : He.DefD := ⟨("_law_v_sizes", none), "_law_v_sizes", "_law_v_sizes", defArgs sf_l_v_sizes, defBody sf_l_v_sizes, defScope sf_l_v_sizes, [], []⟩
def df_l_v_number : He.DefD := ⟨("_law_v_number", none), "_law_v_number", "_law_v_number", defArgs sf_l_v_number, defBody sf_l_v_number, defScope sf_l_v_number, [], []⟩
def df_l_v_read_value : He.DefD := ⟨("_law_v_read_value", none), "_law_v_read_value", "_law_v_read_value", defArgs sf_l_v_read_value, defBody sf_l_v_read_value, defScope sf_l_v_read_value, [], []⟩
def df_l_w_is_native : He.DefD := ⟨("_law_w_is_native", none), "_law_w_is_native", "_law_w_is_native", defArgs sf_l_w_is_native, defBody sf_l_w_is_native, defScope sf_l_w_is_native, [], []⟩
def df_l_w_size : He.DefD := ⟨("_law_w_size", none), "_law_w_size", "_law_w_size", defArgs sf_l_w_size, defBody sf_l_w_size, defScope sf_l_w_size, [], []⟩
def df_l_w_at : He.DefD := ⟨("_law_w_at", none), "_law_w_at", "_law_w_at", defArgs sf_l_w_at, defBody sf_l_w_at, defScope sf_l_w_at, [], []⟩
def df_l_w_nested : He.DefD := ⟨("_law_w_nested", none), "_law_w_nested", "_law_w_nested", defArgs sf_l_w_nested, defBody sf_l_w_nested, defScope sf_l_w_nested, [], []⟩
def df_l_w_bytes : He.DefD := ⟨("_law_w_bytes", none), "_law_w_bytes", "_law_w_bytes", defArgs sf_l_w_bytes, defBody sf_l_w_bytes, defScope sf_l_w_bytes, [], []⟩
def df_l_w_cut : He.DefD := ⟨("_law_w_cut", none), "_law_w_cut", "_law_w_cut", defArgs sf_l_w_cut, defBody sf_l_w_cut, defScope sf_l_w_cut, [], []⟩
def df_l_w_model : He.DefD := ⟨("_law_w_model", none), "_law_w_model", "_law_w_model", defArgs sf_l_w_model, defBody sf_l_w_model, defScope sf_l_w_model, [], []⟩
def df_l_w_seen_right : He.DefD := ⟨("_law_w_seen_right", none), "_law_w_seen_right", "_law_w_seen_right", defArgs sf_l_w_seen_right, defBody sf_l_w_seen_right, defScope sf_l_w_seen_right, [], []⟩
def df_l_draw : He.DefD := ⟨("_law_draw", none), "_law_draw", "_law_draw", defArgs sf_l_draw, defBody sf_l_draw, defScope sf_l_draw, [], []⟩
def df_l_start : He.DefD := ⟨("_law_start", none), "_law_start", "_law_start", defArgs sf_l_start, defBody sf_l_start, defScope sf_l_start, [], []⟩
def df_l_pick : He.DefD := ⟨("_law_pick", none), "_law_pick", "_law_pick", defArgs sf_l_pick, defBody sf_l_pick, defScope sf_l_pick, [], []⟩
def df_l_same : He.DefD := ⟨("_law_same", none), "_law_same", "_law_same", defArgs sf_l_same, defBody sf_l_same, defScope sf_l_same, [], []⟩
def df_l_bytes : He.DefD := ⟨("_law_bytes", none), "_law_bytes", "_law_bytes", defArgs sf_l_bytes, defBody sf_l_bytes, defScope sf_l_bytes, [], []⟩
def df_l_cut_of : He.DefD := ⟨("_law_cut_of", none), "_law_cut_of", "_law_cut_of", defArgs sf_l_cut_of, defBody sf_l_cut_of, defScope sf_l_cut_of, [], []⟩
def df_l_part : He.DefD := ⟨("_law_part", none), "_law_part", "_law_part", defArgs sf_l_part, defBody sf_l_part, defScope sf_l_part, [], []⟩
def df_l_cut : He.DefD := ⟨("_law_cut", none), "_law_cut", "_law_cut", defArgs sf_l_cut, defBody sf_l_cut, defScope sf_l_cut, [], []⟩
def df_l_w_shared : He.DefD := ⟨("_law_w_shared", none), "_law_w_shared", "_law_w_shared", defArgs sf_l_w_shared, defBody sf_l_w_shared, defScope sf_l_w_shared, [], []⟩
def df_l_w_cut_twice : He.DefD := ⟨("_law_w_cut_twice", none), "_law_w_cut_twice", "_law_w_cut_twice", defArgs sf_l_w_cut_twice, defBody sf_l_w_cut_twice, defScope sf_l_w_cut_twice, [], []⟩
def df_l_w_some_cut : He.DefD := ⟨("_law_w_some_cut", none), "_law_w_some_cut", "_law_w_some_cut", defArgs sf_l_w_some_cut, defBody sf_l_w_some_cut, defScope sf_l_w_some_cut, [], []⟩
def df_lw : He.DefD := ⟨("law", none), "law", "law", defArgs sf_lw, defBody sf_lw, defScope sf_lw, [], []⟩
def dm_mem_init : He.DefD := ⟨("Memory", some "__init__"), "__init__", "Memory.__init__", defArgs sm_mem_init, defBody sm_mem_init, defScope sm_mem_init, [], []⟩
def dm_buf_init : He.DefD := ⟨("Buffer", some "__init__"), "__init__", "Buffer.__init__", defArgs sm_buf_init, defBody sm_buf_init, defScope sm_buf_init, [], []⟩
def dm_cut_init : He.DefD := ⟨("Cut", some "__init__"), "__init__", "Cut.__init__", defArgs sm_cut_init, defBody sm_cut_init, defScope sm_cut_init, [.non, .non, .non], []⟩
def dm_seen_init : He.DefD := ⟨("Seen", some "__init__"), "__init__", "Seen.__init__", defArgs sm_seen_init, defBody sm_seen_init, defScope sm_seen_init, [], []⟩
def dm_ba_init : He.DefD := ⟨("ByteArray", some "__init__"), "__init__", "ByteArray.__init__", defArgs sm_ba_init, defBody sm_ba_init, defScope sm_ba_init, [.adr (He.dflAt ("ByteArray", some "__init__") 0)], []⟩
def dm_ba_lend : He.DefD := ⟨("ByteArray", some "lend"), "lend", "ByteArray.lend", defArgs sm_ba_lend, defBody sm_ba_lend, defScope sm_ba_lend, [], []⟩
def dm_ba_take_back : He.DefD := ⟨("ByteArray", some "take_back"), "take_back", "ByteArray.take_back", defArgs sm_ba_take_back, defBody sm_ba_take_back, defScope sm_ba_take_back, [], []⟩
def dm_ba_data : He.DefD := ⟨("ByteArray", some "data"), "data", "ByteArray.data", defArgs sm_ba_data, defBody sm_ba_data, defScope sm_ba_data, [], []⟩
def dm_st_init : He.DefD := ⟨("Strided", some "__init__"), "__init__", "Strided.__init__", defArgs sm_st_init, defBody sm_st_init, defScope sm_st_init, [.int 0, .bl true], []⟩
def dm_st_lend : He.DefD := ⟨("Strided", some "lend"), "lend", "Strided.lend", defArgs sm_st_lend, defBody sm_st_lend, defScope sm_st_lend, [], []⟩
def dm_st_take_back : He.DefD := ⟨("Strided", some "take_back"), "take_back", "Strided.take_back", defArgs sm_st_take_back, defBody sm_st_take_back, defScope sm_st_take_back, [], []⟩
def dm_st_data : He.DefD := ⟨("Strided", some "data"), "data", "Strided.data", defArgs sm_st_data, defBody sm_st_data, defScope sm_st_data, [], []⟩
def dm_mv_init : He.DefD := ⟨("MemoryView", some "__init__"), "__init__", "MemoryView.__init__", defArgs sm_mv_init, defBody sm_mv_init, defScope sm_mv_init, [], []⟩
def dm_mv_lay_out : He.DefD := ⟨("MemoryView", some "lay_out"), "lay_out", "MemoryView.lay_out", defArgs sm_mv_lay_out, defBody sm_mv_lay_out, defScope sm_mv_lay_out, [], []⟩
def dm_mv_check_open : He.DefD := ⟨("MemoryView", some "check_open"), "check_open", "MemoryView.check_open", defArgs sm_mv_check_open, defBody sm_mv_check_open, defScope sm_mv_check_open, [], []⟩
def dm_mv_memory_now : He.DefD := ⟨("MemoryView", some "memory_now"), "memory_now", "MemoryView.memory_now", defArgs sm_mv_memory_now, defBody sm_mv_memory_now, defScope sm_mv_memory_now, [], []⟩
def dm_mv_item : He.DefD := ⟨("MemoryView", some "item"), "item", "MemoryView.item", defArgs sm_mv_item, defBody sm_mv_item, defScope sm_mv_item, [], []⟩
def dm_mv_cut_first : He.DefD := ⟨("MemoryView", some "cut_first"), "cut_first", "MemoryView.cut_first", defArgs sm_mv_cut_first, defBody sm_mv_cut_first, defScope sm_mv_cut_first, [], []⟩
def dm_mv_check_writable : He.DefD := ⟨("MemoryView", some "check_writable"), "check_writable", "MemoryView.check_writable", defArgs sm_mv_check_writable, defBody sm_mv_check_writable, defScope sm_mv_check_writable, [], []⟩
def dm_mv_put : He.DefD := ⟨("MemoryView", some "put"), "put", "MemoryView.put", defArgs sm_mv_put, defBody sm_mv_put, defScope sm_mv_put, [], []⟩
def dm_mv_put_cut : He.DefD := ⟨("MemoryView", some "put_cut"), "put_cut", "MemoryView.put_cut", defArgs sm_mv_put_cut, defBody sm_mv_put_cut, defScope sm_mv_put_cut, [], []⟩
def dm_mv_places_for : He.DefD := ⟨("MemoryView", some "places_for"), "places_for", "MemoryView.places_for", defArgs sm_mv_places_for, defBody sm_mv_places_for, defScope sm_mv_places_for, [], []⟩
def dm_mv_tobytes : He.DefD := ⟨("MemoryView", some "tobytes"), "tobytes", "MemoryView.tobytes", defArgs sm_mv_tobytes, defBody sm_mv_tobytes, defScope sm_mv_tobytes, [.str "C"], []⟩
def dm_mv_tolist : He.DefD := ⟨("MemoryView", some "tolist"), "tolist", "MemoryView.tolist", defArgs sm_mv_tolist, defBody sm_mv_tolist, defScope sm_mv_tolist, [], []⟩
def dm_mv_lend : He.DefD := ⟨("MemoryView", some "lend"), "lend", "MemoryView.lend", defArgs sm_mv_lend, defBody sm_mv_lend, defScope sm_mv_lend, [], []⟩
def dm_mv_take_back : He.DefD := ⟨("MemoryView", some "take_back"), "take_back", "MemoryView.take_back", defArgs sm_mv_take_back, defBody sm_mv_take_back, defScope sm_mv_take_back, [], []⟩
def fn : List He.DefD := [df_count_from, df_field_of, df_read_layout, df_calcsize, df_same_layout, df_is_integer, df_is_byte, df_is_bytes, df_is_row, df_row_steps, df_column_steps, df_are_due, df_are_contiguous, df_is_c_contiguous, df_is_f_contiguous, df_addresses, df_code_of, df_native_code, df_item_size, df_number_from, df_value_of, df_read_item, df_is_asked, df_is_holder, df_lent, df_hand_back, df_check_request, df_seen, df_gathered, df_bytes_in, df_whole_bytes, df_ordered_bytes, df_item_at, df_write_at, df_nested_items, df_item_rows, df_write_rows, df_bounded, df_cut_of, df_cut_places, df_key_kind, df_asked, df_checked_byte, df_bytes_of_row, df_bytes_given, df_l_places, df_l_v_sizes, df_l_v_number, df_l_v_read_value, df_l_w_is_native, df_l_w_size, df_l_w_at, df_l_w_nested, df_l_w_bytes, df_l_w_cut, df_l_w_model, df_l_w_seen_right, df_l_draw, df_l_start, df_l_pick, df_l_same, df_l_bytes, df_l_cut_of, df_l_part, df_l_cut, df_l_w_shared, df_l_w_cut_twice, df_l_w_some_cut, df_lw, dm_mem_init, dm_buf_init, dm_cut_init, dm_seen_init, dm_ba_init, dm_ba_lend, dm_ba_take_back, dm_ba_data, dm_st_init, dm_st_lend, dm_st_take_back, dm_st_data, dm_mv_init, dm_mv_lay_out, dm_mv_check_open, dm_mv_memory_now, dm_mv_item, dm_mv_cut_first, dm_mv_check_writable, dm_mv_put, dm_mv_put_cut, dm_mv_places_for, dm_mv_tobytes, dm_mv_tolist, dm_mv_lend, dm_mv_take_back]
def fa0 : List He.Fa := [.glo "count_from", .glo "field_of", .glo "read_layout", .glo "calcsize", .glo "same_layout", .glo "is_integer", .glo "is_byte", .glo "is_bytes", .glo "is_row", .glo "row_steps", .glo "column_steps", .glo "are_due", .glo "are_contiguous", .glo "is_c_contiguous", .glo "is_f_contiguous", .glo "addresses", .glo "code_of", .glo "native_code", .glo "item_size", .glo "number_from", .glo "value_of", .glo "read_item", .glo "is_asked", .glo "is_holder", .glo "lent", .glo "hand_back", .glo "check_request", .glo "seen", .glo "gathered", .glo "bytes_in"]
def fa1 : List He.Fa := [.glo "whole_bytes", .glo "ordered_bytes", .glo "item_at", .glo "write_at", .glo "nested_items", .glo "item_rows", .glo "write_rows", .glo "bounded", .glo "cut_of", .glo "cut_places", .glo "key_kind", .glo "asked", .glo "checked_byte", .glo "bytes_of_row", .glo "bytes_given", .glo "_law_places", .glo "_law_v_sizes", .glo "_law_v_number", .glo "_law_v_read_value", .glo "_law_w_is_native", .glo "_law_w_size", .glo "_law_w_at", .glo "_law_w_nested", .glo "_law_w_bytes", .glo "_law_w_cut", .glo "_law_w_model", .glo "_law_w_seen_right", .glo "_law_draw", .glo "_law_start", .glo "_law_pick"]
def fa2 : List He.Fa := [.glo "_law_same", .glo "_law_bytes", .glo "_law_cut_of", .glo "_law_part", .glo "_law_cut", .glo "_law_w_shared", .glo "_law_w_cut_twice", .glo "_law_w_some_cut", .glo "law", .glo "Memory", .glo "Buffer", .glo "Cut", .glo "Seen", .glo "ByteArray", .glo "Strided", .glo "MemoryView", .glo "Holder", .glo "Dots", .free "len", .free "range", .free "int", .free "tuple", .free "list", .free "isinstance", .free "all", .free "zip", .free "min", .free "max", .free "enumerate", .free "sum"]
def fa3 : List He.Fa := [.free "abs", .free "dict", .free "str", .int "SIMPLE" 0, .int "WRITABLE" 1, .int "FORMAT" 4, .int "ND" 8, .int "STRIDES" 24, .int "C_CONTIGUOUS" 56, .int "F_CONTIGUOUS" 88, .int "ANY_CONTIGUOUS" 152, .int "FULL_RO" 284, .glo "ORDERS", .glo "NATIVE", .glo "STANDARD", .glo "BELOW", .glo "FLOAT_CODES", .glo "NO_ITEMS", .str "DIGITS" "0123456789", .cls "Memory", .cls "Buffer", .cls "Cut", .cls "Seen", .cls "ByteArray", .cls "Strided", .cls "MemoryView", .noat "Memory" "cells", .noat "Buffer" "memory", .noat "Buffer" "place", .noat "Buffer" "width"]
def fa4 : List He.Fa := [.noat "Buffer" "kind", .noat "Buffer" "sizes", .noat "Buffer" "steps", .noat "Buffer" "fixed", .noat "Buffer" "source", .noat "Buffer" "shares", .noat "Cut" "start", .noat "Cut" "stop", .noat "Cut" "step", .noat "Seen" "buffer", .noat "Seen" "place", .noat "Seen" "kind", .noat "Seen" "width", .noat "Seen" "sizes", .noat "Seen" "steps", .noat "Seen" "fixed", .noat "ByteArray" "memory", .noat "ByteArray" "standing", .noat "Strided" "plan", .noat "MemoryView" "buffer", .noat "MemoryView" "fixed", .noat "MemoryView" "place", .noat "MemoryView" "kind", .noat "MemoryView" "width", .noat "MemoryView" "sizes", .noat "MemoryView" "steps", .noat "MemoryView" "in_rows", .noat "MemoryView" "in_columns", .noat "MemoryView" "is_open", .noat "MemoryView" "many_lent"]
def fa5 : List He.Fa := [.noat "MemoryView" "told", .meth "ByteArray" "lend", .meth "ByteArray" "take_back", .meth "ByteArray" "data", .meth "Strided" "lend", .meth "Strided" "take_back", .meth "Strided" "data", .meth "MemoryView" "lay_out", .meth "MemoryView" "check_open", .meth "MemoryView" "memory_now", .meth "MemoryView" "item", .meth "MemoryView" "cut_first", .meth "MemoryView" "check_writable", .meth "MemoryView" "put", .meth "MemoryView" "put_cut", .meth "MemoryView" "places_for", .meth "MemoryView" "tobytes", .meth "MemoryView" "tolist", .meth "MemoryView" "lend", .meth "MemoryView" "take_back", .mkr "Memory", .mkr "Buffer", .mkr "Cut", .mkr "Seen", .mkr "ByteArray", .mkr "Strided", .mkr "MemoryView"]
def fa : List He.Fa := fa0 ++ fa1 ++ fa2 ++ fa3 ++ fa4 ++ fa5
def ls0 : List Str := [("_wall" : Str), ("__name__" : Str), ("LeaseError" : Str), ("Released" : Str), ("ZeroStep" : Str), ("OtherStructure" : Str), ("WrongValue" : Str), ("ByteRange" : Str), ("Sizes" : Str), ("NotAHolder" : Str), ("BadKey" : Str), ("NoDimension" : Str), ("TooMany" : Str), ("ReadOnly" : Str), ("NoRemoval" : Str), ("NoLength" : Str), ("WrongKind" : Str), ("BadCut" : Str), ("ByteKind" : Str), ("OutOfBounds" : Str), ("BadIndex" : Str), ("NotDone" : Str), ("BadRequest" : Str), ("Locked" : Str), ("Lent" : Str), ("BadLayout" : Str), ("BadOrder" : Str), ("NotReal" : Str), ("BadPlan" : Str), ("ORDERS" : Str), ("STANDARD" : Str), ("NATIVE" : Str), ("DIGITS" : Str), ("count_from" : Str), ("field_of" : Str)]
def ls1 : List Str := [("read_layout" : Str), ("calcsize" : Str), ("same_layout" : Str), ("is_integer" : Str), ("is_byte" : Str), ("is_bytes" : Str), ("is_row" : Str), ("product_of" : Str), ("row_steps" : Str), ("column_steps" : Str), ("are_due" : Str), ("are_contiguous" : Str), ("is_c_contiguous" : Str), ("is_f_contiguous" : Str), ("addresses" : Str), ("WORDS" : Str), ("FLOATS" : Str), ("WIDTHS" : Str), ("is_real" : Str), ("fits_double" : Str), ("rounded" : Str), ("as_real" : Str), ("real_of" : Str), ("truth" : Str), ("worth" : Str), ("alike" : Str), ("is_too_large" : Str), ("bits_of" : Str), ("placed" : Str), ("real_from_bits" : Str), ("BELOW" : Str), ("FLOAT_CODES" : Str), ("NO_ITEMS" : Str), ("code_of" : Str), ("native_code" : Str)]
def ls2 : List Str := [("item_size" : Str), ("digits_of" : Str), ("number_from" : Str), ("value_of" : Str), ("bounds_of" : Str), ("fault_of" : Str), ("float_fault" : Str), ("bytes_of_value" : Str), ("read_item" : Str), ("item_bytes" : Str), ("SIMPLE" : Str), ("WRITABLE" : Str), ("FORMAT" : Str), ("ND" : Str), ("STRIDES" : Str), ("C_CONTIGUOUS" : Str), ("F_CONTIGUOUS" : Str), ("ANY_CONTIGUOUS" : Str), ("FULL_RO" : Str), ("is_asked" : Str), ("Memory" : Str), ("Holder" : Str), ("Buffer" : Str), ("is_holder" : Str), ("lent" : Str), ("hand_back" : Str), ("check_request" : Str), ("seen" : Str), ("gathered" : Str), ("bytes_in" : Str), ("whole_bytes" : Str), ("simple_buffer_bytes" : Str), ("ordered_bytes" : Str), ("item_at" : Str), ("write_at" : Str)]
def ls3 : List Str := [("nested_items" : Str), ("item_rows" : Str), ("write_rows" : Str), ("bounded" : Str), ("cut_of" : Str), ("cut_places" : Str), ("start_of" : Str), ("Cut" : Str), ("Dots" : Str), ("key_kind" : Str), ("counted" : Str), ("Seen" : Str), ("asked" : Str), ("MemoryView" : Str), ("checked_byte" : Str), ("bytes_of_row" : Str), ("bytes_given" : Str), ("lent_bytes" : Str), ("checked_place" : Str), ("ByteArray" : Str), ("Strided" : Str), ("_law_places" : Str), ("_law_v_sizes" : Str), ("_law_v_number" : Str), ("_law_v_float" : Str), ("_law_v_at" : Str), ("_law_v_form" : Str), ("_law_v_real" : Str), ("_law_v_read_value" : Str), ("_law_w_is_native" : Str), ("_law_w_size" : Str), ("_law_w_at" : Str), ("_law_w_nested" : Str), ("_law_w_bytes" : Str), ("_law_w_cut" : Str)]
def ls4 : List Str := [("_law_w_model" : Str), ("_law_w_seen_right" : Str), ("_law_draw" : Str), ("_law_start" : Str), ("_law_pick" : Str), ("_law_same" : Str), ("_law_bytes" : Str), ("_law_cut_of" : Str), ("_law_part" : Str), ("_law_cut" : Str), ("_law_w_shared" : Str), ("_law_w_cut_twice" : Str), ("_law_w_some_cut" : Str)]
def loose : List Str := ls0 ++ ls1 ++ ls2 ++ ls3 ++ ls4
def natK : List (Str × Int) := [("x", 1), ("c", 1), ("b", 1), ("B", 1), ("?", 1), ("h", 2), ("H", 2), ("i", 4), ("I", 4), ("l", 8), ("L", 8), ("q", 8), ("Q", 8), ("n", 8), ("N", 8), ("P", 8), ("e", 2), ("f", 4), ("d", 8), ("s", 1), ("p", 1)]
/-- the dict at a, its text keys and ints in order -/
def pairsB (K : PySem.W.Frag) (a : Addr) (kvs : List (Str × Int)) : Bool := match K.lookup a with
  | some ⟨_, _, .dict es _, _⟩ => decide (es.toList.map (fun e => match e.key, e.val with
    | .str x _, .int i _ => some (x, i)
    | _, _ => none) = kvs.map some)
  | _ => false
def insB (K : PySem.W.Frag) (C : Str) : Bool := decide (PySem.W.findIn K (.ref (He.ga K C)) "__class__" = some (some (.builtin "object.__class__"))) && (decide (PySem.W.specialIn K (.builtin "object.__class__") "__get__" = some (some (.builtin "getset_descriptor.__get__"))) &&
  (decide (PySem.W.takesIn K (.builtin "object.__class__") = some true) && decide (PySem.W.mroIn K (He.ga K C) (.type "object") = some true)))
def isB (K : PySem.W.Frag) (C D : Str) (b : Bool) : Bool := decide (PySem.W.kitOne K (.ref (He.ga K C)) (.ref (He.ga K D)) = some b)
def isT (K : PySem.W.Frag) (C : String) (D : Str) (b : Bool) : Bool := decide (PySem.W.kitOne K (.type C) (.ref (He.ga K D)) = some b)
def isN (K : PySem.W.Frag) (C : Str) (D : String) (b : Bool) : Bool := decide (PySem.W.kitOne K (.ref (He.ga K C)) (.type D) = some b)
def tupS (K : PySem.W.Frag) (x : Str) (l : List Str) : Bool := He.tupB K x (l.map He.Dv.str)
def exL (K : PySem.W.Frag) : List Bool := [insB K "Buffer", insB K "Cut", insB K "Seen", insB K "ByteArray", insB K "Strided", insB K "MemoryView", isB K "ByteArray" "Holder" true, isB K "Strided" "Holder" true, isB K "MemoryView" "Holder" true, isB K "ByteArray" "MemoryView" false, isB K "Strided" "MemoryView" false, isB K "Seen" "MemoryView" false, isB K "MemoryView" "MemoryView" true, isB K "ByteArray" "Seen" false, isB K "Strided" "Seen" false, isB K "Seen" "Seen" true, isB K "Cut" "Cut" true, isT K "tuple" "Holder" false, isN K "Cut" "int" false, pairsB K (He.ga K "NATIVE") natK, tupS K "ORDERS" ["@", "=", "<", ">", "!"], tupS K "BELOW" ["b", "h", "i", "l", "q", "n"], tupS K "FLOAT_CODES" ["e", "f", "d"], tupS K "NO_ITEMS" ["x", "s", "p"]]
def ex (K : PySem.W.Frag) : Bool := (exL K).all id
def tabs : List He.Tab := [(fun K => He.ga K "NATIVE", natK.map (·.1))]
def clsN0 : List Str := [("Memory" : Str), ("Buffer" : Str), ("Cut" : Str), ("Seen" : Str), ("ByteArray" : Str), ("Strided" : Str), ("MemoryView" : Str), ("Holder" : Str), ("Dots" : Str)]
def clsN : List Str := clsN0
def funN0 : List Str := [("count_from" : Str), ("field_of" : Str), ("read_layout" : Str), ("calcsize" : Str), ("same_layout" : Str), ("is_integer" : Str), ("is_byte" : Str), ("is_bytes" : Str), ("is_row" : Str), ("row_steps" : Str), ("column_steps" : Str), ("are_due" : Str), ("are_contiguous" : Str), ("is_c_contiguous" : Str), ("is_f_contiguous" : Str), ("addresses" : Str), ("code_of" : Str), ("native_code" : Str), ("item_size" : Str), ("number_from" : Str), ("value_of" : Str), ("read_item" : Str), ("is_asked" : Str), ("is_holder" : Str), ("lent" : Str), ("hand_back" : Str), ("check_request" : Str), ("seen" : Str), ("gathered" : Str), ("bytes_in" : Str)]
def funN1 : List Str := [("whole_bytes" : Str), ("ordered_bytes" : Str), ("item_at" : Str), ("write_at" : Str), ("nested_items" : Str), ("item_rows" : Str), ("write_rows" : Str), ("bounded" : Str), ("cut_of" : Str), ("cut_places" : Str), ("key_kind" : Str), ("asked" : Str), ("checked_byte" : Str), ("bytes_of_row" : Str), ("bytes_given" : Str), ("_law_places" : Str), ("_law_v_sizes" : Str), ("_law_v_number" : Str), ("_law_v_read_value" : Str), ("_law_w_is_native" : Str), ("_law_w_size" : Str), ("_law_w_at" : Str), ("_law_w_nested" : Str), ("_law_w_bytes" : Str), ("_law_w_cut" : Str), ("_law_w_model" : Str), ("_law_w_seen_right" : Str), ("_law_draw" : Str), ("_law_start" : Str), ("_law_pick" : Str)]
def funN2 : List Str := [("_law_same" : Str), ("_law_bytes" : Str), ("_law_cut_of" : Str), ("_law_part" : Str), ("_law_cut" : Str), ("_law_w_shared" : Str), ("_law_w_cut_twice" : Str), ("_law_w_some_cut" : Str), ("law" : Str)]
def funN : List Str := funN0 ++ funN1 ++ funN2
def conN0 : List Str := [("ORDERS" : Str), ("NATIVE" : Str), ("STANDARD" : Str), ("BELOW" : Str), ("FLOAT_CODES" : Str), ("NO_ITEMS" : Str)]
def conN : List Str := conN0
end VL
end
section
set_option linter.all false
set_option maxRecDepth 100000
set_option maxHeartbeats 0
/-! The written part: what stands behind the top at the addresses that the walk reads. -/
namespace VL
open PySem PySem.W L2
def en (P : Params) (x : Str) (t : Nat) (v : Value) : DictEntry := ⟨PyData.keyHash P x, .str x t, v⟩
def nsF0 (P : Params) : List DictEntry := [en P "__name__" 165 (.str "law_viewlease_k43_whole_cuts_onto_themselves" 2473), en P "__doc__" 166 .none, en P "__package__" 167 .none, en P "__loader__" 168 (.builtin "__main__.__loader__#opaque"), en P "__spec__" 169 .none, en P "__annotations__" 170 (.ref 6), en P "__builtins__" 171 (.ref 4), en P "__file__" 173 (.str "/claim/cut.py" 172), en P "__cached__" 174 .none, en P "_wall" 193 (.ref 21), en P "LeaseError" 213 (.ref 31), en P "Released" 238 (.ref 53), en P "ZeroStep" 263 (.ref 74), en P "OtherStructure" 288 (.ref 95), en P "WrongValue" 315 (.ref 116), en P "ByteRange" 340 (.ref 137), en P "Sizes" 369 (.ref 158), en P "NotAHolder" 394 (.ref 179), en P "BadKey" 419 (.ref 200), en P "NoDimension" 444 (.ref 221), en P "TooMany" 471 (.ref 242), en P "ReadOnly" 496 (.ref 263), en P "NoRemoval" 521 (.ref 284), en P "NoLength" 546 (.ref 305), en P "WrongKind" 573 (.ref 326), en P "BadCut" 598 (.ref 347), en P "ByteKind" 623 (.ref 368), en P "OutOfBounds" 650 (.ref 389), en P "BadIndex" 675 (.ref 410), en P "NotDone" 702 (.ref 431), en P "BadRequest" 729 (.ref 452), en P "Locked" 754 (.ref 473), en P "Lent" 781 (.ref 494), en P "BadLayout" 808 (.ref 515), en P "BadOrder" 833 (.ref 536), en P "NotReal" 858 (.ref 557), en P "BadPlan" 883 (.ref 578), en P "ORDERS" 891 (.ref 581), en P "STANDARD" 946 (.ref 582), en P "NATIVE" 1010 (.ref 584)]
def nsF1 (P : Params) : List DictEntry := [en P "DIGITS" 1012 (.str "0123456789" 1011), en P "count_from" 1021 (.ref 592), en P "field_of" 1027 (.ref 597), en P "read_layout" 1042 (.ref 604), en P "calcsize" 1049 (.ref 611), en P "same_layout" 1057 (.ref 618), en P "is_integer" 1066 (.ref 625), en P "is_byte" 1073 (.ref 632), en P "is_bytes" 1079 (.ref 637), en P "is_row" 1086 (.ref 644), en P "product_of" 1095 (.ref 651), en P "row_steps" 1106 (.ref 658), en P "column_steps" 1114 (.ref 665), en P "are_due" 1120 (.ref 670), en P "are_contiguous" 1129 (.ref 677), en P "is_c_contiguous" 1138 (.ref 684), en P "is_f_contiguous" 1147 (.ref 691), en P "addresses" 1153 (.ref 696), en P "WORDS" 1160 (.ref 697), en P "FLOATS" 1179 (.ref 698), en P "WIDTHS" 1189 (.ref 702), en P "is_real" 1196 (.ref 709), en P "fits_double" 1204 (.ref 716), en P "rounded" 1218 (.ref 723), en P "as_real" 1227 (.ref 730), en P "real_of" 1236 (.ref 737), en P "truth" 1243 (.ref 744), en P "worth" 1250 (.ref 751), en P "alike" 1258 (.ref 758), en P "is_too_large" 1271 (.ref 765), en P "bits_of" 1289 (.ref 772), en P "placed" 1298 (.ref 779), en P "real_from_bits" 1314 (.ref 786), en P "BELOW" 1323 (.ref 787), en P "FLOAT_CODES" 1327 (.ref 788), en P "NO_ITEMS" 1331 (.ref 789), en P "code_of" 1339 (.ref 796), en P "native_code" 1347 (.ref 803), en P "item_size" 1354 (.ref 810), en P "digits_of" 1365 (.ref 817)]
def nsF2 (P : Params) : List DictEntry := [en P "number_from" 1375 (.ref 824), en P "value_of" 1385 (.ref 831), en P "bounds_of" 1393 (.ref 838), en P "fault_of" 1404 (.ref 845), en P "float_fault" 1413 (.ref 852), en P "bytes_of_value" 1419 (.ref 857), en P "read_item" 1425 (.ref 862), en P "item_bytes" 1435 (.ref 869), en P "SIMPLE" 1439 (.int (0) 1438), en P "WRITABLE" 1441 (.int (1) 1440), en P "FORMAT" 1443 (.int (4) 1442), en P "ND" 1445 (.int (8) 1444), en P "STRIDES" 1447 (.int (24) 1446), en P "C_CONTIGUOUS" 1449 (.int (56) 1448), en P "F_CONTIGUOUS" 1451 (.int (88) 1450), en P "ANY_CONTIGUOUS" 1453 (.int (152) 1452), en P "FULL_RO" 1455 (.int (284) 1454), en P "is_asked" 1463 (.ref 876), en P "Memory" 1492 (.ref 891), en P "Holder" 1512 (.ref 905), en P "Buffer" 1556 (.ref 926), en P "is_holder" 1563 (.ref 937), en P "lent" 1571 (.ref 944), en P "hand_back" 1578 (.ref 951), en P "check_request" 1588 (.ref 958), en P "seen" 1597 (.ref 965), en P "gathered" 1603 (.ref 970), en P "bytes_in" 1611 (.ref 977), en P "whole_bytes" 1620 (.ref 984), en P "simple_buffer_bytes" 1629 (.ref 991), en P "ordered_bytes" 1642 (.ref 998), en P "item_at" 1651 (.ref 1005), en P "write_at" 1662 (.ref 1012), en P "nested_items" 1668 (.ref 1017), en P "item_rows" 1674 (.ref 1022), en P "write_rows" 1685 (.ref 1029), en P "bounded" 1698 (.ref 1036), en P "cut_of" 1704 (.ref 1041), en P "cut_places" 1710 (.ref 1046), en P "start_of" 1718 (.ref 1053)]
def nsF3 (P : Params) : List DictEntry := [en P "Cut" 1753 (.ref 1071), en P "Dots" 1773 (.ref 1085), en P "key_kind" 1779 (.ref 1094), en P "counted" 1789 (.ref 1101), en P "Seen" 1830 (.ref 1118), en P "asked" 1842 (.ref 1129), en P "MemoryView" 2191 (.ref 1416), en P "checked_byte" 2200 (.ref 1425), en P "bytes_of_row" 2206 (.ref 1430), en P "bytes_given" 2213 (.ref 1437), en P "lent_bytes" 2221 (.ref 1444), en P "checked_place" 2230 (.ref 1451), en P "ByteArray" 2422 (.ref 1607), en P "Strided" 2472 (.ref 1646), en P "_law_places" 2480 (.ref 1653), en P "_law_v_sizes" 2493 (.ref 1660), en P "_law_v_number" 2499 (.ref 1665), en P "_law_v_float" 2506 (.ref 1672), en P "_law_v_at" 2519 (.ref 1679), en P "_law_v_form" 2528 (.ref 1686), en P "_law_v_real" 2544 (.ref 1693), en P "_law_v_read_value" 2555 (.ref 1700), en P "_law_w_is_native" 2562 (.ref 1707), en P "_law_w_size" 2569 (.ref 1714), en P "_law_w_at" 2577 (.ref 1721), en P "_law_w_nested" 2583 (.ref 1726), en P "_law_w_bytes" 2595 (.ref 1733), en P "_law_w_cut" 2606 (.ref 1740), en P "_law_w_model" 2619 (.ref 1747), en P "_law_w_seen_right" 2627 (.ref 1754), en P "_law_draw" 2637 (.ref 1761), en P "_law_start" 2644 (.ref 1768), en P "_law_pick" 2652 (.ref 1775), en P "_law_same" 2658 (.ref 1780), en P "_law_bytes" 2664 (.ref 1785), en P "_law_cut_of" 2682 (.ref 1792), en P "_law_part" 2691 (.ref 1799), en P "_law_cut" 2700 (.ref 1806), en P "_law_w_shared" 2714 (.ref 1813), en P "_law_w_cut_twice" 2725 (.ref 1820)]
def nsF4 (P : Params) : List DictEntry := [en P "_law_w_some_cut" 2735 (.ref 1827), en P "law" 2760 (.ref 1834)]
def ob3 (P : Params) : Obj := { cls := .type "dict", dict := none, slots := #[], data := .dict (nsF0 P ++ nsF1 P ++ nsF2 P ++ nsF3 P ++ nsF4 P).toArray 162 }
def ob581 (P : Params) : Obj := { cls := .type "tuple", dict := none, slots := #[], data := .seq [(.str "@" 886), (.str "=" 887), (.str "<" 888), (.str ">" 889), (.str "!" 890)].toArray 0 }
def ob584 (P : Params) : Obj := { cls := .type "dict", dict := none, slots := #[], data := .dict [en P "x" 947 (.int (1) 948), en P "c" 950 (.int (1) 951), en P "b" 953 (.int (1) 954), en P "B" 956 (.int (1) 957), en P "?" 959 (.int (1) 960), en P "h" 962 (.int (2) 963), en P "H" 965 (.int (2) 966), en P "i" 968 (.int (4) 969), en P "I" 971 (.int (4) 972), en P "l" 974 (.int (8) 975), en P "L" 977 (.int (8) 978), en P "q" 980 (.int (8) 981), en P "Q" 983 (.int (8) 984), en P "n" 986 (.int (8) 987), en P "N" 989 (.int (8) 990), en P "P" 992 (.int (8) 993), en P "e" 995 (.int (2) 996), en P "f" 998 (.int (4) 999), en P "d" 1000 (.int (8) 1001), en P "s" 1002 (.int (1) 1003), en P "p" 1004 (.int (1) 1005)].toArray 21 }
def ob591 (P : Params) : Obj := { cls := .type "code", dict := none, slots := #[], data := .fields [(.str "count_from" 1013), (.str "count_from" 1014), (.str "/claim/cut.py" 1015), (.int (126) 0), (.int (2) 0), (.int (0) 0), (.int (0) 0), (.int (3) 0), (.ref 586), (.bool true), (.int (181) 0), (.ref 587), .none, (.ref 588), (.ref 589), (.ref 590), (.int (1019) 0), (.int (126) 0), (.str "/claim/cut.py" 1020)].toArray }
def ob592 (P : Params) : Obj := { cls := .type "function", dict := none, slots := #[], data := .func (PySem.W.fnOf "count_from" "count_from" (defArgs sf_count_from) (defBody sf_count_from) (defScope sf_count_from) .none .none .none (.str "viewlease.layouts" 884) none (.ref 591) .none) }
def ob596 (P : Params) : Obj := { cls := .type "code", dict := none, slots := #[], data := .fields [(.str "field_of" 1022), (.str "field_of" 1023), (.str "/claim/cut.py" 1024), (.int (131) 0), (.int (4) 0), (.int (0) 0), (.int (0) 0), (.int (3) 0), (.ref 593), (.bool true), (.int (181) 0), (.ref 594), .none, .none, .none, (.ref 595), (.int (1025) 0), (.int (131) 0), (.str "/claim/cut.py" 1026)].toArray }
def ob597 (P : Params) : Obj := { cls := .type "function", dict := none, slots := #[], data := .func (PySem.W.fnOf "field_of" "field_of" (defArgs sf_field_of) (defBody sf_field_of) (defScope sf_field_of) .none .none .none (.str "viewlease.layouts" 884) none (.ref 596) .none) }
def ob603 (P : Params) : Obj := { cls := .type "code", dict := none, slots := #[], data := .fields [(.str "read_layout" 1028), (.str "read_layout" 1029), (.str "/claim/cut.py" 1030), (.int (137) 0), (.int (1) 0), (.int (0) 0), (.int (0) 0), (.int (3) 0), (.ref 598), (.bool true), (.int (181) 0), (.ref 599), .none, (.ref 600), (.ref 601), (.ref 602), (.int (1040) 0), (.int (137) 0), (.str "/claim/cut.py" 1041)].toArray }
def ob604 (P : Params) : Obj := { cls := .type "function", dict := none, slots := #[], data := .func (PySem.W.fnOf "read_layout" "read_layout" (defArgs sf_read_layout) (defBody sf_read_layout) (defScope sf_read_layout) .none .none .none (.str "viewlease.layouts" 884) none (.ref 603) .none) }
def ob610 (P : Params) : Obj := { cls := .type "code", dict := none, slots := #[], data := .fields [(.str "calcsize" 1043), (.str "calcsize" 1044), (.str "/claim/cut.py" 1045), (.int (157) 0), (.int (1) 0), (.int (0) 0), (.int (0) 0), (.int (3) 0), (.ref 605), (.bool true), (.int (181) 0), (.ref 606), .none, (.ref 607), (.ref 608), (.ref 609), (.int (1047) 0), (.int (157) 0), (.str "/claim/cut.py" 1048)].toArray }
def ob611 (P : Params) : Obj := { cls := .type "function", dict := none, slots := #[], data := .func (PySem.W.fnOf "calcsize" "calcsize" (defArgs sf_calcsize) (defBody sf_calcsize) (defScope sf_calcsize) .none .none .none (.str "viewlease.layouts" 884) none (.ref 610) .none) }
def ob617 (P : Params) : Obj := { cls := .type "code", dict := none, slots := #[], data := .fields [(.str "same_layout" 1050), (.str "same_layout" 1051), (.str "/claim/cut.py" 1052), (.int (159) 0), (.int (2) 0), (.int (0) 0), (.int (0) 0), (.int (3) 0), (.ref 612), (.bool true), (.int (181) 0), (.ref 613), .none, (.ref 614), (.ref 615), (.ref 616), (.int (1055) 0), (.int (159) 0), (.str "/claim/cut.py" 1056)].toArray }
def ob618 (P : Params) : Obj := { cls := .type "function", dict := none, slots := #[], data := .func (PySem.W.fnOf "same_layout" "same_layout" (defArgs sf_same_layout) (defBody sf_same_layout) (defScope sf_same_layout) .none .none .none (.str "viewlease.layouts" 884) none (.ref 617) .none) }
def ob624 (P : Params) : Obj := { cls := .type "code", dict := none, slots := #[], data := .fields [(.str "is_integer" 1060), (.str "is_integer" 1061), (.str "/claim/cut.py" 1062), (.int (162) 0), (.int (1) 0), (.int (0) 0), (.int (0) 0), (.int (3) 0), (.ref 619), (.bool true), (.int (181) 0), (.ref 620), .none, (.ref 621), (.ref 622), (.ref 623), (.int (1064) 0), (.int (162) 0), (.str "/claim/cut.py" 1065)].toArray }
def ob625 (P : Params) : Obj := { cls := .type "function", dict := none, slots := #[], data := .func (PySem.W.fnOf "is_integer" "is_integer" (defArgs sf_is_integer) (defBody sf_is_integer) (defScope sf_is_integer) .none .none .none (.str "viewlease.shapes" 1058) none (.ref 624) .none) }
def ob631 (P : Params) : Obj := { cls := .type "code", dict := none, slots := #[], data := .fields [(.str "is_byte" 1067), (.str "is_byte" 1068), (.str "/claim/cut.py" 1069), (.int (164) 0), (.int (1) 0), (.int (0) 0), (.int (0) 0), (.int (3) 0), (.ref 626), (.bool true), (.int (181) 0), (.ref 627), .none, (.ref 628), (.ref 629), (.ref 630), (.int (1071) 0), (.int (164) 0), (.str "/claim/cut.py" 1072)].toArray }
def ob632 (P : Params) : Obj := { cls := .type "function", dict := none, slots := #[], data := .func (PySem.W.fnOf "is_byte" "is_byte" (defArgs sf_is_byte) (defBody sf_is_byte) (defScope sf_is_byte) .none .none .none (.str "viewlease.shapes" 1058) none (.ref 631) .none) }
def ob636 (P : Params) : Obj := { cls := .type "code", dict := none, slots := #[], data := .fields [(.str "is_bytes" 1074), (.str "is_bytes" 1075), (.str "/claim/cut.py" 1076), (.int (166) 0), (.int (1) 0), (.int (0) 0), (.int (0) 0), (.int (3) 0), (.ref 633), (.bool true), (.int (181) 0), (.ref 634), .none, .none, .none, (.ref 635), (.int (1077) 0), (.int (166) 0), (.str "/claim/cut.py" 1078)].toArray }
def ob637 (P : Params) : Obj := { cls := .type "function", dict := none, slots := #[], data := .func (PySem.W.fnOf "is_bytes" "is_bytes" (defArgs sf_is_bytes) (defBody sf_is_bytes) (defScope sf_is_bytes) .none .none .none (.str "viewlease.shapes" 1058) none (.ref 636) .none) }
def ob643 (P : Params) : Obj := { cls := .type "code", dict := none, slots := #[], data := .fields [(.str "is_row" 1080), (.str "is_row" 1081), (.str "/claim/cut.py" 1082), (.int (168) 0), (.int (1) 0), (.int (0) 0), (.int (0) 0), (.int (3) 0), (.ref 638), (.bool true), (.int (181) 0), (.ref 639), .none, (.ref 640), (.ref 641), (.ref 642), (.int (1084) 0), (.int (168) 0), (.str "/claim/cut.py" 1085)].toArray }
def ob644 (P : Params) : Obj := { cls := .type "function", dict := none, slots := #[], data := .func (PySem.W.fnOf "is_row" "is_row" (defArgs sf_is_row) (defBody sf_is_row) (defScope sf_is_row) .none .none .none (.str "viewlease.shapes" 1058) none (.ref 643) .none) }
def ob657 (P : Params) : Obj := { cls := .type "code", dict := none, slots := #[], data := .fields [(.str "row_steps" 1096), (.str "row_steps" 1097), (.str "/claim/cut.py" 1098), (.int (175) 0), (.int (2) 0), (.int (0) 0), (.int (0) 0), (.int (3) 0), (.ref 652), (.bool true), (.int (181) 0), (.ref 653), .none, (.ref 654), (.ref 655), (.ref 656), (.int (1104) 0), (.int (175) 0), (.str "/claim/cut.py" 1105)].toArray }
def ob658 (P : Params) : Obj := { cls := .type "function", dict := none, slots := #[], data := .func (PySem.W.fnOf "row_steps" "row_steps" (defArgs sf_row_steps) (defBody sf_row_steps) (defScope sf_row_steps) .none .none .none (.str "viewlease.shapes" 1058) none (.ref 657) .none) }
def ob664 (P : Params) : Obj := { cls := .type "code", dict := none, slots := #[], data := .fields [(.str "column_steps" 1107), (.str "column_steps" 1108), (.str "/claim/cut.py" 1109), (.int (181) 0), (.int (2) 0), (.int (0) 0), (.int (0) 0), (.int (3) 0), (.ref 659), (.bool true), (.int (181) 0), (.ref 660), .none, (.ref 661), (.ref 662), (.ref 663), (.int (1112) 0), (.int (181) 0), (.str "/claim/cut.py" 1113)].toArray }
def ob665 (P : Params) : Obj := { cls := .type "function", dict := none, slots := #[], data := .func (PySem.W.fnOf "column_steps" "column_steps" (defArgs sf_column_steps) (defBody sf_column_steps) (defScope sf_column_steps) .none .none .none (.str "viewlease.shapes" 1058) none (.ref 664) .none) }
def ob669 (P : Params) : Obj := { cls := .type "code", dict := none, slots := #[], data := .fields [(.str "are_due" 1115), (.str "are_due" 1116), (.str "/claim/cut.py" 1117), (.int (183) 0), (.int (3) 0), (.int (0) 0), (.int (0) 0), (.int (3) 0), (.ref 666), (.bool true), (.int (181) 0), (.ref 667), .none, .none, .none, (.ref 668), (.int (1118) 0), (.int (183) 0), (.str "/claim/cut.py" 1119)].toArray }
def ob670 (P : Params) : Obj := { cls := .type "function", dict := none, slots := #[], data := .func (PySem.W.fnOf "are_due" "are_due" (defArgs sf_are_due) (defBody sf_are_due) (defScope sf_are_due) .none .none .none (.str "viewlease.shapes" 1058) none (.ref 669) .none) }
def ob676 (P : Params) : Obj := { cls := .type "code", dict := none, slots := #[], data := .fields [(.str "are_contiguous" 1121), (.str "are_contiguous" 1122), (.str "/claim/cut.py" 1123), (.int (185) 0), (.int (3) 0), (.int (0) 0), (.int (0) 0), (.int (3) 0), (.ref 671), (.bool true), (.int (181) 0), (.ref 672), .none, (.ref 673), (.ref 674), (.ref 675), (.int (1127) 0), (.int (185) 0), (.str "/claim/cut.py" 1128)].toArray }
def ob677 (P : Params) : Obj := { cls := .type "function", dict := none, slots := #[], data := .func (PySem.W.fnOf "are_contiguous" "are_contiguous" (defArgs sf_are_contiguous) (defBody sf_are_contiguous) (defScope sf_are_contiguous) .none .none .none (.str "viewlease.shapes" 1058) none (.ref 676) .none) }
def ob683 (P : Params) : Obj := { cls := .type "code", dict := none, slots := #[], data := .fields [(.str "is_c_contiguous" 1130), (.str "is_c_contiguous" 1131), (.str "/claim/cut.py" 1132), (.int (187) 0), (.int (3) 0), (.int (0) 0), (.int (0) 0), (.int (3) 0), (.ref 678), (.bool true), (.int (181) 0), (.ref 679), .none, (.ref 680), (.ref 681), (.ref 682), (.int (1136) 0), (.int (187) 0), (.str "/claim/cut.py" 1137)].toArray }
def ob684 (P : Params) : Obj := { cls := .type "function", dict := none, slots := #[], data := .func (PySem.W.fnOf "is_c_contiguous" "is_c_contiguous" (defArgs sf_is_c_contiguous) (defBody sf_is_c_contiguous) (defScope sf_is_c_contiguous) .none .none .none (.str "viewlease.shapes" 1058) none (.ref 683) .none) }
def ob690 (P : Params) : Obj := { cls := .type "code", dict := none, slots := #[], data := .fields [(.str "is_f_contiguous" 1139), (.str "is_f_contiguous" 1140), (.str "/claim/cut.py" 1141), (.int (189) 0), (.int (3) 0), (.int (0) 0), (.int (0) 0), (.int (3) 0), (.ref 685), (.bool true), (.int (181) 0), (.ref 686), .none, (.ref 687), (.ref 688), (.ref 689), (.int (1145) 0), (.int (189) 0), (.str "/claim/cut.py" 1146)].toArray }
def ob691 (P : Params) : Obj := { cls := .type "function", dict := none, slots := #[], data := .func (PySem.W.fnOf "is_f_contiguous" "is_f_contiguous" (defArgs sf_is_f_contiguous) (defBody sf_is_f_contiguous) (defScope sf_is_f_contiguous) .none .none .none (.str "viewlease.shapes" 1058) none (.ref 690) .none) }
def ob695 (P : Params) : Obj := { cls := .type "code", dict := none, slots := #[], data := .fields [(.str "addresses" 1148), (.str "addresses" 1149), (.str "/claim/cut.py" 1150), (.int (191) 0), (.int (3) 0), (.int (0) 0), (.int (0) 0), (.int (3) 0), (.ref 692), (.bool true), (.int (181) 0), (.ref 693), .none, .none, .none, (.ref 694), (.int (1151) 0), (.int (191) 0), (.str "/claim/cut.py" 1152)].toArray }
def ob696 (P : Params) : Obj := { cls := .type "function", dict := none, slots := #[], data := .func (PySem.W.fnOf "addresses" "addresses" (defArgs sf_addresses) (defBody sf_addresses) (defScope sf_addresses) .none .none .none (.str "viewlease.shapes" 1058) none (.ref 695) .none) }
def ob787 (P : Params) : Obj := { cls := .type "tuple", dict := none, slots := #[], data := .seq [(.str "b" 1317), (.str "h" 1318), (.str "i" 1319), (.str "l" 1320), (.str "q" 1321), (.str "n" 1322)].toArray 0 }
def ob788 (P : Params) : Obj := { cls := .type "tuple", dict := none, slots := #[], data := .seq [(.str "e" 1324), (.str "f" 1325), (.str "d" 1326)].toArray 0 }
def ob789 (P : Params) : Obj := { cls := .type "tuple", dict := none, slots := #[], data := .seq [(.str "x" 1328), (.str "s" 1329), (.str "p" 1330)].toArray 0 }
def ob795 (P : Params) : Obj := { cls := .type "code", dict := none, slots := #[], data := .fields [(.str "code_of" 1332), (.str "code_of" 1333), (.str "/claim/cut.py" 1334), (.int (284) 0), (.int (1) 0), (.int (0) 0), (.int (0) 0), (.int (3) 0), (.ref 790), (.bool true), (.int (181) 0), (.ref 791), .none, (.ref 792), (.ref 793), (.ref 794), (.int (1337) 0), (.int (284) 0), (.str "/claim/cut.py" 1338)].toArray }
def ob796 (P : Params) : Obj := { cls := .type "function", dict := none, slots := #[], data := .func (PySem.W.fnOf "code_of" "code_of" (defArgs sf_code_of) (defBody sf_code_of) (defScope sf_code_of) .none .none .none (.str "viewlease.items" 1315) none (.ref 795) .none) }
def ob802 (P : Params) : Obj := { cls := .type "code", dict := none, slots := #[], data := .fields [(.str "native_code" 1340), (.str "native_code" 1341), (.str "/claim/cut.py" 1342), (.int (289) 0), (.int (1) 0), (.int (0) 0), (.int (0) 0), (.int (3) 0), (.ref 797), (.bool true), (.int (181) 0), (.ref 798), .none, (.ref 799), (.ref 800), (.ref 801), (.int (1345) 0), (.int (289) 0), (.str "/claim/cut.py" 1346)].toArray }
def ob803 (P : Params) : Obj := { cls := .type "function", dict := none, slots := #[], data := .func (PySem.W.fnOf "native_code" "native_code" (defArgs sf_native_code) (defBody sf_native_code) (defScope sf_native_code) .none .none .none (.str "viewlease.items" 1315) none (.ref 802) .none) }
def ob809 (P : Params) : Obj := { cls := .type "code", dict := none, slots := #[], data := .fields [(.str "item_size" 1348), (.str "item_size" 1349), (.str "/claim/cut.py" 1350), (.int (294) 0), (.int (1) 0), (.int (0) 0), (.int (0) 0), (.int (3) 0), (.ref 804), (.bool true), (.int (181) 0), (.ref 805), .none, (.ref 806), (.ref 807), (.ref 808), (.int (1352) 0), (.int (294) 0), (.str "/claim/cut.py" 1353)].toArray }
def ob810 (P : Params) : Obj := { cls := .type "function", dict := none, slots := #[], data := .func (PySem.W.fnOf "item_size" "item_size" (defArgs sf_item_size) (defBody sf_item_size) (defScope sf_item_size) .none .none .none (.str "viewlease.items" 1315) none (.ref 809) .none) }
def ob823 (P : Params) : Obj := { cls := .type "code", dict := none, slots := #[], data := .fields [(.str "number_from" 1366), (.str "number_from" 1367), (.str "/claim/cut.py" 1368), (.int (302) 0), (.int (2) 0), (.int (0) 0), (.int (0) 0), (.int (3) 0), (.ref 818), (.bool true), (.int (181) 0), (.ref 819), .none, (.ref 820), (.ref 821), (.ref 822), (.int (1373) 0), (.int (302) 0), (.str "/claim/cut.py" 1374)].toArray }
def ob824 (P : Params) : Obj := { cls := .type "function", dict := none, slots := #[], data := .func (PySem.W.fnOf "number_from" "number_from" (defArgs sf_number_from) (defBody sf_number_from) (defScope sf_number_from) .none .none .none (.str "viewlease.items" 1315) none (.ref 823) .none) }
def ob830 (P : Params) : Obj := { cls := .type "code", dict := none, slots := #[], data := .fields [(.str "value_of" 1376), (.str "value_of" 1377), (.str "/claim/cut.py" 1378), (.int (307) 0), (.int (3) 0), (.int (0) 0), (.int (0) 0), (.int (3) 0), (.ref 825), (.bool true), (.int (181) 0), (.ref 826), .none, (.ref 827), (.ref 828), (.ref 829), (.int (1383) 0), (.int (307) 0), (.str "/claim/cut.py" 1384)].toArray }
def ob831 (P : Params) : Obj := { cls := .type "function", dict := none, slots := #[], data := .func (PySem.W.fnOf "value_of" "value_of" (defArgs sf_value_of) (defBody sf_value_of) (defScope sf_value_of) .none .none .none (.str "viewlease.items" 1315) none (.ref 830) .none) }
def ob861 (P : Params) : Obj := { cls := .type "code", dict := none, slots := #[], data := .fields [(.str "read_item" 1420), (.str "read_item" 1421), (.str "/claim/cut.py" 1422), (.int (348) 0), (.int (2) 0), (.int (0) 0), (.int (0) 0), (.int (3) 0), (.ref 858), (.bool true), (.int (181) 0), (.ref 859), .none, .none, .none, (.ref 860), (.int (1423) 0), (.int (348) 0), (.str "/claim/cut.py" 1424)].toArray }
def ob862 (P : Params) : Obj := { cls := .type "function", dict := none, slots := #[], data := .func (PySem.W.fnOf "read_item" "read_item" (defArgs sf_read_item) (defBody sf_read_item) (defScope sf_read_item) .none .none .none (.str "viewlease.items" 1315) none (.ref 861) .none) }
def ob875 (P : Params) : Obj := { cls := .type "code", dict := none, slots := #[], data := .fields [(.str "is_asked" 1456), (.str "is_asked" 1457), (.str "/claim/cut.py" 1458), (.int (368) 0), (.int (2) 0), (.int (0) 0), (.int (0) 0), (.int (3) 0), (.ref 870), (.bool true), (.int (181) 0), (.ref 871), .none, (.ref 872), (.ref 873), (.ref 874), (.int (1461) 0), (.int (368) 0), (.str "/claim/cut.py" 1462)].toArray }
def ob876 (P : Params) : Obj := { cls := .type "function", dict := none, slots := #[], data := .func (PySem.W.fnOf "is_asked" "is_asked" (defArgs sf_is_asked) (defBody sf_is_asked) (defScope sf_is_asked) .none .none .none (.str "viewlease.requests" 1436) none (.ref 875) .none) }
def ob887 (P : Params) : Obj := { cls := .type "code", dict := none, slots := #[], data := .fields [(.str "__init__" 1478), (.str "Memory.__init__" 1479), (.str "/claim/cut.py" 1480), (.int (373) 0), (.int (2) 0), (.int (0) 0), (.int (0) 0), (.int (3) 0), (.ref 884), (.bool true), (.int (181) 0), (.ref 885), .none, .none, .none, (.ref 886), (.int (1481) 0), (.int (373) 0), (.str "/claim/cut.py" 1482)].toArray }
def ob888 (P : Params) : Obj := { cls := .type "function", dict := none, slots := #[], data := .func (PySem.W.fnOf "__init__" "Memory.__init__" (defArgs sm_mem_init) (defBody sm_mem_init) (defScope sm_mem_init) .none .none .none (.str "viewlease.memory" 1464) none (.ref 887) .none) }
def ob890 (P : Params) : Obj := { cls := .type "dict", dict := none, slots := #[], data := .dict [en P "__module__" 1473 (.str "viewlease.memory" 1464), en P "__firstlineno__" 1477 (.int (371) 1476), en P "__init__" 1483 (.ref 888), en P "__static_attributes__" 1485 (.ref 889), en P "__dict__" 1487 (.ref 892), en P "__weakref__" 1489 (.ref 893), en P "__doc__" 1490 .none].toArray 4 }
def ob891 (P : Params) : Obj := { cls := .type "type", dict := none, slots := #[none, none, some (.str "Memory" 1466), some (.str "Memory" 1474), some (.builtin "object.__new__"), some (.bool true)], data := .cls { name := "Memory", bases := [(.type "object")], mro := [(.ref 891), (.type "object")], ns := 890, qualname := "Memory", hasDict := true, slotNames := [], subclasses := [], abstract := false, collection := none, hasDel := false } }
def ob904 (P : Params) : Obj := { cls := .type "dict", dict := none, slots := #[], data := .dict [en P "__module__" 1500 (.str "viewlease.memory" 1464), en P "__firstlineno__" 1504 (.int (375) 1503), en P "__static_attributes__" 1505 (.ref 903), en P "__dict__" 1507 (.ref 906), en P "__weakref__" 1509 (.ref 907), en P "__doc__" 1510 .none].toArray 4 }
def ob905 (P : Params) : Obj := { cls := .type "type", dict := none, slots := #[none, none, some (.str "Holder" 1493), some (.str "Holder" 1501), some (.builtin "object.__new__"), some (.bool true)], data := .cls { name := "Holder", bases := [(.type "object")], mro := [(.ref 905), (.type "object")], ns := 904, qualname := "Holder", hasDict := true, slotNames := [], subclasses := [(.ref 1416), (.ref 1607), (.ref 1646)], abstract := false, collection := none, hasDel := false } }
def ob922 (P : Params) : Obj := { cls := .type "code", dict := none, slots := #[], data := .fields [(.str "__init__" 1525), (.str "Buffer.__init__" 1526), (.str "/claim/cut.py" 1527), (.int (379) 0), (.int (9) 0), (.int (0) 0), (.int (0) 0), (.int (3) 0), (.ref 917), (.bool true), (.int (181) 0), (.ref 918), .none, (.ref 919), (.ref 920), (.ref 921), (.int (1537) 0), (.int (379) 0), (.str "/claim/cut.py" 1538)].toArray }
def ob923 (P : Params) : Obj := { cls := .type "function", dict := none, slots := #[], data := .func (PySem.W.fnOf "__init__" "Buffer.__init__" (defArgs sm_buf_init) (defBody sm_buf_init) (defScope sm_buf_init) .none .none .none (.str "viewlease.memory" 1464) none (.ref 922) .none) }
def ob925 (P : Params) : Obj := { cls := .type "dict", dict := none, slots := #[], data := .dict [en P "__module__" 1520 (.str "viewlease.memory" 1464), en P "__firstlineno__" 1524 (.int (377) 1523), en P "__init__" 1539 (.ref 923), en P "__static_attributes__" 1549 (.ref 924), en P "__dict__" 1551 (.ref 927), en P "__weakref__" 1553 (.ref 928), en P "__doc__" 1554 .none].toArray 4 }
def ob926 (P : Params) : Obj := { cls := .type "type", dict := none, slots := #[none, none, some (.str "Buffer" 1513), some (.str "Buffer" 1521), some (.builtin "object.__new__"), some (.bool true)], data := .cls { name := "Buffer", bases := [(.type "object")], mro := [(.ref 926), (.type "object")], ns := 925, qualname := "Buffer", hasDict := true, slotNames := [], subclasses := [], abstract := false, collection := none, hasDel := false } }
def ob936 (P : Params) : Obj := { cls := .type "code", dict := none, slots := #[], data := .fields [(.str "is_holder" 1557), (.str "is_holder" 1558), (.str "/claim/cut.py" 1559), (.int (389) 0), (.int (1) 0), (.int (0) 0), (.int (0) 0), (.int (3) 0), (.ref 931), (.bool true), (.int (181) 0), (.ref 932), .none, (.ref 933), (.ref 934), (.ref 935), (.int (1561) 0), (.int (389) 0), (.str "/claim/cut.py" 1562)].toArray }
def ob937 (P : Params) : Obj := { cls := .type "function", dict := none, slots := #[], data := .func (PySem.W.fnOf "is_holder" "is_holder" (defArgs sf_is_holder) (defBody sf_is_holder) (defScope sf_is_holder) .none .none .none (.str "viewlease.memory" 1464) none (.ref 936) .none) }
def ob943 (P : Params) : Obj := { cls := .type "code", dict := none, slots := #[], data := .fields [(.str "lent" 1564), (.str "lent" 1565), (.str "/claim/cut.py" 1566), (.int (391) 0), (.int (2) 0), (.int (0) 0), (.int (0) 0), (.int (3) 0), (.ref 938), (.bool true), (.int (181) 0), (.ref 939), .none, (.ref 940), (.ref 941), (.ref 942), (.int (1569) 0), (.int (391) 0), (.str "/claim/cut.py" 1570)].toArray }
def ob944 (P : Params) : Obj := { cls := .type "function", dict := none, slots := #[], data := .func (PySem.W.fnOf "lent" "lent" (defArgs sf_lent) (defBody sf_lent) (defScope sf_lent) .none .none .none (.str "viewlease.memory" 1464) none (.ref 943) .none) }
def ob950 (P : Params) : Obj := { cls := .type "code", dict := none, slots := #[], data := .fields [(.str "hand_back" 1572), (.str "hand_back" 1573), (.str "/claim/cut.py" 1574), (.int (399) 0), (.int (1) 0), (.int (0) 0), (.int (0) 0), (.int (3) 0), (.ref 945), (.bool true), (.int (181) 0), (.ref 946), .none, (.ref 947), (.ref 948), (.ref 949), (.int (1576) 0), (.int (399) 0), (.str "/claim/cut.py" 1577)].toArray }
def ob951 (P : Params) : Obj := { cls := .type "function", dict := none, slots := #[], data := .func (PySem.W.fnOf "hand_back" "hand_back" (defArgs sf_hand_back) (defBody sf_hand_back) (defScope sf_hand_back) .none .none .none (.str "viewlease.memory" 1464) none (.ref 950) .none) }
def ob957 (P : Params) : Obj := { cls := .type "code", dict := none, slots := #[], data := .fields [(.str "check_request" 1579), (.str "check_request" 1580), (.str "/claim/cut.py" 1581), (.int (402) 0), (.int (2) 0), (.int (0) 0), (.int (0) 0), (.int (3) 0), (.ref 952), (.bool true), (.int (181) 0), (.ref 953), .none, (.ref 954), (.ref 955), (.ref 956), (.int (1586) 0), (.int (402) 0), (.str "/claim/cut.py" 1587)].toArray }
def ob958 (P : Params) : Obj := { cls := .type "function", dict := none, slots := #[], data := .func (PySem.W.fnOf "check_request" "check_request" (defArgs sf_check_request) (defBody sf_check_request) (defScope sf_check_request) .none .none .none (.str "viewlease.memory" 1464) none (.ref 957) .none) }
def ob964 (P : Params) : Obj := { cls := .type "code", dict := none, slots := #[], data := .fields [(.str "seen" 1589), (.str "seen" 1590), (.str "/claim/cut.py" 1591), (.int (417) 0), (.int (2) 0), (.int (0) 0), (.int (0) 0), (.int (3) 0), (.ref 959), (.bool true), (.int (181) 0), (.ref 960), .none, (.ref 961), (.ref 962), (.ref 963), (.int (1595) 0), (.int (417) 0), (.str "/claim/cut.py" 1596)].toArray }
def ob965 (P : Params) : Obj := { cls := .type "function", dict := none, slots := #[], data := .func (PySem.W.fnOf "seen" "seen" (defArgs sf_seen) (defBody sf_seen) (defScope sf_seen) .none .none .none (.str "viewlease.memory" 1464) none (.ref 964) .none) }
def ob969 (P : Params) : Obj := { cls := .type "code", dict := none, slots := #[], data := .fields [(.str "gathered" 1598), (.str "gathered" 1599), (.str "/claim/cut.py" 1600), (.int (424) 0), (.int (3) 0), (.int (0) 0), (.int (0) 0), (.int (3) 0), (.ref 966), (.bool true), (.int (181) 0), (.ref 967), .none, .none, .none, (.ref 968), (.int (1601) 0), (.int (424) 0), (.str "/claim/cut.py" 1602)].toArray }
def ob970 (P : Params) : Obj := { cls := .type "function", dict := none, slots := #[], data := .func (PySem.W.fnOf "gathered" "gathered" (defArgs sf_gathered) (defBody sf_gathered) (defScope sf_gathered) .none .none .none (.str "viewlease.memory" 1464) none (.ref 969) .none) }
def ob976 (P : Params) : Obj := { cls := .type "code", dict := none, slots := #[], data := .fields [(.str "bytes_in" 1604), (.str "bytes_in" 1605), (.str "/claim/cut.py" 1606), (.int (426) 0), (.int (1) 0), (.int (0) 0), (.int (0) 0), (.int (3) 0), (.ref 971), (.bool true), (.int (181) 0), (.ref 972), .none, (.ref 973), (.ref 974), (.ref 975), (.int (1609) 0), (.int (426) 0), (.str "/claim/cut.py" 1610)].toArray }
def ob977 (P : Params) : Obj := { cls := .type "function", dict := none, slots := #[], data := .func (PySem.W.fnOf "bytes_in" "bytes_in" (defArgs sf_bytes_in) (defBody sf_bytes_in) (defScope sf_bytes_in) .none .none .none (.str "viewlease.memory" 1464) none (.ref 976) .none) }
def ob983 (P : Params) : Obj := { cls := .type "code", dict := none, slots := #[], data := .fields [(.str "whole_bytes" 1612), (.str "whole_bytes" 1613), (.str "/claim/cut.py" 1614), (.int (429) 0), (.int (1) 0), (.int (0) 0), (.int (0) 0), (.int (3) 0), (.ref 978), (.bool true), (.int (181) 0), (.ref 979), .none, (.ref 980), (.ref 981), (.ref 982), (.int (1618) 0), (.int (429) 0), (.str "/claim/cut.py" 1619)].toArray }
def ob984 (P : Params) : Obj := { cls := .type "function", dict := none, slots := #[], data := .func (PySem.W.fnOf "whole_bytes" "whole_bytes" (defArgs sf_whole_bytes) (defBody sf_whole_bytes) (defScope sf_whole_bytes) .none .none .none (.str "viewlease.memory" 1464) none (.ref 983) .none) }
def ob997 (P : Params) : Obj := { cls := .type "code", dict := none, slots := #[], data := .fields [(.str "ordered_bytes" 1632), (.str "ordered_bytes" 1633), (.str "/claim/cut.py" 1634), (.int (440) 0), (.int (2) 0), (.int (0) 0), (.int (0) 0), (.int (3) 0), (.ref 992), (.bool true), (.int (181) 0), (.ref 993), .none, (.ref 994), (.ref 995), (.ref 996), (.int (1640) 0), (.int (440) 0), (.str "/claim/cut.py" 1641)].toArray }
def ob998 (P : Params) : Obj := { cls := .type "function", dict := none, slots := #[], data := .func (PySem.W.fnOf "ordered_bytes" "ordered_bytes" (defArgs sf_ordered_bytes) (defBody sf_ordered_bytes) (defScope sf_ordered_bytes) .none .none .none (.str "viewlease.copies" 1630) none (.ref 997) .none) }
def ob1004 (P : Params) : Obj := { cls := .type "code", dict := none, slots := #[], data := .fields [(.str "item_at" 1643), (.str "item_at" 1644), (.str "/claim/cut.py" 1645), (.int (451) 0), (.int (3) 0), (.int (0) 0), (.int (0) 0), (.int (3) 0), (.ref 999), (.bool true), (.int (181) 0), (.ref 1000), .none, (.ref 1001), (.ref 1002), (.ref 1003), (.int (1649) 0), (.int (451) 0), (.str "/claim/cut.py" 1650)].toArray }
def ob1005 (P : Params) : Obj := { cls := .type "function", dict := none, slots := #[], data := .func (PySem.W.fnOf "item_at" "item_at" (defArgs sf_item_at) (defBody sf_item_at) (defScope sf_item_at) .none .none .none (.str "viewlease.copies" 1630) none (.ref 1004) .none) }
def ob1011 (P : Params) : Obj := { cls := .type "code", dict := none, slots := #[], data := .fields [(.str "write_at" 1652), (.str "write_at" 1653), (.str "/claim/cut.py" 1654), (.int (453) 0), (.int (3) 0), (.int (0) 0), (.int (0) 0), (.int (3) 0), (.ref 1006), (.bool true), (.int (181) 0), (.ref 1007), .none, (.ref 1008), (.ref 1009), (.ref 1010), (.int (1660) 0), (.int (453) 0), (.str "/claim/cut.py" 1661)].toArray }
def ob1012 (P : Params) : Obj := { cls := .type "function", dict := none, slots := #[], data := .func (PySem.W.fnOf "write_at" "write_at" (defArgs sf_write_at) (defBody sf_write_at) (defScope sf_write_at) .none .none .none (.str "viewlease.copies" 1630) none (.ref 1011) .none) }
def ob1016 (P : Params) : Obj := { cls := .type "code", dict := none, slots := #[], data := .fields [(.str "nested_items" 1663), (.str "nested_items" 1664), (.str "/claim/cut.py" 1665), (.int (456) 0), (.int (5) 0), (.int (0) 0), (.int (0) 0), (.int (3) 0), (.ref 1013), (.bool true), (.int (181) 0), (.ref 1014), .none, .none, .none, (.ref 1015), (.int (1666) 0), (.int (456) 0), (.str "/claim/cut.py" 1667)].toArray }
def ob1017 (P : Params) : Obj := { cls := .type "function", dict := none, slots := #[], data := .func (PySem.W.fnOf "nested_items" "nested_items" (defArgs sf_nested_items) (defBody sf_nested_items) (defScope sf_nested_items) .none .none .none (.str "viewlease.copies" 1630) none (.ref 1016) .none) }
def ob1021 (P : Params) : Obj := { cls := .type "code", dict := none, slots := #[], data := .fields [(.str "item_rows" 1669), (.str "item_rows" 1670), (.str "/claim/cut.py" 1671), (.int (460) 0), (.int (1) 0), (.int (0) 0), (.int (0) 0), (.int (3) 0), (.ref 1018), (.bool true), (.int (181) 0), (.ref 1019), .none, .none, .none, (.ref 1020), (.int (1672) 0), (.int (460) 0), (.str "/claim/cut.py" 1673)].toArray }
def ob1022 (P : Params) : Obj := { cls := .type "function", dict := none, slots := #[], data := .func (PySem.W.fnOf "item_rows" "item_rows" (defArgs sf_item_rows) (defBody sf_item_rows) (defScope sf_item_rows) .none .none .none (.str "viewlease.copies" 1630) none (.ref 1021) .none) }
def ob1028 (P : Params) : Obj := { cls := .type "code", dict := none, slots := #[], data := .fields [(.str "write_rows" 1675), (.str "write_rows" 1676), (.str "/claim/cut.py" 1677), (.int (463) 0), (.int (3) 0), (.int (0) 0), (.int (0) 0), (.int (3) 0), (.ref 1023), (.bool true), (.int (181) 0), (.ref 1024), .none, (.ref 1025), (.ref 1026), (.ref 1027), (.int (1683) 0), (.int (463) 0), (.str "/claim/cut.py" 1684)].toArray }
def ob1029 (P : Params) : Obj := { cls := .type "function", dict := none, slots := #[], data := .func (PySem.W.fnOf "write_rows" "write_rows" (defArgs sf_write_rows) (defBody sf_write_rows) (defScope sf_write_rows) .none .none .none (.str "viewlease.copies" 1630) none (.ref 1028) .none) }
def ob1035 (P : Params) : Obj := { cls := .type "code", dict := none, slots := #[], data := .fields [(.str "bounded" 1688), (.str "bounded" 1689), (.str "/claim/cut.py" 1690), (.int (467) 0), (.int (4) 0), (.int (0) 0), (.int (0) 0), (.int (3) 0), (.ref 1030), (.bool true), (.int (181) 0), (.ref 1031), .none, (.ref 1032), (.ref 1033), (.ref 1034), (.int (1696) 0), (.int (467) 0), (.str "/claim/cut.py" 1697)].toArray }
def ob1036 (P : Params) : Obj := { cls := .type "function", dict := none, slots := #[], data := .func (PySem.W.fnOf "bounded" "bounded" (defArgs sf_bounded) (defBody sf_bounded) (defScope sf_bounded) .none .none .none (.str "viewlease.cuts" 1686) none (.ref 1035) .none) }
def ob1040 (P : Params) : Obj := { cls := .type "code", dict := none, slots := #[], data := .fields [(.str "cut_of" 1699), (.str "cut_of" 1700), (.str "/claim/cut.py" 1701), (.int (470) 0), (.int (2) 0), (.int (0) 0), (.int (0) 0), (.int (3) 0), (.ref 1037), (.bool true), (.int (181) 0), (.ref 1038), .none, .none, .none, (.ref 1039), (.int (1702) 0), (.int (470) 0), (.str "/claim/cut.py" 1703)].toArray }
def ob1041 (P : Params) : Obj := { cls := .type "function", dict := none, slots := #[], data := .func (PySem.W.fnOf "cut_of" "cut_of" (defArgs sf_cut_of) (defBody sf_cut_of) (defScope sf_cut_of) .none .none .none (.str "viewlease.cuts" 1686) none (.ref 1040) .none) }
def ob1045 (P : Params) : Obj := { cls := .type "code", dict := none, slots := #[], data := .fields [(.str "cut_places" 1705), (.str "cut_places" 1706), (.str "/claim/cut.py" 1707), (.int (484) 0), (.int (2) 0), (.int (0) 0), (.int (0) 0), (.int (3) 0), (.ref 1042), (.bool true), (.int (181) 0), (.ref 1043), .none, .none, .none, (.ref 1044), (.int (1708) 0), (.int (484) 0), (.str "/claim/cut.py" 1709)].toArray }
def ob1046 (P : Params) : Obj := { cls := .type "function", dict := none, slots := #[], data := .func (PySem.W.fnOf "cut_places" "cut_places" (defArgs sf_cut_places) (defBody sf_cut_places) (defScope sf_cut_places) .none .none .none (.str "viewlease.cuts" 1686) none (.ref 1045) .none) }
def ob1061 (P : Params) : Obj := { cls := .type "tuple", dict := none, slots := #[], data := .seq [.none, .none, .none].toArray 0 }
def ob1067 (P : Params) : Obj := { cls := .type "code", dict := none, slots := #[], data := .fields [(.str "__init__" 1733), (.str "Cut.__init__" 1734), (.str "/claim/cut.py" 1735), (.int (492) 0), (.int (4) 0), (.int (0) 0), (.int (0) 0), (.int (3) 0), (.ref 1062), (.bool true), (.int (181) 0), (.ref 1063), .none, (.ref 1064), (.ref 1065), (.ref 1066), (.int (1740) 0), (.int (492) 0), (.str "/claim/cut.py" 1741)].toArray }
def ob1068 (P : Params) : Obj := { cls := .type "function", dict := none, slots := #[], data := .func (PySem.W.fnOf "__init__" "Cut.__init__" (defArgs sm_cut_init) (defBody sm_cut_init) (defScope sm_cut_init) (.ref 1061) .none .none (.str "viewlease.keys" 1719) none (.ref 1067) .none) }
def ob1070 (P : Params) : Obj := { cls := .type "dict", dict := none, slots := #[], data := .dict [en P "__module__" 1728 (.str "viewlease.keys" 1719), en P "__firstlineno__" 1732 (.int (490) 1731), en P "__init__" 1742 (.ref 1068), en P "__static_attributes__" 1746 (.ref 1069), en P "__dict__" 1748 (.ref 1072), en P "__weakref__" 1750 (.ref 1073), en P "__doc__" 1751 .none].toArray 4 }
def ob1071 (P : Params) : Obj := { cls := .type "type", dict := none, slots := #[none, none, some (.str "Cut" 1721), some (.str "Cut" 1729), some (.builtin "object.__new__"), some (.bool true)], data := .cls { name := "Cut", bases := [(.type "object")], mro := [(.ref 1071), (.type "object")], ns := 1070, qualname := "Cut", hasDict := true, slotNames := [], subclasses := [], abstract := false, collection := none, hasDel := false } }
def ob1084 (P : Params) : Obj := { cls := .type "dict", dict := none, slots := #[], data := .dict [en P "__module__" 1761 (.str "viewlease.keys" 1719), en P "__firstlineno__" 1765 (.int (496) 1764), en P "__static_attributes__" 1766 (.ref 1083), en P "__dict__" 1768 (.ref 1086), en P "__weakref__" 1770 (.ref 1087), en P "__doc__" 1771 .none].toArray 4 }
def ob1085 (P : Params) : Obj := { cls := .type "type", dict := none, slots := #[none, none, some (.str "Dots" 1754), some (.str "Dots" 1762), some (.builtin "object.__new__"), some (.bool true)], data := .cls { name := "Dots", bases := [(.type "object")], mro := [(.ref 1085), (.type "object")], ns := 1084, qualname := "Dots", hasDict := true, slotNames := [], subclasses := [], abstract := false, collection := none, hasDel := false } }
def ob1093 (P : Params) : Obj := { cls := .type "code", dict := none, slots := #[], data := .fields [(.str "key_kind" 1774), (.str "key_kind" 1775), (.str "/claim/cut.py" 1776), (.int (498) 0), (.int (1) 0), (.int (0) 0), (.int (0) 0), (.int (3) 0), (.ref 1090), (.bool true), (.int (181) 0), (.ref 1091), .none, .none, .none, (.ref 1092), (.int (1777) 0), (.int (498) 0), (.str "/claim/cut.py" 1778)].toArray }
def ob1094 (P : Params) : Obj := { cls := .type "function", dict := none, slots := #[], data := .func (PySem.W.fnOf "key_kind" "key_kind" (defArgs sf_key_kind) (defBody sf_key_kind) (defScope sf_key_kind) .none .none .none (.str "viewlease.keys" 1719) none (.ref 1093) .none) }
def ob1114 (P : Params) : Obj := { cls := .type "code", dict := none, slots := #[], data := .fields [(.str "__init__" 1804), (.str "Seen.__init__" 1805), (.str "/claim/cut.py" 1806), (.int (518) 0), (.int (6) 0), (.int (0) 0), (.int (0) 0), (.int (3) 0), (.ref 1109), (.bool true), (.int (181) 0), (.ref 1110), .none, (.ref 1111), (.ref 1112), (.ref 1113), (.int (1813) 0), (.int (518) 0), (.str "/claim/cut.py" 1814)].toArray }
def ob1115 (P : Params) : Obj := { cls := .type "function", dict := none, slots := #[], data := .func (PySem.W.fnOf "__init__" "Seen.__init__" (defArgs sm_seen_init) (defBody sm_seen_init) (defScope sm_seen_init) .none .none .none (.str "viewlease.views" 1790) none (.ref 1114) .none) }
def ob1117 (P : Params) : Obj := { cls := .type "dict", dict := none, slots := #[], data := .dict [en P "__module__" 1799 (.str "viewlease.views" 1790), en P "__firstlineno__" 1803 (.int (516) 1802), en P "__init__" 1815 (.ref 1115), en P "__static_attributes__" 1823 (.ref 1116), en P "__dict__" 1825 (.ref 1119), en P "__weakref__" 1827 (.ref 1120), en P "__doc__" 1828 .none].toArray 4 }
def ob1118 (P : Params) : Obj := { cls := .type "type", dict := none, slots := #[none, none, some (.str "Seen" 1792), some (.str "Seen" 1800), some (.builtin "object.__new__"), some (.bool true)], data := .cls { name := "Seen", bases := [(.type "object")], mro := [(.ref 1118), (.type "object")], ns := 1117, qualname := "Seen", hasDict := true, slotNames := [], subclasses := [], abstract := false, collection := none, hasDel := false } }
def ob1128 (P : Params) : Obj := { cls := .type "code", dict := none, slots := #[], data := .fields [(.str "asked" 1831), (.str "asked" 1832), (.str "/claim/cut.py" 1833), (.int (526) 0), (.int (2) 0), (.int (0) 0), (.int (0) 0), (.int (3) 0), (.ref 1123), (.bool true), (.int (181) 0), (.ref 1124), .none, (.ref 1125), (.ref 1126), (.ref 1127), (.int (1840) 0), (.int (526) 0), (.str "/claim/cut.py" 1841)].toArray }
def ob1129 (P : Params) : Obj := { cls := .type "function", dict := none, slots := #[], data := .func (PySem.W.fnOf "asked" "asked" (defArgs sf_asked) (defBody sf_asked) (defScope sf_asked) .none .none .none (.str "viewlease.views" 1790) none (.ref 1128) .none) }
def ob1142 (P : Params) : Obj := { cls := .type "code", dict := none, slots := #[], data := .fields [(.str "__init__" 1855), (.str "MemoryView.__init__" 1856), (.str "/claim/cut.py" 1857), (.int (532) 0), (.int (2) 0), (.int (0) 0), (.int (0) 0), (.int (3) 0), (.ref 1137), (.bool true), (.int (181) 0), (.ref 1138), .none, (.ref 1139), (.ref 1140), (.ref 1141), (.int (1862) 0), (.int (532) 0), (.str "/claim/cut.py" 1863)].toArray }
def ob1143 (P : Params) : Obj := { cls := .type "function", dict := none, slots := #[], data := .func (PySem.W.fnOf "__init__" "MemoryView.__init__" (defArgs sm_mv_init) (defBody sm_mv_init) (defScope sm_mv_init) .none .none .none (.str "viewlease.views" 1790) none (.ref 1142) .none) }
def ob1149 (P : Params) : Obj := { cls := .type "code", dict := none, slots := #[], data := .fields [(.str "lay_out" 1865), (.str "MemoryView.lay_out" 1866), (.str "/claim/cut.py" 1867), (.int (547) 0), (.int (6) 0), (.int (0) 0), (.int (0) 0), (.int (3) 0), (.ref 1144), (.bool true), (.int (181) 0), (.ref 1145), .none, (.ref 1146), (.ref 1147), (.ref 1148), (.int (1874) 0), (.int (547) 0), (.str "/claim/cut.py" 1875)].toArray }
def ob1150 (P : Params) : Obj := { cls := .type "function", dict := none, slots := #[], data := .func (PySem.W.fnOf "lay_out" "MemoryView.lay_out" (defArgs sm_mv_lay_out) (defBody sm_mv_lay_out) (defScope sm_mv_lay_out) .none .none .none (.str "viewlease.views" 1790) none (.ref 1149) .none) }
def ob1156 (P : Params) : Obj := { cls := .type "code", dict := none, slots := #[], data := .fields [(.str "check_open" 1877), (.str "MemoryView.check_open" 1878), (.str "/claim/cut.py" 1879), (.int (556) 0), (.int (1) 0), (.int (0) 0), (.int (0) 0), (.int (3) 0), (.ref 1151), (.bool true), (.int (181) 0), (.ref 1152), .none, (.ref 1153), (.ref 1154), (.ref 1155), (.int (1881) 0), (.int (556) 0), (.str "/claim/cut.py" 1882)].toArray }
def ob1157 (P : Params) : Obj := { cls := .type "function", dict := none, slots := #[], data := .func (PySem.W.fnOf "check_open" "MemoryView.check_open" (defArgs sm_mv_check_open) (defBody sm_mv_check_open) (defScope sm_mv_check_open) .none .none .none (.str "viewlease.views" 1790) none (.ref 1156) .none) }
def ob1266 (P : Params) : Obj := { cls := .type "code", dict := none, slots := #[], data := .fields [(.str "memory_now" 1987), (.str "MemoryView.memory_now" 1988), (.str "/claim/cut.py" 1989), (.int (618) 0), (.int (1) 0), (.int (0) 0), (.int (0) 0), (.int (3) 0), (.ref 1261), (.bool true), (.int (181) 0), (.ref 1262), .none, (.ref 1263), (.ref 1264), (.ref 1265), (.int (1991) 0), (.int (618) 0), (.str "/claim/cut.py" 1992)].toArray }
def ob1267 (P : Params) : Obj := { cls := .type "function", dict := none, slots := #[], data := .func (PySem.W.fnOf "memory_now" "MemoryView.memory_now" (defArgs sm_mv_memory_now) (defBody sm_mv_memory_now) (defScope sm_mv_memory_now) .none .none .none (.str "viewlease.views" 1790) none (.ref 1266) .none) }
def ob1280 (P : Params) : Obj := { cls := .type "code", dict := none, slots := #[], data := .fields [(.str "item" 2006), (.str "MemoryView.item" 2007), (.str "/claim/cut.py" 2008), (.int (632) 0), (.int (2) 0), (.int (0) 0), (.int (0) 0), (.int (3) 0), (.ref 1275), (.bool true), (.int (181) 0), (.ref 1276), .none, (.ref 1277), (.ref 1278), (.ref 1279), (.int (2012) 0), (.int (632) 0), (.str "/claim/cut.py" 2013)].toArray }
def ob1281 (P : Params) : Obj := { cls := .type "function", dict := none, slots := #[], data := .func (PySem.W.fnOf "item" "MemoryView.item" (defArgs sm_mv_item) (defBody sm_mv_item) (defScope sm_mv_item) .none .none .none (.str "viewlease.views" 1790) none (.ref 1280) .none) }
def ob1294 (P : Params) : Obj := { cls := .type "code", dict := none, slots := #[], data := .fields [(.str "cut_first" 2024), (.str "MemoryView.cut_first" 2025), (.str "/claim/cut.py" 2026), (.int (652) 0), (.int (2) 0), (.int (0) 0), (.int (0) 0), (.int (3) 0), (.ref 1289), (.bool true), (.int (181) 0), (.ref 1290), .none, (.ref 1291), (.ref 1292), (.ref 1293), (.int (2036) 0), (.int (652) 0), (.str "/claim/cut.py" 2037)].toArray }
def ob1295 (P : Params) : Obj := { cls := .type "function", dict := none, slots := #[], data := .func (PySem.W.fnOf "cut_first" "MemoryView.cut_first" (defArgs sm_mv_cut_first) (defBody sm_mv_cut_first) (defScope sm_mv_cut_first) .none .none .none (.str "viewlease.views" 1790) none (.ref 1294) .none) }
def ob1301 (P : Params) : Obj := { cls := .type "code", dict := none, slots := #[], data := .fields [(.str "check_writable" 2039), (.str "MemoryView.check_writable" 2040), (.str "/claim/cut.py" 2041), (.int (659) 0), (.int (1) 0), (.int (0) 0), (.int (0) 0), (.int (3) 0), (.ref 1296), (.bool true), (.int (181) 0), (.ref 1297), .none, (.ref 1298), (.ref 1299), (.ref 1300), (.int (2043) 0), (.int (659) 0), (.str "/claim/cut.py" 2044)].toArray }
def ob1302 (P : Params) : Obj := { cls := .type "function", dict := none, slots := #[], data := .func (PySem.W.fnOf "check_writable" "MemoryView.check_writable" (defArgs sm_mv_check_writable) (defBody sm_mv_check_writable) (defScope sm_mv_check_writable) .none .none .none (.str "viewlease.views" 1790) none (.ref 1301) .none) }
def ob1308 (P : Params) : Obj := { cls := .type "code", dict := none, slots := #[], data := .fields [(.str "put" 2046), (.str "MemoryView.put" 2047), (.str "/claim/cut.py" 2048), (.int (665) 0), (.int (3) 0), (.int (0) 0), (.int (0) 0), (.int (3) 0), (.ref 1303), (.bool true), (.int (181) 0), (.ref 1304), .none, (.ref 1305), (.ref 1306), (.ref 1307), (.int (2054) 0), (.int (665) 0), (.str "/claim/cut.py" 2055)].toArray }
def ob1309 (P : Params) : Obj := { cls := .type "function", dict := none, slots := #[], data := .func (PySem.W.fnOf "put" "MemoryView.put" (defArgs sm_mv_put) (defBody sm_mv_put) (defScope sm_mv_put) .none .none .none (.str "viewlease.views" 1790) none (.ref 1308) .none) }
def ob1315 (P : Params) : Obj := { cls := .type "code", dict := none, slots := #[], data := .fields [(.str "put_cut" 2057), (.str "MemoryView.put_cut" 2058), (.str "/claim/cut.py" 2059), (.int (682) 0), (.int (3) 0), (.int (0) 0), (.int (0) 0), (.int (3) 0), (.ref 1310), (.bool true), (.int (181) 0), (.ref 1311), .none, (.ref 1312), (.ref 1313), (.ref 1314), (.int (2065) 0), (.int (682) 0), (.str "/claim/cut.py" 2066)].toArray }
def ob1316 (P : Params) : Obj := { cls := .type "function", dict := none, slots := #[], data := .func (PySem.W.fnOf "put_cut" "MemoryView.put_cut" (defArgs sm_mv_put_cut) (defBody sm_mv_put_cut) (defScope sm_mv_put_cut) .none .none .none (.str "viewlease.views" 1790) none (.ref 1315) .none) }
def ob1320 (P : Params) : Obj := { cls := .type "code", dict := none, slots := #[], data := .fields [(.str "places_for" 2068), (.str "MemoryView.places_for" 2069), (.str "/claim/cut.py" 2070), (.int (688) 0), (.int (3) 0), (.int (0) 0), (.int (0) 0), (.int (3) 0), (.ref 1317), (.bool true), (.int (181) 0), (.ref 1318), .none, .none, .none, (.ref 1319), (.int (2071) 0), (.int (688) 0), (.str "/claim/cut.py" 2072)].toArray }
def ob1321 (P : Params) : Obj := { cls := .type "function", dict := none, slots := #[], data := .func (PySem.W.fnOf "places_for" "MemoryView.places_for" (defArgs sm_mv_places_for) (defBody sm_mv_places_for) (defScope sm_mv_places_for) .none .none .none (.str "viewlease.views" 1790) none (.ref 1320) .none) }
def ob1348 (P : Params) : Obj := { cls := .type "tuple", dict := none, slots := #[], data := .seq [(.str "C" 2102)].toArray 0 }
def ob1354 (P : Params) : Obj := { cls := .type "code", dict := none, slots := #[], data := .fields [(.str "tobytes" 2103), (.str "MemoryView.tobytes" 2104), (.str "/claim/cut.py" 2105), (.int (712) 0), (.int (2) 0), (.int (0) 0), (.int (0) 0), (.int (3) 0), (.ref 1349), (.bool true), (.int (181) 0), (.ref 1350), .none, (.ref 1351), (.ref 1352), (.ref 1353), (.int (2108) 0), (.int (712) 0), (.str "/claim/cut.py" 2109)].toArray }
def ob1355 (P : Params) : Obj := { cls := .type "function", dict := none, slots := #[], data := .func (PySem.W.fnOf "tobytes" "MemoryView.tobytes" (defArgs sm_mv_tobytes) (defBody sm_mv_tobytes) (defScope sm_mv_tobytes) (.ref 1348) .none .none (.str "viewlease.views" 1790) none (.ref 1354) .none) }
def ob1361 (P : Params) : Obj := { cls := .type "code", dict := none, slots := #[], data := .fields [(.str "tolist" 2111), (.str "MemoryView.tolist" 2112), (.str "/claim/cut.py" 2113), (.int (716) 0), (.int (1) 0), (.int (0) 0), (.int (0) 0), (.int (3) 0), (.ref 1356), (.bool true), (.int (181) 0), (.ref 1357), .none, (.ref 1358), (.ref 1359), (.ref 1360), (.int (2115) 0), (.int (716) 0), (.str "/claim/cut.py" 2116)].toArray }
def ob1362 (P : Params) : Obj := { cls := .type "function", dict := none, slots := #[], data := .func (PySem.W.fnOf "tolist" "MemoryView.tolist" (defArgs sm_mv_tolist) (defBody sm_mv_tolist) (defScope sm_mv_tolist) .none .none .none (.str "viewlease.views" 1790) none (.ref 1361) .none) }
def ob1405 (P : Params) : Obj := { cls := .type "code", dict := none, slots := #[], data := .fields [(.str "lend" 2160), (.str "MemoryView.lend" 2161), (.str "/claim/cut.py" 2162), (.int (744) 0), (.int (2) 0), (.int (0) 0), (.int (0) 0), (.int (3) 0), (.ref 1400), (.bool true), (.int (181) 0), (.ref 1401), .none, (.ref 1402), (.ref 1403), (.ref 1404), (.int (2165) 0), (.int (744) 0), (.str "/claim/cut.py" 2166)].toArray }
def ob1406 (P : Params) : Obj := { cls := .type "function", dict := none, slots := #[], data := .func (PySem.W.fnOf "lend" "MemoryView.lend" (defArgs sm_mv_lend) (defBody sm_mv_lend) (defScope sm_mv_lend) .none .none .none (.str "viewlease.views" 1790) none (.ref 1405) .none) }
def ob1412 (P : Params) : Obj := { cls := .type "code", dict := none, slots := #[], data := .fields [(.str "take_back" 2168), (.str "MemoryView.take_back" 2169), (.str "/claim/cut.py" 2170), (.int (750) 0), (.int (2) 0), (.int (0) 0), (.int (0) 0), (.int (3) 0), (.ref 1407), (.bool true), (.int (181) 0), (.ref 1408), .none, (.ref 1409), (.ref 1410), (.ref 1411), (.int (2173) 0), (.int (750) 0), (.str "/claim/cut.py" 2174)].toArray }
def ob1413 (P : Params) : Obj := { cls := .type "function", dict := none, slots := #[], data := .func (PySem.W.fnOf "take_back" "MemoryView.take_back" (defArgs sm_mv_take_back) (defBody sm_mv_take_back) (defScope sm_mv_take_back) .none .none .none (.str "viewlease.views" 1790) none (.ref 1412) .none) }
def ob1415 (P : Params) : Obj := { cls := .type "dict", dict := none, slots := #[], data := .dict [en P "__module__" 1850 (.str "viewlease.views" 1790), en P "__firstlineno__" 1854 (.int (530) 1853), en P "__init__" 1864 (.ref 1143), en P "lay_out" 1876 (.ref 1150), en P "check_open" 1883 (.ref 1157), en P "obj" 1891 (.ref 1165), en P "layout" 1899 (.ref 1173), en P "itemsize" 1907 (.ref 1181), en P "ndim" 1915 (.ref 1189), en P "shape" 1923 (.ref 1197), en P "strides" 1931 (.ref 1205), en P "suboffsets" 1939 (.ref 1213), en P "readonly" 1947 (.ref 1221), en P "nbytes" 1955 (.ref 1229), en P "c_contiguous" 1963 (.ref 1237), en P "f_contiguous" 1971 (.ref 1245), en P "contiguous" 1979 (.ref 1253), en P "__len__" 1986 (.ref 1260), en P "memory_now" 1993 (.ref 1267), en P "place_of" 2005 (.ref 1274), en P "item" 2014 (.ref 1281), en P "only_item" 2023 (.ref 1288), en P "cut_first" 2038 (.ref 1295), en P "check_writable" 2045 (.ref 1302), en P "put" 2056 (.ref 1309), en P "put_cut" 2067 (.ref 1316), en P "places_for" 2073 (.ref 1321), en P "remove_at" 2081 (.ref 1328), en P "items_listed" 2088 (.ref 1335), en P "has" 2094 (.ref 1340), en P "toreadonly" 2101 (.ref 1347), en P "tobytes" 2110 (.ref 1355), en P "tolist" 2117 (.ref 1362), en P "hexed" 2127 (.ref 1370), en P "cast" 2136 (.ref 1378), en P "equals" 2144 (.ref 1385), en P "hashed" 2151 (.ref 1392), en P "release" 2159 (.ref 1399), en P "lend" 2167 (.ref 1406), en P "take_back" 2175 (.ref 1413), en P "__static_attributes__" 2188 (.ref 1414), en P "__doc__" 2189 .none].toArray 2 }
def ob1416 (P : Params) : Obj := { cls := .type "type", dict := none, slots := #[some (.ref 1130), none, some (.str "MemoryView" 1843), some (.str "MemoryView" 1851), some (.builtin "object.__new__"), some (.bool true)], data := .cls { name := "MemoryView", bases := [(.ref 905)], mro := [(.ref 1416), (.ref 905), (.type "object")], ns := 1415, qualname := "MemoryView", hasDict := true, slotNames := [], subclasses := [], abstract := false, collection := none, hasDel := false } }
def ob1424 (P : Params) : Obj := { cls := .type "code", dict := none, slots := #[], data := .fields [(.str "checked_byte" 2194), (.str "checked_byte" 2195), (.str "/claim/cut.py" 2196), (.int (753) 0), (.int (1) 0), (.int (0) 0), (.int (0) 0), (.int (3) 0), (.ref 1419), (.bool true), (.int (181) 0), (.ref 1420), .none, (.ref 1421), (.ref 1422), (.ref 1423), (.int (2198) 0), (.int (753) 0), (.str "/claim/cut.py" 2199)].toArray }
def ob1425 (P : Params) : Obj := { cls := .type "function", dict := none, slots := #[], data := .func (PySem.W.fnOf "checked_byte" "checked_byte" (defArgs sf_checked_byte) (defBody sf_checked_byte) (defScope sf_checked_byte) .none .none .none (.str "viewlease.bytearrays" 2192) none (.ref 1424) .none) }
def ob1429 (P : Params) : Obj := { cls := .type "code", dict := none, slots := #[], data := .fields [(.str "bytes_of_row" 2201), (.str "bytes_of_row" 2202), (.str "/claim/cut.py" 2203), (.int (759) 0), (.int (1) 0), (.int (0) 0), (.int (0) 0), (.int (3) 0), (.ref 1426), (.bool true), (.int (181) 0), (.ref 1427), .none, .none, .none, (.ref 1428), (.int (2204) 0), (.int (759) 0), (.str "/claim/cut.py" 2205)].toArray }
def ob1430 (P : Params) : Obj := { cls := .type "function", dict := none, slots := #[], data := .func (PySem.W.fnOf "bytes_of_row" "bytes_of_row" (defArgs sf_bytes_of_row) (defBody sf_bytes_of_row) (defScope sf_bytes_of_row) .none .none .none (.str "viewlease.bytearrays" 2192) none (.ref 1429) .none) }
def ob1436 (P : Params) : Obj := { cls := .type "code", dict := none, slots := #[], data := .fields [(.str "bytes_given" 2207), (.str "bytes_given" 2208), (.str "/claim/cut.py" 2209), (.int (763) 0), (.int (1) 0), (.int (0) 0), (.int (0) 0), (.int (3) 0), (.ref 1431), (.bool true), (.int (181) 0), (.ref 1432), .none, (.ref 1433), (.ref 1434), (.ref 1435), (.int (2211) 0), (.int (763) 0), (.str "/claim/cut.py" 2212)].toArray }
def ob1437 (P : Params) : Obj := { cls := .type "function", dict := none, slots := #[], data := .func (PySem.W.fnOf "bytes_given" "bytes_given" (defArgs sf_bytes_given) (defBody sf_bytes_given) (defScope sf_bytes_given) .none .none .none (.str "viewlease.bytearrays" 2192) none (.ref 1436) .none) }
def ob1460 (P : Params) : Obj := { cls := .type "tuple", dict := none, slots := #[], data := .seq [(.ref 1459)].toArray 0 }
def ob1466 (P : Params) : Obj := { cls := .type "code", dict := none, slots := #[], data := .fields [(.str "__init__" 2243), (.str "ByteArray.__init__" 2244), (.str "/claim/cut.py" 2245), (.int (784) 0), (.int (2) 0), (.int (0) 0), (.int (0) 0), (.int (3) 0), (.ref 1461), (.bool true), (.int (181) 0), (.ref 1462), .none, (.ref 1463), (.ref 1464), (.ref 1465), (.int (2248) 0), (.int (784) 0), (.str "/claim/cut.py" 2249)].toArray }
def ob1467 (P : Params) : Obj := { cls := .type "function", dict := none, slots := #[], data := .func (PySem.W.fnOf "__init__" "ByteArray.__init__" (defArgs sm_ba_init) (defBody sm_ba_init) (defScope sm_ba_init) (.ref 1460) .none .none (.str "viewlease.bytearrays" 2192) none (.ref 1466) .none) }
def ob1480 (P : Params) : Obj := { cls := .type "code", dict := none, slots := #[], data := .fields [(.str "lend" 2258), (.str "ByteArray.lend" 2259), (.str "/claim/cut.py" 2260), (.int (791) 0), (.int (2) 0), (.int (0) 0), (.int (0) 0), (.int (3) 0), (.ref 1475), (.bool true), (.int (181) 0), (.ref 1476), .none, (.ref 1477), (.ref 1478), (.ref 1479), (.int (2263) 0), (.int (791) 0), (.str "/claim/cut.py" 2264)].toArray }
def ob1481 (P : Params) : Obj := { cls := .type "function", dict := none, slots := #[], data := .func (PySem.W.fnOf "lend" "ByteArray.lend" (defArgs sm_ba_lend) (defBody sm_ba_lend) (defScope sm_ba_lend) .none .none .none (.str "viewlease.bytearrays" 2192) none (.ref 1480) .none) }
def ob1487 (P : Params) : Obj := { cls := .type "code", dict := none, slots := #[], data := .fields [(.str "take_back" 2266), (.str "ByteArray.take_back" 2267), (.str "/claim/cut.py" 2268), (.int (795) 0), (.int (2) 0), (.int (0) 0), (.int (0) 0), (.int (3) 0), (.ref 1482), (.bool true), (.int (181) 0), (.ref 1483), .none, (.ref 1484), (.ref 1485), (.ref 1486), (.int (2271) 0), (.int (795) 0), (.str "/claim/cut.py" 2272)].toArray }
def ob1488 (P : Params) : Obj := { cls := .type "function", dict := none, slots := #[], data := .func (PySem.W.fnOf "take_back" "ByteArray.take_back" (defArgs sm_ba_take_back) (defBody sm_ba_take_back) (defScope sm_ba_take_back) .none .none .none (.str "viewlease.bytearrays" 2192) none (.ref 1487) .none) }
def ob1508 (P : Params) : Obj := { cls := .type "code", dict := none, slots := #[], data := .fields [(.str "data" 2289), (.str "ByteArray.data" 2290), (.str "/claim/cut.py" 2291), (.int (807) 0), (.int (1) 0), (.int (0) 0), (.int (0) 0), (.int (3) 0), (.ref 1503), (.bool true), (.int (181) 0), (.ref 1504), .none, (.ref 1505), (.ref 1506), (.ref 1507), (.int (2293) 0), (.int (807) 0), (.str "/claim/cut.py" 2294)].toArray }
def ob1509 (P : Params) : Obj := { cls := .type "function", dict := none, slots := #[], data := .func (PySem.W.fnOf "data" "ByteArray.data" (defArgs sm_ba_data) (defBody sm_ba_data) (defScope sm_ba_data) .none .none .none (.str "viewlease.bytearrays" 2192) none (.ref 1508) .none) }
def ob1606 (P : Params) : Obj := { cls := .type "dict", dict := none, slots := #[], data := .dict [en P "__module__" 2238 (.str "viewlease.bytearrays" 2192), en P "__firstlineno__" 2242 (.int (782) 2241), en P "__init__" 2250 (.ref 1467), en P "__len__" 2257 (.ref 1474), en P "lend" 2265 (.ref 1481), en P "take_back" 2273 (.ref 1488), en P "check_unlocked" 2280 (.ref 1495), en P "replace" 2288 (.ref 1502), en P "data" 2295 (.ref 1509), en P "item" 2301 (.ref 1514), en P "put" 2311 (.ref 1521), en P "put_cut" 2325 (.ref 1528), en P "remove_at" 2331 (.ref 1533), en P "append" 2340 (.ref 1540), en P "insert" 2349 (.ref 1547), en P "pop" 2361 (.ref 1555), en P "remove" 2369 (.ref 1562), en P "extend" 2378 (.ref 1569), en P "add" 2386 (.ref 1576), en P "clear" 2393 (.ref 1583), en P "reverse" 2400 (.ref 1590), en P "times" 2408 (.ref 1597), en P "equals" 2416 (.ref 1604), en P "__static_attributes__" 2419 (.ref 1605), en P "__doc__" 2420 .none].toArray 2 }
def ob1607 (P : Params) : Obj := { cls := .type "type", dict := none, slots := #[some (.ref 1452), none, some (.str "ByteArray" 2231), some (.str "ByteArray" 2239), some (.builtin "object.__new__"), some (.bool true)], data := .cls { name := "ByteArray", bases := [(.ref 905)], mro := [(.ref 1607), (.ref 905), (.type "object")], ns := 1606, qualname := "ByteArray", hasDict := true, slotNames := [], subclasses := [], abstract := false, collection := none, hasDel := false } }
def ob1617 (P : Params) : Obj := { cls := .type "tuple", dict := none, slots := #[], data := .seq [(.int (0) 2437), (.bool true)].toArray 0 }
def ob1621 (P : Params) : Obj := { cls := .type "code", dict := none, slots := #[], data := .fields [(.str "__init__" 2438), (.str "Strided.__init__" 2439), (.str "/claim/cut.py" 2440), (.int (886) 0), (.int (7) 0), (.int (0) 0), (.int (0) 0), (.int (3) 0), (.ref 1618), (.bool true), (.int (181) 0), (.ref 1619), .none, .none, .none, (.ref 1620), (.int (2441) 0), (.int (886) 0), (.str "/claim/cut.py" 2442)].toArray }
def ob1622 (P : Params) : Obj := { cls := .type "function", dict := none, slots := #[], data := .func (PySem.W.fnOf "__init__" "Strided.__init__" (defArgs sm_st_init) (defBody sm_st_init) (defScope sm_st_init) (.ref 1617) .none .none (.str "viewlease.strided" 2423) none (.ref 1621) .none) }
def ob1628 (P : Params) : Obj := { cls := .type "code", dict := none, slots := #[], data := .fields [(.str "lend" 2444), (.str "Strided.lend" 2445), (.str "/claim/cut.py" 2446), (.int (897) 0), (.int (2) 0), (.int (0) 0), (.int (0) 0), (.int (3) 0), (.ref 1623), (.bool true), (.int (181) 0), (.ref 1624), .none, (.ref 1625), (.ref 1626), (.ref 1627), (.int (2450) 0), (.int (897) 0), (.str "/claim/cut.py" 2451)].toArray }
def ob1629 (P : Params) : Obj := { cls := .type "function", dict := none, slots := #[], data := .func (PySem.W.fnOf "lend" "Strided.lend" (defArgs sm_st_lend) (defBody sm_st_lend) (defScope sm_st_lend) .none .none .none (.str "viewlease.strided" 2423) none (.ref 1628) .none) }
def ob1635 (P : Params) : Obj := { cls := .type "code", dict := none, slots := #[], data := .fields [(.str "take_back" 2453), (.str "Strided.take_back" 2454), (.str "/claim/cut.py" 2455), (.int (902) 0), (.int (2) 0), (.int (0) 0), (.int (0) 0), (.int (3) 0), (.ref 1630), (.bool true), (.int (181) 0), (.ref 1631), .none, (.ref 1632), (.ref 1633), (.ref 1634), (.int (2458) 0), (.int (902) 0), (.str "/claim/cut.py" 2459)].toArray }
def ob1636 (P : Params) : Obj := { cls := .type "function", dict := none, slots := #[], data := .func (PySem.W.fnOf "take_back" "Strided.take_back" (defArgs sm_st_take_back) (defBody sm_st_take_back) (defScope sm_st_take_back) .none .none .none (.str "viewlease.strided" 2423) none (.ref 1635) .none) }
def ob1642 (P : Params) : Obj := { cls := .type "code", dict := none, slots := #[], data := .fields [(.str "data" 2461), (.str "Strided.data" 2462), (.str "/claim/cut.py" 2463), (.int (905) 0), (.int (1) 0), (.int (0) 0), (.int (0) 0), (.int (3) 0), (.ref 1637), (.bool true), (.int (181) 0), (.ref 1638), .none, (.ref 1639), (.ref 1640), (.ref 1641), (.int (2465) 0), (.int (905) 0), (.str "/claim/cut.py" 2466)].toArray }
def ob1643 (P : Params) : Obj := { cls := .type "function", dict := none, slots := #[], data := .func (PySem.W.fnOf "data" "Strided.data" (defArgs sm_st_data) (defBody sm_st_data) (defScope sm_st_data) .none .none .none (.str "viewlease.strided" 2423) none (.ref 1642) .none) }
def ob1645 (P : Params) : Obj := { cls := .type "dict", dict := none, slots := #[], data := .dict [en P "__module__" 2432 (.str "viewlease.strided" 2423), en P "__firstlineno__" 2436 (.int (884) 2435), en P "__init__" 2443 (.ref 1622), en P "lend" 2452 (.ref 1629), en P "take_back" 2460 (.ref 1636), en P "data" 2467 (.ref 1643), en P "__static_attributes__" 2469 (.ref 1644), en P "__doc__" 2470 .none].toArray 2 }
def ob1646 (P : Params) : Obj := { cls := .type "type", dict := none, slots := #[some (.ref 1610), none, some (.str "Strided" 2425), some (.str "Strided" 2433), some (.builtin "object.__new__"), some (.bool true)], data := .cls { name := "Strided", bases := [(.ref 905)], mro := [(.ref 1646), (.ref 905), (.type "object")], ns := 1645, qualname := "Strided", hasDict := true, slotNames := [], subclasses := [], abstract := false, collection := none, hasDel := false } }
def ob1652 (P : Params) : Obj := { cls := .type "code", dict := none, slots := #[], data := .fields [(.str "_law_places" 2475), (.str "_law_places" 2476), (.str "/claim/cut.py" 2477), (.int (908) 0), (.int (3) 0), (.int (0) 0), (.int (0) 0), (.int (3) 0), (.ref 1649), (.bool true), (.int (181) 0), (.ref 1650), .none, .none, .none, (.ref 1651), (.int (2478) 0), (.int (908) 0), (.str "/claim/cut.py" 2479)].toArray }
def ob1653 (P : Params) : Obj := { cls := .type "function", dict := none, slots := #[], data := .func (PySem.W.fnOf "_law_places" "_law_places" (defArgs sf_l_places) (defBody sf_l_places) (defScope sf_l_places) .none .none .none (.str "law_viewlease_k43_whole_cuts_onto_themselves" 2473) none (.ref 1652) .none) }
def ob1659 (P : Params) : Obj := { cls := .type "code", dict := none, slots := #[], data := .fields [(.str "_law_v_sizes" 2481), (.str "_law_v_sizes" 2482), (.str "/claim/cut.py" 2483), (.int (916) 0), (.int (1) 0), (.int (0) 0), (.int (0) 0), (.int (3) 0), (.ref 1654), (.bool true), (.int (181) 0), (.ref 1655), .none, (.ref 1656), (.ref 1657), (.ref 1658), (.int (2491) 0), (.int (916) 0), (.str "/claim/cut.py" 2492)].toArray }
def ob1660 (P : Params) : Obj := { cls := .type "function", dict := none, slots := #[], data := .func (PySem.W.fnOf "_law_v_sizes" "_law_v_sizes" (defArgs sf_l_v_sizes) (defBody sf_l_v_sizes) (defScope sf_l_v_sizes) .none .none .none (.str "law_viewlease_k43_whole_cuts_onto_themselves" 2473) none (.ref 1659) .none) }
def ob1664 (P : Params) : Obj := { cls := .type "code", dict := none, slots := #[], data := .fields [(.str "_law_v_number" 2494), (.str "_law_v_number" 2495), (.str "/claim/cut.py" 2496), (.int (923) 0), (.int (2) 0), (.int (0) 0), (.int (0) 0), (.int (3) 0), (.ref 1661), (.bool true), (.int (181) 0), (.ref 1662), .none, .none, .none, (.ref 1663), (.int (2497) 0), (.int (923) 0), (.str "/claim/cut.py" 2498)].toArray }
def ob1665 (P : Params) : Obj := { cls := .type "function", dict := none, slots := #[], data := .func (PySem.W.fnOf "_law_v_number" "_law_v_number" (defArgs sf_l_v_number) (defBody sf_l_v_number) (defScope sf_l_v_number) .none .none .none (.str "law_viewlease_k43_whole_cuts_onto_themselves" 2473) none (.ref 1664) .none) }
def ob1699 (P : Params) : Obj := { cls := .type "code", dict := none, slots := #[], data := .fields [(.str "_law_v_read_value" 2545), (.str "_law_v_read_value" 2546), (.str "/claim/cut.py" 2547), (.int (947) 0), (.int (3) 0), (.int (0) 0), (.int (0) 0), (.int (3) 0), (.ref 1694), (.bool true), (.int (181) 0), (.ref 1695), .none, (.ref 1696), (.ref 1697), (.ref 1698), (.int (2553) 0), (.int (947) 0), (.str "/claim/cut.py" 2554)].toArray }
def ob1700 (P : Params) : Obj := { cls := .type "function", dict := none, slots := #[], data := .func (PySem.W.fnOf "_law_v_read_value" "_law_v_read_value" (defArgs sf_l_v_read_value) (defBody sf_l_v_read_value) (defScope sf_l_v_read_value) .none .none .none (.str "law_viewlease_k43_whole_cuts_onto_themselves" 2473) none (.ref 1699) .none) }
def ob1706 (P : Params) : Obj := { cls := .type "code", dict := none, slots := #[], data := .fields [(.str "_law_w_is_native" 2556), (.str "_law_w_is_native" 2557), (.str "/claim/cut.py" 2558), (.int (958) 0), (.int (1) 0), (.int (0) 0), (.int (0) 0), (.int (3) 0), (.ref 1701), (.bool true), (.int (181) 0), (.ref 1702), .none, (.ref 1703), (.ref 1704), (.ref 1705), (.int (2560) 0), (.int (958) 0), (.str "/claim/cut.py" 2561)].toArray }
def ob1707 (P : Params) : Obj := { cls := .type "function", dict := none, slots := #[], data := .func (PySem.W.fnOf "_law_w_is_native" "_law_w_is_native" (defArgs sf_l_w_is_native) (defBody sf_l_w_is_native) (defScope sf_l_w_is_native) .none .none .none (.str "law_viewlease_k43_whole_cuts_onto_themselves" 2473) none (.ref 1706) .none) }
def ob1713 (P : Params) : Obj := { cls := .type "code", dict := none, slots := #[], data := .fields [(.str "_law_w_size" 2563), (.str "_law_w_size" 2564), (.str "/claim/cut.py" 2565), (.int (960) 0), (.int (1) 0), (.int (0) 0), (.int (0) 0), (.int (3) 0), (.ref 1708), (.bool true), (.int (181) 0), (.ref 1709), .none, (.ref 1710), (.ref 1711), (.ref 1712), (.int (2567) 0), (.int (960) 0), (.str "/claim/cut.py" 2568)].toArray }
def ob1714 (P : Params) : Obj := { cls := .type "function", dict := none, slots := #[], data := .func (PySem.W.fnOf "_law_w_size" "_law_w_size" (defArgs sf_l_w_size) (defBody sf_l_w_size) (defScope sf_l_w_size) .none .none .none (.str "law_viewlease_k43_whole_cuts_onto_themselves" 2473) none (.ref 1713) .none) }
def ob1720 (P : Params) : Obj := { cls := .type "code", dict := none, slots := #[], data := .fields [(.str "_law_w_at" 2570), (.str "_law_w_at" 2571), (.str "/claim/cut.py" 2572), (.int (962) 0), (.int (2) 0), (.int (0) 0), (.int (0) 0), (.int (3) 0), (.ref 1715), (.bool true), (.int (181) 0), (.ref 1716), .none, (.ref 1717), (.ref 1718), (.ref 1719), (.int (2575) 0), (.int (962) 0), (.str "/claim/cut.py" 2576)].toArray }
def ob1721 (P : Params) : Obj := { cls := .type "function", dict := none, slots := #[], data := .func (PySem.W.fnOf "_law_w_at" "_law_w_at" (defArgs sf_l_w_at) (defBody sf_l_w_at) (defScope sf_l_w_at) .none .none .none (.str "law_viewlease_k43_whole_cuts_onto_themselves" 2473) none (.ref 1720) .none) }
def ob1725 (P : Params) : Obj := { cls := .type "code", dict := none, slots := #[], data := .fields [(.str "_law_w_nested" 2578), (.str "_law_w_nested" 2579), (.str "/claim/cut.py" 2580), (.int (964) 0), (.int (3) 0), (.int (0) 0), (.int (0) 0), (.int (3) 0), (.ref 1722), (.bool true), (.int (181) 0), (.ref 1723), .none, .none, .none, (.ref 1724), (.int (2581) 0), (.int (964) 0), (.str "/claim/cut.py" 2582)].toArray }
def ob1726 (P : Params) : Obj := { cls := .type "function", dict := none, slots := #[], data := .func (PySem.W.fnOf "_law_w_nested" "_law_w_nested" (defArgs sf_l_w_nested) (defBody sf_l_w_nested) (defScope sf_l_w_nested) .none .none .none (.str "law_viewlease_k43_whole_cuts_onto_themselves" 2473) none (.ref 1725) .none) }
def ob1732 (P : Params) : Obj := { cls := .type "code", dict := none, slots := #[], data := .fields [(.str "_law_w_bytes" 2584), (.str "_law_w_bytes" 2585), (.str "/claim/cut.py" 2586), (.int (968) 0), (.int (2) 0), (.int (0) 0), (.int (0) 0), (.int (3) 0), (.ref 1727), (.bool true), (.int (181) 0), (.ref 1728), .none, (.ref 1729), (.ref 1730), (.ref 1731), (.int (2593) 0), (.int (968) 0), (.str "/claim/cut.py" 2594)].toArray }
def ob1733 (P : Params) : Obj := { cls := .type "function", dict := none, slots := #[], data := .func (PySem.W.fnOf "_law_w_bytes" "_law_w_bytes" (defArgs sf_l_w_bytes) (defBody sf_l_w_bytes) (defScope sf_l_w_bytes) .none .none .none (.str "law_viewlease_k43_whole_cuts_onto_themselves" 2473) none (.ref 1732) .none) }
def ob1739 (P : Params) : Obj := { cls := .type "code", dict := none, slots := #[], data := .fields [(.str "_law_w_cut" 2596), (.str "_law_w_cut" 2597), (.str "/claim/cut.py" 2598), (.int (976) 0), (.int (2) 0), (.int (0) 0), (.int (0) 0), (.int (3) 0), (.ref 1734), (.bool true), (.int (181) 0), (.ref 1735), .none, (.ref 1736), (.ref 1737), (.ref 1738), (.int (2604) 0), (.int (976) 0), (.str "/claim/cut.py" 2605)].toArray }
def ob1740 (P : Params) : Obj := { cls := .type "function", dict := none, slots := #[], data := .func (PySem.W.fnOf "_law_w_cut" "_law_w_cut" (defArgs sf_l_w_cut) (defBody sf_l_w_cut) (defScope sf_l_w_cut) .none .none .none (.str "law_viewlease_k43_whole_cuts_onto_themselves" 2473) none (.ref 1739) .none) }
def ob1746 (P : Params) : Obj := { cls := .type "code", dict := none, slots := #[], data := .fields [(.str "_law_w_model" 2607), (.str "_law_w_model" 2608), (.str "/claim/cut.py" 2609), (.int (983) 0), (.int (7) 0), (.int (0) 0), (.int (0) 0), (.int (3) 0), (.ref 1741), (.bool true), (.int (181) 0), (.ref 1742), .none, (.ref 1743), (.ref 1744), (.ref 1745), (.int (2617) 0), (.int (983) 0), (.str "/claim/cut.py" 2618)].toArray }
def ob1747 (P : Params) : Obj := { cls := .type "function", dict := none, slots := #[], data := .func (PySem.W.fnOf "_law_w_model" "_law_w_model" (defArgs sf_l_w_model) (defBody sf_l_w_model) (defScope sf_l_w_model) .none .none .none (.str "law_viewlease_k43_whole_cuts_onto_themselves" 2473) none (.ref 1746) .none) }
def ob1753 (P : Params) : Obj := { cls := .type "code", dict := none, slots := #[], data := .fields [(.str "_law_w_seen_right" 2620), (.str "_law_w_seen_right" 2621), (.str "/claim/cut.py" 2622), (.int (985) 0), (.int (2) 0), (.int (0) 0), (.int (0) 0), (.int (3) 0), (.ref 1748), (.bool true), (.int (181) 0), (.ref 1749), .none, (.ref 1750), (.ref 1751), (.ref 1752), (.int (2625) 0), (.int (985) 0), (.str "/claim/cut.py" 2626)].toArray }
def ob1754 (P : Params) : Obj := { cls := .type "function", dict := none, slots := #[], data := .func (PySem.W.fnOf "_law_w_seen_right" "_law_w_seen_right" (defArgs sf_l_w_seen_right) (defBody sf_l_w_seen_right) (defScope sf_l_w_seen_right) .none .none .none (.str "law_viewlease_k43_whole_cuts_onto_themselves" 2473) none (.ref 1753) .none) }
def ob1760 (P : Params) : Obj := { cls := .type "code", dict := none, slots := #[], data := .fields [(.str "_law_draw" 2628), (.str "_law_draw" 2629), (.str "/claim/cut.py" 2630), (.int (989) 0), (.int (2) 0), (.int (0) 0), (.int (0) 0), (.int (3) 0), (.ref 1755), (.bool true), (.int (181) 0), (.ref 1756), .none, (.ref 1757), (.ref 1758), (.ref 1759), (.int (2635) 0), (.int (989) 0), (.str "/claim/cut.py" 2636)].toArray }
def ob1761 (P : Params) : Obj := { cls := .type "function", dict := none, slots := #[], data := .func (PySem.W.fnOf "_law_draw" "_law_draw" (defArgs sf_l_draw) (defBody sf_l_draw) (defScope sf_l_draw) .none .none .none (.str "law_viewlease_k43_whole_cuts_onto_themselves" 2473) none (.ref 1760) .none) }
def ob1767 (P : Params) : Obj := { cls := .type "code", dict := none, slots := #[], data := .fields [(.str "_law_start" 2638), (.str "_law_start" 2639), (.str "/claim/cut.py" 2640), (.int (1002) 0), (.int (1) 0), (.int (0) 0), (.int (0) 0), (.int (3) 0), (.ref 1762), (.bool true), (.int (181) 0), (.ref 1763), .none, (.ref 1764), (.ref 1765), (.ref 1766), (.int (2642) 0), (.int (1002) 0), (.str "/claim/cut.py" 2643)].toArray }
def ob1768 (P : Params) : Obj := { cls := .type "function", dict := none, slots := #[], data := .func (PySem.W.fnOf "_law_start" "_law_start" (defArgs sf_l_start) (defBody sf_l_start) (defScope sf_l_start) .none .none .none (.str "law_viewlease_k43_whole_cuts_onto_themselves" 2473) none (.ref 1767) .none) }
def ob1774 (P : Params) : Obj := { cls := .type "code", dict := none, slots := #[], data := .fields [(.str "_law_pick" 2645), (.str "_law_pick" 2646), (.str "/claim/cut.py" 2647), (.int (1004) 0), (.int (2) 0), (.int (0) 0), (.int (0) 0), (.int (3) 0), (.ref 1769), (.bool true), (.int (181) 0), (.ref 1770), .none, (.ref 1771), (.ref 1772), (.ref 1773), (.int (2650) 0), (.int (1004) 0), (.str "/claim/cut.py" 2651)].toArray }
def ob1775 (P : Params) : Obj := { cls := .type "function", dict := none, slots := #[], data := .func (PySem.W.fnOf "_law_pick" "_law_pick" (defArgs sf_l_pick) (defBody sf_l_pick) (defScope sf_l_pick) .none .none .none (.str "law_viewlease_k43_whole_cuts_onto_themselves" 2473) none (.ref 1774) .none) }
def ob1779 (P : Params) : Obj := { cls := .type "code", dict := none, slots := #[], data := .fields [(.str "_law_same" 2653), (.str "_law_same" 2654), (.str "/claim/cut.py" 2655), (.int (1006) 0), (.int (2) 0), (.int (0) 0), (.int (0) 0), (.int (3) 0), (.ref 1776), (.bool true), (.int (181) 0), (.ref 1777), .none, .none, .none, (.ref 1778), (.int (2656) 0), (.int (1006) 0), (.str "/claim/cut.py" 2657)].toArray }
def ob1780 (P : Params) : Obj := { cls := .type "function", dict := none, slots := #[], data := .func (PySem.W.fnOf "_law_same" "_law_same" (defArgs sf_l_same) (defBody sf_l_same) (defScope sf_l_same) .none .none .none (.str "law_viewlease_k43_whole_cuts_onto_themselves" 2473) none (.ref 1779) .none) }
def ob1784 (P : Params) : Obj := { cls := .type "code", dict := none, slots := #[], data := .fields [(.str "_law_bytes" 2659), (.str "_law_bytes" 2660), (.str "/claim/cut.py" 2661), (.int (1014) 0), (.int (2) 0), (.int (0) 0), (.int (0) 0), (.int (3) 0), (.ref 1781), (.bool true), (.int (181) 0), (.ref 1782), .none, .none, .none, (.ref 1783), (.int (2662) 0), (.int (1014) 0), (.str "/claim/cut.py" 2663)].toArray }
def ob1785 (P : Params) : Obj := { cls := .type "function", dict := none, slots := #[], data := .func (PySem.W.fnOf "_law_bytes" "_law_bytes" (defArgs sf_l_bytes) (defBody sf_l_bytes) (defScope sf_l_bytes) .none .none .none (.str "law_viewlease_k43_whole_cuts_onto_themselves" 2473) none (.ref 1784) .none) }
def ob1791 (P : Params) : Obj := { cls := .type "code", dict := none, slots := #[], data := .fields [(.str "_law_cut_of" 2665), (.str "_law_cut_of" 2666), (.str "/claim/cut.py" 2667), (.int (1016) 0), (.int (2) 0), (.int (0) 0), (.int (0) 0), (.int (3) 0), (.ref 1786), (.bool true), (.int (181) 0), (.ref 1787), .none, (.ref 1788), (.ref 1789), (.ref 1790), (.int (2680) 0), (.int (1016) 0), (.str "/claim/cut.py" 2681)].toArray }
def ob1792 (P : Params) : Obj := { cls := .type "function", dict := none, slots := #[], data := .func (PySem.W.fnOf "_law_cut_of" "_law_cut_of" (defArgs sf_l_cut_of) (defBody sf_l_cut_of) (defScope sf_l_cut_of) .none .none .none (.str "law_viewlease_k43_whole_cuts_onto_themselves" 2473) none (.ref 1791) .none) }
def ob1798 (P : Params) : Obj := { cls := .type "code", dict := none, slots := #[], data := .fields [(.str "_law_part" 2683), (.str "_law_part" 2684), (.str "/claim/cut.py" 2685), (.int (1031) 0), (.int (2) 0), (.int (0) 0), (.int (0) 0), (.int (3) 0), (.ref 1793), (.bool true), (.int (181) 0), (.ref 1794), .none, (.ref 1795), (.ref 1796), (.ref 1797), (.int (2689) 0), (.int (1031) 0), (.str "/claim/cut.py" 2690)].toArray }
def ob1799 (P : Params) : Obj := { cls := .type "function", dict := none, slots := #[], data := .func (PySem.W.fnOf "_law_part" "_law_part" (defArgs sf_l_part) (defBody sf_l_part) (defScope sf_l_part) .none .none .none (.str "law_viewlease_k43_whole_cuts_onto_themselves" 2473) none (.ref 1798) .none) }
def ob1805 (P : Params) : Obj := { cls := .type "code", dict := none, slots := #[], data := .fields [(.str "_law_cut" 2692), (.str "_law_cut" 2693), (.str "/claim/cut.py" 2694), (.int (1038) 0), (.int (2) 0), (.int (0) 0), (.int (0) 0), (.int (3) 0), (.ref 1800), (.bool true), (.int (181) 0), (.ref 1801), .none, (.ref 1802), (.ref 1803), (.ref 1804), (.int (2698) 0), (.int (1038) 0), (.str "/claim/cut.py" 2699)].toArray }
def ob1806 (P : Params) : Obj := { cls := .type "function", dict := none, slots := #[], data := .func (PySem.W.fnOf "_law_cut" "_law_cut" (defArgs sf_l_cut) (defBody sf_l_cut) (defScope sf_l_cut) .none .none .none (.str "law_viewlease_k43_whole_cuts_onto_themselves" 2473) none (.ref 1805) .none) }
def ob1812 (P : Params) : Obj := { cls := .type "code", dict := none, slots := #[], data := .fields [(.str "_law_w_shared" 2701), (.str "_law_w_shared" 2702), (.str "/claim/cut.py" 2703), (.int (1041) 0), (.int (1) 0), (.int (0) 0), (.int (0) 0), (.int (3) 0), (.ref 1807), (.bool true), (.int (181) 0), (.ref 1808), .none, (.ref 1809), (.ref 1810), (.ref 1811), (.int (2712) 0), (.int (1041) 0), (.str "/claim/cut.py" 2713)].toArray }
def ob1813 (P : Params) : Obj := { cls := .type "function", dict := none, slots := #[], data := .func (PySem.W.fnOf "_law_w_shared" "_law_w_shared" (defArgs sf_l_w_shared) (defBody sf_l_w_shared) (defScope sf_l_w_shared) .none .none .none (.str "law_viewlease_k43_whole_cuts_onto_themselves" 2473) none (.ref 1812) .none) }
def ob1819 (P : Params) : Obj := { cls := .type "code", dict := none, slots := #[], data := .fields [(.str "_law_w_cut_twice" 2715), (.str "_law_w_cut_twice" 2716), (.str "/claim/cut.py" 2717), (.int (1052) 0), (.int (3) 0), (.int (0) 0), (.int (0) 0), (.int (3) 0), (.ref 1814), (.bool true), (.int (181) 0), (.ref 1815), .none, (.ref 1816), (.ref 1817), (.ref 1818), (.int (2723) 0), (.int (1052) 0), (.str "/claim/cut.py" 2724)].toArray }
def ob1820 (P : Params) : Obj := { cls := .type "function", dict := none, slots := #[], data := .func (PySem.W.fnOf "_law_w_cut_twice" "_law_w_cut_twice" (defArgs sf_l_w_cut_twice) (defBody sf_l_w_cut_twice) (defScope sf_l_w_cut_twice) .none .none .none (.str "law_viewlease_k43_whole_cuts_onto_themselves" 2473) none (.ref 1819) .none) }
def ob1826 (P : Params) : Obj := { cls := .type "code", dict := none, slots := #[], data := .fields [(.str "_law_w_some_cut" 2726), (.str "_law_w_some_cut" 2727), (.str "/claim/cut.py" 2728), (.int (1057) 0), (.int (3) 0), (.int (0) 0), (.int (0) 0), (.int (3) 0), (.ref 1821), (.bool true), (.int (181) 0), (.ref 1822), .none, (.ref 1823), (.ref 1824), (.ref 1825), (.int (2733) 0), (.int (1057) 0), (.str "/claim/cut.py" 2734)].toArray }
def ob1827 (P : Params) : Obj := { cls := .type "function", dict := none, slots := #[], data := .func (PySem.W.fnOf "_law_w_some_cut" "_law_w_some_cut" (defArgs sf_l_w_some_cut) (defBody sf_l_w_some_cut) (defScope sf_l_w_some_cut) .none .none .none (.str "law_viewlease_k43_whole_cuts_onto_themselves" 2473) none (.ref 1826) .none) }
def ob1833 (P : Params) : Obj := { cls := .type "code", dict := none, slots := #[], data := .fields [(.str "law" 2736), (.str "law" 2737), (.str "/claim/cut.py" 2738), (.int (1062) 0), (.int (1) 0), (.int (0) 0), (.int (0) 0), (.int (3) 0), (.ref 1828), (.bool true), (.int (181) 0), (.ref 1829), .none, (.ref 1830), (.ref 1831), (.ref 1832), (.int (2758) 0), (.int (1062) 0), (.str "/claim/cut.py" 2759)].toArray }
def ob1834 (P : Params) : Obj := { cls := .type "function", dict := none, slots := #[], data := .func (PySem.W.fnOf "law" "law" (defArgs sf_lw) (defBody sf_lw) (defScope sf_lw) .none .none .none (.str "law_viewlease_k43_whole_cuts_onto_themselves" 2473) none (.ref 1833) .none) }
def kp0 (P : Params) : Frag := [(3, ob3 P), (581, ob581 P), (584, ob584 P), (591, ob591 P), (592, ob592 P), (596, ob596 P), (597, ob597 P), (603, ob603 P), (604, ob604 P), (610, ob610 P), (611, ob611 P), (617, ob617 P), (618, ob618 P), (624, ob624 P), (625, ob625 P), (631, ob631 P), (632, ob632 P), (636, ob636 P), (637, ob637 P), (643, ob643 P), (644, ob644 P), (657, ob657 P), (658, ob658 P), (664, ob664 P), (665, ob665 P), (669, ob669 P), (670, ob670 P), (676, ob676 P), (677, ob677 P), (683, ob683 P), (684, ob684 P), (690, ob690 P), (691, ob691 P), (695, ob695 P), (696, ob696 P), (787, ob787 P), (788, ob788 P), (789, ob789 P), (795, ob795 P), (796, ob796 P)]
def kp1 (P : Params) : Frag := [(802, ob802 P), (803, ob803 P), (809, ob809 P), (810, ob810 P), (823, ob823 P), (824, ob824 P), (830, ob830 P), (831, ob831 P), (861, ob861 P), (862, ob862 P), (875, ob875 P), (876, ob876 P), (887, ob887 P), (888, ob888 P), (890, ob890 P), (891, ob891 P), (904, ob904 P), (905, ob905 P), (922, ob922 P), (923, ob923 P), (925, ob925 P), (926, ob926 P), (936, ob936 P), (937, ob937 P), (943, ob943 P), (944, ob944 P), (950, ob950 P), (951, ob951 P), (957, ob957 P), (958, ob958 P), (964, ob964 P), (965, ob965 P), (969, ob969 P), (970, ob970 P), (976, ob976 P), (977, ob977 P), (983, ob983 P), (984, ob984 P), (997, ob997 P), (998, ob998 P)]
def kp2 (P : Params) : Frag := [(1004, ob1004 P), (1005, ob1005 P), (1011, ob1011 P), (1012, ob1012 P), (1016, ob1016 P), (1017, ob1017 P), (1021, ob1021 P), (1022, ob1022 P), (1028, ob1028 P), (1029, ob1029 P), (1035, ob1035 P), (1036, ob1036 P), (1040, ob1040 P), (1041, ob1041 P), (1045, ob1045 P), (1046, ob1046 P), (1061, ob1061 P), (1067, ob1067 P), (1068, ob1068 P), (1070, ob1070 P), (1071, ob1071 P), (1084, ob1084 P), (1085, ob1085 P), (1093, ob1093 P), (1094, ob1094 P), (1114, ob1114 P), (1115, ob1115 P), (1117, ob1117 P), (1118, ob1118 P), (1128, ob1128 P), (1129, ob1129 P), (1142, ob1142 P), (1143, ob1143 P), (1149, ob1149 P), (1150, ob1150 P), (1156, ob1156 P), (1157, ob1157 P), (1266, ob1266 P), (1267, ob1267 P), (1280, ob1280 P)]
def kp3 (P : Params) : Frag := [(1281, ob1281 P), (1294, ob1294 P), (1295, ob1295 P), (1301, ob1301 P), (1302, ob1302 P), (1308, ob1308 P), (1309, ob1309 P), (1315, ob1315 P), (1316, ob1316 P), (1320, ob1320 P), (1321, ob1321 P), (1348, ob1348 P), (1354, ob1354 P), (1355, ob1355 P), (1361, ob1361 P), (1362, ob1362 P), (1405, ob1405 P), (1406, ob1406 P), (1412, ob1412 P), (1413, ob1413 P), (1415, ob1415 P), (1416, ob1416 P), (1424, ob1424 P), (1425, ob1425 P), (1429, ob1429 P), (1430, ob1430 P), (1436, ob1436 P), (1437, ob1437 P), (1460, ob1460 P), (1466, ob1466 P), (1467, ob1467 P), (1480, ob1480 P), (1481, ob1481 P), (1487, ob1487 P), (1488, ob1488 P), (1508, ob1508 P), (1509, ob1509 P), (1606, ob1606 P), (1607, ob1607 P), (1617, ob1617 P)]
def kp4 (P : Params) : Frag := [(1621, ob1621 P), (1622, ob1622 P), (1628, ob1628 P), (1629, ob1629 P), (1635, ob1635 P), (1636, ob1636 P), (1642, ob1642 P), (1643, ob1643 P), (1645, ob1645 P), (1646, ob1646 P), (1652, ob1652 P), (1653, ob1653 P), (1659, ob1659 P), (1660, ob1660 P), (1664, ob1664 P), (1665, ob1665 P), (1699, ob1699 P), (1700, ob1700 P), (1706, ob1706 P), (1707, ob1707 P), (1713, ob1713 P), (1714, ob1714 P), (1720, ob1720 P), (1721, ob1721 P), (1725, ob1725 P), (1726, ob1726 P), (1732, ob1732 P), (1733, ob1733 P), (1739, ob1739 P), (1740, ob1740 P), (1746, ob1746 P), (1747, ob1747 P), (1753, ob1753 P), (1754, ob1754 P), (1760, ob1760 P), (1761, ob1761 P), (1767, ob1767 P), (1768, ob1768 P), (1774, ob1774 P), (1775, ob1775 P)]
def kp5 (P : Params) : Frag := [(1779, ob1779 P), (1780, ob1780 P), (1784, ob1784 P), (1785, ob1785 P), (1791, ob1791 P), (1792, ob1792 P), (1798, ob1798 P), (1799, ob1799 P), (1805, ob1805 P), (1806, ob1806 P), (1812, ob1812 P), (1813, ob1813 P), (1819, ob1819 P), (1820, ob1820 P), (1826, ob1826 P), (1827, ob1827 P), (1833, ob1833 P), (1834, ob1834 P)]
def K (P : Params) : Frag := kp0 P ++ kp1 P ++ kp2 P ++ kp3 P ++ kp4 P ++ kp5 P
def kAs : List Addr := [3, 581, 584, 591, 592, 596, 597, 603, 604, 610, 611, 617, 618, 624, 625, 631, 632, 636, 637, 643, 644, 657, 658, 664, 665, 669, 670, 676, 677, 683, 684, 690, 691, 695, 696, 787, 788, 789, 795, 796, 802, 803, 809, 810, 823, 824, 830, 831, 861, 862, 875, 876, 887, 888, 890, 891, 904, 905, 922, 923, 925, 926, 936, 937, 943, 944, 950, 951, 957, 958, 964, 965, 969, 970, 976, 977, 983, 984, 997, 998, 1004, 1005, 1011, 1012, 1016, 1017, 1021, 1022, 1028, 1029, 1035, 1036, 1040, 1041, 1045, 1046, 1061, 1067, 1068, 1070, 1071, 1084, 1085, 1093, 1094, 1114, 1115, 1117, 1118, 1128, 1129, 1142, 1143, 1149, 1150, 1156, 1157, 1266, 1267, 1280, 1281, 1294, 1295, 1301, 1302, 1308, 1309, 1315, 1316, 1320, 1321, 1348, 1354, 1355, 1361, 1362, 1405, 1406, 1412, 1413, 1415, 1416, 1424, 1425, 1429, 1430, 1436, 1437, 1460, 1466, 1467, 1480, 1481, 1487, 1488, 1508, 1509, 1606, 1607, 1617, 1621, 1622, 1628, 1629, 1635, 1636, 1642, 1643, 1645, 1646, 1652, 1653, 1659, 1660, 1664, 1665, 1699, 1700, 1706, 1707, 1713, 1714, 1720, 1721, 1725, 1726, 1732, 1733, 1739, 1740, 1746, 1747, 1753, 1754, 1760, 1761, 1767, 1768, 1774, 1775, 1779, 1780, 1784, 1785, 1791, 1792, 1798, 1799, 1805, 1806, 1812, 1813, 1819, 1820, 1826, 1827, 1833, 1834]
def nsM0 (P : Params) : List DictEntry := [en P "__name__" 165 (.str "viewlease.views" 1790), en P "__doc__" 166 .none, en P "__package__" 167 .none, en P "__loader__" 168 (.builtin "__main__.__loader__#opaque"), en P "__spec__" 169 .none, en P "__annotations__" 170 (.ref 6), en P "__builtins__" 171 (.ref 4), en P "__file__" 173 (.str "/claim/cut.py" 172), en P "__cached__" 174 .none, en P "_wall" 193 (.ref 21), en P "LeaseError" 213 (.ref 31), en P "Released" 238 (.ref 53), en P "ZeroStep" 263 (.ref 74), en P "OtherStructure" 288 (.ref 95), en P "WrongValue" 315 (.ref 116), en P "ByteRange" 340 (.ref 137), en P "Sizes" 369 (.ref 158), en P "NotAHolder" 394 (.ref 179), en P "BadKey" 419 (.ref 200), en P "NoDimension" 444 (.ref 221), en P "TooMany" 471 (.ref 242), en P "ReadOnly" 496 (.ref 263), en P "NoRemoval" 521 (.ref 284), en P "NoLength" 546 (.ref 305), en P "WrongKind" 573 (.ref 326), en P "BadCut" 598 (.ref 347), en P "ByteKind" 623 (.ref 368), en P "OutOfBounds" 650 (.ref 389), en P "BadIndex" 675 (.ref 410), en P "NotDone" 702 (.ref 431), en P "BadRequest" 729 (.ref 452), en P "Locked" 754 (.ref 473), en P "Lent" 781 (.ref 494), en P "BadLayout" 808 (.ref 515), en P "BadOrder" 833 (.ref 536), en P "NotReal" 858 (.ref 557), en P "BadPlan" 883 (.ref 578), en P "ORDERS" 891 (.ref 581), en P "STANDARD" 946 (.ref 582), en P "NATIVE" 1010 (.ref 584)]
def nsM1 (P : Params) : List DictEntry := [en P "DIGITS" 1012 (.str "0123456789" 1011), en P "count_from" 1021 (.ref 592), en P "field_of" 1027 (.ref 597), en P "read_layout" 1042 (.ref 604), en P "calcsize" 1049 (.ref 611), en P "same_layout" 1057 (.ref 618), en P "is_integer" 1066 (.ref 625), en P "is_byte" 1073 (.ref 632), en P "is_bytes" 1079 (.ref 637), en P "is_row" 1086 (.ref 644), en P "product_of" 1095 (.ref 651), en P "row_steps" 1106 (.ref 658), en P "column_steps" 1114 (.ref 665), en P "are_due" 1120 (.ref 670), en P "are_contiguous" 1129 (.ref 677), en P "is_c_contiguous" 1138 (.ref 684), en P "is_f_contiguous" 1147 (.ref 691), en P "addresses" 1153 (.ref 696), en P "WORDS" 1160 (.ref 697), en P "FLOATS" 1179 (.ref 698), en P "WIDTHS" 1189 (.ref 702), en P "is_real" 1196 (.ref 709), en P "fits_double" 1204 (.ref 716), en P "rounded" 1218 (.ref 723), en P "as_real" 1227 (.ref 730), en P "real_of" 1236 (.ref 737), en P "truth" 1243 (.ref 744), en P "worth" 1250 (.ref 751), en P "alike" 1258 (.ref 758), en P "is_too_large" 1271 (.ref 765), en P "bits_of" 1289 (.ref 772), en P "placed" 1298 (.ref 779), en P "real_from_bits" 1314 (.ref 786), en P "BELOW" 1323 (.ref 787), en P "FLOAT_CODES" 1327 (.ref 788), en P "NO_ITEMS" 1331 (.ref 789), en P "code_of" 1339 (.ref 796), en P "native_code" 1347 (.ref 803), en P "item_size" 1354 (.ref 810), en P "digits_of" 1365 (.ref 817)]
def nsM2 (P : Params) : List DictEntry := [en P "number_from" 1375 (.ref 824), en P "value_of" 1385 (.ref 831), en P "bounds_of" 1393 (.ref 838), en P "fault_of" 1404 (.ref 845), en P "float_fault" 1413 (.ref 852), en P "bytes_of_value" 1419 (.ref 857), en P "read_item" 1425 (.ref 862), en P "item_bytes" 1435 (.ref 869), en P "SIMPLE" 1439 (.int (0) 1438), en P "WRITABLE" 1441 (.int (1) 1440), en P "FORMAT" 1443 (.int (4) 1442), en P "ND" 1445 (.int (8) 1444), en P "STRIDES" 1447 (.int (24) 1446), en P "C_CONTIGUOUS" 1449 (.int (56) 1448), en P "F_CONTIGUOUS" 1451 (.int (88) 1450), en P "ANY_CONTIGUOUS" 1453 (.int (152) 1452), en P "FULL_RO" 1455 (.int (284) 1454), en P "is_asked" 1463 (.ref 876), en P "Memory" 1492 (.ref 891), en P "Holder" 1512 (.ref 905), en P "Buffer" 1556 (.ref 926), en P "is_holder" 1563 (.ref 937), en P "lent" 1571 (.ref 944), en P "hand_back" 1578 (.ref 951), en P "check_request" 1588 (.ref 958), en P "seen" 1597 (.ref 965), en P "gathered" 1603 (.ref 970), en P "bytes_in" 1611 (.ref 977), en P "whole_bytes" 1620 (.ref 984), en P "simple_buffer_bytes" 1629 (.ref 991), en P "ordered_bytes" 1642 (.ref 998), en P "item_at" 1651 (.ref 1005), en P "write_at" 1662 (.ref 1012), en P "nested_items" 1668 (.ref 1017), en P "item_rows" 1674 (.ref 1022), en P "write_rows" 1685 (.ref 1029), en P "bounded" 1698 (.ref 1036), en P "cut_of" 1704 (.ref 1041), en P "cut_places" 1710 (.ref 1046), en P "start_of" 1718 (.ref 1053)]
def nsM3 (P : Params) : List DictEntry := [en P "Cut" 1753 (.ref 1071), en P "Dots" 1773 (.ref 1085), en P "key_kind" 1779 (.ref 1094), en P "counted" 1789 (.ref 1101), en P "Seen" 1830 (.ref 1118), en P "asked" 1842 (.ref 1129)]
def mb3 (P : Params) : Obj := { cls := .type "dict", dict := none, slots := #[], data := .dict (nsM0 P ++ nsM1 P ++ nsM2 P ++ nsM3 P).toArray 126 }
def mb12 : Obj := { cls := .none, data := .fields ([(1, 0, 20), (5, 0, 27), (7, 0, 41), (11, 0, 62), (15, 0, 83), (19, 0, 104), (24, 0, 125), (28, 0, 146), (34, 0, 167), (38, 0, 188), (42, 0, 209), (46, 0, 230), (51, 0, 251), (55, 0, 272), (59, 0, 293), (63, 0, 314), (68, 0, 335), (72, 0, 356), (76, 0, 377), (81, 0, 398), (85, 0, 419), (90, 0, 440), (95, 0, 461), (99, 0, 482), (104, 0, 503), (109, 0, 524), (113, 0, 545), (117, 0, 566), (126, 0, 591), (131, 0, 596), (137, 0, 603), (157, 0, 610), (159, 0, 617), (162, 0, 624), (164, 0, 631), (166, 0, 636), (168, 0, 643), (170, 0, 650), (175, 0, 657), (181, 0, 664), (183, 0, 669), (185, 0, 676), (187, 0, 683), (189, 0, 690), (191, 0, 695), (202, 0, 708), (208, 0, 715), (212, 0, 722), (221, 0, 729), (226, 0, 736), (235, 0, 743), (239, 0, 750), (243, 0, 757), (247, 0, 764), (253, 0, 771), (267, 0, 778), (269, 0, 785), (284, 0, 795), (289, 0, 802), (294, 0, 809), (296, 0, 816), (302, 0, 823), (307, 0, 830), (318, 0, 837), (322, 0, 844), (333, 0, 851), (341, 0, 856), (348, 0, 861), (350, 0, 868), (368, 0, 875), (371, 0, 882), (375, 0, 901), (377, 0, 915), (389, 0, 936), (391, 0, 943), (399, 0, 950), (402, 0, 957), (417, 0, 964), (424, 0, 969), (426, 0, 976), (429, 0, 983), (434, 0, 990), (440, 0, 997), (451, 0, 1004), (453, 0, 1011), (456, 0, 1016), (460, 0, 1021), (463, 0, 1028), (467, 0, 1035), (470, 0, 1040), (484, 0, 1045), (487, 0, 1052), (490, 0, 1059), (496, 0, 1081), (498, 0, 1093), (510, 0, 1100), (516, 0, 1107), (526, 0, 1128)].flatMap fun p : Int × Int × Nat => [.int p.1 0, .int p.2.1 0, .ref p.2.2]).toArray }
def mb905 (P : Params) : Obj := { cls := .type "type", dict := none, slots := #[none, none, some (.str "Holder" 1493), some (.str "Holder" 1501), some (.builtin "object.__new__"), some (.bool true)], data := .cls { name := "Holder", bases := [(.type "object")], mro := [(.ref 905), (.type "object")], ns := 904, qualname := "Holder", hasDict := true, slotNames := [], subclasses := [], abstract := false, collection := none, hasDel := false } }
def mp0 (P : Params) : Frag := [(581, ob581 P), (584, ob584 P), (591, ob591 P), (592, ob592 P), (596, ob596 P), (597, ob597 P), (603, ob603 P), (604, ob604 P), (610, ob610 P), (611, ob611 P), (617, ob617 P), (618, ob618 P), (624, ob624 P), (625, ob625 P), (631, ob631 P), (632, ob632 P), (636, ob636 P), (637, ob637 P), (643, ob643 P), (644, ob644 P), (657, ob657 P), (658, ob658 P), (664, ob664 P), (665, ob665 P), (669, ob669 P), (670, ob670 P), (676, ob676 P), (677, ob677 P), (683, ob683 P), (684, ob684 P), (690, ob690 P), (691, ob691 P), (695, ob695 P), (696, ob696 P), (787, ob787 P), (788, ob788 P), (789, ob789 P), (795, ob795 P), (796, ob796 P), (802, ob802 P)]
def mp1 (P : Params) : Frag := [(803, ob803 P), (809, ob809 P), (810, ob810 P), (823, ob823 P), (824, ob824 P), (830, ob830 P), (831, ob831 P), (861, ob861 P), (862, ob862 P), (875, ob875 P), (876, ob876 P), (887, ob887 P), (888, ob888 P), (890, ob890 P), (891, ob891 P), (904, ob904 P), (905, mb905 P), (922, ob922 P), (923, ob923 P), (925, ob925 P), (926, ob926 P), (936, ob936 P), (937, ob937 P), (943, ob943 P), (944, ob944 P), (950, ob950 P), (951, ob951 P), (957, ob957 P), (958, ob958 P), (964, ob964 P), (965, ob965 P), (969, ob969 P), (970, ob970 P), (976, ob976 P), (977, ob977 P), (983, ob983 P), (984, ob984 P), (997, ob997 P), (998, ob998 P), (1004, ob1004 P)]
def mp2 (P : Params) : Frag := [(1005, ob1005 P), (1011, ob1011 P), (1012, ob1012 P), (1016, ob1016 P), (1017, ob1017 P), (1021, ob1021 P), (1022, ob1022 P), (1028, ob1028 P), (1029, ob1029 P), (1035, ob1035 P), (1036, ob1036 P), (1040, ob1040 P), (1041, ob1041 P), (1045, ob1045 P), (1046, ob1046 P), (1061, ob1061 P), (1067, ob1067 P), (1068, ob1068 P), (1070, ob1070 P), (1071, ob1071 P), (1084, ob1084 P), (1085, ob1085 P), (1093, ob1093 P), (1094, ob1094 P), (1114, ob1114 P), (1115, ob1115 P), (1117, ob1117 P), (1118, ob1118 P), (1128, ob1128 P), (1129, ob1129 P)]
def midK (P : Params) : Frag := mp0 P ++ mp1 P ++ mp2 P
end VL
end
section
set_option linter.all false
set_option maxRecDepth 100000
set_option maxHeartbeats 4000000
/-! The top run in two parts: the state between them is told but for objects that nothing reads again. -/
noncomputable section
namespace VL
open PySem PySem.W PySem.Calls PyProof.Rows HandSHeadRun
section
variable (st : SharedT → Thread → Option (SharedT × Thread)) (n0 : Nat) (ann : Option Value)
/-- so many steps -/
def goS : Nat → SharedT → Thread → Option (SharedT × Thread)
  | 0, s, t => some (s, t)
  | m + 1, s, t => match through t with
    | true => none
    | false => match stepOk n0 ann t with
      | false => none
      | true => match st s t with
        | some (s', t') => frS s' fun s' => goS m s' t'
        | none => none
/-- a block of statements to its end -/
def segQ : Nat → SharedT → Thread → Option (Flow × SharedT × Code × Pos)
  | 0, _, _ => none
  | n + 1, s, t => match endAt 1 t with
    | some f => some (f, s, t.code, t.pos)
    | none => match stepOk n0 ann t with
      | false => none
      | true => match st s t with
        | some (s', t') => frS s' fun s' => segQ n s' t'
        | none => none
end
theorem goS_ok {tb : String → Option Builtin} {p : Program} {w : World} {n0 : Nat} {ann : Option Value} : ∀ {m : Nat} {s s' : SharedT} {t t' : Thread}, goS (stepT (denote tb) p w) n0 ann m s t = some (s', t') → topGo tb p w n0 ann m s.abs t = some (s'.abs, t')
  | 0, _, _, _, _, h => by
    cases h
    rfl
  | m + 1, s, s', t, t', h => by
    unfold goS at h
    unfold topGo
    cases ht : through t with
    | true =>
      rw [ht] at h
      cases h
    | false =>
      rw [ht] at h
      cases hk : stepOk n0 ann t with
      | false =>
        rw [hk] at h
        cases h
      | true =>
        rw [hk] at h
        cases hs : stepT (denote tb) p w s t with
        | none =>
          rw [hs] at h
          cases h
        | some r =>
          obtain ⟨s2, t2⟩ := r
          rw [hs] at h
          have h3 : (frS s2 fun s' => goS (stepT (denote tb) p w) n0 ann m s' t2) = some (s', t') := h
          rw [frS_eq] at h3
          rw [stepT_spec hs]
          exact goS_ok h3
theorem segQ_ok {tb : String → Option Builtin} {p : Program} {w : World} {n0 : Nat} {ann : Option Value} : ∀ {m : Nat} {s s' : SharedT} {t : Thread} {f : Flow} {c : Code} {q : Pos}, segQ (stepT (denote tb) p w) n0 ann m s t = some (f, s', c, q) → segRun tb p w n0 ann 1 m s.abs t = some (f, s'.abs, c, q)
  | 0, _, _, _, _, _, _, h => by cases h
  | m + 1, s, s', t, f, c, q, h => by
    unfold segQ at h
    unfold segRun
    cases he : endAt 1 t with
    | some x =>
      rw [he] at h
      cases h
      rfl
    | none =>
      rw [he] at h
      cases hk : stepOk n0 ann t with
      | false =>
        rw [hk] at h
        cases h
      | true =>
        rw [hk] at h
        cases hs : stepT (denote tb) p w s t with
        | none =>
          rw [hs] at h
          cases h
        | some r =>
          obtain ⟨s2, t2⟩ := r
          rw [hs] at h
          have h3 : (frS s2 fun s' => segQ (stepT (denote tb) p w) n0 ann m s' t2) = some (f, s', c, q) := h
          rw [frS_eq] at h3
          rw [stepT_spec hs]
          exact segQ_ok h3
/-- the boot's tree -/
def bootR (w : World) : BT × Nat := (putAll (boot_heap w.params).objs.toList .nil 0).getD (.nil, 0)
theorem bootR_eq (w : World) (e : ((putAll (boot_heap w.params).objs.toList .nil 0).isSome) = true) : absHeap (bootR w).1 (bootR w).2 (boot_heap w.params).life = boot_heap w.params := by
  cases q : putAll (boot_heap w.params).objs.toList .nil 0 with
  | none =>
    rw [q] at e
    cases e
  | some r =>
    obtain ⟨t, n⟩ := r
    have := putAll_heap q
    unfold bootR
    rw [q]
    exact this
/-- LeftO from a run behind the boot -/
theorem left_two {p q : Program} {loose : List Str} {Xt : Shared → Bool} {α : Type} {Yf : Shared → α} {Ya : World → α} {N M : Nat}
    (e : opening p = plainProg p.main.scope.names) (hN : Nat.ble 600 N = true) (f : ∀ s, fenceModules? p s = some s) (le : Nat.ble M N = true)
    (run : ∀ (w : World) (os : OsState), ∃ s : SharedT, topRun treeTable p w (boot_heap w.params).objs.size (bootAnn w) M ⟨boot_heap w.params, #[], boot_drawn, boot_toks, os⟩ (topStub p) = some s.abs ∧
      (looksF p (boot_heap w.params) s.abs, openSeen q loose (importedModules p.main.body) Xt true s.abs, Yf s.abs) = (true, openGood q loose, Ya w)) :
    LeftO p q loose Xt Yf Ya N true := fun w => by
  obtain ⟨⟨h, gs, d, k, os⟩, a, a'⟩ := Option.map_eq_some_iff.mp (boot_open e hN f w)
  obtain ⟨rfl, rfl, rfl, rfl⟩ : h = boot_heap w.params ∧ gs = Array.mk [] ∧ d = boot_drawn ∧ k = boot_toks := by simpa using a'
  obtain ⟨s, hs, hv⟩ := run w os
  obtain ⟨l1, l2, l3⟩ : _ ∧ _ ∧ _ := by simpa only [Prod.mk.injEq] using hv
  have r := topRun_mono (N - M) _ _ _ _ hs
  rw [show M + (N - M) = N by have := Nat.le_of_ble_eq_true le; omega] at r
  have l1' : (staticsOk (importedModules p.main.body) (boot_heap w.params) s.abs.heap && namesBound p s.abs.heap && gensDone s.abs && laidKept (boot_heap w.params) s.abs.heap) = true := l1
  have t : topFrom treeTable p w N ⟨boot_heap w.params, Array.mk [], boot_drawn, boot_toks, os⟩ = some s.abs := by
    unfold topFrom
    dsimp only
    rw [boot_ns]
    show (topRun treeTable p w (boot_heap w.params).objs.size (bootAnn w) N ⟨boot_heap w.params, #[], boot_drawn, boot_toks, os⟩ (topStub p)).bind _ = _
    rw [r]
    show (match staticsOk (importedModules p.main.body) (boot_heap w.params) s.abs.heap && namesBound p s.abs.heap && gensDone s.abs && laidKept (boot_heap w.params) s.abs.heap with | true => some s.abs | false => none) = _
    rw [l1']
  unfold openEnds
  rw [a]
  show (topFrom treeTable p w N _).map _ = _
  rw [t]
  exact congrArg some (Prod.ext l2 l3)
/-- the parts joined: k steps ahead of the body, the first statements, the rest -/
theorem run_two {p : Program} {w : World} {os : OsState} {b l1 l2 : List Stmt} {env : Env} {pos p1 q : Pos} {k M1 M2 n0 : Nat} {ann : Option Value} {S0 Sa S1 S2 : SharedT}
    (hb : b = l1 ++ l2) (h0 : goS (stepT (denote treeTable) p w) n0 ann k S0 (topStub p) = some (Sa, ⟨denote treeTable (.body b env), .body b env, pos, [topFrame q]⟩))
    (h1 : segQ (stepT (denote treeTable) p w) n0 ann 1 Sa (blockOf b env (.body b env) pos [topFrame q]) = some (.next, Sa, .body b env, pos))
    (h2 : segQ (stepT (denote treeTable) p w) n0 ann M1 Sa (piecesOf l1 env (.body b env) pos [topFrame q]) = some (.next, S1, .body b env, p1))
    (h3 : goF (stepT (denote treeTable) p w) n0 ann M2 S1 (restOf l2 env (.body b env) p1 [topFrame q]) = some S2) :
    topRun treeTable p w n0 ann (k + (1 + (M1 + M2))) S0.abs (topStub p) = some S2.abs := by
  refine go_top (goS_ok h0) (piece_block (segQ_ok h1) ?_)
  have := piece_app (q := q) (rest := l2) (segQ_ok h2) (goF_ok h3)
  rw [← hb] at this
  exact this
end VL
end
end
section
set_option linter.all false
set_option maxRecDepth 100000
set_option maxHeartbeats 0
noncomputable section
namespace VL
open PySem PySem.W PySem.Calls PyProof.Rows HandSHeadRun
abbrev PP : Program := PySem.Challenge.pw_viewlease_k43_whole_cuts_onto_themselves
def envT : Env := { scope := PP.main.scope, locals := mainNs, globals := mainNs, cells := [], code := .ref 13, frame := some 14 }
def S0 (w : World) (os : OsState) : SharedT := ⟨(bootR w).1, 11, (boot_heap w.params).life, #[], boot_drawn, boot_toks, os⟩
abbrev stQ (w : World) : SharedT → Thread → Option (SharedT × Thread) := stepQ (denQ tabQ) PP w
def SaOf (w : World) (os : OsState) : SharedT := match goS (stQ w) 11 (bootAnn w) 12 (S0 w os) (topStub PP) with
  | some (s, _) => s
  | none => S0 w os
abbrev l1 : List Stmt := (behindTheImports PP).take 29

abbrev cT : Code := .body (behindTheImports PP) envT
def pos0 : Pos := ⟨0, 0, 0, 0⟩
def pos1 : Pos := ⟨117, 0, 120, 26⟩
/-- the module's names behind the errors -/
def e3 (w : World) (x : Str) (t : Nat) (v : Value) : DictEntry := ⟨PyData.keyHash w.params x, .str x t, v⟩
def es3 (w : World) : List DictEntry := [e3 w "__name__" 165 (.str "viewlease.errors" 194), e3 w "__doc__" 166 (.none), e3 w "__package__" 167 (.none), e3 w "__loader__" 168 (.builtin "__main__.__loader__#opaque"), e3 w "__spec__" 169 (.none), e3 w "__annotations__" 170 (.ref 6), e3 w "__builtins__" 171 (.ref 4), e3 w "__file__" 173 (.str "/claim/cut.py" 172), e3 w "__cached__" 174 (.none), e3 w "_wall" 193 (.ref 21), e3 w "LeaseError" 213 (.ref 31), e3 w "Released" 238 (.ref 53), e3 w "ZeroStep" 263 (.ref 74), e3 w "OtherStructure" 288 (.ref 95), e3 w "WrongValue" 315 (.ref 116), e3 w "ByteRange" 340 (.ref 137), e3 w "Sizes" 369 (.ref 158), e3 w "NotAHolder" 394 (.ref 179), e3 w "BadKey" 419 (.ref 200), e3 w "NoDimension" 444 (.ref 221), e3 w "TooMany" 471 (.ref 242), e3 w "ReadOnly" 496 (.ref 263), e3 w "NoRemoval" 521 (.ref 284), e3 w "NoLength" 546 (.ref 305), e3 w "WrongKind" 573 (.ref 326), e3 w "BadCut" 598 (.ref 347), e3 w "ByteKind" 623 (.ref 368), e3 w "OutOfBounds" 650 (.ref 389), e3 w "BadIndex" 675 (.ref 410), e3 w "NotDone" 702 (.ref 431), e3 w "BadRequest" 729 (.ref 452), e3 w "Locked" 754 (.ref 473), e3 w "Lent" 781 (.ref 494), e3 w "BadLayout" 808 (.ref 515), e3 w "BadOrder" 833 (.ref 536), e3 w "NotReal" 858 (.ref 557), e3 w "BadPlan" 883 (.ref 578)]
def o3 (w : World) : Obj := { cls := .type "dict", data := .dict (es3 w).toArray 37 }
def f12 : List (Int × Nat) := [(1, 20), (5, 27), (7, 41), (11, 62), (15, 83), (19, 104), (24, 125), (28, 146), (34, 167), (38, 188), (42, 209), (46, 230), (51, 251), (55, 272), (59, 293), (63, 314), (68, 335), (72, 356), (76, 377), (81, 398), (85, 419), (90, 440), (95, 461), (99, 482), (104, 503), (109, 524), (113, 545), (117, 566)]
def o12 : Obj := { cls := .none, data := .fields (f12.flatMap fun p => [.int p.1 0, .int 0 0, .ref p.2]).toArray }
def mkT (f : Nat → Obj) (n : Nat) : Nat → Nat → Nat → BT
  | 0, _, _ => .nil
  | k + 1, a, b => match Nat.blt b n with
    | true => .node (f b) (mkT f n k (2 * a) (a + b)) (mkT f n k (2 * a) (2 * a + b))
    | false => .nil
def pick (w : World) (T : BT) (g : Nat → Obj) (i : Nat) : Obj := match Nat.blt i 15 with
  | true => (match Nat.beq i 3 with
    | true => o3 w
    | false => (match Nat.beq i 12 with
      | true => o12
      | false => (T.get i).getD default))
  | false => g i
/-- the state behind the errors; g: what nothing reads again -/
def S1 (w : World) (os : OsState) (g : Nat → Obj) : SharedT := ⟨mkT (pick w (SaOf w os).tree g) 581 12 1 0, 581, (SaOf w os).life, #[], (SaOf w os).drawn, 884, os⟩
theorem h_size (w : World) : (boot_heap w.params).objs.size = 11 := by kernel_rfl
theorem h_put (w : World) : ((putAll (boot_heap w.params).objs.toList .nil 0).isSome) = true := by kernel_rfl
theorem h_pre (w : World) (os : OsState) : goS (stQ w) 11 (bootAnn w) 12 (S0 w os) (topStub PP) = some (SaOf w os, ⟨denQ tabQ cT, cT, pos0, [topFrame pos0]⟩) := by kernel_rfl
theorem h_blk (w : World) (os : OsState) : segQ (stQ w) 11 (bootAnn w) 1 (SaOf w os) (blockOf (behindTheImports PP) envT cT pos0 [topFrame pos0]) = some (.next, SaOf w os, cT, pos0) := by kernel_rfl
def r1 (w : World) (os : OsState) : Option (Flow × SharedT × Code × Pos) := segQ (stQ w) 11 (bootAnn w) 8000 (SaOf w os) (piecesOf l1 envT cT pos0 [topFrame pos0])
def gOf (w : World) (os : OsState) (i : Nat) : Obj := match r1 w os with
  | some (_, s, _, _) => (s.tree.get i).getD default
  | none => default
theorem h_one (w : World) (os : OsState) : r1 w os = some (.next, S1 w os (gOf w os), cT, pos1) := by kernel_rfl
end VL
end
end
section
set_option linter.all false
set_option maxRecDepth 100000
set_option maxHeartbeats 0
noncomputable section
namespace VL
section
open PySem PySem.W L2
def nsN0 (P : Params) : List DictEntry := [en P "__name__" 165 (.str "viewlease.items" 1315), en P "__doc__" 166 .none, en P "__package__" 167 .none, en P "__loader__" 168 (.builtin "__main__.__loader__#opaque"), en P "__spec__" 169 .none, en P "__annotations__" 170 (.ref 6), en P "__builtins__" 171 (.ref 4), en P "__file__" 173 (.str "/claim/cut.py" 172), en P "__cached__" 174 .none, en P "_wall" 193 (.ref 21), en P "LeaseError" 213 (.ref 31), en P "Released" 238 (.ref 53), en P "ZeroStep" 263 (.ref 74), en P "OtherStructure" 288 (.ref 95), en P "WrongValue" 315 (.ref 116), en P "ByteRange" 340 (.ref 137), en P "Sizes" 369 (.ref 158), en P "NotAHolder" 394 (.ref 179), en P "BadKey" 419 (.ref 200), en P "NoDimension" 444 (.ref 221), en P "TooMany" 471 (.ref 242), en P "ReadOnly" 496 (.ref 263), en P "NoRemoval" 521 (.ref 284), en P "NoLength" 546 (.ref 305), en P "WrongKind" 573 (.ref 326), en P "BadCut" 598 (.ref 347), en P "ByteKind" 623 (.ref 368), en P "OutOfBounds" 650 (.ref 389), en P "BadIndex" 675 (.ref 410), en P "NotDone" 702 (.ref 431), en P "BadRequest" 729 (.ref 452), en P "Locked" 754 (.ref 473), en P "Lent" 781 (.ref 494), en P "BadLayout" 808 (.ref 515), en P "BadOrder" 833 (.ref 536), en P "NotReal" 858 (.ref 557), en P "BadPlan" 883 (.ref 578), en P "ORDERS" 891 (.ref 581), en P "STANDARD" 946 (.ref 582), en P "NATIVE" 1010 (.ref 584)]
def nsN1 (P : Params) : List DictEntry := [en P "DIGITS" 1012 (.str "0123456789" 1011), en P "count_from" 1021 (.ref 592), en P "field_of" 1027 (.ref 597), en P "read_layout" 1042 (.ref 604), en P "calcsize" 1049 (.ref 611), en P "same_layout" 1057 (.ref 618), en P "is_integer" 1066 (.ref 625), en P "is_byte" 1073 (.ref 632), en P "is_bytes" 1079 (.ref 637), en P "is_row" 1086 (.ref 644), en P "product_of" 1095 (.ref 651), en P "row_steps" 1106 (.ref 658), en P "column_steps" 1114 (.ref 665), en P "are_due" 1120 (.ref 670), en P "are_contiguous" 1129 (.ref 677), en P "is_c_contiguous" 1138 (.ref 684), en P "is_f_contiguous" 1147 (.ref 691), en P "addresses" 1153 (.ref 696), en P "WORDS" 1160 (.ref 697), en P "FLOATS" 1179 (.ref 698), en P "WIDTHS" 1189 (.ref 702), en P "is_real" 1196 (.ref 709), en P "fits_double" 1204 (.ref 716), en P "rounded" 1218 (.ref 723), en P "as_real" 1227 (.ref 730), en P "real_of" 1236 (.ref 737), en P "truth" 1243 (.ref 744), en P "worth" 1250 (.ref 751), en P "alike" 1258 (.ref 758), en P "is_too_large" 1271 (.ref 765), en P "bits_of" 1289 (.ref 772), en P "placed" 1298 (.ref 779), en P "real_from_bits" 1314 (.ref 786), en P "BELOW" 1323 (.ref 787), en P "FLOAT_CODES" 1327 (.ref 788), en P "NO_ITEMS" 1331 (.ref 789), en P "code_of" 1339 (.ref 796), en P "native_code" 1347 (.ref 803), en P "item_size" 1354 (.ref 810), en P "digits_of" 1365 (.ref 817)]
def nsN2 (P : Params) : List DictEntry := [en P "number_from" 1375 (.ref 824), en P "value_of" 1385 (.ref 831), en P "bounds_of" 1393 (.ref 838), en P "fault_of" 1404 (.ref 845), en P "float_fault" 1413 (.ref 852), en P "bytes_of_value" 1419 (.ref 857), en P "read_item" 1425 (.ref 862), en P "item_bytes" 1435 (.ref 869)]
def nb3 (P : Params) : Obj := { cls := .type "dict", dict := none, slots := #[], data := .dict (nsN0 P ++ nsN1 P ++ nsN2 P).toArray 88 }
def nb12 : Obj := { cls := .none, data := .fields ([(1, 0, 20), (5, 0, 27), (7, 0, 41), (11, 0, 62), (15, 0, 83), (19, 0, 104), (24, 0, 125), (28, 0, 146), (34, 0, 167), (38, 0, 188), (42, 0, 209), (46, 0, 230), (51, 0, 251), (55, 0, 272), (59, 0, 293), (63, 0, 314), (68, 0, 335), (72, 0, 356), (76, 0, 377), (81, 0, 398), (85, 0, 419), (90, 0, 440), (95, 0, 461), (99, 0, 482), (104, 0, 503), (109, 0, 524), (113, 0, 545), (117, 0, 566), (126, 0, 591), (131, 0, 596), (137, 0, 603), (157, 0, 610), (159, 0, 617), (162, 0, 624), (164, 0, 631), (166, 0, 636), (168, 0, 643), (170, 0, 650), (175, 0, 657), (181, 0, 664), (183, 0, 669), (185, 0, 676), (187, 0, 683), (189, 0, 690), (191, 0, 695), (202, 0, 708), (208, 0, 715), (212, 0, 722), (221, 0, 729), (226, 0, 736), (235, 0, 743), (239, 0, 750), (243, 0, 757), (247, 0, 764), (253, 0, 771), (267, 0, 778), (269, 0, 785), (284, 0, 795), (289, 0, 802), (294, 0, 809), (296, 0, 816), (302, 0, 823), (307, 0, 830), (318, 0, 837), (322, 0, 844), (333, 0, 851), (341, 0, 856), (348, 0, 861), (350, 0, 868)].flatMap fun p : Int × Int × Nat => [.int p.1 0, .int p.2.1 0, .ref p.2.2]).toArray }
def mq0 (P : Params) : Frag := [(581, ob581 P), (584, ob584 P), (591, ob591 P), (592, ob592 P), (596, ob596 P), (597, ob597 P), (603, ob603 P), (604, ob604 P), (610, ob610 P), (611, ob611 P), (617, ob617 P), (618, ob618 P), (624, ob624 P), (625, ob625 P), (631, ob631 P), (632, ob632 P), (636, ob636 P), (637, ob637 P), (643, ob643 P), (644, ob644 P), (657, ob657 P), (658, ob658 P), (664, ob664 P), (665, ob665 P), (669, ob669 P), (670, ob670 P), (676, ob676 P), (677, ob677 P), (683, ob683 P), (684, ob684 P), (690, ob690 P), (691, ob691 P), (695, ob695 P), (696, ob696 P), (787, ob787 P), (788, ob788 P), (789, ob789 P), (795, ob795 P), (796, ob796 P), (802, ob802 P)]
def mq1 (P : Params) : Frag := [(803, ob803 P), (809, ob809 P), (810, ob810 P), (823, ob823 P), (824, ob824 P), (830, ob830 P), (831, ob831 P), (861, ob861 P), (862, ob862 P)]
def midN (P : Params) : Frag := mq0 P ++ mq1 P
end
open PySem PySem.W PySem.Calls PyProof.Rows HandSHeadRun
/-! statements 29..83 -/
abbrev l2a : List Stmt := ((behindTheImports PP).drop 29).take 55
def pos15 : Pos := ⟨350, 0, 357, 59⟩
def pick15 (w : World) (T : BT) (g : Nat → Obj) (i : Nat) : Obj := match Nat.blt i 15 with
  | true => (match Nat.beq i 3 with
    | true => nb3 w.params
    | false => (match Nat.beq i 12 with
      | true => nb12
      | false => (T.get i).getD default))
  | false => (match (midN w.params).lookup i with
    | some o => o
    | none => g i)
def S15 (w : World) (os : OsState) (g : Nat → Obj) : SharedT := ⟨mkT (pick15 w (SaOf w os).tree g) 870 12 1 0, 870, (SaOf w os).life, #[], (SaOf w os).drawn, 1436, os⟩
def r15 (w : World) (os : OsState) (g : Nat → Obj) : Option (Flow × SharedT × Code × Pos) := segQ (stQ w) 11 (bootAnn w) 3000 (S1 w os g) (piecesOf l2a envT cT pos1 [topFrame pos0])
def g15Of (w : World) (os : OsState) (g : Nat → Obj) (i : Nat) : Obj := match r15 w os g with
  | some (_, s, _, _) => (s.tree.get i).getD default
  | none => default
def Mid1Eq (w : World) : Prop := ∀ (os : OsState) (g : Nat → Obj), r15 w os g = some (.next, S15 w os (g15Of w os g), cT, pos15)
theorem h_mid1F (w : World) : Mid1Eq (w.withFollow "special-get-raises" false) := by
  intro os g
  kernel_rfl
theorem h_mid1T (w : World) : Mid1Eq (w.withFollow "special-get-raises" true) := by
  intro os g
  kernel_rfl
theorem h_mid1 (w : World) : Mid1Eq w := byRow2 "special-get-raises" (P := Mid1Eq) h_mid1F h_mid1T w
end VL
end
end
section
set_option linter.all false
set_option maxRecDepth 100000
set_option maxHeartbeats 0
noncomputable section
namespace VL
open PySem PySem.W PySem.Calls PyProof.Rows HandSHeadRun
/-! statements 84..127 -/
abbrev l2c : List Stmt := (((behindTheImports PP).drop 29).drop 55).take 44
def pos2 : Pos := ⟨526, 0, 529, 57⟩
def pick2 (w : World) (T : BT) (g : Nat → Obj) (i : Nat) : Obj := match Nat.blt i 15 with
  | true => (match Nat.beq i 3 with
    | true => mb3 w.params
    | false => (match Nat.beq i 12 with
      | true => mb12
      | false => (T.get i).getD default))
  | false => (match (midK w.params).lookup i with
    | some o => o
    | none => g i)
/-- the state behind the module keys and the class Seen's asked -/
def S2 (w : World) (os : OsState) (g : Nat → Obj) : SharedT := ⟨mkT (pick2 w (SaOf w os).tree g) 1130 12 1 0, 1130, (SaOf w os).life, #[], (SaOf w os).drawn, 1843, os⟩
def r2 (w : World) (os : OsState) (g : Nat → Obj) : Option (Flow × SharedT × Code × Pos) := segQ (stQ w) 11 (bootAnn w) 3000 (S15 w os g) (piecesOf l2c envT cT pos15 [topFrame pos0])
def g2Of (w : World) (os : OsState) (g : Nat → Obj) (i : Nat) : Obj := match r2 w os g with
  | some (_, s, _, _) => (s.tree.get i).getD default
  | none => default
def MidEq (w : World) : Prop := ∀ (os : OsState) (g : Nat → Obj), r2 w os g = some (.next, S2 w os (g2Of w os g), cT, pos2)
theorem h_midF (w : World) : MidEq (w.withFollow "special-get-raises" false) := by
  intro os g
  kernel_rfl
theorem h_midT (w : World) : MidEq (w.withFollow "special-get-raises" true) := by
  intro os g
  kernel_rfl
theorem h_mid (w : World) : MidEq w := byRow2 "special-get-raises" (P := MidEq) h_midF h_midT w
end VL
end
end
section
set_option linter.all false
set_option maxRecDepth 100000
set_option maxHeartbeats 0
noncomputable section
namespace VL
open PySem PySem.W PySem.Calls PyProof.Rows HandSHeadRun
abbrev l3 : List Stmt := ((behindTheImports PP).drop 29).drop 99
/-! the Hook: the written part, object by object -/
def obsK (g : Addr → Option Obj) : List (Option Obj) := kAs.map g
def valK (w : World) : List (Option Obj) := (K w.params).map fun p => some p.2
theorem in_of {h : Heap} : ∀ {as : List Addr} {F : Frag}, F.map (·.1) = as → as.map h.get? = F.map (fun p => some p.2) → F.In h
  | _, [], _, _ => fun _ _ e => by cases e
  | [], (a, o) :: r, e, _ => by cases e
  | b :: as, (a, o) :: r, e, q => by
    have e1 : a = b := by
      have := congrArg List.head? e
      exact Option.some.inj this
    subst e1
    have e2 : r.map (·.1) = as := (List.cons.inj e).2
    obtain ⟨q1, q2⟩ := List.cons.inj q
    have ih := in_of e2 q2
    intro c u hc
    have hc2 : (match c == a with | true => some o | false => List.lookup c r) = some u := hc
    cases z : (c == a) with
    | true =>
      rw [z] at hc2
      have : o = u := Option.some.inj hc2
      rw [← this, beq_iff_eq.mp z]
      exact q1
    | false =>
      rw [z] at hc2
      exact ih c u hc2
theorem k_fst (P : Params) : (K P).map (·.1) = kAs := by kernel_rfl
def hkV : Hook where
  α := List (Option Obj)
  obs := fun s => obsK s.heap.get?
  val := fun w => valK w
  says := fun w h => (K w.params).In h
  of := fun w _ e => in_of (k_fst w.params) e
  keeps := fun _ _ _ hK k => Frag.In.keeps hK k
def obV (s : SharedT) : List (Option Obj) := obsK (getT s)
theorem obV_eq (s : SharedT) : obV s = hkV.obs s.abs := by
  have e : getT s = s.abs.heap.get? := funext (getT_eq s)
  unfold obV
  rw [e] <;> rfl
abbrev R : OpenRow := OpenLaw.row PySem.Challenge.rw_viewlease_k43_whole_cuts_onto_themselves
abbrev qv : Program := view PP [166]
def lookV (w : World) (s : SharedT) := (looksF PP (boot_heap w.params) s.abs, seenQ qv loose (importedModules PP.main.body) (fun s => xlAt qv [] s && recOk R.toRowW.records s) s.abs, obV s)
def EndEq (w : World) : Prop := ∀ (os : OsState) (g : Nat → Obj), (goF (stQ w) 11 (bootAnn w) 6000 (S2 w os g) ⟨denQ tabQ (.body l3 envT), cT, pos2, [topFrame pos0]⟩).map (lookV w) = some (true, openGood qv loose, valK w)
theorem h_endF (w : World) : EndEq (w.withFollow "special-get-raises" false) := by
  intro os g
  kernel_rfl
theorem h_endT (w : World) : EndEq (w.withFollow "special-get-raises" true) := by
  intro os g
  kernel_rfl
theorem h_end (w : World) : EndEq w := byRow2 "special-get-raises" (P := EndEq) h_endF h_endT w
end VL
end
end
section
set_option linter.all false
set_option maxRecDepth 100000
set_option maxHeartbeats 4000000
noncomputable section
namespace VL
open PySem PySem.W PySem.Calls PyProof.Rows HandSHeadRun
theorem blk3 : blockStart l3 envT = pure () := by kernel_rfl
theorem rest3 (tb : String → Option Builtin) : (execs l3 envT).wrap doneF (leaveH envT) id id = denote tb (.body l3 envT) := by
  rw [body_wrap, blk3] <;> rfl
theorem split3 (L : List Stmt) : L = L.take 55 ++ ((L.drop 55).take 44 ++ L.drop 99) := by
  rw [show L.drop 99 = (L.drop 55).drop 44 by rw [List.drop_drop], List.take_append_drop, List.take_append_drop]
theorem body3 : behindTheImports PP = l1 ++ (l2a ++ (l2c ++ l3)) := by
  show behindTheImports PP = (behindTheImports PP).take 29 ++ (((behindTheImports PP).drop 29).take 55 ++ ((((behindTheImports PP).drop 29).drop 55).take 44 ++ ((behindTheImports PP).drop 29).drop 99))
  rw [← split3, List.take_append_drop]
theorem run3 (w : World) (os : OsState) : ∃ s : SharedT, topRun treeTable PP w (boot_heap w.params).objs.size (bootAnn w) (12 + (1 + (8000 + (3000 + (3000 + 6000))))) ⟨boot_heap w.params, #[], boot_drawn, boot_toks, os⟩ (topStub PP) = some s.abs ∧
      (looksF PP (boot_heap w.params) s.abs, openSeen qv loose (importedModules PP.main.body) (fun s => xlAt qv [] s && recOk R.toRowW.records s) true s.abs, hkV.obs s.abs) = (true, openGood qv loose, hkV.val w) := by
  have a0 := h_pre w os
  have a1 := h_blk w os
  have a2 : segQ (stQ w) 11 (bootAnn w) 8000 (SaOf w os) (piecesOf l1 envT cT pos0 [topFrame pos0]) = some (.next, S1 w os (gOf w os), cT, pos1) := h_one w os
  have a3 : segQ (stQ w) 11 (bootAnn w) 3000 (S1 w os (gOf w os)) (piecesOf l2a envT cT pos1 [topFrame pos0]) = some (.next, S15 w os (g15Of w os (gOf w os)), cT, pos15) := h_mid1 w os (gOf w os)
  have a3b : segQ (stQ w) 11 (bootAnn w) 3000 (S15 w os (g15Of w os (gOf w os))) (piecesOf l2c envT cT pos15 [topFrame pos0]) = some (.next, S2 w os (g2Of w os (g15Of w os (gOf w os))), cT, pos2) := h_mid w os (g15Of w os (gOf w os))
  have a4 := h_end w os (g2Of w os (g15Of w os (gOf w os)))
  obtain ⟨s, e4, hv⟩ := Option.map_eq_some_iff.mp a4
  simp only [stQ, ← stepQ_eq, ← denQ_eq, ← tabQ_eq] at a0 a1 a2 a3 a3b e4
  refine ⟨s, ?_, ?_⟩
  · have b := piece_app (q := pos0) (rest := l3) (segQ_ok a3b) (show topRun treeTable PP w 11 (bootAnn w) 6000 _ (restOf l3 envT cT pos2 [topFrame pos0]) = some s.abs by
      unfold restOf
      rw [rest3 treeTable]
      exact goF_ok e4)
    have c' := piece_app (q := pos0) (rest := l2c ++ l3) (segQ_ok a3) b
    have c := piece_app (q := pos0) (rest := l2a ++ (l2c ++ l3)) (segQ_ok a2) c'
    rw [← body3] at c
    have r := go_top (goS_ok a0) (piece_block (segQ_ok a1) c)
    rw [h_size]
    have eb : (S0 w os).abs = ⟨boot_heap w.params, #[], boot_drawn, boot_toks, os⟩ := by
      have e := bootR_eq w (h_put w)
      have en : (bootR w).2 = 11 := by
        have := absHeap_size (bootR w).1 (bootR w).2 (boot_heap w.params).life
        rw [e] at this
        rw [← this]
        exact h_size w
      rw [en] at e
      show (⟨absHeap (bootR w).1 11 (boot_heap w.params).life, #[], boot_drawn, boot_toks, os⟩ : Shared) = _
      rw [e]
    rw [eb] at r
    exact r
  · have hv2 : (looksF PP (boot_heap w.params) s.abs, seenQ qv loose (importedModules PP.main.body) (fun s => xlAt qv [] s && recOk R.toRowW.records s) s.abs, obV s) = (true, openGood qv loose, valK w) := hv
    rw [seenQ_eq]
    rw [obV_eq] at hv2
    exact hv2
/-- the head: what is left is the call -/
theorem head3 {d : DefRec} {kwd : List (PySem.Str × PySem.Expr)}
    (hdef : defOf qv R.name = some (d, kwd)) (hp : PP.theDef R.name = some (d.params, d.body, d.scope)) (hk : kwWritten? d.params.kwonlyargs d.params.kw_defaults = some kwd)
    (hwr : (!R.writes || R.records.isEmpty) = true) (k1 : R.wellSaid = true) (ok : (chainsOk qv && opensWell R.prog && (frees R.toRowW && R.within.isEmpty)) = true) (hb : R.prog.bare) (hw : R.toRowW.promised)
    (e : opening PP = plainProg PP.main.scope.names) (f : ∀ s, fenceModules? PP s = some s)
    (call : WalkO qv loose (XL qv []) hkV.says R.toRowW d kwd fun f vs => PySem.call f vs) : R.Holds := by
  have left : LeftO PP qv loose (fun s => xlAt qv [] s && recOk R.toRowW.records s) hkV.obs hkV.val 20100 true :=
    left_two (M := 12 + (1 + (8000 + (3000 + (3000 + 6000))))) e (by decide) f (by decide) fun w os => run3 w os
  exact holds_open (r := R) (q := qv) (loose := loose) (XP := XL qv []) (YP := hkV.says) (d := d) (kwd := kwd) left hkV.of hkV.keeps (fun s z => xl_of s (Bool.and_eq_true_iff.mp z).1) XL.keeps hdef hp hk (fun s z => recFacts_of (Bool.and_eq_true_iff.mp z).2) hwr k1 ok hb hw call
end VL
end
end
section
set_option linter.all false
set_option maxRecDepth 100000
set_option maxHeartbeats 0
namespace VL
open PySem PySem.W PySem.Calls PyProof.Rows HandSHeadRun
theorem h5_bare : (OpenLaw.row PySem.Challenge.rw_viewlease_k43_whole_cuts_onto_themselves).prog.bare := ⟨rfl, rfl, rfl, rfl, rfl, by decide +kernel⟩
/-- what the call must keep -/
abbrev CallKept : Prop := ∀ (w : World) (mg : Str → Option Value) (fa : Addr) (h : Heap), (K w.params).In h → h.Ns mainGlobals mg → mg ("law" : Str) = some (.ref fa) →
    ∃ (Kk : PySem.W.Frag) (fd : FuncData) (sp : L2.Sp), Kk.In h ∧ (∀ (s : Shared) (u : Value), BindsTo s fd ⟨[u], []⟩ [("_law_script", u)]) ∧
      (∀ (H : L2.Hp) (a : Addr) (ns : List Int), ns.length ≤ 63 → L2.Only H → L2.SqL Kk H a (ns.map L2.V.int) → sp [.ref a] H (fun v _ => v = .bl true) fun _ _ _ => False) ∧
      ∀ base : Heap, Kk.In base → base.Ns mainGlobals mg → L2.FnOk PP w Kk mg base L2.CX0 30 fa fd ["_law_script"] sp
set_option maxHeartbeats 0 in
theorem h5_end (F : CallKept) : PySem.Challenge.rw_viewlease_k43_whole_cuts_onto_themselves.Holds := by
  w_on; o_law
  refine head3 (d := HandSHeadRun.topDef PP 166) (kwd := []) (by kernel_rfl) (by kernel_rfl) (by kernel_rfl) (by rfl) (by first | assumption | decide +kernel) (by decide +kernel) h5_bare ?hw (by kernel_rfl) (fun s => by kernel_rfl) ?hc
  case hw => w_witness2
  case hc =>
    refine L2.walk_ofE (l := PySem.Challenge.rw_viewlease_k43_whole_cuts_onto_themselves) (n := 63) (k := 30) (x := "_law_script") (CX := L2.CX0) rfl (by decide) (by kernel_rfl) ⟨rfl, by decide, by decide⟩ ?F (fun _ _ _ _ z => z)
    intro w mg fa h Y G hmg0
    have hmg : mg ("law" : PySem.Str) = some (.ref fa) := by
      have e : (HandSHeadRun.topDef PP 166).name = ("law" : PySem.Str) := by kernel_rfl
      rw [← e]
      exact hmg0
    exact F w mg fa h Y G hmg
end VL
end
section
set_option linter.all false
set_option maxRecDepth 100000
set_option maxHeartbeats 0
/-! Each def as it stands behind the top. -/
namespace VL
open PySem PySem.Spec PyProof.Rows L2
/-- the module's names, by the written part -/
def MgOk (P : Params) (mg : Str → Option Value) : Prop := ∀ (x : Str) (o : Option Value), PySem.W.nsIn (K P) mainGlobals x = some o → mg x = o
theorem mgOk_of {P : Params} {mg : Str → Option Value} {h : Heap} (X : (K P).In h) (G : h.Ns mainGlobals mg) : MgOk P mg := fun x o e => by
  cases o with
  | none => exact PySem.W.mg_none_of X G e
  | some v => exact PySem.W.mg_of X G e
section
variable {P : Params} {mg : Str → Option Value}
theorem n_len (h : MgOk P mg) : mg "len" = none := h _ _ (by kernel_rfl)
theorem n_range (h : MgOk P mg) : mg "range" = none := h _ _ (by kernel_rfl)
theorem n_int (h : MgOk P mg) : mg "int" = none := h _ _ (by kernel_rfl)
theorem n_tuple (h : MgOk P mg) : mg "tuple" = none := h _ _ (by kernel_rfl)
theorem n_list (h : MgOk P mg) : mg "list" = none := h _ _ (by kernel_rfl)
theorem n_isinstance (h : MgOk P mg) : mg "isinstance" = none := h _ _ (by kernel_rfl)
theorem n_all (h : MgOk P mg) : mg "all" = none := h _ _ (by kernel_rfl)
theorem n_zip (h : MgOk P mg) : mg "zip" = none := h _ _ (by kernel_rfl)
theorem n_min (h : MgOk P mg) : mg "min" = none := h _ _ (by kernel_rfl)
theorem n_max (h : MgOk P mg) : mg "max" = none := h _ _ (by kernel_rfl)
theorem n_enumerate (h : MgOk P mg) : mg "enumerate" = none := h _ _ (by kernel_rfl)
theorem n_sum (h : MgOk P mg) : mg "sum" = none := h _ _ (by kernel_rfl)
theorem n_abs (h : MgOk P mg) : mg "abs" = none := h _ _ (by kernel_rfl)
theorem n_dict (h : MgOk P mg) : mg "dict" = none := h _ _ (by kernel_rfl)
theorem n_str (h : MgOk P mg) : mg "str" = none := h _ _ (by kernel_rfl)
theorem g_SIMPLE (h : MgOk P mg) : mg "SIMPLE" = some (.int (0) 1438) := h _ _ (by kernel_rfl)
theorem g_WRITABLE (h : MgOk P mg) : mg "WRITABLE" = some (.int (1) 1440) := h _ _ (by kernel_rfl)
theorem g_FORMAT (h : MgOk P mg) : mg "FORMAT" = some (.int (4) 1442) := h _ _ (by kernel_rfl)
theorem g_ND (h : MgOk P mg) : mg "ND" = some (.int (8) 1444) := h _ _ (by kernel_rfl)
theorem g_STRIDES (h : MgOk P mg) : mg "STRIDES" = some (.int (24) 1446) := h _ _ (by kernel_rfl)
theorem g_C_CONTIGUOUS (h : MgOk P mg) : mg "C_CONTIGUOUS" = some (.int (56) 1448) := h _ _ (by kernel_rfl)
theorem g_F_CONTIGUOUS (h : MgOk P mg) : mg "F_CONTIGUOUS" = some (.int (88) 1450) := h _ _ (by kernel_rfl)
theorem g_ANY_CONTIGUOUS (h : MgOk P mg) : mg "ANY_CONTIGUOUS" = some (.int (152) 1452) := h _ _ (by kernel_rfl)
theorem g_FULL_RO (h : MgOk P mg) : mg "FULL_RO" = some (.int (284) 1454) := h _ _ (by kernel_rfl)
theorem g_Memory (h : MgOk P mg) : mg "Memory" = some (.ref 891) := h _ _ (by kernel_rfl)
theorem g_Buffer (h : MgOk P mg) : mg "Buffer" = some (.ref 926) := h _ _ (by kernel_rfl)
theorem g_Cut (h : MgOk P mg) : mg "Cut" = some (.ref 1071) := h _ _ (by kernel_rfl)
theorem g_Seen (h : MgOk P mg) : mg "Seen" = some (.ref 1118) := h _ _ (by kernel_rfl)
theorem g_ByteArray (h : MgOk P mg) : mg "ByteArray" = some (.ref 1607) := h _ _ (by kernel_rfl)
theorem g_Strided (h : MgOk P mg) : mg "Strided" = some (.ref 1646) := h _ _ (by kernel_rfl)
theorem g_MemoryView (h : MgOk P mg) : mg "MemoryView" = some (.ref 1416) := h _ _ (by kernel_rfl)
theorem g_Holder (h : MgOk P mg) : mg "Holder" = some (.ref 905) := h _ _ (by kernel_rfl)
theorem g_Dots (h : MgOk P mg) : mg "Dots" = some (.ref 1085) := h _ _ (by kernel_rfl)
theorem g_ORDERS (h : MgOk P mg) : mg "ORDERS" = some (.ref 581) := h _ _ (by kernel_rfl)
theorem g_NATIVE (h : MgOk P mg) : mg "NATIVE" = some (.ref 584) := h _ _ (by kernel_rfl)
theorem g_BELOW (h : MgOk P mg) : mg "BELOW" = some (.ref 787) := h _ _ (by kernel_rfl)
theorem g_FLOAT_CODES (h : MgOk P mg) : mg "FLOAT_CODES" = some (.ref 788) := h _ _ (by kernel_rfl)
theorem g_NO_ITEMS (h : MgOk P mg) : mg "NO_ITEMS" = some (.ref 789) := h _ _ (by kernel_rfl)
theorem gf_count_from (h : MgOk P mg) : mg "count_from" = some (.ref 592) := h _ _ (by kernel_rfl)
theorem gf_field_of (h : MgOk P mg) : mg "field_of" = some (.ref 597) := h _ _ (by kernel_rfl)
theorem gf_read_layout (h : MgOk P mg) : mg "read_layout" = some (.ref 604) := h _ _ (by kernel_rfl)
theorem gf_calcsize (h : MgOk P mg) : mg "calcsize" = some (.ref 611) := h _ _ (by kernel_rfl)
theorem gf_same_layout (h : MgOk P mg) : mg "same_layout" = some (.ref 618) := h _ _ (by kernel_rfl)
theorem gf_is_integer (h : MgOk P mg) : mg "is_integer" = some (.ref 625) := h _ _ (by kernel_rfl)
theorem gf_is_byte (h : MgOk P mg) : mg "is_byte" = some (.ref 632) := h _ _ (by kernel_rfl)
theorem gf_is_bytes (h : MgOk P mg) : mg "is_bytes" = some (.ref 637) := h _ _ (by kernel_rfl)
theorem gf_is_row (h : MgOk P mg) : mg "is_row" = some (.ref 644) := h _ _ (by kernel_rfl)
theorem gf_row_steps (h : MgOk P mg) : mg "row_steps" = some (.ref 658) := h _ _ (by kernel_rfl)
theorem gf_column_steps (h : MgOk P mg) : mg "column_steps" = some (.ref 665) := h _ _ (by kernel_rfl)
theorem gf_are_due (h : MgOk P mg) : mg "are_due" = some (.ref 670) := h _ _ (by kernel_rfl)
theorem gf_are_contiguous (h : MgOk P mg) : mg "are_contiguous" = some (.ref 677) := h _ _ (by kernel_rfl)
theorem gf_is_c_contiguous (h : MgOk P mg) : mg "is_c_contiguous" = some (.ref 684) := h _ _ (by kernel_rfl)
theorem gf_is_f_contiguous (h : MgOk P mg) : mg "is_f_contiguous" = some (.ref 691) := h _ _ (by kernel_rfl)
theorem gf_addresses (h : MgOk P mg) : mg "addresses" = some (.ref 696) := h _ _ (by kernel_rfl)
theorem gf_code_of (h : MgOk P mg) : mg "code_of" = some (.ref 796) := h _ _ (by kernel_rfl)
theorem gf_native_code (h : MgOk P mg) : mg "native_code" = some (.ref 803) := h _ _ (by kernel_rfl)
theorem gf_item_size (h : MgOk P mg) : mg "item_size" = some (.ref 810) := h _ _ (by kernel_rfl)
theorem gf_number_from (h : MgOk P mg) : mg "number_from" = some (.ref 824) := h _ _ (by kernel_rfl)
theorem gf_value_of (h : MgOk P mg) : mg "value_of" = some (.ref 831) := h _ _ (by kernel_rfl)
theorem gf_read_item (h : MgOk P mg) : mg "read_item" = some (.ref 862) := h _ _ (by kernel_rfl)
theorem gf_is_asked (h : MgOk P mg) : mg "is_asked" = some (.ref 876) := h _ _ (by kernel_rfl)
theorem gf_is_holder (h : MgOk P mg) : mg "is_holder" = some (.ref 937) := h _ _ (by kernel_rfl)
theorem gf_lent (h : MgOk P mg) : mg "lent" = some (.ref 944) := h _ _ (by kernel_rfl)
theorem gf_hand_back (h : MgOk P mg) : mg "hand_back" = some (.ref 951) := h _ _ (by kernel_rfl)
theorem gf_check_request (h : MgOk P mg) : mg "check_request" = some (.ref 958) := h _ _ (by kernel_rfl)
theorem gf_seen (h : MgOk P mg) : mg "seen" = some (.ref 965) := h _ _ (by kernel_rfl)
theorem gf_gathered (h : MgOk P mg) : mg "gathered" = some (.ref 970) := h _ _ (by kernel_rfl)
theorem gf_bytes_in (h : MgOk P mg) : mg "bytes_in" = some (.ref 977) := h _ _ (by kernel_rfl)
theorem gf_whole_bytes (h : MgOk P mg) : mg "whole_bytes" = some (.ref 984) := h _ _ (by kernel_rfl)
theorem gf_ordered_bytes (h : MgOk P mg) : mg "ordered_bytes" = some (.ref 998) := h _ _ (by kernel_rfl)
theorem gf_item_at (h : MgOk P mg) : mg "item_at" = some (.ref 1005) := h _ _ (by kernel_rfl)
theorem gf_write_at (h : MgOk P mg) : mg "write_at" = some (.ref 1012) := h _ _ (by kernel_rfl)
theorem gf_nested_items (h : MgOk P mg) : mg "nested_items" = some (.ref 1017) := h _ _ (by kernel_rfl)
theorem gf_item_rows (h : MgOk P mg) : mg "item_rows" = some (.ref 1022) := h _ _ (by kernel_rfl)
theorem gf_write_rows (h : MgOk P mg) : mg "write_rows" = some (.ref 1029) := h _ _ (by kernel_rfl)
theorem gf_bounded (h : MgOk P mg) : mg "bounded" = some (.ref 1036) := h _ _ (by kernel_rfl)
theorem gf_cut_of (h : MgOk P mg) : mg "cut_of" = some (.ref 1041) := h _ _ (by kernel_rfl)
theorem gf_cut_places (h : MgOk P mg) : mg "cut_places" = some (.ref 1046) := h _ _ (by kernel_rfl)
theorem gf_key_kind (h : MgOk P mg) : mg "key_kind" = some (.ref 1094) := h _ _ (by kernel_rfl)
theorem gf_asked (h : MgOk P mg) : mg "asked" = some (.ref 1129) := h _ _ (by kernel_rfl)
theorem gf_checked_byte (h : MgOk P mg) : mg "checked_byte" = some (.ref 1425) := h _ _ (by kernel_rfl)
theorem gf_bytes_of_row (h : MgOk P mg) : mg "bytes_of_row" = some (.ref 1430) := h _ _ (by kernel_rfl)
theorem gf_bytes_given (h : MgOk P mg) : mg "bytes_given" = some (.ref 1437) := h _ _ (by kernel_rfl)
theorem gf_l_places (h : MgOk P mg) : mg "_law_places" = some (.ref 1653) := h _ _ (by kernel_rfl)
theorem gf_l_v_sizes (h : MgOk P mg) : mg "_law_v_sizes" = some (.ref 1660) := h _ _ (by kernel_rfl)
theorem gf_l_v_number (h : MgOk P mg) : mg "_law_v_number" = some (.ref 1665) := h _ _ (by kernel_rfl)
theorem gf_l_v_read_value (h : MgOk P mg) : mg "_law_v_read_value" = some (.ref 1700) := h _ _ (by kernel_rfl)
theorem gf_l_w_is_native (h : MgOk P mg) : mg "_law_w_is_native" = some (.ref 1707) := h _ _ (by kernel_rfl)
theorem gf_l_w_size (h : MgOk P mg) : mg "_law_w_size" = some (.ref 1714) := h _ _ (by kernel_rfl)
theorem gf_l_w_at (h : MgOk P mg) : mg "_law_w_at" = some (.ref 1721) := h _ _ (by kernel_rfl)
theorem gf_l_w_nested (h : MgOk P mg) : mg "_law_w_nested" = some (.ref 1726) := h _ _ (by kernel_rfl)
theorem gf_l_w_bytes (h : MgOk P mg) : mg "_law_w_bytes" = some (.ref 1733) := h _ _ (by kernel_rfl)
theorem gf_l_w_cut (h : MgOk P mg) : mg "_law_w_cut" = some (.ref 1740) := h _ _ (by kernel_rfl)
theorem gf_l_w_model (h : MgOk P mg) : mg "_law_w_model" = some (.ref 1747) := h _ _ (by kernel_rfl)
theorem gf_l_w_seen_right (h : MgOk P mg) : mg "_law_w_seen_right" = some (.ref 1754) := h _ _ (by kernel_rfl)
theorem gf_l_draw (h : MgOk P mg) : mg "_law_draw" = some (.ref 1761) := h _ _ (by kernel_rfl)
theorem gf_l_start (h : MgOk P mg) : mg "_law_start" = some (.ref 1768) := h _ _ (by kernel_rfl)
theorem gf_l_pick (h : MgOk P mg) : mg "_law_pick" = some (.ref 1775) := h _ _ (by kernel_rfl)
theorem gf_l_same (h : MgOk P mg) : mg "_law_same" = some (.ref 1780) := h _ _ (by kernel_rfl)
theorem gf_l_bytes (h : MgOk P mg) : mg "_law_bytes" = some (.ref 1785) := h _ _ (by kernel_rfl)
theorem gf_l_cut_of (h : MgOk P mg) : mg "_law_cut_of" = some (.ref 1792) := h _ _ (by kernel_rfl)
theorem gf_l_part (h : MgOk P mg) : mg "_law_part" = some (.ref 1799) := h _ _ (by kernel_rfl)
theorem gf_l_cut (h : MgOk P mg) : mg "_law_cut" = some (.ref 1806) := h _ _ (by kernel_rfl)
theorem gf_l_w_shared (h : MgOk P mg) : mg "_law_w_shared" = some (.ref 1813) := h _ _ (by kernel_rfl)
theorem gf_l_w_cut_twice (h : MgOk P mg) : mg "_law_w_cut_twice" = some (.ref 1820) := h _ _ (by kernel_rfl)
theorem gf_l_w_some_cut (h : MgOk P mg) : mg "_law_w_some_cut" = some (.ref 1827) := h _ _ (by kernel_rfl)
theorem gf_lw (h : MgOk P mg) : mg "law" = some (.ref 1834) := h _ _ (by kernel_rfl)
end
abbrev af_count_from : Addr := 592
abbrev fdf_count_from : FuncData := PySem.W.fnOf "count_from" "count_from" (defArgs sf_count_from) (defBody sf_count_from) (defScope sf_count_from) .none .none .none (.str "viewlease.layouts" 884) none (.ref 591) .none
theorem scf_count_from : FnScope ["layout", "at", "end"] ["layout", "at"] (defScope sf_count_from) := ⟨rfl, rfl, rfl, by decide +kernel, rfl, by decide +kernel, by decide +kernel⟩
theorem stf_count_from (x0 x1 : V) : L2.start ["layout", "at", "end"] [x0, x1] = [some x0, some x1, none] := rfl
theorem Ff_count_from (P : Params) : Fun (K P) "count_from" "count_from" sf_count_from 592 fdf_count_from := fun_mk (oc := .type "function") (od := none) (osl := #[]) (by kernel_rfl) (by kernel_rfl) (by kernel_rfl)
theorem bf_count_from (P : Params) : Binds (K P) fdf_count_from ["layout", "at"] [] := (Ff_count_from P).binds fun _ _ _ _ _ _ us hl => match us, hl with | [_, _], _ => rfl
abbrev af_field_of : Addr := 597
abbrev fdf_field_of : FuncData := PySem.W.fnOf "field_of" "field_of" (defArgs sf_field_of) (defBody sf_field_of) (defScope sf_field_of) .none .none .none (.str "viewlease.layouts" 884) none (.ref 596) .none
theorem scf_field_of : FnScope ["code", "size", "many", "place", "k"] ["code", "size", "many", "place"] (defScope sf_field_of) := ⟨rfl, rfl, rfl, by decide +kernel, rfl, by decide +kernel, by decide +kernel⟩
theorem stf_field_of (x0 x1 x2 x3 : V) : L2.start ["code", "size", "many", "place", "k"] [x0, x1, x2, x3] = [some x0, some x1, some x2, some x3, none] := rfl
theorem Ff_field_of (P : Params) : Fun (K P) "field_of" "field_of" sf_field_of 597 fdf_field_of := fun_mk (oc := .type "function") (od := none) (osl := #[]) (by kernel_rfl) (by kernel_rfl) (by kernel_rfl)
theorem bf_field_of (P : Params) : Binds (K P) fdf_field_of ["code", "size", "many", "place"] [] := (Ff_field_of P).binds fun _ _ _ _ _ _ us hl => match us, hl with | [_, _, _, _], _ => rfl
abbrev af_read_layout : Addr := 604
abbrev fdf_read_layout : FuncData := PySem.W.fnOf "read_layout" "read_layout" (defArgs sf_read_layout) (defBody sf_read_layout) (defScope sf_read_layout) .none .none .none (.str "viewlease.layouts" 884) none (.ref 603) .none
theorem scf_read_layout : FnScope ["layout", "order", "sizes", "at", "place", "found", "many", "size", "some"] ["layout"] (defScope sf_read_layout) := ⟨rfl, rfl, rfl, by decide +kernel, rfl, by decide +kernel, by decide +kernel⟩
theorem stf_read_layout (x0 : V) : L2.start ["layout", "order", "sizes", "at", "place", "found", "many", "size", "some"] [x0] = [some x0, none, none, none, none, none, none, none, none] := rfl
theorem Ff_read_layout (P : Params) : Fun (K P) "read_layout" "read_layout" sf_read_layout 604 fdf_read_layout := fun_mk (oc := .type "function") (od := none) (osl := #[]) (by kernel_rfl) (by kernel_rfl) (by kernel_rfl)
theorem bf_read_layout (P : Params) : Binds (K P) fdf_read_layout ["layout"] [] := (Ff_read_layout P).binds fun _ _ _ _ _ _ us hl => match us, hl with | [_], _ => rfl
abbrev af_calcsize : Addr := 611
abbrev fdf_calcsize : FuncData := PySem.W.fnOf "calcsize" "calcsize" (defArgs sf_calcsize) (defBody sf_calcsize) (defScope sf_calcsize) .none .none .none (.str "viewlease.layouts" 884) none (.ref 610) .none
theorem scf_calcsize : FnScope ["layout"] ["layout"] (defScope sf_calcsize) := ⟨rfl, rfl, rfl, by decide +kernel, rfl, by decide +kernel, by decide +kernel⟩
theorem stf_calcsize (x0 : V) : L2.start ["layout"] [x0] = [some x0] := rfl
theorem Ff_calcsize (P : Params) : Fun (K P) "calcsize" "calcsize" sf_calcsize 611 fdf_calcsize := fun_mk (oc := .type "function") (od := none) (osl := #[]) (by kernel_rfl) (by kernel_rfl) (by kernel_rfl)
theorem bf_calcsize (P : Params) : Binds (K P) fdf_calcsize ["layout"] [] := (Ff_calcsize P).binds fun _ _ _ _ _ _ us hl => match us, hl with | [_], _ => rfl
abbrev af_same_layout : Addr := 618
abbrev fdf_same_layout : FuncData := PySem.W.fnOf "same_layout" "same_layout" (defArgs sf_same_layout) (defBody sf_same_layout) (defScope sf_same_layout) .none .none .none (.str "viewlease.layouts" 884) none (.ref 617) .none
theorem scf_same_layout : FnScope ["one", "other"] ["one", "other"] (defScope sf_same_layout) := ⟨rfl, rfl, rfl, by decide +kernel, rfl, by decide +kernel, by decide +kernel⟩
theorem stf_same_layout (x0 x1 : V) : L2.start ["one", "other"] [x0, x1] = [some x0, some x1] := rfl
theorem Ff_same_layout (P : Params) : Fun (K P) "same_layout" "same_layout" sf_same_layout 618 fdf_same_layout := fun_mk (oc := .type "function") (od := none) (osl := #[]) (by kernel_rfl) (by kernel_rfl) (by kernel_rfl)
theorem bf_same_layout (P : Params) : Binds (K P) fdf_same_layout ["one", "other"] [] := (Ff_same_layout P).binds fun _ _ _ _ _ _ us hl => match us, hl with | [_, _], _ => rfl
abbrev af_is_integer : Addr := 625
abbrev fdf_is_integer : FuncData := PySem.W.fnOf "is_integer" "is_integer" (defArgs sf_is_integer) (defBody sf_is_integer) (defScope sf_is_integer) .none .none .none (.str "viewlease.shapes" 1058) none (.ref 624) .none
theorem scf_is_integer : FnScope ["thing"] ["thing"] (defScope sf_is_integer) := ⟨rfl, rfl, rfl, by decide +kernel, rfl, by decide +kernel, by decide +kernel⟩
theorem stf_is_integer (x0 : V) : L2.start ["thing"] [x0] = [some x0] := rfl
theorem Ff_is_integer (P : Params) : Fun (K P) "is_integer" "is_integer" sf_is_integer 625 fdf_is_integer := fun_mk (oc := .type "function") (od := none) (osl := #[]) (by kernel_rfl) (by kernel_rfl) (by kernel_rfl)
theorem bf_is_integer (P : Params) : Binds (K P) fdf_is_integer ["thing"] [] := (Ff_is_integer P).binds fun _ _ _ _ _ _ us hl => match us, hl with | [_], _ => rfl
abbrev af_is_byte : Addr := 632
abbrev fdf_is_byte : FuncData := PySem.W.fnOf "is_byte" "is_byte" (defArgs sf_is_byte) (defBody sf_is_byte) (defScope sf_is_byte) .none .none .none (.str "viewlease.shapes" 1058) none (.ref 631) .none
theorem scf_is_byte : FnScope ["thing"] ["thing"] (defScope sf_is_byte) := ⟨rfl, rfl, rfl, by decide +kernel, rfl, by decide +kernel, by decide +kernel⟩
theorem stf_is_byte (x0 : V) : L2.start ["thing"] [x0] = [some x0] := rfl
theorem Ff_is_byte (P : Params) : Fun (K P) "is_byte" "is_byte" sf_is_byte 632 fdf_is_byte := fun_mk (oc := .type "function") (od := none) (osl := #[]) (by kernel_rfl) (by kernel_rfl) (by kernel_rfl)
theorem bf_is_byte (P : Params) : Binds (K P) fdf_is_byte ["thing"] [] := (Ff_is_byte P).binds fun _ _ _ _ _ _ us hl => match us, hl with | [_], _ => rfl
abbrev af_is_bytes : Addr := 637
abbrev fdf_is_bytes : FuncData := PySem.W.fnOf "is_bytes" "is_bytes" (defArgs sf_is_bytes) (defBody sf_is_bytes) (defScope sf_is_bytes) .none .none .none (.str "viewlease.shapes" 1058) none (.ref 636) .none
theorem scf_is_bytes : FnScope ["thing", "part"] ["thing"] (defScope sf_is_bytes) := ⟨rfl, rfl, rfl, by decide +kernel, rfl, by decide +kernel, by decide +kernel⟩
theorem stf_is_bytes (x0 : V) : L2.start ["thing", "part"] [x0] = [some x0, none] := rfl
theorem Ff_is_bytes (P : Params) : Fun (K P) "is_bytes" "is_bytes" sf_is_bytes 637 fdf_is_bytes := fun_mk (oc := .type "function") (od := none) (osl := #[]) (by kernel_rfl) (by kernel_rfl) (by kernel_rfl)
theorem bf_is_bytes (P : Params) : Binds (K P) fdf_is_bytes ["thing"] [] := (Ff_is_bytes P).binds fun _ _ _ _ _ _ us hl => match us, hl with | [_], _ => rfl
abbrev af_is_row : Addr := 644
abbrev fdf_is_row : FuncData := PySem.W.fnOf "is_row" "is_row" (defArgs sf_is_row) (defBody sf_is_row) (defScope sf_is_row) .none .none .none (.str "viewlease.shapes" 1058) none (.ref 643) .none
theorem scf_is_row : FnScope ["thing"] ["thing"] (defScope sf_is_row) := ⟨rfl, rfl, rfl, by decide +kernel, rfl, by decide +kernel, by decide +kernel⟩
theorem stf_is_row (x0 : V) : L2.start ["thing"] [x0] = [some x0] := rfl
theorem Ff_is_row (P : Params) : Fun (K P) "is_row" "is_row" sf_is_row 644 fdf_is_row := fun_mk (oc := .type "function") (od := none) (osl := #[]) (by kernel_rfl) (by kernel_rfl) (by kernel_rfl)
theorem bf_is_row (P : Params) : Binds (K P) fdf_is_row ["thing"] [] := (Ff_is_row P).binds fun _ _ _ _ _ _ us hl => match us, hl with | [_], _ => rfl
abbrev af_row_steps : Addr := 658
abbrev fdf_row_steps : FuncData := PySem.W.fnOf "row_steps" "row_steps" (defArgs sf_row_steps) (defBody sf_row_steps) (defScope sf_row_steps) .none .none .none (.str "viewlease.shapes" 1058) none (.ref 657) .none
theorem scf_row_steps : FnScope ["sizes", "width", "found", "step", "size"] ["sizes", "width"] (defScope sf_row_steps) := ⟨rfl, rfl, rfl, by decide +kernel, rfl, by decide +kernel, by decide +kernel⟩
theorem stf_row_steps (x0 x1 : V) : L2.start ["sizes", "width", "found", "step", "size"] [x0, x1] = [some x0, some x1, none, none, none] := rfl
theorem Ff_row_steps (P : Params) : Fun (K P) "row_steps" "row_steps" sf_row_steps 658 fdf_row_steps := fun_mk (oc := .type "function") (od := none) (osl := #[]) (by kernel_rfl) (by kernel_rfl) (by kernel_rfl)
theorem bf_row_steps (P : Params) : Binds (K P) fdf_row_steps ["sizes", "width"] [] := (Ff_row_steps P).binds fun _ _ _ _ _ _ us hl => match us, hl with | [_, _], _ => rfl
abbrev af_column_steps : Addr := 665
abbrev fdf_column_steps : FuncData := PySem.W.fnOf "column_steps" "column_steps" (defArgs sf_column_steps) (defBody sf_column_steps) (defScope sf_column_steps) .none .none .none (.str "viewlease.shapes" 1058) none (.ref 664) .none
theorem scf_column_steps : FnScope ["sizes", "width"] ["sizes", "width"] (defScope sf_column_steps) := ⟨rfl, rfl, rfl, by decide +kernel, rfl, by decide +kernel, by decide +kernel⟩
theorem stf_column_steps (x0 x1 : V) : L2.start ["sizes", "width"] [x0, x1] = [some x0, some x1] := rfl
theorem Ff_column_steps (P : Params) : Fun (K P) "column_steps" "column_steps" sf_column_steps 665 fdf_column_steps := fun_mk (oc := .type "function") (od := none) (osl := #[]) (by kernel_rfl) (by kernel_rfl) (by kernel_rfl)
theorem bf_column_steps (P : Params) : Binds (K P) fdf_column_steps ["sizes", "width"] [] := (Ff_column_steps P).binds fun _ _ _ _ _ _ us hl => match us, hl with | [_, _], _ => rfl
abbrev af_are_due : Addr := 670
abbrev fdf_are_due : FuncData := PySem.W.fnOf "are_due" "are_due" (defArgs sf_are_due) (defBody sf_are_due) (defScope sf_are_due) .none .none .none (.str "viewlease.shapes" 1058) none (.ref 669) .none
theorem scf_are_due : FnScope ["sizes", "steps", "due", "size", "step", "wanted"] ["sizes", "steps", "due"] (defScope sf_are_due) := ⟨rfl, rfl, rfl, by decide +kernel, rfl, by decide +kernel, by decide +kernel⟩
theorem stf_are_due (x0 x1 x2 : V) : L2.start ["sizes", "steps", "due", "size", "step", "wanted"] [x0, x1, x2] = [some x0, some x1, some x2, none, none, none] := rfl
theorem Ff_are_due (P : Params) : Fun (K P) "are_due" "are_due" sf_are_due 670 fdf_are_due := fun_mk (oc := .type "function") (od := none) (osl := #[]) (by kernel_rfl) (by kernel_rfl) (by kernel_rfl)
theorem bf_are_due (P : Params) : Binds (K P) fdf_are_due ["sizes", "steps", "due"] [] := (Ff_are_due P).binds fun _ _ _ _ _ _ us hl => match us, hl with | [_, _, _], _ => rfl
abbrev af_are_contiguous : Addr := 677
abbrev fdf_are_contiguous : FuncData := PySem.W.fnOf "are_contiguous" "are_contiguous" (defArgs sf_are_contiguous) (defBody sf_are_contiguous) (defScope sf_are_contiguous) .none .none .none (.str "viewlease.shapes" 1058) none (.ref 676) .none
theorem scf_are_contiguous : FnScope ["sizes", "steps", "due"] ["sizes", "steps", "due"] (defScope sf_are_contiguous) := ⟨rfl, rfl, rfl, by decide +kernel, rfl, by decide +kernel, by decide +kernel⟩
theorem stf_are_contiguous (x0 x1 x2 : V) : L2.start ["sizes", "steps", "due"] [x0, x1, x2] = [some x0, some x1, some x2] := rfl
theorem Ff_are_contiguous (P : Params) : Fun (K P) "are_contiguous" "are_contiguous" sf_are_contiguous 677 fdf_are_contiguous := fun_mk (oc := .type "function") (od := none) (osl := #[]) (by kernel_rfl) (by kernel_rfl) (by kernel_rfl)
theorem bf_are_contiguous (P : Params) : Binds (K P) fdf_are_contiguous ["sizes", "steps", "due"] [] := (Ff_are_contiguous P).binds fun _ _ _ _ _ _ us hl => match us, hl with | [_, _, _], _ => rfl
abbrev af_is_c_contiguous : Addr := 684
abbrev fdf_is_c_contiguous : FuncData := PySem.W.fnOf "is_c_contiguous" "is_c_contiguous" (defArgs sf_is_c_contiguous) (defBody sf_is_c_contiguous) (defScope sf_is_c_contiguous) .none .none .none (.str "viewlease.shapes" 1058) none (.ref 683) .none
theorem scf_is_c_contiguous : FnScope ["sizes", "steps", "width"] ["sizes", "steps", "width"] (defScope sf_is_c_contiguous) := ⟨rfl, rfl, rfl, by decide +kernel, rfl, by decide +kernel, by decide +kernel⟩
theorem stf_is_c_contiguous (x0 x1 x2 : V) : L2.start ["sizes", "steps", "width"] [x0, x1, x2] = [some x0, some x1, some x2] := rfl
theorem Ff_is_c_contiguous (P : Params) : Fun (K P) "is_c_contiguous" "is_c_contiguous" sf_is_c_contiguous 684 fdf_is_c_contiguous := fun_mk (oc := .type "function") (od := none) (osl := #[]) (by kernel_rfl) (by kernel_rfl) (by kernel_rfl)
theorem bf_is_c_contiguous (P : Params) : Binds (K P) fdf_is_c_contiguous ["sizes", "steps", "width"] [] := (Ff_is_c_contiguous P).binds fun _ _ _ _ _ _ us hl => match us, hl with | [_, _, _], _ => rfl
abbrev af_is_f_contiguous : Addr := 691
abbrev fdf_is_f_contiguous : FuncData := PySem.W.fnOf "is_f_contiguous" "is_f_contiguous" (defArgs sf_is_f_contiguous) (defBody sf_is_f_contiguous) (defScope sf_is_f_contiguous) .none .none .none (.str "viewlease.shapes" 1058) none (.ref 690) .none
theorem scf_is_f_contiguous : FnScope ["sizes", "steps", "width"] ["sizes", "steps", "width"] (defScope sf_is_f_contiguous) := ⟨rfl, rfl, rfl, by decide +kernel, rfl, by decide +kernel, by decide +kernel⟩
theorem stf_is_f_contiguous (x0 x1 x2 : V) : L2.start ["sizes", "steps", "width"] [x0, x1, x2] = [some x0, some x1, some x2] := rfl
theorem Ff_is_f_contiguous (P : Params) : Fun (K P) "is_f_contiguous" "is_f_contiguous" sf_is_f_contiguous 691 fdf_is_f_contiguous := fun_mk (oc := .type "function") (od := none) (osl := #[]) (by kernel_rfl) (by kernel_rfl) (by kernel_rfl)
theorem bf_is_f_contiguous (P : Params) : Binds (K P) fdf_is_f_contiguous ["sizes", "steps", "width"] [] := (Ff_is_f_contiguous P).binds fun _ _ _ _ _ _ us hl => match us, hl with | [_, _, _], _ => rfl
abbrev af_addresses : Addr := 696
abbrev fdf_addresses : FuncData := PySem.W.fnOf "addresses" "addresses" (defArgs sf_addresses) (defBody sf_addresses) (defScope sf_addresses) .none .none .none (.str "viewlease.shapes" 1058) none (.ref 695) .none
theorem scf_addresses : FnScope ["sizes", "steps", "place", "found", "size", "step", "at", "k"] ["sizes", "steps", "place"] (defScope sf_addresses) := ⟨rfl, rfl, rfl, by decide +kernel, rfl, by decide +kernel, by decide +kernel⟩
theorem stf_addresses (x0 x1 x2 : V) : L2.start ["sizes", "steps", "place", "found", "size", "step", "at", "k"] [x0, x1, x2] = [some x0, some x1, some x2, none, none, none, none, none] := rfl
theorem Ff_addresses (P : Params) : Fun (K P) "addresses" "addresses" sf_addresses 696 fdf_addresses := fun_mk (oc := .type "function") (od := none) (osl := #[]) (by kernel_rfl) (by kernel_rfl) (by kernel_rfl)
theorem bf_addresses (P : Params) : Binds (K P) fdf_addresses ["sizes", "steps", "place"] [] := (Ff_addresses P).binds fun _ _ _ _ _ _ us hl => match us, hl with | [_, _, _], _ => rfl
abbrev af_code_of : Addr := 796
abbrev fdf_code_of : FuncData := PySem.W.fnOf "code_of" "code_of" (defArgs sf_code_of) (defBody sf_code_of) (defScope sf_code_of) .none .none .none (.str "viewlease.items" 1315) none (.ref 795) .none
theorem scf_code_of : FnScope ["layout", "code"] ["layout"] (defScope sf_code_of) := ⟨rfl, rfl, rfl, by decide +kernel, rfl, by decide +kernel, by decide +kernel⟩
theorem stf_code_of (x0 : V) : L2.start ["layout", "code"] [x0] = [some x0, none] := rfl
theorem Ff_code_of (P : Params) : Fun (K P) "code_of" "code_of" sf_code_of 796 fdf_code_of := fun_mk (oc := .type "function") (od := none) (osl := #[]) (by kernel_rfl) (by kernel_rfl) (by kernel_rfl)
theorem bf_code_of (P : Params) : Binds (K P) fdf_code_of ["layout"] [] := (Ff_code_of P).binds fun _ _ _ _ _ _ us hl => match us, hl with | [_], _ => rfl
abbrev af_native_code : Addr := 803
abbrev fdf_native_code : FuncData := PySem.W.fnOf "native_code" "native_code" (defArgs sf_native_code) (defBody sf_native_code) (defScope sf_native_code) .none .none .none (.str "viewlease.items" 1315) none (.ref 802) .none
theorem scf_native_code : FnScope ["layout", "code"] ["layout"] (defScope sf_native_code) := ⟨rfl, rfl, rfl, by decide +kernel, rfl, by decide +kernel, by decide +kernel⟩
theorem stf_native_code (x0 : V) : L2.start ["layout", "code"] [x0] = [some x0, none] := rfl
theorem Ff_native_code (P : Params) : Fun (K P) "native_code" "native_code" sf_native_code 803 fdf_native_code := fun_mk (oc := .type "function") (od := none) (osl := #[]) (by kernel_rfl) (by kernel_rfl) (by kernel_rfl)
theorem bf_native_code (P : Params) : Binds (K P) fdf_native_code ["layout"] [] := (Ff_native_code P).binds fun _ _ _ _ _ _ us hl => match us, hl with | [_], _ => rfl
abbrev af_item_size : Addr := 810
abbrev fdf_item_size : FuncData := PySem.W.fnOf "item_size" "item_size" (defArgs sf_item_size) (defBody sf_item_size) (defScope sf_item_size) .none .none .none (.str "viewlease.items" 1315) none (.ref 809) .none
theorem scf_item_size : FnScope ["layout"] ["layout"] (defScope sf_item_size) := ⟨rfl, rfl, rfl, by decide +kernel, rfl, by decide +kernel, by decide +kernel⟩
theorem stf_item_size (x0 : V) : L2.start ["layout"] [x0] = [some x0] := rfl
theorem Ff_item_size (P : Params) : Fun (K P) "item_size" "item_size" sf_item_size 810 fdf_item_size := fun_mk (oc := .type "function") (od := none) (osl := #[]) (by kernel_rfl) (by kernel_rfl) (by kernel_rfl)
theorem bf_item_size (P : Params) : Binds (K P) fdf_item_size ["layout"] [] := (Ff_item_size P).binds fun _ _ _ _ _ _ us hl => match us, hl with | [_], _ => rfl
abbrev af_number_from : Addr := 824
abbrev fdf_number_from : FuncData := PySem.W.fnOf "number_from" "number_from" (defArgs sf_number_from) (defBody sf_number_from) (defScope sf_number_from) .none .none .none (.str "viewlease.items" 1315) none (.ref 823) .none
theorem scf_number_from : FnScope ["row", "great", "number", "byte"] ["row", "great"] (defScope sf_number_from) := ⟨rfl, rfl, rfl, by decide +kernel, rfl, by decide +kernel, by decide +kernel⟩
theorem stf_number_from (x0 x1 : V) : L2.start ["row", "great", "number", "byte"] [x0, x1] = [some x0, some x1, none, none] := rfl
theorem Ff_number_from (P : Params) : Fun (K P) "number_from" "number_from" sf_number_from 824 fdf_number_from := fun_mk (oc := .type "function") (od := none) (osl := #[]) (by kernel_rfl) (by kernel_rfl) (by kernel_rfl)
theorem bf_number_from (P : Params) : Binds (K P) fdf_number_from ["row", "great"] [] := (Ff_number_from P).binds fun _ _ _ _ _ _ us hl => match us, hl with | [_, _], _ => rfl
abbrev af_value_of : Addr := 831
abbrev fdf_value_of : FuncData := PySem.W.fnOf "value_of" "value_of" (defArgs sf_value_of) (defBody sf_value_of) (defScope sf_value_of) .none .none .none (.str "viewlease.items" 1315) none (.ref 830) .none
theorem scf_value_of : FnScope ["code", "row", "great", "number"] ["code", "row", "great"] (defScope sf_value_of) := ⟨rfl, rfl, rfl, by decide +kernel, rfl, by decide +kernel, by decide +kernel⟩
theorem stf_value_of (x0 x1 x2 : V) : L2.start ["code", "row", "great", "number"] [x0, x1, x2] = [some x0, some x1, some x2, none] := rfl
theorem Ff_value_of (P : Params) : Fun (K P) "value_of" "value_of" sf_value_of 831 fdf_value_of := fun_mk (oc := .type "function") (od := none) (osl := #[]) (by kernel_rfl) (by kernel_rfl) (by kernel_rfl)
theorem bf_value_of (P : Params) : Binds (K P) fdf_value_of ["code", "row", "great"] [] := (Ff_value_of P).binds fun _ _ _ _ _ _ us hl => match us, hl with | [_, _, _], _ => rfl
abbrev af_read_item : Addr := 862
abbrev fdf_read_item : FuncData := PySem.W.fnOf "read_item" "read_item" (defArgs sf_read_item) (defBody sf_read_item) (defScope sf_read_item) .none .none .none (.str "viewlease.items" 1315) none (.ref 861) .none
theorem scf_read_item : FnScope ["layout", "data", "byte"] ["layout", "data"] (defScope sf_read_item) := ⟨rfl, rfl, rfl, by decide +kernel, rfl, by decide +kernel, by decide +kernel⟩
theorem stf_read_item (x0 x1 : V) : L2.start ["layout", "data", "byte"] [x0, x1] = [some x0, some x1, none] := rfl
theorem Ff_read_item (P : Params) : Fun (K P) "read_item" "read_item" sf_read_item 862 fdf_read_item := fun_mk (oc := .type "function") (od := none) (osl := #[]) (by kernel_rfl) (by kernel_rfl) (by kernel_rfl)
theorem bf_read_item (P : Params) : Binds (K P) fdf_read_item ["layout", "data"] [] := (Ff_read_item P).binds fun _ _ _ _ _ _ us hl => match us, hl with | [_, _], _ => rfl
abbrev af_is_asked : Addr := 876
abbrev fdf_is_asked : FuncData := PySem.W.fnOf "is_asked" "is_asked" (defArgs sf_is_asked) (defBody sf_is_asked) (defScope sf_is_asked) .none .none .none (.str "viewlease.requests" 1436) none (.ref 875) .none
theorem scf_is_asked : FnScope ["flags", "flag"] ["flags", "flag"] (defScope sf_is_asked) := ⟨rfl, rfl, rfl, by decide +kernel, rfl, by decide +kernel, by decide +kernel⟩
theorem stf_is_asked (x0 x1 : V) : L2.start ["flags", "flag"] [x0, x1] = [some x0, some x1] := rfl
theorem Ff_is_asked (P : Params) : Fun (K P) "is_asked" "is_asked" sf_is_asked 876 fdf_is_asked := fun_mk (oc := .type "function") (od := none) (osl := #[]) (by kernel_rfl) (by kernel_rfl) (by kernel_rfl)
theorem bf_is_asked (P : Params) : Binds (K P) fdf_is_asked ["flags", "flag"] [] := (Ff_is_asked P).binds fun _ _ _ _ _ _ us hl => match us, hl with | [_, _], _ => rfl
abbrev af_is_holder : Addr := 937
abbrev fdf_is_holder : FuncData := PySem.W.fnOf "is_holder" "is_holder" (defArgs sf_is_holder) (defBody sf_is_holder) (defScope sf_is_holder) .none .none .none (.str "viewlease.memory" 1464) none (.ref 936) .none
theorem scf_is_holder : FnScope ["thing"] ["thing"] (defScope sf_is_holder) := ⟨rfl, rfl, rfl, by decide +kernel, rfl, by decide +kernel, by decide +kernel⟩
theorem stf_is_holder (x0 : V) : L2.start ["thing"] [x0] = [some x0] := rfl
theorem Ff_is_holder (P : Params) : Fun (K P) "is_holder" "is_holder" sf_is_holder 937 fdf_is_holder := fun_mk (oc := .type "function") (od := none) (osl := #[]) (by kernel_rfl) (by kernel_rfl) (by kernel_rfl)
theorem bf_is_holder (P : Params) : Binds (K P) fdf_is_holder ["thing"] [] := (Ff_is_holder P).binds fun _ _ _ _ _ _ us hl => match us, hl with | [_], _ => rfl
abbrev af_lent : Addr := 944
abbrev fdf_lent : FuncData := PySem.W.fnOf "lent" "lent" (defArgs sf_lent) (defBody sf_lent) (defScope sf_lent) .none .none .none (.str "viewlease.memory" 1464) none (.ref 943) .none
theorem scf_lent : FnScope ["holder", "flags"] ["holder", "flags"] (defScope sf_lent) := ⟨rfl, rfl, rfl, by decide +kernel, rfl, by decide +kernel, by decide +kernel⟩
theorem stf_lent (x0 x1 : V) : L2.start ["holder", "flags"] [x0, x1] = [some x0, some x1] := rfl
theorem Ff_lent (P : Params) : Fun (K P) "lent" "lent" sf_lent 944 fdf_lent := fun_mk (oc := .type "function") (od := none) (osl := #[]) (by kernel_rfl) (by kernel_rfl) (by kernel_rfl)
theorem bf_lent (P : Params) : Binds (K P) fdf_lent ["holder", "flags"] [] := (Ff_lent P).binds fun _ _ _ _ _ _ us hl => match us, hl with | [_, _], _ => rfl
abbrev af_hand_back : Addr := 951
abbrev fdf_hand_back : FuncData := PySem.W.fnOf "hand_back" "hand_back" (defArgs sf_hand_back) (defBody sf_hand_back) (defScope sf_hand_back) .none .none .none (.str "viewlease.memory" 1464) none (.ref 950) .none
theorem scf_hand_back : FnScope ["buffer"] ["buffer"] (defScope sf_hand_back) := ⟨rfl, rfl, rfl, by decide +kernel, rfl, by decide +kernel, by decide +kernel⟩
theorem stf_hand_back (x0 : V) : L2.start ["buffer"] [x0] = [some x0] := rfl
theorem Ff_hand_back (P : Params) : Fun (K P) "hand_back" "hand_back" sf_hand_back 951 fdf_hand_back := fun_mk (oc := .type "function") (od := none) (osl := #[]) (by kernel_rfl) (by kernel_rfl) (by kernel_rfl)
theorem bf_hand_back (P : Params) : Binds (K P) fdf_hand_back ["buffer"] [] := (Ff_hand_back P).binds fun _ _ _ _ _ _ us hl => match us, hl with | [_], _ => rfl
abbrev af_check_request : Addr := 958
abbrev fdf_check_request : FuncData := PySem.W.fnOf "check_request" "check_request" (defArgs sf_check_request) (defBody sf_check_request) (defScope sf_check_request) .none .none .none (.str "viewlease.memory" 1464) none (.ref 957) .none
theorem scf_check_request : FnScope ["buffer", "flags", "in_rows", "in_columns"] ["buffer", "flags"] (defScope sf_check_request) := ⟨rfl, rfl, rfl, by decide +kernel, rfl, by decide +kernel, by decide +kernel⟩
theorem stf_check_request (x0 x1 : V) : L2.start ["buffer", "flags", "in_rows", "in_columns"] [x0, x1] = [some x0, some x1, none, none] := rfl
theorem Ff_check_request (P : Params) : Fun (K P) "check_request" "check_request" sf_check_request 958 fdf_check_request := fun_mk (oc := .type "function") (od := none) (osl := #[]) (by kernel_rfl) (by kernel_rfl) (by kernel_rfl)
theorem bf_check_request (P : Params) : Binds (K P) fdf_check_request ["buffer", "flags"] [] := (Ff_check_request P).binds fun _ _ _ _ _ _ us hl => match us, hl with | [_, _], _ => rfl
abbrev af_seen : Addr := 965
abbrev fdf_seen : FuncData := PySem.W.fnOf "seen" "seen" (defArgs sf_seen) (defBody sf_seen) (defScope sf_seen) .none .none .none (.str "viewlease.memory" 1464) none (.ref 964) .none
theorem scf_seen : FnScope ["buffer", "flags", "kind"] ["buffer", "flags"] (defScope sf_seen) := ⟨rfl, rfl, rfl, by decide +kernel, rfl, by decide +kernel, by decide +kernel⟩
theorem stf_seen (x0 x1 : V) : L2.start ["buffer", "flags", "kind"] [x0, x1] = [some x0, some x1, none] := rfl
theorem Ff_seen (P : Params) : Fun (K P) "seen" "seen" sf_seen 965 fdf_seen := fun_mk (oc := .type "function") (od := none) (osl := #[]) (by kernel_rfl) (by kernel_rfl) (by kernel_rfl)
theorem bf_seen (P : Params) : Binds (K P) fdf_seen ["buffer", "flags"] [] := (Ff_seen P).binds fun _ _ _ _ _ _ us hl => match us, hl with | [_, _], _ => rfl
abbrev af_gathered : Addr := 970
abbrev fdf_gathered : FuncData := PySem.W.fnOf "gathered" "gathered" (defArgs sf_gathered) (defBody sf_gathered) (defScope sf_gathered) .none .none .none (.str "viewlease.memory" 1464) none (.ref 969) .none
theorem scf_gathered : FnScope ["memory", "places", "width", "place", "k"] ["memory", "places", "width"] (defScope sf_gathered) := ⟨rfl, rfl, rfl, by decide +kernel, rfl, by decide +kernel, by decide +kernel⟩
theorem stf_gathered (x0 x1 x2 : V) : L2.start ["memory", "places", "width", "place", "k"] [x0, x1, x2] = [some x0, some x1, some x2, none, none] := rfl
theorem Ff_gathered (P : Params) : Fun (K P) "gathered" "gathered" sf_gathered 970 fdf_gathered := fun_mk (oc := .type "function") (od := none) (osl := #[]) (by kernel_rfl) (by kernel_rfl) (by kernel_rfl)
theorem bf_gathered (P : Params) : Binds (K P) fdf_gathered ["memory", "places", "width"] [] := (Ff_gathered P).binds fun _ _ _ _ _ _ us hl => match us, hl with | [_, _, _], _ => rfl
abbrev af_bytes_in : Addr := 977
abbrev fdf_bytes_in : FuncData := PySem.W.fnOf "bytes_in" "bytes_in" (defArgs sf_bytes_in) (defBody sf_bytes_in) (defScope sf_bytes_in) .none .none .none (.str "viewlease.memory" 1464) none (.ref 976) .none
theorem scf_bytes_in : FnScope ["buffer", "places"] ["buffer"] (defScope sf_bytes_in) := ⟨rfl, rfl, rfl, by decide +kernel, rfl, by decide +kernel, by decide +kernel⟩
theorem stf_bytes_in (x0 : V) : L2.start ["buffer", "places"] [x0] = [some x0, none] := rfl
theorem Ff_bytes_in (P : Params) : Fun (K P) "bytes_in" "bytes_in" sf_bytes_in 977 fdf_bytes_in := fun_mk (oc := .type "function") (od := none) (osl := #[]) (by kernel_rfl) (by kernel_rfl) (by kernel_rfl)
theorem bf_bytes_in (P : Params) : Binds (K P) fdf_bytes_in ["buffer"] [] := (Ff_bytes_in P).binds fun _ _ _ _ _ _ us hl => match us, hl with | [_], _ => rfl
abbrev af_whole_bytes : Addr := 984
abbrev fdf_whole_bytes : FuncData := PySem.W.fnOf "whole_bytes" "whole_bytes" (defArgs sf_whole_bytes) (defBody sf_whole_bytes) (defScope sf_whole_bytes) .none .none .none (.str "viewlease.memory" 1464) none (.ref 983) .none
theorem scf_whole_bytes : FnScope ["holder", "buffer", "found"] ["holder"] (defScope sf_whole_bytes) := ⟨rfl, rfl, rfl, by decide +kernel, rfl, by decide +kernel, by decide +kernel⟩
theorem stf_whole_bytes (x0 : V) : L2.start ["holder", "buffer", "found"] [x0] = [some x0, none, none] := rfl
theorem Ff_whole_bytes (P : Params) : Fun (K P) "whole_bytes" "whole_bytes" sf_whole_bytes 984 fdf_whole_bytes := fun_mk (oc := .type "function") (od := none) (osl := #[]) (by kernel_rfl) (by kernel_rfl) (by kernel_rfl)
theorem bf_whole_bytes (P : Params) : Binds (K P) fdf_whole_bytes ["holder"] [] := (Ff_whole_bytes P).binds fun _ _ _ _ _ _ us hl => match us, hl with | [_], _ => rfl
abbrev af_ordered_bytes : Addr := 998
abbrev fdf_ordered_bytes : FuncData := PySem.W.fnOf "ordered_bytes" "ordered_bytes" (defArgs sf_ordered_bytes) (defBody sf_ordered_bytes) (defScope sf_ordered_bytes) .none .none .none (.str "viewlease.copies" 1630) none (.ref 997) .none
theorem scf_ordered_bytes : FnScope ["view", "order", "sizes", "steps", "width"] ["view", "order"] (defScope sf_ordered_bytes) := ⟨rfl, rfl, rfl, by decide +kernel, rfl, by decide +kernel, by decide +kernel⟩
theorem stf_ordered_bytes (x0 x1 : V) : L2.start ["view", "order", "sizes", "steps", "width"] [x0, x1] = [some x0, some x1, none, none, none] := rfl
theorem Ff_ordered_bytes (P : Params) : Fun (K P) "ordered_bytes" "ordered_bytes" sf_ordered_bytes 998 fdf_ordered_bytes := fun_mk (oc := .type "function") (od := none) (osl := #[]) (by kernel_rfl) (by kernel_rfl) (by kernel_rfl)
theorem bf_ordered_bytes (P : Params) : Binds (K P) fdf_ordered_bytes ["view", "order"] [] := (Ff_ordered_bytes P).binds fun _ _ _ _ _ _ us hl => match us, hl with | [_, _], _ => rfl
abbrev af_item_at : Addr := 1005
abbrev fdf_item_at : FuncData := PySem.W.fnOf "item_at" "item_at" (defArgs sf_item_at) (defBody sf_item_at) (defScope sf_item_at) .none .none .none (.str "viewlease.copies" 1630) none (.ref 1004) .none
theorem scf_item_at : FnScope ["memory", "place", "kind"] ["memory", "place", "kind"] (defScope sf_item_at) := ⟨rfl, rfl, rfl, by decide +kernel, rfl, by decide +kernel, by decide +kernel⟩
theorem stf_item_at (x0 x1 x2 : V) : L2.start ["memory", "place", "kind"] [x0, x1, x2] = [some x0, some x1, some x2] := rfl
theorem Ff_item_at (P : Params) : Fun (K P) "item_at" "item_at" sf_item_at 1005 fdf_item_at := fun_mk (oc := .type "function") (od := none) (osl := #[]) (by kernel_rfl) (by kernel_rfl) (by kernel_rfl)
theorem bf_item_at (P : Params) : Binds (K P) fdf_item_at ["memory", "place", "kind"] [] := (Ff_item_at P).binds fun _ _ _ _ _ _ us hl => match us, hl with | [_, _, _], _ => rfl
abbrev af_write_at : Addr := 1012
abbrev fdf_write_at : FuncData := PySem.W.fnOf "write_at" "write_at" (defArgs sf_write_at) (defBody sf_write_at) (defScope sf_write_at) .none .none .none (.str "viewlease.copies" 1630) none (.ref 1011) .none
theorem scf_write_at : FnScope ["memory", "place", "row", "k", "byte"] ["memory", "place", "row"] (defScope sf_write_at) := ⟨rfl, rfl, rfl, by decide +kernel, rfl, by decide +kernel, by decide +kernel⟩
theorem stf_write_at (x0 x1 x2 : V) : L2.start ["memory", "place", "row", "k", "byte"] [x0, x1, x2] = [some x0, some x1, some x2, none, none] := rfl
theorem Ff_write_at (P : Params) : Fun (K P) "write_at" "write_at" sf_write_at 1012 fdf_write_at := fun_mk (oc := .type "function") (od := none) (osl := #[]) (by kernel_rfl) (by kernel_rfl) (by kernel_rfl)
theorem bf_write_at (P : Params) : Binds (K P) fdf_write_at ["memory", "place", "row"] [] := (Ff_write_at P).binds fun _ _ _ _ _ _ us hl => match us, hl with | [_, _, _], _ => rfl
abbrev af_nested_items : Addr := 1017
abbrev fdf_nested_items : FuncData := PySem.W.fnOf "nested_items" "nested_items" (defArgs sf_nested_items) (defBody sf_nested_items) (defScope sf_nested_items) .none .none .none (.str "viewlease.copies" 1630) none (.ref 1016) .none
theorem scf_nested_items : FnScope ["memory", "place", "kind", "sizes", "steps", "k"] ["memory", "place", "kind", "sizes", "steps"] (defScope sf_nested_items) := ⟨rfl, rfl, rfl, by decide +kernel, rfl, by decide +kernel, by decide +kernel⟩
theorem stf_nested_items (x0 x1 x2 x3 x4 : V) : L2.start ["memory", "place", "kind", "sizes", "steps", "k"] [x0, x1, x2, x3, x4] = [some x0, some x1, some x2, some x3, some x4, none] := rfl
theorem Ff_nested_items (P : Params) : Fun (K P) "nested_items" "nested_items" sf_nested_items 1017 fdf_nested_items := fun_mk (oc := .type "function") (od := none) (osl := #[]) (by kernel_rfl) (by kernel_rfl) (by kernel_rfl)
theorem bf_nested_items (P : Params) : Binds (K P) fdf_nested_items ["memory", "place", "kind", "sizes", "steps"] [] := (Ff_nested_items P).binds fun _ _ _ _ _ _ us hl => match us, hl with | [_, _, _, _, _], _ => rfl
abbrev af_item_rows : Addr := 1022
abbrev fdf_item_rows : FuncData := PySem.W.fnOf "item_rows" "item_rows" (defArgs sf_item_rows) (defBody sf_item_rows) (defScope sf_item_rows) .none .none .none (.str "viewlease.copies" 1630) none (.ref 1021) .none
theorem scf_item_rows : FnScope ["buffer", "places", "place"] ["buffer"] (defScope sf_item_rows) := ⟨rfl, rfl, rfl, by decide +kernel, rfl, by decide +kernel, by decide +kernel⟩
theorem stf_item_rows (x0 : V) : L2.start ["buffer", "places", "place"] [x0] = [some x0, none, none] := rfl
theorem Ff_item_rows (P : Params) : Fun (K P) "item_rows" "item_rows" sf_item_rows 1022 fdf_item_rows := fun_mk (oc := .type "function") (od := none) (osl := #[]) (by kernel_rfl) (by kernel_rfl) (by kernel_rfl)
theorem bf_item_rows (P : Params) : Binds (K P) fdf_item_rows ["buffer"] [] := (Ff_item_rows P).binds fun _ _ _ _ _ _ us hl => match us, hl with | [_], _ => rfl
abbrev af_write_rows : Addr := 1029
abbrev fdf_write_rows : FuncData := PySem.W.fnOf "write_rows" "write_rows" (defArgs sf_write_rows) (defBody sf_write_rows) (defScope sf_write_rows) .none .none .none (.str "viewlease.copies" 1630) none (.ref 1028) .none
theorem scf_write_rows : FnScope ["memory", "places", "rows", "place", "row"] ["memory", "places", "rows"] (defScope sf_write_rows) := ⟨rfl, rfl, rfl, by decide +kernel, rfl, by decide +kernel, by decide +kernel⟩
theorem stf_write_rows (x0 x1 x2 : V) : L2.start ["memory", "places", "rows", "place", "row"] [x0, x1, x2] = [some x0, some x1, some x2, none, none] := rfl
theorem Ff_write_rows (P : Params) : Fun (K P) "write_rows" "write_rows" sf_write_rows 1029 fdf_write_rows := fun_mk (oc := .type "function") (od := none) (osl := #[]) (by kernel_rfl) (by kernel_rfl) (by kernel_rfl)
theorem bf_write_rows (P : Params) : Binds (K P) fdf_write_rows ["memory", "places", "rows"] [] := (Ff_write_rows P).binds fun _ _ _ _ _ _ us hl => match us, hl with | [_, _, _], _ => rfl
abbrev af_bounded : Addr := 1036
abbrev fdf_bounded : FuncData := PySem.W.fnOf "bounded" "bounded" (defArgs sf_bounded) (defBody sf_bounded) (defScope sf_bounded) .none .none .none (.str "viewlease.cuts" 1686) none (.ref 1035) .none
theorem scf_bounded : FnScope ["part", "size", "least", "greatest", "at"] ["part", "size", "least", "greatest"] (defScope sf_bounded) := ⟨rfl, rfl, rfl, by decide +kernel, rfl, by decide +kernel, by decide +kernel⟩
theorem stf_bounded (x0 x1 x2 x3 : V) : L2.start ["part", "size", "least", "greatest", "at"] [x0, x1, x2, x3] = [some x0, some x1, some x2, some x3, none] := rfl
theorem Ff_bounded (P : Params) : Fun (K P) "bounded" "bounded" sf_bounded 1036 fdf_bounded := fun_mk (oc := .type "function") (od := none) (osl := #[]) (by kernel_rfl) (by kernel_rfl) (by kernel_rfl)
theorem bf_bounded (P : Params) : Binds (K P) fdf_bounded ["part", "size", "least", "greatest"] [] := (Ff_bounded P).binds fun _ _ _ _ _ _ us hl => match us, hl with | [_, _, _, _], _ => rfl
abbrev af_cut_of : Addr := 1041
abbrev fdf_cut_of : FuncData := PySem.W.fnOf "cut_of" "cut_of" (defArgs sf_cut_of) (defBody sf_cut_of) (defScope sf_cut_of) .none .none .none (.str "viewlease.cuts" 1686) none (.ref 1040) .none
theorem scf_cut_of : FnScope ["cut", "size", "step", "least", "greatest", "start", "stop", "many", "part"] ["cut", "size"] (defScope sf_cut_of) := ⟨rfl, rfl, rfl, by decide +kernel, rfl, by decide +kernel, by decide +kernel⟩
theorem stf_cut_of (x0 x1 : V) : L2.start ["cut", "size", "step", "least", "greatest", "start", "stop", "many", "part"] [x0, x1] = [some x0, some x1, none, none, none, none, none, none, none] := rfl
theorem Ff_cut_of (P : Params) : Fun (K P) "cut_of" "cut_of" sf_cut_of 1041 fdf_cut_of := fun_mk (oc := .type "function") (od := none) (osl := #[]) (by kernel_rfl) (by kernel_rfl) (by kernel_rfl)
theorem bf_cut_of (P : Params) : Binds (K P) fdf_cut_of ["cut", "size"] [] := (Ff_cut_of P).binds fun _ _ _ _ _ _ us hl => match us, hl with | [_, _], _ => rfl
abbrev af_cut_places : Addr := 1046
abbrev fdf_cut_places : FuncData := PySem.W.fnOf "cut_places" "cut_places" (defArgs sf_cut_places) (defBody sf_cut_places) (defScope sf_cut_places) .none .none .none (.str "viewlease.cuts" 1686) none (.ref 1045) .none
theorem scf_cut_places : FnScope ["cut", "size", "start", "many", "step", "k"] ["cut", "size"] (defScope sf_cut_places) := ⟨rfl, rfl, rfl, by decide +kernel, rfl, by decide +kernel, by decide +kernel⟩
theorem stf_cut_places (x0 x1 : V) : L2.start ["cut", "size", "start", "many", "step", "k"] [x0, x1] = [some x0, some x1, none, none, none, none] := rfl
theorem Ff_cut_places (P : Params) : Fun (K P) "cut_places" "cut_places" sf_cut_places 1046 fdf_cut_places := fun_mk (oc := .type "function") (od := none) (osl := #[]) (by kernel_rfl) (by kernel_rfl) (by kernel_rfl)
theorem bf_cut_places (P : Params) : Binds (K P) fdf_cut_places ["cut", "size"] [] := (Ff_cut_places P).binds fun _ _ _ _ _ _ us hl => match us, hl with | [_, _], _ => rfl
abbrev af_key_kind : Addr := 1094
abbrev fdf_key_kind : FuncData := PySem.W.fnOf "key_kind" "key_kind" (defArgs sf_key_kind) (defBody sf_key_kind) (defScope sf_key_kind) .none .none .none (.str "viewlease.keys" 1719) none (.ref 1093) .none
theorem scf_key_kind : FnScope ["key", "part"] ["key"] (defScope sf_key_kind) := ⟨rfl, rfl, rfl, by decide +kernel, rfl, by decide +kernel, by decide +kernel⟩
theorem stf_key_kind (x0 : V) : L2.start ["key", "part"] [x0] = [some x0, none] := rfl
theorem Ff_key_kind (P : Params) : Fun (K P) "key_kind" "key_kind" sf_key_kind 1094 fdf_key_kind := fun_mk (oc := .type "function") (od := none) (osl := #[]) (by kernel_rfl) (by kernel_rfl) (by kernel_rfl)
theorem bf_key_kind (P : Params) : Binds (K P) fdf_key_kind ["key"] [] := (Ff_key_kind P).binds fun _ _ _ _ _ _ us hl => match us, hl with | [_], _ => rfl
abbrev af_asked : Addr := 1129
abbrev fdf_asked : FuncData := PySem.W.fnOf "asked" "asked" (defArgs sf_asked) (defBody sf_asked) (defScope sf_asked) .none .none .none (.str "viewlease.views" 1790) none (.ref 1128) .none
theorem scf_asked : FnScope ["holder", "flags", "buffer", "kind", "sizes", "steps"] ["holder", "flags"] (defScope sf_asked) := ⟨rfl, rfl, rfl, by decide +kernel, rfl, by decide +kernel, by decide +kernel⟩
theorem stf_asked (x0 x1 : V) : L2.start ["holder", "flags", "buffer", "kind", "sizes", "steps"] [x0, x1] = [some x0, some x1, none, none, none, none] := rfl
theorem Ff_asked (P : Params) : Fun (K P) "asked" "asked" sf_asked 1129 fdf_asked := fun_mk (oc := .type "function") (od := none) (osl := #[]) (by kernel_rfl) (by kernel_rfl) (by kernel_rfl)
theorem bf_asked (P : Params) : Binds (K P) fdf_asked ["holder", "flags"] [] := (Ff_asked P).binds fun _ _ _ _ _ _ us hl => match us, hl with | [_, _], _ => rfl
abbrev af_checked_byte : Addr := 1425
abbrev fdf_checked_byte : FuncData := PySem.W.fnOf "checked_byte" "checked_byte" (defArgs sf_checked_byte) (defBody sf_checked_byte) (defScope sf_checked_byte) .none .none .none (.str "viewlease.bytearrays" 2192) none (.ref 1424) .none
theorem scf_checked_byte : FnScope ["thing"] ["thing"] (defScope sf_checked_byte) := ⟨rfl, rfl, rfl, by decide +kernel, rfl, by decide +kernel, by decide +kernel⟩
theorem stf_checked_byte (x0 : V) : L2.start ["thing"] [x0] = [some x0] := rfl
theorem Ff_checked_byte (P : Params) : Fun (K P) "checked_byte" "checked_byte" sf_checked_byte 1425 fdf_checked_byte := fun_mk (oc := .type "function") (od := none) (osl := #[]) (by kernel_rfl) (by kernel_rfl) (by kernel_rfl)
theorem bf_checked_byte (P : Params) : Binds (K P) fdf_checked_byte ["thing"] [] := (Ff_checked_byte P).binds fun _ _ _ _ _ _ us hl => match us, hl with | [_], _ => rfl
abbrev af_bytes_of_row : Addr := 1430
abbrev fdf_bytes_of_row : FuncData := PySem.W.fnOf "bytes_of_row" "bytes_of_row" (defArgs sf_bytes_of_row) (defBody sf_bytes_of_row) (defScope sf_bytes_of_row) .none .none .none (.str "viewlease.bytearrays" 2192) none (.ref 1429) .none
theorem scf_bytes_of_row : FnScope ["row", "thing"] ["row"] (defScope sf_bytes_of_row) := ⟨rfl, rfl, rfl, by decide +kernel, rfl, by decide +kernel, by decide +kernel⟩
theorem stf_bytes_of_row (x0 : V) : L2.start ["row", "thing"] [x0] = [some x0, none] := rfl
theorem Ff_bytes_of_row (P : Params) : Fun (K P) "bytes_of_row" "bytes_of_row" sf_bytes_of_row 1430 fdf_bytes_of_row := fun_mk (oc := .type "function") (od := none) (osl := #[]) (by kernel_rfl) (by kernel_rfl) (by kernel_rfl)
theorem bf_bytes_of_row (P : Params) : Binds (K P) fdf_bytes_of_row ["row"] [] := (Ff_bytes_of_row P).binds fun _ _ _ _ _ _ us hl => match us, hl with | [_], _ => rfl
abbrev af_bytes_given : Addr := 1437
abbrev fdf_bytes_given : FuncData := PySem.W.fnOf "bytes_given" "bytes_given" (defArgs sf_bytes_given) (defBody sf_bytes_given) (defScope sf_bytes_given) .none .none .none (.str "viewlease.bytearrays" 2192) none (.ref 1436) .none
theorem scf_bytes_given : FnScope ["thing"] ["thing"] (defScope sf_bytes_given) := ⟨rfl, rfl, rfl, by decide +kernel, rfl, by decide +kernel, by decide +kernel⟩
theorem stf_bytes_given (x0 : V) : L2.start ["thing"] [x0] = [some x0] := rfl
theorem Ff_bytes_given (P : Params) : Fun (K P) "bytes_given" "bytes_given" sf_bytes_given 1437 fdf_bytes_given := fun_mk (oc := .type "function") (od := none) (osl := #[]) (by kernel_rfl) (by kernel_rfl) (by kernel_rfl)
theorem bf_bytes_given (P : Params) : Binds (K P) fdf_bytes_given ["thing"] [] := (Ff_bytes_given P).binds fun _ _ _ _ _ _ us hl => match us, hl with | [_], _ => rfl
abbrev af_l_places : Addr := 1653
abbrev fdf_l_places : FuncData := PySem.W.fnOf "_law_places" "_law_places" (defArgs sf_l_places) (defBody sf_l_places) (defScope sf_l_places) .none .none .none (.str "law_viewlease_k43_whole_cuts_onto_themselves" 2473) none (.ref 1652) .none
theorem scf_l_places : FnScope ["_law_place", "_law_shape", "_law_steps", "_law_found", "_law_size", "_law_step", "_law_wide", "_law_at", "_law_k"] ["_law_place", "_law_shape", "_law_steps"] (defScope sf_l_places) := ⟨rfl, rfl, rfl, by decide +kernel, rfl, by decide +kernel, by decide +kernel⟩
theorem stf_l_places (x0 x1 x2 : V) : L2.start ["_law_place", "_law_shape", "_law_steps", "_law_found", "_law_size", "_law_step", "_law_wide", "_law_at", "_law_k"] [x0, x1, x2] = [some x0, some x1, some x2, none, none, none, none, none, none] := rfl
theorem Ff_l_places (P : Params) : Fun (K P) "_law_places" "_law_places" sf_l_places 1653 fdf_l_places := fun_mk (oc := .type "function") (od := none) (osl := #[]) (by kernel_rfl) (by kernel_rfl) (by kernel_rfl)
theorem bf_l_places (P : Params) : Binds (K P) fdf_l_places ["_law_place", "_law_shape", "_law_steps"] [] := (Ff_l_places P).binds fun _ _ _ _ _ _ us hl => match us, hl with | [_, _, _], _ => rfl
abbrev af_l_v_sizes : Addr := 1660
abbrev fdf_l_v_sizes : FuncData := PySem.W.fnOf "_law_v_sizes" "_law_v_sizes" (defArgs sf_l_v_sizes) (defBody sf_l_v_sizes) (defScope sf_l_v_sizes) .none .none .none (.str "law_viewlease_k43_whole_cuts_onto_themselves" 2473) none (.ref 1659) .none
theorem scf_l_v_sizes : FnScope ["_law_order", "_law_native", "_law_found", "_law_some", "_law_size", "_law_codes", "_law_code"] ["_law_order"] (defScope sf_l_v_sizes) := ⟨rfl, rfl, rfl, by decide +kernel, rfl, by decide +kernel, by decide +kernel⟩
theorem stf_l_v_sizes (x0 : V) : L2.start ["_law_order", "_law_native", "_law_found", "_law_some", "_law_size", "_law_codes", "_law_code"] [x0] = [some x0, none, none, none, none, none, none] := rfl
theorem Ff_l_v_sizes (P : Params) : Fun (K P) "_law_v_sizes" "_law_v_sizes" sf_l_v_sizes 1660 fdf_l_v_sizes := fun_mk (oc := .type "function") (od := none) (osl := #[]) (by kernel_rfl) (by kernel_rfl) (by kernel_rfl)
theorem bf_l_v_sizes (P : Params) : Binds (K P) fdf_l_v_sizes ["_law_order"] [] := (Ff_l_v_sizes P).binds fun _ _ _ _ _ _ us hl => match us, hl with | [_], _ => rfl
abbrev af_l_v_number : Addr := 1665
abbrev fdf_l_v_number : FuncData := PySem.W.fnOf "_law_v_number" "_law_v_number" (defArgs sf_l_v_number) (defBody sf_l_v_number) (defScope sf_l_v_number) .none .none .none (.str "law_viewlease_k43_whole_cuts_onto_themselves" 2473) none (.ref 1664) .none
theorem scf_l_v_number : FnScope ["_law_row", "_law_great", "_law_k", "_law_byte"] ["_law_row", "_law_great"] (defScope sf_l_v_number) := ⟨rfl, rfl, rfl, by decide +kernel, rfl, by decide +kernel, by decide +kernel⟩
theorem stf_l_v_number (x0 x1 : V) : L2.start ["_law_row", "_law_great", "_law_k", "_law_byte"] [x0, x1] = [some x0, some x1, none, none] := rfl
theorem Ff_l_v_number (P : Params) : Fun (K P) "_law_v_number" "_law_v_number" sf_l_v_number 1665 fdf_l_v_number := fun_mk (oc := .type "function") (od := none) (osl := #[]) (by kernel_rfl) (by kernel_rfl) (by kernel_rfl)
theorem bf_l_v_number (P : Params) : Binds (K P) fdf_l_v_number ["_law_row", "_law_great"] [] := (Ff_l_v_number P).binds fun _ _ _ _ _ _ us hl => match us, hl with | [_, _], _ => rfl
abbrev af_l_v_read_value : Addr := 1700
abbrev fdf_l_v_read_value : FuncData := PySem.W.fnOf "_law_v_read_value" "_law_v_read_value" (defArgs sf_l_v_read_value) (defBody sf_l_v_read_value) (defScope sf_l_v_read_value) .none .none .none (.str "law_viewlease_k43_whole_cuts_onto_themselves" 2473) none (.ref 1699) .none
theorem scf_l_v_read_value : FnScope ["_law_code", "_law_row", "_law_great", "_law_number", "_law_whole"] ["_law_code", "_law_row", "_law_great"] (defScope sf_l_v_read_value) := ⟨rfl, rfl, rfl, by decide +kernel, rfl, by decide +kernel, by decide +kernel⟩
theorem stf_l_v_read_value (x0 x1 x2 : V) : L2.start ["_law_code", "_law_row", "_law_great", "_law_number", "_law_whole"] [x0, x1, x2] = [some x0, some x1, some x2, none, none] := rfl
theorem Ff_l_v_read_value (P : Params) : Fun (K P) "_law_v_read_value" "_law_v_read_value" sf_l_v_read_value 1700 fdf_l_v_read_value := fun_mk (oc := .type "function") (od := none) (osl := #[]) (by kernel_rfl) (by kernel_rfl) (by kernel_rfl)
theorem bf_l_v_read_value (P : Params) : Binds (K P) fdf_l_v_read_value ["_law_code", "_law_row", "_law_great"] [] := (Ff_l_v_read_value P).binds fun _ _ _ _ _ _ us hl => match us, hl with | [_, _, _], _ => rfl
abbrev af_l_w_is_native : Addr := 1707
abbrev fdf_l_w_is_native : FuncData := PySem.W.fnOf "_law_w_is_native" "_law_w_is_native" (defArgs sf_l_w_is_native) (defBody sf_l_w_is_native) (defScope sf_l_w_is_native) .none .none .none (.str "law_viewlease_k43_whole_cuts_onto_themselves" 2473) none (.ref 1706) .none
theorem scf_l_w_is_native : FnScope ["_law_kind"] ["_law_kind"] (defScope sf_l_w_is_native) := ⟨rfl, rfl, rfl, by decide +kernel, rfl, by decide +kernel, by decide +kernel⟩
theorem stf_l_w_is_native (x0 : V) : L2.start ["_law_kind"] [x0] = [some x0] := rfl
theorem Ff_l_w_is_native (P : Params) : Fun (K P) "_law_w_is_native" "_law_w_is_native" sf_l_w_is_native 1707 fdf_l_w_is_native := fun_mk (oc := .type "function") (od := none) (osl := #[]) (by kernel_rfl) (by kernel_rfl) (by kernel_rfl)
theorem bf_l_w_is_native (P : Params) : Binds (K P) fdf_l_w_is_native ["_law_kind"] [] := (Ff_l_w_is_native P).binds fun _ _ _ _ _ _ us hl => match us, hl with | [_], _ => rfl
abbrev af_l_w_size : Addr := 1714
abbrev fdf_l_w_size : FuncData := PySem.W.fnOf "_law_w_size" "_law_w_size" (defArgs sf_l_w_size) (defBody sf_l_w_size) (defScope sf_l_w_size) .none .none .none (.str "law_viewlease_k43_whole_cuts_onto_themselves" 2473) none (.ref 1713) .none
theorem scf_l_w_size : FnScope ["_law_kind"] ["_law_kind"] (defScope sf_l_w_size) := ⟨rfl, rfl, rfl, by decide +kernel, rfl, by decide +kernel, by decide +kernel⟩
theorem stf_l_w_size (x0 : V) : L2.start ["_law_kind"] [x0] = [some x0] := rfl
theorem Ff_l_w_size (P : Params) : Fun (K P) "_law_w_size" "_law_w_size" sf_l_w_size 1714 fdf_l_w_size := fun_mk (oc := .type "function") (od := none) (osl := #[]) (by kernel_rfl) (by kernel_rfl) (by kernel_rfl)
theorem bf_l_w_size (P : Params) : Binds (K P) fdf_l_w_size ["_law_kind"] [] := (Ff_l_w_size P).binds fun _ _ _ _ _ _ us hl => match us, hl with | [_], _ => rfl
abbrev af_l_w_at : Addr := 1721
abbrev fdf_l_w_at : FuncData := PySem.W.fnOf "_law_w_at" "_law_w_at" (defArgs sf_l_w_at) (defBody sf_l_w_at) (defScope sf_l_w_at) .none .none .none (.str "law_viewlease_k43_whole_cuts_onto_themselves" 2473) none (.ref 1720) .none
theorem scf_l_w_at : FnScope ["_law_m", "_law_place"] ["_law_m", "_law_place"] (defScope sf_l_w_at) := ⟨rfl, rfl, rfl, by decide +kernel, rfl, by decide +kernel, by decide +kernel⟩
theorem stf_l_w_at (x0 x1 : V) : L2.start ["_law_m", "_law_place"] [x0, x1] = [some x0, some x1] := rfl
theorem Ff_l_w_at (P : Params) : Fun (K P) "_law_w_at" "_law_w_at" sf_l_w_at 1721 fdf_l_w_at := fun_mk (oc := .type "function") (od := none) (osl := #[]) (by kernel_rfl) (by kernel_rfl) (by kernel_rfl)
theorem bf_l_w_at (P : Params) : Binds (K P) fdf_l_w_at ["_law_m", "_law_place"] [] := (Ff_l_w_at P).binds fun _ _ _ _ _ _ us hl => match us, hl with | [_, _], _ => rfl
abbrev af_l_w_nested : Addr := 1726
abbrev fdf_l_w_nested : FuncData := PySem.W.fnOf "_law_w_nested" "_law_w_nested" (defArgs sf_l_w_nested) (defBody sf_l_w_nested) (defScope sf_l_w_nested) .none .none .none (.str "law_viewlease_k43_whole_cuts_onto_themselves" 2473) none (.ref 1725) .none
theorem scf_l_w_nested : FnScope ["_law_m", "_law_place", "_law_k", "_law_j"] ["_law_m", "_law_place", "_law_k"] (defScope sf_l_w_nested) := ⟨rfl, rfl, rfl, by decide +kernel, rfl, by decide +kernel, by decide +kernel⟩
theorem stf_l_w_nested (x0 x1 x2 : V) : L2.start ["_law_m", "_law_place", "_law_k", "_law_j"] [x0, x1, x2] = [some x0, some x1, some x2, none] := rfl
theorem Ff_l_w_nested (P : Params) : Fun (K P) "_law_w_nested" "_law_w_nested" sf_l_w_nested 1726 fdf_l_w_nested := fun_mk (oc := .type "function") (od := none) (osl := #[]) (by kernel_rfl) (by kernel_rfl) (by kernel_rfl)
theorem bf_l_w_nested (P : Params) : Binds (K P) fdf_l_w_nested ["_law_m", "_law_place", "_law_k"] [] := (Ff_l_w_nested P).binds fun _ _ _ _ _ _ us hl => match us, hl with | [_, _, _], _ => rfl
abbrev af_l_w_bytes : Addr := 1733
abbrev fdf_l_w_bytes : FuncData := PySem.W.fnOf "_law_w_bytes" "_law_w_bytes" (defArgs sf_l_w_bytes) (defBody sf_l_w_bytes) (defScope sf_l_w_bytes) .none .none .none (.str "law_viewlease_k43_whole_cuts_onto_themselves" 2473) none (.ref 1732) .none
theorem scf_l_w_bytes : FnScope ["_law_m", "_law_is_first", "_law_shape", "_law_steps", "_law_found", "_law_place"] ["_law_m", "_law_is_first"] (defScope sf_l_w_bytes) := ⟨rfl, rfl, rfl, by decide +kernel, rfl, by decide +kernel, by decide +kernel⟩
theorem stf_l_w_bytes (x0 x1 : V) : L2.start ["_law_m", "_law_is_first", "_law_shape", "_law_steps", "_law_found", "_law_place"] [x0, x1] = [some x0, some x1, none, none, none, none] := rfl
theorem Ff_l_w_bytes (P : Params) : Fun (K P) "_law_w_bytes" "_law_w_bytes" sf_l_w_bytes 1733 fdf_l_w_bytes := fun_mk (oc := .type "function") (od := none) (osl := #[]) (by kernel_rfl) (by kernel_rfl) (by kernel_rfl)
theorem bf_l_w_bytes (P : Params) : Binds (K P) fdf_l_w_bytes ["_law_m", "_law_is_first"] [] := (Ff_l_w_bytes P).binds fun _ _ _ _ _ _ us hl => match us, hl with | [_, _], _ => rfl
abbrev af_l_w_cut : Addr := 1740
abbrev fdf_l_w_cut : FuncData := PySem.W.fnOf "_law_w_cut" "_law_w_cut" (defArgs sf_l_w_cut) (defBody sf_l_w_cut) (defScope sf_l_w_cut) .none .none .none (.str "law_viewlease_k43_whole_cuts_onto_themselves" 2473) none (.ref 1739) .none
theorem scf_l_w_cut : FnScope ["_law_m", "_law_cut_here", "_law_places_here", "_law_step", "_law_found"] ["_law_m", "_law_cut_here"] (defScope sf_l_w_cut) := ⟨rfl, rfl, rfl, by decide +kernel, rfl, by decide +kernel, by decide +kernel⟩
theorem stf_l_w_cut (x0 x1 : V) : L2.start ["_law_m", "_law_cut_here", "_law_places_here", "_law_step", "_law_found"] [x0, x1] = [some x0, some x1, none, none, none] := rfl
theorem Ff_l_w_cut (P : Params) : Fun (K P) "_law_w_cut" "_law_w_cut" sf_l_w_cut 1740 fdf_l_w_cut := fun_mk (oc := .type "function") (od := none) (osl := #[]) (by kernel_rfl) (by kernel_rfl) (by kernel_rfl)
theorem bf_l_w_cut (P : Params) : Binds (K P) fdf_l_w_cut ["_law_m", "_law_cut_here"] [] := (Ff_l_w_cut P).binds fun _ _ _ _ _ _ us hl => match us, hl with | [_, _], _ => rfl
abbrev af_l_w_model : Addr := 1747
abbrev fdf_l_w_model : FuncData := PySem.W.fnOf "_law_w_model" "_law_w_model" (defArgs sf_l_w_model) (defBody sf_l_w_model) (defScope sf_l_w_model) .none .none .none (.str "law_viewlease_k43_whole_cuts_onto_themselves" 2473) none (.ref 1746) .none
theorem scf_l_w_model : FnScope ["_law_data", "_law_kind", "_law_width", "_law_shape", "_law_steps", "_law_place", "_law_is_fixed"] ["_law_data", "_law_kind", "_law_width", "_law_shape", "_law_steps", "_law_place", "_law_is_fixed"] (defScope sf_l_w_model) := ⟨rfl, rfl, rfl, by decide +kernel, rfl, by decide +kernel, by decide +kernel⟩
theorem stf_l_w_model (x0 x1 x2 x3 x4 x5 x6 : V) : L2.start ["_law_data", "_law_kind", "_law_width", "_law_shape", "_law_steps", "_law_place", "_law_is_fixed"] [x0, x1, x2, x3, x4, x5, x6] = [some x0, some x1, some x2, some x3, some x4, some x5, some x6] := rfl
theorem Ff_l_w_model (P : Params) : Fun (K P) "_law_w_model" "_law_w_model" sf_l_w_model 1747 fdf_l_w_model := fun_mk (oc := .type "function") (od := none) (osl := #[]) (by kernel_rfl) (by kernel_rfl) (by kernel_rfl)
theorem bf_l_w_model (P : Params) : Binds (K P) fdf_l_w_model ["_law_data", "_law_kind", "_law_width", "_law_shape", "_law_steps", "_law_place", "_law_is_fixed"] [] := (Ff_l_w_model P).binds fun _ _ _ _ _ _ us hl => match us, hl with | [_, _, _, _, _, _, _], _ => rfl
abbrev af_l_w_seen_right : Addr := 1754
abbrev fdf_l_w_seen_right : FuncData := PySem.W.fnOf "_law_w_seen_right" "_law_w_seen_right" (defArgs sf_l_w_seen_right) (defBody sf_l_w_seen_right) (defScope sf_l_w_seen_right) .none .none .none (.str "law_viewlease_k43_whole_cuts_onto_themselves" 2473) none (.ref 1753) .none
theorem scf_l_w_seen_right : FnScope ["_law_view", "_law_m"] ["_law_view", "_law_m"] (defScope sf_l_w_seen_right) := ⟨rfl, rfl, rfl, by decide +kernel, rfl, by decide +kernel, by decide +kernel⟩
theorem stf_l_w_seen_right (x0 x1 : V) : L2.start ["_law_view", "_law_m"] [x0, x1] = [some x0, some x1] := rfl
theorem Ff_l_w_seen_right (P : Params) : Fun (K P) "_law_w_seen_right" "_law_w_seen_right" sf_l_w_seen_right 1754 fdf_l_w_seen_right := fun_mk (oc := .type "function") (od := none) (osl := #[]) (by kernel_rfl) (by kernel_rfl) (by kernel_rfl)
theorem bf_l_w_seen_right (P : Params) : Binds (K P) fdf_l_w_seen_right ["_law_view", "_law_m"] [] := (Ff_l_w_seen_right P).binds fun _ _ _ _ _ _ us hl => match us, hl with | [_, _], _ => rfl
abbrev af_l_draw : Addr := 1761
abbrev fdf_l_draw : FuncData := PySem.W.fnOf "_law_draw" "_law_draw" (defArgs sf_l_draw) (defBody sf_l_draw) (defScope sf_l_draw) .none .none .none (.str "law_viewlease_k43_whole_cuts_onto_themselves" 2473) none (.ref 1760) .none
theorem scf_l_draw : FnScope ["_law_stream", "_law_many", "_law_digit", "_law_mixed"] ["_law_stream", "_law_many"] (defScope sf_l_draw) := ⟨rfl, rfl, rfl, by decide +kernel, rfl, by decide +kernel, by decide +kernel⟩
theorem stf_l_draw (x0 x1 : V) : L2.start ["_law_stream", "_law_many", "_law_digit", "_law_mixed"] [x0, x1] = [some x0, some x1, none, none] := rfl
theorem Ff_l_draw (P : Params) : Fun (K P) "_law_draw" "_law_draw" sf_l_draw 1761 fdf_l_draw := fun_mk (oc := .type "function") (od := none) (osl := #[]) (by kernel_rfl) (by kernel_rfl) (by kernel_rfl)
theorem bf_l_draw (P : Params) : Binds (K P) fdf_l_draw ["_law_stream", "_law_many"] [] := (Ff_l_draw P).binds fun _ _ _ _ _ _ us hl => match us, hl with | [_, _], _ => rfl
abbrev af_l_start : Addr := 1768
abbrev fdf_l_start : FuncData := PySem.W.fnOf "_law_start" "_law_start" (defArgs sf_l_start) (defBody sf_l_start) (defScope sf_l_start) .none .none .none (.str "law_viewlease_k43_whole_cuts_onto_themselves" 2473) none (.ref 1767) .none
theorem scf_l_start : FnScope ["_law_script"] ["_law_script"] (defScope sf_l_start) := ⟨rfl, rfl, rfl, by decide +kernel, rfl, by decide +kernel, by decide +kernel⟩
theorem stf_l_start (x0 : V) : L2.start ["_law_script"] [x0] = [some x0] := rfl
theorem Ff_l_start (P : Params) : Fun (K P) "_law_start" "_law_start" sf_l_start 1768 fdf_l_start := fun_mk (oc := .type "function") (od := none) (osl := #[]) (by kernel_rfl) (by kernel_rfl) (by kernel_rfl)
theorem bf_l_start (P : Params) : Binds (K P) fdf_l_start ["_law_script"] [] := (Ff_l_start P).binds fun _ _ _ _ _ _ us hl => match us, hl with | [_], _ => rfl
abbrev af_l_pick : Addr := 1775
abbrev fdf_l_pick : FuncData := PySem.W.fnOf "_law_pick" "_law_pick" (defArgs sf_l_pick) (defBody sf_l_pick) (defScope sf_l_pick) .none .none .none (.str "law_viewlease_k43_whole_cuts_onto_themselves" 2473) none (.ref 1774) .none
theorem scf_l_pick : FnScope ["_law_stream", "_law_some"] ["_law_stream", "_law_some"] (defScope sf_l_pick) := ⟨rfl, rfl, rfl, by decide +kernel, rfl, by decide +kernel, by decide +kernel⟩
theorem stf_l_pick (x0 x1 : V) : L2.start ["_law_stream", "_law_some"] [x0, x1] = [some x0, some x1] := rfl
theorem Ff_l_pick (P : Params) : Fun (K P) "_law_pick" "_law_pick" sf_l_pick 1775 fdf_l_pick := fun_mk (oc := .type "function") (od := none) (osl := #[]) (by kernel_rfl) (by kernel_rfl) (by kernel_rfl)
theorem bf_l_pick (P : Params) : Binds (K P) fdf_l_pick ["_law_stream", "_law_some"] [] := (Ff_l_pick P).binds fun _ _ _ _ _ _ us hl => match us, hl with | [_, _], _ => rfl
abbrev af_l_same : Addr := 1780
abbrev fdf_l_same : FuncData := PySem.W.fnOf "_law_same" "_law_same" (defArgs sf_l_same) (defBody sf_l_same) (defScope sf_l_same) .none .none .none (.str "law_viewlease_k43_whole_cuts_onto_themselves" 2473) none (.ref 1779) .none
theorem scf_l_same : FnScope ["_law_found", "_law_due", "_law_one", "_law_other"] ["_law_found", "_law_due"] (defScope sf_l_same) := ⟨rfl, rfl, rfl, by decide +kernel, rfl, by decide +kernel, by decide +kernel⟩
theorem stf_l_same (x0 x1 : V) : L2.start ["_law_found", "_law_due", "_law_one", "_law_other"] [x0, x1] = [some x0, some x1, none, none] := rfl
theorem Ff_l_same (P : Params) : Fun (K P) "_law_same" "_law_same" sf_l_same 1780 fdf_l_same := fun_mk (oc := .type "function") (od := none) (osl := #[]) (by kernel_rfl) (by kernel_rfl) (by kernel_rfl)
theorem bf_l_same (P : Params) : Binds (K P) fdf_l_same ["_law_found", "_law_due"] [] := (Ff_l_same P).binds fun _ _ _ _ _ _ us hl => match us, hl with | [_, _], _ => rfl
abbrev af_l_bytes : Addr := 1785
abbrev fdf_l_bytes : FuncData := PySem.W.fnOf "_law_bytes" "_law_bytes" (defArgs sf_l_bytes) (defBody sf_l_bytes) (defScope sf_l_bytes) .none .none .none (.str "law_viewlease_k43_whole_cuts_onto_themselves" 2473) none (.ref 1784) .none
theorem scf_l_bytes : FnScope ["_law_stream", "_law_many", "_law_k"] ["_law_stream", "_law_many"] (defScope sf_l_bytes) := ⟨rfl, rfl, rfl, by decide +kernel, rfl, by decide +kernel, by decide +kernel⟩
theorem stf_l_bytes (x0 x1 : V) : L2.start ["_law_stream", "_law_many", "_law_k"] [x0, x1] = [some x0, some x1, none] := rfl
theorem Ff_l_bytes (P : Params) : Fun (K P) "_law_bytes" "_law_bytes" sf_l_bytes 1785 fdf_l_bytes := fun_mk (oc := .type "function") (od := none) (osl := #[]) (by kernel_rfl) (by kernel_rfl) (by kernel_rfl)
theorem bf_l_bytes (P : Params) : Binds (K P) fdf_l_bytes ["_law_stream", "_law_many"] [] := (Ff_l_bytes P).binds fun _ _ _ _ _ _ us hl => match us, hl with | [_, _], _ => rfl
abbrev af_l_cut_of : Addr := 1792
abbrev fdf_l_cut_of : FuncData := PySem.W.fnOf "_law_cut_of" "_law_cut_of" (defArgs sf_l_cut_of) (defBody sf_l_cut_of) (defScope sf_l_cut_of) .none .none .none (.str "law_viewlease_k43_whole_cuts_onto_themselves" 2473) none (.ref 1791) .none
theorem scf_l_cut_of : FnScope ["_law_cut_here", "_law_many", "_law_start_here", "_law_stop", "_law_step", "_law_low", "_law_high", "_law_ends", "_law_part_here", "_law_spare", "_law_found", "_law_at"] ["_law_cut_here", "_law_many"] (defScope sf_l_cut_of) := ⟨rfl, rfl, rfl, by decide +kernel, rfl, by decide +kernel, by decide +kernel⟩
theorem stf_l_cut_of (x0 x1 : V) : L2.start ["_law_cut_here", "_law_many", "_law_start_here", "_law_stop", "_law_step", "_law_low", "_law_high", "_law_ends", "_law_part_here", "_law_spare", "_law_found", "_law_at"] [x0, x1] = [some x0, some x1, none, none, none, none, none, none, none, none, none, none] := rfl
theorem Ff_l_cut_of (P : Params) : Fun (K P) "_law_cut_of" "_law_cut_of" sf_l_cut_of 1792 fdf_l_cut_of := fun_mk (oc := .type "function") (od := none) (osl := #[]) (by kernel_rfl) (by kernel_rfl) (by kernel_rfl)
theorem bf_l_cut_of (P : Params) : Binds (K P) fdf_l_cut_of ["_law_cut_here", "_law_many"] [] := (Ff_l_cut_of P).binds fun _ _ _ _ _ _ us hl => match us, hl with | [_, _], _ => rfl
abbrev af_l_part : Addr := 1799
abbrev fdf_l_part : FuncData := PySem.W.fnOf "_law_part" "_law_part" (defArgs sf_l_part) (defBody sf_l_part) (defScope sf_l_part) .none .none .none (.str "law_viewlease_k43_whole_cuts_onto_themselves" 2473) none (.ref 1798) .none
theorem scf_l_part : FnScope ["_law_stream", "_law_many", "_law_way"] ["_law_stream", "_law_many"] (defScope sf_l_part) := ⟨rfl, rfl, rfl, by decide +kernel, rfl, by decide +kernel, by decide +kernel⟩
theorem stf_l_part (x0 x1 : V) : L2.start ["_law_stream", "_law_many", "_law_way"] [x0, x1] = [some x0, some x1, none] := rfl
theorem Ff_l_part (P : Params) : Fun (K P) "_law_part" "_law_part" sf_l_part 1799 fdf_l_part := fun_mk (oc := .type "function") (od := none) (osl := #[]) (by kernel_rfl) (by kernel_rfl) (by kernel_rfl)
theorem bf_l_part (P : Params) : Binds (K P) fdf_l_part ["_law_stream", "_law_many"] [] := (Ff_l_part P).binds fun _ _ _ _ _ _ us hl => match us, hl with | [_, _], _ => rfl
abbrev af_l_cut : Addr := 1806
abbrev fdf_l_cut : FuncData := PySem.W.fnOf "_law_cut" "_law_cut" (defArgs sf_l_cut) (defBody sf_l_cut) (defScope sf_l_cut) .none .none .none (.str "law_viewlease_k43_whole_cuts_onto_themselves" 2473) none (.ref 1805) .none
theorem scf_l_cut : FnScope ["_law_stream", "_law_many", "_law_step"] ["_law_stream", "_law_many"] (defScope sf_l_cut) := ⟨rfl, rfl, rfl, by decide +kernel, rfl, by decide +kernel, by decide +kernel⟩
theorem stf_l_cut (x0 x1 : V) : L2.start ["_law_stream", "_law_many", "_law_step"] [x0, x1] = [some x0, some x1, none] := rfl
theorem Ff_l_cut (P : Params) : Fun (K P) "_law_cut" "_law_cut" sf_l_cut 1806 fdf_l_cut := fun_mk (oc := .type "function") (od := none) (osl := #[]) (by kernel_rfl) (by kernel_rfl) (by kernel_rfl)
theorem bf_l_cut (P : Params) : Binds (K P) fdf_l_cut ["_law_stream", "_law_many"] [] := (Ff_l_cut P).binds fun _ _ _ _ _ _ us hl => match us, hl with | [_, _], _ => rfl
abbrev af_l_w_shared : Addr := 1813
abbrev fdf_l_w_shared : FuncData := PySem.W.fnOf "_law_w_shared" "_law_w_shared" (defArgs sf_l_w_shared) (defBody sf_l_w_shared) (defScope sf_l_w_shared) .none .none .none (.str "law_viewlease_k43_whole_cuts_onto_themselves" 2473) none (.ref 1812) .none
theorem scf_l_w_shared : FnScope ["_law_stream", "_law_kind", "_law_many", "_law_width", "_law_data", "_law_step", "_law_place", "_law_holder"] ["_law_stream"] (defScope sf_l_w_shared) := ⟨rfl, rfl, rfl, by decide +kernel, rfl, by decide +kernel, by decide +kernel⟩
theorem stf_l_w_shared (x0 : V) : L2.start ["_law_stream", "_law_kind", "_law_many", "_law_width", "_law_data", "_law_step", "_law_place", "_law_holder"] [x0] = [some x0, none, none, none, none, none, none, none] := rfl
theorem Ff_l_w_shared (P : Params) : Fun (K P) "_law_w_shared" "_law_w_shared" sf_l_w_shared 1813 fdf_l_w_shared := fun_mk (oc := .type "function") (od := none) (osl := #[]) (by kernel_rfl) (by kernel_rfl) (by kernel_rfl)
theorem bf_l_w_shared (P : Params) : Binds (K P) fdf_l_w_shared ["_law_stream"] [] := (Ff_l_w_shared P).binds fun _ _ _ _ _ _ us hl => match us, hl with | [_], _ => rfl
abbrev af_l_w_cut_twice : Addr := 1820
abbrev fdf_l_w_cut_twice : FuncData := PySem.W.fnOf "_law_w_cut_twice" "_law_w_cut_twice" (defArgs sf_l_w_cut_twice) (defBody sf_l_w_cut_twice) (defScope sf_l_w_cut_twice) .none .none .none (.str "law_viewlease_k43_whole_cuts_onto_themselves" 2473) none (.ref 1819) .none
theorem scf_l_w_cut_twice : FnScope ["_law_stream", "_law_view", "_law_m", "_law_k", "_law_cut_here"] ["_law_stream", "_law_view", "_law_m"] (defScope sf_l_w_cut_twice) := ⟨rfl, rfl, rfl, by decide +kernel, rfl, by decide +kernel, by decide +kernel⟩
theorem stf_l_w_cut_twice (x0 x1 x2 : V) : L2.start ["_law_stream", "_law_view", "_law_m", "_law_k", "_law_cut_here"] [x0, x1, x2] = [some x0, some x1, some x2, none, none] := rfl
theorem Ff_l_w_cut_twice (P : Params) : Fun (K P) "_law_w_cut_twice" "_law_w_cut_twice" sf_l_w_cut_twice 1820 fdf_l_w_cut_twice := fun_mk (oc := .type "function") (od := none) (osl := #[]) (by kernel_rfl) (by kernel_rfl) (by kernel_rfl)
theorem bf_l_w_cut_twice (P : Params) : Binds (K P) fdf_l_w_cut_twice ["_law_stream", "_law_view", "_law_m"] [] := (Ff_l_w_cut_twice P).binds fun _ _ _ _ _ _ us hl => match us, hl with | [_, _, _], _ => rfl
abbrev af_l_w_some_cut : Addr := 1827
abbrev fdf_l_w_some_cut : FuncData := PySem.W.fnOf "_law_w_some_cut" "_law_w_some_cut" (defArgs sf_l_w_some_cut) (defBody sf_l_w_some_cut) (defScope sf_l_w_some_cut) .none .none .none (.str "law_viewlease_k43_whole_cuts_onto_themselves" 2473) none (.ref 1826) .none
theorem scf_l_w_some_cut : FnScope ["_law_stream", "_law_size", "_law_many", "_law_start_here"] ["_law_stream", "_law_size", "_law_many"] (defScope sf_l_w_some_cut) := ⟨rfl, rfl, rfl, by decide +kernel, rfl, by decide +kernel, by decide +kernel⟩
theorem stf_l_w_some_cut (x0 x1 x2 : V) : L2.start ["_law_stream", "_law_size", "_law_many", "_law_start_here"] [x0, x1, x2] = [some x0, some x1, some x2, none] := rfl
theorem Ff_l_w_some_cut (P : Params) : Fun (K P) "_law_w_some_cut" "_law_w_some_cut" sf_l_w_some_cut 1827 fdf_l_w_some_cut := fun_mk (oc := .type "function") (od := none) (osl := #[]) (by kernel_rfl) (by kernel_rfl) (by kernel_rfl)
theorem bf_l_w_some_cut (P : Params) : Binds (K P) fdf_l_w_some_cut ["_law_stream", "_law_size", "_law_many"] [] := (Ff_l_w_some_cut P).binds fun _ _ _ _ _ _ us hl => match us, hl with | [_, _, _], _ => rfl
abbrev af_lw : Addr := 1834
abbrev fdf_lw : FuncData := PySem.W.fnOf "law" "law" (defArgs sf_lw) (defBody sf_lw) (defScope sf_lw) .none .none .none (.str "law_viewlease_k43_whole_cuts_onto_themselves" 2473) none (.ref 1833) .none
theorem scf_lw : FnScope ["_law_script", "_law_stream", "_law_turn", "_law_holder", "_law_m", "_law_one", "_law_mine", "_law_other", "_law_theirs", "_law_k", "_law_many", "_law_cut_here", "_law_back", "_law_spots", "_law_width", "_law_data", "_law_j", "_law_place", "_law_row"] ["_law_script"] (defScope sf_lw) := ⟨rfl, rfl, rfl, by decide +kernel, rfl, by decide +kernel, by decide +kernel⟩
theorem stf_lw (x0 : V) : L2.start ["_law_script", "_law_stream", "_law_turn", "_law_holder", "_law_m", "_law_one", "_law_mine", "_law_other", "_law_theirs", "_law_k", "_law_many", "_law_cut_here", "_law_back", "_law_spots", "_law_width", "_law_data", "_law_j", "_law_place", "_law_row"] [x0] = [some x0, none, none, none, none, none, none, none, none, none, none, none, none, none, none, none, none, none, none] := rfl
theorem Ff_lw (P : Params) : Fun (K P) "law" "law" sf_lw 1834 fdf_lw := fun_mk (oc := .type "function") (od := none) (osl := #[]) (by kernel_rfl) (by kernel_rfl) (by kernel_rfl)
theorem bf_lw (P : Params) : Binds (K P) fdf_lw ["_law_script"] [] := (Ff_lw P).binds fun _ _ _ _ _ _ us hl => match us, hl with | [_], _ => rfl
abbrev am_mem_init : Addr := 888
abbrev fdm_mem_init : FuncData := PySem.W.fnOf "__init__" "Memory.__init__" (defArgs sm_mem_init) (defBody sm_mem_init) (defScope sm_mem_init) .none .none .none (.str "viewlease.memory" 1464) none (.ref 887) .none
theorem scm_mem_init : FnScope ["self", "cells", "cell"] ["self", "cells"] (defScope sm_mem_init) := ⟨rfl, rfl, rfl, by decide +kernel, rfl, by decide +kernel, by decide +kernel⟩
theorem stm_mem_init (x0 x1 : V) : L2.start ["self", "cells", "cell"] [x0, x1] = [some x0, some x1, none] := rfl
theorem Fm_mem_init (P : Params) : Fun (K P) "__init__" "Memory.__init__" sm_mem_init 888 fdm_mem_init := fun_mk (oc := .type "function") (od := none) (osl := #[]) (by kernel_rfl) (by kernel_rfl) (by kernel_rfl)
theorem bm_mem_init (P : Params) : Binds (K P) fdm_mem_init ["self", "cells"] [] := (Fm_mem_init P).binds fun _ _ _ _ _ _ us hl => match us, hl with | [_, _], _ => rfl
abbrev am_buf_init : Addr := 923
abbrev fdm_buf_init : FuncData := PySem.W.fnOf "__init__" "Buffer.__init__" (defArgs sm_buf_init) (defBody sm_buf_init) (defScope sm_buf_init) .none .none .none (.str "viewlease.memory" 1464) none (.ref 922) .none
theorem scm_buf_init : FnScope ["self", "memory", "place", "width", "kind", "sizes", "steps", "fixed", "source"] ["self", "memory", "place", "width", "kind", "sizes", "steps", "fixed", "source"] (defScope sm_buf_init) := ⟨rfl, rfl, rfl, by decide +kernel, rfl, by decide +kernel, by decide +kernel⟩
theorem stm_buf_init (x0 x1 x2 x3 x4 x5 x6 x7 x8 : V) : L2.start ["self", "memory", "place", "width", "kind", "sizes", "steps", "fixed", "source"] [x0, x1, x2, x3, x4, x5, x6, x7, x8] = [some x0, some x1, some x2, some x3, some x4, some x5, some x6, some x7, some x8] := rfl
theorem Fm_buf_init (P : Params) : Fun (K P) "__init__" "Buffer.__init__" sm_buf_init 923 fdm_buf_init := fun_mk (oc := .type "function") (od := none) (osl := #[]) (by kernel_rfl) (by kernel_rfl) (by kernel_rfl)
theorem bm_buf_init (P : Params) : Binds (K P) fdm_buf_init ["self", "memory", "place", "width", "kind", "sizes", "steps", "fixed", "source"] [] := (Fm_buf_init P).binds fun _ _ _ _ _ _ us hl => match us, hl with | [_, _, _, _, _, _, _, _, _], _ => rfl
abbrev am_cut_init : Addr := 1068
abbrev fdm_cut_init : FuncData := PySem.W.fnOf "__init__" "Cut.__init__" (defArgs sm_cut_init) (defBody sm_cut_init) (defScope sm_cut_init) (.ref 1061) .none .none (.str "viewlease.keys" 1719) none (.ref 1067) .none
theorem scm_cut_init : FnScope ["self", "start", "stop", "step"] ["self", "start", "stop", "step"] (defScope sm_cut_init) := ⟨rfl, rfl, rfl, by decide +kernel, rfl, by decide +kernel, by decide +kernel⟩
theorem stm_cut_init (x0 x1 x2 x3 : V) : L2.start ["self", "start", "stop", "step"] [x0, x1, x2, x3] = [some x0, some x1, some x2, some x3] := rfl
theorem Fm_cut_init (P : Params) : FunD (K P) "__init__" "Cut.__init__" (defArgs sm_cut_init) (defBody sm_cut_init) (defScope sm_cut_init) [.non, .non, .non] [] 1068 fdm_cut_init := ⟨⟨.type "function", none, .ref 1061, .none, .none, .str "viewlease.keys" 1719, none, .ref 1067, .none, #[], rfl, (by kernel_rfl), (by kernel_rfl), .inr ⟨List.cons_ne_nil _ _, 1061, ob1061 P, [.none, .none, .none], 0, rfl, (by kernel_rfl), rfl, .cons rfl (.cons rfl (.cons rfl (.nil)))⟩, .inl rfl⟩, (by kernel_rfl)⟩
abbrev am_seen_init : Addr := 1115
abbrev fdm_seen_init : FuncData := PySem.W.fnOf "__init__" "Seen.__init__" (defArgs sm_seen_init) (defBody sm_seen_init) (defScope sm_seen_init) .none .none .none (.str "viewlease.views" 1790) none (.ref 1114) .none
theorem scm_seen_init : FnScope ["self", "buffer", "kind", "width", "sizes", "steps"] ["self", "buffer", "kind", "width", "sizes", "steps"] (defScope sm_seen_init) := ⟨rfl, rfl, rfl, by decide +kernel, rfl, by decide +kernel, by decide +kernel⟩
theorem stm_seen_init (x0 x1 x2 x3 x4 x5 : V) : L2.start ["self", "buffer", "kind", "width", "sizes", "steps"] [x0, x1, x2, x3, x4, x5] = [some x0, some x1, some x2, some x3, some x4, some x5] := rfl
theorem Fm_seen_init (P : Params) : Fun (K P) "__init__" "Seen.__init__" sm_seen_init 1115 fdm_seen_init := fun_mk (oc := .type "function") (od := none) (osl := #[]) (by kernel_rfl) (by kernel_rfl) (by kernel_rfl)
theorem bm_seen_init (P : Params) : Binds (K P) fdm_seen_init ["self", "buffer", "kind", "width", "sizes", "steps"] [] := (Fm_seen_init P).binds fun _ _ _ _ _ _ us hl => match us, hl with | [_, _, _, _, _, _], _ => rfl
abbrev am_ba_init : Addr := 1467
abbrev fdm_ba_init : FuncData := PySem.W.fnOf "__init__" "ByteArray.__init__" (defArgs sm_ba_init) (defBody sm_ba_init) (defScope sm_ba_init) (.ref 1460) .none .none (.str "viewlease.bytearrays" 2192) none (.ref 1466) .none
theorem scm_ba_init : FnScope ["self", "data"] ["self", "data"] (defScope sm_ba_init) := ⟨rfl, rfl, rfl, by decide +kernel, rfl, by decide +kernel, by decide +kernel⟩
theorem stm_ba_init (x0 x1 : V) : L2.start ["self", "data"] [x0, x1] = [some x0, some x1] := rfl
theorem Fm_ba_init (P : Params) : FunD (K P) "__init__" "ByteArray.__init__" (defArgs sm_ba_init) (defBody sm_ba_init) (defScope sm_ba_init) [.ref 1459] [] 1467 fdm_ba_init := ⟨⟨.type "function", none, .ref 1460, .none, .none, .str "viewlease.bytearrays" 2192, none, .ref 1466, .none, #[], rfl, (by kernel_rfl), (by kernel_rfl), .inr ⟨List.cons_ne_nil _ _, 1460, ob1460 P, [(.ref 1459)], 0, rfl, (by kernel_rfl), rfl, .cons rfl (.nil)⟩, .inl rfl⟩, (by kernel_rfl)⟩
abbrev am_ba_lend : Addr := 1481
abbrev fdm_ba_lend : FuncData := PySem.W.fnOf "lend" "ByteArray.lend" (defArgs sm_ba_lend) (defBody sm_ba_lend) (defScope sm_ba_lend) .none .none .none (.str "viewlease.bytearrays" 2192) none (.ref 1480) .none
theorem scm_ba_lend : FnScope ["self", "flags"] ["self", "flags"] (defScope sm_ba_lend) := ⟨rfl, rfl, rfl, by decide +kernel, rfl, by decide +kernel, by decide +kernel⟩
theorem stm_ba_lend (x0 x1 : V) : L2.start ["self", "flags"] [x0, x1] = [some x0, some x1] := rfl
theorem Fm_ba_lend (P : Params) : Fun (K P) "lend" "ByteArray.lend" sm_ba_lend 1481 fdm_ba_lend := fun_mk (oc := .type "function") (od := none) (osl := #[]) (by kernel_rfl) (by kernel_rfl) (by kernel_rfl)
theorem bm_ba_lend (P : Params) : Binds (K P) fdm_ba_lend ["self", "flags"] [] := (Fm_ba_lend P).binds fun _ _ _ _ _ _ us hl => match us, hl with | [_, _], _ => rfl
abbrev am_ba_take_back : Addr := 1488
abbrev fdm_ba_take_back : FuncData := PySem.W.fnOf "take_back" "ByteArray.take_back" (defArgs sm_ba_take_back) (defBody sm_ba_take_back) (defScope sm_ba_take_back) .none .none .none (.str "viewlease.bytearrays" 2192) none (.ref 1487) .none
theorem scm_ba_take_back : FnScope ["self", "buffer"] ["self", "buffer"] (defScope sm_ba_take_back) := ⟨rfl, rfl, rfl, by decide +kernel, rfl, by decide +kernel, by decide +kernel⟩
theorem stm_ba_take_back (x0 x1 : V) : L2.start ["self", "buffer"] [x0, x1] = [some x0, some x1] := rfl
theorem Fm_ba_take_back (P : Params) : Fun (K P) "take_back" "ByteArray.take_back" sm_ba_take_back 1488 fdm_ba_take_back := fun_mk (oc := .type "function") (od := none) (osl := #[]) (by kernel_rfl) (by kernel_rfl) (by kernel_rfl)
theorem bm_ba_take_back (P : Params) : Binds (K P) fdm_ba_take_back ["self", "buffer"] [] := (Fm_ba_take_back P).binds fun _ _ _ _ _ _ us hl => match us, hl with | [_, _], _ => rfl
abbrev am_ba_data : Addr := 1509
abbrev fdm_ba_data : FuncData := PySem.W.fnOf "data" "ByteArray.data" (defArgs sm_ba_data) (defBody sm_ba_data) (defScope sm_ba_data) .none .none .none (.str "viewlease.bytearrays" 2192) none (.ref 1508) .none
theorem scm_ba_data : FnScope ["self"] ["self"] (defScope sm_ba_data) := ⟨rfl, rfl, rfl, by decide +kernel, rfl, by decide +kernel, by decide +kernel⟩
theorem stm_ba_data (x0 : V) : L2.start ["self"] [x0] = [some x0] := rfl
theorem Fm_ba_data (P : Params) : Fun (K P) "data" "ByteArray.data" sm_ba_data 1509 fdm_ba_data := fun_mk (oc := .type "function") (od := none) (osl := #[]) (by kernel_rfl) (by kernel_rfl) (by kernel_rfl)
theorem bm_ba_data (P : Params) : Binds (K P) fdm_ba_data ["self"] [] := (Fm_ba_data P).binds fun _ _ _ _ _ _ us hl => match us, hl with | [_], _ => rfl
abbrev am_st_init : Addr := 1622
abbrev fdm_st_init : FuncData := PySem.W.fnOf "__init__" "Strided.__init__" (defArgs sm_st_init) (defBody sm_st_init) (defScope sm_st_init) (.ref 1617) .none .none (.str "viewlease.strided" 2423) none (.ref 1621) .none
theorem scm_st_init : FnScope ["self", "data", "layout", "shape", "strides", "place", "writable", "width", "memory", "sizes", "steps", "at", "size", "step"] ["self", "data", "layout", "shape", "strides", "place", "writable"] (defScope sm_st_init) := ⟨rfl, rfl, rfl, by decide +kernel, rfl, by decide +kernel, by decide +kernel⟩
theorem stm_st_init (x0 x1 x2 x3 x4 x5 x6 : V) : L2.start ["self", "data", "layout", "shape", "strides", "place", "writable", "width", "memory", "sizes", "steps", "at", "size", "step"] [x0, x1, x2, x3, x4, x5, x6] = [some x0, some x1, some x2, some x3, some x4, some x5, some x6, none, none, none, none, none, none, none] := rfl
theorem Fm_st_init (P : Params) : FunD (K P) "__init__" "Strided.__init__" (defArgs sm_st_init) (defBody sm_st_init) (defScope sm_st_init) [.int 0, .bl true] [] 1622 fdm_st_init := ⟨⟨.type "function", none, .ref 1617, .none, .none, .str "viewlease.strided" 2423, none, .ref 1621, .none, #[], rfl, (by kernel_rfl), (by kernel_rfl), .inr ⟨List.cons_ne_nil _ _, 1617, ob1617 P, [(.int (0) 2437), (.bool true)], 0, rfl, (by kernel_rfl), rfl, .cons ⟨_, rfl⟩ (.cons rfl (.nil))⟩, .inl rfl⟩, (by kernel_rfl)⟩
abbrev am_st_lend : Addr := 1629
abbrev fdm_st_lend : FuncData := PySem.W.fnOf "lend" "Strided.lend" (defArgs sm_st_lend) (defBody sm_st_lend) (defScope sm_st_lend) .none .none .none (.str "viewlease.strided" 2423) none (.ref 1628) .none
theorem scm_st_lend : FnScope ["self", "flags", "plan"] ["self", "flags"] (defScope sm_st_lend) := ⟨rfl, rfl, rfl, by decide +kernel, rfl, by decide +kernel, by decide +kernel⟩
theorem stm_st_lend (x0 x1 : V) : L2.start ["self", "flags", "plan"] [x0, x1] = [some x0, some x1, none] := rfl
theorem Fm_st_lend (P : Params) : Fun (K P) "lend" "Strided.lend" sm_st_lend 1629 fdm_st_lend := fun_mk (oc := .type "function") (od := none) (osl := #[]) (by kernel_rfl) (by kernel_rfl) (by kernel_rfl)
theorem bm_st_lend (P : Params) : Binds (K P) fdm_st_lend ["self", "flags"] [] := (Fm_st_lend P).binds fun _ _ _ _ _ _ us hl => match us, hl with | [_, _], _ => rfl
abbrev am_st_take_back : Addr := 1636
abbrev fdm_st_take_back : FuncData := PySem.W.fnOf "take_back" "Strided.take_back" (defArgs sm_st_take_back) (defBody sm_st_take_back) (defScope sm_st_take_back) .none .none .none (.str "viewlease.strided" 2423) none (.ref 1635) .none
theorem scm_st_take_back : FnScope ["self", "buffer"] ["self", "buffer"] (defScope sm_st_take_back) := ⟨rfl, rfl, rfl, by decide +kernel, rfl, by decide +kernel, by decide +kernel⟩
theorem stm_st_take_back (x0 x1 : V) : L2.start ["self", "buffer"] [x0, x1] = [some x0, some x1] := rfl
theorem Fm_st_take_back (P : Params) : Fun (K P) "take_back" "Strided.take_back" sm_st_take_back 1636 fdm_st_take_back := fun_mk (oc := .type "function") (od := none) (osl := #[]) (by kernel_rfl) (by kernel_rfl) (by kernel_rfl)
theorem bm_st_take_back (P : Params) : Binds (K P) fdm_st_take_back ["self", "buffer"] [] := (Fm_st_take_back P).binds fun _ _ _ _ _ _ us hl => match us, hl with | [_, _], _ => rfl
abbrev am_st_data : Addr := 1643
abbrev fdm_st_data : FuncData := PySem.W.fnOf "data" "Strided.data" (defArgs sm_st_data) (defBody sm_st_data) (defScope sm_st_data) .none .none .none (.str "viewlease.strided" 2423) none (.ref 1642) .none
theorem scm_st_data : FnScope ["self"] ["self"] (defScope sm_st_data) := ⟨rfl, rfl, rfl, by decide +kernel, rfl, by decide +kernel, by decide +kernel⟩
theorem stm_st_data (x0 : V) : L2.start ["self"] [x0] = [some x0] := rfl
theorem Fm_st_data (P : Params) : Fun (K P) "data" "Strided.data" sm_st_data 1643 fdm_st_data := fun_mk (oc := .type "function") (od := none) (osl := #[]) (by kernel_rfl) (by kernel_rfl) (by kernel_rfl)
theorem bm_st_data (P : Params) : Binds (K P) fdm_st_data ["self"] [] := (Fm_st_data P).binds fun _ _ _ _ _ _ us hl => match us, hl with | [_], _ => rfl
abbrev am_mv_init : Addr := 1143
abbrev fdm_mv_init : FuncData := PySem.W.fnOf "__init__" "MemoryView.__init__" (defArgs sm_mv_init) (defBody sm_mv_init) (defScope sm_mv_init) .none .none .none (.str "viewlease.views" 1790) none (.ref 1142) .none
theorem scm_mv_init : FnScope ["self", "holder", "given", "buffer"] ["self", "holder"] (defScope sm_mv_init) := ⟨rfl, rfl, rfl, by decide +kernel, rfl, by decide +kernel, by decide +kernel⟩
theorem stm_mv_init (x0 x1 : V) : L2.start ["self", "holder", "given", "buffer"] [x0, x1] = [some x0, some x1, none, none] := rfl
theorem Fm_mv_init (P : Params) : Fun (K P) "__init__" "MemoryView.__init__" sm_mv_init 1143 fdm_mv_init := fun_mk (oc := .type "function") (od := none) (osl := #[]) (by kernel_rfl) (by kernel_rfl) (by kernel_rfl)
theorem bm_mv_init (P : Params) : Binds (K P) fdm_mv_init ["self", "holder"] [] := (Fm_mv_init P).binds fun _ _ _ _ _ _ us hl => match us, hl with | [_, _], _ => rfl
abbrev am_mv_lay_out : Addr := 1150
abbrev fdm_mv_lay_out : FuncData := PySem.W.fnOf "lay_out" "MemoryView.lay_out" (defArgs sm_mv_lay_out) (defBody sm_mv_lay_out) (defScope sm_mv_lay_out) .none .none .none (.str "viewlease.views" 1790) none (.ref 1149) .none
theorem scm_mv_lay_out : FnScope ["self", "place", "kind", "width", "sizes", "steps"] ["self", "place", "kind", "width", "sizes", "steps"] (defScope sm_mv_lay_out) := ⟨rfl, rfl, rfl, by decide +kernel, rfl, by decide +kernel, by decide +kernel⟩
theorem stm_mv_lay_out (x0 x1 x2 x3 x4 x5 : V) : L2.start ["self", "place", "kind", "width", "sizes", "steps"] [x0, x1, x2, x3, x4, x5] = [some x0, some x1, some x2, some x3, some x4, some x5] := rfl
theorem Fm_mv_lay_out (P : Params) : Fun (K P) "lay_out" "MemoryView.lay_out" sm_mv_lay_out 1150 fdm_mv_lay_out := fun_mk (oc := .type "function") (od := none) (osl := #[]) (by kernel_rfl) (by kernel_rfl) (by kernel_rfl)
theorem bm_mv_lay_out (P : Params) : Binds (K P) fdm_mv_lay_out ["self", "place", "kind", "width", "sizes", "steps"] [] := (Fm_mv_lay_out P).binds fun _ _ _ _ _ _ us hl => match us, hl with | [_, _, _, _, _, _], _ => rfl
abbrev am_mv_check_open : Addr := 1157
abbrev fdm_mv_check_open : FuncData := PySem.W.fnOf "check_open" "MemoryView.check_open" (defArgs sm_mv_check_open) (defBody sm_mv_check_open) (defScope sm_mv_check_open) .none .none .none (.str "viewlease.views" 1790) none (.ref 1156) .none
theorem scm_mv_check_open : FnScope ["self"] ["self"] (defScope sm_mv_check_open) := ⟨rfl, rfl, rfl, by decide +kernel, rfl, by decide +kernel, by decide +kernel⟩
theorem stm_mv_check_open (x0 : V) : L2.start ["self"] [x0] = [some x0] := rfl
theorem Fm_mv_check_open (P : Params) : Fun (K P) "check_open" "MemoryView.check_open" sm_mv_check_open 1157 fdm_mv_check_open := fun_mk (oc := .type "function") (od := none) (osl := #[]) (by kernel_rfl) (by kernel_rfl) (by kernel_rfl)
theorem bm_mv_check_open (P : Params) : Binds (K P) fdm_mv_check_open ["self"] [] := (Fm_mv_check_open P).binds fun _ _ _ _ _ _ us hl => match us, hl with | [_], _ => rfl
abbrev am_mv_memory_now : Addr := 1267
abbrev fdm_mv_memory_now : FuncData := PySem.W.fnOf "memory_now" "MemoryView.memory_now" (defArgs sm_mv_memory_now) (defBody sm_mv_memory_now) (defScope sm_mv_memory_now) .none .none .none (.str "viewlease.views" 1790) none (.ref 1266) .none
theorem scm_mv_memory_now : FnScope ["self"] ["self"] (defScope sm_mv_memory_now) := ⟨rfl, rfl, rfl, by decide +kernel, rfl, by decide +kernel, by decide +kernel⟩
theorem stm_mv_memory_now (x0 : V) : L2.start ["self"] [x0] = [some x0] := rfl
theorem Fm_mv_memory_now (P : Params) : Fun (K P) "memory_now" "MemoryView.memory_now" sm_mv_memory_now 1267 fdm_mv_memory_now := fun_mk (oc := .type "function") (od := none) (osl := #[]) (by kernel_rfl) (by kernel_rfl) (by kernel_rfl)
theorem bm_mv_memory_now (P : Params) : Binds (K P) fdm_mv_memory_now ["self"] [] := (Fm_mv_memory_now P).binds fun _ _ _ _ _ _ us hl => match us, hl with | [_], _ => rfl
abbrev am_mv_item : Addr := 1281
abbrev fdm_mv_item : FuncData := PySem.W.fnOf "item" "MemoryView.item" (defArgs sm_mv_item) (defBody sm_mv_item) (defScope sm_mv_item) .none .none .none (.str "viewlease.views" 1790) none (.ref 1280) .none
theorem scm_mv_item : FnScope ["self", "key", "kind"] ["self", "key"] (defScope sm_mv_item) := ⟨rfl, rfl, rfl, by decide +kernel, rfl, by decide +kernel, by decide +kernel⟩
theorem stm_mv_item (x0 x1 : V) : L2.start ["self", "key", "kind"] [x0, x1] = [some x0, some x1, none] := rfl
theorem Fm_mv_item (P : Params) : Fun (K P) "item" "MemoryView.item" sm_mv_item 1281 fdm_mv_item := fun_mk (oc := .type "function") (od := none) (osl := #[]) (by kernel_rfl) (by kernel_rfl) (by kernel_rfl)
theorem bm_mv_item (P : Params) : Binds (K P) fdm_mv_item ["self", "key"] [] := (Fm_mv_item P).binds fun _ _ _ _ _ _ us hl => match us, hl with | [_, _], _ => rfl
abbrev am_mv_cut_first : Addr := 1295
abbrev fdm_mv_cut_first : FuncData := PySem.W.fnOf "cut_first" "MemoryView.cut_first" (defArgs sm_mv_cut_first) (defBody sm_mv_cut_first) (defScope sm_mv_cut_first) .none .none .none (.str "viewlease.views" 1790) none (.ref 1294) .none
theorem scm_mv_cut_first : FnScope ["self", "cut", "first", "many", "step", "made", "more", "sizes", "steps"] ["self", "cut"] (defScope sm_mv_cut_first) := ⟨rfl, rfl, rfl, by decide +kernel, rfl, by decide +kernel, by decide +kernel⟩
theorem stm_mv_cut_first (x0 x1 : V) : L2.start ["self", "cut", "first", "many", "step", "made", "more", "sizes", "steps"] [x0, x1] = [some x0, some x1, none, none, none, none, none, none, none] := rfl
theorem Fm_mv_cut_first (P : Params) : Fun (K P) "cut_first" "MemoryView.cut_first" sm_mv_cut_first 1295 fdm_mv_cut_first := fun_mk (oc := .type "function") (od := none) (osl := #[]) (by kernel_rfl) (by kernel_rfl) (by kernel_rfl)
theorem bm_mv_cut_first (P : Params) : Binds (K P) fdm_mv_cut_first ["self", "cut"] [] := (Fm_mv_cut_first P).binds fun _ _ _ _ _ _ us hl => match us, hl with | [_, _], _ => rfl
abbrev am_mv_check_writable : Addr := 1302
abbrev fdm_mv_check_writable : FuncData := PySem.W.fnOf "check_writable" "MemoryView.check_writable" (defArgs sm_mv_check_writable) (defBody sm_mv_check_writable) (defScope sm_mv_check_writable) .none .none .none (.str "viewlease.views" 1790) none (.ref 1301) .none
theorem scm_mv_check_writable : FnScope ["self"] ["self"] (defScope sm_mv_check_writable) := ⟨rfl, rfl, rfl, by decide +kernel, rfl, by decide +kernel, by decide +kernel⟩
theorem stm_mv_check_writable (x0 : V) : L2.start ["self"] [x0] = [some x0] := rfl
theorem Fm_mv_check_writable (P : Params) : Fun (K P) "check_writable" "MemoryView.check_writable" sm_mv_check_writable 1302 fdm_mv_check_writable := fun_mk (oc := .type "function") (od := none) (osl := #[]) (by kernel_rfl) (by kernel_rfl) (by kernel_rfl)
theorem bm_mv_check_writable (P : Params) : Binds (K P) fdm_mv_check_writable ["self"] [] := (Fm_mv_check_writable P).binds fun _ _ _ _ _ _ us hl => match us, hl with | [_], _ => rfl
abbrev am_mv_put : Addr := 1309
abbrev fdm_mv_put : FuncData := PySem.W.fnOf "put" "MemoryView.put" (defArgs sm_mv_put) (defBody sm_mv_put) (defScope sm_mv_put) .none .none .none (.str "viewlease.views" 1790) none (.ref 1308) .none
theorem scm_mv_put : FnScope ["self", "key", "value", "kind", "place"] ["self", "key", "value"] (defScope sm_mv_put) := ⟨rfl, rfl, rfl, by decide +kernel, rfl, by decide +kernel, by decide +kernel⟩
theorem stm_mv_put (x0 x1 x2 : V) : L2.start ["self", "key", "value", "kind", "place"] [x0, x1, x2] = [some x0, some x1, some x2, none, none] := rfl
theorem Fm_mv_put (P : Params) : Fun (K P) "put" "MemoryView.put" sm_mv_put 1309 fdm_mv_put := fun_mk (oc := .type "function") (od := none) (osl := #[]) (by kernel_rfl) (by kernel_rfl) (by kernel_rfl)
theorem bm_mv_put (P : Params) : Binds (K P) fdm_mv_put ["self", "key", "value"] [] := (Fm_mv_put P).binds fun _ _ _ _ _ _ us hl => match us, hl with | [_, _, _], _ => rfl
abbrev am_mv_put_cut : Addr := 1316
abbrev fdm_mv_put_cut : FuncData := PySem.W.fnOf "put_cut" "MemoryView.put_cut" (defArgs sm_mv_put_cut) (defBody sm_mv_put_cut) (defScope sm_mv_put_cut) .none .none .none (.str "viewlease.views" 1790) none (.ref 1315) .none
theorem scm_mv_put_cut : FnScope ["self", "cut", "value", "buffer", "rows"] ["self", "cut", "value"] (defScope sm_mv_put_cut) := ⟨rfl, rfl, rfl, by decide +kernel, rfl, by decide +kernel, by decide +kernel⟩
theorem stm_mv_put_cut (x0 x1 x2 : V) : L2.start ["self", "cut", "value", "buffer", "rows"] [x0, x1, x2] = [some x0, some x1, some x2, none, none] := rfl
theorem Fm_mv_put_cut (P : Params) : Fun (K P) "put_cut" "MemoryView.put_cut" sm_mv_put_cut 1316 fdm_mv_put_cut := fun_mk (oc := .type "function") (od := none) (osl := #[]) (by kernel_rfl) (by kernel_rfl) (by kernel_rfl)
theorem bm_mv_put_cut (P : Params) : Binds (K P) fdm_mv_put_cut ["self", "cut", "value"] [] := (Fm_mv_put_cut P).binds fun _ _ _ _ _ _ us hl => match us, hl with | [_, _, _], _ => rfl
abbrev am_mv_places_for : Addr := 1321
abbrev fdm_mv_places_for : FuncData := PySem.W.fnOf "places_for" "MemoryView.places_for" (defArgs sm_mv_places_for) (defBody sm_mv_places_for) (defScope sm_mv_places_for) .none .none .none (.str "viewlease.views" 1790) none (.ref 1320) .none
theorem scm_mv_places_for : FnScope ["self", "cut", "buffer", "indices", "at"] ["self", "cut", "buffer"] (defScope sm_mv_places_for) := ⟨rfl, rfl, rfl, by decide +kernel, rfl, by decide +kernel, by decide +kernel⟩
theorem stm_mv_places_for (x0 x1 x2 : V) : L2.start ["self", "cut", "buffer", "indices", "at"] [x0, x1, x2] = [some x0, some x1, some x2, none, none] := rfl
theorem Fm_mv_places_for (P : Params) : Fun (K P) "places_for" "MemoryView.places_for" sm_mv_places_for 1321 fdm_mv_places_for := fun_mk (oc := .type "function") (od := none) (osl := #[]) (by kernel_rfl) (by kernel_rfl) (by kernel_rfl)
theorem bm_mv_places_for (P : Params) : Binds (K P) fdm_mv_places_for ["self", "cut", "buffer"] [] := (Fm_mv_places_for P).binds fun _ _ _ _ _ _ us hl => match us, hl with | [_, _, _], _ => rfl
abbrev am_mv_tobytes : Addr := 1355
abbrev fdm_mv_tobytes : FuncData := PySem.W.fnOf "tobytes" "MemoryView.tobytes" (defArgs sm_mv_tobytes) (defBody sm_mv_tobytes) (defScope sm_mv_tobytes) (.ref 1348) .none .none (.str "viewlease.views" 1790) none (.ref 1354) .none
theorem scm_mv_tobytes : FnScope ["self", "order"] ["self", "order"] (defScope sm_mv_tobytes) := ⟨rfl, rfl, rfl, by decide +kernel, rfl, by decide +kernel, by decide +kernel⟩
theorem stm_mv_tobytes (x0 x1 : V) : L2.start ["self", "order"] [x0, x1] = [some x0, some x1] := rfl
theorem Fm_mv_tobytes (P : Params) : FunD (K P) "tobytes" "MemoryView.tobytes" (defArgs sm_mv_tobytes) (defBody sm_mv_tobytes) (defScope sm_mv_tobytes) [.str "C"] [] 1355 fdm_mv_tobytes := ⟨⟨.type "function", none, .ref 1348, .none, .none, .str "viewlease.views" 1790, none, .ref 1354, .none, #[], rfl, (by kernel_rfl), (by kernel_rfl), .inr ⟨List.cons_ne_nil _ _, 1348, ob1348 P, [(.str "C" 2102)], 0, rfl, (by kernel_rfl), rfl, .cons ⟨_, rfl⟩ (.nil)⟩, .inl rfl⟩, (by kernel_rfl)⟩
abbrev am_mv_tolist : Addr := 1362
abbrev fdm_mv_tolist : FuncData := PySem.W.fnOf "tolist" "MemoryView.tolist" (defArgs sm_mv_tolist) (defBody sm_mv_tolist) (defScope sm_mv_tolist) .none .none .none (.str "viewlease.views" 1790) none (.ref 1361) .none
theorem scm_mv_tolist : FnScope ["self"] ["self"] (defScope sm_mv_tolist) := ⟨rfl, rfl, rfl, by decide +kernel, rfl, by decide +kernel, by decide +kernel⟩
theorem stm_mv_tolist (x0 : V) : L2.start ["self"] [x0] = [some x0] := rfl
theorem Fm_mv_tolist (P : Params) : Fun (K P) "tolist" "MemoryView.tolist" sm_mv_tolist 1362 fdm_mv_tolist := fun_mk (oc := .type "function") (od := none) (osl := #[]) (by kernel_rfl) (by kernel_rfl) (by kernel_rfl)
theorem bm_mv_tolist (P : Params) : Binds (K P) fdm_mv_tolist ["self"] [] := (Fm_mv_tolist P).binds fun _ _ _ _ _ _ us hl => match us, hl with | [_], _ => rfl
abbrev am_mv_lend : Addr := 1406
abbrev fdm_mv_lend : FuncData := PySem.W.fnOf "lend" "MemoryView.lend" (defArgs sm_mv_lend) (defBody sm_mv_lend) (defScope sm_mv_lend) .none .none .none (.str "viewlease.views" 1790) none (.ref 1405) .none
theorem scm_mv_lend : FnScope ["self", "flags"] ["self", "flags"] (defScope sm_mv_lend) := ⟨rfl, rfl, rfl, by decide +kernel, rfl, by decide +kernel, by decide +kernel⟩
theorem stm_mv_lend (x0 x1 : V) : L2.start ["self", "flags"] [x0, x1] = [some x0, some x1] := rfl
theorem Fm_mv_lend (P : Params) : Fun (K P) "lend" "MemoryView.lend" sm_mv_lend 1406 fdm_mv_lend := fun_mk (oc := .type "function") (od := none) (osl := #[]) (by kernel_rfl) (by kernel_rfl) (by kernel_rfl)
theorem bm_mv_lend (P : Params) : Binds (K P) fdm_mv_lend ["self", "flags"] [] := (Fm_mv_lend P).binds fun _ _ _ _ _ _ us hl => match us, hl with | [_, _], _ => rfl
abbrev am_mv_take_back : Addr := 1413
abbrev fdm_mv_take_back : FuncData := PySem.W.fnOf "take_back" "MemoryView.take_back" (defArgs sm_mv_take_back) (defBody sm_mv_take_back) (defScope sm_mv_take_back) .none .none .none (.str "viewlease.views" 1790) none (.ref 1412) .none
theorem scm_mv_take_back : FnScope ["self", "buffer"] ["self", "buffer"] (defScope sm_mv_take_back) := ⟨rfl, rfl, rfl, by decide +kernel, rfl, by decide +kernel, by decide +kernel⟩
theorem stm_mv_take_back (x0 x1 : V) : L2.start ["self", "buffer"] [x0, x1] = [some x0, some x1] := rfl
theorem Fm_mv_take_back (P : Params) : Fun (K P) "take_back" "MemoryView.take_back" sm_mv_take_back 1413 fdm_mv_take_back := fun_mk (oc := .type "function") (od := none) (osl := #[]) (by kernel_rfl) (by kernel_rfl) (by kernel_rfl)
theorem bm_mv_take_back (P : Params) : Binds (K P) fdm_mv_take_back ["self", "buffer"] [] := (Fm_mv_take_back P).binds fun _ _ _ _ _ _ us hl => match us, hl with | [_, _], _ => rfl
abbrev CMemory : Addr := 891
abbrev CBuffer : Addr := 926
abbrev CCut : Addr := 1071
abbrev CSeen : Addr := 1118
abbrev CByteArray : Addr := 1607
abbrev CStrided : Addr := 1646
abbrev CMemoryView : Addr := 1416
abbrev CHolder : Addr := 905
abbrev CDots : Addr := 1085
section
variable (P : Params)
theorem cl_Memory : Cls (K P) 891 := ⟨by kernel_rfl, by kernel_rfl, by kernel_rfl, by kernel_rfl⟩
theorem na_Memory_cells : NoAttr (K P) 891 "cells" := show PySem.W.findIn (K P) (.ref 891) "cells" = some none from by kernel_rfl
theorem mk_Memory : Mk (K P) 891 888 := ⟨by kernel_rfl, by kernel_rfl, by kernel_rfl, by kernel_rfl⟩
theorem cl_Buffer : Cls (K P) 926 := ⟨by kernel_rfl, by kernel_rfl, by kernel_rfl, by kernel_rfl⟩
theorem na_Buffer_memory : NoAttr (K P) 926 "memory" := show PySem.W.findIn (K P) (.ref 926) "memory" = some none from by kernel_rfl
theorem na_Buffer_place : NoAttr (K P) 926 "place" := show PySem.W.findIn (K P) (.ref 926) "place" = some none from by kernel_rfl
theorem na_Buffer_width : NoAttr (K P) 926 "width" := show PySem.W.findIn (K P) (.ref 926) "width" = some none from by kernel_rfl
theorem na_Buffer_kind : NoAttr (K P) 926 "kind" := show PySem.W.findIn (K P) (.ref 926) "kind" = some none from by kernel_rfl
theorem na_Buffer_sizes : NoAttr (K P) 926 "sizes" := show PySem.W.findIn (K P) (.ref 926) "sizes" = some none from by kernel_rfl
theorem na_Buffer_steps : NoAttr (K P) 926 "steps" := show PySem.W.findIn (K P) (.ref 926) "steps" = some none from by kernel_rfl
theorem na_Buffer_fixed : NoAttr (K P) 926 "fixed" := show PySem.W.findIn (K P) (.ref 926) "fixed" = some none from by kernel_rfl
theorem na_Buffer_source : NoAttr (K P) 926 "source" := show PySem.W.findIn (K P) (.ref 926) "source" = some none from by kernel_rfl
theorem na_Buffer_shares : NoAttr (K P) 926 "shares" := show PySem.W.findIn (K P) (.ref 926) "shares" = some none from by kernel_rfl
theorem mk_Buffer : Mk (K P) 926 923 := ⟨by kernel_rfl, by kernel_rfl, by kernel_rfl, by kernel_rfl⟩
theorem cl_Cut : Cls (K P) 1071 := ⟨by kernel_rfl, by kernel_rfl, by kernel_rfl, by kernel_rfl⟩
theorem na_Cut_start : NoAttr (K P) 1071 "start" := show PySem.W.findIn (K P) (.ref 1071) "start" = some none from by kernel_rfl
theorem na_Cut_stop : NoAttr (K P) 1071 "stop" := show PySem.W.findIn (K P) (.ref 1071) "stop" = some none from by kernel_rfl
theorem na_Cut_step : NoAttr (K P) 1071 "step" := show PySem.W.findIn (K P) (.ref 1071) "step" = some none from by kernel_rfl
theorem mk_Cut : Mk (K P) 1071 1068 := ⟨by kernel_rfl, by kernel_rfl, by kernel_rfl, by kernel_rfl⟩
theorem cl_Seen : Cls (K P) 1118 := ⟨by kernel_rfl, by kernel_rfl, by kernel_rfl, by kernel_rfl⟩
theorem na_Seen_buffer : NoAttr (K P) 1118 "buffer" := show PySem.W.findIn (K P) (.ref 1118) "buffer" = some none from by kernel_rfl
theorem na_Seen_place : NoAttr (K P) 1118 "place" := show PySem.W.findIn (K P) (.ref 1118) "place" = some none from by kernel_rfl
theorem na_Seen_kind : NoAttr (K P) 1118 "kind" := show PySem.W.findIn (K P) (.ref 1118) "kind" = some none from by kernel_rfl
theorem na_Seen_width : NoAttr (K P) 1118 "width" := show PySem.W.findIn (K P) (.ref 1118) "width" = some none from by kernel_rfl
theorem na_Seen_sizes : NoAttr (K P) 1118 "sizes" := show PySem.W.findIn (K P) (.ref 1118) "sizes" = some none from by kernel_rfl
theorem na_Seen_steps : NoAttr (K P) 1118 "steps" := show PySem.W.findIn (K P) (.ref 1118) "steps" = some none from by kernel_rfl
theorem na_Seen_fixed : NoAttr (K P) 1118 "fixed" := show PySem.W.findIn (K P) (.ref 1118) "fixed" = some none from by kernel_rfl
theorem mk_Seen : Mk (K P) 1118 1115 := ⟨by kernel_rfl, by kernel_rfl, by kernel_rfl, by kernel_rfl⟩
theorem cl_ByteArray : Cls (K P) 1607 := ⟨by kernel_rfl, by kernel_rfl, by kernel_rfl, by kernel_rfl⟩
theorem na_ByteArray_memory : NoAttr (K P) 1607 "memory" := show PySem.W.findIn (K P) (.ref 1607) "memory" = some none from by kernel_rfl
theorem na_ByteArray_standing : NoAttr (K P) 1607 "standing" := show PySem.W.findIn (K P) (.ref 1607) "standing" = some none from by kernel_rfl
theorem mk_ByteArray : Mk (K P) 1607 1467 := ⟨by kernel_rfl, by kernel_rfl, by kernel_rfl, by kernel_rfl⟩
theorem cl_Strided : Cls (K P) 1646 := ⟨by kernel_rfl, by kernel_rfl, by kernel_rfl, by kernel_rfl⟩
theorem na_Strided_plan : NoAttr (K P) 1646 "plan" := show PySem.W.findIn (K P) (.ref 1646) "plan" = some none from by kernel_rfl
theorem mk_Strided : Mk (K P) 1646 1622 := ⟨by kernel_rfl, by kernel_rfl, by kernel_rfl, by kernel_rfl⟩
theorem cl_MemoryView : Cls (K P) 1416 := ⟨by kernel_rfl, by kernel_rfl, by kernel_rfl, by kernel_rfl⟩
theorem na_MemoryView_buffer : NoAttr (K P) 1416 "buffer" := show PySem.W.findIn (K P) (.ref 1416) "buffer" = some none from by kernel_rfl
theorem na_MemoryView_fixed : NoAttr (K P) 1416 "fixed" := show PySem.W.findIn (K P) (.ref 1416) "fixed" = some none from by kernel_rfl
theorem na_MemoryView_place : NoAttr (K P) 1416 "place" := show PySem.W.findIn (K P) (.ref 1416) "place" = some none from by kernel_rfl
theorem na_MemoryView_kind : NoAttr (K P) 1416 "kind" := show PySem.W.findIn (K P) (.ref 1416) "kind" = some none from by kernel_rfl
theorem na_MemoryView_width : NoAttr (K P) 1416 "width" := show PySem.W.findIn (K P) (.ref 1416) "width" = some none from by kernel_rfl
theorem na_MemoryView_sizes : NoAttr (K P) 1416 "sizes" := show PySem.W.findIn (K P) (.ref 1416) "sizes" = some none from by kernel_rfl
theorem na_MemoryView_steps : NoAttr (K P) 1416 "steps" := show PySem.W.findIn (K P) (.ref 1416) "steps" = some none from by kernel_rfl
theorem na_MemoryView_in_rows : NoAttr (K P) 1416 "in_rows" := show PySem.W.findIn (K P) (.ref 1416) "in_rows" = some none from by kernel_rfl
theorem na_MemoryView_in_columns : NoAttr (K P) 1416 "in_columns" := show PySem.W.findIn (K P) (.ref 1416) "in_columns" = some none from by kernel_rfl
theorem na_MemoryView_is_open : NoAttr (K P) 1416 "is_open" := show PySem.W.findIn (K P) (.ref 1416) "is_open" = some none from by kernel_rfl
theorem na_MemoryView_many_lent : NoAttr (K P) 1416 "many_lent" := show PySem.W.findIn (K P) (.ref 1416) "many_lent" = some none from by kernel_rfl
theorem na_MemoryView_told : NoAttr (K P) 1416 "told" := show PySem.W.findIn (K P) (.ref 1416) "told" = some none from by kernel_rfl
theorem mk_MemoryView : Mk (K P) 1416 1143 := ⟨by kernel_rfl, by kernel_rfl, by kernel_rfl, by kernel_rfl⟩
theorem mt_ByteArray_lend : Meth (K P) 1607 "lend" 1481 := ⟨by kernel_rfl, by kernel_rfl, by kernel_rfl⟩
theorem mt_ByteArray_take_back : Meth (K P) 1607 "take_back" 1488 := ⟨by kernel_rfl, by kernel_rfl, by kernel_rfl⟩
theorem mt_ByteArray_data : Meth (K P) 1607 "data" 1509 := ⟨by kernel_rfl, by kernel_rfl, by kernel_rfl⟩
theorem mt_Strided_lend : Meth (K P) 1646 "lend" 1629 := ⟨by kernel_rfl, by kernel_rfl, by kernel_rfl⟩
theorem mt_Strided_take_back : Meth (K P) 1646 "take_back" 1636 := ⟨by kernel_rfl, by kernel_rfl, by kernel_rfl⟩
theorem mt_Strided_data : Meth (K P) 1646 "data" 1643 := ⟨by kernel_rfl, by kernel_rfl, by kernel_rfl⟩
theorem mt_MemoryView_lay_out : Meth (K P) 1416 "lay_out" 1150 := ⟨by kernel_rfl, by kernel_rfl, by kernel_rfl⟩
theorem mt_MemoryView_check_open : Meth (K P) 1416 "check_open" 1157 := ⟨by kernel_rfl, by kernel_rfl, by kernel_rfl⟩
theorem mt_MemoryView_memory_now : Meth (K P) 1416 "memory_now" 1267 := ⟨by kernel_rfl, by kernel_rfl, by kernel_rfl⟩
theorem mt_MemoryView_item : Meth (K P) 1416 "item" 1281 := ⟨by kernel_rfl, by kernel_rfl, by kernel_rfl⟩
theorem mt_MemoryView_cut_first : Meth (K P) 1416 "cut_first" 1295 := ⟨by kernel_rfl, by kernel_rfl, by kernel_rfl⟩
theorem mt_MemoryView_check_writable : Meth (K P) 1416 "check_writable" 1302 := ⟨by kernel_rfl, by kernel_rfl, by kernel_rfl⟩
theorem mt_MemoryView_put : Meth (K P) 1416 "put" 1309 := ⟨by kernel_rfl, by kernel_rfl, by kernel_rfl⟩
theorem mt_MemoryView_put_cut : Meth (K P) 1416 "put_cut" 1316 := ⟨by kernel_rfl, by kernel_rfl, by kernel_rfl⟩
theorem mt_MemoryView_places_for : Meth (K P) 1416 "places_for" 1321 := ⟨by kernel_rfl, by kernel_rfl, by kernel_rfl⟩
theorem mt_MemoryView_tobytes : Meth (K P) 1416 "tobytes" 1355 := ⟨by kernel_rfl, by kernel_rfl, by kernel_rfl⟩
theorem mt_MemoryView_tolist : Meth (K P) 1416 "tolist" 1362 := ⟨by kernel_rfl, by kernel_rfl, by kernel_rfl⟩
theorem mt_MemoryView_lend : Meth (K P) 1416 "lend" 1406 := ⟨by kernel_rfl, by kernel_rfl, by kernel_rfl⟩
theorem mt_MemoryView_take_back : Meth (K P) 1416 "take_back" 1413 := ⟨by kernel_rfl, by kernel_rfl, by kernel_rfl⟩
theorem is_ByteArray_Holder : PySem.W.kitOne (K P) (.ref 1607) (.ref 905) = some true := by kernel_rfl
theorem is_Strided_Holder : PySem.W.kitOne (K P) (.ref 1646) (.ref 905) = some true := by kernel_rfl
theorem is_MemoryView_Holder : PySem.W.kitOne (K P) (.ref 1416) (.ref 905) = some true := by kernel_rfl
theorem is_ByteArray_MemoryView : PySem.W.kitOne (K P) (.ref 1607) (.ref 1416) = some false := by kernel_rfl
theorem is_Strided_MemoryView : PySem.W.kitOne (K P) (.ref 1646) (.ref 1416) = some false := by kernel_rfl
theorem is_Seen_MemoryView : PySem.W.kitOne (K P) (.ref 1118) (.ref 1416) = some false := by kernel_rfl
theorem is_MemoryView_MemoryView : PySem.W.kitOne (K P) (.ref 1416) (.ref 1416) = some true := by kernel_rfl
theorem is_ByteArray_Seen : PySem.W.kitOne (K P) (.ref 1607) (.ref 1118) = some false := by kernel_rfl
theorem is_Strided_Seen : PySem.W.kitOne (K P) (.ref 1646) (.ref 1118) = some false := by kernel_rfl
theorem is_Seen_Seen : PySem.W.kitOne (K P) (.ref 1118) (.ref 1118) = some true := by kernel_rfl
theorem is_Cut_Cut : PySem.W.kitOne (K P) (.ref 1071) (.ref 1071) = some true := by kernel_rfl
theorem is_tuple_Holder : PySem.W.kitOne (K P) (.type "tuple") (.ref 905) = some false := by kernel_rfl
theorem is_Cut_int : PySem.W.kitOne (K P) (.ref 1071) (.type "int") = some false := by kernel_rfl
theorem ty_Buffer {H : Hp} {a dx : Addr} {fs : List (Str × V)} (e : H a = some (.ins 926 dx fs)) : TyX (K P) H (.ref a) (.ref 926) := .base (.ins e (cl_Buffer P) (by kernel_rfl) (by kernel_rfl) (by kernel_rfl) (by kernel_rfl))
theorem ty_Cut {H : Hp} {a dx : Addr} {fs : List (Str × V)} (e : H a = some (.ins 1071 dx fs)) : TyX (K P) H (.ref a) (.ref 1071) := .base (.ins e (cl_Cut P) (by kernel_rfl) (by kernel_rfl) (by kernel_rfl) (by kernel_rfl))
theorem ty_Seen {H : Hp} {a dx : Addr} {fs : List (Str × V)} (e : H a = some (.ins 1118 dx fs)) : TyX (K P) H (.ref a) (.ref 1118) := .base (.ins e (cl_Seen P) (by kernel_rfl) (by kernel_rfl) (by kernel_rfl) (by kernel_rfl))
theorem ty_ByteArray {H : Hp} {a dx : Addr} {fs : List (Str × V)} (e : H a = some (.ins 1607 dx fs)) : TyX (K P) H (.ref a) (.ref 1607) := .base (.ins e (cl_ByteArray P) (by kernel_rfl) (by kernel_rfl) (by kernel_rfl) (by kernel_rfl))
theorem ty_Strided {H : Hp} {a dx : Addr} {fs : List (Str × V)} (e : H a = some (.ins 1646 dx fs)) : TyX (K P) H (.ref a) (.ref 1646) := .base (.ins e (cl_Strided P) (by kernel_rfl) (by kernel_rfl) (by kernel_rfl) (by kernel_rfl))
theorem ty_MemoryView {H : Hp} {a dx : Addr} {fs : List (Str × V)} (e : H a = some (.ins 1416 dx fs)) : TyX (K P) H (.ref a) (.ref 1416) := .base (.ins e (cl_MemoryView P) (by kernel_rfl) (by kernel_rfl) (by kernel_rfl) (by kernel_rfl))
end
end VL
end
section
set_option linter.all false
set_option maxRecDepth 100000
set_option maxHeartbeats 4000000
namespace VL
open PySem PySem.Spec PyProof.Rows L2 HT
section
variable {prog : Program} {w : World} {A : Around} {E : Value → Shared → Prop} {s : Shared}
theorem sliceApplied_rev {sl : Addr} {vl vu vs : Value} {n : Nat} {Q : Int × Int × Nat → Shared → Prop} (hs : s.heap.IsSliceOf sl vl vu vs) (pl : IsPart vl none) (pu : IsPart vu none) (ps : IsPart vs (some (-1)))
    (h : Q ((n : Int) - 1, -1, n) s) : wpAny (model prog w) A (Builtin.Slice.sliceApplied (.ref sl) (pure (n : Int))) Q E s := by
  obtain ⟨os, hos, hcs, hds⟩ := id hs
  unfold Builtin.Slice.sliceApplied Builtin.Slice.sliceFields
  refine wpAny_bind (wpAny_bind (wpAny_field hos hds (x := vl) rfl (wpAny_bind (wpAny_field hos hds (x := vu) rfl (wpAny_bind (wpAny_field hos hds (x := vs) rfl (wpAny_pure ?_)))))))
  refine wpAny_bind (slicePart_ ps ?_)
  show wpAny _ _ (if ((-1 : Int) == 0) = true then _ else _) _ _ s
  rw [if_neg (by decide)]
  refine wpAny_bind (slicePart_ pl (wpAny_bind (slicePart_ pu (wpAny_bind (wpAny_pure ?_)))))
  show wpAny _ _ (match Builtin.Slice.sliceAdjust none none (-1) (n : Int) with | (lo, hi) => pure (lo, (-1 : Int), Builtin.Slice.slicePlaces lo hi (-1))) _ _ s
  have e1 : Builtin.Slice.sliceAdjust none none (-1) (n : Int) = ((n : Int) - 1, -1) := by
    simp [Builtin.Slice.sliceAdjust]
  rw [e1]
  have e2 : Builtin.Slice.slicePlaces ((n : Int) - 1) (-1) (-1) = n := by
    unfold Builtin.Slice.slicePlaces
    simp
    omega
  show wpAny _ _ (pure ((n : Int) - 1, (-1 : Int), Builtin.Slice.slicePlaces ((n : Int) - 1) (-1) (-1))) _ _ s
  rw [e2]
  exact wpAny_pure h
theorem fm_congr {α β : Type} {f g : α → Option β} : ∀ {l : List α}, (∀ x ∈ l, f x = g x) → l.filterMap f = l.filterMap g
  | [], _ => rfl
  | a :: r, h => by
    rw [List.filterMap_cons, List.filterMap_cons, h a List.mem_cons_self, fm_congr (fun x hx => h x (List.mem_cons_of_mem _ hx))]
theorem pick_rev (xs : Array Value) : ((List.range xs.size).filterMap fun (m : Nat) => xs[((xs.size : Int) - 1 + (m : Int) * (-1)).toNat]?).toArray = xs.toList.reverse.toArray := by
  have h := PySem.W.krv_pick xs
  unfold slicePick at h
  rw [PySem.W.krv_bounds] at h
  have h2 : ((sliceRange ((xs.size : Int) - 1) (-1) (-1)).filterMap (xs[·]?)).toArray = xs.toList.reverse.toArray := h
  rw [PySem.W.krv_sliceRange] at h2
  rw [← h2, List.filterMap_map]
  congr 1
  apply fm_congr
  intro m hm
  have := List.mem_range.mp hm
  have e : ((xs.size : Int) - 1 + (m : Int) * (-1)).toNat = xs.size - 1 - m := by omega
  show xs[((xs.size : Int) - 1 + (m : Int) * (-1)).toNat]? = xs[xs.size - 1 - m]?
  rw [e]
theorem getItem_tuple_rev {t sl : Addr} {items : Array Value} {vl vu vs : Value} {Q : Value → Shared → Prop} (ht : IsTup s.heap t items) (hs : s.heap.IsSliceOf sl vl vu vs) (pl : IsPart vl none) (pu : IsPart vu none) (ps : IsPart vs (some (-1)))
    (h : Q (.ref s.heap.objs.size) { s with heap := s.heap.push { cls := .type "tuple", data := .seq items.toList.reverse.toArray } })
    (hsz : items.size ≤ sizeLine) : wpAny (model prog w) A (getItem (.ref t) (.ref sl)) Q E s := by
  have htake : sizeOk (.seq items.toList.reverse.toArray) := by
    show items.toList.reverse.toArray.size ≤ sizeLine
    rw [List.size_toArray, List.length_reverse, Array.length_toList]
    exact hsz
  obtain ⟨os, hos, hcs, hds⟩ := id hs
  have hTs : s.TypeIs (.ref sl) "slice" := ⟨os, hos, hcs⟩
  unfold getItem
  try with_reducible refine wpAny_holding ?_
  first | refine wpAny_bind (wpAny_pure ?_) | skip
  refine wpAny_bind (wpAny_sequenceKey ht.typeIs (by decide) ?_)
  refine wpAny_bind (wpAny_callSpecial?_slot (name := Str.ofString "__getitem__") ht.typeIs PyProof.Rows.slot_tuple_getitem
    (wpAny_call_entry PyProof.Rows.slot_tuple_getitem ht.typeIs entry_tuple_getitem ?_ (args_tuple_getitem _ _)))
  show wpAny _ _ (Builtin.Tuple.tupleItemsOf (.ref t) >>= _) _ _ s
  refine wpAny_bind (tupleItemsOf_ ht ?_)
  refine wpAny_bind (wpAny_typeOf hTs ?_)
  rw [if_pos (by decide)]
  refine wpAny_bind (sliceApplied_rev hs pl pu ps ?_)
  have hno : ¬ ((((items.size : Int) - 1) == 0 && (-1 : Int) == 1 && items.size == items.size) = true) := by
    intro q
    rw [Bool.and_eq_true, Bool.and_eq_true] at q
    exact absurd q.1.2 (by decide)
  show wpAny _ _ (if (((items.size : Int) - 1) == 0 && (-1 : Int) == 1 && items.size == items.size) = true then _ else _) _ _ s
  rw [if_neg hno, pick_rev]
  first
    | exact wpAny_bind (m := Builtin.Tuple.tupleExact _) (wpAny_newObj_type (wpAny_pure ⟨_, rfl, wpAny_pure h⟩) htake)
    | exact wpAny_bind (m := Builtin.Tuple.tupleExact _) (wpAny_newObj_type (wpAny_bind (wpAny_pure (wpAny_pure ⟨_, rfl, wpAny_pure h⟩))) htake)
    | exact wpAny_bind (wpAny_bind (m := Builtin.Tuple.tupleExact _) (wpAny_newObj_type (wpAny_pure (wpAny_pure ⟨_, rfl, wpAny_pure h⟩)) htake))
    | exact wpAny_bind (wpAny_bind (m := Builtin.Tuple.tupleExact _) (wpAny_newObj_type (wpAny_pure ⟨_, rfl, wpAny_pure h⟩) htake))
end
section
variable {X : Cx}
/-- t[::-1], a tuple -/
def tRevT (K : PySem.W.Frag) (te : TE) : TE := fun σ H Q => te σ H fun x H1 => ∃ a xs, x = .ref a ∧ SqT K H1 a xs ∧ ∀ p, H1 p = none → Q (.ref p) (upd H1 p (.tup xs.reverse))
theorem pe_revT {e : Expr} {te : TE} {k : Nat} {p1 p2 p3 pos : Pos} (he : PE X e te) : PE X (.Subscript e (.Slice none none (some (.UnaryOp .USub (.Constant (.int 1) k p1) p2)) p3) pos) (tRevT X.K te) := by
  refine ⟨fun pins s σ H Q I h => ?_⟩
  refine Subscript_ (thn (he.run pins s σ H _ I h) fun v s1 ⟨x, H1, I1, r1, q1⟩ => ?_)
  obtain ⟨a, xs, ex, hx, q⟩ := q1
  subst ex
  cases r1
  have hst : PO X (some (.UnaryOp .USub (.Constant (.int 1) k p1) p2)) (tPart (tUn (rU fun i => .int (-i)) (tC (.int 1)))) := po_some (pe_un un_neg pe_int)
  refine wpAny_Slice (thn (po_none.run pins s1 σ H1 (fun o H2 => o = none ∧ H2 = H1) I1 ⟨rfl, rfl⟩) fun vl s2 ⟨l, H2, I2, pl, el, e2⟩ => ?_)
  subst el e2
  refine thn (po_none.run pins s2 σ H2 (fun o H3 => o = none ∧ H3 = H2) I2 ⟨rfl, rfl⟩) fun vu s3 ⟨u, H3, I3, pu, eu, e3⟩ => ?_
  subst eu e3
  refine thn (hst.run pins s3 σ H3 (fun o H4 => o = some (-1) ∧ H4 = H3) I3 ⟨1, rfl, -1, rfl, rfl, rfl⟩) fun vs s4 ⟨o, H4, I4, ps, eo, e4⟩ => ?_
  subst eo e4
  have I5 : Inv X pins σ H4 { s4 with heap := s4.heap.push { cls := .type "slice", data := .fields #[vl, vu, vs] } } := I4.kept (t' := s4.toks) fun b ob q => Heap.get?_push_of_some _ q
  obtain ⟨its, r, ht, hz⟩ := I5.tuple hx
  have hlen := r.length
  show wpAny (model X.prog X.w) X.A (subscriptTail e (.Slice none none (some (.UnaryOp .USub (.Constant (.int 1) k p1) p2)) p3) (.ref a) (.ref s4.heap.objs.size)) (EP X pins σ Q) X.xe { s4 with heap := s4.heap.push { cls := .type "slice", data := .fields #[vl, vu, vs] } }
  refine tail_any (ops := [.ref a, .ref s4.heap.objs.size]) ht.typeIs (PyProof.Rows.slot_tuple_getitem.lookup) ?_ (by with_unfolding_all rfl)
  refine getItem_tuple_rev ht (Heap.IsSliceOf.new _ vl vu vs) pl pu ps ?_ (by rw [List.size_toArray]; omega)
  refine ⟨.ref _, _, I5.laid (t' := s4.toks) (o := .tup xs.reverse) (fun b ob q => Heap.get?_push_of_some _ q) (Nat.le_refl _) ?_, rfl, q _ (I5.hok.fresh (Nat.le_refl _))⟩
  exact ⟨by rw [List.length_reverse]; exact hz, _, r.reverse, ⟨_, Heap.get?_push_size _ rfl, rfl, _, rfl⟩⟩
/-- an expression that the proof never comes to -/
def tNevE : TE := fun _ _ _ => False
theorem pe_nev {e : Expr} : PE X e tNevE := ⟨fun _ _ _ _ _ _ h => h.elim⟩
end
end VL
end
section
set_option linter.all false
set_option maxRecDepth 100000
set_option maxHeartbeats 4000000
namespace VL
open PySem PySem.Spec PyProof.Rows L2
section
variable {X : Cx} {pins : List (Addr × Obj)} {σ : L2.St} {H : Hp} {s : Shared}
/-- a turn of a walk of new tuples, the tuple tracked -/
theorem walkT_item {E : Value → Shared → Prop} {z : Addr} {fpA own wr : List Addr} {n i : Nat} {Pt : Nat → Array Value → Prop} {St' : Nat → Heap → Prop} {Mid : Nat → Addr → Heap → Prop} {elts : List Expr} {kk : Nat} {tpos : Pos} {f : List V}
    (W : WalksT X.prog X.w X.A z fpA wr n Pt St' Mid) (I : Inv X pins σ H s) (hf : ∀ b ∈ own, FpOk X pins H b) (hlive : ∀ b ∈ own, b < s.heap.objs.size) (hwr : ∀ b ∈ wr, b ∈ own) (hi : i < n) (hst : St' i s.heap) (hsz : f.length ≤ sizeLine) (hv : ∀ vals, Pt i vals → Vals f vals.toList) :
    wpAny (model X.prog X.w) X.A (pyNext (.ref z)) (fun r s1 => ∃ u, r = some u ∧ wpAny (model X.prog X.w) X.A (letOwnedTupleGo (.Tuple elts kk tpos) (.ref z) u) (fun _ s2 => ∃ T, u = .ref T ∧ H T = none ∧ Inv X pins σ (upd H T (.tup f)) s2 ∧ St' (i + 1) s2.heap ∧ ∀ b ∈ own, b ≠ T) E s1) E s := by
  refine W.item i s _ _ hi hst fun T vals h' tk hp hT htup mid hk => ⟨_, rfl, ?_⟩
  refine W.go elts kk tpos i T { s with heap := h', toks := tk } _ _ mid fun h'' st'' hk2 => ?_
  have hn : H T = none := I.hok.fresh hT
  obtain ⟨o, ho, hc, m, hd⟩ := htup
  have ho2 : h''.get? T = some o := hk2 T o (W.apart _ _ _ mid) ho
  have new : ObjOk X.prog X.w (upd H T (.tup f)) h'' T (.tup f) := ⟨hsz, vals.toList, hv vals hp, ⟨o, ho2, hc, m, by simpa using hd⟩⟩
  refine ⟨T, rfl, hn, I.turnedNew (ch := wr) (fun b ob hb q => hk2 b ob hb (hk b ob hb q)) (fun b hb => hf b (hwr b hb)) hT new, st'', fun b hb => ?_⟩
  exact Nat.ne_of_lt (Nat.lt_of_lt_of_le (hlive b hb) hT)
theorem ne_of_cls {h : Heap} {a b : Addr} {its : Array Value} {t i} (x : h.IsTuple a its) (y : h.IsTupleIter b t i) : a ≠ b := by
  rintro rfl
  obtain ⟨o, e, c, _⟩ := x
  obtain ⟨o', e', c', _⟩ := y
  rw [e] at e'
  cases e'
  rw [c] at c'
  exact absurd c' (by decide)
end
/-! enumerate(tuple) -/
/-- the tuple at a, each item in a new pair -/
def Itet (K : PySem.W.Frag) (a : Addr) : It :=
  ⟨fun i H => ∃ (xs : List V) (x : V), SqT K H a xs ∧ xs[i]? = some x, fun i H v H' => ∃ T x, v = .ref T ∧ H T = none ∧ H' = upd H T (.tup [.int (i : Nat), x]) ∧ ∀ xs, SqT K H a xs → xs[i]? = some x, fun i H => ∃ xs : List V, SqT K H a xs ∧ xs.length ≤ i⟩
theorem turn_enumT {P : Program} {w : World} {K : PySem.W.Frag} {elts : List Expr} {kk : Nat} {tpos : Pos} (a e it : Addr) :
    Turn P w K (.Tuple elts kk tpos) (Itet K a) [e, it] e (fun i h => (∃ old, IsEnum h e it ((i : Nat) : Int) old) ∧ h.IsTupleIter it a i ∧ e ≠ it) where
  mem := by simp
  obj := fun i h st b hb => by
    obtain ⟨⟨old, he⟩, ⟨o, ho, hc, hd⟩, _⟩ := st
    have e' : b = e ∨ b = it := by simpa using hb
    rcases e' with z | z
    · rw [z]; exact ⟨_, he, fun v q => nomatch q⟩
    · rw [z]; exact ⟨o, ho, fun v q => by rw [hd] at q; cases q⟩
  keep := fun i h h' st k => let ⟨⟨old, he⟩, hi, hne⟩ := st; ⟨⟨old, k e (by simp) _ he⟩, hi.at fun o q => k it (by simp) o q, hne⟩
  item := by
    intro X hP hw hK hc i pins s σ H E I hf st hg
    subst hP hw hK
    obtain ⟨⟨old, he⟩, hit, hne⟩ := st
    obtain ⟨xs, x, hq, hx⟩ := hg
    obtain ⟨its, rv, p, hz⟩ := I.tuple hq
    have p' : s.heap.IsTuple a its.toArray := p
    obtain ⟨u, hu, ru⟩ := rv.get hx
    have hel : e < s.heap.objs.size := Heap.lt_size he
    have hil : it < s.heap.objs.size := by obtain ⟨_, q, _⟩ := hit; exact Heap.lt_size q
    have hea : e ≠ a := by
      rintro rfl
      obtain ⟨o, e1, c1, _⟩ := p'
      have e2 : s.heap.get? e = _ := he
      rw [e1] at e2
      cases e2
      exact (show ¬ (Value.type "enumerate" = Value.type "tuple") by decide) c1
    have hlen : i < its.toArray.size := by
      have := (List.getElem?_eq_some_iff.mp hx).1
      have := rv.length
      simp only [List.size_toArray]
      omega
    have D := Draws.tuple (prog := X.prog) (w := X.w) (A := X.A.in1) (I.ok.hd hc) it a (ne_of_cls p' hit) its.toArray
    have W := WalksT.enumerateD D e hne (by simp [hne, hea]) (by simp)
    have live : ∀ b ∈ [e, it], b < s.heap.objs.size := by
      intro b hb
      have e' : b = e ∨ b = it := by simpa using hb
      rcases e' with z | z
      · rw [z]; exact hel
      · rw [z]; exact hil
    refine wpAny_mono (walkT_item (f := [.int (i : Nat), x]) (own := [e, it]) (elts := elts) (kk := kk) (tpos := tpos) W I hf live (fun _ z => z) hlen ⟨⟨old, he⟩, hit, p'⟩ (by show 2 ≤ sizeLine; decide) ?_) (fun r s1 ⟨u1, hr, hw⟩ => ⟨u1, hr, ?_⟩) (fun _ _ z => z)
    · rintro vals ⟨t, y, hy, rfl⟩
      have : its[i]? = some y := by simpa using hy
      rw [hu] at this
      cases this
      exact .cons ⟨_, rfl⟩ (.cons ru .nil)
    · refine wpAny_mono hw (fun _ s2 ⟨T, hu1, hn, I2, ⟨he2, hit2, _⟩, hb⟩ => ?_) (fun _ _ z => z)
      subst hu1
      refine ⟨.ref T, _, I2, rfl, ⟨T, x, rfl, hn, rfl, fun ys hy => by rw [I.tuple_inj hy hq]; exact hx⟩, ⟨?_, hit2, hne⟩, fun b hbm => ?_⟩
      · exact he2
      · rw [upd_ne (hb b hbm)]
        exact (hf b hbm).1
  done := by
    intro X hP hw hK hc i pins s σ H E I hf st hg
    subst hP hw hK
    obtain ⟨⟨old, he⟩, hit, hne⟩ := st
    obtain ⟨xs, hq, hx⟩ := hg
    obtain ⟨its, rv, p, hz⟩ := I.tuple hq
    have p' : s.heap.IsTuple a its.toArray := p
    obtain ⟨f0, f1, f2, f3, f4, f5⟩ := hf it (by simp)
    have hl := rv.length
    obtain ⟨o, ho, hcl, hd⟩ := id hit
    unfold pyNext
    have hT : s.TypeIs (.ref e) "enumerate" := ⟨_, he, rfl⟩
    refine wpAny_bind (wpAny_attempt (wpAny_callSpecial?_slot (name := Str.ofString "__next__") hT F.slot_enumerate_next
      (wpAny_call_entry F.slot_enumerate_next hT F.entry_enumerate_next ?_ (F.args_enumerate_next_1 _))))
    show wpAny _ _ (field (.ref e) 2 >>= _) _ _ _
    refine wpAny_bind (wpAny_field he rfl (x := .ref it) rfl ?_)
    refine wpAny_bind (wpAny_nextOf_tuple_end (I.ok.hd hc) hit p' (by simp; omega) fun h' x he' hx' => ?_)
    obtain ⟨o, ho, hc⟩ := hx'
    refine wpAny_bind (wpAny_isInstance (T := "StopIteration") (b := true) ⟨o, ho, hc⟩ isSubtype_stop ?_)
    exact wpAny_pure ⟨rfl, I.turned (t' := s.toks) (fun b o hb q => he' b o hb q) f0 f1 f3 f4 f5⟩
  self := fun A i s Q E st h => let ⟨⟨_, he⟩, _⟩ := st; wpAny_pyIter_enum he h
/-- enumerate(v): its two new cells -/
theorem meets_enum1 {v : Value} {o : Obj} {H : Heap → Prop} (B : Begins v o H) :
    Meets (Builtin.«enumerate.__new__» ⟨[.type "enumerate", v], []⟩) (fun _ R s => H s.heap ∧
      R (.ok (.ret (.ref (s.heap.push o).objs.size))) { s with heap := (s.heap.push o).push { cls := .type "enumerate", data := .fields #[.none, .bool false, .ref s.heap.objs.size, rawInt 0, .none, .none] } }) :=
  .of_wp fun prog w A R s h => by
    obtain ⟨hp, g, d, tk, os⟩ := s; obtain ⟨h1, h⟩ := h
    have hsub := sub_enumerate
    have q1 : ∀ {A' : Around} {E : Value → Shared → Prop} {Q : Value → Shared → Prop}, Q (.ref hp.objs.size) ⟨hp.push o, g, d, tk, os⟩ → wpAny (model prog w) A' (pyIter v) Q E ⟨hp, g, d, tk, os⟩ :=
      fun q => B.iter prog w _ _ ⟨hp, g, d, tk, os⟩ _ h1 q
    wp_walk using q1
    refine wpAny_stack_any fun st => wpAny_pure ?_
    split
    · rename_i c _ _ _ _ _
      cases (c == Value.type "enumerate")
      · wp_walk using q1
        exact ⟨_, rfl, h⟩
      · wp_walk using q1
        exact ⟨_, rfl, h⟩
    · wp_walk using q1
      exact ⟨_, rfl, h⟩
theorem enum_begins1 {prog : Program} {w : World} {A : Around} {E : Value → Shared → Prop} {s : Shared} {v : Value} {o : Obj} {H : Heap → Prop} {Q : Value → Shared → Prop} (B : Begins v o H) (h1 : H s.heap)
    (h : ∀ h', IsEnum h' (s.heap.objs.size + 1) s.heap.objs.size 0 .none → h'.get? s.heap.objs.size = some o → h'.objs.size = s.heap.objs.size + 2 →
      (∀ b o, s.heap.get? b = some o → h'.get? b = some o) → Q (.ref (s.heap.objs.size + 1)) { s with heap := h' }) :
    wpAny (model prog w) A (call (.type "enumerate") [v]) Q E s := by
  refine callType_new F.called_enumerate (by decide) (F.typeCall_enumerate_1 _) (F.newCall_enumerate_1 _) (fun obj => F.args_object_init_2 obj _) F.entry_enumerate_new
    (meets_enum1 B) ⟨h1, ?_⟩
  have hz : (s.heap.push o).objs.size = s.heap.objs.size + 1 := Heap.size_push ..
  show _ ∧ _
  rw [hz]
  have he : IsEnum ((s.heap.push o).push { cls := .type "enumerate", data := .fields #[.none, .bool false, .ref s.heap.objs.size, rawInt 0, .none, .none] }) (s.heap.objs.size + 1) s.heap.objs.size 0 .none := by
    have := Heap.get?_push_size (s.heap.push o) (o := { cls := .type "enumerate", data := .fields #[.none, .bool false, .ref s.heap.objs.size, rawInt 0, .none, .none] }) rfl
    rw [hz] at this; exact this
  refine ⟨⟨_, he, rfl⟩, h _ he (Heap.get?_push_of_some _ (Heap.get?_push_size _ B.free)) (by rw [Heap.size_push, hz]) fun b o x => Heap.get?_push_of_some _ (Heap.get?_push_of_some _ x)⟩
def iEnumT (K : PySem.W.Frag) (ta : TA) : TI := fun σ H R => ta σ H fun vs H1 => ∃ a xs, vs = [.ref a] ∧ SqT K H1 a xs ∧ R (Itet K a) H1
theorem pi_enumT {X : Cx} {e : Expr} {ta : TA} {p pos tpos : Pos} {elts : List Expr} {kk : Nat} (hg : Gl X "enumerate") (hm : X.mg "enumerate" = none) (ha : PA X [e] ta) (hs : starEach [e] X.env = [(false, eval e X.env)] := by rfl) :
    PI X (.Tuple elts kk tpos) (.Call (.Name "enumerate" p) [e] [] pos) (iEnumT X.K ta) := by
  refine ⟨fun pins s σ H R I h => ?_⟩
  refine Call_ (ld_blt I hg hm boot_enumerate (PyProof.Rows.callWith_type1 (thn (ha.run pos pins s σ H _ I h) fun us s1 ⟨vs, H1, I1, r1, q1⟩ => ?_) hs rfl))
  obtain ⟨a, xs, ex, hq, q⟩ := q1
  subst ex
  cases r1 with
  | cons r rr =>
    cases rr
    cases r
    obtain ⟨its, rv, p', hz⟩ := I1.tuple hq
    refine enum_begins1 (begins_tuple a its.toArray) (show s1.heap.IsTuple a its.toArray from p') fun h' he hit hsz hk => wpAny_pyIter_enum he ?_
    have I2 : Inv X pins σ H1 { s1 with heap := h' } := I1.kept (t' := s1.toks) hk
    refine ⟨s1.heap.objs.size + 1, [s1.heap.objs.size + 1, s1.heap.objs.size], _, _, H1, rfl, I2, turn_enumT a (s1.heap.objs.size + 1) s1.heap.objs.size, ⟨⟨.none, he⟩, ⟨_, hit, rfl, rfl⟩, Nat.succ_ne_self _⟩, fun b hb => ?_, q⟩
    have e' : b = s1.heap.objs.size + 1 ∨ b = s1.heap.objs.size := by simpa using hb
    have hle : s1.heap.objs.size ≤ b := by
      rcases e' with z | z
      · rw [z]; exact Nat.le_add_right _ _
      · rw [z]; exact Nat.le_refl _
    exact I1.fpOk hle (I1.hok.fresh hle)
end VL
end
section
set_option linter.all false
set_option maxRecDepth 100000
set_option maxHeartbeats 4000000
namespace VL
open PySem PySem.Spec PyProof.Rows L2
/-! zip of three tuples -/
def Itz3 (K : PySem.W.Frag) (a b c : Addr) : It :=
  ⟨fun i H => ∃ (xs ys zs : List V) (x y z : V), SqT K H a xs ∧ SqT K H b ys ∧ SqT K H c zs ∧ xs[i]? = some x ∧ ys[i]? = some y ∧ zs[i]? = some z,
    fun i H v H' => ∃ T x y z, v = .ref T ∧ H T = none ∧ H' = upd H T (.tup [x, y, z]) ∧ (∀ xs, SqT K H a xs → xs[i]? = some x) ∧ (∀ ys, SqT K H b ys → ys[i]? = some y) ∧ ∀ zs, SqT K H c zs → zs[i]? = some z,
    fun i H => ∃ xs ys zs : List V, SqT K H a xs ∧ SqT K H b ys ∧ SqT K H c zs ∧ xs.length = i ∧ ys.length = i ∧ zs.length = i⟩
theorem turn_zip3 {P : Program} {w : World} {K : PySem.W.Frag} {elts : List Expr} {kk : Nat} {tpos : Pos} {a b c z TI TO i1 i2 i3 : Addr} (S : ZipSep3 z TI TO i1 i2 i3 [i1, a] [i2, b] [i3, c]) :
    Turn P w K (.Tuple elts kk tpos) (Itz3 K a b c) [z, TI, TO, i1, i2, i3] z (fun i h => IsZip h z TI TO .none ∧ IsTupOf3 h TI (.ref i1) (.ref i2) (.ref i3) ∧ (∃ x y u, IsTupOf3 h TO x y u) ∧ h.IsTupleIter i1 a i ∧ h.IsTupleIter i2 b i ∧ h.IsTupleIter i3 c i) where
  mem := by simp
  obj := fun i h st d hd => by
    obtain ⟨hz, hTI, ⟨x, y, u, hTO⟩, ⟨o1, e1, _, d1⟩, ⟨o2, e2, _, d2⟩, ⟨o3, e3, _, d3⟩⟩ := st
    have e' : d = z ∨ d = TI ∨ d = TO ∨ d = i1 ∨ d = i2 ∨ d = i3 := by simpa using hd
    rcases e' with q | q | q | q | q | q
    · rw [q]; exact ⟨_, hz, fun v q => nomatch q⟩
    · rw [q]; exact ⟨_, hTI, fun v q => nomatch q⟩
    · rw [q]; exact ⟨_, hTO, fun v q => nomatch q⟩
    · rw [q]; exact ⟨o1, e1, fun v q => by rw [d1] at q; cases q⟩
    · rw [q]; exact ⟨o2, e2, fun v q => by rw [d2] at q; cases q⟩
    · rw [q]; exact ⟨o3, e3, fun v q => by rw [d3] at q; cases q⟩
  keep := fun i h h' st k => by
    obtain ⟨hz, hTI, ⟨x, y, u, hTO⟩, h1, h2, h3⟩ := st
    exact ⟨k z (by simp) _ hz, k TI (by simp) _ hTI, ⟨x, y, u, k TO (by simp) _ hTO⟩, h1.at fun o q => k i1 (by simp) o q, h2.at fun o q => k i2 (by simp) o q, h3.at fun o q => k i3 (by simp) o q⟩
  item := by
    intro X hP hw hK hc i pins s σ H E I hf st hg
    subst hP hw hK
    obtain ⟨hz, hTI, ⟨x0, y0, u0, hTO⟩, h1, h2, h3⟩ := st
    obtain ⟨xs, ys, zs, x, y, u, hqx, hqy, hqz, hx, hy, hu⟩ := hg
    obtain ⟨its1, rv1, p1, _⟩ := I.tuple hqx
    obtain ⟨its2, rv2, p2, _⟩ := I.tuple hqy
    obtain ⟨its3, rv3, p3, _⟩ := I.tuple hqz
    have p1' : s.heap.IsTuple a its1.toArray := p1
    have p2' : s.heap.IsTuple b its2.toArray := p2
    have p3' : s.heap.IsTuple c its3.toArray := p3
    obtain ⟨v1, hv1, r1⟩ := rv1.get hx
    obtain ⟨v2, hv2, r2⟩ := rv2.get hy
    obtain ⟨v3, hv3, r3⟩ := rv3.get hu
    have live : ∀ d ∈ [z, TI, TO, i1, i2, i3], d < s.heap.objs.size := by
      intro d hd
      have e' : d = z ∨ d = TI ∨ d = TO ∨ d = i1 ∨ d = i2 ∨ d = i3 := by simpa using hd
      obtain ⟨o1, e1, _⟩ := id h1
      obtain ⟨o2, e2, _⟩ := id h2
      obtain ⟨o3, e3, _⟩ := id h3
      rcases e' with q | q | q | q | q | q
      · rw [q]; exact Heap.lt_size hz
      · rw [q]; exact Heap.lt_size hTI
      · rw [q]; exact Heap.lt_size hTO
      · rw [q]; exact Heap.lt_size e1
      · rw [q]; exact Heap.lt_size e2
      · rw [q]; exact Heap.lt_size e3
    have l1 : i < its1.toArray.size := by
      have := (List.getElem?_eq_some_iff.mp hv1).1
      simpa using this
    have l2 : i < its2.toArray.size := by
      have := (List.getElem?_eq_some_iff.mp hv2).1
      simpa using this
    have l3 : i < its3.toArray.size := by
      have := (List.getElem?_eq_some_iff.mp hv3).1
      simpa using this
    have D1 := Draws.tuple (prog := X.prog) (w := X.w) (A := X.A.in1) (I.ok.hd hc) i1 a (ne_of_cls p1' h1) its1.toArray
    have D2 := Draws.tuple (prog := X.prog) (w := X.w) (A := X.A.in1) (I.ok.hd hc) i2 b (ne_of_cls p2' h2) its2.toArray
    have D3 := Draws.tuple (prog := X.prog) (w := X.w) (A := X.A.in1) (I.ok.hd hc) i3 c (ne_of_cls p3' h3) its3.toArray
    have W := WalksT.zipD3 S D1 D2 D3
    refine wpAny_mono (walkT_item (f := [x, y, u]) (own := [z, TI, TO, i1, i2, i3]) (elts := elts) (kk := kk) (tpos := tpos) W I hf live (by
      intro d hd
      have e' : d = z ∨ d = TO ∨ d = i1 ∨ d = i2 ∨ d = i3 := by simpa using hd
      rcases e' with q | q | q | q | q <;> rw [q] <;> simp) (show i < min (min its1.toArray.size its2.toArray.size) its3.toArray.size by omega) ⟨hz, hTI, ⟨_, _, _, hTO⟩, ⟨h1, p1'⟩, ⟨h2, p2'⟩, ⟨h3, p3'⟩⟩ (by show 3 ≤ sizeLine; decide) ?_) (fun r s1 ⟨w1, hr, hw⟩ => ⟨w1, hr, ?_⟩) (fun _ _ z => z)
    · rintro vals ⟨y1, y2, y3, e1, e2, e3, rfl⟩
      have a1 : its1[i]? = some y1 := by simpa using e1
      have a2 : its2[i]? = some y2 := by simpa using e2
      have a3 : its3[i]? = some y3 := by simpa using e3
      rw [hv1] at a1
      rw [hv2] at a2
      rw [hv3] at a3
      cases a1
      cases a2
      cases a3
      exact .cons r1 (.cons r2 (.cons r3 .nil))
    · refine wpAny_mono hw (fun _ s2 ⟨T, hu1, hn, I2, ⟨hz2, hTI2, hTO2, ⟨g1, _⟩, ⟨g2, _⟩, ⟨g3, _⟩⟩, hb⟩ => ?_) (fun _ _ z => z)
      subst hu1
      refine ⟨.ref T, _, I2, rfl, ⟨T, x, y, u, rfl, hn, rfl, fun ls hl => by rw [I.tuple_inj hl hqx]; exact hx, fun ls hl => by rw [I.tuple_inj hl hqy]; exact hy, fun ls hl => by rw [I.tuple_inj hl hqz]; exact hu⟩, ⟨hz2, hTI2, hTO2, g1, g2, g3⟩, fun d hd => ?_⟩
      rw [upd_ne (hb d hd)]
      exact (hf d hd).1
  done := by
    intro X hP hw hK hc i pins s σ H E I hf st hg
    subst hP hw hK
    obtain ⟨hz, hTI, ⟨x0, y0, u0, hTO⟩, h1, h2, h3⟩ := st
    obtain ⟨xs, ys, zs, hqx, hqy, hqz, hx, hy, hu⟩ := hg
    obtain ⟨its1, rv1, p1, _⟩ := I.tuple hqx
    obtain ⟨its2, rv2, p2, _⟩ := I.tuple hqy
    obtain ⟨its3, rv3, p3, _⟩ := I.tuple hqz
    have p1' : s.heap.IsTuple a its1.toArray := p1
    have p2' : s.heap.IsTuple b its2.toArray := p2
    have p3' : s.heap.IsTuple c its3.toArray := p3
    have D1 := Draws.tuple (prog := X.prog) (w := X.w) (A := X.A.in1) (I.ok.hd hc) i1 a (ne_of_cls p1' h1) its1.toArray
    have D2 := Draws.tuple (prog := X.prog) (w := X.w) (A := X.A.in1) (I.ok.hd hc) i2 b (ne_of_cls p2' h2) its2.toArray
    have D3 := Draws.tuple (prog := X.prog) (w := X.w) (A := X.A.in1) (I.ok.hd hc) i3 c (ne_of_cls p3' h3) its3.toArray
    have W := WalksT.zipD3 S D1 D2 D3
    have e1 := rv1.length
    have e2 := rv2.length
    have e3 := rv3.length
    have hm : min (min its1.toArray.size its2.toArray.size) its3.toArray.size = i := by
      simp only [List.size_toArray]
      omega
    refine W.done s _ _ (by rw [hm]; exact ⟨hz, hTI, ⟨_, _, _, hTO⟩, ⟨h1, p1'⟩, ⟨h2, p2'⟩, ⟨h3, p3'⟩⟩) fun h' tk hk => ⟨rfl, ?_⟩
    refine I.step (g' := s.gens) (d' := s.drawn) (ch := [z, TO, i1, i2, i3]) (fun d hd => ?_) (fun d o _ _ hd e _ => hk d o hd e) (fun d o _ _ hd e _ => ⟨o.slots, hk d o hd e⟩) (fun _ _ _ _ n => n)
      (fun d o hd e => ⟨o, hk d o hd e⟩) (fun _ _ e => e) (fun _ _ _ e => e) (fun d ps e => ⟨#[], by rw [e]; simp⟩) (fun m hm => ?_) (fun d u e => ?_) I.bare
    · have f := hf d (by
        have e' : d = z ∨ d = TO ∨ d = i1 ∨ d = i2 ∨ d = i3 := by simpa using hd
        rcases e' with q | q | q | q | q <;> rw [q] <;> simp)
      exact ⟨f.2.2.2.1, f.2.1, f.2.2.2.2.1, f.2.2.2.2.2⟩
    · obtain ⟨o, es, ep, ho, r⟩ := hm
      refine ⟨o, es, ep, hk _ o (fun hd => ?_) ho, r⟩
      have f := hf X.env.locals (by
        have e' : X.env.locals = z ∨ X.env.locals = TO ∨ X.env.locals = i1 ∨ X.env.locals = i2 ∨ X.env.locals = i3 := by simpa using hd
        rcases e' with q | q | q | q | q <;> rw [q] <;> simp)
      exact f.2.1 rfl
    · have nit : ∀ d u, H d = some u → d ∉ [z, TO, i1, i2, i3] := fun d u e hd => by
        have f := hf d (by
          have e' : d = z ∨ d = TO ∨ d = i1 ∨ d = i2 ∨ d = i3 := by simpa using hd
          rcases e' with q | q | q | q | q <;> rw [q] <;> simp)
        rw [f.1] at e
        cases e
      refine (I.hok d u e).stay (fun c v hc q => hk c v ?_ q) (fun _ q => q) fun _ _ q => q
      rcases hc with z | z
      · rw [z]; exact nit d u e
      · exact nit c _ z
  self := fun A i s Q E st h => wpAny_pyIter_zip st.1 h
def iZip3 (K : PySem.W.Frag) (ta : TA) : TI := fun σ H R => ta σ H fun vs H1 => ∃ a b c xs ys zs, vs = [.ref a, .ref b, .ref c] ∧ SqT K H1 a xs ∧ SqT K H1 b ys ∧ SqT K H1 c zs ∧ R (Itz3 K a b c) H1
theorem pi_zip3 {X : Cx} {e e2 e3 : Expr} {ta : TA} {p pos tpos : Pos} {elts : List Expr} {kk : Nat} (hg : Gl X "zip") (hm : X.mg "zip" = none) (ha : PA X [e, e2, e3] ta)
    (hs : starEach [e, e2, e3] X.env = (false, eval e X.env) :: starEach [e2, e3] X.env := by rfl) (hpl : (backTo pos (starEach [e2, e3] X.env)).any (·.1) = false := by rfl) :
    PI X (.Tuple elts kk tpos) (.Call (.Name "zip" p) [e, e2, e3] [] pos) (iZip3 X.K ta) := by
  refine ⟨fun pins s σ H R I h => ?_⟩
  refine Call_ (ld_blt I hg hm PyProof.Rows.boot_zip (PyProof.Rows.callWith_type1 (thn (ha.run pos pins s σ H _ I h) fun us s1 ⟨vs, H1, I1, r1, q1⟩ => ?_) hs hpl))
  obtain ⟨a, b, c, xs, ys, zs, ex, hqx, hqy, hqz, q⟩ := q1
  subst ex
  cases r1 with
  | cons r rr =>
    cases rr with
    | cons r' rr =>
      cases rr with
      | cons r'' rr =>
        cases rr
        cases r
        cases r'
        cases r''
        obtain ⟨its1, rv1, p1, _⟩ := I1.tuple hqx
        obtain ⟨its2, rv2, p2, _⟩ := I1.tuple hqy
        obtain ⟨its3, rv3, p3, _⟩ := I1.tuple hqz
        have p1' : s1.heap.IsTuple a its1.toArray := p1
        have p2' : s1.heap.IsTuple b its2.toArray := p2
        have p3' : s1.heap.IsTuple c its3.toArray := p3
        obtain ⟨o1, ho1, _⟩ := id p1
        obtain ⟨o2, ho2, _⟩ := id p2
        obtain ⟨o3, ho3, _⟩ := id p3
        refine zip_begins3 (begins_tuple a its1.toArray) (begins_tuple b its2.toArray) (begins_tuple c its3.toArray) p1' p2' p3' fun h' hz hTI hTO g1 g2 g3 hsz hk => wpAny_pyIter_zip hz ?_
        have I2 : Inv X pins σ H1 { s1 with heap := h' } := I1.kept (t' := s1.toks) hk
        have S : ZipSep3 (s1.heap.objs.size + 5) (s1.heap.objs.size + 3) (s1.heap.objs.size + 4) s1.heap.objs.size (s1.heap.objs.size + 1) (s1.heap.objs.size + 2) [s1.heap.objs.size, a] [s1.heap.objs.size + 1, b] [s1.heap.objs.size + 2, c] :=
          zip_sep3 (fun d hd => by rw [List.mem_singleton.mp hd]; exact Heap.lt_size ho1) (fun d hd => by rw [List.mem_singleton.mp hd]; exact Heap.lt_size ho2) (fun d hd => by rw [List.mem_singleton.mp hd]; exact Heap.lt_size ho3)
        refine ⟨s1.heap.objs.size + 5, [s1.heap.objs.size + 5, s1.heap.objs.size + 3, s1.heap.objs.size + 4, s1.heap.objs.size, s1.heap.objs.size + 1, s1.heap.objs.size + 2], _, _, H1, rfl, I2, turn_zip3 S, ⟨hz, hTI, ⟨_, _, _, hTO⟩, ⟨_, g1, rfl, rfl⟩, ⟨_, g2, rfl, rfl⟩, ⟨_, g3, rfl, rfl⟩⟩, fun d hd => ?_, q⟩
        have hle : s1.heap.objs.size ≤ d := by
          have e' : d = s1.heap.objs.size + 5 ∨ d = s1.heap.objs.size + 3 ∨ d = s1.heap.objs.size + 4 ∨ d = s1.heap.objs.size ∨ d = s1.heap.objs.size + 1 ∨ d = s1.heap.objs.size + 2 := by simpa using hd
          rcases e' with z | z | z | z | z | z <;> rw [z] <;> first | exact Nat.le_add_right _ _ | exact Nat.le_refl _
        exact I1.fpOk hle (I1.hok.fresh hle)
end VL
end
section
set_option linter.all false
set_option maxRecDepth 100000
set_option maxHeartbeats 4000000
/-! How the tracked objects evolve: counters may change, lists of X may change, all else stays. -/
namespace VL
open PySem PySem.Spec PyProof.Rows L2
inductive Lk : HO → HO → Prop where
  | same (o : HO) : Lk o o
  | buf (dx : Addr) (m p w k z s f o : Str × V) (i j : Int) : Lk (.ins CBuffer dx [m, p, w, k, z, s, f, o, ("shares", .int i)]) (.ins CBuffer dx [m, p, w, k, z, s, f, o, ("shares", .int j)])
  | ba (dx : Addr) (m : Str × V) (i j : Int) : Lk (.ins CByteArray dx [m, ("standing", .int i)]) (.ins CByteArray dx [m, ("standing", .int j)])
  | mv (dx : Addr) (b f p k w z s r c o : Str × V) (i j : Int) : Lk (.ins CMemoryView dx [b, f, p, k, w, z, s, r, c, o, ("many_lent", .int i), ("told", .non)]) (.ins CMemoryView dx [b, f, p, k, w, z, s, r, c, o, ("many_lent", .int j), ("told", .non)])
theorem Lk.trans {a b c : HO} (h : Lk a b) (k : Lk b c) : Lk a c := by
  cases h with
  | same => exact k
  | buf dx m p w kk z s f o i j => cases k with
    | same => exact .buf ..
    | buf => exact .buf ..
  | ba dx m i j => cases k with
    | same => exact .ba ..
    | ba => exact .ba ..
  | mv dx b f p kk w z s r c o i j => cases k with
    | same => exact .mv ..
    | mv => exact .mv ..
theorem Lk.lst {xs : List V} {o : HO} (h : Lk (.lst xs) o) : o = .lst xs := by cases h; rfl
theorem Lk.tup {xs : List V} {o : HO} (h : Lk (.tup xs) o) : o = .tup xs := by cases h; rfl
theorem Lk.dK {xs : List (Key × V)} {o : HO} (h : Lk (.dK xs) o) : o = .dK xs := by cases h; rfl
theorem Lk.own {x : Addr} {o : HO} (h : Lk (.own x) o) : o = .own x := by cases h; rfl
theorem Lk.frz {x : Obj} {u o : HO} (h : Lk (.frz x u) o) : o = .frz x u := by cases h; rfl
theorem Lk.ins0 {C dx : Addr} {fs : List (Str × V)} {o : HO} (h : Lk (.ins C dx fs) o) (hC : C ≠ CBuffer) (hA : C ≠ CByteArray) (hM : C ≠ CMemoryView) : o = .ins C dx fs := by
  cases h with
  | same => rfl
  | buf => exact absurd rfl hC
  | ba => exact absurd rfl hA
  | mv => exact absurd rfl hM
theorem Lk.back {xs : List V} {o : HO} (h : Lk o (.lst xs)) : o = .lst xs := by cases h; rfl

def Ev (X : List Addr) (H H' : Hp) : Prop := ∀ b o, H b = some o → ∃ o', H' b = some o' ∧ (Lk o o' ∨ (b ∈ X ∧ ∃ xs ys, o = .lst xs ∧ o' = .lst ys))
section
variable {X Y : List Addr} {H H1 H2 H' : Hp} {K : PySem.W.Frag}
theorem Ev.refl (X : List Addr) (H : Hp) : Ev X H H := fun b o h => ⟨o, h, .inl (.same o)⟩
theorem Ev.trans (a : Ev X H H1) (b : Ev X H1 H2) : Ev X H H2 := fun c o h => by
  obtain ⟨o1, h1, r1⟩ := a c o h
  obtain ⟨o2, h2, r2⟩ := b c o1 h1
  refine ⟨o2, h2, ?_⟩
  rcases r1 with l1 | ⟨m, xs, ys, rfl, rfl⟩
  · rcases r2 with l2 | ⟨m, xs, ys, rfl, rfl⟩
    · exact .inl (l1.trans l2)
    · have := l1.back; subst this; exact .inr ⟨m, _, _, rfl, rfl⟩
  · rcases r2 with l2 | ⟨m, xs, ys, e, rfl⟩
    · have := l2.lst; subst this; exact .inr ⟨m, _, _, rfl, rfl⟩
    · exact .inr ⟨m, _, _, rfl, rfl⟩
theorem Ev.mono (a : Ev X H H1) (h : ∀ b ∈ X, b ∈ Y) : Ev Y H H1 := fun c o q => by
  obtain ⟨o1, h1, r1⟩ := a c o q
  exact ⟨o1, h1, r1.imp id fun ⟨m, r⟩ => ⟨h _ m, r⟩⟩
theorem Ev.of0 (a : Ev [] H H1) : Ev X H H1 := a.mono (by simp)
theorem Ev.free (e : Ev X H H') {l : Addr} (h : H' l = none) : H l = none := by
  cases q : H l with
  | none => rfl
  | some o => obtain ⟨o', h', _⟩ := e l o q; rw [h] at h'; cases h'
theorem Ev.new {p : Addr} {o : HO} (h : H p = none) : Ev X H (upd H p o) := fun b u q => ⟨u, by rw [upd_ne (fun e => by subst e; rw [h] at q; cases q)]; exact q, .inl (.same u)⟩
/-- a new object is changed -/
theorem Ev.put {p : Addr} {o : HO} (e : Ev X H H1) (h : H p = none) : Ev X H (upd H1 p o) := fun b u q => by
  obtain ⟨o1, h1, r1⟩ := e b u q
  exact ⟨o1, by rw [upd_ne (fun e => by subst e; rw [h] at q; cases q)]; exact h1, r1⟩
theorem Ev.at {p : Addr} {o o' : HO} (h : H p = some o) (l : Lk o o') : Ev X H (upd H p o') := fun b u q => by
  by_cases e : b = p
  · subst e; rw [h] at q; cases q; exact ⟨o', upd_same, .inl l⟩
  · exact ⟨u, by rw [upd_ne e]; exact q, .inl (.same u)⟩
theorem Ev.list {p : Addr} {xs ys : List V} (h : H p = some (.lst xs)) (m : p ∈ X) : Ev X H (upd H p (.lst ys)) := fun b u q => by
  by_cases e : b = p
  · subst e; rw [h] at q; cases q; exact ⟨_, upd_same, .inr ⟨m, _, _, rfl, rfl⟩⟩
  · exact ⟨u, by rw [upd_ne e]; exact q, .inl (.same u)⟩
theorem Ev.lstX {a : Addr} {xs : List V} (e : Ev X H H') (h : H a = some (.lst xs)) (n : a ∉ X) : H' a = some (.lst xs) := by
  obtain ⟨o, h', r⟩ := e _ _ h
  rcases r with l | ⟨m, _⟩
  · rw [h', l.lst]
  · exact absurd m n
theorem Ev.lst {a : Addr} {xs : List V} (e : Ev [] H H') (h : H a = some (.lst xs)) : H' a = some (.lst xs) := e.lstX h (by simp)
theorem Ev.tup {a : Addr} {xs : List V} (e : Ev X H H') (h : H a = some (.tup xs)) : H' a = some (.tup xs) := by
  obtain ⟨o, h', r⟩ := e _ _ h
  rcases r with l | ⟨m, _, _, e, _⟩
  · rw [h', l.tup]
  · cases e
theorem Ev.dK {a : Addr} {xs : List (Key × V)} (e : Ev X H H') (h : H a = some (.dK xs)) : H' a = some (.dK xs) := by
  obtain ⟨o, h', r⟩ := e _ _ h
  rcases r with l | ⟨m, _, _, e, _⟩
  · rw [h', l.dK]
  · cases e
theorem Ev.own {a x : Addr} (e : Ev X H H') (h : H a = some (.own x)) : H' a = some (.own x) := by
  obtain ⟨o, h', r⟩ := e _ _ h
  rcases r with l | ⟨m, _, _, e, _⟩
  · rw [h', l.own]
  · cases e
theorem Ev.ins {C dx a : Addr} {fs : List (Str × V)} (e : Ev X H H') (h : H a = some (.ins C dx fs)) (hC : C ≠ CBuffer := by decide) (hA : C ≠ CByteArray := by decide) (hM : C ≠ CMemoryView := by decide) : H' a = some (.ins C dx fs) := by
  obtain ⟨o, h', r⟩ := e _ _ h
  rcases r with l | ⟨m, _, _, e, _⟩
  · rw [h', l.ins0 hC hA hM]
  · cases e
theorem Ev.kept {a : Addr} {o : HO} (e : Ev X H H') (h : H a = some o) : ∃ o', H' a = some o' := by
  obtain ⟨o', h', _⟩ := e _ _ h; exact ⟨o', h'⟩
theorem Ev.sqt {a : Addr} {xs : List V} (e : Ev X H H') (h : SqT K H a xs) : SqT K H' a xs := by
  rcases h with (h | ⟨o, h⟩) | h
  · exact .inl (.inl (e.tup h))
  · obtain ⟨o', h', r⟩ := e _ _ h
    rcases r with l | ⟨m, _, _, e, _⟩
    · refine .inl (.inr ⟨o, ?_⟩); rw [h', l.frz]
    · cases e
  · exact .inr h
theorem Ev.sql {a : Addr} {xs : List V} (e : Ev X H H') (h : SqL K H a xs) (n : a ∉ X) : SqL K H' a xs := by
  rcases h with (h | ⟨o, h⟩) | h
  · exact .inl (.inl (e.lstX h n))
  · obtain ⟨o', h', r⟩ := e _ _ h
    rcases r with l | ⟨m, _, _, e, _⟩
    · refine .inl (.inr ⟨o, ?_⟩); rw [h', l.frz]
    · cases e
  · exact .inr h
/-- a new object, with the heap behind it kept abstract -/
theorem newo {o : HO} {q : Addr → Hp → Prop} (h : ∀ p H', H p = none → Ev [] H H' → H' p = some o → q p H') : ∀ p, H p = none → q p (upd H p o) :=
  fun p hp => h p _ hp (Ev.new hp) upd_same
theorem Ev.ne {a b : Addr} {o : HO} (e : Ev X H H1) (h : H a = some o) (h' : H1 b = none) : a ≠ b := by
  obtain ⟨o', q⟩ := e.kept h; exact ne_of_none q h'

/-! ### the objects of the program -/
abbrev memO (dx c : Addr) : HO := .ins CMemory dx [("cells", .ref c)]
abbrev bufO (dx m : Addr) (pl wd : Int) (kd : Str) (sz st : Addr) (fx : Bool) (src : V) (sh : Int) : HO :=
  .ins CBuffer dx [("memory", .ref m), ("place", .int pl), ("width", .int wd), ("kind", .str kd), ("sizes", .ref sz), ("steps", .ref st), ("fixed", .bl fx), ("source", src), ("shares", .int sh)]
abbrev mvO (dx b : Addr) (fx : Bool) (pl : Int) (kd : Str) (wd : Int) (sz st : Addr) (ir ic : Bool) (ml : Int) : HO :=
  .ins CMemoryView dx [("buffer", .ref b), ("fixed", .bl fx), ("place", .int pl), ("kind", .str kd), ("width", .int wd), ("sizes", .ref sz), ("steps", .ref st), ("in_rows", .bl ir), ("in_columns", .bl ic), ("is_open", .bl true), ("many_lent", .int ml), ("told", .non)]
abbrev baO (dx m : Addr) (sd : Int) : HO := .ins CByteArray dx [("memory", .ref m), ("standing", .int sd)]
/-- one dimension: memory, place, width, layout, the size, the step -/
structure Pl where
  m : Addr
  c : Addr
  pl : Int
  wd : Nat
  kd : Str
  sz : Addr
  st : Addr
  n : Nat
  s : Int
  fx : Bool
def MemAt (H : Hp) (m c : Addr) : Prop := ∃ dx, H m = some (memO dx c)
def PlOk (H : Hp) (p : Pl) : Prop := MemAt H p.m p.c ∧ H p.sz = some (.tup [.int p.n]) ∧ H p.st = some (.tup [.int p.s])
def BufAt (H : Hp) (b : Addr) (p : Pl) (src : V) : Prop := PlOk H p ∧ ∃ dx sh, H b = some (bufO dx p.m p.pl p.wd p.kd p.sz p.st p.fx src sh)
def MvAt (H : Hp) (v : Addr) (p : Pl) : Prop := PlOk H p ∧ (∃ dx b ir ic ml, H v = some (mvO dx b p.fx p.pl p.kd p.wd p.sz p.st ir ic ml) ∧ ∃ q src, BufAt H b q src ∧ q.m = p.m)
def BaAt (H : Hp) (h m c : Addr) : Prop := (∃ dx sd, H h = some (baO dx m sd)) ∧ MemAt H m c
def StAt (H : Hp) (h : Addr) (p : Pl) : Prop := ∃ dx b src, H h = some (.ins CStrided dx [("plan", .ref b)]) ∧ BufAt H b p src
theorem MemAt.ev {m c : Addr} (h : MemAt H m c) (e : Ev X H H') : MemAt H' m c := by obtain ⟨dx, h⟩ := h; exact ⟨dx, e.ins h⟩
theorem PlOk.ev {p : Pl} (h : PlOk H p) (e : Ev X H H') : PlOk H' p := ⟨h.1.ev e, e.tup h.2.1, e.tup h.2.2⟩
theorem Ev.buf {b dx m : Addr} {pl wd : Int} {kd : Str} {sz st : Addr} {fx : Bool} {src : V} {sh : Int} (e : Ev X H H') (h : H b = some (bufO dx m pl wd kd sz st fx src sh)) : ∃ sh', H' b = some (bufO dx m pl wd kd sz st fx src sh') := by
  obtain ⟨o', h', r⟩ := e _ _ h
  rcases r with l | ⟨m, _, _, e, _⟩
  · cases l with
    | same => exact ⟨_, h'⟩
    | buf => exact ⟨_, h'⟩
  · cases e
theorem Ev.mv {v dx b : Addr} {fx : Bool} {pl : Int} {kd : Str} {wd : Int} {sz st : Addr} {ir ic : Bool} {ml : Int} (e : Ev X H H') (h : H v = some (mvO dx b fx pl kd wd sz st ir ic ml)) : ∃ ml', H' v = some (mvO dx b fx pl kd wd sz st ir ic ml') := by
  obtain ⟨o', h', r⟩ := e _ _ h
  rcases r with l | ⟨m, _, _, e, _⟩
  · cases l with
    | same => exact ⟨_, h'⟩
    | mv => exact ⟨_, h'⟩
  · cases e
theorem Ev.ba {v dx m : Addr} {sd : Int} (e : Ev X H H') (h : H v = some (baO dx m sd)) : ∃ sd', H' v = some (baO dx m sd') := by
  obtain ⟨o', h', r⟩ := e _ _ h
  rcases r with l | ⟨m, _, _, e, _⟩
  · cases l with
    | same => exact ⟨_, h'⟩
    | ba => exact ⟨_, h'⟩
  · cases e
/-- an instance in the making -/
theorem Ev.insN {C dx a : Addr} {fs : List (Str × V)} (e : Ev X H H') (h : H a = some (.ins C dx fs)) (n : fs.length ≠ 9 ∧ fs.length ≠ 2 ∧ fs.length ≠ 12 := by decide) : H' a = some (.ins C dx fs) := by
  obtain ⟨o, h', r⟩ := e _ _ h
  rcases r with l | ⟨m, _, _, e, _⟩
  · cases l with
    | same => exact h'
    | buf => exact absurd rfl n.1
    | ba => exact absurd rfl n.2.1
    | mv => exact absurd rfl n.2.2
  · cases e
theorem BufAt.ev {b : Addr} {p : Pl} {src : V} (h : BufAt H b p src) (e : Ev X H H') : BufAt H' b p src := by
  obtain ⟨a, dx, sh, h⟩ := h
  obtain ⟨sh', h'⟩ := e.buf h
  exact ⟨a.ev e, dx, sh', h'⟩
theorem MvAt.ev {v : Addr} {p : Pl} (h : MvAt H v p) (e : Ev X H H') : MvAt H' v p := by
  obtain ⟨a, dx, b, ir, ic, ml, h, q, src, hb, e1⟩ := h
  obtain ⟨ml', h'⟩ := e.mv h
  exact ⟨a.ev e, dx, b, ir, ic, ml', h', q, src, hb.ev e, e1⟩
theorem BaAt.ev {h m c : Addr} (q : BaAt H h m c) (e : Ev X H H') : BaAt H' h m c := by
  obtain ⟨⟨dx, sd, a⟩, b⟩ := q
  obtain ⟨sd', h'⟩ := e.ba a
  exact ⟨⟨dx, sd', h'⟩, b.ev e⟩
theorem StAt.ev {h : Addr} {p : Pl} (q : StAt H h p) (e : Ev X H H') : StAt H' h p := by
  obtain ⟨dx, b, src, a, c⟩ := q
  exact ⟨dx, b, src, e.ins a, c.ev e⟩
end
end VL
end
section
set_option linter.all false
set_option maxRecDepth 100000
set_option maxHeartbeats 4000000
/-! Comprehensions whose turns let all evolve. -/
namespace VL
open PySem PySem.Spec PyProof.Rows L2
section
variable {X : List Addr} {J : It} {n : Nat} {G : Hp → Prop} {Y : Nat → Hp → V → Hp → Prop}
theorem if_yes {A B : Prop} : (if true = true then A else B) = A := if_pos rfl
theorem snoc_get {α : Type} {P : Nat → α → Prop} {acc : List α} {y : α} (h : ∀ j z, acc[j]? = some z → P j z) (hy : P acc.length y) : ∀ j z, (acc ++ [y])[j]? = some z → P j z := fun j z hz => by
  rcases Nat.lt_trichotomy j acc.length with hj | hj | hj
  · rw [List.getElem?_append_left hj] at hz; exact h j z hz
  · subst hj; simp at hz; subst hz; exact hy
  · rw [List.getElem?_eq_none (by simp; omega)] at hz; cases hz
/-- a loop of one turn -/
theorem for_one (w : Walk J 1 G Y) {g : TG} {tb : TS} {D : Ends} {σ : L2.St} {H : Hp} (h0 : G H)
    (hs : ∀ x H', Y 0 H x H' → g x σ H' fun σ2 H2 => tb { D with nx := fun σ H => G H ∧ D.nx σ H, ct := fun σ H => G H ∧ D.nx σ H, bk := D.nx } σ2 H2) :
    ∃ W : Nat → Nat → L2.St → Hp → Prop, (∃ m, W 0 m σ H) ∧ ∀ i m σ H, W i m σ H →
      (J.stop i H ∧ D.nx σ H) ∨ (J.go i H ∧ ∃ N : L2.St → Hp → Prop, (∀ σ' H', N σ' H' → ∃ m', m' < m ∧ W (i + 1) m' σ' H') ∧ ∀ x H', J.yld i H x H' → g x σ H' fun σ2 H2 => tb { D with nx := N, ct := N, bk := D.nx } σ2 H2) := by
  refine ⟨fun i m σ' H' => i = 0 ∧ m = 1 ∧ σ' = σ ∧ H' = H ∨ i = 1 ∧ m = 0 ∧ G H' ∧ D.nx σ' H', ⟨1, .inl ⟨rfl, rfl, rfl, rfl⟩⟩, ?_⟩
  rintro i m σ' H' (⟨rfl, rfl, rfl, rfl⟩ | ⟨rfl, rfl, q, d⟩)
  · exact .inr ⟨w.goes 0 _ (by decide) h0, fun σ H => G H ∧ D.nx σ H, fun σ' H' q => ⟨0, by decide, .inr ⟨rfl, rfl, q⟩⟩, fun x H' y => hs x H' (w.yields 0 _ x H' (by decide) h0 y)⟩
  · exact .inl ⟨w.stops _ q, d⟩
/-- each turn gives a value of which R stands, by the heap -/
theorem lc_rel (w : Walk J n G Y) {g : TG} {te : TE} {vs : List Nat} {σ : L2.St} {H0 H1 : Hp} {D : Addr} {Qd : Hp → Prop} (R : Nat → V → Hp → Prop) (hn : n < sizeLine) (e0 : Ev X H0 H1) (nD : H1 D = none) (xD : D ∉ X)
    (hst : ∀ i y H H' Z, Ev Z H H' → (∀ z ∈ Z, z = D ∨ z ∈ X) → R i y H → R i y H') (hG : ∀ H, Ev X H0 H → G H)
    (hs : ∀ i x H H' (N : VK), i < n → Ev X H0 H → Y i H x H' → (∀ y H4, R i y H4 → Ev X H H4 → N y H4) → g x (wipe σ vs) H' fun σ2 H2 => wipe σ2 vs = wipe σ vs ∧ te σ2 H2 N)
    (hd : ∀ H ys, Ev X H0 H → H D = some (.lst ys) → ys.length = n → (∀ i y, ys[i]? = some y → R i y H) → Qd H) :
    ∃ W : Nat → Nat → Hp → Prop, (∃ m, W 0 m (upd H1 D (.lst []))) ∧ ∀ i m H, W i m H →
      (J.stop i H ∧ Qd H) ∨ (J.go i H ∧ ∃ Nx : Hp → Prop, (∀ H', Nx H' → ∃ m', m' < m ∧ W (i + 1) m' H') ∧ ∀ x H', J.yld i H x H' → g x (wipe σ vs) H' fun σ2 H2 => wipe σ2 vs = wipe σ vs ∧ tYes σ2 H2 fun b H3 =>
        if b = true then te σ2 H3 fun y H4 => ∃ acc, H4 D = some (.lst acc) ∧ acc.length < sizeLine ∧ Nx (upd H4 D (.lst (acc ++ [y]))) else Nx H3) := by
  have fD : H0 D = none := e0.free nD
  refine lc_it w (fun i H => Ev X H0 H ∧ ∃ acc, H D = some (.lst acc) ∧ acc.length = i ∧ ∀ j y, acc[j]? = some y → R j y H) ⟨e0.put fD, [], upd_same, rfl, fun j y h => by simp at h⟩ (fun i H _ p => hG H p.1)
    (fun i x H H' hi p y => ?_) (fun H p => ?_)
  · obtain ⟨e, acc, hD, hl, hR⟩ := p
    simp only [tYes, if_yes]
    refine hs i x H H' _ hi e y fun y H4 hy e4 => ?_
    have hD4 := e4.lstX hD xD
    have eu : Ev [D] H4 (upd H4 D (.lst (acc ++ [y]))) := Ev.list hD4 (by simp)
    refine ⟨acc, hD4, by omega, (e.trans e4).put fD, acc ++ [y], upd_same, by simp [hl], ?_⟩
    refine snoc_get (P := fun j z => R j z _) (fun j z hz => ?_) ?_
    · exact hst j z H4 _ [D] eu (by simp) (hst j z H H4 X e4 (fun z hz => .inr hz) (hR j z hz))
    · rw [hl]; exact hst _ _ H4 _ [D] eu (by simp) hy
  · obtain ⟨e, acc, hD, hl, hR⟩ := p
    exact hd H acc e hD hl hR
theorem map_of_get {n : Nat} {f : Nat → V} {ys : List V} (h : ys.length = n) (k : ∀ i y, ys[i]? = some y → y = f i) : ys = (List.range n).map f := by
  apply List.ext_getElem (by simp [h])
  intro i h1 h2
  have := k i _ (List.getElem?_eq_getElem h1)
  simp [this]
/-- each turn gives f i -/
theorem lc_fn (w : Walk J n G Y) {g : TG} {te : TE} {vs : List Nat} {σ : L2.St} {H0 H1 : Hp} {D : Addr} {Qd : Hp → Prop} (f : Nat → V) (hn : n < sizeLine) (e0 : Ev X H0 H1) (nD : H1 D = none) (xD : D ∉ X) (hG : ∀ H, Ev X H0 H → G H)
    (hs : ∀ i x H H' (N : VK), i < n → Ev X H0 H → Y i H x H' → (∀ H4, Ev X H H4 → N (f i) H4) → g x (wipe σ vs) H' fun σ2 H2 => wipe σ2 vs = wipe σ vs ∧ te σ2 H2 N)
    (hd : ∀ H, Ev X H0 H → H D = some (.lst ((List.range n).map f)) → Qd H) :
    ∃ W : Nat → Nat → Hp → Prop, (∃ m, W 0 m (upd H1 D (.lst []))) ∧ ∀ i m H, W i m H →
      (J.stop i H ∧ Qd H) ∨ (J.go i H ∧ ∃ Nx : Hp → Prop, (∀ H', Nx H' → ∃ m', m' < m ∧ W (i + 1) m' H') ∧ ∀ x H', J.yld i H x H' → g x (wipe σ vs) H' fun σ2 H2 => wipe σ2 vs = wipe σ vs ∧ tYes σ2 H2 fun b H3 =>
        if b = true then te σ2 H3 fun y H4 => ∃ acc, H4 D = some (.lst acc) ∧ acc.length < sizeLine ∧ Nx (upd H4 D (.lst (acc ++ [y]))) else Nx H3) :=
  lc_rel w (fun i y _ => y = f i) hn e0 nD xD (fun _ _ _ _ _ _ _ h => h) hG (fun i x H H' N hi e y q => hs i x H H' N hi e y fun H4 e4 => q _ H4 rfl e4)
    (fun H ys e hD hl k => hd H e (by rw [hD, map_of_get hl k]))
/-- a walk within a walk: turn (i, j) gives f i j -/
theorem lc2_fn {n1 : Nat} (w : Walk J n G Y) {g : TG} {wi1 : TI} {g1 : TG} {te : TE} {vs vs1 : List Nat} {σ : L2.St} {H0 H1 : Hp} {D : Addr} {Qd : Hp → Prop} (f : Nat → Nat → V) (hn : n * n1 < sizeLine) (e0 : Ev X H0 H1) (nD : H1 D = none) (xD : D ∉ X) (hG : ∀ H, Ev X H0 H → G H)
    (hs : ∀ i x H H' (N : L2.St → It → Hp → Prop), i < n → Ev X H0 H → Y i H x H' →
      (∀ σ2 J1 H4 (G1 : Hp → Prop) (Y1 : Nat → Hp → V → Hp → Prop), Ev X H H4 → Walk J1 n1 G1 Y1 → (∀ H, Ev X H0 H → G1 H) →
        (∀ j x H H' (N1 : VK), j < n1 → Ev X H0 H → Y1 j H x H' → (∀ H4, Ev X H H4 → N1 (f i j) H4) → g1 x (wipe σ2 vs1) H' fun σ3 H5 => wipe σ3 vs1 = wipe σ2 vs1 ∧ te σ3 H5 N1) → N σ2 J1 H4) →
      g x (wipe σ vs) H' fun σ2 H2 => wipe σ2 vs = wipe σ vs ∧ wi1 σ2 H2 (N σ2))
    (hd : ∀ H, Ev X H0 H → H D = some (.lst ((List.range n).flatMap fun i => (List.range n1).map (f i))) → Qd H) :
    ∃ W : Nat → Nat → Hp → Prop, (∃ m, W 0 m (upd H1 D (.lst []))) ∧ ∀ i m H, W i m H →
      (J.stop i H ∧ Qd H) ∨ (J.go i H ∧ ∃ Nx : Hp → Prop, (∀ H', Nx H' → ∃ m', m' < m ∧ W (i + 1) m' H') ∧ ∀ x H', J.yld i H x H' → g x (wipe σ vs) H' fun σ2 H2 => wipe σ2 vs = wipe σ vs ∧ tYes σ2 H2 fun b H3 =>
        if b = true then wi1 σ2 H3 fun J1 H4 => ∃ W1 : Nat → Nat → Hp → Prop, (∃ m, W1 0 m H4) ∧ ∀ j k H, W1 j k H →
          (J1.stop j H ∧ Nx H) ∨ (J1.go j H ∧ ∃ Nx1 : Hp → Prop, (∀ H', Nx1 H' → ∃ k', k' < k ∧ W1 (j + 1) k' H') ∧ ∀ x H', J1.yld j H x H' → g1 x (wipe σ2 vs1) H' fun σ3 H5 => wipe σ3 vs1 = wipe σ2 vs1 ∧ tYes σ3 H5 fun b H6 =>
            if b = true then te σ3 H6 fun y H7 => ∃ acc, H7 D = some (.lst acc) ∧ acc.length < sizeLine ∧ Nx1 (upd H7 D (.lst (acc ++ [y]))) else Nx1 H6)
        else Nx H3) := by
  have fD : H0 D = none := e0.free nD
  simp only [tYes, if_yes]
  refine ⟨fun i m H => m = n - i ∧ i ≤ n ∧ Ev X H0 H ∧ H D = some (.lst ((List.range i).flatMap fun i => (List.range n1).map (f i))), ⟨n, by simp, Nat.zero_le _, e0.put fD, by simp [upd_same]⟩, ?_⟩
  rintro i m H ⟨rfl, hi, e, hD⟩
  by_cases hlt : i < n
  · refine .inr ⟨w.goes i H hlt (hG H e), fun H => Ev X H0 H ∧ H D = some (.lst ((List.range (i + 1)).flatMap fun i => (List.range n1).map (f i))), fun H' p' => ⟨n - (i + 1), by omega, rfl, hlt, p'⟩, fun x H' y => ?_⟩
    refine hs i x H H' _ hlt e (w.yields i H x H' hlt (hG H e) y) fun σ2 J1 H4 G1 Y1 e4 w1 hG1 hs1 => ?_
    refine ⟨fun j k H => k = n1 - j ∧ j ≤ n1 ∧ Ev X H0 H ∧ H D = some (.lst (((List.range i).flatMap fun i => (List.range n1).map (f i)) ++ (List.range j).map (f i))), ⟨n1, by simp, Nat.zero_le _, e.trans e4, by simp [e4.lstX hD xD]⟩, ?_⟩
    rintro j k H5 ⟨rfl, hj, e5, hD5⟩
    by_cases hlj : j < n1
    · refine .inr ⟨w1.goes j H5 hlj (hG1 H5 e5), fun H => Ev X H0 H ∧ H D = some (.lst (((List.range i).flatMap fun i => (List.range n1).map (f i)) ++ (List.range (j + 1)).map (f i))), fun H' p' => ⟨n1 - (j + 1), by omega, rfl, hlj, p'⟩, fun x H' y => ?_⟩
      refine hs1 j x H5 H' _ hlj e5 (w1.yields j H5 x H' hlj (hG1 H5 e5) y) fun H6 e6 => ?_
      refine ⟨_, e6.lstX hD5 xD, ?_, (e5.trans e6).put fD, ?_⟩
      · have h1 : ∀ i, ((List.range i).flatMap fun i => (List.range n1).map (f i)).length = i * n1 := fun i => by
          induction i with
          | zero => simp
          | succ i ih => rw [List.range_succ, List.flatMap_append, List.length_append, ih]; simp [Nat.succ_mul]
        rw [List.length_append, h1]
        have : i * n1 + n1 ≤ n * n1 := by rw [← Nat.succ_mul]; exact Nat.mul_le_mul_right _ hlt
        simp only [List.length_map, List.length_range]
        omega
      · rw [upd_same, List.range_succ (n := j)]; simp
    · have : j = n1 := by omega
      subst this
      refine .inl ⟨w1.stops H5 (hG1 H5 e5), e5, ?_⟩
      rw [hD5, List.range_succ]; simp
  · have : i = n := by omega
    subst this
    exact .inl ⟨w.stops H (hG H e), hd H e hD⟩
end
end VL
end
section
set_option linter.all false
set_option maxRecDepth 100000
set_option maxHeartbeats 4000000
/-! How the defs with defaults bind. -/
namespace VL
open PySem PySem.Spec PyProof.Rows L2
theorem vals0 {ds : List Value} (h : Vals [] ds) : ds = [] := by cases h; rfl
theorem bm_cut_init (P : Params) : Binds (K P) fdm_cut_init ["self", "start", "stop", "step"] [] := by
  obtain ⟨ds, hv, hb⟩ := (Fm_cut_init P).binds1 4 3 (ps := ["self", "start", "stop", "step"]) (by simp) rfl
    (fun T kV doc pm an cdv ct us its hu hi => match us, hu, its, hi with | [_, _, _, _], _, [_, _, _], _ => ⟨_, rfl, rfl⟩)
  cases vals0 hv
  exact hb
theorem bm_ba_init (P : Params) : Binds (K P) fdm_ba_init ["self", "data"] [] := by
  obtain ⟨ds, hv, hb⟩ := (Fm_ba_init P).binds1 2 1 (ps := ["self", "data"]) (by simp) rfl
    (fun T kV doc pm an cdv ct us its hu hi => match us, hu, its, hi with | [_, _], _, [_], _ => ⟨_, rfl, rfl⟩)
  cases vals0 hv
  exact hb
theorem bm_st_init (P : Params) : ∃ ds, Vals [.bl true] ds ∧ Binds (K P) fdm_st_init ["self", "data", "layout", "shape", "strides", "place", "writable"] ds :=
  (Fm_st_init P).binds1 6 1 (ps := ["self", "data", "layout", "shape", "strides", "place", "writable"]) (by simp) rfl
    (fun T kV doc pm an cdv ct us its hu hi => match us, hu, its, hi with | [_, _, _, _, _, _], _, [_, _], _ => ⟨_, rfl, rfl⟩)
theorem bm_mv_tobytes (P : Params) : ∃ ds, Vals [.str "C"] ds ∧ Binds (K P) fdm_mv_tobytes ["self", "order"] ds :=
  (Fm_mv_tobytes P).binds1 1 0 (ps := ["self", "order"]) (by simp) rfl
    (fun T kV doc pm an cdv ct us its hu hi => match us, hu, its, hi with | [_], _, [_], _ => ⟨_, rfl, rfl⟩)
end VL
end
section
set_option linter.all false
set_option maxRecDepth 100000
set_option maxHeartbeats 4000000
/-! The written dict NATIVE. -/
namespace VL
open PySem PySem.Spec PyProof.Rows L2
def natE (P : Params) : List DictEntry := [en P "x" 947 (.int (1) 948), en P "c" 950 (.int (1) 951), en P "b" 953 (.int (1) 954), en P "B" 956 (.int (1) 957), en P "?" 959 (.int (1) 960), en P "h" 962 (.int (2) 963), en P "H" 965 (.int (2) 966), en P "i" 968 (.int (4) 969), en P "I" 971 (.int (4) 972), en P "l" 974 (.int (8) 975), en P "L" 977 (.int (8) 978), en P "q" 980 (.int (8) 981), en P "Q" 983 (.int (8) 984), en P "n" 986 (.int (8) 987), en P "N" 989 (.int (8) 990), en P "P" 992 (.int (8) 993), en P "e" 995 (.int (2) 996), en P "f" 998 (.int (4) 999), en P "d" 1000 (.int (8) 1001), en P "s" 1002 (.int (1) 1003), en P "p" 1004 (.int (1) 1005)]
theorem nat_at (P : Params) : (K P).lookup 584 = some ⟨.type "dict", none, .dict (natE P).toArray 21, #[]⟩ := by kernel_rfl
theorem kd_native (w : World) : KDict (K w.params) w 584 (natE w.params).toArray 21 :=
  ⟨nat_at _, ⟨⟨_, _, rfl, rfl⟩, ⟨_, _, rfl, rfl⟩, ⟨_, _, rfl, rfl⟩, ⟨_, _, rfl, rfl⟩, ⟨_, _, rfl, rfl⟩, ⟨_, _, rfl, rfl⟩, ⟨_, _, rfl, rfl⟩, ⟨_, _, rfl, rfl⟩, ⟨_, _, rfl, rfl⟩, ⟨_, _, rfl, rfl⟩, ⟨_, _, rfl, rfl⟩, ⟨_, _, rfl, rfl⟩, ⟨_, _, rfl, rfl⟩, ⟨_, _, rfl, rfl⟩, ⟨_, _, rfl, rfl⟩, ⟨_, _, rfl, rfl⟩, ⟨_, _, rfl, rfl⟩, ⟨_, _, rfl, rfl⟩, ⟨_, _, rfl, rfl⟩, ⟨_, _, rfl, rfl⟩, ⟨_, _, rfl, rfl⟩, trivial⟩, by decide⟩
def natKV : List (Key × V) := [(.inr "x", .int 1), (.inr "c", .int 1), (.inr "b", .int 1), (.inr "B", .int 1), (.inr "?", .int 1), (.inr "h", .int 2), (.inr "H", .int 2), (.inr "i", .int 4), (.inr "I", .int 4), (.inr "l", .int 8), (.inr "L", .int 8), (.inr "q", .int 8), (.inr "Q", .int 8), (.inr "n", .int 8), (.inr "N", .int 8), (.inr "P", .int 8), (.inr "e", .int 2), (.inr "f", .int 4), (.inr "d", .int 8), (.inr "s", .int 1), (.inr "p", .int 1)]
def natKU : List (Key × Value) := [(.inr "x", .int 1 948), (.inr "c", .int 1 951), (.inr "b", .int 1 954), (.inr "B", .int 1 957), (.inr "?", .int 1 960), (.inr "h", .int 2 963), (.inr "H", .int 2 966), (.inr "i", .int 4 969), (.inr "I", .int 4 972), (.inr "l", .int 8 975), (.inr "L", .int 8 978), (.inr "q", .int 8 981), (.inr "Q", .int 8 984), (.inr "n", .int 8 987), (.inr "N", .int 8 990), (.inr "P", .int 8 993), (.inr "e", .int 2 996), (.inr "f", .int 4 999), (.inr "d", .int 8 1001), (.inr "s", .int 1 1003), (.inr "p", .int 1 1005)]
theorem nat_x (P : Params) : PySem.W.nsIn (K P) 584 "x" = some (some (.int 1 948)) := by kernel_rfl
theorem nat_c (P : Params) : PySem.W.nsIn (K P) 584 "c" = some (some (.int 1 951)) := by kernel_rfl
theorem nat_b (P : Params) : PySem.W.nsIn (K P) 584 "b" = some (some (.int 1 954)) := by kernel_rfl
theorem nat_B (P : Params) : PySem.W.nsIn (K P) 584 "B" = some (some (.int 1 957)) := by kernel_rfl
theorem nat_qm (P : Params) : PySem.W.nsIn (K P) 584 "?" = some (some (.int 1 960)) := by kernel_rfl
theorem nat_h (P : Params) : PySem.W.nsIn (K P) 584 "h" = some (some (.int 2 963)) := by kernel_rfl
theorem nat_H (P : Params) : PySem.W.nsIn (K P) 584 "H" = some (some (.int 2 966)) := by kernel_rfl
theorem nat_i (P : Params) : PySem.W.nsIn (K P) 584 "i" = some (some (.int 4 969)) := by kernel_rfl
theorem nat_I (P : Params) : PySem.W.nsIn (K P) 584 "I" = some (some (.int 4 972)) := by kernel_rfl
theorem nat_l (P : Params) : PySem.W.nsIn (K P) 584 "l" = some (some (.int 8 975)) := by kernel_rfl
theorem nat_L (P : Params) : PySem.W.nsIn (K P) 584 "L" = some (some (.int 8 978)) := by kernel_rfl
theorem nat_q (P : Params) : PySem.W.nsIn (K P) 584 "q" = some (some (.int 8 981)) := by kernel_rfl
theorem nat_Q (P : Params) : PySem.W.nsIn (K P) 584 "Q" = some (some (.int 8 984)) := by kernel_rfl
theorem nat_n (P : Params) : PySem.W.nsIn (K P) 584 "n" = some (some (.int 8 987)) := by kernel_rfl
theorem nat_N (P : Params) : PySem.W.nsIn (K P) 584 "N" = some (some (.int 8 990)) := by kernel_rfl
theorem nat_P (P : Params) : PySem.W.nsIn (K P) 584 "P" = some (some (.int 8 993)) := by kernel_rfl
theorem nat_e (P : Params) : PySem.W.nsIn (K P) 584 "e" = some (some (.int 2 996)) := by kernel_rfl
theorem nat_f (P : Params) : PySem.W.nsIn (K P) 584 "f" = some (some (.int 4 999)) := by kernel_rfl
theorem nat_d (P : Params) : PySem.W.nsIn (K P) 584 "d" = some (some (.int 8 1001)) := by kernel_rfl
theorem nat_s (P : Params) : PySem.W.nsIn (K P) 584 "s" = some (some (.int 1 1003)) := by kernel_rfl
theorem nat_p (P : Params) : PySem.W.nsIn (K P) 584 "p" = some (some (.int 1 1005)) := by kernel_rfl
theorem nat_dictOf {P : Program} {w : World} {h : Heap} (k : (K w.params).In h) : h.DictOf (mixKind P w) 584 natKU := by
  refine ⟨_, _, _, k _ _ (nat_at w.params), ⟨rfl, rfl, rfl⟩, rfl, fun e he => ?_, ?_, by decide⟩
  · obtain ⟨x, t, h1, h2⟩ := PySem.W.KeysLit.all (kd_native w).lit e (by simpa using he)
    exact ⟨.inr x, by rw [h1]; exact keyIs_str x t, by rw [h2]; rfl⟩
  · show Pairs (mixKind P w) (natE w.params) natKU
    unfold natE natKU
    repeat (first | exact Pairs.nil | refine Pairs.cons (mixKind_str _ _ _ _) rfl ?_)
theorem nat_kv : KV natKV natKU := by
  unfold natKV natKU
  repeat (first | exact Paired.nil | refine Paired.cons ⟨rfl, _, rfl⟩ ?_)
/-- dict(NATIVE): a copy -/
theorem call_dict_nat {X : Cx} {w : World} (hK : X.K = K w.params) (hw : X.w = w) : CallR X (.type "dict") (fun xs H Q => xs = [.ref 584] ∧ ∀ p, H p = none → Q (.ref p) (upd H p (.dK natKV))) := by
  intro pins s σ H xs us Q I r q
  obtain ⟨ex, q⟩ := q
  subst ex
  subst hw
  obtain ⟨u, eu, rx⟩ := vals1 r
  subst eu
  cases rx
  have dd : s.heap.DictOf (mixKind X.prog X.w) 584 natKU := nat_dictOf (by rw [← hK]; exact I.kIn)
  have z : natKV.length ≤ sizeLine := by decide
  refine kt_call_dict (by decide) dd (by decide) fun h' d' hs => ?_
  have hm : (s.heap.objs.size == sysModules) = false := beq_eq_false_iff_ne.mpr (Nat.ne_of_gt I.big)
  exact ⟨.ref s.heap.objs.size, upd H s.heap.objs.size (.dK natKV), I.laid (t' := s.toks) (fun b u e => (hs.2 b (Nat.ne_of_lt (Heap.lt_size e))).trans (Heap.get?_push_of_some _ e)) (Nat.le_refl _)
    (show ObjOk X.prog X.w _ _ _ (.dK natKV) from ⟨z, hm, natKU, nat_kv, d'⟩), rfl, q _ (I.hok.fresh (Nat.le_refl _))⟩
end VL
end
section
set_option linter.all false
set_option maxRecDepth 100000
set_option maxHeartbeats 4000000
namespace VL
open PySem PySem.Spec PyProof.Rows L2 RZ
theorem cxK {CX : CXT} {P : Program} {w : World} {K : PySem.W.Frag} {mg : Str → Option Value} {base : Heap} {N : List Str} {qual : Str} {scope : Scope} {f : Addr} {cd : Value} {A : Around} {outer : List Env} {s : Shared} {H : Hp} {E : XK} :
    (cxOf CX P w K mg base N qual scope f cd A outer s H E).K = K := rfl
theorem noxK {X : Cx} : X.nox.K = X.K := rfl
/-- what is given back, all evolved -/
abbrev RetV (H : Hp) (Q : VK) (v : V) : Prop := ∀ H', Ev [] H H' → Q v H'
abbrev RetT (H : Hp) (Q : VK) (xs : List V) : Prop := ∀ H' p, Ev [] H H' → H' p = some (.tup xs) → Q (.ref p) H'
abbrev RetL (H : Hp) (Q : VK) (xs : List V) : Prop := ∀ H' p, Ev [] H H' → H p = none → H' p = some (.lst xs) → Q (.ref p) H'
theorem newq {H : Hp} {p : Addr} (o : HO) (h : H p = none) : ∃ H', H' = upd H p o ∧ Ev [] H H' ∧ H' p = some o := ⟨_, rfl, Ev.new h, upd_same⟩
theorem freeze {a b : TS} {D : Ends} {σ : L2.St} {H : Hp} (h : ∀ R, R = b → tSeq a R D σ H) : tSeq a b D σ H := h b rfl
def Bs (d : List Int) : Prop := ∀ x ∈ d, 0 ≤ x ∧ x < 256
theorem line_of {n : Nat} (h : n < 100000) : n < sizeLine := Nat.lt_of_lt_of_le h (by decide)
section
variable {K : PySem.W.Frag} {H : Hp} {Q : VK}
theorem isi_t {x : V} {t u : Value} {c : V} {b : Bool} (k : ClsV c u) (ty : TyX K H x t) (e : PySem.W.kitOne K t u = some b) (q : Q (.bl b) H) : rIsi K [x, c] H Q := ⟨_, _, _, _, _, rfl, k, ty, e, q⟩
theorem isi_int {i : Int} (q : Q (.bl true) H) : rIsi K [.int i, .ty "int"] H Q := isi_t (.ty _) (.base (.int _)) (kit_ty (b := "int") (by decide +kernel)) q
theorem isi_str {z : Str} (q : Q (.bl true) H) : rIsi K [.str z, .ty "str"] H Q := isi_t (.ty _) (.base (.str _)) (kit_ty (b := "str") (by decide +kernel)) q
theorem isi_tup {a : Addr} {xs : List V} (h : H a = some (.tup xs)) (q : Q (.bl true) H) : rIsi K [.ref a, .ty "tuple"] H Q := isi_t (.ty _) (.base (.tup h)) (kit_ty (b := "tuple") (by decide +kernel)) q
theorem isi_lst {a : Addr} {xs : List V} (h : H a = some (.lst xs)) (q : Q (.bl true) H) : rIsi K [.ref a, .ty "list"] H Q := isi_t (.ty _) (.base (.lst h)) (kit_ty (b := "list") (by decide +kernel)) q
theorem isi_lst_tup {a : Addr} {xs : List V} (h : H a = some (.lst xs)) (q : Q (.bl false) H) : rIsi K [.ref a, .ty "tuple"] H Q := isi_t (.ty _) (.base (.lst h)) (kit_ty (b := "tuple") (by decide +kernel)) q
theorem isi_tup_lst {a : Addr} {xs : List V} (h : H a = some (.tup xs)) (q : Q (.bl false) H) : rIsi K [.ref a, .ty "list"] H Q := isi_t (.ty _) (.base (.tup h)) (kit_ty (b := "list") (by decide +kernel)) q
theorem isi_tup_int {a : Addr} {xs : List V} (h : H a = some (.tup xs)) (q : Q (.bl false) H) : rIsi K [.ref a, .ty "int"] H Q := isi_t (.ty _) (.base (.tup h)) (kit_ty (b := "int") (by decide +kernel)) q
theorem isi_int_bool {i : Int} (q : Q (.bl false) H) : rIsi K [.int i, .ty "bool"] H Q := isi_t (.ty _) (.base (.int _)) (kit_ty (b := "bool") (by decide +kernel)) q
theorem isiT_t {x : V} {tp : Addr} {t c1 c2 : String} {b : Bool} (h : H tp = some (.tup [.ty c1, .ty c2])) (ty : TyX K H x (.type t)) (e : PySem.W.kitAny K (.type t) [.type c1, .type c2] = some b) (q : Q (.bl b) H) : rIsiT K [x, .ref tp] H Q :=
  ⟨_, _, _, _, _, _, rfl, h, .cons (.ty _) (.cons (.ty _) .nil), ty, e, q⟩
theorem any_2 {t c1 c2 : String} {b1 b2 : Bool} (h1 : kitB t c1 = some b1) (h2 : kitB t c2 = some b2) : PySem.W.kitAny K (.type t) [.type c1, .type c2] = some (b1 || b2) :=
  kitAny_cons (kit_ty h1) (fun e => by subst e; exact kitAny_cons (kit_ty h2) (fun e => by subst e; exact kitAny_nil) (fun e => by subst e; rfl)) (fun e => by subst e; rfl)
theorem bm_append {l : Addr} {xs : List V} {y : V} (h : H l = some (.lst xs)) (hl : xs.length < sizeLine) (q : Q .non (upd H l (.lst (xs ++ [y])))) : tyV K "list" (.ref l) H ∧ rAppend (.ref l) [y] H Q :=
  ⟨.inl ⟨rfl, _, SqL.of h⟩, _, _, _, rfl, rfl, h, hl, q⟩
theorem tup_of {a : Addr} {xs : List V} (h : H a = some (.tup xs)) (k : ∀ l, H l = none → Q (.ref l) (upd H l (.tup xs))) (h' : SqL K H a xs) : ∃ p, V.ref a = .ref p ∧ ∃ x, (SqL K H p x ∧ ∀ l, H l = none → Q (.ref l) (upd H l (.tup x))) ∨ SqT K H p x ∧ Q (.ref p) H := ⟨_, rfl, _, .inl ⟨h', k⟩⟩
theorem gTup2 {i j : Nat} {T : Addr} {x y : V} {σ : L2.St} {Q : L2.St → Hp → Prop} (h : H T = some (.tup [x, y])) (q : Q ((σ.set i (some x)).set j (some y)) H) : gTup K 2 (gCons (gName i) (gCons (gName j) gNil)) (.ref T) σ H Q :=
  ⟨T, _, rfl, SqT.of h, rfl, _, _, rfl, _, _, rfl, rfl, q⟩
theorem gTup3 {i j l : Nat} {T : Addr} {x y z : V} {σ : L2.St} {Q : L2.St → Hp → Prop} (h : H T = some (.tup [x, y, z])) (q : Q (((σ.set i (some x)).set j (some y)).set l (some z)) H) : gTup K 3 (gCons (gName i) (gCons (gName j) (gCons (gName l) gNil))) (.ref T) σ H Q :=
  ⟨T, _, rfl, SqT.of h, rfl, _, _, rfl, _, _, rfl, _, _, rfl, rfl, q⟩
/-- a tuple of the def's own making -/
theorem gTup2K {i j : Nat} {T : Addr} {x y : V} {σ : L2.St} {Q : L2.St → Hp → Prop} (h : SqT K H T [x, y]) (q : Q ((σ.set i (some x)).set j (some y)) H) : gTup K 2 (gCons (gName i) (gCons (gName j) gNil)) (.ref T) σ H Q :=
  ⟨T, _, rfl, h, rfl, _, _, rfl, _, _, rfl, rfl, q⟩
theorem walk_zipT {a b : Addr} {xs ys : List V} {n : Nat} (hn : n = min xs.length ys.length) : Walk (ItzT K a b) n (fun H => SqT K H a xs ∧ SqT K H b ys) (YPair (fun i => xs[i]?) (fun i => ys[i]?)) := by
  subst hn
  refine ⟨fun i _ hi q => ?_, fun _ q => ⟨xs, ys, q.1, q.2, by omega⟩, fun i H v H' _ q y => ?_⟩
  · have h1 : i < xs.length := by omega
    have h2 : i < ys.length := by omega
    exact ⟨xs, ys, xs[i], ys[i], q.1, q.2, by simp [h1], by simp [h2]⟩
  · obtain ⟨T, x, z, h1, h2, h3, h4, h5⟩ := y
    exact ⟨T, x, z, h1, h2, h3, h4 xs q.1, h5 ys q.2⟩
def YTrip (xs ys zs : List V) : Nat → Hp → V → Hp → Prop := fun i H v H' => ∃ T x y z, v = .ref T ∧ H T = none ∧ H' = upd H T (.tup [x, y, z]) ∧ xs[i]? = some x ∧ ys[i]? = some y ∧ zs[i]? = some z
theorem walk_zip3 {a b c : Addr} {xs ys zs : List V} {n : Nat} (h1 : xs.length = n) (h2 : ys.length = n) (h3 : zs.length = n) : Walk (Itz3 K a b c) n (fun H => SqT K H a xs ∧ SqT K H b ys ∧ SqT K H c zs) (YTrip xs ys zs) := by
  refine ⟨fun i _ hi q => ⟨xs, ys, zs, xs[i], ys[i], zs[i], q.1, q.2.1, q.2.2, by simp, by simp, by simp⟩, fun _ q => ⟨xs, ys, zs, q.1, q.2.1, q.2.2, h1, h2, h3⟩, fun i H v H' _ q y => ?_⟩
  obtain ⟨T, x, z, u, e1, e2, e3, e4, e5, e6⟩ := y
  exact ⟨T, x, z, u, e1, e2, e3, e4 xs q.1, e5 ys q.2.1, e6 zs q.2.2⟩
end
end VL
end
section
set_option linter.all false
set_option maxRecDepth 100000
set_option maxHeartbeats 4000000
namespace VL
open PySem PySem.Spec PyProof.Rows L2 RZ
local macro_rules | `(tactic| walk_at "rd") => `(tactic| (simp only [tVar, tC, tOp, tUn, tTest, tB, tAnd, tOr, tNot, tAndV, tOrV, tNotV, tIf, tIfS, tSeq, tAsg, gName, tRet, tRetN, tDrop, tNext, rI, rI0, rU, rEq, rNe, scal, tCons, tNil, tCB, t2I, tChain, tCall, tMeth, tPar, tPar3, tFld, tTup, tLst, iTup, iList, iRng1, tPart, tNoPart, tBM, tBM0, tMake, cxK, noxK, L2.wipe,
  List.append_nil, List.nil_append, List.cons_append, List.map_cons, List.map_nil, List.getElem?_cons_zero, List.getElem?_cons_succ, List.getElem?_nil, List.set_cons_zero, List.set_cons_succ, Option.some.injEq, V.int.injEq, V.bl.injEq, V.str.injEq, V.ref.injEq, exists_and_left, exists_eq_left', exists_eq_left, true_and, and_true, List.cons.injEq, if_true, if_false, Bool.false_eq_true, Bool.not_true, Bool.not_false, decide_eq_true_eq, and_assoc]))
variable {P : Program} {w : World} {mg : Str → Option Value} {base : Heap}
def spIsAsked : Sp := fun vs H Q _ => ∃ i j : Int, vs = [.int i, .int j] ∧ RetV H Q (.bl (decide (Builtin.bitAnd i j = j)))
theorem ok_is_asked (h : MgOk w.params mg) : FnOk P w (K w.params) mg base CX0 1 af_is_asked fdf_is_asked ["flags", "flag"] spIsAsked := by
  refine Fun.ok (sp := spIsAsked) (Ff_is_asked w.params) scf_is_asked (fun vs H Q E hs => by first | (obtain ⟨_, rfl, _⟩ := hs; rfl) | (obtain ⟨_, _, rfl, _⟩ := hs; rfl) | (obtain ⟨_, _, _, rfl, _⟩ := hs; rfl) | (obtain ⟨_, _, _, _, rfl, _⟩ := hs; rfl) | (obtain ⟨_, _, _, _, _, rfl, _⟩ := hs; rfl) | (obtain ⟨_, _, _, _, _, _, rfl, _⟩ := hs; rfl) | (obtain ⟨_, _, _, _, _, _, _, rfl, _⟩ := hs; rfl) | (obtain ⟨_, _, _, _, _, _, _, _, rfl, _⟩ := hs; rfl) | (obtain ⟨_, _, _, _, _, _, _, _, _, rfl, _⟩ := hs; rfl) | (obtain ⟨_, _, _, _, _, _, _, _, _, _, rfl, _⟩ := hs; rfl) | (obtain ⟨_, _, _, _, _, _, _, _, _, _, _, rfl, _⟩ := hs; rfl) | (obtain ⟨_, _, _, _, _, _, _, _, _, _, _, _, rfl, _⟩ := hs; rfl) | (obtain ⟨_, _, _, _, _, _, _, _, _, _, _, _, _, rfl, _⟩ := hs; rfl) | (obtain ⟨_, _, _, _, _, _, _, _, _, _, _, _, _, _, rfl, _⟩ := hs; rfl) | (obtain ⟨_, _, _, _, _, _, _, _, _, _, _, _, _, _, _, rfl, _⟩ := hs; rfl) | (obtain ⟨_, _, _, _, _, _, _, _, _, _, _, _, _, _, _, _, rfl, _⟩ := hs; rfl) | (obtain ⟨_, _, _, _, _, _, _, _, _, _, _, _, _, _, _, _, _, rfl, _⟩ := hs; rfl) | (obtain ⟨_, _, _, _, _, _, _, _, _, _, _, _, _, _, _, _, _, _, rfl, _⟩ := hs; rfl) | (obtain ⟨_, _, _, _, _, _, _, _, _, _, _, _, _, _, _, _, _, _, _, rfl, _⟩ := hs; rfl) | (obtain ⟨_, _, _, _, _, _, _, _, _, _, _, _, _, _, _, _, _, _, _, _, rfl, _⟩ := hs; rfl) | (obtain ⟨_, _, _, _, _, _, _, _, _, _, _, _, _, _, _, _, _, _, _, _, _, rfl, _⟩ := hs; rfl)) (fun cdv A outer s H vs Q E hr hq => ?_)
  obtain ⟨i, j, rfl, q⟩ := hq
  refine ⟨_, (pss_one (ps_ret (pe_cmpR op_eq (pe_op op_and (pv 0) (pv 1)) (pv 1) (nomark _)))), ?_⟩
  rw [stf_is_asked]
  walk_at "rd"
  exact q _ (Ev.refl _ _)
def spIsInt : Sp := fun vs H Q _ => ∃ i : Int, vs = [.int i] ∧ RetV H Q (.bl true)
theorem ok_is_integer (h : MgOk w.params mg) : FnOk P w (K w.params) mg base CX0 1 af_is_integer fdf_is_integer ["thing"] spIsInt := by
  refine Fun.ok (sp := spIsInt) (Ff_is_integer w.params) scf_is_integer (fun vs H Q E hs => by first | (obtain ⟨_, rfl, _⟩ := hs; rfl) | (obtain ⟨_, _, rfl, _⟩ := hs; rfl) | (obtain ⟨_, _, _, rfl, _⟩ := hs; rfl) | (obtain ⟨_, _, _, _, rfl, _⟩ := hs; rfl) | (obtain ⟨_, _, _, _, _, rfl, _⟩ := hs; rfl) | (obtain ⟨_, _, _, _, _, _, rfl, _⟩ := hs; rfl) | (obtain ⟨_, _, _, _, _, _, _, rfl, _⟩ := hs; rfl) | (obtain ⟨_, _, _, _, _, _, _, _, rfl, _⟩ := hs; rfl) | (obtain ⟨_, _, _, _, _, _, _, _, _, rfl, _⟩ := hs; rfl) | (obtain ⟨_, _, _, _, _, _, _, _, _, _, rfl, _⟩ := hs; rfl) | (obtain ⟨_, _, _, _, _, _, _, _, _, _, _, rfl, _⟩ := hs; rfl) | (obtain ⟨_, _, _, _, _, _, _, _, _, _, _, _, rfl, _⟩ := hs; rfl) | (obtain ⟨_, _, _, _, _, _, _, _, _, _, _, _, _, rfl, _⟩ := hs; rfl) | (obtain ⟨_, _, _, _, _, _, _, _, _, _, _, _, _, _, rfl, _⟩ := hs; rfl) | (obtain ⟨_, _, _, _, _, _, _, _, _, _, _, _, _, _, _, rfl, _⟩ := hs; rfl) | (obtain ⟨_, _, _, _, _, _, _, _, _, _, _, _, _, _, _, _, rfl, _⟩ := hs; rfl) | (obtain ⟨_, _, _, _, _, _, _, _, _, _, _, _, _, _, _, _, _, rfl, _⟩ := hs; rfl) | (obtain ⟨_, _, _, _, _, _, _, _, _, _, _, _, _, _, _, _, _, _, rfl, _⟩ := hs; rfl) | (obtain ⟨_, _, _, _, _, _, _, _, _, _, _, _, _, _, _, _, _, _, _, rfl, _⟩ := hs; rfl) | (obtain ⟨_, _, _, _, _, _, _, _, _, _, _, _, _, _, _, _, _, _, _, _, rfl, _⟩ := hs; rfl) | (obtain ⟨_, _, _, _, _, _, _, _, _, _, _, _, _, _, _, _, _, _, _, _, _, rfl, _⟩ := hs; rfl)) (fun cdv A outer s H vs Q E hr hq => ?_)
  obtain ⟨i, rfl, q⟩ := hq
  refine ⟨_, (pss_one (ps_ret (pe_callB call_isi (by rfl) (n_isinstance h) (by decide +kernel) (pa_cons (pv 0) (pa_cons (pe_bltn (v := .ty "int") (by rfl) (n_int h) (by decide +kernel) rfl) pa_nil))))), ?_⟩
  rw [stf_is_integer]
  walk_at "rd"
  exact ⟨_, _, _, _, _, rfl, .ty _, .base (.int _), kit_ty (by decide +kernel), q _ (Ev.refl _ _)⟩
def spIsIntCut : Sp := fun vs H Q _ => ∃ a dx : Addr, ∃ fs, vs = [.ref a] ∧ H a = some (.ins CCut dx fs) ∧ RetV H Q (.bl false)
theorem ok_is_integer_cut (h : MgOk w.params mg) : FnOk P w (K w.params) mg base CX0 1 af_is_integer fdf_is_integer ["thing"] spIsIntCut := by
  refine Fun.ok (sp := spIsIntCut) (Ff_is_integer w.params) scf_is_integer (fun vs H Q E hs => by first | (obtain ⟨_, rfl, _⟩ := hs; rfl) | (obtain ⟨_, _, rfl, _⟩ := hs; rfl) | (obtain ⟨_, _, _, rfl, _⟩ := hs; rfl) | (obtain ⟨_, _, _, _, rfl, _⟩ := hs; rfl) | (obtain ⟨_, _, _, _, _, rfl, _⟩ := hs; rfl) | (obtain ⟨_, _, _, _, _, _, rfl, _⟩ := hs; rfl) | (obtain ⟨_, _, _, _, _, _, _, rfl, _⟩ := hs; rfl) | (obtain ⟨_, _, _, _, _, _, _, _, rfl, _⟩ := hs; rfl) | (obtain ⟨_, _, _, _, _, _, _, _, _, rfl, _⟩ := hs; rfl) | (obtain ⟨_, _, _, _, _, _, _, _, _, _, rfl, _⟩ := hs; rfl) | (obtain ⟨_, _, _, _, _, _, _, _, _, _, _, rfl, _⟩ := hs; rfl) | (obtain ⟨_, _, _, _, _, _, _, _, _, _, _, _, rfl, _⟩ := hs; rfl) | (obtain ⟨_, _, _, _, _, _, _, _, _, _, _, _, _, rfl, _⟩ := hs; rfl) | (obtain ⟨_, _, _, _, _, _, _, _, _, _, _, _, _, _, rfl, _⟩ := hs; rfl) | (obtain ⟨_, _, _, _, _, _, _, _, _, _, _, _, _, _, _, rfl, _⟩ := hs; rfl) | (obtain ⟨_, _, _, _, _, _, _, _, _, _, _, _, _, _, _, _, rfl, _⟩ := hs; rfl) | (obtain ⟨_, _, _, _, _, _, _, _, _, _, _, _, _, _, _, _, _, rfl, _⟩ := hs; rfl) | (obtain ⟨_, _, _, _, _, _, _, _, _, _, _, _, _, _, _, _, _, _, rfl, _⟩ := hs; rfl) | (obtain ⟨_, _, _, _, _, _, _, _, _, _, _, _, _, _, _, _, _, _, _, rfl, _⟩ := hs; rfl) | (obtain ⟨_, _, _, _, _, _, _, _, _, _, _, _, _, _, _, _, _, _, _, _, rfl, _⟩ := hs; rfl) | (obtain ⟨_, _, _, _, _, _, _, _, _, _, _, _, _, _, _, _, _, _, _, _, _, rfl, _⟩ := hs; rfl)) (fun cdv A outer s H vs Q E hr hq => ?_)
  obtain ⟨a, dx, fs, rfl, ha, q⟩ := hq
  refine ⟨_, (pss_one (ps_ret (pe_callB call_isi (by rfl) (n_isinstance h) (by decide +kernel) (pa_cons (pv 0) (pa_cons (pe_bltn (v := .ty "int") (by rfl) (n_int h) (by decide +kernel) rfl) pa_nil))))), ?_⟩
  rw [stf_is_integer]
  walk_at "rd"
  exact isi_t (.ty _) (ty_Cut w.params ha) (is_Cut_int w.params) (q _ (Ev.refl _ _))
def spIsByte : Sp := fun vs H Q _ => ∃ i : Int, vs = [.int i] ∧ RetV H Q (.bl (decide (0 ≤ i) && decide (i < 256)))
theorem ok_is_byte (h : MgOk w.params mg) : FnOk P w (K w.params) mg base CX0 1 af_is_byte fdf_is_byte ["thing"] spIsByte := by
  refine Fun.ok (sp := spIsByte) (Ff_is_byte w.params) scf_is_byte (fun vs H Q E hs => by first | (obtain ⟨_, rfl, _⟩ := hs; rfl) | (obtain ⟨_, _, rfl, _⟩ := hs; rfl) | (obtain ⟨_, _, _, rfl, _⟩ := hs; rfl) | (obtain ⟨_, _, _, _, rfl, _⟩ := hs; rfl) | (obtain ⟨_, _, _, _, _, rfl, _⟩ := hs; rfl) | (obtain ⟨_, _, _, _, _, _, rfl, _⟩ := hs; rfl) | (obtain ⟨_, _, _, _, _, _, _, rfl, _⟩ := hs; rfl) | (obtain ⟨_, _, _, _, _, _, _, _, rfl, _⟩ := hs; rfl) | (obtain ⟨_, _, _, _, _, _, _, _, _, rfl, _⟩ := hs; rfl) | (obtain ⟨_, _, _, _, _, _, _, _, _, _, rfl, _⟩ := hs; rfl) | (obtain ⟨_, _, _, _, _, _, _, _, _, _, _, rfl, _⟩ := hs; rfl) | (obtain ⟨_, _, _, _, _, _, _, _, _, _, _, _, rfl, _⟩ := hs; rfl) | (obtain ⟨_, _, _, _, _, _, _, _, _, _, _, _, _, rfl, _⟩ := hs; rfl) | (obtain ⟨_, _, _, _, _, _, _, _, _, _, _, _, _, _, rfl, _⟩ := hs; rfl) | (obtain ⟨_, _, _, _, _, _, _, _, _, _, _, _, _, _, _, rfl, _⟩ := hs; rfl) | (obtain ⟨_, _, _, _, _, _, _, _, _, _, _, _, _, _, _, _, rfl, _⟩ := hs; rfl) | (obtain ⟨_, _, _, _, _, _, _, _, _, _, _, _, _, _, _, _, _, rfl, _⟩ := hs; rfl) | (obtain ⟨_, _, _, _, _, _, _, _, _, _, _, _, _, _, _, _, _, _, rfl, _⟩ := hs; rfl) | (obtain ⟨_, _, _, _, _, _, _, _, _, _, _, _, _, _, _, _, _, _, _, rfl, _⟩ := hs; rfl) | (obtain ⟨_, _, _, _, _, _, _, _, _, _, _, _, _, _, _, _, _, _, _, _, rfl, _⟩ := hs; rfl) | (obtain ⟨_, _, _, _, _, _, _, _, _, _, _, _, _, _, _, _, _, _, _, _, _, rfl, _⟩ := hs; rfl)) (fun cdv A outer s H vs Q E hr hq => ?_)
  obtain ⟨i, rfl, q⟩ := hq
  refine ⟨_, (pss_one (ps_ret (pe_and (pe_callB call_isi (by rfl) (n_isinstance h) (by decide +kernel) (pa_cons (pv 0) (pa_cons (pe_bltn (v := .ty "int") (by rfl) (n_int h) (by decide +kernel) rfl) pa_nil))) (pe_one (pe_chain op_le op_lt pe_int (pv 0) pe_int))))), ?_⟩
  rw [stf_is_byte]
  walk_at "rd"
  refine isi_int ⟨_, rfl, ?_⟩
  try walk_at "rd"
  have q := q _ (Ev.refl _ _)
  by_cases h0 : 0 ≤ i
  · simpa [h0] using q
  · simpa [h0] using q
def spIsBytes : Sp := fun vs H Q _ => ∃ (a : Addr) (d : List Int), vs = [.ref a] ∧ H a = some (.tup (d.map .int)) ∧ Bs d ∧ d.length < 10000 ∧ RetV H Q (.bl true)
theorem ok_is_bytes (h : MgOk w.params mg) : FnOk P w (K w.params) mg base CX0 2 af_is_bytes fdf_is_bytes ["thing"] spIsBytes := by
  refine Fun.ok (sp := spIsBytes) (Ff_is_bytes w.params) scf_is_bytes (fun vs H Q E hs => by first | (obtain ⟨_, rfl, _⟩ := hs; rfl) | (obtain ⟨_, _, rfl, _⟩ := hs; rfl) | (obtain ⟨_, _, _, rfl, _⟩ := hs; rfl) | (obtain ⟨_, _, _, _, rfl, _⟩ := hs; rfl) | (obtain ⟨_, _, _, _, _, rfl, _⟩ := hs; rfl) | (obtain ⟨_, _, _, _, _, _, rfl, _⟩ := hs; rfl) | (obtain ⟨_, _, _, _, _, _, _, rfl, _⟩ := hs; rfl) | (obtain ⟨_, _, _, _, _, _, _, _, rfl, _⟩ := hs; rfl) | (obtain ⟨_, _, _, _, _, _, _, _, _, rfl, _⟩ := hs; rfl) | (obtain ⟨_, _, _, _, _, _, _, _, _, _, rfl, _⟩ := hs; rfl) | (obtain ⟨_, _, _, _, _, _, _, _, _, _, _, rfl, _⟩ := hs; rfl) | (obtain ⟨_, _, _, _, _, _, _, _, _, _, _, _, rfl, _⟩ := hs; rfl) | (obtain ⟨_, _, _, _, _, _, _, _, _, _, _, _, _, rfl, _⟩ := hs; rfl) | (obtain ⟨_, _, _, _, _, _, _, _, _, _, _, _, _, _, rfl, _⟩ := hs; rfl) | (obtain ⟨_, _, _, _, _, _, _, _, _, _, _, _, _, _, _, rfl, _⟩ := hs; rfl) | (obtain ⟨_, _, _, _, _, _, _, _, _, _, _, _, _, _, _, _, rfl, _⟩ := hs; rfl) | (obtain ⟨_, _, _, _, _, _, _, _, _, _, _, _, _, _, _, _, _, rfl, _⟩ := hs; rfl) | (obtain ⟨_, _, _, _, _, _, _, _, _, _, _, _, _, _, _, _, _, _, rfl, _⟩ := hs; rfl) | (obtain ⟨_, _, _, _, _, _, _, _, _, _, _, _, _, _, _, _, _, _, _, rfl, _⟩ := hs; rfl) | (obtain ⟨_, _, _, _, _, _, _, _, _, _, _, _, _, _, _, _, _, _, _, _, rfl, _⟩ := hs; rfl) | (obtain ⟨_, _, _, _, _, _, _, _, _, _, _, _, _, _, _, _, _, _, _, _, _, rfl, _⟩ := hs; rfl)) (fun cdv A outer s H vs Q E hr hq => ?_)
  obtain ⟨a, d, rfl, ha, hb, hl, q⟩ := hq
  refine ⟨_, (pss_one (ps_ret (pe_and (pe_callB call_isi (by rfl) (n_isinstance h) (by decide +kernel) (pa_cons (pv 0) (pa_cons (pe_bltn (v := .ty "tuple") (by rfl) (n_tuple h) (by decide +kernel) rfl) pa_nil))) (pe_one (pe_callB (cr_all rfl) (by rfl) (n_all h) (by decide +kernel) (pa_cons (pe_lc (own := [("part", 1)]) (te := (tCall _ _ _ (tCons (tVar 1) tNil))) rfl scf_is_bytes.nd (pi_tup (pv 0)) (blkOk_by (N := ["thing", "part"]) (own := [("part", 1)]) (sc := defScope sf_is_bytes) (by decide +kernel)) (fun _ _ _ _ _ => (pg_name (i := 1) scf_is_bytes.nd rfl (Or.inl rfl))) (fun _ _ _ _ _ => pts_nil) (fun _ _ _ _ _ => (pe_call (ok_is_byte h) (hr.mono (by decide)) (by rfl) (gf_is_byte h) (Ff_is_byte w.params).kp (bf_is_byte w.params) .nil pass0 (pa_cons (pv 1) pa_nil)))) pa_nil)))))), ?_⟩
  rw [stf_is_bytes]
  walk_at "rd"
  refine isi_tup ha ⟨_, rfl, iteT ?_⟩
  refine ⟨_, rfl, a, rfl, ⟨_, SqT.of ha⟩, fun D nD => lc_fn (X := []) walk_tup (fun i => .bl true) (line_of (by simp; omega)) (Ev.refl _ _) nD (by simp) (fun H e => SqT.of (e.tup ha)) (fun i x H' H'' N hi e y k => ?_) (fun H' e hD => ?_)⟩
  · obtain ⟨rfl, hx⟩ := y
    rw [List.getElem?_map] at hx
    obtain ⟨v, hv, rfl⟩ := Option.map_eq_some_iff.mp hx
    have hv := hb v (List.mem_of_getElem? hv)
    try walk_at "rd"
    refine ⟨v, rfl, fun H4 e4 => ?_⟩
    rw [decide_eq_true hv.1, decide_eq_true hv.2]
    exact k _ e4
  · try walk_at "rd"
    refine ⟨_, List.replicate d.length true, rfl, SqL.of (by rw [hD]; simp [List.map_const']), ?_⟩
    have : (List.replicate d.length true).all id = true := by simp
    rw [this]
    exact q _ e
def spIsRow : Sp := fun vs H Q _ => ∃ (a : Addr) (xs : List V), vs = [.ref a] ∧ H a = some (.tup xs) ∧ RetV H Q (.bl true)
theorem ok_is_row (h : MgOk w.params mg) : FnOk P w (K w.params) mg base CX0 1 af_is_row fdf_is_row ["thing"] spIsRow := by
  refine Fun.ok (sp := spIsRow) (Ff_is_row w.params) scf_is_row (fun vs H Q E hs => by first | (obtain ⟨_, rfl, _⟩ := hs; rfl) | (obtain ⟨_, _, rfl, _⟩ := hs; rfl) | (obtain ⟨_, _, _, rfl, _⟩ := hs; rfl) | (obtain ⟨_, _, _, _, rfl, _⟩ := hs; rfl) | (obtain ⟨_, _, _, _, _, rfl, _⟩ := hs; rfl) | (obtain ⟨_, _, _, _, _, _, rfl, _⟩ := hs; rfl) | (obtain ⟨_, _, _, _, _, _, _, rfl, _⟩ := hs; rfl) | (obtain ⟨_, _, _, _, _, _, _, _, rfl, _⟩ := hs; rfl) | (obtain ⟨_, _, _, _, _, _, _, _, _, rfl, _⟩ := hs; rfl) | (obtain ⟨_, _, _, _, _, _, _, _, _, _, rfl, _⟩ := hs; rfl) | (obtain ⟨_, _, _, _, _, _, _, _, _, _, _, rfl, _⟩ := hs; rfl) | (obtain ⟨_, _, _, _, _, _, _, _, _, _, _, _, rfl, _⟩ := hs; rfl) | (obtain ⟨_, _, _, _, _, _, _, _, _, _, _, _, _, rfl, _⟩ := hs; rfl) | (obtain ⟨_, _, _, _, _, _, _, _, _, _, _, _, _, _, rfl, _⟩ := hs; rfl) | (obtain ⟨_, _, _, _, _, _, _, _, _, _, _, _, _, _, _, rfl, _⟩ := hs; rfl) | (obtain ⟨_, _, _, _, _, _, _, _, _, _, _, _, _, _, _, _, rfl, _⟩ := hs; rfl) | (obtain ⟨_, _, _, _, _, _, _, _, _, _, _, _, _, _, _, _, _, rfl, _⟩ := hs; rfl) | (obtain ⟨_, _, _, _, _, _, _, _, _, _, _, _, _, _, _, _, _, _, rfl, _⟩ := hs; rfl) | (obtain ⟨_, _, _, _, _, _, _, _, _, _, _, _, _, _, _, _, _, _, _, rfl, _⟩ := hs; rfl) | (obtain ⟨_, _, _, _, _, _, _, _, _, _, _, _, _, _, _, _, _, _, _, _, rfl, _⟩ := hs; rfl) | (obtain ⟨_, _, _, _, _, _, _, _, _, _, _, _, _, _, _, _, _, _, _, _, _, rfl, _⟩ := hs; rfl)) (fun cdv A outer s H vs Q E hr hq => ?_)
  obtain ⟨a, xs, rfl, ha, q⟩ := hq
  refine ⟨_, (pss_one (ps_ret (pe_callB call_isiT (by rfl) (n_isinstance h) (by decide +kernel) (pa_cons (pv 0) (pa_cons (pe_tup (pa_cons (pe_bltn (v := .ty "tuple") (by rfl) (n_tuple h) (by decide +kernel) rfl) (pa_cons (pe_bltn (v := .ty "list") (by rfl) (n_list h) (by decide +kernel) rfl) pa_nil))) pa_nil))))), ?_⟩
  rw [stf_is_row]
  walk_at "rd"
  exact ⟨by decide, newo fun p H' _ e hp => isiT_t hp (.base (.tup (e.tup ha))) (any_2 (b1 := true) (b2 := false) (by decide +kernel) (by decide +kernel)) (q _ e)⟩
end VL
end
section
set_option linter.all false
set_option maxRecDepth 100000
set_option maxHeartbeats 4000000
namespace VL
open PySem PySem.Spec PyProof.Rows L2 RZ
local macro_rules | `(tactic| walk_at "rd") => `(tactic| (simp only [tVar, tC, tOp, tUn, tTest, tB, tAnd, tOr, tNot, tAndV, tOrV, tNotV, tIf, tIfS, tSeq, tAsg, gName, tRet, tRetN, tDrop, tNext, rI, rI0, rU, rEq, rNe, scal, tCons, tNil, tCB, t2I, tChain, tCall, tMeth, tPar, tPar3, tFld, tTup, tLst, iTup, iList, iRng1, tPart, tNoPart, tBM, tBM0, tMake, cxK, noxK, L2.wipe,
  List.append_nil, List.nil_append, List.cons_append, List.map_cons, List.map_nil, List.getElem?_cons_zero, List.getElem?_cons_succ, List.getElem?_nil, List.set_cons_zero, List.set_cons_succ, Option.some.injEq, V.int.injEq, V.bl.injEq, V.str.injEq, V.ref.injEq, exists_and_left, exists_eq_left', exists_eq_left, true_and, and_true, List.cons.injEq, if_true, if_false, Bool.false_eq_true, Bool.not_true, Bool.not_false, decide_eq_true_eq, and_assoc]))
variable {P : Program} {w : World} {mg : Str → Option Value} {base : Heap}
/-- one dimension -/
def spRowSteps : Sp := fun vs H Q _ => ∃ (a : Addr) (n wd : Int), vs = [.ref a, .int wd] ∧ H a = some (.tup [.int n]) ∧ -(2 ^ 64) < wd ∧ wd < 2 ^ 64 ∧ RetT H Q [.int wd]
theorem ok_row_steps (h : MgOk w.params mg) : FnOk P w (K w.params) mg base CX0 1 af_row_steps fdf_row_steps ["sizes", "width"] spRowSteps := by
  refine Fun.ok (sp := spRowSteps) (Ff_row_steps w.params) scf_row_steps (fun vs H Q E hs => by first | (obtain ⟨_, rfl, _⟩ := hs; rfl) | (obtain ⟨_, _, rfl, _⟩ := hs; rfl) | (obtain ⟨_, _, _, rfl, _⟩ := hs; rfl) | (obtain ⟨_, _, _, _, rfl, _⟩ := hs; rfl) | (obtain ⟨_, _, _, _, _, rfl, _⟩ := hs; rfl) | (obtain ⟨_, _, _, _, _, _, rfl, _⟩ := hs; rfl) | (obtain ⟨_, _, _, _, _, _, _, rfl, _⟩ := hs; rfl) | (obtain ⟨_, _, _, _, _, _, _, _, rfl, _⟩ := hs; rfl) | (obtain ⟨_, _, _, _, _, _, _, _, _, rfl, _⟩ := hs; rfl) | (obtain ⟨_, _, _, _, _, _, _, _, _, _, rfl, _⟩ := hs; rfl) | (obtain ⟨_, _, _, _, _, _, _, _, _, _, _, rfl, _⟩ := hs; rfl) | (obtain ⟨_, _, _, _, _, _, _, _, _, _, _, _, rfl, _⟩ := hs; rfl) | (obtain ⟨_, _, _, _, _, _, _, _, _, _, _, _, _, rfl, _⟩ := hs; rfl) | (obtain ⟨_, _, _, _, _, _, _, _, _, _, _, _, _, _, rfl, _⟩ := hs; rfl) | (obtain ⟨_, _, _, _, _, _, _, _, _, _, _, _, _, _, _, rfl, _⟩ := hs; rfl) | (obtain ⟨_, _, _, _, _, _, _, _, _, _, _, _, _, _, _, _, rfl, _⟩ := hs; rfl) | (obtain ⟨_, _, _, _, _, _, _, _, _, _, _, _, _, _, _, _, _, rfl, _⟩ := hs; rfl) | (obtain ⟨_, _, _, _, _, _, _, _, _, _, _, _, _, _, _, _, _, _, rfl, _⟩ := hs; rfl) | (obtain ⟨_, _, _, _, _, _, _, _, _, _, _, _, _, _, _, _, _, _, _, rfl, _⟩ := hs; rfl) | (obtain ⟨_, _, _, _, _, _, _, _, _, _, _, _, _, _, _, _, _, _, _, _, rfl, _⟩ := hs; rfl) | (obtain ⟨_, _, _, _, _, _, _, _, _, _, _, _, _, _, _, _, _, _, _, _, _, rfl, _⟩ := hs; rfl)) (fun cdv A outer s H vs Q E hr hq => ?_)
  obtain ⟨a, n, wd, rfl, ha, l1, l2, q⟩ := hq
  refine ⟨_, (pss_cons (ps_par (i := 2) (j := 3) (by rfl) scf_row_steps.nd rfl rfl (by decide) rfl rfl (pa_cons (pe_lst pa_nil) (pa_cons (pv 1) pa_nil)) (by rfl))
      (pss_cons (ps_for PassesOwn.never rfl (pi_tup (pe_revT (pv 0))) (pg_name (i := 4) scf_row_steps.nd rfl (Or.inl rfl)) (pss_cons (ps_expr (pe_bm PySem.F.plainAttrs_list PySem.F.slot_list_append PySem.F.type_list_append mt_append (pv 2) (pa_cons (pv 3) pa_nil)))
      (pss_one (ps_set (i := 3) scf_row_steps.nd rfl (Or.inl rfl) (pe_op op_mul (pv 3) (pv 4))))))
      (pss_one (ps_ret (pe_callTy call_tuple_of (by rfl) (n_tuple h) (by decide +kernel) (pa_cons (pe_revL (pv 2)) pa_nil)))))), ?_⟩
  rw [stf_row_steps]
  walk_at "rd"
  refine ⟨by decide, fun p np => ?_⟩
  obtain ⟨H1, H1_eq, e1, hp⟩ := newq (.lst []) np
  rw [← H1_eq]
  clear H1_eq
  refine ⟨_, rfl, a, _, rfl, SqT.of (e1.tup ha), fun r nr => ?_⟩
  obtain ⟨H2, H2_eq, e2, hr2⟩ := newq (.tup [V.int n].reverse) nr
  rw [← H2_eq]
  clear H2_eq
  have hr2 : H2 r = some (.tup [V.int n]) := hr2
  refine ⟨r, rfl, ⟨_, SqT.of hr2⟩, ?_⟩
  refine for_one (walk_tup (xs := [V.int n])) (SqT.of hr2) fun x H3 y => ?_
  obtain ⟨rfl, hx⟩ := y
  cases hx
  try walk_at "rd"
  have hp2 := e2.lst hp
  refine bm_append hp2 (by decide) ?_
  try walk_at "rd"
  refine ⟨.inl ⟨l1, l2⟩, SqT.of (by rw [upd_ne (ne_of hr2 hp2 (by intro z; cases z))]; exact hr2), ?_⟩
  refine ⟨_, rfl, p, _, rfl, SqL.of upd_same, fun l nl => ?_⟩
  refine ⟨l, rfl, _, .inl ⟨SqL.of upd_same, fun t nt => ?_⟩⟩
  exact q _ _ ((((e1.trans e2).put np).trans (Ev.new nl)).trans (Ev.new nt)) upd_same
/-- one dimension -/
def spColumnSteps : Sp := spRowSteps
theorem ok_column_steps (h : MgOk w.params mg) : FnOk P w (K w.params) mg base CX0 2 af_column_steps fdf_column_steps ["sizes", "width"] spColumnSteps := by
  refine Fun.ok (sp := spColumnSteps) (Ff_column_steps w.params) scf_column_steps (fun vs H Q E hs => by first | (obtain ⟨_, rfl, _⟩ := hs; rfl) | (obtain ⟨_, _, rfl, _⟩ := hs; rfl) | (obtain ⟨_, _, _, rfl, _⟩ := hs; rfl) | (obtain ⟨_, _, _, _, rfl, _⟩ := hs; rfl) | (obtain ⟨_, _, _, _, _, rfl, _⟩ := hs; rfl) | (obtain ⟨_, _, _, _, _, _, rfl, _⟩ := hs; rfl) | (obtain ⟨_, _, _, _, _, _, _, rfl, _⟩ := hs; rfl) | (obtain ⟨_, _, _, _, _, _, _, _, rfl, _⟩ := hs; rfl) | (obtain ⟨_, _, _, _, _, _, _, _, _, rfl, _⟩ := hs; rfl) | (obtain ⟨_, _, _, _, _, _, _, _, _, _, rfl, _⟩ := hs; rfl) | (obtain ⟨_, _, _, _, _, _, _, _, _, _, _, rfl, _⟩ := hs; rfl) | (obtain ⟨_, _, _, _, _, _, _, _, _, _, _, _, rfl, _⟩ := hs; rfl) | (obtain ⟨_, _, _, _, _, _, _, _, _, _, _, _, _, rfl, _⟩ := hs; rfl) | (obtain ⟨_, _, _, _, _, _, _, _, _, _, _, _, _, _, rfl, _⟩ := hs; rfl) | (obtain ⟨_, _, _, _, _, _, _, _, _, _, _, _, _, _, _, rfl, _⟩ := hs; rfl) | (obtain ⟨_, _, _, _, _, _, _, _, _, _, _, _, _, _, _, _, rfl, _⟩ := hs; rfl) | (obtain ⟨_, _, _, _, _, _, _, _, _, _, _, _, _, _, _, _, _, rfl, _⟩ := hs; rfl) | (obtain ⟨_, _, _, _, _, _, _, _, _, _, _, _, _, _, _, _, _, _, rfl, _⟩ := hs; rfl) | (obtain ⟨_, _, _, _, _, _, _, _, _, _, _, _, _, _, _, _, _, _, _, rfl, _⟩ := hs; rfl) | (obtain ⟨_, _, _, _, _, _, _, _, _, _, _, _, _, _, _, _, _, _, _, _, rfl, _⟩ := hs; rfl) | (obtain ⟨_, _, _, _, _, _, _, _, _, _, _, _, _, _, _, _, _, _, _, _, _, rfl, _⟩ := hs; rfl)) (fun cdv A outer s H vs Q E hr hq => ?_)
  obtain ⟨a, n, wd, rfl, ha, l1, l2, q⟩ := hq
  refine ⟨_, (pss_one (ps_ret (pe_revT (pe_call (ok_row_steps h) (hr.mono (by decide)) (by rfl) (gf_row_steps h) (Ff_row_steps w.params).kp (bf_row_steps w.params) .nil pass0 (pa_cons (pe_revT (pv 0)) (pa_cons (pv 1) pa_nil)))))), ?_⟩
  rw [stf_column_steps]
  walk_at "rd"
  refine ⟨_, rfl, a, _, rfl, SqT.of ha, fun r nr => ?_⟩
  obtain ⟨H1, H1_eq, e1, h1⟩ := newq (.tup [V.int n].reverse) nr
  rw [← H1_eq]
  clear H1_eq
  try walk_at "rd"
  refine ⟨r, n, wd, rfl, h1, l1, l2, fun H2 p e2 h2 => ?_⟩
  refine ⟨p, rfl, _, SqT.of h2, fun t nt => ?_⟩
  exact q _ _ ((e1.trans e2).trans (Ev.new nt)) upd_same
def spAreDue : Sp := fun vs H Q _ => ∃ (a b c : Addr) (n s d : Int), vs = [.ref a, .ref b, .ref c] ∧ H a = some (.tup [.int n]) ∧ H b = some (.tup [.int s]) ∧ H c = some (.tup [.int d]) ∧ ∀ r, RetV H Q (.bl r)
theorem ok_are_due (h : MgOk w.params mg) : FnOk P w (K w.params) mg base CX0 1 af_are_due fdf_are_due ["sizes", "steps", "due"] spAreDue := by
  refine Fun.ok (sp := spAreDue) (Ff_are_due w.params) scf_are_due (fun vs H Q E hs => by first | (obtain ⟨_, rfl, _⟩ := hs; rfl) | (obtain ⟨_, _, rfl, _⟩ := hs; rfl) | (obtain ⟨_, _, _, rfl, _⟩ := hs; rfl) | (obtain ⟨_, _, _, _, rfl, _⟩ := hs; rfl) | (obtain ⟨_, _, _, _, _, rfl, _⟩ := hs; rfl) | (obtain ⟨_, _, _, _, _, _, rfl, _⟩ := hs; rfl) | (obtain ⟨_, _, _, _, _, _, _, rfl, _⟩ := hs; rfl) | (obtain ⟨_, _, _, _, _, _, _, _, rfl, _⟩ := hs; rfl) | (obtain ⟨_, _, _, _, _, _, _, _, _, rfl, _⟩ := hs; rfl) | (obtain ⟨_, _, _, _, _, _, _, _, _, _, rfl, _⟩ := hs; rfl) | (obtain ⟨_, _, _, _, _, _, _, _, _, _, _, rfl, _⟩ := hs; rfl) | (obtain ⟨_, _, _, _, _, _, _, _, _, _, _, _, rfl, _⟩ := hs; rfl) | (obtain ⟨_, _, _, _, _, _, _, _, _, _, _, _, _, rfl, _⟩ := hs; rfl) | (obtain ⟨_, _, _, _, _, _, _, _, _, _, _, _, _, _, rfl, _⟩ := hs; rfl) | (obtain ⟨_, _, _, _, _, _, _, _, _, _, _, _, _, _, _, rfl, _⟩ := hs; rfl) | (obtain ⟨_, _, _, _, _, _, _, _, _, _, _, _, _, _, _, _, rfl, _⟩ := hs; rfl) | (obtain ⟨_, _, _, _, _, _, _, _, _, _, _, _, _, _, _, _, _, rfl, _⟩ := hs; rfl) | (obtain ⟨_, _, _, _, _, _, _, _, _, _, _, _, _, _, _, _, _, _, rfl, _⟩ := hs; rfl) | (obtain ⟨_, _, _, _, _, _, _, _, _, _, _, _, _, _, _, _, _, _, _, rfl, _⟩ := hs; rfl) | (obtain ⟨_, _, _, _, _, _, _, _, _, _, _, _, _, _, _, _, _, _, _, _, rfl, _⟩ := hs; rfl) | (obtain ⟨_, _, _, _, _, _, _, _, _, _, _, _, _, _, _, _, _, _, _, _, _, rfl, _⟩ := hs; rfl)) (fun cdv A outer s H vs Q E hr hq => ?_)
  obtain ⟨a, b, c, n, s1, d, rfl, ha, hb, hc, q⟩ := hq
  refine ⟨_, (pss_one (ps_ret (pe_callB (cr_all rfl) (by rfl) (n_all h) (by decide +kernel) (pa_cons (pe_lc (own := [("size", 3), ("step", 4), ("wanted", 5)]) (g := gTup (K w.params) 3 (gCons (gName 3) (gCons (gName 4) (gCons (gName 5) gNil)))) (te := _) rfl scf_are_due.nd (pi_zip3 (by rfl) (n_zip h) (pa_cons (pv 0) (pa_cons (pv 1) (pa_cons (pv 2) pa_nil)))) (blkOk_by (N := ["sizes", "steps", "due", "size", "step", "wanted"]) (own := [("size", 3), ("step", 4), ("wanted", 5)]) (sc := defScope sf_are_due) (by decide +kernel)) (fun _ _ _ _ _ => by exact (pg_tup rfl (pgs_cons (pg_name (i := 3) scf_are_due.nd rfl (Or.inl rfl)) (pgs_cons (pg_name (i := 4) scf_are_due.nd rfl (Or.inl rfl)) (pgs_cons (pg_name (i := 5) scf_are_due.nd rfl (Or.inl rfl)) pgs_nil))))) (fun _ _ _ _ _ => pts_nil) (fun _ _ _ _ _ => (pe_or (pe_cmpR op_eq (pv 3) pe_int (nomark _)) (pe_one (pe_cmpR op_eq (pv 4) (pv 5) (nomark _)))))) pa_nil)))), ?_⟩
  rw [stf_are_due]
  walk_at "rd"
  refine ⟨_, rfl, _, rfl, _, rfl, a, b, c, _, _, _, rfl, SqT.of ha, SqT.of hb, SqT.of hc, fun D nD => lc_rel (X := []) (walk_zip3 (xs := [.int n]) (ys := [.int s1]) (zs := [.int d]) rfl rfl rfl) (fun i y H => ∃ r, y = .bl r) (line_of (by simp)) (Ev.refl _ _) nD (by simp) (fun _ _ _ _ _ _ _ h => h)
    (fun H e => ⟨SqT.of (e.tup ha), SqT.of (e.tup hb), SqT.of (e.tup hc)⟩) (fun i x H' H'' N hi e y k => ?_) (fun H' ys e hD hl k => ?_)⟩
  · obtain ⟨T, x, y, z, rfl, nT, rfl, hx, hy, hz⟩ := y
    have : i = 0 := by simp at hi; omega
    subst this
    cases hx; cases hy; cases hz
    refine gTup3 upd_same ⟨rfl, ?_⟩
    try walk_at "rd"
    have kk := fun r => k (.bl r) _ ⟨r, rfl⟩ (Ev.new (o := .tup [V.int n, V.int s1, V.int d]) nT)
    by_cases h1 : n = 1
    · simp [h1]; subst h1; exact kk _
    · simp [h1]; exact kk _
  · have : ∃ bs : List Bool, ys = bs.map V.bl := by
      match ys, hl with
      | [y], _ => obtain ⟨r, rfl⟩ := k 0 y rfl; exact ⟨[r], rfl⟩
    obtain ⟨bs, rfl⟩ := this
    try walk_at "rd"
    exact ⟨_, _, rfl, SqL.of hD, q _ _ e⟩
def spAddresses : Sp := fun vs H Q _ => ∃ (a b : Addr) (n : Nat) (s pl : Int), vs = [.ref a, .ref b, .int pl] ∧ H a = some (.tup [.int n]) ∧ H b = some (.tup [.int s]) ∧ n < 1000 ∧ RetL H Q ((List.range n).map fun (k : Nat) => .int (pl + k * s))
theorem ok_addresses (h : MgOk w.params mg) : FnOk P w (K w.params) mg base CX0 1 af_addresses fdf_addresses ["sizes", "steps", "place"] spAddresses := by
  refine Fun.ok (sp := spAddresses) (Ff_addresses w.params) scf_addresses (fun vs H Q E hs => by first | (obtain ⟨_, rfl, _⟩ := hs; rfl) | (obtain ⟨_, _, rfl, _⟩ := hs; rfl) | (obtain ⟨_, _, _, rfl, _⟩ := hs; rfl) | (obtain ⟨_, _, _, _, rfl, _⟩ := hs; rfl) | (obtain ⟨_, _, _, _, _, rfl, _⟩ := hs; rfl) | (obtain ⟨_, _, _, _, _, _, rfl, _⟩ := hs; rfl) | (obtain ⟨_, _, _, _, _, _, _, rfl, _⟩ := hs; rfl) | (obtain ⟨_, _, _, _, _, _, _, _, rfl, _⟩ := hs; rfl) | (obtain ⟨_, _, _, _, _, _, _, _, _, rfl, _⟩ := hs; rfl) | (obtain ⟨_, _, _, _, _, _, _, _, _, _, rfl, _⟩ := hs; rfl) | (obtain ⟨_, _, _, _, _, _, _, _, _, _, _, rfl, _⟩ := hs; rfl) | (obtain ⟨_, _, _, _, _, _, _, _, _, _, _, _, rfl, _⟩ := hs; rfl) | (obtain ⟨_, _, _, _, _, _, _, _, _, _, _, _, _, rfl, _⟩ := hs; rfl) | (obtain ⟨_, _, _, _, _, _, _, _, _, _, _, _, _, _, rfl, _⟩ := hs; rfl) | (obtain ⟨_, _, _, _, _, _, _, _, _, _, _, _, _, _, _, rfl, _⟩ := hs; rfl) | (obtain ⟨_, _, _, _, _, _, _, _, _, _, _, _, _, _, _, _, rfl, _⟩ := hs; rfl) | (obtain ⟨_, _, _, _, _, _, _, _, _, _, _, _, _, _, _, _, _, rfl, _⟩ := hs; rfl) | (obtain ⟨_, _, _, _, _, _, _, _, _, _, _, _, _, _, _, _, _, _, rfl, _⟩ := hs; rfl) | (obtain ⟨_, _, _, _, _, _, _, _, _, _, _, _, _, _, _, _, _, _, _, rfl, _⟩ := hs; rfl) | (obtain ⟨_, _, _, _, _, _, _, _, _, _, _, _, _, _, _, _, _, _, _, _, rfl, _⟩ := hs; rfl) | (obtain ⟨_, _, _, _, _, _, _, _, _, _, _, _, _, _, _, _, _, _, _, _, _, rfl, _⟩ := hs; rfl)) (fun cdv A outer s H vs Q E hr hq => ?_)
  obtain ⟨a, b, n, s1, pl, rfl, ha, hb, hn, q⟩ := hq
  refine ⟨_, (pss_cons (ps_if (pt_cmpR op_in_seq pe_int (pv 0) (by rfl)) (pss_one (ps_ret (pe_lst pa_nil))) pss_nil)
      (pss_cons (ps_set (i := 3) scf_addresses.nd rfl (Or.inl rfl) (pe_lst (pa_cons (pv 2) pa_nil)))
      (pss_cons (ps_for PassesOwn.never rfl (pi_zipA (by rfl) (n_zip h) (pa_cons (pv 0) (pa_cons (pv 1) pa_nil))) (pg_tup rfl (pgs_cons (pg_name (i := 4) scf_addresses.nd rfl (Or.inr rfl)) (pgs_cons (pg_name (i := 5) scf_addresses.nd rfl (Or.inr rfl)) pgs_nil))) (pss_one (ps_setLc2 (i := 3) (own := [("at", 6), ("k", 7)]) (te := (tOp _ (tVar 6) (tOp _ (tVar 7) (tVar 5)))) rfl scf_addresses.nd rfl rfl (sw_true rfl rfl rfl (by decide +kernel)) (pi_list (pv 3)) (blkOk_by (N := ["sizes", "steps", "place", "found", "size", "step", "at", "k"]) (own := [("at", 6), ("k", 7)]) (sc := defScope sf_addresses) (by decide +kernel)) (vs1 := [7]) (by decide) (fun _ _ _ _ _ => (pg_name (i := 6) scf_addresses.nd rfl (Or.inl rfl))) (fun _ _ _ _ _ => pts_nil) (fun _ _ _ _ _ => (pi_range1 rfl (n_range h) (pa_cons (pv 4) pa_nil))) (fun _ _ _ _ _ => (pg_name (i := 7) scf_addresses.nd rfl (Or.inl rfl))) (fun _ _ _ _ _ => pts_nil) (fun _ _ _ _ _ => (pe_op op_add (pv 6) (pe_op op_mul (pv 7) (pv 5)))))))
      (pss_one (ps_ret (pv 3)))))), ?_⟩
  rw [stf_addresses]
  walk_at "rd"
  refine ⟨a, _, rfl, .inr (SqT.of ha), rfl, rfl, ?_⟩
  try walk_at "rd"
  by_cases hn0 : n = 0
  · subst hn0
    exact iteT ⟨by decide, fun p np => q _ _ (Ev.new np) np upd_same⟩
  · have : inV (V.int 0) [V.int (n : Int)] = false := by simp [inV, eqV]; omega
    rw [this]
    refine iteF ⟨by show 1 ≤ sizeLine; decide, fun p np => ?_⟩
    obtain ⟨H1, H1_eq, e1, h1⟩ := newq (.lst [V.int pl]) np
    rw [← H1_eq]
    clear H1_eq
    refine ⟨_, rfl, _, rfl, a, b, _, _, rfl, .inr ⟨SqT.of (e1.tup ha), SqT.of (e1.tup hb), ?_⟩⟩
    refine for_one (walk_zipT (xs := [V.int (n : Int)]) (ys := [V.int s1]) rfl) ⟨SqT.of (e1.tup ha), SqT.of (e1.tup hb)⟩ fun x H3 y => ?_
    obtain ⟨T, x, y, rfl, nT, rfl, hx, hy⟩ := y
    cases hx; cases hy
    refine gTup2 upd_same ?_
    obtain ⟨H3, H3_eq, e3, h3⟩ := newq (.tup [V.int n, V.int s1]) nT
    rw [← H3_eq]
    clear H3_eq
    try walk_at "rd"
    refine ⟨_, rfl, p, rfl, ⟨_, SqL.of (e3.lst h1)⟩, fun D nD => lc2_fn (X := []) (n1 := n) (walk_list (xs := [V.int pl])) (fun _ (k : Nat) => .int (pl + k * s1)) (line_of (by simp; omega)) (Ev.refl _ _) nD (by simp)
      (fun H e => SqL.of (e.lst (e3.lst h1))) (fun i x H' H'' N hi e y k => ?_) (fun H' e hD => ?_)⟩
    · obtain ⟨rfl, hx⟩ := y
      have : i = 0 := by simp at hi; omega
      subst this
      cases hx
      try walk_at "rd"
      refine ⟨by omega, by omega, ?_⟩
      rw [Int.toNat_natCast]
      refine k _ _ _ _ _ (Ev.refl _ _) walk_range (fun _ _ => trivial) fun j x H4 H5 N1 hj e4 y kk => ?_
      obtain ⟨rfl, rfl⟩ := y
      try walk_at "rd"
      refine ⟨.inl ⟨by omega, by omega⟩, ?_⟩
      have := kk _ (Ev.refl _ _)
      simpa using this
    · try walk_at "rd"
      refine ⟨SqT.of ((e1.trans (e3.trans e)).tup ha), SqT.of ((e1.trans (e3.trans e)).tup hb), ?_⟩
      exact q _ _ ((e1.trans e3).trans e) ((e1.trans e3).free nD) (by rw [hD]; simp)
def spContig : Sp := fun vs H Q _ => ∃ (a b c : Addr) (n s d : Int), vs = [.ref a, .ref b, .ref c] ∧ H a = some (.tup [.int n]) ∧ H b = some (.tup [.int s]) ∧ H c = some (.tup [.int d]) ∧ ∀ r, RetV H Q (.bl r)
theorem ok_are_contiguous (h : MgOk w.params mg) : FnOk P w (K w.params) mg base CX0 2 af_are_contiguous fdf_are_contiguous ["sizes", "steps", "due"] spContig := by
  refine Fun.ok (sp := spContig) (Ff_are_contiguous w.params) scf_are_contiguous (fun vs H Q E hs => by first | (obtain ⟨_, rfl, _⟩ := hs; rfl) | (obtain ⟨_, _, rfl, _⟩ := hs; rfl) | (obtain ⟨_, _, _, rfl, _⟩ := hs; rfl) | (obtain ⟨_, _, _, _, rfl, _⟩ := hs; rfl) | (obtain ⟨_, _, _, _, _, rfl, _⟩ := hs; rfl) | (obtain ⟨_, _, _, _, _, _, rfl, _⟩ := hs; rfl) | (obtain ⟨_, _, _, _, _, _, _, rfl, _⟩ := hs; rfl) | (obtain ⟨_, _, _, _, _, _, _, _, rfl, _⟩ := hs; rfl) | (obtain ⟨_, _, _, _, _, _, _, _, _, rfl, _⟩ := hs; rfl) | (obtain ⟨_, _, _, _, _, _, _, _, _, _, rfl, _⟩ := hs; rfl) | (obtain ⟨_, _, _, _, _, _, _, _, _, _, _, rfl, _⟩ := hs; rfl) | (obtain ⟨_, _, _, _, _, _, _, _, _, _, _, _, rfl, _⟩ := hs; rfl) | (obtain ⟨_, _, _, _, _, _, _, _, _, _, _, _, _, rfl, _⟩ := hs; rfl) | (obtain ⟨_, _, _, _, _, _, _, _, _, _, _, _, _, _, rfl, _⟩ := hs; rfl) | (obtain ⟨_, _, _, _, _, _, _, _, _, _, _, _, _, _, _, rfl, _⟩ := hs; rfl) | (obtain ⟨_, _, _, _, _, _, _, _, _, _, _, _, _, _, _, _, rfl, _⟩ := hs; rfl) | (obtain ⟨_, _, _, _, _, _, _, _, _, _, _, _, _, _, _, _, _, rfl, _⟩ := hs; rfl) | (obtain ⟨_, _, _, _, _, _, _, _, _, _, _, _, _, _, _, _, _, _, rfl, _⟩ := hs; rfl) | (obtain ⟨_, _, _, _, _, _, _, _, _, _, _, _, _, _, _, _, _, _, _, rfl, _⟩ := hs; rfl) | (obtain ⟨_, _, _, _, _, _, _, _, _, _, _, _, _, _, _, _, _, _, _, _, rfl, _⟩ := hs; rfl) | (obtain ⟨_, _, _, _, _, _, _, _, _, _, _, _, _, _, _, _, _, _, _, _, _, rfl, _⟩ := hs; rfl)) (fun cdv A outer s H vs Q E hr hq => ?_)
  obtain ⟨a, b, c, n, s1, d, rfl, ha, hb, hc, q⟩ := hq
  refine ⟨_, (pss_one (ps_ret (pe_or (pe_and (pe_cmpR op_gt (pe_callB call_len (by rfl) (n_len h) (by decide +kernel) (pa_cons (pv 0) pa_nil)) pe_int (nomark _)) (pe_one (pe_cmpR op_in_seq pe_int (pv 0) (by rfl)))) (pe_one (pe_call (ok_are_due h) (hr.mono (by decide)) (by rfl) (gf_are_due h) (Ff_are_due w.params).kp (bf_are_due w.params) .nil pass0 (pa_cons (pv 0) (pa_cons (pv 1) (pa_cons (pv 2) pa_nil)))))))), ?_⟩
  rw [stf_are_contiguous]
  walk_at "rd"
  refine ⟨1, .inr ⟨_, SqT.of ha, rfl⟩, ?_⟩
  rw [if_neg (by decide)]
  exact ⟨a, b, c, _, _, _, rfl, ha, hb, hc, q⟩
def spCC : Sp := fun vs H Q _ => ∃ (a b : Addr) (n s wd : Int), vs = [.ref a, .ref b, .int wd] ∧ H a = some (.tup [.int n]) ∧ H b = some (.tup [.int s]) ∧ -(2 ^ 64) < wd ∧ wd < 2 ^ 64 ∧ ∀ r, RetV H Q (.bl r)
theorem ok_is_c_contiguous (h : MgOk w.params mg) : FnOk P w (K w.params) mg base CX0 3 af_is_c_contiguous fdf_is_c_contiguous ["sizes", "steps", "width"] spCC := by
  refine Fun.ok (sp := spCC) (Ff_is_c_contiguous w.params) scf_is_c_contiguous (fun vs H Q E hs => by first | (obtain ⟨_, rfl, _⟩ := hs; rfl) | (obtain ⟨_, _, rfl, _⟩ := hs; rfl) | (obtain ⟨_, _, _, rfl, _⟩ := hs; rfl) | (obtain ⟨_, _, _, _, rfl, _⟩ := hs; rfl) | (obtain ⟨_, _, _, _, _, rfl, _⟩ := hs; rfl) | (obtain ⟨_, _, _, _, _, _, rfl, _⟩ := hs; rfl) | (obtain ⟨_, _, _, _, _, _, _, rfl, _⟩ := hs; rfl) | (obtain ⟨_, _, _, _, _, _, _, _, rfl, _⟩ := hs; rfl) | (obtain ⟨_, _, _, _, _, _, _, _, _, rfl, _⟩ := hs; rfl) | (obtain ⟨_, _, _, _, _, _, _, _, _, _, rfl, _⟩ := hs; rfl) | (obtain ⟨_, _, _, _, _, _, _, _, _, _, _, rfl, _⟩ := hs; rfl) | (obtain ⟨_, _, _, _, _, _, _, _, _, _, _, _, rfl, _⟩ := hs; rfl) | (obtain ⟨_, _, _, _, _, _, _, _, _, _, _, _, _, rfl, _⟩ := hs; rfl) | (obtain ⟨_, _, _, _, _, _, _, _, _, _, _, _, _, _, rfl, _⟩ := hs; rfl) | (obtain ⟨_, _, _, _, _, _, _, _, _, _, _, _, _, _, _, rfl, _⟩ := hs; rfl) | (obtain ⟨_, _, _, _, _, _, _, _, _, _, _, _, _, _, _, _, rfl, _⟩ := hs; rfl) | (obtain ⟨_, _, _, _, _, _, _, _, _, _, _, _, _, _, _, _, _, rfl, _⟩ := hs; rfl) | (obtain ⟨_, _, _, _, _, _, _, _, _, _, _, _, _, _, _, _, _, _, rfl, _⟩ := hs; rfl) | (obtain ⟨_, _, _, _, _, _, _, _, _, _, _, _, _, _, _, _, _, _, _, rfl, _⟩ := hs; rfl) | (obtain ⟨_, _, _, _, _, _, _, _, _, _, _, _, _, _, _, _, _, _, _, _, rfl, _⟩ := hs; rfl) | (obtain ⟨_, _, _, _, _, _, _, _, _, _, _, _, _, _, _, _, _, _, _, _, _, rfl, _⟩ := hs; rfl)) (fun cdv A outer s H vs Q E hr hq => ?_)
  obtain ⟨a, b, n, s1, wd, rfl, ha, hb, l1, l2, q⟩ := hq
  refine ⟨_, (pss_one (ps_ret (pe_call (ok_are_contiguous h) (hr.mono (by decide)) (by rfl) (gf_are_contiguous h) (Ff_are_contiguous w.params).kp (bf_are_contiguous w.params) .nil pass0 (pa_cons (pv 0) (pa_cons (pv 1) (pa_cons (pe_call (ok_row_steps h) (hr.mono (by decide)) (by rfl) (gf_row_steps h) (Ff_row_steps w.params).kp (bf_row_steps w.params) .nil pass0 (pa_cons (pv 0) (pa_cons (pv 2) pa_nil))) pa_nil)))))), ?_⟩
  rw [stf_is_c_contiguous]
  walk_at "rd"
  refine ⟨a, n, wd, rfl, ha, l1, l2, fun H' p e hp => ?_⟩
  try walk_at "rd"
  exact ⟨a, b, p, _, _, _, rfl, e.tup ha, e.tup hb, hp, fun r H2 e2 => q r _ (e.trans e2)⟩
theorem ok_is_f_contiguous (h : MgOk w.params mg) : FnOk P w (K w.params) mg base CX0 3 af_is_f_contiguous fdf_is_f_contiguous ["sizes", "steps", "width"] spCC := by
  refine Fun.ok (sp := spCC) (Ff_is_f_contiguous w.params) scf_is_f_contiguous (fun vs H Q E hs => by first | (obtain ⟨_, rfl, _⟩ := hs; rfl) | (obtain ⟨_, _, rfl, _⟩ := hs; rfl) | (obtain ⟨_, _, _, rfl, _⟩ := hs; rfl) | (obtain ⟨_, _, _, _, rfl, _⟩ := hs; rfl) | (obtain ⟨_, _, _, _, _, rfl, _⟩ := hs; rfl) | (obtain ⟨_, _, _, _, _, _, rfl, _⟩ := hs; rfl) | (obtain ⟨_, _, _, _, _, _, _, rfl, _⟩ := hs; rfl) | (obtain ⟨_, _, _, _, _, _, _, _, rfl, _⟩ := hs; rfl) | (obtain ⟨_, _, _, _, _, _, _, _, _, rfl, _⟩ := hs; rfl) | (obtain ⟨_, _, _, _, _, _, _, _, _, _, rfl, _⟩ := hs; rfl) | (obtain ⟨_, _, _, _, _, _, _, _, _, _, _, rfl, _⟩ := hs; rfl) | (obtain ⟨_, _, _, _, _, _, _, _, _, _, _, _, rfl, _⟩ := hs; rfl) | (obtain ⟨_, _, _, _, _, _, _, _, _, _, _, _, _, rfl, _⟩ := hs; rfl) | (obtain ⟨_, _, _, _, _, _, _, _, _, _, _, _, _, _, rfl, _⟩ := hs; rfl) | (obtain ⟨_, _, _, _, _, _, _, _, _, _, _, _, _, _, _, rfl, _⟩ := hs; rfl) | (obtain ⟨_, _, _, _, _, _, _, _, _, _, _, _, _, _, _, _, rfl, _⟩ := hs; rfl) | (obtain ⟨_, _, _, _, _, _, _, _, _, _, _, _, _, _, _, _, _, rfl, _⟩ := hs; rfl) | (obtain ⟨_, _, _, _, _, _, _, _, _, _, _, _, _, _, _, _, _, _, rfl, _⟩ := hs; rfl) | (obtain ⟨_, _, _, _, _, _, _, _, _, _, _, _, _, _, _, _, _, _, _, rfl, _⟩ := hs; rfl) | (obtain ⟨_, _, _, _, _, _, _, _, _, _, _, _, _, _, _, _, _, _, _, _, rfl, _⟩ := hs; rfl) | (obtain ⟨_, _, _, _, _, _, _, _, _, _, _, _, _, _, _, _, _, _, _, _, _, rfl, _⟩ := hs; rfl)) (fun cdv A outer s H vs Q E hr hq => ?_)
  obtain ⟨a, b, n, s1, wd, rfl, ha, hb, l1, l2, q⟩ := hq
  refine ⟨_, (pss_one (ps_ret (pe_call (ok_are_contiguous h) (hr.mono (by decide)) (by rfl) (gf_are_contiguous h) (Ff_are_contiguous w.params).kp (bf_are_contiguous w.params) .nil pass0 (pa_cons (pv 0) (pa_cons (pv 1) (pa_cons (pe_call (ok_column_steps h) (hr.mono (by decide)) (by rfl) (gf_column_steps h) (Ff_column_steps w.params).kp (bf_column_steps w.params) .nil pass0 (pa_cons (pv 0) (pa_cons (pv 2) pa_nil))) pa_nil)))))), ?_⟩
  rw [stf_is_f_contiguous]
  walk_at "rd"
  refine ⟨a, n, wd, rfl, ha, l1, l2, fun H' p e hp => ?_⟩
  try walk_at "rd"
  exact ⟨a, b, p, _, _, _, rfl, e.tup ha, e.tup hb, hp, fun r H2 e2 => q r _ (e.trans e2)⟩
end VL
end
section
set_option linter.all false
set_option maxRecDepth 100000
set_option maxHeartbeats 4000000
namespace VL
open PySem PySem.Spec PyProof.Rows L2 RZ
local macro_rules | `(tactic| walk_at "rd") => `(tactic| (simp only [tVar, tC, tOp, tUn, tTest, tB, tAnd, tOr, tNot, tAndV, tOrV, tNotV, tIf, tIfS, tSeq, tAsg, gName, tRet, tRetN, tDrop, tNext, rI, rI0, rU, rEq, rNe, scal, tCons, tNil, tCB, t2I, tChain, tCall, tMeth, tPar, tPar3, tFld, tTup, tLst, iTup, iList, iRng1, tPart, tNoPart, tBM, tBM0, tMake, cxK, noxK, L2.wipe,
  List.append_nil, List.nil_append, List.cons_append, List.map_cons, List.map_nil, List.getElem?_cons_zero, List.getElem?_cons_succ, List.getElem?_nil, List.set_cons_zero, List.set_cons_succ, Option.some.injEq, V.int.injEq, V.bl.injEq, V.str.injEq, V.ref.injEq, exists_and_left, exists_eq_left', exists_eq_left, true_and, and_true, List.cons.injEq, if_true, if_false, Bool.false_eq_true, Bool.not_true, Bool.not_false, decide_eq_true_eq, and_assoc]))
variable {P : Program} {w : World} {mg : Str → Option Value} {base : Heap}
/-- x is in the making -/
def EvX (x : Addr) (H H' : Hp) : Prop := ∀ H0, Ev [] H0 H → H0 x = none → Ev [] H0 H'
theorem EvX.refl (x : Addr) (H : Hp) : EvX x H H := fun _ e _ => e
theorem EvX.put {x : Addr} {H H1 : Hp} {o : HO} (e : EvX x H H1) : EvX x H (upd H1 x o) := fun H0 e0 n => (e H0 e0 n).put n
theorem EvX.ev {x : Addr} {H H1 H2 : Hp} (e : EvX x H H1) (k : Ev [] H1 H2) : EvX x H H2 := fun H0 e0 n => (e H0 e0 n).trans k
theorem make_ev {H : Hp} {x dx C : Addr} (nx : H x = none) (nd : H dx = none) : Ev [] H (upd (upd H dx (.own x)) x (.ins C dx [])) := (Ev.new nd).put nx
theorem EvX.made {H H' : Hp} {x dx C : Addr} (e : EvX x (upd (upd H dx (.own x)) x (.ins C dx [])) H') (nx : H x = none) (nd : H dx = none) : Ev [] H H' := e H (make_ev nx nd) nx
theorem put1 {K : PySem.W.Frag} {H H0 : Hp} {x C dx : Addr} {fs fs' : List (Str × V)} {f : Str} {y : V} {G : Hp → Prop} (hx : H x = some (.ins C dx fs)) (c : Cls K C) (n : NoAttr K C f) (l : fs.length < 1000) (hp : putF f y fs = fs') (e : EvX x H0 H)
    (q : EvX x H0 (upd H x (.ins C dx fs')) → (upd H x (.ins C dx fs')) x = some (.ins C dx fs') → G (upd H x (.ins C dx fs'))) : ∃ a C dx fs, V.ref x = .ref a ∧ H a = some (.ins C dx fs) ∧ Cls K C ∧ NoAttr K C f ∧ fs.length < 1000 ∧ G (upd H a (.ins C dx (putF f y fs))) :=
  ⟨x, C, dx, fs, rfl, hx, c, n, l, by subst hp; exact q e.put upd_same⟩
def spMem : Sp := fun vs H Q _ => ∃ (x dx a : Addr) (d : List Int), vs = [.ref x, .ref a] ∧ H x = some (.ins CMemory dx []) ∧ H a = some (.tup (d.map .int)) ∧ d.length < 10000 ∧
  ∀ H' c, EvX x H H' → H c = none → H' x = some (memO dx c) → H' c = some (.lst (d.map .int)) → Q .non H'
theorem ok_mem_init (h : MgOk w.params mg) : FnOk P w (K w.params) mg base CX0 1 am_mem_init fdm_mem_init ["self", "cells"] spMem := by
  refine Fun.ok (sp := spMem) (Fm_mem_init w.params) scm_mem_init (fun vs H Q E hs => by first | (obtain ⟨_, rfl, _⟩ := hs; rfl) | (obtain ⟨_, _, rfl, _⟩ := hs; rfl) | (obtain ⟨_, _, _, rfl, _⟩ := hs; rfl) | (obtain ⟨_, _, _, _, rfl, _⟩ := hs; rfl) | (obtain ⟨_, _, _, _, _, rfl, _⟩ := hs; rfl) | (obtain ⟨_, _, _, _, _, _, rfl, _⟩ := hs; rfl) | (obtain ⟨_, _, _, _, _, _, _, rfl, _⟩ := hs; rfl) | (obtain ⟨_, _, _, _, _, _, _, _, rfl, _⟩ := hs; rfl) | (obtain ⟨_, _, _, _, _, _, _, _, _, rfl, _⟩ := hs; rfl) | (obtain ⟨_, _, _, _, _, _, _, _, _, _, rfl, _⟩ := hs; rfl) | (obtain ⟨_, _, _, _, _, _, _, _, _, _, _, rfl, _⟩ := hs; rfl) | (obtain ⟨_, _, _, _, _, _, _, _, _, _, _, _, rfl, _⟩ := hs; rfl) | (obtain ⟨_, _, _, _, _, _, _, _, _, _, _, _, _, rfl, _⟩ := hs; rfl) | (obtain ⟨_, _, _, _, _, _, _, _, _, _, _, _, _, _, rfl, _⟩ := hs; rfl) | (obtain ⟨_, _, _, _, _, _, _, _, _, _, _, _, _, _, _, rfl, _⟩ := hs; rfl) | (obtain ⟨_, _, _, _, _, _, _, _, _, _, _, _, _, _, _, _, rfl, _⟩ := hs; rfl) | (obtain ⟨_, _, _, _, _, _, _, _, _, _, _, _, _, _, _, _, _, rfl, _⟩ := hs; rfl) | (obtain ⟨_, _, _, _, _, _, _, _, _, _, _, _, _, _, _, _, _, _, rfl, _⟩ := hs; rfl) | (obtain ⟨_, _, _, _, _, _, _, _, _, _, _, _, _, _, _, _, _, _, _, rfl, _⟩ := hs; rfl) | (obtain ⟨_, _, _, _, _, _, _, _, _, _, _, _, _, _, _, _, _, _, _, _, rfl, _⟩ := hs; rfl) | (obtain ⟨_, _, _, _, _, _, _, _, _, _, _, _, _, _, _, _, _, _, _, _, _, rfl, _⟩ := hs; rfl)) (fun cdv A outer s H vs Q E hr hq => ?_)
  obtain ⟨x, dx, a, d, rfl, hx, ha, hl, q⟩ := hq
  refine ⟨_, (pss_one (ps_fld (pv 0) (pe_lc (own := [("cell", 2)]) (te := _) rfl scm_mem_init.nd (pi_tup (pv 1)) (blkOk_by (N := ["self", "cells", "cell"]) (own := [("cell", 2)]) (sc := defScope sm_mem_init) (by decide +kernel)) (fun _ _ _ _ _ => (pg_name (i := 2) scm_mem_init.nd rfl (Or.inl rfl))) (fun _ _ _ _ _ => pts_nil) (fun _ _ _ _ _ => (pe_callTy call_int1 (by rfl) (n_int h) (by decide +kernel) (pa_cons (pv 2) pa_nil)))) rfl)), ?_⟩
  rw [stm_mem_init]
  walk_at "rd"
  refine ⟨_, rfl, a, rfl, ⟨_, SqT.of ha⟩, fun D nD => lc_fn (X := []) walk_tup (fun i => (d.map V.int).getD i .non) (line_of (by simp; omega)) (Ev.refl _ _) nD (by simp) (fun H e => SqT.of (e.tup ha)) (fun i x H' H'' N hi e y k => ?_) (fun H' e hD => ?_)⟩
  · obtain ⟨rfl, hx⟩ := y
    rw [List.getElem?_map] at hx
    obtain ⟨v, hv, rfl⟩ := Option.map_eq_some_iff.mp hx
    try walk_at "rd"
    have := k _ (Ev.refl _ _)
    simpa [hv] using this
  · have hx' := e.insN hx
    refine ⟨_, rfl, put1 hx' (cl_Memory w.params) (na_Memory_cells w.params) (by simp) (fs' := [("cells", .ref D)]) (by kernel_rfl) ((EvX.refl x H).ev e) fun e2 hx2 => ?_⟩
    refine q _ D e2 nD hx2 ?_
    rw [upd_ne (ne_of hD hx' (by intro z; cases z)), hD]
    congr 2
    apply List.ext_getElem (by simp)
    intro i h1 h2
    simp at h2
    simp [h2]
def spBuf : Sp := fun vs H Q _ => ∃ (x dx : Addr) (m p w k z s f o : V), vs = [.ref x, m, p, w, k, z, s, f, o] ∧ H x = some (.ins CBuffer dx []) ∧
  ∀ H', EvX x H H' → H' x = some (.ins CBuffer dx [("memory", m), ("place", p), ("width", w), ("kind", k), ("sizes", z), ("steps", s), ("fixed", f), ("source", o), ("shares", .int 0)]) → Q .non H'
theorem ok_buf_init (h : MgOk w.params mg) : FnOk P w (K w.params) mg base CX0 1 am_buf_init fdm_buf_init ["self", "memory", "place", "width", "kind", "sizes", "steps", "fixed", "source"] spBuf := by
  refine Fun.ok (sp := spBuf) (Fm_buf_init w.params) scm_buf_init (fun vs H Q E hs => by first | (obtain ⟨_, rfl, _⟩ := hs; rfl) | (obtain ⟨_, _, rfl, _⟩ := hs; rfl) | (obtain ⟨_, _, _, rfl, _⟩ := hs; rfl) | (obtain ⟨_, _, _, _, rfl, _⟩ := hs; rfl) | (obtain ⟨_, _, _, _, _, rfl, _⟩ := hs; rfl) | (obtain ⟨_, _, _, _, _, _, rfl, _⟩ := hs; rfl) | (obtain ⟨_, _, _, _, _, _, _, rfl, _⟩ := hs; rfl) | (obtain ⟨_, _, _, _, _, _, _, _, rfl, _⟩ := hs; rfl) | (obtain ⟨_, _, _, _, _, _, _, _, _, rfl, _⟩ := hs; rfl) | (obtain ⟨_, _, _, _, _, _, _, _, _, _, rfl, _⟩ := hs; rfl) | (obtain ⟨_, _, _, _, _, _, _, _, _, _, _, rfl, _⟩ := hs; rfl) | (obtain ⟨_, _, _, _, _, _, _, _, _, _, _, _, rfl, _⟩ := hs; rfl) | (obtain ⟨_, _, _, _, _, _, _, _, _, _, _, _, _, rfl, _⟩ := hs; rfl) | (obtain ⟨_, _, _, _, _, _, _, _, _, _, _, _, _, _, rfl, _⟩ := hs; rfl) | (obtain ⟨_, _, _, _, _, _, _, _, _, _, _, _, _, _, _, rfl, _⟩ := hs; rfl) | (obtain ⟨_, _, _, _, _, _, _, _, _, _, _, _, _, _, _, _, rfl, _⟩ := hs; rfl) | (obtain ⟨_, _, _, _, _, _, _, _, _, _, _, _, _, _, _, _, _, rfl, _⟩ := hs; rfl) | (obtain ⟨_, _, _, _, _, _, _, _, _, _, _, _, _, _, _, _, _, _, rfl, _⟩ := hs; rfl) | (obtain ⟨_, _, _, _, _, _, _, _, _, _, _, _, _, _, _, _, _, _, _, rfl, _⟩ := hs; rfl) | (obtain ⟨_, _, _, _, _, _, _, _, _, _, _, _, _, _, _, _, _, _, _, _, rfl, _⟩ := hs; rfl) | (obtain ⟨_, _, _, _, _, _, _, _, _, _, _, _, _, _, _, _, _, _, _, _, _, rfl, _⟩ := hs; rfl)) (fun cdv A outer s H vs Q E hr hq => ?_)
  obtain ⟨x, dx, m, p, w1, k, z, s1, f, o, rfl, hx, q⟩ := hq
  refine ⟨_, (pss_cons (ps_fld (pv 0) (pv 1) rfl)
      (pss_cons (ps_fld (pv 0) (pv 2) rfl)
      (pss_cons (ps_fld (pv 0) (pv 3) rfl)
      (pss_cons (ps_fld (pv 0) (pv 4) rfl)
      (pss_cons (ps_fld (pv 0) (pv 5) rfl)
      (pss_cons (ps_fld (pv 0) (pv 6) rfl)
      (pss_cons (ps_fld (pv 0) (pv 7) rfl)
      (pss_cons (ps_fld (pv 0) (pv 8) rfl)
      (pss_one (ps_fld (pv 0) pe_int rfl)))))))))), ?_⟩
  rw [stm_buf_init]
  walk_at "rd"
  refine ⟨_, rfl, _, rfl, put1 (hx) (cl_Buffer w.params) (na_Buffer_memory w.params) (by simp) (fs' := [("memory", m)]) (by kernel_rfl) (EvX.refl _ _) fun e1 h1 => ?_⟩
  refine ⟨_, rfl, _, rfl, put1 (h1) (cl_Buffer w.params) (na_Buffer_place w.params) (by simp) (fs' := [("memory", m), ("place", p)]) (by kernel_rfl) (e1) fun e2 h2 => ?_⟩
  refine ⟨_, rfl, _, rfl, put1 (h2) (cl_Buffer w.params) (na_Buffer_width w.params) (by simp) (fs' := [("memory", m), ("place", p), ("width", w1)]) (by kernel_rfl) (e2) fun e3 h3 => ?_⟩
  refine ⟨_, rfl, _, rfl, put1 (h3) (cl_Buffer w.params) (na_Buffer_kind w.params) (by simp) (fs' := [("memory", m), ("place", p), ("width", w1), ("kind", k)]) (by kernel_rfl) (e3) fun e4 h4 => ?_⟩
  refine ⟨_, rfl, _, rfl, put1 (h4) (cl_Buffer w.params) (na_Buffer_sizes w.params) (by simp) (fs' := [("memory", m), ("place", p), ("width", w1), ("kind", k), ("sizes", z)]) (by kernel_rfl) (e4) fun e5 h5 => ?_⟩
  refine ⟨_, rfl, _, rfl, put1 (h5) (cl_Buffer w.params) (na_Buffer_steps w.params) (by simp) (fs' := [("memory", m), ("place", p), ("width", w1), ("kind", k), ("sizes", z), ("steps", s1)]) (by kernel_rfl) (e5) fun e6 h6 => ?_⟩
  refine ⟨_, rfl, _, rfl, put1 (h6) (cl_Buffer w.params) (na_Buffer_fixed w.params) (by simp) (fs' := [("memory", m), ("place", p), ("width", w1), ("kind", k), ("sizes", z), ("steps", s1), ("fixed", f)]) (by kernel_rfl) (e6) fun e7 h7 => ?_⟩
  refine ⟨_, rfl, _, rfl, put1 (h7) (cl_Buffer w.params) (na_Buffer_source w.params) (by simp) (fs' := [("memory", m), ("place", p), ("width", w1), ("kind", k), ("sizes", z), ("steps", s1), ("fixed", f), ("source", o)]) (by kernel_rfl) (e7) fun e8 h8 => ?_⟩
  refine ⟨_, rfl, put1 (h8) (cl_Buffer w.params) (na_Buffer_shares w.params) (by simp) (fs' := [("memory", m), ("place", p), ("width", w1), ("kind", k), ("sizes", z), ("steps", s1), ("fixed", f), ("source", o), ("shares", .int 0)]) (by kernel_rfl) (e8) fun e9 h9 => ?_⟩
  exact q _ e9 h9
def spCutI : Sp := fun vs H Q _ => ∃ (x dx : Addr) (a b c : V), vs = [.ref x, a, b, c] ∧ H x = some (.ins CCut dx []) ∧
  ∀ H', EvX x H H' → H' x = some (.ins CCut dx [("start", a), ("stop", b), ("step", c)]) → Q .non H'
theorem ok_cut_init (h : MgOk w.params mg) : FnOk P w (K w.params) mg base CX0 1 am_cut_init fdm_cut_init ["self", "start", "stop", "step"] spCutI := by
  refine FunD.ok (sp := spCutI) (Fm_cut_init w.params) scm_cut_init (fun vs H Q E hs => by first | (obtain ⟨_, rfl, _⟩ := hs; rfl) | (obtain ⟨_, _, rfl, _⟩ := hs; rfl) | (obtain ⟨_, _, _, rfl, _⟩ := hs; rfl) | (obtain ⟨_, _, _, _, rfl, _⟩ := hs; rfl) | (obtain ⟨_, _, _, _, _, rfl, _⟩ := hs; rfl) | (obtain ⟨_, _, _, _, _, _, rfl, _⟩ := hs; rfl) | (obtain ⟨_, _, _, _, _, _, _, rfl, _⟩ := hs; rfl) | (obtain ⟨_, _, _, _, _, _, _, _, rfl, _⟩ := hs; rfl) | (obtain ⟨_, _, _, _, _, _, _, _, _, rfl, _⟩ := hs; rfl) | (obtain ⟨_, _, _, _, _, _, _, _, _, _, rfl, _⟩ := hs; rfl) | (obtain ⟨_, _, _, _, _, _, _, _, _, _, _, rfl, _⟩ := hs; rfl) | (obtain ⟨_, _, _, _, _, _, _, _, _, _, _, _, rfl, _⟩ := hs; rfl) | (obtain ⟨_, _, _, _, _, _, _, _, _, _, _, _, _, rfl, _⟩ := hs; rfl) | (obtain ⟨_, _, _, _, _, _, _, _, _, _, _, _, _, _, rfl, _⟩ := hs; rfl) | (obtain ⟨_, _, _, _, _, _, _, _, _, _, _, _, _, _, _, rfl, _⟩ := hs; rfl) | (obtain ⟨_, _, _, _, _, _, _, _, _, _, _, _, _, _, _, _, rfl, _⟩ := hs; rfl) | (obtain ⟨_, _, _, _, _, _, _, _, _, _, _, _, _, _, _, _, _, rfl, _⟩ := hs; rfl) | (obtain ⟨_, _, _, _, _, _, _, _, _, _, _, _, _, _, _, _, _, _, rfl, _⟩ := hs; rfl) | (obtain ⟨_, _, _, _, _, _, _, _, _, _, _, _, _, _, _, _, _, _, _, rfl, _⟩ := hs; rfl) | (obtain ⟨_, _, _, _, _, _, _, _, _, _, _, _, _, _, _, _, _, _, _, _, rfl, _⟩ := hs; rfl) | (obtain ⟨_, _, _, _, _, _, _, _, _, _, _, _, _, _, _, _, _, _, _, _, _, rfl, _⟩ := hs; rfl)) (fun cdv A outer s H vs Q E hr hq => ?_)
  obtain ⟨x, dx, a, b, c, rfl, hx, q⟩ := hq
  refine ⟨_, (pss_cons (ps_fld (pv 0) (pv 1) rfl)
      (pss_cons (ps_fld (pv 0) (pv 2) rfl)
      (pss_one (ps_fld (pv 0) (pv 3) rfl)))), ?_⟩
  rw [stm_cut_init]
  walk_at "rd"
  refine ⟨_, rfl, _, rfl, put1 (hx) (cl_Cut w.params) (na_Cut_start w.params) (by simp) (fs' := [("start", a)]) (by kernel_rfl) (EvX.refl _ _) fun e1 h1 => ?_⟩
  refine ⟨_, rfl, _, rfl, put1 (h1) (cl_Cut w.params) (na_Cut_stop w.params) (by simp) (fs' := [("start", a), ("stop", b)]) (by kernel_rfl) (e1) fun e2 h2 => ?_⟩
  refine ⟨_, rfl, _, rfl, put1 (h2) (cl_Cut w.params) (na_Cut_step w.params) (by simp) (fs' := [("start", a), ("stop", b), ("step", c)]) (by kernel_rfl) (e2) fun e3 h3 => ?_⟩
  exact q _ e3 h3
def spSeenI : Sp := fun vs H Q _ => ∃ (x dx b bx : Addr) (m p w k z s f o sh : V) (kd wd sz st : V), vs = [.ref x, .ref b, kd, wd, sz, st] ∧ H x = some (.ins CSeen dx []) ∧
  H b = some (.ins CBuffer bx [("memory", m), ("place", p), ("width", w), ("kind", k), ("sizes", z), ("steps", s), ("fixed", f), ("source", o), ("shares", sh)]) ∧
  ∀ H', EvX x H H' → H' x = some (.ins CSeen dx [("buffer", .ref b), ("place", p), ("kind", kd), ("width", wd), ("sizes", sz), ("steps", st), ("fixed", f)]) → Q .non H'
theorem ok_seen_init (h : MgOk w.params mg) : FnOk P w (K w.params) mg base CX0 1 am_seen_init fdm_seen_init ["self", "buffer", "kind", "width", "sizes", "steps"] spSeenI := by
  refine Fun.ok (sp := spSeenI) (Fm_seen_init w.params) scm_seen_init (fun vs H Q E hs => by first | (obtain ⟨_, rfl, _⟩ := hs; rfl) | (obtain ⟨_, _, rfl, _⟩ := hs; rfl) | (obtain ⟨_, _, _, rfl, _⟩ := hs; rfl) | (obtain ⟨_, _, _, _, rfl, _⟩ := hs; rfl) | (obtain ⟨_, _, _, _, _, rfl, _⟩ := hs; rfl) | (obtain ⟨_, _, _, _, _, _, rfl, _⟩ := hs; rfl) | (obtain ⟨_, _, _, _, _, _, _, rfl, _⟩ := hs; rfl) | (obtain ⟨_, _, _, _, _, _, _, _, rfl, _⟩ := hs; rfl) | (obtain ⟨_, _, _, _, _, _, _, _, _, rfl, _⟩ := hs; rfl) | (obtain ⟨_, _, _, _, _, _, _, _, _, _, rfl, _⟩ := hs; rfl) | (obtain ⟨_, _, _, _, _, _, _, _, _, _, _, rfl, _⟩ := hs; rfl) | (obtain ⟨_, _, _, _, _, _, _, _, _, _, _, _, rfl, _⟩ := hs; rfl) | (obtain ⟨_, _, _, _, _, _, _, _, _, _, _, _, _, rfl, _⟩ := hs; rfl) | (obtain ⟨_, _, _, _, _, _, _, _, _, _, _, _, _, _, rfl, _⟩ := hs; rfl) | (obtain ⟨_, _, _, _, _, _, _, _, _, _, _, _, _, _, _, rfl, _⟩ := hs; rfl) | (obtain ⟨_, _, _, _, _, _, _, _, _, _, _, _, _, _, _, _, rfl, _⟩ := hs; rfl) | (obtain ⟨_, _, _, _, _, _, _, _, _, _, _, _, _, _, _, _, _, rfl, _⟩ := hs; rfl) | (obtain ⟨_, _, _, _, _, _, _, _, _, _, _, _, _, _, _, _, _, _, rfl, _⟩ := hs; rfl) | (obtain ⟨_, _, _, _, _, _, _, _, _, _, _, _, _, _, _, _, _, _, _, rfl, _⟩ := hs; rfl) | (obtain ⟨_, _, _, _, _, _, _, _, _, _, _, _, _, _, _, _, _, _, _, _, rfl, _⟩ := hs; rfl) | (obtain ⟨_, _, _, _, _, _, _, _, _, _, _, _, _, _, _, _, _, _, _, _, _, rfl, _⟩ := hs; rfl)) (fun cdv A outer s H vs Q E hr hq => ?_)
  obtain ⟨x, dx, b, bx, m, p, w1, k, z, s1, f, o, sh, kd, wd, sz, st, rfl, hx, hb, q⟩ := hq
  have nx : b ≠ x := ne_of hb hx (by intro z; cases z)
  refine ⟨_, (pss_cons (ps_fld (pv 0) (pv 1) rfl)
      (pss_cons (ps_fld (pv 0) (pe_fld (pv 1) rfl) rfl)
      (pss_cons (ps_fld (pv 0) (pv 2) rfl)
      (pss_cons (ps_fld (pv 0) (pv 3) rfl)
      (pss_cons (ps_fld (pv 0) (pv 4) rfl)
      (pss_cons (ps_fld (pv 0) (pv 5) rfl)
      (pss_one (ps_fld (pv 0) (pe_fld (pv 1) rfl) rfl)))))))), ?_⟩
  rw [stm_seen_init]
  walk_at "rd"
  refine ⟨_, rfl, _, rfl, put1 (hx) (cl_Seen w.params) (na_Seen_buffer w.params) (by simp) (fs' := [("buffer", .ref b)]) (by kernel_rfl) (EvX.refl _ _) fun e1 h1 => ?_⟩
  refine ⟨_, rfl, _, _, _, _, _, rfl, ((upd_ne nx).trans hb), cl_Buffer w.params, na_Buffer_place w.params, rfl, _, rfl,put1 (h1) (cl_Seen w.params) (na_Seen_place w.params) (by simp) (fs' := [("buffer", .ref b), ("place", p)]) (by kernel_rfl) (e1) fun e2 h2 => ?_⟩
  refine ⟨_, rfl, _, rfl, put1 (h2) (cl_Seen w.params) (na_Seen_kind w.params) (by simp) (fs' := [("buffer", .ref b), ("place", p), ("kind", kd)]) (by kernel_rfl) (e2) fun e3 h3 => ?_⟩
  refine ⟨_, rfl, _, rfl, put1 (h3) (cl_Seen w.params) (na_Seen_width w.params) (by simp) (fs' := [("buffer", .ref b), ("place", p), ("kind", kd), ("width", wd)]) (by kernel_rfl) (e3) fun e4 h4 => ?_⟩
  refine ⟨_, rfl, _, rfl, put1 (h4) (cl_Seen w.params) (na_Seen_sizes w.params) (by simp) (fs' := [("buffer", .ref b), ("place", p), ("kind", kd), ("width", wd), ("sizes", sz)]) (by kernel_rfl) (e4) fun e5 h5 => ?_⟩
  refine ⟨_, rfl, _, rfl, put1 (h5) (cl_Seen w.params) (na_Seen_steps w.params) (by simp) (fs' := [("buffer", .ref b), ("place", p), ("kind", kd), ("width", wd), ("sizes", sz), ("steps", st)]) (by kernel_rfl) (e5) fun e6 h6 => ?_⟩
  refine ⟨_, rfl, _, _, _, _, _, rfl, ((upd_ne nx).trans ((upd_ne nx).trans ((upd_ne nx).trans ((upd_ne nx).trans ((upd_ne nx).trans ((upd_ne nx).trans hb)))))), cl_Buffer w.params, na_Buffer_fixed w.params, rfl, _, rfl,put1 (h6) (cl_Seen w.params) (na_Seen_fixed w.params) (by simp) (fs' := [("buffer", .ref b), ("place", p), ("kind", kd), ("width", wd), ("sizes", sz), ("steps", st), ("fixed", f)]) (by kernel_rfl) (e6) fun e7 h7 => ?_⟩
  exact q _ e7 h7
end VL
end
section
set_option linter.all false
set_option maxRecDepth 100000
set_option maxHeartbeats 4000000
namespace VL
open PySem PySem.Spec PyProof.Rows L2 RZ
local macro_rules | `(tactic| walk_at "rd") => `(tactic| (simp only [tVar, tC, tOp, tUn, tTest, tB, tAnd, tOr, tNot, tAndV, tOrV, tNotV, tIf, tIfS, tSeq, tAsg, gName, tRet, tRetN, tDrop, tNext, rI, rI0, rU, rEq, rNe, scal, tCons, tNil, tCB, t2I, tChain, tCall, tMeth, tPar, tPar3, tFld, tTup, tLst, iTup, iList, iRng1, tPart, tNoPart, tBM, tBM0, tMake, cxK, noxK, L2.wipe,
  List.append_nil, List.nil_append, List.cons_append, List.map_cons, List.map_nil, List.getElem?_cons_zero, List.getElem?_cons_succ, List.getElem?_nil, List.set_cons_zero, List.set_cons_succ, Option.some.injEq, V.int.injEq, V.bl.injEq, V.str.injEq, V.ref.injEq, exists_and_left, exists_eq_left', exists_eq_left, true_and, and_true, List.cons.injEq, if_true, if_false, Bool.false_eq_true, Bool.not_true, Bool.not_false, decide_eq_true_eq, and_assoc]))
variable {P : Program} {w : World} {mg : Str → Option Value} {base : Heap}
/-- b has the field f with the value v -/
def HasF (K : PySem.W.Frag) (H : Hp) (b : Addr) (f : Str) (v : V) : Prop := ∃ C dx fs, H b = some (.ins C dx fs) ∧ Cls K C ∧ NoAttr K C f ∧ fs.lookup f = some v
theorem fgo {K : PySem.W.Frag} {H : Hp} {b : Addr} {f : Str} {v : V} {G : V → Prop} (h : HasF K H b f v) (q : G v) : ∃ C dx fs, H b = some (.ins C dx fs) ∧ Cls K C ∧ NoAttr K C f ∧ ∃ v, fs.lookup f = some v ∧ G v := by
  obtain ⟨C, dx, fs, a, c, n, l⟩ := h
  exact ⟨C, dx, fs, a, c, n, v, l, q⟩
section
variable {Ps : Params} {H : Hp}
theorem MemAt.f_cells {m c : Addr} (h : MemAt H m c) : HasF (K Ps) H m "cells" (.ref c) := by obtain ⟨dx, h⟩ := h; exact ⟨_, _, _, h, cl_Memory Ps, na_Memory_cells Ps, rfl⟩
theorem BufAt.f_memory {b : Addr} {p : Pl} {src : V} (h : BufAt H b p src) : HasF (K Ps) H b "memory" (.ref p.m) := by obtain ⟨_, dx, sh, h⟩ := h; exact ⟨_, _, _, h, cl_Buffer Ps, na_Buffer_memory Ps, rfl⟩
theorem BufAt.f_place {b : Addr} {p : Pl} {src : V} (h : BufAt H b p src) : HasF (K Ps) H b "place" (.int p.pl) := by obtain ⟨_, dx, sh, h⟩ := h; exact ⟨_, _, _, h, cl_Buffer Ps, na_Buffer_place Ps, rfl⟩
theorem BufAt.f_width {b : Addr} {p : Pl} {src : V} (h : BufAt H b p src) : HasF (K Ps) H b "width" (.int p.wd) := by obtain ⟨_, dx, sh, h⟩ := h; exact ⟨_, _, _, h, cl_Buffer Ps, na_Buffer_width Ps, rfl⟩
theorem BufAt.f_kind {b : Addr} {p : Pl} {src : V} (h : BufAt H b p src) : HasF (K Ps) H b "kind" (.str p.kd) := by obtain ⟨_, dx, sh, h⟩ := h; exact ⟨_, _, _, h, cl_Buffer Ps, na_Buffer_kind Ps, rfl⟩
theorem BufAt.f_sizes {b : Addr} {p : Pl} {src : V} (h : BufAt H b p src) : HasF (K Ps) H b "sizes" (.ref p.sz) := by obtain ⟨_, dx, sh, h⟩ := h; exact ⟨_, _, _, h, cl_Buffer Ps, na_Buffer_sizes Ps, rfl⟩
theorem BufAt.f_steps {b : Addr} {p : Pl} {src : V} (h : BufAt H b p src) : HasF (K Ps) H b "steps" (.ref p.st) := by obtain ⟨_, dx, sh, h⟩ := h; exact ⟨_, _, _, h, cl_Buffer Ps, na_Buffer_steps Ps, rfl⟩
theorem BufAt.f_fixed {b : Addr} {p : Pl} {src : V} (h : BufAt H b p src) : HasF (K Ps) H b "fixed" (.bl p.fx) := by obtain ⟨_, dx, sh, h⟩ := h; exact ⟨_, _, _, h, cl_Buffer Ps, na_Buffer_fixed Ps, rfl⟩
theorem BufAt.f_source {b : Addr} {p : Pl} {src : V} (h : BufAt H b p src) : HasF (K Ps) H b "source" (src) := by obtain ⟨_, dx, sh, h⟩ := h; exact ⟨_, _, _, h, cl_Buffer Ps, na_Buffer_source Ps, rfl⟩
theorem MvAt.f_place {b : Addr} {p : Pl} (h : MvAt H b p) : HasF (K Ps) H b "place" (.int p.pl) := by obtain ⟨_, dx, _, _, _, _, h, _⟩ := h; exact ⟨_, _, _, h, cl_MemoryView Ps, na_MemoryView_place Ps, rfl⟩
theorem MvAt.f_width {b : Addr} {p : Pl} (h : MvAt H b p) : HasF (K Ps) H b "width" (.int p.wd) := by obtain ⟨_, dx, _, _, _, _, h, _⟩ := h; exact ⟨_, _, _, h, cl_MemoryView Ps, na_MemoryView_width Ps, rfl⟩
theorem MvAt.f_kind {b : Addr} {p : Pl} (h : MvAt H b p) : HasF (K Ps) H b "kind" (.str p.kd) := by obtain ⟨_, dx, _, _, _, _, h, _⟩ := h; exact ⟨_, _, _, h, cl_MemoryView Ps, na_MemoryView_kind Ps, rfl⟩
theorem MvAt.f_sizes {b : Addr} {p : Pl} (h : MvAt H b p) : HasF (K Ps) H b "sizes" (.ref p.sz) := by obtain ⟨_, dx, _, _, _, _, h, _⟩ := h; exact ⟨_, _, _, h, cl_MemoryView Ps, na_MemoryView_sizes Ps, rfl⟩
theorem MvAt.f_steps {b : Addr} {p : Pl} (h : MvAt H b p) : HasF (K Ps) H b "steps" (.ref p.st) := by obtain ⟨_, dx, _, _, _, _, h, _⟩ := h; exact ⟨_, _, _, h, cl_MemoryView Ps, na_MemoryView_steps Ps, rfl⟩
theorem MvAt.f_fixed {b : Addr} {p : Pl} (h : MvAt H b p) : HasF (K Ps) H b "fixed" (.bl p.fx) := by obtain ⟨_, dx, _, _, _, _, h, _⟩ := h; exact ⟨_, _, _, h, cl_MemoryView Ps, na_MemoryView_fixed Ps, rfl⟩
theorem MvAt.f_is_open {b : Addr} {p : Pl} (h : MvAt H b p) : HasF (K Ps) H b "is_open" (.bl true) := by obtain ⟨_, dx, _, _, _, _, h, _⟩ := h; exact ⟨_, _, _, h, cl_MemoryView Ps, na_MemoryView_is_open Ps, rfl⟩
theorem BaAt.f_memory {b m c : Addr} (h : BaAt H b m c) : HasF (K Ps) H b "memory" (.ref m) := by obtain ⟨⟨dx, sd, h⟩, _⟩ := h; exact ⟨_, _, _, h, cl_ByteArray Ps, na_ByteArray_memory Ps, rfl⟩
/-- the bytes of an item -/
def rowOf (cs : List Int) (p : Int) (wd : Nat) : List Int := (List.range wd).map fun k => cs.getD (p + (k : Nat)).toNat 0
def gat (cs pls : List Int) (wd : Nat) : List Int := pls.flatMap fun p => rowOf cs p wd
def InB (cs : List Int) (p : Int) (wd : Nat) : Prop := 0 ≤ p ∧ p + wd ≤ cs.length
end
theorem getI {cs : List Int} {i : Int} (h0 : 0 ≤ i) (h1 : i < cs.length) : atI (cs.map V.int) i = some (.int (cs.getD i.toNat 0)) := by
  obtain ⟨n, rfl⟩ := Int.eq_ofNat_of_zero_le h0
  refine atI_nat ?_
  have h2 : n < cs.length := by omega
  simp [List.getD, h2]
theorem range_getD {pls : List Int} : (List.range pls.length).map (fun i => pls.getD i 0) = pls := by
  apply List.ext_getElem (by simp)
  intro i h1 h2
  simp [List.getD, h2]
theorem gat_eq {cs pls : List Int} {wd : Nat} : (List.range pls.length).flatMap (fun i => (List.range wd).map fun k => V.int (cs.getD (pls.getD i 0 + (k : Nat)).toNat 0)) = (gat cs pls wd).map V.int := by
  have h : gat cs pls wd = ((List.range pls.length).map (fun i => pls.getD i 0)).flatMap fun p => rowOf cs p wd := by rw [range_getD]; rfl
  rw [h]
  simp only [List.flatMap_map, List.map_flatMap, rowOf, List.map_map]
  rfl
def spGath : Sp := fun vs H Q _ => ∃ (m c ps : Addr) (cs pls : List Int) (wd : Nat), vs = [.ref m, .ref ps, .int wd] ∧ MemAt H m c ∧ H c = some (.lst (cs.map .int)) ∧ H ps = some (.lst (pls.map .int)) ∧ (∀ p ∈ pls, InB cs p wd) ∧ pls.length ≤ 1000 ∧ wd ≤ 8 ∧ RetT H Q ((gat cs pls wd).map .int)
theorem ok_gathered (h : MgOk w.params mg) : FnOk P w (K w.params) mg base CX0 1 af_gathered fdf_gathered ["memory", "places", "width"] spGath := by
  refine Fun.ok (sp := spGath) (Ff_gathered w.params) scf_gathered (fun vs H Q E hs => by first | (obtain ⟨_, rfl, _⟩ := hs; rfl) | (obtain ⟨_, _, rfl, _⟩ := hs; rfl) | (obtain ⟨_, _, _, rfl, _⟩ := hs; rfl) | (obtain ⟨_, _, _, _, rfl, _⟩ := hs; rfl) | (obtain ⟨_, _, _, _, _, rfl, _⟩ := hs; rfl) | (obtain ⟨_, _, _, _, _, _, rfl, _⟩ := hs; rfl) | (obtain ⟨_, _, _, _, _, _, _, rfl, _⟩ := hs; rfl) | (obtain ⟨_, _, _, _, _, _, _, _, rfl, _⟩ := hs; rfl) | (obtain ⟨_, _, _, _, _, _, _, _, _, rfl, _⟩ := hs; rfl) | (obtain ⟨_, _, _, _, _, _, _, _, _, _, rfl, _⟩ := hs; rfl) | (obtain ⟨_, _, _, _, _, _, _, _, _, _, _, rfl, _⟩ := hs; rfl) | (obtain ⟨_, _, _, _, _, _, _, _, _, _, _, _, rfl, _⟩ := hs; rfl) | (obtain ⟨_, _, _, _, _, _, _, _, _, _, _, _, _, rfl, _⟩ := hs; rfl) | (obtain ⟨_, _, _, _, _, _, _, _, _, _, _, _, _, _, rfl, _⟩ := hs; rfl) | (obtain ⟨_, _, _, _, _, _, _, _, _, _, _, _, _, _, _, rfl, _⟩ := hs; rfl) | (obtain ⟨_, _, _, _, _, _, _, _, _, _, _, _, _, _, _, _, rfl, _⟩ := hs; rfl) | (obtain ⟨_, _, _, _, _, _, _, _, _, _, _, _, _, _, _, _, _, rfl, _⟩ := hs; rfl) | (obtain ⟨_, _, _, _, _, _, _, _, _, _, _, _, _, _, _, _, _, _, rfl, _⟩ := hs; rfl) | (obtain ⟨_, _, _, _, _, _, _, _, _, _, _, _, _, _, _, _, _, _, _, rfl, _⟩ := hs; rfl) | (obtain ⟨_, _, _, _, _, _, _, _, _, _, _, _, _, _, _, _, _, _, _, _, rfl, _⟩ := hs; rfl) | (obtain ⟨_, _, _, _, _, _, _, _, _, _, _, _, _, _, _, _, _, _, _, _, _, rfl, _⟩ := hs; rfl)) (fun cdv A outer s H vs Q E hr hq => ?_)
  obtain ⟨m, c, ps, cs, pls, wd, rfl, hm, hc, hp, hin, hl, hwd, q⟩ := hq
  refine ⟨_, (pss_one (ps_ret (pe_callTy call_tuple_of (by rfl) (n_tuple h) (by decide +kernel) (pa_cons (pe_lc2 (own := [("place", 3), ("k", 4)]) (te := (tOp (rIxL (K w.params)) (tFld (K w.params) (tVar 0) "cells") (tOp _ (tVar 3) (tVar 4)))) rfl scf_gathered.nd (pi_list (pv 1)) (blkOk_by (N := ["memory", "places", "width", "place", "k"]) (own := [("place", 3), ("k", 4)]) (sc := defScope sf_gathered) (by decide +kernel)) (vs1 := [4]) (by decide) (fun _ _ _ _ _ => (pg_name (i := 3) scf_gathered.nd rfl (Or.inl rfl))) (fun _ _ _ _ _ => pts_nil) (fun _ _ _ _ _ => (pi_range1 rfl (n_range h) (pa_cons (pv 2) pa_nil))) (fun _ _ _ _ _ => (pg_name (i := 4) scf_gathered.nd rfl (Or.inl rfl))) (fun _ _ _ _ _ => pts_nil) (fun _ _ _ _ _ => (pe_ix ix_list (pe_fld (pv 0) rfl) (pe_op op_add (pv 3) (pv 4)) (fun _ _ => rfl)))) pa_nil)))), ?_⟩
  rw [stf_gathered]
  walk_at "rd"
  refine ⟨_, rfl, ps, rfl, ⟨_, SqL.of hp⟩, fun D nD => lc2_fn (X := []) (n1 := wd) (walk_list (xs := pls.map V.int)) (fun i (k : Nat) => .int (cs.getD (pls.getD i 0 + (k : Nat)).toNat 0)) (line_of (by have := Nat.mul_le_mul hl hwd; simp; omega)) (Ev.refl _ _) nD (by simp)
      (fun H e => SqL.of (e.lst hp)) (fun i x H' H'' N hi e y k => ?_) (fun H' e hD => ?_)⟩
  · obtain ⟨rfl, hx⟩ := y
    rw [List.getElem?_map] at hx
    obtain ⟨pl, hpl, rfl⟩ := Option.map_eq_some_iff.mp hx
    have hpl' : pls.getD i 0 = pl := by simp [List.getD, hpl]
    have hb := hin pl (List.mem_of_getElem? hpl)
    try walk_at "rd"
    refine ⟨by omega, by omega, ?_⟩
    rw [Int.toNat_natCast]
    refine k _ _ _ _ _ (Ev.refl _ _) walk_range (fun _ _ => trivial) fun j x H4 H5 N1 hj e4 y kk => ?_
    obtain ⟨rfl, rfl⟩ := y
    try walk_at "rd"
    refine fgo (hm.ev e4).f_cells ?_
    refine ⟨c, _, _, _, rfl, rfl, SqL.of (e4.lst hc), getI (by have := hb.1; omega) (by have := hb.2; omega), ?_⟩
    have := kk _ (Ev.refl _ _)
    rw [hpl'] at this
    rw [show pl + (0 + (j : Int)) = pl + (j : Int) by omega]
    exact this
  · try walk_at "rd"
    rw [List.length_map, gat_eq] at hD
    exact ⟨_, .inl ⟨SqL.of hD, fun t nt => q _ _ (e.trans (Ev.new nt)) upd_same⟩⟩
/-- the places of a plan's items -/
def adr (p : Pl) : List Int := (List.range p.n).map fun (k : Nat) => p.pl + k * p.s
def PlIn (cs : List Int) (p : Pl) : Prop := (∀ x ∈ adr p, InB cs x p.wd) ∧ p.n < 1000 ∧ p.wd ≤ 8
theorem adr_map {p : Pl} : (List.range p.n).map (fun (k : Nat) => V.int (p.pl + k * p.s)) = (adr p).map V.int := by simp [adr]
def spBytesIn : Sp := fun vs H Q _ => ∃ (b : Addr) (p : Pl) (src : V) (cs : List Int), vs = [.ref b] ∧ BufAt H b p src ∧ H p.c = some (.lst (cs.map .int)) ∧ PlIn cs p ∧ RetT H Q ((gat cs (adr p) p.wd).map .int)
theorem ok_bytes_in (h : MgOk w.params mg) : FnOk P w (K w.params) mg base CX0 2 af_bytes_in fdf_bytes_in ["buffer"] spBytesIn := by
  refine Fun.ok (sp := spBytesIn) (Ff_bytes_in w.params) scf_bytes_in (fun vs H Q E hs => by first | (obtain ⟨_, rfl, _⟩ := hs; rfl) | (obtain ⟨_, _, rfl, _⟩ := hs; rfl) | (obtain ⟨_, _, _, rfl, _⟩ := hs; rfl) | (obtain ⟨_, _, _, _, rfl, _⟩ := hs; rfl) | (obtain ⟨_, _, _, _, _, rfl, _⟩ := hs; rfl) | (obtain ⟨_, _, _, _, _, _, rfl, _⟩ := hs; rfl) | (obtain ⟨_, _, _, _, _, _, _, rfl, _⟩ := hs; rfl) | (obtain ⟨_, _, _, _, _, _, _, _, rfl, _⟩ := hs; rfl) | (obtain ⟨_, _, _, _, _, _, _, _, _, rfl, _⟩ := hs; rfl) | (obtain ⟨_, _, _, _, _, _, _, _, _, _, rfl, _⟩ := hs; rfl) | (obtain ⟨_, _, _, _, _, _, _, _, _, _, _, rfl, _⟩ := hs; rfl) | (obtain ⟨_, _, _, _, _, _, _, _, _, _, _, _, rfl, _⟩ := hs; rfl) | (obtain ⟨_, _, _, _, _, _, _, _, _, _, _, _, _, rfl, _⟩ := hs; rfl) | (obtain ⟨_, _, _, _, _, _, _, _, _, _, _, _, _, _, rfl, _⟩ := hs; rfl) | (obtain ⟨_, _, _, _, _, _, _, _, _, _, _, _, _, _, _, rfl, _⟩ := hs; rfl) | (obtain ⟨_, _, _, _, _, _, _, _, _, _, _, _, _, _, _, _, rfl, _⟩ := hs; rfl) | (obtain ⟨_, _, _, _, _, _, _, _, _, _, _, _, _, _, _, _, _, rfl, _⟩ := hs; rfl) | (obtain ⟨_, _, _, _, _, _, _, _, _, _, _, _, _, _, _, _, _, _, rfl, _⟩ := hs; rfl) | (obtain ⟨_, _, _, _, _, _, _, _, _, _, _, _, _, _, _, _, _, _, _, rfl, _⟩ := hs; rfl) | (obtain ⟨_, _, _, _, _, _, _, _, _, _, _, _, _, _, _, _, _, _, _, _, rfl, _⟩ := hs; rfl) | (obtain ⟨_, _, _, _, _, _, _, _, _, _, _, _, _, _, _, _, _, _, _, _, _, rfl, _⟩ := hs; rfl)) (fun cdv A outer s H vs Q E hr hq => ?_)
  obtain ⟨b, p, src, cs, rfl, hb, hc, hi, q⟩ := hq
  refine ⟨_, (pss_cons (ps_set (i := 1) scf_bytes_in.nd rfl (Or.inl rfl) (pe_call (ok_addresses h) (hr.mono (by decide)) (by rfl) (gf_addresses h) (Ff_addresses w.params).kp (bf_addresses w.params) .nil pass0 (pa_cons (pe_fld (pv 0) rfl) (pa_cons (pe_fld (pv 0) rfl) (pa_cons (pe_fld (pv 0) rfl) pa_nil)))))
      (pss_one (ps_ret (pe_call (ok_gathered h) (hr.mono (by decide)) (by rfl) (gf_gathered h) (Ff_gathered w.params).kp (bf_gathered w.params) .nil pass0 (pa_cons (pe_fld (pv 0) rfl) (pa_cons (pv 1) (pa_cons (pe_fld (pv 0) rfl) pa_nil))))))), ?_⟩
  rw [stf_bytes_in]
  walk_at "rd"
  refine fgo hb.f_sizes ?_
  refine fgo hb.f_steps ?_
  refine fgo hb.f_place ?_
  refine ⟨_, _, _, _, _, rfl, hb.1.2.1, hb.1.2.2, hi.2.1, fun H' r e nr hr' => ?_⟩
  have hb' := hb.ev e
  try walk_at "rd"
  refine fgo hb'.f_memory ?_
  refine fgo hb'.f_width ?_
  rw [adr_map] at hr'
  exact ⟨_, _, _, cs, _, _, rfl, hb'.1.1, e.lst hc, hr', hi.1, by simp [adr]; have := hi.2.1; omega, hi.2.2, fun H2 t e2 ht => q _ _ (e.trans e2) ht⟩
def spItemRows : Sp := fun vs H Q _ => ∃ (b : Addr) (p : Pl) (src : V) (cs : List Int), vs = [.ref b] ∧ BufAt H b p src ∧ H p.c = some (.lst (cs.map .int)) ∧ PlIn cs p ∧
  ∀ H' r (rs : List Addr), Ev [] H H' → H r = none → H' r = some (.lst (rs.map .ref)) → rs.length = p.n → (∀ (i : Nat) (x : Addr), rs[i]? = some x → H' x = some (.tup ((rowOf cs (p.pl + i * p.s) p.wd).map .int))) → Q (.ref r) H'
theorem ok_item_rows (h : MgOk w.params mg) : FnOk P w (K w.params) mg base CX0 2 af_item_rows fdf_item_rows ["buffer"] spItemRows := by
  refine Fun.ok (sp := spItemRows) (Ff_item_rows w.params) scf_item_rows (fun vs H Q E hs => by first | (obtain ⟨_, rfl, _⟩ := hs; rfl) | (obtain ⟨_, _, rfl, _⟩ := hs; rfl) | (obtain ⟨_, _, _, rfl, _⟩ := hs; rfl) | (obtain ⟨_, _, _, _, rfl, _⟩ := hs; rfl) | (obtain ⟨_, _, _, _, _, rfl, _⟩ := hs; rfl) | (obtain ⟨_, _, _, _, _, _, rfl, _⟩ := hs; rfl) | (obtain ⟨_, _, _, _, _, _, _, rfl, _⟩ := hs; rfl) | (obtain ⟨_, _, _, _, _, _, _, _, rfl, _⟩ := hs; rfl) | (obtain ⟨_, _, _, _, _, _, _, _, _, rfl, _⟩ := hs; rfl) | (obtain ⟨_, _, _, _, _, _, _, _, _, _, rfl, _⟩ := hs; rfl) | (obtain ⟨_, _, _, _, _, _, _, _, _, _, _, rfl, _⟩ := hs; rfl) | (obtain ⟨_, _, _, _, _, _, _, _, _, _, _, _, rfl, _⟩ := hs; rfl) | (obtain ⟨_, _, _, _, _, _, _, _, _, _, _, _, _, rfl, _⟩ := hs; rfl) | (obtain ⟨_, _, _, _, _, _, _, _, _, _, _, _, _, _, rfl, _⟩ := hs; rfl) | (obtain ⟨_, _, _, _, _, _, _, _, _, _, _, _, _, _, _, rfl, _⟩ := hs; rfl) | (obtain ⟨_, _, _, _, _, _, _, _, _, _, _, _, _, _, _, _, rfl, _⟩ := hs; rfl) | (obtain ⟨_, _, _, _, _, _, _, _, _, _, _, _, _, _, _, _, _, rfl, _⟩ := hs; rfl) | (obtain ⟨_, _, _, _, _, _, _, _, _, _, _, _, _, _, _, _, _, _, rfl, _⟩ := hs; rfl) | (obtain ⟨_, _, _, _, _, _, _, _, _, _, _, _, _, _, _, _, _, _, _, rfl, _⟩ := hs; rfl) | (obtain ⟨_, _, _, _, _, _, _, _, _, _, _, _, _, _, _, _, _, _, _, _, rfl, _⟩ := hs; rfl) | (obtain ⟨_, _, _, _, _, _, _, _, _, _, _, _, _, _, _, _, _, _, _, _, _, rfl, _⟩ := hs; rfl)) (fun cdv A outer s H vs Q E hr hq => ?_)
  obtain ⟨b, p, src, cs, rfl, hb, hc, hi, q⟩ := hq
  refine ⟨_, (pss_cons (ps_set (i := 1) scf_item_rows.nd rfl (Or.inl rfl) (pe_call (ok_addresses h) (hr.mono (by decide)) (by rfl) (gf_addresses h) (Ff_addresses w.params).kp (bf_addresses w.params) .nil pass0 (pa_cons (pe_fld (pv 0) rfl) (pa_cons (pe_fld (pv 0) rfl) (pa_cons (pe_fld (pv 0) rfl) pa_nil)))))
      (pss_one (ps_ret (pe_lc (own := [("place", 2)]) (te := (tCall _ _ _ (tCons (tFld (K w.params) (tVar 0) "memory") (tCons (tLst (tCons (tVar 2) tNil)) (tCons (tFld (K w.params) (tVar 0) "width") tNil))))) rfl scf_item_rows.nd (pi_list (pv 1)) (blkOk_by (N := ["buffer", "places", "place"]) (own := [("place", 2)]) (sc := defScope sf_item_rows) (by decide +kernel)) (fun _ _ _ _ _ => (pg_name (i := 2) scf_item_rows.nd rfl (Or.inl rfl))) (fun _ _ _ _ _ => pts_nil) (fun _ _ _ _ _ => (pe_call (ok_gathered h) (hr.mono (by decide)) (by rfl) (gf_gathered h) (Ff_gathered w.params).kp (bf_gathered w.params) .nil pass0 (pa_cons (pe_fld (pv 0) rfl) (pa_cons (pe_lst (pa_cons (pv 2) pa_nil)) (pa_cons (pe_fld (pv 0) rfl) pa_nil))))))))), ?_⟩
  rw [stf_item_rows]
  walk_at "rd"
  refine fgo hb.f_sizes ?_
  refine fgo hb.f_steps ?_
  refine fgo hb.f_place ?_
  refine ⟨_, _, _, _, _, rfl, hb.1.2.1, hb.1.2.2, hi.2.1, fun H1 r e nr hr' => ?_⟩
  have hb' := hb.ev e
  rw [adr_map] at hr'
  refine ⟨_, rfl, r, rfl, ⟨_, SqL.of hr'⟩, fun D nD => lc_rel (X := []) (walk_list (xs := (adr p).map V.int)) (fun i y H => ∃ x, y = .ref x ∧ H x = some (.tup ((rowOf cs (p.pl + (i : Nat) * p.s) p.wd).map .int))) (line_of (by simp [adr]; have := hi.2.1; omega)) (Ev.refl _ _) nD (by simp)
    (fun i y H H' Z ez _ k => by obtain ⟨x, rfl, hx⟩ := k; exact ⟨x, rfl, ez.tup hx⟩) (fun H e => SqL.of (e.lst hr')) (fun i x H2 H3 N hlt e2 y k => ?_) (fun H2 ys e2 hD hl k => ?_)⟩
  · obtain ⟨rfl, hx⟩ := y
    rw [List.getElem?_map] at hx
    obtain ⟨pl, hpl, rfl⟩ := Option.map_eq_some_iff.mp hx
    have hin := hi.1 pl (List.mem_of_getElem? hpl)
    have hpl' : pl = p.pl + (i : Nat) * p.s := by
      have h2 : i < p.n := by simpa [adr] using hlt
      simp [adr, h2] at hpl
      exact hpl.symm
    have hb2 := hb'.ev e2
    try walk_at "rd"
    refine fgo hb2.f_memory ?_
    refine ⟨by simp [sizeLine], fun l nl => ?_⟩
    obtain ⟨H4, H4_eq, e4, h4⟩ := newq (.lst [V.int pl]) nl
    rw [← H4_eq]
    clear H4_eq
    have hb4 := hb2.ev e4
    refine fgo hb4.f_width ?_
    refine ⟨_, _, _, cs, [pl], _, rfl, hb4.1.1, (e.trans (e2.trans e4)).lst hc, h4, (by simpa using hin), (by simp), hi.2.2, fun H5 t e5 ht => ?_⟩
    refine k _ _ ⟨t, rfl, ?_⟩ (e4.trans e5)
    rw [ht, ← hpl']
    simp [gat]
  · have : ∃ rs : List Addr, ys = rs.map V.ref := by
      refine ⟨ys.map fun v => match v with | .ref a => a | _ => default, ?_⟩
      apply List.ext_getElem (by simp)
      intro i h1 h2
      obtain ⟨x, hx, _⟩ := k i _ (List.getElem?_eq_getElem h1)
      simp [hx]
    obtain ⟨rs, rfl⟩ := this
    refine q _ D rs (e.trans e2) (e.free nD) hD (by simpa [adr] using hl) fun i x hx => ?_
    obtain ⟨x', h1, h2⟩ := k i (.ref x) (by simp [hx])
    cases h1
    exact h2
end VL
end
section
set_option linter.all false
set_option maxRecDepth 100000
set_option maxHeartbeats 4000000
namespace VL
open PySem PySem.Spec PyProof.Rows L2 RZ
local macro_rules | `(tactic| walk_at "rd") => `(tactic| (simp only [tVar, tC, tOp, tUn, tTest, tB, tAnd, tOr, tNot, tAndV, tOrV, tNotV, tIf, tIfS, tSeq, tAsg, gName, tRet, tRetN, tDrop, tNext, rI, rI0, rU, rEq, rNe, scal, tCons, tNil, tCB, t2I, tChain, tCall, tMeth, tPar, tPar3, tFld, tTup, tLst, iTup, iList, iRng1, tPart, tNoPart, tBM, tBM0, tMake, cxK, noxK, L2.wipe,
  List.append_nil, List.nil_append, List.cons_append, List.map_cons, List.map_nil, List.getElem?_cons_zero, List.getElem?_cons_succ, List.getElem?_nil, List.set_cons_zero, List.set_cons_succ, Option.some.injEq, V.int.injEq, V.bl.injEq, V.str.injEq, V.ref.injEq, exists_and_left, exists_eq_left', exists_eq_left, true_and, and_true, List.cons.injEq, if_true, if_false, Bool.false_eq_true, Bool.not_true, Bool.not_false, decide_eq_true_eq, and_assoc]))
variable {P : Program} {w : World} {mg : Str → Option Value} {base : Heap}
theorem asked_is {i j : Int} {b : Bool} {H : Hp} {Q : VK} {E : XK} (hn : decide (Builtin.bitAnd i j = j) = b) (k : ∀ H', Ev [] H H' → Q (.bl b) H') : spIsAsked [.int i, .int j] H Q E := ⟨i, j, rfl, fun H' e => by rw [hn]; exact k H' e⟩
def spCheckReq (w : World) : Sp := fun vs H Q _ => ∃ (b sz st : Addr) (n s wd : Int), vs = [.ref b, .int 284] ∧ (∀ H', Ev [] H H' → HasF (K w.params) H' b "sizes" (.ref sz) ∧ HasF (K w.params) H' b "steps" (.ref st) ∧ HasF (K w.params) H' b "width" (.int wd)) ∧
  H sz = some (.tup [.int n]) ∧ H st = some (.tup [.int s]) ∧ -(2 ^ 64) < wd ∧ wd < 2 ^ 64 ∧ RetV H Q .non
theorem ok_check_request (h : MgOk w.params mg) : FnOk P w (K w.params) mg base CX0 4 af_check_request fdf_check_request ["buffer", "flags"] (spCheckReq w) := by
  refine Fun.ok (sp := (spCheckReq w)) (Ff_check_request w.params) scf_check_request (fun vs H Q E hs => by first | (obtain ⟨_, rfl, _⟩ := hs; rfl) | (obtain ⟨_, _, rfl, _⟩ := hs; rfl) | (obtain ⟨_, _, _, rfl, _⟩ := hs; rfl) | (obtain ⟨_, _, _, _, rfl, _⟩ := hs; rfl) | (obtain ⟨_, _, _, _, _, rfl, _⟩ := hs; rfl) | (obtain ⟨_, _, _, _, _, _, rfl, _⟩ := hs; rfl) | (obtain ⟨_, _, _, _, _, _, _, rfl, _⟩ := hs; rfl) | (obtain ⟨_, _, _, _, _, _, _, _, rfl, _⟩ := hs; rfl) | (obtain ⟨_, _, _, _, _, _, _, _, _, rfl, _⟩ := hs; rfl) | (obtain ⟨_, _, _, _, _, _, _, _, _, _, rfl, _⟩ := hs; rfl) | (obtain ⟨_, _, _, _, _, _, _, _, _, _, _, rfl, _⟩ := hs; rfl) | (obtain ⟨_, _, _, _, _, _, _, _, _, _, _, _, rfl, _⟩ := hs; rfl) | (obtain ⟨_, _, _, _, _, _, _, _, _, _, _, _, _, rfl, _⟩ := hs; rfl) | (obtain ⟨_, _, _, _, _, _, _, _, _, _, _, _, _, _, rfl, _⟩ := hs; rfl) | (obtain ⟨_, _, _, _, _, _, _, _, _, _, _, _, _, _, _, rfl, _⟩ := hs; rfl) | (obtain ⟨_, _, _, _, _, _, _, _, _, _, _, _, _, _, _, _, rfl, _⟩ := hs; rfl) | (obtain ⟨_, _, _, _, _, _, _, _, _, _, _, _, _, _, _, _, _, rfl, _⟩ := hs; rfl) | (obtain ⟨_, _, _, _, _, _, _, _, _, _, _, _, _, _, _, _, _, _, rfl, _⟩ := hs; rfl) | (obtain ⟨_, _, _, _, _, _, _, _, _, _, _, _, _, _, _, _, _, _, _, rfl, _⟩ := hs; rfl) | (obtain ⟨_, _, _, _, _, _, _, _, _, _, _, _, _, _, _, _, _, _, _, _, rfl, _⟩ := hs; rfl) | (obtain ⟨_, _, _, _, _, _, _, _, _, _, _, _, _, _, _, _, _, _, _, _, _, rfl, _⟩ := hs; rfl)) (fun cdv A outer s H vs Q E hr hq => ?_)
  obtain ⟨b, sz, st, n, s1, wd, rfl, hf, hz, hs, l1, l2, q⟩ := hq
  refine ⟨_, (pss_cons (ps_set (i := 2) scf_check_request.nd rfl (Or.inl rfl) (pe_call (ok_is_c_contiguous h) (hr.mono (by decide)) (by rfl) (gf_is_c_contiguous h) (Ff_is_c_contiguous w.params).kp (bf_is_c_contiguous w.params) .nil pass0 (pa_cons (pe_fld (pv 0) rfl) (pa_cons (pe_fld (pv 0) rfl) (pa_cons (pe_fld (pv 0) rfl) pa_nil)))))
      (pss_cons (ps_set (i := 3) scf_check_request.nd rfl (Or.inl rfl) (pe_call (ok_is_f_contiguous h) (hr.mono (by decide)) (by rfl) (gf_is_f_contiguous h) (Ff_is_f_contiguous w.params).kp (bf_is_f_contiguous w.params) .nil pass0 (pa_cons (pe_fld (pv 0) rfl) (pa_cons (pe_fld (pv 0) rfl) (pa_cons (pe_fld (pv 0) rfl) pa_nil)))))
      (pss_cons (ps_if (PW.pt (pw_and (pt_val (pe_call (ok_is_asked h) (hr.mono (by decide)) (by rfl) (gf_is_asked h) (Ff_is_asked w.params).kp (bf_is_asked w.params) .nil pass0 (pa_cons (pv 1) (pa_cons (pe_glob (v := .int 1) (by rfl) (g_WRITABLE h) ⟨_, rfl⟩) pa_nil)))) (pw_and1 (pt_val (pe_fld (pv 0) rfl))))) (pss_one ps_never) pss_nil)
      (pss_cons (ps_if (PW.pt (pw_and (pt_val (pe_call (ok_is_asked h) (hr.mono (by decide)) (by rfl) (gf_is_asked h) (Ff_is_asked w.params).kp (bf_is_asked w.params) .nil pass0 (pa_cons (pv 1) (pa_cons (pe_glob (v := .int 56) (by rfl) (g_C_CONTIGUOUS h) ⟨_, rfl⟩) pa_nil)))) (pw_and1 (pt_not (pt_val (pv 2)))))) (pss_one ps_never) pss_nil)
      (pss_cons (ps_if (PW.pt (pw_and (pt_val (pe_call (ok_is_asked h) (hr.mono (by decide)) (by rfl) (gf_is_asked h) (Ff_is_asked w.params).kp (bf_is_asked w.params) .nil pass0 (pa_cons (pv 1) (pa_cons (pe_glob (v := .int 88) (by rfl) (g_F_CONTIGUOUS h) ⟨_, rfl⟩) pa_nil)))) (pw_and1 (pt_not (pt_val (pv 3)))))) (pss_one ps_never) pss_nil)
      (pss_cons (ps_if (PW.pt (pw_and (pt_val (pe_call (ok_is_asked h) (hr.mono (by decide)) (by rfl) (gf_is_asked h) (Ff_is_asked w.params).kp (bf_is_asked w.params) .nil pass0 (pa_cons (pv 1) (pa_cons (pe_glob (v := .int 152) (by rfl) (g_ANY_CONTIGUOUS h) ⟨_, rfl⟩) pa_nil)))) (pw_and (pt_not (pt_val (pv 2))) (pw_and1 (pt_not (pt_val (pv 3))))))) (pss_one ps_never) pss_nil)
      (pss_cons (ps_if (PW.pt (pw_and (pt_not (pt_val (pe_call (ok_is_asked h) (hr.mono (by decide)) (by rfl) (gf_is_asked h) (Ff_is_asked w.params).kp (bf_is_asked w.params) .nil pass0 (pa_cons (pv 1) (pa_cons (pe_glob (v := .int 24) (by rfl) (g_STRIDES h) ⟨_, rfl⟩) pa_nil))))) (pw_and1 (pt_not (pt_val (pv 2)))))) (pss_one ps_never) pss_nil)
      (pss_one (ps_if (PW.pt (pw_and (pt_val (pe_call (ok_is_asked h) (hr.mono (by decide)) (by rfl) (gf_is_asked h) (Ff_is_asked w.params).kp (bf_is_asked w.params) .nil pass0 (pa_cons (pv 1) (pa_cons (pe_glob (v := .int 4) (by rfl) (g_FORMAT h) ⟨_, rfl⟩) pa_nil)))) (pw_and1 (pt_not (pt_val (pe_call (ok_is_asked h) (hr.mono (by decide)) (by rfl) (gf_is_asked h) (Ff_is_asked w.params).kp (bf_is_asked w.params) .nil pass0 (pa_cons (pv 1) (pa_cons (pe_glob (v := .int 8) (by rfl) (g_ND h) ⟨_, rfl⟩) pa_nil)))))))) (pss_one ps_never) pss_nil))))))))), ?_⟩
  rw [stf_check_request]
  walk_at "rd"
  refine fgo ((hf _ (Ev.refl _ _)).1) ?_
  try walk_at "rd"
  refine fgo ((hf _ (Ev.refl _ _)).2.1) ?_
  try walk_at "rd"
  refine fgo ((hf _ (Ev.refl _ _)).2.2) ?_
  try walk_at "rd"
  refine ⟨_, _, _, _, _, rfl, hz, hs, l1, l2, fun r1 H1 e1 => ?_⟩
  try walk_at "rd"
  refine fgo ((hf _ e1).1) ?_
  try walk_at "rd"
  refine fgo ((hf _ e1).2.1) ?_
  try walk_at "rd"
  refine fgo ((hf _ e1).2.2) ?_
  try walk_at "rd"
  refine ⟨_, _, _, _, _, rfl, e1.tup hz, e1.tup hs, l1, l2, fun r2 H2 e2 => ?_⟩
  try walk_at "rd"
  refine asked_is (b := false) (by decide +kernel) fun H3 e3 => ?_
  try walk_at "rd"
  refine asked_is (b := false) (by decide +kernel) fun H4 e4 => ?_
  try walk_at "rd"
  refine asked_is (b := false) (by decide +kernel) fun H5 e5 => ?_
  try walk_at "rd"
  refine asked_is (b := false) (by decide +kernel) fun H6 e6 => ?_
  try walk_at "rd"
  refine asked_is (b := true) (by decide +kernel) fun H7 e7 => ?_
  try walk_at "rd"
  refine asked_is (b := true) (by decide +kernel) fun H8 e8 => ?_
  try walk_at "rd"
  refine asked_is (b := true) (by decide +kernel) fun H9 e9 => ?_
  try walk_at "rd"
  exact q _ ((((((((e1.trans e2).trans e3).trans e4).trans e5).trans e6).trans e7).trans e8).trans e9)
def spSeen : Sp := fun vs H Q _ => ∃ (b : Addr) (p : Pl) (src : V), vs = [.ref b, .int 284] ∧ BufAt H b p src ∧ RetT H Q [.str p.kd, .ref p.sz, .ref p.st]
theorem ok_seen (h : MgOk w.params mg) : FnOk P w (K w.params) mg base CX0 2 af_seen fdf_seen ["buffer", "flags"] spSeen := by
  refine Fun.ok (sp := spSeen) (Ff_seen w.params) scf_seen (fun vs H Q E hs => by first | (obtain ⟨_, rfl, _⟩ := hs; rfl) | (obtain ⟨_, _, rfl, _⟩ := hs; rfl) | (obtain ⟨_, _, _, rfl, _⟩ := hs; rfl) | (obtain ⟨_, _, _, _, rfl, _⟩ := hs; rfl) | (obtain ⟨_, _, _, _, _, rfl, _⟩ := hs; rfl) | (obtain ⟨_, _, _, _, _, _, rfl, _⟩ := hs; rfl) | (obtain ⟨_, _, _, _, _, _, _, rfl, _⟩ := hs; rfl) | (obtain ⟨_, _, _, _, _, _, _, _, rfl, _⟩ := hs; rfl) | (obtain ⟨_, _, _, _, _, _, _, _, _, rfl, _⟩ := hs; rfl) | (obtain ⟨_, _, _, _, _, _, _, _, _, _, rfl, _⟩ := hs; rfl) | (obtain ⟨_, _, _, _, _, _, _, _, _, _, _, rfl, _⟩ := hs; rfl) | (obtain ⟨_, _, _, _, _, _, _, _, _, _, _, _, rfl, _⟩ := hs; rfl) | (obtain ⟨_, _, _, _, _, _, _, _, _, _, _, _, _, rfl, _⟩ := hs; rfl) | (obtain ⟨_, _, _, _, _, _, _, _, _, _, _, _, _, _, rfl, _⟩ := hs; rfl) | (obtain ⟨_, _, _, _, _, _, _, _, _, _, _, _, _, _, _, rfl, _⟩ := hs; rfl) | (obtain ⟨_, _, _, _, _, _, _, _, _, _, _, _, _, _, _, _, rfl, _⟩ := hs; rfl) | (obtain ⟨_, _, _, _, _, _, _, _, _, _, _, _, _, _, _, _, _, rfl, _⟩ := hs; rfl) | (obtain ⟨_, _, _, _, _, _, _, _, _, _, _, _, _, _, _, _, _, _, rfl, _⟩ := hs; rfl) | (obtain ⟨_, _, _, _, _, _, _, _, _, _, _, _, _, _, _, _, _, _, _, rfl, _⟩ := hs; rfl) | (obtain ⟨_, _, _, _, _, _, _, _, _, _, _, _, _, _, _, _, _, _, _, _, rfl, _⟩ := hs; rfl) | (obtain ⟨_, _, _, _, _, _, _, _, _, _, _, _, _, _, _, _, _, _, _, _, _, rfl, _⟩ := hs; rfl)) (fun cdv A outer s H vs Q E hr hq => ?_)
  obtain ⟨b, p, src, rfl, hb, q⟩ := hq
  refine ⟨_, (pss_cons (ps_set (i := 2) scf_seen.nd rfl (Or.inl rfl) (pe_ifExp (pt_val (pe_call (ok_is_asked h) (hr.mono (by decide)) (by rfl) (gf_is_asked h) (Ff_is_asked w.params).kp (bf_is_asked w.params) .nil pass0 (pa_cons (pv 1) (pa_cons (pe_glob (v := .int 4) (by rfl) (g_FORMAT h) ⟨_, rfl⟩) pa_nil)))) (pe_fld (pv 0) rfl) pe_str))
      (pss_cons (ps_if (pt_not (pt_val (pe_call (ok_is_asked h) (hr.mono (by decide)) (by rfl) (gf_is_asked h) (Ff_is_asked w.params).kp (bf_is_asked w.params) .nil pass0 (pa_cons (pv 1) (pa_cons (pe_glob (v := .int 8) (by rfl) (g_ND h) ⟨_, rfl⟩) pa_nil))))) pss_never pss_nil)
      (pss_cons (ps_if (pt_not (pt_val (pe_call (ok_is_asked h) (hr.mono (by decide)) (by rfl) (gf_is_asked h) (Ff_is_asked w.params).kp (bf_is_asked w.params) .nil pass0 (pa_cons (pv 1) (pa_cons (pe_glob (v := .int 24) (by rfl) (g_STRIDES h) ⟨_, rfl⟩) pa_nil))))) pss_never pss_nil)
      (pss_one (ps_ret (pe_tup (pa_cons (pv 2) (pa_cons (pe_fld (pv 0) rfl) (pa_cons (pe_fld (pv 0) rfl) pa_nil))))))))), ?_⟩
  rw [stf_seen]
  walk_at "rd"
  refine asked_is (b := true) (by decide +kernel) fun H1 e1 => ?_
  try walk_at "rd"
  refine fgo ((hb.ev e1).f_kind) ?_
  try walk_at "rd"
  refine asked_is (b := true) (by decide +kernel) fun H2 e2 => ?_
  try walk_at "rd"
  refine asked_is (b := true) (by decide +kernel) fun H3 e3 => ?_
  try walk_at "rd"
  have hb3 := ((hb.ev e1).ev e2).ev e3
  refine fgo (hb3.f_sizes) ?_
  try walk_at "rd"
  refine fgo (hb3.f_steps) ?_
  try walk_at "rd"
  exact ⟨by simp [sizeLine], fun t nt => q _ _ (((e1.trans e2).trans e3).trans (Ev.new nt)) upd_same⟩
def spCheckOpen : Sp := fun vs H Q _ => ∃ (v : Addr) (p : Pl), vs = [.ref v] ∧ MvAt H v p ∧ RetV H Q .non
theorem ok_mv_check_open (h : MgOk w.params mg) : FnOk P w (K w.params) mg base CX0 1 am_mv_check_open fdm_mv_check_open ["self"] spCheckOpen := by
  refine Fun.ok (sp := spCheckOpen) (Fm_mv_check_open w.params) scm_mv_check_open (fun vs H Q E hs => by first | (obtain ⟨_, rfl, _⟩ := hs; rfl) | (obtain ⟨_, _, rfl, _⟩ := hs; rfl) | (obtain ⟨_, _, _, rfl, _⟩ := hs; rfl) | (obtain ⟨_, _, _, _, rfl, _⟩ := hs; rfl) | (obtain ⟨_, _, _, _, _, rfl, _⟩ := hs; rfl) | (obtain ⟨_, _, _, _, _, _, rfl, _⟩ := hs; rfl) | (obtain ⟨_, _, _, _, _, _, _, rfl, _⟩ := hs; rfl) | (obtain ⟨_, _, _, _, _, _, _, _, rfl, _⟩ := hs; rfl) | (obtain ⟨_, _, _, _, _, _, _, _, _, rfl, _⟩ := hs; rfl) | (obtain ⟨_, _, _, _, _, _, _, _, _, _, rfl, _⟩ := hs; rfl) | (obtain ⟨_, _, _, _, _, _, _, _, _, _, _, rfl, _⟩ := hs; rfl) | (obtain ⟨_, _, _, _, _, _, _, _, _, _, _, _, rfl, _⟩ := hs; rfl) | (obtain ⟨_, _, _, _, _, _, _, _, _, _, _, _, _, rfl, _⟩ := hs; rfl) | (obtain ⟨_, _, _, _, _, _, _, _, _, _, _, _, _, _, rfl, _⟩ := hs; rfl) | (obtain ⟨_, _, _, _, _, _, _, _, _, _, _, _, _, _, _, rfl, _⟩ := hs; rfl) | (obtain ⟨_, _, _, _, _, _, _, _, _, _, _, _, _, _, _, _, rfl, _⟩ := hs; rfl) | (obtain ⟨_, _, _, _, _, _, _, _, _, _, _, _, _, _, _, _, _, rfl, _⟩ := hs; rfl) | (obtain ⟨_, _, _, _, _, _, _, _, _, _, _, _, _, _, _, _, _, _, rfl, _⟩ := hs; rfl) | (obtain ⟨_, _, _, _, _, _, _, _, _, _, _, _, _, _, _, _, _, _, _, rfl, _⟩ := hs; rfl) | (obtain ⟨_, _, _, _, _, _, _, _, _, _, _, _, _, _, _, _, _, _, _, _, rfl, _⟩ := hs; rfl) | (obtain ⟨_, _, _, _, _, _, _, _, _, _, _, _, _, _, _, _, _, _, _, _, _, rfl, _⟩ := hs; rfl)) (fun cdv A outer s H vs Q E hr hq => ?_)
  obtain ⟨v, p, rfl, hv, q⟩ := hq
  refine ⟨_, (pss_one (ps_if (pt_not (pt_val (pe_fld (pv 0) rfl))) (pss_one ps_never) pss_nil)), ?_⟩
  rw [stm_mv_check_open]
  walk_at "rd"
  refine fgo (hv.f_is_open) ?_
  try walk_at "rd"
  exact q _ (Ev.refl _ _)
theorem MvAt.f_buffer {Ps : Params} {H : Hp} {v : Addr} {p : Pl} (h : MvAt H v p) : ∃ b q src, HasF (K Ps) H v "buffer" (.ref b) ∧ BufAt H b q src ∧ q.m = p.m := by
  obtain ⟨_, dx, b, _, _, _, h, q, src, hb, e⟩ := h
  exact ⟨b, q, src, ⟨_, _, _, h, cl_MemoryView Ps, na_MemoryView_buffer Ps, rfl⟩, hb, e⟩
def spMemNow : Sp := fun vs H Q _ => ∃ (v : Addr) (p : Pl), vs = [.ref v] ∧ MvAt H v p ∧ RetV H Q (.ref p.m)
theorem ok_mv_memory_now (h : MgOk w.params mg) : FnOk P w (K w.params) mg base CX0 1 am_mv_memory_now fdm_mv_memory_now ["self"] spMemNow := by
  refine Fun.ok (sp := spMemNow) (Fm_mv_memory_now w.params) scm_mv_memory_now (fun vs H Q E hs => by first | (obtain ⟨_, rfl, _⟩ := hs; rfl) | (obtain ⟨_, _, rfl, _⟩ := hs; rfl) | (obtain ⟨_, _, _, rfl, _⟩ := hs; rfl) | (obtain ⟨_, _, _, _, rfl, _⟩ := hs; rfl) | (obtain ⟨_, _, _, _, _, rfl, _⟩ := hs; rfl) | (obtain ⟨_, _, _, _, _, _, rfl, _⟩ := hs; rfl) | (obtain ⟨_, _, _, _, _, _, _, rfl, _⟩ := hs; rfl) | (obtain ⟨_, _, _, _, _, _, _, _, rfl, _⟩ := hs; rfl) | (obtain ⟨_, _, _, _, _, _, _, _, _, rfl, _⟩ := hs; rfl) | (obtain ⟨_, _, _, _, _, _, _, _, _, _, rfl, _⟩ := hs; rfl) | (obtain ⟨_, _, _, _, _, _, _, _, _, _, _, rfl, _⟩ := hs; rfl) | (obtain ⟨_, _, _, _, _, _, _, _, _, _, _, _, rfl, _⟩ := hs; rfl) | (obtain ⟨_, _, _, _, _, _, _, _, _, _, _, _, _, rfl, _⟩ := hs; rfl) | (obtain ⟨_, _, _, _, _, _, _, _, _, _, _, _, _, _, rfl, _⟩ := hs; rfl) | (obtain ⟨_, _, _, _, _, _, _, _, _, _, _, _, _, _, _, rfl, _⟩ := hs; rfl) | (obtain ⟨_, _, _, _, _, _, _, _, _, _, _, _, _, _, _, _, rfl, _⟩ := hs; rfl) | (obtain ⟨_, _, _, _, _, _, _, _, _, _, _, _, _, _, _, _, _, rfl, _⟩ := hs; rfl) | (obtain ⟨_, _, _, _, _, _, _, _, _, _, _, _, _, _, _, _, _, _, rfl, _⟩ := hs; rfl) | (obtain ⟨_, _, _, _, _, _, _, _, _, _, _, _, _, _, _, _, _, _, _, rfl, _⟩ := hs; rfl) | (obtain ⟨_, _, _, _, _, _, _, _, _, _, _, _, _, _, _, _, _, _, _, _, rfl, _⟩ := hs; rfl) | (obtain ⟨_, _, _, _, _, _, _, _, _, _, _, _, _, _, _, _, _, _, _, _, _, rfl, _⟩ := hs; rfl)) (fun cdv A outer s H vs Q E hr hq => ?_)
  obtain ⟨v, p, rfl, hv, q⟩ := hq
  obtain ⟨b, pb, src, hf, hb, em⟩ := hv.f_buffer (Ps := w.params)
  refine ⟨_, (pss_one (ps_ret (pe_fld (pe_fld (pv 0) rfl) rfl))), ?_⟩
  rw [stm_mv_memory_now]
  walk_at "rd"
  refine fgo (hf) ?_
  try walk_at "rd"
  refine fgo (hb.f_memory) ?_
  try walk_at "rd"
  rw [em]
  exact q _ (Ev.refl _ _)
end VL
end
section
set_option linter.all false
set_option maxRecDepth 100000
set_option maxHeartbeats 4000000
namespace VL
open PySem PySem.Spec PyProof.Rows L2 RZ
local macro_rules | `(tactic| walk_at "rd") => `(tactic| (simp only [tVar, tC, tOp, tUn, tTest, tB, tAnd, tOr, tNot, tAndV, tOrV, tNotV, tIf, tIfS, tSeq, tAsg, gName, tRet, tRetN, tDrop, tNext, rI, rI0, rU, rEq, rNe, scal, tCons, tNil, tCB, t2I, tChain, tCall, tMeth, tPar, tPar3, tFld, tTup, tLst, iTup, iList, iRng1, tPart, tNoPart, tBM, tBM0, tMake, cxK, noxK, L2.wipe,
  List.append_nil, List.nil_append, List.cons_append, List.map_cons, List.map_nil, List.getElem?_cons_zero, List.getElem?_cons_succ, List.getElem?_nil, List.set_cons_zero, List.set_cons_succ, Option.some.injEq, V.int.injEq, V.bl.injEq, V.str.injEq, V.ref.injEq, exists_and_left, exists_eq_left', exists_eq_left, true_and, and_true, List.cons.injEq, if_true, if_false, Bool.false_eq_true, Bool.not_true, Bool.not_false, decide_eq_true_eq, and_assoc]))
variable {P : Program} {w : World} {mg : Str → Option Value} {base : Heap}
/-- the same plan with other tuples -/
abbrev Pl.wt (p : Pl) (z t : Addr) : Pl := { p with sz := z, st := t }
theorem MvAt.stable {v : Addr} {p : Pl} {H : Hp} (h : MvAt H v p) : ∀ H', Ev [] H H' → HasF (K w.params) H' v "sizes" (.ref p.sz) ∧ HasF (K w.params) H' v "steps" (.ref p.st) ∧ HasF (K w.params) H' v "width" (.int p.wd) :=
  fun H' e => ⟨(h.ev e).f_sizes, (h.ev e).f_steps, (h.ev e).f_width⟩
theorem BufAt.stable {v : Addr} {p : Pl} {src : V} {H : Hp} (h : BufAt H v p src) : ∀ H', Ev [] H H' → HasF (K w.params) H' v "sizes" (.ref p.sz) ∧ HasF (K w.params) H' v "steps" (.ref p.st) ∧ HasF (K w.params) H' v "width" (.int p.wd) :=
  fun H' e => ⟨(h.ev e).f_sizes, (h.ev e).f_steps, (h.ev e).f_width⟩
theorem aug1 {H : Hp} {x C dx : Addr} {fs : List (Str × V)} {f : Str} {y : V} {o' : HO} {G : Hp → Prop} (hx : H x = some (.ins C dx fs)) (l : fs.length < 1000) (hp : HO.ins C dx (putF f y fs) = o') (q : G (upd H x o')) :
    ∃ dx' fs', H x = some (.ins C dx' fs') ∧ fs'.length < 1000 ∧ G (upd H x (.ins C dx' (putF f y fs'))) := ⟨dx, fs, hx, l, by rw [hp]; exact q⟩
theorem puto {K : PySem.W.Frag} {H : Hp} {x C dx : Addr} {fs : List (Str × V)} {f : Str} {y : V} {o' : HO} {G : Hp → Prop} (hx : H x = some (.ins C dx fs)) (c : Cls K C) (n : NoAttr K C f) (l : fs.length < 1000) (hp : HO.ins C dx (putF f y fs) = o') (q : G (upd H x o')) :
    ∃ a C dx fs, V.ref x = .ref a ∧ H a = some (.ins C dx fs) ∧ Cls K C ∧ NoAttr K C f ∧ fs.length < 1000 ∧ G (upd H a (.ins C dx (putF f y fs))) := ⟨x, C, dx, fs, rfl, hx, c, n, l, by rw [hp]; exact q⟩
theorem puts {K : PySem.W.Frag} {H : Hp} {x C dx : Addr} {fs : List (Str × V)} {f : Str} {y : V} {o' : HO} {G : Hp → Prop} (hx : H x = some (.ins C dx fs)) (c : Cls K C) (n : NoAttr K C f) (l : fs.length < 1000) (hp : HO.ins C dx (putF f y fs) = o') (q : G (upd H x o')) :
    ∃ C dx fs, H x = some (.ins C dx fs) ∧ Cls K C ∧ NoAttr K C f ∧ fs.length < 1000 ∧ G (upd H x (.ins C dx (putF f y fs))) := ⟨C, dx, fs, hx, c, n, l, by rw [hp]; exact q⟩
theorem mk_buf {H : Hp} {G : Addr → Hp → Prop} {E : XK} {m p w k z s f o : V} (kk : ∀ H' b dx, Ev [] H H' → H b = none → H' b = some (.ins CBuffer dx [("memory", m), ("place", p), ("width", w), ("kind", k), ("sizes", z), ("steps", s), ("fixed", f), ("source", o), ("shares", .int 0)]) → G b H') :
    ∀ x dx, H x = none → H dx = none → dx ≠ x → spBuf [.ref x, m, p, w, k, z, s, f, o] (upd (upd H dx (.own x)) x (.ins CBuffer dx [])) (fun v H2 => v = .non ∧ G x H2) E :=
  fun x dx nx nd _ => ⟨x, dx, m, p, w, k, z, s, f, o, rfl, upd_same, fun H' e hb => ⟨rfl, kk H' x dx (e.made nx nd) nx hb⟩⟩
/-- a buffer is lent -/
abbrev RetB (H : Hp) (Q : VK) (p : Pl) (src : V) : Prop := ∀ H' b z t, Ev [] H H' → H b = none → BufAt H' b (p.wt z t) src → Q (.ref b) H'
def spLendMv : Sp := fun vs H Q _ => ∃ (v : Addr) (p : Pl), vs = [.ref v, .int 284] ∧ MvAt H v p ∧ p.wd ≤ 8 ∧ RetB H Q p (.ref v)
theorem ok_mv_lend (h : MgOk w.params mg) : FnOk P w (K w.params) mg base CX0 5 am_mv_lend fdm_mv_lend ["self", "flags"] spLendMv := by
  refine Fun.ok (sp := spLendMv) (Fm_mv_lend w.params) scm_mv_lend (fun vs H Q E hs => by first | (obtain ⟨_, rfl, _⟩ := hs; rfl) | (obtain ⟨_, _, rfl, _⟩ := hs; rfl) | (obtain ⟨_, _, _, rfl, _⟩ := hs; rfl) | (obtain ⟨_, _, _, _, rfl, _⟩ := hs; rfl) | (obtain ⟨_, _, _, _, _, rfl, _⟩ := hs; rfl) | (obtain ⟨_, _, _, _, _, _, rfl, _⟩ := hs; rfl) | (obtain ⟨_, _, _, _, _, _, _, rfl, _⟩ := hs; rfl) | (obtain ⟨_, _, _, _, _, _, _, _, rfl, _⟩ := hs; rfl) | (obtain ⟨_, _, _, _, _, _, _, _, _, rfl, _⟩ := hs; rfl) | (obtain ⟨_, _, _, _, _, _, _, _, _, _, rfl, _⟩ := hs; rfl) | (obtain ⟨_, _, _, _, _, _, _, _, _, _, _, rfl, _⟩ := hs; rfl) | (obtain ⟨_, _, _, _, _, _, _, _, _, _, _, _, rfl, _⟩ := hs; rfl) | (obtain ⟨_, _, _, _, _, _, _, _, _, _, _, _, _, rfl, _⟩ := hs; rfl) | (obtain ⟨_, _, _, _, _, _, _, _, _, _, _, _, _, _, rfl, _⟩ := hs; rfl) | (obtain ⟨_, _, _, _, _, _, _, _, _, _, _, _, _, _, _, rfl, _⟩ := hs; rfl) | (obtain ⟨_, _, _, _, _, _, _, _, _, _, _, _, _, _, _, _, rfl, _⟩ := hs; rfl) | (obtain ⟨_, _, _, _, _, _, _, _, _, _, _, _, _, _, _, _, _, rfl, _⟩ := hs; rfl) | (obtain ⟨_, _, _, _, _, _, _, _, _, _, _, _, _, _, _, _, _, _, rfl, _⟩ := hs; rfl) | (obtain ⟨_, _, _, _, _, _, _, _, _, _, _, _, _, _, _, _, _, _, _, rfl, _⟩ := hs; rfl) | (obtain ⟨_, _, _, _, _, _, _, _, _, _, _, _, _, _, _, _, _, _, _, _, rfl, _⟩ := hs; rfl) | (obtain ⟨_, _, _, _, _, _, _, _, _, _, _, _, _, _, _, _, _, _, _, _, _, rfl, _⟩ := hs; rfl)) (fun cdv A outer s H vs Q E hr hq => ?_)
  obtain ⟨v, p, rfl, hv, hw, q⟩ := hq
  refine ⟨_, (pss_cons (ps_expr (pe_meth0 (pv 0) (cl_MemoryView w.params) (mt_MemoryView_check_open w.params) (ok_mv_check_open h) (hr.mono (by decide)) (bm_mv_check_open w.params) .nil pass0))
      (pss_cons (ps_expr (pe_call (ok_check_request h) (hr.mono (by decide)) (by rfl) (gf_check_request h) (Ff_check_request w.params).kp (bf_check_request w.params) .nil pass0 (pa_cons (pv 0) (pa_cons (pv 1) pa_nil))))
      (pss_cons (ps_fldaug (pv 0) pe_int in_add)
      (pss_one (ps_ret (pe_make (mk_Buffer w.params) (ok_buf_init h) (hr.mono (by decide)) (by rfl) (g_Buffer h) (bm_buf_init w.params) .nil pass0 (pa_cons (pe_meth0 (pv 0) (cl_MemoryView w.params) (mt_MemoryView_memory_now w.params) (ok_mv_memory_now h) (hr.mono (by decide)) (bm_mv_memory_now w.params) .nil pass0) (pa_cons (pe_fld (pv 0) rfl) (pa_cons (pe_fld (pv 0) rfl) (pa_cons (pe_fld (pv 0) rfl) (pa_cons (pe_fld (pv 0) rfl) (pa_cons (pe_fld (pv 0) rfl) (pa_cons (pe_fld (pv 0) rfl) (pa_cons (pv 0) pa_nil)))))))))))))), ?_⟩
  rw [stm_mv_lend]
  walk_at "rd"
  obtain ⟨_, dx, b, ir, ic, ml, hr0, _⟩ := id hv
  refine ⟨dx, _, hr0, rfl, v, p, rfl, hv, fun H1 e1 => ?_⟩
  try walk_at "rd"
  have hv1 := hv.ev e1
  refine ⟨v, p.sz, p.st, p.n, p.s, p.wd, rfl, hv1.stable, hv1.1.2.1, hv1.1.2.2, by omega, by omega, fun H2 e2 => ?_⟩
  try walk_at "rd"
  have hv2 := hv1.ev e2
  obtain ⟨_, dx2, b2, ir2, ic2, ml2, hr2, _⟩ := id hv2
  refine ⟨_, rfl, v, _, _, _, _, rfl, hr2, cl_MemoryView w.params, na_MemoryView_many_lent w.params, rfl, _, _, rfl, rfl, aug1 hr2 (by simp) (o' := mvO dx2 b2 p.fx p.pl p.kd p.wd p.sz p.st ir2 ic2 (ml2 + 1)) (by kernel_rfl) ?_⟩
  have e3 : Ev [] H2 (upd H2 v (mvO dx2 b2 p.fx p.pl p.kd p.wd p.sz p.st ir2 ic2 (ml2 + 1))) := Ev.at hr2 (.mv ..)
  have hv3 := hv2.ev e3
  generalize upd H2 v (mvO dx2 b2 p.fx p.pl p.kd p.wd p.sz p.st ir2 ic2 (ml2 + 1)) = H3 at e3 hv3 ⊢
  obtain ⟨_, dx3, b3, ir3, ic3, ml3, hr3, _⟩ := id hv3
  try walk_at "rd"
  refine ⟨_, _, hr3, rfl, v, p, rfl, hv3, fun H4 e4 => ?_⟩
  have hv4 := hv3.ev e4
  try walk_at "rd"
  refine fgo (hv4.f_place) ?_
  try walk_at "rd"
  refine fgo (hv4.f_width) ?_
  try walk_at "rd"
  refine fgo (hv4.f_kind) ?_
  try walk_at "rd"
  refine fgo (hv4.f_sizes) ?_
  try walk_at "rd"
  refine fgo (hv4.f_steps) ?_
  try walk_at "rd"
  refine fgo (hv4.f_fixed) ?_
  try walk_at "rd"
  refine mk_buf fun H5 b dx e5 nb hb => ?_
  have ee := (((e1.trans e2).trans e3).trans e4)
  exact q H5 b p.sz p.st (ee.trans e5) (ee.free nb) ⟨hv4.1.ev e5, _, _, hb⟩
def spLendBa : Sp := fun vs H Q _ => ∃ (h m c : Addr) (cs : List V), vs = [.ref h, .int 284] ∧ BaAt H h m c ∧ H c = some (.lst cs) ∧ RetB H Q ⟨m, c, 0, 1, "B", m, m, cs.length, 1, false⟩ (.ref h)
theorem ok_ba_lend (h : MgOk w.params mg) : FnOk P w (K w.params) mg base CX0 3 am_ba_lend fdm_ba_lend ["self", "flags"] spLendBa := by
  refine Fun.ok (sp := spLendBa) (Fm_ba_lend w.params) scm_ba_lend (fun vs H Q E hs => by first | (obtain ⟨_, rfl, _⟩ := hs; rfl) | (obtain ⟨_, _, rfl, _⟩ := hs; rfl) | (obtain ⟨_, _, _, rfl, _⟩ := hs; rfl) | (obtain ⟨_, _, _, _, rfl, _⟩ := hs; rfl) | (obtain ⟨_, _, _, _, _, rfl, _⟩ := hs; rfl) | (obtain ⟨_, _, _, _, _, _, rfl, _⟩ := hs; rfl) | (obtain ⟨_, _, _, _, _, _, _, rfl, _⟩ := hs; rfl) | (obtain ⟨_, _, _, _, _, _, _, _, rfl, _⟩ := hs; rfl) | (obtain ⟨_, _, _, _, _, _, _, _, _, rfl, _⟩ := hs; rfl) | (obtain ⟨_, _, _, _, _, _, _, _, _, _, rfl, _⟩ := hs; rfl) | (obtain ⟨_, _, _, _, _, _, _, _, _, _, _, rfl, _⟩ := hs; rfl) | (obtain ⟨_, _, _, _, _, _, _, _, _, _, _, _, rfl, _⟩ := hs; rfl) | (obtain ⟨_, _, _, _, _, _, _, _, _, _, _, _, _, rfl, _⟩ := hs; rfl) | (obtain ⟨_, _, _, _, _, _, _, _, _, _, _, _, _, _, rfl, _⟩ := hs; rfl) | (obtain ⟨_, _, _, _, _, _, _, _, _, _, _, _, _, _, _, rfl, _⟩ := hs; rfl) | (obtain ⟨_, _, _, _, _, _, _, _, _, _, _, _, _, _, _, _, rfl, _⟩ := hs; rfl) | (obtain ⟨_, _, _, _, _, _, _, _, _, _, _, _, _, _, _, _, _, rfl, _⟩ := hs; rfl) | (obtain ⟨_, _, _, _, _, _, _, _, _, _, _, _, _, _, _, _, _, _, rfl, _⟩ := hs; rfl) | (obtain ⟨_, _, _, _, _, _, _, _, _, _, _, _, _, _, _, _, _, _, _, rfl, _⟩ := hs; rfl) | (obtain ⟨_, _, _, _, _, _, _, _, _, _, _, _, _, _, _, _, _, _, _, _, rfl, _⟩ := hs; rfl) | (obtain ⟨_, _, _, _, _, _, _, _, _, _, _, _, _, _, _, _, _, _, _, _, _, rfl, _⟩ := hs; rfl)) (fun cdv A outer s H vs Q E hr hq => ?_)
  obtain ⟨hh, m, c, cs, rfl, hb, hc, q⟩ := hq
  obtain ⟨⟨dx, sd, h0⟩, hm⟩ := id hb
  refine ⟨_, (pss_cons (ps_fld (pv 0) (pe_op op_add (pe_fld (pv 0) rfl) pe_int) rfl)
      (pss_one (ps_ret (pe_make (mk_Buffer w.params) (ok_buf_init h) (hr.mono (by decide)) (by rfl) (g_Buffer h) (bm_buf_init w.params) .nil pass0 (pa_cons (pe_fld (pv 0) rfl) (pa_cons pe_int (pa_cons pe_int (pa_cons pe_str (pa_cons (pe_tup (pa_cons (pe_callB call_len (by rfl) (n_len h) (by decide +kernel) (pa_cons (pe_fld (pe_fld (pv 0) rfl) rfl) pa_nil)) pa_nil)) (pa_cons (pe_tup (pa_cons pe_int pa_nil)) (pa_cons pe_bl (pa_cons (pv 0) pa_nil)))))))))))), ?_⟩
  rw [stm_ba_lend]
  walk_at "rd"
  refine ⟨_, rfl, hh, _, _, _, _, rfl, h0, cl_ByteArray w.params, na_ByteArray_standing w.params, rfl, _, _, rfl, rfl, _, rfl, puto h0 (cl_ByteArray w.params) (na_ByteArray_standing w.params) (by simp) (o' := baO dx m (sd + 1)) (by kernel_rfl) ?_⟩
  have e3 : Ev [] H (upd H hh (baO dx m (sd + 1))) := Ev.at h0 (.ba ..)
  generalize upd H hh (baO dx m (sd + 1)) = H3 at e3 ⊢
  have hb3 := hb.ev e3
  try walk_at "rd"
  refine fgo (hb3.f_memory) ?_
  try walk_at "rd"
  refine fgo (hb3.f_memory) ?_
  try walk_at "rd"
  refine fgo (hb3.2.f_cells) ?_
  try walk_at "rd"
  refine ⟨_, .inl ⟨_, SqL.of (e3.lst hc), rfl⟩, ?_⟩
  refine ⟨by simp [sizeLine], fun z nz => ?_⟩
  obtain ⟨H4, H4_eq, e4, h4⟩ := newq (.tup [V.int cs.length]) nz
  rw [← H4_eq]
  clear H4_eq
  refine ⟨by simp [sizeLine], fun t nt => ?_⟩
  obtain ⟨H5, H5_eq, e5, h5⟩ := newq (.tup [V.int 1]) nt
  rw [← H5_eq]
  clear H5_eq
  refine mk_buf fun H6 b dx e6 nb hb => ?_
  have ee := ((e3.trans e4).trans e5)
  exact q H6 b z t (ee.trans e6) (ee.free nb) ⟨⟨(hm.ev ee).ev e6, e6.tup (e5.tup h4), e6.tup h5⟩, _, _, hb⟩
def spLendSt : Sp := fun vs H Q _ => ∃ (h : Addr) (p : Pl), vs = [.ref h, .int 284] ∧ StAt H h p ∧ p.wd ≤ 8 ∧ RetB H Q p (.ref h)
theorem ok_st_lend (h : MgOk w.params mg) : FnOk P w (K w.params) mg base CX0 5 am_st_lend fdm_st_lend ["self", "flags"] spLendSt := by
  refine Fun.ok (sp := spLendSt) (Fm_st_lend w.params) scm_st_lend (fun vs H Q E hs => by first | (obtain ⟨_, rfl, _⟩ := hs; rfl) | (obtain ⟨_, _, rfl, _⟩ := hs; rfl) | (obtain ⟨_, _, _, rfl, _⟩ := hs; rfl) | (obtain ⟨_, _, _, _, rfl, _⟩ := hs; rfl) | (obtain ⟨_, _, _, _, _, rfl, _⟩ := hs; rfl) | (obtain ⟨_, _, _, _, _, _, rfl, _⟩ := hs; rfl) | (obtain ⟨_, _, _, _, _, _, _, rfl, _⟩ := hs; rfl) | (obtain ⟨_, _, _, _, _, _, _, _, rfl, _⟩ := hs; rfl) | (obtain ⟨_, _, _, _, _, _, _, _, _, rfl, _⟩ := hs; rfl) | (obtain ⟨_, _, _, _, _, _, _, _, _, _, rfl, _⟩ := hs; rfl) | (obtain ⟨_, _, _, _, _, _, _, _, _, _, _, rfl, _⟩ := hs; rfl) | (obtain ⟨_, _, _, _, _, _, _, _, _, _, _, _, rfl, _⟩ := hs; rfl) | (obtain ⟨_, _, _, _, _, _, _, _, _, _, _, _, _, rfl, _⟩ := hs; rfl) | (obtain ⟨_, _, _, _, _, _, _, _, _, _, _, _, _, _, rfl, _⟩ := hs; rfl) | (obtain ⟨_, _, _, _, _, _, _, _, _, _, _, _, _, _, _, rfl, _⟩ := hs; rfl) | (obtain ⟨_, _, _, _, _, _, _, _, _, _, _, _, _, _, _, _, rfl, _⟩ := hs; rfl) | (obtain ⟨_, _, _, _, _, _, _, _, _, _, _, _, _, _, _, _, _, rfl, _⟩ := hs; rfl) | (obtain ⟨_, _, _, _, _, _, _, _, _, _, _, _, _, _, _, _, _, _, rfl, _⟩ := hs; rfl) | (obtain ⟨_, _, _, _, _, _, _, _, _, _, _, _, _, _, _, _, _, _, _, rfl, _⟩ := hs; rfl) | (obtain ⟨_, _, _, _, _, _, _, _, _, _, _, _, _, _, _, _, _, _, _, _, rfl, _⟩ := hs; rfl) | (obtain ⟨_, _, _, _, _, _, _, _, _, _, _, _, _, _, _, _, _, _, _, _, _, rfl, _⟩ := hs; rfl)) (fun cdv A outer s H vs Q E hr hq => ?_)
  obtain ⟨hh, p, rfl, hs, hw, q⟩ := hq
  obtain ⟨dx, b, src, h0, hb⟩ := id hs
  refine ⟨_, (pss_cons (ps_set (i := 2) scm_st_lend.nd rfl (Or.inl rfl) (pe_fld (pv 0) rfl))
      (pss_cons (ps_expr (pe_call (ok_check_request h) (hr.mono (by decide)) (by rfl) (gf_check_request h) (Ff_check_request w.params).kp (bf_check_request w.params) .nil pass0 (pa_cons (pv 2) (pa_cons (pv 1) pa_nil))))
      (pss_one (ps_ret (pe_make (mk_Buffer w.params) (ok_buf_init h) (hr.mono (by decide)) (by rfl) (g_Buffer h) (bm_buf_init w.params) .nil pass0 (pa_cons (pe_fld (pv 2) rfl) (pa_cons (pe_fld (pv 2) rfl) (pa_cons (pe_fld (pv 2) rfl) (pa_cons (pe_fld (pv 2) rfl) (pa_cons (pe_fld (pv 2) rfl) (pa_cons (pe_fld (pv 2) rfl) (pa_cons (pe_fld (pv 2) rfl) (pa_cons (pv 0) pa_nil))))))))))))), ?_⟩
  rw [stm_st_lend]
  walk_at "rd"
  refine ⟨_, _, _, h0, cl_Strided w.params, na_Strided_plan w.params, _, rfl, ?_⟩
  refine ⟨b, p.sz, p.st, p.n, p.s, p.wd, rfl, hb.stable, hb.1.2.1, hb.1.2.2, by omega, by omega, fun H2 e2 => ?_⟩
  have hb2 := hb.ev e2
  try walk_at "rd"
  refine fgo (hb2.f_memory) ?_
  try walk_at "rd"
  refine fgo (hb2.f_place) ?_
  try walk_at "rd"
  refine fgo (hb2.f_width) ?_
  try walk_at "rd"
  refine fgo (hb2.f_kind) ?_
  try walk_at "rd"
  refine fgo (hb2.f_sizes) ?_
  try walk_at "rd"
  refine fgo (hb2.f_steps) ?_
  try walk_at "rd"
  refine fgo (hb2.f_fixed) ?_
  try walk_at "rd"
  refine mk_buf fun H6 b dx e6 nb hb => ?_
  exact q H6 b p.sz p.st (e2.trans e6) (e2.free nb) ⟨hb2.1.ev e6, _, _, hb⟩
def spTbMv : Sp := fun vs H Q _ => ∃ (v : Addr) (p : Pl) (b : V), vs = [.ref v, b] ∧ MvAt H v p ∧ RetV H Q .non
theorem ok_mv_take_back (h : MgOk w.params mg) : FnOk P w (K w.params) mg base CX0 1 am_mv_take_back fdm_mv_take_back ["self", "buffer"] spTbMv := by
  refine Fun.ok (sp := spTbMv) (Fm_mv_take_back w.params) scm_mv_take_back (fun vs H Q E hs => by first | (obtain ⟨_, rfl, _⟩ := hs; rfl) | (obtain ⟨_, _, rfl, _⟩ := hs; rfl) | (obtain ⟨_, _, _, rfl, _⟩ := hs; rfl) | (obtain ⟨_, _, _, _, rfl, _⟩ := hs; rfl) | (obtain ⟨_, _, _, _, _, rfl, _⟩ := hs; rfl) | (obtain ⟨_, _, _, _, _, _, rfl, _⟩ := hs; rfl) | (obtain ⟨_, _, _, _, _, _, _, rfl, _⟩ := hs; rfl) | (obtain ⟨_, _, _, _, _, _, _, _, rfl, _⟩ := hs; rfl) | (obtain ⟨_, _, _, _, _, _, _, _, _, rfl, _⟩ := hs; rfl) | (obtain ⟨_, _, _, _, _, _, _, _, _, _, rfl, _⟩ := hs; rfl) | (obtain ⟨_, _, _, _, _, _, _, _, _, _, _, rfl, _⟩ := hs; rfl) | (obtain ⟨_, _, _, _, _, _, _, _, _, _, _, _, rfl, _⟩ := hs; rfl) | (obtain ⟨_, _, _, _, _, _, _, _, _, _, _, _, _, rfl, _⟩ := hs; rfl) | (obtain ⟨_, _, _, _, _, _, _, _, _, _, _, _, _, _, rfl, _⟩ := hs; rfl) | (obtain ⟨_, _, _, _, _, _, _, _, _, _, _, _, _, _, _, rfl, _⟩ := hs; rfl) | (obtain ⟨_, _, _, _, _, _, _, _, _, _, _, _, _, _, _, _, rfl, _⟩ := hs; rfl) | (obtain ⟨_, _, _, _, _, _, _, _, _, _, _, _, _, _, _, _, _, rfl, _⟩ := hs; rfl) | (obtain ⟨_, _, _, _, _, _, _, _, _, _, _, _, _, _, _, _, _, _, rfl, _⟩ := hs; rfl) | (obtain ⟨_, _, _, _, _, _, _, _, _, _, _, _, _, _, _, _, _, _, _, rfl, _⟩ := hs; rfl) | (obtain ⟨_, _, _, _, _, _, _, _, _, _, _, _, _, _, _, _, _, _, _, _, rfl, _⟩ := hs; rfl) | (obtain ⟨_, _, _, _, _, _, _, _, _, _, _, _, _, _, _, _, _, _, _, _, _, rfl, _⟩ := hs; rfl)) (fun cdv A outer s H vs Q E hr hq => ?_)
  obtain ⟨v, p, b, rfl, hv, q⟩ := hq
  refine ⟨_, (pss_one (ps_fldaug (pv 0) pe_int in_sub)), ?_⟩
  rw [stm_mv_take_back]
  walk_at "rd"
  obtain ⟨_, dx2, b2, ir2, ic2, ml2, hr2, _⟩ := id hv
  refine ⟨_, rfl, v, _, _, _, _, rfl, hr2, cl_MemoryView w.params, na_MemoryView_many_lent w.params, rfl, _, _, rfl, rfl, aug1 hr2 (by simp) (o' := mvO dx2 b2 p.fx p.pl p.kd p.wd p.sz p.st ir2 ic2 (ml2 - 1)) (by kernel_rfl) ?_⟩
  exact q _ (Ev.at hr2 (.mv ..))
def spTbBa : Sp := fun vs H Q _ => ∃ (v m c : Addr) (b : V), vs = [.ref v, b] ∧ BaAt H v m c ∧ RetV H Q .non
theorem ok_ba_take_back (h : MgOk w.params mg) : FnOk P w (K w.params) mg base CX0 1 am_ba_take_back fdm_ba_take_back ["self", "buffer"] spTbBa := by
  refine Fun.ok (sp := spTbBa) (Fm_ba_take_back w.params) scm_ba_take_back (fun vs H Q E hs => by first | (obtain ⟨_, rfl, _⟩ := hs; rfl) | (obtain ⟨_, _, rfl, _⟩ := hs; rfl) | (obtain ⟨_, _, _, rfl, _⟩ := hs; rfl) | (obtain ⟨_, _, _, _, rfl, _⟩ := hs; rfl) | (obtain ⟨_, _, _, _, _, rfl, _⟩ := hs; rfl) | (obtain ⟨_, _, _, _, _, _, rfl, _⟩ := hs; rfl) | (obtain ⟨_, _, _, _, _, _, _, rfl, _⟩ := hs; rfl) | (obtain ⟨_, _, _, _, _, _, _, _, rfl, _⟩ := hs; rfl) | (obtain ⟨_, _, _, _, _, _, _, _, _, rfl, _⟩ := hs; rfl) | (obtain ⟨_, _, _, _, _, _, _, _, _, _, rfl, _⟩ := hs; rfl) | (obtain ⟨_, _, _, _, _, _, _, _, _, _, _, rfl, _⟩ := hs; rfl) | (obtain ⟨_, _, _, _, _, _, _, _, _, _, _, _, rfl, _⟩ := hs; rfl) | (obtain ⟨_, _, _, _, _, _, _, _, _, _, _, _, _, rfl, _⟩ := hs; rfl) | (obtain ⟨_, _, _, _, _, _, _, _, _, _, _, _, _, _, rfl, _⟩ := hs; rfl) | (obtain ⟨_, _, _, _, _, _, _, _, _, _, _, _, _, _, _, rfl, _⟩ := hs; rfl) | (obtain ⟨_, _, _, _, _, _, _, _, _, _, _, _, _, _, _, _, rfl, _⟩ := hs; rfl) | (obtain ⟨_, _, _, _, _, _, _, _, _, _, _, _, _, _, _, _, _, rfl, _⟩ := hs; rfl) | (obtain ⟨_, _, _, _, _, _, _, _, _, _, _, _, _, _, _, _, _, _, rfl, _⟩ := hs; rfl) | (obtain ⟨_, _, _, _, _, _, _, _, _, _, _, _, _, _, _, _, _, _, _, rfl, _⟩ := hs; rfl) | (obtain ⟨_, _, _, _, _, _, _, _, _, _, _, _, _, _, _, _, _, _, _, _, rfl, _⟩ := hs; rfl) | (obtain ⟨_, _, _, _, _, _, _, _, _, _, _, _, _, _, _, _, _, _, _, _, _, rfl, _⟩ := hs; rfl)) (fun cdv A outer s H vs Q E hr hq => ?_)
  obtain ⟨v, m, c, b, rfl, hv, q⟩ := hq
  refine ⟨_, (pss_one (ps_fld (pv 0) (pe_op op_sub (pe_fld (pv 0) rfl) pe_int) rfl)), ?_⟩
  rw [stm_ba_take_back]
  walk_at "rd"
  obtain ⟨⟨dx, sd, h0⟩, hm⟩ := id hv
  refine ⟨_, rfl, v, _, _, _, _, rfl, h0, cl_ByteArray w.params, na_ByteArray_standing w.params, rfl, _, _, rfl, rfl, _, rfl, puto h0 (cl_ByteArray w.params) (na_ByteArray_standing w.params) (by simp) (o' := baO dx m (sd - 1)) (by kernel_rfl) ?_⟩
  exact q _ (Ev.at h0 (.ba ..))
def spTbSt : Sp := fun vs H Q _ => ∃ (v b : V), vs = [v, b] ∧ Q .non H
theorem ok_st_take_back (h : MgOk w.params mg) : FnOk P w (K w.params) mg base CX0 1 am_st_take_back fdm_st_take_back ["self", "buffer"] spTbSt := by
  refine Fun.ok (sp := spTbSt) (Fm_st_take_back w.params) scm_st_take_back (fun vs H Q E hs => by first | (obtain ⟨_, rfl, _⟩ := hs; rfl) | (obtain ⟨_, _, rfl, _⟩ := hs; rfl) | (obtain ⟨_, _, _, rfl, _⟩ := hs; rfl) | (obtain ⟨_, _, _, _, rfl, _⟩ := hs; rfl) | (obtain ⟨_, _, _, _, _, rfl, _⟩ := hs; rfl) | (obtain ⟨_, _, _, _, _, _, rfl, _⟩ := hs; rfl) | (obtain ⟨_, _, _, _, _, _, _, rfl, _⟩ := hs; rfl) | (obtain ⟨_, _, _, _, _, _, _, _, rfl, _⟩ := hs; rfl) | (obtain ⟨_, _, _, _, _, _, _, _, _, rfl, _⟩ := hs; rfl) | (obtain ⟨_, _, _, _, _, _, _, _, _, _, rfl, _⟩ := hs; rfl) | (obtain ⟨_, _, _, _, _, _, _, _, _, _, _, rfl, _⟩ := hs; rfl) | (obtain ⟨_, _, _, _, _, _, _, _, _, _, _, _, rfl, _⟩ := hs; rfl) | (obtain ⟨_, _, _, _, _, _, _, _, _, _, _, _, _, rfl, _⟩ := hs; rfl) | (obtain ⟨_, _, _, _, _, _, _, _, _, _, _, _, _, _, rfl, _⟩ := hs; rfl) | (obtain ⟨_, _, _, _, _, _, _, _, _, _, _, _, _, _, _, rfl, _⟩ := hs; rfl) | (obtain ⟨_, _, _, _, _, _, _, _, _, _, _, _, _, _, _, _, rfl, _⟩ := hs; rfl) | (obtain ⟨_, _, _, _, _, _, _, _, _, _, _, _, _, _, _, _, _, rfl, _⟩ := hs; rfl) | (obtain ⟨_, _, _, _, _, _, _, _, _, _, _, _, _, _, _, _, _, _, rfl, _⟩ := hs; rfl) | (obtain ⟨_, _, _, _, _, _, _, _, _, _, _, _, _, _, _, _, _, _, _, rfl, _⟩ := hs; rfl) | (obtain ⟨_, _, _, _, _, _, _, _, _, _, _, _, _, _, _, _, _, _, _, _, rfl, _⟩ := hs; rfl) | (obtain ⟨_, _, _, _, _, _, _, _, _, _, _, _, _, _, _, _, _, _, _, _, _, rfl, _⟩ := hs; rfl)) (fun cdv A outer s H vs Q E hr hq => ?_)
  obtain ⟨v, b, rfl, q⟩ := hq
  refine ⟨_, (pss_one ps_pass), ?_⟩
  rw [stm_st_take_back]
  walk_at "rd"
  exact q
end VL
end
section
set_option linter.all false
set_option maxRecDepth 100000
set_option maxHeartbeats 4000000
namespace VL
open PySem PySem.Spec PyProof.Rows L2 RZ
local macro_rules | `(tactic| walk_at "rd") => `(tactic| (simp only [tVar, tC, tOp, tUn, tTest, tB, tAnd, tOr, tNot, tAndV, tOrV, tNotV, tIf, tIfS, tSeq, tAsg, gName, tRet, tRetN, tDrop, tNext, rI, rI0, rU, rEq, rNe, scal, tCons, tNil, tCB, t2I, tChain, tCall, tMeth, tPar, tPar3, tFld, tTup, tLst, iTup, iList, iRng1, tPart, tNoPart, tBM, tBM0, tMake, cxK, noxK, L2.wipe,
  List.append_nil, List.nil_append, List.cons_append, List.map_cons, List.map_nil, List.getElem?_cons_zero, List.getElem?_cons_succ, List.getElem?_nil, List.set_cons_zero, List.set_cons_succ, Option.some.injEq, V.int.injEq, V.bl.injEq, V.str.injEq, V.ref.injEq, exists_and_left, exists_eq_left', exists_eq_left, true_and, and_true, List.cons.injEq, if_true, if_false, Bool.false_eq_true, Bool.not_true, Bool.not_false, decide_eq_true_eq, and_assoc]))
variable {P : Program} {w : World} {mg : Str → Option Value} {base : Heap}
/-- the holder at h lends the plan p -/
def HoldAt (H : Hp) (h : Addr) (p : Pl) : Prop := MvAt H h p ∨ (BaAt H h p.m p.c ∧ p.pl = 0 ∧ p.wd = 1 ∧ p.kd = "B" ∧ p.s = 1 ∧ p.fx = false ∧ ∃ cs : List V, H p.c = some (.lst cs) ∧ cs.length = p.n) ∨ StAt H h p
theorem HoldAt.ev {H H' : Hp} {h : Addr} {p : Pl} (k : HoldAt H h p) (e : Ev [] H H') : HoldAt H' h p := by
  rcases k with k | ⟨k, a, b, c, d, f, cs, hc, l⟩ | k
  · exact .inl (k.ev e)
  · exact .inr (.inl ⟨k.ev e, a, b, c, d, f, cs, e.lst hc, l⟩)
  · exact .inr (.inr (k.ev e))
def spLent : Sp := fun vs H Q _ => ∃ (h : Addr) (p : Pl), vs = [.ref h, .int 284] ∧ HoldAt H h p ∧ p.wd ≤ 8 ∧ RetB H Q p (.ref h)
theorem ok_lent (h : MgOk w.params mg) : FnOk P w (K w.params) mg base CX0 6 af_lent fdf_lent ["holder", "flags"] spLent := by
  refine Fun.ok (sp := spLent) (Ff_lent w.params) scf_lent (fun vs H Q E hs => by first | (obtain ⟨_, rfl, _⟩ := hs; rfl) | (obtain ⟨_, _, rfl, _⟩ := hs; rfl) | (obtain ⟨_, _, _, rfl, _⟩ := hs; rfl) | (obtain ⟨_, _, _, _, rfl, _⟩ := hs; rfl) | (obtain ⟨_, _, _, _, _, rfl, _⟩ := hs; rfl) | (obtain ⟨_, _, _, _, _, _, rfl, _⟩ := hs; rfl) | (obtain ⟨_, _, _, _, _, _, _, rfl, _⟩ := hs; rfl) | (obtain ⟨_, _, _, _, _, _, _, _, rfl, _⟩ := hs; rfl) | (obtain ⟨_, _, _, _, _, _, _, _, _, rfl, _⟩ := hs; rfl) | (obtain ⟨_, _, _, _, _, _, _, _, _, _, rfl, _⟩ := hs; rfl) | (obtain ⟨_, _, _, _, _, _, _, _, _, _, _, rfl, _⟩ := hs; rfl) | (obtain ⟨_, _, _, _, _, _, _, _, _, _, _, _, rfl, _⟩ := hs; rfl) | (obtain ⟨_, _, _, _, _, _, _, _, _, _, _, _, _, rfl, _⟩ := hs; rfl) | (obtain ⟨_, _, _, _, _, _, _, _, _, _, _, _, _, _, rfl, _⟩ := hs; rfl) | (obtain ⟨_, _, _, _, _, _, _, _, _, _, _, _, _, _, _, rfl, _⟩ := hs; rfl) | (obtain ⟨_, _, _, _, _, _, _, _, _, _, _, _, _, _, _, _, rfl, _⟩ := hs; rfl) | (obtain ⟨_, _, _, _, _, _, _, _, _, _, _, _, _, _, _, _, _, rfl, _⟩ := hs; rfl) | (obtain ⟨_, _, _, _, _, _, _, _, _, _, _, _, _, _, _, _, _, _, rfl, _⟩ := hs; rfl) | (obtain ⟨_, _, _, _, _, _, _, _, _, _, _, _, _, _, _, _, _, _, _, rfl, _⟩ := hs; rfl) | (obtain ⟨_, _, _, _, _, _, _, _, _, _, _, _, _, _, _, _, _, _, _, _, rfl, _⟩ := hs; rfl) | (obtain ⟨_, _, _, _, _, _, _, _, _, _, _, _, _, _, _, _, _, _, _, _, _, rfl, _⟩ := hs; rfl)) (fun cdv A outer s H vs Q E hr hq => ?_)
  obtain ⟨hh, p, rfl, hk, hw, q⟩ := hq
  rcases hk with hv | ⟨hb, e1, e2, e3, e4, e5, cs, hc, hl⟩ | hs
  · obtain ⟨_, dx, b, ir, ic, ml, h0, _⟩ := id hv
    refine ⟨_, (pss_cons (ps_if (pt_val (pe_callB call_isi (by rfl) (n_isinstance h) (by decide +kernel) (pa_cons (pv 0) (pa_cons (pe_glob (v := .ref CHolder) (by rfl) (g_Holder h) rfl) pa_nil)))) (pss_one (ps_ret (pe_meth (pv 0) (cl_MemoryView w.params) (mt_MemoryView_lend w.params) (ok_mv_lend h) (hr.mono (by decide)) (bm_mv_lend w.params) .nil pass0 (pa_cons (pv 1) pa_nil)))) pss_nil)
      (pss_cons (ps_if (pt_not (pt_val (pe_call (ok_is_bytes h) (hr.mono (by decide)) (by rfl) (gf_is_bytes h) (Ff_is_bytes w.params).kp (bf_is_bytes w.params) .nil pass0 (pa_cons (pv 0) pa_nil)))) (pss_one ps_never) pss_nil)
      (pss_cons (ps_if (pt_val (pe_call (ok_is_asked h) (hr.mono (by decide)) (by rfl) (gf_is_asked h) (Ff_is_asked w.params).kp (bf_is_asked w.params) .nil pass0 (pa_cons (pv 1) (pa_cons (pe_glob (v := .int 1) (by rfl) (g_WRITABLE h) ⟨_, rfl⟩) pa_nil)))) (pss_one ps_never) pss_nil)
      (pss_one (ps_ret (pe_make (mk_Buffer w.params) (ok_buf_init h) (hr.mono (by decide)) (by rfl) (g_Buffer h) (bm_buf_init w.params) .nil pass0 (pa_cons (pe_make (mk_Memory w.params) (ok_mem_init h) (hr.mono (by decide)) (by rfl) (g_Memory h) (bm_mem_init w.params) .nil pass0 (pa_cons (pv 0) pa_nil)) (pa_cons pe_int (pa_cons pe_int (pa_cons pe_str (pa_cons (pe_tup (pa_cons (pe_callB call_len (by rfl) (n_len h) (by decide +kernel) (pa_cons (pv 0) pa_nil)) pa_nil)) (pa_cons (pe_tup (pa_cons pe_int pa_nil)) (pa_cons pe_bl (pa_cons (pv 0) pa_nil)))))))))))))), ?_⟩
    rw [stf_lent]
    walk_at "rd"
    refine isi_t (.own _) (ty_MemoryView w.params h0) (is_MemoryView_Holder w.params) ⟨_, rfl, ?_⟩
    try walk_at "rd"
    exact ⟨_, _, h0, rfl, hh, p, rfl, hv, hw, q⟩
  · obtain ⟨⟨dx, sd, h0⟩, hm⟩ := id hb
    refine ⟨_, (pss_cons (ps_if (pt_val (pe_callB call_isi (by rfl) (n_isinstance h) (by decide +kernel) (pa_cons (pv 0) (pa_cons (pe_glob (v := .ref CHolder) (by rfl) (g_Holder h) rfl) pa_nil)))) (pss_one (ps_ret (pe_meth (pv 0) (cl_ByteArray w.params) (mt_ByteArray_lend w.params) (ok_ba_lend h) (hr.mono (by decide)) (bm_ba_lend w.params) .nil pass0 (pa_cons (pv 1) pa_nil)))) pss_nil)
      (pss_cons (ps_if (pt_not (pt_val (pe_call (ok_is_bytes h) (hr.mono (by decide)) (by rfl) (gf_is_bytes h) (Ff_is_bytes w.params).kp (bf_is_bytes w.params) .nil pass0 (pa_cons (pv 0) pa_nil)))) (pss_one ps_never) pss_nil)
      (pss_cons (ps_if (pt_val (pe_call (ok_is_asked h) (hr.mono (by decide)) (by rfl) (gf_is_asked h) (Ff_is_asked w.params).kp (bf_is_asked w.params) .nil pass0 (pa_cons (pv 1) (pa_cons (pe_glob (v := .int 1) (by rfl) (g_WRITABLE h) ⟨_, rfl⟩) pa_nil)))) (pss_one ps_never) pss_nil)
      (pss_one (ps_ret (pe_make (mk_Buffer w.params) (ok_buf_init h) (hr.mono (by decide)) (by rfl) (g_Buffer h) (bm_buf_init w.params) .nil pass0 (pa_cons (pe_make (mk_Memory w.params) (ok_mem_init h) (hr.mono (by decide)) (by rfl) (g_Memory h) (bm_mem_init w.params) .nil pass0 (pa_cons (pv 0) pa_nil)) (pa_cons pe_int (pa_cons pe_int (pa_cons pe_str (pa_cons (pe_tup (pa_cons (pe_callB call_len (by rfl) (n_len h) (by decide +kernel) (pa_cons (pv 0) pa_nil)) pa_nil)) (pa_cons (pe_tup (pa_cons pe_int pa_nil)) (pa_cons pe_bl (pa_cons (pv 0) pa_nil)))))))))))))), ?_⟩
    rw [stf_lent]
    walk_at "rd"
    refine isi_t (.own _) (ty_ByteArray w.params h0) (is_ByteArray_Holder w.params) ⟨_, rfl, ?_⟩
    try walk_at "rd"
    refine ⟨_, _, h0, rfl, hh, _, _, cs, rfl, hb, hc, fun H' b z t e nb hb' => q H' b z t e nb ?_⟩
    obtain ⟨pm, pc, pp, pw, pk, pz, pt, pn, ps, pf⟩ := p
    simp only at e1 e2 e3 e4 e5 hl
    subst e1 e2 e3 e4 e5 hl
    exact hb'
  · obtain ⟨dx, b, src, h0, hb⟩ := id hs
    refine ⟨_, (pss_cons (ps_if (pt_val (pe_callB call_isi (by rfl) (n_isinstance h) (by decide +kernel) (pa_cons (pv 0) (pa_cons (pe_glob (v := .ref CHolder) (by rfl) (g_Holder h) rfl) pa_nil)))) (pss_one (ps_ret (pe_meth (pv 0) (cl_Strided w.params) (mt_Strided_lend w.params) (ok_st_lend h) (hr.mono (by decide)) (bm_st_lend w.params) .nil pass0 (pa_cons (pv 1) pa_nil)))) pss_nil)
      (pss_cons (ps_if (pt_not (pt_val (pe_call (ok_is_bytes h) (hr.mono (by decide)) (by rfl) (gf_is_bytes h) (Ff_is_bytes w.params).kp (bf_is_bytes w.params) .nil pass0 (pa_cons (pv 0) pa_nil)))) (pss_one ps_never) pss_nil)
      (pss_cons (ps_if (pt_val (pe_call (ok_is_asked h) (hr.mono (by decide)) (by rfl) (gf_is_asked h) (Ff_is_asked w.params).kp (bf_is_asked w.params) .nil pass0 (pa_cons (pv 1) (pa_cons (pe_glob (v := .int 1) (by rfl) (g_WRITABLE h) ⟨_, rfl⟩) pa_nil)))) (pss_one ps_never) pss_nil)
      (pss_one (ps_ret (pe_make (mk_Buffer w.params) (ok_buf_init h) (hr.mono (by decide)) (by rfl) (g_Buffer h) (bm_buf_init w.params) .nil pass0 (pa_cons (pe_make (mk_Memory w.params) (ok_mem_init h) (hr.mono (by decide)) (by rfl) (g_Memory h) (bm_mem_init w.params) .nil pass0 (pa_cons (pv 0) pa_nil)) (pa_cons pe_int (pa_cons pe_int (pa_cons pe_str (pa_cons (pe_tup (pa_cons (pe_callB call_len (by rfl) (n_len h) (by decide +kernel) (pa_cons (pv 0) pa_nil)) pa_nil)) (pa_cons (pe_tup (pa_cons pe_int pa_nil)) (pa_cons pe_bl (pa_cons (pv 0) pa_nil)))))))))))))), ?_⟩
    rw [stf_lent]
    walk_at "rd"
    refine isi_t (.own _) (ty_Strided w.params h0) (is_Strided_Holder w.params) ⟨_, rfl, ?_⟩
    try walk_at "rd"
    exact ⟨_, _, h0, rfl, hh, p, rfl, hs, hw, q⟩
theorem mk_mem {H : Hp} {G : Addr → Hp → Prop} {E : XK} {a : Addr} {d : List Int} (ha : H a = some (.tup (d.map .int))) (hl : d.length < 10000) (k : ∀ H' m c, Ev [] H H' → H m = none → H c = none → MemAt H' m c → H' c = some (.lst (d.map .int)) → G m H') :
    ∀ x dx, H x = none → H dx = none → dx ≠ x → spMem [.ref x, .ref a] (upd (upd H dx (.own x)) x (.ins CMemory dx [])) (fun v H2 => v = .non ∧ G x H2) E :=
  fun x dx nx nd _ => ⟨x, dx, a, d, rfl, upd_same, (make_ev nx nd).tup ha, hl, fun H' c e nc hx hc => ⟨rfl, k H' x c (e.made nx nd) nx ((make_ev (C := CMemory) nx nd).free nc) ⟨dx, hx⟩ hc⟩⟩
/-- a tuple of bytes lends a new memory -/
def spLentT : Sp := fun vs H Q _ => ∃ (a : Addr) (d : List Int), vs = [.ref a, .int 284] ∧ H a = some (.tup (d.map .int)) ∧ Bs d ∧ d.length < 1000 ∧
  ∀ H' b (p : Pl), Ev [] H H' → H b = none → BufAt H' b p (.ref a) → H' p.c = some (.lst (d.map .int)) → p.pl = 0 → p.wd = 1 → p.n = d.length → p.s = 1 → Q (.ref b) H'
theorem ok_lent_tup (h : MgOk w.params mg) : FnOk P w (K w.params) mg base CX0 3 af_lent fdf_lent ["holder", "flags"] spLentT := by
  refine Fun.ok (sp := spLentT) (Ff_lent w.params) scf_lent (fun vs H Q E hs => by first | (obtain ⟨_, rfl, _⟩ := hs; rfl) | (obtain ⟨_, _, rfl, _⟩ := hs; rfl) | (obtain ⟨_, _, _, rfl, _⟩ := hs; rfl) | (obtain ⟨_, _, _, _, rfl, _⟩ := hs; rfl) | (obtain ⟨_, _, _, _, _, rfl, _⟩ := hs; rfl) | (obtain ⟨_, _, _, _, _, _, rfl, _⟩ := hs; rfl) | (obtain ⟨_, _, _, _, _, _, _, rfl, _⟩ := hs; rfl) | (obtain ⟨_, _, _, _, _, _, _, _, rfl, _⟩ := hs; rfl) | (obtain ⟨_, _, _, _, _, _, _, _, _, rfl, _⟩ := hs; rfl) | (obtain ⟨_, _, _, _, _, _, _, _, _, _, rfl, _⟩ := hs; rfl) | (obtain ⟨_, _, _, _, _, _, _, _, _, _, _, rfl, _⟩ := hs; rfl) | (obtain ⟨_, _, _, _, _, _, _, _, _, _, _, _, rfl, _⟩ := hs; rfl) | (obtain ⟨_, _, _, _, _, _, _, _, _, _, _, _, _, rfl, _⟩ := hs; rfl) | (obtain ⟨_, _, _, _, _, _, _, _, _, _, _, _, _, _, rfl, _⟩ := hs; rfl) | (obtain ⟨_, _, _, _, _, _, _, _, _, _, _, _, _, _, _, rfl, _⟩ := hs; rfl) | (obtain ⟨_, _, _, _, _, _, _, _, _, _, _, _, _, _, _, _, rfl, _⟩ := hs; rfl) | (obtain ⟨_, _, _, _, _, _, _, _, _, _, _, _, _, _, _, _, _, rfl, _⟩ := hs; rfl) | (obtain ⟨_, _, _, _, _, _, _, _, _, _, _, _, _, _, _, _, _, _, rfl, _⟩ := hs; rfl) | (obtain ⟨_, _, _, _, _, _, _, _, _, _, _, _, _, _, _, _, _, _, _, rfl, _⟩ := hs; rfl) | (obtain ⟨_, _, _, _, _, _, _, _, _, _, _, _, _, _, _, _, _, _, _, _, rfl, _⟩ := hs; rfl) | (obtain ⟨_, _, _, _, _, _, _, _, _, _, _, _, _, _, _, _, _, _, _, _, _, rfl, _⟩ := hs; rfl)) (fun cdv A outer s H vs Q E hr hq => ?_)
  obtain ⟨a, d, rfl, ha, hb, hl, q⟩ := hq
  refine ⟨_, (pss_cons (ps_if (pt_val (pe_callB call_isi (by rfl) (n_isinstance h) (by decide +kernel) (pa_cons (pv 0) (pa_cons (pe_glob (v := .ref CHolder) (by rfl) (g_Holder h) rfl) pa_nil)))) pss_never pss_nil)
      (pss_cons (ps_if (pt_not (pt_val (pe_call (ok_is_bytes h) (hr.mono (by decide)) (by rfl) (gf_is_bytes h) (Ff_is_bytes w.params).kp (bf_is_bytes w.params) .nil pass0 (pa_cons (pv 0) pa_nil)))) (pss_one ps_never) pss_nil)
      (pss_cons (ps_if (pt_val (pe_call (ok_is_asked h) (hr.mono (by decide)) (by rfl) (gf_is_asked h) (Ff_is_asked w.params).kp (bf_is_asked w.params) .nil pass0 (pa_cons (pv 1) (pa_cons (pe_glob (v := .int 1) (by rfl) (g_WRITABLE h) ⟨_, rfl⟩) pa_nil)))) (pss_one ps_never) pss_nil)
      (pss_one (ps_ret (pe_make (mk_Buffer w.params) (ok_buf_init h) (hr.mono (by decide)) (by rfl) (g_Buffer h) (bm_buf_init w.params) .nil pass0 (pa_cons (pe_make (mk_Memory w.params) (ok_mem_init h) (hr.mono (by decide)) (by rfl) (g_Memory h) (bm_mem_init w.params) .nil pass0 (pa_cons (pv 0) pa_nil)) (pa_cons pe_int (pa_cons pe_int (pa_cons pe_str (pa_cons (pe_tup (pa_cons (pe_callB call_len (by rfl) (n_len h) (by decide +kernel) (pa_cons (pv 0) pa_nil)) pa_nil)) (pa_cons (pe_tup (pa_cons pe_int pa_nil)) (pa_cons pe_bl (pa_cons (pv 0) pa_nil)))))))))))))), ?_⟩
  rw [stf_lent]
  walk_at "rd"
  refine isi_t (.own _) (.base (.tup ha)) (is_tuple_Holder w.params) ⟨_, rfl, ?_⟩
  try walk_at "rd"
  refine ⟨a, d, rfl, ha, hb, by omega, fun H1 e1 => ?_⟩
  try walk_at "rd"
  refine asked_is (b := false) (by decide +kernel) fun H2 e2 => ?_
  try walk_at "rd"
  have ee := e1.trans e2
  refine mk_mem (ee.tup ha) (by omega) fun H3 m c e3 nm nc hm hc => ?_
  have ha3 := (ee.trans e3).tup ha
  refine ⟨_, .inr ⟨_, SqT.of ha3, rfl⟩, by simp [sizeLine], fun z nz => ?_⟩
  obtain ⟨H4, H4_eq, e4, h4⟩ := newq (.tup [V.int (d.map V.int).length]) nz
  rw [← H4_eq]
  clear H4_eq
  refine ⟨by simp [sizeLine], fun t nt => ?_⟩
  obtain ⟨H5, H5_eq, e5, h5⟩ := newq (.tup [V.int 1]) nt
  rw [← H5_eq]
  clear H5_eq
  refine mk_buf fun H6 b dx e6 nb hb => ?_
  have e45 := e4.trans e5
  have ef := ((ee.trans e3).trans e45)
  rw [List.length_map] at h4
  exact q H6 b ⟨m, c, 0, 1, "B", z, t, d.length, 1, true⟩ (ef.trans e6) (ef.free nb) ⟨⟨(hm.ev e45).ev e6, e6.tup (e5.tup h4), e6.tup h5⟩, _, _, hb⟩ ((e45.trans e6).lst hc) rfl rfl rfl rfl
def SrcOk (H : Hp) (src : V) : Prop := ∃ h, src = .ref h ∧ ((∃ p, MvAt H h p) ∨ (∃ m c, BaAt H h m c) ∨ (∃ p, StAt H h p) ∨ ∃ xs, H h = some (.tup xs))
theorem SrcOk.ev {X : List Addr} {H H' : Hp} {s : V} (k : SrcOk H s) (e : Ev X H H') : SrcOk H' s := by
  obtain ⟨h, rfl, ⟨p, k⟩ | ⟨m, c, k⟩ | ⟨p, k⟩ | ⟨xs, k⟩⟩ := k
  · exact ⟨h, rfl, .inl ⟨p, k.ev e⟩⟩
  · exact ⟨h, rfl, .inr (.inl ⟨m, c, k.ev e⟩)⟩
  · exact ⟨h, rfl, .inr (.inr (.inl ⟨p, k.ev e⟩))⟩
  · exact ⟨h, rfl, .inr (.inr (.inr ⟨xs, e.tup k⟩))⟩
theorem HoldAt.src {H : Hp} {h : Addr} {p : Pl} (k : HoldAt H h p) : SrcOk H (.ref h) := by
  rcases k with k | ⟨k, _⟩ | k
  · exact ⟨h, rfl, .inl ⟨p, k⟩⟩
  · exact ⟨h, rfl, .inr (.inl ⟨_, _, k⟩)⟩
  · exact ⟨h, rfl, .inr (.inr (.inl ⟨p, k⟩))⟩
def spHandBack : Sp := fun vs H Q _ => ∃ (b : Addr) (p : Pl) (src : V), vs = [.ref b] ∧ BufAt H b p src ∧ SrcOk H src ∧ RetV H Q .non
theorem ok_hand_back (h : MgOk w.params mg) : FnOk P w (K w.params) mg base CX0 2 af_hand_back fdf_hand_back ["buffer"] spHandBack := by
  refine Fun.ok (sp := spHandBack) (Ff_hand_back w.params) scf_hand_back (fun vs H Q E hs => by first | (obtain ⟨_, rfl, _⟩ := hs; rfl) | (obtain ⟨_, _, rfl, _⟩ := hs; rfl) | (obtain ⟨_, _, _, rfl, _⟩ := hs; rfl) | (obtain ⟨_, _, _, _, rfl, _⟩ := hs; rfl) | (obtain ⟨_, _, _, _, _, rfl, _⟩ := hs; rfl) | (obtain ⟨_, _, _, _, _, _, rfl, _⟩ := hs; rfl) | (obtain ⟨_, _, _, _, _, _, _, rfl, _⟩ := hs; rfl) | (obtain ⟨_, _, _, _, _, _, _, _, rfl, _⟩ := hs; rfl) | (obtain ⟨_, _, _, _, _, _, _, _, _, rfl, _⟩ := hs; rfl) | (obtain ⟨_, _, _, _, _, _, _, _, _, _, rfl, _⟩ := hs; rfl) | (obtain ⟨_, _, _, _, _, _, _, _, _, _, _, rfl, _⟩ := hs; rfl) | (obtain ⟨_, _, _, _, _, _, _, _, _, _, _, _, rfl, _⟩ := hs; rfl) | (obtain ⟨_, _, _, _, _, _, _, _, _, _, _, _, _, rfl, _⟩ := hs; rfl) | (obtain ⟨_, _, _, _, _, _, _, _, _, _, _, _, _, _, rfl, _⟩ := hs; rfl) | (obtain ⟨_, _, _, _, _, _, _, _, _, _, _, _, _, _, _, rfl, _⟩ := hs; rfl) | (obtain ⟨_, _, _, _, _, _, _, _, _, _, _, _, _, _, _, _, rfl, _⟩ := hs; rfl) | (obtain ⟨_, _, _, _, _, _, _, _, _, _, _, _, _, _, _, _, _, rfl, _⟩ := hs; rfl) | (obtain ⟨_, _, _, _, _, _, _, _, _, _, _, _, _, _, _, _, _, _, rfl, _⟩ := hs; rfl) | (obtain ⟨_, _, _, _, _, _, _, _, _, _, _, _, _, _, _, _, _, _, _, rfl, _⟩ := hs; rfl) | (obtain ⟨_, _, _, _, _, _, _, _, _, _, _, _, _, _, _, _, _, _, _, _, rfl, _⟩ := hs; rfl) | (obtain ⟨_, _, _, _, _, _, _, _, _, _, _, _, _, _, _, _, _, _, _, _, _, rfl, _⟩ := hs; rfl)) (fun cdv A outer s H vs Q E hr hq => ?_)
  obtain ⟨b, p, src, rfl, hb, ⟨hh, rfl, ⟨pw, hv⟩ | ⟨m, c, ha⟩ | ⟨ps, hs⟩ | ⟨xs, ht⟩⟩, q⟩ := hq
  · obtain ⟨_, dx, b', ir, ic, ml, h0, _⟩ := id hv
    refine ⟨_, (pss_one (ps_if (pt_val (pe_callB call_isi (by rfl) (n_isinstance h) (by decide +kernel) (pa_cons (pe_fld (pv 0) rfl) (pa_cons (pe_glob (v := .ref CHolder) (by rfl) (g_Holder h) rfl) pa_nil)))) (pss_one (ps_expr (pe_meth (pe_fld (pv 0) rfl) (cl_MemoryView w.params) (mt_MemoryView_take_back w.params) (ok_mv_take_back h) (hr.mono (by decide)) (bm_mv_take_back w.params) .nil pass0 (pa_cons (pv 0) pa_nil)))) pss_nil)), ?_⟩
    rw [stf_hand_back]
    walk_at "rd"
    refine fgo (hb.f_source) ?_
    try walk_at "rd"
    refine isi_t (.own _) (ty_MemoryView w.params h0) (is_MemoryView_Holder w.params) ⟨_, rfl, ?_⟩
    try walk_at "rd"
    refine fgo (hb.f_source) ?_
    try walk_at "rd"
    refine ⟨_, _, h0, rfl, hh, pw, _, rfl, hv, q⟩
  · obtain ⟨⟨dx, sd, h0⟩, hm⟩ := id ha
    refine ⟨_, (pss_one (ps_if (pt_val (pe_callB call_isi (by rfl) (n_isinstance h) (by decide +kernel) (pa_cons (pe_fld (pv 0) rfl) (pa_cons (pe_glob (v := .ref CHolder) (by rfl) (g_Holder h) rfl) pa_nil)))) (pss_one (ps_expr (pe_meth (pe_fld (pv 0) rfl) (cl_ByteArray w.params) (mt_ByteArray_take_back w.params) (ok_ba_take_back h) (hr.mono (by decide)) (bm_ba_take_back w.params) .nil pass0 (pa_cons (pv 0) pa_nil)))) pss_nil)), ?_⟩
    rw [stf_hand_back]
    walk_at "rd"
    refine fgo (hb.f_source) ?_
    try walk_at "rd"
    refine isi_t (.own _) (ty_ByteArray w.params h0) (is_ByteArray_Holder w.params) ⟨_, rfl, ?_⟩
    try walk_at "rd"
    refine fgo (hb.f_source) ?_
    try walk_at "rd"
    refine ⟨_, _, h0, rfl, hh, m, c, _, rfl, ha, q⟩
  · obtain ⟨dx, b', src, h0, hb'⟩ := id hs
    refine ⟨_, (pss_one (ps_if (pt_val (pe_callB call_isi (by rfl) (n_isinstance h) (by decide +kernel) (pa_cons (pe_fld (pv 0) rfl) (pa_cons (pe_glob (v := .ref CHolder) (by rfl) (g_Holder h) rfl) pa_nil)))) (pss_one (ps_expr (pe_meth (pe_fld (pv 0) rfl) (cl_Strided w.params) (mt_Strided_take_back w.params) (ok_st_take_back h) (hr.mono (by decide)) (bm_st_take_back w.params) .nil pass0 (pa_cons (pv 0) pa_nil)))) pss_nil)), ?_⟩
    rw [stf_hand_back]
    walk_at "rd"
    refine fgo (hb.f_source) ?_
    try walk_at "rd"
    refine isi_t (.own _) (ty_Strided w.params h0) (is_Strided_Holder w.params) ⟨_, rfl, ?_⟩
    try walk_at "rd"
    refine fgo (hb.f_source) ?_
    try walk_at "rd"
    exact ⟨_, _, h0, rfl, _, _, rfl, q _ (Ev.refl _ _)⟩
  · refine ⟨_, (pss_one (ps_if (pt_val (pe_callB call_isi (by rfl) (n_isinstance h) (by decide +kernel) (pa_cons (pe_fld (pv 0) rfl) (pa_cons (pe_glob (v := .ref CHolder) (by rfl) (g_Holder h) rfl) pa_nil)))) pss_never pss_nil)), ?_⟩
    rw [stf_hand_back]
    walk_at "rd"
    refine fgo (hb.f_source) ?_
    try walk_at "rd"
    refine isi_t (.own _) (.base (.tup ht)) (is_tuple_Holder w.params) ⟨_, rfl, ?_⟩
    try walk_at "rd"
    exact q _ (Ev.refl _ _)
end VL
end
section
set_option linter.all false
set_option maxRecDepth 100000
set_option maxHeartbeats 4000000
namespace VL
open PySem PySem.Spec PyProof.Rows L2 RZ
local macro_rules | `(tactic| walk_at "rd") => `(tactic| (simp only [tVar, tC, tOp, tUn, tTest, tB, tAnd, tOr, tNot, tAndV, tOrV, tNotV, tIf, tIfS, tSeq, tAsg, gName, tRet, tRetN, tDrop, tNext, rI, rI0, rU, rEq, rNe, scal, tCons, tNil, tCB, t2I, tChain, tCall, tMeth, tPar, tPar3, tFld, tTup, tLst, iTup, iList, iRng1, tPart, tNoPart, tBM, tBM0, tMake, cxK, noxK, L2.wipe,
  List.append_nil, List.nil_append, List.cons_append, List.map_cons, List.map_nil, List.getElem?_cons_zero, List.getElem?_cons_succ, List.getElem?_nil, List.set_cons_zero, List.set_cons_succ, Option.some.injEq, V.int.injEq, V.bl.injEq, V.str.injEq, V.ref.injEq, exists_and_left, exists_eq_left', exists_eq_left, true_and, and_true, List.cons.injEq, if_true, if_false, Bool.false_eq_true, Bool.not_true, Bool.not_false, decide_eq_true_eq, and_assoc]))
variable {P : Program} {w : World} {mg : Str → Option Value} {base : Heap}
theorem rowOf_1 {d : List Int} {i : Nat} (h : i < d.length) : rowOf d i 1 = [d.getD i 0] := by simp [rowOf]
theorem gat_id {d : List Int} {p : Pl} (h1 : p.pl = 0) (h2 : p.wd = 1) (h3 : p.n = d.length) (h4 : p.s = 1) : gat d (adr p) p.wd = d := by
  have : adr p = (List.range d.length).map fun (k : Nat) => (k : Int) := by simp [adr, h1, h3, h4]
  rw [this, h2]
  unfold gat
  rw [List.flatMap_map]
  have hr : ∀ k ∈ List.range d.length, (fun (k : Nat) => rowOf d (k : Int) 1) k = (fun k => [d.getD k 0]) k := fun k hk => rowOf_1 (by simpa using hk)
  have : (List.range d.length).flatMap (fun (k : Nat) => rowOf d (k : Int) 1) = (List.range d.length).flatMap (fun k => [d.getD k 0]) := by
    induction (List.range d.length) with
    | nil => rfl
    | cons x xs ih =>
      rw [List.flatMap_cons, List.flatMap_cons, ih]
      congr 1
  rw [this]
  have fm : ∀ (l : List Nat) (f : Nat → Int), l.flatMap (fun k => [f k]) = l.map f := fun l f => by
    induction l with
    | nil => rfl
    | cons x xs ih => rw [List.flatMap_cons, ih]; rfl
  rw [fm]
  exact range_getD
theorem plIn_id {d : List Int} {p : Pl} (h1 : p.pl = 0) (h2 : p.wd = 1) (h3 : p.n = d.length) (h4 : p.s = 1) (hl : d.length < 1000) : PlIn d p := by
  refine ⟨fun x hx => ?_, by omega, by omega⟩
  simp [adr, h1, h4] at hx
  obtain ⟨k, hk, rfl⟩ := hx
  exact ⟨by omega, by omega⟩
def spWholeT : Sp := fun vs H Q _ => ∃ (a : Addr) (d : List Int), vs = [.ref a] ∧ H a = some (.tup (d.map .int)) ∧ Bs d ∧ d.length < 1000 ∧ RetT H Q (d.map .int)
theorem ok_whole_bytes (h : MgOk w.params mg) : FnOk P w (K w.params) mg base CX0 4 af_whole_bytes fdf_whole_bytes ["holder"] spWholeT := by
  refine Fun.ok (sp := spWholeT) (Ff_whole_bytes w.params) scf_whole_bytes (fun vs H Q E hs => by first | (obtain ⟨_, rfl, _⟩ := hs; rfl) | (obtain ⟨_, _, rfl, _⟩ := hs; rfl) | (obtain ⟨_, _, _, rfl, _⟩ := hs; rfl) | (obtain ⟨_, _, _, _, rfl, _⟩ := hs; rfl) | (obtain ⟨_, _, _, _, _, rfl, _⟩ := hs; rfl) | (obtain ⟨_, _, _, _, _, _, rfl, _⟩ := hs; rfl) | (obtain ⟨_, _, _, _, _, _, _, rfl, _⟩ := hs; rfl) | (obtain ⟨_, _, _, _, _, _, _, _, rfl, _⟩ := hs; rfl) | (obtain ⟨_, _, _, _, _, _, _, _, _, rfl, _⟩ := hs; rfl) | (obtain ⟨_, _, _, _, _, _, _, _, _, _, rfl, _⟩ := hs; rfl) | (obtain ⟨_, _, _, _, _, _, _, _, _, _, _, rfl, _⟩ := hs; rfl) | (obtain ⟨_, _, _, _, _, _, _, _, _, _, _, _, rfl, _⟩ := hs; rfl) | (obtain ⟨_, _, _, _, _, _, _, _, _, _, _, _, _, rfl, _⟩ := hs; rfl) | (obtain ⟨_, _, _, _, _, _, _, _, _, _, _, _, _, _, rfl, _⟩ := hs; rfl) | (obtain ⟨_, _, _, _, _, _, _, _, _, _, _, _, _, _, _, rfl, _⟩ := hs; rfl) | (obtain ⟨_, _, _, _, _, _, _, _, _, _, _, _, _, _, _, _, rfl, _⟩ := hs; rfl) | (obtain ⟨_, _, _, _, _, _, _, _, _, _, _, _, _, _, _, _, _, rfl, _⟩ := hs; rfl) | (obtain ⟨_, _, _, _, _, _, _, _, _, _, _, _, _, _, _, _, _, _, rfl, _⟩ := hs; rfl) | (obtain ⟨_, _, _, _, _, _, _, _, _, _, _, _, _, _, _, _, _, _, _, rfl, _⟩ := hs; rfl) | (obtain ⟨_, _, _, _, _, _, _, _, _, _, _, _, _, _, _, _, _, _, _, _, rfl, _⟩ := hs; rfl) | (obtain ⟨_, _, _, _, _, _, _, _, _, _, _, _, _, _, _, _, _, _, _, _, _, rfl, _⟩ := hs; rfl)) (fun cdv A outer s H vs Q E hr hq => ?_)
  obtain ⟨a, d, rfl, ha, hb, hl, q⟩ := hq
  refine ⟨_, (pss_cons (ps_set (i := 1) scf_whole_bytes.nd rfl (Or.inl rfl) (pe_call (ok_lent_tup h) (hr.mono (by decide)) (by rfl) (gf_lent h) (Ff_lent w.params).kp (bf_lent w.params) .nil pass0 (pa_cons (pv 0) (pa_cons (pe_glob (v := .int 284) (by rfl) (g_FULL_RO h) ⟨_, rfl⟩) pa_nil))))
      (pss_cons (ps_set (i := 2) scf_whole_bytes.nd rfl (Or.inl rfl) (pe_call (ok_bytes_in h) (hr.mono (by decide)) (by rfl) (gf_bytes_in h) (Ff_bytes_in w.params).kp (bf_bytes_in w.params) .nil pass0 (pa_cons (pv 1) pa_nil)))
      (pss_cons (ps_expr (pe_call (ok_hand_back h) (hr.mono (by decide)) (by rfl) (gf_hand_back h) (Ff_hand_back w.params).kp (bf_hand_back w.params) .nil pass0 (pa_cons (pv 1) pa_nil)))
      (pss_one (ps_ret (pv 2)))))), ?_⟩
  rw [stf_whole_bytes]
  walk_at "rd"
  refine ⟨a, d, rfl, ha, hb, hl, fun H1 b p e1 nb hbuf hc hp hw hn hs => ?_⟩
  try walk_at "rd"
  refine ⟨b, p, _, d, rfl, hbuf, hc, plIn_id hp hw hn hs hl, fun H2 t e2 ht => ?_⟩
  rw [gat_id hp hw hn hs] at ht
  try walk_at "rd"
  refine ⟨b, p, _, rfl, hbuf.ev e2, ⟨a, rfl, .inr (.inr (.inr ⟨_, e2.tup (e1.tup ha)⟩))⟩, fun H3 e3 => ?_⟩
  try walk_at "rd"
  exact q _ _ ((e1.trans e2).trans e3) (e3.tup ht)
def spIsHolderT : Sp := fun vs H Q _ => ∃ (a : Addr) (d : List Int), vs = [.ref a] ∧ H a = some (.tup (d.map .int)) ∧ Bs d ∧ d.length < 1000 ∧ RetV H Q (.bl true)
theorem ok_is_holder (h : MgOk w.params mg) : FnOk P w (K w.params) mg base CX0 3 af_is_holder fdf_is_holder ["thing"] spIsHolderT := by
  refine Fun.ok (sp := spIsHolderT) (Ff_is_holder w.params) scf_is_holder (fun vs H Q E hs => by first | (obtain ⟨_, rfl, _⟩ := hs; rfl) | (obtain ⟨_, _, rfl, _⟩ := hs; rfl) | (obtain ⟨_, _, _, rfl, _⟩ := hs; rfl) | (obtain ⟨_, _, _, _, rfl, _⟩ := hs; rfl) | (obtain ⟨_, _, _, _, _, rfl, _⟩ := hs; rfl) | (obtain ⟨_, _, _, _, _, _, rfl, _⟩ := hs; rfl) | (obtain ⟨_, _, _, _, _, _, _, rfl, _⟩ := hs; rfl) | (obtain ⟨_, _, _, _, _, _, _, _, rfl, _⟩ := hs; rfl) | (obtain ⟨_, _, _, _, _, _, _, _, _, rfl, _⟩ := hs; rfl) | (obtain ⟨_, _, _, _, _, _, _, _, _, _, rfl, _⟩ := hs; rfl) | (obtain ⟨_, _, _, _, _, _, _, _, _, _, _, rfl, _⟩ := hs; rfl) | (obtain ⟨_, _, _, _, _, _, _, _, _, _, _, _, rfl, _⟩ := hs; rfl) | (obtain ⟨_, _, _, _, _, _, _, _, _, _, _, _, _, rfl, _⟩ := hs; rfl) | (obtain ⟨_, _, _, _, _, _, _, _, _, _, _, _, _, _, rfl, _⟩ := hs; rfl) | (obtain ⟨_, _, _, _, _, _, _, _, _, _, _, _, _, _, _, rfl, _⟩ := hs; rfl) | (obtain ⟨_, _, _, _, _, _, _, _, _, _, _, _, _, _, _, _, rfl, _⟩ := hs; rfl) | (obtain ⟨_, _, _, _, _, _, _, _, _, _, _, _, _, _, _, _, _, rfl, _⟩ := hs; rfl) | (obtain ⟨_, _, _, _, _, _, _, _, _, _, _, _, _, _, _, _, _, _, rfl, _⟩ := hs; rfl) | (obtain ⟨_, _, _, _, _, _, _, _, _, _, _, _, _, _, _, _, _, _, _, rfl, _⟩ := hs; rfl) | (obtain ⟨_, _, _, _, _, _, _, _, _, _, _, _, _, _, _, _, _, _, _, _, rfl, _⟩ := hs; rfl) | (obtain ⟨_, _, _, _, _, _, _, _, _, _, _, _, _, _, _, _, _, _, _, _, _, rfl, _⟩ := hs; rfl)) (fun cdv A outer s H vs Q E hr hq => ?_)
  obtain ⟨a, d, rfl, ha, hb, hl, q⟩ := hq
  refine ⟨_, (pss_one (ps_ret (pe_or (pe_callB call_isi (by rfl) (n_isinstance h) (by decide +kernel) (pa_cons (pv 0) (pa_cons (pe_glob (v := .ref CHolder) (by rfl) (g_Holder h) rfl) pa_nil))) (pe_one (pe_call (ok_is_bytes h) (hr.mono (by decide)) (by rfl) (gf_is_bytes h) (Ff_is_bytes w.params).kp (bf_is_bytes w.params) .nil pass0 (pa_cons (pv 0) pa_nil)))))), ?_⟩
  rw [stf_is_holder]
  walk_at "rd"
  refine isi_t (.own _) (.base (.tup ha)) (is_tuple_Holder w.params) ⟨_, rfl, ?_⟩
  try walk_at "rd"
  exact ⟨a, d, rfl, ha, hb, by omega, q⟩
def spCheckedByte : Sp := fun vs H Q _ => ∃ i : Int, vs = [.int i] ∧ 0 ≤ i ∧ i < 256 ∧ RetV H Q (.int i)
theorem ok_checked_byte (h : MgOk w.params mg) : FnOk P w (K w.params) mg base CX0 2 af_checked_byte fdf_checked_byte ["thing"] spCheckedByte := by
  refine Fun.ok (sp := spCheckedByte) (Ff_checked_byte w.params) scf_checked_byte (fun vs H Q E hs => by first | (obtain ⟨_, rfl, _⟩ := hs; rfl) | (obtain ⟨_, _, rfl, _⟩ := hs; rfl) | (obtain ⟨_, _, _, rfl, _⟩ := hs; rfl) | (obtain ⟨_, _, _, _, rfl, _⟩ := hs; rfl) | (obtain ⟨_, _, _, _, _, rfl, _⟩ := hs; rfl) | (obtain ⟨_, _, _, _, _, _, rfl, _⟩ := hs; rfl) | (obtain ⟨_, _, _, _, _, _, _, rfl, _⟩ := hs; rfl) | (obtain ⟨_, _, _, _, _, _, _, _, rfl, _⟩ := hs; rfl) | (obtain ⟨_, _, _, _, _, _, _, _, _, rfl, _⟩ := hs; rfl) | (obtain ⟨_, _, _, _, _, _, _, _, _, _, rfl, _⟩ := hs; rfl) | (obtain ⟨_, _, _, _, _, _, _, _, _, _, _, rfl, _⟩ := hs; rfl) | (obtain ⟨_, _, _, _, _, _, _, _, _, _, _, _, rfl, _⟩ := hs; rfl) | (obtain ⟨_, _, _, _, _, _, _, _, _, _, _, _, _, rfl, _⟩ := hs; rfl) | (obtain ⟨_, _, _, _, _, _, _, _, _, _, _, _, _, _, rfl, _⟩ := hs; rfl) | (obtain ⟨_, _, _, _, _, _, _, _, _, _, _, _, _, _, _, rfl, _⟩ := hs; rfl) | (obtain ⟨_, _, _, _, _, _, _, _, _, _, _, _, _, _, _, _, rfl, _⟩ := hs; rfl) | (obtain ⟨_, _, _, _, _, _, _, _, _, _, _, _, _, _, _, _, _, rfl, _⟩ := hs; rfl) | (obtain ⟨_, _, _, _, _, _, _, _, _, _, _, _, _, _, _, _, _, _, rfl, _⟩ := hs; rfl) | (obtain ⟨_, _, _, _, _, _, _, _, _, _, _, _, _, _, _, _, _, _, _, rfl, _⟩ := hs; rfl) | (obtain ⟨_, _, _, _, _, _, _, _, _, _, _, _, _, _, _, _, _, _, _, _, rfl, _⟩ := hs; rfl) | (obtain ⟨_, _, _, _, _, _, _, _, _, _, _, _, _, _, _, _, _, _, _, _, _, rfl, _⟩ := hs; rfl)) (fun cdv A outer s H vs Q E hr hq => ?_)
  obtain ⟨i, rfl, h0, h1, q⟩ := hq
  refine ⟨_, (pss_cons (ps_if (pt_not (pt_val (pe_call (ok_is_integer h) (hr.mono (by decide)) (by rfl) (gf_is_integer h) (Ff_is_integer w.params).kp (bf_is_integer w.params) .nil pass0 (pa_cons (pv 0) pa_nil)))) (pss_one ps_never) pss_nil)
      (pss_cons (ps_if (pt_not (pt_val (pe_call (ok_is_byte h) (hr.mono (by decide)) (by rfl) (gf_is_byte h) (Ff_is_byte w.params).kp (bf_is_byte w.params) .nil pass0 (pa_cons (pv 0) pa_nil)))) (pss_one ps_never) pss_nil)
      (pss_one (ps_ret (pe_callTy call_int1 (by rfl) (n_int h) (by decide +kernel) (pa_cons (pv 0) pa_nil)))))), ?_⟩
  rw [stf_checked_byte]
  walk_at "rd"
  refine ⟨i, rfl, fun H1 e1 => ?_⟩
  try walk_at "rd"
  refine ⟨i, rfl, fun H2 e2 => ?_⟩
  try walk_at "rd"
  rw [decide_eq_true h0, decide_eq_true h1, if_neg (by decide)]
  exact .inl (q _ (e1.trans e2))
def spBytesOfRow : Sp := spWholeT
theorem ok_bytes_of_row (h : MgOk w.params mg) : FnOk P w (K w.params) mg base CX0 3 af_bytes_of_row fdf_bytes_of_row ["row"] spBytesOfRow := by
  refine Fun.ok (sp := spBytesOfRow) (Ff_bytes_of_row w.params) scf_bytes_of_row (fun vs H Q E hs => by first | (obtain ⟨_, rfl, _⟩ := hs; rfl) | (obtain ⟨_, _, rfl, _⟩ := hs; rfl) | (obtain ⟨_, _, _, rfl, _⟩ := hs; rfl) | (obtain ⟨_, _, _, _, rfl, _⟩ := hs; rfl) | (obtain ⟨_, _, _, _, _, rfl, _⟩ := hs; rfl) | (obtain ⟨_, _, _, _, _, _, rfl, _⟩ := hs; rfl) | (obtain ⟨_, _, _, _, _, _, _, rfl, _⟩ := hs; rfl) | (obtain ⟨_, _, _, _, _, _, _, _, rfl, _⟩ := hs; rfl) | (obtain ⟨_, _, _, _, _, _, _, _, _, rfl, _⟩ := hs; rfl) | (obtain ⟨_, _, _, _, _, _, _, _, _, _, rfl, _⟩ := hs; rfl) | (obtain ⟨_, _, _, _, _, _, _, _, _, _, _, rfl, _⟩ := hs; rfl) | (obtain ⟨_, _, _, _, _, _, _, _, _, _, _, _, rfl, _⟩ := hs; rfl) | (obtain ⟨_, _, _, _, _, _, _, _, _, _, _, _, _, rfl, _⟩ := hs; rfl) | (obtain ⟨_, _, _, _, _, _, _, _, _, _, _, _, _, _, rfl, _⟩ := hs; rfl) | (obtain ⟨_, _, _, _, _, _, _, _, _, _, _, _, _, _, _, rfl, _⟩ := hs; rfl) | (obtain ⟨_, _, _, _, _, _, _, _, _, _, _, _, _, _, _, _, rfl, _⟩ := hs; rfl) | (obtain ⟨_, _, _, _, _, _, _, _, _, _, _, _, _, _, _, _, _, rfl, _⟩ := hs; rfl) | (obtain ⟨_, _, _, _, _, _, _, _, _, _, _, _, _, _, _, _, _, _, rfl, _⟩ := hs; rfl) | (obtain ⟨_, _, _, _, _, _, _, _, _, _, _, _, _, _, _, _, _, _, _, rfl, _⟩ := hs; rfl) | (obtain ⟨_, _, _, _, _, _, _, _, _, _, _, _, _, _, _, _, _, _, _, _, rfl, _⟩ := hs; rfl) | (obtain ⟨_, _, _, _, _, _, _, _, _, _, _, _, _, _, _, _, _, _, _, _, _, rfl, _⟩ := hs; rfl)) (fun cdv A outer s H vs Q E hr hq => ?_)
  obtain ⟨a, d, rfl, ha, hb, hl, q⟩ := hq
  refine ⟨_, (pss_cons (ps_if (pt_not (pt_val (pe_call (ok_is_row h) (hr.mono (by decide)) (by rfl) (gf_is_row h) (Ff_is_row w.params).kp (bf_is_row w.params) .nil pass0 (pa_cons (pv 0) pa_nil)))) (pss_one ps_never) pss_nil)
      (pss_one (ps_ret (pe_callTy call_tuple_of (by rfl) (n_tuple h) (by decide +kernel) (pa_cons (pe_lc (own := [("thing", 1)]) (te := (tCall _ _ _ (tCons (tVar 1) tNil))) rfl scf_bytes_of_row.nd (pi_tup (pv 0)) (blkOk_by (N := ["row", "thing"]) (own := [("thing", 1)]) (sc := defScope sf_bytes_of_row) (by decide +kernel)) (fun _ _ _ _ _ => (pg_name (i := 1) scf_bytes_of_row.nd rfl (Or.inl rfl))) (fun _ _ _ _ _ => pts_nil) (fun _ _ _ _ _ => (pe_call (ok_checked_byte h) (hr.mono (by decide)) (by rfl) (gf_checked_byte h) (Ff_checked_byte w.params).kp (bf_checked_byte w.params) .nil pass0 (pa_cons (pv 1) pa_nil)))) pa_nil))))), ?_⟩
  rw [stf_bytes_of_row]
  walk_at "rd"
  refine ⟨a, _, rfl, ha, fun H1 e1 => ?_⟩
  try walk_at "rd"
  have ha1 := e1.tup ha
  refine ⟨_, rfl, a, rfl, ⟨_, SqT.of ha1⟩, fun D nD => lc_fn (X := []) walk_tup (fun i => (d.map V.int).getD i .non) (line_of (by simp; omega)) (Ev.refl _ _) nD (by simp) (fun H e => SqT.of (e.tup ha1)) (fun i x H' H'' N hi e y k => ?_) (fun H' e hD => ?_)⟩
  · obtain ⟨rfl, hx⟩ := y
    rw [List.getElem?_map] at hx
    obtain ⟨v, hv, rfl⟩ := Option.map_eq_some_iff.mp hx
    have hv' := hb v (List.mem_of_getElem? hv)
    try walk_at "rd"
    refine ⟨v, rfl, hv'.1, hv'.2, fun H4 e4 => ?_⟩
    have := k _ e4
    simpa [hv] using this
  · try walk_at "rd"
    refine ⟨_, .inl ⟨SqL.of hD, fun l nl => q _ _ ((e1.trans e).trans (Ev.new nl)) ?_⟩⟩
    rw [upd_same]
    congr 2
    apply List.ext_getElem (by simp)
    intro i h1 h2
    simp at h2
    simp [h2]
def spBytesGiven : Sp := spWholeT
theorem ok_bytes_given (h : MgOk w.params mg) : FnOk P w (K w.params) mg base CX0 5 af_bytes_given fdf_bytes_given ["thing"] spBytesGiven := by
  refine Fun.ok (sp := spBytesGiven) (Ff_bytes_given w.params) scf_bytes_given (fun vs H Q E hs => by first | (obtain ⟨_, rfl, _⟩ := hs; rfl) | (obtain ⟨_, _, rfl, _⟩ := hs; rfl) | (obtain ⟨_, _, _, rfl, _⟩ := hs; rfl) | (obtain ⟨_, _, _, _, rfl, _⟩ := hs; rfl) | (obtain ⟨_, _, _, _, _, rfl, _⟩ := hs; rfl) | (obtain ⟨_, _, _, _, _, _, rfl, _⟩ := hs; rfl) | (obtain ⟨_, _, _, _, _, _, _, rfl, _⟩ := hs; rfl) | (obtain ⟨_, _, _, _, _, _, _, _, rfl, _⟩ := hs; rfl) | (obtain ⟨_, _, _, _, _, _, _, _, _, rfl, _⟩ := hs; rfl) | (obtain ⟨_, _, _, _, _, _, _, _, _, _, rfl, _⟩ := hs; rfl) | (obtain ⟨_, _, _, _, _, _, _, _, _, _, _, rfl, _⟩ := hs; rfl) | (obtain ⟨_, _, _, _, _, _, _, _, _, _, _, _, rfl, _⟩ := hs; rfl) | (obtain ⟨_, _, _, _, _, _, _, _, _, _, _, _, _, rfl, _⟩ := hs; rfl) | (obtain ⟨_, _, _, _, _, _, _, _, _, _, _, _, _, _, rfl, _⟩ := hs; rfl) | (obtain ⟨_, _, _, _, _, _, _, _, _, _, _, _, _, _, _, rfl, _⟩ := hs; rfl) | (obtain ⟨_, _, _, _, _, _, _, _, _, _, _, _, _, _, _, _, rfl, _⟩ := hs; rfl) | (obtain ⟨_, _, _, _, _, _, _, _, _, _, _, _, _, _, _, _, _, rfl, _⟩ := hs; rfl) | (obtain ⟨_, _, _, _, _, _, _, _, _, _, _, _, _, _, _, _, _, _, rfl, _⟩ := hs; rfl) | (obtain ⟨_, _, _, _, _, _, _, _, _, _, _, _, _, _, _, _, _, _, _, rfl, _⟩ := hs; rfl) | (obtain ⟨_, _, _, _, _, _, _, _, _, _, _, _, _, _, _, _, _, _, _, _, rfl, _⟩ := hs; rfl) | (obtain ⟨_, _, _, _, _, _, _, _, _, _, _, _, _, _, _, _, _, _, _, _, _, rfl, _⟩ := hs; rfl)) (fun cdv A outer s H vs Q E hr hq => ?_)
  obtain ⟨a, d, rfl, ha, hb, hl, q⟩ := hq
  refine ⟨_, (pss_one (ps_ret (pe_ifExp (pt_val (pe_call (ok_is_holder h) (hr.mono (by decide)) (by rfl) (gf_is_holder h) (Ff_is_holder w.params).kp (bf_is_holder w.params) .nil pass0 (pa_cons (pv 0) pa_nil))) (pe_call (ok_whole_bytes h) (hr.mono (by decide)) (by rfl) (gf_whole_bytes h) (Ff_whole_bytes w.params).kp (bf_whole_bytes w.params) .nil pass0 (pa_cons (pv 0) pa_nil)) (pe_call (ok_bytes_of_row h) (hr.mono (by decide)) (by rfl) (gf_bytes_of_row h) (Ff_bytes_of_row w.params).kp (bf_bytes_of_row w.params) .nil pass0 (pa_cons (pv 0) pa_nil))))), ?_⟩
  rw [stf_bytes_given]
  walk_at "rd"
  refine ⟨a, d, rfl, ha, hb, hl, fun H1 e1 => ?_⟩
  try walk_at "rd"
  exact ⟨a, d, rfl, e1.tup ha, hb, hl, fun H2 t e2 ht => q _ _ (e1.trans e2) ht⟩
def spBaI : Sp := fun vs H Q _ => ∃ (x dx a : Addr) (d : List Int), vs = [.ref x, .ref a] ∧ H x = some (.ins CByteArray dx []) ∧ H a = some (.tup (d.map .int)) ∧ Bs d ∧ d.length < 1000 ∧
  ∀ H' m c, EvX x H H' → H' x = some (baO dx m 0) → MemAt H' m c → H c = none → H' c = some (.lst (d.map .int)) → Q .non H'
theorem ok_ba_init (h : MgOk w.params mg) : FnOk P w (K w.params) mg base CX0 6 am_ba_init fdm_ba_init ["self", "data"] spBaI := by
  refine FunD.ok (sp := spBaI) (Fm_ba_init w.params) scm_ba_init (fun vs H Q E hs => by first | (obtain ⟨_, rfl, _⟩ := hs; rfl) | (obtain ⟨_, _, rfl, _⟩ := hs; rfl) | (obtain ⟨_, _, _, rfl, _⟩ := hs; rfl) | (obtain ⟨_, _, _, _, rfl, _⟩ := hs; rfl) | (obtain ⟨_, _, _, _, _, rfl, _⟩ := hs; rfl) | (obtain ⟨_, _, _, _, _, _, rfl, _⟩ := hs; rfl) | (obtain ⟨_, _, _, _, _, _, _, rfl, _⟩ := hs; rfl) | (obtain ⟨_, _, _, _, _, _, _, _, rfl, _⟩ := hs; rfl) | (obtain ⟨_, _, _, _, _, _, _, _, _, rfl, _⟩ := hs; rfl) | (obtain ⟨_, _, _, _, _, _, _, _, _, _, rfl, _⟩ := hs; rfl) | (obtain ⟨_, _, _, _, _, _, _, _, _, _, _, rfl, _⟩ := hs; rfl) | (obtain ⟨_, _, _, _, _, _, _, _, _, _, _, _, rfl, _⟩ := hs; rfl) | (obtain ⟨_, _, _, _, _, _, _, _, _, _, _, _, _, rfl, _⟩ := hs; rfl) | (obtain ⟨_, _, _, _, _, _, _, _, _, _, _, _, _, _, rfl, _⟩ := hs; rfl) | (obtain ⟨_, _, _, _, _, _, _, _, _, _, _, _, _, _, _, rfl, _⟩ := hs; rfl) | (obtain ⟨_, _, _, _, _, _, _, _, _, _, _, _, _, _, _, _, rfl, _⟩ := hs; rfl) | (obtain ⟨_, _, _, _, _, _, _, _, _, _, _, _, _, _, _, _, _, rfl, _⟩ := hs; rfl) | (obtain ⟨_, _, _, _, _, _, _, _, _, _, _, _, _, _, _, _, _, _, rfl, _⟩ := hs; rfl) | (obtain ⟨_, _, _, _, _, _, _, _, _, _, _, _, _, _, _, _, _, _, _, rfl, _⟩ := hs; rfl) | (obtain ⟨_, _, _, _, _, _, _, _, _, _, _, _, _, _, _, _, _, _, _, _, rfl, _⟩ := hs; rfl) | (obtain ⟨_, _, _, _, _, _, _, _, _, _, _, _, _, _, _, _, _, _, _, _, _, rfl, _⟩ := hs; rfl)) (fun cdv A outer s H vs Q E hr hq => ?_)
  obtain ⟨x, dx, a, d, rfl, hx, ha, hb, hl, q⟩ := hq
  refine ⟨_, (pss_cons (ps_fld (pv 0) (pe_make (mk_Memory w.params) (ok_mem_init h) (hr.mono (by decide)) (by rfl) (g_Memory h) (bm_mem_init w.params) .nil pass0 (pa_cons (pe_call (ok_bytes_given h) (hr.mono (by decide)) (by rfl) (gf_bytes_given h) (Ff_bytes_given w.params).kp (bf_bytes_given w.params) .nil pass0 (pa_cons (pv 1) pa_nil)) pa_nil)) rfl)
      (pss_one (ps_fld (pv 0) pe_int rfl))), ?_⟩
  rw [stm_ba_init]
  walk_at "rd"
  refine ⟨_, rfl, a, d, rfl, ha, hb, hl, fun H1 t e1 ht => ?_⟩
  try walk_at "rd"
  refine mk_mem ht (by omega) fun H2 m c e2 nm nc hm hc => ?_
  have hx2 : H2 x = some (.ins CByteArray dx []) := (e1.trans e2).insN hx
  refine puts hx2 (cl_ByteArray w.params) (na_ByteArray_memory w.params) (by simp) (o' := .ins CByteArray dx [("memory", .ref m)]) (by kernel_rfl) ?_
  have hx3 : upd H2 x (.ins CByteArray dx [("memory", .ref m)]) x = _ := upd_same
  have hm3 : MemAt (upd H2 x (.ins CByteArray dx [("memory", .ref m)])) m c := by
    obtain ⟨dm, hm⟩ := hm
    exact ⟨dm, by rw [upd_ne (ne_of hm hx2 (by intro z; cases z))]; exact hm⟩
  have hc3 : upd H2 x (.ins CByteArray dx [("memory", .ref m)]) c = some (.lst (d.map .int)) := by rw [upd_ne (ne_of hc hx2 (by intro z; cases z))]; exact hc
  have e3 : EvX x H (upd H2 x (.ins CByteArray dx [("memory", .ref m)])) := ((EvX.refl x H).ev (e1.trans e2)).put
  generalize upd H2 x (.ins CByteArray dx [("memory", .ref m)]) = H3 at hx3 hm3 hc3 e3 ⊢
  refine ⟨_, rfl, puto hx3 (cl_ByteArray w.params) (na_ByteArray_standing w.params) (by simp) (o' := baO dx m 0) (by kernel_rfl) ?_⟩
  refine q _ m c e3.put upd_same ?_ (e1.free nc) ?_
  · obtain ⟨dm, hm3⟩ := hm3
    exact ⟨dm, by rw [upd_ne (ne_of hm3 hx3 (by intro z; cases z))]; exact hm3⟩
  · rw [upd_ne (ne_of hc3 hx3 (by intro z; cases z))]; exact hc3
end VL
end
section
set_option linter.all false
set_option maxRecDepth 100000
set_option maxHeartbeats 4000000
namespace VL
open PySem PySem.Spec PyProof.Rows L2 RZ
local macro_rules | `(tactic| walk_at "rd") => `(tactic| (simp only [tVar, tC, tOp, tUn, tTest, tB, tAnd, tOr, tNot, tAndV, tOrV, tNotV, tIf, tIfS, tSeq, tAsg, gName, tRet, tRetN, tDrop, tNext, rI, rI0, rU, rEq, rNe, scal, tCons, tNil, tCB, t2I, tChain, tCall, tMeth, tPar, tPar3, tFld, tTup, tLst, iTup, iList, iRng1, tPart, tNoPart, tBM, tBM0, tMake, cxK, noxK, L2.wipe,
  List.append_nil, List.nil_append, List.cons_append, List.map_cons, List.map_nil, List.getElem?_cons_zero, List.getElem?_cons_succ, List.getElem?_nil, List.set_cons_zero, List.set_cons_succ, Option.some.injEq, V.int.injEq, V.bl.injEq, V.str.injEq, V.ref.injEq, exists_and_left, exists_eq_left', exists_eq_left, true_and, and_true, List.cons.injEq, if_true, if_false, Bool.false_eq_true, Bool.not_true, Bool.not_false, decide_eq_true_eq, and_assoc]))
variable {P : Program} {w : World} {mg : Str → Option Value} {base : Heap}
def SeenAt (H : Hp) (s b : Addr) (p : Pl) : Prop := ∃ dx, H s = some (.ins CSeen dx [("buffer", .ref b), ("place", .int p.pl), ("kind", .str p.kd), ("width", .int p.wd), ("sizes", .ref p.sz), ("steps", .ref p.st), ("fixed", .bl p.fx)])
theorem SeenAt.ev {X : List Addr} {H H' : Hp} {s b : Addr} {p : Pl} (k : SeenAt H s b p) (e : Ev X H H') : SeenAt H' s b p := by obtain ⟨dx, k⟩ := k; exact ⟨dx, e.ins k⟩
theorem mk_seen {H : Hp} {G : Addr → Hp → Prop} {E : XK} {b : Addr} {p pb : Pl} {src : V} (hb : BufAt H b pb src) (h1 : pb.pl = p.pl) (h2 : pb.fx = p.fx) (kk : ∀ H' s, Ev [] H H' → H s = none → SeenAt H' s b p → G s H') :
    ∀ x dx, H x = none → H dx = none → dx ≠ x → spSeenI [.ref x, .ref b, .str p.kd, .int p.wd, .ref p.sz, .ref p.st] (upd (upd H dx (.own x)) x (.ins CSeen dx [])) (fun v H2 => v = .non ∧ G x H2) E := by
  intro x dx nx nd _
  obtain ⟨bx, sh, hb'⟩ := (hb.ev (make_ev (C := CSeen) nx nd)).2
  refine ⟨x, dx, b, bx, _, _, _, _, _, _, _, _, _, _, _, _, _, rfl, upd_same, hb', fun H' e hs => ⟨rfl, kk H' x (e.made nx nd) nx ⟨dx, ?_⟩⟩⟩
  rw [← h1, ← h2]; exact hs
def spAsked : Sp := fun vs H Q _ => ∃ (h : Addr) (p : Pl), vs = [.ref h, .int 284] ∧ HoldAt H h p ∧ p.wd ≤ 8 ∧
  ∀ H' s b z t, Ev [] H H' → H s = none → H b = none → SeenAt H' s b (p.wt z t) → BufAt H' b (p.wt z t) (.ref h) → Q (.ref s) H'
theorem ok_asked (h : MgOk w.params mg) : FnOk P w (K w.params) mg base CX0 7 af_asked fdf_asked ["holder", "flags"] spAsked := by
  refine Fun.ok (sp := spAsked) (Ff_asked w.params) scf_asked (fun vs H Q E hs => by first | (obtain ⟨_, rfl, _⟩ := hs; rfl) | (obtain ⟨_, _, rfl, _⟩ := hs; rfl) | (obtain ⟨_, _, _, rfl, _⟩ := hs; rfl) | (obtain ⟨_, _, _, _, rfl, _⟩ := hs; rfl) | (obtain ⟨_, _, _, _, _, rfl, _⟩ := hs; rfl) | (obtain ⟨_, _, _, _, _, _, rfl, _⟩ := hs; rfl) | (obtain ⟨_, _, _, _, _, _, _, rfl, _⟩ := hs; rfl) | (obtain ⟨_, _, _, _, _, _, _, _, rfl, _⟩ := hs; rfl) | (obtain ⟨_, _, _, _, _, _, _, _, _, rfl, _⟩ := hs; rfl) | (obtain ⟨_, _, _, _, _, _, _, _, _, _, rfl, _⟩ := hs; rfl) | (obtain ⟨_, _, _, _, _, _, _, _, _, _, _, rfl, _⟩ := hs; rfl) | (obtain ⟨_, _, _, _, _, _, _, _, _, _, _, _, rfl, _⟩ := hs; rfl) | (obtain ⟨_, _, _, _, _, _, _, _, _, _, _, _, _, rfl, _⟩ := hs; rfl) | (obtain ⟨_, _, _, _, _, _, _, _, _, _, _, _, _, _, rfl, _⟩ := hs; rfl) | (obtain ⟨_, _, _, _, _, _, _, _, _, _, _, _, _, _, _, rfl, _⟩ := hs; rfl) | (obtain ⟨_, _, _, _, _, _, _, _, _, _, _, _, _, _, _, _, rfl, _⟩ := hs; rfl) | (obtain ⟨_, _, _, _, _, _, _, _, _, _, _, _, _, _, _, _, _, rfl, _⟩ := hs; rfl) | (obtain ⟨_, _, _, _, _, _, _, _, _, _, _, _, _, _, _, _, _, _, rfl, _⟩ := hs; rfl) | (obtain ⟨_, _, _, _, _, _, _, _, _, _, _, _, _, _, _, _, _, _, _, rfl, _⟩ := hs; rfl) | (obtain ⟨_, _, _, _, _, _, _, _, _, _, _, _, _, _, _, _, _, _, _, _, rfl, _⟩ := hs; rfl) | (obtain ⟨_, _, _, _, _, _, _, _, _, _, _, _, _, _, _, _, _, _, _, _, _, rfl, _⟩ := hs; rfl)) (fun cdv A outer s H vs Q E hr hq => ?_)
  obtain ⟨hh, p, rfl, hk, hw, q⟩ := hq
  refine ⟨_, (pss_cons (ps_set (i := 2) scf_asked.nd rfl (Or.inl rfl) (pe_call (ok_lent h) (hr.mono (by decide)) (by rfl) (gf_lent h) (Ff_lent w.params).kp (bf_lent w.params) .nil pass0 (pa_cons (pv 0) (pa_cons (pv 1) pa_nil))))
      (pss_cons (ps_asg (pe_call (ok_seen h) (hr.mono (by decide)) (by rfl) (gf_seen h) (Ff_seen w.params).kp (bf_seen w.params) .nil pass0 (pa_cons (pv 2) (pa_cons (pv 1) pa_nil))) (pg_tup rfl (pgs_cons (pg_name (i := 3) scf_asked.nd rfl (Or.inl rfl)) (pgs_cons (pg_name (i := 4) scf_asked.nd rfl (Or.inl rfl)) (pgs_cons (pg_name (i := 5) scf_asked.nd rfl (Or.inl rfl)) pgs_nil)))))
      (pss_one (ps_ret (pe_make (mk_Seen w.params) (ok_seen_init h) (hr.mono (by decide)) (by rfl) (g_Seen h) (bm_seen_init w.params) .nil pass0 (pa_cons (pv 2) (pa_cons (pv 3) (pa_cons (pe_fld (pv 2) rfl) (pa_cons (pv 4) (pa_cons (pv 5) pa_nil)))))))))), ?_⟩
  rw [stf_asked]
  walk_at "rd"
  refine ⟨hh, p, rfl, hk, hw, fun H1 b z t e1 nb hb => ?_⟩
  try walk_at "rd"
  refine ⟨b, _, _, rfl, hb, fun H2 r e2 hr2 => ?_⟩
  have hb2 := hb.ev e2
  refine gTup3 hr2 ?_
  try walk_at "rd"
  refine fgo (hb2.f_width) ?_
  try walk_at "rd"
  refine mk_seen (p := p.wt z t) hb2 rfl rfl fun H3 s3 e3 ns hs => ?_
  exact q H3 s3 b z t ((e1.trans e2).trans e3) ((e1.trans e2).free ns) nb hs (hb2.ev e3)
/-- a view in the making: its record behind lay_out -/
theorem _root_.VL.Ev.insMv {X : List Addr} {H H' : Hp} {dx a : Addr} {fs : List (Str × V)} (e : Ev X H H') (h : H a = some (.ins CMemoryView dx fs)) (n : fs.length ≠ 12) : H' a = some (.ins CMemoryView dx fs) := by
  obtain ⟨o', h', r⟩ := e _ _ h
  rcases r with l | ⟨m, _, _, e, _⟩
  · cases l with
    | same => exact h'
    | mv => exact absurd rfl n
  · cases e
def spLayout : Sp := fun vs H Q _ => ∃ (x dx b sz st : Addr) (pl : Int) (wd n : Nat) (s : Int) (kd : Str) (fx : Bool), vs = [.ref x, .int pl, .str kd, .int wd, .ref sz, .ref st] ∧
  H x = some (.ins CMemoryView dx [("buffer", .ref b), ("fixed", .bl fx)]) ∧ H sz = some (.tup [.int n]) ∧ H st = some (.tup [.int s]) ∧ wd ≤ 8 ∧
  ∀ H' ir ic, EvX x H H' → H' x = some (.ins CMemoryView dx [("buffer", .ref b), ("fixed", .bl fx), ("place", .int pl), ("kind", .str kd), ("width", .int wd), ("sizes", .ref sz), ("steps", .ref st), ("in_rows", .bl ir), ("in_columns", .bl ic)]) → Q .non H'
theorem ok_mv_lay_out (h : MgOk w.params mg) : FnOk P w (K w.params) mg base CX0 4 am_mv_lay_out fdm_mv_lay_out ["self", "place", "kind", "width", "sizes", "steps"] spLayout := by
  refine Fun.ok (sp := spLayout) (Fm_mv_lay_out w.params) scm_mv_lay_out (fun vs H Q E hs => by first | (obtain ⟨_, rfl, _⟩ := hs; rfl) | (obtain ⟨_, _, rfl, _⟩ := hs; rfl) | (obtain ⟨_, _, _, rfl, _⟩ := hs; rfl) | (obtain ⟨_, _, _, _, rfl, _⟩ := hs; rfl) | (obtain ⟨_, _, _, _, _, rfl, _⟩ := hs; rfl) | (obtain ⟨_, _, _, _, _, _, rfl, _⟩ := hs; rfl) | (obtain ⟨_, _, _, _, _, _, _, rfl, _⟩ := hs; rfl) | (obtain ⟨_, _, _, _, _, _, _, _, rfl, _⟩ := hs; rfl) | (obtain ⟨_, _, _, _, _, _, _, _, _, rfl, _⟩ := hs; rfl) | (obtain ⟨_, _, _, _, _, _, _, _, _, _, rfl, _⟩ := hs; rfl) | (obtain ⟨_, _, _, _, _, _, _, _, _, _, _, rfl, _⟩ := hs; rfl) | (obtain ⟨_, _, _, _, _, _, _, _, _, _, _, _, rfl, _⟩ := hs; rfl) | (obtain ⟨_, _, _, _, _, _, _, _, _, _, _, _, _, rfl, _⟩ := hs; rfl) | (obtain ⟨_, _, _, _, _, _, _, _, _, _, _, _, _, _, rfl, _⟩ := hs; rfl) | (obtain ⟨_, _, _, _, _, _, _, _, _, _, _, _, _, _, _, rfl, _⟩ := hs; rfl) | (obtain ⟨_, _, _, _, _, _, _, _, _, _, _, _, _, _, _, _, rfl, _⟩ := hs; rfl) | (obtain ⟨_, _, _, _, _, _, _, _, _, _, _, _, _, _, _, _, _, rfl, _⟩ := hs; rfl) | (obtain ⟨_, _, _, _, _, _, _, _, _, _, _, _, _, _, _, _, _, _, rfl, _⟩ := hs; rfl) | (obtain ⟨_, _, _, _, _, _, _, _, _, _, _, _, _, _, _, _, _, _, _, rfl, _⟩ := hs; rfl) | (obtain ⟨_, _, _, _, _, _, _, _, _, _, _, _, _, _, _, _, _, _, _, _, rfl, _⟩ := hs; rfl) | (obtain ⟨_, _, _, _, _, _, _, _, _, _, _, _, _, _, _, _, _, _, _, _, _, rfl, _⟩ := hs; rfl)) (fun cdv A outer s H vs Q E hr hq => ?_)
  obtain ⟨x, dx, b, sz, st, pl, wd, n, s1, kd, fx, rfl, hx, hz, hs, hw, q⟩ := hq
  have nz : sz ≠ x := ne_of hz hx (by intro z; cases z)
  have ns : st ≠ x := ne_of hs hx (by intro z; cases z)
  refine ⟨_, (pss_cons (ps_fld (pv 0) (pv 1) rfl)
      (pss_cons (ps_fld (pv 0) (pv 2) rfl)
      (pss_cons (ps_fld (pv 0) (pv 3) rfl)
      (pss_cons (ps_fld (pv 0) (pv 4) rfl)
      (pss_cons (ps_fld (pv 0) (pv 5) rfl)
      (pss_cons (ps_fld (pv 0) (pe_call (ok_is_c_contiguous h) (hr.mono (by decide)) (by rfl) (gf_is_c_contiguous h) (Ff_is_c_contiguous w.params).kp (bf_is_c_contiguous w.params) .nil pass0 (pa_cons (pv 4) (pa_cons (pv 5) (pa_cons (pv 3) pa_nil)))) rfl)
      (pss_one (ps_fld (pv 0) (pe_call (ok_is_f_contiguous h) (hr.mono (by decide)) (by rfl) (gf_is_f_contiguous h) (Ff_is_f_contiguous w.params).kp (bf_is_f_contiguous w.params) .nil pass0 (pa_cons (pv 4) (pa_cons (pv 5) (pa_cons (pv 3) pa_nil)))) rfl)))))))), ?_⟩
  rw [stm_mv_lay_out]
  walk_at "rd"
  refine ⟨_, rfl, _, rfl, put1 (hx) (cl_MemoryView w.params) (na_MemoryView_place w.params) (by simp) (fs' := [("buffer", .ref b), ("fixed", .bl fx), ("place", .int pl)]) (by kernel_rfl) (EvX.refl _ _) fun e1 h1 => ?_⟩
  refine ⟨_, rfl, _, rfl, put1 (h1) (cl_MemoryView w.params) (na_MemoryView_kind w.params) (by simp) (fs' := [("buffer", .ref b), ("fixed", .bl fx), ("place", .int pl), ("kind", .str kd)]) (by kernel_rfl) (e1) fun e2 h2 => ?_⟩
  refine ⟨_, rfl, _, rfl, put1 (h2) (cl_MemoryView w.params) (na_MemoryView_width w.params) (by simp) (fs' := [("buffer", .ref b), ("fixed", .bl fx), ("place", .int pl), ("kind", .str kd), ("width", .int wd)]) (by kernel_rfl) (e2) fun e3 h3 => ?_⟩
  refine ⟨_, rfl, _, rfl, put1 (h3) (cl_MemoryView w.params) (na_MemoryView_sizes w.params) (by simp) (fs' := [("buffer", .ref b), ("fixed", .bl fx), ("place", .int pl), ("kind", .str kd), ("width", .int wd), ("sizes", .ref sz)]) (by kernel_rfl) (e3) fun e4 h4 => ?_⟩
  refine ⟨_, rfl, _, rfl, put1 (h4) (cl_MemoryView w.params) (na_MemoryView_steps w.params) (by simp) (fs' := [("buffer", .ref b), ("fixed", .bl fx), ("place", .int pl), ("kind", .str kd), ("width", .int wd), ("sizes", .ref sz), ("steps", .ref st)]) (by kernel_rfl) (e4) fun e5 h5 => ?_⟩
  generalize hH5 : upd _ x (HO.ins CMemoryView dx [("buffer", .ref b), ("fixed", .bl fx), ("place", .int pl), ("kind", .str kd), ("width", .int wd), ("sizes", .ref sz), ("steps", .ref st)]) = H5 at h5 e5 ⊢
  have hz5 : H5 sz = some (.tup [.int n]) := by rw [← hH5, upd_ne nz, upd_ne nz, upd_ne nz, upd_ne nz, upd_ne nz]; exact hz
  have hs5 : H5 st = some (.tup [.int s1]) := by rw [← hH5, upd_ne ns, upd_ne ns, upd_ne ns, upd_ne ns, upd_ne ns]; exact hs
  clear hH5
  refine ⟨_, rfl, _, rfl, _, rfl, sz, st, n, s1, wd, rfl, hz5, hs5, by omega, by omega, fun ir H6 e6 => ?_⟩
  have h6 := e6.insMv h5 (by simp)
  refine ⟨_, rfl, put1 h6 (cl_MemoryView w.params) (na_MemoryView_in_rows w.params) (by simp) (fs' := [("buffer", .ref b), ("fixed", .bl fx), ("place", .int pl), ("kind", .str kd), ("width", .int wd), ("sizes", .ref sz), ("steps", .ref st), ("in_rows", .bl ir)]) (by kernel_rfl) (e5.ev e6) fun e7 h7 => ?_⟩
  have hz7 := (upd_ne (H := H6) (o := HO.ins CMemoryView dx [("buffer", .ref b), ("fixed", .bl fx), ("place", .int pl), ("kind", .str kd), ("width", .int wd), ("sizes", .ref sz), ("steps", .ref st), ("in_rows", .bl ir)]) nz).trans (e6.tup hz5)
  have hs7 := (upd_ne (H := H6) (o := HO.ins CMemoryView dx [("buffer", .ref b), ("fixed", .bl fx), ("place", .int pl), ("kind", .str kd), ("width", .int wd), ("sizes", .ref sz), ("steps", .ref st), ("in_rows", .bl ir)]) ns).trans (e6.tup hs5)
  generalize upd H6 x (HO.ins CMemoryView dx [("buffer", .ref b), ("fixed", .bl fx), ("place", .int pl), ("kind", .str kd), ("width", .int wd), ("sizes", .ref sz), ("steps", .ref st), ("in_rows", .bl ir)]) = H7 at h7 e7 hz7 hs7 ⊢
  refine ⟨_, rfl, _, rfl, _, rfl, sz, st, n, s1, wd, rfl, hz7, hs7, by omega, by omega, fun ic H8 e8 => ?_⟩
  have h8 := e8.insMv h7 (by simp)
  refine ⟨_, rfl, put1 h8 (cl_MemoryView w.params) (na_MemoryView_in_columns w.params) (by simp) (fs' := [("buffer", .ref b), ("fixed", .bl fx), ("place", .int pl), ("kind", .str kd), ("width", .int wd), ("sizes", .ref sz), ("steps", .ref st), ("in_rows", .bl ir), ("in_columns", .bl ic)]) (by kernel_rfl) (e7.ev e8) fun e9 h9 => ?_⟩
  exact q _ ir ic e9 h9
/-- a whole view is laid out anew -/
def spLayoutW : Sp := fun vs H Q _ => ∃ (x dx b sz st sz0 st0 : Addr) (pl pl0 wd0 ml0 : Int) (wd n : Nat) (s : Int) (kd kd0 : Str) (fx ir0 ic0 : Bool), vs = [.ref x, .int pl, .str kd, .int wd, .ref sz, .ref st] ∧
  H x = some (mvO dx b fx pl0 kd0 wd0 sz0 st0 ir0 ic0 ml0) ∧ H sz = some (.tup [.int n]) ∧ H st = some (.tup [.int s]) ∧ wd ≤ 8 ∧
  ∀ H' ir ic ml, EvX x H H' → H' x = some (mvO dx b fx pl kd wd sz st ir ic ml) → Q .non H'
theorem ok_mv_lay_out_w (h : MgOk w.params mg) : FnOk P w (K w.params) mg base CX0 4 am_mv_lay_out fdm_mv_lay_out ["self", "place", "kind", "width", "sizes", "steps"] spLayoutW := by
  refine Fun.ok (sp := spLayoutW) (Fm_mv_lay_out w.params) scm_mv_lay_out (fun vs H Q E hs => by first | (obtain ⟨_, rfl, _⟩ := hs; rfl) | (obtain ⟨_, _, rfl, _⟩ := hs; rfl) | (obtain ⟨_, _, _, rfl, _⟩ := hs; rfl) | (obtain ⟨_, _, _, _, rfl, _⟩ := hs; rfl) | (obtain ⟨_, _, _, _, _, rfl, _⟩ := hs; rfl) | (obtain ⟨_, _, _, _, _, _, rfl, _⟩ := hs; rfl) | (obtain ⟨_, _, _, _, _, _, _, rfl, _⟩ := hs; rfl) | (obtain ⟨_, _, _, _, _, _, _, _, rfl, _⟩ := hs; rfl) | (obtain ⟨_, _, _, _, _, _, _, _, _, rfl, _⟩ := hs; rfl) | (obtain ⟨_, _, _, _, _, _, _, _, _, _, rfl, _⟩ := hs; rfl) | (obtain ⟨_, _, _, _, _, _, _, _, _, _, _, rfl, _⟩ := hs; rfl) | (obtain ⟨_, _, _, _, _, _, _, _, _, _, _, _, rfl, _⟩ := hs; rfl) | (obtain ⟨_, _, _, _, _, _, _, _, _, _, _, _, _, rfl, _⟩ := hs; rfl) | (obtain ⟨_, _, _, _, _, _, _, _, _, _, _, _, _, _, rfl, _⟩ := hs; rfl) | (obtain ⟨_, _, _, _, _, _, _, _, _, _, _, _, _, _, _, rfl, _⟩ := hs; rfl) | (obtain ⟨_, _, _, _, _, _, _, _, _, _, _, _, _, _, _, _, rfl, _⟩ := hs; rfl) | (obtain ⟨_, _, _, _, _, _, _, _, _, _, _, _, _, _, _, _, _, rfl, _⟩ := hs; rfl) | (obtain ⟨_, _, _, _, _, _, _, _, _, _, _, _, _, _, _, _, _, _, rfl, _⟩ := hs; rfl) | (obtain ⟨_, _, _, _, _, _, _, _, _, _, _, _, _, _, _, _, _, _, _, rfl, _⟩ := hs; rfl) | (obtain ⟨_, _, _, _, _, _, _, _, _, _, _, _, _, _, _, _, _, _, _, _, rfl, _⟩ := hs; rfl) | (obtain ⟨_, _, _, _, _, _, _, _, _, _, _, _, _, _, _, _, _, _, _, _, _, rfl, _⟩ := hs; rfl)) (fun cdv A outer s H vs Q E hr hq => ?_)
  obtain ⟨x, dx, b, sz, st, sz0, st0, pl, pl0, wd0, ml0, wd, n, s1, kd, kd0, fx, ir0, ic0, rfl, hx, hz, hs, hw, q⟩ := hq
  have nz : sz ≠ x := ne_of hz hx (by intro z; cases z)
  have ns : st ≠ x := ne_of hs hx (by intro z; cases z)
  refine ⟨_, (pss_cons (ps_fld (pv 0) (pv 1) rfl)
      (pss_cons (ps_fld (pv 0) (pv 2) rfl)
      (pss_cons (ps_fld (pv 0) (pv 3) rfl)
      (pss_cons (ps_fld (pv 0) (pv 4) rfl)
      (pss_cons (ps_fld (pv 0) (pv 5) rfl)
      (pss_cons (ps_fld (pv 0) (pe_call (ok_is_c_contiguous h) (hr.mono (by decide)) (by rfl) (gf_is_c_contiguous h) (Ff_is_c_contiguous w.params).kp (bf_is_c_contiguous w.params) .nil pass0 (pa_cons (pv 4) (pa_cons (pv 5) (pa_cons (pv 3) pa_nil)))) rfl)
      (pss_one (ps_fld (pv 0) (pe_call (ok_is_f_contiguous h) (hr.mono (by decide)) (by rfl) (gf_is_f_contiguous h) (Ff_is_f_contiguous w.params).kp (bf_is_f_contiguous w.params) .nil pass0 (pa_cons (pv 4) (pa_cons (pv 5) (pa_cons (pv 3) pa_nil)))) rfl)))))))), ?_⟩
  rw [stm_mv_lay_out]
  walk_at "rd"
  refine ⟨_, rfl, _, rfl, put1 (hx) (cl_MemoryView w.params) (na_MemoryView_place w.params) (by simp) (fs' := [("buffer", .ref b), ("fixed", .bl fx), ("place", .int pl), ("kind", .str kd0), ("width", .int wd0), ("sizes", .ref sz0), ("steps", .ref st0), ("in_rows", .bl ir0), ("in_columns", .bl ic0), ("is_open", .bl true), ("many_lent", .int ml0), ("told", .non)]) (by kernel_rfl) (EvX.refl _ _) fun e1 h1 => ?_⟩
  refine ⟨_, rfl, _, rfl, put1 (h1) (cl_MemoryView w.params) (na_MemoryView_kind w.params) (by simp) (fs' := [("buffer", .ref b), ("fixed", .bl fx), ("place", .int pl), ("kind", .str kd), ("width", .int wd0), ("sizes", .ref sz0), ("steps", .ref st0), ("in_rows", .bl ir0), ("in_columns", .bl ic0), ("is_open", .bl true), ("many_lent", .int ml0), ("told", .non)]) (by kernel_rfl) (e1) fun e2 h2 => ?_⟩
  refine ⟨_, rfl, _, rfl, put1 (h2) (cl_MemoryView w.params) (na_MemoryView_width w.params) (by simp) (fs' := [("buffer", .ref b), ("fixed", .bl fx), ("place", .int pl), ("kind", .str kd), ("width", .int wd), ("sizes", .ref sz0), ("steps", .ref st0), ("in_rows", .bl ir0), ("in_columns", .bl ic0), ("is_open", .bl true), ("many_lent", .int ml0), ("told", .non)]) (by kernel_rfl) (e2) fun e3 h3 => ?_⟩
  refine ⟨_, rfl, _, rfl, put1 (h3) (cl_MemoryView w.params) (na_MemoryView_sizes w.params) (by simp) (fs' := [("buffer", .ref b), ("fixed", .bl fx), ("place", .int pl), ("kind", .str kd), ("width", .int wd), ("sizes", .ref sz), ("steps", .ref st0), ("in_rows", .bl ir0), ("in_columns", .bl ic0), ("is_open", .bl true), ("many_lent", .int ml0), ("told", .non)]) (by kernel_rfl) (e3) fun e4 h4 => ?_⟩
  refine ⟨_, rfl, _, rfl, put1 (h4) (cl_MemoryView w.params) (na_MemoryView_steps w.params) (by simp) (fs' := [("buffer", .ref b), ("fixed", .bl fx), ("place", .int pl), ("kind", .str kd), ("width", .int wd), ("sizes", .ref sz), ("steps", .ref st), ("in_rows", .bl ir0), ("in_columns", .bl ic0), ("is_open", .bl true), ("many_lent", .int ml0), ("told", .non)]) (by kernel_rfl) (e4) fun e5 h5 => ?_⟩
  generalize hH5 : upd _ x (HO.ins CMemoryView dx [("buffer", .ref b), ("fixed", .bl fx), ("place", .int pl), ("kind", .str kd), ("width", .int wd), ("sizes", .ref sz), ("steps", .ref st), ("in_rows", .bl ir0), ("in_columns", .bl ic0), ("is_open", .bl true), ("many_lent", .int ml0), ("told", .non)]) = H5 at h5 e5 ⊢
  have hz5 : H5 sz = some (.tup [.int n]) := by rw [← hH5, upd_ne nz, upd_ne nz, upd_ne nz, upd_ne nz, upd_ne nz]; exact hz
  have hs5 : H5 st = some (.tup [.int s1]) := by rw [← hH5, upd_ne ns, upd_ne ns, upd_ne ns, upd_ne ns, upd_ne ns]; exact hs
  clear hH5
  refine ⟨_, rfl, _, rfl, _, rfl, sz, st, n, s1, wd, rfl, hz5, hs5, by omega, by omega, fun ir H6 e6 => ?_⟩
  obtain ⟨ml1, h6⟩ := e6.mv h5
  refine ⟨_, rfl, put1 h6 (cl_MemoryView w.params) (na_MemoryView_in_rows w.params) (by simp) (fs' := [("buffer", .ref b), ("fixed", .bl fx), ("place", .int pl), ("kind", .str kd), ("width", .int wd), ("sizes", .ref sz), ("steps", .ref st), ("in_rows", .bl ir), ("in_columns", .bl ic0), ("is_open", .bl true), ("many_lent", .int ml1), ("told", .non)]) (by kernel_rfl) (e5.ev e6) fun e7 h7 => ?_⟩
  have hz7 := (upd_ne (H := H6) (o := HO.ins CMemoryView dx [("buffer", .ref b), ("fixed", .bl fx), ("place", .int pl), ("kind", .str kd), ("width", .int wd), ("sizes", .ref sz), ("steps", .ref st), ("in_rows", .bl ir), ("in_columns", .bl ic0), ("is_open", .bl true), ("many_lent", .int ml1), ("told", .non)]) nz).trans (e6.tup hz5)
  have hs7 := (upd_ne (H := H6) (o := HO.ins CMemoryView dx [("buffer", .ref b), ("fixed", .bl fx), ("place", .int pl), ("kind", .str kd), ("width", .int wd), ("sizes", .ref sz), ("steps", .ref st), ("in_rows", .bl ir), ("in_columns", .bl ic0), ("is_open", .bl true), ("many_lent", .int ml1), ("told", .non)]) ns).trans (e6.tup hs5)
  generalize upd H6 x (HO.ins CMemoryView dx [("buffer", .ref b), ("fixed", .bl fx), ("place", .int pl), ("kind", .str kd), ("width", .int wd), ("sizes", .ref sz), ("steps", .ref st), ("in_rows", .bl ir), ("in_columns", .bl ic0), ("is_open", .bl true), ("many_lent", .int ml1), ("told", .non)]) = H7 at h7 e7 hz7 hs7 ⊢
  refine ⟨_, rfl, _, rfl, _, rfl, sz, st, n, s1, wd, rfl, hz7, hs7, by omega, by omega, fun ic H8 e8 => ?_⟩
  obtain ⟨ml2, h8⟩ := e8.mv h7
  refine ⟨_, rfl, put1 h8 (cl_MemoryView w.params) (na_MemoryView_in_columns w.params) (by simp) (fs' := [("buffer", .ref b), ("fixed", .bl fx), ("place", .int pl), ("kind", .str kd), ("width", .int wd), ("sizes", .ref sz), ("steps", .ref st), ("in_rows", .bl ir), ("in_columns", .bl ic), ("is_open", .bl true), ("many_lent", .int ml2), ("told", .non)]) (by kernel_rfl) (e7.ev e8) fun e9 h9 => ?_⟩
  exact q _ ir ic ml2 e9 h9
end VL
end
section
set_option linter.all false
set_option maxRecDepth 100000
set_option maxHeartbeats 4000000
namespace VL
open PySem PySem.Spec PyProof.Rows L2 RZ
local macro_rules | `(tactic| walk_at "rd") => `(tactic| (simp only [tVar, tC, tOp, tUn, tTest, tB, tAnd, tOr, tNot, tAndV, tOrV, tNotV, tIf, tIfS, tSeq, tAsg, gName, tRet, tRetN, tDrop, tNext, rI, rI0, rU, rEq, rNe, scal, tCons, tNil, tCB, t2I, tChain, tCall, tMeth, tPar, tPar3, tFld, tTup, tLst, iTup, iList, iRng1, tPart, tNoPart, tBM, tBM0, tMake, cxK, noxK, L2.wipe,
  List.append_nil, List.nil_append, List.cons_append, List.map_cons, List.map_nil, List.getElem?_cons_zero, List.getElem?_cons_succ, List.getElem?_nil, List.set_cons_zero, List.set_cons_succ, Option.some.injEq, V.int.injEq, V.bl.injEq, V.str.injEq, V.ref.injEq, exists_and_left, exists_eq_left', exists_eq_left, true_and, and_true, List.cons.injEq, if_true, if_false, Bool.false_eq_true, Bool.not_true, Bool.not_false, decide_eq_true_eq, and_assoc]))
variable {P : Program} {w : World} {mg : Str → Option Value} {base : Heap}
/-- the heap without x -/
def wo (H : Hp) (x : Addr) : Hp := fun a => if a = x then none else H a
theorem wo_none {H : Hp} {x : Addr} : wo H x x = none := if_pos rfl
theorem wo_ev {X : List Addr} {H : Hp} {x : Addr} : Ev X (wo H x) H := fun b o h => by
  unfold wo at h
  by_cases e : b = x
  · rw [if_pos e] at h; cases h
  · rw [if_neg e] at h; exact ⟨o, h, .inl (.same o)⟩
theorem wo_at {H : Hp} {x a : Addr} {o r : HO} (hx : H x = some r) (h : H a = some o) (n : o ≠ r) : wo H x a = some o := by
  unfold wo; rw [if_neg (ne_of h hx n)]; exact h
section
variable {H : Hp} {x dx : Addr} {fs : List (Str × V)} (hx : H x = some (.ins CMemoryView dx fs)) (nn : fs.length ≠ 12)
include hx
theorem MemAt.wo {m c : Addr} (k : MemAt H m c) : MemAt (wo H x) m c := by obtain ⟨d, k⟩ := k; exact ⟨d, wo_at hx k (by intro z; cases z)⟩
theorem PlOk.wo {p : Pl} (k : PlOk H p) : PlOk (wo H x) p := ⟨k.1.wo hx, wo_at hx k.2.1 (by intro z; cases z), wo_at hx k.2.2 (by intro z; cases z)⟩
theorem BufAt.wo {b : Addr} {p : Pl} {src : V} (k : BufAt H b p src) : BufAt (wo H x) b p src := by
  obtain ⟨a, d, sh, k⟩ := k; exact ⟨a.wo hx, d, sh, wo_at hx k (by intro z; cases z)⟩
theorem SeenAt.wo {s b : Addr} {p : Pl} (k : SeenAt H s b p) : SeenAt (wo H x) s b p := by obtain ⟨d, k⟩ := k; exact ⟨d, wo_at hx k (by intro z; cases z)⟩
theorem BaAt.wo {h m c : Addr} (k : BaAt H h m c) : BaAt (wo H x) h m c := by
  obtain ⟨⟨d, sd, k⟩, km⟩ := k; exact ⟨⟨d, sd, wo_at hx k (by intro z; cases z)⟩, km.wo hx⟩
theorem StAt.wo {h : Addr} {p : Pl} (k : StAt H h p) : StAt (wo H x) h p := by
  obtain ⟨d, b, src, k, kb⟩ := k; exact ⟨d, b, src, wo_at hx k (by intro z; cases z), kb.wo hx⟩
include nn
theorem MvAt.wo {v : Addr} {p : Pl} (k : MvAt H v p) : MvAt (wo H x) v p := by
  obtain ⟨a, d, b, ir, ic, ml, k, q, src, kb, e⟩ := k
  exact ⟨a.wo hx, d, b, ir, ic, ml, wo_at hx k (by intro z; cases z; exact nn rfl), q, src, kb.wo hx, e⟩
theorem HoldAt.wo {h : Addr} {p : Pl} (k : HoldAt H h p) : HoldAt (wo H x) h p := by
  rcases k with k | ⟨k, a, b, c, d, f, cs, hc, l⟩ | k
  · exact .inl (k.wo hx nn)
  · exact .inr (.inl ⟨k.wo hx, a, b, c, d, f, cs, wo_at hx hc (by intro z; cases z), l⟩)
  · exact .inr (.inr (k.wo hx))
end
theorem SeenAt.f_buffer {Ps : Params} {H : Hp} {s b : Addr} {p : Pl} (k : SeenAt H s b p) : HasF (K Ps) H s "buffer" (.ref b) := by obtain ⟨d, k⟩ := k; exact ⟨_, _, _, k, cl_Seen Ps, na_Seen_buffer Ps, rfl⟩
theorem SeenAt.f_place {Ps : Params} {H : Hp} {s b : Addr} {p : Pl} (k : SeenAt H s b p) : HasF (K Ps) H s "place" (.int p.pl) := by obtain ⟨d, k⟩ := k; exact ⟨_, _, _, k, cl_Seen Ps, na_Seen_place Ps, rfl⟩
theorem SeenAt.f_kind {Ps : Params} {H : Hp} {s b : Addr} {p : Pl} (k : SeenAt H s b p) : HasF (K Ps) H s "kind" (.str p.kd) := by obtain ⟨d, k⟩ := k; exact ⟨_, _, _, k, cl_Seen Ps, na_Seen_kind Ps, rfl⟩
theorem SeenAt.f_width {Ps : Params} {H : Hp} {s b : Addr} {p : Pl} (k : SeenAt H s b p) : HasF (K Ps) H s "width" (.int p.wd) := by obtain ⟨d, k⟩ := k; exact ⟨_, _, _, k, cl_Seen Ps, na_Seen_width Ps, rfl⟩
theorem SeenAt.f_sizes {Ps : Params} {H : Hp} {s b : Addr} {p : Pl} (k : SeenAt H s b p) : HasF (K Ps) H s "sizes" (.ref p.sz) := by obtain ⟨d, k⟩ := k; exact ⟨_, _, _, k, cl_Seen Ps, na_Seen_sizes Ps, rfl⟩
theorem SeenAt.f_steps {Ps : Params} {H : Hp} {s b : Addr} {p : Pl} (k : SeenAt H s b p) : HasF (K Ps) H s "steps" (.ref p.st) := by obtain ⟨d, k⟩ := k; exact ⟨_, _, _, k, cl_Seen Ps, na_Seen_steps Ps, rfl⟩
theorem SeenAt.f_fixed {Ps : Params} {H : Hp} {s b : Addr} {p : Pl} (k : SeenAt H s b p) : HasF (K Ps) H s "fixed" (.bl p.fx) := by obtain ⟨d, k⟩ := k; exact ⟨_, _, _, k, cl_Seen Ps, na_Seen_fixed Ps, rfl⟩
/-- a bytearray or a strided holder -/
def BasAt (H : Hp) (h : Addr) : Prop := (∃ m c, BaAt H h m c) ∨ ∃ p, StAt H h p
/-- what a view in the making reads of what it is given -/
def Given (K : PySem.W.Frag) (H : Hp) (g : Addr) (p : Pl) : Prop := HasF K H g "fixed" (.bl p.fx) ∧ HasF K H g "place" (.int p.pl) ∧ HasF K H g "kind" (.str p.kd) ∧ HasF K H g "width" (.int p.wd) ∧ HasF K H g "sizes" (.ref p.sz) ∧ HasF K H g "steps" (.ref p.st)
theorem mvTail {x dx g b : Addr} {p pb : Pl} {src hv : V} {W H2 : Hp} {Q : VK} (hx2 : H2 x = some (.ins CMemoryView dx [])) (wx : W x = none) (w2 : Ev [] W H2) (hf : ∀ H', Ev [] W H' → Given (K w.params) H' g p) (hp : PlOk W p) (hb : BufAt W b pb src) (hm : pb.m = p.m) (hw : p.wd ≤ 8)
    (q : ∀ H', EvX x H2 H' → MvAt H' x p → Q .non H') : 
  (tSeq (sFld (K w.params) (tVar 0) (tVar 3) "buffer")
            (tSeq
              (sFld (K w.params) (tVar 0) (tFld (K w.params) (tVar 2) "fixed") "fixed")
              (tSeq
                (tDrop
                  (tMeth 1416 "lay_out" spLayout [] E0 (tVar 0)
                    (tCons (tFld (K w.params) (tVar 2) "place")
                      (tCons (tFld (K w.params) (tVar 2) "kind")
                        (tCons (tFld (K w.params) (tVar 2) "width")
                          (tCons (tFld (K w.params) (tVar 2) "sizes")
                            (tCons (tFld (K w.params) (tVar 2) "steps") tNil)))))))
                (tSeq (sFld (K w.params) (tVar 0) (tC (V.bl true)) "is_open")
                  (tSeq (sFld (K w.params) (tVar 0) (tC (V.int 0)) "many_lent")
                    (sFld (K w.params) (tVar 0) (tC V.non) "told"))))))
            { nx := fun x H' => Q V.non H', rt := Q }
    [some (V.ref x), some hv, some (V.ref g), some (V.ref b)] H2 := by
  refine ⟨_, rfl, _, rfl, put1 (hx2) (cl_MemoryView w.params) (na_MemoryView_buffer w.params) (by simp) (fs' := [("buffer", .ref b)]) (by kernel_rfl) (EvX.refl _ _) fun e1 h1 => ?_⟩
  have w3 : Ev [] W (upd H2 x (.ins CMemoryView dx [("buffer", .ref b)])) := w2.put wx
  generalize upd H2 x (.ins CMemoryView dx [("buffer", .ref b)]) = H3 at h1 e1 w3 ⊢
  obtain ⟨C, gx, gs, g1, g2, g3, g4⟩ := (hf _ w3).1
  refine ⟨_, rfl, g, C, gx, gs, _, rfl, g1, g2, g3, g4, _, rfl, put1 h1 (cl_MemoryView w.params) (na_MemoryView_fixed w.params) (by simp) (fs' := [("buffer", .ref b), ("fixed", .bl p.fx)]) (by kernel_rfl) e1 fun e4 h4 => ?_⟩
  have w4 : Ev [] W (upd H3 x (.ins CMemoryView dx [("buffer", .ref b), ("fixed", .bl p.fx)])) := w3.put wx
  generalize upd H3 x (.ins CMemoryView dx [("buffer", .ref b), ("fixed", .bl p.fx)]) = H4 at h4 e4 w4 ⊢
  have G4 := hf _ w4
  try walk_at "rd"
  refine ⟨dx, _, h4, rfl, ?_⟩
  refine fgo (G4.2.1) ?_
  try walk_at "rd"
  refine fgo (G4.2.2.1) ?_
  try walk_at "rd"
  refine fgo (G4.2.2.2.1) ?_
  try walk_at "rd"
  refine fgo (G4.2.2.2.2.1) ?_
  try walk_at "rd"
  refine fgo (G4.2.2.2.2.2) ?_
  try walk_at "rd"
  refine ⟨x, dx, b, p.sz, p.st, p.pl, p.wd, p.n, p.s, p.kd, p.fx, rfl, h4, w4.tup hp.2.1, w4.tup hp.2.2, hw, fun H5 ir ic e5 h5 => ?_⟩
  have w5 := e5 W w4 wx
  refine ⟨_, rfl, put1 h5 (cl_MemoryView w.params) (na_MemoryView_is_open w.params) (by simp) (fs' := [("buffer", .ref b), ("fixed", .bl p.fx), ("place", .int p.pl), ("kind", .str p.kd), ("width", .int p.wd), ("sizes", .ref p.sz), ("steps", .ref p.st), ("in_rows", .bl ir), ("in_columns", .bl ic), ("is_open", .bl true)]) (by kernel_rfl) (EvX.refl _ _) fun e6 h6 => ?_⟩
  refine ⟨_, rfl, put1 h6 (cl_MemoryView w.params) (na_MemoryView_many_lent w.params) (by simp) (fs' := [("buffer", .ref b), ("fixed", .bl p.fx), ("place", .int p.pl), ("kind", .str p.kd), ("width", .int p.wd), ("sizes", .ref p.sz), ("steps", .ref p.st), ("in_rows", .bl ir), ("in_columns", .bl ic), ("is_open", .bl true), ("many_lent", .int 0)]) (by kernel_rfl) e6 fun e7 h7 => ?_⟩
  refine ⟨_, rfl, put1 h7 (cl_MemoryView w.params) (na_MemoryView_told w.params) (by simp) (fs' := [("buffer", .ref b), ("fixed", .bl p.fx), ("place", .int p.pl), ("kind", .str p.kd), ("width", .int p.wd), ("sizes", .ref p.sz), ("steps", .ref p.st), ("in_rows", .bl ir), ("in_columns", .bl ic), ("is_open", .bl true), ("many_lent", .int 0), ("told", .non)]) (by kernel_rfl) e7 fun e8 h8 => ?_⟩
  have w8 := ((w5.put (o := .ins CMemoryView dx [("buffer", .ref b), ("fixed", .bl p.fx), ("place", .int p.pl), ("kind", .str p.kd), ("width", .int p.wd), ("sizes", .ref p.sz), ("steps", .ref p.st), ("in_rows", .bl ir), ("in_columns", .bl ic), ("is_open", .bl true)]) wx).put (o := .ins CMemoryView dx [("buffer", .ref b), ("fixed", .bl p.fx), ("place", .int p.pl), ("kind", .str p.kd), ("width", .int p.wd), ("sizes", .ref p.sz), ("steps", .ref p.st), ("in_rows", .bl ir), ("in_columns", .bl ic), ("is_open", .bl true), ("many_lent", .int 0)]) wx).put (o := mvO dx b p.fx p.pl p.kd p.wd p.sz p.st ir ic 0) wx
  refine q _ (fun H0 e0 n0 => e8 H0 (e5 H0 (e4 H0 e0 n0) n0) n0) ⟨hp.ev w8, dx, b, ir, ic, 0, h8, pb, src, hb.ev w8, hm⟩
def spMvI : Sp := fun vs H Q _ => ∃ (x dx h : Addr) (p : Pl), vs = [.ref x, .ref h] ∧ H x = some (.ins CMemoryView dx []) ∧ HoldAt H h p ∧ BasAt H h ∧ p.wd ≤ 8 ∧ ∀ H' z t, EvX x H H' → MvAt H' x (p.wt z t) → Q .non H'
theorem ok_mv_init (h : MgOk w.params mg) : FnOk P w (K w.params) mg base CX0 8 am_mv_init fdm_mv_init ["self", "holder"] spMvI := by
  refine Fun.ok (sp := spMvI) (Fm_mv_init w.params) scm_mv_init (fun vs H Q E hs => by first | (obtain ⟨_, rfl, _⟩ := hs; rfl) | (obtain ⟨_, _, rfl, _⟩ := hs; rfl) | (obtain ⟨_, _, _, rfl, _⟩ := hs; rfl) | (obtain ⟨_, _, _, _, rfl, _⟩ := hs; rfl) | (obtain ⟨_, _, _, _, _, rfl, _⟩ := hs; rfl) | (obtain ⟨_, _, _, _, _, _, rfl, _⟩ := hs; rfl) | (obtain ⟨_, _, _, _, _, _, _, rfl, _⟩ := hs; rfl) | (obtain ⟨_, _, _, _, _, _, _, _, rfl, _⟩ := hs; rfl) | (obtain ⟨_, _, _, _, _, _, _, _, _, rfl, _⟩ := hs; rfl) | (obtain ⟨_, _, _, _, _, _, _, _, _, _, rfl, _⟩ := hs; rfl) | (obtain ⟨_, _, _, _, _, _, _, _, _, _, _, rfl, _⟩ := hs; rfl) | (obtain ⟨_, _, _, _, _, _, _, _, _, _, _, _, rfl, _⟩ := hs; rfl) | (obtain ⟨_, _, _, _, _, _, _, _, _, _, _, _, _, rfl, _⟩ := hs; rfl) | (obtain ⟨_, _, _, _, _, _, _, _, _, _, _, _, _, _, rfl, _⟩ := hs; rfl) | (obtain ⟨_, _, _, _, _, _, _, _, _, _, _, _, _, _, _, rfl, _⟩ := hs; rfl) | (obtain ⟨_, _, _, _, _, _, _, _, _, _, _, _, _, _, _, _, rfl, _⟩ := hs; rfl) | (obtain ⟨_, _, _, _, _, _, _, _, _, _, _, _, _, _, _, _, _, rfl, _⟩ := hs; rfl) | (obtain ⟨_, _, _, _, _, _, _, _, _, _, _, _, _, _, _, _, _, _, rfl, _⟩ := hs; rfl) | (obtain ⟨_, _, _, _, _, _, _, _, _, _, _, _, _, _, _, _, _, _, _, rfl, _⟩ := hs; rfl) | (obtain ⟨_, _, _, _, _, _, _, _, _, _, _, _, _, _, _, _, _, _, _, _, rfl, _⟩ := hs; rfl) | (obtain ⟨_, _, _, _, _, _, _, _, _, _, _, _, _, _, _, _, _, _, _, _, _, rfl, _⟩ := hs; rfl)) (fun cdv A outer s H vs Q E hr hq => ?_)
  obtain ⟨x, dx, hh, p, rfl, hx, hk, hb, hw, q⟩ := hq
  refine ⟨_, (pss_cons (ps_set (i := 2) scm_mv_init.nd rfl (Or.inl rfl) (pv 1))
      (pss_cons (ps_if (pt_val (pe_callB call_isi (by rfl) (n_isinstance h) (by decide +kernel) (pa_cons (pv 1) (pa_cons (pe_glob (v := .ref CMemoryView) (by rfl) (g_MemoryView h) rfl) pa_nil)))) (pss_one (ps_expr (pe_meth0 (pv 1) (cl_MemoryView w.params) (mt_MemoryView_check_open w.params) (ok_mv_check_open h) (hr.mono (by decide)) (bm_mv_check_open w.params) .nil pass0))) (pss_one (ps_if (pt_not (pt_val (pe_callB call_isi (by rfl) (n_isinstance h) (by decide +kernel) (pa_cons (pv 1) (pa_cons (pe_glob (v := .ref CSeen) (by rfl) (g_Seen h) rfl) pa_nil))))) (pss_one (ps_set (i := 2) scm_mv_init.nd rfl (Or.inl rfl) (pe_call (ok_asked h) (hr.mono (by decide)) (by rfl) (gf_asked h) (Ff_asked w.params).kp (bf_asked w.params) .nil pass0 (pa_cons (pv 1) (pa_cons (pe_glob (v := .int 284) (by rfl) (g_FULL_RO h) ⟨_, rfl⟩) pa_nil))))) pss_nil)))
      (pss_cons (ps_set (i := 3) scm_mv_init.nd rfl (Or.inl rfl) (pe_fld (pv 2) rfl))
      (pss_cons (ps_fldaug (pv 3) pe_int in_add)
      (pss_cons (ps_fld (pv 0) (pv 3) rfl)
      (pss_cons (ps_fld (pv 0) (pe_fld (pv 2) rfl) rfl)
      (pss_cons (ps_expr (pe_meth (pv 0) (cl_MemoryView w.params) (mt_MemoryView_lay_out w.params) (ok_mv_lay_out h) (hr.mono (by decide)) (bm_mv_lay_out w.params) .nil pass0 (pa_cons (pe_fld (pv 2) rfl) (pa_cons (pe_fld (pv 2) rfl) (pa_cons (pe_fld (pv 2) rfl) (pa_cons (pe_fld (pv 2) rfl) (pa_cons (pe_fld (pv 2) rfl) pa_nil)))))))
      (pss_cons (ps_fld (pv 0) pe_bl rfl)
      (pss_cons (ps_fld (pv 0) pe_int rfl)
      (pss_one (ps_fld (pv 0) pe_non rfl))))))))))), ?_⟩
  rw [stm_mv_init]
  walk_at "rd"
  have i1 : ∀ Q : VK, Q (.bl false) H → rIsi (K w.params) [.ref hh, .ref CMemoryView] H Q := fun Q q => by
    rcases hb with ⟨m, c, ⟨dx, sd, h0⟩, _⟩ | ⟨ps, dx, b, src, h0, _⟩
    · exact isi_t (.own _) (ty_ByteArray w.params h0) (is_ByteArray_MemoryView w.params) q
    · exact isi_t (.own _) (ty_Strided w.params h0) (is_Strided_MemoryView w.params) q
  have i2 : ∀ Q : VK, Q (.bl false) H → rIsi (K w.params) [.ref hh, .ref CSeen] H Q := fun Q q => by
    rcases hb with ⟨m, c, ⟨dx, sd, h0⟩, _⟩ | ⟨ps, dx, b, src, h0, _⟩
    · exact isi_t (.own _) (ty_ByteArray w.params h0) (is_ByteArray_Seen w.params) q
    · exact isi_t (.own _) (ty_Strided w.params h0) (is_Strided_Seen w.params) q
  refine i1 _ ⟨_, rfl, ?_⟩
  try walk_at "rd"
  refine i2 _ ⟨_, rfl, ?_⟩
  try walk_at "rd"
  refine ⟨hh, p, rfl, hk, hw, fun H1 s1 b z t e1 ns nb hs hbuf => ?_⟩
  have hx1 := e1.insMv hx (by simp)
  try walk_at "rd"
  refine fgo (hs.f_buffer) ?_
  try walk_at "rd"
  obtain ⟨hpl, bx, sh, hbr⟩ := id hbuf
  refine ⟨_, rfl, b, _, _, _, _, rfl, hbr, cl_Buffer w.params, na_Buffer_shares w.params, rfl, _, _, rfl, rfl, aug1 hbr (by simp) (o' := bufO bx p.m p.pl p.wd p.kd z t p.fx (.ref hh) (sh + 1)) (by kernel_rfl) ?_⟩
  have e2 : Ev [] H1 (upd H1 b (bufO bx p.m p.pl p.wd p.kd z t p.fx (.ref hh) (sh + 1))) := Ev.at hbr (.buf ..)
  generalize upd H1 b (bufO bx p.m p.pl p.wd p.kd z t p.fx (.ref hh) (sh + 1)) = H2 at e2 ⊢
  have hx2 := e2.insMv hx1 (by simp)
  have hs2 := (hs.ev e2).wo hx2
  have hb2 := (hbuf.ev e2).wo hx2
  have w2 : Ev [] (wo H2 x) H2 := wo_ev
  have wx : wo H2 x x = none := wo_none
  have ex2 : EvX x H H2 := (EvX.refl x H).ev (e1.trans e2)
  generalize wo H2 x = W at hs2 hb2 w2 wx
  refine mvTail (p := p.wt z t) hx2 (W := W) wx w2 (fun H' e => ?_) hb2.1 hb2 rfl hw (fun H' e hv => q H' z t (fun H0 e0 n0 => e H0 (ex2 H0 e0 n0) n0) hv)
  have k := hs2.ev e
  exact ⟨k.f_fixed, k.f_place, k.f_kind, k.f_width, k.f_sizes, k.f_steps⟩
/-- a view of a view -/
def spMvV : Sp := fun vs H Q _ => ∃ (x dx v : Addr) (p : Pl), vs = [.ref x, .ref v] ∧ H x = some (.ins CMemoryView dx []) ∧ MvAt H v p ∧ p.wd ≤ 8 ∧ ∀ H', EvX x H H' → MvAt H' x p → Q .non H'
theorem ok_mv_init_v (h : MgOk w.params mg) : FnOk P w (K w.params) mg base CX0 8 am_mv_init fdm_mv_init ["self", "holder"] spMvV := by
  refine Fun.ok (sp := spMvV) (Fm_mv_init w.params) scm_mv_init (fun vs H Q E hs => by first | (obtain ⟨_, rfl, _⟩ := hs; rfl) | (obtain ⟨_, _, rfl, _⟩ := hs; rfl) | (obtain ⟨_, _, _, rfl, _⟩ := hs; rfl) | (obtain ⟨_, _, _, _, rfl, _⟩ := hs; rfl) | (obtain ⟨_, _, _, _, _, rfl, _⟩ := hs; rfl) | (obtain ⟨_, _, _, _, _, _, rfl, _⟩ := hs; rfl) | (obtain ⟨_, _, _, _, _, _, _, rfl, _⟩ := hs; rfl) | (obtain ⟨_, _, _, _, _, _, _, _, rfl, _⟩ := hs; rfl) | (obtain ⟨_, _, _, _, _, _, _, _, _, rfl, _⟩ := hs; rfl) | (obtain ⟨_, _, _, _, _, _, _, _, _, _, rfl, _⟩ := hs; rfl) | (obtain ⟨_, _, _, _, _, _, _, _, _, _, _, rfl, _⟩ := hs; rfl) | (obtain ⟨_, _, _, _, _, _, _, _, _, _, _, _, rfl, _⟩ := hs; rfl) | (obtain ⟨_, _, _, _, _, _, _, _, _, _, _, _, _, rfl, _⟩ := hs; rfl) | (obtain ⟨_, _, _, _, _, _, _, _, _, _, _, _, _, _, rfl, _⟩ := hs; rfl) | (obtain ⟨_, _, _, _, _, _, _, _, _, _, _, _, _, _, _, rfl, _⟩ := hs; rfl) | (obtain ⟨_, _, _, _, _, _, _, _, _, _, _, _, _, _, _, _, rfl, _⟩ := hs; rfl) | (obtain ⟨_, _, _, _, _, _, _, _, _, _, _, _, _, _, _, _, _, rfl, _⟩ := hs; rfl) | (obtain ⟨_, _, _, _, _, _, _, _, _, _, _, _, _, _, _, _, _, _, rfl, _⟩ := hs; rfl) | (obtain ⟨_, _, _, _, _, _, _, _, _, _, _, _, _, _, _, _, _, _, _, rfl, _⟩ := hs; rfl) | (obtain ⟨_, _, _, _, _, _, _, _, _, _, _, _, _, _, _, _, _, _, _, _, rfl, _⟩ := hs; rfl) | (obtain ⟨_, _, _, _, _, _, _, _, _, _, _, _, _, _, _, _, _, _, _, _, _, rfl, _⟩ := hs; rfl)) (fun cdv A outer s H vs Q E hr hq => ?_)
  obtain ⟨x, dx, v, p, rfl, hx, hv, hw, q⟩ := hq
  obtain ⟨_, vx, vb, ir, ic, ml, hr0, _⟩ := id hv
  refine ⟨_, (pss_cons (ps_set (i := 2) scm_mv_init.nd rfl (Or.inl rfl) (pv 1))
      (pss_cons (ps_if (pt_val (pe_callB call_isi (by rfl) (n_isinstance h) (by decide +kernel) (pa_cons (pv 1) (pa_cons (pe_glob (v := .ref CMemoryView) (by rfl) (g_MemoryView h) rfl) pa_nil)))) (pss_one (ps_expr (pe_meth0 (pv 1) (cl_MemoryView w.params) (mt_MemoryView_check_open w.params) (ok_mv_check_open h) (hr.mono (by decide)) (bm_mv_check_open w.params) .nil pass0))) (pss_one (ps_if (pt_not (pt_val (pe_callB call_isi (by rfl) (n_isinstance h) (by decide +kernel) (pa_cons (pv 1) (pa_cons (pe_glob (v := .ref CSeen) (by rfl) (g_Seen h) rfl) pa_nil))))) (pss_one (ps_set (i := 2) scm_mv_init.nd rfl (Or.inl rfl) (pe_call (ok_asked h) (hr.mono (by decide)) (by rfl) (gf_asked h) (Ff_asked w.params).kp (bf_asked w.params) .nil pass0 (pa_cons (pv 1) (pa_cons (pe_glob (v := .int 284) (by rfl) (g_FULL_RO h) ⟨_, rfl⟩) pa_nil))))) pss_nil)))
      (pss_cons (ps_set (i := 3) scm_mv_init.nd rfl (Or.inl rfl) (pe_fld (pv 2) rfl))
      (pss_cons (ps_fldaug (pv 3) pe_int in_add)
      (pss_cons (ps_fld (pv 0) (pv 3) rfl)
      (pss_cons (ps_fld (pv 0) (pe_fld (pv 2) rfl) rfl)
      (pss_cons (ps_expr (pe_meth (pv 0) (cl_MemoryView w.params) (mt_MemoryView_lay_out w.params) (ok_mv_lay_out h) (hr.mono (by decide)) (bm_mv_lay_out w.params) .nil pass0 (pa_cons (pe_fld (pv 2) rfl) (pa_cons (pe_fld (pv 2) rfl) (pa_cons (pe_fld (pv 2) rfl) (pa_cons (pe_fld (pv 2) rfl) (pa_cons (pe_fld (pv 2) rfl) pa_nil)))))))
      (pss_cons (ps_fld (pv 0) pe_bl rfl)
      (pss_cons (ps_fld (pv 0) pe_int rfl)
      (pss_one (ps_fld (pv 0) pe_non rfl))))))))))), ?_⟩
  rw [stm_mv_init]
  walk_at "rd"
  refine isi_t (.own _) (ty_MemoryView w.params hr0) (is_MemoryView_MemoryView w.params) ⟨_, rfl, ?_⟩
  try walk_at "rd"
  refine ⟨_, _, hr0, rfl, v, p, rfl, hv, fun H1 e1 => ?_⟩
  have hv1 := hv.ev e1
  obtain ⟨b, pb, src, hf, hbuf, em⟩ := hv1.f_buffer (Ps := w.params)
  have hx1 := e1.insMv hx (by simp)
  try walk_at "rd"
  refine fgo (hf) ?_
  try walk_at "rd"
  obtain ⟨hpl, bx, sh, hbr⟩ := id hbuf
  refine ⟨_, rfl, b, _, _, _, _, rfl, hbr, cl_Buffer w.params, na_Buffer_shares w.params, rfl, _, _, rfl, rfl, aug1 hbr (by simp) (o' := bufO bx pb.m pb.pl pb.wd pb.kd pb.sz pb.st pb.fx src (sh + 1)) (by kernel_rfl) ?_⟩
  have e2 : Ev [] H1 (upd H1 b (bufO bx pb.m pb.pl pb.wd pb.kd pb.sz pb.st pb.fx src (sh + 1))) := Ev.at hbr (.buf ..)
  generalize upd H1 b (bufO bx pb.m pb.pl pb.wd pb.kd pb.sz pb.st pb.fx src (sh + 1)) = H2 at e2 ⊢
  have hx2 := e2.insMv hx1 (by simp)
  have hv2 := (hv1.ev e2).wo hx2 (by simp)
  have hb2 := (hbuf.ev e2).wo hx2
  have w2 : Ev [] (wo H2 x) H2 := wo_ev
  have wx : wo H2 x x = none := wo_none
  have ex2 : EvX x H H2 := (EvX.refl x H).ev (e1.trans e2)
  generalize wo H2 x = W at hv2 hb2 w2 wx
  refine mvTail (p := p) hx2 (W := W) wx w2 (fun H' e => ?_) hv2.1 hb2 em hw (fun H' e hv => q H' (fun H0 e0 n0 => e H0 (ex2 H0 e0 n0) n0) hv)
  have k := hv2.ev e
  exact ⟨k.f_fixed, k.f_place, k.f_kind, k.f_width, k.f_sizes, k.f_steps⟩
end VL
end
section
set_option linter.all false
set_option maxRecDepth 100000
set_option maxHeartbeats 4000000
namespace VL
open PySem PySem.Spec PyProof.Rows L2 RZ
local macro_rules | `(tactic| walk_at "rd") => `(tactic| (simp only [tVar, tC, tOp, tUn, tTest, tB, tAnd, tOr, tNot, tAndV, tOrV, tNotV, tIf, tIfS, tSeq, tAsg, gName, tRet, tRetN, tDrop, tNext, rI, rI0, rU, rEq, rNe, scal, tCons, tNil, tCB, t2I, tChain, tCall, tMeth, tPar, tPar3, tFld, tTup, tLst, iTup, iList, iRng1, tPart, tNoPart, tBM, tBM0, tMake, cxK, noxK, L2.wipe,
  List.append_nil, List.nil_append, List.cons_append, List.map_cons, List.map_nil, List.getElem?_cons_zero, List.getElem?_cons_succ, List.getElem?_nil, List.set_cons_zero, List.set_cons_succ, Option.some.injEq, V.int.injEq, V.bl.injEq, V.str.injEq, V.ref.injEq, exists_and_left, exists_eq_left', exists_eq_left, true_and, and_true, List.cons.injEq, if_true, if_false, Bool.false_eq_true, Bool.not_true, Bool.not_false, decide_eq_true_eq, and_assoc]))
variable {P : Program} {w : World} {mg : Str → Option Value} {base : Heap}
def vo : Option Int → V
  | none => .non
  | some i => .int i
def bnd (p n lo hi : Int) : Int :=
  let a := if p < 0 then p + n else p
  let m := if lo > a then lo else a
  if hi < m then hi else m
def cutS (s : Option Int) (n lo hi d : Int) : Int := match s with | none => d | some p => bnd p n lo hi
def cutStart (s st : Option Int) (n : Int) : Int := if st.getD 1 > 0 then cutS s n 0 n 0 else cutS s n (-1) (n - 1) (n - 1)
def cutStop (e st : Option Int) (n : Int) : Int := if st.getD 1 > 0 then cutS e n 0 n n else cutS e n (-1) (n - 1) (-1)
def cutMany (s e st : Option Int) (n : Int) : Int :=
  let k := st.getD 1
  let a := cutStart s st n
  let b := cutStop e st n
  let m := if k > 0 then (b - a + k - 1) / k else (a - b - k - 1) / (-k)
  if m > 0 then m else 0
def CutAt (H : Hp) (c : Addr) (s e st : Option Int) : Prop := ∃ dx, H c = some (.ins CCut dx [("start", vo s), ("stop", vo e), ("step", vo st)])
theorem CutAt.ev {X : List Addr} {H H' : Hp} {c : Addr} {s e st : Option Int} (k : CutAt H c s e st) (v : Ev X H H') : CutAt H' c s e st := by obtain ⟨d, k⟩ := k; exact ⟨d, v.ins k⟩
section
variable {Ps : Params} {H : Hp} {c : Addr} {s e st : Option Int}
theorem CutAt.f_start (k : CutAt H c s e st) : HasF (K Ps) H c "start" (vo s) := by obtain ⟨d, k⟩ := k; exact ⟨_, _, _, k, cl_Cut Ps, na_Cut_start Ps, rfl⟩
theorem CutAt.f_stop (k : CutAt H c s e st) : HasF (K Ps) H c "stop" (vo e) := by obtain ⟨d, k⟩ := k; exact ⟨_, _, _, k, cl_Cut Ps, na_Cut_stop Ps, rfl⟩
theorem CutAt.f_step (k : CutAt H c s e st) : HasF (K Ps) H c "step" (vo st) := by obtain ⟨d, k⟩ := k; exact ⟨_, _, _, k, cl_Cut Ps, na_Cut_step Ps, rfl⟩
end
def spBounded : Sp := fun vs H Q _ => ∃ p n lo hi : Int, vs = [.int p, .int n, .int lo, .int hi] ∧ RetV H Q (.int (bnd p n lo hi))
theorem ok_bounded (h : MgOk w.params mg) : FnOk P w (K w.params) mg base CX0 1 af_bounded fdf_bounded ["part", "size", "least", "greatest"] spBounded := by
  refine Fun.ok (sp := spBounded) (Ff_bounded w.params) scf_bounded (fun vs H Q E hs => by first | (obtain ⟨_, rfl, _⟩ := hs; rfl) | (obtain ⟨_, _, rfl, _⟩ := hs; rfl) | (obtain ⟨_, _, _, rfl, _⟩ := hs; rfl) | (obtain ⟨_, _, _, _, rfl, _⟩ := hs; rfl) | (obtain ⟨_, _, _, _, _, rfl, _⟩ := hs; rfl) | (obtain ⟨_, _, _, _, _, _, rfl, _⟩ := hs; rfl) | (obtain ⟨_, _, _, _, _, _, _, rfl, _⟩ := hs; rfl) | (obtain ⟨_, _, _, _, _, _, _, _, rfl, _⟩ := hs; rfl) | (obtain ⟨_, _, _, _, _, _, _, _, _, rfl, _⟩ := hs; rfl) | (obtain ⟨_, _, _, _, _, _, _, _, _, _, rfl, _⟩ := hs; rfl) | (obtain ⟨_, _, _, _, _, _, _, _, _, _, _, rfl, _⟩ := hs; rfl) | (obtain ⟨_, _, _, _, _, _, _, _, _, _, _, _, rfl, _⟩ := hs; rfl) | (obtain ⟨_, _, _, _, _, _, _, _, _, _, _, _, _, rfl, _⟩ := hs; rfl) | (obtain ⟨_, _, _, _, _, _, _, _, _, _, _, _, _, _, rfl, _⟩ := hs; rfl) | (obtain ⟨_, _, _, _, _, _, _, _, _, _, _, _, _, _, _, rfl, _⟩ := hs; rfl) | (obtain ⟨_, _, _, _, _, _, _, _, _, _, _, _, _, _, _, _, rfl, _⟩ := hs; rfl) | (obtain ⟨_, _, _, _, _, _, _, _, _, _, _, _, _, _, _, _, _, rfl, _⟩ := hs; rfl) | (obtain ⟨_, _, _, _, _, _, _, _, _, _, _, _, _, _, _, _, _, _, rfl, _⟩ := hs; rfl) | (obtain ⟨_, _, _, _, _, _, _, _, _, _, _, _, _, _, _, _, _, _, _, rfl, _⟩ := hs; rfl) | (obtain ⟨_, _, _, _, _, _, _, _, _, _, _, _, _, _, _, _, _, _, _, _, rfl, _⟩ := hs; rfl) | (obtain ⟨_, _, _, _, _, _, _, _, _, _, _, _, _, _, _, _, _, _, _, _, _, rfl, _⟩ := hs; rfl)) (fun cdv A outer s H vs Q E hr hq => ?_)
  obtain ⟨p, n, lo, hi, rfl, q⟩ := hq
  refine ⟨_, (pss_cons (ps_set (i := 4) scf_bounded.nd rfl (Or.inl rfl) (pe_ifExp (pt_cmpR op_lt (pv 0) pe_int (nomark _)) (pe_op op_add (pv 0) (pv 1)) (pv 0)))
      (pss_one (ps_ret (pe_callB (call_min2 rfl) (by rfl) (n_min h) (by decide +kernel) (pa_cons (pe_callB (call_max2 rfl) (by rfl) (n_max h) (by decide +kernel) (pa_cons (pv 4) (pa_cons (pv 2) pa_nil))) (pa_cons (pv 3) pa_nil)))))), ?_⟩
  rw [stf_bounded]
  walk_at "rd"
  have q := q _ (Ev.refl _ _)
  unfold bnd at q
  by_cases hp : p < 0
  · rw [if_pos hp] at q ⊢; exact q
  · rw [if_neg hp] at q ⊢; exact q
theorem vo_non {s : Option Int} : decide (vo s = V.non) = s.isNone := by cases s <;> simp [vo]
def spCutOf : Sp := fun vs H Q _ => ∃ (c : Addr) (s e st : Option Int) (n : Int), vs = [.ref c, .int n] ∧ CutAt H c s e st ∧ st ≠ some 0 ∧ (st.getD 1).natAbs < 2 ^ 70 ∧
  RetT H Q [.int (cutStart s st n), .int (cutMany s e st n), .int (st.getD 1)]
theorem ok_cut_of (h : MgOk w.params mg) : FnOk P w (K w.params) mg base CX0 2 af_cut_of fdf_cut_of ["cut", "size"] spCutOf := by
  refine Fun.ok (sp := spCutOf) (Ff_cut_of w.params) scf_cut_of (fun vs H Q E hs => by first | (obtain ⟨_, rfl, _⟩ := hs; rfl) | (obtain ⟨_, _, rfl, _⟩ := hs; rfl) | (obtain ⟨_, _, _, rfl, _⟩ := hs; rfl) | (obtain ⟨_, _, _, _, rfl, _⟩ := hs; rfl) | (obtain ⟨_, _, _, _, _, rfl, _⟩ := hs; rfl) | (obtain ⟨_, _, _, _, _, _, rfl, _⟩ := hs; rfl) | (obtain ⟨_, _, _, _, _, _, _, rfl, _⟩ := hs; rfl) | (obtain ⟨_, _, _, _, _, _, _, _, rfl, _⟩ := hs; rfl) | (obtain ⟨_, _, _, _, _, _, _, _, _, rfl, _⟩ := hs; rfl) | (obtain ⟨_, _, _, _, _, _, _, _, _, _, rfl, _⟩ := hs; rfl) | (obtain ⟨_, _, _, _, _, _, _, _, _, _, _, rfl, _⟩ := hs; rfl) | (obtain ⟨_, _, _, _, _, _, _, _, _, _, _, _, rfl, _⟩ := hs; rfl) | (obtain ⟨_, _, _, _, _, _, _, _, _, _, _, _, _, rfl, _⟩ := hs; rfl) | (obtain ⟨_, _, _, _, _, _, _, _, _, _, _, _, _, _, rfl, _⟩ := hs; rfl) | (obtain ⟨_, _, _, _, _, _, _, _, _, _, _, _, _, _, _, rfl, _⟩ := hs; rfl) | (obtain ⟨_, _, _, _, _, _, _, _, _, _, _, _, _, _, _, _, rfl, _⟩ := hs; rfl) | (obtain ⟨_, _, _, _, _, _, _, _, _, _, _, _, _, _, _, _, _, rfl, _⟩ := hs; rfl) | (obtain ⟨_, _, _, _, _, _, _, _, _, _, _, _, _, _, _, _, _, _, rfl, _⟩ := hs; rfl) | (obtain ⟨_, _, _, _, _, _, _, _, _, _, _, _, _, _, _, _, _, _, _, rfl, _⟩ := hs; rfl) | (obtain ⟨_, _, _, _, _, _, _, _, _, _, _, _, _, _, _, _, _, _, _, _, rfl, _⟩ := hs; rfl) | (obtain ⟨_, _, _, _, _, _, _, _, _, _, _, _, _, _, _, _, _, _, _, _, _, rfl, _⟩ := hs; rfl)) (fun cdv A outer s H vs Q E hr hq => ?_)
  obtain ⟨c, s0, e0, st, n, rfl, hc, h0, hb, q⟩ := hq
  refine ⟨_, (pss_cons (ps_if (pt_not (pt_val (pe_callB (cr_all rfl) (by rfl) (n_all h) (by decide +kernel) (pa_cons (pe_lc (own := [("part", 8)]) (te := _) rfl scf_cut_of.nd (pi_tup (pe_tup (pa_cons (pe_fld (pv 0) rfl) (pa_cons (pe_fld (pv 0) rfl) (pa_cons (pe_fld (pv 0) rfl) pa_nil))))) (blkOk_by (N := ["cut", "size", "step", "least", "greatest", "start", "stop", "many", "part"]) (own := [("part", 8)]) (sc := defScope sf_cut_of) (by decide +kernel)) (fun _ _ _ _ _ => (pg_name (i := 8) scf_cut_of.nd rfl (Or.inl rfl))) (fun _ _ _ _ _ => pts_nil) (fun _ _ _ _ _ => (pe_or (pe_cmpR op_isN (pv 8) pe_non (nomark _)) (pe_one (pe_call (ok_is_integer h) (hr.mono (by decide)) (by rfl) (gf_is_integer h) (Ff_is_integer w.params).kp (bf_is_integer w.params) .nil pass0 (pa_cons (pv 8) pa_nil)))))) pa_nil)))) (pss_one ps_never) pss_nil)
      (pss_cons (ps_set (i := 2) scf_cut_of.nd rfl (Or.inl rfl) (pe_ifExp (pt_cmpR op_isN (pe_fld (pv 0) rfl) pe_non (nomark _)) pe_int (pe_callTy call_int1 (by rfl) (n_int h) (by decide +kernel) (pa_cons (pe_fld (pv 0) rfl) pa_nil))))
      (pss_cons (ps_if (pt_cmpR op_eq (pv 2) pe_int (nomark _)) (pss_one ps_never) pss_nil)
      (pss_cons (ps_asg (pe_ifExp (pt_cmpR op_gt (pv 2) pe_int (nomark _)) (pe_tup (pa_cons pe_int (pa_cons (pv 1) pa_nil))) (pe_tup (pa_cons (pe_un un_neg pe_int) (pa_cons (pe_op op_sub (pv 1) pe_int) pa_nil)))) (pg_tup rfl (pgs_cons (pg_name (i := 3) scf_cut_of.nd rfl (Or.inl rfl)) (pgs_cons (pg_name (i := 4) scf_cut_of.nd rfl (Or.inl rfl)) pgs_nil))))
      (pss_cons (ps_asg (pe_ifExp (pt_cmpR op_gt (pv 2) pe_int (nomark _)) (pe_tup (pa_cons (pv 3) (pa_cons (pv 4) pa_nil))) (pe_tup (pa_cons (pv 4) (pa_cons (pv 3) pa_nil)))) (pg_tup rfl (pgs_cons (pg_name (i := 5) scf_cut_of.nd rfl (Or.inl rfl)) (pgs_cons (pg_name (i := 6) scf_cut_of.nd rfl (Or.inl rfl)) pgs_nil))))
      (pss_cons (ps_if (pt_cmpR op_notN (pe_fld (pv 0) rfl) pe_non (nomark _)) (pss_one (ps_set (i := 5) scf_cut_of.nd rfl (Or.inl rfl) (pe_call (ok_bounded h) (hr.mono (by decide)) (by rfl) (gf_bounded h) (Ff_bounded w.params).kp (bf_bounded w.params) .nil pass0 (pa_cons (pe_fld (pv 0) rfl) (pa_cons (pv 1) (pa_cons (pv 3) (pa_cons (pv 4) pa_nil))))))) pss_nil)
      (pss_cons (ps_if (pt_cmpR op_notN (pe_fld (pv 0) rfl) pe_non (nomark _)) (pss_one (ps_set (i := 6) scf_cut_of.nd rfl (Or.inl rfl) (pe_call (ok_bounded h) (hr.mono (by decide)) (by rfl) (gf_bounded h) (Ff_bounded w.params).kp (bf_bounded w.params) .nil pass0 (pa_cons (pe_fld (pv 0) rfl) (pa_cons (pv 1) (pa_cons (pv 3) (pa_cons (pv 4) pa_nil))))))) pss_nil)
      (pss_cons (ps_set (i := 7) scf_cut_of.nd rfl (Or.inl rfl) (pe_ifExp (pt_cmpR op_gt (pv 2) pe_int (nomark _)) (pe_op op_fdivW (pe_op op_sub (pe_op op_add (pe_op op_sub (pv 6) (pv 5)) (pv 2)) pe_int) (pv 2)) (pe_op op_fdivW (pe_op op_sub (pe_op op_sub (pe_op op_sub (pv 5) (pv 6)) (pv 2)) pe_int) (pe_un un_neg (pv 2)))))
      (pss_one (ps_ret (pe_tup (pa_cons (pv 5) (pa_cons (pe_callB (call_max2 rfl) (by rfl) (n_max h) (by decide +kernel) (pa_cons pe_int (pa_cons (pv 7) pa_nil))) (pa_cons (pv 2) pa_nil)))))))))))))), ?_⟩
  rw [stf_cut_of]
  refine freeze fun R2 hR2 => ?_
  try walk_at "rd"
  obtain ⟨dxc, hcr⟩ := id hc
  refine ⟨_, rfl, c, _, _, _, _, rfl, hcr, cl_Cut w.params, na_Cut_start w.params, rfl, _, rfl, c, _, _, _, _, rfl, hcr, cl_Cut w.params, na_Cut_stop w.params, rfl, _, rfl, c, _, _, _, _, rfl, hcr, cl_Cut w.params, na_Cut_step w.params, rfl, by simp [sizeLine], fun p np => ?_⟩
  obtain ⟨H1, H1_eq, e1, h1⟩ := newq (.tup [vo s0, vo e0, vo st]) np
  rw [← H1_eq]
  clear H1_eq
  refine ⟨p, rfl, ⟨_, SqT.of h1⟩, fun Dd nD => lc_fn (X := []) (walk_tup (xs := [vo s0, vo e0, vo st])) (fun i => .bl true) (line_of (by simp)) (Ev.refl _ _) nD (by simp) (fun H e => SqT.of (e.tup h1)) (fun i x H' H'' N hi e y k => ?_) (fun H2 e2 hD => ?_)⟩
  · obtain ⟨rfl, hx⟩ := y
    have : ∃ o, x = vo o := by
      match i, hx with
      | 0, hx => exact ⟨s0, by simpa using hx.symm⟩
      | 1, hx => exact ⟨e0, by simpa using hx.symm⟩
      | 2, hx => exact ⟨st, by simpa using hx.symm⟩
    obtain ⟨o, rfl⟩ := this
    try walk_at "rd"
    cases o with
    | none => rw [if_pos (show vo none = V.non from rfl)]; exact k _ (Ev.refl _ _)
    | some v => rw [if_neg (by simp [vo])]; exact ⟨v, rfl, fun H4 e4 => k _ e4⟩
  try walk_at "rd"
  refine ⟨_, List.replicate 3 true, rfl, SqL.of (by rw [hD]; rfl), _, rfl, iteF ?_⟩
  have ee := e1.trans e2
  have hc2 := hc.ev ee
  subst hR2
  refine freeze fun R3 hR3 => ?_
  try walk_at "rd"
  refine fgo (hc2.f_step) ?_
  try walk_at "rd"
  have k3 : R3 { nx := fun _ H' => Q V.non H', rt := Q } [some (V.ref c), some (V.int n), some (V.int (st.getD 1)), none, none, none, none, none, none] H2 := by
    subst hR3
    refine freeze fun R4 hR4 => ?_
    try walk_at "rd"
    rw [if_neg (by cases st <;> simp at h0 ⊢; exact h0)]
    subst hR4
    refine freeze fun R5 hR5 => ?_
    have k5 : ∀ H3 lo hi, Ev [] H2 H3 → (st.getD 1 > 0 ∧ lo = 0 ∧ hi = n ∨ ¬ st.getD 1 > 0 ∧ lo = -1 ∧ hi = n - 1) → R5 { nx := fun _ H' => Q V.non H', rt := Q } [some (V.ref c), some (V.int n), some (V.int (st.getD 1)), some (V.int (lo)), some (V.int (hi)), none, none, none, none] H3 := fun H3 lo hi e3 hlh => by
      have hc3 := hc2.ev e3
      have ee3 := ee.trans e3
      subst hR5
      refine freeze fun R6 hR6 => ?_
      have k6 : ∀ H4 a0 b0, Ev [] H3 H4 → cutS s0 n lo hi a0 = cutStart s0 st n → cutS e0 n lo hi b0 = cutStop e0 st n → R6 { nx := fun _ H' => Q V.non H', rt := Q } [some (V.ref c), some (V.int n), some (V.int (st.getD 1)), some (V.int (lo)), some (V.int (hi)), some (V.int (a0)), some (V.int (b0)), none, none] H4 := fun H4 a0 b0 e4 ha hb' => by
        have hc4 := hc3.ev e4
        have ee4 := ee3.trans e4
        subst hR6
        refine freeze fun R7 hR7 => ?_
        have k7 : ∀ H5, Ev [] H4 H5 → R7 { nx := fun _ H' => Q V.non H', rt := Q } [some (V.ref c), some (V.int n), some (V.int (st.getD 1)), some (V.int (lo)), some (V.int (hi)), some (V.int (cutStart s0 st n)), some (V.int (b0)), none, none] H5 := fun H5 e5 => by
          have hc5 := hc4.ev e5
          have ee5 := ee4.trans e5
          subst hR7
          refine freeze fun R8 hR8 => ?_
          have k8 : ∀ H6, Ev [] H5 H6 → R8 { nx := fun _ H' => Q V.non H', rt := Q } [some (V.ref c), some (V.int n), some (V.int (st.getD 1)), some (V.int (lo)), some (V.int (hi)), some (V.int (cutStart s0 st n)), some (V.int (cutStop e0 st n)), none, none] H6 := fun H6 e6 => by
            have ee6 := ee5.trans e6
            subst hR8
            refine freeze fun R9 hR9 => ?_
            have k9 : ∀ m, (if m > 0 then m else 0) = cutMany s0 e0 st n → R9 { nx := fun _ H' => Q V.non H', rt := Q } [some (V.ref c), some (V.int n), some (V.int (st.getD 1)), some (V.int (lo)), some (V.int (hi)), some (V.int (cutStart s0 st n)), some (V.int (cutStop e0 st n)), some (V.int (m)), none] H6 := fun m hm => by
              subst hR9
              try walk_at "rd"
              refine ⟨by simp [sizeLine], fun t nt => ?_⟩
              have := q _ t (ee6.trans (Ev.new nt)) upd_same
              rw [← hm] at this
              exact this
            try walk_at "rd"
            by_cases hp : 0 < st.getD 1
            · rw [if_pos hp]
              refine ⟨wide_div hp hb (by decide) (by decide), k9 _ ?_⟩
              have h' : st.getD 1 > 0 := hp
              simp only [cutMany, if_pos h']
            · rw [if_neg hp]
              have hne : st.getD 1 ≠ 0 := by cases st <;> simp at h0 ⊢; exact h0
              refine ⟨wide_div (by omega) (b := 70) (by simpa using hb) (by decide) (by decide), k9 _ ?_⟩
              have h' : ¬ st.getD 1 > 0 := hp
              simp only [cutMany, if_neg h']
          try walk_at "rd"
          refine fgo (hc5.f_stop) ?_
          try walk_at "rd"
          cases e0 with
          | none =>
            rw [if_neg (by simp [vo])]
            have := k8 H5 (Ev.refl _ _)
            rw [← hb'] at this
            exact this
          | some v =>
            rw [if_pos (by simp [vo])]
            refine fgo (hc5.f_stop) ?_
            try walk_at "rd"
            refine ⟨v, n, lo, hi, rfl, fun H6 e6 => ?_⟩
            have := k8 H6 e6
            rw [← hb'] at this
            exact this
        try walk_at "rd"
        refine fgo (hc4.f_start) ?_
        try walk_at "rd"
        cases s0 with
        | none =>
          rw [if_neg (by simp [vo])]
          have := k7 H4 (Ev.refl _ _)
          rw [← ha] at this
          exact this
        | some v =>
          rw [if_pos (by simp [vo])]
          refine fgo (hc4.f_start) ?_
          try walk_at "rd"
          refine ⟨v, n, lo, hi, rfl, fun H6 e6 => ?_⟩
          have := k7 H6 e6
          rw [← ha] at this
          exact this
      try walk_at "rd"
      rcases hlh with ⟨hp, rfl, rfl⟩ | ⟨hp, rfl, rfl⟩
      · rw [if_pos (show 0 < st.getD 1 from hp)]
        exact ⟨by simp [sizeLine], fun p np => gTup2 upd_same (k6 _ _ _ (Ev.new np) (by unfold cutStart; rw [if_pos hp]) (by unfold cutStop; rw [if_pos hp]))⟩
      · rw [if_neg (show ¬ 0 < st.getD 1 from hp)]
        exact ⟨by simp [sizeLine], fun p np => gTup2 upd_same (k6 _ _ _ (Ev.new np) (by unfold cutStart; rw [if_neg hp]) (by unfold cutStop; rw [if_neg hp]))⟩
    try walk_at "rd"
    by_cases hp : 0 < st.getD 1
    · rw [if_pos hp]
      exact ⟨by simp [sizeLine], fun p np => gTup2 upd_same (k5 _ _ _ (Ev.new np) (.inl ⟨hp, rfl, rfl⟩))⟩
    · rw [if_neg hp]
      exact ⟨by simp [sizeLine], fun p np => gTup2 upd_same (k5 _ _ _ (Ev.new np) (.inr ⟨hp, rfl, rfl⟩))⟩
  cases st with
  | none => rw [if_pos (show vo none = V.non from rfl)]; exact k3
  | some v =>
    rw [if_neg (by simp [vo])]
    refine fgo (hc2.f_step) ?_
    try walk_at "rd"
    exact .inl ⟨v, rfl, k3⟩
def cutPl (s e st : Option Int) (n : Int) : List Int := (List.range (cutMany s e st n).toNat).map fun (k : Nat) => cutStart s st n + k * st.getD 1
def spCutPlaces : Sp := fun vs H Q _ => ∃ (c : Addr) (s e st : Option Int) (n : Int), vs = [.ref c, .int n] ∧ CutAt H c s e st ∧ st ≠ some 0 ∧ (st.getD 1).natAbs < 2 ^ 70 ∧ cutMany s e st n < 1000 ∧ RetL H Q ((cutPl s e st n).map .int)
theorem ok_cut_places (h : MgOk w.params mg) : FnOk P w (K w.params) mg base CX0 3 af_cut_places fdf_cut_places ["cut", "size"] spCutPlaces := by
  refine Fun.ok (sp := spCutPlaces) (Ff_cut_places w.params) scf_cut_places (fun vs H Q E hs => by first | (obtain ⟨_, rfl, _⟩ := hs; rfl) | (obtain ⟨_, _, rfl, _⟩ := hs; rfl) | (obtain ⟨_, _, _, rfl, _⟩ := hs; rfl) | (obtain ⟨_, _, _, _, rfl, _⟩ := hs; rfl) | (obtain ⟨_, _, _, _, _, rfl, _⟩ := hs; rfl) | (obtain ⟨_, _, _, _, _, _, rfl, _⟩ := hs; rfl) | (obtain ⟨_, _, _, _, _, _, _, rfl, _⟩ := hs; rfl) | (obtain ⟨_, _, _, _, _, _, _, _, rfl, _⟩ := hs; rfl) | (obtain ⟨_, _, _, _, _, _, _, _, _, rfl, _⟩ := hs; rfl) | (obtain ⟨_, _, _, _, _, _, _, _, _, _, rfl, _⟩ := hs; rfl) | (obtain ⟨_, _, _, _, _, _, _, _, _, _, _, rfl, _⟩ := hs; rfl) | (obtain ⟨_, _, _, _, _, _, _, _, _, _, _, _, rfl, _⟩ := hs; rfl) | (obtain ⟨_, _, _, _, _, _, _, _, _, _, _, _, _, rfl, _⟩ := hs; rfl) | (obtain ⟨_, _, _, _, _, _, _, _, _, _, _, _, _, _, rfl, _⟩ := hs; rfl) | (obtain ⟨_, _, _, _, _, _, _, _, _, _, _, _, _, _, _, rfl, _⟩ := hs; rfl) | (obtain ⟨_, _, _, _, _, _, _, _, _, _, _, _, _, _, _, _, rfl, _⟩ := hs; rfl) | (obtain ⟨_, _, _, _, _, _, _, _, _, _, _, _, _, _, _, _, _, rfl, _⟩ := hs; rfl) | (obtain ⟨_, _, _, _, _, _, _, _, _, _, _, _, _, _, _, _, _, _, rfl, _⟩ := hs; rfl) | (obtain ⟨_, _, _, _, _, _, _, _, _, _, _, _, _, _, _, _, _, _, _, rfl, _⟩ := hs; rfl) | (obtain ⟨_, _, _, _, _, _, _, _, _, _, _, _, _, _, _, _, _, _, _, _, rfl, _⟩ := hs; rfl) | (obtain ⟨_, _, _, _, _, _, _, _, _, _, _, _, _, _, _, _, _, _, _, _, _, rfl, _⟩ := hs; rfl)) (fun cdv A outer s H vs Q E hr hq => ?_)
  obtain ⟨c, s0, e0, st, n, rfl, hc, h0, hb, hm, q⟩ := hq
  refine ⟨_, (pss_cons (ps_asg (pe_call (ok_cut_of h) (hr.mono (by decide)) (by rfl) (gf_cut_of h) (Ff_cut_of w.params).kp (bf_cut_of w.params) .nil pass0 (pa_cons (pv 0) (pa_cons (pv 1) pa_nil))) (pg_tup rfl (pgs_cons (pg_name (i := 2) scf_cut_places.nd rfl (Or.inr rfl)) (pgs_cons (pg_name (i := 3) scf_cut_places.nd rfl (Or.inl rfl)) (pgs_cons (pg_name (i := 4) scf_cut_places.nd rfl (Or.inr rfl)) pgs_nil)))))
      (pss_one (ps_ret (pe_lc (own := [("k", 5)]) (te := (tOp _ (tVar 2) (tOp _ (tVar 5) (tVar 4)))) rfl scf_cut_places.nd (pi_range1 rfl (n_range h) (pa_cons (pv 3) pa_nil)) (blkOk_by (N := ["cut", "size", "start", "many", "step", "k"]) (own := [("k", 5)]) (sc := defScope sf_cut_places) (by decide +kernel)) (fun _ _ _ _ _ => (pg_name (i := 5) scf_cut_places.nd rfl (Or.inl rfl))) (fun _ _ _ _ _ => pts_nil) (fun _ _ _ _ _ => (pe_op op_add (pv 2) (pe_op op_mul (pv 5) (pv 4)))))))), ?_⟩
  rw [stf_cut_places]
  walk_at "rd"
  refine ⟨c, s0, e0, st, n, rfl, hc, h0, hb, fun H1 t e1 ht => ?_⟩
  refine gTup3 ht ?_
  try walk_at "rd"
  have hm0 : 0 ≤ cutMany s0 e0 st n := by
    have : ∀ m : Int, 0 ≤ (if m > 0 then m else 0) := fun m => by split <;> omega
    exact this _
  refine ⟨_, rfl, _, rfl, by omega, by omega, fun D nD => lc_fn (X := []) walk_range (fun (k : Nat) => .int (cutStart s0 st n + k * st.getD 1)) (line_of (by omega)) (Ev.refl _ _) nD (by simp) (fun H e => trivial) (fun i x H' H'' N hi e y k => ?_) (fun H' e hD => ?_)⟩
  · obtain ⟨rfl, rfl⟩ := y
    try walk_at "rd"
    refine ⟨.inl ⟨by omega, by omega⟩, ?_⟩
    have := k _ (Ev.refl _ _)
    simpa using this
  · exact q _ _ (e1.trans e) (e1.free nD) (by rw [hD]; simp [cutPl])
end VL
end
section
set_option linter.all false
set_option maxRecDepth 100000
set_option maxHeartbeats 4000000
namespace VL
open PySem PySem.Spec PyProof.Rows L2 RZ
local macro_rules | `(tactic| walk_at "rd") => `(tactic| (simp only [tVar, tC, tOp, tUn, tTest, tB, tAnd, tOr, tNot, tAndV, tOrV, tNotV, tIf, tIfS, tSeq, tAsg, gName, tRet, tRetN, tDrop, tNext, rI, rI0, rU, rEq, rNe, scal, tCons, tNil, tCB, t2I, tChain, tCall, tMeth, tPar, tPar3, tFld, tTup, tLst, iTup, iList, iRng1, tPart, tNoPart, tBM, tBM0, tMake, cxK, noxK, L2.wipe,
  List.append_nil, List.nil_append, List.cons_append, List.map_cons, List.map_nil, List.getElem?_cons_zero, List.getElem?_cons_succ, List.getElem?_nil, List.set_cons_zero, List.set_cons_succ, Option.some.injEq, V.int.injEq, V.bl.injEq, V.str.injEq, V.ref.injEq, exists_and_left, exists_eq_left', exists_eq_left, true_and, and_true, List.cons.injEq, if_true, if_false, Bool.false_eq_true, Bool.not_true, Bool.not_false, decide_eq_true_eq, and_assoc]))
variable {P : Program} {w : World} {mg : Str → Option Value} {base : Heap}
/-- the codes that the law takes -/
inductive KK where | B | b | c | h | H | i | q
  deriving DecidableEq
def KK.str : KK → Str | .B => "B" | .b => "b" | .c => "c" | .h => "h" | .H => "H" | .i => "i" | .q => "q"
def KK.wd : KK → Nat | .B => 1 | .b => 1 | .c => 1 | .h => 2 | .H => 2 | .i => 4 | .q => 8
def KK.sg : KK → Bool | .b => true | .h => true | .i => true | .q => true | _ => false
theorem KK.wd8 (k : KK) : k.wd ≤ 8 := by cases k <;> decide
theorem KK.wd0 (k : KK) : 0 < k.wd := by cases k <;> decide
theorem t_NOITEMS {P : Params} {H : Hp} : SqT (K P) H 789 [.str "x", .str "s", .str "p"] := .inr ⟨ob789 P, _, _, by kernel_rfl, rfl, rfl, by decide, .cons ⟨_, rfl⟩ (.cons ⟨_, rfl⟩ (.cons ⟨_, rfl⟩ .nil))⟩
theorem t_FLOATS {P : Params} {H : Hp} : SqT (K P) H 788 [.str "e", .str "f", .str "d"] := .inr ⟨ob788 P, _, _, by kernel_rfl, rfl, rfl, by decide, .cons ⟨_, rfl⟩ (.cons ⟨_, rfl⟩ (.cons ⟨_, rfl⟩ .nil))⟩
theorem t_BELOW {P : Params} {H : Hp} : SqT (K P) H 787 [.str "b", .str "h", .str "i", .str "l", .str "q", .str "n"] := .inr ⟨ob787 P, _, _, by kernel_rfl, rfl, rfl, by decide, .cons ⟨_, rfl⟩ (.cons ⟨_, rfl⟩ (.cons ⟨_, rfl⟩ (.cons ⟨_, rfl⟩ (.cons ⟨_, rfl⟩ (.cons ⟨_, rfl⟩ .nil)))))⟩
theorem t_ORDERS {P : Params} {H : Hp} : SqT (K P) H 581 [.str "@", .str "=", .str "<", .str ">", .str "!"] := .inr ⟨ob581 P, _, _, by kernel_rfl, rfl, rfl, by decide, .cons ⟨_, rfl⟩ (.cons ⟨_, rfl⟩ (.cons ⟨_, rfl⟩ (.cons ⟨_, rfl⟩ (.cons ⟨_, rfl⟩ .nil))))⟩
theorem nat_in (P : Params) (k : KK) : ∃ t, PySem.W.nsIn (K P) 584 k.str = some (some (.int k.wd t)) := by
  cases k
  · exact ⟨_, nat_B P⟩
  · exact ⟨_, nat_b P⟩
  · exact ⟨_, nat_c P⟩
  · exact ⟨_, nat_h P⟩
  · exact ⟨_, nat_H P⟩
  · exact ⟨_, nat_i P⟩
  · exact ⟨_, nat_q P⟩
theorem KK.sl1 (k : KK) : L2.cutS k.str none (some 1) = k.str := by cases k <;> decide +kernel
theorem KK.neAt (k : KK) : decide (V.str k.str = V.str "@") = false := by cases k <;> decide +kernel
theorem KK.len (k : KK) : k.str.length = 1 := by cases k <;> decide +kernel
theorem KK.ne1 (k : KK) : ¬ (V.str k.str = V.str "@") := by cases k <;> decide +kernel
theorem KK.noItem (k : KK) : inV (V.str k.str) [.str "x", .str "s", .str "p"] = false := by cases k <;> decide +kernel
theorem KK.noFloat (k : KK) : inV (V.str k.str) [.str "e", .str "f", .str "d"] = false := by cases k <;> decide +kernel
theorem KK.below (k : KK) : inV (V.str k.str) [.str "b", .str "h", .str "i", .str "l", .str "q", .str "n"] = k.sg := by cases k <;> decide +kernel
def spCodeOf : Sp := fun vs H Q _ => ∃ k : KK, vs = [.str k.str] ∧ RetV H Q (.str k.str)
theorem ok_code_of (h : MgOk w.params mg) : FnOk P w (K w.params) mg base CX0 1 af_code_of fdf_code_of ["layout"] spCodeOf := by
  refine Fun.ok (sp := spCodeOf) (Ff_code_of w.params) scf_code_of (fun vs H Q E hs => by first | (obtain ⟨_, rfl, _⟩ := hs; rfl) | (obtain ⟨_, _, rfl, _⟩ := hs; rfl) | (obtain ⟨_, _, _, rfl, _⟩ := hs; rfl) | (obtain ⟨_, _, _, _, rfl, _⟩ := hs; rfl) | (obtain ⟨_, _, _, _, _, rfl, _⟩ := hs; rfl) | (obtain ⟨_, _, _, _, _, _, rfl, _⟩ := hs; rfl) | (obtain ⟨_, _, _, _, _, _, _, rfl, _⟩ := hs; rfl) | (obtain ⟨_, _, _, _, _, _, _, _, rfl, _⟩ := hs; rfl) | (obtain ⟨_, _, _, _, _, _, _, _, _, rfl, _⟩ := hs; rfl) | (obtain ⟨_, _, _, _, _, _, _, _, _, _, rfl, _⟩ := hs; rfl) | (obtain ⟨_, _, _, _, _, _, _, _, _, _, _, rfl, _⟩ := hs; rfl) | (obtain ⟨_, _, _, _, _, _, _, _, _, _, _, _, rfl, _⟩ := hs; rfl) | (obtain ⟨_, _, _, _, _, _, _, _, _, _, _, _, _, rfl, _⟩ := hs; rfl) | (obtain ⟨_, _, _, _, _, _, _, _, _, _, _, _, _, _, rfl, _⟩ := hs; rfl) | (obtain ⟨_, _, _, _, _, _, _, _, _, _, _, _, _, _, _, rfl, _⟩ := hs; rfl) | (obtain ⟨_, _, _, _, _, _, _, _, _, _, _, _, _, _, _, _, rfl, _⟩ := hs; rfl) | (obtain ⟨_, _, _, _, _, _, _, _, _, _, _, _, _, _, _, _, _, rfl, _⟩ := hs; rfl) | (obtain ⟨_, _, _, _, _, _, _, _, _, _, _, _, _, _, _, _, _, _, rfl, _⟩ := hs; rfl) | (obtain ⟨_, _, _, _, _, _, _, _, _, _, _, _, _, _, _, _, _, _, _, rfl, _⟩ := hs; rfl) | (obtain ⟨_, _, _, _, _, _, _, _, _, _, _, _, _, _, _, _, _, _, _, _, rfl, _⟩ := hs; rfl) | (obtain ⟨_, _, _, _, _, _, _, _, _, _, _, _, _, _, _, _, _, _, _, _, _, rfl, _⟩ := hs; rfl)) (fun cdv A outer s H vs Q E hr hq => ?_)
  obtain ⟨k, rfl, q⟩ := hq
  obtain ⟨t, hk⟩ := nat_in w.params k
  refine ⟨_, (pss_cons (ps_if (pt_not (pt_val (pe_callB call_isi (by rfl) (n_isinstance h) (by decide +kernel) (pa_cons (pv 0) (pa_cons (pe_bltn (v := .ty "str") (by rfl) (n_str h) (by decide +kernel) rfl) pa_nil))))) (pss_one (ps_ret pe_non)) pss_nil)
      (pss_cons (ps_set (i := 1) scf_code_of.nd rfl (Or.inl rfl) (pe_ifExp (pt_cmpR op_eq (pe_slice sl_str (pv 0) po_none (po_some pe_int)) pe_str (nomark _)) (pe_slice sl_str (pv 0) (po_some pe_int) po_none) (pv 0)))
      (pss_one (ps_ret (pe_ifExp (PW.pt (pw_and (pt_cmpR (op_in_kd (kd_native w)) (pv 1) (pe_glob (v := .ref 584) (by rfl) (g_NATIVE h) rfl) (by rfl)) (pw_and1 (pt_cmpR op_notIn_seq (pv 1) (pe_glob (v := .ref 789) (by rfl) (g_NO_ITEMS h) rfl) (by rfl))))) (pv 1) pe_non))))), ?_⟩
  rw [stf_code_of]
  walk_at "rd"
  refine isi_str ⟨_, rfl, ?_⟩
  try walk_at "rd"
  refine ⟨_, rfl, 1, rfl, k.str, rfl, by rw [k.len]; decide, ?_⟩
  rw [k.sl1]
  refine ⟨rfl, ?_⟩
  rw [if_neg k.ne1]
  refine ⟨_, hk, ?_⟩
  rw [if_pos (show (some (Value.int (k.wd : Int) t)).isSome = true from rfl)]
  refine ⟨789, _, rfl, .inr t_NOITEMS, rfl, rfl, ?_⟩
  rw [if_pos rfl, k.noItem]
  exact ⟨_, rfl, iteT (q _ (Ev.refl _ _))⟩
def spNativeCode : Sp := spCodeOf
theorem ok_native_code (h : MgOk w.params mg) : FnOk P w (K w.params) mg base CX0 2 af_native_code fdf_native_code ["layout"] spNativeCode := by
  refine Fun.ok (sp := spNativeCode) (Ff_native_code w.params) scf_native_code (fun vs H Q E hs => by first | (obtain ⟨_, rfl, _⟩ := hs; rfl) | (obtain ⟨_, _, rfl, _⟩ := hs; rfl) | (obtain ⟨_, _, _, rfl, _⟩ := hs; rfl) | (obtain ⟨_, _, _, _, rfl, _⟩ := hs; rfl) | (obtain ⟨_, _, _, _, _, rfl, _⟩ := hs; rfl) | (obtain ⟨_, _, _, _, _, _, rfl, _⟩ := hs; rfl) | (obtain ⟨_, _, _, _, _, _, _, rfl, _⟩ := hs; rfl) | (obtain ⟨_, _, _, _, _, _, _, _, rfl, _⟩ := hs; rfl) | (obtain ⟨_, _, _, _, _, _, _, _, _, rfl, _⟩ := hs; rfl) | (obtain ⟨_, _, _, _, _, _, _, _, _, _, rfl, _⟩ := hs; rfl) | (obtain ⟨_, _, _, _, _, _, _, _, _, _, _, rfl, _⟩ := hs; rfl) | (obtain ⟨_, _, _, _, _, _, _, _, _, _, _, _, rfl, _⟩ := hs; rfl) | (obtain ⟨_, _, _, _, _, _, _, _, _, _, _, _, _, rfl, _⟩ := hs; rfl) | (obtain ⟨_, _, _, _, _, _, _, _, _, _, _, _, _, _, rfl, _⟩ := hs; rfl) | (obtain ⟨_, _, _, _, _, _, _, _, _, _, _, _, _, _, _, rfl, _⟩ := hs; rfl) | (obtain ⟨_, _, _, _, _, _, _, _, _, _, _, _, _, _, _, _, rfl, _⟩ := hs; rfl) | (obtain ⟨_, _, _, _, _, _, _, _, _, _, _, _, _, _, _, _, _, rfl, _⟩ := hs; rfl) | (obtain ⟨_, _, _, _, _, _, _, _, _, _, _, _, _, _, _, _, _, _, rfl, _⟩ := hs; rfl) | (obtain ⟨_, _, _, _, _, _, _, _, _, _, _, _, _, _, _, _, _, _, _, rfl, _⟩ := hs; rfl) | (obtain ⟨_, _, _, _, _, _, _, _, _, _, _, _, _, _, _, _, _, _, _, _, rfl, _⟩ := hs; rfl) | (obtain ⟨_, _, _, _, _, _, _, _, _, _, _, _, _, _, _, _, _, _, _, _, _, rfl, _⟩ := hs; rfl)) (fun cdv A outer s H vs Q E hr hq => ?_)
  obtain ⟨k, rfl, q⟩ := hq
  refine ⟨_, (pss_cons (ps_set (i := 1) scf_native_code.nd rfl (Or.inl rfl) (pe_call (ok_code_of h) (hr.mono (by decide)) (by rfl) (gf_code_of h) (Ff_code_of w.params).kp (bf_code_of w.params) .nil pass0 (pa_cons (pv 0) pa_nil)))
      (pss_cons (ps_if (pt_cmpR op_isN (pv 1) pe_non (nomark _)) (pss_one ps_never) pss_nil)
      (pss_one (ps_ret (pv 1))))), ?_⟩
  rw [stf_native_code]
  walk_at "rd"
  refine ⟨k, rfl, fun H1 e1 => ?_⟩
  try walk_at "rd"
  rw [if_neg (by intro z; cases z)]
  exact q _ e1
def spItemSize : Sp := fun vs H Q _ => ∃ k : KK, vs = [.str k.str] ∧ RetV H Q (.int k.wd)
theorem ok_item_size (h : MgOk w.params mg) : FnOk P w (K w.params) mg base CX0 3 af_item_size fdf_item_size ["layout"] spItemSize := by
  refine Fun.ok (sp := spItemSize) (Ff_item_size w.params) scf_item_size (fun vs H Q E hs => by first | (obtain ⟨_, rfl, _⟩ := hs; rfl) | (obtain ⟨_, _, rfl, _⟩ := hs; rfl) | (obtain ⟨_, _, _, rfl, _⟩ := hs; rfl) | (obtain ⟨_, _, _, _, rfl, _⟩ := hs; rfl) | (obtain ⟨_, _, _, _, _, rfl, _⟩ := hs; rfl) | (obtain ⟨_, _, _, _, _, _, rfl, _⟩ := hs; rfl) | (obtain ⟨_, _, _, _, _, _, _, rfl, _⟩ := hs; rfl) | (obtain ⟨_, _, _, _, _, _, _, _, rfl, _⟩ := hs; rfl) | (obtain ⟨_, _, _, _, _, _, _, _, _, rfl, _⟩ := hs; rfl) | (obtain ⟨_, _, _, _, _, _, _, _, _, _, rfl, _⟩ := hs; rfl) | (obtain ⟨_, _, _, _, _, _, _, _, _, _, _, rfl, _⟩ := hs; rfl) | (obtain ⟨_, _, _, _, _, _, _, _, _, _, _, _, rfl, _⟩ := hs; rfl) | (obtain ⟨_, _, _, _, _, _, _, _, _, _, _, _, _, rfl, _⟩ := hs; rfl) | (obtain ⟨_, _, _, _, _, _, _, _, _, _, _, _, _, _, rfl, _⟩ := hs; rfl) | (obtain ⟨_, _, _, _, _, _, _, _, _, _, _, _, _, _, _, rfl, _⟩ := hs; rfl) | (obtain ⟨_, _, _, _, _, _, _, _, _, _, _, _, _, _, _, _, rfl, _⟩ := hs; rfl) | (obtain ⟨_, _, _, _, _, _, _, _, _, _, _, _, _, _, _, _, _, rfl, _⟩ := hs; rfl) | (obtain ⟨_, _, _, _, _, _, _, _, _, _, _, _, _, _, _, _, _, _, rfl, _⟩ := hs; rfl) | (obtain ⟨_, _, _, _, _, _, _, _, _, _, _, _, _, _, _, _, _, _, _, rfl, _⟩ := hs; rfl) | (obtain ⟨_, _, _, _, _, _, _, _, _, _, _, _, _, _, _, _, _, _, _, _, rfl, _⟩ := hs; rfl) | (obtain ⟨_, _, _, _, _, _, _, _, _, _, _, _, _, _, _, _, _, _, _, _, _, rfl, _⟩ := hs; rfl)) (fun cdv A outer s H vs Q E hr hq => ?_)
  obtain ⟨k, rfl, q⟩ := hq
  obtain ⟨t, hk⟩ := nat_in w.params k
  refine ⟨_, (pss_one (ps_ret (pe_ix ix_kdict (pe_glob (v := .ref 584) (by rfl) (g_NATIVE h) rfl) (pe_call (ok_native_code h) (hr.mono (by decide)) (by rfl) (gf_native_code h) (Ff_native_code w.params).kp (bf_native_code w.params) .nil pass0 (pa_cons (pv 0) pa_nil)) (fun _ _ => rfl)))), ?_⟩
  rw [stf_item_size]
  walk_at "rd"
  refine ⟨k, rfl, fun H1 e1 => ?_⟩
  exact ⟨584, _, .int k.wd, rfl, rfl, ⟨_, _, _, nat_at _, (kd_native w).lit, hk, ⟨_, rfl⟩⟩, q _ e1⟩
def spKeyKind : Sp := fun vs H Q _ => ∃ (c : Addr) (s e st : Option Int), vs = [.ref c] ∧ CutAt H c s e st ∧ RetV H Q (.str "cut")
theorem ok_key_kind (h : MgOk w.params mg) : FnOk P w (K w.params) mg base CX0 2 af_key_kind fdf_key_kind ["key"] spKeyKind := by
  refine Fun.ok (sp := spKeyKind) (Ff_key_kind w.params) scf_key_kind (fun vs H Q E hs => by first | (obtain ⟨_, rfl, _⟩ := hs; rfl) | (obtain ⟨_, _, rfl, _⟩ := hs; rfl) | (obtain ⟨_, _, _, rfl, _⟩ := hs; rfl) | (obtain ⟨_, _, _, _, rfl, _⟩ := hs; rfl) | (obtain ⟨_, _, _, _, _, rfl, _⟩ := hs; rfl) | (obtain ⟨_, _, _, _, _, _, rfl, _⟩ := hs; rfl) | (obtain ⟨_, _, _, _, _, _, _, rfl, _⟩ := hs; rfl) | (obtain ⟨_, _, _, _, _, _, _, _, rfl, _⟩ := hs; rfl) | (obtain ⟨_, _, _, _, _, _, _, _, _, rfl, _⟩ := hs; rfl) | (obtain ⟨_, _, _, _, _, _, _, _, _, _, rfl, _⟩ := hs; rfl) | (obtain ⟨_, _, _, _, _, _, _, _, _, _, _, rfl, _⟩ := hs; rfl) | (obtain ⟨_, _, _, _, _, _, _, _, _, _, _, _, rfl, _⟩ := hs; rfl) | (obtain ⟨_, _, _, _, _, _, _, _, _, _, _, _, _, rfl, _⟩ := hs; rfl) | (obtain ⟨_, _, _, _, _, _, _, _, _, _, _, _, _, _, rfl, _⟩ := hs; rfl) | (obtain ⟨_, _, _, _, _, _, _, _, _, _, _, _, _, _, _, rfl, _⟩ := hs; rfl) | (obtain ⟨_, _, _, _, _, _, _, _, _, _, _, _, _, _, _, _, rfl, _⟩ := hs; rfl) | (obtain ⟨_, _, _, _, _, _, _, _, _, _, _, _, _, _, _, _, _, rfl, _⟩ := hs; rfl) | (obtain ⟨_, _, _, _, _, _, _, _, _, _, _, _, _, _, _, _, _, _, rfl, _⟩ := hs; rfl) | (obtain ⟨_, _, _, _, _, _, _, _, _, _, _, _, _, _, _, _, _, _, _, rfl, _⟩ := hs; rfl) | (obtain ⟨_, _, _, _, _, _, _, _, _, _, _, _, _, _, _, _, _, _, _, _, rfl, _⟩ := hs; rfl) | (obtain ⟨_, _, _, _, _, _, _, _, _, _, _, _, _, _, _, _, _, _, _, _, _, rfl, _⟩ := hs; rfl)) (fun cdv A outer s H vs Q E hr hq => ?_)
  obtain ⟨c, s0, e0, st, rfl, hc, q⟩ := hq
  refine ⟨_, (pss_cons (ps_if (pt_val (pe_call (ok_is_integer_cut h) (hr.mono (by decide)) (by rfl) (gf_is_integer h) (Ff_is_integer w.params).kp (bf_is_integer w.params) .nil pass0 (pa_cons (pv 0) pa_nil))) (pss_one (ps_ret pe_str)) pss_nil)
      (pss_cons (ps_if (pt_val (pe_callB call_isi (by rfl) (n_isinstance h) (by decide +kernel) (pa_cons (pv 0) (pa_cons (pe_glob (v := .ref CCut) (by rfl) (g_Cut h) rfl) pa_nil)))) (pss_one (ps_ret pe_str)) pss_nil)
      pss_never)), ?_⟩
  rw [stf_key_kind]
  walk_at "rd"
  obtain ⟨dx, h0⟩ := id hc
  refine ⟨c, dx, _, rfl, h0, fun H1 e1 => ?_⟩
  try walk_at "rd"
  exact isi_t (.own _) (ty_Cut w.params (e1.ins h0)) (is_Cut_Cut w.params) ⟨_, rfl, iteT (q _ e1)⟩
def natNum (row : List Int) : Int := row.foldl (fun n b => n * 256 + b) 0
def spNumberFrom : Sp := fun vs H Q _ => ∃ (a : Addr) (d : List Int), vs = [.ref a, .bl false] ∧ H a = some (.tup (d.map .int)) ∧ Bs d ∧ d.length ≤ 8 ∧ RetV H Q (.int (natNum d.reverse))
theorem ok_number_from (h : MgOk w.params mg) : FnOk P w (K w.params) mg base CX0 1 af_number_from fdf_number_from ["row", "great"] spNumberFrom := by
  refine Fun.ok (sp := spNumberFrom) (Ff_number_from w.params) scf_number_from (fun vs H Q E hs => by first | (obtain ⟨_, rfl, _⟩ := hs; rfl) | (obtain ⟨_, _, rfl, _⟩ := hs; rfl) | (obtain ⟨_, _, _, rfl, _⟩ := hs; rfl) | (obtain ⟨_, _, _, _, rfl, _⟩ := hs; rfl) | (obtain ⟨_, _, _, _, _, rfl, _⟩ := hs; rfl) | (obtain ⟨_, _, _, _, _, _, rfl, _⟩ := hs; rfl) | (obtain ⟨_, _, _, _, _, _, _, rfl, _⟩ := hs; rfl) | (obtain ⟨_, _, _, _, _, _, _, _, rfl, _⟩ := hs; rfl) | (obtain ⟨_, _, _, _, _, _, _, _, _, rfl, _⟩ := hs; rfl) | (obtain ⟨_, _, _, _, _, _, _, _, _, _, rfl, _⟩ := hs; rfl) | (obtain ⟨_, _, _, _, _, _, _, _, _, _, _, rfl, _⟩ := hs; rfl) | (obtain ⟨_, _, _, _, _, _, _, _, _, _, _, _, rfl, _⟩ := hs; rfl) | (obtain ⟨_, _, _, _, _, _, _, _, _, _, _, _, _, rfl, _⟩ := hs; rfl) | (obtain ⟨_, _, _, _, _, _, _, _, _, _, _, _, _, _, rfl, _⟩ := hs; rfl) | (obtain ⟨_, _, _, _, _, _, _, _, _, _, _, _, _, _, _, rfl, _⟩ := hs; rfl) | (obtain ⟨_, _, _, _, _, _, _, _, _, _, _, _, _, _, _, _, rfl, _⟩ := hs; rfl) | (obtain ⟨_, _, _, _, _, _, _, _, _, _, _, _, _, _, _, _, _, rfl, _⟩ := hs; rfl) | (obtain ⟨_, _, _, _, _, _, _, _, _, _, _, _, _, _, _, _, _, _, rfl, _⟩ := hs; rfl) | (obtain ⟨_, _, _, _, _, _, _, _, _, _, _, _, _, _, _, _, _, _, _, rfl, _⟩ := hs; rfl) | (obtain ⟨_, _, _, _, _, _, _, _, _, _, _, _, _, _, _, _, _, _, _, _, rfl, _⟩ := hs; rfl) | (obtain ⟨_, _, _, _, _, _, _, _, _, _, _, _, _, _, _, _, _, _, _, _, _, rfl, _⟩ := hs; rfl)) (fun cdv A outer s H vs Q E hr hq => ?_)
  obtain ⟨a, d, rfl, ha, hb, hl, q⟩ := hq
  refine ⟨_, (pss_cons (ps_set (i := 2) scf_number_from.nd rfl (Or.inl rfl) pe_int)
      (pss_cons (ps_for PassesOwn.never rfl (pi_tup (pe_ifExp (pt_val (pv 1)) (pv 0) (pe_revT (pv 0)))) (pg_name (i := 3) scf_number_from.nd rfl (Or.inl rfl)) (pss_one (ps_set (i := 2) scf_number_from.nd rfl (Or.inl rfl) (pe_op op_add (pe_op op_mul (pv 2) pe_int) (pv 3)))))
      (pss_one (ps_ret (pv 2))))), ?_⟩
  rw [stf_number_from]
  walk_at "rd"
  refine ⟨_, rfl, _, rfl, ?_⟩
  refine iteF ?_
  refine ⟨_, rfl, a, _, rfl, SqT.of ha, fun r nr => ?_⟩
  obtain ⟨H1, H1_eq, e1, h1⟩ := newq (.tup (d.map V.int).reverse) nr
  rw [← H1_eq]
  clear H1_eq
  rw [← List.map_reverse] at h1
  refine ⟨r, rfl, ⟨_, SqT.of h1⟩, ?_⟩
  refine for_it (walk_tup (xs := d.reverse.map V.int)) (fun i σ H' => Ev [] H1 H' ∧ ∃ y, σ = [some (.ref a), some (.bl false), some (.int (natNum (d.reverse.take i))), y]) ⟨Ev.refl _ _, _, rfl⟩ (fun i σ H' _ q => SqT.of (q.1.tup h1)) (fun i x σ H' H'' hi pv y => ?_) (fun σ H' pv => ?_)
  · obtain ⟨rfl, hx⟩ := y
    obtain ⟨e, y, rfl⟩ := pv
    rw [List.getElem?_map] at hx
    obtain ⟨v, hv, rfl⟩ := Option.map_eq_some_iff.mp hx
    try walk_at "rd"
    have : natNum (d.reverse.take (i + 1)) = natNum (d.reverse.take i) * 256 + v := by
      rw [List.take_succ, hv]; simp [natNum]
    exact ⟨.inr ⟨by decide, by decide⟩, e, this.symm, _, rfl⟩
  · obtain ⟨e, y, rfl⟩ := pv
    try walk_at "rd"
    have := q _ (e1.trans e)
    rw [List.take_of_length_le (by simp)]
    exact this
/-- an item's value -/
def valOf (k : KK) (d : List Int) : Int := if k.sg && decide (d.getD (d.length - 1) 0 > 127) then natNum d.reverse - 2 ^ (8 * d.length) else natNum d.reverse
def spValueOf : Sp := fun vs H Q _ => ∃ (k : KK) (a : Addr) (d : List Int), vs = [.str k.str, .ref a, .bl false] ∧ k ≠ .c ∧ H a = some (.tup (d.map .int)) ∧ Bs d ∧ d.length = k.wd ∧ RetV H Q (.int (valOf k d))
theorem ok_value_of (h : MgOk w.params mg) : FnOk P w (K w.params) mg base CX0 2 af_value_of fdf_value_of ["code", "row", "great"] spValueOf := by
  refine Fun.ok (sp := spValueOf) (Ff_value_of w.params) scf_value_of (fun vs H Q E hs => by first | (obtain ⟨_, rfl, _⟩ := hs; rfl) | (obtain ⟨_, _, rfl, _⟩ := hs; rfl) | (obtain ⟨_, _, _, rfl, _⟩ := hs; rfl) | (obtain ⟨_, _, _, _, rfl, _⟩ := hs; rfl) | (obtain ⟨_, _, _, _, _, rfl, _⟩ := hs; rfl) | (obtain ⟨_, _, _, _, _, _, rfl, _⟩ := hs; rfl) | (obtain ⟨_, _, _, _, _, _, _, rfl, _⟩ := hs; rfl) | (obtain ⟨_, _, _, _, _, _, _, _, rfl, _⟩ := hs; rfl) | (obtain ⟨_, _, _, _, _, _, _, _, _, rfl, _⟩ := hs; rfl) | (obtain ⟨_, _, _, _, _, _, _, _, _, _, rfl, _⟩ := hs; rfl) | (obtain ⟨_, _, _, _, _, _, _, _, _, _, _, rfl, _⟩ := hs; rfl) | (obtain ⟨_, _, _, _, _, _, _, _, _, _, _, _, rfl, _⟩ := hs; rfl) | (obtain ⟨_, _, _, _, _, _, _, _, _, _, _, _, _, rfl, _⟩ := hs; rfl) | (obtain ⟨_, _, _, _, _, _, _, _, _, _, _, _, _, _, rfl, _⟩ := hs; rfl) | (obtain ⟨_, _, _, _, _, _, _, _, _, _, _, _, _, _, _, rfl, _⟩ := hs; rfl) | (obtain ⟨_, _, _, _, _, _, _, _, _, _, _, _, _, _, _, _, rfl, _⟩ := hs; rfl) | (obtain ⟨_, _, _, _, _, _, _, _, _, _, _, _, _, _, _, _, _, rfl, _⟩ := hs; rfl) | (obtain ⟨_, _, _, _, _, _, _, _, _, _, _, _, _, _, _, _, _, _, rfl, _⟩ := hs; rfl) | (obtain ⟨_, _, _, _, _, _, _, _, _, _, _, _, _, _, _, _, _, _, _, rfl, _⟩ := hs; rfl) | (obtain ⟨_, _, _, _, _, _, _, _, _, _, _, _, _, _, _, _, _, _, _, _, rfl, _⟩ := hs; rfl) | (obtain ⟨_, _, _, _, _, _, _, _, _, _, _, _, _, _, _, _, _, _, _, _, _, rfl, _⟩ := hs; rfl)) (fun cdv A outer s H vs Q E hr hq => ?_)
  obtain ⟨k, a, d, rfl, hc, ha, hb, hl, q⟩ := hq
  refine ⟨_, (pss_cons (ps_if (pt_cmpR op_in_seq (pv 0) (pe_tup (pa_cons pe_str (pa_cons pe_str pa_nil))) (by rfl)) pss_never pss_nil)
      (pss_cons (ps_if (pt_cmpR op_eq (pv 0) pe_str (nomark _)) pss_never pss_nil)
      (pss_cons (ps_if (pt_cmpR op_eq (pv 0) pe_str (nomark _)) pss_never pss_nil)
      (pss_cons (ps_set (i := 3) scf_value_of.nd rfl (Or.inl rfl) (pe_call (ok_number_from h) (hr.mono (by decide)) (by rfl) (gf_number_from h) (Ff_number_from w.params).kp (bf_number_from w.params) .nil pass0 (pa_cons (pv 1) (pa_cons (pv 2) pa_nil))))
      (pss_cons (ps_if (pt_cmpR op_in_seq (pv 0) (pe_glob (v := .ref 788) (by rfl) (g_FLOAT_CODES h) rfl) (by rfl)) pss_never pss_nil)
      (pss_one (ps_ret (pe_ifExp (PW.pt (pw_and (pt_cmpR op_in_seq (pv 0) (pe_glob (v := .ref 787) (by rfl) (g_BELOW h) rfl) (by rfl)) (pw_and1 (pt_cmpR op_gt (pe_ix ix_tup (pv 1) (pe_ifExp (pt_not (pt_val (pv 2))) (pe_un un_neg pe_int) pe_int) (fun _ _ => rfl)) pe_int (nomark _))))) (pe_op op_sub (pv 3) (pe_op op_shl pe_int (pe_op op_mul pe_int (pe_callB call_len (by rfl) (n_len h) (by decide +kernel) (pa_cons (pv 1) pa_nil))))) (pv 3))))))))), ?_⟩
  rw [stf_value_of]
  walk_at "rd"
  refine ⟨by simp [sizeLine], fun p np => ?_⟩
  obtain ⟨H1, H1_eq, e1, h1⟩ := newq (.tup [V.str "c", V.str "s"]) np
  rw [← H1_eq]
  clear H1_eq
  refine ⟨p, _, rfl, .inr (SqT.of h1), rfl, rfl, ?_⟩
  have n1 : inV (V.str k.str) [V.str "c", V.str "s"] = false := by cases k <;> first | exact absurd rfl hc | decide +kernel
  rw [n1]
  refine ⟨_, rfl, ?_⟩
  try walk_at "rd"
  have n2 : ¬ (k.str = "p") := by cases k <;> decide +kernel
  have n3 : ¬ (k.str = "?") := by cases k <;> decide +kernel
  rw [if_neg n2, if_neg n3]
  refine ⟨a, d, rfl, e1.tup ha, hb, by rw [hl]; exact k.wd8, fun H2 e2 => ?_⟩
  have ha2 := e2.tup (e1.tup ha)
  try walk_at "rd"
  refine ⟨788, _, rfl, .inr t_FLOATS, rfl, rfl, ?_⟩
  rw [k.noFloat]
  refine ⟨_, rfl, ?_⟩
  try walk_at "rd"
  refine ⟨787, _, rfl, .inr t_BELOW, rfl, rfl, ?_⟩
  rw [k.below]
  refine ⟨_, rfl, ?_⟩
  try walk_at "rd"
  have q := q _ (e1.trans e2)
  have h0 := k.wd0
  have hlast : atI (d.map V.int) (-1) = some (.int (d.getD (d.length - 1) 0)) := by
    rcases List.eq_nil_or_concat d with rfl | ⟨xs, x, rfl⟩
    · simp at hl; omega
    · rw [List.concat_eq_append, List.map_append]
      simp only [List.map_cons, List.map_nil]
      rw [atI_last]
      simp
  have hpw : natNum d.reverse - 2 ^ (8 * d.length) = natNum d.reverse - 1 * 2 ^ (8 * (d.length : Int)).toNat := by
    rw [show (8 * (d.length : Int)).toNat = 8 * d.length by omega]; omega
  unfold valOf at q
  cases hk : k.sg with
  | false =>
    rw [hk, Bool.false_and, if_neg (by decide)] at q
    exact iteF q
  | true =>
    refine iteT ⟨a, _, _, _, rfl, rfl, SqT.of ha2, hlast, _, rfl, ?_⟩
    rw [hk, Bool.true_and] at q
    by_cases hg : 127 < d.getD (d.length - 1) 0
    · rw [if_pos hg]
      rw [if_pos (decide_eq_true hg), hpw] at q
      exact ⟨d.length, .inr ⟨_, SqT.of ha2, by simp⟩, .inl ⟨by decide, by decide⟩, ⟨by omega, by have := k.wd8; omega, by decide⟩, q⟩
    · rw [if_neg hg]
      rw [if_neg (by rw [decide_eq_false hg]; decide)] at q
      exact q
def spValueOfC : Sp := fun vs H Q _ => ∃ (a : Addr) (xs : List V), vs = [.str "c", .ref a, .bl false] ∧ H a = some (.tup xs) ∧ RetV H Q (.ref a)
theorem ok_value_of_c (h : MgOk w.params mg) : FnOk P w (K w.params) mg base CX0 1 af_value_of fdf_value_of ["code", "row", "great"] spValueOfC := by
  refine Fun.ok (sp := spValueOfC) (Ff_value_of w.params) scf_value_of (fun vs H Q E hs => by first | (obtain ⟨_, rfl, _⟩ := hs; rfl) | (obtain ⟨_, _, rfl, _⟩ := hs; rfl) | (obtain ⟨_, _, _, rfl, _⟩ := hs; rfl) | (obtain ⟨_, _, _, _, rfl, _⟩ := hs; rfl) | (obtain ⟨_, _, _, _, _, rfl, _⟩ := hs; rfl) | (obtain ⟨_, _, _, _, _, _, rfl, _⟩ := hs; rfl) | (obtain ⟨_, _, _, _, _, _, _, rfl, _⟩ := hs; rfl) | (obtain ⟨_, _, _, _, _, _, _, _, rfl, _⟩ := hs; rfl) | (obtain ⟨_, _, _, _, _, _, _, _, _, rfl, _⟩ := hs; rfl) | (obtain ⟨_, _, _, _, _, _, _, _, _, _, rfl, _⟩ := hs; rfl) | (obtain ⟨_, _, _, _, _, _, _, _, _, _, _, rfl, _⟩ := hs; rfl) | (obtain ⟨_, _, _, _, _, _, _, _, _, _, _, _, rfl, _⟩ := hs; rfl) | (obtain ⟨_, _, _, _, _, _, _, _, _, _, _, _, _, rfl, _⟩ := hs; rfl) | (obtain ⟨_, _, _, _, _, _, _, _, _, _, _, _, _, _, rfl, _⟩ := hs; rfl) | (obtain ⟨_, _, _, _, _, _, _, _, _, _, _, _, _, _, _, rfl, _⟩ := hs; rfl) | (obtain ⟨_, _, _, _, _, _, _, _, _, _, _, _, _, _, _, _, rfl, _⟩ := hs; rfl) | (obtain ⟨_, _, _, _, _, _, _, _, _, _, _, _, _, _, _, _, _, rfl, _⟩ := hs; rfl) | (obtain ⟨_, _, _, _, _, _, _, _, _, _, _, _, _, _, _, _, _, _, rfl, _⟩ := hs; rfl) | (obtain ⟨_, _, _, _, _, _, _, _, _, _, _, _, _, _, _, _, _, _, _, rfl, _⟩ := hs; rfl) | (obtain ⟨_, _, _, _, _, _, _, _, _, _, _, _, _, _, _, _, _, _, _, _, rfl, _⟩ := hs; rfl) | (obtain ⟨_, _, _, _, _, _, _, _, _, _, _, _, _, _, _, _, _, _, _, _, _, rfl, _⟩ := hs; rfl)) (fun cdv A outer s H vs Q E hr hq => ?_)
  obtain ⟨a, xs, rfl, ha, q⟩ := hq
  refine ⟨_, (pss_cons (ps_if (pt_cmpR op_in_seq (pv 0) (pe_tup (pa_cons pe_str (pa_cons pe_str pa_nil))) (by rfl)) (pss_one (ps_ret (pv 1))) pss_nil)
      pss_never), ?_⟩
  rw [stf_value_of]
  walk_at "rd"
  refine ⟨by simp [sizeLine], fun p np => ?_⟩
  obtain ⟨H1, H1_eq, e1, h1⟩ := newq (.tup [V.str "c", V.str "s"]) np
  rw [← H1_eq]
  clear H1_eq
  refine ⟨p, _, rfl, .inr (SqT.of h1), rfl, rfl, ?_⟩
  rw [show inV (V.str "c") [V.str "c", V.str "s"] = true by decide +kernel]
  exact ⟨_, rfl, iteT (q _ e1)⟩
end VL
end
section
set_option linter.all false
set_option maxRecDepth 100000
set_option maxHeartbeats 4000000
namespace VL
open PySem PySem.Spec PyProof.Rows L2 RZ
local macro_rules | `(tactic| walk_at "rd") => `(tactic| (simp only [tVar, tC, tOp, tUn, tTest, tB, tAnd, tOr, tNot, tAndV, tOrV, tNotV, tIf, tIfS, tSeq, tAsg, gName, tRet, tRetN, tDrop, tNext, rI, rI0, rU, rEq, rNe, scal, tCons, tNil, tCB, t2I, tChain, tCall, tMeth, tPar, tPar3, tFld, tTup, tLst, iTup, iList, iRng1, tPart, tNoPart, tBM, tBM0, tMake, cxK, noxK, L2.wipe,
  List.append_nil, List.nil_append, List.cons_append, List.map_cons, List.map_nil, List.getElem?_cons_zero, List.getElem?_cons_succ, List.getElem?_nil, List.set_cons_zero, List.set_cons_succ, Option.some.injEq, V.int.injEq, V.bl.injEq, V.str.injEq, V.ref.injEq, exists_and_left, exists_eq_left', exists_eq_left, true_and, and_true, List.cons.injEq, if_true, if_false, Bool.false_eq_true, Bool.not_true, Bool.not_false, decide_eq_true_eq, and_assoc]))
variable {P : Program} {w : World} {mg : Str → Option Value} {base : Heap}
theorem cutV_row {cs : List Int} {p : Int} {wd : Nat} (h : InB cs p wd) : cutV (cs.map V.int) (some p) (some (p + wd)) = (rowOf cs p wd).map V.int := by
  obtain ⟨h0, h1⟩ := h
  obtain ⟨n, rfl⟩ := Int.eq_ofNat_of_zero_le h0
  have l1 : n ≤ cs.length := by omega
  have l2 : n + wd ≤ cs.length := by omega
  have e1 : HT.sIx (cs.map V.int).length 0 (some (n : Int)) = n := by rw [HT.sIx_nat]; simp; omega
  have e2 : HT.sIx (cs.map V.int).length (cs.map V.int).length (some ((n : Int) + wd)) = n + wd := by rw [show (n : Int) + (wd : Int) = ((n + wd : Nat) : Int) by omega, HT.sIx_nat]; simp; omega
  unfold cutV
  rw [e1, e2]
  apply List.ext_getElem
  · simp [rowOf]; omega
  · intro i a b
    simp [rowOf] at a b ⊢
    have : n + i < cs.length := by omega
    rw [show ((n : Int) + (i : Int)).toNat = n + i by omega]
    simp [List.getD, this]
theorem rowOf_length {cs : List Int} {p : Int} {wd : Nat} : (rowOf cs p wd).length = wd := by simp [rowOf]
theorem rowOf_bs {cs : List Int} {p : Int} {wd : Nat} (h : Bs cs) (hb : InB cs p wd) : Bs (rowOf cs p wd) := fun x hx => by
  simp [rowOf] at hx
  obtain ⟨k, hk, rfl⟩ := hx
  have : (p + k).toNat < cs.length := by have := hb.1; have := hb.2; omega
  rw [List.getElem?_eq_getElem this]
  exact h _ (List.getElem_mem this)
/-- an item as it stands in the heap -/
def ItemV (H : Hp) (k : KK) (d : List Int) (v : V) : Prop := (k ≠ .c ∧ v = .int (valOf k d)) ∨ (k = .c ∧ ∃ a, v = .ref a ∧ H a = some (.tup (d.map .int)))
theorem ItemV.ev {X : List Addr} {H H' : Hp} {k : KK} {d : List Int} {v : V} (h : ItemV H k d v) (e : Ev X H H') : ItemV H' k d v := by
  rcases h with h | ⟨h, a, rfl, ha⟩
  · exact .inl h
  · exact .inr ⟨h, a, rfl, e.tup ha⟩
theorem lcInts {Kk : PySem.W.Frag} {σ : L2.St} {H : Hp} {Q : VK} {i j : Nat} {a : Addr} {d : List Int} (hj : ∀ v, ((σ.set i none).set i v)[j]? = some (some (.ref a)) ∧ σ[j]? = some (some (.ref a))) (hi : i < σ.length) (ha : H a = some (.tup (d.map .int))) (hl : d.length < 10000)
    (q : ∀ H' D, Ev [] H H' → H D = none → H' D = some (.lst (d.map .int)) → Q (.ref D) H') :
    tLc (iTup Kk (tVar j)) (gName i) tYes (tCB (fun xs H Q => (∃ i, xs = [V.int i] ∧ Q (V.int i) H) ∨ ∃ k, xs = [V.bl k] ∧ Q (V.int (if k = true then 1 else 0)) H) (tCons (tVar i) tNil)) [i] σ H Q := by
  refine ⟨_, (hj none).2, a, rfl, ⟨_, SqT.of ha⟩, fun D nD => lc_fn (X := []) walk_tup (fun i => (d.map V.int).getD i .non) (line_of (by simp; omega)) (Ev.refl _ _) nD (by simp) (fun H e => SqT.of (e.tup ha)) (fun t x H' H'' N hi' e y k => ?_) (fun H' e hD => ?_)⟩
  · obtain ⟨rfl, hx⟩ := y
    rw [List.getElem?_map] at hx
    obtain ⟨v, hv, rfl⟩ := Option.map_eq_some_iff.mp hx
    have := k _ (Ev.refl _ _)
    refine ⟨by simp [wipe], V.int v, by simp [wipe, hi], .inl ⟨v, rfl, ?_⟩⟩
    simpa [hv] using this
  · refine q _ _ e nD ?_
    rw [hD]
    congr 2
    apply List.ext_getElem (by simp)
    intro i h1 h2
    simp at h2
    simp [h2]
def spReadItem : Sp := fun vs H Q _ => ∃ (k : KK) (a : Addr) (d : List Int), vs = [.str k.str, .ref a] ∧ H a = some (.tup (d.map .int)) ∧ Bs d ∧ d.length = k.wd ∧ ∀ H' v, Ev [] H H' → ItemV H' k d v → Q v H'
theorem ok_read_item (h : MgOk w.params mg) : FnOk P w (K w.params) mg base CX0 3 af_read_item fdf_read_item ["layout", "data"] spReadItem := by
  refine Fun.ok (sp := spReadItem) (Ff_read_item w.params) scf_read_item (fun vs H Q E hs => by first | (obtain ⟨_, rfl, _⟩ := hs; rfl) | (obtain ⟨_, _, rfl, _⟩ := hs; rfl) | (obtain ⟨_, _, _, rfl, _⟩ := hs; rfl) | (obtain ⟨_, _, _, _, rfl, _⟩ := hs; rfl) | (obtain ⟨_, _, _, _, _, rfl, _⟩ := hs; rfl) | (obtain ⟨_, _, _, _, _, _, rfl, _⟩ := hs; rfl) | (obtain ⟨_, _, _, _, _, _, _, rfl, _⟩ := hs; rfl) | (obtain ⟨_, _, _, _, _, _, _, _, rfl, _⟩ := hs; rfl) | (obtain ⟨_, _, _, _, _, _, _, _, _, rfl, _⟩ := hs; rfl) | (obtain ⟨_, _, _, _, _, _, _, _, _, _, rfl, _⟩ := hs; rfl) | (obtain ⟨_, _, _, _, _, _, _, _, _, _, _, rfl, _⟩ := hs; rfl) | (obtain ⟨_, _, _, _, _, _, _, _, _, _, _, _, rfl, _⟩ := hs; rfl) | (obtain ⟨_, _, _, _, _, _, _, _, _, _, _, _, _, rfl, _⟩ := hs; rfl) | (obtain ⟨_, _, _, _, _, _, _, _, _, _, _, _, _, _, rfl, _⟩ := hs; rfl) | (obtain ⟨_, _, _, _, _, _, _, _, _, _, _, _, _, _, _, rfl, _⟩ := hs; rfl) | (obtain ⟨_, _, _, _, _, _, _, _, _, _, _, _, _, _, _, _, rfl, _⟩ := hs; rfl) | (obtain ⟨_, _, _, _, _, _, _, _, _, _, _, _, _, _, _, _, _, rfl, _⟩ := hs; rfl) | (obtain ⟨_, _, _, _, _, _, _, _, _, _, _, _, _, _, _, _, _, _, rfl, _⟩ := hs; rfl) | (obtain ⟨_, _, _, _, _, _, _, _, _, _, _, _, _, _, _, _, _, _, _, rfl, _⟩ := hs; rfl) | (obtain ⟨_, _, _, _, _, _, _, _, _, _, _, _, _, _, _, _, _, _, _, _, rfl, _⟩ := hs; rfl) | (obtain ⟨_, _, _, _, _, _, _, _, _, _, _, _, _, _, _, _, _, _, _, _, _, rfl, _⟩ := hs; rfl)) (fun cdv A outer s H vs Q E hr hq => ?_)
  obtain ⟨k, a, d, rfl, ha, hb, hl, q⟩ := hq
  have hw := k.wd8
  by_cases hc : k = .c
  · subst hc
    refine ⟨_, (pss_one (ps_ret (pe_call (ok_value_of_c h) (hr.mono (by decide)) (by rfl) (gf_value_of h) (Ff_value_of w.params).kp (bf_value_of w.params) .nil pass0 (pa_cons (pe_call (ok_native_code h) (hr.mono (by decide)) (by rfl) (gf_native_code h) (Ff_native_code w.params).kp (bf_native_code w.params) .nil pass0 (pa_cons (pv 0) pa_nil)) (pa_cons (pe_callTy call_tuple_of (by rfl) (n_tuple h) (by decide +kernel) (pa_cons (pe_lc (own := [("byte", 2)]) (te := _) rfl scf_read_item.nd (pi_tup (pv 1)) (blkOk_by (N := ["layout", "data", "byte"]) (own := [("byte", 2)]) (sc := defScope sf_read_item) (by decide +kernel)) (fun _ _ _ _ _ => (pg_name (i := 2) scf_read_item.nd rfl (Or.inl rfl))) (fun _ _ _ _ _ => pts_nil) (fun _ _ _ _ _ => (pe_callTy call_int1 (by rfl) (n_int h) (by decide +kernel) (pa_cons (pv 2) pa_nil)))) pa_nil)) (pa_cons pe_bl pa_nil)))))), ?_⟩
    rw [stf_read_item]
    walk_at "rd"
    refine ⟨.c, rfl, fun H1 e1 => ?_⟩
    have ha1 := e1.tup ha
    try walk_at "rd"
    refine lcInts (fun v => ⟨rfl, rfl⟩) (by simp) ha1 (by omega) fun H2 D e2 nD hD => ?_
    refine ⟨D, rfl, _, .inl ⟨SqL.of hD, fun l nl => ?_⟩⟩
    obtain ⟨H3, H3_eq, e3, h3⟩ := newq (.tup (d.map V.int)) nl
    rw [← H3_eq]
    clear H3_eq
    exact ⟨l, _, rfl, h3, fun H4 e4 => q _ _ (((e1.trans e2).trans e3).trans e4) (.inr ⟨rfl, l, rfl, e4.tup h3⟩)⟩
  · refine ⟨_, (pss_one (ps_ret (pe_call (ok_value_of h) (hr.mono (by decide)) (by rfl) (gf_value_of h) (Ff_value_of w.params).kp (bf_value_of w.params) .nil pass0 (pa_cons (pe_call (ok_native_code h) (hr.mono (by decide)) (by rfl) (gf_native_code h) (Ff_native_code w.params).kp (bf_native_code w.params) .nil pass0 (pa_cons (pv 0) pa_nil)) (pa_cons (pe_callTy call_tuple_of (by rfl) (n_tuple h) (by decide +kernel) (pa_cons (pe_lc (own := [("byte", 2)]) (te := _) rfl scf_read_item.nd (pi_tup (pv 1)) (blkOk_by (N := ["layout", "data", "byte"]) (own := [("byte", 2)]) (sc := defScope sf_read_item) (by decide +kernel)) (fun _ _ _ _ _ => (pg_name (i := 2) scf_read_item.nd rfl (Or.inl rfl))) (fun _ _ _ _ _ => pts_nil) (fun _ _ _ _ _ => (pe_callTy call_int1 (by rfl) (n_int h) (by decide +kernel) (pa_cons (pv 2) pa_nil)))) pa_nil)) (pa_cons pe_bl pa_nil)))))), ?_⟩
    rw [stf_read_item]
    walk_at "rd"
    refine ⟨k, rfl, fun H1 e1 => ?_⟩
    have ha1 := e1.tup ha
    try walk_at "rd"
    refine lcInts (fun v => ⟨rfl, rfl⟩) (by simp) ha1 (by omega) fun H2 D e2 nD hD => ?_
    refine ⟨D, rfl, _, .inl ⟨SqL.of hD, fun l nl => ?_⟩⟩
    obtain ⟨H3, H3_eq, e3, h3⟩ := newq (.tup (d.map V.int)) nl
    rw [← H3_eq]
    clear H3_eq
    exact ⟨k, l, d, rfl, hc, h3, hb, hl, fun H4 e4 => q _ _ (((e1.trans e2).trans e3).trans e4) (.inl ⟨hc, rfl⟩)⟩
def spItemAt : Sp := fun vs H Q _ => ∃ (k : KK) (m c : Addr) (cs : List Int) (pl : Int), vs = [.ref m, .int pl, .str k.str] ∧ MemAt H m c ∧ H c = some (.lst (cs.map .int)) ∧ Bs cs ∧ InB cs pl k.wd ∧ ∀ H' v, Ev [] H H' → ItemV H' k (rowOf cs pl k.wd) v → Q v H'
theorem ok_item_at (h : MgOk w.params mg) : FnOk P w (K w.params) mg base CX0 4 af_item_at fdf_item_at ["memory", "place", "kind"] spItemAt := by
  refine Fun.ok (sp := spItemAt) (Ff_item_at w.params) scf_item_at (fun vs H Q E hs => by first | (obtain ⟨_, rfl, _⟩ := hs; rfl) | (obtain ⟨_, _, rfl, _⟩ := hs; rfl) | (obtain ⟨_, _, _, rfl, _⟩ := hs; rfl) | (obtain ⟨_, _, _, _, rfl, _⟩ := hs; rfl) | (obtain ⟨_, _, _, _, _, rfl, _⟩ := hs; rfl) | (obtain ⟨_, _, _, _, _, _, rfl, _⟩ := hs; rfl) | (obtain ⟨_, _, _, _, _, _, _, rfl, _⟩ := hs; rfl) | (obtain ⟨_, _, _, _, _, _, _, _, rfl, _⟩ := hs; rfl) | (obtain ⟨_, _, _, _, _, _, _, _, _, rfl, _⟩ := hs; rfl) | (obtain ⟨_, _, _, _, _, _, _, _, _, _, rfl, _⟩ := hs; rfl) | (obtain ⟨_, _, _, _, _, _, _, _, _, _, _, rfl, _⟩ := hs; rfl) | (obtain ⟨_, _, _, _, _, _, _, _, _, _, _, _, rfl, _⟩ := hs; rfl) | (obtain ⟨_, _, _, _, _, _, _, _, _, _, _, _, _, rfl, _⟩ := hs; rfl) | (obtain ⟨_, _, _, _, _, _, _, _, _, _, _, _, _, _, rfl, _⟩ := hs; rfl) | (obtain ⟨_, _, _, _, _, _, _, _, _, _, _, _, _, _, _, rfl, _⟩ := hs; rfl) | (obtain ⟨_, _, _, _, _, _, _, _, _, _, _, _, _, _, _, _, rfl, _⟩ := hs; rfl) | (obtain ⟨_, _, _, _, _, _, _, _, _, _, _, _, _, _, _, _, _, rfl, _⟩ := hs; rfl) | (obtain ⟨_, _, _, _, _, _, _, _, _, _, _, _, _, _, _, _, _, _, rfl, _⟩ := hs; rfl) | (obtain ⟨_, _, _, _, _, _, _, _, _, _, _, _, _, _, _, _, _, _, _, rfl, _⟩ := hs; rfl) | (obtain ⟨_, _, _, _, _, _, _, _, _, _, _, _, _, _, _, _, _, _, _, _, rfl, _⟩ := hs; rfl) | (obtain ⟨_, _, _, _, _, _, _, _, _, _, _, _, _, _, _, _, _, _, _, _, _, rfl, _⟩ := hs; rfl)) (fun cdv A outer s H vs Q E hr hq => ?_)
  obtain ⟨k, m, c, cs, pl, rfl, hm, hc, hb, hi, q⟩ := hq
  refine ⟨_, (pss_one (ps_ret (pe_call (ok_read_item h) (hr.mono (by decide)) (by rfl) (gf_read_item h) (Ff_read_item w.params).kp (bf_read_item w.params) .nil pass0 (pa_cons (pv 2) (pa_cons (pe_callTy call_tuple_of (by rfl) (n_tuple h) (by decide +kernel) (pa_cons (pe_slice sl_list (pe_fld (pv 0) rfl) (po_some (pv 1)) (po_some (pe_op op_add (pv 1) (pe_call (ok_item_size h) (hr.mono (by decide)) (by rfl) (gf_item_size h) (Ff_item_size w.params).kp (bf_item_size w.params) .nil pass0 (pa_cons (pv 2) pa_nil))))) pa_nil)) pa_nil))))), ?_⟩
  rw [stf_item_at]
  walk_at "rd"
  obtain ⟨dm, hm0⟩ := id hm
  refine ⟨_, rfl, m, _, _, _, _, rfl, hm0, cl_Memory w.params, na_Memory_cells w.params, rfl, _, rfl, pl, rfl, _, rfl, _, rfl, k, rfl, fun H1 e1 => ⟨_, _, rfl, rfl, _, rfl, c, _, rfl, SqL.of (e1.lst hc), fun p np => ?_⟩⟩
  rw [cutV_row hi]
  obtain ⟨H2, H2_eq, e2, h2⟩ := newq (.lst ((rowOf cs pl k.wd).map V.int)) np
  rw [← H2_eq]
  clear H2_eq
  refine ⟨p, rfl, _, .inl ⟨SqL.of h2, fun l nl => ?_⟩⟩
  obtain ⟨H3, H3_eq, e3, h3⟩ := newq (.tup ((rowOf cs pl k.wd).map V.int)) nl
  rw [← H3_eq]
  clear H3_eq
  exact ⟨k, l, _, rfl, h3, rowOf_bs hb hi, rowOf_length, fun H4 v e4 hv => q _ _ (((e1.trans e2).trans e3).trans e4) hv⟩
end VL
end
section
set_option linter.all false
set_option maxRecDepth 100000
set_option maxHeartbeats 4000000
namespace VL
open PySem PySem.Spec PyProof.Rows L2 RZ
local macro_rules | `(tactic| walk_at "rd") => `(tactic| (simp only [tVar, tC, tOp, tUn, tTest, tB, tAnd, tOr, tNot, tAndV, tOrV, tNotV, tIf, tIfS, tSeq, tAsg, gName, tRet, tRetN, tDrop, tNext, rI, rI0, rU, rEq, rNe, scal, tCons, tNil, tCB, t2I, tChain, tCall, tMeth, tPar, tPar3, tFld, tTup, tLst, iTup, iList, iRng1, tPart, tNoPart, tBM, tBM0, tMake, cxK, noxK, L2.wipe,
  List.append_nil, List.nil_append, List.cons_append, List.map_cons, List.map_nil, List.getElem?_cons_zero, List.getElem?_cons_succ, List.getElem?_nil, List.set_cons_zero, List.set_cons_succ, Option.some.injEq, V.int.injEq, V.bl.injEq, V.str.injEq, V.ref.injEq, exists_and_left, exists_eq_left', exists_eq_left, true_and, and_true, List.cons.injEq, if_true, if_false, Bool.false_eq_true, Bool.not_true, Bool.not_false, decide_eq_true_eq, and_assoc]))
variable {P : Program} {w : World} {mg : Str → Option Value} {base : Heap}
section
variable {Kk : PySem.W.Frag} {H : Hp} {Q : VK} {z p : Addr}
theorem eqD_00 (hz : H z = some (.tup [])) (hp : H p = some (.tup [])) (q : Q (.bl true) H) : rEqD Kk (.ref z) (.ref p) H Q :=
  ⟨.tuple [], .tuple [], .tup (SqT.of hz) .nil, .tup (SqT.of hp) .nil, rfl, rfl, by rw [show PyData.eqv (.tuple []) (.tuple []) = true by decide +kernel]; exact q⟩
theorem eqD_10 {n : Int} (hz : H z = some (.tup [.int n])) (hp : H p = some (.tup [])) (q : Q (.bl false) H) : rEqD Kk (.ref z) (.ref p) H Q :=
  ⟨.tuple [.int n], .tuple [], .tup (SqT.of hz) (.cons (.int n) .nil), .tup (SqT.of hp) .nil, rfl, rfl, q⟩
/-- t[1:] of a tuple of one -/
theorem sl1 {a : Addr} {v : V} (ha : H a = some (.tup [v])) (q : ∀ p H', Ev [] H H' → H' p = some (.tup []) → Q (.ref p) H') : rSlA Kk (.ref a) (some 1) none H Q :=
  ⟨a, _, rfl, SqT.of ha, fun z => by simp [HT.sIx] at z, fun _ p np => q p _ (Ev.new np) upd_same⟩
end
/-- a cell's item, no dimension left -/
def spNestLeaf : Sp := fun vs H Q _ => ∃ (k : KK) (m c z t : Addr) (cs : List Int) (pl : Int), vs = [.ref m, .int pl, .str k.str, .ref z, .ref t] ∧ H z = some (.tup []) ∧ MemAt H m c ∧ H c = some (.lst (cs.map .int)) ∧ Bs cs ∧ InB cs pl k.wd ∧
  ∀ H' v, Ev [] H H' → ItemV H' k (rowOf cs pl k.wd) v → Q v H'
theorem ok_nested_items_leaf (h : MgOk w.params mg) : FnOk P w (K w.params) mg base CX0 5 af_nested_items fdf_nested_items ["memory", "place", "kind", "sizes", "steps"] spNestLeaf := by
  refine Fun.ok (sp := spNestLeaf) (Ff_nested_items w.params) scf_nested_items (fun vs H Q E hs => by first | (obtain ⟨_, rfl, _⟩ := hs; rfl) | (obtain ⟨_, _, rfl, _⟩ := hs; rfl) | (obtain ⟨_, _, _, rfl, _⟩ := hs; rfl) | (obtain ⟨_, _, _, _, rfl, _⟩ := hs; rfl) | (obtain ⟨_, _, _, _, _, rfl, _⟩ := hs; rfl) | (obtain ⟨_, _, _, _, _, _, rfl, _⟩ := hs; rfl) | (obtain ⟨_, _, _, _, _, _, _, rfl, _⟩ := hs; rfl) | (obtain ⟨_, _, _, _, _, _, _, _, rfl, _⟩ := hs; rfl) | (obtain ⟨_, _, _, _, _, _, _, _, _, rfl, _⟩ := hs; rfl) | (obtain ⟨_, _, _, _, _, _, _, _, _, _, rfl, _⟩ := hs; rfl) | (obtain ⟨_, _, _, _, _, _, _, _, _, _, _, rfl, _⟩ := hs; rfl) | (obtain ⟨_, _, _, _, _, _, _, _, _, _, _, _, rfl, _⟩ := hs; rfl) | (obtain ⟨_, _, _, _, _, _, _, _, _, _, _, _, _, rfl, _⟩ := hs; rfl) | (obtain ⟨_, _, _, _, _, _, _, _, _, _, _, _, _, _, rfl, _⟩ := hs; rfl) | (obtain ⟨_, _, _, _, _, _, _, _, _, _, _, _, _, _, _, rfl, _⟩ := hs; rfl) | (obtain ⟨_, _, _, _, _, _, _, _, _, _, _, _, _, _, _, _, rfl, _⟩ := hs; rfl) | (obtain ⟨_, _, _, _, _, _, _, _, _, _, _, _, _, _, _, _, _, rfl, _⟩ := hs; rfl) | (obtain ⟨_, _, _, _, _, _, _, _, _, _, _, _, _, _, _, _, _, _, rfl, _⟩ := hs; rfl) | (obtain ⟨_, _, _, _, _, _, _, _, _, _, _, _, _, _, _, _, _, _, _, rfl, _⟩ := hs; rfl) | (obtain ⟨_, _, _, _, _, _, _, _, _, _, _, _, _, _, _, _, _, _, _, _, rfl, _⟩ := hs; rfl) | (obtain ⟨_, _, _, _, _, _, _, _, _, _, _, _, _, _, _, _, _, _, _, _, _, rfl, _⟩ := hs; rfl)) (fun cdv A outer s H vs Q E hr hq => ?_)
  obtain ⟨k, m, c, z, t, cs, pl, rfl, hz, hm, hc, hb, hi, q⟩ := hq
  refine ⟨_, (pss_cons (ps_if (pt_cmpR (op_eqD hr.units) (pv 3) (pe_tup pa_nil) (nomark _)) (pss_one (ps_ret (pe_call (ok_item_at h) (hr.mono (by decide)) (by rfl) (gf_item_at h) (Ff_item_at w.params).kp (bf_item_at w.params) .nil pass0 (pa_cons (pv 0) (pa_cons (pv 1) (pa_cons (pv 2) pa_nil)))))) pss_nil)
      pss_never), ?_⟩
  rw [stf_nested_items]
  walk_at "rd"
  refine ⟨by simp [sizeLine], fun p np => ?_⟩
  obtain ⟨H1, H1_eq, e1, h1⟩ := newq (.tup []) np
  rw [← H1_eq]
  clear H1_eq
  exact eqD_00 (e1.tup hz) h1 ⟨_, rfl, iteT ⟨k, m, c, cs, pl, rfl, hm.ev e1, e1.lst hc, hb, hi, fun H2 v e2 hv => q _ _ (e1.trans e2) hv⟩⟩
def ItemsV (H : Hp) (k : KK) (cs : List Int) (p : Pl) (ys : List V) : Prop := ys.length = p.n ∧ ∀ (i : Nat) (y : V), ys[i]? = some y → ItemV H k (rowOf cs (p.pl + i * p.s) p.wd) y
def spNest : Sp := fun vs H Q _ => ∃ (k : KK) (p : Pl) (cs : List Int), vs = [.ref p.m, .int p.pl, .str p.kd, .ref p.sz, .ref p.st] ∧ p.kd = k.str ∧ p.wd = k.wd ∧ PlOk H p ∧ H p.c = some (.lst (cs.map .int)) ∧ Bs cs ∧ PlIn cs p ∧
  ∀ H' D ys, Ev [] H H' → H D = none → H' D = some (.lst ys) → ItemsV H' k cs p ys → Q (.ref D) H'
theorem ok_nested_items (h : MgOk w.params mg) : FnOk P w (K w.params) mg base CX0 6 af_nested_items fdf_nested_items ["memory", "place", "kind", "sizes", "steps"] spNest := by
  refine Fun.ok (sp := spNest) (Ff_nested_items w.params) scf_nested_items (fun vs H Q E hs => by first | (obtain ⟨_, rfl, _⟩ := hs; rfl) | (obtain ⟨_, _, rfl, _⟩ := hs; rfl) | (obtain ⟨_, _, _, rfl, _⟩ := hs; rfl) | (obtain ⟨_, _, _, _, rfl, _⟩ := hs; rfl) | (obtain ⟨_, _, _, _, _, rfl, _⟩ := hs; rfl) | (obtain ⟨_, _, _, _, _, _, rfl, _⟩ := hs; rfl) | (obtain ⟨_, _, _, _, _, _, _, rfl, _⟩ := hs; rfl) | (obtain ⟨_, _, _, _, _, _, _, _, rfl, _⟩ := hs; rfl) | (obtain ⟨_, _, _, _, _, _, _, _, _, rfl, _⟩ := hs; rfl) | (obtain ⟨_, _, _, _, _, _, _, _, _, _, rfl, _⟩ := hs; rfl) | (obtain ⟨_, _, _, _, _, _, _, _, _, _, _, rfl, _⟩ := hs; rfl) | (obtain ⟨_, _, _, _, _, _, _, _, _, _, _, _, rfl, _⟩ := hs; rfl) | (obtain ⟨_, _, _, _, _, _, _, _, _, _, _, _, _, rfl, _⟩ := hs; rfl) | (obtain ⟨_, _, _, _, _, _, _, _, _, _, _, _, _, _, rfl, _⟩ := hs; rfl) | (obtain ⟨_, _, _, _, _, _, _, _, _, _, _, _, _, _, _, rfl, _⟩ := hs; rfl) | (obtain ⟨_, _, _, _, _, _, _, _, _, _, _, _, _, _, _, _, rfl, _⟩ := hs; rfl) | (obtain ⟨_, _, _, _, _, _, _, _, _, _, _, _, _, _, _, _, _, rfl, _⟩ := hs; rfl) | (obtain ⟨_, _, _, _, _, _, _, _, _, _, _, _, _, _, _, _, _, _, rfl, _⟩ := hs; rfl) | (obtain ⟨_, _, _, _, _, _, _, _, _, _, _, _, _, _, _, _, _, _, _, rfl, _⟩ := hs; rfl) | (obtain ⟨_, _, _, _, _, _, _, _, _, _, _, _, _, _, _, _, _, _, _, _, rfl, _⟩ := hs; rfl) | (obtain ⟨_, _, _, _, _, _, _, _, _, _, _, _, _, _, _, _, _, _, _, _, _, rfl, _⟩ := hs; rfl)) (fun cdv A outer s H vs Q E hr hq => ?_)
  obtain ⟨k, p, cs, rfl, hk, hw, hp, hc, hb, hi, q⟩ := hq
  refine ⟨_, (pss_cons (ps_if (pt_cmpR (op_eqD hr.units) (pv 3) (pe_tup pa_nil) (nomark _)) pss_never pss_nil)
      (pss_one (ps_ret (pe_lc (own := [("k", 5)]) (te := (tCall _ _ _ (tCons (tVar 0) (tCons (tOp _ (tVar 1) (tOp _ (tVar 5) (tOp (rIxT (K w.params)) (tVar 4) _))) (tCons (tVar 2) (tCons (tSl (rSlA (K w.params)) (tVar 3) (tPart _) tNoPart) (tCons (tSl (rSlA (K w.params)) (tVar 4) (tPart _) tNoPart) tNil))))))) rfl scf_nested_items.nd (pi_range1 rfl (n_range h) (pa_cons (pe_ix ix_tup (pv 3) pe_int (fun _ _ => rfl)) pa_nil)) (blkOk_by (N := ["memory", "place", "kind", "sizes", "steps", "k"]) (own := [("k", 5)]) (sc := defScope sf_nested_items) (by decide +kernel)) (fun _ _ _ _ _ => (pg_name (i := 5) scf_nested_items.nd rfl (Or.inl rfl))) (fun _ _ _ _ _ => pts_nil) (fun _ _ _ _ _ => (pe_call (ok_nested_items_leaf h) (hr.mono (by decide)) (by rfl) (gf_nested_items h) (Ff_nested_items w.params).kp (bf_nested_items w.params) .nil pass0 (pa_cons (pv 0) (pa_cons (pe_op op_add (pv 1) (pe_op op_mul (pv 5) (pe_ix ix_tup (pv 4) pe_int (fun _ _ => rfl)))) (pa_cons (pv 2) (pa_cons (pe_slice sl_tupA (pv 3) (po_some pe_int) po_none) (pa_cons (pe_slice sl_tupA (pv 4) (po_some pe_int) po_none) pa_nil))))))))))), ?_⟩
  rw [stf_nested_items]
  walk_at "rd"
  refine ⟨by simp [sizeLine], fun t nt => ?_⟩
  obtain ⟨H1, H1_eq, e1, h1⟩ := newq (.tup []) nt
  rw [← H1_eq]
  clear H1_eq
  have hp1 := hp.ev e1
  refine eqD_10 hp1.2.1 h1 ⟨_, rfl, iteF ?_⟩
  refine ⟨_, rfl, p.sz, _, 0, _, rfl, rfl, SqT.of hp1.2.1, rfl, (p.n : Int), rfl, by have := hi.2.1; omega, by have := hi.2.1; omega, fun D nD => ?_⟩
  rw [Int.toNat_natCast]
  refine lc_rel (X := []) walk_range (fun (i : Nat) y H => ItemV H k (rowOf cs (p.pl + i * p.s) p.wd) y) (line_of (by have := hi.2.1; omega)) (Ev.refl _ _) nD (by simp) (fun i y H H' Z ez _ k => k.ev ez) (fun _ _ => trivial) (fun i x H2 H3 N hlt e2 y kk => ?_) (fun H2 ys e2 hD hl kk => ?_)
  · obtain ⟨rfl, rfl⟩ := y
    have hp2 := hp1.ev e2
    have hin : InB cs (p.pl + (i : Nat) * p.s) k.wd := by
      rw [← hw]; exact hi.1 _ (by simp [adr]; exact ⟨i, hlt, rfl⟩)
    try walk_at "rd"
    refine ⟨p.st, _, 0, _, rfl, rfl, SqT.of hp2.2.2, rfl, ?_⟩
    try walk_at "rd"
    have := hi.2.1
    refine ⟨.inl ⟨by omega, by omega⟩, ?_⟩
    refine ⟨_, rfl, 1, rfl, ?_⟩
    try walk_at "rd"
    refine sl1 hp2.2.1 fun z1 H4 e4 h4 => ?_
    refine ⟨_, rfl, 1, rfl, ?_⟩
    try walk_at "rd"
    refine sl1 (e4.tup hp2.2.2) fun z2 H5 e5 h5 => ?_
    have e15 := (e1.trans e2).trans (e4.trans e5)
    refine ⟨k, p.m, p.c, z1, z2, cs, _, by rw [hk], e5.tup h4, (hp.ev e15).1, e15.lst hc, hb, by rw [show (0 : Int) + (i : Int) = i by omega]; exact hin, fun H6 v e6 hv => ?_⟩
    refine kk _ _ ?_ ((e4.trans e5).trans e6)
    rw [hw, show p.pl + (i : Int) * p.s = p.pl + (0 + (i : Int)) * p.s by rw [Int.zero_add]]
    exact hv
  · exact q _ D ys (e1.trans e2) (e1.free nD) hD ⟨hl, kk⟩
def spCheckW : Sp := fun vs H Q _ => ∃ (v : Addr) (p : Pl) (k : KK), vs = [.ref v] ∧ MvAt H v p ∧ p.kd = k.str ∧ p.fx = false ∧ RetV H Q .non
theorem ok_mv_check_writable (h : MgOk w.params mg) : FnOk P w (K w.params) mg base CX0 4 am_mv_check_writable fdm_mv_check_writable ["self"] spCheckW := by
  refine Fun.ok (sp := spCheckW) (Fm_mv_check_writable w.params) scm_mv_check_writable (fun vs H Q E hs => by first | (obtain ⟨_, rfl, _⟩ := hs; rfl) | (obtain ⟨_, _, rfl, _⟩ := hs; rfl) | (obtain ⟨_, _, _, rfl, _⟩ := hs; rfl) | (obtain ⟨_, _, _, _, rfl, _⟩ := hs; rfl) | (obtain ⟨_, _, _, _, _, rfl, _⟩ := hs; rfl) | (obtain ⟨_, _, _, _, _, _, rfl, _⟩ := hs; rfl) | (obtain ⟨_, _, _, _, _, _, _, rfl, _⟩ := hs; rfl) | (obtain ⟨_, _, _, _, _, _, _, _, rfl, _⟩ := hs; rfl) | (obtain ⟨_, _, _, _, _, _, _, _, _, rfl, _⟩ := hs; rfl) | (obtain ⟨_, _, _, _, _, _, _, _, _, _, rfl, _⟩ := hs; rfl) | (obtain ⟨_, _, _, _, _, _, _, _, _, _, _, rfl, _⟩ := hs; rfl) | (obtain ⟨_, _, _, _, _, _, _, _, _, _, _, _, rfl, _⟩ := hs; rfl) | (obtain ⟨_, _, _, _, _, _, _, _, _, _, _, _, _, rfl, _⟩ := hs; rfl) | (obtain ⟨_, _, _, _, _, _, _, _, _, _, _, _, _, _, rfl, _⟩ := hs; rfl) | (obtain ⟨_, _, _, _, _, _, _, _, _, _, _, _, _, _, _, rfl, _⟩ := hs; rfl) | (obtain ⟨_, _, _, _, _, _, _, _, _, _, _, _, _, _, _, _, rfl, _⟩ := hs; rfl) | (obtain ⟨_, _, _, _, _, _, _, _, _, _, _, _, _, _, _, _, _, rfl, _⟩ := hs; rfl) | (obtain ⟨_, _, _, _, _, _, _, _, _, _, _, _, _, _, _, _, _, _, rfl, _⟩ := hs; rfl) | (obtain ⟨_, _, _, _, _, _, _, _, _, _, _, _, _, _, _, _, _, _, _, rfl, _⟩ := hs; rfl) | (obtain ⟨_, _, _, _, _, _, _, _, _, _, _, _, _, _, _, _, _, _, _, _, rfl, _⟩ := hs; rfl) | (obtain ⟨_, _, _, _, _, _, _, _, _, _, _, _, _, _, _, _, _, _, _, _, _, rfl, _⟩ := hs; rfl)) (fun cdv A outer s H vs Q E hr hq => ?_)
  obtain ⟨v, p, k, rfl, hv, hk, hf, q⟩ := hq
  refine ⟨_, (pss_cons (ps_expr (pe_meth0 (pv 0) (cl_MemoryView w.params) (mt_MemoryView_check_open w.params) (ok_mv_check_open h) (hr.mono (by decide)) (bm_mv_check_open w.params) .nil pass0))
      (pss_cons (ps_expr (pe_call (ok_item_size h) (hr.mono (by decide)) (by rfl) (gf_item_size h) (Ff_item_size w.params).kp (bf_item_size w.params) .nil pass0 (pa_cons (pe_fld (pv 0) rfl) pa_nil)))
      (pss_one (ps_if (pt_val (pe_fld (pv 0) rfl)) (pss_one ps_never) pss_nil)))), ?_⟩
  rw [stm_mv_check_writable]
  walk_at "rd"
  obtain ⟨_, dx, b, ir, ic, ml, h0, _⟩ := id hv
  refine ⟨dx, _, h0, rfl, v, p, rfl, hv, fun H1 e1 => ?_⟩
  have hv1 := hv.ev e1
  try walk_at "rd"
  refine fgo (hv1.f_kind) ?_
  try walk_at "rd"
  refine ⟨k, by rw [hk], fun H2 e2 => ?_⟩
  have hv2 := hv1.ev e2
  try walk_at "rd"
  refine fgo (hv2.f_fixed) ?_
  try walk_at "rd"
  rw [hf]
  exact q _ (e1.trans e2)
def spToList : Sp := fun vs H Q _ => ∃ (v : Addr) (p : Pl) (k : KK) (cs : List Int), vs = [.ref v] ∧ MvAt H v p ∧ p.kd = k.str ∧ p.wd = k.wd ∧ H p.c = some (.lst (cs.map .int)) ∧ Bs cs ∧ PlIn cs p ∧
  ∀ H' D ys, Ev [] H H' → H D = none → H' D = some (.lst ys) → ItemsV H' k cs p ys → Q (.ref D) H'
theorem ok_mv_tolist (h : MgOk w.params mg) : FnOk P w (K w.params) mg base CX0 7 am_mv_tolist fdm_mv_tolist ["self"] spToList := by
  refine Fun.ok (sp := spToList) (Fm_mv_tolist w.params) scm_mv_tolist (fun vs H Q E hs => by first | (obtain ⟨_, rfl, _⟩ := hs; rfl) | (obtain ⟨_, _, rfl, _⟩ := hs; rfl) | (obtain ⟨_, _, _, rfl, _⟩ := hs; rfl) | (obtain ⟨_, _, _, _, rfl, _⟩ := hs; rfl) | (obtain ⟨_, _, _, _, _, rfl, _⟩ := hs; rfl) | (obtain ⟨_, _, _, _, _, _, rfl, _⟩ := hs; rfl) | (obtain ⟨_, _, _, _, _, _, _, rfl, _⟩ := hs; rfl) | (obtain ⟨_, _, _, _, _, _, _, _, rfl, _⟩ := hs; rfl) | (obtain ⟨_, _, _, _, _, _, _, _, _, rfl, _⟩ := hs; rfl) | (obtain ⟨_, _, _, _, _, _, _, _, _, _, rfl, _⟩ := hs; rfl) | (obtain ⟨_, _, _, _, _, _, _, _, _, _, _, rfl, _⟩ := hs; rfl) | (obtain ⟨_, _, _, _, _, _, _, _, _, _, _, _, rfl, _⟩ := hs; rfl) | (obtain ⟨_, _, _, _, _, _, _, _, _, _, _, _, _, rfl, _⟩ := hs; rfl) | (obtain ⟨_, _, _, _, _, _, _, _, _, _, _, _, _, _, rfl, _⟩ := hs; rfl) | (obtain ⟨_, _, _, _, _, _, _, _, _, _, _, _, _, _, _, rfl, _⟩ := hs; rfl) | (obtain ⟨_, _, _, _, _, _, _, _, _, _, _, _, _, _, _, _, rfl, _⟩ := hs; rfl) | (obtain ⟨_, _, _, _, _, _, _, _, _, _, _, _, _, _, _, _, _, rfl, _⟩ := hs; rfl) | (obtain ⟨_, _, _, _, _, _, _, _, _, _, _, _, _, _, _, _, _, _, rfl, _⟩ := hs; rfl) | (obtain ⟨_, _, _, _, _, _, _, _, _, _, _, _, _, _, _, _, _, _, _, rfl, _⟩ := hs; rfl) | (obtain ⟨_, _, _, _, _, _, _, _, _, _, _, _, _, _, _, _, _, _, _, _, rfl, _⟩ := hs; rfl) | (obtain ⟨_, _, _, _, _, _, _, _, _, _, _, _, _, _, _, _, _, _, _, _, _, rfl, _⟩ := hs; rfl)) (fun cdv A outer s H vs Q E hr hq => ?_)
  obtain ⟨v, p, k, cs, rfl, hv, hk, hw, hc, hb, hi, q⟩ := hq
  refine ⟨_, (pss_cons (ps_expr (pe_meth0 (pv 0) (cl_MemoryView w.params) (mt_MemoryView_check_open w.params) (ok_mv_check_open h) (hr.mono (by decide)) (bm_mv_check_open w.params) .nil pass0))
      (pss_cons (ps_expr (pe_call (ok_item_size h) (hr.mono (by decide)) (by rfl) (gf_item_size h) (Ff_item_size w.params).kp (bf_item_size w.params) .nil pass0 (pa_cons (pe_fld (pv 0) rfl) pa_nil)))
      (pss_one (ps_ret (pe_call (ok_nested_items h) (hr.mono (by decide)) (by rfl) (gf_nested_items h) (Ff_nested_items w.params).kp (bf_nested_items w.params) .nil pass0 (pa_cons (pe_meth0 (pv 0) (cl_MemoryView w.params) (mt_MemoryView_memory_now w.params) (ok_mv_memory_now h) (hr.mono (by decide)) (bm_mv_memory_now w.params) .nil pass0) (pa_cons (pe_fld (pv 0) rfl) (pa_cons (pe_fld (pv 0) rfl) (pa_cons (pe_fld (pv 0) rfl) (pa_cons (pe_fld (pv 0) rfl) pa_nil)))))))))), ?_⟩
  rw [stm_mv_tolist]
  walk_at "rd"
  obtain ⟨_, dx, b, ir, ic, ml, h0, _⟩ := id hv
  refine ⟨dx, _, h0, rfl, v, p, rfl, hv, fun H1 e1 => ?_⟩
  have hv1 := hv.ev e1
  try walk_at "rd"
  refine fgo (hv1.f_kind) ?_
  try walk_at "rd"
  refine ⟨k, by rw [hk], fun H2 e2 => ?_⟩
  have hv2 := hv1.ev e2
  obtain ⟨_, dx2, b2, ir2, ic2, ml2, h2, _⟩ := id hv2
  try walk_at "rd"
  refine ⟨_, _, h2, rfl, v, p, rfl, hv2, fun H3 e3 => ?_⟩
  have hv3 := hv2.ev e3
  try walk_at "rd"
  refine fgo (hv3.f_place) ?_
  try walk_at "rd"
  refine fgo (hv3.f_kind) ?_
  try walk_at "rd"
  refine fgo (hv3.f_sizes) ?_
  try walk_at "rd"
  refine fgo (hv3.f_steps) ?_
  try walk_at "rd"
  exact ⟨k, p, cs, rfl, hk, hw, hv3.1, ((e1.trans e2).trans e3).lst hc, hb, hi, fun H4 D ys e4 nD hD hy => q _ _ _ (((e1.trans e2).trans e3).trans e4) (((e1.trans e2).trans e3).free nD) hD hy⟩
def spOrdered : Sp := fun vs H Q _ => ∃ (v : Addr) (p : Pl) (cs : List Int), vs = [.ref v, .str "C"] ∧ MvAt H v p ∧ H p.c = some (.lst (cs.map .int)) ∧ PlIn cs p ∧ RetT H Q ((gat cs (adr p) p.wd).map .int)
theorem ok_ordered_bytes (h : MgOk w.params mg) : FnOk P w (K w.params) mg base CX0 4 af_ordered_bytes fdf_ordered_bytes ["view", "order"] spOrdered := by
  refine Fun.ok (sp := spOrdered) (Ff_ordered_bytes w.params) scf_ordered_bytes (fun vs H Q E hs => by first | (obtain ⟨_, rfl, _⟩ := hs; rfl) | (obtain ⟨_, _, rfl, _⟩ := hs; rfl) | (obtain ⟨_, _, _, rfl, _⟩ := hs; rfl) | (obtain ⟨_, _, _, _, rfl, _⟩ := hs; rfl) | (obtain ⟨_, _, _, _, _, rfl, _⟩ := hs; rfl) | (obtain ⟨_, _, _, _, _, _, rfl, _⟩ := hs; rfl) | (obtain ⟨_, _, _, _, _, _, _, rfl, _⟩ := hs; rfl) | (obtain ⟨_, _, _, _, _, _, _, _, rfl, _⟩ := hs; rfl) | (obtain ⟨_, _, _, _, _, _, _, _, _, rfl, _⟩ := hs; rfl) | (obtain ⟨_, _, _, _, _, _, _, _, _, _, rfl, _⟩ := hs; rfl) | (obtain ⟨_, _, _, _, _, _, _, _, _, _, _, rfl, _⟩ := hs; rfl) | (obtain ⟨_, _, _, _, _, _, _, _, _, _, _, _, rfl, _⟩ := hs; rfl) | (obtain ⟨_, _, _, _, _, _, _, _, _, _, _, _, _, rfl, _⟩ := hs; rfl) | (obtain ⟨_, _, _, _, _, _, _, _, _, _, _, _, _, _, rfl, _⟩ := hs; rfl) | (obtain ⟨_, _, _, _, _, _, _, _, _, _, _, _, _, _, _, rfl, _⟩ := hs; rfl) | (obtain ⟨_, _, _, _, _, _, _, _, _, _, _, _, _, _, _, _, rfl, _⟩ := hs; rfl) | (obtain ⟨_, _, _, _, _, _, _, _, _, _, _, _, _, _, _, _, _, rfl, _⟩ := hs; rfl) | (obtain ⟨_, _, _, _, _, _, _, _, _, _, _, _, _, _, _, _, _, _, rfl, _⟩ := hs; rfl) | (obtain ⟨_, _, _, _, _, _, _, _, _, _, _, _, _, _, _, _, _, _, _, rfl, _⟩ := hs; rfl) | (obtain ⟨_, _, _, _, _, _, _, _, _, _, _, _, _, _, _, _, _, _, _, _, rfl, _⟩ := hs; rfl) | (obtain ⟨_, _, _, _, _, _, _, _, _, _, _, _, _, _, _, _, _, _, _, _, _, rfl, _⟩ := hs; rfl)) (fun cdv A outer s H vs Q E hr hq => ?_)
  obtain ⟨v, p, cs, rfl, hv, hc, hi, q⟩ := hq
  refine ⟨_, (pss_cons (ps_if (pt_cmpR op_isN (pv 1) pe_non (nomark _)) (pss_one (ps_set (i := 1) scf_ordered_bytes.nd rfl (Or.inl rfl) pe_str)) pss_nil)
      (pss_cons (ps_if (PW.pt (pw_or (pt_not (pt_val (pe_callB call_isi (by rfl) (n_isinstance h) (by decide +kernel) (pa_cons (pv 1) (pa_cons (pe_bltn (v := .ty "str") (by rfl) (n_str h) (by decide +kernel) rfl) pa_nil))))) (pw_or1 (pt_cmpR op_notIn_seq (pv 1) (pe_tup (pa_cons pe_str (pa_cons pe_str (pa_cons pe_str pa_nil)))) (by rfl))))) (pss_one ps_never) pss_nil)
      (pss_cons (ps_par3 (i := 2) (j := 3) (l := 4) (by rfl) scf_ordered_bytes.nd rfl rfl rfl (by decide) (by decide) (by decide) rfl rfl rfl (pa_cons (pe_fld (pv 0) rfl) (pa_cons (pe_fld (pv 0) rfl) (pa_cons (pe_fld (pv 0) rfl) pa_nil))) (by rfl))
      (pss_cons (ps_if (PW.pt (pw_and (pt_cmpR op_eq (pv 1) pe_str (nomark _)) (pw_and (pt_val (pe_call (ok_is_f_contiguous h) (hr.mono (by decide)) (by rfl) (gf_is_f_contiguous h) (Ff_is_f_contiguous w.params).kp (bf_is_f_contiguous w.params) .nil pass0 (pa_cons (pv 2) (pa_cons (pv 3) (pa_cons (pv 4) pa_nil))))) (pw_and1 (pt_not (pt_val (pe_call (ok_is_c_contiguous h) (hr.mono (by decide)) (by rfl) (gf_is_c_contiguous h) (Ff_is_c_contiguous w.params).kp (bf_is_c_contiguous w.params) .nil pass0 (pa_cons (pv 2) (pa_cons (pv 3) (pa_cons (pv 4) pa_nil)))))))))) pss_never pss_nil)
      (pss_cons (ps_if (pt_cmpR op_eq (pv 1) pe_str (nomark _)) pss_never pss_nil)
      (pss_one (ps_ret (pe_call (ok_gathered h) (hr.mono (by decide)) (by rfl) (gf_gathered h) (Ff_gathered w.params).kp (bf_gathered w.params) .nil pass0 (pa_cons (pe_meth0 (pv 0) (cl_MemoryView w.params) (mt_MemoryView_memory_now w.params) (ok_mv_memory_now h) (hr.mono (by decide)) (bm_mv_memory_now w.params) .nil pass0) (pa_cons (pe_call (ok_addresses h) (hr.mono (by decide)) (by rfl) (gf_addresses h) (Ff_addresses w.params).kp (bf_addresses w.params) .nil pass0 (pa_cons (pv 2) (pa_cons (pv 3) (pa_cons (pe_fld (pv 0) rfl) pa_nil)))) (pa_cons (pv 4) pa_nil))))))))))), ?_⟩
  rw [stf_ordered_bytes]
  refine freeze fun R2 hR2 => ?_
  try walk_at "rd"
  rw [if_neg (by intro z; cases z)]
  subst hR2
  refine freeze fun R3 hR3 => ?_
  try walk_at "rd"
  refine isi_str ⟨_, rfl, iteF ⟨by simp [sizeLine], fun t nt => ?_⟩⟩
  obtain ⟨H1, H1_eq, e1, h1⟩ := newq (.tup [V.str "C", V.str "F", V.str "A"]) nt
  rw [← H1_eq]
  clear H1_eq
  refine ⟨t, _, rfl, .inr (SqT.of h1), rfl, rfl, ?_⟩
  rw [show inV (V.str "C") [V.str "C", V.str "F", V.str "A"] = true by decide +kernel, if_pos rfl]
  refine ⟨_, rfl, iteF ?_⟩
  have hv1 := hv.ev e1
  subst hR3
  refine freeze fun R4 hR4 => ?_
  try walk_at "rd"
  refine fgo (hv1.f_sizes) ?_
  try walk_at "rd"
  refine fgo (hv1.f_steps) ?_
  try walk_at "rd"
  refine fgo (hv1.f_width) ?_
  try walk_at "rd"
  subst hR4
  refine freeze fun R5 hR5 => ?_
  try walk_at "rd"
  rw [if_neg (by decide +kernel)]
  subst hR5
  refine freeze fun R6 hR6 => ?_
  try walk_at "rd"
  rw [if_neg (by decide +kernel)]
  subst hR6
  try walk_at "rd"
  obtain ⟨_, dx, b, ir, ic, ml, hr1, _⟩ := id hv1
  refine ⟨_, _, hr1, rfl, v, p, rfl, hv1, fun H2 e2 => ?_⟩
  have hv2 := hv1.ev e2
  try walk_at "rd"
  refine fgo (hv2.f_place) ?_
  try walk_at "rd"
  refine ⟨_, _, _, _, _, rfl, hv2.1.2.1, hv2.1.2.2, hi.2.1, fun H3 r e3 nr hr' => ?_⟩
  rw [adr_map] at hr'
  have e13 := (e1.trans e2).trans e3
  exact ⟨_, _, _, cs, _, _, rfl, (hv2.ev e3).1.1, e13.lst hc, hr', hi.1, by simp [adr]; have := hi.2.1; omega, hi.2.2, fun H4 t e4 ht => q _ _ (e13.trans e4) ht⟩
def spToBytes : Sp := spOrdered
theorem ok_mv_tobytes (h : MgOk w.params mg) : FnOk P w (K w.params) mg base CX0 5 am_mv_tobytes fdm_mv_tobytes ["self", "order"] spToBytes := by
  refine FunD.ok (sp := spToBytes) (Fm_mv_tobytes w.params) scm_mv_tobytes (fun vs H Q E hs => by first | (obtain ⟨_, rfl, _⟩ := hs; rfl) | (obtain ⟨_, _, rfl, _⟩ := hs; rfl) | (obtain ⟨_, _, _, rfl, _⟩ := hs; rfl) | (obtain ⟨_, _, _, _, rfl, _⟩ := hs; rfl) | (obtain ⟨_, _, _, _, _, rfl, _⟩ := hs; rfl) | (obtain ⟨_, _, _, _, _, _, rfl, _⟩ := hs; rfl) | (obtain ⟨_, _, _, _, _, _, _, rfl, _⟩ := hs; rfl) | (obtain ⟨_, _, _, _, _, _, _, _, rfl, _⟩ := hs; rfl) | (obtain ⟨_, _, _, _, _, _, _, _, _, rfl, _⟩ := hs; rfl) | (obtain ⟨_, _, _, _, _, _, _, _, _, _, rfl, _⟩ := hs; rfl) | (obtain ⟨_, _, _, _, _, _, _, _, _, _, _, rfl, _⟩ := hs; rfl) | (obtain ⟨_, _, _, _, _, _, _, _, _, _, _, _, rfl, _⟩ := hs; rfl) | (obtain ⟨_, _, _, _, _, _, _, _, _, _, _, _, _, rfl, _⟩ := hs; rfl) | (obtain ⟨_, _, _, _, _, _, _, _, _, _, _, _, _, _, rfl, _⟩ := hs; rfl) | (obtain ⟨_, _, _, _, _, _, _, _, _, _, _, _, _, _, _, rfl, _⟩ := hs; rfl) | (obtain ⟨_, _, _, _, _, _, _, _, _, _, _, _, _, _, _, _, rfl, _⟩ := hs; rfl) | (obtain ⟨_, _, _, _, _, _, _, _, _, _, _, _, _, _, _, _, _, rfl, _⟩ := hs; rfl) | (obtain ⟨_, _, _, _, _, _, _, _, _, _, _, _, _, _, _, _, _, _, rfl, _⟩ := hs; rfl) | (obtain ⟨_, _, _, _, _, _, _, _, _, _, _, _, _, _, _, _, _, _, _, rfl, _⟩ := hs; rfl) | (obtain ⟨_, _, _, _, _, _, _, _, _, _, _, _, _, _, _, _, _, _, _, _, rfl, _⟩ := hs; rfl) | (obtain ⟨_, _, _, _, _, _, _, _, _, _, _, _, _, _, _, _, _, _, _, _, _, rfl, _⟩ := hs; rfl)) (fun cdv A outer s H vs Q E hr hq => ?_)
  obtain ⟨v, p, cs, rfl, hv, hc, hi, q⟩ := hq
  refine ⟨_, (pss_cons (ps_expr (pe_meth0 (pv 0) (cl_MemoryView w.params) (mt_MemoryView_check_open w.params) (ok_mv_check_open h) (hr.mono (by decide)) (bm_mv_check_open w.params) .nil pass0))
      (pss_one (ps_ret (pe_call (ok_ordered_bytes h) (hr.mono (by decide)) (by rfl) (gf_ordered_bytes h) (Ff_ordered_bytes w.params).kp (bf_ordered_bytes w.params) .nil pass0 (pa_cons (pv 0) (pa_cons (pv 1) pa_nil)))))), ?_⟩
  rw [stm_mv_tobytes]
  walk_at "rd"
  obtain ⟨_, dx, b, ir, ic, ml, h0, _⟩ := id hv
  refine ⟨dx, _, h0, rfl, v, p, rfl, hv, fun H1 e1 => ?_⟩
  try walk_at "rd"
  exact ⟨v, p, cs, rfl, hv.ev e1, e1.lst hc, hi, fun H2 t e2 ht => q _ _ (e1.trans e2) ht⟩
end VL
end
section
set_option linter.all false
set_option maxRecDepth 100000
set_option maxHeartbeats 4000000
namespace VL
open PySem PySem.Spec PyProof.Rows L2 RZ
local macro_rules | `(tactic| walk_at "rd") => `(tactic| (simp only [tVar, tC, tOp, tUn, tTest, tB, tAnd, tOr, tNot, tAndV, tOrV, tNotV, tIf, tIfS, tSeq, tAsg, gName, tRet, tRetN, tDrop, tNext, rI, rI0, rU, rEq, rNe, scal, tCons, tNil, tCB, t2I, tChain, tCall, tMeth, tPar, tPar3, tFld, tTup, tLst, iTup, iList, iRng1, tPart, tNoPart, tBM, tBM0, tMake, cxK, noxK, L2.wipe,
  List.append_nil, List.nil_append, List.cons_append, List.map_cons, List.map_nil, List.getElem?_cons_zero, List.getElem?_cons_succ, List.getElem?_nil, List.set_cons_zero, List.set_cons_succ, Option.some.injEq, V.int.injEq, V.bl.injEq, V.str.injEq, V.ref.injEq, exists_and_left, exists_eq_left', exists_eq_left, true_and, and_true, List.cons.injEq, if_true, if_false, Bool.false_eq_true, Bool.not_true, Bool.not_false, decide_eq_true_eq, and_assoc]))
variable {P : Program} {w : World} {mg : Str → Option Value} {base : Heap}
theorem cutS_bd {s : Option Int} {n lo hi d : Int} (h1 : lo ≤ hi) (h2 : -1 ≤ lo) (h3 : hi ≤ n) (h4 : -1 ≤ d) (h5 : d ≤ n) : -1 ≤ VL.cutS s n lo hi d ∧ VL.cutS s n lo hi d ≤ n := by
  cases s with
  | none => exact ⟨h4, h5⟩
  | some p =>
    show -1 ≤ bnd p n lo hi ∧ bnd p n lo hi ≤ n
    unfold bnd
    simp only
    split <;> split <;> omega
theorem cutStart_bd {s st : Option Int} {n : Int} (h : 0 ≤ n) : -1 ≤ cutStart s st n ∧ cutStart s st n ≤ n := by
  unfold cutStart
  split
  · exact cutS_bd h (by omega) (by omega) (by omega) (by omega)
  · exact cutS_bd (by omega) (by omega) (by omega) (by omega) (by omega)
theorem cutMany_0 {s e st : Option Int} {n : Int} : 0 ≤ cutMany s e st n := by
  have : ∀ m : Int, 0 ≤ (if m > 0 then m else 0) := fun m => by split <;> omega
  exact this _
theorem fgoR {K : PySem.W.Frag} {H : Hp} {b : Addr} {f : Str} {v : V} {G : V → Prop} (h : HasF K H b f v) (q : G v) : ∃ a C dx fs v, V.ref b = .ref a ∧ H a = some (.ins C dx fs) ∧ Cls K C ∧ NoAttr K C f ∧ fs.lookup f = some v ∧ G v := by
  obtain ⟨C, dx, fs, a, c, n, l⟩ := h
  exact ⟨b, C, dx, fs, v, rfl, a, c, n, l, q⟩
theorem cat1 {Kk : PySem.W.Frag} {H : Hp} {Q : VK} {a b : Addr} {v : V} (ha : H a = some (.tup [v])) (hb : H b = some (.tup [])) (q : Q (.ref a) H) : rCatA Kk (.ref a) (.ref b) H Q :=
  ⟨a, b, _, _, rfl, rfl, SqT.of ha, SqT.of hb, by simp [sizeLine], (fun h => nomatch h), (fun _ _ => q), (fun _ h => absurd rfl h)⟩
/-- the plan behind a cut -/
structure CutPl (p p' : Pl) (s e st : Option Int) : Prop where
  m : p'.m = p.m
  c : p'.c = p.c
  pl : p'.pl = p.pl + cutStart s st p.n * p.s
  wd : p'.wd = p.wd
  kd : p'.kd = p.kd
  n : p'.n = (cutMany s e st p.n).toNat
  s : p'.s = p.s * st.getD 1
  fx : p'.fx = p.fx
theorem mk_mvv {H : Hp} {G : Addr → Hp → Prop} {E : XK} {v : Addr} {p : Pl} (hv : MvAt H v p) (hw : p.wd ≤ 8) (kk : ∀ H' x, Ev [] H H' → H x = none → MvAt H' x p → G x H') :
    ∀ x dx, H x = none → H dx = none → dx ≠ x → spMvV [.ref x, .ref v] (upd (upd H dx (.own x)) x (.ins CMemoryView dx [])) (fun v H2 => v = .non ∧ G x H2) E :=
  fun x dx nx nd _ => ⟨x, dx, v, p, rfl, upd_same, hv.ev (make_ev nx nd), hw, fun H' e hv' => ⟨rfl, kk H' x (e.made nx nd) nx hv'⟩⟩
def spCutFirst : Sp := fun vs H Q _ => ∃ (v c : Addr) (p : Pl) (s e st : Option Int), vs = [.ref v, .ref c] ∧ MvAt H v p ∧ CutAt H c s e st ∧ st ≠ some 0 ∧ (st.getD 1).natAbs < 2 ^ 70 ∧ p.wd ≤ 8 ∧ p.s.natAbs < 2 ^ 400 ∧ p.n < 1000 ∧ cutMany s e st p.n < 1000 ∧
  ∀ H' x p', Ev [] H H' → H x = none → MvAt H' x p' → CutPl p p' s e st → Q (.ref x) H'
theorem ok_mv_cut_first (h : MgOk w.params mg) : FnOk P w (K w.params) mg base CX0 10 am_mv_cut_first fdm_mv_cut_first ["self", "cut"] spCutFirst := by
  refine Fun.ok (sp := spCutFirst) (Fm_mv_cut_first w.params) scm_mv_cut_first (fun vs H Q E hs => by first | (obtain ⟨_, rfl, _⟩ := hs; rfl) | (obtain ⟨_, _, rfl, _⟩ := hs; rfl) | (obtain ⟨_, _, _, rfl, _⟩ := hs; rfl) | (obtain ⟨_, _, _, _, rfl, _⟩ := hs; rfl) | (obtain ⟨_, _, _, _, _, rfl, _⟩ := hs; rfl) | (obtain ⟨_, _, _, _, _, _, rfl, _⟩ := hs; rfl) | (obtain ⟨_, _, _, _, _, _, _, rfl, _⟩ := hs; rfl) | (obtain ⟨_, _, _, _, _, _, _, _, rfl, _⟩ := hs; rfl) | (obtain ⟨_, _, _, _, _, _, _, _, _, rfl, _⟩ := hs; rfl) | (obtain ⟨_, _, _, _, _, _, _, _, _, _, rfl, _⟩ := hs; rfl) | (obtain ⟨_, _, _, _, _, _, _, _, _, _, _, rfl, _⟩ := hs; rfl) | (obtain ⟨_, _, _, _, _, _, _, _, _, _, _, _, rfl, _⟩ := hs; rfl) | (obtain ⟨_, _, _, _, _, _, _, _, _, _, _, _, _, rfl, _⟩ := hs; rfl) | (obtain ⟨_, _, _, _, _, _, _, _, _, _, _, _, _, _, rfl, _⟩ := hs; rfl) | (obtain ⟨_, _, _, _, _, _, _, _, _, _, _, _, _, _, _, rfl, _⟩ := hs; rfl) | (obtain ⟨_, _, _, _, _, _, _, _, _, _, _, _, _, _, _, _, rfl, _⟩ := hs; rfl) | (obtain ⟨_, _, _, _, _, _, _, _, _, _, _, _, _, _, _, _, _, rfl, _⟩ := hs; rfl) | (obtain ⟨_, _, _, _, _, _, _, _, _, _, _, _, _, _, _, _, _, _, rfl, _⟩ := hs; rfl) | (obtain ⟨_, _, _, _, _, _, _, _, _, _, _, _, _, _, _, _, _, _, _, rfl, _⟩ := hs; rfl) | (obtain ⟨_, _, _, _, _, _, _, _, _, _, _, _, _, _, _, _, _, _, _, _, rfl, _⟩ := hs; rfl) | (obtain ⟨_, _, _, _, _, _, _, _, _, _, _, _, _, _, _, _, _, _, _, _, _, rfl, _⟩ := hs; rfl)) (fun cdv A outer s H vs Q E hr hq => ?_)
  obtain ⟨v, c, p, s0, e0, st, rfl, hv, hc, h0, hb, hw, hs, hn, hm, q⟩ := hq
  refine ⟨_, (pss_cons (ps_asg (pe_call (ok_cut_of h) (hr.mono (by decide)) (by rfl) (gf_cut_of h) (Ff_cut_of w.params).kp (bf_cut_of w.params) .nil pass0 (pa_cons (pv 1) (pa_cons (pe_ix ix_tup (pe_fld (pv 0) rfl) pe_int (fun _ _ => rfl)) pa_nil))) (pg_tup rfl (pgs_cons (pg_name (i := 2) scm_mv_cut_first.nd rfl (Or.inl rfl)) (pgs_cons (pg_name (i := 3) scm_mv_cut_first.nd rfl (Or.inl rfl)) (pgs_cons (pg_name (i := 4) scm_mv_cut_first.nd rfl (Or.inl rfl)) pgs_nil)))))
      (pss_cons (ps_par (i := 5) (j := 6) (by rfl) scm_mv_cut_first.nd rfl rfl (by decide) rfl rfl (pa_cons (pe_make (mk_MemoryView w.params) (ok_mv_init_v h) (hr.mono (by decide)) (by rfl) (g_MemoryView h) (bm_mv_init w.params) .nil pass0 (pa_cons (pv 0) pa_nil)) (pa_cons (pe_ix ix_tup (pe_fld (pv 0) rfl) pe_int (fun _ _ => rfl)) pa_nil)) (by rfl))
      (pss_cons (ps_par (i := 7) (j := 8) (by rfl) scm_mv_cut_first.nd rfl rfl (by decide) rfl rfl (pa_cons (pe_op op_catA (pe_tup (pa_cons (pv 3) pa_nil)) (pe_slice sl_tupA (pe_fld (pv 0) rfl) (po_some pe_int) po_none)) (pa_cons (pe_op op_catA (pe_tup (pa_cons (pe_op op_mulW (pv 6) (pv 4)) pa_nil)) (pe_slice sl_tupA (pe_fld (pv 0) rfl) (po_some pe_int) po_none)) pa_nil)) (by rfl))
      (pss_cons (ps_expr (pe_meth (pv 5) (cl_MemoryView w.params) (mt_MemoryView_lay_out w.params) (ok_mv_lay_out_w h) (hr.mono (by decide)) (bm_mv_lay_out w.params) .nil pass0 (pa_cons (pe_op op_add (pe_fld (pv 0) rfl) (pe_op op_mulW (pv 2) (pv 6))) (pa_cons (pe_fld (pv 0) rfl) (pa_cons (pe_fld (pv 0) rfl) (pa_cons (pv 7) (pa_cons (pv 8) pa_nil)))))))
      (pss_one (ps_ret (pv 5))))))), ?_⟩
  rw [stm_mv_cut_first]
  refine freeze fun R2 hR2 => ?_
  try walk_at "rd"
  refine fgo (hv.f_sizes) ?_
  try walk_at "rd"
  refine ⟨p.sz, _, 0, _, rfl, rfl, SqT.of hv.1.2.1, rfl, ?_⟩
  refine ⟨c, s0, e0, st, p.n, rfl, hc, h0, hb, fun H1 t e1 ht => ?_⟩
  refine gTup3 ht ?_
  have hv1 := hv.ev e1
  subst hR2
  refine freeze fun R3 hR3 => ?_
  try walk_at "rd"
  refine mk_mvv hv1 hw fun H2 x e2 nx hx => ?_
  have hv2 := hv1.ev e2
  refine fgo (hv2.f_steps) ?_
  try walk_at "rd"
  refine ⟨p.st, _, 0, _, rfl, rfl, SqT.of hv2.1.2.2, rfl, ?_⟩
  try walk_at "rd"
  subst hR3
  refine freeze fun R4 hR4 => ?_
  try walk_at "rd"
  refine ⟨by simp [sizeLine], fun z nz => ?_⟩
  obtain ⟨H3, H3_eq, e3, h3⟩ := newq (.tup [V.int (cutMany s0 e0 st p.n)]) nz
  rw [← H3_eq]
  clear H3_eq
  have hv3 := hv2.ev e3
  refine ⟨_, rfl, fgoR hv3.f_sizes ⟨1, rfl, ?_⟩⟩
  try walk_at "rd"
  refine sl1 hv3.1.2.1 fun z2 H4 e4 h4 => ?_
  try walk_at "rd"
  refine cat1 (e4.tup h3) h4 ?_
  try walk_at "rd"
  have cb := cutStart_bd (s := s0) (st := st) (n := p.n) (by omega)
  refine ⟨wide_mul (a := 400) (b := 70) hs hb (by decide) (by decide) (by decide), by simp [sizeLine], fun y ny => ?_⟩
  obtain ⟨H5, H5_eq, e5, h5⟩ := newq (.tup [V.int (p.s * st.getD 1)]) ny
  rw [← H5_eq]
  clear H5_eq
  have hv5 := (hv3.ev e4).ev e5
  refine ⟨_, rfl, fgoR hv5.f_steps ⟨1, rfl, ?_⟩⟩
  try walk_at "rd"
  refine sl1 hv5.1.2.2 fun y2 H6 e6 h6 => ?_
  try walk_at "rd"
  refine cat1 (e6.tup h5) h6 ?_
  try walk_at "rd"
  subst hR4
  have e26 := (e3.trans e4).trans (e5.trans e6)
  have hv6 := hv2.ev e26
  have hx6 := hx.ev e26
  have hz6 : H6 z = some (.tup [.int ((cutMany s0 e0 st p.n).toNat : Nat)]) := by
    rw [Int.toNat_of_nonneg cutMany_0]; exact (e5.trans e6).tup (e4.tup h3)
  have hy6 := e6.tup h5
  try walk_at "rd"
  obtain ⟨_, dx6, b6, ir6, ic6, ml6, hx60, qb, srcb, hbb, emb⟩ := id hx6
  refine ⟨_, _, hx60, rfl, ?_⟩
  refine fgo (hv6.f_place) ?_
  try walk_at "rd"
  refine ⟨wide_mul (a := 20) (b := 400) (by omega) hs (by decide) (by decide) (by decide), ?_⟩
  refine fgo (hv6.f_kind) ?_
  try walk_at "rd"
  refine fgo (hv6.f_width) ?_
  try walk_at "rd"
  refine ⟨x, dx6, b6, z, y, p.sz, p.st, _, _, _, _, p.wd, (cutMany s0 e0 st p.n).toNat, _, p.kd, p.kd, _, _, _, rfl, hx60, hz6, hy6, hw, fun H7 ir ic ml e7 h7 => ?_⟩
  try walk_at "rd"
  have ex : Ev [] H1 H7 := e7 H1 (e2.trans e26) nx
  have w7 := e7 _ wo_ev wo_none
  have hz7 := w7.tup (wo_at hx60 hz6 (by intro z; cases z))
  have hy7 := w7.tup (wo_at hx60 hy6 (by intro z; cases z))
  have hb7 := (hbb.wo hx60).ev w7
  exact q H7 x { p with pl := p.pl + cutStart s0 st p.n * p.s, n := (cutMany s0 e0 st p.n).toNat, s := p.s * st.getD 1, sz := z, st := y } (e1.trans ex) (e1.free nx)
    ⟨⟨hv1.1.1.ev ex, hz7, hy7⟩, dx6, b6, ir, ic, ml, h7, qb, srcb, hb7, emb⟩ ⟨rfl, rfl, rfl, rfl, rfl, rfl, rfl, rfl⟩
def spItem : Sp := fun vs H Q _ => ∃ (v c : Addr) (p : Pl) (s e st : Option Int), vs = [.ref v, .ref c] ∧ MvAt H v p ∧ CutAt H c s e st ∧ st ≠ some 0 ∧ (st.getD 1).natAbs < 2 ^ 70 ∧ p.wd ≤ 8 ∧ p.s.natAbs < 2 ^ 400 ∧ p.n < 1000 ∧ cutMany s e st p.n < 1000 ∧
  ∀ H' x p', Ev [] H H' → H x = none → MvAt H' x p' → CutPl p p' s e st → Q (.ref x) H'
theorem ok_mv_item (h : MgOk w.params mg) : FnOk P w (K w.params) mg base CX0 11 am_mv_item fdm_mv_item ["self", "key"] spItem := by
  refine Fun.ok (sp := spItem) (Fm_mv_item w.params) scm_mv_item (fun vs H Q E hs => by first | (obtain ⟨_, rfl, _⟩ := hs; rfl) | (obtain ⟨_, _, rfl, _⟩ := hs; rfl) | (obtain ⟨_, _, _, rfl, _⟩ := hs; rfl) | (obtain ⟨_, _, _, _, rfl, _⟩ := hs; rfl) | (obtain ⟨_, _, _, _, _, rfl, _⟩ := hs; rfl) | (obtain ⟨_, _, _, _, _, _, rfl, _⟩ := hs; rfl) | (obtain ⟨_, _, _, _, _, _, _, rfl, _⟩ := hs; rfl) | (obtain ⟨_, _, _, _, _, _, _, _, rfl, _⟩ := hs; rfl) | (obtain ⟨_, _, _, _, _, _, _, _, _, rfl, _⟩ := hs; rfl) | (obtain ⟨_, _, _, _, _, _, _, _, _, _, rfl, _⟩ := hs; rfl) | (obtain ⟨_, _, _, _, _, _, _, _, _, _, _, rfl, _⟩ := hs; rfl) | (obtain ⟨_, _, _, _, _, _, _, _, _, _, _, _, rfl, _⟩ := hs; rfl) | (obtain ⟨_, _, _, _, _, _, _, _, _, _, _, _, _, rfl, _⟩ := hs; rfl) | (obtain ⟨_, _, _, _, _, _, _, _, _, _, _, _, _, _, rfl, _⟩ := hs; rfl) | (obtain ⟨_, _, _, _, _, _, _, _, _, _, _, _, _, _, _, rfl, _⟩ := hs; rfl) | (obtain ⟨_, _, _, _, _, _, _, _, _, _, _, _, _, _, _, _, rfl, _⟩ := hs; rfl) | (obtain ⟨_, _, _, _, _, _, _, _, _, _, _, _, _, _, _, _, _, rfl, _⟩ := hs; rfl) | (obtain ⟨_, _, _, _, _, _, _, _, _, _, _, _, _, _, _, _, _, _, rfl, _⟩ := hs; rfl) | (obtain ⟨_, _, _, _, _, _, _, _, _, _, _, _, _, _, _, _, _, _, _, rfl, _⟩ := hs; rfl) | (obtain ⟨_, _, _, _, _, _, _, _, _, _, _, _, _, _, _, _, _, _, _, _, rfl, _⟩ := hs; rfl) | (obtain ⟨_, _, _, _, _, _, _, _, _, _, _, _, _, _, _, _, _, _, _, _, _, rfl, _⟩ := hs; rfl)) (fun cdv A outer s H vs Q E hr hq => ?_)
  obtain ⟨v, c, p, s0, e0, st, rfl, hv, hc, h0, hb, hw, hs, hn, hm, q⟩ := hq
  refine ⟨_, (pss_cons (ps_expr (pe_meth0 (pv 0) (cl_MemoryView w.params) (mt_MemoryView_check_open w.params) (ok_mv_check_open h) (hr.mono (by decide)) (bm_mv_check_open w.params) .nil pass0))
      (pss_cons (ps_set (i := 2) scm_mv_item.nd rfl (Or.inl rfl) (pe_call (ok_key_kind h) (hr.mono (by decide)) (by rfl) (gf_key_kind h) (Ff_key_kind w.params).kp (bf_key_kind w.params) .nil pass0 (pa_cons (pv 1) pa_nil)))
      (pss_cons (ps_if (pt_cmpR (op_eqD hr.units) (pe_fld (pv 0) rfl) (pe_tup pa_nil) (nomark _)) pss_never pss_nil)
      (pss_cons (ps_if (pt_cmpR op_eq (pv 2) pe_str (nomark _)) (pss_one (ps_ret (pe_meth (pv 0) (cl_MemoryView w.params) (mt_MemoryView_cut_first w.params) (ok_mv_cut_first h) (hr.mono (by decide)) (bm_mv_cut_first w.params) .nil pass0 (pa_cons (pv 1) pa_nil)))) pss_nil)
      pss_never)))), ?_⟩
  rw [stm_mv_item]
  walk_at "rd"
  obtain ⟨_, dx, b, ir, ic, ml, hr0, _⟩ := id hv
  refine ⟨dx, _, hr0, rfl, v, p, rfl, hv, fun H1 e1 => ?_⟩
  have hv1 := hv.ev e1
  try walk_at "rd"
  refine ⟨c, s0, e0, st, rfl, hc.ev e1, fun H2 e2 => ?_⟩
  have hv2 := hv1.ev e2
  try walk_at "rd"
  refine fgo (hv2.f_sizes) ?_
  try walk_at "rd"
  refine ⟨by simp [sizeLine], fun t nt => ?_⟩
  obtain ⟨H3, H3_eq, e3, h3⟩ := newq (.tup []) nt
  rw [← H3_eq]
  clear H3_eq
  have hv3 := hv2.ev e3
  refine eqD_10 hv3.1.2.1 h3 ⟨_, rfl, iteF ?_⟩
  obtain ⟨_, dx3, b3, ir3, ic3, ml3, hr3, _⟩ := id hv3
  have e13 := (e1.trans e2).trans e3
  exact ⟨_, _, hr3, rfl, v, c, p, s0, e0, st, rfl, hv3, hc.ev e13, h0, hb, hw, hs, hn, hm, fun H4 x p' e4 nx hx hp => q _ _ _ (e13.trans e4) (e13.free nx) hx hp⟩
end VL
end
section
set_option linter.all false
set_option maxRecDepth 100000
set_option maxHeartbeats 4000000
namespace VL
open PySem PySem.Spec PyProof.Rows L2 RZ
local macro_rules | `(tactic| walk_at "rd") => `(tactic| (simp only [tVar, tC, tOp, tUn, tTest, tB, tAnd, tOr, tNot, tAndV, tOrV, tNotV, tIf, tIfS, tSeq, tAsg, gName, tRet, tRetN, tDrop, tNext, rI, rI0, rU, rEq, rNe, scal, tCons, tNil, tCB, t2I, tChain, tCall, tMeth, tPar, tPar3, tFld, tTup, tLst, iTup, iList, iRng1, tPart, tNoPart, tBM, tBM0, tMake, cxK, noxK, L2.wipe,
  List.append_nil, List.nil_append, List.cons_append, List.map_cons, List.map_nil, List.getElem?_cons_zero, List.getElem?_cons_succ, List.getElem?_nil, List.set_cons_zero, List.set_cons_succ, Option.some.injEq, V.int.injEq, V.bl.injEq, V.str.injEq, V.ref.injEq, exists_and_left, exists_eq_left', exists_eq_left, true_and, and_true, List.cons.injEq, if_true, if_false, Bool.false_eq_true, Bool.not_true, Bool.not_false, decide_eq_true_eq, and_assoc]))
variable {P : Program} {w : World} {mg : Str → Option Value} {base : Heap}
/-- a row written over cells -/
def wrT (cs : List Int) (n : Nat) (row : List Int) : List Int := cs.take n ++ row ++ cs.drop (n + row.length)
theorem wrT_length {cs : List Int} {n : Nat} {row : List Int} (h : n + row.length ≤ cs.length) : (wrT cs n row).length = cs.length := by
  simp [wrT]; omega
theorem wrT_get {cs row : List Int} {n j : Nat} (h : n + row.length ≤ cs.length) : (wrT cs n row)[j]? = if j < n then cs[j]? else if j < n + row.length then row[j - n]? else cs[j]? := by
  unfold wrT
  have l1 : (cs.take n).length = n := by simp; omega
  rw [List.append_assoc]
  by_cases h1 : j < n
  · rw [if_pos h1, List.getElem?_append_left (by omega), List.getElem?_take_of_lt h1]
  · rw [if_neg h1, List.getElem?_append_right (by omega), l1]
    by_cases h2 : j < n + row.length
    · rw [if_pos h2, List.getElem?_append_left (by omega)]
    · rw [if_neg h2, List.getElem?_append_right (by omega), List.getElem?_drop]
      congr 1; omega
theorem wrT_step {cs : List Int} {n i : Nat} {row : List Int} {x : Int} (h : n + row.length ≤ cs.length) (hx : row[i]? = some x) : (wrT cs n (row.take i)).set (n + i) x = wrT cs n (row.take (i + 1)) := by
  have hi : i < row.length := (List.getElem?_eq_some_iff.mp hx).1
  have l1 : (row.take i).length = i := by simp; omega
  have l2 : (row.take (i + 1)).length = i + 1 := by simp; omega
  apply List.ext_getElem?
  intro j
  rw [List.getElem?_set, wrT_get (by omega), wrT_get (by omega), wrT_length (by omega), l1, l2]
  by_cases e : n + i = j
  · subst e
    rw [if_pos rfl, if_pos (by omega), if_neg (by omega), if_pos (by omega), List.getElem?_take_of_lt (by omega)]
    rw [show n + i - n = i by omega, hx]
  · rw [if_neg e]
    by_cases h1 : j < n
    · rw [if_pos h1, if_pos h1]
    · rw [if_neg h1, if_neg h1]
      by_cases h2 : j < n + i
      · rw [if_pos h2, if_pos (by omega), List.getElem?_take_of_lt (by omega), List.getElem?_take_of_lt (by omega)]
      · rw [if_neg h2, if_neg (by omega)]
theorem walk_enumT {K : PySem.W.Frag} {a : Addr} {xs : List V} : Walk (Itet K a) xs.length (fun H => SqT K H a xs) (YPair (fun i => some (.int (i : Nat))) (fun i => xs[i]?)) := by
  refine ⟨fun i _ hi q => ⟨xs, xs[i], q, by simp [hi]⟩, fun _ q => ⟨xs, q, Nat.le_refl _⟩, fun i H v H' _ q y => ?_⟩
  obtain ⟨T, x, h1, h2, h3, h4⟩ := y
  exact ⟨T, .int (i : Nat), x, h1, h2, h3, rfl, h4 xs q⟩
def IWr (H0 : Hp) (c : Addr) (cs : List Int) (n : Nat) (row : List Int) (a b r : Addr) (pl : Int) (i : Nat) (σ : L2.St) (H : Hp) : Prop :=
  Ev [c] H0 H ∧ H c = some (.lst ((wrT cs n (row.take i)).map .int)) ∧ ∃ x y, σ = [some (.ref a), some (.int pl), some (.ref r), x, y]
def spWriteAt : Sp := fun vs H Q _ => ∃ (m c r : Addr) (cs row : List Int) (n : Nat), vs = [.ref m, .int n, .ref r] ∧ MemAt H m c ∧ H c = some (.lst (cs.map .int)) ∧ H r = some (.tup (row.map .int)) ∧ n + row.length ≤ cs.length ∧
  ∀ H', Ev [c] H H' → H' c = some (.lst ((wrT cs n row).map .int)) → Q .non H'
theorem ok_write_at (h : MgOk w.params mg) : FnOk P w (K w.params) mg base CX0 1 af_write_at fdf_write_at ["memory", "place", "row"] spWriteAt := by
  refine Fun.ok (sp := spWriteAt) (Ff_write_at w.params) scf_write_at (fun vs H Q E hs => by first | (obtain ⟨_, rfl, _⟩ := hs; rfl) | (obtain ⟨_, _, rfl, _⟩ := hs; rfl) | (obtain ⟨_, _, _, rfl, _⟩ := hs; rfl) | (obtain ⟨_, _, _, _, rfl, _⟩ := hs; rfl) | (obtain ⟨_, _, _, _, _, rfl, _⟩ := hs; rfl) | (obtain ⟨_, _, _, _, _, _, rfl, _⟩ := hs; rfl) | (obtain ⟨_, _, _, _, _, _, _, rfl, _⟩ := hs; rfl) | (obtain ⟨_, _, _, _, _, _, _, _, rfl, _⟩ := hs; rfl) | (obtain ⟨_, _, _, _, _, _, _, _, _, rfl, _⟩ := hs; rfl) | (obtain ⟨_, _, _, _, _, _, _, _, _, _, rfl, _⟩ := hs; rfl) | (obtain ⟨_, _, _, _, _, _, _, _, _, _, _, rfl, _⟩ := hs; rfl) | (obtain ⟨_, _, _, _, _, _, _, _, _, _, _, _, rfl, _⟩ := hs; rfl) | (obtain ⟨_, _, _, _, _, _, _, _, _, _, _, _, _, rfl, _⟩ := hs; rfl) | (obtain ⟨_, _, _, _, _, _, _, _, _, _, _, _, _, _, rfl, _⟩ := hs; rfl) | (obtain ⟨_, _, _, _, _, _, _, _, _, _, _, _, _, _, _, rfl, _⟩ := hs; rfl) | (obtain ⟨_, _, _, _, _, _, _, _, _, _, _, _, _, _, _, _, rfl, _⟩ := hs; rfl) | (obtain ⟨_, _, _, _, _, _, _, _, _, _, _, _, _, _, _, _, _, rfl, _⟩ := hs; rfl) | (obtain ⟨_, _, _, _, _, _, _, _, _, _, _, _, _, _, _, _, _, _, rfl, _⟩ := hs; rfl) | (obtain ⟨_, _, _, _, _, _, _, _, _, _, _, _, _, _, _, _, _, _, _, rfl, _⟩ := hs; rfl) | (obtain ⟨_, _, _, _, _, _, _, _, _, _, _, _, _, _, _, _, _, _, _, _, rfl, _⟩ := hs; rfl) | (obtain ⟨_, _, _, _, _, _, _, _, _, _, _, _, _, _, _, _, _, _, _, _, _, rfl, _⟩ := hs; rfl)) (fun cdv A outer s H vs Q E hr hq => ?_)
  obtain ⟨m, c, r, cs, row, n, rfl, hm, hc, hr', hl, q⟩ := hq
  refine ⟨_, (pss_one (ps_for PassesOwn.never rfl (pi_enumT (by rfl) (n_enumerate h) (pa_cons (pv 2) pa_nil)) (pg_tup rfl (pgs_cons (pg_name (i := 3) scf_write_at.nd rfl (Or.inl rfl)) (pgs_cons (pg_name (i := 4) scf_write_at.nd rfl (Or.inl rfl)) pgs_nil))) (pss_one (ps_asg (pv 4) (pg_sub (pe_fld (pv 0) rfl) (pe_op op_add (pv 1) (pv 3)) set_list))))), ?_⟩
  rw [stf_write_at]
  walk_at "rd"
  refine ⟨_, rfl, r, _, rfl, SqT.of hr', ?_⟩
  refine for_it (walk_enumT (xs := row.map V.int)) (fun i σ H' => IWr H c cs n row m c r n i σ H') ⟨Ev.refl _ _, by simpa [wrT] using hc, _, _, rfl⟩ (fun i σ H' _ p => SqT.of (p.1.tup hr')) (fun i x σ H' H'' hi p y => ?_) (fun σ H' p => ?_)
  · obtain ⟨T, x, y, rfl, nT, rfl, hx, hy⟩ := y
    cases hx
    replace hy : (row.map V.int)[i]? = some y := hy
    rw [List.getElem?_map] at hy
    obtain ⟨v, hv, rfl⟩ := Option.map_eq_some_iff.mp hy
    obtain ⟨e, hc', x, y, rfl⟩ := p
    have hi' : i < row.length := by simpa using hi
    refine gTup2 upd_same ?_
    obtain ⟨H3, H3_eq, e3, h3⟩ := newq (.tup [V.int i, V.int v]) nT
    rw [← H3_eq]
    clear H3_eq
    have hm3 : MemAt H3 m c := (hm.ev e).ev e3
    have hc3 := e3.lst hc'
    obtain ⟨dm, hm0⟩ := id hm3
    refine ⟨_, rfl, _, rfl, m, _, _, _, _, rfl, hm0, cl_Memory w.params, na_Memory_cells w.params, rfl, _, rfl, _, rfl, _, _, rfl, rfl, c, _, _, n + i, rfl, rfl, hc3, ?_, ?_⟩
    · simp only [List.length_map, wrT_length (cs := cs) (n := n) (row := row.take i) (by simp; omega)]
      unfold ixN
      rw [if_pos (by omega)]
      simp
      omega
    · refine ⟨(e.trans (e3.of0)).trans (Ev.list hc3 (by simp)), ?_, _, _, rfl⟩
      rw [upd_same, ← List.map_set, wrT_step hl hv]
  · obtain ⟨e, hc', x, y, rfl⟩ := p
    rw [List.take_of_length_le (by simp)] at hc'
    exact q _ e hc'
def spSameLayout : Sp := fun vs H Q _ => ∃ k : KK, vs = [.str k.str, .str k.str] ∧ RetV H Q (.bl true)
theorem ok_same_layout (h : MgOk w.params mg) : FnOk P w (K w.params) mg base CX0 1 af_same_layout fdf_same_layout ["one", "other"] spSameLayout := by
  refine Fun.ok (sp := spSameLayout) (Ff_same_layout w.params) scf_same_layout (fun vs H Q E hs => by first | (obtain ⟨_, rfl, _⟩ := hs; rfl) | (obtain ⟨_, _, rfl, _⟩ := hs; rfl) | (obtain ⟨_, _, _, rfl, _⟩ := hs; rfl) | (obtain ⟨_, _, _, _, rfl, _⟩ := hs; rfl) | (obtain ⟨_, _, _, _, _, rfl, _⟩ := hs; rfl) | (obtain ⟨_, _, _, _, _, _, rfl, _⟩ := hs; rfl) | (obtain ⟨_, _, _, _, _, _, _, rfl, _⟩ := hs; rfl) | (obtain ⟨_, _, _, _, _, _, _, _, rfl, _⟩ := hs; rfl) | (obtain ⟨_, _, _, _, _, _, _, _, _, rfl, _⟩ := hs; rfl) | (obtain ⟨_, _, _, _, _, _, _, _, _, _, rfl, _⟩ := hs; rfl) | (obtain ⟨_, _, _, _, _, _, _, _, _, _, _, rfl, _⟩ := hs; rfl) | (obtain ⟨_, _, _, _, _, _, _, _, _, _, _, _, rfl, _⟩ := hs; rfl) | (obtain ⟨_, _, _, _, _, _, _, _, _, _, _, _, _, rfl, _⟩ := hs; rfl) | (obtain ⟨_, _, _, _, _, _, _, _, _, _, _, _, _, _, rfl, _⟩ := hs; rfl) | (obtain ⟨_, _, _, _, _, _, _, _, _, _, _, _, _, _, _, rfl, _⟩ := hs; rfl) | (obtain ⟨_, _, _, _, _, _, _, _, _, _, _, _, _, _, _, _, rfl, _⟩ := hs; rfl) | (obtain ⟨_, _, _, _, _, _, _, _, _, _, _, _, _, _, _, _, _, rfl, _⟩ := hs; rfl) | (obtain ⟨_, _, _, _, _, _, _, _, _, _, _, _, _, _, _, _, _, _, rfl, _⟩ := hs; rfl) | (obtain ⟨_, _, _, _, _, _, _, _, _, _, _, _, _, _, _, _, _, _, _, rfl, _⟩ := hs; rfl) | (obtain ⟨_, _, _, _, _, _, _, _, _, _, _, _, _, _, _, _, _, _, _, _, rfl, _⟩ := hs; rfl) | (obtain ⟨_, _, _, _, _, _, _, _, _, _, _, _, _, _, _, _, _, _, _, _, _, rfl, _⟩ := hs; rfl)) (fun cdv A outer s H vs Q E hr hq => ?_)
  obtain ⟨k, rfl, q⟩ := hq
  refine ⟨_, (pss_one (ps_ret (pe_cmpR op_eq (pe_ifExp (pt_cmpR op_eq (pe_slice sl_str (pv 0) po_none (po_some pe_int)) pe_str (nomark _)) (pe_slice sl_str (pv 0) (po_some pe_int) po_none) (pv 0)) (pe_ifExp (pt_cmpR op_eq (pe_slice sl_str (pv 1) po_none (po_some pe_int)) pe_str (nomark _)) (pe_slice sl_str (pv 1) (po_some pe_int) po_none) (pv 1)) (nomark _)))), ?_⟩
  rw [stf_same_layout]
  walk_at "rd"
  refine ⟨_, rfl, 1, rfl, k.str, rfl, by rw [k.len]; decide, ?_⟩
  rw [k.sl1]
  refine ⟨rfl, ?_⟩
  rw [if_neg k.ne1]
  refine ⟨_, rfl, 1, rfl, k.str, rfl, by rw [k.len]; decide, ?_⟩
  rw [k.sl1]
  try walk_at "rd"
  rw [if_neg (fun e => k.ne1 (by rw [e]))]
  exact q _ (Ev.refl _ _)
def spDataBa : Sp := fun vs H Q _ => ∃ (h m c : Addr) (cs : List Int), vs = [.ref h] ∧ BaAt H h m c ∧ H c = some (.lst (cs.map .int)) ∧ RetT H Q (cs.map .int)
theorem ok_ba_data (h : MgOk w.params mg) : FnOk P w (K w.params) mg base CX0 1 am_ba_data fdm_ba_data ["self"] spDataBa := by
  refine Fun.ok (sp := spDataBa) (Fm_ba_data w.params) scm_ba_data (fun vs H Q E hs => by first | (obtain ⟨_, rfl, _⟩ := hs; rfl) | (obtain ⟨_, _, rfl, _⟩ := hs; rfl) | (obtain ⟨_, _, _, rfl, _⟩ := hs; rfl) | (obtain ⟨_, _, _, _, rfl, _⟩ := hs; rfl) | (obtain ⟨_, _, _, _, _, rfl, _⟩ := hs; rfl) | (obtain ⟨_, _, _, _, _, _, rfl, _⟩ := hs; rfl) | (obtain ⟨_, _, _, _, _, _, _, rfl, _⟩ := hs; rfl) | (obtain ⟨_, _, _, _, _, _, _, _, rfl, _⟩ := hs; rfl) | (obtain ⟨_, _, _, _, _, _, _, _, _, rfl, _⟩ := hs; rfl) | (obtain ⟨_, _, _, _, _, _, _, _, _, _, rfl, _⟩ := hs; rfl) | (obtain ⟨_, _, _, _, _, _, _, _, _, _, _, rfl, _⟩ := hs; rfl) | (obtain ⟨_, _, _, _, _, _, _, _, _, _, _, _, rfl, _⟩ := hs; rfl) | (obtain ⟨_, _, _, _, _, _, _, _, _, _, _, _, _, rfl, _⟩ := hs; rfl) | (obtain ⟨_, _, _, _, _, _, _, _, _, _, _, _, _, _, rfl, _⟩ := hs; rfl) | (obtain ⟨_, _, _, _, _, _, _, _, _, _, _, _, _, _, _, rfl, _⟩ := hs; rfl) | (obtain ⟨_, _, _, _, _, _, _, _, _, _, _, _, _, _, _, _, rfl, _⟩ := hs; rfl) | (obtain ⟨_, _, _, _, _, _, _, _, _, _, _, _, _, _, _, _, _, rfl, _⟩ := hs; rfl) | (obtain ⟨_, _, _, _, _, _, _, _, _, _, _, _, _, _, _, _, _, _, rfl, _⟩ := hs; rfl) | (obtain ⟨_, _, _, _, _, _, _, _, _, _, _, _, _, _, _, _, _, _, _, rfl, _⟩ := hs; rfl) | (obtain ⟨_, _, _, _, _, _, _, _, _, _, _, _, _, _, _, _, _, _, _, _, rfl, _⟩ := hs; rfl) | (obtain ⟨_, _, _, _, _, _, _, _, _, _, _, _, _, _, _, _, _, _, _, _, _, rfl, _⟩ := hs; rfl)) (fun cdv A outer s H vs Q E hr hq => ?_)
  obtain ⟨hh, m, c, cs, rfl, hb, hc, q⟩ := hq
  refine ⟨_, (pss_one (ps_ret (pe_callTy call_tuple_of (by rfl) (n_tuple h) (by decide +kernel) (pa_cons (pe_fld (pe_fld (pv 0) rfl) rfl) pa_nil)))), ?_⟩
  rw [stm_ba_data]
  walk_at "rd"
  refine fgo (hb.f_memory) ?_
  try walk_at "rd"
  refine fgo (hb.2.f_cells) ?_
  try walk_at "rd"
  exact ⟨_, .inl ⟨SqL.of hc, fun l nl => q _ _ (Ev.new nl) upd_same⟩⟩
def spDataSt : Sp := fun vs H Q _ => ∃ (h : Addr) (p : Pl) (cs : List Int), vs = [.ref h] ∧ StAt H h p ∧ H p.c = some (.lst (cs.map .int)) ∧ RetT H Q (cs.map .int)
theorem ok_st_data (h : MgOk w.params mg) : FnOk P w (K w.params) mg base CX0 1 am_st_data fdm_st_data ["self"] spDataSt := by
  refine Fun.ok (sp := spDataSt) (Fm_st_data w.params) scm_st_data (fun vs H Q E hs => by first | (obtain ⟨_, rfl, _⟩ := hs; rfl) | (obtain ⟨_, _, rfl, _⟩ := hs; rfl) | (obtain ⟨_, _, _, rfl, _⟩ := hs; rfl) | (obtain ⟨_, _, _, _, rfl, _⟩ := hs; rfl) | (obtain ⟨_, _, _, _, _, rfl, _⟩ := hs; rfl) | (obtain ⟨_, _, _, _, _, _, rfl, _⟩ := hs; rfl) | (obtain ⟨_, _, _, _, _, _, _, rfl, _⟩ := hs; rfl) | (obtain ⟨_, _, _, _, _, _, _, _, rfl, _⟩ := hs; rfl) | (obtain ⟨_, _, _, _, _, _, _, _, _, rfl, _⟩ := hs; rfl) | (obtain ⟨_, _, _, _, _, _, _, _, _, _, rfl, _⟩ := hs; rfl) | (obtain ⟨_, _, _, _, _, _, _, _, _, _, _, rfl, _⟩ := hs; rfl) | (obtain ⟨_, _, _, _, _, _, _, _, _, _, _, _, rfl, _⟩ := hs; rfl) | (obtain ⟨_, _, _, _, _, _, _, _, _, _, _, _, _, rfl, _⟩ := hs; rfl) | (obtain ⟨_, _, _, _, _, _, _, _, _, _, _, _, _, _, rfl, _⟩ := hs; rfl) | (obtain ⟨_, _, _, _, _, _, _, _, _, _, _, _, _, _, _, rfl, _⟩ := hs; rfl) | (obtain ⟨_, _, _, _, _, _, _, _, _, _, _, _, _, _, _, _, rfl, _⟩ := hs; rfl) | (obtain ⟨_, _, _, _, _, _, _, _, _, _, _, _, _, _, _, _, _, rfl, _⟩ := hs; rfl) | (obtain ⟨_, _, _, _, _, _, _, _, _, _, _, _, _, _, _, _, _, _, rfl, _⟩ := hs; rfl) | (obtain ⟨_, _, _, _, _, _, _, _, _, _, _, _, _, _, _, _, _, _, _, rfl, _⟩ := hs; rfl) | (obtain ⟨_, _, _, _, _, _, _, _, _, _, _, _, _, _, _, _, _, _, _, _, rfl, _⟩ := hs; rfl) | (obtain ⟨_, _, _, _, _, _, _, _, _, _, _, _, _, _, _, _, _, _, _, _, _, rfl, _⟩ := hs; rfl)) (fun cdv A outer s H vs Q E hr hq => ?_)
  obtain ⟨hh, p, cs, rfl, hs, hc, q⟩ := hq
  obtain ⟨dx, b, src, h0, hb⟩ := id hs
  refine ⟨_, (pss_one (ps_ret (pe_callTy call_tuple_of (by rfl) (n_tuple h) (by decide +kernel) (pa_cons (pe_fld (pe_fld (pe_fld (pv 0) rfl) rfl) rfl) pa_nil)))), ?_⟩
  rw [stm_st_data]
  walk_at "rd"
  refine ⟨_, _, _, h0, cl_Strided w.params, na_Strided_plan w.params, _, rfl, ?_⟩
  try walk_at "rd"
  refine fgo (hb.f_memory) ?_
  try walk_at "rd"
  refine fgo (hb.1.1.f_cells) ?_
  try walk_at "rd"
  exact ⟨_, .inl ⟨SqL.of hc, fun l nl => q _ _ (Ev.new nl) upd_same⟩⟩
end VL
end
section
set_option linter.all false
set_option maxRecDepth 100000
set_option maxHeartbeats 4000000
namespace VL
open PySem PySem.Spec PyProof.Rows L2 RZ
local macro_rules | `(tactic| walk_at "rd") => `(tactic| (simp only [tVar, tC, tOp, tUn, tTest, tB, tAnd, tOr, tNot, tAndV, tOrV, tNotV, tIf, tIfS, tSeq, tAsg, gName, tRet, tRetN, tDrop, tNext, rI, rI0, rU, rEq, rNe, scal, tCons, tNil, tCB, t2I, tChain, tCall, tMeth, tPar, tPar3, tFld, tTup, tLst, iTup, iList, iRng1, tPart, tNoPart, tBM, tBM0, tMake, cxK, noxK, L2.wipe,
  List.append_nil, List.nil_append, List.cons_append, List.map_cons, List.map_nil, List.getElem?_cons_zero, List.getElem?_cons_succ, List.getElem?_nil, List.set_cons_zero, List.set_cons_succ, Option.some.injEq, V.int.injEq, V.bl.injEq, V.str.injEq, V.ref.injEq, exists_and_left, exists_eq_left', exists_eq_left, true_and, and_true, List.cons.injEq, if_true, if_false, Bool.false_eq_true, Bool.not_true, Bool.not_false, decide_eq_true_eq, and_assoc]))
variable {P : Program} {w : World} {mg : Str → Option Value} {base : Heap}
def wrAll (cs : List Int) : List (Int × List Int) → List Int
  | [] => cs
  | x :: xs => wrAll (wrT cs x.1.toNat x.2) xs
theorem wrAll_snoc {cs : List Int} {xs : List (Int × List Int)} {x : Int × List Int} : wrAll cs (xs ++ [x]) = wrT (wrAll cs xs) x.1.toNat x.2 := by
  induction xs generalizing cs with
  | nil => rfl
  | cons y ys ih => exact ih
def RowIn (n : Nat) (x : Int × List Int) : Prop := 0 ≤ x.1 ∧ x.1 + x.2.length ≤ n
theorem wrAll_length {cs : List Int} {xs : List (Int × List Int)} (h : ∀ x ∈ xs, RowIn cs.length x) : (wrAll cs xs).length = cs.length := by
  induction xs generalizing cs with
  | nil => rfl
  | cons y ys ih =>
    have hy := h y (by simp)
    have l : (wrT cs y.1.toNat y.2).length = cs.length := wrT_length (by have := hy.1; have := hy.2; omega)
    show (wrAll (wrT cs y.1.toNat y.2) ys).length = _
    rw [ih (fun x hx => by rw [l]; exact h x (by simp [hx])), l]
def IWa (H0 : Hp) (c : Addr) (cs : List Int) (ps : List (Int × List Int)) (m D R : Addr) (i : Nat) (σ : L2.St) (H : Hp) : Prop :=
  Ev [c] H0 H ∧ H c = some (.lst ((wrAll cs (ps.take i)).map .int)) ∧ ∃ x y, σ = [some (.ref m), some (.ref D), some (.ref R), x, y]
def RowsAt (H : Hp) (rs : List Addr) (rows : List (List Int)) : Prop := rs.length = rows.length ∧ ∀ (i : Nat) (x : Addr) (r : List Int), rs[i]? = some x → rows[i]? = some r → H x = some (.tup (r.map .int))
theorem RowsAt.ev {X : List Addr} {H H' : Hp} {rs : List Addr} {rows : List (List Int)} (k : RowsAt H rs rows) (e : Ev X H H') : RowsAt H' rs rows := ⟨k.1, fun i x r h1 h2 => e.tup (k.2 i x r h1 h2)⟩
def spWriteRows : Sp := fun vs H Q _ => ∃ (m c D R : Addr) (cs pls : List Int) (rs : List Addr) (rows : List (List Int)), vs = [.ref m, .ref D, .ref R] ∧ MemAt H m c ∧ H c = some (.lst (cs.map .int)) ∧ H D = some (.lst (pls.map .int)) ∧ H R = some (.lst (rs.map .ref)) ∧
  D ≠ c ∧ R ≠ c ∧ RowsAt H rs rows ∧ pls.length = rows.length ∧ (∀ x ∈ pls.zip rows, RowIn cs.length x) ∧
  ∀ H', Ev [c] H H' → H' c = some (.lst ((wrAll cs (pls.zip rows)).map .int)) → Q .non H'
theorem ok_write_rows (h : MgOk w.params mg) : FnOk P w (K w.params) mg base CX0 2 af_write_rows fdf_write_rows ["memory", "places", "rows"] spWriteRows := by
  refine Fun.ok (sp := spWriteRows) (Ff_write_rows w.params) scf_write_rows (fun vs H Q E hs => by first | (obtain ⟨_, rfl, _⟩ := hs; rfl) | (obtain ⟨_, _, rfl, _⟩ := hs; rfl) | (obtain ⟨_, _, _, rfl, _⟩ := hs; rfl) | (obtain ⟨_, _, _, _, rfl, _⟩ := hs; rfl) | (obtain ⟨_, _, _, _, _, rfl, _⟩ := hs; rfl) | (obtain ⟨_, _, _, _, _, _, rfl, _⟩ := hs; rfl) | (obtain ⟨_, _, _, _, _, _, _, rfl, _⟩ := hs; rfl) | (obtain ⟨_, _, _, _, _, _, _, _, rfl, _⟩ := hs; rfl) | (obtain ⟨_, _, _, _, _, _, _, _, _, rfl, _⟩ := hs; rfl) | (obtain ⟨_, _, _, _, _, _, _, _, _, _, rfl, _⟩ := hs; rfl) | (obtain ⟨_, _, _, _, _, _, _, _, _, _, _, rfl, _⟩ := hs; rfl) | (obtain ⟨_, _, _, _, _, _, _, _, _, _, _, _, rfl, _⟩ := hs; rfl) | (obtain ⟨_, _, _, _, _, _, _, _, _, _, _, _, _, rfl, _⟩ := hs; rfl) | (obtain ⟨_, _, _, _, _, _, _, _, _, _, _, _, _, _, rfl, _⟩ := hs; rfl) | (obtain ⟨_, _, _, _, _, _, _, _, _, _, _, _, _, _, _, rfl, _⟩ := hs; rfl) | (obtain ⟨_, _, _, _, _, _, _, _, _, _, _, _, _, _, _, _, rfl, _⟩ := hs; rfl) | (obtain ⟨_, _, _, _, _, _, _, _, _, _, _, _, _, _, _, _, _, rfl, _⟩ := hs; rfl) | (obtain ⟨_, _, _, _, _, _, _, _, _, _, _, _, _, _, _, _, _, _, rfl, _⟩ := hs; rfl) | (obtain ⟨_, _, _, _, _, _, _, _, _, _, _, _, _, _, _, _, _, _, _, rfl, _⟩ := hs; rfl) | (obtain ⟨_, _, _, _, _, _, _, _, _, _, _, _, _, _, _, _, _, _, _, _, rfl, _⟩ := hs; rfl) | (obtain ⟨_, _, _, _, _, _, _, _, _, _, _, _, _, _, _, _, _, _, _, _, _, rfl, _⟩ := hs; rfl)) (fun cdv A outer s H vs Q E hr hq => ?_)
  obtain ⟨m, c, D, R, cs, pls, rs, rows, rfl, hm, hc, hD, hR, nD, nR, hrs, hl, hin, q⟩ := hq
  refine ⟨_, (pss_one (ps_for PassesOwn.never rfl (pi_zipA (by rfl) (n_zip h) (pa_cons (pv 1) (pa_cons (pv 2) pa_nil))) (pg_tup rfl (pgs_cons (pg_name (i := 3) scf_write_rows.nd rfl (Or.inl rfl)) (pgs_cons (pg_name (i := 4) scf_write_rows.nd rfl (Or.inl rfl)) pgs_nil))) (pss_one (ps_expr (pe_call (ok_write_at h) (hr.mono (by decide)) (by rfl) (gf_write_at h) (Ff_write_at w.params).kp (bf_write_at w.params) .nil pass0 (pa_cons (pv 0) (pa_cons (pv 3) (pa_cons (pv 4) pa_nil)))))))), ?_⟩
  rw [stf_write_rows]
  walk_at "rd"
  have hlr := hrs.1
  refine ⟨_, rfl, _, rfl, D, R, _, _, rfl, .inl ⟨SqL.of hD, SqL.of hR, ?_⟩⟩
  refine for_it (walk_zip (xs := pls.map V.int) (ys := rs.map V.ref) (n := pls.length) (by simp; omega)) (fun i σ H' => IWa H c cs (pls.zip rows) m D R i σ H') ⟨Ev.refl _ _, hc, _, _, rfl⟩
    (fun i σ H' _ p => ⟨SqL.of (p.1.lstX hD (by simpa using nD)), SqL.of (p.1.lstX hR (by simpa using nR))⟩) (fun i x σ H' H'' hi p y => ?_) (fun σ H' p => ?_)
  · obtain ⟨T, x, y, rfl, nT, rfl, hx, hy⟩ := y
    replace hx : (pls.map V.int)[i]? = some x := hx
    replace hy : (rs.map V.ref)[i]? = some y := hy
    rw [List.getElem?_map] at hx hy
    obtain ⟨pl, hpl, rfl⟩ := Option.map_eq_some_iff.mp hx
    obtain ⟨ra, hra, rfl⟩ := Option.map_eq_some_iff.mp hy
    obtain ⟨e, hc', x, y, rfl⟩ := p
    have hir : i < rows.length := by omega
    have hrow := List.getElem?_eq_getElem hir
    have hz : (pls.zip rows)[i]? = some (pl, rows[i]) := by rw [List.getElem?_zip_eq_some]; exact ⟨hpl, hrow⟩
    have hri := hin _ (List.mem_of_getElem? hz)
    refine gTup2 upd_same ?_
    obtain ⟨H3, H3_eq, e3, h3⟩ := newq (.tup [V.int pl, V.ref ra]) nT
    rw [← H3_eq]
    clear H3_eq
    have hc3 := e3.lst hc'
    have lw : (wrAll cs ((pls.zip rows).take i)).length = cs.length := wrAll_length fun x hx => hin x (List.mem_of_mem_take hx)
    try walk_at "rd"
    have hp0 : (pl.toNat : Int) = pl := Int.toNat_of_nonneg hri.1
    refine ⟨m, c, ra, _, rows[i], pl.toNat, by rw [hp0], (hm.ev e).ev e3, hc3, e3.tup (e.tup (hrs.2 i ra _ hra hrow)), by rw [lw]; have := hri.2; simp only at this; omega, fun H4 e4 h4 => ?_⟩
    refine ⟨(e.trans e3.of0).trans e4, ?_, _, _, rfl⟩
    rw [h4, List.take_succ, hz, Option.toList_some, wrAll_snoc]
  · obtain ⟨e, hc', x, y, rfl⟩ := p
    rw [List.take_of_length_le (by simp; omega)] at hc'
    exact q _ e hc'
theorem neD_11 {Kk : PySem.W.Frag} {H : Hp} {Q : VK} {z t : Addr} {n : Int} (hz : H z = some (.tup [.int n])) (ht : H t = some (.tup [.int n])) (q : Q (.bl false) H) : rNeD Kk (.ref z) (.ref t) H Q :=
  ⟨.tuple [.int n], .tuple [.int n], .tup (SqT.of hz) (.cons (.int n) .nil), .tup (SqT.of ht) (.cons (.int n) .nil), rfl, rfl, by
    have : PyData.eqv (.tuple [.int n]) (.tuple [.int n]) = true := SeqAt.eqv_refl _ rfl
    rw [this]; exact q⟩
def spPlacesFor : Sp := fun vs H Q _ => ∃ (v c b : Addr) (p pb : Pl) (src : V) (k : KK) (s e st : Option Int), vs = [.ref v, .ref c, .ref b] ∧ MvAt H v p ∧ BufAt H b pb src ∧ CutAt H c s e st ∧ st ≠ some 0 ∧ (st.getD 1).natAbs < 2 ^ 70 ∧ p.n < 1000 ∧ cutMany s e st p.n < 1000 ∧
  pb.n = (cutPl s e st p.n).length ∧ pb.wd = p.wd ∧ pb.kd = k.str ∧ p.kd = k.str ∧ (∀ a ∈ cutPl s e st p.n, -(2 ^ 60) < a ∧ a < 2 ^ 60) ∧ RetL H Q (((cutPl s e st p.n).map fun a => p.pl + a * p.s).map .int)
theorem ok_mv_places_for (h : MgOk w.params mg) : FnOk P w (K w.params) mg base CX0 4 am_mv_places_for fdm_mv_places_for ["self", "cut", "buffer"] spPlacesFor := by
  refine Fun.ok (sp := spPlacesFor) (Fm_mv_places_for w.params) scm_mv_places_for (fun vs H Q E hs => by first | (obtain ⟨_, rfl, _⟩ := hs; rfl) | (obtain ⟨_, _, rfl, _⟩ := hs; rfl) | (obtain ⟨_, _, _, rfl, _⟩ := hs; rfl) | (obtain ⟨_, _, _, _, rfl, _⟩ := hs; rfl) | (obtain ⟨_, _, _, _, _, rfl, _⟩ := hs; rfl) | (obtain ⟨_, _, _, _, _, _, rfl, _⟩ := hs; rfl) | (obtain ⟨_, _, _, _, _, _, _, rfl, _⟩ := hs; rfl) | (obtain ⟨_, _, _, _, _, _, _, _, rfl, _⟩ := hs; rfl) | (obtain ⟨_, _, _, _, _, _, _, _, _, rfl, _⟩ := hs; rfl) | (obtain ⟨_, _, _, _, _, _, _, _, _, _, rfl, _⟩ := hs; rfl) | (obtain ⟨_, _, _, _, _, _, _, _, _, _, _, rfl, _⟩ := hs; rfl) | (obtain ⟨_, _, _, _, _, _, _, _, _, _, _, _, rfl, _⟩ := hs; rfl) | (obtain ⟨_, _, _, _, _, _, _, _, _, _, _, _, _, rfl, _⟩ := hs; rfl) | (obtain ⟨_, _, _, _, _, _, _, _, _, _, _, _, _, _, rfl, _⟩ := hs; rfl) | (obtain ⟨_, _, _, _, _, _, _, _, _, _, _, _, _, _, _, rfl, _⟩ := hs; rfl) | (obtain ⟨_, _, _, _, _, _, _, _, _, _, _, _, _, _, _, _, rfl, _⟩ := hs; rfl) | (obtain ⟨_, _, _, _, _, _, _, _, _, _, _, _, _, _, _, _, _, rfl, _⟩ := hs; rfl) | (obtain ⟨_, _, _, _, _, _, _, _, _, _, _, _, _, _, _, _, _, _, rfl, _⟩ := hs; rfl) | (obtain ⟨_, _, _, _, _, _, _, _, _, _, _, _, _, _, _, _, _, _, _, rfl, _⟩ := hs; rfl) | (obtain ⟨_, _, _, _, _, _, _, _, _, _, _, _, _, _, _, _, _, _, _, _, rfl, _⟩ := hs; rfl) | (obtain ⟨_, _, _, _, _, _, _, _, _, _, _, _, _, _, _, _, _, _, _, _, _, rfl, _⟩ := hs; rfl)) (fun cdv A outer s H vs Q E hr hq => ?_)
  obtain ⟨v, c, b, p, pb, src, k, s0, e0, st, rfl, hv, hb, hc, h0, hbb, hn, hm, h1, h2, h3, h4, ha, q⟩ := hq
  refine ⟨_, (pss_cons (ps_set (i := 3) scm_mv_places_for.nd rfl (Or.inl rfl) (pe_call (ok_cut_places h) (hr.mono (by decide)) (by rfl) (gf_cut_places h) (Ff_cut_places w.params).kp (bf_cut_places w.params) .nil pass0 (pa_cons (pv 1) (pa_cons (pe_ix ix_tup (pe_fld (pv 0) rfl) pe_int (fun _ _ => rfl)) pa_nil))))
      (pss_cons (ps_if (PW.pt (pw_or (pt_cmpR (op_neD hr.units) (pe_fld (pv 2) rfl) (pe_tup (pa_cons (pe_callB call_len (by rfl) (n_len h) (by decide +kernel) (pa_cons (pv 3) pa_nil)) pa_nil)) (nomark _)) (pw_or (pt_cmpR op_ne (pe_fld (pv 2) rfl) (pe_fld (pv 0) rfl) (nomark _)) (pw_or1 (pt_not (pt_val (pe_call (ok_same_layout h) (hr.mono (by decide)) (by rfl) (gf_same_layout h) (Ff_same_layout w.params).kp (bf_same_layout w.params) .nil pass0 (pa_cons (pe_fld (pv 2) rfl) (pa_cons (pe_fld (pv 0) rfl) pa_nil))))))))) (pss_one ps_never) pss_nil)
      (pss_one (ps_ret (pe_lc (own := [("at", 4)]) (te := (tOp _ (tFld (K w.params) (tVar 0) "place") (tOp _ (tVar 4) (tOp (rIxT (K w.params)) (tFld (K w.params) (tVar 0) "steps") _)))) rfl scm_mv_places_for.nd (pi_list (pv 3)) (blkOk_by (N := ["self", "cut", "buffer", "indices", "at"]) (own := [("at", 4)]) (sc := defScope sm_mv_places_for) (by decide +kernel)) (fun _ _ _ _ _ => (pg_name (i := 4) scm_mv_places_for.nd rfl (Or.inl rfl))) (fun _ _ _ _ _ => pts_nil) (fun _ _ _ _ _ => (pe_op op_add (pe_fld (pv 0) rfl) (pe_op op_mul (pv 4) (pe_ix ix_tup (pe_fld (pv 0) rfl) pe_int (fun _ _ => rfl)))))))))), ?_⟩
  rw [stm_mv_places_for]
  refine freeze fun R2 hR2 => ?_
  try walk_at "rd"
  refine fgo (hv.f_sizes) ?_
  try walk_at "rd"
  refine ⟨p.sz, _, 0, _, rfl, rfl, SqT.of hv.1.2.1, rfl, ?_⟩
  refine ⟨c, s0, e0, st, p.n, rfl, hc, h0, hbb, hm, fun H1 D e1 nD hD => ?_⟩
  have hv1 := hv.ev e1
  have hb1 := hb.ev e1
  subst hR2
  refine freeze fun R3 hR3 => ?_
  try walk_at "rd"
  refine fgo (hb1.f_sizes) ?_
  try walk_at "rd"
  refine ⟨_, .inl ⟨_, SqL.of hD, rfl⟩, ?_⟩
  refine ⟨by simp [sizeLine], fun t nt => ?_⟩
  obtain ⟨H2, H2_eq, e2, h2'⟩ := newq (.tup [V.int ((cutPl s0 e0 st p.n).map V.int).length]) nt
  rw [← H2_eq]
  clear H2_eq
  have hb2 := hb1.ev e2
  have hv2 := hv1.ev e2
  rw [List.length_map, ← h1] at h2'
  refine neD_11 hb2.1.2.1 h2' ⟨_, rfl, iteF ?_⟩
  refine fgo (hb2.f_width) ?_
  try walk_at "rd"
  refine fgo (hv2.f_width) ?_
  try walk_at "rd"
  rw [h2]
  rw [if_neg (by simp)]
  refine fgo (hb2.f_kind) ?_
  try walk_at "rd"
  refine fgo (hv2.f_kind) ?_
  try walk_at "rd"
  rw [h3, h4]
  refine ⟨k, rfl, fun H3 e3 => ?_⟩
  try walk_at "rd"
  have hv3 := hv2.ev e3
  subst hR3
  have e13 := (e2.trans e3)
  have hD3 := e13.lst hD
  have lcp : (cutPl s0 e0 st p.n).length = (cutMany s0 e0 st p.n).toNat := by simp [cutPl]
  refine ⟨_, rfl, D, rfl, ⟨_, SqL.of hD3⟩, fun Dd nDd => lc_fn (X := []) (walk_list (xs := (cutPl s0 e0 st p.n).map V.int)) (fun i => .int (p.pl + (cutPl s0 e0 st p.n).getD i 0 * p.s)) (line_of (by rw [List.length_map, lcp]; omega)) (Ev.refl _ _) nDd (by simp) (fun H e => SqL.of (e.lst hD3)) (fun i x H4 H5 N hi e y kk => ?_) (fun H4 e hDd => ?_)⟩
  · obtain ⟨rfl, hx⟩ := y
    rw [List.getElem?_map] at hx
    obtain ⟨a, hai, rfl⟩ := Option.map_eq_some_iff.mp hx
    have hab := ha a (List.mem_of_getElem? hai)
    have hv5 := hv3.ev e
    try walk_at "rd"
    refine fgo (hv5.f_place) ?_
    try walk_at "rd"
    refine fgo (hv5.f_steps) ?_
    try walk_at "rd"
    refine ⟨p.st, _, 0, _, rfl, rfl, SqT.of hv5.1.2.2, rfl, ?_⟩
    try walk_at "rd"
    refine ⟨.inl ⟨by omega, by omega⟩, ?_⟩
    have := kk _ (Ev.refl _ _)
    simpa [List.getD, hai] using this
  · have e04 := (e1.trans e13).trans e
    refine q _ _ e04 ((e1.trans e13).free nDd) ?_
    rw [hDd]
    congr 2
    apply List.ext_getElem (by simp)
    intro i g1 g2
    simp at g2
    simp [List.getD, g2]
/-- the value's items into the cut's places -/
def spPutCut : Sp := fun vs H Q _ => ∃ (v c u : Addr) (p pu : Pl) (k : KK) (s e st : Option Int) (cs : List Int), vs = [.ref v, .ref c, .ref u] ∧ MvAt H v p ∧ MvAt H u pu ∧ pu.c = p.c ∧ H p.c = some (.lst (cs.map .int)) ∧ PlIn cs pu ∧ CutAt H c s e st ∧ st ≠ some 0 ∧ (st.getD 1).natAbs < 2 ^ 70 ∧
  p.n < 1000 ∧ cutMany s e st p.n < 1000 ∧ pu.n = (cutPl s e st p.n).length ∧ pu.wd = p.wd ∧ pu.kd = k.str ∧ p.kd = k.str ∧ p.wd = k.wd ∧ p.fx = false ∧ (∀ a ∈ cutPl s e st p.n, -(2 ^ 60) < a ∧ a < 2 ^ 60) ∧ (∀ a ∈ cutPl s e st p.n, InB cs (p.pl + a * p.s) p.wd) ∧
  ∀ H', Ev [p.c] H H' → H' p.c = some (.lst ((wrAll cs (((cutPl s e st p.n).map fun a => p.pl + a * p.s).zip ((adr pu).map fun x => rowOf cs x p.wd))).map .int)) → Q .non H'
theorem ok_mv_put_cut (h : MgOk w.params mg) : FnOk P w (K w.params) mg base CX0 7 am_mv_put_cut fdm_mv_put_cut ["self", "cut", "value"] spPutCut := by
  refine Fun.ok (sp := spPutCut) (Fm_mv_put_cut w.params) scm_mv_put_cut (fun vs H Q E hs => by first | (obtain ⟨_, rfl, _⟩ := hs; rfl) | (obtain ⟨_, _, rfl, _⟩ := hs; rfl) | (obtain ⟨_, _, _, rfl, _⟩ := hs; rfl) | (obtain ⟨_, _, _, _, rfl, _⟩ := hs; rfl) | (obtain ⟨_, _, _, _, _, rfl, _⟩ := hs; rfl) | (obtain ⟨_, _, _, _, _, _, rfl, _⟩ := hs; rfl) | (obtain ⟨_, _, _, _, _, _, _, rfl, _⟩ := hs; rfl) | (obtain ⟨_, _, _, _, _, _, _, _, rfl, _⟩ := hs; rfl) | (obtain ⟨_, _, _, _, _, _, _, _, _, rfl, _⟩ := hs; rfl) | (obtain ⟨_, _, _, _, _, _, _, _, _, _, rfl, _⟩ := hs; rfl) | (obtain ⟨_, _, _, _, _, _, _, _, _, _, _, rfl, _⟩ := hs; rfl) | (obtain ⟨_, _, _, _, _, _, _, _, _, _, _, _, rfl, _⟩ := hs; rfl) | (obtain ⟨_, _, _, _, _, _, _, _, _, _, _, _, _, rfl, _⟩ := hs; rfl) | (obtain ⟨_, _, _, _, _, _, _, _, _, _, _, _, _, _, rfl, _⟩ := hs; rfl) | (obtain ⟨_, _, _, _, _, _, _, _, _, _, _, _, _, _, _, rfl, _⟩ := hs; rfl) | (obtain ⟨_, _, _, _, _, _, _, _, _, _, _, _, _, _, _, _, rfl, _⟩ := hs; rfl) | (obtain ⟨_, _, _, _, _, _, _, _, _, _, _, _, _, _, _, _, _, rfl, _⟩ := hs; rfl) | (obtain ⟨_, _, _, _, _, _, _, _, _, _, _, _, _, _, _, _, _, _, rfl, _⟩ := hs; rfl) | (obtain ⟨_, _, _, _, _, _, _, _, _, _, _, _, _, _, _, _, _, _, _, rfl, _⟩ := hs; rfl) | (obtain ⟨_, _, _, _, _, _, _, _, _, _, _, _, _, _, _, _, _, _, _, _, rfl, _⟩ := hs; rfl) | (obtain ⟨_, _, _, _, _, _, _, _, _, _, _, _, _, _, _, _, _, _, _, _, _, rfl, _⟩ := hs; rfl)) (fun cdv A outer s H vs Q E hr hq => ?_)
  obtain ⟨v, c, u, p, pu, k, s0, e0, st, cs, rfl, hv, hu, hcc, hcs, hin, hc, h0, hbb, hn, hm, h1, h2, h3, h4, h5, hfx, ha, hib, q⟩ := hq
  refine ⟨_, (pss_cons (ps_set (i := 3) scm_mv_put_cut.nd rfl (Or.inl rfl) (pe_call (ok_lent h) (hr.mono (by decide)) (by rfl) (gf_lent h) (Ff_lent w.params).kp (bf_lent w.params) .nil pass0 (pa_cons (pv 2) (pa_cons (pe_glob (v := .int 284) (by rfl) (g_FULL_RO h) ⟨_, rfl⟩) pa_nil))))
      (pss_cons (ps_set (i := 4) scm_mv_put_cut.nd rfl (Or.inl rfl) (pe_call (ok_item_rows h) (hr.mono (by decide)) (by rfl) (gf_item_rows h) (Ff_item_rows w.params).kp (bf_item_rows w.params) .nil pass0 (pa_cons (pv 3) pa_nil)))
      (pss_cons (ps_expr (pe_call (ok_hand_back h) (hr.mono (by decide)) (by rfl) (gf_hand_back h) (Ff_hand_back w.params).kp (bf_hand_back w.params) .nil pass0 (pa_cons (pv 3) pa_nil)))
      (pss_one (ps_expr (pe_call (ok_write_rows h) (hr.mono (by decide)) (by rfl) (gf_write_rows h) (Ff_write_rows w.params).kp (bf_write_rows w.params) .nil pass0 (pa_cons (pe_meth0 (pv 0) (cl_MemoryView w.params) (mt_MemoryView_memory_now w.params) (ok_mv_memory_now h) (hr.mono (by decide)) (bm_mv_memory_now w.params) .nil pass0) (pa_cons (pe_meth (pv 0) (cl_MemoryView w.params) (mt_MemoryView_places_for w.params) (ok_mv_places_for h) (hr.mono (by decide)) (bm_mv_places_for w.params) .nil pass0 (pa_cons (pv 1) (pa_cons (pv 3) pa_nil))) (pa_cons (pv 4) pa_nil))))))))), ?_⟩
  rw [stm_mv_put_cut]
  walk_at "rd"
  refine ⟨u, pu, rfl, .inl hu, by rw [h2, h5]; exact k.wd8, fun H1 b z t e1 nb hb => ?_⟩
  try walk_at "rd"
  have hcu : H1 pu.c = some (.lst (cs.map .int)) := by rw [hcc]; exact e1.lst hcs
  refine ⟨b, pu.wt z t, _, cs, rfl, hb, hcu, hin, fun H2 r rs e2 nr hr2 hl hrs => ?_⟩
  try walk_at "rd"
  refine ⟨b, pu.wt z t, _, rfl, hb.ev e2, ⟨u, rfl, .inl ⟨pu, (hu.ev e1).ev e2⟩⟩, fun H3 e3 => ?_⟩
  have e13 := (e1.trans e2).trans e3
  have hv3 := hv.ev e13
  obtain ⟨_, dx3, b3, ir3, ic3, ml3, h30, _⟩ := id hv3
  try walk_at "rd"
  refine ⟨_, _, h30, rfl, v, p, rfl, hv3, fun H4 e4 => ?_⟩
  have hv4 := hv3.ev e4
  have e14 := e13.trans e4
  obtain ⟨_, dx4, b4, ir4, ic4, ml4, h40, _⟩ := id hv4
  try walk_at "rd"
  refine ⟨_, _, h40, rfl, v, c, b, p, pu.wt z t, _, k, s0, e0, st, rfl, hv4, (hb.ev e2).ev (e3.trans e4), hc.ev e14, h0, hbb, hn, hm, h1, h2, h3, h4, ha, fun H5 D e5 nD hD => ?_⟩
  have e25 := (e3.trans e4).trans e5
  have e05 := e14.trans e5
  have hcs5 := e05.lst hcs
  have hcs4 := e14.lst hcs
  have hr5 := e25.lst hr2
  have hrs5 : RowsAt H5 rs ((adr pu).map fun x => rowOf cs x p.wd) := by
    refine ⟨by rw [hl]; simp [adr], fun i x rw_ g1 g2 => ?_⟩
    have g3 := e25.tup (hrs i x g1)
    have hi' : i < pu.n := by rw [← hl]; exact (List.getElem?_eq_some_iff.mp g1).1
    simp [adr, hi'] at g2
    rw [g3, ← g2]
    show some (HO.tup ((rowOf cs (pu.pl + i * pu.s) pu.wd).map V.int)) = _
    rw [h2]
  try walk_at "rd"
  refine ⟨p.m, p.c, D, r, cs, _, rs, _, rfl, (hv4.1.ev e5).1, hcs5, hD, hr5, ?_, ?_, hrs5, by simp [adr, h1], ?_, fun H6 e6 h6 => q H6 (e05.of0.trans e6) h6⟩
  · intro z; rw [z, hcs4] at nD; cases nD
  · intro z; rw [z, e1.lst hcs] at nr; cases nr
  · intro x hx
    have hx1 := (List.of_mem_zip hx).1
    have hx2 := (List.of_mem_zip hx).2
    simp only [List.mem_map] at hx1 hx2
    obtain ⟨a, ha1, ha2⟩ := hx1
    obtain ⟨y, _, hy2⟩ := hx2
    have := hib a ha1
    refine ⟨by rw [← ha2]; exact this.1, ?_⟩
    rw [← ha2, ← hy2, rowOf_length]
    exact this.2
def spPut : Sp := spPutCut
theorem ok_mv_put (h : MgOk w.params mg) : FnOk P w (K w.params) mg base CX0 8 am_mv_put fdm_mv_put ["self", "key", "value"] spPut := by
  refine Fun.ok (sp := spPut) (Fm_mv_put w.params) scm_mv_put (fun vs H Q E hs => by first | (obtain ⟨_, rfl, _⟩ := hs; rfl) | (obtain ⟨_, _, rfl, _⟩ := hs; rfl) | (obtain ⟨_, _, _, rfl, _⟩ := hs; rfl) | (obtain ⟨_, _, _, _, rfl, _⟩ := hs; rfl) | (obtain ⟨_, _, _, _, _, rfl, _⟩ := hs; rfl) | (obtain ⟨_, _, _, _, _, _, rfl, _⟩ := hs; rfl) | (obtain ⟨_, _, _, _, _, _, _, rfl, _⟩ := hs; rfl) | (obtain ⟨_, _, _, _, _, _, _, _, rfl, _⟩ := hs; rfl) | (obtain ⟨_, _, _, _, _, _, _, _, _, rfl, _⟩ := hs; rfl) | (obtain ⟨_, _, _, _, _, _, _, _, _, _, rfl, _⟩ := hs; rfl) | (obtain ⟨_, _, _, _, _, _, _, _, _, _, _, rfl, _⟩ := hs; rfl) | (obtain ⟨_, _, _, _, _, _, _, _, _, _, _, _, rfl, _⟩ := hs; rfl) | (obtain ⟨_, _, _, _, _, _, _, _, _, _, _, _, _, rfl, _⟩ := hs; rfl) | (obtain ⟨_, _, _, _, _, _, _, _, _, _, _, _, _, _, rfl, _⟩ := hs; rfl) | (obtain ⟨_, _, _, _, _, _, _, _, _, _, _, _, _, _, _, rfl, _⟩ := hs; rfl) | (obtain ⟨_, _, _, _, _, _, _, _, _, _, _, _, _, _, _, _, rfl, _⟩ := hs; rfl) | (obtain ⟨_, _, _, _, _, _, _, _, _, _, _, _, _, _, _, _, _, rfl, _⟩ := hs; rfl) | (obtain ⟨_, _, _, _, _, _, _, _, _, _, _, _, _, _, _, _, _, _, rfl, _⟩ := hs; rfl) | (obtain ⟨_, _, _, _, _, _, _, _, _, _, _, _, _, _, _, _, _, _, _, rfl, _⟩ := hs; rfl) | (obtain ⟨_, _, _, _, _, _, _, _, _, _, _, _, _, _, _, _, _, _, _, _, rfl, _⟩ := hs; rfl) | (obtain ⟨_, _, _, _, _, _, _, _, _, _, _, _, _, _, _, _, _, _, _, _, _, rfl, _⟩ := hs; rfl)) (fun cdv A outer s H vs Q E hr hq => ?_)
  obtain ⟨v, c, u, p, pu, k, s0, e0, st, cs, rfl, hv, hu, hcc, hcs, hin, hc, h0, hbb, hn, hm, h1, h2, h3, h4, h5, hfx, ha, hib, q⟩ := hq
  refine ⟨_, (pss_cons (ps_expr (pe_meth0 (pv 0) (cl_MemoryView w.params) (mt_MemoryView_check_writable w.params) (ok_mv_check_writable h) (hr.mono (by decide)) (bm_mv_check_writable w.params) .nil pass0))
      (pss_cons (ps_set (i := 3) scm_mv_put.nd rfl (Or.inl rfl) (pe_call (ok_key_kind h) (hr.mono (by decide)) (by rfl) (gf_key_kind h) (Ff_key_kind w.params).kp (bf_key_kind w.params) .nil pass0 (pa_cons (pv 1) pa_nil)))
      (pss_one (ps_if (pt_cmpR (op_eqD hr.units) (pe_fld (pv 0) rfl) (pe_tup pa_nil) (nomark _)) pss_never (pss_one (ps_if (pt_cmpR op_in_seq (pv 3) (pe_tup (pa_cons pe_str (pa_cons pe_str pa_nil))) (by rfl)) pss_never (pss_one (ps_if (PW.pt (pw_and (pt_cmpR op_eq (pv 3) pe_str (nomark _)) (pw_and1 (pt_cmpR op_eq (pe_callB call_len (by rfl) (n_len h) (by decide +kernel) (pa_cons (pe_fld (pv 0) rfl) pa_nil)) pe_int (nomark _))))) (pss_one (ps_expr (pe_meth (pv 0) (cl_MemoryView w.params) (mt_MemoryView_put_cut w.params) (ok_mv_put_cut h) (hr.mono (by decide)) (bm_mv_put_cut w.params) .nil pass0 (pa_cons (pv 1) (pa_cons (pv 2) pa_nil))))) pss_never)))))))), ?_⟩
  rw [stm_mv_put]
  obtain ⟨_, dx, b, ir, ic, ml, hr0, _⟩ := id hv
  refine freeze fun R2 hR2 => ?_
  try walk_at "rd"
  refine ⟨dx, _, hr0, rfl, v, p, k, rfl, hv, h4, hfx, fun H1 e1 => ?_⟩
  have hv1 := hv.ev e1
  subst hR2
  refine freeze fun R3 hR3 => ?_
  try walk_at "rd"
  refine ⟨c, s0, e0, st, rfl, hc.ev e1, fun H2 e2 => ?_⟩
  have hv2 := hv1.ev e2
  try walk_at "rd"
  subst hR3
  try walk_at "rd"
  refine fgo (hv2.f_sizes) ?_
  try walk_at "rd"
  refine ⟨by simp [sizeLine], fun t nt => ?_⟩
  obtain ⟨H3, H3_eq, e3, h3'⟩ := newq (.tup []) nt
  rw [← H3_eq]
  clear H3_eq
  have hv3 := hv2.ev e3
  refine eqD_10 hv3.1.2.1 h3' ⟨_, rfl, iteF ?_⟩
  refine ⟨by simp [sizeLine], fun t2 nt2 => ?_⟩
  obtain ⟨H4, H4_eq, e4, h4'⟩ := newq (.tup [V.str "index", V.str "indices"]) nt2
  rw [← H4_eq]
  clear H4_eq
  have hv4 := hv3.ev e4
  refine ⟨t2, _, rfl, .inr (SqT.of h4'), rfl, rfl, ?_⟩
  rw [show inV (V.str "cut") [V.str "index", V.str "indices"] = false by decide +kernel]
  refine ⟨_, rfl, iteF ?_⟩
  try walk_at "rd"
  refine fgo (hv4.f_sizes) ?_
  try walk_at "rd"
  refine ⟨1, .inr ⟨_, SqT.of hv4.1.2.1, rfl⟩, ?_⟩
  rw [if_pos (by decide)]
  obtain ⟨_, dx4, b4, ir4, ic4, ml4, hr4, _⟩ := id hv4
  have e14 := ((e1.trans e2).trans e3).trans e4
  exact ⟨_, _, hr4, rfl, v, c, u, p, pu, k, s0, e0, st, cs, rfl, hv4, hu.ev e14, hcc, e14.lst hcs, hin, hc.ev e14, h0, hbb, hn, hm, h1, h2, h3, h4, h5, hfx, ha, hib, fun H5 e5 h5' => q H5 (e14.of0.trans e5) h5'⟩
end VL
end
section
set_option linter.all false
set_option maxRecDepth 100000
set_option maxHeartbeats 4000000
namespace VL
open PySem PySem.Spec PyProof.Rows L2 RZ
local macro_rules | `(tactic| walk_at "rd") => `(tactic| (simp only [tVar, tC, tOp, tUn, tTest, tB, tAnd, tOr, tNot, tAndV, tOrV, tNotV, tIf, tIfS, tSeq, tAsg, gName, tRet, tRetN, tDrop, tNext, rI, rI0, rU, rEq, rNe, scal, tCons, tNil, tCB, t2I, tChain, tCall, tMeth, tPar, tPar3, tFld, tTup, tLst, iTup, iList, iRng1, tPart, tNoPart, tBM, tBM0, tMake, cxK, noxK, L2.wipe,
  List.append_nil, List.nil_append, List.cons_append, List.map_cons, List.map_nil, List.getElem?_cons_zero, List.getElem?_cons_succ, List.getElem?_nil, List.set_cons_zero, List.set_cons_succ, Option.some.injEq, V.int.injEq, V.bl.injEq, V.str.injEq, V.ref.injEq, exists_and_left, exists_eq_left', exists_eq_left, true_and, and_true, List.cons.injEq, if_true, if_false, Bool.false_eq_true, Bool.not_true, Bool.not_false, decide_eq_true_eq, and_assoc]))
variable {P : Program} {w : World} {mg : Str → Option Value} {base : Heap}
theorem g_DIGITS {P : Params} {mg : Str → Option Value} (h : MgOk P mg) : mg "DIGITS" = some (.str "0123456789" 1011) := h _ _ (by kernel_rfl)
theorem while0 {c : TT} {tb : TS} {D : Ends} {σ : L2.St} {H : Hp} (h : ∀ X : Hp → Prop, c σ H fun b H1 => if b = true then X H1 else D.nx σ H1) : tWhile c tb D σ H :=
  ⟨fun m σ' H' => m = 0 ∧ σ' = σ ∧ H' = H, ⟨0, rfl, rfl, rfl⟩, fun m σ' H' w => by obtain ⟨rfl, rfl, rfl⟩ := w; exact h _⟩
/-- one turn, then the end -/
theorem while1 {c : TT} {tb : TS} {D : Ends} {σ : L2.St} {H : Hp} (Pv : L2.St → Hp → Prop) (h1 : c σ H fun b H1 => if b = true then tb { D with nx := Pv, ct := Pv, bk := D.nx } σ H1 else D.nx σ H1)
    (h2 : ∀ σ' H', Pv σ' H' → ∀ X : Hp → Prop, c σ' H' fun b H1 => if b = true then X H1 else D.nx σ' H1) (mono : ∀ σ H Q Q', (∀ b H1, Q b H1 → Q' b H1) → c σ H Q → c σ H Q') : tWhile c tb D σ H := by
  refine ⟨fun m σ' H' => m = 1 ∧ σ' = σ ∧ H' = H ∨ m = 0 ∧ Pv σ' H', ⟨1, .inl ⟨rfl, rfl, rfl⟩⟩, fun m σ' H' w => ?_⟩
  rcases w with ⟨rfl, rfl, rfl⟩ | ⟨rfl, p⟩
  · refine mono _ _ _ _ (fun b H1 q => ?_) h1
    cases b with
    | true => exact ⟨Pv, fun σ' H' p => ⟨0, by decide, .inr ⟨rfl, p⟩⟩, q⟩
    | false => exact q
  · exact h2 _ _ p _
theorem KK.at0 (k : KK) : ∃ c, atI k.str.cps.toList 0 = some c ∧ (⟨#[c]⟩ : Str) = k.str := by cases k <;> exact ⟨_, rfl, rfl⟩
def spCountFrom : Sp := fun vs H Q _ => ∃ k : KK, vs = [.str k.str, .int 0] ∧ RetT H Q [.int 1, .int 0]
theorem ok_count_from (h : MgOk w.params mg) : FnOk P w (K w.params) mg base CX0 1 af_count_from fdf_count_from ["layout", "at"] spCountFrom := by
  refine Fun.ok (sp := spCountFrom) (Ff_count_from w.params) scf_count_from (fun vs H Q E hs => by first | (obtain ⟨_, rfl, _⟩ := hs; rfl) | (obtain ⟨_, _, rfl, _⟩ := hs; rfl) | (obtain ⟨_, _, _, rfl, _⟩ := hs; rfl) | (obtain ⟨_, _, _, _, rfl, _⟩ := hs; rfl) | (obtain ⟨_, _, _, _, _, rfl, _⟩ := hs; rfl) | (obtain ⟨_, _, _, _, _, _, rfl, _⟩ := hs; rfl) | (obtain ⟨_, _, _, _, _, _, _, rfl, _⟩ := hs; rfl) | (obtain ⟨_, _, _, _, _, _, _, _, rfl, _⟩ := hs; rfl) | (obtain ⟨_, _, _, _, _, _, _, _, _, rfl, _⟩ := hs; rfl) | (obtain ⟨_, _, _, _, _, _, _, _, _, _, rfl, _⟩ := hs; rfl) | (obtain ⟨_, _, _, _, _, _, _, _, _, _, _, rfl, _⟩ := hs; rfl) | (obtain ⟨_, _, _, _, _, _, _, _, _, _, _, _, rfl, _⟩ := hs; rfl) | (obtain ⟨_, _, _, _, _, _, _, _, _, _, _, _, _, rfl, _⟩ := hs; rfl) | (obtain ⟨_, _, _, _, _, _, _, _, _, _, _, _, _, _, rfl, _⟩ := hs; rfl) | (obtain ⟨_, _, _, _, _, _, _, _, _, _, _, _, _, _, _, rfl, _⟩ := hs; rfl) | (obtain ⟨_, _, _, _, _, _, _, _, _, _, _, _, _, _, _, _, rfl, _⟩ := hs; rfl) | (obtain ⟨_, _, _, _, _, _, _, _, _, _, _, _, _, _, _, _, _, rfl, _⟩ := hs; rfl) | (obtain ⟨_, _, _, _, _, _, _, _, _, _, _, _, _, _, _, _, _, _, rfl, _⟩ := hs; rfl) | (obtain ⟨_, _, _, _, _, _, _, _, _, _, _, _, _, _, _, _, _, _, _, rfl, _⟩ := hs; rfl) | (obtain ⟨_, _, _, _, _, _, _, _, _, _, _, _, _, _, _, _, _, _, _, _, rfl, _⟩ := hs; rfl) | (obtain ⟨_, _, _, _, _, _, _, _, _, _, _, _, _, _, _, _, _, _, _, _, _, rfl, _⟩ := hs; rfl)) (fun cdv A outer s H vs Q E hr hq => ?_)
  obtain ⟨k, rfl, q⟩ := hq
  refine ⟨_, (pss_cons (ps_set (i := 2) scf_count_from.nd rfl (Or.inl rfl) (pv 1))
      (pss_cons (ps_while PassesOwn.never (PW.pt (pw_and (pt_cmpR op_lt (pv 2) (pe_callB call_len (by rfl) (n_len h) (by decide +kernel) (pa_cons (pv 0) pa_nil)) (nomark _)) (pw_and1 (pt_cmpR op_in_str (pe_ix ix_str (pv 0) (pv 2) (fun _ _ => rfl)) (pe_glob (v := .str "0123456789") (by rfl) (g_DIGITS h) ⟨_, rfl⟩) (by rfl))))) (pss_one (ps_aug (i := 2) scf_count_from.nd rfl (Or.inl rfl) pe_int ip_add)))
      (pss_one (ps_ret (pe_tup (pa_cons (pe_ifExp (pt_cmpR op_gt (pv 2) (pv 1) (nomark _)) pe_nev pe_int) (pa_cons (pv 2) pa_nil))))))), ?_⟩
  rw [stf_count_from]
  walk_at "rd"
  refine while0 fun X => ?_
  try walk_at "rd"
  obtain ⟨ch, hc1, hc2⟩ := k.at0
  refine ⟨k.str.length, ⟨by rw [k.len]; decide, rfl⟩, ?_⟩
  rw [k.len, if_pos (by decide)]
  refine ⟨k.str, 0, ch, rfl, rfl, by rw [k.len]; decide, hc1, k.str, by rw [hc2], ?_⟩
  rw [if_neg (by cases k <;> decide +kernel), if_neg (by decide)]
  exact ⟨by simp [sizeLine], fun t nt => q _ _ (Ev.new nt) upd_same⟩
def spFieldOf : Sp := fun vs H Q _ => ∃ (k : KK), vs = [.str k.str, .int k.wd, .int 1, .int 0] ∧ ∀ H' t D xs, Ev [] H H' → H D = none → H' t = some (.tup [.ref D, .int k.wd]) → H' D = some (.lst xs) → xs.length = 1 → Q (.ref t) H'
theorem ok_field_of (h : MgOk w.params mg) : FnOk P w (K w.params) mg base CX0 1 af_field_of fdf_field_of ["code", "size", "many", "place"] spFieldOf := by
  refine Fun.ok (sp := spFieldOf) (Ff_field_of w.params) scf_field_of (fun vs H Q E hs => by first | (obtain ⟨_, rfl, _⟩ := hs; rfl) | (obtain ⟨_, _, rfl, _⟩ := hs; rfl) | (obtain ⟨_, _, _, rfl, _⟩ := hs; rfl) | (obtain ⟨_, _, _, _, rfl, _⟩ := hs; rfl) | (obtain ⟨_, _, _, _, _, rfl, _⟩ := hs; rfl) | (obtain ⟨_, _, _, _, _, _, rfl, _⟩ := hs; rfl) | (obtain ⟨_, _, _, _, _, _, _, rfl, _⟩ := hs; rfl) | (obtain ⟨_, _, _, _, _, _, _, _, rfl, _⟩ := hs; rfl) | (obtain ⟨_, _, _, _, _, _, _, _, _, rfl, _⟩ := hs; rfl) | (obtain ⟨_, _, _, _, _, _, _, _, _, _, rfl, _⟩ := hs; rfl) | (obtain ⟨_, _, _, _, _, _, _, _, _, _, _, rfl, _⟩ := hs; rfl) | (obtain ⟨_, _, _, _, _, _, _, _, _, _, _, _, rfl, _⟩ := hs; rfl) | (obtain ⟨_, _, _, _, _, _, _, _, _, _, _, _, _, rfl, _⟩ := hs; rfl) | (obtain ⟨_, _, _, _, _, _, _, _, _, _, _, _, _, _, rfl, _⟩ := hs; rfl) | (obtain ⟨_, _, _, _, _, _, _, _, _, _, _, _, _, _, _, rfl, _⟩ := hs; rfl) | (obtain ⟨_, _, _, _, _, _, _, _, _, _, _, _, _, _, _, _, rfl, _⟩ := hs; rfl) | (obtain ⟨_, _, _, _, _, _, _, _, _, _, _, _, _, _, _, _, _, rfl, _⟩ := hs; rfl) | (obtain ⟨_, _, _, _, _, _, _, _, _, _, _, _, _, _, _, _, _, _, rfl, _⟩ := hs; rfl) | (obtain ⟨_, _, _, _, _, _, _, _, _, _, _, _, _, _, _, _, _, _, _, rfl, _⟩ := hs; rfl) | (obtain ⟨_, _, _, _, _, _, _, _, _, _, _, _, _, _, _, _, _, _, _, _, rfl, _⟩ := hs; rfl) | (obtain ⟨_, _, _, _, _, _, _, _, _, _, _, _, _, _, _, _, _, _, _, _, _, rfl, _⟩ := hs; rfl)) (fun cdv A outer s H vs Q E hr hq => ?_)
  obtain ⟨k, rfl, q⟩ := hq
  refine ⟨_, (pss_cons (ps_if (pt_cmpR op_eq (pv 0) pe_str (nomark _)) pss_never pss_nil)
      (pss_cons (ps_if (pt_cmpR op_in_seq (pv 0) (pe_tup (pa_cons pe_str (pa_cons pe_str pa_nil))) (by rfl)) pss_never pss_nil)
      (pss_one (ps_ret (pe_tup (pa_cons (pe_lc (own := [("k", 4)]) (te := (tTup (tCons (tVar 0) (tCons (tOp _ (tVar 3) (tOp _ (tVar 1) (tVar 4))) (tCons (tVar 1) tNil))))) rfl scf_field_of.nd (pi_range1 rfl (n_range h) (pa_cons (pv 2) pa_nil)) (blkOk_by (N := ["code", "size", "many", "place", "k"]) (own := [("k", 4)]) (sc := defScope sf_field_of) (by decide +kernel)) (fun _ _ _ _ _ => (pg_name (i := 4) scf_field_of.nd rfl (Or.inl rfl))) (fun _ _ _ _ _ => pts_nil) (fun _ _ _ _ _ => (pe_tup (pa_cons (pv 0) (pa_cons (pe_op op_add (pv 3) (pe_op op_mul (pv 1) (pv 4))) (pa_cons (pv 1) pa_nil)))))) (pa_cons (pe_op op_add (pv 3) (pe_op op_mul (pv 1) (pv 2))) pa_nil))))))), ?_⟩
  rw [stf_field_of]
  walk_at "rd"
  have n1 : ¬ (k.str = "x") := by cases k <;> decide +kernel
  rw [if_neg n1]
  refine ⟨by simp [sizeLine], fun p np => ?_⟩
  obtain ⟨H1, H1_eq, e1, h1⟩ := newq (.tup [V.str "s", V.str "p"]) np
  rw [← H1_eq]
  clear H1_eq
  refine ⟨p, _, rfl, .inr (SqT.of h1), rfl, rfl, ?_⟩
  rw [show inV (V.str k.str) [V.str "s", V.str "p"] = false by cases k <;> decide +kernel]
  refine ⟨_, rfl, iteF ?_⟩
  refine ⟨_, rfl, 1, rfl, by decide, by decide, fun D nD => ?_⟩
  refine lc_rel (X := []) walk_range (fun _ _ _ => True) (line_of (by decide)) (Ev.refl _ _) nD (by simp) (fun _ _ _ _ _ _ _ _ => trivial) (fun _ _ => trivial) (fun i x H2 H3 N hlt e2 y kk => ?_) (fun H2 ys e2 hD hl kk => ?_)
  · obtain ⟨rfl, rfl⟩ := y
    try walk_at "rd"
    have := k.wd8
    refine ⟨.inl ⟨by omega, by omega⟩, by simp [sizeLine], fun t nt => kk _ _ trivial (Ev.new nt)⟩
  · try walk_at "rd"
    have := k.wd8
    refine ⟨.inl ⟨by omega, by omega⟩, by simp [sizeLine], fun t nt => ?_⟩
    refine q _ t D ys ((e1.trans e2).trans (Ev.new nt)) (e1.free nD) ?_ ((Ev.new (X := []) nt).lst hD) (by simpa using hl)
    rw [upd_same]
    simp
end VL
end
section
set_option linter.all false
set_option maxRecDepth 100000
set_option maxHeartbeats 4000000
namespace VL
open PySem PySem.Spec PyProof.Rows L2 RZ
local macro_rules | `(tactic| walk_at "rd") => `(tactic| (simp only [tVar, tC, tOp, tUn, tTest, tB, tAnd, tOr, tNot, tAndV, tOrV, tNotV, tIf, tIfS, tSeq, tAsg, gName, tRet, tRetN, tDrop, tNext, rI, rI0, rU, rEq, rNe, scal, tCons, tNil, tCB, t2I, tChain, tCall, tMeth, tPar, tPar3, tFld, tTup, tLst, iTup, iList, iRng1, tPart, tNoPart, tBM, tBM0, tMake, cxK, noxK, L2.wipe,
  List.append_nil, List.nil_append, List.cons_append, List.map_cons, List.map_nil, List.getElem?_cons_zero, List.getElem?_cons_succ, List.getElem?_nil, List.set_cons_zero, List.set_cons_succ, Option.some.injEq, V.int.injEq, V.bl.injEq, V.str.injEq, V.ref.injEq, exists_and_left, exists_eq_left', exists_eq_left, true_and, and_true, List.cons.injEq, if_true, if_false, Bool.false_eq_true, Bool.not_true, Bool.not_false, decide_eq_true_eq, and_assoc]))
variable {P : Program} {w : World} {mg : Str → Option Value} {base : Heap}
def spReadLayout : Sp := fun vs H Q _ => ∃ k : KK, vs = [.str k.str] ∧ ∀ H' t D, Ev [] H H' → H' t = some (.tup [.bl false, .int k.wd, .ref D]) → Q (.ref t) H'
theorem ok_read_layout (h : MgOk w.params mg) : FnOk P w (K w.params) mg base CX0 2 af_read_layout fdf_read_layout ["layout"] spReadLayout := by
  refine Fun.ok (sp := spReadLayout) (Ff_read_layout w.params) scf_read_layout (fun vs H Q E hs => by first | (obtain ⟨_, rfl, _⟩ := hs; rfl) | (obtain ⟨_, _, rfl, _⟩ := hs; rfl) | (obtain ⟨_, _, _, rfl, _⟩ := hs; rfl) | (obtain ⟨_, _, _, _, rfl, _⟩ := hs; rfl) | (obtain ⟨_, _, _, _, _, rfl, _⟩ := hs; rfl) | (obtain ⟨_, _, _, _, _, _, rfl, _⟩ := hs; rfl) | (obtain ⟨_, _, _, _, _, _, _, rfl, _⟩ := hs; rfl) | (obtain ⟨_, _, _, _, _, _, _, _, rfl, _⟩ := hs; rfl) | (obtain ⟨_, _, _, _, _, _, _, _, _, rfl, _⟩ := hs; rfl) | (obtain ⟨_, _, _, _, _, _, _, _, _, _, rfl, _⟩ := hs; rfl) | (obtain ⟨_, _, _, _, _, _, _, _, _, _, _, rfl, _⟩ := hs; rfl) | (obtain ⟨_, _, _, _, _, _, _, _, _, _, _, _, rfl, _⟩ := hs; rfl) | (obtain ⟨_, _, _, _, _, _, _, _, _, _, _, _, _, rfl, _⟩ := hs; rfl) | (obtain ⟨_, _, _, _, _, _, _, _, _, _, _, _, _, _, rfl, _⟩ := hs; rfl) | (obtain ⟨_, _, _, _, _, _, _, _, _, _, _, _, _, _, _, rfl, _⟩ := hs; rfl) | (obtain ⟨_, _, _, _, _, _, _, _, _, _, _, _, _, _, _, _, rfl, _⟩ := hs; rfl) | (obtain ⟨_, _, _, _, _, _, _, _, _, _, _, _, _, _, _, _, _, rfl, _⟩ := hs; rfl) | (obtain ⟨_, _, _, _, _, _, _, _, _, _, _, _, _, _, _, _, _, _, rfl, _⟩ := hs; rfl) | (obtain ⟨_, _, _, _, _, _, _, _, _, _, _, _, _, _, _, _, _, _, _, rfl, _⟩ := hs; rfl) | (obtain ⟨_, _, _, _, _, _, _, _, _, _, _, _, _, _, _, _, _, _, _, _, rfl, _⟩ := hs; rfl) | (obtain ⟨_, _, _, _, _, _, _, _, _, _, _, _, _, _, _, _, _, _, _, _, _, rfl, _⟩ := hs; rfl)) (fun cdv A outer s H vs Q E hr hq => ?_)
  obtain ⟨k, rfl, q⟩ := hq
  have hu := hu_of hr
  refine ⟨_, (pss_cons (ps_if (pt_not (pt_val (pe_callB call_isi (by rfl) (n_isinstance h) (by decide +kernel) (pa_cons (pv 0) (pa_cons (pe_bltn (v := .ty "str") (by rfl) (n_str h) (by decide +kernel) rfl) pa_nil))))) (pss_one ps_never) pss_nil)
      (pss_cons (ps_set (i := 1) scf_read_layout.nd rfl (Or.inl rfl) (pe_ifExp (pt_cmpR op_in_seq (pe_slice sl_str (pv 0) po_none (po_some pe_int)) (pe_glob (v := .ref 581) (by rfl) (g_ORDERS h) rfl) (by rfl)) pe_nev pe_str))
      (pss_cons (ps_set (i := 2) scf_read_layout.nd rfl (Or.inl rfl) (pe_ifExp (pt_cmpR op_eq (pv 1) pe_str (nomark _)) (pe_callTy (call_dict_nat (w := w) rfl rfl) (by rfl) (n_dict h) (by decide +kernel) (pa_cons (pe_glob (v := .ref 584) (by rfl) (g_NATIVE h) rfl) pa_nil)) pe_nev))
      (pss_cons (ps_par3 (i := 3) (j := 4) (l := 5) (by rfl) scf_read_layout.nd rfl rfl rfl (by decide) (by decide) (by decide) rfl rfl rfl (pa_cons (pe_callTy call_int1 (by rfl) (n_int h) (by decide +kernel) (pa_cons (pe_cmpR op_in_seq (pe_slice sl_str (pv 0) po_none (po_some pe_int)) (pe_glob (v := .ref 581) (by rfl) (g_ORDERS h) rfl) (by rfl)) pa_nil)) (pa_cons pe_int (pa_cons (pe_lst pa_nil) pa_nil))) (by rfl))
      (pss_cons (ps_while PassesOwn.never (pt_cmpR op_lt (pv 3) (pe_callB call_len (by rfl) (n_len h) (by decide +kernel) (pa_cons (pv 0) pa_nil)) (nomark _)) (pss_cons (ps_if (pt_cmpR op_eq (pe_ix ix_str (pv 0) (pv 3) (fun _ _ => rfl)) pe_str (nomark _)) (pss_cons (ps_aug (i := 3) scf_read_layout.nd rfl (Or.inl rfl) pe_int ip_add)
      (pss_one ps_continue)) pss_nil)
      (pss_cons (ps_asg (pe_call (ok_count_from h) (hr.mono (by decide)) (by rfl) (gf_count_from h) (Ff_count_from w.params).kp (bf_count_from w.params) .nil pass0 (pa_cons (pv 0) (pa_cons (pv 3) pa_nil))) (pg_tup rfl (pgs_cons (pg_name (i := 6) scf_read_layout.nd rfl (Or.inl rfl)) (pgs_cons (pg_name (i := 3) scf_read_layout.nd rfl (Or.inl rfl)) pgs_nil))))
      (pss_cons (ps_if (PW.pt (pw_or (pt_cmpR op_eq (pv 3) (pe_callB call_len (by rfl) (n_len h) (by decide +kernel) (pa_cons (pv 0) pa_nil)) (nomark _)) (pw_or1 (pt_cmp (pc_dnotin hu (pe_ix ix_str (pv 0) (pv 3) (fun _ _ => rfl)) (pv 2)))))) (pss_one ps_never) pss_nil)
      (pss_cons (ps_set (i := 7) scf_read_layout.nd rfl (Or.inl rfl) (pe_dget hu (pv 2) (pe_ix ix_str (pv 0) (pv 3) (fun _ _ => rfl)) (fun _ _ => rfl)))
      (pss_cons (ps_if (pt_cmpR op_eq (pv 1) pe_str (nomark _)) (pss_one (ps_aug (i := 4) scf_read_layout.nd rfl (Or.inl rfl) (pe_op op_modN (pe_un un_neg (pv 4)) (pv 7)) ip_add)) pss_nil)
      (pss_cons (ps_asg (pe_call (ok_field_of h) (hr.mono (by decide)) (by rfl) (gf_field_of h) (Ff_field_of w.params).kp (bf_field_of w.params) .nil pass0 (pa_cons (pe_ix ix_str (pv 0) (pv 3) (fun _ _ => rfl)) (pa_cons (pv 7) (pa_cons (pv 6) (pa_cons (pv 4) pa_nil))))) (pg_tup rfl (pgs_cons (pg_name (i := 8) scf_read_layout.nd rfl (Or.inl rfl)) (pgs_cons (pg_name (i := 4) scf_read_layout.nd rfl (Or.inl rfl)) pgs_nil))))
      (pss_cons (ps_expr (pe_bm PySem.F.plainAttrs_list PySem.F.slot_list_extend PySem.F.type_list_extend mt_extend (pv 5) (pa_cons (pv 8) pa_nil)))
      (pss_one (ps_aug (i := 3) scf_read_layout.nd rfl (Or.inl rfl) pe_int ip_add))))))))))
      (pss_one (ps_ret (pe_tup (pa_cons (pe_cmpR op_in_seq (pv 1) (pe_tup (pa_cons pe_str (pa_cons pe_str pa_nil))) (by rfl)) (pa_cons (pv 4) (pa_cons (pv 5) pa_nil))))))))))), ?_⟩
  rw [stf_read_layout]
  refine freeze fun R2 hR2 => ?_
  try walk_at "rd"
  refine isi_str ⟨_, rfl, iteF ?_⟩
  have no : inV (V.str k.str) [V.str "@", V.str "=", V.str "<", V.str ">", V.str "!"] = false := by cases k <;> decide +kernel
  subst hR2
  refine freeze fun R3 hR3 => ?_
  try walk_at "rd"
  refine ⟨_, rfl, 1, rfl, k.str, rfl, by rw [k.len]; decide, ?_⟩
  rw [k.sl1]
  refine ⟨581, _, rfl, .inr t_ORDERS, rfl, rfl, ?_⟩
  rw [no]
  refine ⟨_, rfl, iteF ?_⟩
  subst hR3
  refine freeze fun R4 hR4 => ?_
  try walk_at "rd"
  intro d nd
  obtain ⟨H1, H1_eq, e1, hd⟩ := newq (.dK natKV) nd
  rw [← H1_eq]
  clear H1_eq
  subst hR4
  refine freeze fun R5 hR5 => ?_
  try walk_at "rd"
  refine ⟨_, rfl, 1, rfl, k.str, rfl, by rw [k.len]; decide, ?_⟩
  rw [k.sl1]
  refine ⟨581, _, rfl, .inr t_ORDERS, rfl, rfl, ?_⟩
  rw [no]
  try walk_at "rd"
  refine .inr ⟨by simp [sizeLine], fun f nf => ?_⟩
  obtain ⟨H2, H2_eq, e2, hf⟩ := newq (.lst []) nf
  rw [← H2_eq]
  clear H2_eq
  subst hR5
  refine freeze fun R6 hR6 => ?_
  have hf0 : H f = none := e1.free nf
  refine while1 (fun σ' H' => Ev [] H H' ∧ ∃ x y z, σ' = [some (.str k.str), some (.str "@"), some (.ref d), some (.int 1), some (.int k.wd), some (.ref f), x, y, z]) ?_ ?_ ?_
  · try walk_at "rd"
    refine ⟨k.str.length, ⟨by rw [k.len]; decide, rfl⟩, ?_⟩
    rw [k.len, if_pos (by decide)]
    obtain ⟨ch, hc1, hc2⟩ := k.at0
    refine ⟨k.str, 0, ch, rfl, rfl, by rw [k.len]; decide, hc1, ?_⟩
    rw [hc2]
    refine ⟨rfl, ?_⟩
    rw [if_neg (by cases k <;> decide +kernel)]
    refine ⟨k, rfl, fun H3 t e3 ht => ?_⟩
    refine gTup2 ht ?_
    have hd3 := (e2.trans e3).dK hd
    have hf3 := e3.lst hf
    have hv : valV natKV (Sum.inr k.str) = some (.int k.wd) := by cases k <;> rfl
    have ix : ∀ H Q, Q (.str k.str) H → rIxS (.str k.str) (.int 0) H Q := fun H Q q => ⟨k.str, 0, ch, rfl, rfl, by rw [k.len]; decide, hc1, by rw [hc2]; exact q⟩
    refine freeze fun R7 hR7 => ?_
    try walk_at "rd"
    refine ⟨k.str.length, ⟨by rw [k.len]; decide, rfl⟩, ?_⟩
    rw [k.len, if_neg (by decide)]
    refine ⟨_, rfl, _, rfl, ix _ _ ?_⟩
    have dg : ∀ {H : Hp}, H d = some (.dK natKV) → DGet H d (.str k.str) (some (.int k.wd)) := fun e => by
      have := DGet.k (k := Sum.inr k.str) e
      rw [hv] at this
      exact this
    refine ⟨_, rfl, d, _, rfl, dg hd3, _, rfl, iteF ?_⟩
    subst hR7
    refine freeze fun R8 hR8 => ?_
    refine ⟨_, rfl, _, rfl, _, rfl, ix _ _ ⟨d, _, rfl, dg hd3, ?_⟩⟩
    subst hR8
    refine freeze fun R9 hR9 => ?_
    try walk_at "rd"
    subst hR9
    refine freeze fun R10 hR10 => ?_
    try walk_at "rd"
    have w0 := k.wd0
    refine ⟨_, rfl, _, rfl, 0, rfl, _, rfl, _, _, rfl, rfl, by show (k.wd : Int) ≠ 0; omega, 0, _, rfl, rfl, ?_⟩
    have z0 : (fun (i j : Int) => i + j) 0 ((-0 : Int).fmod (k.wd : Int)) = 0 := by simp
    rw [z0]
    subst hR10
    refine freeze fun R11 hR11 => ?_
    try walk_at "rd"
    subst hR11
    refine freeze fun R12 hR12 => ?_
    refine ⟨_, rfl, _, rfl, ix _ _ ⟨_, rfl, _, rfl, _, rfl, ?_⟩⟩
    refine ⟨k, rfl, fun H4 t4 D xs e4 nD ht4 hD hl => ?_⟩
    refine gTup2 ht4 ?_
    subst hR12
    have hf4 := e4.lst hf3
    have fD : f ≠ D := fun z => by subst z; rw [hf3] at nD; cases nD
    try walk_at "rd"
    refine ⟨.inl ⟨rfl, _, SqL.of hf4⟩, f, D, [], xs, rfl, rfl, hf4, hD, by simp [hl, sizeLine], ?_⟩
    try walk_at "rd"
    refine ⟨_, rfl, _, _, rfl, rfl, ?_⟩
    exact ⟨((((e1.trans e2).trans e3).trans e4).put hf0), _, _, _, rfl⟩
  · rintro σ' H' ⟨e, x, y, z, rfl⟩ X
    try walk_at "rd"
    refine ⟨k.str.length, ⟨by rw [k.len]; decide, rfl⟩, ?_⟩
    rw [k.len, if_neg (by decide)]
    subst hR6
    try walk_at "rd"
    refine ⟨by simp [sizeLine], fun t nt => ?_⟩
    obtain ⟨H3, H3_eq, e3, h3⟩ := newq (.tup [V.str ">", V.str "!"]) nt
    rw [← H3_eq]
    clear H3_eq
    refine ⟨t, _, rfl, .inr (SqT.of h3), rfl, rfl, ?_⟩
    rw [show inV (V.str "@") [V.str ">", V.str "!"] = false by decide +kernel]
    exact ⟨by simp [sizeLine], fun r nr => q _ r f ((e.trans e3).trans (Ev.new nr)) upd_same⟩
  · intro σ H Q Q' hQ hc
    obtain ⟨v, h1, v0, h2, x, n, h3, h4, i, j, h5, h6, b, h7, h8⟩ := hc
    exact ⟨v, h1, v0, h2, x, n, h3, h4, i, j, h5, h6, b, h7, hQ _ _ h8⟩
def spCalc : Sp := fun vs H Q _ => ∃ k : KK, vs = [.str k.str] ∧ RetV H Q (.int k.wd)
theorem ok_calcsize (h : MgOk w.params mg) : FnOk P w (K w.params) mg base CX0 3 af_calcsize fdf_calcsize ["layout"] spCalc := by
  refine Fun.ok (sp := spCalc) (Ff_calcsize w.params) scf_calcsize (fun vs H Q E hs => by first | (obtain ⟨_, rfl, _⟩ := hs; rfl) | (obtain ⟨_, _, rfl, _⟩ := hs; rfl) | (obtain ⟨_, _, _, rfl, _⟩ := hs; rfl) | (obtain ⟨_, _, _, _, rfl, _⟩ := hs; rfl) | (obtain ⟨_, _, _, _, _, rfl, _⟩ := hs; rfl) | (obtain ⟨_, _, _, _, _, _, rfl, _⟩ := hs; rfl) | (obtain ⟨_, _, _, _, _, _, _, rfl, _⟩ := hs; rfl) | (obtain ⟨_, _, _, _, _, _, _, _, rfl, _⟩ := hs; rfl) | (obtain ⟨_, _, _, _, _, _, _, _, _, rfl, _⟩ := hs; rfl) | (obtain ⟨_, _, _, _, _, _, _, _, _, _, rfl, _⟩ := hs; rfl) | (obtain ⟨_, _, _, _, _, _, _, _, _, _, _, rfl, _⟩ := hs; rfl) | (obtain ⟨_, _, _, _, _, _, _, _, _, _, _, _, rfl, _⟩ := hs; rfl) | (obtain ⟨_, _, _, _, _, _, _, _, _, _, _, _, _, rfl, _⟩ := hs; rfl) | (obtain ⟨_, _, _, _, _, _, _, _, _, _, _, _, _, _, rfl, _⟩ := hs; rfl) | (obtain ⟨_, _, _, _, _, _, _, _, _, _, _, _, _, _, _, rfl, _⟩ := hs; rfl) | (obtain ⟨_, _, _, _, _, _, _, _, _, _, _, _, _, _, _, _, rfl, _⟩ := hs; rfl) | (obtain ⟨_, _, _, _, _, _, _, _, _, _, _, _, _, _, _, _, _, rfl, _⟩ := hs; rfl) | (obtain ⟨_, _, _, _, _, _, _, _, _, _, _, _, _, _, _, _, _, _, rfl, _⟩ := hs; rfl) | (obtain ⟨_, _, _, _, _, _, _, _, _, _, _, _, _, _, _, _, _, _, _, rfl, _⟩ := hs; rfl) | (obtain ⟨_, _, _, _, _, _, _, _, _, _, _, _, _, _, _, _, _, _, _, _, rfl, _⟩ := hs; rfl) | (obtain ⟨_, _, _, _, _, _, _, _, _, _, _, _, _, _, _, _, _, _, _, _, _, rfl, _⟩ := hs; rfl)) (fun cdv A outer s H vs Q E hr hq => ?_)
  obtain ⟨k, rfl, q⟩ := hq
  refine ⟨_, (pss_one (ps_ret (pe_ix ix_tup (pe_call (ok_read_layout h) (hr.mono (by decide)) (by rfl) (gf_read_layout h) (Ff_read_layout w.params).kp (bf_read_layout w.params) .nil pass0 (pa_cons (pv 0) pa_nil)) pe_int (fun _ _ => rfl)))), ?_⟩
  rw [stf_calcsize]
  walk_at "rd"
  refine ⟨k, rfl, fun H1 t D e1 ht => ?_⟩
  refine ⟨t, _, 1, _, rfl, rfl, SqT.of ht, rfl, ?_⟩
  exact q _ e1
end VL
end
section
set_option linter.all false
set_option maxRecDepth 100000
set_option maxHeartbeats 4000000
namespace VL
open PySem PySem.Spec PyProof.Rows L2 RZ
local macro_rules | `(tactic| walk_at "rd") => `(tactic| (simp only [tVar, tC, tOp, tUn, tTest, tB, tAnd, tOr, tNot, tAndV, tOrV, tNotV, tIf, tIfS, tSeq, tAsg, gName, tRet, tRetN, tDrop, tNext, rI, rI0, rU, rEq, rNe, scal, tCons, tNil, tCB, t2I, tChain, tCall, tMeth, tPar, tPar3, tFld, tTup, tLst, iTup, iList, iRng1, tPart, tNoPart, tBM, tBM0, tMake, cxK, noxK, L2.wipe,
  List.append_nil, List.nil_append, List.cons_append, List.map_cons, List.map_nil, List.getElem?_cons_zero, List.getElem?_cons_succ, List.getElem?_nil, List.set_cons_zero, List.set_cons_succ, Option.some.injEq, V.int.injEq, V.bl.injEq, V.str.injEq, V.ref.injEq, exists_and_left, exists_eq_left', exists_eq_left, true_and, and_true, List.cons.injEq, if_true, if_false, Bool.false_eq_true, Bool.not_true, Bool.not_false, decide_eq_true_eq, and_assoc]))
variable {P : Program} {w : World} {mg : Str → Option Value} {base : Heap}
/-- FunD.ok, no exception leaves -/
theorem FunDN.ok {Kk : PySem.W.Frag} {x qual : Str} {params : PySem.Arguments} {body : List Stmt} {scope : Scope} {dvs : List V} {kws : List (Str × V)} {f : Addr} {fd : FuncData} {N ps : List Str} {k : Nat} {sp : Sp} (F : FunD Kk x qual params body scope dvs kws f fd) (S : FnScope N ps scope) (len : ∀ vs H Q E, sp vs H Q E → vs.length = ps.length)
    (hbody : ∀ (cdv : Value) (A : Around) (outer : List Env) (s : Shared) (H : Hp) (vs : List V) (Q : VK) (E : XK), Room k (A.deeper (envOfC qual scope s.heap.objs.size f cdv)) → sp vs H Q E →
      ∃ t, PSs (cxOf CX0 P w Kk mg base N qual scope f cdv A outer s H E).nox body t ∧ t { nx := fun _ H' => Q .non H', rt := Q } (start N vs) H) : FnOk P w Kk mg base CX0 (k + 1) f fd ps sp :=
  F.ok S len fun cdv A outer s H vs Q E hr hq => by
    obtain ⟨t, h, q⟩ := hbody cdv A outer s H vs Q E hr hq
    exact ⟨t, h.nox, q⟩
/-- [int(x) for x in t], t of one number -/
theorem lc1_int {Kk : PySem.W.Frag} {σ : L2.St} {H : Hp} {Q : VK} {i j : Nat} {a : Addr} {n : Int} (hj : σ[j]? = some (some (.ref a))) (hi : ∀ v, ((wipe σ [i]).set i (some v))[i]? = some (some v)) (ha : H a = some (.tup [.int n]))
    (q : ∀ H' D, Ev [] H H' → H D = none → H' D = some (.lst [.int n]) → Q (.ref D) H') :
    tLc (iTup Kk (tVar j)) (gName i) tYes (tCB (fun xs H Q => (∃ i, xs = [V.int i] ∧ Q (V.int i) H) ∨ ∃ k, xs = [V.bl k] ∧ Q (V.int (if k = true then 1 else 0)) H) (tCons (tVar i) tNil)) [i] σ H Q := by
  refine ⟨_, hj, a, rfl, ⟨_, SqT.of ha⟩, fun D nD => lc_fn (X := []) walk_tup (fun i => [V.int n].getD i .non) (line_of (by simp)) (Ev.refl _ _) nD (by simp) (fun H e => SqT.of (e.tup ha)) (fun t x H' H'' N hi' e y k => ?_) (fun H' e hD => ?_)⟩
  · obtain ⟨rfl, hx⟩ := y
    have : t = 0 := by simp at hi'; omega
    subst this
    cases hx
    have := k _ (Ev.refl _ _)
    exact ⟨by simp [wipe], V.int n, hi _, .inl ⟨n, rfl, this⟩⟩
  · exact q _ _ e nD hD
theorem wo_ev' {X : List Addr} {H : Hp} {x : Addr} {o : HO} : Ev X (wo H x) (upd H x o) := (wo_ev (x := x)).put wo_none
theorem memAt_woN {H : Hp} {x : Addr} {m c : Addr} {C dx : Addr} (hx : H x = some (.ins C dx [])) (k : MemAt H m c) : MemAt (wo H x) m c := by obtain ⟨d, k⟩ := k; exact ⟨d, wo_at hx k (by intro z; cases z)⟩
def spStI : Sp := fun vs H Q _ => ∃ (x dx a z t : Addr) (k : KK) (d : List Int) (n : Nat) (s pl : Int), vs = [.ref x, .ref a, .str k.str, .ref z, .ref t, .int pl, .bl true] ∧ H x = some (.ins CStrided dx []) ∧ H a = some (.tup (d.map .int)) ∧ Bs d ∧ d.length < 1000 ∧
  H z = some (.tup [.int n]) ∧ H t = some (.tup [.int s]) ∧ n < 1000 ∧ (∀ i : Nat, i < n → InB d (pl + i * s) k.wd) ∧
  ∀ H' m c z' t', EvX x H H' → StAt H' x ⟨m, c, pl, k.wd, k.str, z', t', n, s, false⟩ → H c = none → H' c = some (.lst (d.map .int)) → Q .non H'
theorem ok_st_init (h : MgOk w.params mg) : FnOk P w (K w.params) mg base CX0 6 am_st_init fdm_st_init ["self", "data", "layout", "shape", "strides", "place", "writable"] spStI := by
  refine FunDN.ok (sp := spStI) (Fm_st_init w.params) scm_st_init (fun vs H Q E hs => by first | (obtain ⟨_, rfl, _⟩ := hs; rfl) | (obtain ⟨_, _, rfl, _⟩ := hs; rfl) | (obtain ⟨_, _, _, rfl, _⟩ := hs; rfl) | (obtain ⟨_, _, _, _, rfl, _⟩ := hs; rfl) | (obtain ⟨_, _, _, _, _, rfl, _⟩ := hs; rfl) | (obtain ⟨_, _, _, _, _, _, rfl, _⟩ := hs; rfl) | (obtain ⟨_, _, _, _, _, _, _, rfl, _⟩ := hs; rfl) | (obtain ⟨_, _, _, _, _, _, _, _, rfl, _⟩ := hs; rfl) | (obtain ⟨_, _, _, _, _, _, _, _, _, rfl, _⟩ := hs; rfl) | (obtain ⟨_, _, _, _, _, _, _, _, _, _, rfl, _⟩ := hs; rfl) | (obtain ⟨_, _, _, _, _, _, _, _, _, _, _, rfl, _⟩ := hs; rfl) | (obtain ⟨_, _, _, _, _, _, _, _, _, _, _, _, rfl, _⟩ := hs; rfl) | (obtain ⟨_, _, _, _, _, _, _, _, _, _, _, _, _, rfl, _⟩ := hs; rfl) | (obtain ⟨_, _, _, _, _, _, _, _, _, _, _, _, _, _, rfl, _⟩ := hs; rfl) | (obtain ⟨_, _, _, _, _, _, _, _, _, _, _, _, _, _, _, rfl, _⟩ := hs; rfl) | (obtain ⟨_, _, _, _, _, _, _, _, _, _, _, _, _, _, _, _, rfl, _⟩ := hs; rfl) | (obtain ⟨_, _, _, _, _, _, _, _, _, _, _, _, _, _, _, _, _, rfl, _⟩ := hs; rfl) | (obtain ⟨_, _, _, _, _, _, _, _, _, _, _, _, _, _, _, _, _, _, rfl, _⟩ := hs; rfl) | (obtain ⟨_, _, _, _, _, _, _, _, _, _, _, _, _, _, _, _, _, _, _, rfl, _⟩ := hs; rfl) | (obtain ⟨_, _, _, _, _, _, _, _, _, _, _, _, _, _, _, _, _, _, _, _, rfl, _⟩ := hs; rfl) | (obtain ⟨_, _, _, _, _, _, _, _, _, _, _, _, _, _, _, _, _, _, _, _, _, rfl, _⟩ := hs; rfl)) (fun cdv A outer s H vs Q E hr hq => ?_)
  obtain ⟨x, dx, a, z, t, k, d, n, s1, pl, rfl, hx, ha, hb, hl, hz, ht, hn, hin, q⟩ := hq
  refine ⟨_, (pss_cons (ps_set (i := 7) scm_st_init.nd rfl (Or.inl rfl) (pe_call (ok_calcsize h) (hr.mono (by decide)) (by rfl) (gf_calcsize h) (Ff_calcsize w.params).kp (bf_calcsize w.params) .nil pass0 (pa_cons (pv 2) pa_nil)))
      (pss_cons (ps_set (i := 8) scm_st_init.nd rfl (Or.inl rfl) (pe_make (mk_Memory w.params) (ok_mem_init h) (hr.mono (by decide)) (by rfl) (g_Memory h) (bm_mem_init w.params) .nil pass0 (pa_cons (pe_call (ok_bytes_of_row h) (hr.mono (by decide)) (by rfl) (gf_bytes_of_row h) (Ff_bytes_of_row w.params).kp (bf_bytes_of_row w.params) .nil pass0 (pa_cons (pv 1) pa_nil)) pa_nil)))
      (pss_cons (ps_par (i := 9) (j := 10) (by rfl) scm_st_init.nd rfl rfl (by decide) rfl rfl (pa_cons (pe_callTy call_tuple_of (by rfl) (n_tuple h) (by decide +kernel) (pa_cons (pe_lc (own := [("size", 12)]) (te := _) rfl scm_st_init.nd (pi_tup (pv 3)) (blkOk_by (N := ["self", "data", "layout", "shape", "strides", "place", "writable", "width", "memory", "sizes", "steps", "at", "size", "step"]) (own := [("size", 12)]) (sc := defScope sm_st_init) (by decide +kernel)) (fun _ _ _ _ _ => (pg_name (i := 12) scm_st_init.nd rfl (Or.inl rfl))) (fun _ _ _ _ _ => pts_nil) (fun _ _ _ _ _ => (pe_callTy call_int1 (by rfl) (n_int h) (by decide +kernel) (pa_cons (pv 12) pa_nil)))) pa_nil)) (pa_cons (pe_callTy call_tuple_of (by rfl) (n_tuple h) (by decide +kernel) (pa_cons (pe_lc (own := [("step", 13)]) (te := _) rfl scm_st_init.nd (pi_tup (pv 4)) (blkOk_by (N := ["self", "data", "layout", "shape", "strides", "place", "writable", "width", "memory", "sizes", "steps", "at", "size", "step"]) (own := [("step", 13)]) (sc := defScope sm_st_init) (by decide +kernel)) (fun _ _ _ _ _ => (pg_name (i := 13) scm_st_init.nd rfl (Or.inl rfl))) (fun _ _ _ _ _ => pts_nil) (fun _ _ _ _ _ => (pe_callTy call_int1 (by rfl) (n_int h) (by decide +kernel) (pa_cons (pv 13) pa_nil)))) pa_nil)) pa_nil)) (by rfl))
      (pss_cons (ps_if (PW.pt (pw_or (pt_cmpR op_eq (pv 7) pe_int (nomark _)) (pw_or (pt_cmpR op_gt (pe_callB call_len (by rfl) (n_len h) (by decide +kernel) (pa_cons (pv 9) pa_nil)) pe_int (nomark _)) (pw_or1 (pt_cmpR op_ne (pe_callB call_len (by rfl) (n_len h) (by decide +kernel) (pa_cons (pv 9) pa_nil)) (pe_callB call_len (by rfl) (n_len h) (by decide +kernel) (pa_cons (pv 10) pa_nil)) (nomark _)))))) (pss_one ps_never) pss_nil)
      (pss_cons (ps_for PassesOwn.never rfl (pi_list (pe_call (ok_addresses h) (hr.mono (by decide)) (by rfl) (gf_addresses h) (Ff_addresses w.params).kp (bf_addresses w.params) .nil pass0 (pa_cons (pv 9) (pa_cons (pv 10) (pa_cons (pv 5) pa_nil))))) (pg_name (i := 11) scm_st_init.nd rfl (Or.inl rfl)) (pss_one (ps_if (PW.pt (pw_or (pt_cmpR op_lt (pv 11) pe_int (nomark _)) (pw_or1 (pt_cmpR op_gt (pe_op op_add (pv 11) (pv 7)) (pe_callB call_len (by rfl) (n_len h) (by decide +kernel) (pa_cons (pe_fld (pv 8) rfl) pa_nil)) (nomark _))))) (pss_one ps_never) pss_nil)))
      (pss_one (ps_fld (pv 0) (pe_make (mk_Buffer w.params) (ok_buf_init h) (hr.mono (by decide)) (by rfl) (g_Buffer h) (bm_buf_init w.params) .nil pass0 (pa_cons (pv 8) (pa_cons (pe_callTy call_int1 (by rfl) (n_int h) (by decide +kernel) (pa_cons (pv 5) pa_nil)) (pa_cons (pv 7) (pa_cons (pv 2) (pa_cons (pv 9) (pa_cons (pv 10) (pa_cons (pe_not (pv 6)) (pa_cons (pv 0) pa_nil))))))))) rfl))))))), ?_⟩
  rw [stm_st_init]
  refine freeze fun R2 hR2 => ?_
  try walk_at "rd"
  refine ⟨k, rfl, fun H1 e1 => ?_⟩
  subst hR2
  refine freeze fun R3 hR3 => ?_
  try walk_at "rd"
  refine ⟨a, d, rfl, e1.tup ha, hb, hl, fun H2 ta e2 hta => ?_⟩
  refine mk_mem hta (by omega) fun H3 m c e3 nm nc hm hc => ?_
  have e13 := (e1.trans e2).trans e3
  subst hR3
  refine freeze fun R4 hR4 => ?_
  try walk_at "rd"
  have hz3 := e13.tup hz
  have ht3 := e13.tup ht
  refine lc1_int (by rfl) (fun _ => rfl) hz3 fun H4 D4 e4 nD4 hD4 => ?_
  refine ⟨_, rfl, _, .inl ⟨SqL.of hD4, fun z' nz' => ?_⟩⟩
  obtain ⟨H5, H5_eq, e5, hz'⟩ := newq (.tup [V.int n]) nz'
  rw [← H5_eq]
  clear H5_eq
  refine lc1_int (by rfl) (fun _ => rfl) ((e4.trans e5).tup ht3) fun H6 D6 e6 nD6 hD6 => ?_
  refine ⟨_, rfl, _, .inl ⟨SqL.of hD6, fun t' nt' => ?_⟩⟩
  obtain ⟨H7, H7_eq, e7, ht'⟩ := newq (.tup [V.int s1]) nt'
  rw [← H7_eq]
  clear H7_eq
  have hz7 := (e6.trans e7).tup hz'
  have e37 := (e4.trans e5).trans (e6.trans e7)
  subst hR4
  refine freeze fun R5 hR5 => ?_
  have w0 := k.wd0
  try walk_at "rd"
  rw [if_neg (show ¬ ((k.wd : Int) = 0) by omega)]
  refine ⟨_, .inr ⟨_, SqT.of hz7, rfl⟩, ?_⟩
  rw [if_neg (by simp)]
  refine ⟨_, .inr ⟨_, SqT.of hz7, rfl⟩, _, .inr ⟨_, SqT.of ht', rfl⟩, ?_⟩
  rw [if_neg (by simp)]
  subst hR5
  refine freeze fun R6 hR6 => ?_
  try walk_at "rd"
  refine ⟨_, rfl, _, rfl, _, rfl, z', t', n, s1, pl, rfl, hz7, ht', hn, fun H8 L e8 nL hL => ?_⟩
  refine ⟨L, rfl, ⟨_, SqL.of hL⟩, ?_⟩
  have hm8 := (hm.ev e37).ev e8
  have hc8 := (e37.trans e8).lst hc
  have hz8 := e8.tup hz7
  have ht8 := e8.tup ht'
  have e18 := (e13.trans e37).trans e8
  refine for_it (walk_list (xs := (List.range n).map fun (i : Nat) => V.int (pl + i * s1))) (fun _ σ H' => Ev [] H8 H' ∧ ∃ u, σ = [some (V.ref x), some (V.ref a), some (V.str k.str), some (V.ref z), some (V.ref t), some (V.int pl), some (V.bl true), some (V.int ↑k.wd), some (V.ref m), some (V.ref z'), some (V.ref t'), u, none, none])
    ⟨Ev.refl _ _, _, rfl⟩ (fun i σ H' _ p => SqL.of (p.1.lst hL)) (fun i v σ H' H'' hi p y => ?_) (fun σ H' p => ?_)
  · obtain ⟨rfl, hv⟩ := y
    obtain ⟨e, u, rfl⟩ := p
    have hi' : i < n := by simpa using hi
    simp [hi'] at hv
    subst hv
    have hb1 := hin i hi'
    try walk_at "rd"
    rw [if_neg (by have := hb1.1; omega)]
    refine fgo ((hm8.ev e).f_cells) ?_
    try walk_at "rd"
    refine ⟨_, .inl ⟨_, SqL.of (e.lst hc8), rfl⟩, ?_⟩
    rw [if_neg (by have := hb1.2; simp; omega)]
    exact ⟨e, _, rfl⟩
  · obtain ⟨e, u, rfl⟩ := p
    subst hR6
    try walk_at "rd"
    refine ⟨_, rfl, _, rfl, .inl ⟨_, rfl, _, rfl, _, rfl, _, rfl, _, rfl, _, rfl, _, rfl, _, rfl, ?_⟩⟩
    refine mk_buf fun H9 b bx e9 nb hb => ?_
    have e89 := e.trans e9
    have hx9 : H9 x = some (.ins CStrided dx []) := (e18.trans e89).ins hx
    have hmb := hm8.ev e89
    refine ⟨_, rfl, puto hx9 (cl_Strided w.params) (na_Strided_plan w.params) (by simp) (o' := .ins CStrided dx [("plan", .ref b)]) (by kernel_rfl) ?_⟩
    have w9 : Ev [] (wo H9 x) (upd H9 x (.ins CStrided dx [("plan", .ref b)])) := wo_ev'
    have hbx : b ≠ x := ne_of hb hx9 (by intro z; cases z)
    have bo : BufAt (wo H9 x) b ⟨m, c, pl, k.wd, k.str, z', t', n, s1, false⟩ (.ref x) := ⟨⟨memAt_woN hx9 hmb, wo_at hx9 (e89.tup hz8) (by intro z; cases z), wo_at hx9 (e89.tup ht8) (by intro z; cases z)⟩, bx, 0, wo_at hx9 hb (by intro z; cases z)⟩
    refine q _ m c z' t' (((EvX.refl x H).ev (e18.trans e89)).put) ⟨dx, b, .ref x, upd_same, bo.ev w9⟩ ((e1.trans e2).free nc) ?_
    exact w9.lst (wo_at hx9 (e89.lst hc8) (by intro z; cases z))
end VL
end
section
set_option linter.all false
set_option maxRecDepth 100000
set_option maxHeartbeats 4000000
/-! xs[a:c] = ys, ys another list. -/
namespace VL
open PySem PySem.Spec PyProof.Rows L2
section
variable {X : Cx} {o : Expr} {lo hi : Expr} {to : TE} {tl th : TO} {pos p2 : Pos}
def gSl (to : TE) (tl th : TO) : TG := fun v σ H Q => to σ H fun x H1 => tl σ H1 fun lo H2 => th σ H2 fun hi H3 =>
  ∃ l b xs ys a c, x = .ref l ∧ v = .ref b ∧ lo = some a ∧ hi = some c ∧ H3 l = some (.lst xs) ∧ H3 b = some (.lst ys) ∧ l ≠ b ∧ 0 ≤ a ∧ a ≤ c ∧ c ≤ xs.length ∧ xs.length + ys.length ≤ sizeLine ∧
    Q σ (upd H3 l (.lst (xs.take a.toNat ++ ys ++ xs.drop c.toNat)))
theorem pg_slice {lo hi : Option Expr} (ho : PE X o to) (hl : PO X lo tl) (hh : PO X hi th)
    (ha : ∀ v, assign (.Subscript o (.Slice lo hi none p2) pos) X.env v = (do
      let ov ← holding [v] (eval o X.env)
      let iv ← holding [v, ov] (eval (.Slice lo hi none p2) X.env)
      standAt pos
      holding [v, ov, iv] (setItem ov iv v)
      release [iv, v, ov] []) := by intro _; rfl) : PG X (.Subscript o (.Slice lo hi none p2) pos) (gSl to tl th) := by
  refine ⟨fun pins s σ H v u Q I r h => ?_⟩
  rw [ha]
  refine wpAny_bind (wpAny_holding (thn (ho.run pins s σ H _ I h) fun ov s1 ⟨x, H1, I1, r1, q1⟩ => ?_))
  refine wpAny_bind (wpAny_holding ?_)
  refine wpAny_Slice (thn (hl.run pins s1 σ H1 _ I1 q1) fun vl s2 ⟨l, H2, I2, pl, q2⟩ => thn (hh.run pins s2 σ H2 _ I2 q2) fun vu s3 ⟨w, H3, I3, pu, q3⟩ => ?_)
  rw [evalPart_none]
  refine wpAny_pure ?_
  have I4 : Inv X pins σ H3 { s3 with heap := s3.heap.push { cls := .type "slice", data := .fields #[vl, vu, .none] } } := I3.kept (t' := s3.toks) fun b ob q => Heap.get?_push_of_some _ q
  obtain ⟨la, b, xs, ys, a, c, rfl, rfl, rfl, rfl, hH, hB, hne, h0, hac, hc, hz, q⟩ := q3
  cases r1
  cases r
  cases pl
  cases pu
  refine wpAny_bind (wpAny_standAt (wpAny_bind (wpAny_holding ?_)))
  refine set_slice (X := X) I4 hH hB hne (Heap.IsSliceOf.new ..) ⟨_, rfl⟩ ⟨_, rfl⟩ h0 hac hc hz fun s' I' => ?_
  exact wpAny_release ⟨σ, _, I', q⟩
end
end VL
end
section
set_option linter.all false
set_option maxRecDepth 100000
set_option maxHeartbeats 1000000
namespace VL
open PySem PySem.Spec PyProof.Rows L2 RZ
local macro_rules | `(tactic| walk_at "rd") => `(tactic| (simp only [tVar, tC, tOp, tUn, tTest, tB, tAnd, tOr, tNot, tAndV, tOrV, tNotV, tIf, tIfS, tSeq, tAsg, gName, tRet, tRetN, tDrop, tNext, rI, rI0, rU, rEq, rNe, scal, tCons, tNil, tCB, t2I, tChain, tCall, tMeth, tPar, tPar3, tFld, tTup, tLst, iTup, iList, iRng1, tPart, tNoPart, tBM, tBM0, tMake, tDGet, cxK, noxK, L2.wipe,
  List.append_nil, List.nil_append, List.cons_append, List.map_cons, List.map_nil, List.getElem?_cons_zero, List.getElem?_cons_succ, List.getElem?_nil, List.set_cons_zero, List.set_cons_succ, Option.some.injEq, V.int.injEq, V.bl.injEq, V.str.injEq, V.ref.injEq, exists_and_left, exists_eq_left', exists_eq_left, true_and, and_true, List.cons.injEq, if_true, if_false, Bool.false_eq_true, Bool.not_true, Bool.not_false, decide_eq_true_eq, and_assoc]))
variable {P : Program} {w : World} {mg : Str → Option Value} {base : Heap}
/-- a spring of draws: its list, the script's list, how many draws are left -/
def St4 (H : Hp) (S sc : Addr) (a b c : Int) (xs : List Int) : Prop := S ≠ sc ∧ H S = some (.lst [.ref sc, .int a, .int b, .int c]) ∧ H sc = some (.lst (xs.map .int))
def StrAt (H : Hp) (S sc : Addr) (f : Nat) : Prop := ∃ (a b c : Int) (xs : List Int), St4 H S sc a b c xs ∧ xs.length ≤ 63 ∧ 0 ≤ b ∧ b + f ≤ 1048576 ∧ 0 ≤ c ∧ c < 2147483647
theorem St4.evX {X : List Addr} {H H' : Hp} {S sc : Addr} {a b c : Int} {xs : List Int} (k : St4 H S sc a b c xs) (e : Ev X H H') (h1 : S ∉ X) (h2 : sc ∉ X) : St4 H' S sc a b c xs := ⟨k.1, e.lstX k.2.1 h1, e.lstX k.2.2 h2⟩
theorem StrAt.evX {X : List Addr} {H H' : Hp} {S sc : Addr} {f : Nat} (k : StrAt H S sc f) (e : Ev X H H') (h1 : S ∉ X) (h2 : sc ∉ X) : StrAt H' S sc f := by
  obtain ⟨a, b, c, xs, k, r⟩ := k
  exact ⟨a, b, c, xs, k.evX e h1 h2, r⟩
theorem StrAt.ev {H H' : Hp} {S sc : Addr} {f : Nat} (k : StrAt H S sc f) (e : Ev [] H H') : StrAt H' S sc f := k.evX e (by simp) (by simp)
theorem StrAt.le {H : Hp} {S sc : Addr} {f g : Nat} (k : StrAt H S sc f) (h : g ≤ f) : StrAt H S sc g := by
  obtain ⟨a, b, c, xs, k, l, h0, h1, h2, h3⟩ := k
  exact ⟨a, b, c, xs, k, l, h0, by omega, h2, h3⟩
theorem StrAt.neS {H : Hp} {S sc x : Addr} {f : Nat} (k : StrAt H S sc f) (h : H x = none) : x ∉ [S, sc] := by
  obtain ⟨a, b, c, xs, k, _⟩ := k
  simp only [List.mem_cons, List.not_mem_nil, or_false, not_or]
  exact ⟨(fun z => by subst z; rw [k.2.1] at h; cases h), (fun z => by subst z; rw [k.2.2] at h; cases h)⟩
section
variable {H : Hp} {S sc : Addr} {a b c : Int} {xs : List Int} {G : Hp → Prop} {Kk : PySem.W.Frag} {Q : VK}
theorem St4.g0 (k : St4 H S sc a b c xs) (q : Q (.ref sc) H) : rIxL Kk (.ref S) (.int 0) H Q := ⟨S, _, 0, _, rfl, rfl, SqL.of k.2.1, rfl, q⟩
theorem St4.g1 (k : St4 H S sc a b c xs) (q : Q (.int a) H) : rIxL Kk (.ref S) (.int 1) H Q := ⟨S, _, 1, _, rfl, rfl, SqL.of k.2.1, rfl, q⟩
theorem St4.g2 (k : St4 H S sc a b c xs) (q : Q (.int b) H) : rIxL Kk (.ref S) (.int 2) H Q := ⟨S, _, 2, _, rfl, rfl, SqL.of k.2.1, rfl, q⟩
theorem St4.g3 (k : St4 H S sc a b c xs) (q : Q (.int c) H) : rIxL Kk (.ref S) (.int 3) H Q := ⟨S, _, 3, _, rfl, rfl, SqL.of k.2.1, rfl, q⟩
theorem St4.s1 (k : St4 H S sc a b c xs) {a' : Int} (q : ∀ H', Ev [S, sc] H H' → St4 H' S sc a' b c xs → G H') : rSetL (.ref S) (.int 1) (.int a') H G :=
  ⟨S, _, 1, 1, rfl, rfl, k.2.1, rfl, q _ (Ev.list k.2.1 (by simp)) ⟨k.1, upd_same, by rw [upd_ne k.1.symm]; exact k.2.2⟩⟩
theorem St4.s2 (k : St4 H S sc a b c xs) {a' : Int} (q : ∀ H', Ev [S, sc] H H' → St4 H' S sc a a' c xs → G H') : rSetL (.ref S) (.int 2) (.int a') H G :=
  ⟨S, _, 2, 2, rfl, rfl, k.2.1, rfl, q _ (Ev.list k.2.1 (by simp)) ⟨k.1, upd_same, by rw [upd_ne k.1.symm]; exact k.2.2⟩⟩
theorem St4.s3 (k : St4 H S sc a b c xs) {a' : Int} (q : ∀ H', Ev [S, sc] H H' → St4 H' S sc a b a' xs → G H') : rSetL (.ref S) (.int 3) (.int a') H G :=
  ⟨S, _, 3, 3, rfl, rfl, k.2.1, rfl, q _ (Ev.list k.2.1 (by simp)) ⟨k.1, upd_same, by rw [upd_ne k.1.symm]; exact k.2.2⟩⟩
/-- the script's next number -/
theorem St4.pop {x : Int} (k : St4 H S sc a b c (x :: xs)) (q : ∀ H', Ev [S, sc] H H' → St4 H' S sc a b c xs → Q (.int x) H') : rPopAt (.ref sc) [.int 0] H Q :=
  ⟨sc, _, 0, 0, .int x, rfl, rfl, k.2.2, by decide, by decide, by simp [seqIndex?], rfl, q _ (Ev.list k.2.2 (by simp)) ⟨k.1, by rw [upd_ne k.1]; exact k.2.1, by simp [upd_same]⟩⟩
end
theorem fmod0 {a m : Int} (h : 0 < m) : 0 ≤ a.fmod m := Int.fmod_nonneg_of_pos _ h
theorem fmodl {a m : Int} (h : 0 < m) : a.fmod m < m := Int.fmod_lt_of_pos _ h
theorem dp_ints {Kk : PySem.W.Frag} {H : Hp} : ∀ {xs : List Int}, DpAll Kk H (xs.map V.int) (xs.map PyData.int)
  | [] => .nil
  | x :: xs => .cons (.int x) dp_ints
/-- a list's numbers against [] -/
theorem ne_ints {Kk : PySem.W.Frag} {H : Hp} {Q : VK} {a p : Addr} {xs : List Int} (ha : H a = some (.lst (xs.map .int))) (hp : H p = some (.lst [])) (q : Q (.bl (!xs.isEmpty)) H) : rNeD Kk (.ref a) (.ref p) H Q :=
  ⟨.list (xs.map .int), .list [], .lst (SqL.of ha) dp_ints, .lst (SqL.of hp) .nil, PySem.W.shaped_ints _, rfl, by
    have : PyData.eqv (.list (xs.map .int)) (.list []) = xs.isEmpty := by
      cases xs with
      | nil => decide +kernel
      | cons x xs => rfl
    rw [this]; exact q⟩
def spDraw : Sp := fun vs H Q _ => ∃ (S sc : Addr) (f : Nat) (m : Int), vs = [.ref S, .int m] ∧ StrAt H S sc (f + 1) ∧ 0 < m ∧ m < 1000000000 ∧ ∀ H' (v : Int), Ev [S, sc] H H' → StrAt H' S sc f → 0 ≤ v → v < m → Q (.int v) H'
theorem ok_l_draw (h : MgOk w.params mg) : FnOk P w (K w.params) mg base CX0 1 af_l_draw fdf_l_draw ["_law_stream", "_law_many"] spDraw := by
  refine Fun.ok (sp := spDraw) (Ff_l_draw w.params) scf_l_draw (fun vs H Q E hs => by first | (obtain ⟨rfl, _⟩ := hs; rfl) | (obtain ⟨_, rfl, _⟩ := hs; rfl) | (obtain ⟨_, _, rfl, _⟩ := hs; rfl) | (obtain ⟨_, _, _, rfl, _⟩ := hs; rfl) | (obtain ⟨_, _, _, _, rfl, _⟩ := hs; rfl) | (obtain ⟨_, _, _, _, _, rfl, _⟩ := hs; rfl) | (obtain ⟨_, _, _, _, _, _, rfl, _⟩ := hs; rfl) | (obtain ⟨_, _, _, _, _, _, _, rfl, _⟩ := hs; rfl) | (obtain ⟨_, _, _, _, _, _, _, _, rfl, _⟩ := hs; rfl) | (obtain ⟨_, _, _, _, _, _, _, _, _, rfl, _⟩ := hs; rfl) | (obtain ⟨_, _, _, _, _, _, _, _, _, _, rfl, _⟩ := hs; rfl) | (obtain ⟨_, _, _, _, _, _, _, _, _, _, _, rfl, _⟩ := hs; rfl) | (obtain ⟨_, _, _, _, _, _, _, _, _, _, _, _, rfl, _⟩ := hs; rfl) | (obtain ⟨_, _, _, _, _, _, _, _, _, _, _, _, _, rfl, _⟩ := hs; rfl) | (obtain ⟨_, _, _, _, _, _, _, _, _, _, _, _, _, _, rfl, _⟩ := hs; rfl) | (obtain ⟨_, _, _, _, _, _, _, _, _, _, _, _, _, _, _, rfl, _⟩ := hs; rfl) | (obtain ⟨_, _, _, _, _, _, _, _, _, _, _, _, _, _, _, _, rfl, _⟩ := hs; rfl) | (obtain ⟨_, _, _, _, _, _, _, _, _, _, _, _, _, _, _, _, _, rfl, _⟩ := hs; rfl) | (obtain ⟨_, _, _, _, _, _, _, _, _, _, _, _, _, _, _, _, _, _, rfl, _⟩ := hs; rfl) | (obtain ⟨_, _, _, _, _, _, _, _, _, _, _, _, _, _, _, _, _, _, _, rfl, _⟩ := hs; rfl) | (obtain ⟨_, _, _, _, _, _, _, _, _, _, _, _, _, _, _, _, _, _, _, _, rfl, _⟩ := hs; rfl) | (obtain ⟨_, _, _, _, _, _, _, _, _, _, _, _, _, _, _, _, _, _, _, _, _, rfl, _⟩ := hs; rfl)) (fun cdv A outer s H vs Q E hr hq => ?_)
  obtain ⟨S, sc, f, m, rfl, ⟨a, b, c, xs, k, hl, hb0, hb, hc0, hc⟩, hm0, hm, q⟩ := hq
  refine ⟨_, (pss_cons (ps_asg (pe_op op_add (pe_ix ix_list (pv 0) pe_int (fun _ _ => rfl)) pe_int) (pg_sub (pv 0) pe_int set_list))
      (pss_cons (ps_if (PW.pt (pw_and (pt_cmpR op_eq (pe_ix ix_list (pv 0) pe_int (fun _ _ => rfl)) pe_int (nomark _)) (pw_and1 (pt_cmpR (op_neD hr.units) (pe_ix ix_list (pv 0) pe_int (fun _ _ => rfl)) (pe_lst pa_nil) (nomark _))))) (pss_cons (ps_asg (pe_bm PySem.F.plainAttrs_list PySem.F.slot_list_pop PySem.F.type_list_pop mt_popAt (pe_ix ix_list (pv 0) pe_int (fun _ _ => rfl)) (pa_cons pe_int pa_nil)) (pg_sub (pv 0) pe_int set_list))
      (pss_one (ps_if (pt_cmpR op_lt (pe_ix ix_list (pv 0) pe_int (fun _ _ => rfl)) (pe_op op_pow pe_int pe_int) (nomark _)) (pss_cons (ps_asg (pe_op op_modN (pe_op op_add (pe_op op_add (pe_op op_mul (pe_ix ix_list (pv 0) pe_int (fun _ _ => rfl)) pe_int) (pe_ix ix_list (pv 0) pe_int (fun _ _ => rfl))) pe_int) pe_int) (pg_sub (pv 0) pe_int set_list))
      (pss_one (ps_asg pe_int (pg_sub (pv 0) pe_int set_list)))) pss_nil))) pss_nil)
      (pss_cons (ps_if (pt_cmpR op_gt (pe_ix ix_list (pv 0) pe_int (fun _ _ => rfl)) pe_int (nomark _)) (pss_cons (ps_set (i := 2) scf_l_draw.nd rfl (Or.inl rfl) (pe_op op_modN (pe_callTy call_int1 (by rfl) (n_int h) (by decide +kernel) (pa_cons (pe_ix ix_list (pv 0) pe_int (fun _ _ => rfl)) pa_nil)) (pv 1)))
      (pss_cons (ps_asg (pe_op op_fdivN (pe_ix ix_list (pv 0) pe_int (fun _ _ => rfl)) (pv 1)) (pg_sub (pv 0) pe_int set_list))
      (pss_one (ps_ret (pv 2))))) pss_nil)
      (pss_cons (ps_set (i := 3) scf_l_draw.nd rfl (Or.inl rfl) (pe_op op_modN (pe_op op_pow (pe_op op_add (pe_op op_add (pe_ix ix_list (pv 0) pe_int (fun _ _ => rfl)) (pe_op op_mul pe_int (pe_ix ix_list (pv 0) pe_int (fun _ _ => rfl)))) pe_int) pe_int) pe_int))
      (pss_one (ps_ret (pe_op op_modN (pe_op op_modN (pe_op op_pow (pe_op op_add (pe_op op_add (pe_op op_mul (pv 3) pe_int) (pe_op op_mul (pe_op op_mul pe_int (pe_ix ix_list (pv 0) pe_int (fun _ _ => rfl))) (pe_ix ix_list (pv 0) pe_int (fun _ _ => rfl)))) pe_int) pe_int) pe_int) (pv 1)))))))), ?_⟩
  rw [stf_l_draw]
  refine freeze fun R2 hR2 => ?_
  try walk_at "rd"
  refine k.g2 ⟨_, rfl, ?_⟩
  try walk_at "rd"
  refine ⟨_, rfl, k.s2 fun H1 e1 k => ?_⟩
  subst hR2
  refine freeze fun R3 hR3 => ?_
  -- behind the first if: what a and c are then
  have tail : ∀ H1 (a c : Int) (xs : List Int), Ev [S, sc] H H1 → St4 H1 S sc a (b + 1) c xs → xs.length ≤ 63 → 0 ≤ c → c < 2147483647 → R3 { nx := fun x H' => Q V.non H', rt := Q } [some (V.ref S), some (V.int m), none, none] H1 := by
    intro H1 a c xs e1 k hl hc0 hc
    rw [hR3]
    refine freeze fun R4 hR4 => ?_
    try walk_at "rd"
    refine k.g1 ⟨_, rfl, ?_⟩
    try walk_at "rd"
    by_cases ha : a > 0
    · rw [if_pos (by simpa using ha)]
      try walk_at "rd"
      refine k.g1 (.inl ⟨_, rfl, by omega, ?_⟩)
      try walk_at "rd"
      refine k.g1 ⟨_, rfl, ⟨by omega, by omega⟩, ?_⟩
      refine ⟨_, rfl, k.s1 fun H2 e2 k => ?_⟩
      try walk_at "rd"
      exact q _ _ (e1.trans e2) ⟨_, _, _, _, k, hl, by omega, by omega, hc0, hc⟩ (fmod0 hm0) (fmodl hm0)
    · rw [if_neg (by simpa using ha)]
      rw [hR4]
      try walk_at "rd"
      refine k.g3 (k.g2 ⟨_, rfl, .inl ⟨by omega, by omega⟩, _, rfl, ⟨by omega, by omega, by omega⟩, by decide, ?_⟩)
      have b1 := fmod0 (a := (c + 104729 * (b + 1) + 17) ^ Int.toNat 5) (m := 2147483629) (by decide)
      have b2 := fmodl (a := (c + 104729 * (b + 1) + 17) ^ Int.toNat 5) (m := 2147483629) (by decide)
      generalize ((c + 104729 * (b + 1) + 17) ^ Int.toNat 5).fmod 2147483629 = x at b1 b2 ⊢
      have q1 : (b + 1) * (b + 1) ≤ 1048577 * 1048577 := Int.mul_le_mul (by omega) (by omega) (by omega) (by omega)
      have q0 : 0 ≤ (b + 1) * (b + 1) := Int.mul_nonneg (by omega) (by omega)
      have q2 : 40503 * (b + 1) * (b + 1) = 40503 * ((b + 1) * (b + 1)) := Int.mul_assoc ..
      refine ⟨.inl ⟨by omega, by omega⟩, k.g2 ⟨_, rfl, .inl ⟨by omega, by omega⟩, k.g2 ⟨_, rfl, .inl ⟨by omega, by omega⟩, ⟨by omega, by omega, ?_⟩, by decide, by omega, ?_⟩⟩⟩
      · rw [q2]; generalize (b + 1) * (b + 1) = z at q0 q1; omega
      · exact q _ _ e1 ⟨_, _, _, _, k, hl, by omega, by omega, hc0, hc⟩ (fmod0 hm0) (fmodl hm0)
  try walk_at "rd"
  refine k.g1 ⟨rfl, ?_⟩
  by_cases ha : a = 0
  · rw [if_pos (by rw [ha])]
    refine k.g0 ⟨by simp [sizeLine], fun p np => ?_⟩
    obtain ⟨H2, H2_eq, e2, h2⟩ := newq (.lst []) np
    rw [← H2_eq]
    clear H2_eq
    have k2 := k.evX e2 (by simp) (by simp)
    have e12 := e1.trans (e2.of0 (X := [S, sc]))
    refine ne_ints k2.2.2 h2 ⟨_, rfl, ?_⟩
    cases xs with
    | nil => exact iteF (tail _ _ _ _ e12 k2 hl hc0 hc)
    | cons x xs =>
      refine iteT (k2.g0 ⟨.inl ⟨rfl, _, SqL.of (k2.2.2)⟩, k2.pop fun H3 e3 k3 => ?_⟩)
      have hl' : xs.length ≤ 63 := by simp at hl; omega
      refine ⟨_, rfl, k3.s1 fun H4 e4 k4 => ?_⟩
      have e14 := (e12.trans e3).trans e4
      try walk_at "rd"
      refine k4.g1 ⟨⟨by decide, by decide, by decide⟩, _, rfl, ?_⟩
      by_cases hx : x < 10 ^ Int.toNat 18
      · rw [if_pos hx]
        try walk_at "rd"
        refine k4.g3 ⟨_, rfl, .inl ⟨by omega, by omega⟩, k4.g1 ⟨_, rfl, by decide, ?_⟩⟩
        refine ⟨_, rfl, k4.s3 fun H5 e5 k5 => ?_⟩
        try walk_at "rd"
        refine ⟨_, rfl, k5.s1 fun H6 e6 k6 => ?_⟩
        exact tail _ _ _ _ ((e14.trans e5).trans e6) k6 hl' (fmod0 (by decide)) (fmodl (by decide))
      · rw [if_neg hx]
        try walk_at "rd"
        exact tail _ _ _ _ e14 k4 hl' hc0 hc
  · rw [if_neg (fun z => ha (by cases z; rfl))]
    exact tail _ _ _ _ e1 k hl hc0 hc
end VL
end
section
set_option linter.all false
set_option maxRecDepth 100000
set_option maxHeartbeats 4000000
/-! Plain: cuts. -/
namespace VL
open PySem PySem.Spec PyProof.Rows L2
theorem cut_key {d k : Int} (hk : 0 < k) (i : Nat) : (i : Int) * k < d ↔ (i : Int) < (d + k - 1) / k := by
  have h := Int.le_ediv_iff_mul_le (a := (i : Int) + 1) (b := d + k - 1) hk
  have e : ((i : Int) + 1) * k = i * k + k := by rw [Int.add_mul, Int.one_mul]
  rw [e] at h
  constructor
  · intro q
    have := h.mpr (by omega)
    omega
  · intro q
    have := h.mp (by omega)
    omega
def StepOk (st : Option Int) : Prop := st ≠ some 0 ∧ (st.getD 1).natAbs ≤ 100000000000000000000
theorem StepOk.ne {st : Option Int} (h : StepOk st) : st.getD 1 ≠ 0 := by
  cases st with
  | none => decide
  | some k => intro z; exact h.1 (by simp at z; rw [z])
theorem StepOk.lt {st : Option Int} (h : StepOk st) : (st.getD 1).natAbs < 2 ^ 70 := Nat.lt_of_le_of_lt h.2 (by decide)
def goes (st : Option Int) (at_ stop : Int) : Prop := at_ < stop ∧ st.getD 1 > 0 ∨ at_ > stop ∧ st.getD 1 < 0
theorem many_pos {m : Int} (i : Nat) : (i : Int) < (if m > 0 then m else 0) ↔ (i : Int) < m := by split <;> omega
theorem goes_iff {s e st : Option Int} {n : Int} (h : StepOk st) (i : Nat) : goes st (cutStart s st n + i * st.getD 1) (cutStop e st n) ↔ (i : Int) < cutMany s e st n := by
  have h0 := h.ne
  unfold cutMany goes
  simp only [many_pos]
  by_cases hp : st.getD 1 > 0
  · rw [if_pos hp, ← cut_key hp]
    constructor
    · rintro (q | q) <;> omega
    · intro q; exact .inl ⟨by omega, hp⟩
  · rw [if_neg hp]
    have hk : 0 < - st.getD 1 := by omega
    have := cut_key (d := cutStart s st n - cutStop e st n) hk i
    rw [show cutStart s st n - cutStop e st n + -st.getD 1 - 1 = cutStart s st n - cutStop e st n - st.getD 1 - 1 by omega] at this
    rw [← this]
    have e2 : (i : Int) * - st.getD 1 = - (i * st.getD 1) := by rw [Int.mul_neg]
    rw [e2]
    constructor
    · rintro (q | q) <;> omega
    · intro q; exact .inr ⟨by omega, by omega⟩
theorem cutS_in {s : Option Int} {n lo hi d : Int} (h1 : lo ≤ hi) (h4 : lo ≤ d) (h5 : d ≤ hi) : lo ≤ VL.cutS s n lo hi d ∧ VL.cutS s n lo hi d ≤ hi := by
  cases s with
  | none => exact ⟨h4, h5⟩
  | some p =>
    show lo ≤ bnd p n lo hi ∧ bnd p n lo hi ≤ hi
    unfold bnd
    simp only
    split <;> split <;> omega
theorem start_pos {s st : Option Int} {n : Int} (h : 0 ≤ n) (hp : st.getD 1 > 0) : 0 ≤ cutStart s st n ∧ cutStart s st n ≤ n := by
  unfold cutStart; rw [if_pos hp]; exact cutS_in h (by omega) h
theorem stop_pos {e st : Option Int} {n : Int} (h : 0 ≤ n) (hp : st.getD 1 > 0) : 0 ≤ cutStop e st n ∧ cutStop e st n ≤ n := by
  unfold cutStop; rw [if_pos hp]; exact cutS_in h h (by omega)
theorem start_neg {s st : Option Int} {n : Int} (h : 0 ≤ n) (hp : ¬ st.getD 1 > 0) : -1 ≤ cutStart s st n ∧ cutStart s st n ≤ n - 1 := by
  unfold cutStart; rw [if_neg hp]; exact cutS_in (by omega) (by omega) (by omega)
theorem stop_neg {e st : Option Int} {n : Int} (h : 0 ≤ n) (hp : ¬ st.getD 1 > 0) : -1 ≤ cutStop e st n ∧ cutStop e st n ≤ n - 1 := by
  unfold cutStop; rw [if_neg hp]; exact cutS_in (by omega) (by omega) (by omega)
/-- a cut's index lies within -/
theorem cut_in {s e st : Option Int} {n : Int} (hn : 0 ≤ n) (h : StepOk st) {i : Nat} (hi : (i : Int) < cutMany s e st n) : 0 ≤ cutStart s st n + i * st.getD 1 ∧ cutStart s st n + i * st.getD 1 < n := by
  have h0 := h.ne
  rcases (goes_iff (s := s) (e := e) (n := n) h i).mpr hi with ⟨a, b⟩ | ⟨a, b⟩
  · have h1 := start_pos (s := s) hn b
    have h2 := stop_pos (e := e) hn b
    have : 0 ≤ (i : Int) * st.getD 1 := Int.mul_nonneg (by omega) (by omega)
    omega
  · have hp : ¬ st.getD 1 > 0 := by omega
    have h1 := start_neg (s := s) hn hp
    have h2 := stop_neg (e := e) hn hp
    have : (i : Int) * st.getD 1 ≤ 0 := Int.mul_nonpos_of_nonneg_of_nonpos (by omega) (by omega)
    omega
theorem cutPl_len {s e st : Option Int} {n : Int} : (cutPl s e st n).length = (cutMany s e st n).toNat := by simp [cutPl]
theorem cutPl_get {s e st : Option Int} {n : Int} {i : Nat} (h : (i : Int) < cutMany s e st n) : (cutPl s e st n)[i]? = some (cutStart s st n + i * st.getD 1) := by
  have : i < (cutMany s e st n).toNat := by omega
  simp [cutPl, this]
theorem cutPl_mem {s e st : Option Int} {n : Int} (hn : 0 ≤ n) (h : StepOk st) : ∀ x ∈ cutPl s e st n, 0 ≤ x ∧ x < n := by
  intro x hx
  simp [cutPl] at hx
  obtain ⟨i, hi, rfl⟩ := hx
  exact cut_in hn h (by omega)
/-- no more than there are -/
theorem cutMany_le {s e st : Option Int} {n : Int} (hn : 0 ≤ n) (h : StepOk st) : cutMany s e st n ≤ n := by
  have h0 := h.ne
  by_cases hm : cutMany s e st n ≤ 0
  · omega
  have q1 : ((cutMany s e st n - 1).toNat : Int) < cutMany s e st n := by omega
  have q0 : ((0 : Nat) : Int) < cutMany s e st n := by omega
  have a := cut_in hn h q1
  have b := cut_in hn h q0
  have e1 : ((cutMany s e st n - 1).toNat : Int) = cutMany s e st n - 1 := by omega
  rw [e1] at a
  simp at b
  by_cases hp : st.getD 1 > 0
  · have : (cutMany s e st n - 1) * 1 ≤ (cutMany s e st n - 1) * st.getD 1 := Int.mul_le_mul_of_nonneg_left (by omega) (by omega)
    omega
  · have : (cutMany s e st n - 1) * st.getD 1 ≤ (cutMany s e st n - 1) * (-1) := Int.mul_le_mul_of_nonneg_left (by omega) (by omega)
    omega
/-- a cut of just so many, forwards -/
theorem some_fwd {a m n : Int} (h0 : 0 ≤ a) (hm : 0 ≤ m) (h : a + m ≤ n) : cutStart (some a) none n = a ∧ cutMany (some a) (some (a + m)) none n = m := by
  have e1 : cutStart (some a) none n = a := by
    show (if (1 : Int) > 0 then bnd a n 0 n else _) = a
    rw [if_pos (by decide)]; unfold bnd; simp only
    repeat' split
    all_goals omega
  have e2 : cutStop (some (a + m)) none n = a + m := by
    show (if (1 : Int) > 0 then bnd (a + m) n 0 n else _) = a + m
    rw [if_pos (by decide)]; unfold bnd; simp only
    repeat' split
    all_goals omega
  refine ⟨e1, ?_⟩
  unfold cutMany
  rw [e1, e2]
  show (if (if (1 : Int) > 0 then (a + m - a + 1 - 1) / 1 else _) > 0 then _ else _) = m
  rw [if_pos (by decide : (1 : Int) > 0)]
  simp only [Int.ediv_one, Option.getD_none]
  split <;> omega
/-- .. backwards -/
theorem some_bwd {a m n : Int} (h0 : 0 ≤ a) (hm : 0 < m) (h : a + m ≤ n) : cutStart (some (a + m - 1)) (some (-1)) n = a + m - 1 ∧ cutMany (some (a + m - 1)) (if a > 0 then some (a - 1) else none) (some (-1)) n = m := by
  have e1 : cutStart (some (a + m - 1)) (some (-1)) n = a + m - 1 := by
    show (if (-1 : Int) > 0 then _ else bnd (a + m - 1) n (-1) (n - 1)) = a + m - 1
    rw [if_neg (by decide)]; unfold bnd; simp only
    repeat' split
    all_goals omega
  have e2 : cutStop (if a > 0 then some (a - 1) else none) (some (-1)) n = a - 1 := by
    by_cases q : a > 0
    · rw [if_pos q]
      show (if (-1 : Int) > 0 then _ else bnd (a - 1) n (-1) (n - 1)) = a - 1
      rw [if_neg (by decide)]; unfold bnd; simp only
      repeat' split
      all_goals omega
    · rw [if_neg q]
      show (if (-1 : Int) > 0 then _ else (-1 : Int)) = a - 1
      rw [if_neg (by decide)]; omega
  refine ⟨e1, ?_⟩
  unfold cutMany
  rw [e1, e2]
  have g : (some (-1) : Option Int).getD 1 = -1 := rfl
  simp only [g]
  rw [if_neg (by decide : ¬ (-1 : Int) > 0)]
  have z : (a + m - 1 - (a - 1) - -1 - 1) / (- -1 : Int) = m := by
    rw [show (- -1 : Int) = 1 from rfl, Int.ediv_one]; omega
  rw [z]
  split <;> omega
end VL
end
section
set_option linter.all false
set_option maxRecDepth 100000
set_option maxHeartbeats 1000000
namespace VL
open PySem PySem.Spec PyProof.Rows L2 RZ
local macro_rules | `(tactic| walk_at "rd") => `(tactic| (simp only [tVar, tC, tOp, tUn, tTest, tB, tAnd, tOr, tNot, tAndV, tOrV, tNotV, tIf, tIfS, tSeq, tAsg, gName, tRet, tRetN, tDrop, tNext, rI, rI0, rU, rEq, rNe, scal, tCons, tNil, tCB, t2I, tChain, tCall, tMeth, tPar, tPar3, tFld, tTup, tLst, iTup, iList, iRng1, tPart, tNoPart, tBM, tBM0, tMake, tDGet, cxK, noxK, L2.wipe,
  List.append_nil, List.nil_append, List.cons_append, List.map_cons, List.map_nil, List.getElem?_cons_zero, List.getElem?_cons_succ, List.getElem?_nil, List.set_cons_zero, List.set_cons_succ, Option.some.injEq, V.int.injEq, V.bl.injEq, V.str.injEq, V.ref.injEq, exists_and_left, exists_eq_left', exists_eq_left, true_and, and_true, List.cons.injEq, if_true, if_false, Bool.false_eq_true, Bool.not_true, Bool.not_false, decide_eq_true_eq, and_assoc]))
variable {P : Program} {w : World} {mg : Str → Option Value} {base : Heap}
/-- lc_it without a test -/
theorem lc_inv {J : It} {n : Nat} {G : Hp → Prop} {Y : Nat → Hp → V → Hp → Prop} (wk : Walk J n G Y) {g : TG} {te : TE} {vs : List Nat} {σ : L2.St} {H1 : Hp} {D : Addr} {Qd : Hp → Prop} (Pv : Nat → Hp → Prop) (h0 : Pv 0 (upd H1 D (.lst []))) (hG : ∀ i H, i ≤ n → Pv i H → G H)
    (hs : ∀ i x H H', i < n → Pv i H → Y i H x H' → g x (wipe σ vs) H' fun σ2 H2 => wipe σ2 vs = wipe σ vs ∧ te σ2 H2 fun y H4 => ∃ acc, H4 D = some (.lst acc) ∧ acc.length < sizeLine ∧ Pv (i + 1) (upd H4 D (.lst (acc ++ [y])))) (hd : ∀ H, Pv n H → Qd H) :
    ∃ W : Nat → Nat → Hp → Prop, (∃ m, W 0 m (upd H1 D (.lst []))) ∧ ∀ i m H, W i m H →
      (J.stop i H ∧ Qd H) ∨ (J.go i H ∧ ∃ Nx : Hp → Prop, (∀ H', Nx H' → ∃ m', m' < m ∧ W (i + 1) m' H') ∧ ∀ x H', J.yld i H x H' → g x (wipe σ vs) H' fun σ2 H2 => wipe σ2 vs = wipe σ vs ∧ tYes σ2 H2 fun b H3 =>
        if b = true then te σ2 H3 fun y H4 => ∃ acc, H4 D = some (.lst acc) ∧ acc.length < sizeLine ∧ Nx (upd H4 D (.lst (acc ++ [y]))) else Nx H3) := by
  refine lc_it wk Pv h0 hG (fun i x H H' hi p y => ?_) hd
  simp only [tYes, if_yes]
  exact hs i x H H' hi p y
def spPickL : Sp := fun vs H Q _ => ∃ (S sc l : Addr) (f : Nat) (xs : List V), vs = [.ref S, .ref l] ∧ StrAt H S sc (f + 1) ∧ H l = some (.lst xs) ∧ l ∉ [S, sc] ∧ 0 < xs.length ∧ xs.length < 1000 ∧
  ∀ H' (i : Nat) v, Ev [S, sc] H H' → StrAt H' S sc f → xs[i]? = some v → Q v H'
theorem ok_l_pick (h : MgOk w.params mg) : FnOk P w (K w.params) mg base CX0 2 af_l_pick fdf_l_pick ["_law_stream", "_law_some"] spPickL := by
  refine Fun.ok (sp := spPickL) (Ff_l_pick w.params) scf_l_pick (fun vs H Q E hs => by first | (obtain ⟨rfl, _⟩ := hs; rfl) | (obtain ⟨_, rfl, _⟩ := hs; rfl) | (obtain ⟨_, _, rfl, _⟩ := hs; rfl) | (obtain ⟨_, _, _, rfl, _⟩ := hs; rfl) | (obtain ⟨_, _, _, _, rfl, _⟩ := hs; rfl) | (obtain ⟨_, _, _, _, _, rfl, _⟩ := hs; rfl) | (obtain ⟨_, _, _, _, _, _, rfl, _⟩ := hs; rfl) | (obtain ⟨_, _, _, _, _, _, _, rfl, _⟩ := hs; rfl) | (obtain ⟨_, _, _, _, _, _, _, _, rfl, _⟩ := hs; rfl) | (obtain ⟨_, _, _, _, _, _, _, _, _, rfl, _⟩ := hs; rfl) | (obtain ⟨_, _, _, _, _, _, _, _, _, _, rfl, _⟩ := hs; rfl) | (obtain ⟨_, _, _, _, _, _, _, _, _, _, _, rfl, _⟩ := hs; rfl) | (obtain ⟨_, _, _, _, _, _, _, _, _, _, _, _, rfl, _⟩ := hs; rfl) | (obtain ⟨_, _, _, _, _, _, _, _, _, _, _, _, _, rfl, _⟩ := hs; rfl) | (obtain ⟨_, _, _, _, _, _, _, _, _, _, _, _, _, _, rfl, _⟩ := hs; rfl) | (obtain ⟨_, _, _, _, _, _, _, _, _, _, _, _, _, _, _, rfl, _⟩ := hs; rfl) | (obtain ⟨_, _, _, _, _, _, _, _, _, _, _, _, _, _, _, _, rfl, _⟩ := hs; rfl) | (obtain ⟨_, _, _, _, _, _, _, _, _, _, _, _, _, _, _, _, _, rfl, _⟩ := hs; rfl) | (obtain ⟨_, _, _, _, _, _, _, _, _, _, _, _, _, _, _, _, _, _, rfl, _⟩ := hs; rfl) | (obtain ⟨_, _, _, _, _, _, _, _, _, _, _, _, _, _, _, _, _, _, _, rfl, _⟩ := hs; rfl) | (obtain ⟨_, _, _, _, _, _, _, _, _, _, _, _, _, _, _, _, _, _, _, _, rfl, _⟩ := hs; rfl) | (obtain ⟨_, _, _, _, _, _, _, _, _, _, _, _, _, _, _, _, _, _, _, _, _, rfl, _⟩ := hs; rfl)) (fun cdv A outer s H vs Q E hr hq => ?_)
  obtain ⟨S, sc, l, f, xs, rfl, hS, hl, nl, h0, h1, q⟩ := hq
  refine ⟨_, (pss_one (ps_ret (pe_ix ix_list (pv 1) (pe_call (ok_l_draw h) (hr.mono (by decide)) (by rfl) (gf_l_draw h) (Ff_l_draw w.params).kp (bf_l_draw w.params) .nil pass0 (pa_cons (pv 0) (pa_cons (pe_callB call_len (by rfl) (n_len h) (by decide +kernel) (pa_cons (pv 1) pa_nil)) pa_nil))) (fun _ _ => rfl)))), ?_⟩
  rw [stf_l_pick]
  walk_at "rd"
  refine ⟨_, .inl ⟨_, SqL.of hl, rfl⟩, ?_⟩
  refine ⟨S, sc, f, xs.length, rfl, hS, by omega, by omega, fun H1 v e1 hS1 v0 v1 => ?_⟩
  have hl1 := e1.lstX hl nl
  obtain ⟨i, rfl⟩ := Int.eq_ofNat_of_zero_le v0
  have hi : i < xs.length := by omega
  refine ⟨l, _, _, _, rfl, rfl, SqL.of hl1, atI_nat (List.getElem?_eq_getElem hi), q _ i _ e1 hS1 (List.getElem?_eq_getElem hi)⟩
def spPickS : Sp := fun vs H Q _ => ∃ (S sc : Addr) (f : Nat), vs = [.ref S, .str "BbchHiq"] ∧ StrAt H S sc (f + 1) ∧ ∀ H' (k : KK), Ev [S, sc] H H' → StrAt H' S sc f → Q (.str k.str) H'
theorem ok_l_pick_s (h : MgOk w.params mg) : FnOk P w (K w.params) mg base CX0 2 af_l_pick fdf_l_pick ["_law_stream", "_law_some"] spPickS := by
  refine Fun.ok (sp := spPickS) (Ff_l_pick w.params) scf_l_pick (fun vs H Q E hs => by first | (obtain ⟨rfl, _⟩ := hs; rfl) | (obtain ⟨_, rfl, _⟩ := hs; rfl) | (obtain ⟨_, _, rfl, _⟩ := hs; rfl) | (obtain ⟨_, _, _, rfl, _⟩ := hs; rfl) | (obtain ⟨_, _, _, _, rfl, _⟩ := hs; rfl) | (obtain ⟨_, _, _, _, _, rfl, _⟩ := hs; rfl) | (obtain ⟨_, _, _, _, _, _, rfl, _⟩ := hs; rfl) | (obtain ⟨_, _, _, _, _, _, _, rfl, _⟩ := hs; rfl) | (obtain ⟨_, _, _, _, _, _, _, _, rfl, _⟩ := hs; rfl) | (obtain ⟨_, _, _, _, _, _, _, _, _, rfl, _⟩ := hs; rfl) | (obtain ⟨_, _, _, _, _, _, _, _, _, _, rfl, _⟩ := hs; rfl) | (obtain ⟨_, _, _, _, _, _, _, _, _, _, _, rfl, _⟩ := hs; rfl) | (obtain ⟨_, _, _, _, _, _, _, _, _, _, _, _, rfl, _⟩ := hs; rfl) | (obtain ⟨_, _, _, _, _, _, _, _, _, _, _, _, _, rfl, _⟩ := hs; rfl) | (obtain ⟨_, _, _, _, _, _, _, _, _, _, _, _, _, _, rfl, _⟩ := hs; rfl) | (obtain ⟨_, _, _, _, _, _, _, _, _, _, _, _, _, _, _, rfl, _⟩ := hs; rfl) | (obtain ⟨_, _, _, _, _, _, _, _, _, _, _, _, _, _, _, _, rfl, _⟩ := hs; rfl) | (obtain ⟨_, _, _, _, _, _, _, _, _, _, _, _, _, _, _, _, _, rfl, _⟩ := hs; rfl) | (obtain ⟨_, _, _, _, _, _, _, _, _, _, _, _, _, _, _, _, _, _, rfl, _⟩ := hs; rfl) | (obtain ⟨_, _, _, _, _, _, _, _, _, _, _, _, _, _, _, _, _, _, _, rfl, _⟩ := hs; rfl) | (obtain ⟨_, _, _, _, _, _, _, _, _, _, _, _, _, _, _, _, _, _, _, _, rfl, _⟩ := hs; rfl) | (obtain ⟨_, _, _, _, _, _, _, _, _, _, _, _, _, _, _, _, _, _, _, _, _, rfl, _⟩ := hs; rfl)) (fun cdv A outer s H vs Q E hr hq => ?_)
  obtain ⟨S, sc, f, rfl, hS, q⟩ := hq
  refine ⟨_, (pss_one (ps_ret (pe_ix ix_str (pv 1) (pe_call (ok_l_draw h) (hr.mono (by decide)) (by rfl) (gf_l_draw h) (Ff_l_draw w.params).kp (bf_l_draw w.params) .nil pass0 (pa_cons (pv 0) (pa_cons (pe_callB call_len (by rfl) (n_len h) (by decide +kernel) (pa_cons (pv 1) pa_nil)) pa_nil))) (fun _ _ => rfl)))), ?_⟩
  rw [stf_l_pick]
  walk_at "rd"
  refine ⟨7, ⟨by decide, rfl⟩, S, sc, f, 7, rfl, hS, by decide, by decide, fun H1 v e1 hS1 v0 v1 => ?_⟩
  have : v = 0 ∨ v = 1 ∨ v = 2 ∨ v = 3 ∨ v = 4 ∨ v = 5 ∨ v = 6 := by omega
  rcases this with rfl | rfl | rfl | rfl | rfl | rfl | rfl
  · exact ⟨_, _, _, rfl, rfl, by decide, rfl, q _ .B e1 hS1⟩
  · exact ⟨_, _, _, rfl, rfl, by decide, rfl, q _ .b e1 hS1⟩
  · exact ⟨_, _, _, rfl, rfl, by decide, rfl, q _ .c e1 hS1⟩
  · exact ⟨_, _, _, rfl, rfl, by decide, rfl, q _ .h e1 hS1⟩
  · exact ⟨_, _, _, rfl, rfl, by decide, rfl, q _ .H e1 hS1⟩
  · exact ⟨_, _, _, rfl, rfl, by decide, rfl, q _ .i e1 hS1⟩
  · exact ⟨_, _, _, rfl, rfl, by decide, rfl, q _ .q e1 hS1⟩
def spStart (w : World) : Sp := fun vs H Q _ => ∃ (a : Addr) (ns : List Int), vs = [.ref a] ∧ SqL (K w.params) H a (ns.map V.int) ∧ ns.length ≤ 63 ∧ ∀ H' S sc, Ev [] H H' → StrAt H' S sc 1000000 → Q (.ref S) H'
theorem ok_l_start (h : MgOk w.params mg) : FnOk P w (K w.params) mg base CX0 1 af_l_start fdf_l_start ["_law_script"] (spStart w) := by
  refine Fun.ok (sp := (spStart w)) (Ff_l_start w.params) scf_l_start (fun vs H Q E hs => by first | (obtain ⟨rfl, _⟩ := hs; rfl) | (obtain ⟨_, rfl, _⟩ := hs; rfl) | (obtain ⟨_, _, rfl, _⟩ := hs; rfl) | (obtain ⟨_, _, _, rfl, _⟩ := hs; rfl) | (obtain ⟨_, _, _, _, rfl, _⟩ := hs; rfl) | (obtain ⟨_, _, _, _, _, rfl, _⟩ := hs; rfl) | (obtain ⟨_, _, _, _, _, _, rfl, _⟩ := hs; rfl) | (obtain ⟨_, _, _, _, _, _, _, rfl, _⟩ := hs; rfl) | (obtain ⟨_, _, _, _, _, _, _, _, rfl, _⟩ := hs; rfl) | (obtain ⟨_, _, _, _, _, _, _, _, _, rfl, _⟩ := hs; rfl) | (obtain ⟨_, _, _, _, _, _, _, _, _, _, rfl, _⟩ := hs; rfl) | (obtain ⟨_, _, _, _, _, _, _, _, _, _, _, rfl, _⟩ := hs; rfl) | (obtain ⟨_, _, _, _, _, _, _, _, _, _, _, _, rfl, _⟩ := hs; rfl) | (obtain ⟨_, _, _, _, _, _, _, _, _, _, _, _, _, rfl, _⟩ := hs; rfl) | (obtain ⟨_, _, _, _, _, _, _, _, _, _, _, _, _, _, rfl, _⟩ := hs; rfl) | (obtain ⟨_, _, _, _, _, _, _, _, _, _, _, _, _, _, _, rfl, _⟩ := hs; rfl) | (obtain ⟨_, _, _, _, _, _, _, _, _, _, _, _, _, _, _, _, rfl, _⟩ := hs; rfl) | (obtain ⟨_, _, _, _, _, _, _, _, _, _, _, _, _, _, _, _, _, rfl, _⟩ := hs; rfl) | (obtain ⟨_, _, _, _, _, _, _, _, _, _, _, _, _, _, _, _, _, _, rfl, _⟩ := hs; rfl) | (obtain ⟨_, _, _, _, _, _, _, _, _, _, _, _, _, _, _, _, _, _, _, rfl, _⟩ := hs; rfl) | (obtain ⟨_, _, _, _, _, _, _, _, _, _, _, _, _, _, _, _, _, _, _, _, rfl, _⟩ := hs; rfl) | (obtain ⟨_, _, _, _, _, _, _, _, _, _, _, _, _, _, _, _, _, _, _, _, _, rfl, _⟩ := hs; rfl)) (fun cdv A outer s H vs Q E hr hq => ?_)
  obtain ⟨a, ns, rfl, ha, hl, q⟩ := hq
  refine ⟨_, (pss_one (ps_ret (pe_lst (pa_cons (pe_callTy call_list_of (by rfl) (n_list h) (by decide +kernel) (pa_cons (pv 0) pa_nil)) (pa_cons pe_int (pa_cons pe_int (pa_cons pe_int pa_nil))))))), ?_⟩
  rw [stf_l_start]
  walk_at "rd"
  refine ⟨_, .inl ha, fun sc nsc => ?_⟩
  obtain ⟨H1, H1_eq, e1, h1⟩ := newq (.lst (ns.map V.int)) nsc
  rw [← H1_eq]
  clear H1_eq
  refine ⟨by simp [sizeLine], fun S nS => ?_⟩
  refine q _ S sc (e1.trans (Ev.new nS)) ⟨0, 0, 0, ns, ⟨?_, upd_same, ?_⟩, hl, by omega, by omega, by omega, by omega⟩
  · intro z; subst z; rw [h1] at nS; cases nS
  · rw [upd_ne (fun z => by subst z; rw [h1] at nS; cases nS)]; exact h1
def spLBytes : Sp := fun vs H Q _ => ∃ (S sc : Addr) (f n : Nat), vs = [.ref S, .int n] ∧ StrAt H S sc (f + 2 * n) ∧ n < 1000 ∧
  ∀ H' t (d : List Int), Ev [S, sc] H H' → StrAt H' S sc f → H' t = some (.tup (d.map .int)) → d.length = n → Bs d → Q (.ref t) H'
theorem ok_l_bytes (h : MgOk w.params mg) : FnOk P w (K w.params) mg base CX0 3 af_l_bytes fdf_l_bytes ["_law_stream", "_law_many"] spLBytes := by
  refine Fun.ok (sp := spLBytes) (Ff_l_bytes w.params) scf_l_bytes (fun vs H Q E hs => by first | (obtain ⟨rfl, _⟩ := hs; rfl) | (obtain ⟨_, rfl, _⟩ := hs; rfl) | (obtain ⟨_, _, rfl, _⟩ := hs; rfl) | (obtain ⟨_, _, _, rfl, _⟩ := hs; rfl) | (obtain ⟨_, _, _, _, rfl, _⟩ := hs; rfl) | (obtain ⟨_, _, _, _, _, rfl, _⟩ := hs; rfl) | (obtain ⟨_, _, _, _, _, _, rfl, _⟩ := hs; rfl) | (obtain ⟨_, _, _, _, _, _, _, rfl, _⟩ := hs; rfl) | (obtain ⟨_, _, _, _, _, _, _, _, rfl, _⟩ := hs; rfl) | (obtain ⟨_, _, _, _, _, _, _, _, _, rfl, _⟩ := hs; rfl) | (obtain ⟨_, _, _, _, _, _, _, _, _, _, rfl, _⟩ := hs; rfl) | (obtain ⟨_, _, _, _, _, _, _, _, _, _, _, rfl, _⟩ := hs; rfl) | (obtain ⟨_, _, _, _, _, _, _, _, _, _, _, _, rfl, _⟩ := hs; rfl) | (obtain ⟨_, _, _, _, _, _, _, _, _, _, _, _, _, rfl, _⟩ := hs; rfl) | (obtain ⟨_, _, _, _, _, _, _, _, _, _, _, _, _, _, rfl, _⟩ := hs; rfl) | (obtain ⟨_, _, _, _, _, _, _, _, _, _, _, _, _, _, _, rfl, _⟩ := hs; rfl) | (obtain ⟨_, _, _, _, _, _, _, _, _, _, _, _, _, _, _, _, rfl, _⟩ := hs; rfl) | (obtain ⟨_, _, _, _, _, _, _, _, _, _, _, _, _, _, _, _, _, rfl, _⟩ := hs; rfl) | (obtain ⟨_, _, _, _, _, _, _, _, _, _, _, _, _, _, _, _, _, _, rfl, _⟩ := hs; rfl) | (obtain ⟨_, _, _, _, _, _, _, _, _, _, _, _, _, _, _, _, _, _, _, rfl, _⟩ := hs; rfl) | (obtain ⟨_, _, _, _, _, _, _, _, _, _, _, _, _, _, _, _, _, _, _, _, rfl, _⟩ := hs; rfl) | (obtain ⟨_, _, _, _, _, _, _, _, _, _, _, _, _, _, _, _, _, _, _, _, _, rfl, _⟩ := hs; rfl)) (fun cdv A outer s H vs Q E hr hq => ?_)
  obtain ⟨S, sc, f, n, rfl, hS, hn, q⟩ := hq
  refine ⟨_, (pss_one (ps_ret (pe_callTy call_tuple_of (by rfl) (n_tuple h) (by decide +kernel) (pa_cons (pe_lc (own := [("_law_k", 2)]) (te := (tCall _ _ _ (tCons (tVar 0) (tCons (tLst (tCons _ (tCons _ (tCons _ (tCons _ (tCons _ (tCons (tCall _ _ _ (tCons (tVar 0) (tCons _ tNil))) tNil))))))) tNil)))) rfl scf_l_bytes.nd (pi_range1 rfl (n_range h) (pa_cons (pv 1) pa_nil)) (blkOk_by (N := ["_law_stream", "_law_many", "_law_k"]) (own := [("_law_k", 2)]) (sc := defScope sf_l_bytes) (by decide +kernel)) (fun _ _ _ _ _ => (pg_name (i := 2) scf_l_bytes.nd rfl (Or.inl rfl))) (fun _ _ _ _ _ => pts_nil) (fun _ _ _ _ _ => (pe_call (ok_l_pick h) (hr.mono (by decide)) (by rfl) (gf_l_pick h) (Ff_l_pick w.params).kp (bf_l_pick w.params) .nil pass0 (pa_cons (pv 0) (pa_cons (pe_lst (pa_cons pe_int (pa_cons pe_int (pa_cons pe_int (pa_cons pe_int (pa_cons pe_int (pa_cons (pe_call (ok_l_draw h) (hr.mono (by decide)) (by rfl) (gf_l_draw h) (Ff_l_draw w.params).kp (bf_l_draw w.params) .nil pass0 (pa_cons (pv 0) (pa_cons pe_int pa_nil))) pa_nil))))))) pa_nil))))) pa_nil)))), ?_⟩
  rw [stf_l_bytes]
  walk_at "rd"
  refine ⟨_, rfl, n, rfl, by omega, by omega, fun D nD => ?_⟩
  rw [Int.toNat_natCast]
  have nx : D ∉ [S, sc] := hS.neS nD
  have hS0 := (hS.ev (Ev.new (o := .lst []) nD))
  refine lc_inv walk_range (fun i H' => Ev [S, sc] H H' ∧ StrAt H' S sc (f + 2 * (n - i)) ∧ ∃ d : List Int, H' D = some (.lst (d.map .int)) ∧ d.length = i ∧ Bs d)
    ⟨Ev.new nD, by simpa using hS0, [], upd_same, rfl, fun x hx => by simp at hx⟩ (fun _ _ _ _ => trivial) (fun i x H1 H2 hi p y => ?_) (fun H' p => ?_)
  · obtain ⟨rfl, rfl⟩ := y
    obtain ⟨e, hS1, d, hD, hl, hb⟩ := p
    try walk_at "rd"
    refine ⟨S, sc, (f + 2 * (n - (i + 1))) + 1, 256, rfl, ?_, by decide, by decide, fun H3 v e3 hS3 v0 v1 => ?_⟩
    · rw [show f + 2 * (n - (i + 1)) + 1 + 1 = f + 2 * (n - i) by omega]; exact hS1
    try walk_at "rd"
    refine ⟨by simp [sizeLine], fun l nl => ?_⟩
    obtain ⟨H4, H4_eq, e4, h4⟩ := newq (.lst [V.int 0, V.int 1, V.int 255, V.int 128, V.int 127, V.int v]) nl
    rw [← H4_eq]
    clear H4_eq
    refine ⟨S, sc, l, f + 2 * (n - (i + 1)), _, rfl, hS3.ev e4, h4, hS3.neS nl, by simp, by simp, fun H5 j u e5 hS5 hu => ?_⟩
    have hD5 := e5.lstX (e4.lst (e3.lstX hD nx)) nx
    have hu' : ∃ x : Int, u = .int x ∧ 0 ≤ x ∧ x < 256 := by
      have := List.mem_of_getElem? hu
      simp at this
      rcases this with rfl | rfl | rfl | rfl | rfl | rfl
      · exact ⟨_, rfl, by decide, by decide⟩
      · exact ⟨_, rfl, by decide, by decide⟩
      · exact ⟨_, rfl, by decide, by decide⟩
      · exact ⟨_, rfl, by decide, by decide⟩
      · exact ⟨_, rfl, by decide, by decide⟩
      · exact ⟨_, rfl, v0, v1⟩
    obtain ⟨x, rfl, x0, x1⟩ := hu'
    refine ⟨_, hD5, ?_, ((e.trans e3).trans (e4.of0.trans e5)).put nD, ?_, d ++ [x], by rw [upd_same]; simp, by simp [hl], ?_⟩
    · simp; exact line_of (by omega)
    · exact hS5.evX (X := [D]) (Ev.list hD5 (by simp)) (by simp; exact fun z => nx (by simp [z])) (by simp; exact fun z => nx (by simp [z]))
    · intro y hy
      simp at hy
      rcases hy with hy | rfl
      · exact hb y hy
      · exact ⟨x0, x1⟩
  · obtain ⟨e, hS1, d, hD, hl, hb⟩ := p
    try walk_at "rd"
    refine ⟨_, .inl ⟨SqL.of hD, fun t nt => ?_⟩⟩
    exact q _ t d (e.trans (Ev.new nt)) ((hS1.ev (Ev.new nt)).le (by omega)) upd_same hl hb
def spPart : Sp := fun vs H Q _ => ∃ (S sc : Addr) (f n : Nat), vs = [.ref S, .int n] ∧ StrAt H S sc (f + 2) ∧ n < 1000 ∧ ∀ H' (s : Option Int), Ev [S, sc] H H' → StrAt H' S sc f → Q (vo s) H'
theorem ok_l_part (h : MgOk w.params mg) : FnOk P w (K w.params) mg base CX0 3 af_l_part fdf_l_part ["_law_stream", "_law_many"] spPart := by
  refine Fun.ok (sp := spPart) (Ff_l_part w.params) scf_l_part (fun vs H Q E hs => by first | (obtain ⟨rfl, _⟩ := hs; rfl) | (obtain ⟨_, rfl, _⟩ := hs; rfl) | (obtain ⟨_, _, rfl, _⟩ := hs; rfl) | (obtain ⟨_, _, _, rfl, _⟩ := hs; rfl) | (obtain ⟨_, _, _, _, rfl, _⟩ := hs; rfl) | (obtain ⟨_, _, _, _, _, rfl, _⟩ := hs; rfl) | (obtain ⟨_, _, _, _, _, _, rfl, _⟩ := hs; rfl) | (obtain ⟨_, _, _, _, _, _, _, rfl, _⟩ := hs; rfl) | (obtain ⟨_, _, _, _, _, _, _, _, rfl, _⟩ := hs; rfl) | (obtain ⟨_, _, _, _, _, _, _, _, _, rfl, _⟩ := hs; rfl) | (obtain ⟨_, _, _, _, _, _, _, _, _, _, rfl, _⟩ := hs; rfl) | (obtain ⟨_, _, _, _, _, _, _, _, _, _, _, rfl, _⟩ := hs; rfl) | (obtain ⟨_, _, _, _, _, _, _, _, _, _, _, _, rfl, _⟩ := hs; rfl) | (obtain ⟨_, _, _, _, _, _, _, _, _, _, _, _, _, rfl, _⟩ := hs; rfl) | (obtain ⟨_, _, _, _, _, _, _, _, _, _, _, _, _, _, rfl, _⟩ := hs; rfl) | (obtain ⟨_, _, _, _, _, _, _, _, _, _, _, _, _, _, _, rfl, _⟩ := hs; rfl) | (obtain ⟨_, _, _, _, _, _, _, _, _, _, _, _, _, _, _, _, rfl, _⟩ := hs; rfl) | (obtain ⟨_, _, _, _, _, _, _, _, _, _, _, _, _, _, _, _, _, rfl, _⟩ := hs; rfl) | (obtain ⟨_, _, _, _, _, _, _, _, _, _, _, _, _, _, _, _, _, _, rfl, _⟩ := hs; rfl) | (obtain ⟨_, _, _, _, _, _, _, _, _, _, _, _, _, _, _, _, _, _, _, rfl, _⟩ := hs; rfl) | (obtain ⟨_, _, _, _, _, _, _, _, _, _, _, _, _, _, _, _, _, _, _, _, rfl, _⟩ := hs; rfl) | (obtain ⟨_, _, _, _, _, _, _, _, _, _, _, _, _, _, _, _, _, _, _, _, _, rfl, _⟩ := hs; rfl)) (fun cdv A outer s H vs Q E hr hq => ?_)
  obtain ⟨S, sc, f, n, rfl, hS, hn, q⟩ := hq
  refine ⟨_, (pss_cons (ps_set (i := 2) scf_l_part.nd rfl (Or.inl rfl) (pe_call (ok_l_draw h) (hr.mono (by decide)) (by rfl) (gf_l_draw h) (Ff_l_draw w.params).kp (bf_l_draw w.params) .nil pass0 (pa_cons (pv 0) (pa_cons pe_int pa_nil))))
      (pss_cons (ps_if (pt_cmpR op_eq (pv 2) pe_int (nomark _)) (pss_one (ps_ret pe_non)) pss_nil)
      (pss_cons (ps_if (pt_cmpR op_eq (pv 2) pe_int (nomark _)) (pss_one (ps_ret (pe_call (ok_l_pick h) (hr.mono (by decide)) (by rfl) (gf_l_pick h) (Ff_l_pick w.params).kp (bf_l_pick w.params) .nil pass0 (pa_cons (pv 0) (pa_cons (pe_lst (pa_cons (pe_op op_sub pe_int (pe_op op_pow pe_int pe_int)) (pa_cons (pe_op op_pow pe_int pe_int) (pa_cons (pv 1) (pa_cons (pe_op op_add (pv 1) pe_int) (pa_cons (pe_op op_sub pe_int (pv 1)) (pa_cons (pe_op op_sub (pe_un un_neg pe_int) (pv 1)) pa_nil))))))) pa_nil))))) pss_nil)
      (pss_one (ps_ret (pe_op op_sub (pe_op op_sub (pe_call (ok_l_draw h) (hr.mono (by decide)) (by rfl) (gf_l_draw h) (Ff_l_draw w.params).kp (bf_l_draw w.params) .nil pass0 (pa_cons (pv 0) (pa_cons (pe_op op_add (pe_op op_mul pe_int (pv 1)) pe_int) pa_nil))) (pv 1)) pe_int)))))), ?_⟩
  rw [stf_l_part]
  refine freeze fun R2 hR2 => ?_
  try walk_at "rd"
  refine ⟨S, sc, f + 1, 6, rfl, hS, by decide, by decide, fun H1 v e1 hS1 v0 v1 => ?_⟩
  subst hR2
  refine freeze fun R3 hR3 => ?_
  try walk_at "rd"
  by_cases h0 : v = 0
  · rw [if_pos (by rw [h0])]
    try walk_at "rd"
    exact q _ none e1 (hS1.le (by omega))
  rw [if_neg (fun z => h0 (by cases z; rfl))]
  subst hR3
  refine freeze fun R4 hR4 => ?_
  try walk_at "rd"
  by_cases h1 : v = 1
  · rw [if_pos (by rw [h1])]
    try walk_at "rd"
    refine ⟨⟨by decide, by decide, by decide⟩, ⟨by decide, by decide, by decide⟩, by simp [sizeLine], fun l nl => ?_⟩
    obtain ⟨H2, H2_eq, e2, h2⟩ := newq (.lst [V.int (0 - 10 ^ Int.toNat 20), V.int (10 ^ Int.toNat 20), V.int ↑n, V.int (↑n + 1), V.int (0 - ↑n), V.int (-1 - ↑n)]) nl
    rw [← H2_eq]
    clear H2_eq
    refine ⟨S, sc, l, f, _, rfl, hS1.ev e2, h2, hS1.neS nl, by simp, by simp, fun H3 j u e3 hS3 hu => ?_⟩
    have hu' : ∃ x : Int, u = .int x := by
      have := List.mem_of_getElem? hu
      simp only [List.mem_cons, List.not_mem_nil, or_false] at this
      rcases this with rfl | rfl | rfl | rfl | rfl | rfl <;> exact ⟨_, rfl⟩
    obtain ⟨x, rfl⟩ := hu'
    exact q _ (some x) ((e1.trans e2.of0).trans e3) hS3
  rw [if_neg (fun z => h1 (by cases z; rfl))]
  subst hR4
  try walk_at "rd"
  refine ⟨.inl ⟨by decide, by decide⟩, S, sc, f, _, rfl, hS1, by omega, by omega, fun H2 v e2 hS2 v0 v1 => ?_⟩
  try walk_at "rd"
  exact q _ (some _) (e1.trans e2) hS2
def spLCut : Sp := fun vs H Q _ => ∃ (S sc : Addr) (f n : Nat), vs = [.ref S, .int n] ∧ StrAt H S sc (f + 5) ∧ n < 1000 ∧
  ∀ H' t (s e st : Option Int), Ev [S, sc] H H' → StrAt H' S sc f → H' t = some (.tup [vo s, vo e, vo st]) → StepOk st → Q (.ref t) H'
theorem ok_l_cut (h : MgOk w.params mg) : FnOk P w (K w.params) mg base CX0 4 af_l_cut fdf_l_cut ["_law_stream", "_law_many"] spLCut := by
  refine Fun.ok (sp := spLCut) (Ff_l_cut w.params) scf_l_cut (fun vs H Q E hs => by first | (obtain ⟨rfl, _⟩ := hs; rfl) | (obtain ⟨_, rfl, _⟩ := hs; rfl) | (obtain ⟨_, _, rfl, _⟩ := hs; rfl) | (obtain ⟨_, _, _, rfl, _⟩ := hs; rfl) | (obtain ⟨_, _, _, _, rfl, _⟩ := hs; rfl) | (obtain ⟨_, _, _, _, _, rfl, _⟩ := hs; rfl) | (obtain ⟨_, _, _, _, _, _, rfl, _⟩ := hs; rfl) | (obtain ⟨_, _, _, _, _, _, _, rfl, _⟩ := hs; rfl) | (obtain ⟨_, _, _, _, _, _, _, _, rfl, _⟩ := hs; rfl) | (obtain ⟨_, _, _, _, _, _, _, _, _, rfl, _⟩ := hs; rfl) | (obtain ⟨_, _, _, _, _, _, _, _, _, _, rfl, _⟩ := hs; rfl) | (obtain ⟨_, _, _, _, _, _, _, _, _, _, _, rfl, _⟩ := hs; rfl) | (obtain ⟨_, _, _, _, _, _, _, _, _, _, _, _, rfl, _⟩ := hs; rfl) | (obtain ⟨_, _, _, _, _, _, _, _, _, _, _, _, _, rfl, _⟩ := hs; rfl) | (obtain ⟨_, _, _, _, _, _, _, _, _, _, _, _, _, _, rfl, _⟩ := hs; rfl) | (obtain ⟨_, _, _, _, _, _, _, _, _, _, _, _, _, _, _, rfl, _⟩ := hs; rfl) | (obtain ⟨_, _, _, _, _, _, _, _, _, _, _, _, _, _, _, _, rfl, _⟩ := hs; rfl) | (obtain ⟨_, _, _, _, _, _, _, _, _, _, _, _, _, _, _, _, _, rfl, _⟩ := hs; rfl) | (obtain ⟨_, _, _, _, _, _, _, _, _, _, _, _, _, _, _, _, _, _, rfl, _⟩ := hs; rfl) | (obtain ⟨_, _, _, _, _, _, _, _, _, _, _, _, _, _, _, _, _, _, _, rfl, _⟩ := hs; rfl) | (obtain ⟨_, _, _, _, _, _, _, _, _, _, _, _, _, _, _, _, _, _, _, _, rfl, _⟩ := hs; rfl) | (obtain ⟨_, _, _, _, _, _, _, _, _, _, _, _, _, _, _, _, _, _, _, _, _, rfl, _⟩ := hs; rfl)) (fun cdv A outer s H vs Q E hr hq => ?_)
  obtain ⟨S, sc, f, n, rfl, hS, hn, q⟩ := hq
  refine ⟨_, (pss_cons (ps_set (i := 2) scf_l_cut.nd rfl (Or.inl rfl) (pe_call (ok_l_pick h) (hr.mono (by decide)) (by rfl) (gf_l_pick h) (Ff_l_pick w.params).kp (bf_l_pick w.params) .nil pass0 (pa_cons (pv 0) (pa_cons (pe_lst (pa_cons pe_non (pa_cons pe_non (pa_cons pe_int (pa_cons pe_int (pa_cons pe_int (pa_cons (pe_un un_neg pe_int) (pa_cons (pe_un un_neg pe_int) (pa_cons pe_int (pa_cons (pe_un un_neg pe_int) (pa_cons (pe_op op_pow pe_int pe_int) (pa_cons (pe_op op_sub pe_int (pe_op op_pow pe_int pe_int)) pa_nil)))))))))))) pa_nil))))
      (pss_one (ps_ret (pe_tup (pa_cons (pe_call (ok_l_part h) (hr.mono (by decide)) (by rfl) (gf_l_part h) (Ff_l_part w.params).kp (bf_l_part w.params) .nil pass0 (pa_cons (pv 0) (pa_cons (pv 1) pa_nil))) (pa_cons (pe_call (ok_l_part h) (hr.mono (by decide)) (by rfl) (gf_l_part h) (Ff_l_part w.params).kp (bf_l_part w.params) .nil pass0 (pa_cons (pv 0) (pa_cons (pv 1) pa_nil))) (pa_cons (pv 2) pa_nil))))))), ?_⟩
  rw [stf_l_cut]
  refine freeze fun R2 hR2 => ?_
  try walk_at "rd"
  refine ⟨⟨by decide, by decide, by decide⟩, ⟨by decide, by decide, by decide⟩, by simp [sizeLine], fun l nl => ?_⟩
  obtain ⟨H1, H1_eq, e1, h1⟩ := newq (.lst [V.non, V.non, V.int 1, V.int 1, V.int 2, V.int (-1), V.int (-2), V.int 3, V.int (-3), V.int (10 ^ Int.toNat 20), V.int (0 - 10 ^ Int.toNat 20)]) nl
  rw [← H1_eq]
  clear H1_eq
  refine ⟨S, sc, l, f + 4, _, rfl, hS.ev e1, h1, hS.neS nl, by simp, by simp, fun H2 j u e2 hS2 hu => ?_⟩
  have hu' : ∃ st : Option Int, u = vo st ∧ StepOk st := by
    have := List.mem_of_getElem? hu
    simp only [List.mem_cons, List.not_mem_nil, or_false] at this
    rcases this with rfl | rfl | rfl | rfl | rfl | rfl | rfl | rfl | rfl | rfl | rfl
    · exact ⟨none, rfl, by decide, by decide⟩
    · exact ⟨none, rfl, by decide, by decide⟩
    · exact ⟨some _, rfl, by decide, by decide⟩
    · exact ⟨some _, rfl, by decide, by decide⟩
    · exact ⟨some _, rfl, by decide, by decide⟩
    · exact ⟨some _, rfl, by decide, by decide⟩
    · exact ⟨some _, rfl, by decide, by decide⟩
    · exact ⟨some _, rfl, by decide, by decide⟩
    · exact ⟨some _, rfl, by decide, by decide⟩
    · exact ⟨some _, rfl, by decide, by decide⟩
    · exact ⟨some _, rfl, by decide, by decide⟩
  obtain ⟨st, rfl, hst⟩ := hu'
  subst hR2
  try walk_at "rd"
  refine ⟨S, sc, f + 2, n, rfl, hS2, hn, fun H3 s0 e3 hS3 => ?_⟩
  try walk_at "rd"
  refine ⟨S, sc, f, n, rfl, hS3, hn, fun H4 e0 e4 hS4 => ?_⟩
  try walk_at "rd"
  refine ⟨by simp [sizeLine], fun t nt => ?_⟩
  exact q _ t s0 e0 st (((e1.of0.trans e2).trans e3).trans (e4.trans (Ev.new nt))) (hS4.ev (Ev.new nt)) upd_same hst
def spSomeCut : Sp := fun vs H Q _ => ∃ (S sc : Addr) (f n m : Nat), vs = [.ref S, .int n, .int m] ∧ StrAt H S sc (f + 2) ∧ n < 1000 ∧ m ≤ n ∧
  ∀ H' t (s e st : Option Int), Ev [S, sc] H H' → StrAt H' S sc f → H' t = some (.tup [vo s, vo e, vo st]) → StepOk st → cutMany s e st n = m → Q (.ref t) H'
theorem ok_l_w_some_cut (h : MgOk w.params mg) : FnOk P w (K w.params) mg base CX0 2 af_l_w_some_cut fdf_l_w_some_cut ["_law_stream", "_law_size", "_law_many"] spSomeCut := by
  refine Fun.ok (sp := spSomeCut) (Ff_l_w_some_cut w.params) scf_l_w_some_cut (fun vs H Q E hs => by first | (obtain ⟨rfl, _⟩ := hs; rfl) | (obtain ⟨_, rfl, _⟩ := hs; rfl) | (obtain ⟨_, _, rfl, _⟩ := hs; rfl) | (obtain ⟨_, _, _, rfl, _⟩ := hs; rfl) | (obtain ⟨_, _, _, _, rfl, _⟩ := hs; rfl) | (obtain ⟨_, _, _, _, _, rfl, _⟩ := hs; rfl) | (obtain ⟨_, _, _, _, _, _, rfl, _⟩ := hs; rfl) | (obtain ⟨_, _, _, _, _, _, _, rfl, _⟩ := hs; rfl) | (obtain ⟨_, _, _, _, _, _, _, _, rfl, _⟩ := hs; rfl) | (obtain ⟨_, _, _, _, _, _, _, _, _, rfl, _⟩ := hs; rfl) | (obtain ⟨_, _, _, _, _, _, _, _, _, _, rfl, _⟩ := hs; rfl) | (obtain ⟨_, _, _, _, _, _, _, _, _, _, _, rfl, _⟩ := hs; rfl) | (obtain ⟨_, _, _, _, _, _, _, _, _, _, _, _, rfl, _⟩ := hs; rfl) | (obtain ⟨_, _, _, _, _, _, _, _, _, _, _, _, _, rfl, _⟩ := hs; rfl) | (obtain ⟨_, _, _, _, _, _, _, _, _, _, _, _, _, _, rfl, _⟩ := hs; rfl) | (obtain ⟨_, _, _, _, _, _, _, _, _, _, _, _, _, _, _, rfl, _⟩ := hs; rfl) | (obtain ⟨_, _, _, _, _, _, _, _, _, _, _, _, _, _, _, _, rfl, _⟩ := hs; rfl) | (obtain ⟨_, _, _, _, _, _, _, _, _, _, _, _, _, _, _, _, _, rfl, _⟩ := hs; rfl) | (obtain ⟨_, _, _, _, _, _, _, _, _, _, _, _, _, _, _, _, _, _, rfl, _⟩ := hs; rfl) | (obtain ⟨_, _, _, _, _, _, _, _, _, _, _, _, _, _, _, _, _, _, _, rfl, _⟩ := hs; rfl) | (obtain ⟨_, _, _, _, _, _, _, _, _, _, _, _, _, _, _, _, _, _, _, _, rfl, _⟩ := hs; rfl) | (obtain ⟨_, _, _, _, _, _, _, _, _, _, _, _, _, _, _, _, _, _, _, _, _, rfl, _⟩ := hs; rfl)) (fun cdv A outer s H vs Q E hr hq => ?_)
  obtain ⟨S, sc, f, n, m, rfl, hS, hn, hm, q⟩ := hq
  refine ⟨_, (pss_cons (ps_set (i := 3) scf_l_w_some_cut.nd rfl (Or.inl rfl) (pe_call (ok_l_draw h) (hr.mono (by decide)) (by rfl) (gf_l_draw h) (Ff_l_draw w.params).kp (bf_l_draw w.params) .nil pass0 (pa_cons (pv 0) (pa_cons (pe_op op_add (pe_op op_sub (pv 1) (pv 2)) pe_int) pa_nil))))
      (pss_cons (ps_if (PW.pt (pw_or (pt_cmpR op_eq (pe_call (ok_l_draw h) (hr.mono (by decide)) (by rfl) (gf_l_draw h) (Ff_l_draw w.params).kp (bf_l_draw w.params) .nil pass0 (pa_cons (pv 0) (pa_cons pe_int pa_nil))) pe_int (nomark _)) (pw_or1 (pt_cmpR op_eq (pv 2) pe_int (nomark _))))) (pss_one (ps_ret (pe_tup (pa_cons (pv 3) (pa_cons (pe_op op_add (pv 3) (pv 2)) (pa_cons pe_non pa_nil)))))) pss_nil)
      (pss_one (ps_ret (pe_tup (pa_cons (pe_op op_sub (pe_op op_add (pv 3) (pv 2)) pe_int) (pa_cons (pe_ifExp (pt_cmpR op_gt (pv 3) pe_int (nomark _)) (pe_op op_sub (pv 3) pe_int) pe_non) (pa_cons (pe_un un_neg pe_int) pa_nil)))))))), ?_⟩
  rw [stf_l_w_some_cut]
  refine freeze fun R2 hR2 => ?_
  try walk_at "rd"
  refine ⟨S, sc, f + 1, _, rfl, hS, by omega, by omega, fun H1 a e1 hS1 a0 a1 => ?_⟩
  subst hR2
  refine freeze fun R3 hR3 => ?_
  try walk_at "rd"
  have fin : ∀ H2, Ev [S, sc] H H2 → StrAt H2 S sc f → m = 0 ∨ True → ∀ t, H2 t = none → Q (.ref t) (upd H2 t (.tup [V.int a, V.int (a + m), V.non])) := fun H2 e hS2 _ t nt =>
    q _ t (some a) (some (a + m)) none (e.trans (Ev.new nt)) (hS2.ev (Ev.new nt)) upd_same ⟨by decide, by decide⟩ (some_fwd a0 (by omega) (by omega)).2
  refine ⟨S, sc, f, 2, rfl, hS1, by decide, by decide, fun H2 v e2 hS2 v0 v1 => ?_⟩
  have e12 := e1.trans e2
  try walk_at "rd"
  by_cases hv : v = 0
  · rw [if_pos hv]
    exact ⟨by simp [sizeLine], fin _ e12 hS2 (.inr trivial)⟩
  rw [if_neg hv]
  by_cases hm0 : (m : Int) = 0
  · rw [if_pos hm0]
    exact ⟨by simp [sizeLine], fin _ e12 hS2 (.inr trivial)⟩
  rw [if_neg hm0]
  subst hR3
  try walk_at "rd"
  have fb := some_bwd (a := a) (m := m) (n := n) a0 (by omega) (by omega)
  by_cases ha : 0 < a
  · rw [if_pos (by simpa using ha)]
    try walk_at "rd"
    refine ⟨by simp [sizeLine], fun t nt => ?_⟩
    refine q _ t (some _) (some (a - 1)) (some (-1)) (e12.trans (Ev.new nt)) (hS2.ev (Ev.new nt)) upd_same ⟨by decide, by decide⟩ ?_
    rw [if_pos ha] at fb
    exact fb.2
  · rw [if_neg (by simpa using ha)]
    try walk_at "rd"
    refine ⟨by simp [sizeLine], fun t nt => ?_⟩
    refine q _ t (some _) none (some (-1)) (e12.trans (Ev.new nt)) (hS2.ev (Ev.new nt)) upd_same ⟨by decide, by decide⟩ ?_
    rw [if_neg ha] at fb
    exact fb.2
end VL
end
section
set_option linter.all false
set_option maxRecDepth 100000
set_option maxHeartbeats 1000000
namespace VL
open PySem PySem.Spec PyProof.Rows L2 RZ
local macro_rules | `(tactic| walk_at "rd") => `(tactic| (simp only [tVar, tC, tOp, tUn, tTest, tB, tAnd, tOr, tNot, tAndV, tOrV, tNotV, tIf, tIfS, tSeq, tAsg, gName, tRet, tRetN, tDrop, tNext, rI, rI0, rU, rEq, rNe, scal, tCons, tNil, tCB, t2I, tChain, tCall, tMeth, tPar, tPar3, tFld, tTup, tLst, iTup, iList, iRng1, tPart, tNoPart, tBM, tBM0, tMake, tDGet, cxK, noxK, L2.wipe,
  List.append_nil, List.nil_append, List.cons_append, List.map_cons, List.map_nil, List.getElem?_cons_zero, List.getElem?_cons_succ, List.getElem?_nil, List.set_cons_zero, List.set_cons_succ, Option.some.injEq, V.int.injEq, V.bl.injEq, V.str.injEq, V.ref.injEq, exists_and_left, exists_eq_left', exists_eq_left, true_and, and_true, List.cons.injEq, if_true, if_false, Bool.false_eq_true, Bool.not_true, Bool.not_false, decide_eq_true_eq, and_assoc]))
variable {P : Program} {w : World} {mg : Str → Option Value} {base : Heap}
theorem Ev.less {X : List Addr} {x : Addr} {H H2 : Hp} (e : Ev (x :: X) H H2) (n : H x = none) : Ev X H H2 := fun c o h => by
  obtain ⟨o2, h2, r⟩ := e c o h
  refine ⟨o2, h2, r.imp id fun ⟨m, r⟩ => ⟨?_, r⟩⟩
  rcases List.mem_cons.mp m with rfl | m
  · rw [n] at h; cases h
  · exact m
/-- n turns, then the test fails -/
theorem while_n {c : TT} {tb : TS} {D : Ends} {σ : L2.St} {H : Hp} (n : Nat) (Pv : Nat → L2.St → Hp → Prop) (h0 : Pv 0 σ H)
    (hs : ∀ i σ H, i < n → Pv i σ H → ∀ T : Hp → Prop, (∀ H1, tb { D with nx := Pv (i + 1), ct := Pv (i + 1), bk := D.nx } σ H1 → T H1) → c σ H fun b H1 => if b = true then T H1 else D.nx σ H1)
    (hd : ∀ σ H, Pv n σ H → ∀ T : Hp → Prop, c σ H fun b H1 => if b = true then T H1 else D.nx σ H1) : tWhile c tb D σ H := by
  refine ⟨fun m σ H => ∃ i, i ≤ n ∧ m = n - i ∧ Pv i σ H, ⟨n, 0, Nat.zero_le _, rfl, h0⟩, ?_⟩
  rintro m σ H ⟨i, hi, rfl, p⟩
  by_cases hlt : i < n
  · exact hs i σ H hlt p _ fun H1 q => ⟨Pv (i + 1), fun σ' H' p' => ⟨n - (i + 1), by omega, i + 1, hlt, rfl, p'⟩, q⟩
  · have : i = n := by omega
    subst this
    exact hd σ H p _
section
variable {Kk : PySem.W.Frag} {H : Hp} {Q : VK} {σ : L2.St}
/-- (x, [u, v][int(step < 0)]) -/
theorem spare {i a b : Nat} {x : V} {u v k : Int} (hi : σ[i]? = some (some x)) (ha : σ[a]? = some (some (.int u))) (hb : σ[b]? = some (some (.int v))) (h4 : σ[4]? = some (some (.int k)))
    (q : ∀ H' p, Ev [] H H' → H' p = some (.tup [x, .int (if k < 0 then v else u)]) → Q (.ref p) H') :
    tTup (tCons (tVar i) (tCons (tOp (rIxL Kk) (tLst (tCons (tVar a) (tCons (tVar b) tNil))) (tCB (fun xs H Q => (∃ i, xs = [V.int i] ∧ Q (V.int i) H) ∨ ∃ k, xs = [V.bl k] ∧ Q (V.int (if k = true then 1 else 0)) H)
      (tCons (tOp (rI0 fun i j => V.bl (decide (i < j))) (tVar 4) (tC (V.int 0))) tNil))) tNil)) σ H Q := by
  refine ⟨_, hi, _, ha, _, hb, by simp [sizeLine], fun l nl => ?_⟩
  obtain ⟨H1, H1_eq, e1, h1⟩ := newq (.lst [V.int u, V.int v]) nl
  rw [← H1_eq]
  clear H1_eq
  refine ⟨_, h4, _, _, rfl, rfl, .inr ⟨_, rfl, ?_⟩⟩
  by_cases hk : k < 0
  · refine ⟨l, [V.int u, V.int v], 1, V.int v, rfl, by simp [hk], SqL.of h1, rfl, by simp [sizeLine], fun p np => q _ p (e1.trans (Ev.new np)) ?_⟩
    rw [upd_same, if_pos hk]
  · refine ⟨l, [V.int u, V.int v], 0, V.int u, rfl, by simp [hk], SqL.of h1, rfl, by simp [sizeLine], fun p np => q _ p (e1.trans (Ev.new np)) ?_⟩
    rw [upd_same, if_neg hk]
/-- the two of them -/
theorem spare2 {i j a b : Nat} {x y : V} {u v k : Int} (hi : σ[i]? = some (some x)) (hj : σ[j]? = some (some y)) (ha : σ[a]? = some (some (.int u))) (hb : σ[b]? = some (some (.int v))) (h4 : σ[4]? = some (some (.int k)))
    (q : ∀ H' p1 p2 T, Ev [] H H' → H' p1 = some (.tup [x, .int (if k < 0 then v else u)]) → H' p2 = some (.tup [y, .int (if k < 0 then u else v)]) → H' T = some (.tup [.ref p1, .ref p2]) → Q (.ref T) H') :
    tTup (tCons (tTup (tCons (tVar i) (tCons (tOp (rIxL Kk) (tLst (tCons (tVar a) (tCons (tVar b) tNil))) (tCB (fun xs H Q => (∃ i, xs = [V.int i] ∧ Q (V.int i) H) ∨ ∃ k, xs = [V.bl k] ∧ Q (V.int (if k = true then 1 else 0)) H)
      (tCons (tOp (rI0 fun i j => V.bl (decide (i < j))) (tVar 4) (tC (V.int 0))) tNil))) tNil))) (tCons (tTup (tCons (tVar j) (tCons (tOp (rIxL Kk) (tLst (tCons (tVar b) (tCons (tVar a) tNil))) (tCB (fun xs H Q => (∃ i, xs = [V.int i] ∧ Q (V.int i) H) ∨ ∃ k, xs = [V.bl k] ∧ Q (V.int (if k = true then 1 else 0)) H)
      (tCons (tOp (rI0 fun i j => V.bl (decide (i < j))) (tVar 4) (tC (V.int 0))) tNil))) tNil))) tNil)) σ H Q := by
  have key : ∀ (t1 t2 : TE), tTup (tCons t1 (tCons t2 tNil)) σ H Q = t1 σ H (fun x H1 => t2 σ H1 fun y H2 => [x, y].length ≤ sizeLine ∧ ∀ p, H2 p = none → Q (.ref p) (upd H2 p (.tup [x, y]))) := fun _ _ => rfl
  rw [key]
  refine spare hi ha hb h4 fun H1 p1 e1 h1 => ?_
  refine spare hj hb ha h4 fun H2 p2 e2 h2 => ?_
  exact ⟨by simp [sizeLine], fun T nT => q _ p1 p2 T ((e1.trans e2).trans (Ev.new nT)) ((e2.trans (Ev.new (X := []) nT)).tup h1) ((Ev.new (X := []) nT).tup h2) upd_same⟩
end
/-- the law's end of a cut -/
theorem bnd_law {p n lo hi : Int} : (if (if p + n * (if p < 0 then 1 else 0) > lo then p + n * (if p < 0 then 1 else 0) else lo) < hi then (if p + n * (if p < 0 then 1 else 0) > lo then p + n * (if p < 0 then 1 else 0) else lo) else hi) = bnd p n lo hi := by
  have e : p + n * (if p < 0 then 1 else 0) = if p < 0 then p + n else p := by split <;> simp
  rw [e]
  unfold bnd
  simp only
  generalize (if p < 0 then p + n else p) = a
  repeat' split
  all_goals omega
theorem cutStart_law {s st : Option Int} {n : Int} (k0 : st.getD 1 ≠ 0) : VL.cutS s n (if st.getD 1 > 0 then 0 else -1) (if st.getD 1 > 0 then n else n - 1) (if st.getD 1 < 0 then (if st.getD 1 > 0 then n else n - 1) else (if st.getD 1 > 0 then 0 else -1)) = cutStart s st n := by
  unfold cutStart
  by_cases h : st.getD 1 > 0
  · simp only [if_pos h, if_neg (show ¬ st.getD 1 < 0 by omega)]
  · simp only [if_neg h, if_pos (show st.getD 1 < 0 by omega)]
theorem cutStop_law {s st : Option Int} {n : Int} (k0 : st.getD 1 ≠ 0) : VL.cutS s n (if st.getD 1 > 0 then 0 else -1) (if st.getD 1 > 0 then n else n - 1) (if st.getD 1 < 0 then (if st.getD 1 > 0 then 0 else -1) else (if st.getD 1 > 0 then n else n - 1)) = cutStop s st n := by
  unfold cutStop
  by_cases h : st.getD 1 > 0
  · simp only [if_pos h, if_neg (show ¬ st.getD 1 < 0 by omega)]
  · simp only [if_neg h, if_pos (show st.getD 1 < 0 by omega)]
def spLCutOf : Sp := fun vs H Q _ => ∃ (t : Addr) (s e st : Option Int) (n : Nat), vs = [.ref t, .int n] ∧ H t = some (.tup [vo s, vo e, vo st]) ∧ StepOk st ∧ n < 1000 ∧ RetL H Q ((cutPl s e st n).map .int)
theorem ok_l_cut_of (h : MgOk w.params mg) : FnOk P w (K w.params) mg base CX0 1 af_l_cut_of fdf_l_cut_of ["_law_cut_here", "_law_many"] spLCutOf := by
  refine Fun.ok (sp := spLCutOf) (Ff_l_cut_of w.params) scf_l_cut_of (fun vs H Q E hs => by first | (obtain ⟨rfl, _⟩ := hs; rfl) | (obtain ⟨_, rfl, _⟩ := hs; rfl) | (obtain ⟨_, _, rfl, _⟩ := hs; rfl) | (obtain ⟨_, _, _, rfl, _⟩ := hs; rfl) | (obtain ⟨_, _, _, _, rfl, _⟩ := hs; rfl) | (obtain ⟨_, _, _, _, _, rfl, _⟩ := hs; rfl) | (obtain ⟨_, _, _, _, _, _, rfl, _⟩ := hs; rfl) | (obtain ⟨_, _, _, _, _, _, _, rfl, _⟩ := hs; rfl) | (obtain ⟨_, _, _, _, _, _, _, _, rfl, _⟩ := hs; rfl) | (obtain ⟨_, _, _, _, _, _, _, _, _, rfl, _⟩ := hs; rfl) | (obtain ⟨_, _, _, _, _, _, _, _, _, _, rfl, _⟩ := hs; rfl) | (obtain ⟨_, _, _, _, _, _, _, _, _, _, _, rfl, _⟩ := hs; rfl) | (obtain ⟨_, _, _, _, _, _, _, _, _, _, _, _, rfl, _⟩ := hs; rfl) | (obtain ⟨_, _, _, _, _, _, _, _, _, _, _, _, _, rfl, _⟩ := hs; rfl) | (obtain ⟨_, _, _, _, _, _, _, _, _, _, _, _, _, _, rfl, _⟩ := hs; rfl) | (obtain ⟨_, _, _, _, _, _, _, _, _, _, _, _, _, _, _, rfl, _⟩ := hs; rfl) | (obtain ⟨_, _, _, _, _, _, _, _, _, _, _, _, _, _, _, _, rfl, _⟩ := hs; rfl) | (obtain ⟨_, _, _, _, _, _, _, _, _, _, _, _, _, _, _, _, _, rfl, _⟩ := hs; rfl) | (obtain ⟨_, _, _, _, _, _, _, _, _, _, _, _, _, _, _, _, _, _, rfl, _⟩ := hs; rfl) | (obtain ⟨_, _, _, _, _, _, _, _, _, _, _, _, _, _, _, _, _, _, _, rfl, _⟩ := hs; rfl) | (obtain ⟨_, _, _, _, _, _, _, _, _, _, _, _, _, _, _, _, _, _, _, _, rfl, _⟩ := hs; rfl) | (obtain ⟨_, _, _, _, _, _, _, _, _, _, _, _, _, _, _, _, _, _, _, _, _, rfl, _⟩ := hs; rfl)) (fun cdv A outer s H vs Q E hr hq => ?_)
  obtain ⟨t, s0, e0, st, n, rfl, ht, hst, hn, q⟩ := hq
  refine ⟨_, (pss_cons (ps_asg (pv 0) (pg_tup rfl (pgs_cons (pg_name (i := 2) scf_l_cut_of.nd rfl (Or.inl rfl)) (pgs_cons (pg_name (i := 3) scf_l_cut_of.nd rfl (Or.inl rfl)) (pgs_cons (pg_name (i := 4) scf_l_cut_of.nd rfl (Or.inl rfl)) pgs_nil)))))
      (pss_cons (ps_set (i := 4) scf_l_cut_of.nd rfl (Or.inl rfl) (pe_ifExp (pt_cmpR op_isN (pv 4) pe_non (nomark _)) pe_int (pv 4)))
      (pss_cons (ps_asg (pe_ifExp (pt_cmpR op_gt (pv 4) pe_int (nomark _)) (pe_tup (pa_cons pe_int (pa_cons (pv 1) pa_nil))) (pe_tup (pa_cons (pe_un un_neg pe_int) (pa_cons (pe_op op_sub (pv 1) pe_int) pa_nil)))) (pg_tup rfl (pgs_cons (pg_name (i := 5) scf_l_cut_of.nd rfl (Or.inl rfl)) (pgs_cons (pg_name (i := 6) scf_l_cut_of.nd rfl (Or.inl rfl)) pgs_nil))))
      (pss_cons (ps_set (i := 7) scf_l_cut_of.nd rfl (Or.inl rfl) (pe_lst pa_nil))
      (pss_cons (ps_for PassesOwn.never rfl (pi_tup (pe_tup (pa_cons (pe_tup (pa_cons (pv 2) (pa_cons (pe_ix ix_list (pe_lst (pa_cons (pv 5) (pa_cons (pv 6) pa_nil))) (pe_callTy call_int1 (by rfl) (n_int h) (by decide +kernel) (pa_cons (pe_cmpR op_lt (pv 4) pe_int (nomark _)) pa_nil)) (fun _ _ => rfl)) pa_nil))) (pa_cons (pe_tup (pa_cons (pv 3) (pa_cons (pe_ix ix_list (pe_lst (pa_cons (pv 6) (pa_cons (pv 5) pa_nil))) (pe_callTy call_int1 (by rfl) (n_int h) (by decide +kernel) (pa_cons (pe_cmpR op_lt (pv 4) pe_int (nomark _)) pa_nil)) (fun _ _ => rfl)) pa_nil))) pa_nil)))) (pg_tup rfl (pgs_cons (pg_name (i := 8) scf_l_cut_of.nd rfl (Or.inl rfl)) (pgs_cons (pg_name (i := 9) scf_l_cut_of.nd rfl (Or.inl rfl)) pgs_nil))) (pss_one (ps_if (pt_cmpR op_isN (pv 8) pe_non (nomark _)) (pss_one (ps_expr (pe_bm PySem.F.plainAttrs_list PySem.F.slot_list_append PySem.F.type_list_append mt_append (pv 7) (pa_cons (pv 9) pa_nil)))) (pss_one (ps_expr (pe_bm PySem.F.plainAttrs_list PySem.F.slot_list_append PySem.F.type_list_append mt_append (pv 7) (pa_cons (pe_callB (call_min2 rfl) (by rfl) (n_min h) (by decide +kernel) (pa_cons (pv 6) (pa_cons (pe_callB (call_max2 rfl) (by rfl) (n_max h) (by decide +kernel) (pa_cons (pv 5) (pa_cons (pe_op op_add (pv 8) (pe_op op_mul (pv 1) (pe_callTy call_int1 (by rfl) (n_int h) (by decide +kernel) (pa_cons (pe_cmpR op_lt (pv 8) pe_int (nomark _)) pa_nil)))) pa_nil))) pa_nil))) pa_nil)))))))
      (pss_cons (ps_par (i := 10) (j := 11) (by rfl) scf_l_cut_of.nd rfl rfl (by decide) rfl rfl (pa_cons (pe_lst pa_nil) (pa_cons (pe_ix ix_list (pv 7) pe_int (fun _ _ => rfl)) pa_nil)) (by rfl))
      (pss_cons (ps_while PassesOwn.never (PW.pt (pw_or (PW.pt (pw_and (pt_cmpR op_lt (pv 11) (pe_ix ix_list (pv 7) pe_int (fun _ _ => rfl)) (nomark _)) (pw_and1 (pt_cmpR op_gt (pv 4) pe_int (nomark _))))) (pw_or1 (PW.pt (pw_and (pt_cmpR op_gt (pv 11) (pe_ix ix_list (pv 7) pe_int (fun _ _ => rfl)) (nomark _)) (pw_and1 (pt_cmpR op_lt (pv 4) pe_int (nomark _)))))))) (pss_cons (ps_expr (pe_bm PySem.F.plainAttrs_list PySem.F.slot_list_append PySem.F.type_list_append mt_append (pv 10) (pa_cons (pv 11) pa_nil)))
      (pss_one (ps_set (i := 11) scf_l_cut_of.nd rfl (Or.inl rfl) (pe_op op_add (pv 11) (pv 4))))))
      (pss_one (ps_ret (pv 10)))))))))), ?_⟩
  rw [stf_l_cut_of]
  refine freeze fun R2 hR2 => ?_
  try walk_at "rd"
  refine gTup3 ht ?_
  subst hR2
  refine freeze fun R3 hR3 => ?_
  try walk_at "rd"
  have tail : R3 { nx := fun x H' => Q V.non H', rt := Q } [some (V.ref t), some (V.int ↑n), some (vo s0), some (vo e0), some (V.int (st.getD 1)), none, none, none, none, none, none, none] H := by
    have k0 := hst.ne
    subst hR3
    refine freeze fun R4 hR4 => ?_
    try walk_at "rd"
    have lo_hi : ∀ H1, Ev [] H H1 → R4 { nx := fun x H' => Q V.non H', rt := Q } [some (V.ref t), some (V.int ↑n), some (vo s0), some (vo e0), some (V.int (st.getD 1)), some (.int (if st.getD 1 > 0 then 0 else -1)), some (.int (if st.getD 1 > 0 then (n : Int) else n - 1)), none, none, none, none, none] H1 := by
      intro H1 e1
      have sE := cutStart_law (s := s0) (n := n) k0
      have pE := cutStop_law (s := e0) (n := n) k0
      generalize (if st.getD 1 > 0 then (0 : Int) else -1) = lo at sE pE ⊢
      generalize (if st.getD 1 > 0 then (n : Int) else n - 1) = hi at sE pE ⊢
      subst hR4
      refine freeze fun R5 hR5 => ?_
      try walk_at "rd"
      refine ⟨by simp [sizeLine], fun B nB => ?_⟩
      obtain ⟨H2, H2_eq, e2, hB⟩ := newq (.lst []) nB
      rw [← H2_eq]
      clear H2_eq
      subst hR5
      refine freeze fun R6 hR6 => ?_
      try walk_at "rd"
      unfold tFor iTup
      refine spare2 (by rfl) (by rfl) (by rfl) (by rfl) (by rfl) fun H5 p1 p2 T e5 hp1 hp2 hT => ?_
      have hB5 := e5.lst hB
      have e05 := (e1.trans e2).trans e5
      have nB0 : H B = none := e1.free nB
      refine ⟨T, rfl, ⟨_, SqT.of hT⟩, ?_⟩
      refine for_it (walk_tup (xs := [V.ref p1, V.ref p2])) (fun i σ H' => Ev [B] H5 H' ∧ H' B = some (.lst (([cutStart s0 st n, cutStop e0 st n].take i).map .int)) ∧ ∃ x y, σ = [some (V.ref t), some (V.int ↑n), some (vo s0), some (vo e0), some (V.int (st.getD 1)), some (V.int lo), some (V.int hi), some (V.ref B), x, y, none, none])
        ⟨Ev.refl _ _, hB5, _, _, rfl⟩ (fun i σ H' _ p => SqT.of (p.1.tup hT)) (fun i x σ H' H'' hix p y => ?_) (fun σ H' p => ?_)
      · obtain ⟨rfl, hx⟩ := y
        obtain ⟨e, hB', x1, y1, rfl⟩ := p
        have hh : ∃ (sx : Option Int) (d r : Int) (px : Addr), x = .ref px ∧ H5 px = some (.tup [vo sx, .int d]) ∧ VL.cutS sx n lo hi d = r ∧ [cutStart s0 st n, cutStop e0 st n].take (i + 1) = [cutStart s0 st n, cutStop e0 st n].take i ++ [r] := by
          have : i = 0 ∨ i = 1 := by simp at hix; omega
          rcases this with rfl | rfl
          · cases hx; exact ⟨_, _, _, _, rfl, hp1, sE, rfl⟩
          · cases hx; exact ⟨_, _, _, _, rfl, hp2, pE, rfl⟩
        obtain ⟨sx, d, r, px, rfl, hpx, hr', htk⟩ := hh
        refine gTup2 (e.tup hpx) ?_
        have lt : ([cutStart s0 st n, cutStop e0 st n].take i).length < sizeLine := by
          refine line_of ?_; rw [List.length_take]; simp; omega
        try walk_at "rd"
        cases sx with
        | none =>
          rw [if_pos (show vo none = V.non from rfl)]
          try walk_at "rd"
          refine bm_append hB' (by simpa using lt) ?_
          refine ⟨e.trans (Ev.list hB' (by simp)), ?_, _, rfl⟩
          rw [upd_same, htk, ← hr', List.map_append]; rfl
        | some sv =>
          rw [if_neg (by intro z; cases z)]
          try walk_at "rd"
          refine ⟨.inl ⟨rfl, _, SqL.of hB'⟩, sv, rfl, .inr ⟨.inl ⟨by omega, by omega⟩, sv, rfl, _, _, _, rfl, rfl, hB', by simpa using lt, ?_⟩⟩
          rw [bnd_law]
          refine ⟨e.trans (Ev.list hB' (by simp)), ?_, _, rfl⟩
          rw [upd_same, htk, ← hr', List.map_append]; rfl
      · obtain ⟨e, hB', x1, y1, rfl⟩ := p
        have e0' : Ev [] H H' := ((e05.mono (by simp)).trans e).less nB0
        subst hR6
        dsimp only
        refine freeze fun R7 hR7 => ?_
        try walk_at "rd"
        refine ⟨by simp [sizeLine], fun D nD => ?_⟩
        obtain ⟨H6, H6_eq, e6, hD⟩ := newq (.lst []) nD
        rw [← H6_eq]
        clear H6_eq
        have hB6 := e6.lst hB'
        refine ⟨B, _, 0, _, rfl, rfl, SqL.of hB6, rfl, ?_⟩
        subst hR7
        refine freeze fun R8 hR8 => ?_
        have hBD : B ≠ D := fun z => by subst z; rw [hB'] at nD; cases nD
        have nD0 : H D = none := e0'.free nD
        have e06 := e0'.trans e6
        refine while_n (cutMany s0 e0 st n).toNat (fun i σ H' => Ev [D] H6 H' ∧ H' D = some (.lst (((cutPl s0 e0 st n).take i).map .int)) ∧ σ = [some (V.ref t), some (V.int ↑n), some (vo s0), some (vo e0), some (V.int (st.getD 1)), some (V.int lo), some (V.int hi), some (V.ref B), x1, y1, some (V.ref D), some (V.int (cutStart s0 st n + i * st.getD 1))])
          ⟨Ev.refl _ _, hD, by simp⟩ (fun i σ H' hix p T hT => ?_) (fun σ H' p T => ?_)
        · obtain ⟨e, hD', rfl⟩ := p
          have hB7 := e.lstX hB6 (by simpa using hBD)
          have gt : ∀ (Q : VK), Q (.int (cutStop e0 st n)) H' → rIxL (K w.params) (.ref B) (.int 1) H' Q := fun Q q => ⟨B, _, 1, _, rfl, rfl, SqL.of hB7, rfl, q⟩
          try walk_at "rd"
          refine gt _ ?_
          have g := (goes_iff (s := s0) (e := e0) (n := n) hst i).mpr (by omega)
          have TT : T H' := by
            refine hT _ ?_
            try walk_at "rd"
            have li : ((cutPl s0 e0 st n).take i).length = i := by rw [List.length_take, cutPl_len]; omega
            have cm := cutMany_le (s := s0) (e := e0) (n := n) (by omega) hst
            refine bm_append hD' (by rw [List.length_map, li]; exact line_of (by omega)) ?_
            refine ⟨e.trans (Ev.list hD' (by simp)), ?_, ?_⟩
            · rw [upd_same, List.take_succ, cutPl_get (by omega)]; simp
            · rw [Int.natCast_add, Int.add_mul, ← Int.add_assoc]; simp
          unfold goes at g
          refine ⟨_, rfl, ?_⟩
          rcases g with ⟨a, b⟩ | ⟨a, b⟩
          · rw [if_pos a, if_pos b]; exact TT
          · rw [if_neg (by omega)]
            refine gt _ ⟨_, rfl, ?_⟩
            rw [if_pos a, if_pos b]; exact TT
        · obtain ⟨e, hD', rfl⟩ := p
          have hB7 := e.lstX hB6 (by simpa using hBD)
          have gt : ∀ (Q : VK), Q (.int (cutStop e0 st n)) H' → rIxL (K w.params) (.ref B) (.int 1) H' Q := fun Q q => ⟨B, _, 1, _, rfl, rfl, SqL.of hB7, rfl, q⟩
          have g : ¬ goes st (cutStart s0 st n + ((cutMany s0 e0 st n).toNat : Nat) * st.getD 1) (cutStop e0 st n) := fun z => by
            have := (goes_iff (s := s0) (e := e0) (n := n) hst _).mp z
            omega
          try walk_at "rd"
          refine gt _ ⟨_, rfl, ?_⟩
          have fin : R8 { nx := fun x H' => Q V.non H', rt := Q } [some (V.ref t), some (V.int ↑n), some (vo s0), some (vo e0), some (V.int (st.getD 1)), some (V.int lo), some (V.int hi), some (V.ref B), x1, y1, some (V.ref D), some (V.int (cutStart s0 st n + ((cutMany s0 e0 st n).toNat : Nat) * st.getD 1))] H' := by
            subst hR8
            refine ⟨_, rfl, q _ D ((e06.mono (by simp)).trans e |>.less nD0) nD0 ?_⟩
            rw [hD', List.take_of_length_le (by rw [cutPl_len]; exact Nat.le_refl _)]
          generalize cutStart s0 st n + ((cutMany s0 e0 st n).toNat : Nat) * st.getD 1 = at_ at g fin ⊢
          unfold goes at g
          by_cases c : at_ < cutStop e0 st n
          · rw [if_pos c, if_neg (fun z => g (.inl ⟨c, z⟩))]
            refine gt _ ⟨_, rfl, ?_⟩
            rw [if_neg (by omega)]
            exact fin
          · rw [if_neg c]
            refine gt _ ⟨_, rfl, ?_⟩
            by_cases c2 : cutStop e0 st n < at_
            · rw [if_pos c2, if_neg (fun z => g (.inr ⟨c2, z⟩))]; exact fin
            · rw [if_neg c2]; exact fin
    by_cases hk : st.getD 1 > 0
    · rw [if_pos hk, if_pos hk] at lo_hi
      rw [if_pos (by simpa using hk)]
      refine ⟨by simp [sizeLine], fun p np => ?_⟩
      obtain ⟨H1, H1_eq, e1, h1⟩ := newq (.tup [V.int 0, V.int n]) np
      rw [← H1_eq]
      clear H1_eq
      exact gTup2 h1 (lo_hi _ e1)
    · rw [if_neg hk, if_neg hk] at lo_hi
      rw [if_neg (by simpa using hk)]
      refine ⟨by simp [sizeLine], fun p np => ?_⟩
      obtain ⟨H1, H1_eq, e1, h1⟩ := newq (.tup [V.int (-1), V.int (n - 1)]) np
      rw [← H1_eq]
      clear H1_eq
      exact gTup2 h1 (lo_hi _ e1)
  cases st with
  | none => exact tail
  | some k => exact tail
end VL
end
section
set_option linter.all false
set_option maxRecDepth 100000
set_option maxHeartbeats 1000000
namespace VL
open PySem PySem.Spec PyProof.Rows L2 RZ
local macro_rules | `(tactic| walk_at "rd") => `(tactic| (simp only [tVar, tC, tOp, tUn, tTest, tB, tAnd, tOr, tNot, tAndV, tOrV, tNotV, tIf, tIfS, tSeq, tAsg, gName, tRet, tRetN, tDrop, tNext, rI, rI0, rU, rEq, rNe, scal, tCons, tNil, tCB, t2I, tChain, tCall, tMeth, tPar, tPar3, tFld, tTup, tLst, iTup, iList, iRng1, tPart, tNoPart, tBM, tBM0, tMake, tDGet, cxK, noxK, L2.wipe,
  List.append_nil, List.nil_append, List.cons_append, List.map_cons, List.map_nil, List.getElem?_cons_zero, List.getElem?_cons_succ, List.getElem?_nil, List.set_cons_zero, List.set_cons_succ, Option.some.injEq, V.int.injEq, V.bl.injEq, V.str.injEq, V.ref.injEq, exists_and_left, exists_eq_left', exists_eq_left, true_and, and_true, List.cons.injEq, if_true, if_false, Bool.false_eq_true, Bool.not_true, Bool.not_false, decide_eq_true_eq, and_assoc]))
variable {P : Program} {w : World} {mg : Str → Option Value} {base : Heap}
/-- the law's model of a view -/
abbrev modO (q : Pl) : HO := .dK [(.inr "cells", .ref q.c), (.inr "kind", .str q.kd), (.inr "width", .int q.wd), (.inr "shape", .ref q.sz), (.inr "steps", .ref q.st), (.inr "place", .int q.pl), (.inr "fixed", .bl q.fx)]
def ModAt (H : Hp) (d : Addr) (q : Pl) : Prop := H d = some (modO q) ∧ H q.sz = some (.tup [.int q.n]) ∧ H q.st = some (.tup [.int q.s])
theorem ModAt.ev {X : List Addr} {H H' : Hp} {d : Addr} {q : Pl} (k : ModAt H d q) (e : Ev X H H') : ModAt H' d q := ⟨e.dK k.1, e.tup k.2.1, e.tup k.2.2⟩
section
variable {H : Hp} {d : Addr} {q : Pl} {G : V → Prop}
theorem mgo {k : Str} {v : V} (h : DGet H d (.str k) (some v)) (g : G v) : ∃ a v, V.ref d = .ref a ∧ DGet H a (.str k) (some v) ∧ G v := ⟨d, v, rfl, h, g⟩
theorem ModAt.cells (k : ModAt H d q) : DGet H d (.str "cells") (some (.ref q.c)) := DGet.k (k := Sum.inr "cells") k.1
theorem ModAt.kind (k : ModAt H d q) : DGet H d (.str "kind") (some (.str q.kd)) := DGet.k (k := Sum.inr "kind") k.1
theorem ModAt.width (k : ModAt H d q) : DGet H d (.str "width") (some (.int q.wd)) := DGet.k (k := Sum.inr "width") k.1
theorem ModAt.shape (k : ModAt H d q) : DGet H d (.str "shape") (some (.ref q.sz)) := DGet.k (k := Sum.inr "shape") k.1
theorem ModAt.steps (k : ModAt H d q) : DGet H d (.str "steps") (some (.ref q.st)) := DGet.k (k := Sum.inr "steps") k.1
theorem ModAt.place (k : ModAt H d q) : DGet H d (.str "place") (some (.int q.pl)) := DGet.k (k := Sum.inr "place") k.1
end
def spLPlaces : Sp := fun vs H Q _ => ∃ (a b : Addr) (n : Nat) (s pl : Int), vs = [.int pl, .ref a, .ref b] ∧ H a = some (.tup [.int n]) ∧ H b = some (.tup [.int s]) ∧ n < 1000 ∧ RetL H Q ((List.range n).map fun (k : Nat) => .int (pl + k * s))
theorem ok_l_places (h : MgOk w.params mg) : FnOk P w (K w.params) mg base CX0 1 af_l_places fdf_l_places ["_law_place", "_law_shape", "_law_steps"] spLPlaces := by
  refine Fun.ok (sp := spLPlaces) (Ff_l_places w.params) scf_l_places (fun vs H Q E hs => by first | (obtain ⟨rfl, _⟩ := hs; rfl) | (obtain ⟨_, rfl, _⟩ := hs; rfl) | (obtain ⟨_, _, rfl, _⟩ := hs; rfl) | (obtain ⟨_, _, _, rfl, _⟩ := hs; rfl) | (obtain ⟨_, _, _, _, rfl, _⟩ := hs; rfl) | (obtain ⟨_, _, _, _, _, rfl, _⟩ := hs; rfl) | (obtain ⟨_, _, _, _, _, _, rfl, _⟩ := hs; rfl) | (obtain ⟨_, _, _, _, _, _, _, rfl, _⟩ := hs; rfl) | (obtain ⟨_, _, _, _, _, _, _, _, rfl, _⟩ := hs; rfl) | (obtain ⟨_, _, _, _, _, _, _, _, _, rfl, _⟩ := hs; rfl) | (obtain ⟨_, _, _, _, _, _, _, _, _, _, rfl, _⟩ := hs; rfl) | (obtain ⟨_, _, _, _, _, _, _, _, _, _, _, rfl, _⟩ := hs; rfl) | (obtain ⟨_, _, _, _, _, _, _, _, _, _, _, _, rfl, _⟩ := hs; rfl) | (obtain ⟨_, _, _, _, _, _, _, _, _, _, _, _, _, rfl, _⟩ := hs; rfl) | (obtain ⟨_, _, _, _, _, _, _, _, _, _, _, _, _, _, rfl, _⟩ := hs; rfl) | (obtain ⟨_, _, _, _, _, _, _, _, _, _, _, _, _, _, _, rfl, _⟩ := hs; rfl) | (obtain ⟨_, _, _, _, _, _, _, _, _, _, _, _, _, _, _, _, rfl, _⟩ := hs; rfl) | (obtain ⟨_, _, _, _, _, _, _, _, _, _, _, _, _, _, _, _, _, rfl, _⟩ := hs; rfl) | (obtain ⟨_, _, _, _, _, _, _, _, _, _, _, _, _, _, _, _, _, _, rfl, _⟩ := hs; rfl) | (obtain ⟨_, _, _, _, _, _, _, _, _, _, _, _, _, _, _, _, _, _, _, rfl, _⟩ := hs; rfl) | (obtain ⟨_, _, _, _, _, _, _, _, _, _, _, _, _, _, _, _, _, _, _, _, rfl, _⟩ := hs; rfl) | (obtain ⟨_, _, _, _, _, _, _, _, _, _, _, _, _, _, _, _, _, _, _, _, _, rfl, _⟩ := hs; rfl)) (fun cdv A outer s H vs Q E hr hq => ?_)
  obtain ⟨a, b, n, s1, pl, rfl, ha, hb, hn, q⟩ := hq
  refine ⟨_, (pss_cons (ps_set (i := 3) scf_l_places.nd rfl (Or.inl rfl) (pe_lst (pa_cons (pv 0) pa_nil)))
      (pss_cons (ps_for PassesOwn.never rfl (pi_zipA (by rfl) (n_zip h) (pa_cons (pv 1) (pa_cons (pv 2) pa_nil))) (pg_tup rfl (pgs_cons (pg_name (i := 4) scf_l_places.nd rfl (Or.inl rfl)) (pgs_cons (pg_name (i := 5) scf_l_places.nd rfl (Or.inr rfl)) pgs_nil))) (pss_cons (ps_set (i := 6) scf_l_places.nd rfl (Or.inl rfl) (pe_lst pa_nil))
      (pss_cons (ps_for PassesOwn.never rfl (pi_list (pv 3)) (pg_name (i := 7) scf_l_places.nd rfl (Or.inr rfl)) (pss_one (ps_set (i := 6) scf_l_places.nd rfl (Or.inl rfl) (pe_op op_cat (pv 6) (pe_lc (own := [("_law_k", 8)]) (te := (tOp _ (tVar 7) (tOp _ (tVar 8) (tVar 5)))) rfl scf_l_places.nd (pi_range1 rfl (n_range h) (pa_cons (pv 4) pa_nil)) (blkOk_by (N := ["_law_place", "_law_shape", "_law_steps", "_law_found", "_law_size", "_law_step", "_law_wide", "_law_at", "_law_k"]) (own := [("_law_k", 8)]) (sc := defScope sf_l_places) (by decide +kernel)) (fun _ _ _ _ _ => (pg_name (i := 8) scf_l_places.nd rfl (Or.inl rfl))) (fun _ _ _ _ _ => pts_nil) (fun _ _ _ _ _ => (pe_op op_add (pv 7) (pe_op op_mul (pv 8) (pv 5)))))))))
      (pss_one (ps_set (i := 3) scf_l_places.nd rfl (Or.inl rfl) (pv 6))))))
      (pss_one (ps_ret (pv 3))))), ?_⟩
  rw [stf_l_places]
  refine freeze fun R2 hR2 => ?_
  try walk_at "rd"
  refine ⟨by simp [sizeLine], fun F nF => ?_⟩
  obtain ⟨H1, H1_eq, e1, hF⟩ := newq (.lst [V.int pl]) nF
  rw [← H1_eq]
  clear H1_eq
  subst hR2
  refine freeze fun R3 hR3 => ?_
  refine ⟨_, rfl, _, rfl, a, b, _, _, rfl, .inr ⟨SqT.of (e1.tup ha), SqT.of (e1.tup hb), ?_⟩⟩
  refine for_one (walk_zipT (xs := [V.int (n : Int)]) (ys := [V.int s1]) rfl) ⟨SqT.of (e1.tup ha), SqT.of (e1.tup hb)⟩ fun x H3 y => ?_
  obtain ⟨T, x, y, rfl, nT, rfl, hx, hy⟩ := y
  cases hx; cases hy
  refine gTup2 upd_same ?_
  obtain ⟨H3, H3_eq, e3, h3⟩ := newq (.tup [V.int n, V.int s1]) nT
  rw [← H3_eq]
  clear H3_eq
  refine freeze fun R4 hR4 => ?_
  try walk_at "rd"
  refine ⟨by simp [sizeLine], fun Wd nW => ?_⟩
  obtain ⟨H4, H4_eq, e4, hW⟩ := newq (.lst []) nW
  rw [← H4_eq]
  clear H4_eq
  subst hR4
  refine freeze fun R5 hR5 => ?_
  refine ⟨_, rfl, F, rfl, ⟨_, SqL.of ((e3.trans e4).lst hF)⟩, ?_⟩
  refine for_one (walk_list (xs := [V.int pl])) (SqL.of ((e3.trans e4).lst hF)) fun x H5 y => ?_
  obtain ⟨rfl, hx⟩ := y
  cases hx
  refine ⟨_, rfl, _, rfl, n, rfl, by omega, by omega, fun D nD => lc_fn (X := []) walk_range (fun (k : Nat) => .int (pl + k * s1)) (line_of (by omega)) (Ev.refl _ _) nD (by simp) (fun _ _ => trivial) (fun i x H' H'' N hi e y k => ?_) (fun H' e hD => ?_)⟩
  · obtain ⟨rfl, rfl⟩ := y
    try walk_at "rd"
    refine ⟨.inl ⟨by omega, by omega⟩, ?_⟩
    have := k _ (Ev.refl _ _)
    simpa using this
  · rw [Int.toNat_natCast] at hD
    refine ⟨Wd, D, [], _, rfl, rfl, e.lst hW, hD, by simp; exact Nat.le_of_lt (line_of (by omega)), fun p np => ?_⟩
    obtain ⟨H6, H6_eq, e6, h6⟩ := newq (.lst ([] ++ (List.range n).map fun (k : Nat) => V.int (pl + k * s1))) np
    rw [← H6_eq]
    clear H6_eq
    have e46 := (e4.trans e).trans e6
    refine ⟨SqL.of ((e3.trans e46).lst hF), ?_⟩
    subst hR5
    try walk_at "rd"
    refine ⟨SqT.of ((e1.trans (e3.trans e46)).tup ha), SqT.of ((e1.trans (e3.trans e46)).tup hb), ?_⟩
    subst hR3
    try walk_at "rd"
    exact q _ p (e1.trans (e3.trans e46)) ((e1.trans (e3.trans (e4.trans e))).free np) (by simpa using h6)
theorem catAny {Kk : PySem.W.Frag} {H : Hp} {Q : VK} {a b : Addr} {xs ys : List V} (ha : H a = some (.tup xs)) (hb : H b = some (.tup ys)) (hl : xs.length + ys.length ≤ sizeLine) (q : ∀ p H', Ev [] H H' → H' p = some (.tup (xs ++ ys)) → Q (.ref p) H') : rCatA Kk (.ref a) (.ref b) H Q :=
  ⟨a, b, _, _, rfl, rfl, SqT.of ha, SqT.of hb, hl, (fun h => q b H (Ev.refl _ _) (by rw [h]; exact hb)), (fun _ h => q a H (Ev.refl _ _) (by rw [h, List.append_nil]; exact ha)), (fun _ _ p np => q p _ (Ev.new np) upd_same)⟩
theorem gat_length {cs pls : List Int} {wd : Nat} : (gat cs pls wd).length = pls.length * wd := by
  induction pls with
  | nil => simp [gat]
  | cons p ps ih => unfold gat at ih ⊢; rw [List.flatMap_cons, List.length_append, ih, rowOf_length, List.length_cons, Nat.succ_mul]; omega
theorem gat_snoc {cs pls : List Int} {p : Int} {wd : Nat} : gat cs (pls ++ [p]) wd = gat cs pls wd ++ rowOf cs p wd := by simp [gat]
def spLBy : Sp := fun vs H Q _ => ∃ (d : Addr) (p : Pl) (cs : List Int), vs = [.ref d, .bl false] ∧ ModAt H d p ∧ H p.c = some (.lst (cs.map .int)) ∧ PlIn cs p ∧ RetT H Q ((gat cs (adr p) p.wd).map .int)
theorem ok_l_w_bytes (h : MgOk w.params mg) : FnOk P w (K w.params) mg base CX0 2 af_l_w_bytes fdf_l_w_bytes ["_law_m", "_law_is_first"] spLBy := by
  refine Fun.ok (sp := spLBy) (Ff_l_w_bytes w.params) scf_l_w_bytes (fun vs H Q E hs => by first | (obtain ⟨rfl, _⟩ := hs; rfl) | (obtain ⟨_, rfl, _⟩ := hs; rfl) | (obtain ⟨_, _, rfl, _⟩ := hs; rfl) | (obtain ⟨_, _, _, rfl, _⟩ := hs; rfl) | (obtain ⟨_, _, _, _, rfl, _⟩ := hs; rfl) | (obtain ⟨_, _, _, _, _, rfl, _⟩ := hs; rfl) | (obtain ⟨_, _, _, _, _, _, rfl, _⟩ := hs; rfl) | (obtain ⟨_, _, _, _, _, _, _, rfl, _⟩ := hs; rfl) | (obtain ⟨_, _, _, _, _, _, _, _, rfl, _⟩ := hs; rfl) | (obtain ⟨_, _, _, _, _, _, _, _, _, rfl, _⟩ := hs; rfl) | (obtain ⟨_, _, _, _, _, _, _, _, _, _, rfl, _⟩ := hs; rfl) | (obtain ⟨_, _, _, _, _, _, _, _, _, _, _, rfl, _⟩ := hs; rfl) | (obtain ⟨_, _, _, _, _, _, _, _, _, _, _, _, rfl, _⟩ := hs; rfl) | (obtain ⟨_, _, _, _, _, _, _, _, _, _, _, _, _, rfl, _⟩ := hs; rfl) | (obtain ⟨_, _, _, _, _, _, _, _, _, _, _, _, _, _, rfl, _⟩ := hs; rfl) | (obtain ⟨_, _, _, _, _, _, _, _, _, _, _, _, _, _, _, rfl, _⟩ := hs; rfl) | (obtain ⟨_, _, _, _, _, _, _, _, _, _, _, _, _, _, _, _, rfl, _⟩ := hs; rfl) | (obtain ⟨_, _, _, _, _, _, _, _, _, _, _, _, _, _, _, _, _, rfl, _⟩ := hs; rfl) | (obtain ⟨_, _, _, _, _, _, _, _, _, _, _, _, _, _, _, _, _, _, rfl, _⟩ := hs; rfl) | (obtain ⟨_, _, _, _, _, _, _, _, _, _, _, _, _, _, _, _, _, _, _, rfl, _⟩ := hs; rfl) | (obtain ⟨_, _, _, _, _, _, _, _, _, _, _, _, _, _, _, _, _, _, _, _, rfl, _⟩ := hs; rfl) | (obtain ⟨_, _, _, _, _, _, _, _, _, _, _, _, _, _, _, _, _, _, _, _, _, rfl, _⟩ := hs; rfl)) (fun cdv A outer s H vs Q E hr hq => ?_)
  obtain ⟨d, p, cs, rfl, hd, hc, hin, q⟩ := hq
  have hu := hu_of hr
  refine ⟨_, (pss_cons (ps_par (i := 2) (j := 3) (by rfl) scf_l_w_bytes.nd rfl rfl (by decide) rfl rfl (pa_cons (pe_dget hu (pv 0) pe_str (fun _ _ => rfl)) (pa_cons (pe_dget hu (pv 0) pe_str (fun _ _ => rfl)) pa_nil)) (by rfl))
      (pss_cons (ps_if (pt_val (pv 1)) (pss_one (ps_par (i := 2) (j := 3) (by rfl) scf_l_w_bytes.nd rfl rfl (by decide) rfl rfl (pa_cons (pe_revT (pv 2)) (pa_cons (pe_revT (pv 3)) pa_nil)) (by rfl))) pss_nil)
      (pss_cons (ps_set (i := 4) scf_l_w_bytes.nd rfl (Or.inl rfl) (pe_tup pa_nil))
      (pss_cons (ps_for PassesOwn.never rfl (pi_list (pe_call (ok_l_places h) (hr.mono (by decide)) (by rfl) (gf_l_places h) (Ff_l_places w.params).kp (bf_l_places w.params) .nil pass0 (pa_cons (pe_dget hu (pv 0) pe_str (fun _ _ => rfl)) (pa_cons (pv 2) (pa_cons (pv 3) pa_nil))))) (pg_name (i := 5) scf_l_w_bytes.nd rfl (Or.inl rfl)) (pss_one (ps_set (i := 4) scf_l_w_bytes.nd rfl (Or.inl rfl) (pe_op op_catA (pv 4) (pe_callTy call_tuple_of (by rfl) (n_tuple h) (by decide +kernel) (pa_cons (pe_slice sl_list (pe_dget hu (pv 0) pe_str (fun _ _ => rfl)) (po_some (pv 5)) (po_some (pe_op op_add (pv 5) (pe_dget hu (pv 0) pe_str (fun _ _ => rfl))))) pa_nil))))))
      (pss_one (ps_ret (pv 4))))))), ?_⟩
  rw [stf_l_w_bytes]
  refine freeze fun R2 hR2 => ?_
  try walk_at "rd"
  refine ⟨_, hd.shape, ?_⟩
  try walk_at "rd"
  refine ⟨_, hd.steps, ?_⟩
  try walk_at "rd"
  subst hR2
  refine freeze fun R3 hR3 => ?_
  try walk_at "rd"
  subst hR3
  refine freeze fun R4 hR4 => ?_
  try walk_at "rd"
  refine ⟨by simp [sizeLine], fun t0 nt => ?_⟩
  obtain ⟨H1, H1_eq, e1, h1⟩ := newq (.tup []) nt
  rw [← H1_eq]
  clear H1_eq
  have hd1 := hd.ev e1
  subst hR4
  refine freeze fun R5 hR5 => ?_
  try walk_at "rd"
  refine ⟨_, rfl, d, _, rfl, hd1.place, _, rfl, _, rfl, _, _, _, _, _, rfl, hd1.2.1, hd1.2.2, hin.2.1, fun H2 L e2 nL hL => ?_⟩
  rw [adr_map] at hL
  refine ⟨L, rfl, ⟨_, SqL.of hL⟩, ?_⟩
  have e12 := e1.trans e2
  refine for_it (walk_list (xs := (adr p).map V.int)) (fun i σ H' => Ev [] H2 H' ∧ ∃ t v, σ = [some (V.ref d), some (V.bl false), some (V.ref p.sz), some (V.ref p.st), some (V.ref t), v] ∧ H' t = some (.tup ((gat cs ((adr p).take i) p.wd).map .int)))
    ⟨Ev.refl _ _, t0, _, rfl, by simpa [gat] using e2.tup h1⟩ (fun i σ H' _ p => SqL.of (p.1.lst hL)) (fun i x σ H' H'' hi pv y => ?_) (fun σ H' pv => ?_)
  · obtain ⟨rfl, hx⟩ := y
    obtain ⟨e, t1, v, rfl, ht⟩ := pv
    rw [List.getElem?_map] at hx
    obtain ⟨a, ha, rfl⟩ := Option.map_eq_some_iff.mp hx
    have hia := hin.1 a (List.mem_of_getElem? ha)
    have e02 := e12.trans e
    have hd2 := hd.ev e02
    try walk_at "rd"
    refine ⟨_, rfl, d, _, rfl, hd2.cells, _, rfl, _, rfl, _, rfl, _, rfl, d, _, rfl, hd2.width, _, _, rfl, rfl, _, rfl, p.c, _, rfl, SqL.of (e02.lst hc), fun l nl => ?_⟩
    rw [cutV_row hia]
    obtain ⟨H5, H5_eq, e5, h5⟩ := newq (.lst ((rowOf cs a p.wd).map V.int)) nl
    rw [← H5_eq]
    clear H5_eq
    refine ⟨_, rfl, _, .inl ⟨SqL.of h5, fun t nt => ?_⟩⟩
    obtain ⟨H6, H6_eq, e6, h6⟩ := newq (.tup ((rowOf cs a p.wd).map V.int)) nt
    rw [← H6_eq]
    clear H6_eq
    have hil : i < (adr p).length := by simpa using hi
    have gl : (gat cs ((adr p).take i) p.wd).length + p.wd ≤ 10000 := by
      rw [gat_length, List.length_take]
      have : min i (adr p).length * p.wd ≤ 1000 * 8 := Nat.mul_le_mul (by have := hin.2.1; simp [adr]; omega) hin.2.2
      have := hin.2.2
      omega
    refine catAny ((e5.trans e6).tup ht) h6 (by simp only [List.length_map, rowOf_length]; exact Nat.le_of_lt (line_of (by omega))) fun t2 H7 e7 h7 => ?_
    refine ⟨e.trans ((e5.trans e6).trans e7), t2, rfl, ?_⟩
    rw [h7, List.take_succ, ha, Option.toList_some, gat_snoc, List.map_append]
  · obtain ⟨e, t1, v, rfl, ht⟩ := pv
    subst hR5
    rw [List.take_of_length_le (by simp)] at ht
    exact ⟨_, rfl, q _ _ (e12.trans e) ht⟩
def spLModel : Sp := fun vs H Q _ => ∃ (a z t : Addr) (xs : List Int) (p : Pl), vs = [.ref a, .str p.kd, .int p.wd, .ref p.sz, .ref p.st, .int p.pl, .bl p.fx] ∧ H a = some (.tup (xs.map .int)) ∧ H p.sz = some (.tup [.int p.n]) ∧ H p.st = some (.tup [.int p.s]) ∧
  ∀ H' d c, Ev [] H H' → H c = none → H' c = some (.lst (xs.map .int)) → ModAt H' d { p with c := c } → Q (.ref d) H'
theorem ok_l_w_model (h : MgOk w.params mg) : FnOk P w (K w.params) mg base CX0 1 af_l_w_model fdf_l_w_model ["_law_data", "_law_kind", "_law_width", "_law_shape", "_law_steps", "_law_place", "_law_is_fixed"] spLModel := by
  refine Fun.ok (sp := spLModel) (Ff_l_w_model w.params) scf_l_w_model (fun vs H Q E hs => by first | (obtain ⟨rfl, _⟩ := hs; rfl) | (obtain ⟨_, rfl, _⟩ := hs; rfl) | (obtain ⟨_, _, rfl, _⟩ := hs; rfl) | (obtain ⟨_, _, _, rfl, _⟩ := hs; rfl) | (obtain ⟨_, _, _, _, rfl, _⟩ := hs; rfl) | (obtain ⟨_, _, _, _, _, rfl, _⟩ := hs; rfl) | (obtain ⟨_, _, _, _, _, _, rfl, _⟩ := hs; rfl) | (obtain ⟨_, _, _, _, _, _, _, rfl, _⟩ := hs; rfl) | (obtain ⟨_, _, _, _, _, _, _, _, rfl, _⟩ := hs; rfl) | (obtain ⟨_, _, _, _, _, _, _, _, _, rfl, _⟩ := hs; rfl) | (obtain ⟨_, _, _, _, _, _, _, _, _, _, rfl, _⟩ := hs; rfl) | (obtain ⟨_, _, _, _, _, _, _, _, _, _, _, rfl, _⟩ := hs; rfl) | (obtain ⟨_, _, _, _, _, _, _, _, _, _, _, _, rfl, _⟩ := hs; rfl) | (obtain ⟨_, _, _, _, _, _, _, _, _, _, _, _, _, rfl, _⟩ := hs; rfl) | (obtain ⟨_, _, _, _, _, _, _, _, _, _, _, _, _, _, rfl, _⟩ := hs; rfl) | (obtain ⟨_, _, _, _, _, _, _, _, _, _, _, _, _, _, _, rfl, _⟩ := hs; rfl) | (obtain ⟨_, _, _, _, _, _, _, _, _, _, _, _, _, _, _, _, rfl, _⟩ := hs; rfl) | (obtain ⟨_, _, _, _, _, _, _, _, _, _, _, _, _, _, _, _, _, rfl, _⟩ := hs; rfl) | (obtain ⟨_, _, _, _, _, _, _, _, _, _, _, _, _, _, _, _, _, _, rfl, _⟩ := hs; rfl) | (obtain ⟨_, _, _, _, _, _, _, _, _, _, _, _, _, _, _, _, _, _, _, rfl, _⟩ := hs; rfl) | (obtain ⟨_, _, _, _, _, _, _, _, _, _, _, _, _, _, _, _, _, _, _, _, rfl, _⟩ := hs; rfl) | (obtain ⟨_, _, _, _, _, _, _, _, _, _, _, _, _, _, _, _, _, _, _, _, _, rfl, _⟩ := hs; rfl)) (fun cdv A outer s H vs Q E hr hq => ?_)
  obtain ⟨a, z, t, xs, p, rfl, ha, hz, ht, q⟩ := hq
  have hu := hu_of hr
  refine ⟨_, (pss_one (ps_ret (pe_disp (pps_cons pe_str (pe_callTy call_list_of (by rfl) (n_list h) (by decide +kernel) (pa_cons (pv 0) pa_nil)) (pps_cons pe_str (pv 1) (pps_cons pe_str (pv 2) (pps_cons pe_str (pv 3) (pps_cons pe_str (pv 4) (pps_cons pe_str (pv 5) (pps_cons pe_str (pv 6) pps_nil))))))) (by rfl) (by rfl) (fun z => by cases z) (by decide)))), ?_⟩
  rw [stf_l_w_model]
  intro d nd
  obtain ⟨H1, H1_eq, e1, hd⟩ := newq (.dK []) nd
  rw [← H1_eq]
  clear H1_eq
  refine ⟨_, rfl, _, _, rfl, .inr (SqT.of (e1.tup ha)), fun c nc => ?_⟩
  obtain ⟨H2, H2_eq, e2, hc⟩ := newq (.lst (xs.map V.int)) nc
  rw [← H2_eq]
  clear H2_eq
  refine ⟨_, rfl, _, rfl, _, rfl, _, rfl, _, rfl, _, rfl, ?_⟩
  refine ⟨e2.dK hd, [(.inr "cells", .ref c), (.inr "kind", .str p.kd), (.inr "width", .int p.wd), (.inr "shape", .ref p.sz), (.inr "steps", .ref p.st), (.inr "place", .int p.pl), (.inr "fixed", .bl p.fx)], rfl, by simp, ?_⟩
  have em : mergeK [] [((.inr "cells", .ref c) : Key × V), (.inr "kind", .str p.kd), (.inr "width", .int p.wd), (.inr "shape", .ref p.sz), (.inr "steps", .ref p.st), (.inr "place", .int p.pl), (.inr "fixed", .bl p.fx)] = [(.inr "cells", .ref c), (.inr "kind", .str p.kd), (.inr "width", .int p.wd), (.inr "shape", .ref p.sz), (.inr "steps", .ref p.st), (.inr "place", .int p.pl), (.inr "fixed", .bl p.fx)] := by rfl
  rw [em]
  have e12 := e1.trans e2
  refine q _ d c (e12.put nd) (e1.free nc) ?_ ⟨upd_same, (e12.put nd).tup hz, (e12.put nd).tup ht⟩
  rw [upd_ne (fun z => by subst z; rw [hd] at nc; cases nc)]
  exact hc
/-- d[k] = v of a dict of the def's own making -/
theorem dputs {H H0 : Hp} {F : Addr} {kvs kvs' : List (Key × V)} {k : Str} {v : V} {G : Hp → Prop} (h : H F = some (.dK kvs)) (hl : kvs.length < 1000) (e : Ev [] H0 H) (n : H0 F = none) (hp : putK kvs (.inr k) v = kvs')
    (q : ∀ H', Ev [] H0 H' → H' F = some (.dK kvs') → (∀ a o, H a = some o → o ≠ .dK kvs → H' a = some o) → G H') : ∃ a H4, V.ref F = .ref a ∧ DPut H a (.str k) v H4 ∧ G H4 :=
  ⟨F, _, rfl, DPut.k (k := Sum.inr k) h (line_of (by omega)), q _ (e.put n) (by rw [upd_same, hp]) fun a o ha ho => by rw [upd_ne (fun z => by subst z; rw [h] at ha; cases ha; exact ho rfl)]; exact ha⟩
theorem dputs2 {H H0 : Hp} {F : Addr} {kvs kvs' : List (Key × V)} {k : Str} {v : V} {G : Hp → Prop} (h : H F = some (.dK kvs)) (hl : kvs.length < 1000) (e : Ev [] H0 H) (n : H0 F = none) (hp : putK kvs (.inr k) v = kvs')
    (q : ∀ H', Ev [] H0 H' → H' F = some (.dK kvs') → (∀ a o, H a = some o → o ≠ .dK kvs → H' a = some o) → G H') : ∃ H4, DPut H F (.str k) v H4 ∧ G H4 := by
  obtain ⟨a, H4, ea, r⟩ := dputs (G := G) h hl e n hp q
  cases ea
  exact ⟨H4, r⟩
def MCut (q q' : Pl) (s e st : Option Int) : Prop := q'.c = q.c ∧ q'.kd = q.kd ∧ q'.wd = q.wd ∧ q'.fx = q.fx ∧ q'.n = (cutMany s e st q.n).toNat ∧ q'.s = q.s * st.getD 1 ∧ q'.pl = q.pl + q.s * ((cutPl s e st q.n ++ [0]).getD 0 0)
def spLWCut : Sp := fun vs H Q _ => ∃ (d t : Addr) (p : Pl) (s e st : Option Int), vs = [.ref d, .ref t] ∧ ModAt H d p ∧ H t = some (.tup [vo s, vo e, vo st]) ∧ StepOk st ∧ p.n < 1000 ∧ p.s.natAbs < 2 ^ 400 ∧
  ∀ H' d' p', Ev [] H H' → ModAt H' d' p' → MCut p p' s e st → Q (.ref d') H'
theorem ok_l_w_cut (h : MgOk w.params mg) : FnOk P w (K w.params) mg base CX0 2 af_l_w_cut fdf_l_w_cut ["_law_m", "_law_cut_here"] spLWCut := by
  refine Fun.ok (sp := spLWCut) (Ff_l_w_cut w.params) scf_l_w_cut (fun vs H Q E hs => by first | (obtain ⟨rfl, _⟩ := hs; rfl) | (obtain ⟨_, rfl, _⟩ := hs; rfl) | (obtain ⟨_, _, rfl, _⟩ := hs; rfl) | (obtain ⟨_, _, _, rfl, _⟩ := hs; rfl) | (obtain ⟨_, _, _, _, rfl, _⟩ := hs; rfl) | (obtain ⟨_, _, _, _, _, rfl, _⟩ := hs; rfl) | (obtain ⟨_, _, _, _, _, _, rfl, _⟩ := hs; rfl) | (obtain ⟨_, _, _, _, _, _, _, rfl, _⟩ := hs; rfl) | (obtain ⟨_, _, _, _, _, _, _, _, rfl, _⟩ := hs; rfl) | (obtain ⟨_, _, _, _, _, _, _, _, _, rfl, _⟩ := hs; rfl) | (obtain ⟨_, _, _, _, _, _, _, _, _, _, rfl, _⟩ := hs; rfl) | (obtain ⟨_, _, _, _, _, _, _, _, _, _, _, rfl, _⟩ := hs; rfl) | (obtain ⟨_, _, _, _, _, _, _, _, _, _, _, _, rfl, _⟩ := hs; rfl) | (obtain ⟨_, _, _, _, _, _, _, _, _, _, _, _, _, rfl, _⟩ := hs; rfl) | (obtain ⟨_, _, _, _, _, _, _, _, _, _, _, _, _, _, rfl, _⟩ := hs; rfl) | (obtain ⟨_, _, _, _, _, _, _, _, _, _, _, _, _, _, _, rfl, _⟩ := hs; rfl) | (obtain ⟨_, _, _, _, _, _, _, _, _, _, _, _, _, _, _, _, rfl, _⟩ := hs; rfl) | (obtain ⟨_, _, _, _, _, _, _, _, _, _, _, _, _, _, _, _, _, rfl, _⟩ := hs; rfl) | (obtain ⟨_, _, _, _, _, _, _, _, _, _, _, _, _, _, _, _, _, _, rfl, _⟩ := hs; rfl) | (obtain ⟨_, _, _, _, _, _, _, _, _, _, _, _, _, _, _, _, _, _, _, rfl, _⟩ := hs; rfl) | (obtain ⟨_, _, _, _, _, _, _, _, _, _, _, _, _, _, _, _, _, _, _, _, rfl, _⟩ := hs; rfl) | (obtain ⟨_, _, _, _, _, _, _, _, _, _, _, _, _, _, _, _, _, _, _, _, _, rfl, _⟩ := hs; rfl)) (fun cdv A outer s H vs Q E hr hq => ?_)
  obtain ⟨d, t, p, s0, e0, st, rfl, hd, ht, hst, hn, hs, q⟩ := hq
  have hu := hu_of hr
  refine ⟨_, (pss_cons (ps_par (i := 2) (j := 3) (by rfl) scf_l_w_cut.nd rfl rfl (by decide) rfl rfl (pa_cons (pe_call (ok_l_cut_of h) (hr.mono (by decide)) (by rfl) (gf_l_cut_of h) (Ff_l_cut_of w.params).kp (bf_l_cut_of w.params) .nil pass0 (pa_cons (pv 1) (pa_cons (pe_ix ix_tup (pe_dget hu (pv 0) pe_str (fun _ _ => rfl)) pe_int (fun _ _ => rfl)) pa_nil))) (pa_cons (pe_ifExp (pt_cmpR op_isN (pe_ix ix_tup (pv 1) pe_int (fun _ _ => rfl)) pe_non (nomark _)) pe_int (pe_ix ix_tup (pv 1) pe_int (fun _ _ => rfl))) pa_nil)) (by rfl))
      (pss_cons (ps_set (i := 4) scf_l_w_cut.nd rfl (Or.inl rfl) (pe_callTy call_dictD (by rfl) (n_dict h) (by decide +kernel) (pa_cons (pv 0) pa_nil)))
      (pss_cons (ps_dput hu (pv 4) pe_str (pe_op op_add (pe_dget hu (pv 0) pe_str (fun _ _ => rfl)) (pe_op op_mulW (pe_ix ix_tup (pe_dget hu (pv 0) pe_str (fun _ _ => rfl)) pe_int (fun _ _ => rfl)) (pe_ix ix_list (pe_op op_cat (pv 2) (pe_lst (pa_cons pe_int pa_nil))) pe_int (fun _ _ => rfl)))) rfl)
      (pss_cons (ps_dput hu (pv 4) pe_str (pe_op op_catA (pe_tup (pa_cons (pe_callB call_len (by rfl) (n_len h) (by decide +kernel) (pa_cons (pv 2) pa_nil)) pa_nil)) (pe_slice sl_tupA (pe_dget hu (pv 0) pe_str (fun _ _ => rfl)) (po_some pe_int) po_none)) rfl)
      (pss_cons (ps_dput hu (pv 4) pe_str (pe_op op_catA (pe_tup (pa_cons (pe_op op_mulW (pe_ix ix_tup (pe_dget hu (pv 0) pe_str (fun _ _ => rfl)) pe_int (fun _ _ => rfl)) (pv 3)) pa_nil)) (pe_slice sl_tupA (pe_dget hu (pv 0) pe_str (fun _ _ => rfl)) (po_some pe_int) po_none)) rfl)
      (pss_one (ps_ret (pv 4)))))))), ?_⟩
  rw [stf_l_w_cut]
  refine freeze fun R2 hR2 => ?_
  try walk_at "rd"
  refine ⟨_, hd.shape, p.sz, _, 0, _, rfl, rfl, SqT.of hd.2.1, rfl, t, s0, e0, st, p.n, rfl, ht, hst, hn, fun H1 L e1 nL hL => ?_⟩
  have ht1 := e1.tup ht
  have tail : R2 { nx := fun x H' => Q V.non H', rt := Q } [some (V.ref d), some (V.ref t), some (V.ref L), some (V.int (st.getD 1)), none] H1 := by
    have hd1 := hd.ev e1
    subst hR2
    refine freeze fun R3 hR3 => ?_
    try walk_at "rd"
    refine ⟨_, .inl hd1.1, fun F nF => ?_⟩
    obtain ⟨H2, H2_eq, e2, hF⟩ := newq (.dK [(.inr "cells", .ref p.c), (.inr "kind", .str p.kd), (.inr "width", .int p.wd), (.inr "shape", .ref p.sz), (.inr "steps", .ref p.st), (.inr "place", .int p.pl), (.inr "fixed", .bl p.fx)]) nF
    rw [← H2_eq]
    clear H2_eq
    have hd2 := hd1.ev e2
    have hL2 := e2.lst hL
    subst hR3
    refine freeze fun R4 hR4 => ?_
    try walk_at "rd"
    have hx0 : (0 : Int) ≤ (cutPl s0 e0 st p.n ++ [0]).getD 0 0 ∧ (cutPl s0 e0 st p.n ++ [0]).getD 0 0 < 1000 := by
      have := cutPl_mem (s := s0) (e := e0) (n := p.n) (by omega) hst
      cases hc : cutPl s0 e0 st p.n with
      | nil => exact ⟨by decide, by decide⟩
      | cons x xs =>
        have := this x (by rw [hc]; simp)
        show 0 ≤ x ∧ x < 1000
        omega
    refine ⟨_, rfl, d, _, rfl, hd2.place, _, rfl, d, _, rfl, hd2.steps, p.st, _, 0, _, rfl, rfl, SqT.of hd2.2.2, rfl, _, rfl, by simp [sizeLine], fun z nz => ?_⟩
    obtain ⟨H3, H3_eq, e3, hz⟩ := newq (.lst [V.int 0]) nz
    rw [← H3_eq]
    clear H3_eq
    have hL3 := e3.lst hL2
    have cm := cutMany_le (s := s0) (e := e0) (n := p.n) (by omega) hst
    refine ⟨L, z, _, _, rfl, rfl, hL3, hz, ?_, fun y ny => ?_⟩
    · simp [cutPl]; exact Nat.le_of_lt (line_of (by omega))
    obtain ⟨H4, H4_eq, e4, hy⟩ := newq (.lst ((cutPl s0 e0 st p.n).map V.int ++ [V.int 0])) ny
    rw [← H4_eq]
    clear H4_eq
    have at0 : atI ((cutPl s0 e0 st p.n).map V.int ++ [V.int 0]) 0 = some (.int ((cutPl s0 e0 st p.n ++ [0]).getD 0 0)) := by
      cases cutPl s0 e0 st p.n with
      | nil => rfl
      | cons => exact atI_nat (j := 0) rfl
    generalize hxe : (cutPl s0 e0 st p.n ++ [0]).getD 0 0 = x0 at hx0 at0
    refine ⟨y, _, 0, _, rfl, rfl, SqL.of hy, at0, ?_⟩
    have e14 := (e2.trans e3).trans e4
    have hd4 := hd1.ev e14
    refine ⟨_, _, rfl, rfl, wide_mul (a := 400) (b := 20) hs (by omega) (by decide) (by decide) (by decide), _, _, rfl, rfl, _, rfl, ?_⟩
    refine dputs ((e3.trans e4).dK hF) (by simp) e14 nF (kvs' := [(.inr "cells", .ref p.c), (.inr "kind", .str p.kd), (.inr "width", .int p.wd), (.inr "shape", .ref p.sz), (.inr "steps", .ref p.st), (.inr "place", .int (p.pl + p.s * x0)), (.inr "fixed", .bl p.fx)]) (by rfl) fun H5 e5 hF5 old5 => ?_
    have hd5 := hd1.ev e5
    have hL5 := e5.lst hL
    subst hR4
    dsimp only
    refine freeze fun R5 hR5 => ?_
    refine ⟨_, rfl, _, _, rfl, .inl ⟨_, SqL.of hL5, rfl⟩, by simp [sizeLine], fun z1 nz1 => ?_⟩
    obtain ⟨H6, H6_eq, e6, h6⟩ := newq (.tup [V.int ((cutPl s0 e0 st p.n).map V.int).length]) nz1
    rw [← H6_eq]
    clear H6_eq
    have hd6 := hd5.ev e6
    refine ⟨_, rfl, d, _, rfl, hd6.shape, 1, rfl, ?_⟩
    try walk_at "rd"
    refine sl1 hd6.2.1 fun z2 H7 e7 h7 => ?_
    refine cat1 (e7.tup h6) h7 ?_
    try walk_at "rd"
    have e17 := e5.trans (e6.trans e7)
    refine dputs2 ((e6.trans e7).dK hF5) (by simp) e17 nF (kvs' := [(.inr "cells", .ref p.c), (.inr "kind", .str p.kd), (.inr "width", .int p.wd), (.inr "shape", .ref z1), (.inr "steps", .ref p.st), (.inr "place", .int (p.pl + p.s * x0)), (.inr "fixed", .bl p.fx)]) (by rfl) fun H8 e8 hF8 old8 => ?_
    have hz8 := old8 _ _ (e7.tup h6) (by intro z; cases z)
    have hd8 := hd1.ev e8
    subst hR5
    refine freeze fun R6 hR6 => ?_
    refine ⟨_, rfl, d, _, rfl, hd8.steps, p.st, _, 0, _, rfl, rfl, SqT.of hd8.2.2, rfl, _, rfl, _, _, rfl, rfl, wide_mul (a := 400) (b := 70) hs hst.lt (by decide) (by decide) (by decide), by simp [sizeLine], fun w1 nw1 => ?_⟩
    obtain ⟨H9, H9_eq, e9, h9⟩ := newq (.tup [V.int (p.s * st.getD 1)]) nw1
    rw [← H9_eq]
    clear H9_eq
    have hd9 := hd8.ev e9
    refine ⟨_, rfl, d, _, rfl, hd9.steps, 1, rfl, ?_⟩
    try walk_at "rd"
    refine sl1 hd9.2.2 fun w2 H10 e10 h10 => ?_
    refine cat1 (e10.tup h9) h10 ?_
    try walk_at "rd"
    have e110 := e8.trans (e9.trans e10)
    refine dputs2 ((e9.trans e10).dK hF8) (by simp) e110 nF (kvs' := [(.inr "cells", .ref p.c), (.inr "kind", .str p.kd), (.inr "width", .int p.wd), (.inr "shape", .ref z1), (.inr "steps", .ref w1), (.inr "place", .int (p.pl + p.s * x0)), (.inr "fixed", .bl p.fx)]) (by rfl) fun H11 e11 hF11 old11 => ?_
    have hz11 := old11 _ _ ((e9.trans e10).tup hz8) (by intro z; cases z)
    have hw11 := old11 _ _ (e10.tup h9) (by intro z; cases z)
    subst hR6
    refine ⟨_, rfl, q _ F { p with pl := p.pl + p.s * x0, sz := z1, st := w1, n := (cutMany s0 e0 st p.n).toNat, s := p.s * st.getD 1 } (e1.trans e11) ⟨hF11, ?_, hw11⟩ ⟨rfl, rfl, rfl, rfl, rfl, rfl, by rw [hxe]⟩⟩
    rw [hz11, List.length_map, cutPl_len]
  cases st with
  | none =>
    refine ⟨t, _, 2, _, rfl, rfl, SqT.of ht1, rfl, ?_⟩
    dsimp only
    rw [if_pos (show vo none = V.non from rfl)]
    exact tail
  | some k =>
    refine ⟨t, _, 2, _, rfl, rfl, SqT.of ht1, rfl, ?_⟩
    dsimp only
    rw [if_neg (show ¬ vo (some k) = V.non from fun z => by cases z)]
    refine ⟨t, _, 2, _, rfl, rfl, SqT.of ht1, rfl, ?_⟩
    exact tail
end VL
end
section
set_option linter.all false
set_option maxRecDepth 100000
set_option maxHeartbeats 1000000
namespace VL
open PySem PySem.Spec PyProof.Rows L2 RZ
local macro_rules | `(tactic| walk_at "rd") => `(tactic| (simp only [tVar, tC, tOp, tUn, tTest, tB, tAnd, tOr, tNot, tAndV, tOrV, tNotV, tIf, tIfS, tSeq, tAsg, gName, tRet, tRetN, tDrop, tNext, rI, rI0, rU, rEq, rNe, scal, tCons, tNil, tCB, t2I, tChain, tCall, tMeth, tPar, tPar3, tFld, tTup, tLst, iTup, iList, iRng1, tPart, tNoPart, tBM, tBM0, tMake, tDGet, cxK, noxK, L2.wipe,
  List.append_nil, List.nil_append, List.cons_append, List.map_cons, List.map_nil, List.getElem?_cons_zero, List.getElem?_cons_succ, List.getElem?_nil, List.set_cons_zero, List.set_cons_succ, Option.some.injEq, V.int.injEq, V.bl.injEq, V.str.injEq, V.ref.injEq, exists_and_left, exists_eq_left', exists_eq_left, true_and, and_true, List.cons.injEq, if_true, if_false, Bool.false_eq_true, Bool.not_true, Bool.not_false, decide_eq_true_eq, and_assoc]))
variable {P : Program} {w : World} {mg : Str → Option Value} {base : Heap}
def grp : List (Int × Str) := [(1, "xcbB?sp"), (2, "hHe"), (4, "iIf"), (8, "qQd"), (8, "lL"), (8, "nNP")]
/-- the dict behind a text's first codes -/
def kvC (kvs : List (Key × V)) (z : Int) (cs : List Nat) : List (Key × V) := cs.foldl (fun kvs c => putK kvs (.inr ⟨#[c]⟩) (.int z)) kvs
def kvG (gs : List (Int × Str)) : List (Key × V) := gs.foldl (fun kvs g => kvC kvs g.1 g.2.cps.toList) []
theorem kvC_snoc {kvs : List (Key × V)} {z : Int} {cs : List Nat} {c : Nat} : kvC kvs z (cs ++ [c]) = putK (kvC kvs z cs) (.inr ⟨#[c]⟩) (.int z) := by simp [kvC]
theorem kvG_snoc {gs : List (Int × Str)} {g : Int × Str} : kvG (gs ++ [g]) = kvC (kvG gs) g.1 g.2.cps.toList := by simp [kvG]
theorem kvC_length {kvs : List (Key × V)} {z : Int} {cs : List Nat} : (kvC kvs z cs).length ≤ kvs.length + cs.length := by
  induction cs generalizing kvs with
  | nil => simp [kvC]
  | cons c cs ih =>
    have h1 := length_putK kvs (.inr ⟨#[c]⟩) (.int z)
    have h2 := ih (kvs := putK kvs (.inr ⟨#[c]⟩) (.int z))
    simp only [kvC, List.foldl_cons, List.length_cons] at h2 ⊢
    omega
theorem kvG_length {gs : List (Int × Str)} (h : ∀ g ∈ gs, g.2.cps.toList.length ≤ 7) : (kvG gs).length ≤ 7 * gs.length := by
  have gen : ∀ (gs : List (Int × Str)) (kvs : List (Key × V)), (∀ g ∈ gs, g.2.cps.toList.length ≤ 7) → (gs.foldl (fun kvs g => kvC kvs g.1 g.2.cps.toList) kvs).length ≤ kvs.length + 7 * gs.length := by
    intro gs
    induction gs with
    | nil => intro kvs _; simp
    | cons g gs ih =>
      intro kvs h
      have h1 := ih (kvC kvs g.1 g.2.cps.toList) (fun x hx => h x (by simp [hx]))
      have h2 := kvC_length (kvs := kvs) (z := g.1) (cs := g.2.cps.toList)
      have h3 := h g (by simp)
      simp only [List.foldl_cons, List.length_cons]
      omega
  simpa [kvG] using gen gs [] h
theorem grp7 : ∀ g ∈ grp, g.2.cps.toList.length ≤ 7 := by decide +kernel
theorem kvG_val : ∀ k : KK, valV (kvG grp) (.inr k.str) = some (.int k.wd) := fun k => by cases k <;> rfl
/-- the groups as tuples -/
def GrpAt (H : Hp) (ts : List Addr) (gs : List (Int × Str)) : Prop := ts.length = gs.length ∧ ∀ (i : Nat) (t : Addr) (g : Int × Str), ts[i]? = some t → gs[i]? = some g → H t = some (.tup [.int g.1, .str g.2])
theorem dputs3 {H H0 : Hp} {F : Addr} {kvs kvs' : List (Key × V)} {k : Str} {v : V} {G : Hp → Prop} (h : H F = some (.dK kvs)) (hl : kvs.length < 1000) (e : Ev [] H0 H) (n : H0 F = none) (hp : putK kvs (.inr k) v = kvs')
    (q : ∀ H', Ev [] H0 H' → H' F = some (.dK kvs') → (∀ a o, H a = some o → a ≠ F → H' a = some o) → G H') : ∃ a H4, V.ref F = .ref a ∧ DPut H a (.str k) v H4 ∧ G H4 :=
  ⟨F, _, rfl, DPut.k (k := Sum.inr k) h (line_of (by omega)), q _ (e.put n) (by rw [upd_same, hp]) fun a o ha ho => by rw [upd_ne ho]; exact ha⟩
def spVSizes : Sp := fun vs H Q _ => vs = [.str ""] ∧ ∀ H' d kvs, Ev [] H H' → H' d = some (.dK kvs) → (∀ k : KK, valV kvs (.inr k.str) = some (.int k.wd)) → Q (.ref d) H'
theorem ok_l_v_sizes (h : MgOk w.params mg) : FnOk P w (K w.params) mg base CX0 1 af_l_v_sizes fdf_l_v_sizes ["_law_order"] spVSizes := by
  refine Fun.ok (sp := spVSizes) (Ff_l_v_sizes w.params) scf_l_v_sizes (fun vs H Q E hs => by first | (obtain ⟨rfl, _⟩ := hs; rfl) | (obtain ⟨_, rfl, _⟩ := hs; rfl) | (obtain ⟨_, _, rfl, _⟩ := hs; rfl) | (obtain ⟨_, _, _, rfl, _⟩ := hs; rfl) | (obtain ⟨_, _, _, _, rfl, _⟩ := hs; rfl) | (obtain ⟨_, _, _, _, _, rfl, _⟩ := hs; rfl) | (obtain ⟨_, _, _, _, _, _, rfl, _⟩ := hs; rfl) | (obtain ⟨_, _, _, _, _, _, _, rfl, _⟩ := hs; rfl) | (obtain ⟨_, _, _, _, _, _, _, _, rfl, _⟩ := hs; rfl) | (obtain ⟨_, _, _, _, _, _, _, _, _, rfl, _⟩ := hs; rfl) | (obtain ⟨_, _, _, _, _, _, _, _, _, _, rfl, _⟩ := hs; rfl) | (obtain ⟨_, _, _, _, _, _, _, _, _, _, _, rfl, _⟩ := hs; rfl) | (obtain ⟨_, _, _, _, _, _, _, _, _, _, _, _, rfl, _⟩ := hs; rfl) | (obtain ⟨_, _, _, _, _, _, _, _, _, _, _, _, _, rfl, _⟩ := hs; rfl) | (obtain ⟨_, _, _, _, _, _, _, _, _, _, _, _, _, _, rfl, _⟩ := hs; rfl) | (obtain ⟨_, _, _, _, _, _, _, _, _, _, _, _, _, _, _, rfl, _⟩ := hs; rfl) | (obtain ⟨_, _, _, _, _, _, _, _, _, _, _, _, _, _, _, _, rfl, _⟩ := hs; rfl) | (obtain ⟨_, _, _, _, _, _, _, _, _, _, _, _, _, _, _, _, _, rfl, _⟩ := hs; rfl) | (obtain ⟨_, _, _, _, _, _, _, _, _, _, _, _, _, _, _, _, _, _, rfl, _⟩ := hs; rfl) | (obtain ⟨_, _, _, _, _, _, _, _, _, _, _, _, _, _, _, _, _, _, _, rfl, _⟩ := hs; rfl) | (obtain ⟨_, _, _, _, _, _, _, _, _, _, _, _, _, _, _, _, _, _, _, _, rfl, _⟩ := hs; rfl) | (obtain ⟨_, _, _, _, _, _, _, _, _, _, _, _, _, _, _, _, _, _, _, _, _, rfl, _⟩ := hs; rfl)) (fun cdv A outer s H vs Q E hr hq => ?_)
  obtain ⟨rfl, q⟩ := hq
  have hu := hu_of hr
  refine ⟨_, (pss_cons (ps_par (i := 1) (j := 2) (by rfl) scf_l_v_sizes.nd rfl rfl (by decide) rfl rfl (pa_cons (pe_cmpR op_in_seq (pv 0) (pe_tup (pa_cons pe_str (pa_cons pe_str pa_nil))) (by rfl)) (pa_cons pe_dnewK pa_nil)) (by rfl))
      (pss_cons (ps_set (i := 3) scf_l_v_sizes.nd rfl (Or.inl rfl) (pe_lst (pa_cons (pe_tup (pa_cons pe_int (pa_cons pe_str pa_nil))) (pa_cons (pe_tup (pa_cons pe_int (pa_cons pe_str pa_nil))) (pa_cons (pe_tup (pa_cons pe_int (pa_cons pe_str pa_nil))) (pa_cons (pe_tup (pa_cons pe_int (pa_cons pe_str pa_nil))) (pa_cons (pe_tup (pa_cons (pe_ix ix_list (pe_lst (pa_cons pe_int (pa_cons pe_int pa_nil))) (pe_callTy call_int1 (by rfl) (n_int h) (by decide +kernel) (pa_cons (pv 1) pa_nil)) (fun _ _ => rfl)) (pa_cons pe_str pa_nil))) pa_nil)))))))
      (pss_cons (ps_for PassesOwn.never rfl (pi_list (pe_op op_cat (pv 3) (pe_op op_rep (pe_lst (pa_cons (pe_tup (pa_cons pe_int (pa_cons pe_str pa_nil))) pa_nil)) (pe_callTy call_int1 (by rfl) (n_int h) (by decide +kernel) (pa_cons (pv 1) pa_nil))))) (pg_tup rfl (pgs_cons (pg_name (i := 4) scf_l_v_sizes.nd rfl (Or.inl rfl)) (pgs_cons (pg_name (i := 5) scf_l_v_sizes.nd rfl (Or.inl rfl)) pgs_nil))) (pss_one (ps_for PassesOwn.never rfl (pi_str (pv 5)) (pg_name (i := 6) scf_l_v_sizes.nd rfl (Or.inl rfl)) (pss_one (ps_dput hu (pv 2) (pv 6) (pv 4) rfl)))))
      (pss_one (ps_ret (pv 2)))))), ?_⟩
  rw [stf_l_v_sizes]
  refine freeze fun R2 hR2 => ?_
  try walk_at "rd"
  refine ⟨by simp [sizeLine], fun p np => ?_⟩
  obtain ⟨H1, H1_eq, e1, h1⟩ := newq (.tup [V.str "", V.str "@"]) np
  rw [← H1_eq]
  clear H1_eq
  refine ⟨p, _, rfl, .inr (SqT.of h1), rfl, rfl, ?_⟩
  rw [show inV (V.str "") [V.str "", V.str "@"] = true by decide +kernel]
  subst hR2
  intro d nd
  obtain ⟨H2, H2_eq, e2, hd⟩ := newq (.dK []) nd
  rw [← H2_eq]
  clear H2_eq
  refine freeze fun R3 hR3 => ?_
  have n0 : H d = none := e1.free nd
  refine ⟨by simp [sizeLine], fun t1 n1 => ?_⟩
  obtain ⟨H3, H3_eq, e3, h1⟩ := newq (.tup [V.int 1, V.str "xcbB?sp"]) n1
  rw [← H3_eq]
  clear H3_eq
  refine ⟨by simp [sizeLine], fun t2 n2 => ?_⟩
  obtain ⟨H4, H4_eq, e4, h2⟩ := newq (.tup [V.int 2, V.str "hHe"]) n2
  rw [← H4_eq]
  clear H4_eq
  refine ⟨by simp [sizeLine], fun t3 n3 => ?_⟩
  obtain ⟨H5, H5_eq, e5, h3⟩ := newq (.tup [V.int 4, V.str "iIf"]) n3
  rw [← H5_eq]
  clear H5_eq
  refine ⟨by simp [sizeLine], fun t4 n4 => ?_⟩
  obtain ⟨H6, H6_eq, e6, h4⟩ := newq (.tup [V.int 8, V.str "qQd"]) n4
  rw [← H6_eq]
  clear H6_eq
  refine ⟨by simp [sizeLine], fun l1 nl1 => ?_⟩
  obtain ⟨H7, H7_eq, e7, hl1⟩ := newq (.lst [V.int 4, V.int 8]) nl1
  rw [← H7_eq]
  clear H7_eq
  refine ⟨_, rfl, .inr ⟨_, rfl, l1, _, 1, _, rfl, rfl, SqL.of hl1, rfl, ?_⟩⟩
  refine ⟨by simp [sizeLine], fun t5 n5 => ?_⟩
  obtain ⟨H8, H8_eq, e8, h5⟩ := newq (.tup [V.int 8, V.str "lL"]) n5
  rw [← H8_eq]
  clear H8_eq
  refine ⟨by simp [sizeLine], fun l2 nl2 => ?_⟩
  obtain ⟨H9, H9_eq, e9, hl2⟩ := newq (.lst [V.ref t1, V.ref t2, V.ref t3, V.ref t4, V.ref t5]) nl2
  rw [← H9_eq]
  clear H9_eq
  subst hR3
  dsimp only
  refine freeze fun R4 hR4 => ?_
  refine ⟨_, rfl, ?_⟩
  refine ⟨by simp [sizeLine], fun t6 n6 => ?_⟩
  obtain ⟨H10, H10_eq, e10, h6⟩ := newq (.tup [V.int 8, V.str "nNP"]) n6
  rw [← H10_eq]
  clear H10_eq
  refine ⟨by simp [sizeLine], fun l3 nl3 => ?_⟩
  obtain ⟨H11, H11_eq, e11, hl3⟩ := newq (.lst [V.ref t6]) nl3
  rw [← H11_eq]
  clear H11_eq
  refine ⟨_, rfl, .inr ⟨_, rfl, l3, 1, _, rfl, rfl, hl3, by decide, by decide, by simp [sizeLine], fun l4 nl4 => ?_⟩⟩
  rw [show (List.replicate (Int.toNat 1) [V.ref t6]).flatten = [V.ref t6] from rfl]
  obtain ⟨H12, H12_eq, e12, hl4⟩ := newq (.lst [V.ref t6]) nl4
  rw [← H12_eq]
  clear H12_eq
  refine ⟨l2, l4, _, _, rfl, rfl, (e10.trans (e11.trans e12)).lst hl2, hl4, by simp [sizeLine], fun l5 nl5 => ?_⟩
  obtain ⟨H13, H13_eq, e13, hl5⟩ := newq (.lst ([V.ref t1, V.ref t2, V.ref t3, V.ref t4, V.ref t5] ++ [V.ref t6])) nl5
  rw [← H13_eq]
  clear H13_eq
  have f13 := e10.trans (e11.trans (e12.trans e13))
  have f9 := e9.trans f13
  have f8 := e8.trans f9
  have f7 := e7.trans f8
  have f6 := e6.trans f7
  have f5 := e5.trans f6
  have f4 := e4.trans f5
  have f3 := e3.trans f4
  have hd13 := f3.dK hd
  have hg : GrpAt H13 [t1, t2, t3, t4, t5, t6] grp := by
    refine ⟨rfl, fun i t g g1 g2 => ?_⟩
    have hi : i < 6 := (List.getElem?_eq_some_iff.mp g1).1
    have : i = 0 ∨ i = 1 ∨ i = 2 ∨ i = 3 ∨ i = 4 ∨ i = 5 := by omega
    rcases this with rfl | rfl | rfl | rfl | rfl | rfl
    · cases g1; cases g2; exact f4.tup h1
    · cases g1; cases g2; exact f5.tup h2
    · cases g1; cases g2; exact f6.tup h3
    · cases g1; cases g2; exact f7.tup h4
    · cases g1; cases g2; exact f9.tup h5
    · cases g1; cases g2; exact (e11.trans (e12.trans e13)).tup h6
  have e013 := (e1.trans e2).trans f3
  clear e3 e4 e5 e6 e7 e8 e9 e10 e11 e12 e13 f13 f9 f8 f7 f6 f5 f4 f3
  refine ⟨l5, rfl, ⟨_, SqL.of hl5⟩, ?_⟩
  have hl5 : H13 l5 = some (.lst ([t1, t2, t3, t4, t5, t6].map V.ref)) := hl5
  generalize [t1, t2, t3, t4, t5, t6] = ts at hg hl5
  clear h1 h2 h3 h4 h5 h6 hl1 hl2 hl3 hl4
  have l5d : l5 ≠ d := ne_of hl5 hd13 (by intro z; cases z)
  refine for_it (walk_list (xs := ts.map V.ref)) (fun i σ H' => Ev [] H H' ∧ (∀ a o, H13 a = some o → a ≠ d → H' a = some o) ∧ H' d = some (.dK (kvG (grp.take i))) ∧ ∃ x y z, σ = [some (V.str ""), some (V.bl true), some (V.ref d), some (V.ref l2), x, y, z])
    ⟨e013, fun _ _ h _ => h, hd13, _, _, _, rfl⟩ (fun i σ H' _ p => SqL.of (p.2.1 _ _ hl5 l5d)) (fun i x σ H' H'' hi p y => ?_) (fun σ H' p => ?_)
  · obtain ⟨rfl, hx⟩ := y
    obtain ⟨e, old, hd, x1, y1, z1, rfl⟩ := p
    rw [List.getElem?_map] at hx
    obtain ⟨ti, hti, rfl⟩ := Option.map_eq_some_iff.mp hx
    have hi' : i < grp.length := by rw [← hg.1]; simpa using hi
    have hgi := List.getElem?_eq_getElem hi'
    have ht := hg.2 i ti _ hti hgi
    have hmem : grp[i] ∈ grp := List.getElem_mem hi'
    generalize grp[i] = g at hgi ht hmem
    have h7 := grp7 g hmem
    refine gTup2 (old _ _ ht (ne_of ht hd13 (by intro z; cases z))) ?_
    have hi6 : i < 6 := hi'
    have lk : (kvG (grp.take i)).length ≤ 50 := by
      have := kvG_length (gs := grp.take i) (fun g hg => grp7 g (List.mem_of_mem_take hg))
      rw [List.length_take] at this
      omega
    refine ⟨_, rfl, _, rfl, ?_⟩
    refine for_it walk_str (fun j σ H' => Ev [] H H' ∧ (∀ a o, H13 a = some o → a ≠ d → H' a = some o) ∧ H' d = some (.dK (kvC (kvG (grp.take i)) g.1 (g.2.cps.toList.take j))) ∧ ∃ z, σ = [some (V.str ""), some (V.bl true), some (V.ref d), some (V.ref l2), some (V.int g.1), some (V.str g.2), z])
      ⟨e, old, hd, _, rfl⟩ (fun _ _ _ _ _ => trivial) (fun j x σ H1 H2 hj p y => ?_) (fun σ H1 p => ?_)
    · obtain ⟨rfl, c, hc, rfl⟩ := y
      obtain ⟨e, old, hd, z1, rfl⟩ := p
      have hc' : g.2.cps.toList[j]? = some c := by rw [Array.getElem?_toList]; exact hc
      refine ⟨_, rfl, _, rfl, _, rfl, ?_⟩
      refine dputs3 hd ?_ e n0 (kvs' := kvC (kvG (grp.take i)) g.1 (g.2.cps.toList.take (j + 1))) ?_ fun H3 e3 hd3 old3 => ⟨e3, ?_, hd3, _, rfl⟩
      · have := kvC_length (kvs := kvG (grp.take i)) (z := g.1) (cs := g.2.cps.toList.take j)
        rw [List.length_take] at this
        omega
      · rw [List.take_succ, hc', Option.toList_some, kvC_snoc]
      · intro a o ha hne
        exact old3 _ _ (old a o ha hne) hne
    · obtain ⟨e, old, hd, z1, rfl⟩ := p
      refine ⟨e, old, ?_, _, _, _, rfl⟩
      have tk : g.2.cps.toList.take g.2.cps.size = g.2.cps.toList := List.take_of_length_le (by simp)
      rw [hd, tk, List.take_succ, hgi, Option.toList_some, kvG_snoc]
  · obtain ⟨e, old, hd, x1, y1, z1, rfl⟩ := p
    subst hR4
    refine ⟨_, rfl, q _ d _ e hd ?_⟩
    rw [List.take_of_length_le (by rw [List.length_map, hg.1]; exact Nat.le_refl _)]
    exact kvG_val
theorem KK.sl_1 (k : KK) : L2.cutS k.str (some (-1)) none = k.str := by cases k <;> decide +kernel
def numS : List Int → Int
  | [] => 0
  | x :: xs => x + 256 * numS xs
theorem natNum_rev (d : List Int) : natNum d.reverse = numS d := by
  induction d with
  | nil => rfl
  | cons x xs ih =>
    unfold natNum at ih ⊢
    rw [List.reverse_cons, List.foldl_append, ih]
    simp only [List.foldl_cons, List.foldl_nil, numS]
    omega
theorem sum_mul {α : Type} (c : Int) (f : α → Int) (l : List α) : (l.map fun k => c * f k).sum = c * (l.map f).sum := by
  induction l with
  | nil => simp
  | cons x xs ih => simp only [List.map_cons, List.sum_cons, ih, Int.mul_add]
theorem num_sum (d : List Int) : ((List.range d.length).map fun k => d.getD k 0 * 2 ^ (8 * k)).sum = numS d := by
  induction d with
  | nil => rfl
  | cons x xs ih =>
    rw [List.length_cons, List.range_succ_eq_map, List.map_cons, List.sum_cons, List.map_map]
    have e : ((fun k => (x :: xs).getD k 0 * 2 ^ (8 * k)) ∘ Nat.succ) = fun k => 256 * (xs.getD k 0 * 2 ^ (8 * k)) := by
      funext k
      show (x :: xs).getD (k + 1) 0 * 2 ^ (8 * (k + 1)) = _
      rw [List.getD_cons_succ, Nat.mul_add, Int.pow_add, Int.mul_comm 256, Int.mul_assoc]
      rfl
    rw [e, sum_mul, ih, numS]
    simp
def spLSize : Sp := fun vs H Q _ => ∃ k : KK, vs = [.str k.str] ∧ RetV H Q (.int k.wd)
theorem ok_l_w_size (h : MgOk w.params mg) : FnOk P w (K w.params) mg base CX0 2 af_l_w_size fdf_l_w_size ["_law_kind"] spLSize := by
  refine Fun.ok (sp := spLSize) (Ff_l_w_size w.params) scf_l_w_size (fun vs H Q E hs => by first | (obtain ⟨rfl, _⟩ := hs; rfl) | (obtain ⟨_, rfl, _⟩ := hs; rfl) | (obtain ⟨_, _, rfl, _⟩ := hs; rfl) | (obtain ⟨_, _, _, rfl, _⟩ := hs; rfl) | (obtain ⟨_, _, _, _, rfl, _⟩ := hs; rfl) | (obtain ⟨_, _, _, _, _, rfl, _⟩ := hs; rfl) | (obtain ⟨_, _, _, _, _, _, rfl, _⟩ := hs; rfl) | (obtain ⟨_, _, _, _, _, _, _, rfl, _⟩ := hs; rfl) | (obtain ⟨_, _, _, _, _, _, _, _, rfl, _⟩ := hs; rfl) | (obtain ⟨_, _, _, _, _, _, _, _, _, rfl, _⟩ := hs; rfl) | (obtain ⟨_, _, _, _, _, _, _, _, _, _, rfl, _⟩ := hs; rfl) | (obtain ⟨_, _, _, _, _, _, _, _, _, _, _, rfl, _⟩ := hs; rfl) | (obtain ⟨_, _, _, _, _, _, _, _, _, _, _, _, rfl, _⟩ := hs; rfl) | (obtain ⟨_, _, _, _, _, _, _, _, _, _, _, _, _, rfl, _⟩ := hs; rfl) | (obtain ⟨_, _, _, _, _, _, _, _, _, _, _, _, _, _, rfl, _⟩ := hs; rfl) | (obtain ⟨_, _, _, _, _, _, _, _, _, _, _, _, _, _, _, rfl, _⟩ := hs; rfl) | (obtain ⟨_, _, _, _, _, _, _, _, _, _, _, _, _, _, _, _, rfl, _⟩ := hs; rfl) | (obtain ⟨_, _, _, _, _, _, _, _, _, _, _, _, _, _, _, _, _, rfl, _⟩ := hs; rfl) | (obtain ⟨_, _, _, _, _, _, _, _, _, _, _, _, _, _, _, _, _, _, rfl, _⟩ := hs; rfl) | (obtain ⟨_, _, _, _, _, _, _, _, _, _, _, _, _, _, _, _, _, _, _, rfl, _⟩ := hs; rfl) | (obtain ⟨_, _, _, _, _, _, _, _, _, _, _, _, _, _, _, _, _, _, _, _, rfl, _⟩ := hs; rfl) | (obtain ⟨_, _, _, _, _, _, _, _, _, _, _, _, _, _, _, _, _, _, _, _, _, rfl, _⟩ := hs; rfl)) (fun cdv A outer s H vs Q E hr hq => ?_)
  obtain ⟨k, rfl, q⟩ := hq
  have hu := hu_of hr
  refine ⟨_, (pss_one (ps_ret (pe_dget hu (pe_call (ok_l_v_sizes h) (hr.mono (by decide)) (by rfl) (gf_l_v_sizes h) (Ff_l_v_sizes w.params).kp (bf_l_v_sizes w.params) .nil pass0 (pa_cons pe_str pa_nil)) (pe_slice sl_str (pv 0) (po_some (pe_un un_neg pe_int)) po_none) (fun _ _ => rfl)))), ?_⟩
  rw [stf_l_w_size]
  walk_at "rd"
  refine ⟨rfl, fun H1 d kvs e1 hd hv => ?_⟩
  refine ⟨_, rfl, _, rfl, _, rfl, k.str, rfl, by rw [k.len]; decide, ?_⟩
  rw [show L2.cutS k.str (some (-1)) none = k.str from k.sl_1]
  try walk_at "rd"
  have dg : DGet H1 d (.str k.str) (some (.int k.wd)) := by
    have := DGet.k (k := Sum.inr k.str) hd
    rw [hv k] at this
    exact this
  exact ⟨_, dg, q _ e1⟩
def spVNumber : Sp := fun vs H Q _ => ∃ (a : Addr) (d : List Int), vs = [.ref a, .bl false] ∧ H a = some (.tup (d.map .int)) ∧ d.length ≤ 8 ∧ RetV H Q (.int (natNum d.reverse))
theorem ok_l_v_number (h : MgOk w.params mg) : FnOk P w (K w.params) mg base CX0 1 af_l_v_number fdf_l_v_number ["_law_row", "_law_great"] spVNumber := by
  refine Fun.ok (sp := spVNumber) (Ff_l_v_number w.params) scf_l_v_number (fun vs H Q E hs => by first | (obtain ⟨rfl, _⟩ := hs; rfl) | (obtain ⟨_, rfl, _⟩ := hs; rfl) | (obtain ⟨_, _, rfl, _⟩ := hs; rfl) | (obtain ⟨_, _, _, rfl, _⟩ := hs; rfl) | (obtain ⟨_, _, _, _, rfl, _⟩ := hs; rfl) | (obtain ⟨_, _, _, _, _, rfl, _⟩ := hs; rfl) | (obtain ⟨_, _, _, _, _, _, rfl, _⟩ := hs; rfl) | (obtain ⟨_, _, _, _, _, _, _, rfl, _⟩ := hs; rfl) | (obtain ⟨_, _, _, _, _, _, _, _, rfl, _⟩ := hs; rfl) | (obtain ⟨_, _, _, _, _, _, _, _, _, rfl, _⟩ := hs; rfl) | (obtain ⟨_, _, _, _, _, _, _, _, _, _, rfl, _⟩ := hs; rfl) | (obtain ⟨_, _, _, _, _, _, _, _, _, _, _, rfl, _⟩ := hs; rfl) | (obtain ⟨_, _, _, _, _, _, _, _, _, _, _, _, rfl, _⟩ := hs; rfl) | (obtain ⟨_, _, _, _, _, _, _, _, _, _, _, _, _, rfl, _⟩ := hs; rfl) | (obtain ⟨_, _, _, _, _, _, _, _, _, _, _, _, _, _, rfl, _⟩ := hs; rfl) | (obtain ⟨_, _, _, _, _, _, _, _, _, _, _, _, _, _, _, rfl, _⟩ := hs; rfl) | (obtain ⟨_, _, _, _, _, _, _, _, _, _, _, _, _, _, _, _, rfl, _⟩ := hs; rfl) | (obtain ⟨_, _, _, _, _, _, _, _, _, _, _, _, _, _, _, _, _, rfl, _⟩ := hs; rfl) | (obtain ⟨_, _, _, _, _, _, _, _, _, _, _, _, _, _, _, _, _, _, rfl, _⟩ := hs; rfl) | (obtain ⟨_, _, _, _, _, _, _, _, _, _, _, _, _, _, _, _, _, _, _, rfl, _⟩ := hs; rfl) | (obtain ⟨_, _, _, _, _, _, _, _, _, _, _, _, _, _, _, _, _, _, _, _, rfl, _⟩ := hs; rfl) | (obtain ⟨_, _, _, _, _, _, _, _, _, _, _, _, _, _, _, _, _, _, _, _, _, rfl, _⟩ := hs; rfl)) (fun cdv A outer s H vs Q E hr hq => ?_)
  obtain ⟨a, d, rfl, ha, hl, q⟩ := hq
  refine ⟨_, (pss_one (ps_ret (pe_callB (cr_sum rfl) (by rfl) (n_sum h) (by decide +kernel) (pa_cons (pe_lc (own := [("_law_k", 2), ("_law_byte", 3)]) (g := gTup (K w.params) 2 (gCons (gName 2) (gCons (gName 3) gNil))) (te := (tOp _ (tVar 3) (tOp _ _ (tOp _ _ (tVar 2))))) rfl scf_l_v_number.nd (pi_enumT (by rfl) (n_enumerate h) (pa_cons (pe_ifExp (pt_val (pv 1)) (pe_revT (pv 0)) (pv 0)) pa_nil)) (blkOk_by (N := ["_law_row", "_law_great", "_law_k", "_law_byte"]) (own := [("_law_k", 2), ("_law_byte", 3)]) (sc := defScope sf_l_v_number) (by decide +kernel)) (fun _ _ _ _ _ => by exact (pg_tup rfl (pgs_cons (pg_name (i := 2) scf_l_v_number.nd rfl (Or.inl rfl)) (pgs_cons (pg_name (i := 3) scf_l_v_number.nd rfl (Or.inl rfl)) pgs_nil)))) (fun _ _ _ _ _ => pts_nil) (fun _ _ _ _ _ => (pe_op op_mul (pv 3) (pe_op op_shl pe_int (pe_op op_mul pe_int (pv 2)))))) pa_nil)))), ?_⟩
  rw [stf_l_v_number]
  walk_at "rd"
  refine ⟨_, rfl, _, rfl, iteF ⟨_, rfl, a, _, rfl, SqT.of ha, fun D nD => lc_fn (X := []) (walk_enumT (xs := d.map V.int)) (fun (k : Nat) => .int (d.getD k 0 * 2 ^ (8 * k))) (line_of (by simp; omega)) (Ev.refl _ _) nD (by simp) (fun H e => SqT.of (e.tup ha)) (fun i x H' H'' N hi e y k => ?_) (fun H' e hD => ?_)⟩⟩
  · obtain ⟨T, x, y, rfl, nT, rfl, hx, hy⟩ := y
    cases hx
    replace hy : (d.map V.int)[i]? = some y := hy
    rw [List.getElem?_map] at hy
    obtain ⟨v, hv, rfl⟩ := Option.map_eq_some_iff.mp hy
    have hi' : i < d.length := by simpa using hi
    refine gTup2 upd_same ⟨rfl, ?_⟩
    try walk_at "rd"
    have e8 : (8 * (i : Int)).toNat = 8 * i := by omega
    have p8 : ∀ i : Nat, i < 8 → (0 : Int) ≤ 2 ^ (8 * i) ∧ (2 : Int) ^ (8 * i) < 2 ^ 64 := by decide +kernel
    have := p8 i (by omega)
    rw [e8, Int.one_mul]
    refine ⟨.inl ⟨by decide, by decide⟩, ⟨by omega, by omega, by decide⟩, .inr ⟨by omega, this.2⟩, ?_⟩
    have kk := k _ (Ev.new (o := .tup [V.int i, V.int v]) nT)
    simpa [hv] using kk
  · refine ⟨D, (List.range d.length).map fun k => d.getD k 0 * 2 ^ (8 * k), rfl, SqL.of ?_, ?_⟩
    · rw [hD]; simp
    · rw [num_sum, ← natNum_rev]
      exact q _ e
end VL
end
section
set_option linter.all false
set_option maxRecDepth 100000
set_option maxHeartbeats 1000000
namespace VL
open PySem PySem.Spec PyProof.Rows L2 RZ
local macro_rules | `(tactic| walk_at "rd") => `(tactic| (simp only [tVar, tC, tOp, tUn, tTest, tB, tAnd, tOr, tNot, tAndV, tOrV, tNotV, tIf, tIfS, tSeq, tAsg, gName, tRet, tRetN, tDrop, tNext, rI, rI0, rU, rEq, rNe, scal, tCons, tNil, tCB, t2I, tChain, tCall, tMeth, tPar, tPar3, tFld, tTup, tLst, iTup, iList, iRng1, tPart, tNoPart, tBM, tBM0, tMake, tDGet, cxK, noxK, L2.wipe,
  List.append_nil, List.nil_append, List.cons_append, List.map_cons, List.map_nil, List.getElem?_cons_zero, List.getElem?_cons_succ, List.getElem?_nil, List.set_cons_zero, List.set_cons_succ, Option.some.injEq, V.int.injEq, V.bl.injEq, V.str.injEq, V.ref.injEq, exists_and_left, exists_eq_left', exists_eq_left, true_and, and_true, List.cons.injEq, if_true, if_false, Bool.false_eq_true, Bool.not_true, Bool.not_false, decide_eq_true_eq, and_assoc]))
variable {P : Program} {w : World} {mg : Str → Option Value} {base : Heap}
theorem val_half (k : KK) (d : List Int) (hb : Bs d) (hl : d.length = k.wd) : (natNum d.reverse ≥ 2 ^ (8 * d.length) / 2) ↔ d.getD (d.length - 1) 0 > 127 := by
  rw [natNum_rev, hl]
  have hx : ∀ x ∈ d, 0 ≤ x ∧ x < 256 := hb
  cases k
  all_goals
    simp only [KK.wd] at hl ⊢
  all_goals
    first
    | (match d, hl, hx with
       | [a], _, hx =>
         have h1 := hx a (by simp)
         show a + 256 * 0 ≥ 128 ↔ a > 127
         omega)
    | (match d, hl, hx with
       | [a, b], _, hx =>
         have h1 := hx a (by simp)
         have h2 := hx b (by simp)
         show a + 256 * (b + 256 * 0) ≥ 32768 ↔ b > 127
         omega)
    | (match d, hl, hx with
       | [a, b, c, e], _, hx =>
         have h1 := hx a (by simp)
         have h2 := hx b (by simp)
         have h3 := hx c (by simp)
         have h4 := hx e (by simp)
         show a + 256 * (b + 256 * (c + 256 * (e + 256 * 0))) ≥ 2147483648 ↔ e > 127
         omega)
    | (match d, hl, hx with
       | [a, b, c, e, f, g, i, j], _, hx =>
         have h1 := hx a (by simp)
         have h2 := hx b (by simp)
         have h3 := hx c (by simp)
         have h4 := hx e (by simp)
         have h5 := hx f (by simp)
         have h6 := hx g (by simp)
         have h7 := hx i (by simp)
         have h8 := hx j (by simp)
         show a + 256 * (b + 256 * (c + 256 * (e + 256 * (f + 256 * (g + 256 * (i + 256 * (j + 256 * 0))))))) ≥ 9223372036854775808 ↔ j > 127
         omega)
def spLRead : Sp := fun vs H Q _ => ∃ (k : KK) (a : Addr) (d : List Int), vs = [.str k.str, .ref a, .bl false] ∧ H a = some (.tup (d.map .int)) ∧ Bs d ∧ d.length = k.wd ∧ ∀ H' v, Ev [] H H' → ItemV H' k d v → Q v H'
theorem ok_l_v_read_value (h : MgOk w.params mg) : FnOk P w (K w.params) mg base CX0 2 af_l_v_read_value fdf_l_v_read_value ["_law_code", "_law_row", "_law_great"] spLRead := by
  refine Fun.ok (sp := spLRead) (Ff_l_v_read_value w.params) scf_l_v_read_value (fun vs H Q E hs => by first | (obtain ⟨rfl, _⟩ := hs; rfl) | (obtain ⟨_, rfl, _⟩ := hs; rfl) | (obtain ⟨_, _, rfl, _⟩ := hs; rfl) | (obtain ⟨_, _, _, rfl, _⟩ := hs; rfl) | (obtain ⟨_, _, _, _, rfl, _⟩ := hs; rfl) | (obtain ⟨_, _, _, _, _, rfl, _⟩ := hs; rfl) | (obtain ⟨_, _, _, _, _, _, rfl, _⟩ := hs; rfl) | (obtain ⟨_, _, _, _, _, _, _, rfl, _⟩ := hs; rfl) | (obtain ⟨_, _, _, _, _, _, _, _, rfl, _⟩ := hs; rfl) | (obtain ⟨_, _, _, _, _, _, _, _, _, rfl, _⟩ := hs; rfl) | (obtain ⟨_, _, _, _, _, _, _, _, _, _, rfl, _⟩ := hs; rfl) | (obtain ⟨_, _, _, _, _, _, _, _, _, _, _, rfl, _⟩ := hs; rfl) | (obtain ⟨_, _, _, _, _, _, _, _, _, _, _, _, rfl, _⟩ := hs; rfl) | (obtain ⟨_, _, _, _, _, _, _, _, _, _, _, _, _, rfl, _⟩ := hs; rfl) | (obtain ⟨_, _, _, _, _, _, _, _, _, _, _, _, _, _, rfl, _⟩ := hs; rfl) | (obtain ⟨_, _, _, _, _, _, _, _, _, _, _, _, _, _, _, rfl, _⟩ := hs; rfl) | (obtain ⟨_, _, _, _, _, _, _, _, _, _, _, _, _, _, _, _, rfl, _⟩ := hs; rfl) | (obtain ⟨_, _, _, _, _, _, _, _, _, _, _, _, _, _, _, _, _, rfl, _⟩ := hs; rfl) | (obtain ⟨_, _, _, _, _, _, _, _, _, _, _, _, _, _, _, _, _, _, rfl, _⟩ := hs; rfl) | (obtain ⟨_, _, _, _, _, _, _, _, _, _, _, _, _, _, _, _, _, _, _, rfl, _⟩ := hs; rfl) | (obtain ⟨_, _, _, _, _, _, _, _, _, _, _, _, _, _, _, _, _, _, _, _, rfl, _⟩ := hs; rfl) | (obtain ⟨_, _, _, _, _, _, _, _, _, _, _, _, _, _, _, _, _, _, _, _, _, rfl, _⟩ := hs; rfl)) (fun cdv A outer s H vs Q E hr hq => ?_)
  obtain ⟨k, a, d, rfl, ha, hb, hl, q⟩ := hq
  refine ⟨_, (pss_cons (ps_if (pt_cmpR op_in_seq (pv 0) (pe_tup (pa_cons pe_str (pa_cons pe_str pa_nil))) (by rfl)) (pss_one (ps_ret (pv 1))) pss_nil)
      (pss_cons (ps_if (pt_cmpR op_eq (pv 0) pe_str (nomark _)) pss_never pss_nil)
      (pss_cons (ps_par (i := 3) (j := 4) (by rfl) scf_l_v_read_value.nd rfl rfl (by decide) rfl rfl (pa_cons (pe_call (ok_l_v_number h) (hr.mono (by decide)) (by rfl) (gf_l_v_number h) (Ff_l_v_number w.params).kp (bf_l_v_number w.params) .nil pass0 (pa_cons (pv 1) (pa_cons (pv 2) pa_nil))) (pa_cons (pe_op op_shl pe_int (pe_op op_mul pe_int (pe_callB call_len (by rfl) (n_len h) (by decide +kernel) (pa_cons (pv 1) pa_nil)))) pa_nil)) (by rfl))
      (pss_cons (ps_if (pt_cmpR op_eq (pv 0) pe_str (nomark _)) pss_never pss_nil)
      (pss_cons (ps_if (pt_cmpR op_in_str (pv 0) pe_str (by rfl)) pss_never pss_nil)
      (pss_one (ps_ret (pe_ifExp (PW.pt (pw_and (pt_cmpR op_in_str (pv 0) pe_str (by rfl)) (pw_and1 (pt_cmpR op_ge (pv 3) (pe_op op_fdivN (pv 4) pe_int) (nomark _))))) (pe_op op_sub (pv 3) (pv 4)) (pv 3))))))))), ?_⟩
  rw [stf_l_v_read_value]
  refine freeze fun R2 hR2 => ?_
  try walk_at "rd"
  refine ⟨by simp [sizeLine], fun p np => ?_⟩
  obtain ⟨H1, H1_eq, e1, h1⟩ := newq (.tup [V.str "c", V.str "s"]) np
  rw [← H1_eq]
  clear H1_eq
  refine ⟨p, _, rfl, .inr (SqT.of h1), rfl, rfl, ?_⟩
  by_cases hc : k = .c
  · subst hc
    rw [show inV (V.str KK.c.str) [V.str "c", V.str "s"] = true by decide +kernel]
    refine ⟨_, rfl, iteT (q _ _ e1 (.inr ⟨rfl, a, rfl, e1.tup ha⟩))⟩
  rw [show inV (V.str k.str) [V.str "c", V.str "s"] = false by cases k <;> first | exact absurd rfl hc | decide +kernel]
  refine ⟨_, rfl, iteF ?_⟩
  subst hR2
  refine freeze fun R3 hR3 => ?_
  try walk_at "rd"
  rw [if_neg (show ¬ (k.str = "p") by cases k <;> decide +kernel)]
  subst hR3
  refine freeze fun R4 hR4 => ?_
  try walk_at "rd"
  refine ⟨a, d, rfl, e1.tup ha, by have := k.wd8; omega, fun H2 e2 => ?_⟩
  have e12 := e1.trans e2
  have w8 := k.wd8
  have e8 : (8 * ((d.length : Nat) : Int)).toNat = 8 * d.length := by omega
  refine ⟨_, .inr ⟨_, SqT.of (e12.tup ha), rfl⟩, ?_⟩
  rw [List.length_map]
  refine ⟨.inl ⟨by decide, by decide⟩, ⟨by omega, by omega, by decide⟩, ?_⟩
  rw [e8, Int.one_mul]
  subst hR4
  refine freeze fun R5 hR5 => ?_
  try walk_at "rd"
  rw [if_neg (show ¬ (k.str = "?") by cases k <;> decide +kernel)]
  subst hR5
  refine freeze fun R6 hR6 => ?_
  try walk_at "rd"
  rw [if_neg (show ¬ ((!(Builtin.Str.occurrences "efd" k.str 0 (Str.ofString "efd").length 1).isEmpty) = true) by cases k <;> decide +kernel)]
  subst hR6
  try walk_at "rd"
  rw [show (!(Builtin.Str.occurrences "bhilqn" k.str 0 (Str.ofString "bhilqn").length 1).isEmpty) = k.sg by cases k <;> first | exact absurd rfl hc | decide +kernel]
  have vh := val_half k d hb hl
  have fin : ∀ x : Int, x = valOf k d → Q (.int x) H2 := fun x hx => q _ _ e12 (.inl ⟨hc, by rw [hx]⟩)
  by_cases hsg : k.sg = true
  · rw [if_pos hsg]
    refine ⟨⟨by decide, by decide⟩, ?_⟩
    rw [Int.fdiv_eq_ediv_of_nonneg _ (by decide)]
    by_cases h5 : (2 : Int) ^ (8 * d.length) / 2 ≤ natNum d.reverse
    · rw [if_pos h5]
      refine fin _ ?_
      unfold valOf
      rw [hsg, decide_eq_true (vh.mp h5)]
      rfl
    · rw [if_neg h5]
      refine fin _ ?_
      unfold valOf
      rw [decide_eq_false (fun z => h5 (vh.mpr z)), Bool.and_false]
      rfl
  · rw [if_neg hsg]
    refine fin _ ?_
    unfold valOf
    rw [Bool.eq_false_iff.mpr hsg]
    rfl
def spLAt : Sp := fun vs H Q _ => ∃ (d : Addr) (p : Pl) (k : KK) (cs : List Int) (pl : Int), vs = [.ref d, .int pl] ∧ ModAt H d p ∧ p.kd = k.str ∧ H p.c = some (.lst (cs.map .int)) ∧ Bs cs ∧ InB cs pl k.wd ∧ ∀ H' v, Ev [] H H' → ItemV H' k (rowOf cs pl k.wd) v → Q v H'
theorem ok_l_w_at (h : MgOk w.params mg) : FnOk P w (K w.params) mg base CX0 3 af_l_w_at fdf_l_w_at ["_law_m", "_law_place"] spLAt := by
  refine Fun.ok (sp := spLAt) (Ff_l_w_at w.params) scf_l_w_at (fun vs H Q E hs => by first | (obtain ⟨rfl, _⟩ := hs; rfl) | (obtain ⟨_, rfl, _⟩ := hs; rfl) | (obtain ⟨_, _, rfl, _⟩ := hs; rfl) | (obtain ⟨_, _, _, rfl, _⟩ := hs; rfl) | (obtain ⟨_, _, _, _, rfl, _⟩ := hs; rfl) | (obtain ⟨_, _, _, _, _, rfl, _⟩ := hs; rfl) | (obtain ⟨_, _, _, _, _, _, rfl, _⟩ := hs; rfl) | (obtain ⟨_, _, _, _, _, _, _, rfl, _⟩ := hs; rfl) | (obtain ⟨_, _, _, _, _, _, _, _, rfl, _⟩ := hs; rfl) | (obtain ⟨_, _, _, _, _, _, _, _, _, rfl, _⟩ := hs; rfl) | (obtain ⟨_, _, _, _, _, _, _, _, _, _, rfl, _⟩ := hs; rfl) | (obtain ⟨_, _, _, _, _, _, _, _, _, _, _, rfl, _⟩ := hs; rfl) | (obtain ⟨_, _, _, _, _, _, _, _, _, _, _, _, rfl, _⟩ := hs; rfl) | (obtain ⟨_, _, _, _, _, _, _, _, _, _, _, _, _, rfl, _⟩ := hs; rfl) | (obtain ⟨_, _, _, _, _, _, _, _, _, _, _, _, _, _, rfl, _⟩ := hs; rfl) | (obtain ⟨_, _, _, _, _, _, _, _, _, _, _, _, _, _, _, rfl, _⟩ := hs; rfl) | (obtain ⟨_, _, _, _, _, _, _, _, _, _, _, _, _, _, _, _, rfl, _⟩ := hs; rfl) | (obtain ⟨_, _, _, _, _, _, _, _, _, _, _, _, _, _, _, _, _, rfl, _⟩ := hs; rfl) | (obtain ⟨_, _, _, _, _, _, _, _, _, _, _, _, _, _, _, _, _, _, rfl, _⟩ := hs; rfl) | (obtain ⟨_, _, _, _, _, _, _, _, _, _, _, _, _, _, _, _, _, _, _, rfl, _⟩ := hs; rfl) | (obtain ⟨_, _, _, _, _, _, _, _, _, _, _, _, _, _, _, _, _, _, _, _, rfl, _⟩ := hs; rfl) | (obtain ⟨_, _, _, _, _, _, _, _, _, _, _, _, _, _, _, _, _, _, _, _, _, rfl, _⟩ := hs; rfl)) (fun cdv A outer s H vs Q E hr hq => ?_)
  obtain ⟨d, p, k, cs, pl, rfl, hd, hk, hc, hb, hi, q⟩ := hq
  have hu := hu_of hr
  refine ⟨_, (pss_one (ps_ret (pe_call (ok_l_v_read_value h) (hr.mono (by decide)) (by rfl) (gf_l_v_read_value h) (Ff_l_v_read_value w.params).kp (bf_l_v_read_value w.params) .nil pass0 (pa_cons (pe_slice sl_str (pe_dget hu (pv 0) pe_str (fun _ _ => rfl)) (po_some (pe_un un_neg pe_int)) po_none) (pa_cons (pe_callTy call_tuple_of (by rfl) (n_tuple h) (by decide +kernel) (pa_cons (pe_slice sl_list (pe_dget hu (pv 0) pe_str (fun _ _ => rfl)) (po_some (pv 1)) (po_some (pe_op op_add (pv 1) (pe_call (ok_l_w_size h) (hr.mono (by decide)) (by rfl) (gf_l_w_size h) (Ff_l_w_size w.params).kp (bf_l_w_size w.params) .nil pass0 (pa_cons (pe_dget hu (pv 0) pe_str (fun _ _ => rfl)) pa_nil))))) pa_nil)) (pa_cons pe_bl pa_nil)))))), ?_⟩
  rw [stf_l_w_at]
  walk_at "rd"
  refine ⟨_, rfl, d, _, rfl, hd.kind, _, rfl, _, rfl, k.str, by rw [hk], by rw [k.len]; decide, ?_⟩
  rw [show L2.cutS k.str (some (-1)) none = k.str from k.sl_1]
  refine ⟨_, rfl, d, _, rfl, hd.cells, _, rfl, _, rfl, _, rfl, _, rfl, d, _, rfl, hd.kind, k, by rw [hk]; rfl, fun H1 e1 => ?_⟩
  refine ⟨_, _, rfl, rfl, _, rfl, p.c, _, rfl, SqL.of (e1.lst hc), fun l nl => ?_⟩
  rw [cutV_row hi]
  obtain ⟨H2, H2_eq, e2, h2⟩ := newq (.lst ((rowOf cs pl k.wd).map V.int)) nl
  rw [← H2_eq]
  clear H2_eq
  refine ⟨_, rfl, _, .inl ⟨SqL.of h2, fun t nt => ?_⟩⟩
  obtain ⟨H3, H3_eq, e3, h3⟩ := newq (.tup ((rowOf cs pl k.wd).map V.int)) nt
  rw [← H3_eq]
  clear H3_eq
  exact ⟨k, t, _, rfl, h3, rowOf_bs hb hi, rowOf_length, fun H4 v e4 hv => q _ _ (((e1.trans e2).trans e3).trans e4) hv⟩
def spLNestLeaf : Sp := fun vs H Q _ => ∃ (d : Addr) (p : Pl) (k : KK) (cs : List Int) (pl : Int), vs = [.ref d, .int pl, .int 1] ∧ ModAt H d p ∧ p.kd = k.str ∧ H p.c = some (.lst (cs.map .int)) ∧ Bs cs ∧ InB cs pl k.wd ∧ ∀ H' v, Ev [] H H' → ItemV H' k (rowOf cs pl k.wd) v → Q v H'
theorem ok_l_w_nested_leaf (h : MgOk w.params mg) : FnOk P w (K w.params) mg base CX0 4 af_l_w_nested fdf_l_w_nested ["_law_m", "_law_place", "_law_k"] spLNestLeaf := by
  refine Fun.ok (sp := spLNestLeaf) (Ff_l_w_nested w.params) scf_l_w_nested (fun vs H Q E hs => by first | (obtain ⟨rfl, _⟩ := hs; rfl) | (obtain ⟨_, rfl, _⟩ := hs; rfl) | (obtain ⟨_, _, rfl, _⟩ := hs; rfl) | (obtain ⟨_, _, _, rfl, _⟩ := hs; rfl) | (obtain ⟨_, _, _, _, rfl, _⟩ := hs; rfl) | (obtain ⟨_, _, _, _, _, rfl, _⟩ := hs; rfl) | (obtain ⟨_, _, _, _, _, _, rfl, _⟩ := hs; rfl) | (obtain ⟨_, _, _, _, _, _, _, rfl, _⟩ := hs; rfl) | (obtain ⟨_, _, _, _, _, _, _, _, rfl, _⟩ := hs; rfl) | (obtain ⟨_, _, _, _, _, _, _, _, _, rfl, _⟩ := hs; rfl) | (obtain ⟨_, _, _, _, _, _, _, _, _, _, rfl, _⟩ := hs; rfl) | (obtain ⟨_, _, _, _, _, _, _, _, _, _, _, rfl, _⟩ := hs; rfl) | (obtain ⟨_, _, _, _, _, _, _, _, _, _, _, _, rfl, _⟩ := hs; rfl) | (obtain ⟨_, _, _, _, _, _, _, _, _, _, _, _, _, rfl, _⟩ := hs; rfl) | (obtain ⟨_, _, _, _, _, _, _, _, _, _, _, _, _, _, rfl, _⟩ := hs; rfl) | (obtain ⟨_, _, _, _, _, _, _, _, _, _, _, _, _, _, _, rfl, _⟩ := hs; rfl) | (obtain ⟨_, _, _, _, _, _, _, _, _, _, _, _, _, _, _, _, rfl, _⟩ := hs; rfl) | (obtain ⟨_, _, _, _, _, _, _, _, _, _, _, _, _, _, _, _, _, rfl, _⟩ := hs; rfl) | (obtain ⟨_, _, _, _, _, _, _, _, _, _, _, _, _, _, _, _, _, _, rfl, _⟩ := hs; rfl) | (obtain ⟨_, _, _, _, _, _, _, _, _, _, _, _, _, _, _, _, _, _, _, rfl, _⟩ := hs; rfl) | (obtain ⟨_, _, _, _, _, _, _, _, _, _, _, _, _, _, _, _, _, _, _, _, rfl, _⟩ := hs; rfl) | (obtain ⟨_, _, _, _, _, _, _, _, _, _, _, _, _, _, _, _, _, _, _, _, _, rfl, _⟩ := hs; rfl)) (fun cdv A outer s H vs Q E hr hq => ?_)
  obtain ⟨d, p, k, cs, pl, rfl, hd, hk, hc, hb, hi, q⟩ := hq
  have hu := hu_of hr
  refine ⟨_, (pss_cons (ps_if (pt_cmpR op_eq (pv 2) (pe_callB call_len (by rfl) (n_len h) (by decide +kernel) (pa_cons (pe_dget hu (pv 0) pe_str (fun _ _ => rfl)) pa_nil)) (nomark _)) (pss_one (ps_ret (pe_call (ok_l_w_at h) (hr.mono (by decide)) (by rfl) (gf_l_w_at h) (Ff_l_w_at w.params).kp (bf_l_w_at w.params) .nil pass0 (pa_cons (pv 0) (pa_cons (pv 1) pa_nil))))) pss_nil)
      pss_never), ?_⟩
  rw [stf_l_w_nested]
  walk_at "rd"
  refine ⟨_, hd.shape, _, .inr ⟨_, SqT.of hd.2.1, rfl⟩, ?_⟩
  rw [if_pos (by simp)]
  exact ⟨d, p, k, cs, pl, rfl, hd, hk, hc, hb, hi, q⟩
def spLNest : Sp := fun vs H Q _ => ∃ (d : Addr) (p : Pl) (k : KK) (cs : List Int), vs = [.ref d, .int p.pl, .int 0] ∧ ModAt H d p ∧ p.kd = k.str ∧ p.wd = k.wd ∧ H p.c = some (.lst (cs.map .int)) ∧ Bs cs ∧ PlIn cs p ∧ ∀ H' D ys, Ev [] H H' → H D = none → H' D = some (.lst ys) → ItemsV H' k cs p ys → Q (.ref D) H'
theorem ok_l_w_nested (h : MgOk w.params mg) : FnOk P w (K w.params) mg base CX0 5 af_l_w_nested fdf_l_w_nested ["_law_m", "_law_place", "_law_k"] spLNest := by
  refine Fun.ok (sp := spLNest) (Ff_l_w_nested w.params) scf_l_w_nested (fun vs H Q E hs => by first | (obtain ⟨rfl, _⟩ := hs; rfl) | (obtain ⟨_, rfl, _⟩ := hs; rfl) | (obtain ⟨_, _, rfl, _⟩ := hs; rfl) | (obtain ⟨_, _, _, rfl, _⟩ := hs; rfl) | (obtain ⟨_, _, _, _, rfl, _⟩ := hs; rfl) | (obtain ⟨_, _, _, _, _, rfl, _⟩ := hs; rfl) | (obtain ⟨_, _, _, _, _, _, rfl, _⟩ := hs; rfl) | (obtain ⟨_, _, _, _, _, _, _, rfl, _⟩ := hs; rfl) | (obtain ⟨_, _, _, _, _, _, _, _, rfl, _⟩ := hs; rfl) | (obtain ⟨_, _, _, _, _, _, _, _, _, rfl, _⟩ := hs; rfl) | (obtain ⟨_, _, _, _, _, _, _, _, _, _, rfl, _⟩ := hs; rfl) | (obtain ⟨_, _, _, _, _, _, _, _, _, _, _, rfl, _⟩ := hs; rfl) | (obtain ⟨_, _, _, _, _, _, _, _, _, _, _, _, rfl, _⟩ := hs; rfl) | (obtain ⟨_, _, _, _, _, _, _, _, _, _, _, _, _, rfl, _⟩ := hs; rfl) | (obtain ⟨_, _, _, _, _, _, _, _, _, _, _, _, _, _, rfl, _⟩ := hs; rfl) | (obtain ⟨_, _, _, _, _, _, _, _, _, _, _, _, _, _, _, rfl, _⟩ := hs; rfl) | (obtain ⟨_, _, _, _, _, _, _, _, _, _, _, _, _, _, _, _, rfl, _⟩ := hs; rfl) | (obtain ⟨_, _, _, _, _, _, _, _, _, _, _, _, _, _, _, _, _, rfl, _⟩ := hs; rfl) | (obtain ⟨_, _, _, _, _, _, _, _, _, _, _, _, _, _, _, _, _, _, rfl, _⟩ := hs; rfl) | (obtain ⟨_, _, _, _, _, _, _, _, _, _, _, _, _, _, _, _, _, _, _, rfl, _⟩ := hs; rfl) | (obtain ⟨_, _, _, _, _, _, _, _, _, _, _, _, _, _, _, _, _, _, _, _, rfl, _⟩ := hs; rfl) | (obtain ⟨_, _, _, _, _, _, _, _, _, _, _, _, _, _, _, _, _, _, _, _, _, rfl, _⟩ := hs; rfl)) (fun cdv A outer s H vs Q E hr hq => ?_)
  obtain ⟨d, p, k, cs, rfl, hd, hk, hw, hc, hb, hi, q⟩ := hq
  have hu := hu_of hr
  refine ⟨_, (pss_cons (ps_if (pt_cmpR op_eq (pv 2) (pe_callB call_len (by rfl) (n_len h) (by decide +kernel) (pa_cons (pe_dget hu (pv 0) pe_str (fun _ _ => rfl)) pa_nil)) (nomark _)) pss_never pss_nil)
      (pss_one (ps_ret (pe_lc (own := [("_law_j", 3)]) (te := (tCall _ _ _ (tCons (tVar 0) (tCons (tOp _ (tVar 1) (tOp _ (tVar 3) (tOp (rIxT (K w.params)) (tDGet (tVar 0) _) (tVar 2)))) (tCons (tOp _ (tVar 2) _) tNil))))) rfl scf_l_w_nested.nd (pi_range1 rfl (n_range h) (pa_cons (pe_ix ix_tup (pe_dget hu (pv 0) pe_str (fun _ _ => rfl)) (pv 2) (fun _ _ => rfl)) pa_nil)) (blkOk_by (N := ["_law_m", "_law_place", "_law_k", "_law_j"]) (own := [("_law_j", 3)]) (sc := defScope sf_l_w_nested) (by decide +kernel)) (fun _ _ _ _ _ => (pg_name (i := 3) scf_l_w_nested.nd rfl (Or.inl rfl))) (fun _ _ _ _ _ => pts_nil) (fun _ _ _ _ _ => (pe_call (ok_l_w_nested_leaf h) (hr.mono (by decide)) (by rfl) (gf_l_w_nested h) (Ff_l_w_nested w.params).kp (bf_l_w_nested w.params) .nil pass0 (pa_cons (pv 0) (pa_cons (pe_op op_add (pv 1) (pe_op op_mul (pv 3) (pe_ix ix_tup (pe_dget hu (pv 0) pe_str (fun _ _ => rfl)) (pv 2) (fun _ _ => rfl)))) (pa_cons (pe_op op_add (pv 2) pe_int) pa_nil))))))))), ?_⟩
  rw [stf_l_w_nested]
  walk_at "rd"
  have hn := hi.2.1
  refine ⟨_, hd.shape, _, .inr ⟨_, SqT.of hd.2.1, rfl⟩, ?_⟩
  rw [if_neg (by simp)]
  refine ⟨_, rfl, d, _, rfl, hd.shape, _, rfl, p.sz, _, 0, _, rfl, rfl, SqT.of hd.2.1, rfl, (p.n : Int), rfl, by omega, by omega, fun D nD => ?_⟩
  rw [Int.toNat_natCast]
  refine lc_rel (X := []) walk_range (fun (i : Nat) y H => ItemV H k (rowOf cs (p.pl + i * p.s) p.wd) y) (line_of (by omega)) (Ev.refl _ _) nD (by simp) (fun i y H H' Z ez _ k => k.ev ez) (fun _ _ => trivial) (fun i x H2 H3 N hlt e2 y kk => ?_) (fun H2 ys e2 hD hl kk => ?_)
  · obtain ⟨rfl, rfl⟩ := y
    have hd2 := hd.ev e2
    have hin : InB cs (p.pl + (i : Nat) * p.s) k.wd := by
      rw [← hw]; exact hi.1 _ (by simp [adr]; exact ⟨i, hlt, rfl⟩)
    try walk_at "rd"
    refine ⟨_, hd2.steps, p.st, _, 0, _, rfl, rfl, SqT.of hd2.2.2, rfl, ?_⟩
    try walk_at "rd"
    refine ⟨.inl ⟨by omega, by omega⟩, d, p, k, cs, _, rfl, hd2, hk, e2.lst hc, hb, by rw [show (0 : Int) + (i : Int) = i by omega]; exact hin, fun H4 v e4 hv => kk _ _ ?_ e4⟩
    rw [hw, show p.pl + (i : Int) * p.s = p.pl + (0 + (i : Int)) * p.s by rw [Int.zero_add]]
    exact hv
  · exact q _ D ys e2 nD hD ⟨hl, kk⟩
def spLNative : Sp := fun vs H Q _ => ∃ k : KK, vs = [.str k.str] ∧ RetV H Q (.bl true)
theorem ok_l_w_is_native (h : MgOk w.params mg) : FnOk P w (K w.params) mg base CX0 1 af_l_w_is_native fdf_l_w_is_native ["_law_kind"] spLNative := by
  refine Fun.ok (sp := spLNative) (Ff_l_w_is_native w.params) scf_l_w_is_native (fun vs H Q E hs => by first | (obtain ⟨rfl, _⟩ := hs; rfl) | (obtain ⟨_, rfl, _⟩ := hs; rfl) | (obtain ⟨_, _, rfl, _⟩ := hs; rfl) | (obtain ⟨_, _, _, rfl, _⟩ := hs; rfl) | (obtain ⟨_, _, _, _, rfl, _⟩ := hs; rfl) | (obtain ⟨_, _, _, _, _, rfl, _⟩ := hs; rfl) | (obtain ⟨_, _, _, _, _, _, rfl, _⟩ := hs; rfl) | (obtain ⟨_, _, _, _, _, _, _, rfl, _⟩ := hs; rfl) | (obtain ⟨_, _, _, _, _, _, _, _, rfl, _⟩ := hs; rfl) | (obtain ⟨_, _, _, _, _, _, _, _, _, rfl, _⟩ := hs; rfl) | (obtain ⟨_, _, _, _, _, _, _, _, _, _, rfl, _⟩ := hs; rfl) | (obtain ⟨_, _, _, _, _, _, _, _, _, _, _, rfl, _⟩ := hs; rfl) | (obtain ⟨_, _, _, _, _, _, _, _, _, _, _, _, rfl, _⟩ := hs; rfl) | (obtain ⟨_, _, _, _, _, _, _, _, _, _, _, _, _, rfl, _⟩ := hs; rfl) | (obtain ⟨_, _, _, _, _, _, _, _, _, _, _, _, _, _, rfl, _⟩ := hs; rfl) | (obtain ⟨_, _, _, _, _, _, _, _, _, _, _, _, _, _, _, rfl, _⟩ := hs; rfl) | (obtain ⟨_, _, _, _, _, _, _, _, _, _, _, _, _, _, _, _, rfl, _⟩ := hs; rfl) | (obtain ⟨_, _, _, _, _, _, _, _, _, _, _, _, _, _, _, _, _, rfl, _⟩ := hs; rfl) | (obtain ⟨_, _, _, _, _, _, _, _, _, _, _, _, _, _, _, _, _, _, rfl, _⟩ := hs; rfl) | (obtain ⟨_, _, _, _, _, _, _, _, _, _, _, _, _, _, _, _, _, _, _, rfl, _⟩ := hs; rfl) | (obtain ⟨_, _, _, _, _, _, _, _, _, _, _, _, _, _, _, _, _, _, _, _, rfl, _⟩ := hs; rfl) | (obtain ⟨_, _, _, _, _, _, _, _, _, _, _, _, _, _, _, _, _, _, _, _, _, rfl, _⟩ := hs; rfl)) (fun cdv A outer s H vs Q E hr hq => ?_)
  obtain ⟨k, rfl, q⟩ := hq
  refine ⟨_, (pss_one (ps_ret (pe_and (pe_cmpR op_in_seq (pe_callB call_len (by rfl) (n_len h) (by decide +kernel) (pa_cons (pv 0) pa_nil)) (pe_tup (pa_cons pe_int (pa_cons pe_int pa_nil))) (by rfl)) (pe_and (pe_cmpR op_in_seq (pe_slice sl_str (pv 0) po_none (po_some (pe_un un_neg pe_int))) (pe_tup (pa_cons pe_str (pa_cons pe_str pa_nil))) (by rfl)) (pe_one (pe_cmpR op_in_str (pe_slice sl_str (pv 0) (po_some (pe_un un_neg pe_int)) po_none) pe_str (by rfl))))))), ?_⟩
  rw [stf_l_w_is_native]
  walk_at "rd"
  refine ⟨1, ⟨by rw [k.len]; decide, by rw [k.len]⟩, by simp [sizeLine], fun p np => ?_⟩
  obtain ⟨H1, H1_eq, e1, h1⟩ := newq (.tup [V.int 1, V.int 2]) np
  rw [← H1_eq]
  clear H1_eq
  refine ⟨p, _, rfl, .inr (SqT.of h1), rfl, rfl, ?_⟩
  rw [show inV (V.int ((1 : Nat) : Int)) [V.int 1, V.int 2] = true by decide +kernel]
  refine ⟨_, rfl, iteT ⟨_, rfl, _, rfl, _, rfl, k.str, rfl, by rw [k.len]; decide, ?_⟩⟩
  rw [show L2.cutS k.str none (some (-1)) = "" by cases k <;> decide +kernel]
  try walk_at "rd"
  refine ⟨by simp [sizeLine], fun p2 np2 => ?_⟩
  obtain ⟨H2, H2_eq, e2, h2⟩ := newq (.tup [V.str "", V.str "@"]) np2
  rw [← H2_eq]
  clear H2_eq
  refine ⟨p2, _, rfl, .inr (SqT.of h2), rfl, rfl, ?_⟩
  rw [show inV (V.str "") [V.str "", V.str "@"] = true by decide +kernel]
  refine ⟨_, rfl, iteT ⟨_, rfl, _, rfl, _, rfl, k.str, rfl, by rw [k.len]; decide, ?_⟩⟩
  rw [show L2.cutS k.str (some (-1)) none = k.str from k.sl_1]
  try walk_at "rd"
  rw [show (!(Builtin.Str.occurrences "cbB?hHiIlLqQnNPefd" k.str 0 (Str.ofString "cbB?hHiIlLqQnNPefd").length 1).isEmpty) = true by cases k <;> decide +kernel]
  exact q _ (e1.trans e2)
end VL
end
section
set_option linter.all false
set_option maxRecDepth 100000
set_option maxHeartbeats 1000000
namespace VL
open PySem PySem.Spec PyProof.Rows L2 RZ
local macro_rules | `(tactic| walk_at "rd") => `(tactic| (simp only [tVar, tC, tOp, tUn, tTest, tB, tAnd, tOr, tNot, tAndV, tOrV, tNotV, tIf, tIfS, tSeq, tAsg, gName, tRet, tRetN, tDrop, tNext, rI, rI0, rU, rEq, rNe, scal, tCons, tNil, tCB, t2I, tChain, tCall, tMeth, tPar, tPar3, tFld, tTup, tLst, iTup, iList, iRng1, tPart, tNoPart, tBM, tBM0, tMake, tDGet, cxK, noxK, L2.wipe,
  List.append_nil, List.nil_append, List.cons_append, List.map_cons, List.map_nil, List.getElem?_cons_zero, List.getElem?_cons_succ, List.getElem?_nil, List.set_cons_zero, List.set_cons_succ, Option.some.injEq, V.int.injEq, V.bl.injEq, V.str.injEq, V.ref.injEq, exists_and_left, exists_eq_left', exists_eq_left, true_and, and_true, List.cons.injEq, if_true, if_false, Bool.false_eq_true, Bool.not_true, Bool.not_false, decide_eq_true_eq, and_assoc]))
variable {P : Program} {w : World} {mg : Str → Option Value} {base : Heap}
theorem n_bool {P : Params} (h : MgOk P mg) : mg "bool" = none := h _ _ (by kernel_rfl)
def spSameInt : Sp := fun vs H Q _ => ∃ i : Int, vs = [.int i, .int i] ∧ RetV H Q (.bl true)
theorem ok_l_same_int (h : MgOk w.params mg) : FnOk P w (K w.params) mg base CX0 1 af_l_same fdf_l_same ["_law_found", "_law_due"] spSameInt := by
  refine Fun.ok (sp := spSameInt) (Ff_l_same w.params) scf_l_same (fun vs H Q E hs => by first | (obtain ⟨rfl, _⟩ := hs; rfl) | (obtain ⟨_, rfl, _⟩ := hs; rfl) | (obtain ⟨_, _, rfl, _⟩ := hs; rfl) | (obtain ⟨_, _, _, rfl, _⟩ := hs; rfl) | (obtain ⟨_, _, _, _, rfl, _⟩ := hs; rfl) | (obtain ⟨_, _, _, _, _, rfl, _⟩ := hs; rfl) | (obtain ⟨_, _, _, _, _, _, rfl, _⟩ := hs; rfl) | (obtain ⟨_, _, _, _, _, _, _, rfl, _⟩ := hs; rfl) | (obtain ⟨_, _, _, _, _, _, _, _, rfl, _⟩ := hs; rfl) | (obtain ⟨_, _, _, _, _, _, _, _, _, rfl, _⟩ := hs; rfl) | (obtain ⟨_, _, _, _, _, _, _, _, _, _, rfl, _⟩ := hs; rfl) | (obtain ⟨_, _, _, _, _, _, _, _, _, _, _, rfl, _⟩ := hs; rfl) | (obtain ⟨_, _, _, _, _, _, _, _, _, _, _, _, rfl, _⟩ := hs; rfl) | (obtain ⟨_, _, _, _, _, _, _, _, _, _, _, _, _, rfl, _⟩ := hs; rfl) | (obtain ⟨_, _, _, _, _, _, _, _, _, _, _, _, _, _, rfl, _⟩ := hs; rfl) | (obtain ⟨_, _, _, _, _, _, _, _, _, _, _, _, _, _, _, rfl, _⟩ := hs; rfl) | (obtain ⟨_, _, _, _, _, _, _, _, _, _, _, _, _, _, _, _, rfl, _⟩ := hs; rfl) | (obtain ⟨_, _, _, _, _, _, _, _, _, _, _, _, _, _, _, _, _, rfl, _⟩ := hs; rfl) | (obtain ⟨_, _, _, _, _, _, _, _, _, _, _, _, _, _, _, _, _, _, rfl, _⟩ := hs; rfl) | (obtain ⟨_, _, _, _, _, _, _, _, _, _, _, _, _, _, _, _, _, _, _, rfl, _⟩ := hs; rfl) | (obtain ⟨_, _, _, _, _, _, _, _, _, _, _, _, _, _, _, _, _, _, _, _, rfl, _⟩ := hs; rfl) | (obtain ⟨_, _, _, _, _, _, _, _, _, _, _, _, _, _, _, _, _, _, _, _, _, rfl, _⟩ := hs; rfl)) (fun cdv A outer s H vs Q E hr hq => ?_)
  obtain ⟨i, rfl, q⟩ := hq
  refine ⟨_, (pss_cons (ps_if (pt_val (pe_callB call_isiT (by rfl) (n_isinstance h) (by decide +kernel) (pa_cons (pv 1) (pa_cons (pe_tup (pa_cons (pe_bltn (v := .ty "list") (by rfl) (n_list h) (by decide +kernel) rfl) (pa_cons (pe_bltn (v := .ty "tuple") (by rfl) (n_tuple h) (by decide +kernel) rfl) pa_nil))) pa_nil)))) pss_never pss_nil)
      (pss_cons (ps_if (pt_val (pe_callB call_isi (by rfl) (n_isinstance h) (by decide +kernel) (pa_cons (pv 1) (pa_cons (pe_bltn (v := .ty "int") (by rfl) (n_int h) (by decide +kernel) rfl) pa_nil)))) (pss_one (ps_ret (pe_and (pe_callB call_isi (by rfl) (n_isinstance h) (by decide +kernel) (pa_cons (pv 0) (pa_cons (pe_bltn (v := .ty "int") (by rfl) (n_int h) (by decide +kernel) rfl) pa_nil))) (pe_and (pe_cmpR op_eq (pe_callB call_isi (by rfl) (n_isinstance h) (by decide +kernel) (pa_cons (pv 0) (pa_cons (pe_bltn (v := .ty "bool") (by rfl) (n_bool h) (by decide +kernel) rfl) pa_nil))) (pe_callB call_isi (by rfl) (n_isinstance h) (by decide +kernel) (pa_cons (pv 1) (pa_cons (pe_bltn (v := .ty "bool") (by rfl) (n_bool h) (by decide +kernel) rfl) pa_nil))) (nomark _)) (pe_one (pe_cmpR op_eq (pv 0) (pv 1) (nomark _))))))) pss_nil)
      pss_never)), ?_⟩
  rw [stf_l_same]
  refine freeze fun R2 hR2 => ?_
  try walk_at "rd"
  refine ⟨by simp [sizeLine], fun p np => ?_⟩
  obtain ⟨H1, H1_eq, e1, h1⟩ := newq (.tup [V.ty "list", V.ty "tuple"]) np
  rw [← H1_eq]
  clear H1_eq
  refine isiT_t h1 (.base (.int _)) (any_2 (b1 := false) (b2 := false) (by decide +kernel) (by decide +kernel)) ⟨_, rfl, iteF ?_⟩
  subst hR2
  refine freeze fun R3 hR3 => ?_
  try walk_at "rd"
  refine isi_int ⟨_, rfl, iteT ?_⟩
  refine isi_int ⟨_, rfl, iteT ?_⟩
  refine isi_int_bool (isi_int_bool ⟨rfl, ?_⟩)
  try walk_at "rd"
  rw [decide_eq_true trivial]
  exact q _ e1
def spSameRow : Sp := fun vs H Q _ => ∃ (a b : Addr) (d : List Int), vs = [.ref a, .ref b] ∧ H a = some (.tup (d.map .int)) ∧ H b = some (.tup (d.map .int)) ∧ d.length < 10000 ∧ RetV H Q (.bl true)
theorem ok_l_same_row (h : MgOk w.params mg) : FnOk P w (K w.params) mg base CX0 2 af_l_same fdf_l_same ["_law_found", "_law_due"] spSameRow := by
  refine Fun.ok (sp := spSameRow) (Ff_l_same w.params) scf_l_same (fun vs H Q E hs => by first | (obtain ⟨rfl, _⟩ := hs; rfl) | (obtain ⟨_, rfl, _⟩ := hs; rfl) | (obtain ⟨_, _, rfl, _⟩ := hs; rfl) | (obtain ⟨_, _, _, rfl, _⟩ := hs; rfl) | (obtain ⟨_, _, _, _, rfl, _⟩ := hs; rfl) | (obtain ⟨_, _, _, _, _, rfl, _⟩ := hs; rfl) | (obtain ⟨_, _, _, _, _, _, rfl, _⟩ := hs; rfl) | (obtain ⟨_, _, _, _, _, _, _, rfl, _⟩ := hs; rfl) | (obtain ⟨_, _, _, _, _, _, _, _, rfl, _⟩ := hs; rfl) | (obtain ⟨_, _, _, _, _, _, _, _, _, rfl, _⟩ := hs; rfl) | (obtain ⟨_, _, _, _, _, _, _, _, _, _, rfl, _⟩ := hs; rfl) | (obtain ⟨_, _, _, _, _, _, _, _, _, _, _, rfl, _⟩ := hs; rfl) | (obtain ⟨_, _, _, _, _, _, _, _, _, _, _, _, rfl, _⟩ := hs; rfl) | (obtain ⟨_, _, _, _, _, _, _, _, _, _, _, _, _, rfl, _⟩ := hs; rfl) | (obtain ⟨_, _, _, _, _, _, _, _, _, _, _, _, _, _, rfl, _⟩ := hs; rfl) | (obtain ⟨_, _, _, _, _, _, _, _, _, _, _, _, _, _, _, rfl, _⟩ := hs; rfl) | (obtain ⟨_, _, _, _, _, _, _, _, _, _, _, _, _, _, _, _, rfl, _⟩ := hs; rfl) | (obtain ⟨_, _, _, _, _, _, _, _, _, _, _, _, _, _, _, _, _, rfl, _⟩ := hs; rfl) | (obtain ⟨_, _, _, _, _, _, _, _, _, _, _, _, _, _, _, _, _, _, rfl, _⟩ := hs; rfl) | (obtain ⟨_, _, _, _, _, _, _, _, _, _, _, _, _, _, _, _, _, _, _, rfl, _⟩ := hs; rfl) | (obtain ⟨_, _, _, _, _, _, _, _, _, _, _, _, _, _, _, _, _, _, _, _, rfl, _⟩ := hs; rfl) | (obtain ⟨_, _, _, _, _, _, _, _, _, _, _, _, _, _, _, _, _, _, _, _, _, rfl, _⟩ := hs; rfl)) (fun cdv A outer s H vs Q E hr hq => ?_)
  obtain ⟨a, b, d, rfl, ha, hb, hl, q⟩ := hq
  refine ⟨_, (pss_cons (ps_if (pt_val (pe_callB call_isiT (by rfl) (n_isinstance h) (by decide +kernel) (pa_cons (pv 1) (pa_cons (pe_tup (pa_cons (pe_bltn (v := .ty "list") (by rfl) (n_list h) (by decide +kernel) rfl) (pa_cons (pe_bltn (v := .ty "tuple") (by rfl) (n_tuple h) (by decide +kernel) rfl) pa_nil))) pa_nil)))) (pss_cons (ps_if (PW.pt (pw_or (pt_cmpR op_ne (pe_callB call_isi (by rfl) (n_isinstance h) (by decide +kernel) (pa_cons (pv 0) (pa_cons (pe_bltn (v := .ty "list") (by rfl) (n_list h) (by decide +kernel) rfl) pa_nil))) (pe_callB call_isi (by rfl) (n_isinstance h) (by decide +kernel) (pa_cons (pv 1) (pa_cons (pe_bltn (v := .ty "list") (by rfl) (n_list h) (by decide +kernel) rfl) pa_nil))) (nomark _)) (pw_or1 (pt_cmpR op_ne (pe_callB call_isi (by rfl) (n_isinstance h) (by decide +kernel) (pa_cons (pv 0) (pa_cons (pe_bltn (v := .ty "tuple") (by rfl) (n_tuple h) (by decide +kernel) rfl) pa_nil))) (pe_callB call_isi (by rfl) (n_isinstance h) (by decide +kernel) (pa_cons (pv 1) (pa_cons (pe_bltn (v := .ty "tuple") (by rfl) (n_tuple h) (by decide +kernel) rfl) pa_nil))) (nomark _))))) (pss_one (ps_ret pe_bl)) pss_nil)
      (pss_one (ps_ret (pe_and (pe_cmpR op_eq (pe_callB call_len (by rfl) (n_len h) (by decide +kernel) (pa_cons (pv 0) pa_nil)) (pe_callB call_len (by rfl) (n_len h) (by decide +kernel) (pa_cons (pv 1) pa_nil)) (nomark _)) (pe_one (pe_callB (cr_all rfl) (by rfl) (n_all h) (by decide +kernel) (pa_cons (pe_lc (own := [("_law_one", 2), ("_law_other", 3)]) (g := gTup (K w.params) 2 (gCons (gName 2) (gCons (gName 3) gNil))) (te := (tCall _ _ _ (tCons (tVar 2) (tCons (tVar 3) tNil)))) rfl scf_l_same.nd (pi_zipA (by rfl) (n_zip h) (pa_cons (pv 0) (pa_cons (pv 1) pa_nil))) (blkOk_by (N := ["_law_found", "_law_due", "_law_one", "_law_other"]) (own := [("_law_one", 2), ("_law_other", 3)]) (sc := defScope sf_l_same) (by decide +kernel)) (fun _ _ _ _ _ => by exact (pg_tup rfl (pgs_cons (pg_name (i := 2) scf_l_same.nd rfl (Or.inl rfl)) (pgs_cons (pg_name (i := 3) scf_l_same.nd rfl (Or.inl rfl)) pgs_nil)))) (fun _ _ _ _ _ => pts_nil) (fun _ _ _ _ _ => (pe_call (ok_l_same_int h) (hr.mono (by decide)) (by rfl) (gf_l_same h) (Ff_l_same w.params).kp (bf_l_same w.params) .nil pass0 (pa_cons (pv 2) (pa_cons (pv 3) pa_nil))))) pa_nil))))))) pss_nil)
      (pss_cons (ps_if (pt_val (pe_callB call_isi (by rfl) (n_isinstance h) (by decide +kernel) (pa_cons (pv 1) (pa_cons (pe_bltn (v := .ty "int") (by rfl) (n_int h) (by decide +kernel) rfl) pa_nil)))) (pss_one (ps_ret (pe_and (pe_callB call_isi (by rfl) (n_isinstance h) (by decide +kernel) (pa_cons (pv 0) (pa_cons (pe_bltn (v := .ty "int") (by rfl) (n_int h) (by decide +kernel) rfl) pa_nil))) (pe_and (pe_cmpR op_eq (pe_callB call_isi (by rfl) (n_isinstance h) (by decide +kernel) (pa_cons (pv 0) (pa_cons (pe_bltn (v := .ty "bool") (by rfl) (n_bool h) (by decide +kernel) rfl) pa_nil))) (pe_callB call_isi (by rfl) (n_isinstance h) (by decide +kernel) (pa_cons (pv 1) (pa_cons (pe_bltn (v := .ty "bool") (by rfl) (n_bool h) (by decide +kernel) rfl) pa_nil))) (nomark _)) (pe_one (pe_cmpR (op_eqD hr.units) (pv 0) (pv 1) (nomark _))))))) pss_nil)
      pss_never)), ?_⟩
  rw [stf_l_same]
  refine freeze fun R2 hR2 => ?_
  try walk_at "rd"
  refine ⟨by simp [sizeLine], fun p np => ?_⟩
  obtain ⟨H1, H1_eq, e1, h1⟩ := newq (.tup [V.ty "list", V.ty "tuple"]) np
  rw [← H1_eq]
  clear H1_eq
  have ha1 := e1.tup ha
  have hb1 := e1.tup hb
  refine isiT_t h1 (.base (.tup hb1)) (any_2 (b1 := false) (b2 := true) (by decide +kernel) (by decide +kernel)) ⟨_, rfl, iteT ?_⟩
  refine isi_tup_lst ha1 (isi_tup_lst hb1 ⟨rfl, ?_⟩)
  rw [if_neg (by simp)]
  refine isi_tup ha1 (isi_tup hb1 ⟨rfl, ?_⟩)
  rw [if_neg (by simp)]
  refine ⟨_, .inr ⟨_, SqT.of ha1, rfl⟩, _, .inr ⟨_, SqT.of hb1, rfl⟩, ?_⟩
  rw [if_pos rfl]
  refine ⟨_, rfl, _, rfl, a, b, _, _, rfl, .inr ⟨SqT.of ha1, SqT.of hb1, fun D nD => lc_fn (X := []) (walk_zipT (xs := d.map V.int) (ys := d.map V.int) (n := d.length) (by simp)) (fun _ => .bl true) (line_of (by omega)) (Ev.refl _ _) nD (by simp) (fun H e => ⟨SqT.of (e.tup ha1), SqT.of (e.tup hb1)⟩) (fun i x H' H'' N hi e y k => ?_) (fun H' e hD => ?_)⟩⟩
  · obtain ⟨T, x, y, rfl, nT, rfl, hx, hy⟩ := y
    replace hx : (d.map V.int)[i]? = some x := hx
    replace hy : (d.map V.int)[i]? = some y := hy
    rw [hx] at hy
    cases hy
    rw [List.getElem?_map] at hx
    obtain ⟨v, hv, rfl⟩ := Option.map_eq_some_iff.mp hx
    refine gTup2 upd_same ⟨rfl, _, rfl, _, rfl, v, rfl, fun H4 e4 => k _ ((Ev.new nT).trans e4)⟩
  · refine ⟨D, List.replicate d.length true, rfl, SqL.of (by rw [hD]; simp [List.map_const']), ?_⟩
    rw [show (List.replicate d.length true).all id = true by simp]
    exact q _ (e1.trans e)
theorem fn_or {Kk : PySem.W.Frag} {CX : CXT} {k : Nat} {f : Addr} {fd : FuncData} {ps : List Str} {sp sp' : Sp} (F : FnOk P w Kk mg base CX k f fd ps sp) (G : FnOk P w Kk mg base CX k f fd ps sp') : FnOk P w Kk mg base CX k f fd ps (fun vs H Q E => sp vs H Q E ∨ sp' vs H Q E) :=
  ⟨fun vs H Q E h => h.elim (F.len vs H Q E) (G.len vs H Q E), fun A outer s H args us vs Q E hr he hb hv h => h.elim (F.run A outer s H args us vs Q E hr he hb hv) (G.run A outer s H args us vs Q E hr he hb hv)⟩
def spSameIR : Sp := fun vs H Q E => spSameInt vs H Q E ∨ spSameRow vs H Q E
theorem ok_l_same_ir (h : MgOk w.params mg) : FnOk P w (K w.params) mg base CX0 2 af_l_same fdf_l_same ["_law_found", "_law_due"] spSameIR := fn_or ((ok_l_same_int h).mono (by decide)) (ok_l_same_row h)
/-- lists of items of one kind -/
def spSameList : Sp := fun vs H Q _ => ∃ (a b : Addr) (xs ys : List V), vs = [.ref a, .ref b] ∧ H a = some (.lst xs) ∧ H b = some (.lst ys) ∧ xs.length = ys.length ∧ xs.length < 10000 ∧
  (∀ (i : Nat) (x y : V), xs[i]? = some x → ys[i]? = some y → ∃ (k : KK) (d : List Int), ItemV H k d x ∧ ItemV H k d y ∧ d.length < 10000) ∧ RetV H Q (.bl true)
theorem ok_l_same_list (h : MgOk w.params mg) : FnOk P w (K w.params) mg base CX0 3 af_l_same fdf_l_same ["_law_found", "_law_due"] spSameList := by
  refine Fun.ok (sp := spSameList) (Ff_l_same w.params) scf_l_same (fun vs H Q E hs => by first | (obtain ⟨rfl, _⟩ := hs; rfl) | (obtain ⟨_, rfl, _⟩ := hs; rfl) | (obtain ⟨_, _, rfl, _⟩ := hs; rfl) | (obtain ⟨_, _, _, rfl, _⟩ := hs; rfl) | (obtain ⟨_, _, _, _, rfl, _⟩ := hs; rfl) | (obtain ⟨_, _, _, _, _, rfl, _⟩ := hs; rfl) | (obtain ⟨_, _, _, _, _, _, rfl, _⟩ := hs; rfl) | (obtain ⟨_, _, _, _, _, _, _, rfl, _⟩ := hs; rfl) | (obtain ⟨_, _, _, _, _, _, _, _, rfl, _⟩ := hs; rfl) | (obtain ⟨_, _, _, _, _, _, _, _, _, rfl, _⟩ := hs; rfl) | (obtain ⟨_, _, _, _, _, _, _, _, _, _, rfl, _⟩ := hs; rfl) | (obtain ⟨_, _, _, _, _, _, _, _, _, _, _, rfl, _⟩ := hs; rfl) | (obtain ⟨_, _, _, _, _, _, _, _, _, _, _, _, rfl, _⟩ := hs; rfl) | (obtain ⟨_, _, _, _, _, _, _, _, _, _, _, _, _, rfl, _⟩ := hs; rfl) | (obtain ⟨_, _, _, _, _, _, _, _, _, _, _, _, _, _, rfl, _⟩ := hs; rfl) | (obtain ⟨_, _, _, _, _, _, _, _, _, _, _, _, _, _, _, rfl, _⟩ := hs; rfl) | (obtain ⟨_, _, _, _, _, _, _, _, _, _, _, _, _, _, _, _, rfl, _⟩ := hs; rfl) | (obtain ⟨_, _, _, _, _, _, _, _, _, _, _, _, _, _, _, _, _, rfl, _⟩ := hs; rfl) | (obtain ⟨_, _, _, _, _, _, _, _, _, _, _, _, _, _, _, _, _, _, rfl, _⟩ := hs; rfl) | (obtain ⟨_, _, _, _, _, _, _, _, _, _, _, _, _, _, _, _, _, _, _, rfl, _⟩ := hs; rfl) | (obtain ⟨_, _, _, _, _, _, _, _, _, _, _, _, _, _, _, _, _, _, _, _, rfl, _⟩ := hs; rfl) | (obtain ⟨_, _, _, _, _, _, _, _, _, _, _, _, _, _, _, _, _, _, _, _, _, rfl, _⟩ := hs; rfl)) (fun cdv A outer s H vs Q E hr hq => ?_)
  obtain ⟨a, b, xs, ys, rfl, ha, hb, hxy, hl, hv, q⟩ := hq
  refine ⟨_, (pss_cons (ps_if (pt_val (pe_callB call_isiT (by rfl) (n_isinstance h) (by decide +kernel) (pa_cons (pv 1) (pa_cons (pe_tup (pa_cons (pe_bltn (v := .ty "list") (by rfl) (n_list h) (by decide +kernel) rfl) (pa_cons (pe_bltn (v := .ty "tuple") (by rfl) (n_tuple h) (by decide +kernel) rfl) pa_nil))) pa_nil)))) (pss_cons (ps_if (PW.pt (pw_or (pt_cmpR op_ne (pe_callB call_isi (by rfl) (n_isinstance h) (by decide +kernel) (pa_cons (pv 0) (pa_cons (pe_bltn (v := .ty "list") (by rfl) (n_list h) (by decide +kernel) rfl) pa_nil))) (pe_callB call_isi (by rfl) (n_isinstance h) (by decide +kernel) (pa_cons (pv 1) (pa_cons (pe_bltn (v := .ty "list") (by rfl) (n_list h) (by decide +kernel) rfl) pa_nil))) (nomark _)) (pw_or1 (pt_cmpR op_ne (pe_callB call_isi (by rfl) (n_isinstance h) (by decide +kernel) (pa_cons (pv 0) (pa_cons (pe_bltn (v := .ty "tuple") (by rfl) (n_tuple h) (by decide +kernel) rfl) pa_nil))) (pe_callB call_isi (by rfl) (n_isinstance h) (by decide +kernel) (pa_cons (pv 1) (pa_cons (pe_bltn (v := .ty "tuple") (by rfl) (n_tuple h) (by decide +kernel) rfl) pa_nil))) (nomark _))))) (pss_one (ps_ret pe_bl)) pss_nil)
      (pss_one (ps_ret (pe_and (pe_cmpR op_eq (pe_callB call_len (by rfl) (n_len h) (by decide +kernel) (pa_cons (pv 0) pa_nil)) (pe_callB call_len (by rfl) (n_len h) (by decide +kernel) (pa_cons (pv 1) pa_nil)) (nomark _)) (pe_one (pe_callB (cr_all rfl) (by rfl) (n_all h) (by decide +kernel) (pa_cons (pe_lc (own := [("_law_one", 2), ("_law_other", 3)]) (g := gTup (K w.params) 2 (gCons (gName 2) (gCons (gName 3) gNil))) (te := (tCall _ _ _ (tCons (tVar 2) (tCons (tVar 3) tNil)))) rfl scf_l_same.nd (pi_zipA (by rfl) (n_zip h) (pa_cons (pv 0) (pa_cons (pv 1) pa_nil))) (blkOk_by (N := ["_law_found", "_law_due", "_law_one", "_law_other"]) (own := [("_law_one", 2), ("_law_other", 3)]) (sc := defScope sf_l_same) (by decide +kernel)) (fun _ _ _ _ _ => by exact (pg_tup rfl (pgs_cons (pg_name (i := 2) scf_l_same.nd rfl (Or.inl rfl)) (pgs_cons (pg_name (i := 3) scf_l_same.nd rfl (Or.inl rfl)) pgs_nil)))) (fun _ _ _ _ _ => pts_nil) (fun _ _ _ _ _ => (pe_call (ok_l_same_ir h) (hr.mono (by decide)) (by rfl) (gf_l_same h) (Ff_l_same w.params).kp (bf_l_same w.params) .nil pass0 (pa_cons (pv 2) (pa_cons (pv 3) pa_nil))))) pa_nil))))))) pss_nil)
      (pss_cons (ps_if (pt_val (pe_callB call_isi (by rfl) (n_isinstance h) (by decide +kernel) (pa_cons (pv 1) (pa_cons (pe_bltn (v := .ty "int") (by rfl) (n_int h) (by decide +kernel) rfl) pa_nil)))) (pss_one (ps_ret (pe_and (pe_callB call_isi (by rfl) (n_isinstance h) (by decide +kernel) (pa_cons (pv 0) (pa_cons (pe_bltn (v := .ty "int") (by rfl) (n_int h) (by decide +kernel) rfl) pa_nil))) (pe_and (pe_cmpR op_eq (pe_callB call_isi (by rfl) (n_isinstance h) (by decide +kernel) (pa_cons (pv 0) (pa_cons (pe_bltn (v := .ty "bool") (by rfl) (n_bool h) (by decide +kernel) rfl) pa_nil))) (pe_callB call_isi (by rfl) (n_isinstance h) (by decide +kernel) (pa_cons (pv 1) (pa_cons (pe_bltn (v := .ty "bool") (by rfl) (n_bool h) (by decide +kernel) rfl) pa_nil))) (nomark _)) (pe_one (pe_cmpR (op_eqD hr.units) (pv 0) (pv 1) (nomark _))))))) pss_nil)
      pss_never)), ?_⟩
  rw [stf_l_same]
  refine freeze fun R2 hR2 => ?_
  try walk_at "rd"
  refine ⟨by simp [sizeLine], fun p np => ?_⟩
  obtain ⟨H1, H1_eq, e1, h1⟩ := newq (.tup [V.ty "list", V.ty "tuple"]) np
  rw [← H1_eq]
  clear H1_eq
  have ha1 := e1.lst ha
  have hb1 := e1.lst hb
  refine isiT_t h1 (.base (.lst hb1)) (any_2 (b1 := true) (b2 := false) (by decide +kernel) (by decide +kernel)) ⟨_, rfl, iteT ?_⟩
  refine isi_lst ha1 (isi_lst hb1 ⟨rfl, ?_⟩)
  rw [if_neg (by simp)]
  refine isi_lst_tup ha1 (isi_lst_tup hb1 ⟨rfl, ?_⟩)
  rw [if_neg (by simp)]
  refine ⟨_, .inl ⟨_, SqL.of ha1, rfl⟩, _, .inl ⟨_, SqL.of hb1, rfl⟩, ?_⟩
  rw [if_pos (by rw [hxy])]
  refine ⟨_, rfl, _, rfl, a, b, _, _, rfl, .inl ⟨SqL.of ha1, SqL.of hb1, fun D nD => lc_fn (X := []) (walk_zip (xs := xs) (ys := ys) (n := xs.length) (by simp [hxy])) (fun _ => .bl true) (line_of (by omega)) (Ev.refl _ _) nD (by simp) (fun H e => ⟨SqL.of (e.lst ha1), SqL.of (e.lst hb1)⟩) (fun i x H' H'' N hi e y k => ?_) (fun H' e hD => ?_)⟩⟩
  · obtain ⟨T, x, y, rfl, nT, rfl, hx, hy⟩ := y
    obtain ⟨kk, d, i1, i2, hd⟩ := hv i x y hx hy
    have e1T : Ev [] H (upd H' T (.tup [x, y])) := (e1.trans e).trans (Ev.new nT)
    refine gTup2 upd_same ⟨rfl, _, rfl, _, rfl, ?_⟩
    rcases i1.ev e1T with ⟨hk, rfl⟩ | ⟨hk, u, rfl, hu1⟩
    · rcases i2 with ⟨_, rfl⟩ | ⟨hk2, _⟩
      · exact .inl ⟨_, rfl, fun H4 e4 => k _ ((Ev.new nT).trans e4)⟩
      · exact absurd hk2 hk
    · rcases i2.ev e1T with ⟨hk2, _⟩ | ⟨_, z, rfl, hz⟩
      · exact absurd hk hk2
      · exact .inr ⟨u, z, d, rfl, hu1, hz, hd, fun H4 e4 => k _ ((Ev.new nT).trans e4)⟩
  · refine ⟨D, List.replicate xs.length true, rfl, SqL.of (by rw [hD]; simp [List.map_const']), ?_⟩
    rw [show (List.replicate xs.length true).all id = true by simp]
    exact q _ (e1.trans e)
end VL
end
section
set_option linter.all false
set_option maxRecDepth 100000
set_option maxHeartbeats 1000000
namespace VL
open PySem PySem.Spec PyProof.Rows L2 RZ
local macro_rules | `(tactic| walk_at "rd") => `(tactic| (simp only [tVar, tC, tOp, tUn, tTest, tB, tAnd, tOr, tNot, tAndV, tOrV, tNotV, tIf, tIfS, tSeq, tAsg, gName, tRet, tRetN, tDrop, tNext, rI, rI0, rU, rEq, rNe, scal, tCons, tNil, tCB, t2I, tChain, tCall, tMeth, tPar, tPar3, tFld, tTup, tLst, iTup, iList, iRng1, tPart, tNoPart, tBM, tBM0, tMake, tDGet, cxK, noxK, L2.wipe,
  List.append_nil, List.nil_append, List.cons_append, List.map_cons, List.map_nil, List.getElem?_cons_zero, List.getElem?_cons_succ, List.getElem?_nil, List.set_cons_zero, List.set_cons_succ, Option.some.injEq, V.int.injEq, V.bl.injEq, V.str.injEq, V.ref.injEq, exists_and_left, exists_eq_left', exists_eq_left, true_and, and_true, List.cons.injEq, if_true, if_false, Bool.false_eq_true, Bool.not_true, Bool.not_false, decide_eq_true_eq, and_assoc]))
variable {P : Program} {w : World} {mg : Str → Option Value} {base : Heap}
def spSameRL : Sp := fun vs H Q E => spSameRow vs H Q E ∨ spSameList vs H Q E
theorem ok_l_same_rl (h : MgOk w.params mg) : FnOk P w (K w.params) mg base CX0 3 af_l_same fdf_l_same ["_law_found", "_law_due"] spSameRL := fn_or ((ok_l_same_row h).mono (by decide)) (ok_l_same_list h)
/-- a view's plan and its model -/
structure Rel (p q : Pl) : Prop where
  n : p.n = q.n
  s : p.s = q.s
  wd : p.wd = q.wd
  kd : p.kd = q.kd
  pl : 0 < p.n → p.pl = q.pl
theorem Rel.adr {p q : Pl} (r : Rel p q) : VL.adr p = VL.adr q := by
  unfold VL.adr
  by_cases h : 0 < p.n
  · rw [r.n, r.s, r.pl h]
  · have : p.n = 0 := by omega
    rw [← r.n, this]; rfl
theorem Rel.item {p q : Pl} (r : Rel p q) {i : Nat} (h : i < p.n) : p.pl + i * p.s = q.pl + i * q.s := by rw [r.pl (by omega), r.s]
theorem Rel.inn {p q : Pl} (r : Rel p q) {cs : List Int} (h : PlIn cs p) : PlIn cs q := ⟨by rw [← r.adr, ← r.wd]; exact h.1, by rw [← r.n]; exact h.2.1, by rw [← r.wd]; exact h.2.2⟩
def spSeenR : Sp := fun vs H Q _ => ∃ (v d : Addr) (p q : Pl) (k : KK) (cs : List Int), vs = [.ref v, .ref d] ∧ MvAt H v p ∧ ModAt H d q ∧ Rel p q ∧ p.kd = k.str ∧ p.wd = k.wd ∧ H p.c = some (.lst (cs.map .int)) ∧ H q.c = some (.lst (cs.map .int)) ∧ Bs cs ∧ PlIn cs p ∧ RetV H Q (.bl true)
theorem ok_l_w_seen_right (h : MgOk w.params mg) : FnOk P w (K w.params) mg base CX0 8 af_l_w_seen_right fdf_l_w_seen_right ["_law_view", "_law_m"] spSeenR := by
  refine Fun.ok (sp := spSeenR) (Ff_l_w_seen_right w.params) scf_l_w_seen_right (fun vs H Q E hs => by first | (obtain ⟨rfl, _⟩ := hs; rfl) | (obtain ⟨_, rfl, _⟩ := hs; rfl) | (obtain ⟨_, _, rfl, _⟩ := hs; rfl) | (obtain ⟨_, _, _, rfl, _⟩ := hs; rfl) | (obtain ⟨_, _, _, _, rfl, _⟩ := hs; rfl) | (obtain ⟨_, _, _, _, _, rfl, _⟩ := hs; rfl) | (obtain ⟨_, _, _, _, _, _, rfl, _⟩ := hs; rfl) | (obtain ⟨_, _, _, _, _, _, _, rfl, _⟩ := hs; rfl) | (obtain ⟨_, _, _, _, _, _, _, _, rfl, _⟩ := hs; rfl) | (obtain ⟨_, _, _, _, _, _, _, _, _, rfl, _⟩ := hs; rfl) | (obtain ⟨_, _, _, _, _, _, _, _, _, _, rfl, _⟩ := hs; rfl) | (obtain ⟨_, _, _, _, _, _, _, _, _, _, _, rfl, _⟩ := hs; rfl) | (obtain ⟨_, _, _, _, _, _, _, _, _, _, _, _, rfl, _⟩ := hs; rfl) | (obtain ⟨_, _, _, _, _, _, _, _, _, _, _, _, _, rfl, _⟩ := hs; rfl) | (obtain ⟨_, _, _, _, _, _, _, _, _, _, _, _, _, _, rfl, _⟩ := hs; rfl) | (obtain ⟨_, _, _, _, _, _, _, _, _, _, _, _, _, _, _, rfl, _⟩ := hs; rfl) | (obtain ⟨_, _, _, _, _, _, _, _, _, _, _, _, _, _, _, _, rfl, _⟩ := hs; rfl) | (obtain ⟨_, _, _, _, _, _, _, _, _, _, _, _, _, _, _, _, _, rfl, _⟩ := hs; rfl) | (obtain ⟨_, _, _, _, _, _, _, _, _, _, _, _, _, _, _, _, _, _, rfl, _⟩ := hs; rfl) | (obtain ⟨_, _, _, _, _, _, _, _, _, _, _, _, _, _, _, _, _, _, _, rfl, _⟩ := hs; rfl) | (obtain ⟨_, _, _, _, _, _, _, _, _, _, _, _, _, _, _, _, _, _, _, _, rfl, _⟩ := hs; rfl) | (obtain ⟨_, _, _, _, _, _, _, _, _, _, _, _, _, _, _, _, _, _, _, _, _, rfl, _⟩ := hs; rfl)) (fun cdv A outer s H vs Q E hr hq => ?_)
  obtain ⟨v, d, p, q, k, cs, rfl, hv, hd, r, hk, hw, hc, hc', hb, hi, qq⟩ := hq
  have hu := hu_of hr
  obtain ⟨dsT, vT, bT⟩ := bm_mv_tobytes w.params
  refine ⟨_, (pss_cons (ps_if (pt_not (pt_val (pe_call (ok_l_same_rl h) (hr.mono (by decide)) (by rfl) (gf_l_same h) (Ff_l_same w.params).kp (bf_l_same w.params) .nil pass0 (pa_cons (pe_meth0 (pv 0) (cl_MemoryView w.params) (mt_MemoryView_tobytes w.params) (ok_mv_tobytes h) (hr.mono (by decide)) bT vT pass0) (pa_cons (pe_call (ok_l_w_bytes h) (hr.mono (by decide)) (by rfl) (gf_l_w_bytes h) (Ff_l_w_bytes w.params).kp (bf_l_w_bytes w.params) .nil pass0 (pa_cons (pv 1) (pa_cons pe_bl pa_nil))) pa_nil))))) (pss_one (ps_ret pe_bl)) pss_nil)
      (pss_one (ps_ret (pe_or (pe_not (pe_call (ok_l_w_is_native h) (hr.mono (by decide)) (by rfl) (gf_l_w_is_native h) (Ff_l_w_is_native w.params).kp (bf_l_w_is_native w.params) .nil pass0 (pa_cons (pe_dget hu (pv 1) pe_str (fun _ _ => rfl)) pa_nil))) (pe_one (pe_call (ok_l_same_rl h) (hr.mono (by decide)) (by rfl) (gf_l_same h) (Ff_l_same w.params).kp (bf_l_same w.params) .nil pass0 (pa_cons (pe_meth0 (pv 0) (cl_MemoryView w.params) (mt_MemoryView_tolist w.params) (ok_mv_tolist h) (hr.mono (by decide)) (bm_mv_tolist w.params) .nil pass0) (pa_cons (pe_call (ok_l_w_nested h) (hr.mono (by decide)) (by rfl) (gf_l_w_nested h) (Ff_l_w_nested w.params).kp (bf_l_w_nested w.params) .nil pass0 (pa_cons (pv 1) (pa_cons (pe_dget hu (pv 1) pe_str (fun _ _ => rfl)) (pa_cons pe_int pa_nil)))) pa_nil)))))))), ?_⟩
  rw [stf_l_w_seen_right]
  walk_at "rd"
  obtain ⟨_, dx, b, ir, ic, ml, hr0, _⟩ := id hv
  have hi' := r.inn hi
  have hk' : q.kd = k.str := by rw [← r.kd]; exact hk
  have hw' : q.wd = k.wd := by rw [← r.wd]; exact hw
  have hn := hi.2.1
  have w8 := k.wd8
  refine ⟨dx, _, hr0, rfl, v, p, cs, rfl, hv, hc, hi, fun H1 t1 e1 ht1 => ?_⟩
  refine ⟨d, q, cs, rfl, hd.ev e1, e1.lst hc', hi', fun H2 t2 e2 ht2 => ?_⟩
  rw [← r.adr, ← r.wd] at ht2
  have gl : (gat cs (adr p) p.wd).length < 10000 := by
    rw [gat_length]
    have : (adr p).length * p.wd ≤ 1000 * 8 := Nat.mul_le_mul (by simp [adr]; omega) (by omega)
    omega
  refine .inl ⟨t1, t2, _, rfl, e2.tup ht1, ht2, gl, fun H3 e3 => ⟨_, rfl, ?_⟩⟩
  rw [if_neg (by decide)]
  have e13 := (e1.trans e2).trans e3
  have hd3 := hd.ev e13
  refine ⟨_, hd3.kind, k, by rw [hk'], fun H4 e4 => ⟨_, rfl, ?_⟩⟩
  rw [if_neg (by decide)]
  have e14 := e13.trans e4
  have hv4 := hv.ev e14
  obtain ⟨_, dx4, b4, ir4, ic4, ml4, hr4, _⟩ := id hv4
  refine ⟨dx4, _, hr4, rfl, v, p, k, cs, rfl, hv4, hk, hw, e14.lst hc, hb, hi, fun H5 D ys e5 nD hD hy => ?_⟩
  have hd5 := (hd.ev e14).ev e5
  refine ⟨_, hd5.place, d, q, k, cs, rfl, hd5, hk', hw', (e14.trans e5).lst hc', hb, hi', fun H6 D2 zs e6 nD2 hD2 hz => ?_⟩
  refine .inr ⟨D, D2, ys, zs, rfl, e6.lst hD, hD2, by rw [hy.1, hz.1, r.n], by rw [hy.1]; omega, fun i x y hx hyy => ?_, fun H7 e7 => qq _ ((e14.trans e5).trans (e6.trans e7))⟩
  have hip : i < p.n := by rw [← hy.1]; exact (List.getElem?_eq_some_iff.mp hx).1
  have a1 := (hy.2 i x hx).ev e6
  have a2 := hz.2 i y hyy
  rw [← r.item hip, ← r.wd] at a2
  exact ⟨k, _, a1, a2, by rw [rowOf_length]; omega⟩
end VL
end
section
set_option linter.all false
set_option maxRecDepth 100000
set_option maxHeartbeats 1000000
/-! Plain: plans behind cuts. -/
namespace VL
open PySem PySem.Spec PyProof.Rows L2
theorem mem_adr {p : Pl} {x : Int} : x ∈ adr p ↔ ∃ i : Nat, i < p.n ∧ x = p.pl + i * p.s := by
  simp only [adr, List.mem_map, List.mem_range]
  exact ⟨fun ⟨i, h, e⟩ => ⟨i, h, e.symm⟩, fun ⟨i, h, e⟩ => ⟨i, h, e.symm⟩⟩
theorem cut_item {p p' : Pl} {s e st : Option Int} (c : CutPl p p' s e st) (i : Nat) : p'.pl + i * p'.s = p.pl + (cutStart s st p.n + i * st.getD 1) * p.s := by
  rw [c.pl, c.s, Int.add_mul, Int.add_assoc, Int.mul_assoc, Int.mul_comm (st.getD 1) p.s]
theorem PlIn.cut {cs : List Int} {p p' : Pl} {s e st : Option Int} (h : PlIn cs p) (c : CutPl p p' s e st) (hst : StepOk st) : PlIn cs p' := by
  refine ⟨fun x hx => ?_, ?_, by rw [c.wd]; exact h.2.2⟩
  · obtain ⟨i, hi, rfl⟩ := mem_adr.mp hx
    rw [c.wd, cut_item c i]
    have := cut_in (s := s) (e := e) (n := p.n) (by omega) hst (i := i) (by rw [c.n] at hi; omega)
    refine h.1 _ (mem_adr.mpr ⟨(cutStart s st p.n + i * st.getD 1).toNat, by omega, ?_⟩)
    rw [Int.toNat_of_nonneg this.1]
  · have := cutMany_le (s := s) (e := e) (n := p.n) (by omega) hst
    rw [c.n]; have := h.2.1; omega
theorem Rel.cut {p q p' q' : Pl} {s e st : Option Int} (r : Rel p q) (c : CutPl p p' s e st) (m : MCut q q' s e st) (hst : StepOk st) : Rel p' q' := by
  obtain ⟨m1, m2, m3, m4, m5, m6, m7⟩ := m
  refine ⟨by rw [c.n, m5, r.n], by rw [c.s, m6, r.s], by rw [c.wd, m3, r.wd], by rw [c.kd, m2, r.kd], fun h => ?_⟩
  rw [c.n] at h
  have hm := cutMany_le (s := s) (e := e) (n := p.n) (by omega) hst
  have h0 := cutPl_get (s := s) (e := e) (st := st) (n := p.n) (i := 0) (by omega)
  rw [c.pl, m7, r.pl (by omega), r.s, ← r.n]
  have : (cutPl s e st p.n ++ [0]).getD 0 0 = cutStart s st p.n := by
    cases hc : cutPl s e st p.n with
    | nil => rw [hc] at h0; cases h0
    | cons x xs => rw [hc] at h0; simp at h0; simp [h0]
  rw [this, Int.mul_comm]
theorem step_lt {a : Nat} {x y : Int} (hx : x.natAbs < 2 ^ a) (hy : y.natAbs < 2 ^ 70) : (x * y).natAbs < 2 ^ (a + 70) := by
  rw [Int.natAbs_mul, Nat.pow_add]
  exact Nat.mul_lt_mul'' hx hy
/-- a strided holder's items lie within its bytes -/
theorem strided_in {i m w : Nat} {s : Int} (hi : i < m) : 0 ≤ ((if 0 - s * ((m : Int) - 1) > 0 then 0 - s * ((m : Int) - 1) else 0) + 1) + i * s ∧
    ((if 0 - s * ((m : Int) - 1) > 0 then 0 - s * ((m : Int) - 1) else 0) + 1) + i * s + w ≤ (if s < 0 then -s else s) * (if (m : Int) - 1 > 0 then (m : Int) - 1 else 0) + w + 2 := by
  have e1 : (if (m : Int) - 1 > 0 then (m : Int) - 1 else 0) = (m : Int) - 1 := by split <;> omega
  rw [e1]
  by_cases hs : s < 0
  · rw [if_pos hs]
    have a1 : -s * ((m : Int) - 1) = 0 - s * ((m : Int) - 1) := by rw [Int.neg_mul]; omega
    have a2 : (i : Int) * s = -(i * -s) := by rw [Int.mul_neg]; omega
    have a3 : (i : Int) * -s ≤ ((m : Int) - 1) * -s := Int.mul_le_mul_of_nonneg_right (by omega) (by omega)
    have a4 : 0 ≤ (i : Int) * -s := Int.mul_nonneg (by omega) (by omega)
    have a5 : ((m : Int) - 1) * -s = -s * ((m : Int) - 1) := Int.mul_comm ..
    rw [a2, a1]
    generalize (i : Int) * -s = x at a3 a4
    generalize 0 - s * ((m : Int) - 1) = y at a1
    split <;> omega
  · rw [if_neg hs]
    have a3 : (i : Int) * s ≤ ((m : Int) - 1) * s := Int.mul_le_mul_of_nonneg_right (by omega) (by omega)
    have a4 : 0 ≤ (i : Int) * s := Int.mul_nonneg (by omega) (by omega)
    have a5 : ((m : Int) - 1) * s = s * ((m : Int) - 1) := Int.mul_comm ..
    have a6 : 0 ≤ s * ((m : Int) - 1) := Int.mul_nonneg (by omega) (by omega)
    generalize (i : Int) * s = x at a3 a4 ⊢
    generalize s * ((m : Int) - 1) = y at a5 a6 ⊢
    split <;> omega
end VL
end
section
set_option linter.all false
set_option maxRecDepth 100000
set_option maxHeartbeats 1000000
namespace VL
open PySem PySem.Spec PyProof.Rows L2 RZ
local macro_rules | `(tactic| walk_at "rd") => `(tactic| (simp only [tVar, tC, tOp, tUn, tTest, tB, tAnd, tOr, tNot, tAndV, tOrV, tNotV, tIf, tIfS, tSeq, tAsg, gName, tRet, tRetN, tDrop, tNext, rI, rI0, rU, rEq, rNe, scal, tCons, tNil, tCB, t2I, tChain, tCall, tMeth, tPar, tPar3, tFld, tTup, tLst, iTup, iList, iRng1, tPart, tNoPart, tBM, tBM0, tMake, tDGet, cxK, noxK, L2.wipe,
  List.append_nil, List.nil_append, List.cons_append, List.map_cons, List.map_nil, List.getElem?_cons_zero, List.getElem?_cons_succ, List.getElem?_nil, List.set_cons_zero, List.set_cons_succ, Option.some.injEq, V.int.injEq, V.bl.injEq, V.str.injEq, V.ref.injEq, exists_and_left, exists_eq_left', exists_eq_left, true_and, and_true, List.cons.injEq, if_true, if_false, Bool.false_eq_true, Bool.not_true, Bool.not_false, decide_eq_true_eq, and_assoc]))
variable {P : Program} {w : World} {mg : Str → Option Value} {base : Heap}
/-- what stays of a view and its model -/
structure Pair (H : Hp) (v d : Addr) (p q : Pl) (cs : List Int) (k : KK) : Prop where
  v : MvAt H v p
  d : ModAt H d q
  r : Rel p q
  i : PlIn cs p
  kd : p.kd = k.str
  wd : p.wd = k.wd
  fx : p.fx = false
theorem Pair.ev {X : List Addr} {H H' : Hp} {v d : Addr} {p q : Pl} {cs : List Int} {k : KK} (x : Pair H v d p q cs k) (e : Ev X H H') : Pair H' v d p q cs k := ⟨x.v.ev e, x.d.ev e, x.r, x.i, x.kd, x.wd, x.fx⟩
theorem mk_cut {H : Hp} {G : Addr → Hp → Prop} {E : XK} {s e st : Option Int} (kk : ∀ H' c, Ev [] H H' → H c = none → CutAt H' c s e st → G c H') :
    ∀ x dx, H x = none → H dx = none → dx ≠ x → spCutI [.ref x, vo s, vo e, vo st] (upd (upd H dx (.own x)) x (.ins CCut dx [])) (fun v H2 => v = .non ∧ G x H2) E :=
  fun x dx nx nd _ => ⟨x, dx, _, _, _, rfl, upd_same, fun H' e h => ⟨rfl, kk H' x (e.made nx nd) nx ⟨dx, h⟩⟩⟩
theorem lt_pow_mono {x a b : Nat} (h : x < 2 ^ a) (l : a ≤ b) : x < 2 ^ b := Nat.lt_of_lt_of_le h (Nat.pow_le_pow_right (by decide) l)
def spTwice : Sp := fun vs H Q _ => ∃ (S sc v d : Addr) (f : Nat) (p q : Pl) (cs : List Int) (k : KK), vs = [.ref S, .ref v, .ref d] ∧ StrAt H S sc (f + 11) ∧ Pair H v d p q cs k ∧ p.s.natAbs < 2 ^ 10 ∧
  ∀ H' t v' d' p' q', Ev [S, sc] H H' → StrAt H' S sc f → H' t = some (.tup [.ref v', .ref d']) → Pair H' v' d' p' q' cs k → p'.m = p.m → p'.c = p.c → q'.c = q.c → p'.s.natAbs < 2 ^ 150 → Q (.ref t) H'
theorem ok_l_w_cut_twice (h : MgOk w.params mg) : FnOk P w (K w.params) mg base CX0 12 af_l_w_cut_twice fdf_l_w_cut_twice ["_law_stream", "_law_view", "_law_m"] spTwice := by
  refine Fun.ok (sp := spTwice) (Ff_l_w_cut_twice w.params) scf_l_w_cut_twice (fun vs H Q E hs => by first | (obtain ⟨rfl, _⟩ := hs; rfl) | (obtain ⟨_, rfl, _⟩ := hs; rfl) | (obtain ⟨_, _, rfl, _⟩ := hs; rfl) | (obtain ⟨_, _, _, rfl, _⟩ := hs; rfl) | (obtain ⟨_, _, _, _, rfl, _⟩ := hs; rfl) | (obtain ⟨_, _, _, _, _, rfl, _⟩ := hs; rfl) | (obtain ⟨_, _, _, _, _, _, rfl, _⟩ := hs; rfl) | (obtain ⟨_, _, _, _, _, _, _, rfl, _⟩ := hs; rfl) | (obtain ⟨_, _, _, _, _, _, _, _, rfl, _⟩ := hs; rfl) | (obtain ⟨_, _, _, _, _, _, _, _, _, rfl, _⟩ := hs; rfl) | (obtain ⟨_, _, _, _, _, _, _, _, _, _, rfl, _⟩ := hs; rfl) | (obtain ⟨_, _, _, _, _, _, _, _, _, _, _, rfl, _⟩ := hs; rfl) | (obtain ⟨_, _, _, _, _, _, _, _, _, _, _, _, rfl, _⟩ := hs; rfl) | (obtain ⟨_, _, _, _, _, _, _, _, _, _, _, _, _, rfl, _⟩ := hs; rfl) | (obtain ⟨_, _, _, _, _, _, _, _, _, _, _, _, _, _, rfl, _⟩ := hs; rfl) | (obtain ⟨_, _, _, _, _, _, _, _, _, _, _, _, _, _, _, rfl, _⟩ := hs; rfl) | (obtain ⟨_, _, _, _, _, _, _, _, _, _, _, _, _, _, _, _, rfl, _⟩ := hs; rfl) | (obtain ⟨_, _, _, _, _, _, _, _, _, _, _, _, _, _, _, _, _, rfl, _⟩ := hs; rfl) | (obtain ⟨_, _, _, _, _, _, _, _, _, _, _, _, _, _, _, _, _, _, rfl, _⟩ := hs; rfl) | (obtain ⟨_, _, _, _, _, _, _, _, _, _, _, _, _, _, _, _, _, _, _, rfl, _⟩ := hs; rfl) | (obtain ⟨_, _, _, _, _, _, _, _, _, _, _, _, _, _, _, _, _, _, _, _, rfl, _⟩ := hs; rfl) | (obtain ⟨_, _, _, _, _, _, _, _, _, _, _, _, _, _, _, _, _, _, _, _, _, rfl, _⟩ := hs; rfl)) (fun cdv A outer s H vs Q E hr hq => ?_)
  obtain ⟨S, sc, v, d, f, p, q, cs, k, rfl, hS, hp, hs, qq⟩ := hq
  have hu := hu_of hr
  refine ⟨_, (pss_cons (ps_for PassesOwn.never rfl (pi_range1 rfl (n_range h) (pa_cons (pe_call (ok_l_draw h) (hr.mono (by decide)) (by rfl) (gf_l_draw h) (Ff_l_draw w.params).kp (bf_l_draw w.params) .nil pass0 (pa_cons (pv 0) (pa_cons pe_int pa_nil))) pa_nil)) (pg_name (i := 3) scf_l_w_cut_twice.nd rfl (Or.inl rfl)) (pss_cons (ps_set (i := 4) scf_l_w_cut_twice.nd rfl (Or.inl rfl) (pe_call (ok_l_cut h) (hr.mono (by decide)) (by rfl) (gf_l_cut h) (Ff_l_cut w.params).kp (bf_l_cut w.params) .nil pass0 (pa_cons (pv 0) (pa_cons (pe_ix ix_tup (pe_dget hu (pv 2) pe_str (fun _ _ => rfl)) pe_int (fun _ _ => rfl)) pa_nil))))
      (pss_one (ps_par (i := 1) (j := 2) (by rfl) scf_l_w_cut_twice.nd rfl rfl (by decide) rfl rfl (pa_cons (pe_meth (pv 1) (cl_MemoryView w.params) (mt_MemoryView_item w.params) (ok_mv_item h) (hr.mono (by decide)) (bm_mv_item w.params) .nil pass0 (pa_cons (pe_make (mk_Cut w.params) (ok_cut_init h) (hr.mono (by decide)) (by rfl) (g_Cut h) (bm_cut_init w.params) .nil pass0 (pa_cons (pe_ix ix_tup (pv 4) pe_int (fun _ _ => rfl)) (pa_cons (pe_ix ix_tup (pv 4) pe_int (fun _ _ => rfl)) (pa_cons (pe_ix ix_tup (pv 4) pe_int (fun _ _ => rfl)) pa_nil)))) pa_nil)) (pa_cons (pe_call (ok_l_w_cut h) (hr.mono (by decide)) (by rfl) (gf_l_w_cut h) (Ff_l_w_cut w.params).kp (bf_l_w_cut w.params) .nil pass0 (pa_cons (pv 2) (pa_cons (pv 4) pa_nil))) pa_nil)) (by rfl)))))
      (pss_one (ps_ret (pe_tup (pa_cons (pv 1) (pa_cons (pv 2) pa_nil)))))), ?_⟩
  rw [stf_l_w_cut_twice]
  refine freeze fun R2 hR2 => ?_
  try walk_at "rd"
  refine ⟨_, rfl, S, sc, f + 10, 3, rfl, hS, by decide, by decide, fun H1 n e1 hS1 n0 n1 => ?_⟩
  obtain ⟨n, rfl⟩ := Int.eq_ofNat_of_zero_le n0
  refine ⟨n, rfl, by omega, by omega, ?_⟩
  rw [Int.toNat_natCast]
  refine for_it walk_range (fun i σ H' => Ev [S, sc] H H' ∧ StrAt H' S sc (f + 5 * (n - i)) ∧ ∃ v' d' p' q' x y, Pair H' v' d' p' q' cs k ∧ p'.m = p.m ∧ p'.c = p.c ∧ q'.c = q.c ∧ p'.s.natAbs < 2 ^ (10 + 70 * i) ∧ σ = [some (V.ref S), some (V.ref v'), some (V.ref d'), x, y])
    ⟨e1, hS1.le (by omega), v, d, p, q, _, _, hp.ev e1, rfl, rfl, rfl, hs, rfl⟩ (fun _ _ _ _ _ => trivial) (fun i x σ H' H'' hi pv y => ?_) (fun σ H' pv => ?_)
  · obtain ⟨rfl, rfl⟩ := y
    obtain ⟨e, hS2, v', d', p', q', x, y, hp', em, ec, eq, hs', rfl⟩ := pv
    refine freeze fun R3 hR3 => ?_
    try walk_at "rd"
    refine ⟨_, hp'.d.shape, q'.sz, _, 0, _, rfl, rfl, SqT.of hp'.d.2.1, rfl, ?_⟩
    have hn := hp'.i.2.1
    refine ⟨S, sc, f + 5 * (n - (i + 1)), q'.n, rfl, by rw [show f + 5 * (n - (i + 1)) + 5 = f + 5 * (n - i) by omega]; exact hS2, by rw [← hp'.r.n]; exact hn, fun H3 t s0 e0 st e3 hS3 ht hst => ?_⟩
    have hp3 := hp'.ev e3
    subst hR3
    try walk_at "rd"
    have w8 := k.wd8
    have cm := cutMany_le (s := s0) (e := e0) (n := p'.n) (by omega) hst
    obtain ⟨_, dx, b, ir, ic, ml, hr0, _⟩ := id hp3.v
    refine ⟨dx, _, hr0, rfl, t, _, 0, _, rfl, rfl, SqT.of ht, rfl, t, _, 1, _, rfl, rfl, SqT.of ht, rfl, t, _, 2, _, rfl, rfl, SqT.of ht, rfl, ?_⟩
    refine mk_cut fun H4 c e4 nc hc => ?_
    have hp4 := hp3.ev e4
    refine ⟨v', c, p', s0, e0, st, rfl, hp4.v, hc, hst.1, hst.lt, by rw [hp'.wd]; exact w8, lt_pow_mono hs' (by omega), hn, by omega, fun H5 v2 p2 e5 nv2 hv2 hcp => ?_⟩
    refine ⟨d', t, q', s0, e0, st, rfl, hp4.d.ev e5, e5.tup (e4.tup ht), hst, by rw [← hp'.r.n]; exact hn, by rw [← hp'.r.s]; exact lt_pow_mono hs' (by omega), fun H6 d2 q2 e6 hd2 hmc => ?_⟩
    have e46 := (e4.trans e5).trans e6
    refine ⟨(e.trans e3).trans e46.of0, hS3.ev e46, v2, d2, p2, q2, ⟨hv2.ev e6, hd2, hp'.r.cut hcp hmc hst, hp'.i.cut hcp hst, ?_, ?_, ?_⟩, ?_, ?_, ?_, ?_, rfl, rfl, _, rfl⟩
    · rw [hcp.kd]; exact hp'.kd
    · rw [hcp.wd]; exact hp'.wd
    · rw [hcp.fx]; exact hp'.fx
    · rw [hcp.m, em]
    · rw [hcp.c, ec]
    · rw [hmc.1, eq]
    · rw [hcp.s, show 10 + 70 * (i + 1) = (10 + 70 * i) + 70 by omega]
      exact step_lt hs' hst.lt
  · obtain ⟨e, hS2, v', d', p', q', x, y, hp', em, ec, eq, hs', rfl⟩ := pv
    subst hR2
    refine ⟨_, rfl, _, rfl, by simp [sizeLine], fun t nt => ?_⟩
    refine qq _ t v' d' p' q' (e.trans (Ev.new nt)) ((hS2.ev (Ev.new nt)).le (by omega)) upd_same (hp'.ev (X := []) (Ev.new nt)) em ec eq (lt_pow_mono hs' (by omega))
end VL
end
section
set_option linter.all false
set_option maxRecDepth 100000
set_option maxHeartbeats 1000000
namespace VL
open PySem PySem.Spec PyProof.Rows L2 RZ
local macro_rules | `(tactic| walk_at "rd") => `(tactic| (simp only [tVar, tC, tOp, tUn, tTest, tB, tAnd, tOr, tNot, tAndV, tOrV, tNotV, tIf, tIfS, tSeq, tAsg, gName, tRet, tRetN, tDrop, tNext, rI, rI0, rU, rEq, rNe, scal, tCons, tNil, tCB, t2I, tChain, tCall, tMeth, tPar, tPar3, tFld, tTup, tLst, iTup, iList, iRng1, tPart, tNoPart, tBM, tBM0, tMake, tDGet, cxK, noxK, L2.wipe,
  List.append_nil, List.nil_append, List.cons_append, List.map_cons, List.map_nil, List.getElem?_cons_zero, List.getElem?_cons_succ, List.getElem?_nil, List.set_cons_zero, List.set_cons_succ, Option.some.injEq, V.int.injEq, V.bl.injEq, V.str.injEq, V.ref.injEq, exists_and_left, exists_eq_left', exists_eq_left, true_and, and_true, List.cons.injEq, if_true, if_false, Bool.false_eq_true, Bool.not_true, Bool.not_false, decide_eq_true_eq, and_assoc]))
variable {P : Program} {w : World} {mg : Str → Option Value} {base : Heap}
def Hol (H : Hp) (h : Addr) (p : Pl) (N : Nat) : Prop := (BaAt H h p.m p.c ∧ p.pl = 0 ∧ p.wd = 1 ∧ p.kd = "B" ∧ p.s = 1 ∧ p.fx = false ∧ N = p.n) ∨ StAt H h p
theorem Hol.ev {X : List Addr} {H H' : Hp} {h : Addr} {p : Pl} {N : Nat} (k : Hol H h p N) (e : Ev X H H') : Hol H' h p N := by
  rcases k with ⟨k, r⟩ | k
  · exact .inl ⟨k.ev e, r⟩
  · exact .inr (k.ev e)
theorem Hol.hold {H : Hp} {h : Addr} {p : Pl} {cs : List Int} (k : Hol H h p cs.length) (hc : H p.c = some (.lst (cs.map .int))) : HoldAt H h p ∧ BasAt H h := by
  rcases k with ⟨k, a, b, c, d, f, l⟩ | k
  · exact ⟨.inr (.inl ⟨k, a, b, c, d, f, _, hc, by rw [List.length_map]; exact l⟩), .inl ⟨_, _, k⟩⟩
  · exact ⟨.inr (.inr k), .inr ⟨_, k⟩⟩
/-- a holder and the model of a view of it -/
structure Sha (H : Hp) (S sc h d : Addr) (p q : Pl) (cs : List Int) (k : KK) : Prop where
  h : Hol H h p cs.length
  d : ModAt H d q
  r : Rel p q
  i : PlIn cs p
  b : Bs cs
  kd : p.kd = k.str
  wd : p.wd = k.wd
  fx : p.fx = false
  pc : H p.c = some (.lst (cs.map .int))
  qc : H q.c = some (.lst (cs.map .int))
  ne : p.c ≠ q.c
  np : p.c ∉ [S, sc]
  nq : q.c ∉ [S, sc]
  s : p.s.natAbs < 2 ^ 10
  l : cs.length < 1000
theorem mk_ba {H : Hp} {G : Addr → Hp → Prop} {E : XK} {a : Addr} {d : List Int} (ha : H a = some (.tup (d.map .int))) (hb : Bs d) (hl : d.length < 1000) (kk : ∀ H' x m c, Ev [] H H' → BaAt H' x m c → H c = none → H' c = some (.lst (d.map .int)) → G x H') :
    ∀ x dx, H x = none → H dx = none → dx ≠ x → spBaI [.ref x, .ref a] (upd (upd H dx (.own x)) x (.ins CByteArray dx [])) (fun v H2 => v = .non ∧ G x H2) E :=
  fun x dx nx nd _ => ⟨x, dx, a, d, rfl, upd_same, (make_ev nx nd).tup ha, hb, hl, fun H' m c e h1 h2 nc h3 => ⟨rfl, kk H' x m c (e.made nx nd) ⟨⟨dx, 0, h1⟩, h2⟩ ((make_ev nx nd).free nc) h3⟩⟩
theorem mk_st {H : Hp} {G : Addr → Hp → Prop} {E : XK} {a z t : Addr} {k : KK} {d : List Int} {n : Nat} {s pl : Int} (ha : H a = some (.tup (d.map .int))) (hb : Bs d) (hl : d.length < 1000) (hz : H z = some (.tup [.int n])) (ht : H t = some (.tup [.int s])) (hn : n < 1000) (hin : ∀ i : Nat, i < n → InB d (pl + i * s) k.wd)
    (kk : ∀ H' x m c z' t', Ev [] H H' → StAt H' x ⟨m, c, pl, k.wd, k.str, z', t', n, s, false⟩ → H c = none → H' c = some (.lst (d.map .int)) → G x H') :
    ∀ x dx, H x = none → H dx = none → dx ≠ x → spStI [.ref x, .ref a, .str k.str, .ref z, .ref t, .int pl, .bl true] (upd (upd H dx (.own x)) x (.ins CStrided dx [])) (fun v H2 => v = .non ∧ G x H2) E :=
  fun x dx nx nd _ => ⟨x, dx, a, z, t, k, d, n, s, pl, rfl, upd_same, (make_ev nx nd).tup ha, hb, hl, (make_ev nx nd).tup hz, (make_ev nx nd).tup ht, hn, hin, fun H' m c z' t' e h1 nc h3 => ⟨rfl, kk H' x m c z' t' (e.made nx nd) h1 ((make_ev nx nd).free nc) h3⟩⟩
def spShared : Sp := fun vs H Q _ => ∃ (S sc : Addr) (f : Nat), vs = [.ref S] ∧ StrAt H S sc (f + 500) ∧
  ∀ H' t h d p q cs k, Ev [S, sc] H H' → StrAt H' S sc f → H' t = some (.tup [.ref h, .ref d]) → Sha H' S sc h d p q cs k → Q (.ref t) H'
theorem ok_l_w_shared (h : MgOk w.params mg) : FnOk P w (K w.params) mg base CX0 8 af_l_w_shared fdf_l_w_shared ["_law_stream"] spShared := by
  refine Fun.ok (sp := spShared) (Ff_l_w_shared w.params) scf_l_w_shared (fun vs H Q E hs => by first | (obtain ⟨rfl, _⟩ := hs; rfl) | (obtain ⟨_, rfl, _⟩ := hs; rfl) | (obtain ⟨_, _, rfl, _⟩ := hs; rfl) | (obtain ⟨_, _, _, rfl, _⟩ := hs; rfl) | (obtain ⟨_, _, _, _, rfl, _⟩ := hs; rfl) | (obtain ⟨_, _, _, _, _, rfl, _⟩ := hs; rfl) | (obtain ⟨_, _, _, _, _, _, rfl, _⟩ := hs; rfl) | (obtain ⟨_, _, _, _, _, _, _, rfl, _⟩ := hs; rfl) | (obtain ⟨_, _, _, _, _, _, _, _, rfl, _⟩ := hs; rfl) | (obtain ⟨_, _, _, _, _, _, _, _, _, rfl, _⟩ := hs; rfl) | (obtain ⟨_, _, _, _, _, _, _, _, _, _, rfl, _⟩ := hs; rfl) | (obtain ⟨_, _, _, _, _, _, _, _, _, _, _, rfl, _⟩ := hs; rfl) | (obtain ⟨_, _, _, _, _, _, _, _, _, _, _, _, rfl, _⟩ := hs; rfl) | (obtain ⟨_, _, _, _, _, _, _, _, _, _, _, _, _, rfl, _⟩ := hs; rfl) | (obtain ⟨_, _, _, _, _, _, _, _, _, _, _, _, _, _, rfl, _⟩ := hs; rfl) | (obtain ⟨_, _, _, _, _, _, _, _, _, _, _, _, _, _, _, rfl, _⟩ := hs; rfl) | (obtain ⟨_, _, _, _, _, _, _, _, _, _, _, _, _, _, _, _, rfl, _⟩ := hs; rfl) | (obtain ⟨_, _, _, _, _, _, _, _, _, _, _, _, _, _, _, _, _, rfl, _⟩ := hs; rfl) | (obtain ⟨_, _, _, _, _, _, _, _, _, _, _, _, _, _, _, _, _, _, rfl, _⟩ := hs; rfl) | (obtain ⟨_, _, _, _, _, _, _, _, _, _, _, _, _, _, _, _, _, _, _, rfl, _⟩ := hs; rfl) | (obtain ⟨_, _, _, _, _, _, _, _, _, _, _, _, _, _, _, _, _, _, _, _, rfl, _⟩ := hs; rfl) | (obtain ⟨_, _, _, _, _, _, _, _, _, _, _, _, _, _, _, _, _, _, _, _, _, rfl, _⟩ := hs; rfl)) (fun cdv A outer s H vs Q E hr hq => ?_)
  obtain ⟨S, sc, f, rfl, hS, qq⟩ := hq
  obtain ⟨dsS, vS, bS⟩ := bm_st_init w.params
  refine ⟨_, (pss_cons (ps_par (i := 1) (j := 2) (by rfl) scf_l_w_shared.nd rfl rfl (by decide) rfl rfl (pa_cons (pe_call (ok_l_pick_s h) (hr.mono (by decide)) (by rfl) (gf_l_pick h) (Ff_l_pick w.params).kp (bf_l_pick w.params) .nil pass0 (pa_cons (pv 0) (pa_cons pe_str pa_nil))) (pa_cons (pe_call (ok_l_draw h) (hr.mono (by decide)) (by rfl) (gf_l_draw h) (Ff_l_draw w.params).kp (bf_l_draw w.params) .nil pass0 (pa_cons (pv 0) (pa_cons pe_int pa_nil))) pa_nil)) (by rfl))
      (pss_cons (ps_set (i := 3) scf_l_w_shared.nd rfl (Or.inl rfl) (pe_call (ok_l_w_size h) (hr.mono (by decide)) (by rfl) (gf_l_w_size h) (Ff_l_w_size w.params).kp (bf_l_w_size w.params) .nil pass0 (pa_cons (pv 1) pa_nil)))
      (pss_cons (ps_if (pt_cmpR op_eq (pe_call (ok_l_draw h) (hr.mono (by decide)) (by rfl) (gf_l_draw h) (Ff_l_draw w.params).kp (bf_l_draw w.params) .nil pass0 (pa_cons (pv 0) (pa_cons pe_int pa_nil))) pe_int (nomark _)) (pss_cons (ps_set (i := 4) scf_l_w_shared.nd rfl (Or.inl rfl) (pe_call (ok_l_bytes h) (hr.mono (by decide)) (by rfl) (gf_l_bytes h) (Ff_l_bytes w.params).kp (bf_l_bytes w.params) .nil pass0 (pa_cons (pv 0) (pa_cons (pe_op op_mul pe_int (pv 2)) pa_nil))))
      (pss_one (ps_ret (pe_tup (pa_cons (pe_make (mk_ByteArray w.params) (ok_ba_init h) (hr.mono (by decide)) (by rfl) (g_ByteArray h) (bm_ba_init w.params) .nil pass0 (pa_cons (pv 4) pa_nil)) (pa_cons (pe_call (ok_l_w_model h) (hr.mono (by decide)) (by rfl) (gf_l_w_model h) (Ff_l_w_model w.params).kp (bf_l_w_model w.params) .nil pass0 (pa_cons (pv 4) (pa_cons pe_str (pa_cons pe_int (pa_cons (pe_tup (pa_cons (pe_op op_mul pe_int (pv 2)) pa_nil)) (pa_cons (pe_tup (pa_cons pe_int pa_nil)) (pa_cons pe_int (pa_cons pe_bl pa_nil)))))))) pa_nil)))))) pss_nil)
      (pss_cons (ps_set (i := 5) scf_l_w_shared.nd rfl (Or.inl rfl) (pe_call (ok_l_pick h) (hr.mono (by decide)) (by rfl) (gf_l_pick h) (Ff_l_pick w.params).kp (bf_l_pick w.params) .nil pass0 (pa_cons (pv 0) (pa_cons (pe_lst (pa_cons pe_int (pa_cons pe_int (pa_cons (pe_un un_neg pe_int) (pa_cons (pv 3) (pa_cons (pe_op op_sub pe_int (pv 3)) (pa_cons (pe_op op_add (pv 3) pe_int) (pa_cons pe_int pa_nil)))))))) pa_nil))))
      (pss_cons (ps_set (i := 6) scf_l_w_shared.nd rfl (Or.inl rfl) (pe_op op_add (pe_callB (call_max2 rfl) (by rfl) (n_max h) (by decide +kernel) (pa_cons pe_int (pa_cons (pe_op op_sub pe_int (pe_op op_mul (pv 5) (pe_op op_sub (pv 2) pe_int))) pa_nil))) pe_int))
      (pss_cons (ps_set (i := 4) scf_l_w_shared.nd rfl (Or.inl rfl) (pe_call (ok_l_bytes h) (hr.mono (by decide)) (by rfl) (gf_l_bytes h) (Ff_l_bytes w.params).kp (bf_l_bytes w.params) .nil pass0 (pa_cons (pv 0) (pa_cons (pe_op op_add (pe_op op_add (pe_op op_mul (pe_callB call_abs (by rfl) (n_abs h) (by decide +kernel) (pa_cons (pv 5) pa_nil)) (pe_callB (call_max2 rfl) (by rfl) (n_max h) (by decide +kernel) (pa_cons pe_int (pa_cons (pe_op op_sub (pv 2) pe_int) pa_nil)))) (pv 3)) pe_int) pa_nil))))
      (pss_cons (ps_set (i := 7) scf_l_w_shared.nd rfl (Or.inl rfl) (pe_make (mk_Strided w.params) (ok_st_init h) (hr.mono (by decide)) (by rfl) (g_Strided h) bS vS pass0 (pa_cons (pv 4) (pa_cons (pv 1) (pa_cons (pe_tup (pa_cons (pv 2) pa_nil)) (pa_cons (pe_tup (pa_cons (pv 5) pa_nil)) (pa_cons (pv 6) pa_nil)))))))
      (pss_one (ps_ret (pe_tup (pa_cons (pv 7) (pa_cons (pe_call (ok_l_w_model h) (hr.mono (by decide)) (by rfl) (gf_l_w_model h) (Ff_l_w_model w.params).kp (bf_l_w_model w.params) .nil pass0 (pa_cons (pv 4) (pa_cons (pv 1) (pa_cons (pv 3) (pa_cons (pe_tup (pa_cons (pv 2) pa_nil)) (pa_cons (pe_tup (pa_cons (pv 5) pa_nil)) (pa_cons (pv 6) (pa_cons pe_bl pa_nil)))))))) pa_nil)))))))))))), ?_⟩
  rw [stf_l_w_shared]
  refine freeze fun R2 hR2 => ?_
  try walk_at "rd"
  refine ⟨S, sc, f + 499, rfl, hS, fun H1 k e1 hS1 => ?_⟩
  refine ⟨S, sc, f + 498, 13, rfl, hS1, by decide, by decide, fun H2 m e2 hS2 m0 m1 => ?_⟩
  obtain ⟨m, rfl⟩ := Int.eq_ofNat_of_zero_le m0
  have e12 := e1.trans e2
  have w8 := k.wd8
  have w0 := k.wd0
  subst hR2
  refine freeze fun R3 hR3 => ?_
  try walk_at "rd"
  refine ⟨k, rfl, fun H3 e3 => ?_⟩
  have e13 := e12.trans e3.of0
  subst hR3
  refine freeze fun R4 hR4 => ?_
  try walk_at "rd"
  refine ⟨S, sc, f + 497, 2, rfl, hS2.ev e3, by decide, by decide, fun H4 u e4 hS4 u0 u1 => ?_⟩
  have e14 := e13.trans e4
  try walk_at "rd"
  by_cases hu0 : u = 0
  · rw [if_pos (by rw [hu0])]
    try walk_at "rd"
    have em2 : 2 * (m : Int) = ((2 * m : Nat) : Int) := by omega
    rw [em2]
    refine ⟨.inl ⟨by decide, by decide⟩, S, sc, f + 400, 2 * m, rfl, hS4.le (by omega), by omega, fun H5 a d e5 hS5 ha hl hb => ?_⟩
    refine mk_ba ha hb (by omega) fun H6 x mm c e6 hba nc hc => ?_
    refine ⟨.inl ⟨by decide, by decide⟩, by simp [sizeLine], fun z nz => ?_⟩
    obtain ⟨H7, H7_eq, e7, hz⟩ := newq (.tup [V.int ((2 * m : Nat) : Int)]) nz
    rw [← H7_eq]
    clear H7_eq
    refine ⟨by simp [sizeLine], fun t nt => ?_⟩
    obtain ⟨H8, H8_eq, e8, ht⟩ := newq (.tup [V.int 1]) nt
    rw [← H8_eq]
    clear H8_eq
    have e58 := e6.trans (e7.trans e8)
    refine ⟨a, z, t, d, ⟨mm, 0, 0, 1, "B", z, t, 2 * m, 1, false⟩, rfl, e58.tup ha, e8.tup hz, ht, fun H9 dd c2 e9 nc2 hc2 hd => ?_⟩
    have e59 := e58.trans e9
    refine ⟨by simp [sizeLine], fun T nT => ?_⟩
    have e5T := e59.trans (Ev.new (o := .tup [V.ref x, V.ref dd]) nT)
    have ev := (Ev.new (X := []) (o := .tup [V.ref x, V.ref dd]) nT)
    have hc9 := ((e7.trans e8).trans e9).lst hc
    refine qq _ T x dd ⟨mm, c, 0, 1, "B", mm, mm, 2 * m, 1, false⟩ ⟨mm, c2, 0, 1, "B", z, t, 2 * m, 1, false⟩ d .B ((e14.trans e5).trans e5T.of0) ((hS5.ev e5T).le (by omega)) upd_same ⟨.inl ⟨(((hba.ev (e7.trans e8)).ev e9).ev ev), rfl, rfl, rfl, rfl, rfl, hl⟩, hd.ev ev, ⟨rfl, rfl, rfl, rfl, fun _ => rfl⟩, plIn_id rfl rfl hl.symm rfl (by omega), hb, rfl, rfl, rfl, ev.lst hc9, ev.lst hc2, ?_, hS5.neS nc, ?_, (show (1 : Int).natAbs < 2 ^ 10 by decide), by omega⟩
    · intro z; subst z; rw [(e7.trans e8).lst hc] at nc2; cases nc2
    · exact hS5.neS (e58.free nc2)
  · rw [if_neg (fun z => hu0 (by cases z; rfl))]
    subst hR4
    refine freeze fun R5 hR5 => ?_
    try walk_at "rd"
    refine ⟨by simp [sizeLine], fun l nl => ?_⟩
    obtain ⟨H5, H5_eq, e5, hl5⟩ := newq (.lst [V.int 0, V.int 1, V.int (-1), V.int ↑k.wd, V.int (0 - ↑k.wd), V.int (↑k.wd + 1), V.int 2]) nl
    rw [← H5_eq]
    clear H5_eq
    refine ⟨S, sc, l, f + 496, _, rfl, hS4.ev e5, hl5, hS4.neS nl, by simp, by simp, fun H6 j x e6 hS6 hx => ?_⟩
    have e46 : Ev [S, sc] H4 H6 := e5.of0.trans e6
    have hx' : ∃ s : Int, x = .int s ∧ -9 ≤ s ∧ s ≤ 9 := by
      have := List.mem_of_getElem? hx
      simp only [List.mem_cons, List.not_mem_nil, or_false] at this
      rcases this with rfl | rfl | rfl | rfl | rfl | rfl | rfl <;> exact ⟨_, rfl, by omega, by omega⟩
    obtain ⟨s1, rfl, s0, s9⟩ := hx'
    subst hR5
    refine freeze fun R6 hR6 => ?_
    try walk_at "rd"
    refine ⟨.inl ⟨by omega, by omega⟩, ?_⟩
    subst hR6
    refine freeze fun R7 hR7 => ?_
    try walk_at "rd"
    have si := fun (i : Nat) (hi : i < m) => strided_in (s := s1) (w := k.wd) hi
    have hab : 0 ≤ (if s1 < 0 then -s1 else s1) ∧ (if s1 < 0 then -s1 else s1) ≤ 9 := by split <;> omega
    have hbb : 0 ≤ (if (m : Int) - 1 > 0 then (m : Int) - 1 else 0) ∧ (if (m : Int) - 1 > 0 then (m : Int) - 1 else 0) ≤ 12 := by split <;> omega
    have hpp : 0 ≤ (if s1 < 0 then -s1 else s1) * (if (m : Int) - 1 > 0 then (m : Int) - 1 else 0) := Int.mul_nonneg hab.1 hbb.1
    have hpq : (if s1 < 0 then -s1 else s1) * (if (m : Int) - 1 > 0 then (m : Int) - 1 else 0) ≤ 9 * 12 := Int.mul_le_mul hab.2 hbb.2 hbb.1 (by decide)
    have cm : CMul (if s1 < 0 then -s1 else s1) (if (m : Int) - 1 > 0 then (m : Int) - 1 else 0) := .inl ⟨by omega, by omega⟩
    refine ⟨cm, ?_⟩
    generalize ((if s1 < 0 then -s1 else s1) * if (m : Int) - 1 > 0 then (m : Int) - 1 else 0) = pr at si hpp hpq ⊢
    generalize (if 0 - s1 * ((m : Int) - 1) > 0 then 0 - s1 * ((m : Int) - 1) else 0) + 1 = pl at si ⊢
    obtain ⟨N, hN⟩ := Int.eq_ofNat_of_zero_le (show 0 ≤ pr + (k.wd : Int) + 2 by omega)
    rw [hN] at si ⊢
    refine ⟨S, sc, f + 100, N, rfl, hS6.le (by omega), by omega, fun H7 a d e7 hS7 ha hl hb => ?_⟩
    subst hR7
    refine freeze fun R8 hR8 => ?_
    try walk_at "rd"
    refine ⟨by simp [sizeLine], fun z nz => ?_⟩
    obtain ⟨H8, H8_eq, e8, hz⟩ := newq (.tup [V.int (m : Int)]) nz
    rw [← H8_eq]
    clear H8_eq
    refine ⟨by simp [sizeLine], fun t nt => ?_⟩
    obtain ⟨H9, H9_eq, e9, ht⟩ := newq (.tup [V.int s1]) nt
    rw [← H9_eq]
    clear H9_eq
    have e79 := e8.trans e9
    refine mk_st (e79.tup ha) hb (by omega) (e9.tup hz) ht (by omega) (fun i hi => ⟨(si i hi).1, by rw [hl]; exact (si i hi).2⟩) fun H10 x mm c z' t' e10 hst nc hc => ?_
    have e710 := e79.trans e10
    subst hR8
    try walk_at "rd"
    refine ⟨by simp [sizeLine], fun z2 nz2 => ?_⟩
    obtain ⟨H11, H11_eq, e11, hz2⟩ := newq (.tup [V.int (m : Int)]) nz2
    rw [← H11_eq]
    clear H11_eq
    refine ⟨by simp [sizeLine], fun t2 nt2 => ?_⟩
    obtain ⟨H12, H12_eq, e12', ht2⟩ := newq (.tup [V.int s1]) nt2
    rw [← H12_eq]
    clear H12_eq
    have e1012 := e11.trans e12'
    refine ⟨a, z2, t2, d, ⟨mm, 0, pl, k.wd, k.str, z2, t2, m, s1, false⟩, rfl, (e710.trans e1012).tup ha, e12'.tup hz2, ht2, fun H13 dd c2 e13' nc2 hc2 hd => ?_⟩
    refine ⟨by simp [sizeLine], fun T nT => ?_⟩
    have ev := (Ev.new (X := []) (o := .tup [V.ref x, V.ref dd]) nT)
    have e713 := (e710.trans e1012).trans e13'
    have e7T := e713.trans ev
    have hc13 := (e1012.trans e13').lst hc
    refine qq _ T x dd ⟨mm, c, pl, k.wd, k.str, z', t', m, s1, false⟩ ⟨mm, c2, pl, k.wd, k.str, z2, t2, m, s1, false⟩ d k (((e14.trans e46).trans e7).trans e7T.of0) ((hS7.ev e7T).le (by omega)) upd_same ⟨.inr ((hst.ev (e1012.trans e13')).ev ev), hd.ev ev, ⟨rfl, rfl, rfl, rfl, fun _ => rfl⟩, ⟨fun y hy => ?_, (show m < 1000 by omega), w8⟩, hb, rfl, rfl, rfl, ev.lst hc13, ev.lst hc2, ?_, hS7.neS (e79.free nc), ?_, ?_, by omega⟩
    · obtain ⟨i, hi, rfl⟩ := mem_adr.mp hy
      exact ⟨(si i hi).1, by rw [hl]; exact (si i hi).2⟩
    · intro z; subst z; rw [e1012.lst hc] at nc2; cases nc2
    · exact hS7.neS ((e710.trans e1012).free nc2)
    · show s1.natAbs < 2 ^ 10
      omega
end VL
end
section
set_option linter.all false
set_option maxRecDepth 100000
set_option maxHeartbeats 1000000
/-! Plain: what the puts write. -/
namespace VL
open PySem PySem.Spec PyProof.Rows L2
theorem PlIn.len {cs cs' : List Int} {p : Pl} (h : PlIn cs p) (l : cs'.length = cs.length) : PlIn cs' p :=
  ⟨fun x hx => by have := h.1 x hx; exact ⟨this.1, by rw [l]; exact this.2⟩, h.2⟩
theorem Bs.app {a b : List Int} (ha : Bs a) (hb : Bs b) : Bs (a ++ b) := fun x hx => by
  rcases List.mem_append.mp hx with h | h
  · exact ha x h
  · exact hb x h
theorem wrT_bs {cs row : List Int} {n : Nat} (h : Bs cs) (hr : Bs row) : Bs (wrT cs n row) :=
  Bs.app (Bs.app (fun x hx => h x (List.mem_of_mem_take hx)) hr) (fun x hx => h x (List.mem_of_mem_drop hx))
theorem wrAll_bs : ∀ {xs : List (Int × List Int)} {cs : List Int}, Bs cs → (∀ x ∈ xs, Bs x.2) → Bs (wrAll cs xs)
  | [], _, h, _ => h
  | x :: xs, cs, h, hx => wrAll_bs (xs := xs) (wrT_bs h (hx x (by simp))) (fun y hy => hx y (by simp [hy]))
theorem gat_getD {cs : List Int} {wd : Nat} : ∀ {pls : List Int} {j k : Nat} {a : Int}, pls[j]? = some a → k < wd → (gat cs pls wd).getD (j * wd + k) 0 = (rowOf cs a wd).getD k 0
  | [], j, k, a, h, _ => by simp at h
  | p :: ps, 0, k, a, h, hk => by
    simp at h
    subst h
    show (rowOf cs p wd ++ gat cs ps wd).getD (0 * wd + k) 0 = _
    rw [Nat.zero_mul, Nat.zero_add, List.getD_eq_getElem?_getD, List.getD_eq_getElem?_getD, List.getElem?_append_left (by rw [rowOf_length]; exact hk)]
  | p :: ps, j + 1, k, a, h, hk => by
    have h' : ps[j]? = some a := by simpa using h
    show (rowOf cs p wd ++ gat cs ps wd).getD ((j + 1) * wd + k) 0 = _
    rw [List.getD_eq_getElem?_getD, List.getElem?_append_right (by rw [rowOf_length, Nat.succ_mul]; omega), rowOf_length, show (j + 1) * wd + k - wd = j * wd + k by rw [Nat.succ_mul]; omega, ← List.getD_eq_getElem?_getD]
    exact gat_getD h' hk
/-- item j of the bytes -/
theorem gat_cut {cs pls : List Int} {wd j : Nat} {a : Int} (h : pls[j]? = some a) : cutV ((gat cs pls wd).map V.int) (some ((j * wd : Nat) : Int)) (some (((j * wd : Nat) : Int) + wd)) = (rowOf cs a wd).map V.int := by
  have hj : j < pls.length := (List.getElem?_eq_some_iff.mp h).1
  have hl : j * wd + wd ≤ pls.length * wd := by rw [← Nat.succ_mul]; exact Nat.mul_le_mul_right _ hj
  rw [cutV_row ⟨by omega, by rw [gat_length]; omega⟩]
  congr 1
  apply List.ext_getElem (by simp [rowOf_length])
  intro k h1 h2
  rw [rowOf_length] at h1
  have e := gat_getD (cs := cs) (wd := wd) h h1
  simp only [rowOf, List.getElem_map, List.getElem_range]
  rw [show (((j * wd : Nat) : Int) + (k : Nat)).toNat = j * wd + k by omega, e]
  simp [rowOf, h1]
/-- what is written where -/
def puts_ (cs : List Int) (p pu : Pl) (s e st : Option Int) : List (Int × List Int) := ((cutPl s e st p.n).map fun a => p.pl + a * p.s).zip ((adr pu).map fun x => rowOf cs x p.wd)
theorem puts_len {cs : List Int} {p pu : Pl} {s e st : Option Int} {m : Nat} (h1 : cutMany s e st p.n = m) (h2 : pu.n = m) : (puts_ cs p pu s e st).length = m := by
  simp [puts_, cutPl_len, adr, h1, h2]
theorem puts_get {cs : List Int} {p pu : Pl} {s e st : Option Int} {m j : Nat} (h1 : cutMany s e st p.n = m) (h2 : pu.n = m) (hj : j < m) :
    (puts_ cs p pu s e st)[j]? = some (p.pl + (cutStart s st p.n + j * st.getD 1) * p.s, rowOf cs (pu.pl + j * pu.s) p.wd) := by
  unfold puts_
  rw [List.getElem?_zip_eq_some]
  refine ⟨?_, ?_⟩
  · rw [List.getElem?_map, cutPl_get (by omega)]; rfl
  · simp [adr, h2, hj]
theorem puts_in {cs : List Int} {p pu : Pl} {s e st : Option Int} (hi : PlIn cs p) (hst : StepOk st) : (∀ a ∈ cutPl s e st p.n, InB cs (p.pl + a * p.s) p.wd) ∧ ∀ x ∈ puts_ cs p pu s e st, RowIn cs.length x := by
  have h1 : ∀ a ∈ cutPl s e st p.n, InB cs (p.pl + a * p.s) p.wd := fun a ha => by
    have := cutPl_mem (s := s) (e := e) (n := p.n) (by omega) hst a ha
    refine hi.1 _ (mem_adr.mpr ⟨a.toNat, by omega, ?_⟩)
    rw [Int.toNat_of_nonneg this.1]
  refine ⟨h1, fun x hx => ?_⟩
  have hx1 := (List.of_mem_zip hx).1
  have hx2 := (List.of_mem_zip hx).2
  simp only [List.mem_map] at hx1 hx2
  obtain ⟨a, ha1, ha2⟩ := hx1
  obtain ⟨y, _, hy2⟩ := hx2
  have := h1 a ha1
  refine ⟨by rw [← ha2]; exact this.1, ?_⟩
  rw [← ha2, ← hy2, rowOf_length]
  exact this.2
theorem puts_bs {cs : List Int} {p pu : Pl} {s e st : Option Int} (hb : Bs cs) (hi : PlIn cs pu) (hw : pu.wd = p.wd) : ∀ x ∈ puts_ cs p pu s e st, Bs x.2 := fun x hx => by
  have hx2 := (List.of_mem_zip hx).2
  simp only [List.mem_map] at hx2
  obtain ⟨y, hy, hy2⟩ := hx2
  rw [← hy2]
  exact rowOf_bs hb (by rw [← hw]; exact hi.1 y hy)
end VL
end
section
set_option linter.all false
set_option maxRecDepth 100000
set_option maxHeartbeats 1000000
namespace VL
open PySem PySem.Spec PyProof.Rows L2 RZ
local macro_rules | `(tactic| walk_at "rd") => `(tactic| (simp only [tVar, tC, tOp, tUn, tTest, tB, tAnd, tOr, tNot, tAndV, tOrV, tNotV, tIf, tIfS, tSeq, tAsg, gName, tRet, tRetN, tDrop, tNext, rI, rI0, rU, rEq, rNe, scal, tCons, tNil, tCB, t2I, tChain, tCall, tMeth, tPar, tPar3, tFld, tTup, tLst, iTup, iList, iRng1, tPart, tNoPart, tBM, tBM0, tMake, tDGet, cxK, noxK, L2.wipe,
  List.append_nil, List.nil_append, List.cons_append, List.map_cons, List.map_nil, List.getElem?_cons_zero, List.getElem?_cons_succ, List.getElem?_nil, List.set_cons_zero, List.set_cons_succ, Option.some.injEq, V.int.injEq, V.bl.injEq, V.str.injEq, V.ref.injEq, exists_and_left, exists_eq_left', exists_eq_left, true_and, and_true, List.cons.injEq, if_true, if_false, Bool.false_eq_true, Bool.not_true, Bool.not_false, decide_eq_true_eq, and_assoc]))
variable {P : Program} {w : World} {mg : Str → Option Value} {base : Heap}
theorem pe_alt {X : Cx} {e : PySem.Expr} {t1 t2 : TE} (h1 : PE X e t1) (h2 : PE X e t2) : PE X e (fun σ H Q => t1 σ H Q ∨ t2 σ H Q) :=
  ⟨fun pins s σ H Q I h => h.elim (h1.run pins s σ H Q I) (h2.run pins s σ H Q I)⟩
theorem BasAt.ev {X : List Addr} {H H' : Hp} {h : Addr} (k : BasAt H h) (e : Ev X H H') : BasAt H' h := by
  rcases k with ⟨m, c, k⟩ | ⟨p, k⟩
  · exact .inl ⟨m, c, k.ev e⟩
  · exact .inr ⟨p, k.ev e⟩
theorem mk_mv {H : Hp} {G : Addr → Hp → Prop} {E : XK} {h : Addr} {p : Pl} (hk : HoldAt H h p) (hb : BasAt H h) (hw : p.wd ≤ 8) (kk : ∀ H' x z t, Ev [] H H' → MvAt H' x (p.wt z t) → G x H') :
    ∀ x dx, H x = none → H dx = none → dx ≠ x → spMvI [.ref x, .ref h] (upd (upd H dx (.own x)) x (.ins CMemoryView dx [])) (fun v H2 => v = .non ∧ G x H2) E :=
  fun x dx nx nd _ => ⟨x, dx, h, p, rfl, upd_same, hk.ev (make_ev nx nd), hb.ev (X := []) (make_ev nx nd), hw, fun H' z t e hv => ⟨rfl, kk H' x z t (e.made nx nd) hv⟩⟩
theorem slA {Kk : PySem.W.Frag} {H : Hp} {Q : VK} {a : Addr} {xs : List V} {lo hi : Option Int} (ha : H a = some (.tup xs)) (q : ∀ p H', Ev [] H H' → H' p = some (.tup (cutV xs lo hi)) → Q (.ref p) H') : rSlA Kk (.ref a) lo hi H Q :=
  ⟨a, xs, rfl, SqT.of ha, (fun h => q a H (Ev.refl _ _) (by unfold cutV; rw [h.1, h.2]; simpa using ha)), (fun _ p np => q p _ (Ev.new np) upd_same)⟩
/-- within the inner loop -/
structure Inn (H : Hp) (S sc h m one mine oth thr : Addr) (p0 q0 p q p' q' : Pl) (cs : List Int) (k : KK) : Prop where
  hol : Hol H h p0 cs.length
  md : ModAt H m q0
  a : Pair H one mine p q cs k
  b : Pair H oth thr p' q' cs k
  pc : p.c = p0.c
  pc' : p'.c = p0.c
  qc : q.c = q0.c
  qc' : q'.c = q0.c
  bs : Bs cs
  hp : H p0.c = some (.lst (cs.map .int))
  hq : H q0.c = some (.lst (cs.map .int))
  ne : p0.c ≠ q0.c
  np : p0.c ∉ [S, sc]
  nq : q0.c ∉ [S, sc]
  s : p.s.natAbs < 2 ^ 150
  s' : p'.s.natAbs < 2 ^ 150
  wd : q0.wd = k.wd
  l : cs.length < 1000
theorem Inn.ev {H H' : Hp} {S sc h m one mine oth thr : Addr} {p0 q0 p q p' q' : Pl} {cs : List Int} {k : KK} (x : Inn H S sc h m one mine oth thr p0 q0 p q p' q' cs k) (e : Ev [S, sc] H H') : Inn H' S sc h m one mine oth thr p0 q0 p q p' q' cs k :=
  ⟨x.hol.ev e, x.md.ev e, x.a.ev e, x.b.ev e, x.pc, x.pc', x.qc, x.qc', x.bs, e.lstX x.hp x.np, e.lstX x.hq x.nq, x.ne, x.np, x.nq, x.s, x.s', x.wd, x.l⟩
theorem Pair.len {H : Hp} {v d : Addr} {p q : Pl} {cs cs' : List Int} {k : KK} (x : Pair H v d p q cs k) (l : cs'.length = cs.length) : Pair H v d p q cs' k := ⟨x.v, x.d, x.r, x.i.len l, x.kd, x.wd, x.fx⟩
theorem Sha.ev {H H' : Hp} {S sc h d : Addr} {p q : Pl} {cs : List Int} {k : KK} (x : Sha H S sc h d p q cs k) (e : Ev [S, sc] H H') : Sha H' S sc h d p q cs k :=
  ⟨x.h.ev e, x.d.ev e, x.r, x.i, x.b, x.kd, x.wd, x.fx, e.lstX x.pc x.np, e.lstX x.qc x.nq, x.ne, x.np, x.nq, x.s, x.l⟩
def spLw (w : World) : Sp := fun vs H Q _ => ∃ (a : Addr) (ns : List Int), vs = [.ref a] ∧ SqL (K w.params) H a (ns.map V.int) ∧ ns.length ≤ 63 ∧ ∀ H', Q (.bl true) H'
theorem ok_lw (h : MgOk w.params mg) : FnOk P w (K w.params) mg base CX0 14 af_lw fdf_lw ["_law_script"] (spLw w) := by
  refine Fun.ok (sp := (spLw w)) (Ff_lw w.params) scf_lw (fun vs H Q E hs => by first | (obtain ⟨rfl, _⟩ := hs; rfl) | (obtain ⟨_, rfl, _⟩ := hs; rfl) | (obtain ⟨_, _, rfl, _⟩ := hs; rfl) | (obtain ⟨_, _, _, rfl, _⟩ := hs; rfl) | (obtain ⟨_, _, _, _, rfl, _⟩ := hs; rfl) | (obtain ⟨_, _, _, _, _, rfl, _⟩ := hs; rfl) | (obtain ⟨_, _, _, _, _, _, rfl, _⟩ := hs; rfl) | (obtain ⟨_, _, _, _, _, _, _, rfl, _⟩ := hs; rfl) | (obtain ⟨_, _, _, _, _, _, _, _, rfl, _⟩ := hs; rfl) | (obtain ⟨_, _, _, _, _, _, _, _, _, rfl, _⟩ := hs; rfl) | (obtain ⟨_, _, _, _, _, _, _, _, _, _, rfl, _⟩ := hs; rfl) | (obtain ⟨_, _, _, _, _, _, _, _, _, _, _, rfl, _⟩ := hs; rfl) | (obtain ⟨_, _, _, _, _, _, _, _, _, _, _, _, rfl, _⟩ := hs; rfl) | (obtain ⟨_, _, _, _, _, _, _, _, _, _, _, _, _, rfl, _⟩ := hs; rfl) | (obtain ⟨_, _, _, _, _, _, _, _, _, _, _, _, _, _, rfl, _⟩ := hs; rfl) | (obtain ⟨_, _, _, _, _, _, _, _, _, _, _, _, _, _, _, rfl, _⟩ := hs; rfl) | (obtain ⟨_, _, _, _, _, _, _, _, _, _, _, _, _, _, _, _, rfl, _⟩ := hs; rfl) | (obtain ⟨_, _, _, _, _, _, _, _, _, _, _, _, _, _, _, _, _, rfl, _⟩ := hs; rfl) | (obtain ⟨_, _, _, _, _, _, _, _, _, _, _, _, _, _, _, _, _, _, rfl, _⟩ := hs; rfl) | (obtain ⟨_, _, _, _, _, _, _, _, _, _, _, _, _, _, _, _, _, _, _, rfl, _⟩ := hs; rfl) | (obtain ⟨_, _, _, _, _, _, _, _, _, _, _, _, _, _, _, _, _, _, _, _, rfl, _⟩ := hs; rfl) | (obtain ⟨_, _, _, _, _, _, _, _, _, _, _, _, _, _, _, _, _, _, _, _, _, rfl, _⟩ := hs; rfl)) (fun cdv A outer s H vs Q E hr hq => ?_)
  obtain ⟨a, ns, rfl, ha, hl, q⟩ := hq
  have hu := hu_of hr
  refine ⟨_, (pss_cons (ps_set (i := 1) scf_lw.nd rfl (Or.inl rfl) (pe_call (ok_l_start h) (hr.mono (by decide)) (by rfl) (gf_l_start h) (Ff_l_start w.params).kp (bf_l_start w.params) .nil pass0 (pa_cons (pv 0) pa_nil)))
      (pss_cons (ps_for PassesOwn.never rfl (pi_range1 rfl (n_range h) (pa_cons pe_int pa_nil)) (pg_name (i := 2) scf_lw.nd rfl (Or.inl rfl)) (pss_cons (ps_asg (pe_call (ok_l_w_shared h) (hr.mono (by decide)) (by rfl) (gf_l_w_shared h) (Ff_l_w_shared w.params).kp (bf_l_w_shared w.params) .nil pass0 (pa_cons (pv 1) pa_nil)) (pg_tup rfl (pgs_cons (pg_name (i := 3) scf_lw.nd rfl (Or.inl rfl)) (pgs_cons (pg_name (i := 4) scf_lw.nd rfl (Or.inl rfl)) pgs_nil))))
      (pss_cons (ps_asg (pe_call (ok_l_w_cut_twice h) (hr.mono (by decide)) (by rfl) (gf_l_w_cut_twice h) (Ff_l_w_cut_twice w.params).kp (bf_l_w_cut_twice w.params) .nil pass0 (pa_cons (pv 1) (pa_cons (pe_make (mk_MemoryView w.params) (ok_mv_init h) (hr.mono (by decide)) (by rfl) (g_MemoryView h) (bm_mv_init w.params) .nil pass0 (pa_cons (pv 3) pa_nil)) (pa_cons (pv 4) pa_nil)))) (pg_tup rfl (pgs_cons (pg_name (i := 5) scf_lw.nd rfl (Or.inl rfl)) (pgs_cons (pg_name (i := 6) scf_lw.nd rfl (Or.inl rfl)) pgs_nil))))
      (pss_cons (ps_asg (pe_call (ok_l_w_cut_twice h) (hr.mono (by decide)) (by rfl) (gf_l_w_cut_twice h) (Ff_l_w_cut_twice w.params).kp (bf_l_w_cut_twice w.params) .nil pass0 (pa_cons (pv 1) (pa_cons (pe_make (mk_MemoryView w.params) (ok_mv_init h) (hr.mono (by decide)) (by rfl) (g_MemoryView h) (bm_mv_init w.params) .nil pass0 (pa_cons (pv 3) pa_nil)) (pa_cons (pv 4) pa_nil)))) (pg_tup rfl (pgs_cons (pg_name (i := 7) scf_lw.nd rfl (Or.inl rfl)) (pgs_cons (pg_name (i := 8) scf_lw.nd rfl (Or.inl rfl)) pgs_nil))))
      (pss_one (ps_for PassesOwn.never rfl (pi_range1 rfl (n_range h) (pa_cons (pe_op op_add pe_int (pe_call (ok_l_draw h) (hr.mono (by decide)) (by rfl) (gf_l_draw h) (Ff_l_draw w.params).kp (bf_l_draw w.params) .nil pass0 (pa_cons (pv 1) (pa_cons pe_int pa_nil)))) pa_nil)) (pg_name (i := 9) scf_lw.nd rfl (Or.inl rfl)) (pss_cons (ps_set (i := 10) scf_lw.nd rfl (Or.inl rfl) (pe_call (ok_l_draw h) (hr.mono (by decide)) (by rfl) (gf_l_draw h) (Ff_l_draw w.params).kp (bf_l_draw w.params) .nil pass0 (pa_cons (pv 1) (pa_cons (pe_op op_add (pe_callB (call_min2 rfl) (by rfl) (n_min h) (by decide +kernel) (pa_cons (pe_ix ix_tup (pe_dget hu (pv 6) pe_str (fun _ _ => rfl)) pe_int (fun _ _ => rfl)) (pa_cons (pe_ix ix_tup (pe_dget hu (pv 8) pe_str (fun _ _ => rfl)) pe_int (fun _ _ => rfl)) pa_nil))) pe_int) pa_nil))))
      (pss_cons (ps_set (i := 11) scf_lw.nd rfl (Or.inl rfl) (pe_call (ok_l_w_some_cut h) (hr.mono (by decide)) (by rfl) (gf_l_w_some_cut h) (Ff_l_w_some_cut w.params).kp (bf_l_w_some_cut w.params) .nil pass0 (pa_cons (pv 1) (pa_cons (pe_ix ix_tup (pe_dget hu (pv 6) pe_str (fun _ _ => rfl)) pe_int (fun _ _ => rfl)) (pa_cons (pv 10) pa_nil)))))
      (pss_cons (ps_set (i := 12) scf_lw.nd rfl (Or.inl rfl) (pe_call (ok_l_w_some_cut h) (hr.mono (by decide)) (by rfl) (gf_l_w_some_cut h) (Ff_l_w_some_cut w.params).kp (bf_l_w_some_cut w.params) .nil pass0 (pa_cons (pv 1) (pa_cons (pe_ix ix_tup (pe_dget hu (pv 8) pe_str (fun _ _ => rfl)) pe_int (fun _ _ => rfl)) (pa_cons (pv 10) pa_nil)))))
      (pss_cons (ps_par (i := 13) (j := 14) (by rfl) scf_lw.nd rfl rfl (by decide) rfl rfl (pa_cons (pe_call (ok_l_cut_of h) (hr.mono (by decide)) (by rfl) (gf_l_cut_of h) (Ff_l_cut_of w.params).kp (bf_l_cut_of w.params) .nil pass0 (pa_cons (pv 11) (pa_cons (pe_ix ix_tup (pe_dget hu (pv 6) pe_str (fun _ _ => rfl)) pe_int (fun _ _ => rfl)) pa_nil))) (pa_cons (pe_dget hu (pv 4) pe_str (fun _ _ => rfl)) pa_nil)) (by rfl))
      (pss_cons (ps_set (i := 15) scf_lw.nd rfl (Or.inl rfl) (pe_call (ok_l_w_bytes h) (hr.mono (by decide)) (by rfl) (gf_l_w_bytes h) (Ff_l_w_bytes w.params).kp (bf_l_w_bytes w.params) .nil pass0 (pa_cons (pe_call (ok_l_w_cut h) (hr.mono (by decide)) (by rfl) (gf_l_w_cut h) (Ff_l_w_cut w.params).kp (bf_l_w_cut w.params) .nil pass0 (pa_cons (pv 8) (pa_cons (pv 12) pa_nil))) (pa_cons pe_bl pa_nil))))
      (pss_cons (ps_expr (pe_meth (pv 5) (cl_MemoryView w.params) (mt_MemoryView_put w.params) (ok_mv_put h) (hr.mono (by decide)) (bm_mv_put w.params) .nil pass0 (pa_cons (pe_make (mk_Cut w.params) (ok_cut_init h) (hr.mono (by decide)) (by rfl) (g_Cut h) (bm_cut_init w.params) .nil pass0 (pa_cons (pe_ix ix_tup (pv 11) pe_int (fun _ _ => rfl)) (pa_cons (pe_ix ix_tup (pv 11) pe_int (fun _ _ => rfl)) (pa_cons (pe_ix ix_tup (pv 11) pe_int (fun _ _ => rfl)) pa_nil)))) (pa_cons (pe_meth (pv 7) (cl_MemoryView w.params) (mt_MemoryView_item w.params) (ok_mv_item h) (hr.mono (by decide)) (bm_mv_item w.params) .nil pass0 (pa_cons (pe_make (mk_Cut w.params) (ok_cut_init h) (hr.mono (by decide)) (by rfl) (g_Cut h) (bm_cut_init w.params) .nil pass0 (pa_cons (pe_ix ix_tup (pv 12) pe_int (fun _ _ => rfl)) (pa_cons (pe_ix ix_tup (pv 12) pe_int (fun _ _ => rfl)) (pa_cons (pe_ix ix_tup (pv 12) pe_int (fun _ _ => rfl)) pa_nil)))) pa_nil)) pa_nil))))
      (pss_cons (ps_for PassesOwn.never rfl (pi_range1 rfl (n_range h) (pa_cons (pv 10) pa_nil)) (pg_name (i := 16) scf_lw.nd rfl (Or.inl rfl)) (pss_cons (ps_set (i := 17) scf_lw.nd rfl (Or.inl rfl) (pe_op op_add (pe_dget hu (pv 6) pe_str (fun _ _ => rfl)) (pe_op op_mul (pe_ix ix_list (pv 13) (pv 16) (fun _ _ => rfl)) (pe_ix ix_tup (pe_dget hu (pv 6) pe_str (fun _ _ => rfl)) pe_int (fun _ _ => rfl)))))
      (pss_cons (ps_set (i := 18) scf_lw.nd rfl (Or.inl rfl) (pe_callTy call_list_of (by rfl) (n_list h) (by decide +kernel) (pa_cons (pe_slice sl_tupA (pv 15) (po_some (pe_op op_mul (pv 16) (pv 14))) (po_some (pe_op op_add (pe_op op_mul (pv 16) (pv 14)) (pv 14)))) pa_nil)))
      (pss_one (ps_asg (pv 18) (pg_slice (pe_dget hu (pv 4) pe_str (fun _ _ => rfl)) (po_some (pv 17)) (po_some (pe_op op_add (pv 17) (pv 14)))))))))
      (pss_cons (ps_if (PW.pt (pw_or (pt_not (pt_val (pe_call (ok_l_same_row h) (hr.mono (by decide)) (by rfl) (gf_l_same h) (Ff_l_same w.params).kp (bf_l_same w.params) .nil pass0 (pa_cons (pe_alt (pe_meth0 (pv 3) (cl_ByteArray w.params) (mt_ByteArray_data w.params) (ok_ba_data h) (hr.mono (by decide)) (bm_ba_data w.params) .nil pass0) (pe_meth0 (pv 3) (cl_Strided w.params) (mt_Strided_data w.params) (ok_st_data h) (hr.mono (by decide)) (bm_st_data w.params) .nil pass0)) (pa_cons (pe_callTy call_tuple_of (by rfl) (n_tuple h) (by decide +kernel) (pa_cons (pe_dget hu (pv 4) pe_str (fun _ _ => rfl)) pa_nil)) pa_nil))))) (pw_or1 (pt_not (pt_val (pe_call (ok_l_w_seen_right h) (hr.mono (by decide)) (by rfl) (gf_l_w_seen_right h) (Ff_l_w_seen_right w.params).kp (bf_l_w_seen_right w.params) .nil pass0 (pa_cons (pv 5) (pa_cons (pv 6) pa_nil)))))))) (pss_one (ps_ret pe_bl)) pss_nil)
      (pss_one (ps_if (pt_not (pt_val (pe_call (ok_l_w_seen_right h) (hr.mono (by decide)) (by rfl) (gf_l_w_seen_right h) (Ff_l_w_seen_right w.params).kp (bf_l_w_seen_right w.params) .nil pass0 (pa_cons (pv 7) (pa_cons (pv 8) pa_nil))))) (pss_one (ps_ret pe_bl)) pss_nil))))))))))))))))
      (pss_one (ps_ret pe_bl)))), ?_⟩
  rw [stf_lw]
  refine freeze fun R2 hR2 => ?_
  try walk_at "rd"
  refine ⟨a, ns, rfl, ha, hl, fun H1 S sc e1 hS => ?_⟩
  subst hR2
  refine freeze fun R3 hR3 => ?_
  try walk_at "rd"
  refine ⟨3, rfl, by decide, by decide, ?_⟩
  refine for_it walk_range (fun i σ H' => StrAt H' S sc (1000 * (3 - i)) ∧ ∃ x2 x3 x4 x5 x6 x7 x8 x9 x10 x11 x12 x13 x14 x15 x16 x17 x18, σ = [some (.ref a), some (.ref S), x2, x3, x4, x5, x6, x7, x8, x9, x10, x11, x12, x13, x14, x15, x16, x17, x18])
    ⟨hS.le (by decide), _, _, _, _, _, _, _, _, _, _, _, _, _, _, _, _, _, rfl⟩ (fun _ _ _ _ _ => trivial) (fun i_ x σ H' H2 hi pv y => ?_) (fun σ H' pv => ?_)
  · obtain ⟨rfl, rfl⟩ := y
    obtain ⟨hS, x2, x3, x4, x5, x6, x7, x8, x9, x10, x11, x12, x13, x14, x15, x16, x17, x18, rfl⟩ := pv
    have hi3 : i_ < 3 := hi
    obtain ⟨f, hf⟩ : ∃ f, 1000 * (3 - i_) = f + 1000 ∧ f = 1000 * (3 - (i_ + 1)) := ⟨1000 * (3 - (i_ + 1)), by omega, rfl⟩
    rw [hf.1] at hS
    rw [← hf.2]
    clear hf hi hi3
    refine freeze fun R4 hR4 => ?_
    try walk_at "rd"
    refine ⟨S, sc, f + 500, rfl, by rw [show f + 500 + 500 = f + 1000 by omega]; exact hS, fun H3 t hh m p0 q0 cs k e3 hS3 ht hsh => ?_⟩
    refine gTup2 ht ?_
    subst hR4
    refine freeze fun R5 hR5 => ?_
    try walk_at "rd"
    have w8 := k.wd8
    refine mk_mv (hsh.h.hold hsh.pc).1 (hsh.h.hold hsh.pc).2 (by rw [hsh.wd]; exact w8) fun H4 v1 z1 t1 e4 hv1 => ?_
    have hsh4 := hsh.ev e4.of0
    refine ⟨S, sc, v1, m, f + 489, p0.wt z1 t1, q0, cs, k, rfl, by rw [show f + 489 + 11 = f + 500 by omega]; exact hS3.ev e4, ⟨hv1, hsh4.d, ⟨hsh.r.n, hsh.r.s, hsh.r.wd, hsh.r.kd, hsh.r.pl⟩, hsh.i, hsh.kd, hsh.wd, hsh.fx⟩, hsh.s, fun H5 t5 one mine p q e5 hS5 ht5 hp5 pm5 pc5 qc5 ps5 => ?_⟩
    have hsh5 := hsh4.ev e5
    refine gTup2 ht5 ?_
    subst hR5
    refine freeze fun R6 hR6 => ?_
    try walk_at "rd"
    refine mk_mv (hsh5.h.hold hsh5.pc).1 (hsh5.h.hold hsh5.pc).2 (by rw [hsh.wd]; exact w8) fun H6 v2 z2 t2 e6 hv2 => ?_
    have hsh6 := hsh5.ev e6.of0
    refine ⟨S, sc, v2, m, f + 400, p0.wt z2 t2, q0, cs, k, rfl, (hS5.ev e6).le (by omega), ⟨hv2, hsh6.d, ⟨hsh.r.n, hsh.r.s, hsh.r.wd, hsh.r.kd, hsh.r.pl⟩, hsh.i, hsh.kd, hsh.wd, hsh.fx⟩, hsh.s, fun H7 t7 oth thr p' q' e7 hS7 ht7 hp7 pm7 pc7 qc7 ps7 => ?_⟩
    have hsh7 := hsh6.ev e7
    refine gTup2 ht7 ?_
    have inn : Inn H7 S sc hh m one mine oth thr p0 q0 p q p' q' cs k := ⟨hsh7.h, hsh7.d, (hp5.ev (e6.of0 (X := [S, sc]))).ev e7, hp7, pc5, pc7, qc5, qc7, hsh7.b, hsh7.pc, hsh7.qc, hsh7.ne, hsh7.np, hsh7.nq, ps5, ps7, by rw [← hsh.r.wd]; exact hsh.wd, hsh.l⟩
    clear e7 ht7 hp7 pm7 pc7 qc7 ps7 hsh7 hsh6 hv2 e6 hsh5 ps5 qc5 pc5 pm5 hp5 ht5 hS5 e5 hsh4 hv1 e4 hsh ht hS3 e3 hS
    subst hR6
    try walk_at "rd"
    refine ⟨_, rfl, S, sc, f + 399, 6, rfl, by rw [show f + 399 + 1 = f + 400 by omega]; exact hS7, by decide, by decide, fun H8 n e8 hS8 n0 n1 => ?_⟩
    obtain ⟨n, rfl⟩ := Int.eq_ofNat_of_zero_le n0
    refine ⟨_, _, rfl, rfl, ((n + 1 : Nat) : Int), by show [V.int (1 + (n : Int))] = _; rw [show (1 : Int) + (n : Int) = ((n + 1 : Nat) : Int) by omega], by omega, by omega, ?_⟩
    rw [Int.toNat_natCast]
    have inn8 := inn.ev e8
    clear inn hS7
    refine for_it walk_range (fun i σ H' => StrAt H' S sc (f + 5 * (n + 1 - i)) ∧ ∃ cs, Inn H' S sc hh m one mine oth thr p0 q0 p q p' q' cs k ∧ ∃ y9 y10 y11 y12 y13 y14 y15 y16 y17 y18, σ = [some (V.ref a), some (V.ref S), some (V.int (0 + (i_ : Nat))), some (V.ref hh), some (V.ref m), some (V.ref one), some (V.ref mine), some (V.ref oth), some (V.ref thr), y9, y10, y11, y12, y13, y14, y15, y16, y17, y18])
      ⟨hS8.le (by omega), cs, inn8, _, _, _, _, _, _, _, _, _, _, rfl⟩ (fun _ _ _ _ _ => trivial) (fun j_ x σ H' H9 hj pv y => ?_) (fun σ H' pv => ?_)
    · obtain ⟨rfl, rfl⟩ := y
      clear inn8 hS8 e8
      obtain ⟨hS, cs, inn, y9, y10, y11, y12, y13, y14, y15, y16, y17, y18, rfl⟩ := pv
      obtain ⟨f', hf'⟩ : ∃ f', f + 5 * (n + 1 - j_) = f' + 5 ∧ f' = f + 5 * (n + 1 - (j_ + 1)) := ⟨f + 5 * (n + 1 - (j_ + 1)), by omega, rfl⟩
      rw [hf'.1] at hS
      rw [← hf'.2]
      clear hf' hj n0 n1
      refine freeze fun R7 hR7 => ?_
      try walk_at "rd"
      refine ⟨_, inn.a.d.shape, q.sz, _, 0, _, rfl, rfl, SqT.of inn.a.d.2.1, rfl, _, inn.b.d.shape, q'.sz, _, 0, _, rfl, rfl, SqT.of inn.b.d.2.1, rfl, ?_⟩
      have hqn : q.n < 1000 := by have := inn.a.i.2.1; have := inn.a.r.n; omega
      have hqn' : q'.n < 1000 := by have := inn.b.i.2.1; have := inn.b.r.n; omega
      refine ⟨_, rfl, _, rfl, S, sc, f' + 4, _, rfl, hS, by split <;> omega, by split <;> omega, fun H10 v e10 hS10 v0 v1 => ?_⟩
      obtain ⟨M, rfl⟩ := Int.eq_ofNat_of_zero_le v0
      have hM : M ≤ q.n ∧ M ≤ q'.n := by split at v1 <;> omega
      have inn10 := inn.ev e10
      subst hR7
      refine freeze fun R8 hR8 => ?_
      try walk_at "rd"
      refine ⟨_, inn10.a.d.shape, q.sz, _, 0, _, rfl, rfl, SqT.of inn10.a.d.2.1, rfl, ?_⟩
      refine ⟨S, sc, f' + 2, q.n, M, rfl, hS10, hqn, hM.1, fun H11 tc s1 e1_ st1 e11 hS11 htc hst1 hm1 => ?_⟩
      have inn11 := inn10.ev e11
      subst hR8
      refine freeze fun R9 hR9 => ?_
      try walk_at "rd"
      refine ⟨_, inn11.b.d.shape, q'.sz, _, 0, _, rfl, rfl, SqT.of inn11.b.d.2.1, rfl, ?_⟩
      refine ⟨S, sc, f', q'.n, M, rfl, hS11, hqn', hM.2, fun H12 tb s2 e2_ st2 e12 hS12 htb hst2 hm2 => ?_⟩
      have inn12 := inn11.ev e12
      have htc := e12.tup htc
      subst hR9
      refine freeze fun R10 hR10 => ?_
      try walk_at "rd"
      refine ⟨_, inn12.a.d.shape, q.sz, _, 0, _, rfl, rfl, SqT.of inn12.a.d.2.1, rfl, ?_⟩
      refine ⟨tc, s1, e1_, st1, q.n, rfl, htc, hst1, hqn, fun H13 D e13 nD hD => ?_⟩
      have inn13 := inn12.ev e13.of0
      have hS13 := hS12.ev e13
      have htc := e13.tup htc
      have htb := e13.tup htb
      refine ⟨_, inn13.md.width, ?_⟩
      subst hR10
      refine freeze fun R11 hR11 => ?_
      try walk_at "rd"
      refine ⟨thr, tb, q', s2, e2_, st2, rfl, inn13.b.d, htb, hst2, hqn', by rw [← inn.b.r.s]; exact lt_pow_mono inn.s' (by decide), fun H14 db qb e14 hdb hmc => ?_⟩
      have inn14 := inn13.ev e14.of0
      have rb : ∀ pu, CutPl p' pu s2 e2_ st2 → Rel pu qb := fun pu hcp => inn.b.r.cut hcp hmc hst2
      have hqb : PlIn cs qb := by
        have c0 : CutPl p' { p' with pl := p'.pl + cutStart s2 st2 p'.n * p'.s, n := (cutMany s2 e2_ st2 p'.n).toNat, s := p'.s * st2.getD 1 } s2 e2_ st2 := ⟨rfl, rfl, rfl, rfl, rfl, rfl, rfl, rfl⟩
        exact (rb _ c0).inn (inn.b.i.cut c0 hst2)
      refine ⟨db, qb, cs, rfl, hdb, by rw [hmc.1, inn.qc']; exact inn14.hq, hqb, fun H15 ta e15 hta => ?_⟩
      have inn15 := inn14.ev e15.of0
      have hS15 := (hS13.ev e14).ev e15
      have htc := (e14.trans e15).tup htc
      have htb := (e14.trans e15).tup htb
      have hD := (e14.trans e15).lst hD
      have npn : (p.n : Int) = q.n := by rw [inn.a.r.n]
      have npn' : (p'.n : Int) = q'.n := by rw [inn.b.r.n]
      have hm1p : cutMany s1 e1_ st1 p.n = M := by rw [npn]; exact hm1
      have hm2p : cutMany s2 e2_ st2 p'.n = M := by rw [npn']; exact hm2
      subst hR11
      refine freeze fun R12 hR12 => ?_
      try walk_at "rd"
      obtain ⟨_, dx, bb, ir, ic, ml, hr0, _⟩ := id inn15.a.v
      refine ⟨dx, _, hr0, rfl, tc, _, 0, _, rfl, rfl, SqT.of htc, rfl, tc, _, 1, _, rfl, rfl, SqT.of htc, rfl, tc, _, 2, _, rfl, rfl, SqT.of htc, rfl, ?_⟩
      refine mk_cut fun H16 c1 e16 nc1 hc1 => ?_
      have inn16 := inn15.ev e16.of0
      obtain ⟨_, dx2, bb2, ir2, ic2, ml2, hr2, _⟩ := id inn16.b.v
      have htb := e16.tup htb
      refine ⟨dx2, _, hr2, rfl, tb, _, 0, _, rfl, rfl, SqT.of htb, rfl, tb, _, 1, _, rfl, rfl, SqT.of htb, rfl, tb, _, 2, _, rfl, rfl, SqT.of htb, rfl, ?_⟩
      refine mk_cut fun H17 c2 e17 nc2 hc2 => ?_
      have inn17 := inn16.ev e17.of0
      refine ⟨oth, c2, p', s2, e2_, st2, rfl, inn17.b.v, hc2, hst2.1, hst2.lt, by rw [inn.b.wd]; exact w8, lt_pow_mono inn.s' (by decide), inn.b.i.2.1, by omega, fun H18 u pu e18 nu hvu hcp => ?_⟩
      have inn18 := inn17.ev e18.of0
      have rpu := rb pu hcp
      have hpu := inn.b.i.cut hcp hst2
      have hpun : pu.n = M := by rw [hcp.n, hm2p]; rfl
      have hpw : pu.wd = p.wd := by rw [hcp.wd, inn.b.wd, inn.a.wd]
      have pin := puts_in (pu := pu) (e := e1_) (s := s1) inn.a.i hst1
      have pbs := puts_bs (s := s1) (e := e1_) (st := st1) inn.bs hpu hpw
      have lp := puts_len (cs := cs) (p := p) (s := s1) (st := st1) (e := e1_) hm1p hpun
      have gp := fun j hj => puts_get (cs := cs) (p := p) (s := s1) (st := st1) (e := e1_) (j := j) hm1p hpun hj
      refine ⟨one, c1, u, p, pu, k, s1, e1_, st1, cs, rfl, inn18.a.v, hvu, by rw [hcp.c, inn.pc', inn.pc], by rw [inn.pc]; exact inn18.hp, hpu, (hc1.ev e17).ev e18, hst1.1, hst1.lt, inn.a.i.2.1, by omega, by rw [hpun, cutPl_len, hm1p]; rfl, hpw, by rw [hcp.kd]; exact inn.b.kd, inn.a.kd, inn.a.wd, inn.a.fx, fun x hx => ?_, pin.1, fun H19 e19 h19 => ?_⟩
      · have := cutPl_mem (s := s1) (e := e1_) (n := p.n) (by omega) hst1 x hx
        have := inn.a.i.2.1
        omega
      rw [inn.pc] at e19 h19
      replace h19 : H19 p0.c = some (.lst ((wrAll cs (puts_ cs p pu s1 e1_ st1)).map .int)) := h19
      generalize hW : puts_ cs p pu s1 e1_ st1 = W at pin pbs lp gp h19
      have nS0 : S ∉ [p0.c] ∧ sc ∉ [p0.c] := by have := inn.np; simp only [List.mem_cons, List.not_mem_nil, or_false, not_or] at this ⊢; exact ⟨fun z => this.1 z.symm, fun z => this.2 z.symm⟩
      have e1518 : Ev [] H15 H18 := (e16.trans e17).trans e18
      have hS19 := (hS15.ev e1518).evX e19 nS0.1 nS0.2
      have hq19 := e19.lstX inn18.hq (by simpa using inn.ne.symm)
      have hDp : D ≠ p0.c := fun z => by rw [z, inn12.hp] at nD; cases nD
      have hDq : D ≠ q0.c := fun z => by rw [z, inn12.hq] at nD; cases nD
      have hD19 := e19.lstX (e1518.lst hD) (by simpa using hDp)
      have hta19 := e19.tup (e1518.tup hta)
      have md19 := inn18.md.ev e19
      have a19 := inn18.a.ev e19
      have b19 := inn18.b.ev e19
      have hol19 := inn18.hol.ev e19
      subst hR12
      refine freeze fun R13 hR13 => ?_
      try walk_at "rd"
      refine ⟨_, rfl, M, rfl, by omega, by omega, ?_⟩
      rw [Int.toNat_natCast]
      refine for_it walk_range (fun j σ H' => Ev [q0.c] H19 H' ∧ H' q0.c = some (.lst ((wrAll cs (W.take j)).map .int)) ∧ ∃ z16 z17 z18, σ = [some (V.ref a), some (V.ref S), some (V.int (0 + (i_ : Nat))), some (V.ref hh), some (V.ref m), some (V.ref one), some (V.ref mine), some (V.ref oth), some (V.ref thr), some (V.int (0 + (j_ : Nat))), some (V.int M), some (V.ref tc), some (V.ref tb), some (V.ref D), some (V.int q0.wd), some (V.ref ta), z16, z17, z18])
        ⟨Ev.refl _ _, hq19, _, _, _, rfl⟩ (fun _ _ _ _ _ => trivial) (fun j x σ H' H20 hj pv y => ?_) (fun σ H' pv => ?_)
      · obtain ⟨rfl, rfl⟩ := y
        obtain ⟨e20, hq20, z16, z17, z18, rfl⟩ := pv
        have hD20 := e20.lstX hD19 (by simpa using hDq)
        have hta20 := e20.tup hta19
        have md20 := md19.ev e20
        have a20 := a19.ev e20
        have gj := gp j hj
        have cin := cut_in (s := s1) (e := e1_) (n := p.n) (by omega) hst1 (i := j) (by omega)
        refine freeze fun R14 hR14 => ?_
        try walk_at "rd"
        refine ⟨_, a20.d.place, ?_⟩
        have hpn : 0 < p.n := by have := inn.a.r.n; omega
        have at_j : atI ((cutPl s1 e1_ st1 q.n).map V.int) (0 + (j : Int)) = some (.int (cutStart s1 st1 p.n + j * st1.getD 1)) := by
          rw [Int.zero_add]
          refine atI_nat ?_
          rw [List.getElem?_map, cutPl_get (by omega), npn]; rfl
        have p1000 := inn.a.i.2.1
        refine ⟨D, _, _, _, rfl, rfl, SqL.of hD20, at_j, ?_⟩
        refine ⟨_, a20.d.steps, q.st, _, 0, _, rfl, rfl, SqT.of a20.d.2.2, rfl, _, rfl, _, rfl, .inl ⟨by omega, by omega⟩, _, rfl, ?_⟩
        rw [← inn.a.r.s, ← inn.a.r.pl hpn]
        have win := pin.2 _ (List.mem_of_getElem? gj)
        generalize p.pl + (cutStart s1 st1 p.n + j * st1.getD 1) * p.s = plj at gj win ⊢
        subst hR14
        refine freeze fun R15 hR15 => ?_
        try walk_at "rd"
        have hbw : qb.wd = k.wd := by rw [hmc.2.2.1, ← inn.b.r.wd]; exact inn.b.wd
        have hqn_ : qb.n = M := by rw [← rpu.n]; exact hpun
        have ej : (0 + (j : Int)) * (q0.wd : Int) = ((j * qb.wd : Nat) : Int) := by rw [Int.zero_add, inn.wd, hbw, Int.natCast_mul]
        have ew : (q0.wd : Int) = (qb.wd : Int) := by rw [inn.wd, hbw]
        have jm : CMul (0 + (j : Int)) (q0.wd : Int) := .inl ⟨by omega, by omega⟩
        refine ⟨_, rfl, _, rfl, _, rfl, _, _, rfl, rfl, jm, _, rfl, _, rfl, _, rfl, _, _, rfl, rfl, jm, _, rfl, _, _, rfl, rfl, _, rfl, ?_⟩
        rw [ej, ew]
        refine slA hta20 fun tr H21 e21 htr => ?_
        rw [gat_cut (a := qb.pl + j * qb.s) (by simp [adr, hqn_, hj]), ← rpu.item (by omega), hbw, ← inn.a.wd] at htr
        have rlen : (rowOf cs (pu.pl + j * pu.s) p.wd).length = qb.wd := by rw [rowOf_length, inn.a.wd, hbw]
        generalize rowOf cs (pu.pl + j * pu.s) p.wd = row at gj htr win rlen
        refine ⟨_, rfl, _, .inr (SqT.of htr), fun rl nrl => ?_⟩
        obtain ⟨H22, H22_eq, e22, hrl⟩ := newq (.lst (row.map V.int)) nrl
        rw [← H22_eq]
        clear H22_eq
        have e2022 := e21.trans e22
        have md22 := (md19.ev e20).ev e2022
        have hq22 := e2022.lst hq20
        have hne : q0.c ≠ rl := fun z => by rw [← z, e21.lst hq20] at nrl; cases nrl
        have lwj : (wrAll cs (W.take j)).length = cs.length := wrAll_length fun x hx => pin.2 x (List.mem_of_mem_take hx)
        have w0_ := win.1
        have w1_ := win.2
        simp only at w0_ w1_
        rw [rlen] at w1_
        have l1000 := inn.l
        subst hR15
        refine ⟨_, rfl, _, rfl, m, _, rfl, md22.cells, _, rfl, _, rfl, _, rfl, _, rfl, _, _, rfl, rfl, _, rfl, q0.c, rl, _, _, _, _, rfl, rfl, rfl, rfl, hq22, hrl, hne, w0_, by omega, by rw [List.length_map, lwj]; omega, by rw [List.length_map, List.length_map, lwj, rlen]; exact Nat.le_of_lt (line_of (by omega)), ?_⟩
        refine ⟨(e20.trans e2022.of0).trans (Ev.list hq22 (by simp)), ?_, _, _, _, rfl⟩
        rw [upd_same, List.take_succ, gj, Option.toList_some, wrAll_snoc]
        have ec : (plj + (qb.wd : Int)).toNat = plj.toNat + row.length := by rw [rlen]; omega
        rw [ec]
        simp only [wrT, List.map_append, List.map_take, List.map_drop]
      · obtain ⟨e20, hq20, z16, z17, z18, rfl⟩ := pv
        rw [List.take_of_length_le (by rw [lp]; exact Nat.le_refl _)] at hq20
        subst hR13
        dsimp only
        refine freeze fun R14 hR14 => ?_
        try walk_at "rd"
        have lw : (wrAll cs W).length = cs.length := wrAll_length pin.2
        have innE : Inn H' S sc hh m one mine oth thr p0 q0 p q p' q' (wrAll cs W) k :=
          ⟨by rw [lw]; exact hol19.ev e20, md19.ev e20, (a19.ev e20).len lw, (b19.ev e20).len lw, inn.pc, inn.pc', inn.qc, inn.qc', wrAll_bs inn.bs pbs, e20.lstX h19 (by simpa using inn.ne), hq20, inn.ne, inn.np, inn.nq, inn.s, inn.s', inn.wd, by rw [lw]; exact inn.l⟩
        have nSq : S ∉ [q0.c] ∧ sc ∉ [q0.c] := by have := inn.nq; simp only [List.mem_cons, List.not_mem_nil, or_false, not_or] at this ⊢; exact ⟨fun z => this.1 z.symm, fun z => this.2 z.symm⟩
        have hSE := hS19.evX e20 nSq.1 nSq.2
        clear hq20 hS19 hq19 hD19 hta19 md19 a19 b19 hol19 h19 e19
        generalize wrAll cs W = cs1 at innE lw
        have l1 := innE.l
        rcases innE.hol with ⟨hba, hrest⟩ | hstr
        · obtain ⟨⟨dxb, sd, hb0⟩, hmm⟩ := id hba
          refine .inl ⟨_, _, hb0, rfl, hh, p0.m, p0.c, cs1, rfl, hba, innE.hp, fun H21 t1 e21 ht1 => ?_⟩
          have i21 := innE.ev e21.of0
          refine ⟨_, i21.md.cells, _, rfl, _, .inl ⟨SqL.of i21.hq, fun t2 nt2 => ?_⟩⟩
          obtain ⟨H22, H22_eq, e22, ht2⟩ := newq (.tup (cs1.map V.int)) nt2
          rw [← H22_eq]
          clear H22_eq
          refine ⟨t1, t2, cs1, rfl, e22.tup ht1, ht2, by omega, fun H23 e23 => ⟨_, rfl, ?_⟩⟩
          rw [if_neg (by decide)]
          have i23 := i21.ev (e22.trans e23).of0
          refine ⟨one, mine, p, q, k, cs1, rfl, i23.a.v, i23.a.d, i23.a.r, i23.a.kd, i23.a.wd, by rw [i23.pc]; exact i23.hp, by rw [i23.qc]; exact i23.hq, i23.bs, i23.a.i, fun H24 e24 => ⟨_, rfl, ?_⟩⟩
          rw [if_neg (by decide)]
          have i24 := i23.ev e24.of0
          subst hR14
          try walk_at "rd"
          refine ⟨oth, thr, p', q', k, cs1, rfl, i24.b.v, i24.b.d, i24.b.r, i24.b.kd, i24.b.wd, by rw [i24.pc']; exact i24.hp, by rw [i24.qc']; exact i24.hq, i24.bs, i24.b.i, fun H25 e25 => ⟨_, rfl, ?_⟩⟩
          rw [if_neg (by decide)]
          exact ⟨hSE.ev ((e21.trans e22).trans (e23.trans (e24.trans e25))), cs1, i24.ev e25.of0, by simp⟩
        · obtain ⟨dxs, bs_, srcs, hs0, hbs⟩ := id hstr
          refine .inr ⟨_, _, hs0, rfl, hh, p0, cs1, rfl, hstr, innE.hp, fun H21 t1 e21 ht1 => ?_⟩
          have i21 := innE.ev e21.of0
          refine ⟨_, i21.md.cells, _, rfl, _, .inl ⟨SqL.of i21.hq, fun t2 nt2 => ?_⟩⟩
          obtain ⟨H22, H22_eq, e22, ht2⟩ := newq (.tup (cs1.map V.int)) nt2
          rw [← H22_eq]
          clear H22_eq
          refine ⟨t1, t2, cs1, rfl, e22.tup ht1, ht2, by omega, fun H23 e23 => ⟨_, rfl, ?_⟩⟩
          rw [if_neg (by decide)]
          have i23 := i21.ev (e22.trans e23).of0
          refine ⟨one, mine, p, q, k, cs1, rfl, i23.a.v, i23.a.d, i23.a.r, i23.a.kd, i23.a.wd, by rw [i23.pc]; exact i23.hp, by rw [i23.qc]; exact i23.hq, i23.bs, i23.a.i, fun H24 e24 => ⟨_, rfl, ?_⟩⟩
          rw [if_neg (by decide)]
          have i24 := i23.ev e24.of0
          subst hR14
          try walk_at "rd"
          refine ⟨oth, thr, p', q', k, cs1, rfl, i24.b.v, i24.b.d, i24.b.r, i24.b.kd, i24.b.wd, by rw [i24.pc']; exact i24.hp, by rw [i24.qc']; exact i24.hq, i24.bs, i24.b.i, fun H25 e25 => ⟨_, rfl, ?_⟩⟩
          rw [if_neg (by decide)]
          exact ⟨hSE.ev ((e21.trans e22).trans (e23.trans (e24.trans e25))), cs1, i24.ev e25.of0, by simp⟩
    · obtain ⟨hS, cs, inn, y9, y10, y11, y12, y13, y14, y15, y16, y17, y18, rfl⟩ := pv
      exact ⟨hS.le (by omega), _, _, _, _, _, _, _, _, _, _, _, _, _, _, _, _, _, rfl⟩
  · obtain ⟨hS, x2, x3, x4, x5, x6, x7, x8, x9, x10, x11, x12, x13, x14, x15, x16, x17, x18, rfl⟩ := pv
    subst hR3
    exact q _
end VL
end
section
set_option linter.all false
set_option maxRecDepth 100000
set_option maxHeartbeats 1000000
namespace VL
open PySem PySem.Spec PyProof.Rows L2
/-- what the end asks of the call -/
theorem law_F {P : Program} (w : World) (mg : Str → Option Value) (fa : Addr) (h : Heap) (KX : (K w.params).In h) (G : h.Ns mainGlobals mg) (hmg : mg ("law" : Str) = some (.ref fa)) :
    ∃ (Kk : PySem.W.Frag) (fd : FuncData) (sp : Sp), Kk.In h ∧ (∀ (s : Shared) (u : Value), BindsTo s fd ⟨[u], []⟩ [("_law_script", u)]) ∧
      (∀ (H : Hp) (a : Addr) (ns : List Int), ns.length ≤ 63 → Only H → SqL Kk H a (ns.map V.int) → sp [.ref a] H (fun v _ => v = .bl true) fun _ _ _ => False) ∧
      ∀ base : Heap, Kk.In base → base.Ns mainGlobals mg → FnOk P w Kk mg base CX0 30 fa fd ["_law_script"] sp := by
  have hM : MgOk w.params mg := mgOk_of KX G
  have e : fa = af_lw := by
    have := hmg.symm.trans (gf_lw hM)
    cases this
    rfl
  subst e
  exact ⟨K w.params, fdf_lw, spLw w, KX, fun s u => BindsTo.of_eq rfl, fun H a ns hl _ hs => ⟨a, ns, rfl, hs, hl, fun _ => rfl⟩, fun base _ _ => (ok_lw hM).mono (by decide)⟩
end VL
end
section
set_option linter.all false
set_option maxRecDepth 100000
set_option maxHeartbeats 4000000
open PySem PySem.W PySem.Calls PyProof.Rows in
set_option maxRecDepth 100000 in
set_option maxHeartbeats 0 in
theorem PySem.Challenge.cw_viewlease_k43_whole_cuts_onto_themselves_holds : PySem.Challenge.rw_viewlease_k43_whole_cuts_onto_themselves.Holds := by
  exact VL.h5_end fun w mg fa h KX G hmg => VL.law_F w mg fa h KX G hmg
end
