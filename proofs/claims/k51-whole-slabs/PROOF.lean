import PyProof.Rows.All
import Wide.All
import OpenK.AllK
import Wide.FinOn
import KE.KStateDown
import Lean
import HandS.Base
import HandS.Call
import HandS.Ends
import HandS.More
import HandS.Words
import HandS.WordsExc
import HandS.Defaults
import HandS.Head0
import HandS.Head1
import HandS.Head2
import HandS.HeadEnd
import HandS.HeadHook1
import HandS.HeadHook2
import HandS.HeadHook3
import KE.KExcSuper
import PySem.Challenge.RW_tessera_k51_whole_slabs_are_plain_arrays
import HandS.ForMost
import HandS.Exc
import HandS.ExcOwn
import HandS.ExcInit
import HandS.TryOnly
import HandS.Codes
import HandS.Conv
import HandS.Zip
import HandS.TupAny
import HandS.TupLe
import HandS.Wide
import HandS.IsInst
import HandS.WrittenGet
import HandS.Style
import HandS.Flow
import HandS.TupSets
import HandS.DictTup
import HandS.GenList
import HandS.CallSlots
import HandS.RevTup
import PyProof.GenQ
import PyProof.GenComp
import KE.KDictSum
import KE.SortData
import HandS.Sort
import OpenK.KOps
set_option Elab.async false
set_option linter.all false
set_option maxRecDepth 100000
set_option maxHeartbeats 0
namespace Tz
open PySem PySem.Spec PyProof.Rows L2
/-! ### what the walks speak of -/
abbrev iv (ns : List Int) : List V := ns.map V.int
/-- v is a tuple of these ints -/
def TupI (K : PySem.W.Frag) (H : Hp) (v : V) (ns : List Int) : Prop := ∃ a, v = .ref a ∧ SqT K H a (iv ns)
theorem Same.sqT {H H' : Hp} (s : Same H H') {K : PySem.W.Frag} {a : Addr} {xs : List V} (h : SqT K H a xs) : SqT K H' a xs := by
  rcases h with (h | ⟨o, h⟩) | h
  · exact .inl (.inl (s _ _ h))
  · exact .inl (.inr ⟨o, s _ _ h⟩)
  · exact .inr h
theorem same_sqL {H H' : Hp} (s : Same H H') {K : PySem.W.Frag} {a : Addr} {xs : List V} (h : SqL K H a xs) : SqL K H' a xs := by
  rcases h with (h | ⟨o, h⟩) | h
  · exact .inl (.inl (s _ _ h))
  · exact .inl (.inr ⟨o, s _ _ h⟩)
  · exact .inr h
theorem TupI.keep {K : PySem.W.Frag} {H H' : Hp} {v : V} {ns : List Int} (h : TupI K H v ns) (s : Same H H') : TupI K H' v ns := by
  obtain ⟨a, e, h⟩ := h
  exact ⟨a, e, Same.sqT s h⟩
theorem same_upd {H H0 : Hp} {p : Addr} {o : HO} (s : Same H0 H) (n : H p = none) : Same H0 (upd H p o) := fun b u e => by
  rw [upd_ne (ne_of_none (s b u e) n)]
  exact s b u e
theorem same_upd0 {H : Hp} {p : Addr} {o : HO} (n : H p = none) : Same H (upd H p o) := same_upd (Same.refl H) n
theorem iv_get {ns : List Int} {i : Nat} {y : V} (h : (iv ns)[i]? = some y) : ∃ n, ns[i]? = some n ∧ y = .int n := by
  rw [List.getElem?_map] at h
  cases e : ns[i]? with
  | none => rw [e] at h; cases h
  | some n => rw [e] at h; exact ⟨n, rfl, (Option.some.inj h).symm⟩
end Tz
namespace Tz
open PySem PySem.Spec PyProof.Rows L2
def top (i : Nat) : Stmt := PySem.Challenge.pw_tessera_k51_whole_slabs_are_plain_arrays.main.body.getD i (.Pass ⟨0, 0, 0, 0⟩)
/-- a def of the module, where it stands -/
def Df (K : PySem.W.Frag) (mg : Str → Option Value) (x : Str) (st : Stmt) : Prop := mg x = some (.ref (He.ga K x)) ∧ ∃ fd, FunD K x x (defArgs st) (defBody st) (defScope st) [] [] (He.ga K x) fd
/-- a method -/
def Dm (K : PySem.W.Frag) (c m q : Str) (st : Stmt) : Prop := Meth K (He.ga K c) m (He.ma K (He.ga K c) m) ∧ ∃ fd, FunD K m q (defArgs st) (defBody st) (defScope st) [] [] (He.ma K (He.ga K c) m) fd
/-- an __init__ -/
def Di (K : PySem.W.Frag) (c q : Str) (st : Stmt) : Prop := Mk K (He.ga K c) (He.ma K (He.ga K c) "__init__") ∧ ∃ fd, FunD K "__init__" q (defArgs st) (defBody st) (defScope st) [] [] (He.ma K (He.ga K c) "__init__") fd
structure Tx (K : PySem.W.Frag) (mg : Str → Option Value) : Prop where
  n_len : mg "len" = none
  n_range : mg "range" = none
  n_list : mg "list" = none
  n_tuple : mg "tuple" = none
  n_min : mg "min" = none
  n_max : mg "max" = none
  n_sum : mg "sum" = none
  n_all : mg "all" = none
  n_any : mg "any" = none
  n_zip : mg "zip" = none
  n_sorted : mg "sorted" = none
  n_isinstance : mg "isinstance" = none
  n_int : mg "int" = none
  n_bool : mg "bool" = none
  n_super : mg "super" = none
  i_LONGEST_RUN : ∃ t, mg "LONGEST_RUN" = some (.int 255 t)
  i_MOST_ZEROS : ∃ t, mg "MOST_ZEROS" = some (.int 65535 t)
  i_BASE : ∃ t, mg "BASE" = some (.int 125 t)
  i_HIGHEST : ∃ t, mg "HIGHEST" = some (.int 249 t)
  i_LEAF : ∃ t, mg "LEAF" = some (.int 1 t)
  i_INNER : ∃ t, mg "INNER" = some (.int 2 t)
  i_CHUNK : ∃ t, mg "CHUNK" = some (.int 3 t)
  i_MOST_DIMENSIONS : ∃ t, mg "MOST_DIMENSIONS" = some (.int 4 t)
  i_LARGEST_SIZE : ∃ t, mg "LARGEST_SIZE" = some (.int 1000000000 t)
  i_MOST_ENTRIES : ∃ t, mg "MOST_ENTRIES" = some (.int 8 t)
  i_FIRST_HALF : ∃ t, mg "FIRST_HALF" = some (.int 5 t)
  i_MOST_PICKED : ∃ t, mg "MOST_PICKED" = some (.int 100000 t)
  i_SEAL_LENGTH : ∃ t, mg "SEAL_LENGTH" = some (.int 28 t)
  i_FIRST : ∃ t, mg "FIRST" = some (.int 255 t)
  i_LAST : ∃ t, mg "LAST" = some (.int 254 t)
  i_DIGITS : ∃ t, mg "DIGITS" = some (.int 8 t)
  g_Layout : mg "Layout" = some (.ref (He.ga K "Layout"))
  g_Disk : mg "Disk" = some (.ref (He.ga K "Disk"))
  g_Log : mg "Log" = some (.ref (He.ga K "Log"))
  g_PlainArray : mg "PlainArray" = some (.ref (He.ga K "PlainArray"))
  g_Damaged : mg "Damaged" = some (.ref (He.ga K "Damaged"))
  g_NOTHING : mg "NOTHING" = some (.ref (He.ga K "NOTHING"))
  g_WIDTHS : mg "WIDTHS" = some (.ref (He.ga K "WIDTHS"))
  g_SPANS : mg "SPANS" = some (.ref (He.ga K "SPANS"))
  c_Layout : Cls K (He.ga K "Layout")
  a_Layout_kind : NoAttr K (He.ga K "Layout") "kind"
  a_Layout_chunk_shape : NoAttr K (He.ga K "Layout") "chunk_shape"
  a_Layout_fill : NoAttr K (He.ga K "Layout") "fill"
  a_Layout_filters : NoAttr K (He.ga K "Layout") "filters"
  c_Disk : Cls K (He.ga K "Disk")
  a_Disk_cells : NoAttr K (He.ga K "Disk") "cells"
  c_Log : Cls K (He.ga K "Log")
  a_Log_disk : NoAttr K (He.ga K "Log") "disk"
  a_Log_waiting : NoAttr K (He.ga K "Log") "waiting"
  a_Log_sealed : NoAttr K (He.ga K "Log") "sealed"
  c_PlainArray : Cls K (He.ga K "PlainArray")
  a_PlainArray_shape : NoAttr K (He.ga K "PlainArray") "shape"
  a_PlainArray_fill : NoAttr K (He.ga K "PlainArray") "fill"
  a_PlainArray_cells : NoAttr K (He.ga K "PlainArray") "cells"
  f_to_differences : Df K mg "to_differences" (top 14)
  f_from_differences : Df K mg "from_differences" (top 15)
  f_to_planes : Df K mg "to_planes" (top 16)
  f_from_planes : Df K mg "from_planes" (top 17)
  f_to_runs : Df K mg "to_runs" (top 18)
  f_from_runs : Df K mg "from_runs" (top 19)
  f_to_short : Df K mg "to_short" (top 20)
  f_from_short : Df K mg "from_short" (top 21)
  f_apply_filter : Df K mg "apply_filter" (top 22)
  f_undo_filter : Df K mg "undo_filter" (top 23)
  f_apply_chain : Df K mg "apply_chain" (top 24)
  f_undo_chain : Df K mg "undo_chain" (top 25)
  f_width : Df K mg "width" (top 29)
  f_span : Df K mg "span" (top 30)
  f_least : Df K mg "least" (top 31)
  f_greatest : Df K mg "greatest" (top 32)
  f_in_range : Df K mg "in_range" (top 33)
  f_demand_range : Df K mg "demand_range" (top 34)
  f_store_values : Df K mg "store_values" (top 35)
  f_load_values : Df K mg "load_values" (top 36)
  f_write_number : Df K mg "write_number" (top 40)
  f_write_integer : Df K mg "write_integer" (top 41)
  f_write_integers : Df K mg "write_integers" (top 42)
  f_write_bytes : Df K mg "write_bytes" (top 43)
  f_byte_at : Df K mg "byte_at" (top 44)
  f_read_number : Df K mg "read_number" (top 45)
  f_read_integer : Df K mg "read_integer" (top 46)
  f_read_count : Df K mg "read_count" (top 47)
  f_read_integers : Df K mg "read_integers" (top 48)
  f_read_bytes : Df K mg "read_bytes" (top 49)
  f_check_of : Df K mg "check_of" (top 50)
  f_make_record : Df K mg "make_record" (top 55)
  f_content_of : Df K mg "content_of" (top 56)
  f_read_record : Df K mg "read_record" (top 57)
  f_is_shape : Df K mg "is_shape" (top 61)
  f_element_count : Df K mg "element_count" (top 62)
  f_rank_of : Df K mg "rank_of" (top 63)
  f_index_of : Df K mg "index_of" (top 64)
  f_is_index : Df K mg "is_index" (top 65)
  f_indexes_in : Df K mg "indexes_in" (top 66)
  f_write_node : Df K mg "write_node" (top 71)
  f_read_node : Df K mg "read_node" (top 72)
  f_load_node : Df K mg "load_node" (top 73)
  f_child_at : Df K mg "child_at" (top 74)
  f_find : Df K mg "find" (top 75)
  f_save_rows : Df K mg "save_rows" (top 76)
  f_put_into : Df K mg "put_into" (top 77)
  f_put_below : Df K mg "put_below" (top 78)
  f_put : Df K mg "put" (top 79)
  f_remove_below : Df K mg "remove_below" (top 80)
  f_lowered : Df K mg "lowered" (top 81)
  f_remove : Df K mg "remove" (top 82)
  f_reaches : Df K mg "reaches" (top 83)
  f_encode_chunk : Df K mg "encode_chunk" (top 86)
  f_decode_chunk : Df K mg "decode_chunk" (top 87)
  f_load_chunk : Df K mg "load_chunk" (top 88)
  f_save_chunk : Df K mg "save_chunk" (top 89)
  f_selection_size : Df K mg "selection_size" (top 92)
  f_fits_range : Df K mg "fits_range" (top 93)
  f_fits : Df K mg "fits" (top 94)
  f_box_indexes : Df K mg "box_indexes" (top 95)
  f_picked : Df K mg "picked" (top 96)
  f_Layout_init : Di K "Layout" "Layout.__init__" (inClass (top 98) 0)
  f_grid_index : Df K mg "grid_index" (top 99)
  f_place_in_chunk : Df K mg "place_in_chunk" (top 100)
  f_read_slab : Df K mg "read_slab" (top 102)
  f_write_slab : Df K mg "write_slab" (top 103)
  f_origin_of : Df K mg "origin_of" (top 104)
  f_cut_values : Df K mg "cut_values" (top 105)
  f_sticks_out : Df K mg "sticks_out" (top 106)
  f_resize_slabs : Df K mg "resize_slabs" (top 107)
  f_Disk_init : Di K "Disk" "Disk.__init__" (inClass (top 109) 0)
  f_Disk_len : Dm K "Disk" "__len__" "Disk.__len__" (inClass (top 109) 1)
  f_Disk_part : Dm K "Disk" "part" "Disk.part" (inClass (top 109) 2)
  f_Disk_append : Dm K "Disk" "append" "Disk.append" (inClass (top 109) 3)
  f_write_digits : Df K mg "write_digits" (top 115)
  f_make_seal : Df K mg "make_seal" (top 117)
  f_Log_init : Di K "Log" "Log.__init__" (inClass (top 120) 0)
  f_Log_put : Dm K "Log" "put" "Log.put" (inClass (top 120) 3)
  f_Log_fetch : Dm K "Log" "fetch" "Log.fetch" (inClass (top 120) 4)
  f_Log_seal : Dm K "Log" "seal" "Log.seal" (inClass (top 120) 5)
  f_PlainArray_init : Di K "PlainArray" "PlainArray.__init__" (inClass (top 122) 0)
  f_PlainArray_all_values : Dm K "PlainArray" "all_values" "PlainArray.all_values" (inClass (top 122) 1)
  f_PlainArray_read : Dm K "PlainArray" "read" "PlainArray.read" (inClass (top 122) 2)
  f_PlainArray_write : Dm K "PlainArray" "write" "PlainArray.write" (inClass (top 122) 3)
  f_PlainArray_resize : Dm K "PlainArray" "resize" "PlainArray.resize" (inClass (top 122) 4)
  f_law_cell : Df K mg "_law_cell" (top 124)
  f_law_draws : Df K mg "_law_draws" (top 125)
  f_law_is_int : Df K mg "_law_is_int" (top 126)
  f_law_is_number : Df K mg "_law_is_number" (top 127)
  f_law_low : Df K mg "_law_low" (top 128)
  f_law_high : Df K mg "_law_high" (top 129)
  f_law_value : Df K mg "_law_value" (top 130)
  f_law_kind : Df K mg "_law_kind" (top 131)
  f_law_chain : Df K mg "_law_chain" (top 132)
  f_law_shape : Df K mg "_law_shape" (top 133)
  f_law_all : Df K mg "_law_all" (top 134)
  f_law_picks : Df K mg "_law_picks" (top 135)
  f_law_selection : Df K mg "_law_selection" (top 136)
  f_law_whole : Df K mg "_law_whole" (top 137)
  f_law_same_ints : Df K mg "_law_same_ints" (top 138)
  f_law_stream : Df K mg "_law_stream" (top 139)
  f_law_chunk_shape : Df K mg "_law_chunk_shape" (top 140)
  f_law_world : Df K mg "_law_world" (top 141)
  f_law : Df K mg "law" (top 142)
section
variable {P : Program} {w : World} {K : PySem.W.Frag} {mg : Str → Option Value} {base : Heap}
/-- how a def's arguments bind, for all defs without defaults: by the number of its parameters -/
abbrev BindTo (x q : Str) (st : Stmt) (ps : List Str) : Prop := ∀ (kV doc pm : Value) (an : Option Addr) (cdv ct : Value) (us : List Value), us.length = ps.length → bindArgs (PySem.W.fnOf x q (defArgs st) (defBody st) (defScope st) .none kV doc pm an cdv ct) ⟨us, []⟩ = pure (ps.zip us)
/-- THE RULE for a def of the module that lets nothing out -/
theorem cal_of {x : Str} {st : Stmt} {N ps : List Str} {k : Nat} {sp : Sp} (D : Df K mg x st) (hb : BindTo x x st ps) (S : FnScope N ps (defScope st)) (len : ∀ vs H Q E, sp vs H Q E → vs.length = ps.length)
    (body : ∀ (f : Addr) (cdv : Value) (A : Around) (outer : List Env) (s : Shared) (H : Hp) (vs : List V) (Q : VK) (E : XK), Room k (A.deeper (envOfC x (defScope st) s.heap.objs.size f cdv)) → sp vs H Q E →
      ∃ t, PSs (cxOf CX0 P w K mg base N x (defScope st) f cdv A outer s H E).nox (defBody st) t ∧ t { nx := fun _ H' => Q .non H', rt := Q } (start N vs) H) : C8.Cal P w K mg base (k + 1) x sp [] := by
  obtain ⟨hm, fd, F⟩ := D
  have B : Binds K fd ps [] := F.bindsN hb
  refine ⟨_, fd, ps, [], ?_, hm, F.kp, B, .nil⟩
  refine FunD.ok F S len fun cdv A outer s H vs Q E hr hsp => ?_
  obtain ⟨t, h1, h2⟩ := body _ cdv A outer s H vs Q E hr hsp
  exact ⟨t, PSs.nox h1, h2⟩
/-- .. for a method -/
theorem met_of {c m q : Str} {st : Stmt} {N ps : List Str} {k : Nat} {sp : Sp} (D : Dm K c m q st) (cl : Cls K (He.ga K c)) (hb : BindTo m q st ps) (S : FnScope N ps (defScope st)) (len : ∀ vs H Q E, sp vs H Q E → vs.length = ps.length)
    (body : ∀ (f : Addr) (cdv : Value) (A : Around) (outer : List Env) (s : Shared) (H : Hp) (vs : List V) (Q : VK) (E : XK), Room k (A.deeper (envOfC q (defScope st) s.heap.objs.size f cdv)) → sp vs H Q E →
      ∃ t, PSs (cxOf CX0 P w K mg base N q (defScope st) f cdv A outer s H E).nox (defBody st) t ∧ t { nx := fun _ H' => Q .non H', rt := Q } (start N vs) H) : C8.Met P w K mg base (k + 1) (He.ga K c) m sp [] := by
  obtain ⟨hm, fd, F⟩ := D
  have B : Binds K fd ps [] := F.bindsN hb
  refine ⟨_, fd, ps, [], cl, hm, ?_, B, .nil⟩
  refine FunD.ok F S len fun cdv A outer s H vs Q E hr hsp => ?_
  obtain ⟨t, h1, h2⟩ := body _ cdv A outer s H vs Q E hr hsp
  exact ⟨t, PSs.nox h1, h2⟩
/-- .. for an __init__ -/
theorem mak_of {c q : Str} {st : Stmt} {N ps : List Str} {k : Nat} {sp : Sp} (D : Di K c q st) (hc : mg c = some (.ref (He.ga K c))) (hb : BindTo "__init__" q st ps) (S : FnScope N ps (defScope st)) (len : ∀ vs H Q E, sp vs H Q E → vs.length = ps.length)
    (body : ∀ (f : Addr) (cdv : Value) (A : Around) (outer : List Env) (s : Shared) (H : Hp) (vs : List V) (Q : VK) (E : XK), Room k (A.deeper (envOfC q (defScope st) s.heap.objs.size f cdv)) → sp vs H Q E →
      ∃ t, PSs (cxOf CX0 P w K mg base N q (defScope st) f cdv A outer s H E).nox (defBody st) t ∧ t { nx := fun _ H' => Q .non H', rt := Q } (start N vs) H) : C8.Mak P w K mg base (k + 1) c (He.ga K c) sp [] := by
  obtain ⟨hm, fd, F⟩ := D
  have B : Binds K fd ps [] := F.bindsN hb
  refine ⟨_, fd, ps, [], hm, ?_, hc, B, .nil⟩
  refine FunD.ok F S len fun cdv A outer s H vs Q E hr hsp => ?_
  obtain ⟨t, h1, h2⟩ := body _ cdv A outer s H vs Q E hr hsp
  exact ⟨t, PSs.nox h1, h2⟩
end
end Tz
namespace TzH
open PySem PySem.Spec PyProof.Rows L2 Tz
def names0 : List PySem.Str := ["_wall", "TesseraError", "InvalidShape", "InvalidSelection", "Unreadable", "InvalidValue", "TooLarge", "WrongCount", "BadFilter", "Damaged", "LONGEST_RUN", "MOST_ZEROS", "to_differences", "from_differences", "to_planes", "from_planes", "to_runs", "from_runs", "to_short", "from_short", "apply_filter", "undo_filter", "apply_chain", "undo_chain", "WIDTHS", "SPANS", "width", "span", "least", "greatest"]
def names1 : List PySem.Str := ["in_range", "demand_range", "store_values", "load_values", "BASE", "HIGHEST", "write_number", "write_integer", "write_integers", "write_bytes", "byte_at", "read_number", "read_integer", "read_count", "read_integers", "read_bytes", "check_of", "LEAF", "INNER", "CHUNK", "make_record", "content_of", "read_record", "MOST_DIMENSIONS", "LARGEST_SIZE", "is_shape", "element_count", "rank_of", "index_of", "is_index"]
def names2 : List PySem.Str := ["indexes_in", "NOTHING", "MOST_ENTRIES", "FIRST_HALF", "write_node", "read_node", "load_node", "child_at", "find", "save_rows", "put_into", "put_below", "put", "remove_below", "lowered", "remove", "reaches", "entries", "encode_chunk", "decode_chunk", "load_chunk", "save_chunk", "MOST_PICKED", "selection_size", "fits_range", "fits", "box_indexes", "picked", "Layout", "grid_index"]
def names3 : List PySem.Str := ["place_in_chunk", "read_slab", "write_slab", "origin_of", "cut_values", "sticks_out", "resize_slabs", "Disk", "SEAL_LENGTH", "FIRST", "LAST", "DIGITS", "write_digits", "read_digits", "make_seal", "seal_at", "Log", "PlainArray", "_law_cell", "_law_draws", "_law_is_int", "_law_is_number", "_law_low", "_law_high", "_law_value", "_law_kind", "_law_chain", "_law_shape", "_law_all", "_law_picks"]
def names4 : List PySem.Str := ["_law_selection", "_law_whole", "_law_same_ints", "_law_stream", "_law_chunk_shape", "_law_world"]
def names : List PySem.Str := names0 ++ names1 ++ names2 ++ names3 ++ names4
def adr0 : List Addr := [3, 2, 167, 463, 551, 20, 21, 24, 27, 30, 31, 37, 40, 43, 44, 49, 52, 55, 56, 61, 65, 73, 74, 76, 77, 82, 86, 94, 95, 97]
def adr1 : List Addr := [98, 103, 107, 115, 116, 118, 119, 124, 128, 136, 137, 139, 140, 145, 149, 157, 158, 160, 161, 166, 170, 178, 179, 181, 182, 190, 191, 197, 198, 204]
def adr2 : List Addr := [205, 211, 212, 218, 219, 225, 226, 232, 233, 239, 240, 246, 247, 253, 254, 260, 261, 267, 268, 269, 270, 276, 277, 283, 284, 290, 291, 297, 298, 304]
def adr3 : List Addr := [305, 311, 312, 318, 319, 325, 326, 332, 333, 339, 340, 346, 347, 353, 354, 360, 361, 367, 368, 374, 375, 381, 382, 388, 389, 395, 396, 402, 403, 409]
def adr4 : List Addr := [410, 416, 417, 423, 424, 428, 429, 435, 436, 442, 443, 449, 450, 454, 455, 461, 462, 469, 470, 476, 477, 483, 484, 490, 491, 497, 498, 504, 505, 509]
def adr5 : List Addr := [510, 516, 517, 523, 524, 528, 529, 535, 536, 542, 543, 549, 550, 552, 556, 557, 563, 564, 570, 571, 577, 578, 584, 585, 591, 592, 598, 599, 603, 604]
def adr6 : List Addr := [608, 609, 615, 616, 619, 622, 629, 630, 636, 637, 639, 640, 648, 649, 653, 654, 660, 661, 667, 668, 672, 673, 677, 678, 684, 685, 691, 692, 695, 698]
def adr7 : List Addr := [705, 706, 712, 713, 719, 720, 726, 727, 733, 734, 740, 741, 747, 748, 750, 751, 761, 762, 768, 769, 775, 776, 782, 783, 786, 789, 796, 797, 803, 804]
def adr8 : List Addr := [811, 812, 819, 820, 826, 827, 833, 834, 840, 841, 843, 844, 851, 854, 861, 862, 868, 869, 873, 874, 880, 881, 887, 888, 890, 891, 901, 902, 908, 909]
def adr9 : List Addr := [915, 916, 922, 923, 929, 930, 936, 937, 943, 944, 950, 951, 957, 958, 962, 963, 969, 970, 976, 977, 981, 982, 986, 987, 993, 994, 1000, 1001, 1005, 1006]
def adr10 : List Addr := [1012, 1013, 1017, 1018]
def adr : List Addr := adr0 ++ adr1 ++ adr2 ++ adr3 ++ adr4 ++ adr5 ++ adr6 ++ adr7 ++ adr8 ++ adr9 ++ adr10
def d_to_differences : He.DefD := ⟨("to_differences", none), "to_differences", "to_differences", defArgs (top 14), defBody (top 14), defScope (top 14), [], []⟩
def d_from_differences : He.DefD := ⟨("from_differences", none), "from_differences", "from_differences", defArgs (top 15), defBody (top 15), defScope (top 15), [], []⟩
def d_to_planes : He.DefD := ⟨("to_planes", none), "to_planes", "to_planes", defArgs (top 16), defBody (top 16), defScope (top 16), [], []⟩
def d_from_planes : He.DefD := ⟨("from_planes", none), "from_planes", "from_planes", defArgs (top 17), defBody (top 17), defScope (top 17), [], []⟩
def d_to_runs : He.DefD := ⟨("to_runs", none), "to_runs", "to_runs", defArgs (top 18), defBody (top 18), defScope (top 18), [], []⟩
def d_from_runs : He.DefD := ⟨("from_runs", none), "from_runs", "from_runs", defArgs (top 19), defBody (top 19), defScope (top 19), [], []⟩
def d_to_short : He.DefD := ⟨("to_short", none), "to_short", "to_short", defArgs (top 20), defBody (top 20), defScope (top 20), [], []⟩
def d_from_short : He.DefD := ⟨("from_short", none), "from_short", "from_short", defArgs (top 21), defBody (top 21), defScope (top 21), [], []⟩
def d_apply_filter : He.DefD := ⟨("apply_filter", none), "apply_filter", "apply_filter", defArgs (top 22), defBody (top 22), defScope (top 22), [], []⟩
def d_undo_filter : He.DefD := ⟨("undo_filter", none), "undo_filter", "undo_filter", defArgs (top 23), defBody (top 23), defScope (top 23), [], []⟩
def d_apply_chain : He.DefD := ⟨("apply_chain", none), "apply_chain", "apply_chain", defArgs (top 24), defBody (top 24), defScope (top 24), [], []⟩
def d_undo_chain : He.DefD := ⟨("undo_chain", none), "undo_chain", "undo_chain", defArgs (top 25), defBody (top 25), defScope (top 25), [], []⟩
def d_width : He.DefD := ⟨("width", none), "width", "width", defArgs (top 29), defBody (top 29), defScope (top 29), [], []⟩
def d_span : He.DefD := ⟨("span", none), "span", "span", defArgs (top 30), defBody (top 30), defScope (top 30), [], []⟩
def d_least : He.DefD := ⟨("least", none), "least", "least", defArgs (top 31), defBody (top 31), defScope (top 31), [], []⟩
def d_greatest : He.DefD := ⟨("greatest", none), "greatest", "greatest", defArgs (top 32), defBody (top 32), defScope (top 32), [], []⟩
def d_in_range : He.DefD := ⟨("in_range", none), "in_range", "in_range", defArgs (top 33), defBody (top 33), defScope (top 33), [], []⟩
def d_demand_range : He.DefD := ⟨("demand_range", none), "demand_range", "demand_range", defArgs (top 34), defBody (top 34), defScope (top 34), [], []⟩
def d_store_values : He.DefD := ⟨("store_values", none), "store_values", "store_values", defArgs (top 35), defBody (top 35), defScope (top 35), [], []⟩
def d_load_values : He.DefD := ⟨("load_values", none), "load_values", "load_values", defArgs (top 36), defBody (top 36), defScope (top 36), [], []⟩
def d_write_number : He.DefD := ⟨("write_number", none), "write_number", "write_number", defArgs (top 40), defBody (top 40), defScope (top 40), [], []⟩
def d_write_integer : He.DefD := ⟨("write_integer", none), "write_integer", "write_integer", defArgs (top 41), defBody (top 41), defScope (top 41), [], []⟩
def d_write_integers : He.DefD := ⟨("write_integers", none), "write_integers", "write_integers", defArgs (top 42), defBody (top 42), defScope (top 42), [], []⟩
def d_write_bytes : He.DefD := ⟨("write_bytes", none), "write_bytes", "write_bytes", defArgs (top 43), defBody (top 43), defScope (top 43), [], []⟩
def d_byte_at : He.DefD := ⟨("byte_at", none), "byte_at", "byte_at", defArgs (top 44), defBody (top 44), defScope (top 44), [], []⟩
def d_read_number : He.DefD := ⟨("read_number", none), "read_number", "read_number", defArgs (top 45), defBody (top 45), defScope (top 45), [], []⟩
def d_read_integer : He.DefD := ⟨("read_integer", none), "read_integer", "read_integer", defArgs (top 46), defBody (top 46), defScope (top 46), [], []⟩
def d_read_count : He.DefD := ⟨("read_count", none), "read_count", "read_count", defArgs (top 47), defBody (top 47), defScope (top 47), [], []⟩
def d_read_integers : He.DefD := ⟨("read_integers", none), "read_integers", "read_integers", defArgs (top 48), defBody (top 48), defScope (top 48), [], []⟩
def d_read_bytes : He.DefD := ⟨("read_bytes", none), "read_bytes", "read_bytes", defArgs (top 49), defBody (top 49), defScope (top 49), [], []⟩
def d_check_of : He.DefD := ⟨("check_of", none), "check_of", "check_of", defArgs (top 50), defBody (top 50), defScope (top 50), [], []⟩
def d_make_record : He.DefD := ⟨("make_record", none), "make_record", "make_record", defArgs (top 55), defBody (top 55), defScope (top 55), [], []⟩
def d_content_of : He.DefD := ⟨("content_of", none), "content_of", "content_of", defArgs (top 56), defBody (top 56), defScope (top 56), [], []⟩
def d_read_record : He.DefD := ⟨("read_record", none), "read_record", "read_record", defArgs (top 57), defBody (top 57), defScope (top 57), [], []⟩
def d_is_shape : He.DefD := ⟨("is_shape", none), "is_shape", "is_shape", defArgs (top 61), defBody (top 61), defScope (top 61), [], []⟩
def d_element_count : He.DefD := ⟨("element_count", none), "element_count", "element_count", defArgs (top 62), defBody (top 62), defScope (top 62), [], []⟩
def d_rank_of : He.DefD := ⟨("rank_of", none), "rank_of", "rank_of", defArgs (top 63), defBody (top 63), defScope (top 63), [], []⟩
def d_index_of : He.DefD := ⟨("index_of", none), "index_of", "index_of", defArgs (top 64), defBody (top 64), defScope (top 64), [], []⟩
def d_is_index : He.DefD := ⟨("is_index", none), "is_index", "is_index", defArgs (top 65), defBody (top 65), defScope (top 65), [], []⟩
def d_indexes_in : He.DefD := ⟨("indexes_in", none), "indexes_in", "indexes_in", defArgs (top 66), defBody (top 66), defScope (top 66), [], []⟩
def d_write_node : He.DefD := ⟨("write_node", none), "write_node", "write_node", defArgs (top 71), defBody (top 71), defScope (top 71), [], []⟩
def d_read_node : He.DefD := ⟨("read_node", none), "read_node", "read_node", defArgs (top 72), defBody (top 72), defScope (top 72), [], []⟩
def d_load_node : He.DefD := ⟨("load_node", none), "load_node", "load_node", defArgs (top 73), defBody (top 73), defScope (top 73), [], []⟩
def d_child_at : He.DefD := ⟨("child_at", none), "child_at", "child_at", defArgs (top 74), defBody (top 74), defScope (top 74), [], []⟩
def d_find : He.DefD := ⟨("find", none), "find", "find", defArgs (top 75), defBody (top 75), defScope (top 75), [], []⟩
def d_save_rows : He.DefD := ⟨("save_rows", none), "save_rows", "save_rows", defArgs (top 76), defBody (top 76), defScope (top 76), [], []⟩
def d_put_into : He.DefD := ⟨("put_into", none), "put_into", "put_into", defArgs (top 77), defBody (top 77), defScope (top 77), [], []⟩
def d_put_below : He.DefD := ⟨("put_below", none), "put_below", "put_below", defArgs (top 78), defBody (top 78), defScope (top 78), [], []⟩
def d_put : He.DefD := ⟨("put", none), "put", "put", defArgs (top 79), defBody (top 79), defScope (top 79), [], []⟩
def d_remove_below : He.DefD := ⟨("remove_below", none), "remove_below", "remove_below", defArgs (top 80), defBody (top 80), defScope (top 80), [], []⟩
def d_lowered : He.DefD := ⟨("lowered", none), "lowered", "lowered", defArgs (top 81), defBody (top 81), defScope (top 81), [], []⟩
def d_remove : He.DefD := ⟨("remove", none), "remove", "remove", defArgs (top 82), defBody (top 82), defScope (top 82), [], []⟩
def d_reaches : He.DefD := ⟨("reaches", none), "reaches", "reaches", defArgs (top 83), defBody (top 83), defScope (top 83), [], []⟩
def d_entries : He.DefD := ⟨("entries", none), "entries", "entries", defArgs (top 84), defBody (top 84), defScope (top 84), [], [("low", .adr fun _ => 551), ("high", .non)]⟩
def d_encode_chunk : He.DefD := ⟨("encode_chunk", none), "encode_chunk", "encode_chunk", defArgs (top 86), defBody (top 86), defScope (top 86), [], []⟩
def d_decode_chunk : He.DefD := ⟨("decode_chunk", none), "decode_chunk", "decode_chunk", defArgs (top 87), defBody (top 87), defScope (top 87), [], []⟩
def d_load_chunk : He.DefD := ⟨("load_chunk", none), "load_chunk", "load_chunk", defArgs (top 88), defBody (top 88), defScope (top 88), [], []⟩
def d_save_chunk : He.DefD := ⟨("save_chunk", none), "save_chunk", "save_chunk", defArgs (top 89), defBody (top 89), defScope (top 89), [], []⟩
def d_selection_size : He.DefD := ⟨("selection_size", none), "selection_size", "selection_size", defArgs (top 92), defBody (top 92), defScope (top 92), [], []⟩
def d_fits_range : He.DefD := ⟨("fits_range", none), "fits_range", "fits_range", defArgs (top 93), defBody (top 93), defScope (top 93), [], []⟩
def d_fits : He.DefD := ⟨("fits", none), "fits", "fits", defArgs (top 94), defBody (top 94), defScope (top 94), [], []⟩
def d_box_indexes : He.DefD := ⟨("box_indexes", none), "box_indexes", "box_indexes", defArgs (top 95), defBody (top 95), defScope (top 95), [], []⟩
def d_picked : He.DefD := ⟨("picked", none), "picked", "picked", defArgs (top 96), defBody (top 96), defScope (top 96), [], []⟩
def d_Layout_init : He.DefD := ⟨("Layout", some "__init__"), "__init__", "Layout.__init__", defArgs (inClass (top 98) 0), defBody (inClass (top 98) 0), defScope (inClass (top 98) 0), [], []⟩
def d_grid_index : He.DefD := ⟨("grid_index", none), "grid_index", "grid_index", defArgs (top 99), defBody (top 99), defScope (top 99), [], []⟩
def d_place_in_chunk : He.DefD := ⟨("place_in_chunk", none), "place_in_chunk", "place_in_chunk", defArgs (top 100), defBody (top 100), defScope (top 100), [], []⟩
def d_read_slab : He.DefD := ⟨("read_slab", none), "read_slab", "read_slab", defArgs (top 102), defBody (top 102), defScope (top 102), [], []⟩
def d_write_slab : He.DefD := ⟨("write_slab", none), "write_slab", "write_slab", defArgs (top 103), defBody (top 103), defScope (top 103), [], []⟩
def d_origin_of : He.DefD := ⟨("origin_of", none), "origin_of", "origin_of", defArgs (top 104), defBody (top 104), defScope (top 104), [], []⟩
def d_cut_values : He.DefD := ⟨("cut_values", none), "cut_values", "cut_values", defArgs (top 105), defBody (top 105), defScope (top 105), [], []⟩
def d_sticks_out : He.DefD := ⟨("sticks_out", none), "sticks_out", "sticks_out", defArgs (top 106), defBody (top 106), defScope (top 106), [], []⟩
def d_resize_slabs : He.DefD := ⟨("resize_slabs", none), "resize_slabs", "resize_slabs", defArgs (top 107), defBody (top 107), defScope (top 107), [], []⟩
def d_Disk_init : He.DefD := ⟨("Disk", some "__init__"), "__init__", "Disk.__init__", defArgs (inClass (top 109) 0), defBody (inClass (top 109) 0), defScope (inClass (top 109) 0), [], []⟩
def d_Disk_len : He.DefD := ⟨("Disk", some "__len__"), "__len__", "Disk.__len__", defArgs (inClass (top 109) 1), defBody (inClass (top 109) 1), defScope (inClass (top 109) 1), [], []⟩
def d_Disk_part : He.DefD := ⟨("Disk", some "part"), "part", "Disk.part", defArgs (inClass (top 109) 2), defBody (inClass (top 109) 2), defScope (inClass (top 109) 2), [], []⟩
def d_Disk_append : He.DefD := ⟨("Disk", some "append"), "append", "Disk.append", defArgs (inClass (top 109) 3), defBody (inClass (top 109) 3), defScope (inClass (top 109) 3), [], []⟩
def d_write_digits : He.DefD := ⟨("write_digits", none), "write_digits", "write_digits", defArgs (top 115), defBody (top 115), defScope (top 115), [], []⟩
def d_make_seal : He.DefD := ⟨("make_seal", none), "make_seal", "make_seal", defArgs (top 117), defBody (top 117), defScope (top 117), [], []⟩
def d_Log_init : He.DefD := ⟨("Log", some "__init__"), "__init__", "Log.__init__", defArgs (inClass (top 120) 0), defBody (inClass (top 120) 0), defScope (inClass (top 120) 0), [], []⟩
def d_Log_put : He.DefD := ⟨("Log", some "put"), "put", "Log.put", defArgs (inClass (top 120) 3), defBody (inClass (top 120) 3), defScope (inClass (top 120) 3), [], []⟩
def d_Log_fetch : He.DefD := ⟨("Log", some "fetch"), "fetch", "Log.fetch", defArgs (inClass (top 120) 4), defBody (inClass (top 120) 4), defScope (inClass (top 120) 4), [], []⟩
def d_Log_seal : He.DefD := ⟨("Log", some "seal"), "seal", "Log.seal", defArgs (inClass (top 120) 5), defBody (inClass (top 120) 5), defScope (inClass (top 120) 5), [], []⟩
def d_PlainArray_init : He.DefD := ⟨("PlainArray", some "__init__"), "__init__", "PlainArray.__init__", defArgs (inClass (top 122) 0), defBody (inClass (top 122) 0), defScope (inClass (top 122) 0), [], []⟩
def d_PlainArray_all_values : He.DefD := ⟨("PlainArray", some "all_values"), "all_values", "PlainArray.all_values", defArgs (inClass (top 122) 1), defBody (inClass (top 122) 1), defScope (inClass (top 122) 1), [], []⟩
def d_PlainArray_read : He.DefD := ⟨("PlainArray", some "read"), "read", "PlainArray.read", defArgs (inClass (top 122) 2), defBody (inClass (top 122) 2), defScope (inClass (top 122) 2), [], []⟩
def d_PlainArray_write : He.DefD := ⟨("PlainArray", some "write"), "write", "PlainArray.write", defArgs (inClass (top 122) 3), defBody (inClass (top 122) 3), defScope (inClass (top 122) 3), [], []⟩
def d_PlainArray_resize : He.DefD := ⟨("PlainArray", some "resize"), "resize", "PlainArray.resize", defArgs (inClass (top 122) 4), defBody (inClass (top 122) 4), defScope (inClass (top 122) 4), [], []⟩
def d_law_cell : He.DefD := ⟨("_law_cell", none), "_law_cell", "_law_cell", defArgs (top 124), defBody (top 124), defScope (top 124), [], []⟩
def d_law_draws : He.DefD := ⟨("_law_draws", none), "_law_draws", "_law_draws", defArgs (top 125), defBody (top 125), defScope (top 125), [], []⟩
def d_law_is_int : He.DefD := ⟨("_law_is_int", none), "_law_is_int", "_law_is_int", defArgs (top 126), defBody (top 126), defScope (top 126), [], []⟩
def d_law_is_number : He.DefD := ⟨("_law_is_number", none), "_law_is_number", "_law_is_number", defArgs (top 127), defBody (top 127), defScope (top 127), [], []⟩
def d_law_low : He.DefD := ⟨("_law_low", none), "_law_low", "_law_low", defArgs (top 128), defBody (top 128), defScope (top 128), [], []⟩
def d_law_high : He.DefD := ⟨("_law_high", none), "_law_high", "_law_high", defArgs (top 129), defBody (top 129), defScope (top 129), [], []⟩
def d_law_value : He.DefD := ⟨("_law_value", none), "_law_value", "_law_value", defArgs (top 130), defBody (top 130), defScope (top 130), [], []⟩
def d_law_kind : He.DefD := ⟨("_law_kind", none), "_law_kind", "_law_kind", defArgs (top 131), defBody (top 131), defScope (top 131), [], []⟩
def d_law_chain : He.DefD := ⟨("_law_chain", none), "_law_chain", "_law_chain", defArgs (top 132), defBody (top 132), defScope (top 132), [], []⟩
def d_law_shape : He.DefD := ⟨("_law_shape", none), "_law_shape", "_law_shape", defArgs (top 133), defBody (top 133), defScope (top 133), [], []⟩
def d_law_all : He.DefD := ⟨("_law_all", none), "_law_all", "_law_all", defArgs (top 134), defBody (top 134), defScope (top 134), [], []⟩
def d_law_picks : He.DefD := ⟨("_law_picks", none), "_law_picks", "_law_picks", defArgs (top 135), defBody (top 135), defScope (top 135), [], []⟩
def d_law_selection : He.DefD := ⟨("_law_selection", none), "_law_selection", "_law_selection", defArgs (top 136), defBody (top 136), defScope (top 136), [], []⟩
def d_law_whole : He.DefD := ⟨("_law_whole", none), "_law_whole", "_law_whole", defArgs (top 137), defBody (top 137), defScope (top 137), [], []⟩
def d_law_same_ints : He.DefD := ⟨("_law_same_ints", none), "_law_same_ints", "_law_same_ints", defArgs (top 138), defBody (top 138), defScope (top 138), [], []⟩
def d_law_stream : He.DefD := ⟨("_law_stream", none), "_law_stream", "_law_stream", defArgs (top 139), defBody (top 139), defScope (top 139), [], []⟩
def d_law_chunk_shape : He.DefD := ⟨("_law_chunk_shape", none), "_law_chunk_shape", "_law_chunk_shape", defArgs (top 140), defBody (top 140), defScope (top 140), [], []⟩
def d_law_world : He.DefD := ⟨("_law_world", none), "_law_world", "_law_world", defArgs (top 141), defBody (top 141), defScope (top 141), [], []⟩
def d_law : He.DefD := ⟨("law", none), "law", "law", defArgs (top 142), defBody (top 142), defScope (top 142), [], []⟩
def fn0 : List He.DefD := [d_to_differences, d_from_differences, d_to_planes, d_from_planes, d_to_runs, d_from_runs, d_to_short, d_from_short, d_apply_filter, d_undo_filter, d_apply_chain, d_undo_chain, d_width, d_span, d_least, d_greatest, d_in_range, d_demand_range, d_store_values, d_load_values, d_write_number, d_write_integer, d_write_integers, d_write_bytes, d_byte_at, d_read_number, d_read_integer, d_read_count, d_read_integers, d_read_bytes]
def fn1 : List He.DefD := [d_check_of, d_make_record, d_content_of, d_read_record, d_is_shape, d_element_count, d_rank_of, d_index_of, d_is_index, d_indexes_in, d_write_node, d_read_node, d_load_node, d_child_at, d_find, d_save_rows, d_put_into, d_put_below, d_put, d_remove_below, d_lowered, d_remove, d_reaches, d_entries, d_encode_chunk, d_decode_chunk, d_load_chunk, d_save_chunk, d_selection_size, d_fits_range]
def fn2 : List He.DefD := [d_fits, d_box_indexes, d_picked, d_Layout_init, d_grid_index, d_place_in_chunk, d_read_slab, d_write_slab, d_origin_of, d_cut_values, d_sticks_out, d_resize_slabs, d_Disk_init, d_Disk_len, d_Disk_part, d_Disk_append, d_write_digits, d_make_seal, d_Log_init, d_Log_put, d_Log_fetch, d_Log_seal, d_PlainArray_init, d_PlainArray_all_values, d_PlainArray_read, d_PlainArray_write, d_PlainArray_resize, d_law_cell, d_law_draws, d_law_is_int]
def fn3 : List He.DefD := [d_law_is_number, d_law_low, d_law_high, d_law_value, d_law_kind, d_law_chain, d_law_shape, d_law_all, d_law_picks, d_law_selection, d_law_whole, d_law_same_ints, d_law_stream, d_law_chunk_shape, d_law_world, d_law]
def fn : List He.DefD := fn0 ++ fn1 ++ fn2 ++ fn3
def fa0 : List He.Fa := [.glo "to_differences", .glo "from_differences", .glo "to_planes", .glo "from_planes", .glo "to_runs", .glo "from_runs", .glo "to_short", .glo "from_short", .glo "apply_filter", .glo "undo_filter", .glo "apply_chain", .glo "undo_chain", .glo "width", .glo "span", .glo "least", .glo "greatest", .glo "in_range", .glo "demand_range", .glo "store_values", .glo "load_values", .glo "write_number", .glo "write_integer", .glo "write_integers", .glo "write_bytes", .glo "byte_at", .glo "read_number", .glo "read_integer", .glo "read_count", .glo "read_integers", .glo "read_bytes"]
def fa1 : List He.Fa := [.glo "check_of", .glo "make_record", .glo "content_of", .glo "read_record", .glo "is_shape", .glo "element_count", .glo "rank_of", .glo "index_of", .glo "is_index", .glo "indexes_in", .glo "write_node", .glo "read_node", .glo "load_node", .glo "child_at", .glo "find", .glo "save_rows", .glo "put_into", .glo "put_below", .glo "put", .glo "remove_below", .glo "lowered", .glo "remove", .glo "reaches", .glo "entries", .glo "encode_chunk", .glo "decode_chunk", .glo "load_chunk", .glo "save_chunk", .glo "selection_size", .glo "fits_range"]
def fa2 : List He.Fa := [.glo "fits", .glo "box_indexes", .glo "picked", .glo "grid_index", .glo "place_in_chunk", .glo "read_slab", .glo "write_slab", .glo "origin_of", .glo "cut_values", .glo "sticks_out", .glo "resize_slabs", .glo "write_digits", .glo "make_seal", .glo "_law_cell", .glo "_law_draws", .glo "_law_is_int", .glo "_law_is_number", .glo "_law_low", .glo "_law_high", .glo "_law_value", .glo "_law_kind", .glo "_law_chain", .glo "_law_shape", .glo "_law_all", .glo "_law_picks", .glo "_law_selection", .glo "_law_whole", .glo "_law_same_ints", .glo "_law_stream", .glo "_law_chunk_shape"]
def fa3 : List He.Fa := [.glo "_law_world", .glo "law", .glo "Layout", .glo "Disk", .glo "Log", .glo "PlainArray", .glo "Damaged", .glo "NOTHING", .glo "WIDTHS", .glo "SPANS", .free "len", .free "range", .free "list", .free "tuple", .free "min", .free "max", .free "sum", .free "all", .free "any", .free "zip", .free "sorted", .free "isinstance", .free "int", .free "bool", .free "super", .int "LONGEST_RUN" 255, .int "MOST_ZEROS" 65535, .int "BASE" 125, .int "HIGHEST" 249, .int "LEAF" 1]
def fa4 : List He.Fa := [.int "INNER" 2, .int "CHUNK" 3, .int "MOST_DIMENSIONS" 4, .int "LARGEST_SIZE" 1000000000, .int "MOST_ENTRIES" 8, .int "FIRST_HALF" 5, .int "MOST_PICKED" 100000, .int "SEAL_LENGTH" 28, .int "FIRST" 255, .int "LAST" 254, .int "DIGITS" 8, .cls "Layout", .mkr "Layout", .noat "Layout" "kind", .noat "Layout" "chunk_shape", .noat "Layout" "fill", .noat "Layout" "filters", .cls "Disk", .mkr "Disk", .noat "Disk" "cells", .cls "Log", .mkr "Log", .noat "Log" "disk", .noat "Log" "waiting", .noat "Log" "sealed", .cls "PlainArray", .mkr "PlainArray", .noat "PlainArray" "shape", .noat "PlainArray" "fill", .noat "PlainArray" "cells"]
def fa5 : List He.Fa := [.meth "Disk" "part", .meth "Disk" "append", .meth "Disk" "__len__", .meth "Log" "put", .meth "Log" "fetch", .meth "Log" "seal", .meth "PlainArray" "all_values", .meth "PlainArray" "read", .meth "PlainArray" "write", .meth "PlainArray" "resize"]
def fa : List He.Fa := fa0 ++ fa1 ++ fa2 ++ fa3 ++ fa4 ++ fa5
/-! ### the Hook: a fragment at written addresses -/
def frc {α : Type} : PySem.W.Frag → (PySem.W.Frag → α) → α
  | [], k => k []
  | (a, o) :: r, k => frc r fun r' => k ((a, o) :: r')
theorem frc_eq {α : Type} : ∀ (l : PySem.W.Frag) (k : PySem.W.Frag → α), frc l k = k l
  | [], k => rfl
  | (a, o) :: r, k => frc_eq r fun r' => k ((a, o) :: r')
/-- Damaged's own __init__: its name, its text, its closure -/
abbrev FnC : Type := Option (Str × Str × Arguments × FuncBody × Scope × Addr × List (Str × Addr) × Value × Addr)
abbrev sDamI : Stmt := inClass (top 10) 0
def damObs (K : PySem.W.Frag) : FnC := match K.lookup (He.ma K (He.ga K "Damaged") "__init__") with
  | some ⟨_, _, .func fd, _⟩ => some (fd.name, fd.qualname, fd.params, fd.body, fd.scope, fd.globals, fd.closure, fd.defaults, fd.builtins)
  | _ => none
def damVal : FnC := some ("__init__", "Damaged.__init__", defArgs sDamI, .stmts (defBody sDamI), defScope sDamI, mainGlobals, [("__class__", 167)], .none, builtinsNs)
def damB (K : PySem.W.Frag) : Bool := (match K.lookup (He.ma K (He.ga K "Damaged") "__init__") with
  | some ⟨_, _, .func fd, _⟩ => PySem.W.codeIn K fd.code "Damaged.__init__" && (match fd.code with
    | .ref cda => (match K.lookup cda with
      | some ⟨_, _, .fields vs, _⟩ => (match vs.toList with
        | [_, _, .str file _, _, _, _, _, _, _, _, _, _, _, _, _, _, _, _, _] => decide (file = "/claim/cut.py")
        | _ => false)
      | _ => false)
    | _ => false)
  | _ => false) && (match K.lookup 167 with
  | some ⟨_, _, .cell (some (.ref d)), _⟩ => decide (d = He.ga K "Damaged")
  | _ => false)
def eqOB (a b : Option Bool) : Bool := decide (a = b)
def damX (K : PySem.W.Frag) : Bool := let C := He.ga K "Damaged"
  PySem.W.excInitIn K C He.veBase "ValueError.__new__" && PySem.W.hasDictIn K C && He.eqO (PySem.W.findIn K (.ref C) "__setattr__") (some (some (.builtin "object.__setattr__"))) && eqOB (PySem.W.subIn K (.ref C) (.type "BaseException")) (some true) &&
  eqOB (PySem.W.subIn K (.ref C) (.type "ValueError")) (some true) && decide (PySem.W.typeIn K (.ref C) = some (.type "type")) && PySem.W.keepIn K (.ref C) && eqOB (PySem.W.exmOne K (.ref C) (.ref C)) (some true) &&
  He.eqO (PySem.W.findIn K (.ref C) "__init__") (some (some (.ref (He.ma K C "__init__")))) && decide (PySem.W.typeIn K (.ref (He.ma K C "__init__")) = some (.type "function")) &&
  He.eqO (PySem.W.findIn K (.ref C) "address") (some none) && He.eqO (PySem.W.findIn K (.ref C) "length") (some none) && He.eqO (PySem.W.nsIn K cStatics "thirdparty.any") (some none) &&
  He.eqO (PySem.W.ks_superIn K C C "__init__") (some (some (.builtin "ValueError.__init__"))) && eqOB (PySem.W.mroIn K C (.ref C)) (some true)
/-- the two tables, the empty tuple of a default -/
def spaB (K : PySem.W.Frag) : Bool := match K.lookup (He.ga K "SPANS") with
  | some ⟨.type c, none, .dict es _, sl⟩ => decide (c = "dict") && (sl.isEmpty && (es.toList.all (fun e => match e.key with
    | .int j _ => decide (e.hash = hashInt j)
    | _ => false) && ([((1 : Int), (256 : Int)), (2, 65536), (4, 4294967296)].all fun q => match findBy Value.isInt es q.1 with
    | some u => He.relB (.int q.2) u
    | _ => false)))
  | _ => false
def empB (K : PySem.W.Frag) : Bool := match K.lookup 551 with
  | some ⟨.type c, _, .seq its _, _⟩ => decide (c = "tuple") && its.isEmpty
  | _ => false
def wKeys : List Str := ["i1", "i2", "i4", "u1", "u2", "u4"]
def wTab : List (Str × He.Dv) := [("i1", .int 1), ("i2", .int 2), ("i4", .int 4), ("u1", .int 1), ("u2", .int 2), ("u4", .int 4)]
abbrev TabW : Type := Option (List (Option (Str × Int)))
abbrev AlX : Type := He.AlD × Bool × FnC × TabW
def obsX (xs : PySem.W.Frag → Bool) (K : PySem.W.Frag) : AlX := (He.obsD fa fn K, xs K, damObs K, He.dicW K (He.ga K "WIDTHS"))
def xtra (K : PySem.W.Frag) : Bool := He.tupB K "NOTHING" [.int 0, .int 0] && (damB K && (damX K && (spaB K && (empB K && He.valsB K (He.ga K "WIDTHS") wTab))))
def obsXG (g : Addr → Option Obj) : AlX := frc (He.frG g adr) (obsX xtra)
def valX (P : Params) : AlX := (He.valD fn, true, damVal, some (He.keysIn P wKeys))
def SaysX (P : Params) (K : PySem.W.Frag) : Prop := obsX xtra K = valX P
def hk : PySem.W.Hook where
  α := AlX
  obs := fun s => obsXG s.heap.get?
  val := fun w => valX w.params
  says := fun w h => ∃ K : PySem.W.Frag, K.In h ∧ SaysX w.params K
  of := fun w s e => ⟨_, He.frG_in (as := adr) (h := s.heap), by
    have e' : frc (He.frG s.heap.get? adr) (obsX xtra) = valX w.params := e
    rw [frc_eq] at e'
    exact e'⟩
  keeps := fun _ _ _ ⟨K, hK, c⟩ k => ⟨K, PySem.W.Frag.In.keeps hK k, c⟩
abbrev R : PySem.W.OpenRow := PySem.W.OpenLaw.row PySem.Challenge.rw_tessera_k51_whole_slabs_are_plain_arrays
def ob (s : PySem.W.SharedT) : AlX := obsXG (HandSHeadRun.getT s)
theorem ob_eq (s : PySem.W.SharedT) : ob s = hk.obs s.abs := by
  have e : HandSHeadRun.getT s = s.abs.heap.get? := funext (HandSHeadRun.getT_eq s)
  show obsXG (HandSHeadRun.getT s) = obsXG s.abs.heap.get?
  rw [e]
end TzH
namespace TzH
open PySem PySem.Spec PyProof.Rows L2 Tz

theorem run_ab_f (w : World) (os : OsState) : (HandSHeadRun.endF (HandSHeadRun.stepQ (HandSHeadRun.denQ HandSHeadRun.tabQ) R.prog (w.withFollow "special-get-raises" false)) 8000 R.prog (w.withFollow "special-get-raises" false) os).map (fun s => (HandSHeadRun.looksF R.prog (PySem.W.boot_heap (w.withFollow "special-get-raises" false).params) s.abs, HandSHeadRun.seenQ (PySem.W.view R.prog [142]) names (PySem.importedModules R.prog.main.body) (fun s => PySem.W.xlAt (PySem.W.view R.prog [142]) [] s && PySem.W.recOk R.toRowW.records s) s.abs)) = some (true, PySem.W.openGood (PySem.W.view R.prog [142]) names) := by
  kernel_rfl
theorem run_c_f (w : World) (os : OsState) : (HandSHeadRun.endF (HandSHeadRun.stepQ (HandSHeadRun.denQ HandSHeadRun.tabQ) R.prog (w.withFollow "special-get-raises" false)) 8000 R.prog (w.withFollow "special-get-raises" false) os).map ob = some (valX w.params) := by
  kernel_rfl

theorem run_ab_t (w : World) (os : OsState) : (HandSHeadRun.endF (HandSHeadRun.stepQ (HandSHeadRun.denQ HandSHeadRun.tabQ) R.prog (w.withFollow "special-get-raises" true)) 8000 R.prog (w.withFollow "special-get-raises" true) os).map (fun s => (HandSHeadRun.looksF R.prog (PySem.W.boot_heap (w.withFollow "special-get-raises" true).params) s.abs, HandSHeadRun.seenQ (PySem.W.view R.prog [142]) names (PySem.importedModules R.prog.main.body) (fun s => PySem.W.xlAt (PySem.W.view R.prog [142]) [] s && PySem.W.recOk R.toRowW.records s) s.abs)) = some (true, PySem.W.openGood (PySem.W.view R.prog [142]) names) := by
  kernel_rfl
theorem run_c_t (w : World) (os : OsState) : (HandSHeadRun.endF (HandSHeadRun.stepQ (HandSHeadRun.denQ HandSHeadRun.tabQ) R.prog (w.withFollow "special-get-raises" true)) 8000 R.prog (w.withFollow "special-get-raises" true) os).map ob = some (valX w.params) := by
  kernel_rfl

theorem run_of {α β γ : Type} {o : Option PySem.W.SharedT} {f : PySem.W.SharedT → α} {g : PySem.W.SharedT → β} {k : PySem.W.SharedT → γ} {a : α} {b : β} {c : γ} (h1 : o.map (fun s => (f s, g s)) = some (a, b)) (h2 : o.map k = some c) : o.map (fun s => (f s, g s, k s)) = some (a, b, c) := by
  cases o with
  | none => cases h1
  | some s =>
    have e1 := Option.some.inj h1
    have e2 : k s = c := Option.some.inj h2
    obtain ⟨e3, e4⟩ := Prod.mk.inj e1
    show some (f s, g s, k s) = _
    rw [e3, e4, e2]
theorem run (w : World) : HandSHeadRun.RunEq R (PySem.W.view R.prog [142]) hk ob 8000 names w :=
  PySem.W.byRow2 "special-get-raises" (P := fun w => HandSHeadRun.RunEq R (PySem.W.view R.prog [142]) hk ob 8000 names w) (fun w os => run_of (run_ab_f w os) (run_c_f w os)) (fun w os => run_of (run_ab_t w os) (run_c_t w os)) w
end TzH
namespace Tz
open PySem
/-! ### what sleeps is left alone -/
def asleepK : Resume → Sem PySem.Fin := fun _ => .unsupported "asleep"
/-- both alike, or: one that must not be woken, and the true one -/
def CleanG : GenState → Prop
  | .suspended _ _ _ _ fs _ => splitAtGen fs = none
  | _ => True
def Pr (x y : GenState) : Prop := (x = y ∧ CleanG x) ∨ ∃ k l c p fs cl, x = .suspended asleepK l c p fs cl ∧ y = .suspended k l c p fs cl
structure SimG (g h : Array GenState) : Prop where
  size : g.size = h.size
  pr : ∀ (i : Nat) (x y : GenState), g[i]? = some x → h[i]? = some y → Pr x y
def KeptG (g h g' h' : Array GenState) : Prop := ∀ (i : Nat) l c p fs cl, g[i]? = some (.suspended asleepK l c p fs cl) → g'[i]? = g[i]? ∧ h'[i]? = h[i]?
theorem KeptG.refl {g h : Array GenState} : KeptG g h g h := fun _ _ _ _ _ _ _ => ⟨rfl, rfl⟩
theorem KeptG.trans {g h g' h' g2 h2 : Array GenState} (a : KeptG g h g' h') (b : KeptG g' h' g2 h2) : KeptG g h g2 h2 := fun i l c p fs cl e => by
  obtain ⟨e1, e2⟩ := a i l c p fs cl e
  obtain ⟨e3, e4⟩ := b i l c p fs cl (e1.trans e)
  exact ⟨e3.trans e1, e4.trans e2⟩
def CleanE : End → Prop
  | .susp _ _ _ _ _ _ fs => splitAtGen fs = none
  | _ => True
theorem split_app {a b : List Frame} (ha : splitAtGen a = none) (hb : splitAtGen b = none) : splitAtGen (a ++ b) = none := by
  induction a with
  | nil => exact hb
  | cons F a ih =>
    cases F with
    | ret =>
      have : (splitAtGen a).map (fun (x : List Frame × (Nat × (GenResult → Sem PySem.Fin) × Code × Pos) × List Frame) => x) = none := by
        cases e : splitAtGen a with
        | none => rfl
        | some y => simp only [splitAtGen, e] at ha; cases ha
      have e : splitAtGen a = none := by
        cases e : splitAtGen a with
        | none => rfl
        | some y => rw [e] at this; cases this
      simp only [List.cons_append, splitAtGen, ih e, Option.map_none]
    | gen => simp only [splitAtGen] at ha; cases ha
theorem split_ret {k h g l c p kp} {fs : List Frame} (hs : splitAtGen (.ret k h g l c p kp :: fs) = none) : splitAtGen fs = none := by
  cases e : splitAtGen fs with
  | none => rfl
  | some y => simp only [splitAtGen, e] at hs; cases hs
theorem no_unsup {M : Model} {Γ : Ctx} {p w fs s e s'} : ¬ Runs M Γ p (.unsupported w) fs s e s' := by
  have key : ∀ {Γ : Ctx} {p s e s'}, ¬ Runs M Γ p (.unsupported w) [] s e s' := by
    intro Γ p s e s' h
    cases h
  intro h
  cases h with
  | segRet a _ => exact key a
  | segGen a _ => exact key a
  | segSuspOut _ a => exact key a
  | segSuspGen _ a _ _ => exact key a
theorem SimG.get {g h : Array GenState} (S : SimG g h) {i : Nat} {x : GenState} (e : g[i]? = some x) : ∃ y, h[i]? = some y ∧ Pr x y := by
  have hi : i < h.size := by
    have := (Array.getElem?_eq_some_iff.mp e).1
    rw [← S.size]; exact this
  exact ⟨h[i], Array.getElem?_eq_getElem hi, S.pr i x _ e (Array.getElem?_eq_getElem hi)⟩
theorem SimG.push {g h : Array GenState} (S : SimG g h) {x : GenState} (hx : CleanG x) : SimG (g.push x) (h.push x) := by
  refine ⟨by simp [S.size], fun i a b ea eb => ?_⟩
  rw [Array.getElem?_push] at ea eb
  by_cases hi : i = g.size
  · rw [if_pos hi] at ea
    rw [if_pos (hi.trans S.size)] at eb
    cases ea; cases eb
    exact .inl ⟨rfl, hx⟩
  · rw [if_neg hi] at ea
    rw [if_neg (fun z => hi (z.trans S.size.symm))] at eb
    exact S.pr i a b ea eb
theorem SimG.set {g h : Array GenState} (S : SimG g h) {n : Nat} {x : GenState} (hx : CleanG x) : SimG (g.setIfInBounds n x) (h.setIfInBounds n x) := by
  refine ⟨by simp [S.size], fun i a b ea eb => ?_⟩
  rw [Array.getElem?_setIfInBounds] at ea eb
  by_cases hi : n = i
  · subst hi
    rw [if_pos rfl] at ea eb
    split at ea
    · cases ea
      split at eb
      · cases eb; exact .inl ⟨rfl, hx⟩
      · cases eb
    · cases ea
  · rw [if_neg hi] at ea eb
    exact S.pr i a b ea eb
theorem kept_push {g h : Array GenState} (S : g.size = h.size) {x y : GenState} : KeptG g h (g.push x) (h.push y) := fun i l c p fs cl e => by
  have hi : i < g.size := (Array.getElem?_eq_some_iff.mp e).1
  refine ⟨?_, ?_⟩
  · rw [Array.getElem?_push, if_neg (Nat.ne_of_lt hi)]
  · rw [Array.getElem?_push, if_neg (by rw [← S]; exact Nat.ne_of_lt hi)]
theorem kept_set {g h : Array GenState} {n : Nat} {x y : GenState} (hn : ∀ l c p fs cl, g[n]? ≠ some (.suspended asleepK l c p fs cl)) : KeptG g h (g.setIfInBounds n x) (h.setIfInBounds n y) := fun i l c p fs cl e => by
  have : n ≠ i := fun z => hn l c p fs cl (by rw [z]; exact e)
  exact ⟨Array.getElem?_setIfInBounds_ne this, Array.getElem?_setIfInBounds_ne this⟩
theorem kept_over {g h g1 h1 : Array GenState} {n : Nat} {x y x1 y1 : GenState} (hn : ∀ l c p fs cl, g[n]? ≠ some (.suspended asleepK l c p fs cl)) (k : KeptG (g.setIfInBounds n x) (h.setIfInBounds n y) g1 h1) :
    KeptG g h (g1.setIfInBounds n x1) (h1.setIfInBounds n y1) := fun i l c p fs cl e => by
  have ni : n ≠ i := fun z => hn l c p fs cl (by rw [z]; exact e)
  obtain ⟨e1, e2⟩ := k i l c p fs cl (by rw [Array.getElem?_setIfInBounds_ne ni]; exact e)
  rw [Array.getElem?_setIfInBounds_ne ni] at e1 e2
  exact ⟨(Array.getElem?_setIfInBounds_ne ni).trans e1, (Array.getElem?_setIfInBounds_ne ni).trans e2⟩
theorem cleanG_end {e : End} (h : CleanE e) : CleanG e.genState := by
  cases e with
  | ret r => trivial
  | susp v g l k c p fs => exact h
abbrev wG (s : Shared) (G : Array GenState) : Shared := { s with gens := G }
def SimR (M : Model) (Γ : Ctx) (p : Pos) (t : Sem PySem.Fin) (fs : List Frame) (s : Shared) (e : End) (s' : Shared) : Prop :=
  ∀ G, SimG s.gens G → splitAtGen fs = none → ∃ G', Runs M Γ p t fs (wG s G) e (wG s' G') ∧ SimG s'.gens G' ∧ KeptG s.gens G s'.gens G' ∧ CleanE e
theorem runs_sim {M : Model} {Γ : Ctx} {p : Pos} {t : Sem PySem.Fin} {fs : List Frame} {s : Shared} {e : End} {s' : Shared} (h : Runs M Γ p t fs s e s') : SimR M Γ p t fs s e s' := by
  induction h with
  | done => exact fun G S _ => ⟨G, .done, S, .refl, trivial⟩
  | raise => exact fun G S _ => ⟨G, .raise, S, .refl, trivial⟩
  | again hq _ ih => exact fun G S hf => let ⟨G', r, a⟩ := ih G S hf; ⟨G', .again hq r, a⟩
  | rule _ ih => exact fun G S hf => let ⟨G', r, a⟩ := ih G S hf; ⟨G', .rule r, a⟩
  | «at» _ ih => exact fun G S hf => let ⟨G', r, a⟩ := ih G S hf; ⟨G', .at r, a⟩
  | load ho _ ih => exact fun G S hf => let ⟨G', r, a⟩ := ih G S hf; ⟨G', .load ho r, a⟩
  | update ho _ ih => exact fun G S hf => let ⟨G', r, a⟩ := ih G S hf; ⟨G', .update ho r, a⟩
  | loadIfAlive _ ih => exact fun G S hf => let ⟨G', r, a⟩ := ih G S hf; ⟨G', .loadIfAlive r, a⟩
  | point _ ih => exact fun G S hf => let ⟨G', r, a⟩ := ih G S hf; ⟨G', .point r, a⟩
  | alloc _ ih => exact fun G S hf => let ⟨G', r, a⟩ := ih G S hf; ⟨G', .alloc r, a⟩
  | fresh _ ih => exact fun G S hf => let ⟨G', r, a⟩ := ih G S hf; ⟨G', .fresh r, a⟩
  | ask _ ih => exact fun G S hf => let ⟨G', r, a⟩ := ih G S hf; ⟨G', .ask r, a⟩
  | choose hn _ ih => exact fun G S hf => let ⟨G', r, a⟩ := ih G S hf; ⟨G', .choose hn r, a⟩
  | os _ ih => exact fun G S hf => let ⟨G', r, a⟩ := ih G S hf; ⟨G', .os r, a⟩
  | handled _ ih => exact fun G S hf => let ⟨G', r, a⟩ := ih G S hf; ⟨G', .handled r, a⟩
  | stack _ ih => exact fun G S hf => let ⟨G', r, a⟩ := ih G S hf; ⟨G', .stack r, a⟩
  | thread _ ih => exact fun G S hf => let ⟨G', r, a⟩ := ih G S hf; ⟨G', .thread r, a⟩
  | genState hg _ ih =>
    intro G S hf
    obtain ⟨G', r, a⟩ := ih G S hf
    obtain ⟨y, ey, hp⟩ := S.get hg
    rcases hp with ⟨rfl, _⟩ | ⟨k, l, c, p, fs, cl, rfl, rfl⟩
    · exact ⟨G', .genState ey r, a⟩
    · exact ⟨G', .genState ey r, a⟩
  | newGen _ ih =>
    intro G S hf
    obtain ⟨G', r, a1, a2, a3⟩ := ih (G.push (.fresh _)) (S.push (by exact trivial)) hf
    rw [S.size] at r
    exact ⟨G', .newGen r, a1, (kept_push S.size).trans a2, a3⟩
  | call _ _ ih1 ih2 =>
    intro G S hf
    obtain ⟨G1, r1, a1, a2, a3⟩ := ih1 G S rfl
    obtain ⟨G', r, b1, b2, b3⟩ := ih2 G1 a1 rfl
    exact ⟨G', .call r1 r, b1, a2.trans b2, b3⟩
  | callSusp _ ih =>
    intro G S hf
    obtain ⟨G1, r1, a1, a2, a3⟩ := ih G S rfl
    exact ⟨G1, .callSusp r1, a1, a2, split_app a3 rfl⟩
  | yield => exact fun G S _ => ⟨G, .yield, S, .refl, rfl⟩
  | @resumeFresh Γ p g l k s c e₁ s₁ e s' hg _ hq _ ih1 ih2 =>
    intro G S hf
    have nn : ∀ l c p fs cl, s.gens[g]? ≠ some (.suspended asleepK l c p fs cl) := by rw [hg]; intros; intro z; cases z
    obtain ⟨y, ey, hp⟩ := S.get hg
    rcases hp with ⟨rfl, _⟩ | ⟨k', l', c', p', fs', cl', hh, _⟩
    · obtain ⟨G1, r1, a1, a2, a3⟩ := ih1 (G.setIfInBounds g .running) (S.set trivial) rfl
      obtain ⟨G', r, b1, b2, b3⟩ := ih2 (G1.setIfInBounds g e₁.genState) (a1.set (cleanG_end a3)) rfl
      exact ⟨G', .resumeFresh ey r1 hq r, b1, (kept_over nn a2).trans b2, b3⟩
    · cases hh
  | @resumeSuspended Γ p g r l k s k₀ l₀ c₀ p₀ fs cl e₁ s₁ e s' hg h1 hq _ ih1 ih2 =>
    intro G S hf
    obtain ⟨y, ey, hp⟩ := S.get hg
    by_cases hk : k₀ = asleepK
    · subst hk
      exact (no_unsup h1).elim
    have nn : ∀ l c p fs cl, s.gens[g]? ≠ some (.suspended asleepK l c p fs cl) := by rw [hg]; intros; intro z; cases z; exact hk rfl
    rcases hp with ⟨rfl, cl⟩ | ⟨k', l', c', p', fs', cl', hh, _⟩
    · obtain ⟨G1, r1, a1, a2, a3⟩ := ih1 (G.setIfInBounds g .running) (S.set trivial) cl
      obtain ⟨G', r, b1, b2, b3⟩ := ih2 (G1.setIfInBounds g e₁.genState) (a1.set (cleanG_end a3)) rfl
      exact ⟨G', .resumeSuspended ey r1 hq r, b1, (kept_over nn a2).trans b2, b3⟩
    · cases hh
      exact (hk rfl).elim
  | resumeJustStarted hg hv _ ih =>
    intro G S hf
    obtain ⟨G', r, a⟩ := ih G S hf
    obtain ⟨y, ey, hp⟩ := S.get hg
    rcases hp with ⟨rfl, _⟩ | ⟨k', l', c', p', fs', cl', hh, _⟩
    · exact ⟨G', .resumeJustStarted ey hv r, a⟩
    · cases hh
  | resumeThrowFresh hg _ ih =>
    intro G S hf
    obtain ⟨y, ey, hp⟩ := S.get hg
    rcases hp with ⟨rfl, _⟩ | ⟨k', l', c', p', fs', cl', hh, _⟩
    · obtain ⟨G', r, b1, b2, b3⟩ := ih (G.setIfInBounds _ .finished) (S.set (by exact trivial)) rfl
      exact ⟨G', .resumeThrowFresh ey r, b1, (kept_set (by rw [hg]; intros; intro z; cases z)).trans b2, b3⟩
    · cases hh
  | resumeRunning hg _ ih =>
    intro G S hf
    obtain ⟨G', r, a⟩ := ih G S hf
    obtain ⟨y, ey, hp⟩ := S.get hg
    rcases hp with ⟨rfl, _⟩ | ⟨k', l', c', p', fs', cl', hh, _⟩
    · exact ⟨G', .resumeRunning ey r, a⟩
    · cases hh
  | resumeFinished hg _ ih =>
    intro G S hf
    obtain ⟨G', r, a⟩ := ih G S hf
    obtain ⟨y, ey, hp⟩ := S.get hg
    rcases hp with ⟨rfl, _⟩ | ⟨k', l', c', p', fs', cl', hh, _⟩
    · exact ⟨G', .resumeFinished ey r, a⟩
    · cases hh
  | segRet _ _ ih1 ih2 =>
    intro G S hf
    obtain ⟨G1, r1, a1, a2, a3⟩ := ih1 G S rfl
    obtain ⟨G', r, b1, b2, b3⟩ := ih2 G1 a1 (split_ret hf)
    exact ⟨G', .segRet r1 r, b1, a2.trans b2, b3⟩
  | segGen => intro G S hf; simp only [splitAtGen] at hf; cases hf
  | segSuspOut hs _ ih =>
    intro G S hf
    obtain ⟨G1, r1, a1, a2, a3⟩ := ih G S rfl
    exact ⟨G1, .segSuspOut hs r1, a1, a2, split_app a3 hs⟩
  | segSuspGen hs => intro G S hf; rw [hs] at hf; cases hf
theorem wakes_sim {M : Model} {Γ : Ctx} {p : Pos} {g : Nat} {r : Resume} {s : Shared} {res : GenResult} {s' : Shared} (h : Wakes M Γ p g r s res s') {G : Array GenState} (S : SimG s.gens G) :
    ∃ G', Wakes M Γ p g r (wG s G) res (wG s' G') ∧ SimG s'.gens G' ∧ KeptG s.gens G s'.gens G' := by
  unfold Wakes at h
  cases hg : s.gens[g]? with
  | none => rw [hg] at h; exact h.elim
  | some x =>
    rw [hg] at h
    obtain ⟨y, ey, hp⟩ := S.get hg
    have ey' : (wG s G).gens[g]? = some y := ey
    unfold Wakes
    cases x with
    | fresh c =>
      have nn : ∀ l c p fs cl, s.gens[g]? ≠ some (.suspended asleepK l c p fs cl) := by rw [hg]; intros; intro z; cases z
      rcases hp with ⟨rfl, _⟩ | ⟨k', l', c', p', fs', cl', hh, _⟩
      · rw [ey']
        cases r with
        | send v =>
          cases v with
          | none =>
            obtain ⟨e₁, s₁, h1, hq, rfl, rfl⟩ := h
            obtain ⟨G1, r1, a1, a2, a3⟩ := runs_sim h1 (G.setIfInBounds g .running) (S.set trivial) rfl
            exact ⟨G1.setIfInBounds g e₁.genState, ⟨e₁, wG s₁ G1, r1, hq, rfl, rfl⟩, a1.set (cleanG_end a3), kept_over nn a2⟩
          | _ =>
            obtain ⟨rfl, rfl⟩ := h
            exact ⟨G, ⟨rfl, rfl⟩, S, .refl⟩
        | throw x =>
          obtain ⟨rfl, rfl⟩ := h
          exact ⟨G.setIfInBounds g .finished, ⟨rfl, rfl⟩, S.set trivial, kept_set nn⟩
      · cases hh
    | suspended k₀ l₀ c₀ p₀ fs cl =>
      obtain ⟨e₁, s₁, h1, hq, rfl, rfl⟩ := h
      by_cases hk : k₀ = asleepK
      · subst hk
        exact (no_unsup h1).elim
      have nn : ∀ l c p fs cl, s.gens[g]? ≠ some (.suspended asleepK l c p fs cl) := by rw [hg]; intros; intro z; cases z; exact hk rfl
      rcases hp with ⟨rfl, cl⟩ | ⟨k', l', c', p', fs', cl', hh, _⟩
      · rw [ey']
        obtain ⟨G1, r1, a1, a2, a3⟩ := runs_sim h1 (G.setIfInBounds g .running) (S.set trivial) cl
        exact ⟨G1.setIfInBounds g e₁.genState, ⟨e₁, wG s₁ G1, r1, hq, rfl, rfl⟩, a1.set (cleanG_end a3), kept_over nn a2⟩
      · cases hh
        exact (hk rfl).elim
    | running =>
      obtain ⟨rfl, rfl⟩ := h
      rcases hp with ⟨rfl, _⟩ | ⟨k', l', c', p', fs', cl', hh, _⟩
      · rw [ey']
        exact ⟨G, ⟨rfl, rfl⟩, S, .refl⟩
      · cases hh
    | finished =>
      obtain ⟨rfl, rfl⟩ := h
      rcases hp with ⟨rfl, _⟩ | ⟨k', l', c', p', fs', cl', hh, _⟩
      · rw [ey']
        exact ⟨G, ⟨rfl, rfl⟩, S, .refl⟩
      · cases hh
open Sem (wp) in
theorem wp_sim {M : Model} {Γ : Ctx} {α : Type} (t : Sem α) : ∀ {Q : α → Pos → Shared → Prop} {E : Value → Pos → Shared → Prop} {p : Pos} {s : Shared} {G : Array GenState}, SimG s.gens G → wp M Γ t Q E p s →
    wp M Γ t (fun a p' z => ∃ s', Q a p' s' ∧ z = wG s' z.gens ∧ SimG s'.gens z.gens ∧ KeptG s.gens G s'.gens z.gens) (fun a p' z => ∃ s', E a p' s' ∧ z = wG s' z.gens ∧ SimG s'.gens z.gens ∧ KeptG s.gens G s'.gens z.gens) p (wG s G) := by
  induction t with
  | pure a => intro Q E p s G S h; exact ⟨s, h, rfl, S, .refl⟩
  | raise x => intro Q E p s G S h; exact ⟨s, h, rfl, S, .refl⟩
  | unsupported what => intro Q E p s G S h; exact h.elim
  | finish x => intro Q E p s G S h; exact h.elim
  | register a k => intro Q E p s G S h; exact h.elim
  | yield v g l k => intro Q E p s G S h; exact h.elim
  | fork c k => intro Q E p s G S h; exact h.elim
  | await a f d l k => intro Q E p s G S h; exact h.elim
  | rule tag k ih => intro Q E p s G S h; exact ih () S h
  | «at» p' k ih => intro Q E p s G S h; exact ih () S h
  | load a part k ih => intro Q E p s G S h; obtain ⟨o, ho, h⟩ := h; exact ⟨o, ho, ih o S h⟩
  | update a part f k ih => intro Q E p s G S h; obtain ⟨ha, h⟩ := h; exact ⟨ha, ih () (s := { s with heap := s.heap.update a f }) S h⟩
  | alloc o k ih => intro Q E p s G S h; exact ih _ (s := { s with heap := s.heap.push o }) S h
  | loadIfAlive a k ih => intro Q E p s G S h; exact ih _ S h
  | point l k ih => intro Q E p s G S h; exact ih () S h
  | fresh k ih => intro Q E p s G S h; exact ih _ (s := { s with toks := s.toks + 1 }) S h
  | ask k ih => intro Q E p s G S h; exact ih _ S h
  | choose src n k ih => intro Q E p s G S h; obtain ⟨hn, h⟩ := h; exact ⟨hn, ih _ (s := { s with drawn := s.drawn.bump src }) S h⟩
  | os q l k ih => intro Q E p s G S h; exact ih _ (s := { s with os := (Os.step s.os q).1 }) S h
  | call c h g l k ih =>
    intro Q E p s G S hw
    obtain ⟨r, s₁, hret, hw⟩ := hw
    obtain ⟨G1, r1, a1, a2, a3⟩ := runs_sim hret G S rfl
    refine ⟨r, wG s₁ G1, r1, ?_⟩
    refine Sem.wp_mono M Γ (k r) ?_ ?_ _ _ (ih r a1 hw)
    · exact fun a p' z ⟨s', b1, b2, b3, b4⟩ => ⟨s', b1, b2, b3, a2.trans b4⟩
    · exact fun a p' z ⟨s', b1, b2, b3, b4⟩ => ⟨s', b1, b2, b3, a2.trans b4⟩
  | handled own k ih => intro Q E p s G S h; exact ih _ S h
  | newGen c k ih =>
    intro Q E p s G S h
    have h2 := ih _ (s := { s with gens := s.gens.push (.fresh c) }) (G := G.push (.fresh c)) (S.push trivial) h
    show wp M Γ (k G.size) _ _ p _
    rw [← S.size]
    refine Sem.wp_mono M Γ (k s.gens.size) ?_ ?_ _ _ h2
    · exact fun a p' z ⟨s', b1, b2, b3, b4⟩ => ⟨s', b1, b2, b3, (kept_push S.size).trans b4⟩
    · exact fun a p' z ⟨s', b1, b2, b3, b4⟩ => ⟨s', b1, b2, b3, (kept_push S.size).trans b4⟩
  | genState g k ih =>
    intro Q E p s G S h
    obtain ⟨st, hg, h⟩ := h
    obtain ⟨y, ey, hp⟩ := S.get hg
    have hy : y.seen = st.seen := by
      rcases hp with ⟨rfl, _⟩ | ⟨k, l, c, p, fs, cl, rfl, rfl⟩ <;> rfl
    refine ⟨y, ey, ?_⟩
    rw [hy]
    exact ih _ S h
  | resume g r l k ih =>
    intro Q E p s G S h
    obtain ⟨res, s₁, hwk, h⟩ := h
    obtain ⟨G1, r1, a1, a2⟩ := wakes_sim hwk S
    refine ⟨res, wG s₁ G1, r1, ?_⟩
    refine Sem.wp_mono M Γ (k res) ?_ ?_ _ _ (ih res a1 h)
    · exact fun a p' z ⟨s', b1, b2, b3, b4⟩ => ⟨s', b1, b2, b3, a2.trans b4⟩
    · exact fun a p' z ⟨s', b1, b2, b3, b4⟩ => ⟨s', b1, b2, b3, a2.trans b4⟩
  | stack k ih => intro Q E p s G S h; exact ih _ S h
  | thread k ih => intro Q E p s G S h; exact ih _ S h
/-- the state with all that sleeps put out of reach -/
def hush : GenState → GenState
  | .suspended _ l c p fs cl => .suspended asleepK l c p fs cl
  | x => x
theorem simG_hush (G : Array GenState) : SimG (G.map hush) G := by
  refine ⟨by simp, fun i x y ex ey => ?_⟩
  rw [Array.getElem?_map, ey] at ex
  cases ex
  cases y with
  | suspended k l c p fs cl => exact .inr ⟨k, l, c, p, fs, cl, rfl, rfl⟩
  | _ => exact .inl ⟨rfl, trivial⟩
/-- THE RULE: what is shown with the sleepers out of reach leaves them as they are -/
theorem wpAny_hush {M : Model} {A : Around} {α : Type} {t : Sem α} {Q : α → Shared → Prop} {s : Shared} (h : wpAny M A t Q (fun _ _ => False) (wG s (s.gens.map hush))) :
    wpAny M A t (fun a z => (∃ G, Q a (wG z G) ∧ SimG G z.gens) ∧ ∀ (i : Nat) k l c p fs cl, s.gens[i]? = some (.suspended k l c p fs cl) → z.gens[i]? = s.gens[i]?) (fun _ _ => False) s := by
  intro Γ p hΓ
  refine Sem.wp_mono M Γ t ?_ ?_ p _ (wp_sim t (s := wG s (s.gens.map hush)) (G := s.gens) (simG_hush _) (h Γ p hΓ))
  · rintro a p' z ⟨s', b1, b2, b3, b4⟩
    refine ⟨⟨s'.gens, ?_, b3⟩, fun i k l c p fs cl e => (b4 i l c p fs cl ?_).2⟩
    · rw [b2]; exact b1
    · show (s.gens.map hush)[i]? = _
      rw [Array.getElem?_map, e]; rfl
  · rintro a p' z ⟨s', b1, b2, b3, b4⟩
    exact b1
theorem SimG.bare {g h : Array GenState} (S : SimG g h) (b : PyProof.Rows.AllBare g) : PyProof.Rows.AllBare h := fun y hy => by
  obtain ⟨i, hi, e⟩ := Array.mem_iff_getElem.mp hy
  have hg : i < g.size := by rw [S.size]; exact hi
  have q := S.pr i _ _ (Array.getElem?_eq_getElem hg) (Array.getElem?_eq_getElem hi)
  have b1 := b _ (Array.getElem_mem hg)
  rw [e] at q
  rcases q with ⟨e1, _⟩ | ⟨k, l, c, p, fs, cl, e1, e2⟩
  · rw [← e1]; exact b1
  · rw [e1] at b1
    rw [e2]
    exact b1
theorem allBare_hush {G : Array GenState} (h : PyProof.Rows.AllBare G) : PyProof.Rows.AllBare (G.map hush) := fun y hy => by
  obtain ⟨x, hx, rfl⟩ := Array.mem_map.mp hy
  have := h x hx
  cases x <;> first | rfl | exact this
end Tz
namespace Tz
open PySem PySem.Spec PyProof.Rows GenW L2
section
variable {prog : Program} {w : World} {A : Around} {R : GenEnd} {Y : Protocol} {n : Nat} {s₀ : Shared} {c : Code} {fs : List Frame} {s : Shared} {env : Env}
  {K : Flow → Sem PySem.Fin} {J : Value → Sem PySem.Fin} {gd : Bool → Bool} {lv : List Value → List Value}
/-- what waits for a loop's end -/
abbrev afterLoop (env : Env) (K : Flow → Sem PySem.Fin) (J : Value → Sem PySem.Fin) (gd : Bool → Bool) (lv : List Value → List Value) : Result → Sem PySem.Fin :=
  fun r => ((match r with | .ok f => (.pure f : Sem Flow) | .error e => .raise e).onRaise (cameBack env)).wrap K J gd lv
theorem segx_For {tg iter : Expr} {body : List Stmt} {pos : Pos} (hs : ∀ x, foldedSetIterable iter env x = pure x)
    (h : wpAny (model prog w) (A.over c fs) (eval iter env) (fun x s1 => wpAny (model prog w) (A.over c fs) (pyIter x) (fun it s2 => ∀ p, Seg (model prog w) A R Y n s₀ (.forLoop tg it body [] env)
      ((model prog w).den (.forLoop tg it body [] env)) (.ret (afterLoop env K J gd lv) none (gd false) (lv []) c p [] :: fs) s2) (fun x s' => Seg (model prog w) A R Y n s₀ c (J x) fs s') s1)
      (fun x s' => Seg (model prog w) A R Y n s₀ c (J x) fs s') s) :
    Seg (model prog w) A R Y n s₀ c ((exec (.For tg iter body [] pos) env).wrap K J gd lv) fs s := by
  rw [exec_For]
  refine seg_bind_wrap (wpAny_standAt ?_)
  refine seg_bind_wrap (wpAny_mono h (fun x s1 h1 => ?_) fun _ _ z => z)
  rw [hs x]
  refine seg_bind_wrap (wpAny_pure ?_)
  refine seg_bind_wrap (wpAny_standAt ?_)
  refine seg_bind_wrap (wpAny_holding (wpAny_mono h1 (fun it s2 h2 => ?_) fun _ _ z => z))
  exact seg_call h2
/-- one turn of a for -/
theorem segx_forLoop {tg : Expr} {it : Value} {body : List Stmt}
    (h : wpAny (model prog w) (A.over (.forLoop tg it body [] env) fs) (pyNext it) (fun r s1 => match r with
      | none => Seg (model prog w) A R Y n s₀ (.forLoop tg it body [] env) (.pure (.again (.block [] env))) fs s1
      | some v => wpAny (model prog w) (A.over (.forLoop tg it body [] env) fs) (letOwnedTupleGo tg it v) (fun _ s2 => wpAny (model prog w) (A.over (.forLoop tg it body [] env) fs) (assign tg env v) (fun _ s3 =>
          Seg (model prog w) A R Y n s₀ (.forLoop tg it body [] env) ((execs body env).wrap (fun f => match f with
            | .next | .cont => .pure (.again (.forLoop tg it body [] env))
            | .brk => .pure (.done .next)
            | .ret v => .pure (.done (.ret v))) (fun e => (do noteFrame e env; theTreesLotGoes e : Sem Unit).wrap (fun _ => .raise e) .raise id id) id id) fs s3)
          (fun x s' => Seg (model prog w) A R Y n s₀ (.forLoop tg it body [] env) ((do noteFrame x env; theTreesLotGoes x : Sem Unit).wrap (fun _ => .raise x) .raise id id) fs s') s2)
          (fun x s' => Seg (model prog w) A R Y n s₀ (.forLoop tg it body [] env) ((do noteFrame x env; theTreesLotGoes x : Sem Unit).wrap (fun _ => .raise x) .raise id id) fs s') s1)
      (fun x s' => Seg (model prog w) A R Y n s₀ (.forLoop tg it body [] env) ((do noteFrame x env; theTreesLotGoes x : Sem Unit).wrap (fun _ => .raise x) .raise id id) fs s') s) :
    Seg (model prog w) A R Y n s₀ (.forLoop tg it body [] env) ((model prog w).den (.forLoop tg it body [] env)) fs s := by
  show Seg _ A R Y n s₀ _ ((forTurn tg it body [] env).onRaise fun x => do noteFrame x env; theTreesLotGoes x) fs s
  rw [Sem.onRaise_eq_wrap]
  simp only [Sem.bind_eq_wrap]
  unfold forTurn
  refine seg_bind_wrap (wpAny_standAt ?_)
  refine seg_bind_wrap (wpAny_onRaise (wpAny_mono h (fun r s1 h1 => ?_) fun x s' hx => wpAny_standAt hx))
  cases r with
  | none => exact h1
  | some v =>
    refine seg_bind_wrap (wpAny_mono h1 (fun _ s2 h2 => ?_) fun _ _ z => z)
    refine seg_bind_wrap (wpAny_mono h2 (fun _ s3 h3 => ?_) fun _ _ z => z)
    rw [Sem.bind_eq_wrap', Sem.wrap_wrap]
    refine (congrArg (fun t => Seg (model prog w) A R Y n s₀ (.forLoop tg it body [] env) t fs s3) (Sem.wrap_congr (execs body env) _ _ (fun f => ?_) fun e => ?_)).mpr h3
    · cases f <;> rfl
    · rfl
theorem segx_block {k : Result → Sem PySem.Fin} {g : Bool} {l kp : List Value} {c₁ : Code} {p : Pos} {c' : Code} (h : Seg (model prog w) A R Y n s₀ c₁ (k (.ok .next)) fs s) :
    Seg (model prog w) A R Y n s₀ c' (.pure (.again (.block [] env))) (.ret k none g l c₁ p kp :: fs) s := by
  refine seg_again rfl ?_
  show Seg _ A R Y n s₀ _ (((execs [] env).onRaise fun x => do noteFrame x env; theTreesLotGoes x) >>= fun f => pure (Fin.done f)) _ s
  refine seg_bind (wpAny_onRaise ?_)
  exact wpAny_pure (seg_leaf (.ok .next) h)
end
section
variable {X : Cx}
/-! ### for, if in a generator whose items go into a list -/
def tGFor (wi : L2.TI) (g : TG) (tb : TGn) : TGn := fun D ys σ H => wi σ H fun J H2 => ∃ W : Nat → Nat → List V → L2.St → Hp → Prop, (∃ m, W 0 m ys σ H2) ∧ ∀ i m ys σ H, W i m ys σ H →
  (J.stop i H ∧ D.nx ys σ H) ∨ (J.go i H ∧ ∃ N : List V → L2.St → Hp → Prop, (∀ ys' σ' H', N ys' σ' H' → ∃ m', m' < m ∧ W (i + 1) m' ys' σ' H') ∧ ∀ x H', J.yld i H x H' → g x σ H' fun σ2 H2 => tb { D with nx := N, ct := N, bk := D.nx } ys σ2 H2)
theorem gs_for {iter tg : Expr} {body : List Stmt} {wi : L2.TI} {g : TG} {tb : TGn} {pos : Pos} (hp : PassesOwn (model X.prog X.w) X.A X.env X.xe) (hc : X.calm = true) (hi : PI X tg iter wi) (hg : PG X tg g) (hb : GSs X body tb)
    (hs : ∀ x, foldedSetIterable iter X.env x = pure x := by intro _; rfl) : GS X (.For tg iter body [] pos) (tGFor wi g tb) := by
  refine ⟨fun A S ip R n ys s₀ c fs K J gd lv s σ H D gc hn k hI ht => ?_⟩
  refine segx_For hs ?_
  rw [gc.over]
  obtain ⟨acc0, cc0, r0, I0⟩ := hI
  refine wpAny_mono (hi.run _ s σ H _ I0 ht) (fun v s1 h1 => ?_) fun x s' hx => k.exc n s₀ x s' hx
  refine wpAny_mono h1 (fun itv s2 h2 => ?_) fun x s' hx => k.exc n s₀ x s' hx
  obtain ⟨it, fp, tn, JJ, H2, e, I2, T, st2, f2, W, ⟨m0, w0⟩, turn⟩ := h2
  subst e
  intro p
  have fpS : ∀ b ∈ fp, b ≠ S := fun b hb z => (f2 b hb).2.2.2.2.2 (S, lstObj acc0 cc0) (List.mem_append_right _ List.mem_cons_self) z.symm
  have stat : ∀ {acc : Array Value} {cc : Nat} {H' : Hp}, (∀ b ∈ fp, H' b = none) → ∀ b ∈ fp, FpOk X ((S, lstObj acc cc) :: ip) H' b := fun {acc cc H'} hn b hb => by
    obtain ⟨_, y1, y2, y3, y5, y4⟩ := f2 b hb
    refine ⟨hn b hb, y1, y2, y3, y5, fun q hq => ?_⟩
    rcases List.mem_append.mp hq with hq | hq
    · exact y4 q (List.mem_append_left _ hq)
    · rcases List.mem_cons.mp hq with hq | hq
      · rw [hq]; exact fun z => fpS b hb z.symm
      · exact y4 q (List.mem_append_right _ (List.mem_cons_of_mem _ hq))
  have gl := gc_loop (k := afterLoop X.env K J gd lv) (c' := .forLoop tg (.ref it) body [] X.env) (l := lv []) (kp := []) (p := p) gc rfl rfl
  have loop : ∀ (m i n : Nat) (ys : List V) (s₀ s : Shared) (σ : L2.St) (H : Hp), n + ys.length = sizeLine → W i m ys σ H → GI X S ip ys σ H s → tn i s.heap → (∀ b ∈ fp, H b = none) →
      Seg (model X.prog X.w) A R (GY X S) n s₀ (.forLoop tg (.ref it) body [] X.env) ((model X.prog X.w).den (.forLoop tg (.ref it) body [] X.env))
        (.ret (afterLoop X.env K J gd lv) none (gd false) (lv []) c p [] :: fs) s := by
    intro m
    induction m using Nat.strongRecOn with
    | ind m ih =>
      intro i n ys s₀ s σ H hn w hI st fr
      have ee : ∀ (n : Nat) (s₀ : Shared) (x : Value) (s' : Shared), X.xe x s' → Seg (model X.prog X.w) A R (GY X S) n s₀ (.forLoop tg (.ref it) body [] X.env)
          ((do noteFrame x X.env; theTreesLotGoes x : Sem Unit).wrap (fun _ => .raise x) .raise id id)
          (.ret (afterLoop X.env K J gd lv) none (gd false) (lv []) c p [] :: fs) s' := fun n s₀ x s' hx => by
        refine seg_wrap ?_
        rw [gl.over]
        refine wpAny_bind (wpAny_mono (hp x s' hx) (fun _ s'' hcb => wpAny_theTreesLotGoes ?_) fun y s'' hcb => ?_)
        · exact seg_leaf (.error x) (seg_cameBack gc k hcb)
        · exact seg_leaf (.error y) (seg_cameBack gc k hcb)
      obtain ⟨acc, cc, r, I⟩ := hI
      refine segx_forLoop ?_
      rw [gl.over]
      rcases turn i m ys σ H w with ⟨stop, qn⟩ | ⟨go, N, hN, step⟩
      · refine wpAny_mono (T.done X rfl rfl rfl hc i _ s σ H X.xe I (stat fr) st stop) (fun r4 s4 ⟨hr, I4⟩ => ?_) fun x s' hx => ee n s₀ x s' hx
        subst hr
        exact segx_block (k.ok n ys s₀ s4 .next hn ⟨σ, H, ⟨acc, cc, r, I4⟩, qn⟩)
      · refine wpAny_mono (T.item X rfl rfl rfl hc i _ s σ H X.xe I (stat fr) st go) (fun r4 s4 ⟨u, hr, h4⟩ => ?_) fun x s' hx => ee n s₀ x s' hx
        subst hr
        refine wpAny_mono h4 (fun _ s5 ⟨x, H5, I5, r5, y5, st5, fr5⟩ => ?_) fun x s' hx => ee n s₀ x s' hx
        have I5' := I5.pinned (stat fr5) (T.obj _ _ st5)
        refine wpAny_mono (hg.run _ s5 σ H5 x u _ I5' r5 (step x H5 y5)) (fun _ s6 ⟨σ6, H6, I6, q6⟩ => ?_) fun x s' hx => ee n s₀ x s' hx
        have gl2 : GC X S (ip ++ pinsAt fp s5.heap) A (.forLoop tg (.ref it) body [] X.env) (.ret (afterLoop X.env K J gd lv) none (gd false) (lv []) c p [] :: fs) id :=
          ⟨gl.pn, fun q hq => (List.mem_append.mp hq).elim (gl.ip q) fun z => fpS _ (of_pinsAt z).1, gl.apart, gl.over, gl.split, gl.guard, gl.gd⟩
        have again : ∀ {n' : Nat} {ys' : List V} {s₀' s7 : Shared} {σ7 : L2.St} {H7 : Hp}, n' + ys'.length = sizeLine → GI X S (ip ++ pinsAt fp s5.heap) ys' σ7 H7 s7 → N ys' σ7 H7 →
            Seg (model X.prog X.w) A R (GY X S) n' s₀' (.forLoop tg (.ref it) body [] X.env) (.pure (.again (.forLoop tg (.ref it) body [] X.env))) (.ret (afterLoop X.env K J gd lv) none (gd false) (lv []) c p [] :: fs) s7 := by
          rintro n' ys' s₀' s7 σ7 H7 hn' ⟨acc7, cc7, r7, I7⟩ n7
          obtain ⟨m', hm, w7⟩ := hN ys' σ7 H7 n7
          have at7 : ∀ b ∈ fp, ∀ o, s5.heap.get? b = some o → s7.heap.get? b = some o ∧ H7 b = none := fun b hb o e => by
            have := I7.pin (b, o) (List.mem_append_right _ (List.mem_cons_of_mem _ (List.mem_append_right _ (mem_pinsAt hb e))))
            exact ⟨this.1, this.2.1⟩
          refine seg_again rfl (ih m' hm (i + 1) n' ys' s₀' s7 σ7 H7 hn' w7 ⟨acc7, cc7, r7, I7.pins_of fun q hq => I7.pin q ?_⟩ (T.keep _ _ _ st5 fun b hb o e => (at7 b hb o e).1) fun b hb => ?_)
          · rcases List.mem_cons.mp hq with hq | hq
            · rw [hq]; exact List.mem_append_right _ List.mem_cons_self
            · exact List.mem_append_right _ (List.mem_cons_of_mem _ (List.mem_append_left _ hq))
          · obtain ⟨o, e, _⟩ := T.obj _ _ st5 b hb
            exact (at7 b hb o e).2
        have drop : ∀ {ys' : List V} {s7 : Shared} {σ7 : L2.St} {H7 : Hp}, GI X S (ip ++ pinsAt fp s5.heap) ys' σ7 H7 s7 → GI X S ip ys' σ7 H7 s7 := by
          rintro ys' s7 σ7 H7 ⟨acc7, cc7, r7, I7⟩
          refine ⟨acc7, cc7, r7, I7.pins_of fun q hq => I7.pin q ?_⟩
          rcases List.mem_cons.mp hq with hq | hq
          · rw [hq]; exact List.mem_append_right _ List.mem_cons_self
          · exact List.mem_append_right _ (List.mem_cons_of_mem _ (List.mem_append_left _ hq))
        refine hb.run A S (ip ++ pinsAt fp s5.heap) R n ys s₀ _ _ _ _ id id s6 σ6 H6 { D with nx := N, ct := N, bk := D.nx } gl2 hn ⟨fun n' ys' s₀' s7 f hn' hq => ?_, fun n' s₀' x s7 hx => ee n' s₀' x s7 hx⟩ ⟨acc, cc, r, I6⟩ q6
        cases f with
        | next => obtain ⟨σ7, H7, I7, n7⟩ := hq; exact again hn' I7 n7
        | cont => obtain ⟨σ7, H7, I7, n7⟩ := hq; exact again hn' I7 n7
        | brk => obtain ⟨σ7, H7, I7, n7⟩ := hq; exact seg_leaf (.ok .next) (k.ok n' ys' s₀' s7 .next hn' ⟨σ7, H7, drop I7, n7⟩)
        | ret v => obtain ⟨x7, σ7, H7, I7, rv7, n7⟩ := hq; exact seg_leaf (.ok (.ret v)) (k.ok n' ys' s₀' s7 (.ret v) hn' ⟨x7, σ7, H7, drop I7, rv7, n7⟩)
  exact loop m0 0 n ys s₀ s2 σ H2 hn w0 ⟨acc0, cc0, r0, I2⟩ st2 fun b hb => (f2 b hb).1
def tGIf (tc : TT) (ta tb : TGn) : TGn := fun D ys σ H => tc σ H fun b H1 => if b = true then ta D ys σ H1 else tb D ys σ H1
theorem gs_if {test : Expr} {a b : List Stmt} {pos : Pos} {tc : TT} {ta tb : TGn} (hc : PT X test tc) (ha : GSs X a ta) (hb : GSs X b tb) : GS X (.If test a b pos) (tGIf tc ta tb) := by
  refine ⟨fun A S ip R n ys s₀ c fs K J gd lv s σ H D gc hn k hI ht => ?_⟩
  rw [exec_If]
  refine seg_bind_wrap (wpAny_standAt ?_)
  obtain ⟨acc, cc, r, I⟩ := hI
  refine seg_bind_wrap ?_
  rw [gc.over]
  refine wpAny_mono (hc.run _ s σ H _ I ht) (fun d s1 ⟨H1, I1, q1⟩ => ?_) fun x s' hx => k.exc n s₀ x s' hx
  cases d with
  | true => exact ha.run A S ip R n ys s₀ c fs K J gd lv s1 σ H1 D gc hn k ⟨acc, cc, r, I1⟩ q1
  | false => exact hb.run A S ip R n ys s₀ c fs K J gd lv s1 σ H1 D gc hn k ⟨acc, cc, r, I1⟩ q1
end
end Tz
namespace Tz
open PySem PySem.Spec PyProof.Rows GenW L2
/-! ### for x in g(..): the loop's body may change what stands -/
/-- the first n objects -/
def cutH (n : Nat) (h : Heap) : Heap := { h with objs := h.objs.extract 0 n }
theorem cutH_size {n : Nat} {h : Heap} (hn : n ≤ h.objs.size) : (cutH n h).objs.size = n := by
  simp [cutH]; omega
theorem cutH_at {n b : Nat} {h : Heap} (hb : b < n) : (cutH n h).get? b = h.get? b := by
  have e : (h.objs.extract 0 n)[b]? = h.objs[b]? := by
    rw [Array.getElem?_extract]
    by_cases hs : b < min n h.objs.size - 0
    · rw [if_pos hs, Nat.zero_add]
    · rw [if_neg hs, Array.getElem?_eq_none (by omega)]
  show (match (h.objs.extract 0 n)[b]? with | some ⟨_, _, .freed, _⟩ => none | x => x) = (match h.objs[b]? with | some ⟨_, _, .freed, _⟩ => none | x => x)
  rw [e]
theorem cutH_lt {n b : Nat} {h : Heap} {o : Obj} (hn : n ≤ h.objs.size) (e : (cutH n h).get? b = some o) : b < n := by
  have := Heap.lt_size e
  rw [cutH_size hn] at this
  exact this
theorem cutH_get {n b : Nat} {h : Heap} {o : Obj} (hn : n ≤ h.objs.size) (e : (cutH n h).get? b = some o) : h.get? b = some o := by
  rw [← cutH_at (cutH_lt hn e)]; exact e
theorem funs_cut {base h h' : Heap} {l : List Env} (a : h.FunFrames base l) (b : h'.FunFrames base l) : (cutH h.objs.size h').FunFrames base l := by
  induction l with
  | nil => trivial
  | cons env rest ih =>
    obtain ⟨k1, ⟨L, o, e1, e2, e3, _⟩, r1⟩ := a
    obtain ⟨_, ⟨L', o', e1', _, e3', d'⟩, r2⟩ := b
    rw [e1] at e1'; cases e1'
    exact ⟨k1, ⟨L, o', e1, e2, by rw [cutH_at (Heap.lt_size e3)]; exact e3', d'⟩, ih r1 r2⟩
/-- the generator's context, rooted at a, b -/
def gx (X : Cx) (N : List Str) (q : Str) (sc : Scope) (f : Addr) (cd : Value) (A : Around) (s0 : Shared) (a : Shared) (b : Hp) (pn : List (Addr × Obj)) (xe : Value → Shared → Prop) : Cx :=
  { gcxOf X.prog X.w X.K X.mg X.base N q sc f cd A X.stack s0 (fun _ => none) (fun _ _ _ => False) pn with s_0 := a, H_0 := b, xe := xe }
abbrev gxe (q : Str) (sc : Scope) (f : Addr) (cd : Value) (s0 : Shared) : Env := envOfC q sc s0.heap.objs.size f cd
abbrev noE : Value → Shared → Prop := fun _ _ => False
/-- .. at a wake -/
abbrev gw (X : Cx) (N : List Str) (q : Str) (sc : Scope) (f : Addr) (cd : Value) (A : Around) (s0 : Shared) (s : Shared) (H : Hp) (pn : List (Addr × Obj)) : Cx :=
  gx X N q sc f cd A s0 { s with heap := cutH s0.heap.objs.size s.heap } H pn noE
section
variable {X : Cx} {N : List Str} {q : Str} {sc : Scope} {f : Addr} {cd : Value} {A : Around} {s0 : Shared}
/-- woken: the state is the consumer's -/
theorem reroot {a s s' : Shared} {b H H' : Hp} {pn pn' ip : List (Addr × Obj)} {xe : Value → Shared → Prop} {σ σc : L2.St} {pinsC : List (Addr × Obj)} {σ0 : L2.St} {H0 : Hp} {pins0 : List (Addr × Obj)}
    (I0 : L2.Inv X pins0 σ0 H0 s0) (I : L2.Inv (gx X N q sc f cd A s0 a b pn xe) ip σ H s) (Ic : L2.Inv X pinsC σc H' s') (hz : s0.heap.objs.size ≤ s'.heap.objs.size)
    (hcells : ∀ x c, (gxe q sc f cd s0).cells.lookup x ≠ some c) (hL : ∀ o, s.heap.get? s0.heap.objs.size = some o → s'.heap.get? s0.heap.objs.size = some o) (hLn : H' s0.heap.objs.size = none)
    (hp : ∀ p ∈ pn' ++ ip, s'.heap.get? p.1 = some p.2 ∧ H' p.1 = none ∧ p.1 ≠ s0.heap.objs.size ∧ p.1 ∉ frs X.stack ∧ ∀ v, p.2.data ≠ .cell v) :
    L2.Inv (gw X N q sc f cd A s0 s' H' pn') ip σ H' s' := by
  have e1 := Ic.env0
  have e0 := I0.env0
  have k := I.ok
  refine ⟨⟨k.mod, k.kind, k.glob, k.blt, ?_, k.inj, k.has, ?_, k.hd, k.frames, k.stk, k.exf, ?_, ?_, k.noex, k.exfs, ?_, e1.frf⟩, rfl, Ic.bare, ?_, ?_, fun x c e => (hcells x c e).elim, hLn, fun x c e => (hcells x c e).elim, hp, Ic.hok, I.len⟩
  · show (cutH s0.heap.objs.size s'.heap).objs.size ≤ s0.heap.objs.size
    rw [cutH_size hz]; exact Nat.le_refl _
  · exact fun x c _ e => (hcells x c e).elim
  · intro c o e
    obtain ⟨h1, h2⟩ := e1.bs c o e
    refine ⟨?_, h2⟩
    show (cutH s0.heap.objs.size s'.heap).get? c = some o
    rw [cutH_at (Nat.lt_of_lt_of_le (Heap.lt_size e) e0.bsz)]; exact h1
  · show X.base.objs.size ≤ (cutH s0.heap.objs.size s'.heap).objs.size
    rw [cutH_size hz]; exact e0.bsz
  · exact funs_cut e0.funs e1.funs
  · exact Un.kept fun c o e => cutH_get hz e
  · obtain ⟨m, ⟨o, es, ep, ho, r⟩, hl⟩ := I.loc
    refine ⟨m, ⟨o, es, ep, hL o ho, r⟩, fun i x v h1 h2 h3 => ?_⟩
    obtain ⟨u, rv, lk⟩ := hl i x v h1 h2 h3
    refine ⟨u, rv, ?_⟩
    rcases lk with lk | ⟨_, c, e, _⟩
    · exact .inl lk
    · exact (hcells x c e).elim
/-- handed out: the state is the generator's -/
theorem handed {s s' : Shared} {H H' : Hp} {pn ip : List (Addr × Obj)} {σ σc : L2.St} {pins : List (Addr × Obj)} {σ0 : L2.St} {H0 : Hp}
    (I0 : L2.Inv X pins σ0 H0 s0) (hz : s0.heap.objs.size ≤ s'.heap.objs.size) (Ic : L2.Inv X pins σc H' s') (I : L2.Inv (gw X N q sc f cd A s0 s' H' pn) ip σ H s) : L2.Inv X pins σc H s := by
  obtain ⟨hh, gg, dd, tt, oo⟩ := s
  have eo : oo = s'.os := I.os
  subst eo
  have u : Un (frs X.stack) [] H' H (cutH s0.heap.objs.size s'.heap) hh := I.base
  have lt0 : ∀ c, c ∉ (List.range s'.heap.objs.size).filter (s0.heap.objs.size ≤ ·) → ∀ o, s'.heap.get? c = some o → (cutH s0.heap.objs.size s'.heap).get? c = some o := fun c hc o e => by
    have hlt : c < s0.heap.objs.size := by
      refine Nat.lt_of_not_le fun hle => hc ?_
      exact List.mem_filter.mpr ⟨List.mem_range.mpr (Heap.lt_size e), by simpa using hle⟩
    rw [cutH_at hlt]; exact e
  have big : ∀ c ∈ (List.range s'.heap.objs.size).filter (s0.heap.objs.size ≤ ·), s0.heap.objs.size ≤ c := fun c hc => by simpa using (List.mem_filter.mp hc).2
  have hLoc : ∀ o, s'.heap.get? X.env.locals = some o → ∃ sl, hh.get? X.env.locals = some { o with slots := sl } := fun o e => by
    have hlt : X.env.locals ∉ (List.range s'.heap.objs.size).filter (s0.heap.objs.size ≤ ·) := fun z => Nat.lt_irrefl _ (Nat.lt_of_lt_of_le I0.lt (big _ z))
    exact u.any (lt0 _ hlt o e) Ic.free (by simp)
  refine Ic.step (h' := hh) (g' := gg) (d' := dd) (t' := tt) (ch := (List.range s'.heap.objs.size).filter (s0.heap.objs.size ≤ ·)) (fun c hc => ⟨.inr (Nat.le_trans I0.sz (big c hc)), fun z => ?_, fun x d e z => ?_, fun p hp z => ?_⟩)
    (fun c o hL hf hc e n => u.keep c o (lt0 c hc o e) n (fun z => ?_) (by simp)) (fun c o hL hf hc e n => u.any (lt0 c hc o e) n (by simp)) (fun c o hc e n => u.free c o (lt0 c hc o e) n (by simp))
    (fun c o hc e => u.there c o (lt0 c hc o e) (by simp)) u.tups u.frzs u.tbls (fun m hm => ?_) I.hok I.bare
  · have := I0.lt
    have h2 := big c hc
    rw [z] at h2
    exact absurd (Nat.lt_of_lt_of_le this h2) (Nat.lt_irrefl _)
  · obtain ⟨v, o, ho, _⟩ := I0.cell x d e
    have h1 := Heap.lt_size ho
    have h2 := big c hc
    rw [z] at h1
    exact absurd (Nat.lt_of_lt_of_le h1 h2) (Nat.lt_irrefl _)
  · have h1 := Heap.lt_size (I0.pin p hp).1
    have h2 := big c hc
    rw [z] at h1
    exact absurd (Nat.lt_of_lt_of_le h1 h2) (Nat.lt_irrefl _)
  · exact (List.mem_cons.mp (Ic.stkSub c z)).elim hL hf
  · obtain ⟨o, es, ep, ho, r⟩ := hm
    obtain ⟨sl, e⟩ := hLoc o ho
    exact ⟨_, es, ep, e, r⟩
end

theorem Inv.anyG {X : Cx} {pins : List (Addr × Obj)} {σ : L2.St} {H : Hp} {s : Shared} (I : L2.Inv X pins σ H s) {G : Array GenState} (h : AllBare G) : L2.Inv X pins σ H (wG s G) :=
  ⟨I.ok, I.os, h, I.base, I.loc, I.cell, I.free, I.freeC, I.pin, I.hok, I.len⟩
/-- a code that says nothing of the generators leaves the sleeping as they are -/
theorem kept_run {M : Model} {A : Around} {α : Type} {t : Sem α} {J : α → Shared → Prop} {s : Shared} (hb : AllBare s.gens) (h : wpAny M A t (fun a z => AllBare z.gens ∧ J a z) noE (wG s (s.gens.map hush))) (hJ : ∀ a z G G', AllBare G' → J a (wG z G) → J a (wG z G')) :
    wpAny M A t (fun a z => J a z ∧ ∀ (i : Nat) k l c p fs cl, s.gens[i]? = some (.suspended k l c p fs cl) → z.gens[i]? = s.gens[i]?) noE s := by
  refine wpAny_mono (wpAny_hush h) (fun a z hz => ?_) fun _ _ z => z
  obtain ⟨⟨G, ⟨hG, hj⟩, hS⟩, hk⟩ := hz
  exact ⟨hJ a z G z.gens (hS.bare hG) hj, hk⟩
/-- what the consumer may pin -/
def PinC (X : Cx) (H : Hp) (s : Shared) (p : Addr × Obj) : Prop := s.heap.get? p.1 = some p.2 ∧ H p.1 = none ∧ p.1 ≠ X.env.locals ∧ p.1 ∉ X.fs ∧ ∀ v, p.2.data ≠ .cell v
/-- between the generator and the loop over it: item i comes at heap H, made from H'; the loop comes back with Pv (i + 1) -/
def YFor (X : Cx) (pins : List (Addr × Obj)) (ga : Addr) (go : Obj) (cnt : Nat) (it : Nat → List Int) (Pv : Nat → L2.St → Hp → Prop) : Protocol := fun n s₀ v s kap =>
  ∃ i σ H' H x gp, n + 1 + i = cnt ∧ RelV x v ∧ L2.Inv X pins σ H s ∧ (∀ p ∈ gp, PinC X H s p) ∧ (ga, go) ∈ gp ∧ Pv i σ H' ∧ Same H' H ∧ TupI X.K H x (it i) ∧
    ∀ σ2 H2 s2, L2.Inv X (pins ++ gp) σ2 H2 s2 → Pv (i + 1) σ2 H2 → kap (.send .none) s2 ∧ kap (.send (.int 0 0)) s2
def FFor (X : Cx) (pins : List (Addr × Obj)) (cnt : Nat) (Pv : Nat → L2.St → Hp → Prop) : Nat → Shared → Shared → Prop := fun _ _ s => ∃ σ H' H, L2.Inv X pins σ H s ∧ Pv cnt σ H' ∧ Same H' H
def RFor (X : Cx) (pins : List (Addr × Obj)) (cnt : Nat) (Pv : Nat → L2.St → Hp → Prop) : GenEnd := fun n s₀ r s =>
  ((r = .ok (.ret .none) ∨ r = .ok .next) ∧ FFor X pins cnt Pv n s₀ s) ∨ ∃ e, r = .error e ∧ (fun (_ : Value) (_ : Shared) => False) e s
section
variable {X : Cx} {q : Str} {sc : Scope} {f : Addr} {cd : Value} {A : Around} {s0 : Shared} {pins : List (Addr × Obj)} {σ0 : L2.St} {H0 : Hp} {ga : Addr} {go : Obj} {cnt : Nat} {it : Nat → List Int} {Pv : Nat → L2.St → Hp → Prop} {sh : Addr} {ns : List Int}
  {pa rk : Str} {pr yp ep fpos : Pos} {iter e : Expr} {wi : L2.TI} {te : TE}
/-- the generator's loop, from a turn on -/
theorem gen_turns (I0 : L2.Inv X pins σ0 H0 s0) (nd : ([pa, rk] : List Str).Nodup) (hrk : sc.names.lookup rk = some .local) (hcells : ∀ x c, (gxe q sc f cd s0).cells.lookup x ≠ some c) (hga : s0.heap.objs.size < ga) (hgd : ∀ v, go.data ≠ .cell v)
    (he : ∀ s H, PE (gw X [pa, rk] q sc f cd A s0 s H [(ga, go)]) e te)
    (hte : ∀ i H (Q : VK), i < cnt → SqT X.K H sh (iv ns) → (∀ x H', Same H H' → TupI X.K H' x (it i) → Q x H') → te [some (.ref sh), some (.int i)] H Q) (hPs : ∀ i σ H, Pv i σ H → SqT X.K H sh (iv ns))
    {itr : Addr} {fp : List Addr} {tn : Nat → Heap → Prop} (T : Turn X.prog X.w X.K (.Name rk pr) (Itr 0 cnt) fp itr tn) {fs : List Frame} {K : Flow → Sem PySem.Fin} {J : Value → Sem PySem.Fin} {p : Pos} {c : Code}
    (hov : A.over (.forLoop (.Name rk pr) (.ref itr) [.Expr (.Yield (some e) yp) ep] [] (gxe q sc f cd s0)) (.ret (afterLoop (gxe q sc f cd s0) K J id id) none (id false) (id []) c p [] :: fs) = A.deeper (gxe q sc f cd s0))
    (hsp : splitAtGen fs = none) (hgf : fs.any Frame.guarded = false) (hco : sc.isCoroutine = false) (hint : interactive (gxe q sc f cd s0) = false)
    (hfp : ∀ b ∈ fp, s0.heap.objs.size < b ∧ b ≠ ga)
    (hend : ∀ n s₀ s, FFor X pins cnt Pv n s₀ s → Seg (model X.prog X.w) A (RFor X pins cnt Pv) (YFor X pins ga go cnt it Pv) n s₀ c (K .next) fs s) :
    ∀ (r i : Nat) (s₀ s a : Shared) (Ha H : Hp) (z : Option V) (σc : L2.St), i + r = cnt → L2.Inv X pins σc Ha a → s0.heap.objs.size ≤ a.heap.objs.size → Pv i σc Ha →
      L2.Inv (gw X [pa, rk] q sc f cd A s0 a Ha [(ga, go)]) [] [some (.ref sh), z] H s → Same Ha H → tn i s.heap → (∀ b ∈ fp, H b = none) →
      Seg (model X.prog X.w) A (RFor X pins cnt Pv) (YFor X pins ga go cnt it Pv) r s₀ (.forLoop (.Name rk pr) (.ref itr) [.Expr (.Yield (some e) yp) ep] [] (gxe q sc f cd s0))
        ((model X.prog X.w).den (.forLoop (.Name rk pr) (.ref itr) [.Expr (.Yield (some e) yp) ep] [] (gxe q sc f cd s0))) (.ret (afterLoop (gxe q sc f cd s0) K J id id) none (id false) (id []) c p [] :: fs) s := by
  have ok : ∀ {a : Shared} {Ha H : Hp} {ip : List (Addr × Obj)}, s0.heap.objs.size ≤ a.heap.objs.size → (∀ b ∈ fp, H b = none) → (∀ y ∈ ip, y.1 ∉ fp) → ∀ b ∈ fp, FpOk (gw X [pa, rk] q sc f cd A s0 a Ha [(ga, go)]) ip H b := fun {a Ha H ip} hz hn hip b hb => by
    obtain ⟨h1, h2⟩ := hfp b hb
    refine ⟨hn b hb, Nat.ne_of_gt h1, fun z => ?_, .inr ?_, fun x c e => (hcells x c e).elim, fun y hy => ?_⟩
    · obtain ⟨_, o, e, _⟩ := I0.env0.funs.mem z
      exact absurd (Nat.lt_trans (Heap.lt_size e) h1) (Nat.lt_irrefl _)
    · show (cutH s0.heap.objs.size a.heap).objs.size ≤ b
      rw [cutH_size hz]; exact Nat.le_of_lt h1
    · rcases List.mem_append.mp hy with hy | hy
      · rw [List.mem_singleton.mp hy]; exact Ne.symm h2
      · exact fun e => hip y hy (e ▸ hb)
  intro r
  induction r with
  | zero =>
    intro i s₀ s a Ha H z σc hi Ic hz hP I hS st fr
    refine segx_forLoop ?_
    rw [hov]
    refine wpAny_mono (T.done (gw X [pa, rk] q sc f cd A s0 a Ha [(ga, go)]) rfl rfl rfl rfl i [] s _ H noE I (ok hz fr (by simp)) st (by show cnt ≤ i; omega)) (fun r4 s4 ⟨hr, I4⟩ => ?_) fun _ _ hx => hx.elim
    subst hr
    refine segx_block ?_
    have ei : i = cnt := by omega
    subst ei
    exact hend 0 s₀ s4 ⟨σc, Ha, H, handed I0 hz Ic I4, hP, hS⟩
  | succ r ih =>
    intro i s₀ s a Ha H z σc hi Ic hz hP I hS st fr
    refine segx_forLoop ?_
    rw [hov]
    refine wpAny_mono (T.item (gw X [pa, rk] q sc f cd A s0 a Ha [(ga, go)]) rfl rfl rfl rfl i [] s _ H noE I (ok hz fr (by simp)) st (by show i < cnt; omega)) (fun r4 s4 ⟨u, hr, h4⟩ => ?_) fun _ _ hx => hx.elim
    subst hr
    refine wpAny_mono h4 (fun _ s5 ⟨x, H5, I5, r5, y5, st5, fr5⟩ => ?_) fun _ _ hx => hx.elim
    obtain ⟨rfl, rfl⟩ : H5 = H ∧ x = .int (0 + i) := y5
    rw [Int.zero_add] at r5
    have I5' := I5.pinned (ok hz fr5 (by simp)) (T.obj _ _ st5)
    have hg := pg_name (X := gw X [pa, rk] q sc f cd A s0 a Ha [(ga, go)]) (i := 1) (pos := pr) (x := rk) nd rfl (.inl hrk)
    refine wpAny_mono (hg.run _ s5 _ H5 _ u (fun σ6 H6 => σ6 = [some (.ref sh), some (.int i)] ∧ H6 = H5) I5' r5 ⟨rfl, rfl⟩) (fun _ s6 ⟨σ6, H6, I6, e6, e7⟩ => ?_) fun _ _ hx => hx.elim
    subst e6 e7
    refine seg_execs_cons ?_
    have hsp2 : splitAtGen (.ret (afterLoop (gxe q sc f cd s0) K J id id) none (id false) (id []) c p [] :: fs) = none := by
      show (splitAtGen fs).map _ = none
      rw [hsp]; rfl
    have hgf2 : (Frame.ret (afterLoop (gxe q sc f cd s0) K J id id) none (id false) (id []) c p [] :: fs).any Frame.guarded = false := by
      show (false || fs.any Frame.guarded) = false
      rw [hgf]; rfl
    refine seg_Expr_Yield hsp2 rfl hgf2 ?_ hco hint
    rw [hov]
    have hsh : SqT X.K H6 sh (iv ns) := Same.sqT hS (hPs _ _ _ hP)
    refine wpAny_mono ((he a Ha).run _ s6 _ H6 (fun x H' => Same H6 H' ∧ TupI X.K H' x (it i)) I6 (hte i H6 _ (by omega) hsh fun x H' h1 h2 => ⟨h1, h2⟩)) (fun v s7 ⟨x, H7, I7, rv, hS7, hx7⟩ => ?_) fun _ _ hx => hx.elim
    intro kap hkap
    obtain ⟨m, ⟨oL, es, ep', hoL, hdL, hrest⟩, _⟩ := id I7.loc
    have hoL' : s7.heap.get? s0.heap.objs.size = some oL := hoL
    have Ic7 : L2.Inv X pins σc H7 s7 := handed I0 hz Ic I7
    have pinsOk : ∀ y ∈ (s0.heap.objs.size, oL) :: ((ga, go) :: pinsAt fp s5.heap), PinC X H7 s7 y := fun y hy => by
      have up : ∀ b, s0.heap.objs.size ≤ b → b ≠ X.env.locals ∧ b ∉ X.fs := fun b hb => ⟨fun z => by
        have := I0.lt
        rw [← z] at this
        exact absurd (Nat.lt_of_lt_of_le this hb) (Nat.lt_irrefl _), I0.nofs hb⟩
      rcases List.mem_cons.mp hy with hy | hy
      · subst hy
        exact ⟨hoL', I7.free, (up _ (Nat.le_refl _)).1, (up _ (Nat.le_refl _)).2, fun v z => by rw [hdL] at z; cases z⟩
      · rcases List.mem_cons.mp hy with hy | hy
        · subst hy
          obtain ⟨h1, h2, _, _, h5⟩ := I7.pin (ga, go) (List.mem_append_left _ (List.mem_singleton.mpr rfl))
          exact ⟨h1, h2, (up _ (Nat.le_of_lt hga)).1, (up _ (Nat.le_of_lt hga)).2, h5⟩
        · obtain ⟨h1, h2, _, _, h5⟩ := I7.pin y (List.mem_append_right _ (List.mem_append_right _ hy))
          have := (hfp _ (of_pinsAt hy).1).1
          exact ⟨h1, h2, (up _ (Nat.le_of_lt this)).1, (up _ (Nat.le_of_lt this)).2, h5⟩
    refine ⟨i, σc, Ha, H7, x, (s0.heap.objs.size, oL) :: ((ga, go) :: pinsAt fp s5.heap), by omega, rv, Ic7, pinsOk, by simp, hP, hS.trans hS7, hx7, fun σ2 H2 s2 I2 hP2 => ?_⟩
    have hz2 : s0.heap.objs.size ≤ s2.heap.objs.size := by
      have := (I2.pin (s0.heap.objs.size, oL) (List.mem_append_right _ (List.mem_append_right _ List.mem_cons_self))).1
      exact Nat.le_of_lt (Heap.lt_size this)
    have Lp := I2.pin (s0.heap.objs.size, oL) (List.mem_append_right _ (List.mem_append_right _ List.mem_cons_self))
    have Gp : ∀ y ∈ (ga, go) :: pinsAt fp s5.heap, s2.heap.get? y.1 = some y.2 ∧ H2 y.1 = none ∧ y.1 ≠ s0.heap.objs.size ∧ y.1 ∉ frs X.stack ∧ ∀ v, y.2.data ≠ .cell v := fun y hy => by
      obtain ⟨h1, h2, _, _, h5⟩ := I2.pin y (List.mem_append_right _ (List.mem_append_right _ (List.mem_cons_of_mem _ hy)))
      have big : s0.heap.objs.size < y.1 := by
        rcases List.mem_cons.mp hy with hy | hy
        · rw [hy]; exact hga
        · exact (hfp _ (of_pinsAt hy).1).1
      refine ⟨h1, h2, Nat.ne_of_gt big, fun z => ?_, h5⟩
      obtain ⟨_, o, e, _⟩ := I0.env0.funs.mem z
      exact absurd (Nat.lt_trans (Heap.lt_size e) big) (Nat.lt_irrefl _)
    have J2 : L2.Inv (gw X [pa, rk] q sc f cd A s0 s2 H2 [(ga, go)]) (pinsAt fp s5.heap) [some (.ref sh), some (.int i)] H2 s2 := by
      refine reroot I0 (I7.pins_of fun y hy => I7.pin y (List.mem_append_right _ (List.mem_append_right _ hy))) I2 hz2 hcells (fun o e => ?_) Lp.2.1 Gp
      rw [hoL'] at e; cases e
      exact Lp.1
    have st2 : tn (i + 1) s2.heap := T.keep _ _ _ st5 fun b hb o e => (Gp (b, o) (List.mem_cons_of_mem _ (mem_pinsAt hb e))).1
    have fr2 : ∀ b ∈ fp, H2 b = none := fun b hb => by
      obtain ⟨o, e, _⟩ := T.obj _ _ st5 b hb
      exact (Gp (b, o) (List.mem_cons_of_mem _ (mem_pinsAt hb e))).2.1
    have I2' : L2.Inv X pins σ2 H2 s2 := I2.pins_of fun y hy => I2.pin y (List.mem_append_right _ (List.mem_append_left _ hy))
    have go2 := ih (i + 1) s2 s2 s2 H2 H2 (some (.int i)) σ2 (by omega) I2' hz2 hP2 (J2.pins_of fun y hy => by simp at hy) (Same.refl H2) st2 fr2
    refine ⟨hkap .none s2 ?_, hkap (.int 0 0) s2 ?_⟩
    · exact seg_execs_nil (seg_again rfl go2)
    · exact seg_execs_nil (seg_again rfl go2)
end

def tForG (K : PySem.W.Frag) (ta : TA) (g : TG) (tb : TS) (OK : List Int → Prop) (cnt : List Int → Nat) (it : List Int → Nat → List Int) : TS := fun D σ H => ta σ H fun vs H1 => ∃ sh ns, vs = [.ref sh] ∧ SqT K H1 sh (iv ns) ∧ OK ns ∧
  ∃ Pv : Nat → L2.St → Hp → Prop, Pv 0 σ H1 ∧ (∀ i σ H, Pv i σ H → SqT K H sh (iv ns)) ∧
    (∀ i x σ H' H, i < cnt ns → Pv i σ H' → Same H' H → TupI K H x (it ns i) → g x σ H fun σ2 H2 => tb { D with nx := Pv (i + 1), ct := Pv (i + 1), bk := fun _ _ => False } σ2 H2) ∧ ∀ σ H' H, Pv (cnt ns) σ H' → Same H' H → D.nx σ H
section
variable {X : Cx} {q : Str} {sc : Scope} {f : Addr} {fd : FuncData} {args : Arguments} {fn x pa rk : Str} {pr yp ep fpos px pf cp pos : Pos} {iter e arg : Expr} {wi : L2.TI} {te : TE} {ta : TA} {g : TG} {tb : TS} {body : List Stmt} {k : Nat} {OK : List Int → Prop} {cnt : List Int → Nat} {it : List Int → Nat → List Int}
theorem ps_forG (hxe : ∀ e s, X.xe e s → False) (hr : Room (k + 2) X.A) (F : FunD X.K fn q args [.For (.Name rk pr) iter [.Expr (.Yield (some e) yp) ep] [] fpos] sc [] [] f fd) (S : GScope [pa, rk] [pa] sc)
    (hbind : ∀ (kV doc pm : Value) (an : Option Addr) (cdv ct v : Value), bindArgs (PySem.W.fnOf fn q args [.For (.Name rk pr) iter [.Expr (.Yield (some e) yp) ep] [] fpos] sc .none kV doc pm an cdv ct) ⟨[v], []⟩ = pure [(pa, v)])
    (hpl : sc.names.lookup pa = some .local) (hrk : sc.names.lookup rk = some .local) (hcl : ∀ n, cellsFrom n sc.names [] = []) (hint : ∀ n cd, interactive (envOfC q sc n f cd) = false)
    (hm : X.mg fn = some (.ref f)) (hgl : Gl X fn) (hdb : (fn == ("__debug__" : Str)) = false)
    (hst : starEach [arg] X.env = (false, eval arg X.env) :: starEach [] X.env) (ha : PA X [arg] ta) (hg : PG X (.Name x px) g) (hb : PSs X body tb)
    (hfi : ∀ z, foldedSetIterable iter (envOfC q sc 0 f .none) z = pure z) (hfi' : ∀ n cd z, foldedSetIterable iter (envOfC q sc n f cd) z = pure z)
    (hi : ∀ cd A s0 s H pn, Room k (A.deeper (gxe q sc f cd s0)) → PI (gw X [pa, rk] q sc f cd A s0 s H pn) (.Name rk pr) iter wi)
    (hwi : ∀ ns sh H R, OK ns → SqT X.K H sh (iv ns) → (∀ H', Same H H' → R (Itr 0 (cnt ns)) H') → wi [some (.ref sh), none] H R)
    (he : ∀ cd A s0 s H pn, Room k (A.deeper (gxe q sc f cd s0)) → PE (gw X [pa, rk] q sc f cd A s0 s H pn) e te)
    (hte : ∀ ns sh i H (Q : VK), OK ns → i < cnt ns → SqT X.K H sh (iv ns) → (∀ x H', Same H H' → TupI X.K H' x (it ns i) → Q x H') → te [some (.ref sh), some (.int i)] H Q) :
    PS X (.For (.Name x px) (.Call (.Name fn pf) [arg] [] cp) body [] pos) (tForG X.K ta g tb OK cnt it) := by
  refine ⟨fun pins s σ H D I h => ?_⟩
  refine wpAny_For (s := s) ?_ (fun z => rfl)
  refine wpAny_Call_Name_kw (ld_glob I hgl hm ?_ hdb)
  refine PySem.W.callWith_K (h₀ := X.base) I.ok.mod.kin F.kp (thn (ha.run cp pins s σ H _ I h) fun us s0 ⟨vs, H0, I0, rv, q0⟩ => ⟨I0.kIn, ?_⟩) hst rfl
  obtain ⟨sh, ns, rfl, hsh, hok, Pv, p0, hPs, hturn, hdone⟩ := q0
  obtain ⟨oc, od, dV, kV, doc, pm, an, cdv, ct, osl, rfl, lk, hcd, hD, _⟩ := F.ex
  obtain rfl : dV = .none := by
    rcases hD with ⟨_, z⟩ | ⟨z, _⟩
    · exact z
    · exact absurd rfl z
  obtain ⟨u, rfl⟩ : ∃ u, us = [u] := by
    have hl := rv.length
    match us, hl with
    | [u], _ => exact ⟨u, rfl⟩
  have lim0 : s0.heap.NoLimit := I0.nolimit
  refine wpAny_call (codeAny_call_generator (by have := hr.dp; omega) (I0.kIn _ _ lk) rfl S.co S.gen rfl (PySem.W.codeRec_of I0.kIn hcd) ?_)
  show wpAny _ _ (bindArgs _ ⟨[u], []⟩) _ _ _
  rw [hbind]
  refine wpAny_pure ?_
  refine wpAny_newFunctionEnv_cells S.kind (fun y hy => by rw [List.mem_singleton.mp hy]; exact .inl hpl) fun env hen s1 x1 => ?_
  subst hen
  have lim1 : s1.heap.NoLimit := lim0.keeps x1.toInCall.keep
  refine ⟨lim1, ?_⟩
  obtain ⟨h1, tk, es1, hk1⟩ := x1.done
  have os1 : s1.os = s0.os := by rw [es1]
  have gen1 : s1.gens = s0.gens := by rw [es1]
  have lt1 : s0.heap.objs.size < s1.heap.objs.size := x1.toInCall.ns.lt
  have kp1 : ∀ b o, s0.heap.get? b = some o → s1.heap.get? b = some o := x1.toInCall.keep
  have ig : L2.Inv (gcxOf X.prog X.w X.K X.mg X.base [pa, rk] q sc f cdv X.A.in1 X.stack s0 H0 (fun _ _ _ => False) []) [] (start [pa, rk] [.ref sh]) H0 s1 :=
    inv_startG S hr.hd { I0.env0 with frames := I0.env0.frames } rfl rv x1
  have main : ∀ (go : Obj) (tk2 : Nat), go.cls = .type "generator" → (∃ nm qn, go.data = .fields #[.int s1.gens.size 0, nm, qn]) → go.slots = #[] → (∀ h : Heap, (h.push go).get? h.objs.size = some go) →
      wpAny (model X.prog X.w) X.A (pyIter (.ref s1.heap.objs.size)) (fun itv s2 => codeAny (model X.prog X.w) X.A (.forLoop (.Name x px) itv body [] X.env)
        (fun r s' => match r with | .ok fl => SP X pins D fl s' | .error e => cameBackBy (model X.prog X.w) X.A X.env X.xe e s') s2) X.xe
        { s1 with gens := s1.gens.push (.fresh (.func [.For (.Name rk pr) iter [.Expr (.Yield (some e) yp) ep] [] fpos] (envOfC q sc s0.heap.objs.size f cdv))), toks := tk2, heap := s1.heap.push go } := by
    intro go tk2 hgc ⟨nm, qn, hgd⟩ hgs hgp
    have hgen : ∀ h : Heap, h.get? s1.heap.objs.size = some go → h.IsGen s1.heap.objs.size s1.gens.size := fun h e => ⟨go, nm, qn, e, hgc, hgd, hgs⟩
    have hgo := hgp s1.heap
    have hnc : ∀ v, go.data ≠ .cell v := fun v z => by rw [hgd] at z; cases z
    generalize eG : ({ s1 with gens := s1.gens.push (.fresh (.func [.For (.Name rk pr) iter [.Expr (.Yield (some e) yp) ep] [] fpos] (envOfC q sc s0.heap.objs.size f cdv))), toks := tk2, heap := s1.heap.push go } : Shared) = sG
    have hpG : sG.heap = s1.heap.push go := by rw [← eG]
    have gnG : sG.gens = s1.gens.push (.fresh (.func [.For (.Name rk pr) iter [.Expr (.Yield (some e) yp) ep] [] fpos] (envOfC q sc s0.heap.objs.size f cdv))) := by rw [← eG]
    have osG : sG.os = s0.os := by rw [← eG]; exact os1
    have kpG : ∀ b o, s0.heap.get? b = some o → sG.heap.get? b = some o := fun b o z => by rw [hpG]; exact Heap.get?_push_of_some _ (kp1 b o z)
    have hgoG : sG.heap.get? s1.heap.objs.size = some go := by rw [hpG]; exact hgo
    have brG : AllBare sG.gens := by rw [gnG]; exact AllBare.push (by rw [gen1]; exact I0.bare) rfl
    have IG : L2.Inv X pins σ H0 sG := I0.call' (ch := []) osG (Un.kept kpG) (I0.hok.kept kpG) brG fun b z => by simp at z
    have hga : s0.heap.objs.size < s1.heap.objs.size := lt1
    have pin0 : PinC X H0 sG (s1.heap.objs.size, go) := ⟨hgoG, I0.hok.fresh (Nat.le_of_lt hga), Nat.ne_of_gt (Nat.lt_trans I0.lt hga), I0.nofs (Nat.le_of_lt hga), hnc⟩
    have IGp : L2.Inv X (pins ++ [(s1.heap.objs.size, go)]) σ H0 sG := IG.pins_of fun y hy => by
      rcases List.mem_append.mp hy with hy | hy
      · exact IG.pin y (List.mem_append_right _ hy)
      · rw [List.mem_singleton.mp hy]; exact pin0
    have gAt : sG.gens[s1.gens.size]? = some (.fresh (.func [.For (.Name rk pr) iter [.Expr (.Yield (some e) yp) ep] [] fpos] (envOfC q sc s0.heap.objs.size f cdv))) := by rw [gnG]; exact Array.getElem?_push_size ..
    have hcells : ∀ y c, (gxe q sc f cdv s0).cells.lookup y ≠ some c := fun y c z => by
      have z : (cellsFrom (s0.heap.objs.size + 1) sc.names []).lookup y = some c := z
      rw [hcl] at z; cases z
    have hrg : Room k (X.A.in1.deeper (gxe q sc f cdv s0)) := (Room.in1 hr).deeper _
    have start : Seg (model X.prog X.w) X.A.in1 (RFor X pins (cnt ns) Pv) (YFor X pins s1.heap.objs.size go (cnt ns) (it ns) Pv) (cnt ns) (sG.setGen s1.gens.size .running)
        (.func [.For (.Name rk pr) iter [.Expr (.Yield (some e) yp) ep] [] fpos] (gxe q sc f cdv s0)) ((model X.prog X.w).den (.func [.For (.Name rk pr) iter [.Expr (.Yield (some e) yp) ep] [] fpos] (gxe q sc f cdv s0))) [] (sG.setGen s1.gens.size .running) := by
      generalize eR : sG.setGen s1.gens.size .running = sR
      have hpR : sR.heap = sG.heap := by rw [← eR]; rfl
      have IR : L2.Inv X pins σ H0 sR := by rw [← eR]; exact Inv.anyG IG (allBare_setGen brG rfl)
      have hzR : s0.heap.objs.size ≤ sR.heap.objs.size := by
        rw [hpR]; exact Nat.le_of_lt (Nat.lt_trans hga (Heap.lt_size hgoG))
      have J0 : L2.Inv (gw X [pa, rk] q sc f cdv X.A.in1 s0 sR H0 [(s1.heap.objs.size, go)]) [] (start [pa, rk] [.ref sh]) H0 sR := by
        refine reroot (a := s0) (b := H0) (pn := []) (xe := (gcxOf X.prog X.w X.K X.mg X.base [pa, rk] q sc f cdv X.A.in1 X.stack s0 H0 (fun _ _ _ => False) []).xe) I0 ig IR hzR hcells (fun o z => ?_) (I0.hok.fresh (Nat.le_refl _)) fun y hy => ?_
        · rw [hpR, hpG]; exact Heap.get?_push_of_some _ z
        · rw [List.append_nil] at hy
          rw [List.mem_singleton.mp hy]
          refine ⟨by rw [hpR]; exact hgoG, pin0.2.1, Nat.ne_of_gt hga, fun z => ?_, hnc⟩
          obtain ⟨_, o, z2, _⟩ := I0.env0.funs.mem z
          exact absurd (Nat.lt_trans (Heap.lt_size z2) hga) (Nat.lt_irrefl _)
      refine seg_func ?_
      refine seg_execs_cons ?_
      refine segx_For (fun z => hfi' _ _ z) ?_
      rw [over_func]
      refine wpAny_mono ((hi cdv X.A.in1 s0 sR H0 [(s1.heap.objs.size, go)] hrg).run [] sR _ H0 (fun J H' => J = Itr 0 (cnt ns) ∧ Same H0 H') J0 (hwi ns sh H0 _ hok hsh fun H' hs => ⟨rfl, hs⟩)) (fun v t1 h1 => wpAny_mono h1 (fun itv t2 h2 => ?_) fun _ _ z => z.elim) fun _ _ z => z.elim
      obtain ⟨itr, fp, tn, JJ, H2, rfl, I2, T, st2, f2, rfl, hS2⟩ := h2
      intro p
      refine gen_turns (cnt := cnt ns) (it := it ns) I0 S.nd hrk hcells hga hnc (fun s H => he cdv X.A.in1 s0 s H _ hrg) (fun i H Q hi' hs hq => hte ns sh i H Q hok hi' hs hq) hPs T ((over_loop rfl rfl).trans over_func) rfl rfl S.co (hint _ _) (fun b hb => ?_)
        (fun n s₀ s hF => ?_) (cnt ns) 0 sR t2 sR H0 H2 none σ (by omega) IR hzR p0 I2 hS2 st2 fun b hb => (f2 b hb).1
      · obtain ⟨y1, y2, _, y4, _, y6⟩ := f2 b hb
        refine ⟨?_, fun z => y6 (s1.heap.objs.size, go) (List.mem_append_left _ (List.mem_singleton.mpr rfl)) z.symm⟩
        have y2 : b ≠ s0.heap.objs.size := y2
        rcases y4 with y4 | y4
        · exact absurd (show b ∈ ([] : List Addr) from y4) (by simp)
        · have y4 : (cutH s0.heap.objs.size sR.heap).objs.size ≤ b := y4
          rw [cutH_size hzR] at y4
          exact Nat.lt_of_le_of_ne y4 (Ne.symm y2)
      · exact seg_execs_nil (seg_end (.ok (.ret .none)) (.inl ⟨.inl rfl, hF⟩))
    refine wpAny_pyIter_gen (hgen _ hgoG) ?_
    refine codeAny_forLoop_any (fun m s' => ∃ i σ H gp gs, m = cnt ns - i ∧ L2.Inv X (pins ++ gp) σ H s' ∧ (s1.heap.objs.size, go) ∈ gp ∧ s'.gens[s1.gens.size]? = some gs ∧
      gs.Goes (model X.prog X.w) X.A.in1 (RFor X pins (cnt ns) Pv) (YFor X pins s1.heap.objs.size go (cnt ns) (it ns) Pv) m (.send .none) (s'.setGen s1.gens.size .running)) ?_ (cnt ns)
      ⟨0, σ, H0, _, _, by omega, IGp, List.mem_singleton.mpr rfl, gAt, rfl, start⟩
    rintro m s3 ⟨i, σ3, H3, gp, gs, rfl, I3, hgm, hgs3, hgoes⟩
    have hg3 : s3.heap.get? s1.heap.objs.size = some go := (I3.pin (s1.heap.objs.size, go) (List.mem_append_right _ (List.mem_append_right _ hgm))).1
    have hgl3 : s1.gens.size < s3.gens.size := (Array.getElem?_eq_some_iff.mp hgs3).1
    refine wpAny_gsz (n := s1.gens.size + 1) hgl3 (next_genG hr.hd I3.nolimit (by have := hr.dp; omega) (hgen _ hg3) hgs3 hgoes (fun v s4 gs' hbare hY hsz => ?_) (fun s4 hF h' hk hsz => ?_) fun _ _ z => z.elim)
    · obtain ⟨i', σ4, H', H4, x4, gp4, hn, rv4, I4, hp4, hg4, hP4, hS4, hx4, back⟩ := hY
      have step := hturn i' x4 σ4 H' H4 (by omega) hP4 hS4 hx4
      have I4p : L2.Inv X (pins ++ gp4) σ4 H4 s4 := I4.pins_of fun y hy => by
        rcases List.mem_append.mp hy with hy | hy
        · exact I4.pin y (List.mem_append_right _ hy)
        · exact hp4 y hy
      have b4 : AllBare (s4.setGen s1.gens.size gs').gens := allBare_setGen I4.bare hbare
      have I5 : L2.Inv X (pins ++ gp4) σ4 H4 (s4.setGen s1.gens.size gs') := Inv.anyG I4p b4
      have at4 : (s4.setGen s1.gens.size gs').gens[s1.gens.size]? = some gs' := setGen_at (by
        have e : (s4.setGen s1.gens.size gs').gens.size = s4.gens.size := setGen_size _ _ _
        omega)
      have hxx : ∀ {α : Type} {t : Sem α} {Q : α → Shared → Prop} {z : Shared}, wpAny (model X.prog X.w) X.A t Q X.xe z → wpAny (model X.prog X.w) X.A t Q noE z := fun h => wpAny_mono h (fun _ _ w => w) fun e z w => hxe e z w
      -- the turn's end
      have fin : ∀ z σ7 H7, L2.Inv X (pins ++ gp4) σ7 H7 z → Pv (i' + 1) σ7 H7 → ((∃ a b c d e' f', gs' = .suspended a b c d e' f') → z.gens[s1.gens.size]? = some gs') → ∃ m', m' < cnt ns - i ∧ ∃ i σ H gp gs, m' = cnt ns - i ∧ L2.Inv X (pins ++ gp) σ H z ∧ (s1.heap.objs.size, go) ∈ gp ∧ z.gens[s1.gens.size]? = some gs ∧
          gs.Goes (model X.prog X.w) X.A.in1 (RFor X pins (cnt ns) Pv) (YFor X pins s1.heap.objs.size go (cnt ns) (it ns) Pv) m' (.send .none) (z.setGen s1.gens.size .running) := by
        intro z σ7 H7 I7 hP7 hkeep
        have bk := back σ7 H7 (z.setGen s1.gens.size .running) (Inv.anyG I7 (allBare_setGen I7.bare rfl)) hP7
        cases hc : cnt ns - i with
        | zero =>
          rw [hc] at bk
          exact bk.1.elim
        | succ m =>
          rw [hc] at bk hn
          obtain ⟨b1, b2⟩ := bk
          cases gs' with
          | fresh c => exact absurd b2.1 (by intro y; cases y)
          | running => exact b1.elim
          | finished => exact b1.elim
          | suspended a b c d e' f' =>
            exact ⟨m, by omega, i' + 1, σ7, H7, gp4, _, by omega, I7, hg4, hkeep ⟨a, b, c, d, e', f', rfl⟩, b1⟩
      show wpAny _ _ (pure ()) _ _ _
      refine wpAny_pure ?_
      have asg : ∀ G, AllBare G → wpAny (model X.prog X.w) X.A (assign (.Name x px) X.env v) (fun _ z => AllBare z.gens ∧ ∃ σ6 H6, L2.Inv X (pins ++ gp4) σ6 H6 z ∧ tb { D with nx := Pv (i' + 1), ct := Pv (i' + 1), bk := fun _ _ => False } σ6 H6) noE (wG (s4.setGen s1.gens.size gs') G) := fun G hG => by
        refine wpAny_mono (hxx (hg.run _ _ σ4 H4 x4 v _ (Inv.anyG I5 hG) rv4 step)) (fun _ z ⟨σ6, H6, I6, q6⟩ => ⟨I6.bare, σ6, H6, I6, q6⟩) fun _ _ z => z
      have bdy : ∀ z G σ6 H6, AllBare G → L2.Inv X (pins ++ gp4) σ6 H6 z → tb { D with nx := Pv (i' + 1), ct := Pv (i' + 1), bk := fun _ _ => False } σ6 H6 →
          wpAny (model X.prog X.w) X.A (execs body X.env) (fun fl z => AllBare z.gens ∧ SP X (pins ++ gp4) { D with nx := Pv (i' + 1), ct := Pv (i' + 1), bk := fun _ _ => False } fl z) noE (wG z G) := fun z G σ6 H6 hG I6 q6 => by
        refine wpAny_mono (hxx (hb.run _ _ σ6 H6 _ (Inv.anyG I6 hG) q6)) (fun fl z hz => ⟨?_, hz⟩) fun _ _ z => z
        cases fl with
        | next => obtain ⟨_, _, I7, _⟩ := hz; exact I7.bare
        | cont => obtain ⟨_, _, I7, _⟩ := hz; exact I7.bare
        | brk => obtain ⟨_, _, I7, _⟩ := hz; exact I7.bare
        | ret y => obtain ⟨_, _, _, I7, _⟩ := hz; exact I7.bare
      have close : ∀ fl z, SP X (pins ++ gp4) { D with nx := Pv (i' + 1), ct := Pv (i' + 1), bk := fun _ _ => False } fl z → ((∃ a b c d e' f', gs' = .suspended a b c d e' f') → z.gens[s1.gens.size]? = some gs') →
          (match fl with
          | .next | .cont => ∃ m', m' < cnt ns - i ∧ ∃ i σ H gp gs, m' = cnt ns - i ∧ L2.Inv X (pins ++ gp) σ H z ∧ (s1.heap.objs.size, go) ∈ gp ∧ z.gens[s1.gens.size]? = some gs ∧
              gs.Goes (model X.prog X.w) X.A.in1 (RFor X pins (cnt ns) Pv) (YFor X pins s1.heap.objs.size go (cnt ns) (it ns) Pv) m' (.send .none) (z.setGen s1.gens.size .running)
          | .brk => SP X pins D .next z
          | .ret y => SP X pins D (.ret y) z) := by
        intro fl z hz hkeep
        cases fl with
        | next => obtain ⟨σ7, H7, I7, q7⟩ := hz; exact fin z σ7 H7 I7 q7 hkeep
        | cont => obtain ⟨σ7, H7, I7, q7⟩ := hz; exact fin z σ7 H7 I7 q7 hkeep
        | brk => obtain ⟨_, _, _, q7⟩ := hz; exact q7.elim
        | ret y => obtain ⟨x7, σ7, H7, I7, r7, q7⟩ := hz; exact ⟨x7, σ7, H7, I7.unpinned, r7, q7⟩
      by_cases hsus : ∃ a b c d e' f', gs' = .suspended a b c d e' f'
      · obtain ⟨a, b, c, d, e', f', rfl⟩ := hsus
        refine wpAny_mono (kept_run (J := fun (_ : Unit) z => ∃ σ6 H6, L2.Inv X (pins ++ gp4) σ6 H6 z ∧ tb { D with nx := Pv (i' + 1), ct := Pv (i' + 1), bk := fun _ _ => False } σ6 H6) b4 (asg _ (allBare_hush b4)) fun _ z G G' hG ⟨σ6, H6, I6, q6⟩ => ⟨σ6, H6, Inv.anyG I6 hG, q6⟩) (fun _ z hz => ?_) fun _ _ z => z.elim
        obtain ⟨⟨σ6, H6, I6, q6⟩, hk6⟩ := hz
        have at6 := (hk6 _ _ _ _ _ _ _ at4).trans at4
        refine wpAny_mono (kept_run (J := fun fl z => SP X (pins ++ gp4) { D with nx := Pv (i' + 1), ct := Pv (i' + 1), bk := fun _ _ => False } fl z) I6.bare (bdy z _ σ6 H6 (allBare_hush I6.bare) I6 q6) fun fl z G G' hG hz => ?_) (fun fl z hz => close fl z hz.1 fun _ => (hz.2 _ _ _ _ _ _ _ at6).trans at6) fun _ _ z => z.elim
        cases fl with
        | next => obtain ⟨σ7, H7, I7, q7⟩ := hz; exact ⟨σ7, H7, Inv.anyG I7 hG, q7⟩
        | cont => obtain ⟨σ7, H7, I7, q7⟩ := hz; exact ⟨σ7, H7, Inv.anyG I7 hG, q7⟩
        | brk => obtain ⟨σ7, H7, I7, q7⟩ := hz; exact ⟨σ7, H7, Inv.anyG I7 hG, q7⟩
        | ret y => obtain ⟨x7, σ7, H7, I7, q7⟩ := hz; exact ⟨x7, σ7, H7, Inv.anyG I7 hG, q7⟩
      · refine wpAny_mono (asg _ b4) (fun _ z hz => ?_) fun _ _ z => z.elim
        obtain ⟨_, σ6, H6, I6, q6⟩ := hz
        exact wpAny_mono (bdy z _ σ6 H6 I6.bare I6 q6) (fun fl z hz => close fl z hz.2 fun y => absurd y hsus) fun _ _ z => z.elim
    · obtain ⟨σ4, H', H4, I4, hP4, hS4⟩ := hF
      refine wpAny_execs_nil ?_
      have I5 : L2.Inv X pins σ4 H4 (s4.setGen s1.gens.size .finished) := Inv.anyG I4 (allBare_setGen I4.bare rfl)
      exact ⟨σ4, H4, I5.kept (t' := s4.toks) hk, hdone σ4 H' H4 hP4 hS4⟩
  exact main _ _ rfl ⟨_, _, rfl⟩ rfl fun h => Heap.get?_push_size _ rfl
end
end Tz
namespace Tz
open PySem PySem.Spec PyProof.Rows L2
/-! ### the order of tuples of ints -/
theorem lexAt_shift (e r : Nat → Bool) (z : Bool) : ∀ k i, Ob.lexAt e r z (i + 1) k = Ob.lexAt (fun j => e (j + 1)) (fun j => r (j + 1)) z i k := by
  intro k
  induction k with
  | zero => intro i; rfl
  | succ k ih =>
    intro i
    rw [Ob.lexAt_succ, Ob.lexAt_succ, ih]
theorem lexAt_lists (R : Int → Int → Bool) (Z : Nat → Nat → Bool) (G : List Int → List Int → Bool) (hz : ∀ a b, Z (a + 1) (b + 1) = Z a b) (h1 : ∀ ms, G [] ms = Z 0 ms.length) (h2 : ∀ n ns, G (n :: ns) [] = Z (n :: ns).length 0)
    (h3 : ∀ n ns m ms, G (n :: ns) (m :: ms) = if n = m then G ns ms else R n m) :
    ∀ ns ms : List Int, Ob.lexAt (fun j => decide (ns.getD j 0 = ms.getD j 0)) (fun j => R (ns.getD j 0) (ms.getD j 0)) (Z ns.length ms.length) 0 (min ns.length ms.length) = G ns ms
  | [], ms => by rw [h1]; simp [Ob.lexAt_zero]
  | n :: ns, [] => by rw [h2]; simp [Ob.lexAt_zero]
  | n :: ns, m :: ms => by
    have e : min (n :: ns).length (m :: ms).length = min ns.length ms.length + 1 := by simp only [List.length_cons]; omega
    rw [e, Ob.lexAt_succ, h3]
    by_cases q : n = m
    · rw [if_pos (by simpa using q), if_pos q, lexAt_shift, List.length_cons, List.length_cons, hz]
      exact lexAt_lists R Z G hz h1 h2 h3 ns ms
    · rw [if_neg (by simpa using q), if_neg q]
      rfl
theorem lexLt_nil {ms : List Int} : HT.lexLt ms [] = false := by cases ms <;> rfl
theorem lexAt_gt (ns ms : List Int) : Ob.lexAt (fun j => decide (ns.getD j 0 = ms.getD j 0)) (fun j => decide (ms.getD j 0 < ns.getD j 0)) (decide (ns.length > ms.length)) 0 (min ns.length ms.length) = HT.lexLt ms ns := by
  refine lexAt_lists (fun a b => decide (b < a)) (fun a b => decide (a > b)) (fun a b => HT.lexLt b a) (fun a b => by simp) (fun ms => ?_) (fun n ns => ?_) (fun n ns m ms => ?_) ns ms
  · rw [lexLt_nil]; simp
  · simp [HT.lexLt]
  · rw [HT.lexLt_cons]
    by_cases q : n = m
    · rw [if_pos q, if_pos q.symm]
    · rw [if_neg q, if_neg (Ne.symm q)]
theorem lexAt_ge (ns ms : List Int) : Ob.lexAt (fun j => decide (ns.getD j 0 = ms.getD j 0)) (fun j => decide (ms.getD j 0 ≤ ns.getD j 0)) (decide (ns.length ≥ ms.length)) 0 (min ns.length ms.length) = !HT.lexLt ns ms := by
  refine lexAt_lists (fun a b => decide (b ≤ a)) (fun a b => decide (a ≥ b)) (fun a b => !HT.lexLt a b) (fun a b => by simp) (fun ms => ?_) (fun n ns => ?_) (fun n ns m ms => ?_) ns ms
  · cases ms <;> simp [HT.lexLt]
  · rw [lexLt_nil]; simp
  · rw [HT.lexLt_cons]
    by_cases q : n = m
    · rw [if_pos q, if_pos q]
    · rw [if_neg q, if_neg q]
      simp only [← decide_not]
      congr 1
      simp
theorem lexAt_le (ns ms : List Int) : Ob.lexAt (fun j => decide (ns.getD j 0 = ms.getD j 0)) (fun j => decide (ns.getD j 0 ≤ ms.getD j 0)) (decide (ns.length ≤ ms.length)) 0 (min ns.length ms.length) = !HT.lexLt ms ns := by
  refine lexAt_lists (fun a b => decide (a ≤ b)) (fun a b => decide (a ≤ b)) (fun a b => !HT.lexLt b a) (fun a b => by simp) (fun ms => ?_) (fun n ns => ?_) (fun n ns m ms => ?_) ns ms
  · rw [lexLt_nil]; simp
  · simp [HT.lexLt]
  · rw [HT.lexLt_cons]
    by_cases q : n = m
    · rw [if_pos q, if_pos q.symm]
    · rw [if_neg q, if_neg (Ne.symm q)]
      simp only [← decide_not]
      congr 1
      simp
def rOrd (K : PySem.W.Frag) (B : List Int → List Int → Bool) : R2 := fun x y H Q => ∃ ns ms, TupI K H x ns ∧ TupI K H y ms ∧ Q (.bl (B ns ms)) H
section
variable {X : Cx}
theorem op_tup {op : CmpOp} {e r : List Int → List Int → Nat → Bool} {z : Nat → Nat → Bool} {B : List Int → List Int → Bool} (hB : ∀ ns ms, Ob.lexAt (fun j => decide (ns.getD j 0 = ms.getD j 0)) (r ns ms) (z ns.length ms.length) 0 (min ns.length ms.length) = B ns ms)
    (hop : ∀ {s : Shared} {l b : Addr} {items items2 : Array Value} {e r : Nat → Bool}, s.heap.IsTuple l items → s.heap.IsTuple b items2 → (∀ j (h1 : j < items.size) (h2 : j < items2.size), SeqAt.EqAt X.A.in1 s items[j] items2[j] (e j)) →
      (∀ j (h1 : j < items.size) (h2 : j < items2.size), e j = false → Ob.RcOp op X.A.in1 s items[j] items2[j] (r j)) → Ob.RcOp op X.A s (.ref l) (.ref b) (Ob.lexAt e r (z items.size items2.size) 0 (min items.size items2.size)))
    (hint : ∀ (s : Shared) (ns ms : List Int) (j : Nat) (t u : Tok), Ob.RcOp op X.A.in1 s (.int (ns.getD j 0) t) (.int (ms.getD j 0) u) (r ns ms j)) (hc : ∀ a b, compareOp op a b = richCompare op a b) : OpR X (compareOp op) (rOrd X.K B) := by
  intro pins s σ H x y v u Q I rx ry h
  obtain ⟨ns, ms, ⟨a, rfl, ha⟩, ⟨b, rfl, hb⟩, q⟩ := h
  cases rx
  cases ry
  obtain ⟨its, r1, p1, _⟩ := I.tuple ha
  obtain ⟨its2, r2, p2, _⟩ := I.tuple hb
  have i1 : IntsAre its ns := Vals.ints r1
  have i2 : IntsAre its2 ms := Vals.ints r2
  have e1 : its.toArray.size = ns.length := by rw [List.size_toArray]; exact i1.length
  have e2 : its2.toArray.size = ms.length := by rw [List.size_toArray]; exact i2.length
  have at1 : ∀ j (h1 : j < its.toArray.size), ∃ t, its.toArray[j] = .int (ns.getD j 0) t := fun j h1 => PyProof.Rows.IntsAre.int_at i1 _ _ (by simp at h1; simp [h1])
  have at2 : ∀ j (h1 : j < its2.toArray.size), ∃ t, its2.toArray[j] = .int (ms.getD j 0) t := fun j h1 => PyProof.Rows.IntsAre.int_at i2 _ _ (by simp at h1; simp [h1])
  have R := hop (s := s) (e := fun j => decide (ns.getD j 0 = ms.getD j 0)) (r := r ns ms) p1 p2 (fun j h1 h2 => by
    obtain ⟨t, et⟩ := at1 j h1
    obtain ⟨t', et'⟩ := at2 j h2
    rw [et, et']
    have z : (ns.getD j 0 == ms.getD j 0) = decide (ns.getD j 0 = ms.getD j 0) := by
      by_cases q : ns.getD j 0 = ms.getD j 0
      · rw [decide_eq_true q]; exact beq_iff_eq.mpr q
      · rw [decide_eq_false q]; exact beq_eq_false_iff_ne.mpr q
    rw [← z]
    exact SeqAt.EqAt.int_int _ _ _ _) (fun j h1 h2 _ => by
    obtain ⟨t, et⟩ := at1 j h1
    obtain ⟨t', et'⟩ := at2 j h2
    rw [et, et']
    exact hint s ns ms j _ _)
  rw [e1, e2, hB] at R
  rw [hc]
  exact R X.prog X.w X.xe (EP X pins σ Q) ⟨.bl _, H, I, rfl, q⟩
/-- t > u -/
theorem op_gtT (hu : X.A.units < cLine) : OpR X (compareOp .Gt) (rOrd X.K fun ns ms => HT.lexLt ms ns) :=
  op_tup (e := fun _ _ _ => true) (z := fun a b => decide (a > b)) (r := fun ns ms j => decide (ms.getD j 0 < ns.getD j 0)) lexAt_gt (fun h1 h2 h3 h4 => Ob.RcOp.tuples_gt h1 h2 hu h3 h4) (fun s ns ms j t u => Ob.RcOp.gt_int _ _ _ _) fun _ _ => rfl
theorem op_geT (hu : X.A.units < cLine) : OpR X (compareOp .GtE) (rOrd X.K fun ns ms => !HT.lexLt ns ms) :=
  op_tup (e := fun _ _ _ => true) (z := fun a b => decide (a ≥ b)) (r := fun ns ms j => decide (ms.getD j 0 ≤ ns.getD j 0)) lexAt_ge (fun h1 h2 h3 h4 => Ob.RcOp.tuples_ge h1 h2 hu h3 h4) (fun s ns ms j t u => Ob.RcOp.ge_int _ _ _ _) fun _ _ => rfl
theorem op_leTT (hu : X.A.units < cLine) : OpR X (compareOp .LtE) (rOrd X.K fun ns ms => !HT.lexLt ms ns) :=
  op_tup (e := fun _ _ _ => true) (z := fun a b => decide (a ≤ b)) (r := fun ns ms j => decide (ns.getD j 0 ≤ ms.getD j 0)) lexAt_le (fun h1 h2 h3 h4 => Ob.RcOp.tuples_le h1 h2 hu h3 h4) (fun s ns ms j t u => Ob.RcOp.le_int _ _ _ _) fun _ _ => rfl
end
/-! ### a dict of the module, int keys -/
def KDi (K : PySem.W.Frag) (a : Addr) (i : Int) (v : V) : Prop :=
  ∃ es n u, K.lookup a = some ⟨.type "dict", none, .dict es n, #[]⟩ ∧ (∀ e ∈ es.toList, ∃ j t, e.key = .int j t ∧ e.hash = hashInt j) ∧ findBy Value.isInt es i = some u ∧ RelV v u
section
variable {X : Cx}
theorem ix_kdictI : IxR X (fun x y H Q => ∃ p i v, x = .ref p ∧ y = .int i ∧ KDi X.K p i v ∧ Q v H) := by
  intro value slice pins s σ H x y v u Q I rx ry h hs
  obtain ⟨p, i, r, rfl, rfl, ⟨es, n, u0, hl, hk, e, ru⟩, q⟩ := h
  obtain rfl : v = Value.ref p := rx
  obtain ⟨t, rfl⟩ := ry
  have hm : s.heap.MapOf (PySem.intKind X.prog X.w) p (fun k => findBy Value.isInt es k) := ⟨_, es, n, I.kIn _ _ hl, ⟨rfl, rfl, rfl⟩, rfl, fun d hd => by
    obtain ⟨j, t, e1, e2⟩ := hk d (Array.mem_toList_iff.mpr hd)
    exact ⟨j, by rw [e1]; exact intKind_is X.prog X.w j t, e2⟩, fun _ => rfl⟩
  exact tail_any hm.typeIs slot_dict_getitem.lookup (wpAny_getItem_of (intKind_is X.prog X.w i t) hm e ⟨r, H, I.tok _, ru, q⟩) hs
/-! ### o.m(e, ..) within a try: the wish may tell the slots -/
variable {CX : CXT} {k : Nat} {f C : Addr} {fd : FuncData} {ps : List Str} {sp : Sp} {E : L2.St → XK} {m : Str} {pos apos : Pos} {e o : Expr} {es : List Expr} {tO : TE} {t : TA}
def tMethT (C : Addr) (m : Str) (sp : Sp) (E : L2.St → XK) (tO : TE) (t : TA) : TE := fun σ H Q => tO σ H fun x H1 => ∃ a dx fs, x = .ref a ∧ H1 a = some (.ins C dx fs) ∧ fs.lookup m = none ∧ t σ H1 fun vs H2 => sp (x :: vs) H2 Q (E σ)
theorem pe_methT {pl : Sem Bool} (he : PE X o tO) (c : Cls X.K C) (hm : Meth X.K C m f) (F : FnOk X.prog X.w X.K X.mg X.base CX k f fd ps sp) (hr : Room k X.A) (hb : Binds X.K fd ps []) (hx : ∀ σ, PassesAt CX X σ (E σ)) (ha : PA X (e :: es) t)
    (hst : starEach (e :: es) X.env = (false, eval e X.env) :: starEach es X.env := by rfl) (hpl : (backTo pos (starEach es X.env)).any (·.1) = false := by rfl)
    (ht : eval (.Call (.Attribute o m apos) (e :: es) [] pos) X.env = (do
      let ov ← eval o X.env
      standAt apos.atName
      let (f, first) ← holding [ov] (getMethod ov m pl)
      callWith pos f first (backTo pos (starEach (e :: es) X.env)) (backToKw pos (keywordEach [] X.env))) := by rfl) :
    PE X (.Call (.Attribute o m apos) (e :: es) [] pos) (tMethT C m sp E tO t) := by
  refine ⟨fun pins s σ H Q I h => ?_⟩
  refine PySem.W.methodCall_KW (pl := pl) (thn (he.run pins s σ H _ I h) fun u s1 ⟨x, H1, I1, rx, a, dx, fs, ex, ea, l, q⟩ => ?_) ht
  subst ex
  obtain rfl : u = Value.ref a := rx
  refine getmeth_ok I1 ea c hm l (PySem.W.callWith_K (first := [.ref a]) (h₀ := X.base) I.ok.mod.kin hm.kp (thn (ha.run pos pins s1 σ H1 _ I1 q) fun us s2 ⟨vs, H2, I2, r, q2⟩ => ⟨I2.kIn, ?_⟩) hst hpl)
  exact run_fnS (us := .ref a :: us) (vs := .ref a :: vs) F hr hb (hx σ) I2 (.cons rfl r) q2
/-! ### len(o), o an instance with __len__ -/
theorem call_lenO (c : Cls X.K C) (hm : Meth X.K C "__len__" f) (F : FnOk X.prog X.w X.K X.mg X.base CX0 k f fd ps sp) (hr : Room (k + 1) X.A) (hb : Binds X.K fd ps []) :
    CallR X (.builtin "len") (fun vs H Q => ∃ a dx fs, vs = [.ref a] ∧ H a = some (.ins C dx fs) ∧ sp [.ref a] H (fun v H' => ∃ n : Nat, v = .int n ∧ n < 2 ^ 63 ∧ Q (.int n) H') fun _ _ _ => False) := by
  intro pins s σ H xs us Q I r h
  obtain ⟨a, dx, fs, rfl, ha, hsp⟩ := h
  obtain ⟨u, rfl, rx⟩ := r.one
  obtain rfl : u = Value.ref a := rx
  obtain ⟨mr, F0⟩ := I.fr
  obtain ⟨mA, O, _⟩ := ins_get I.hok ha
  obtain ⟨od, IA⟩ : ∃ od, PySem.W.InstAt s.heap a (PySem.W.instObj C dx) C od := by
    obtain ⟨oD, _, _, eD, _⟩ := O.ns
    exact ⟨some oD, O.obj, rfl, rfl, eD⟩
  refine PySem.W.len_K F0 I.ok.mod.kin IA hm.at_ hm.fn ?_
  have e0 : Env0 X.prog X.w X.K X.mg X.base X.A.in1 X.stack s H := { I.env0 with frames := I.env0.frames }
  have hl : [Value.ref a].length = ps.length := F.len _ _ _ _ hsp
  have b := hb s [.ref a] I.kIn hl
  refine wpAny_call (codeAny_mono (F.run X.A.in1 X.stack s H ⟨[.ref a], []⟩ [.ref a] [.ref a] _ (fun _ _ _ => False) hr.in1 e0 b (.cons rfl .nil) hsp) fun q s' hq => ?_)
  cases q with
  | error e => exact False.elim hq
  | ok fl =>
    cases fl with
    | ret w =>
      obtain ⟨v, H', I2, rv, n, rfl, hn, hQ⟩ := I.after hq
      obtain ⟨t, rfl⟩ := rv
      exact ⟨⟨by omega, by exact_mod_cast hn⟩, .int n, H', I2.tok _, ⟨_, rfl⟩, hQ⟩
    | next => exact False.elim hq
    | brk => exact False.elim hq
    | cont => exact False.elim hq
end
/-! ### a comprehension over zip(t, u), two tuples -/
theorem lc_zipT {K : PySem.W.Frag} {a b : Addr} {xs ys : List V} {g : TG} {tt : TT} {te : TE} {vs : List Nat} {σ : L2.St} {H1 : Hp} {D : Addr} {Qd : Hp → Prop} (hl : xs.length = ys.length) (Pv : Nat → Hp → Prop) (h0 : Pv 0 (upd H1 D (.lst []))) (hq : ∀ i H, Pv i H → SqT K H a xs ∧ SqT K H b ys)
    (hs : ∀ i x y T H, xs[i]? = some x → ys[i]? = some y → Pv i H → H T = none → g (.ref T) (wipe σ vs) (upd H T (.tup [x, y])) fun σ2 H2 => wipe σ2 vs = wipe σ vs ∧ tt σ2 H2 fun b H3 =>
      if b = true then te σ2 H3 fun y H4 => ∃ acc, H4 D = some (.lst acc) ∧ acc.length < sizeLine ∧ Pv (i + 1) (upd H4 D (.lst (acc ++ [y]))) else Pv (i + 1) H3) (hd : ∀ H, Pv xs.length H → Qd H) :
    ∃ W : Nat → Nat → Hp → Prop, (∃ m, W 0 m (upd H1 D (.lst []))) ∧ ∀ i m H, W i m H →
      ((RZ.ItzT K a b).stop i H ∧ Qd H) ∨ ((RZ.ItzT K a b).go i H ∧ ∃ Nx : Hp → Prop, (∀ H', Nx H' → ∃ m', m' < m ∧ W (i + 1) m' H') ∧ ∀ x H', (RZ.ItzT K a b).yld i H x H' → g x (wipe σ vs) H' fun σ2 H2 => wipe σ2 vs = wipe σ vs ∧ tt σ2 H2 fun b H3 =>
        if b = true then te σ2 H3 fun y H4 => ∃ acc, H4 D = some (.lst acc) ∧ acc.length < sizeLine ∧ Nx (upd H4 D (.lst (acc ++ [y]))) else Nx H3) := by
  refine ⟨fun i m H => m = xs.length - i ∧ i ≤ xs.length ∧ Pv i H, ⟨xs.length, by simp, Nat.zero_le _, h0⟩, ?_⟩
  rintro i m H ⟨rfl, hi, p⟩
  obtain ⟨qx, qy⟩ := hq i H p
  by_cases hlt : i < xs.length
  · have hlt2 : i < ys.length := by omega
    refine .inr ⟨⟨xs, ys, xs[i], ys[i], qx, qy, by simp [hlt], by simp [hlt2]⟩, Pv (i + 1), fun H' p' => ⟨xs.length - (i + 1), by omega, rfl, hlt, p'⟩, fun v H' y => ?_⟩
    obtain ⟨T, x', y', rfl, hT, rfl, f1, f2⟩ := y
    exact hs i x' y' T H (f1 xs qx) (f2 ys qy) p hT
  · have e : i = xs.length := by omega
    subst e
    exact .inl ⟨⟨xs, ys, qx, qy, .inl (Nat.le_refl _)⟩, hd H p⟩
end Tz
/-! Numbers as bytes: the mirror and its mathematics (core Lean alone). -/
namespace Tz

/-! ### small helpers -/
theorem take_snoc {α : Type} : ∀ {l : List α} {i : Nat} {x : α}, l[i]? = some x → l.take (i + 1) = l.take i ++ [x]
  | [], i, x, h => by simp at h
  | a :: l, 0, x, h => by
    have e : a = x := by simpa using h
    subst e; rfl
  | a :: l, i + 1, x, h => by
    have h' : l[i]? = some x := by simpa using h
    simp [take_snoc h']
theorem foldl_snoc {α β : Type} {f : β → α → β} {b : β} {l : List α} {i : Nat} {x : α} (h : l[i]? = some x) : (l.take (i + 1)).foldl f b = f ((l.take i).foldl f b) x := by
  rw [take_snoc h, List.foldl_append]; rfl

/-- all are bytes that may stand in a record -/
def Low (xs : List Int) : Prop := ∀ b ∈ xs, 0 ≤ b ∧ b ≤ 249
/-- all are bytes -/
def Byt (xs : List Int) : Prop := ∀ b ∈ xs, 0 ≤ b ∧ b ≤ 255
theorem Low.append {xs ys : List Int} (a : Low xs) (b : Low ys) : Low (xs ++ ys) := fun z h => (List.mem_append.mp h).elim (a z) (b z)
theorem Byt.append {xs ys : List Int} (a : Byt xs) (b : Byt ys) : Byt (xs ++ ys) := fun z h => (List.mem_append.mp h).elim (a z) (b z)
theorem Low.nil : Low [] := fun z h => by simp at h
theorem Byt.nil : Byt [] := fun z h => by simp at h
theorem Low.cons {x : Int} {xs : List Int} (h : 0 ≤ x ∧ x ≤ 249) (a : Low xs) : Low (x :: xs) := fun z hz => by
  rcases List.mem_cons.mp hz with rfl | hz
  · exact h
  · exact a z hz
theorem Byt.cons {x : Int} {xs : List Int} (h : 0 ≤ x ∧ x ≤ 255) (a : Byt xs) : Byt (x :: xs) := fun z hz => by
  rcases List.mem_cons.mp hz with rfl | hz
  · exact h
  · exact a z hz
theorem Low.byt {xs : List Int} (a : Low xs) : Byt xs := fun z h => ⟨(a z h).1, by have := (a z h).2; omega⟩
theorem Low.flatMap {α : Type} {f : α → List Int} {l : List α} (h : ∀ x ∈ l, Low (f x)) : Low (l.flatMap f) := fun z hz => by
  obtain ⟨x, hx, hz⟩ := List.mem_flatMap.mp hz
  exact h x hx z hz

/-! ### a number -/
def wnumN (n : Nat) : List Int := if n < 125 then [(n : Int)] else ((125 + n % 125 : Nat) : Int) :: wnumN (n / 125)
termination_by n
decreasing_by omega
def wnum (n : Int) : List Int := wnumN n.toNat
theorem wnumN_small {n : Nat} (h : n < 125) : wnumN n = [(n : Int)] := by rw [wnumN, if_pos h]
theorem wnumN_big {n : Nat} (h : ¬ n < 125) : wnumN n = ((125 + n % 125 : Nat) : Int) :: wnumN (n / 125) := by
  conv => lhs; rw [wnumN, if_neg h]
theorem wnum_small {n : Int} (h0 : 0 ≤ n) (h : n < 125) : wnum n = [n] := by
  unfold wnum
  rw [wnumN_small (by omega)]
  congr 1; omega
theorem wnum_big {n : Int} (h : 125 ≤ n) : wnum n = (125 + n % 125) :: wnum (n / 125) := by
  unfold wnum
  rw [wnumN_big (by omega)]
  have e : (n / 125).toNat = n.toNat / 125 := by omega
  rw [e]
  congr 1; omega
theorem wnum_ne (n : Int) : wnum n ≠ [] := by
  unfold wnum; rw [wnumN]; split <;> simp
theorem wnum_pos (n : Int) : 1 ≤ (wnum n).length := by
  have := wnum_ne n
  cases e : wnum n with
  | nil => exact absurd e this
  | cons _ _ => simp
theorem wnum_low : ∀ (k : Nat) (n : Int), n.toNat ≤ k → 0 ≤ n → Low (wnum n) := by
  intro k
  induction k with
  | zero =>
    intro n hk h0
    rw [wnum_small h0 (by omega)]
    exact .cons (by omega) .nil
  | succ k ih =>
    intro n hk h0
    by_cases h : n < 125
    · rw [wnum_small h0 h]; exact .cons (by omega) .nil
    · rw [wnum_big (by omega)]
      exact .cons (by omega) (ih (n / 125) (by omega) (by omega))
theorem wnum_Low {n : Int} (h0 : 0 ≤ n) : Low (wnum n) := wnum_low n.toNat n (Nat.le_refl _) h0
theorem wnum_len1 {n : Int} (h0 : 0 ≤ n) (h : n < 125) : (wnum n).length = 1 := by rw [wnum_small h0 h]; rfl
theorem wnum_len : ∀ (k : Nat) {n : Int}, 0 ≤ n → n < 125 ^ (k + 1) → (wnum n).length ≤ k + 1 := by
  intro k
  induction k with
  | zero =>
    intro n h0 h
    rw [wnum_small h0 (by simpa using h)]; simp
  | succ k ih =>
    intro n h0 h
    by_cases hs : n < 125
    · rw [wnum_small h0 hs]; simp
    · rw [wnum_big (by omega), List.length_cons]
      have : n / 125 < 125 ^ (k + 1) := by
        rw [Int.pow_succ] at h
        omega
      have := ih (by omega) this
      omega

/-! ### integers, lists, bytes -/
def wint (z : Int) : List Int := if z < 0 then wnum (-2 * z - 1) else wnum (2 * z)
theorem wint_Low (z : Int) : Low (wint z) := by
  unfold wint; split
  · exact wnum_Low (by omega)
  · exact wnum_Low (by omega)
theorem wint_pos (z : Int) : 1 ≤ (wint z).length := by unfold wint; split <;> exact wnum_pos _
/-- what read_integer makes of the number -/
def unint (n : Int) : Int := if n % 2 = 1 then -((n + 1) / 2) else n / 2
theorem wint_form (z : Int) : ∃ n, 0 ≤ n ∧ wint z = wnum n ∧ unint n = z := by
  unfold wint unint
  by_cases h : z < 0
  · refine ⟨-2 * z - 1, by omega, by rw [if_pos h], ?_⟩
    rw [if_pos (by omega)]; omega
  · refine ⟨2 * z, by omega, by rw [if_neg h], ?_⟩
    rw [if_neg (by omega)]; omega
def wints (ks : List Int) : List Int := wnum ks.length ++ ks.flatMap wint
theorem wints_Low (ks : List Int) : Low (wints ks) := (wnum_Low (by omega)).append (Low.flatMap fun x _ => wint_Low x)
theorem flat_wint_len (ks : List Int) : ks.length ≤ (ks.flatMap wint).length := by
  induction ks with
  | nil => simp
  | cons k r ih => rw [List.flatMap_cons, List.length_append, List.length_cons]; have := wint_pos k; omega
def wbyte (v : Int) : List Int := if v < 249 then [v] else [249, v - 249]
theorem wbyte_Low {v : Int} (h : 0 ≤ v ∧ v ≤ 255) : Low (wbyte v) := by
  unfold wbyte; split
  · exact .cons (by omega) .nil
  · exact .cons (by omega) (.cons (by omega) .nil)
theorem wbyte_len (v : Int) : 1 ≤ (wbyte v).length ∧ (wbyte v).length ≤ 2 := by unfold wbyte; split <;> simp
def wbytes (xs : List Int) : List Int := wnum xs.length ++ xs.flatMap wbyte
theorem wbytes_Low {xs : List Int} (h : Byt xs) : Low (wbytes xs) := (wnum_Low (by omega)).append (Low.flatMap fun x hx => wbyte_Low (h x hx))
theorem flat_wbyte_len (ks : List Int) : ks.length ≤ (ks.flatMap wbyte).length ∧ (ks.flatMap wbyte).length ≤ 2 * ks.length := by
  induction ks with
  | nil => simp
  | cons k r ih => rw [List.flatMap_cons, List.length_append, List.length_cons]; have := wbyte_len k; omega

/-! ### the check, a record -/
def chk (vs : List Int) : List Int := [vs.sum % 62500 / 250, vs.sum % 62500 % 250]
theorem chk_Low (vs : List Int) : Low (chk vs) := by
  unfold chk
  exact .cons (by omega) (.cons (by omega) .nil)
theorem chk_len (vs : List Int) : (chk vs).length = 2 := rfl
def mkrec (kind : Int) (content : List Int) : List Int := (kind :: content) ++ chk (kind :: content)
theorem mkrec_len (kind : Int) (content : List Int) : (mkrec kind content).length = content.length + 3 := by
  unfold mkrec; rw [List.length_append, List.length_cons, chk_len]
theorem mkrec_Low {kind : Int} {content : List Int} (hk : 0 ≤ kind ∧ kind ≤ 249) (h : Low content) : Low (mkrec kind content) := (Low.cons hk h).append (chk_Low _)
end Tz
/-! Filters and kinds: the mirror and its mathematics. -/
namespace Tz

/-! ### delta -/
def diffs : Int → List Int → List Int
  | _, [] => []
  | b, v :: r => ((v - b) % 256) :: diffs v r
def sums : Int → List Int → List Int
  | _, [] => []
  | t, v :: r => ((t + v) % 256) :: sums ((t + v) % 256) r
theorem diffs_len : ∀ (b : Int) (xs : List Int), (diffs b xs).length = xs.length
  | _, [] => rfl
  | b, v :: r => by simp [diffs, diffs_len v r]
theorem diffs_snoc : ∀ (b : Int) (l : List Int) (v : Int), diffs b (l ++ [v]) = diffs b l ++ [(v - l.getLastD b) % 256]
  | b, [], v => rfl
  | b, x :: l, v => by
    have e : (x :: l).getLastD b = l.getLastD x := by cases l <;> simp [List.getLastD]
    rw [e]
    simp only [List.cons_append, diffs]
    rw [diffs_snoc x l v]
theorem sums_snoc : ∀ (t : Int) (l : List Int) (v : Int), sums t (l ++ [v]) = sums t l ++ [((sums t l).getLastD t + v) % 256]
  | t, [], v => rfl
  | t, x :: l, v => by
    have e : (sums t (x :: l)).getLastD t = (sums ((t + x) % 256) l).getLastD ((t + x) % 256) := by
      simp only [sums]
      cases sums ((t + x) % 256) l <;> simp [List.getLastD]
    rw [e]
    simp only [List.cons_append, sums]
    rw [sums_snoc _ l v]
theorem sums_diffs : ∀ (b : Int) (xs : List Int), Byt xs → sums b (diffs b xs) = xs
  | _, [], _ => rfl
  | b, v :: r, h => by
    have hv := h v List.mem_cons_self
    have e : (b + (v - b) % 256) % 256 = v := by omega
    simp only [diffs, sums, e]
    rw [sums_diffs v r (fun z hz => h z (List.mem_cons_of_mem _ hz))]
theorem diffs_Byt : ∀ (b : Int) (xs : List Int), Byt (diffs b xs)
  | _, [] => .nil
  | b, v :: r => .cons (by omega) (diffs_Byt v r)

/-! ### planes -/
def cnt (n p w : Nat) : Nat := if p < n then (n - p + w - 1) / w else 0
def stride (xs : List Int) (p w : Nat) : List Int := (List.range (cnt xs.length p w)).map fun k => xs.getD (p + w * k) 0
def toPl (xs : List Int) (w p : Nat) : List Int := (List.range p).flatMap fun q => stride xs q w
theorem stride_len (xs : List Int) (p w : Nat) : (stride xs p w).length = cnt xs.length p w := by unfold stride; simp
theorem toPl_succ (xs : List Int) (w p : Nat) : toPl xs w (p + 1) = toPl xs w p ++ stride xs p w := by
  unfold toPl; rw [List.range_succ, List.flatMap_append]; simp
theorem toPl_zero (xs : List Int) (w : Nat) : toPl xs w 0 = [] := rfl
theorem cnt_in {n p w k : Nat} (hw : 0 < w) (hk : k < cnt n p w) : p + w * k < n := by
  unfold cnt at hk
  split at hk
  · have h1 : w * (k + 1) ≤ n - p + w - 1 := by
      have h2 : k + 1 ≤ (n - p + w - 1) / w := hk
      calc w * (k + 1) ≤ w * ((n - p + w - 1) / w) := Nat.mul_le_mul_left _ h2
        _ ≤ n - p + w - 1 := Nat.mul_div_le _ _
    rw [Nat.mul_add] at h1
    omega
  · omega
theorem in_cnt {n p w k : Nat} (hw : 0 < w) (h : p + w * k < n) : k < cnt n p w := by
  unfold cnt
  rw [if_pos (by omega)]
  have h1 : w * (k + 1) ≤ n - p + w - 1 := by rw [Nat.mul_add]; omega
  have h2 : (k + 1) * w ≤ n - p + w - 1 := by rw [Nat.mul_comm]; exact h1
  exact (Nat.le_div_iff_mul_le hw).mpr h2
theorem stride_get {xs : List Int} {p w k : Nat} (hk : k < cnt xs.length p w) : (stride xs p w)[k]? = some (xs.getD (p + w * k) 0) := by
  unfold stride
  rw [List.getElem?_map, List.getElem?_range hk]; rfl
theorem toPl_prefix (xs : List Int) (w p : Nat) : ∀ d, ∃ r, toPl xs w (p + d) = toPl xs w p ++ r
  | 0 => ⟨[], by simp⟩
  | d + 1 => by
    obtain ⟨r, e⟩ := toPl_prefix xs w p d
    exact ⟨r ++ stride xs (p + d) w, by rw [← Nat.add_assoc, toPl_succ, e, List.append_assoc]⟩
theorem toPl_get {xs : List Int} {w p k : Nat} (hp : p < w) (hk : k < cnt xs.length p w) : (toPl xs w w)[(toPl xs w p).length + k]? = some (xs.getD (p + w * k) 0) := by
  obtain ⟨r, e⟩ := toPl_prefix xs w (p + 1) (w - (p + 1))
  rw [show p + 1 + (w - (p + 1)) = w by omega] at e
  rw [e, toPl_succ, List.append_assoc, List.getElem?_append_right (by omega), Nat.add_sub_cancel_left]
  rw [List.getElem?_append_left (by rw [stride_len]; exact hk)]
  exact stride_get hk
theorem toPl_len {xs : List Int} {w : Nat} (hw : w = 1 ∨ w = 2 ∨ w = 4) : (toPl xs w w).length = xs.length := by
  rcases hw with rfl | rfl | rfl
  · simp only [toPl_succ, toPl_zero, List.length_append, stride_len, List.length_nil, cnt]; split <;> omega
  · simp only [toPl_succ, toPl_zero, List.length_append, stride_len, List.length_nil, cnt]; repeat' split
    all_goals omega
  · simp only [toPl_succ, toPl_zero, List.length_append, stride_len, List.length_nil, cnt]; repeat' split
    all_goals omega
theorem toPl_le {xs : List Int} {w p : Nat} (hp : p ≤ w) : (toPl xs w p).length ≤ (toPl xs w w).length := by
  obtain ⟨r, e⟩ := toPl_prefix xs w p (w - p)
  rw [show p + (w - p) = w by omega] at e
  rw [e, List.length_append]; omega
theorem toPl_Byt {xs : List Int} (h : Byt xs) (w p : Nat) : Byt (toPl xs w p) := fun z hz => by
  unfold toPl at hz
  obtain ⟨q, _, hz⟩ := List.mem_flatMap.mp hz
  unfold stride at hz
  obtain ⟨k, _, rfl⟩ := List.mem_map.mp hz
  rw [List.getD_eq_getElem?_getD]
  cases e : xs[q + w * k]? with
  | none => simp
  | some v => exact h v (List.mem_of_getElem? e)
/-- what from_planes has put back behind plane p, k of it -/
def Back (xs found : List Int) (w p k : Nat) : Prop := found.length = xs.length ∧ ∀ q, q < xs.length → (q % w < p ∨ (q % w = p ∧ q / w < k)) → found[q]? = xs[q]?
theorem Back.step {xs found : List Int} {w p k : Nat} (hp : p < w) (h : Back xs found w p k) (hk : k < cnt xs.length p w) : Back xs (found.set (p + w * k) (xs.getD (p + w * k) 0)) w p (k + 1) := by
  have hin := cnt_in (by omega) hk
  refine ⟨by rw [List.length_set]; exact h.1, fun q hq hc => ?_⟩
  by_cases e : q = p + w * k
  · subst e
    rw [List.getElem?_set_self (by rw [h.1]; exact hin), List.getD_eq_getElem?_getD, List.getElem?_eq_getElem hq]; rfl
  · rw [List.getElem?_set_ne (Ne.symm e)]
    refine h.2 q hq ?_
    rcases hc with hc | ⟨h1, h2⟩
    · exact .inl hc
    · refine .inr ⟨h1, ?_⟩
      have h3 := Nat.div_add_mod q w
      have : q / w ≠ k := fun z => e (by rw [z, h1] at h3; omega)
      omega
theorem Back.plane {xs found : List Int} {w p : Nat} (hw : 0 < w) (h : Back xs found w p (cnt xs.length p w)) : Back xs found w (p + 1) 0 := by
  refine ⟨h.1, fun q hq hc => h.2 q hq ?_⟩
  rcases hc with hc | ⟨_, h2⟩
  · by_cases e : q % w = p
    · refine .inr ⟨e, in_cnt hw ?_⟩
      have := Nat.div_add_mod q w
      rw [e] at this; omega
    · exact .inl (by omega)
  · exact absurd h2 (Nat.not_lt_zero _)
theorem Back.done {xs found : List Int} {w : Nat} (hw : 0 < w) (h : Back xs found w w 0) : found = xs := by
  refine List.ext_getElem? fun q => ?_
  by_cases hq : q < xs.length
  · exact h.2 q hq (.inl (Nat.mod_lt _ hw))
  · rw [List.getElem?_eq_none (by rw [h.1]; omega), List.getElem?_eq_none (by omega)]

/-! ### runs -/
inductive IsRuns : List Int → List Int → Prop
  | nil : IsRuns [] []
  | cons {c : Nat} {b : Int} {ys out : List Int} (h1 : 1 ≤ c) (h2 : c ≤ 255) (h3 : c = 255 ∨ ys[0]? ≠ some b) (h : IsRuns ys out) : IsRuns (List.replicate c b ++ ys) ((c : Int) :: b :: out)
theorem IsRuns.even {xs out : List Int} (h : IsRuns xs out) : out.length % 2 = 0 ∧ out.length ≤ 2 * xs.length := by
  induction h with
  | nil => simp
  | cons h1 h2 h3 h ih => simp only [List.length_cons, List.length_append, List.length_replicate]; omega
theorem IsRuns.byt {xs out : List Int} (h : IsRuns xs out) : Byt xs → Byt out := by
  induction h with
  | nil => exact fun h => h
  | @cons c b ys out h1 h2 h3 h ih =>
    intro hb
    refine .cons (by omega) (.cons (hb b (List.mem_append_left _ ?_)) (ih fun z hz => hb z (List.mem_append_right _ hz)))
    exact List.mem_replicate.mpr ⟨by omega, rfl⟩

/-! ### zeros -/
def IsShort (xs out : List Int) : Prop := ∃ c : Nat, c ≤ 65535 ∧ c ≤ xs.length ∧ xs = xs.take (xs.length - c) ++ List.replicate c 0 ∧
  (c = 65535 ∨ c = xs.length ∨ xs[xs.length - 1 - c]? ≠ some 0) ∧ out = ((c / 256 : Nat) : Int) :: ((c % 256 : Nat) : Int) :: xs.take (xs.length - c)
theorem IsShort.len {xs out : List Int} (h : IsShort xs out) : 2 ≤ out.length ∧ out.length ≤ xs.length + 2 := by
  obtain ⟨c, h1, h2, h3, h4, rfl⟩ := h
  simp only [List.length_cons, List.length_take]; omega
theorem IsShort.byt {xs out : List Int} (h : IsShort xs out) (hb : Byt xs) : Byt out := by
  obtain ⟨c, h1, h2, h3, h4, rfl⟩ := h
  exact .cons (by omega) (.cons (by omega) fun z hz => hb z (List.mem_of_mem_take hz))

/-! ### one filter, a chain -/
inductive Flt where | delta | planes | runs | zeros
  deriving DecidableEq
def Enc (w : Nat) : Flt → List Int → List Int → Prop
  | .delta, xs, out => out = diffs 0 xs
  | .planes, xs, out => out = toPl xs w w
  | .runs, xs, out => IsRuns xs out
  | .zeros, xs, out => IsShort xs out
theorem Enc.len {w : Nat} (hw : w = 1 ∨ w = 2 ∨ w = 4) {f : Flt} {xs out : List Int} (h : Enc w f xs out) : out.length ≤ 2 * xs.length + 2 := by
  cases f with
  | delta => rw [show out = diffs 0 xs from h, diffs_len]; omega
  | planes => rw [show out = toPl xs w w from h, toPl_len hw]; omega
  | runs => have := IsRuns.even h; omega
  | zeros => have := IsShort.len h; omega
theorem Enc.byt {w : Nat} {f : Flt} {xs out : List Int} (h : Enc w f xs out) (hb : Byt xs) : Byt out := by
  cases f with
  | delta => rw [show out = diffs 0 xs from h]; exact diffs_Byt _ _
  | planes => rw [show out = toPl xs w w from h]; exact toPl_Byt hb _ _
  | runs => exact IsRuns.byt h hb
  | zeros => exact IsShort.byt h hb
inductive EncC (w : Nat) : List Flt → List Int → List Int → Prop
  | nil (xs : List Int) : EncC w [] xs xs
  | snoc {fs : List Flt} {f : Flt} {xs mid out : List Int} (h : EncC w fs xs mid) (e : Enc w f mid out) : EncC w (fs ++ [f]) xs out
theorem EncC.byt {w : Nat} {fs : List Flt} {xs out : List Int} (h : EncC w fs xs out) (hb : Byt xs) : Byt out := by
  induction h with
  | nil => exact hb
  | snoc _ e ih => exact e.byt (ih hb)
/-- the length behind n filters -/
def grow : Nat → Nat → Nat
  | 0, l => l
  | n + 1, l => 2 * grow n l + 2
theorem EncC.len {w : Nat} (hw : w = 1 ∨ w = 2 ∨ w = 4) {fs : List Flt} {xs out : List Int} (h : EncC w fs xs out) : out.length ≤ grow fs.length xs.length := by
  induction h with
  | nil => exact Nat.le_refl _
  | snoc _ e ih =>
    rw [List.length_append]
    have := e.len hw
    show _ ≤ 2 * grow _ _ + 2
    omega
theorem EncC.last {w : Nat} {fs : List Flt} {f : Flt} {xs out : List Int} (h : EncC w (fs ++ [f]) xs out) : ∃ mid, EncC w fs xs mid ∧ Enc w f mid out := by
  generalize e : fs ++ [f] = gs at h
  cases h with
  | nil => simp at e
  | snoc h1 h2 =>
    obtain ⟨rfl, e2⟩ := List.append_inj' e rfl
    cases e2
    exact ⟨_, h1, h2⟩
theorem EncC.empty {w : Nat} {xs out : List Int} (h : EncC w [] xs out) : out = xs := by
  generalize e : ([] : List Flt) = gs at h
  cases h with
  | nil => rfl
  | snoc => simp at e

/-! ### kinds -/
inductive Kd where | i1 | i2 | i4 | u1 | u2 | u4
  deriving DecidableEq
def Kd.w : Kd → Nat
  | .i1 => 1 | .i2 => 2 | .i4 => 4 | .u1 => 1 | .u2 => 2 | .u4 => 4
def Kd.span : Kd → Int
  | .i1 => 256 | .i2 => 65536 | .i4 => 4294967296 | .u1 => 256 | .u2 => 65536 | .u4 => 4294967296
def Kd.least : Kd → Int
  | .i1 => -128 | .i2 => -32768 | .i4 => -2147483648 | .u1 => 0 | .u2 => 0 | .u4 => 0
def Kd.greatest (k : Kd) : Int := k.least + k.span - 1
def Kd.In (k : Kd) (v : Int) : Prop := k.least ≤ v ∧ v ≤ k.greatest
theorem Kd.w_of (k : Kd) : k.w = 1 ∨ k.w = 2 ∨ k.w = 4 := by cases k <;> decide
/-- w digits of the base 256, the lowest first -/
def dig : Nat → Int → List Int
  | 0, _ => []
  | w + 1, n => n % 256 :: dig w (n / 256)
theorem dig_len : ∀ (w : Nat) (n : Int), (dig w n).length = w
  | 0, _ => rfl
  | w + 1, n => by simp [dig, dig_len w]
theorem dig_Byt : ∀ (w : Nat) (n : Int), Byt (dig w n)
  | 0, _ => .nil
  | w + 1, n => .cons (by omega) (dig_Byt w _)
def Kd.stor (k : Kd) (vs : List Int) : List Int := vs.flatMap fun v => dig k.w (v % k.span)
theorem Kd.stor_len (k : Kd) (vs : List Int) : (k.stor vs).length = k.w * vs.length := by
  unfold Kd.stor
  induction vs with
  | nil => simp
  | cons v r ih => rw [List.flatMap_cons, List.length_append, ih, dig_len, List.length_cons, Nat.mul_add]; omega
theorem Kd.stor_Byt (k : Kd) (vs : List Int) : Byt (k.stor vs) := fun z hz => by
  obtain ⟨v, _, hz⟩ := List.mem_flatMap.mp hz
  exact dig_Byt _ _ z hz
/-- the number that digits write -/
def undig : List Int → Int
  | [] => 0
  | d :: r => undig r * 256 + d
theorem undig_dig : ∀ (w : Nat) (n : Int), undig (dig w n) = n % 256 ^ w
  | 0, n => by simp [dig, undig, Int.emod_one]
  | w + 1, n => by
    simp only [dig, undig]
    rw [undig_dig w, Int.pow_succ, Int.mul_comm (256 ^ w) 256]
    have hm : (0 : Int) < 256 ^ w := Int.pow_pos (by decide)
    have e1 := Int.mul_ediv_add_emod n 256
    have e2 := Int.mul_ediv_add_emod (n / 256) (256 ^ w)
    have b1 := Int.emod_nonneg (n / 256) (Int.ne_of_gt hm)
    have b2 := Int.emod_lt_of_pos (n / 256) hm
    have e3 : n = (256 * (n / 256 % 256 ^ w) + n % 256) + 256 * 256 ^ w * (n / 256 / 256 ^ w) := by
      rw [Int.mul_assoc]
      omega
    have e4 := Int.add_mul_emod_self_left (256 * (n / 256 % 256 ^ w) + n % 256) (256 * 256 ^ w) (n / 256 / 256 ^ w)
    rw [← e3] at e4
    have e5 : (256 * (n / 256 % 256 ^ w) + n % 256) % (256 * 256 ^ w) = 256 * (n / 256 % 256 ^ w) + n % 256 := Int.emod_eq_of_lt (by omega) (by omega)
    rw [e4, e5]
    omega
def Kd.back (k : Kd) (n : Int) : Int := if n > k.greatest then n - k.span else n
theorem Kd.span_eq (k : Kd) : k.span = 256 ^ k.w := by cases k <;> rfl
theorem Kd.round (k : Kd) {v : Int} (h : k.In v) : k.back (undig (dig k.w (v % k.span))) = v := by
  rw [undig_dig, ← Kd.span_eq, Int.emod_emod_of_dvd v (Int.dvd_refl _)]
  unfold Kd.In Kd.greatest at h
  unfold Kd.back Kd.greatest
  split
  · cases k <;> simp only [Kd.span, Kd.least] at * <;> omega
  · cases k <;> simp only [Kd.span, Kd.least] at * <;> omega
/-- the digits of value j stand at j * w -/
theorem Kd.stor_at (k : Kd) (vs : List Int) : ∀ {j : Nat} {v : Int}, vs[j]? = some v → ((k.stor vs).drop (k.w * j)).take k.w = dig k.w (v % k.span) := by
  unfold Kd.stor
  induction vs with
  | nil => intro j v h; simp at h
  | cons x r ih =>
    intro j v h
    rw [List.flatMap_cons]
    cases j with
    | zero =>
      have e : x = v := by simpa using h
      subst e
      rw [Nat.mul_zero, List.drop_zero, List.take_append_of_le_length (by rw [dig_len]; omega), List.take_of_length_le (by rw [dig_len]; omega)]
    | succ j =>
      have h' : r[j]? = some v := by simpa using h
      have e : k.w * (j + 1) = (dig k.w (x % k.span)).length + k.w * j := by rw [dig_len, Nat.mul_add]; omega
      rw [e, List.drop_append, List.drop_eq_nil_of_le (by omega)]
      simp only [List.nil_append, Nat.add_sub_cancel_left]
      exact ih h'
end Tz
namespace Tz
open PySem PySem.Spec PyProof.Rows L2
/-! ### t[::-1], a tuple -/
section
variable {prog : Program} {w : World} {A : Around} {E : Value → Shared → Prop} {s : Shared}
theorem rev_pick (xs : Array Value) : ((List.range xs.size).filterMap fun (k : Nat) => xs[((xs.size : Int) - 1 + (k : Int) * (-1)).toNat]?).toArray = xs.toList.reverse.toArray := by
  have e : (List.range xs.size).filterMap (fun (k : Nat) => xs[((xs.size : Int) - 1 + (k : Int) * (-1)).toNat]?) = xs.toList.reverse := by
    apply List.ext_getElem?
    intro i
    have e1 : (List.range xs.size).filterMap (fun (k : Nat) => xs[((xs.size : Int) - 1 + (k : Int) * (-1)).toNat]?) = (List.range xs.size).map fun k => xs.getD (xs.size - 1 - k) .none := by
      have : ∀ l : List Nat, (∀ k ∈ l, k < xs.size) → l.filterMap (fun (k : Nat) => xs[((xs.size : Int) - 1 + (k : Int) * (-1)).toNat]?) = l.map fun k => xs.getD (xs.size - 1 - k) .none := by
        intro l
        induction l with
        | nil => intro _; rfl
        | cons k l ih =>
          intro h
          have hk := h k List.mem_cons_self
          have e2 : ((xs.size : Int) - 1 + (k : Int) * (-1)).toNat = xs.size - 1 - k := by omega
          have hlt : xs.size - 1 - k < xs.size := by omega
          rw [List.filterMap_cons, e2, Array.getElem?_eq_getElem hlt, List.map_cons, ih fun j hj => h j (List.mem_cons_of_mem _ hj)]
          simp [Array.getD, hlt]
      exact this _ fun k hk => List.mem_range.mp hk
    rw [e1, List.getElem?_map]
    by_cases hi : i < xs.size
    · rw [List.getElem?_range hi, List.getElem?_reverse (by simpa using hi)]
      have hlt : xs.size - 1 - i < xs.size := by omega
      simp [Array.getD, hlt]
    · rw [List.getElem?_eq_none (by simpa using hi), List.getElem?_eq_none (by simpa using hi)]
      rfl
  rw [e]
theorem getItem_tuple_rev {t sl : Addr} {items : Array Value} {vs : Value} {Q : Value → Shared → Prop} (ht : IsTup s.heap t items) (hs : s.heap.IsSliceOf sl .none .none vs) (ps : IsPart vs (some (-1))) (hsz : items.size ≤ sizeLine)
    (h : Q (.ref s.heap.objs.size) { s with heap := s.heap.push { cls := .type "tuple", data := .seq items.toList.reverse.toArray } }) : wpAny (model prog w) A (getItem (.ref t) (.ref sl)) Q E s := by
  obtain ⟨os, hos, hcs, hds⟩ := id hs
  have hTs : s.TypeIs (.ref sl) "slice" := ⟨os, hos, hcs⟩
  unfold getItem
  try with_reducible refine wpAny_holding ?_
  first | refine wpAny_bind (wpAny_pure ?_) | skip
  refine wpAny_bind (wpAny_sequenceKey ht.typeIs (by decide) ?_)
  refine wpAny_bind (wpAny_callSpecial?_slot (name := Str.ofString "__getitem__") ht.typeIs PyProof.Rows.slot_tuple_getitem (wpAny_call_entry PyProof.Rows.slot_tuple_getitem ht.typeIs entry_tuple_getitem ?_ (args_tuple_getitem _ _)))
  show wpAny _ _ (Builtin.Tuple.tupleItemsOf (.ref t) >>= _) _ _ s
  refine wpAny_bind (tupleItemsOf_ ht (wpAny_bind (wpAny_typeOf hTs ?_)))
  rw [if_pos (by decide)]
  have appl : ∀ {Q : Int × Int × Nat → Shared → Prop} {E : Value → Shared → Prop}, Q ((items.size : Int) - 1, -1, items.size) s → wpAny (model prog w) A.in1 (Builtin.Slice.sliceApplied (.ref sl) (pure (items.size : Int))) Q E s := by
    intro Q E h
    unfold Builtin.Slice.sliceApplied Builtin.Slice.sliceFields
    refine wpAny_bind (wpAny_bind (wpAny_field hos hds (x := .none) rfl (wpAny_bind (wpAny_field hos hds (x := .none) rfl (wpAny_bind (wpAny_field hos hds (x := vs) rfl (wpAny_pure ?_)))))))
    refine wpAny_bind (HT.slicePart_ ps ?_)
    show wpAny _ _ (if ((-1 : Int) == 0) = true then _ else _) _ _ s
    rw [if_neg (by decide)]
    refine wpAny_bind (slicePart_none (wpAny_bind (slicePart_none (wpAny_bind (wpAny_pure ?_)))))
    refine wpAny_pure ?_
    have e : Builtin.Slice.slicePlaces ((items.size : Int) - 1) (-1) (-1) = items.size := by
      unfold Builtin.Slice.slicePlaces
      rw [if_neg (by decide)]
      by_cases h0 : items.size = 0
      · rw [h0]; rfl
      · rw [if_pos (by omega)]
        have e1 : ((items.size : Int) - 1 - -1 - 1) / (- -1) + 1 = items.size := by
          have : (- -1 : Int) = 1 := rfl
          rw [this, Int.ediv_one]; omega
        rw [e1]; omega
    show Q ((items.size : Int) - 1, -1, Builtin.Slice.slicePlaces ((items.size : Int) - 1) (-1) (-1)) s
    rw [e]
    exact h
  refine wpAny_bind (appl ?_)
  show wpAny _ _ (if (((items.size : Int) - 1) == 0 && (-1 : Int) == 1 && items.size == items.size) = true then _ else _) _ _ s
  rw [if_neg (by simp), rev_pick]
  have htake : sizeOk (.seq items.toList.reverse.toArray) := by
    show items.toList.reverse.toArray.size ≤ sizeLine
    rw [List.size_toArray, List.length_reverse, Array.length_toList]; exact hsz
  first
    | exact wpAny_bind (m := Builtin.Tuple.tupleExact _) (wpAny_newObj_type (wpAny_pure ⟨_, rfl, wpAny_pure h⟩) htake)
    | exact wpAny_bind (m := Builtin.Tuple.tupleExact _) (wpAny_newObj_type (wpAny_bind (wpAny_pure (wpAny_pure ⟨_, rfl, wpAny_pure h⟩))) htake)
    | exact wpAny_bind (wpAny_bind (m := Builtin.Tuple.tupleExact _) (wpAny_newObj_type (wpAny_pure (wpAny_pure ⟨_, rfl, wpAny_pure h⟩)) htake))
    | exact wpAny_bind (wpAny_bind (m := Builtin.Tuple.tupleExact _) (wpAny_newObj_type (wpAny_pure ⟨_, rfl, wpAny_pure h⟩) htake))
end
section
variable {X : Cx}
def tRevT (K : PySem.W.Frag) (te : TE) : TE := fun σ H Q => te σ H fun x H1 => ∃ a xs, x = .ref a ∧ SqT K H1 a xs ∧ ∀ p, H1 p = none → Q (.ref p) (upd H1 p (.tup xs.reverse))
theorem pe_revT {e : Expr} {te : TE} {k : Nat} {p1 p2 p3 pos : Pos} (he : PE X e te) : PE X (.Subscript e (.Slice none none (some (.UnaryOp .USub (.Constant (.int 1) k p1) p2)) p3) pos) (tRevT X.K te) := by
  refine ⟨fun pins s σ H Q I h => ?_⟩
  refine Subscript_ (thn (he.run pins s σ H _ I h) fun v s1 ⟨x, H1, I1, r1, a, xs, ex, hx, q⟩ => ?_)
  subst ex
  cases r1
  have hst : PO X (some (.UnaryOp .USub (.Constant (.int 1) k p1) p2)) (tPart (tUn (rU fun i => .int (-i)) (tC (.int 1)))) := po_some (pe_un un_neg pe_int)
  refine wpAny_Slice (thn (po_none.run pins s1 σ H1 (fun o H2 => o = none ∧ H2 = H1) I1 ⟨rfl, rfl⟩) fun vl s2 ⟨l, H2, I2, pl, el, e2⟩ => thn (po_none.run pins s2 σ H2 (fun o H3 => o = none ∧ H3 = H2) I2 ⟨rfl, rfl⟩) fun vu s3 ⟨u, H3, I3, pu, eu, e3⟩ => ?_)
  subst el e2 eu e3
  refine thn (hst.run pins s3 σ H3 (fun o H4 => o = some (-1) ∧ H4 = H3) I3 ⟨1, rfl, -1, rfl, rfl, rfl⟩) fun vs s4 ⟨o, H4, I4, ps, eo, e4⟩ => ?_
  subst eo e4
  have I5 : L2.Inv X pins σ H4 { s4 with heap := s4.heap.push { cls := .type "slice", data := .fields #[vl, vu, vs] } } := I4.kept (t' := s4.toks) fun b ob q => Heap.get?_push_of_some _ q
  obtain ⟨its, r, ht, hz⟩ := I5.tuple hx
  cases pl
  cases pu
  refine tail_any (ops := [.ref a, .ref s4.heap.objs.size]) ht.typeIs (PyProof.Rows.slot_tuple_getitem.lookup) ?_ (by with_unfolding_all rfl)
  refine getItem_tuple_rev ht (Heap.IsSliceOf.new _ .none .none vs) ps (by rw [List.size_toArray, ← r.length]; exact hz) ?_
  refine ⟨.ref _, _, I5.laid (t' := s4.toks) (o := .tup xs.reverse) (fun b ob q => Heap.get?_push_of_some _ q) (Nat.le_refl _) ?_, rfl, q _ (I5.hok.fresh (Nat.le_refl _))⟩
  exact ⟨by rw [List.length_reverse]; exact hz, _, r.reverse, IsTup.new _ _⟩
/-! ### xs[a::c], a list -/
theorem vals_map {α : Type} {f : α → V} {g : α → Value} : ∀ {l : List α}, (∀ a ∈ l, RelV (f a) (g a)) → Vals (l.map f) (l.map g)
  | [], _ => .nil
  | a :: l, h => .cons (h a List.mem_cons_self) (vals_map fun b hb => h b (List.mem_cons_of_mem _ hb))
theorem pick_step {its : List Value} {ns : List Int} {p w : Nat} (hw : 1 ≤ w) (r : Vals (iv ns) its) : Vals (iv (stride ns p w)) (slicePick its.toArray (some p) none (some w)).toList ∧ (slicePick its.toArray (some p) none (some w)).toList.length ≤ its.length := by
  have hl : its.length = ns.length := by have := r.length; simp at this; exact this.symm
  have e : (slicePick its.toArray (some p) none (some w)).toList = (List.range (cnt ns.length p w)).map fun k => its.getD (p + w * k) .none := by
    unfold slicePick
    have hb : sliceBounds (some (p : Int)) none (some (w : Int)) its.toArray.size = (((min p ns.length : Nat) : Int), (ns.length : Int), (w : Int)) := by
      unfold sliceBounds
      have h1 : (w : Int) > 0 := by omega
      have h2 : ¬ ((p : Int) < 0) := by omega
      simp only [Option.getD_some, h1, if_true, h2, if_false, List.size_toArray, hl]
      congr 1
      omega
    rw [hb]
    have hr : sliceRange ((min p ns.length : Nat) : Int) (ns.length : Int) (w : Int) = (List.range (cnt ns.length p w)).map fun k => p + w * k := by
      unfold sliceRange cnt
      have h1 : (w : Int) > 0 := by omega
      simp only [h1, if_true]
      by_cases hp : p < ns.length
      · have hm : min p ns.length = p := by omega
        rw [hm, if_pos (by omega), if_pos hp]
        have e1 : ((ns.length : Int) - (p : Int) + (w : Int) - 1) / (w : Int) = (((ns.length - p + w - 1) / w : Nat) : Int) := by
          have : (ns.length : Int) - (p : Int) + (w : Int) - 1 = ((ns.length - p + w - 1 : Nat) : Int) := by omega
          rw [this]; rfl
        rw [e1, Int.toNat_natCast]
        apply List.map_congr_left
        intro k _
        have : (p : Int) + (w : Int) * (k : Int) = ((p + w * k : Nat) : Int) := by push_cast; rfl
        rw [this, Int.toNat_natCast]
      · have hm : min p ns.length = ns.length := by omega
        rw [hm, if_neg (by omega), if_neg hp]
        rfl
    rw [hr]
    have all : ∀ l : List Nat, (∀ k ∈ l, p + w * k < its.length) → (l.map fun k => p + w * k).filterMap (its.toArray[·]?) = l.map fun k => its.getD (p + w * k) .none := by
      intro l
      induction l with
      | nil => intro _; rfl
      | cons k l ih =>
        intro h
        have hk := h k List.mem_cons_self
        have h1 : its.toArray[p + w * k]? = some (its.getD (p + w * k) .none) := by
          rw [List.getElem?_toArray, List.getElem?_eq_getElem hk]
          simp [List.getD, List.getElem?_eq_getElem hk]
        rw [List.map_cons, List.filterMap_cons, h1, List.map_cons, ih fun j hj => h j (List.mem_cons_of_mem _ hj)]
    show ((List.range (cnt ns.length p w)).map fun k => p + w * k).filterMap (its.toArray[·]?) = _
    refine all _ fun k hk => ?_
    have hk := List.mem_range.mp hk
    rw [hl]
    exact cnt_in hw hk
  rw [e]
  refine ⟨?_, ?_⟩
  · have : iv (stride ns p w) = (List.range (cnt ns.length p w)).map fun k => V.int (ns.getD (p + w * k) 0) := by
      unfold iv stride
      rw [List.map_map]; rfl
    rw [this]
    refine vals_map fun k hk => ?_
    have hk := cnt_in (p := p) hw (List.mem_range.mp hk)
    obtain ⟨u, hu, ru⟩ := r.get (i := p + w * k) (x := V.int (ns.getD (p + w * k) 0)) (by
      rw [List.getElem?_map, List.getElem?_eq_getElem hk]
      simp [List.getD, List.getElem?_eq_getElem hk])
    have : its.getD (p + w * k) .none = u := by simp [List.getD, hu]
    rw [this]
    exact ru
  · rw [List.length_map, List.length_range, hl]
    refine Nat.le_of_not_lt fun z => ?_
    have h1 := cnt_in hw z
    have h2 : 1 * ns.length ≤ w * ns.length := Nat.mul_le_mul_right _ hw
    omega
def tStep (K : PySem.W.Frag) (te tp tw : TE) : TE := fun σ H Q => te σ H fun x H1 => ∃ a ns, x = .ref a ∧ SqL K H1 a (iv ns) ∧ tPart tp σ H1 fun o H2 => ∃ p : Nat, o = some (p : Int) ∧ tPart tw σ H2 fun z H3 => ∃ w : Nat, z = some (w : Int) ∧ 1 ≤ w ∧ SqL K H3 a (iv ns) ∧
  ∀ q, H3 q = none → Q (.ref q) (upd H3 q (.lst (iv (stride ns p w))))
theorem pe_step {e lo st : Expr} {te tp tw : TE} {p3 pos : Pos} (he : PE X e te) (hp : PE X lo tp) (hw : PE X st tw) : PE X (.Subscript e (.Slice (some lo) none (some st) p3) pos) (tStep X.K te tp tw) := by
  refine ⟨fun pins s σ H Q I h => ?_⟩
  refine Subscript_ (thn (he.run pins s σ H _ I h) fun v s1 ⟨x, H1, I1, r1, a, ns, ex, hx, q⟩ => ?_)
  subst ex
  cases r1
  refine wpAny_Slice (thn ((po_some hp).run pins s1 σ H1 _ I1 q) fun vl s2 ⟨l, H2, I2, pl, p, el, q2⟩ => ?_)
  subst el
  refine thn (po_none.run pins s2 σ H2 (fun o H3 => o = none ∧ H3 = H2) I2 ⟨rfl, rfl⟩) fun vu s3 ⟨u, H3, I3, pu, eu, e3⟩ => ?_
  subst eu e3
  refine thn ((po_some hw).run pins s3 σ H3 _ I3 q2) fun vs s4 ⟨o, H4, I4, ps, w, eo, hw1, hx4, q4⟩ => ?_
  subst eo
  have I5 : L2.Inv X pins σ H4 { s4 with heap := s4.heap.push { cls := .type "slice", data := .fields #[vl, vu, vs] } } := I4.kept (t' := s4.toks) fun b ob q => Heap.get?_push_of_some _ q
  obtain ⟨its, r, ht, hz⟩ := I5.list hx4
  obtain ⟨r2, hlen2⟩ := pick_step (p := p) hw1 r
  refine tail_any (ops := [.ref a, .ref s4.heap.objs.size]) ht.isList.typeIs (PySem.slot_list_getitem.lookup) ?_ (by with_unfolding_all rfl)
  refine wpAny_getItem_list_slice ht.isList (Heap.IsSliceOf.new _ vl vu vs) pl pu ps (by intro z; injection z with z; omega) ?_ (by rw [List.size_toArray, ← r.length]; exact hz)
  refine ⟨.ref _, _, I5.laid (t' := s4.toks) (o := .lst (iv (stride ns p w))) (fun b ob q => Heap.get?_push_of_some _ q) (Nat.le_refl _) ?_, rfl, q4 _ (I5.hok.fresh (Nat.le_refl _))⟩
  have hz2 : its.length ≤ sizeLine := by rw [← r.length]; exact hz
  exact ⟨by rw [r2.length]; omega, _, 0, r2, Heap.get?_push_size _ rfl⟩
end
end Tz
namespace Tz
open PySem PySem.Spec PyProof.Rows L2
/-! ### sorted(d), d a dict whose keys are tuples of ints -/
abbrev kI (k : List Int) : List L2.Key := k.map Sum.inl
abbrev entI (e : List Int × V) : List L2.Key × V := (kI e.1, e.2)
theorem kI_V (k : List Int) : (kI k).map kV = iv k := by
  rw [List.map_map]; rfl
theorem readsAll_ints {h : Heap} : ∀ {ns : List Int} {us : List Value}, Vals (iv ns) us → ReadsAll h us (ns.map .int) []
  | [], _, r => by cases r; exact .nil
  | n :: ns, _, r => by
    cases r with
    | cons a b =>
      obtain ⟨t, rfl⟩ := a
      exact .cons (as := []) (.int n t) (readsAll_ints b)
theorem eachIs_of {α β : Type} {R : α → β → Prop} {f : β → α} : ∀ {bs : List β}, (∀ b ∈ bs, R (f b) b) → PySem.W.EachIs R (bs.map f) bs
  | [], _ => .nil
  | b :: bs, h => .cons (h b List.mem_cons_self) (eachIs_of fun x hx => h x (List.mem_cons_of_mem _ hx))
theorem eachIs_eq {β : Type} {f : β → Value} : ∀ {vs : List Value} {bs : List β}, PySem.W.EachIs (fun v b => v = f b) vs bs → vs = bs.map f
  | _, _, .nil => rfl
  | _, _, .cons h t => by rw [List.map_cons, h, eachIs_eq t]
theorem vals_refsI : ∀ bs : List (List Int × Addr), Vals (bs.map fun o => V.ref o.2) (bs.map fun o => Value.ref o.2)
  | [] => .nil
  | _ :: r => .cons rfl (vals_refsI r)
theorem perm_small {α : Type} {l out : List α} (h : l.length ≤ 1) (hp : out.Perm l) : out = l := by
  match l, h with
  | [], _ => exact List.Perm.eq_nil hp
  | [b], _ => exact List.perm_singleton.mp hp
theorem sort_fin {X : Cx} {pins : List (Addr × Obj)} {σ : L2.St} {H : Hp} {g : Array GenState} {dr : Drawn} {os : OsState} {tk : Nat} {HL : Heap} {L : Addr} {bs : List (List Int × Addr)} {Q : Value → Shared → Prop} (hcl : bs.length ≤ 1 ∨ ∀ b ∈ bs, b.1 ≠ []) (hlen : bs.length ≤ sizeLine) (hu : X.A.units + 8 < cLine)
    (hnew : HL.get? L = some (seqObj "list" (bs.map fun b => Value.ref b.2).toArray 0)) (hfr : H L = none) (b3 : ∀ b ∈ bs, H b.2 = some (.tup (iv b.1)))
    (I2 : L2.Inv X pins σ (upd H L (.lst (bs.map fun b => V.ref b.2))) ⟨HL, g, dr, tk, os⟩)
    (q : ∀ (out : List (List Int × Addr)) s', out.Perm bs → L2.Inv X pins σ (upd H L (.lst (out.map fun b => V.ref b.2))) s' → Q .none s') :
    wpAny (model X.prog X.w) X.A.in1 (call (.builtin "list.sort") [.ref L]) Q X.xe ⟨HL, g, dr, tk, os⟩ := by
  have hbs : (bs.map fun b => Value.ref b.2).length ≤ sizeLine := by rw [List.length_map]; exact hlen
  have fin : ∀ (out : List (List Int × Addr)), out.Perm bs → Q .none ⟨sortedHeap HL L (bs.map fun b => Value.ref b.2) (out.map fun b => Value.ref b.2).toArray, g, dr, tk, os⟩ := by
    intro out hp
    obtain ⟨ep2, he2⟩ := PyProof.Rows.sortedHeap_at (vs := bs.map fun b => Value.ref b.2) (out := (out.map fun b => Value.ref b.2).toArray) hnew
    have hol : (out.map fun b => V.ref b.2).length ≤ sizeLine := by rw [List.length_map, hp.length_eq]; exact hlen
    have old2 : ∀ b u, b ≠ L → HL.get? b = some u → (sortedHeap HL L (bs.map fun b => Value.ref b.2) (out.map fun b => Value.ref b.2).toArray).get? b = some u := fun b u hb hu => by
      rw [PyProof.Rows.sortedHeap_old hb (Heap.lt_size hu)]; exact hu
    generalize sortedHeap HL L (bs.map fun b => Value.ref b.2) (out.map fun b => Value.ref b.2).toArray = G at he2 old2 ⊢
    have ok2 : ObjOk X.prog X.w (upd (upd H L (.lst (bs.map fun b => V.ref b.2))) L (.lst (out.map fun b => V.ref b.2))) G L (.lst (out.map fun b => V.ref b.2)) := ⟨hol, out.map fun b => Value.ref b.2, ep2, vals_refsI out, he2⟩
    have mu : Mut (upd H L (.lst (bs.map fun b => V.ref b.2)) L) := by rw [upd_same]; trivial
    have I3 := I2.write (t' := tk) mu (.inl rfl) old2 ⟨_, he2⟩ ok2
    have eu : upd (upd H L (.lst (bs.map fun b => V.ref b.2))) L (.lst (out.map fun b => V.ref b.2)) = upd H L (.lst (out.map fun b => V.ref b.2)) := by
      funext b
      by_cases hb : b = L
      · rw [hb, upd_same, upd_same]
      · rw [upd_ne hb, upd_ne hb, upd_ne hb]
    rw [eu] at I3
    exact q out _ hp I3
  rcases hcl with small | hne
  · have go := Srt.list_sort_any (prog := X.prog) (w := X.w) (A := X.A.in1.in1) (E := X.xe) (s := ⟨HL, g, dr, tk, os⟩) (a := L) (vs := bs.map fun b => Value.ref b.2) (n := 0)
      (R := fun f s' => f = .done (.ret .none) ∧ Q .none s') hnew hbs (fun h2 => by rw [List.length_map] at h2; omega) (fun out hp => ⟨rfl, by
        rw [perm_small (by rw [List.length_map]; exact small) hp]
        exact fin bs (List.Perm.refl _)⟩)
    refine wpAny_call_entry PyProof.Rows.slot_list_sort ⟨_, hnew, rfl⟩ PyProof.Rows.entry_list_sort (wpAny_mono go (fun f s' hf => ?_) fun _ _ e => e) (PyProof.Rows.args_list_sort _)
    obtain ⟨rfl, hf⟩ := hf
    exact ⟨.none, rfl, hf⟩
  · refine PySem.W.list_sort_data (β := List Int × Addr) (bs := bs) (enc := fun b => .tuple (b.1.map .int)) (R := fun v b => v = Value.ref b.2) hnew (eachIs_of fun _ _ => rfl) (eachIs_of fun b hb => ?_) (PySem.W.AllAlike.of fun b b' => ?_) (.inl fun dd hd' => ?_) hlen (fun b hb => ?_) fun out hl eo => ?_
    · obtain ⟨_, its, rv, ob, e1, e2, n, e3⟩ := I2.hok b.2 _ (show upd H L _ b.2 = some (.tup (iv b.1)) by
        rw [upd_ne (ne_of_none (b3 b hb) hfr)]; exact b3 b hb)
      exact ⟨[], .tuple e1 e2 e3 (readsAll_ints rv), by simp⟩
    · simp only [PySem.W.alike]
      exact PySem.W.alike_ints _ _
    · obtain ⟨b, hb, rfl⟩ := List.mem_map.mp hd'
      have := hne b hb
      cases hh : b.1 with
      | nil => exact absurd hh this
      | cons x r => exact ⟨.int x, r.map .int, by simp⟩
    · have : (PyData.tuple (b.1.map .int)).depth ≤ 1 := by
        rw [PyData.depth, PySem.W.depth_ints]
        first | omega | simp
      show X.A.units + 1 + 1 + (PyData.tuple (b.1.map .int)).depth < cLine
      omega
    · rw [eachIs_eq eo]
      exact fin _ (List.mergeSort_perm bs _)
def rSortT : List V → Hp → VK → Prop := fun vs H Q => ∃ (d : Addr) (es : List (List Int × V)), vs = [.ref d] ∧ H d = some (.dT (es.map entI)) ∧ (es.length ≤ 1 ∨ ∀ e ∈ es, e.1 ≠ []) ∧
  ∀ (p : Addr) (out : List (List Int × Addr)), H p = none → (out.map (·.1)).Perm (es.map (·.1)) → (∀ o ∈ out, H o.2 = some (.tup (iv o.1))) → Q (.ref p) (upd H p (.lst (out.map fun o => .ref o.2)))
theorem cr_sortedT {X : Cx} (hc : X.calm = true) (hu : X.A.units + 8 < cLine) : CallR X (.builtin "sorted") rSortT := by
  intro pins s σ H xs us Q I r h
  obtain ⟨d, es, rfl, hd, hne, q⟩ := h
  obtain ⟨u, rfl, rx⟩ := r.one
  cases rx
  obtain ⟨z, hs, ks, pr, o, des, ep, ho, hx, hdt, he, hn⟩ := (show ObjOk X.prog X.w H s.heap d (.dT (es.map entI)) from I.hok d _ hd)
  have l1 : des.size = ks.length := size_of_entries he
  have l2 : (es.map entI).length = ks.length := Paired.length pr
  have hlen : ks.length ≤ sizeLine := by rw [← l2]; exact z
  -- the keys, with where they stand
  have key : ∀ (kvs : List (List Int × V)) (xs : List (List L2.Key × Addr × Value)), KT H (kvs.map entI) xs → ∃ bs : List (List Int × Addr), bs.map (·.2) = xs.map (fun x => x.2.1) ∧ bs.map (·.1) = kvs.map (·.1) ∧ ∀ b ∈ bs, H b.2 = some (.tup (iv b.1)) := by
    intro kvs
    induction kvs with
    | nil => intro xs r; cases r; exact ⟨[], rfl, rfl, fun _ h => by cases h⟩
    | cons e kvs ih =>
      intro xs r
      cases r with
      | @cons a b as bs ra rb =>
        obtain ⟨bs', e1, e2, e3⟩ := ih _ rb
        have ha := ra.2.1
        rw [kI_V] at ha
        refine ⟨(e.1, b.2.1) :: bs', by simp [e1], by simp [e2], fun c hc => ?_⟩
        rcases List.mem_cons.mp hc with hc | hc
        · rw [hc]; exact ha
        · exact e3 c hc
  obtain ⟨bs, b1, b2, b3⟩ := key es ks pr
  have hbl : bs.length = ks.length := by have := congrArg List.length b1; simpa using this
  refine Calls.call_function_entry kind_sorted plain_sorted entry_sorted (args_sorted1 _) ?_
  unfold Builtin.«sorted»
  refine wpAny_bind (m := checkCount "sorted" 1 1 _) (wpAny_pure ?_)
  refine wpAny_bind (PySem.W.kdu_collect (kdl_raw hs hx hdt) (I.ok.hd hc) ho (by omega) fun h' tk acc kp it => ?_)
  have ea : acc.toList = bs.map fun b => Value.ref b.2 := by
    have hl : acc.toList.length = ks.length := by rw [Array.length_toList, it.1]; exact l1
    have e1 : (bs.map fun b => Value.ref b.2) = ks.map fun x => Value.ref x.2.1 := by
      have := congrArg (List.map Value.ref) b1
      simpa [List.map_map, Function.comp_def] using this
    rw [e1]
    apply List.ext_getElem?
    intro j
    rw [List.getElem?_map]
    cases hj : acc.toList[j]? with
    | none => rw [List.getElem?_eq_none (by have := List.getElem?_eq_none_iff.mp hj; omega)]; rfl
    | some v =>
      obtain ⟨en, hen, hv⟩ := it.2 j v (by rw [← Array.getElem?_toList]; exact hj)
      have qe := entry_at he j
      rw [hen] at qe
      cases hb : ks[j]? with
      | none => rw [hb] at qe; cases qe
      | some b =>
        rw [hb] at qe
        have e2 : en = entryOfKey (tupleKind (mixKind X.prog X.w)) b := Option.some.inj qe
        rw [hv, e2]; rfl
  rw [ea]
  have hbs : (bs.map fun b => Value.ref b.2).length ≤ sizeLine := by rw [List.length_map, hbl]; exact hlen
  refine wpAny_bind (wpAny_newList ?_ hbs)
  have I1 : L2.Inv X pins σ H { s with heap := h', toks := tk } := I.kept (t' := tk) kp
  have hnew0 : (h'.push { cls := .type "list", data := .seq (bs.map fun b => Value.ref b.2).toArray }).get? h'.objs.size = some (seqObj "list" (bs.map fun b => Value.ref b.2).toArray 0) := Heap.get?_push_size _ rfl
  have k20 : ∀ b o, h'.get? b = some o → (h'.push { cls := .type "list", data := .seq (bs.map fun b => Value.ref b.2).toArray }).get? b = some o := fun b o e => Heap.get?_push_of_some _ e
  have hfr : H h'.objs.size = none := I1.hok.fresh (Nat.le_refl _)
  have sz : h'.objs.size ≤ h'.objs.size := Nat.le_refl _
  have I2 : L2.Inv X pins σ (upd H h'.objs.size (.lst (bs.map fun b => V.ref b.2))) ⟨h'.push { cls := .type "list", data := .seq (bs.map fun b => Value.ref b.2).toArray }, s.gens, s.drawn, tk, s.os⟩ :=
    I1.laid (t' := tk) (o := .lst (bs.map fun b => V.ref b.2)) k20 (Nat.le_refl _) ⟨by rw [List.length_map, hbl]; exact hlen, _, 0, vals_refsI bs, hnew0⟩
  have hcl : bs.length ≤ 1 ∨ ∀ b ∈ bs, b.1 ≠ [] := by
    rcases hne with hne | hne
    · left; have := congrArg List.length b2; simp at this; omega
    · right; intro b hb
      have hb1 : b.1 ∈ es.map (·.1) := by rw [← b2]; exact List.mem_map_of_mem hb
      obtain ⟨e, he', e2⟩ := List.mem_map.mp hb1
      rw [← e2]; exact hne e he'
  refine wpAny_bind (wpAny_holding (wpAny_mono (Q := fun _ s' => EP X pins σ Q (.ref h'.objs.size) s') (E := X.xe) ?_ (fun _ s' x => wpAny_pure ⟨_, rfl, x⟩) fun _ _ e => e))
  refine sort_fin hcl (by rw [hbl]; exact hlen) hu hnew0 hfr b3 I2 fun out s' hp I3 => ?_
  exact ⟨.ref h'.objs.size, _, I3, rfl, q _ out hfr (by rw [← b2]; exact hp.map _) fun c hc => b3 c (hp.mem_iff.mp hc)⟩
end Tz
namespace Tz
open PySem PySem.Spec PyProof.Rows L2
theorem zip_take {α β : Type} : ∀ (k : Nat) (a : List α) (b : List β), (a.take k).zip (b.take k) = (a.zip b).take k
  | 0, _, _ => by simp
  | k + 1, [], _ => by simp
  | k + 1, _ :: _, [] => by simp
  | k + 1, x :: a, y :: b => by simp [zip_take k a b]
theorem zip_at {α β : Type} {a : List α} {b : List β} {i : Nat} {x : α} {y : β} (hx : a[i]? = some x) (hy : b[i]? = some y) : (a.zip b)[i]? = some (x, y) := by
  rw [List.getElem?_zip_eq_some]; exact ⟨hx, hy⟩
theorem same_updD {H0 H : Hp} {D : Addr} {o : HO} (s : Same H0 H) (n : H0 D = none) : Same H0 (upd H D o) := fun b u e => by
  rw [upd_ne (ne_of_none e n)]
  exact s b u e
/-- [f(n, p) for n, p in zip(t, u)], two tuples of ints -/
theorem tlc_zip {K : PySem.W.Frag} {a b : Addr} {ns ps : List Int} {s1 s2 : Nat} {σ : L2.St} {H : Hp} {Q : VK} {ta : TA} {te : TE} (f : Int → Int → V) (hta : ∀ R : List V → Hp → Prop, R [.ref a, .ref b] H → ta σ H R) (ha : SqT K H a (iv ns)) (hb : SqT K H b (iv ps)) (hl : ns.length = ps.length) (hz : ns.length ≤ 1000)
    (hw : ∀ x y, wipe (((wipe σ [s1, s2]).set s1 x).set s2 y) [s1, s2] = wipe σ [s1, s2])
    (turn : ∀ n p H' (R : VK), (n, p) ∈ ns.zip ps → Same H H' → (∀ H4, Same H' H4 → R (f n p) H4) → te (((wipe σ [s1, s2]).set s1 (some (.int n))).set s2 (some (.int p))) H' R)
    (k : ∀ D H', Same H H' → H D = none → H' D = some (.lst ((ns.zip ps).map fun p => f p.1 p.2)) → Q (.ref D) H') :
    tLc (RZ.iZipA K ta) (gTup K 2 (gCons (gName s1) (gCons (gName s2) gNil))) tYes te [s1, s2] σ H Q := by
  refine hta _ ⟨a, b, iv ns, iv ps, rfl, .inr ⟨ha, hb, fun D hD => ?_⟩⟩
  refine lc_zipT (K := K) (xs := iv ns) (ys := iv ps) (by simpa using hl) (fun i H' => Same H H' ∧ H' D = some (.lst (((ns.zip ps).take i).map fun p => f p.1 p.2))) ⟨same_upd0 hD, upd_same⟩ (fun i H' h => ⟨Same.sqT h.1 ha, Same.sqT h.1 hb⟩) ?_ ?_
  · rintro i x y t H' hx hy ⟨hs, hd⟩ ht
    obtain ⟨n, hn, rfl⟩ := iv_get hx
    obtain ⟨p, hp, rfl⟩ := iv_get hy
    have hzp := zip_at hn hp
    refine ⟨t, [.int n, .int p], rfl, SqT.of upd_same, rfl, _, _, rfl, _, _, rfl, rfl, hw _ _, ?_⟩
    show te _ _ _
    refine turn n p _ _ (List.mem_of_getElem? hzp) (same_upd hs ht) fun H4 h4 => ?_
    have hd4 : H4 D = some (.lst (((ns.zip ps).take i).map fun p => f p.1 p.2)) := h4 D _ (by rw [upd_ne (ne_of_none hd ht)]; exact hd)
    refine ⟨_, hd4, ?_, ?_, ?_⟩
    · rw [List.length_map, List.length_take, sizeLine_eq]
      have : i < ns.length := (List.getElem?_eq_some_iff.mp hn).1
      omega
    · exact same_updD ((same_upd hs ht).trans h4) hD
    · rw [upd_same, take_snoc hzp, List.map_append]; rfl
  · rintro H' ⟨hs, hd⟩
    refine k D H' hs hD ?_
    have e : (iv ns).length = (ns.zip ps).length := by simp [hl]
    rw [hd, e, List.take_length]
/-- [f(x) for x in xs if p(x)], xs a list -/
theorem tlc_list {K : PySem.W.Frag} {α : Type} {a : Addr} {xs : List α} {s1 : Nat} {σ : L2.St} {H : Hp} {Q : VK} {tl : TE} {te : TE} {tt : TT} (v : α → V) (p : α → Bool) (f : α → V) (htl : ∀ R : VK, R (.ref a) H → tl σ H R) (ha : SqL K H a (xs.map v)) (hz : xs.length ≤ 100000)
    (hw : ∀ x, wipe ((wipe σ [s1]).set s1 x) [s1] = wipe σ [s1])
    (turn : ∀ x H' (R : Bool → Hp → Prop), x ∈ xs → Same H H' → (∀ H4, Same H' H4 → R (p x) H4) → tt ((wipe σ [s1]).set s1 (some (v x))) H' R)
    (turn2 : ∀ x H' (R : VK), x ∈ xs → p x = true → Same H H' → (∀ H4, Same H' H4 → R (f x) H4) → te ((wipe σ [s1]).set s1 (some (v x))) H' R)
    (k : ∀ D H', Same H H' → H D = none → H' D = some (.lst ((xs.filter p).map f)) → Q (.ref D) H') :
    tLc (iList K tl) (gName s1) tt te [s1] σ H Q := by
  refine htl _ ⟨a, rfl, ⟨_, ha⟩, fun D hD => ?_⟩
  refine lc_list (K := K) (xs := xs.map v) (fun i H' => Same H H' ∧ H' D = some (.lst (((xs.take i).filter p).map f))) ⟨same_upd0 hD, upd_same⟩ (fun i H' _ h => same_sqL h.1 ha) ?_ ?_
  · rintro i y H' hy ⟨hs, hd⟩
    rw [List.getElem?_map] at hy
    obtain ⟨x, hx, rfl⟩ := Option.map_eq_some_iff.mp hy
    refine ⟨hw _, ?_⟩
    have hm := List.mem_of_getElem? hx
    refine turn x H' _ hm hs fun H3 h3 => ?_
    have hd3 := h3 D _ hd
    cases hp : p x with
    | false =>
      rw [if_neg Bool.false_ne_true]
      refine ⟨hs.trans h3, ?_⟩
      rw [hd3, take_snoc hx, List.filter_append]
      simp [hp]
    | true =>
      rw [if_pos rfl]
      refine turn2 x H3 _ hm hp (hs.trans h3) fun H4 h4 => ?_
      refine ⟨_, h4 D _ hd3, ?_, same_updD ((hs.trans h3).trans h4) hD, ?_⟩
      · rw [List.length_map, sizeLine_eq]
        have h1 := List.length_filter_le p (xs.take i)
        rw [List.length_take] at h1
        omega
      · rw [upd_same, take_snoc hx, List.filter_append, List.map_append]
        simp [hp]
  · rintro H' ⟨hs, hd⟩
    refine k D H' hs hD ?_
    rw [hd, List.length_map, List.take_length]
/-- [f(i) for i in range(n)] -/
theorem tlc_range {K : PySem.W.Frag} {n : Nat} {lo : Int} {s1 : Nat} {σ : L2.St} {H : Hp} {Q : VK} {wi : L2.TI} {te : TE} (f : Nat → V) (hwi : ∀ R : It → Hp → Prop, R (Itr lo n) H → wi σ H R) (hz : n ≤ 100000)
    (hw : ∀ x, wipe ((wipe σ [s1]).set s1 x) [s1] = wipe σ [s1])
    (turn : ∀ i H' (R : VK), i < n → Same H H' → (∀ H4, Same H' H4 → R (f i) H4) → te ((wipe σ [s1]).set s1 (some (.int (lo + i)))) H' R)
    (k : ∀ D H', Same H H' → H D = none → H' D = some (.lst ((List.range n).map f)) → Q (.ref D) H') :
    tLc wi (gName s1) tYes te [s1] σ H Q := by
  refine hwi _ fun D hD => ?_
  refine lc_range (lo := lo) (n := n) (fun i H' => Same H H' ∧ H' D = some (.lst ((List.range i).map f))) ⟨same_upd0 hD, upd_same⟩ ?_ ?_
  · rintro i H' hi ⟨hs, hd⟩
    refine ⟨hw _, ?_⟩
    show te _ _ _
    refine turn i H' _ hi hs fun H4 h4 => ?_
    refine ⟨_, h4 D _ hd, ?_, same_updD (hs.trans h4) hD, ?_⟩
    · rw [List.length_map, List.length_range, sizeLine_eq]; omega
    · rw [upd_same, List.range_succ, List.map_append]; rfl
  · rintro H' ⟨hs, hd⟩
    exact k D H' hs hD hd
/-- [f(x) for x in t], a tuple -/
theorem tlc_tup {K : PySem.W.Frag} {α : Type} {a : Addr} {xs : List α} {s1 : Nat} {σ : L2.St} {H : Hp} {Q : VK} {tl : TE} {te : TE} (v : α → V) (f : α → V) (htl : ∀ R : VK, R (.ref a) H → tl σ H R) (ha : SqT K H a (xs.map v)) (hz : xs.length ≤ 100000)
    (hw : ∀ x, wipe ((wipe σ [s1]).set s1 x) [s1] = wipe σ [s1])
    (turn : ∀ x H' (R : VK), x ∈ xs → Same H H' → (∀ H4, Same H' H4 → R (f x) H4) → te ((wipe σ [s1]).set s1 (some (v x))) H' R)
    (k : ∀ D H', Same H H' → H D = none → H' D = some (.lst (xs.map f)) → Q (.ref D) H') :
    tLc (iTup K tl) (gName s1) tYes te [s1] σ H Q := by
  refine htl _ ⟨a, rfl, ⟨_, ha⟩, fun D hD => ?_⟩
  refine lc_tup (K := K) (xs := xs.map v) (fun i H' => Same H H' ∧ H' D = some (.lst ((xs.take i).map f))) ⟨same_upd0 hD, upd_same⟩ (fun i H' _ h => Same.sqT h.1 ha) ?_ ?_
  · rintro i y H' hy ⟨hs, hd⟩
    rw [List.getElem?_map] at hy
    obtain ⟨x, hx, rfl⟩ := Option.map_eq_some_iff.mp hy
    refine ⟨hw _, ?_⟩
    show te _ _ _
    refine turn x H' _ (List.mem_of_getElem? hx) hs fun H4 h4 => ?_
    refine ⟨_, h4 D _ hd, ?_, same_updD (hs.trans h4) hD, ?_⟩
    · rw [List.length_map, List.length_take, sizeLine_eq]; omega
    · rw [upd_same, take_snoc hx, List.map_append]; rfl
  · rintro H' ⟨hs, hd⟩
    refine k D H' hs hD ?_
    rw [hd, List.length_map, List.take_length]
theorem tcb1 {r : List V → Hp → VK → Prop} {t : TE} {σ : L2.St} {H : Hp} {Q : VK} (h : t σ H fun x H1 => r [x] H1 Q) : tCB r (tCons t tNil) σ H Q := h
/-- an int of the module -/
theorem pe_gi {X : Cx} {x : Str} {i : Int} {pos : Pos} (hg : Gl X x) (hm : ∃ t, X.mg x = some (.int i t)) (hd : (x == ("__debug__" : Str)) = false := by decide) : PE X (.Name x pos) (tC (.int i)) := by
  obtain ⟨t, hm⟩ := hm
  exact pe_glob hg hm (v := .int i) ⟨t, rfl⟩ hd
theorem iteK {b : Bool} {A B : Prop} (hb : b = true) (h : A) : if b = true then A else B := by rw [if_pos hb]; exact h
theorem iteKF {b : Bool} {A B : Prop} (hb : b = false) (h : B) : if b = true then A else B := by rw [hb, if_neg Bool.false_ne_true]; exact h
theorem iteB {c : Prop} [Decidable c] {A B : Prop} (h1 : c → A) (h2 : ¬ c → B) : if decide c = true then A else B := by
  by_cases h : c
  · rw [decide_eq_true h, if_pos rfl]; exact h1 h
  · rw [decide_eq_false h, if_neg Bool.false_ne_true]; exact h2 h
end Tz
/-! Shapes: the mirror and its mathematics. Core Lean alone. -/
namespace Tz
/-! ### shapes: the mirror -/
def ecount (ns : List Int) : Int := ns.foldl (fun c n => c * n) 1
/-- the sizes of a shape, as they are met here -/
def Szs (ns : List Int) : Prop := ∀ n ∈ ns, 0 ≤ n ∧ n ≤ 1000000
def rankF (ns ps : List Int) : Int := (ns.zip ps).foldl (fun r p => r * p.1 + p.2) 0
def inb (ns ps : List Int) : Bool := (ns.zip ps).all fun p => decide (0 ≤ p.2) && decide (p.2 < p.1)
def ixGo : List Int → Int → List Int
  | [], _ => []
  | n :: ns, r => r % n :: ixGo ns (r / n)
def ixOf (ns : List Int) (r : Int) : List Int := (ixGo ns.reverse r).reverse
def zdiv (ns ps : List Int) : List Int := (ns.zip ps).map fun p => p.2 / p.1
def zmod (ns ps : List Int) : List Int := (ns.zip ps).map fun p => p.2 % p.1
def zmul (ns ps : List Int) : List Int := (ns.zip ps).map fun p => p.1 * p.2
theorem ixGo_len : ∀ (ns : List Int) (r : Int), (ixGo ns r).length = ns.length
  | [], _ => rfl
  | _ :: ns, r => by simp [ixGo, ixGo_len ns]
/-- what is left of r behind i sizes -/
def leftGo : List Int → Int → Int
  | [], r => r
  | n :: ns, r => leftGo ns (r / n)
theorem ixGo_snoc : ∀ (l : List Int) (n r : Int), ixGo (l ++ [n]) r = ixGo l r ++ [leftGo l r % n] ∧ leftGo (l ++ [n]) r = leftGo l r / n
  | [], n, r => ⟨rfl, rfl⟩
  | m :: l, n, r => by
    obtain ⟨a, b⟩ := ixGo_snoc l n (r / m)
    exact ⟨by simp only [List.cons_append, ixGo, leftGo, a], by simp only [List.cons_append, leftGo, b]⟩
/-- positive sizes -/
def Pos1 (ns : List Int) : Prop := ∀ n ∈ ns, 1 ≤ n ∧ n ≤ 1000000
end Tz
namespace Tz
open PySem PySem.Spec PyProof.Rows L2
theorem rankF_snoc {ns ps : List Int} {i : Nat} {n p : Int} (hn : ns[i]? = some n) (hp : ps[i]? = some p) : rankF (ns.take (i + 1)) (ps.take (i + 1)) = rankF (ns.take i) (ps.take i) * n + p := by
  unfold rankF
  rw [zip_take, zip_take, foldl_snoc (zip_at hn hp)]
def spEcount (K : PySem.W.Frag) : Sp := fun vs H Q _ => ∃ (v : V) (ns : List Int), vs = [v] ∧ TupI K H v ns ∧ Szs ns ∧ Q (.int (ecount ns)) H
def spRank (K : PySem.W.Frag) : Sp := fun vs H Q _ => ∃ (v u : V) (ns ps : List Int), vs = [v, u] ∧ TupI K H v ns ∧ TupI K H u ps ∧ ns.length = ps.length ∧ Szs ns ∧ ∀ H', Same H H' → Q (.int (rankF ns ps)) H'
def spInb (K : PySem.W.Frag) : Sp := fun vs H Q _ => ∃ (v u : V) (ns ps : List Int), vs = [v, u] ∧ TupI K H v ns ∧ TupI K H u ps ∧ ns.length = ps.length ∧ ns.length ≤ 100 ∧ ∀ H', Same H H' → Q (.bl (inb ns ps)) H'
def spIx (K : PySem.W.Frag) : Sp := fun vs H Q _ => ∃ (v : V) (ns : List Int) (r : Int), vs = [v, .int r] ∧ TupI K H v ns ∧ Pos1 ns ∧ ns.length ≤ 100 ∧ ∀ x H', Same H H' → TupI K H' x (ixOf ns r) → Q x H'
def spZip (K : PySem.W.Frag) (f : List Int → List Int → List Int) : Sp := fun vs H Q _ => ∃ (v u : V) (ns ps : List Int), vs = [v, u] ∧ TupI K H v ns ∧ TupI K H u ps ∧ ns.length = ps.length ∧ Pos1 ns ∧ ns.length ≤ 100 ∧ ∀ (t : Addr) H', Same H H' → H' t = some (.tup (iv (f ns ps))) → Q (.ref t) H'
def spShape (K : PySem.W.Frag) : Sp := fun vs H Q _ => ∃ (v : V) (ns : List Int), vs = [v] ∧ TupI K H v ns ∧ Szs ns ∧ ns.length ≤ 4 ∧ ∀ H', Same H H' → Q (.bl true) H'
theorem all_true {bs : List Bool} (h : ∀ b ∈ bs, b = true) : bs.all id = true := List.all_eq_true.mpr fun b hb => h b hb
section
variable {P : Program} {w : World} {K : PySem.W.Frag} {mg : Str → Option Value} {base : Heap}
theorem sc_ecount : FnScope ["shape", "count", "size"] ["shape"] (defScope (top 62)) := ⟨rfl, rfl, rfl, by decide +kernel, rfl, by decide +kernel, by decide +kernel⟩
theorem c_ecount (T : Tx K mg) : C8.Cal P w K mg base 1 "element_count" (spEcount K) [] := by
  refine cal_of T.f_element_count (fun _ _ _ _ _ _ us hl => match us, hl with | [_], _ => rfl) sc_ecount (fun vs H Q E h => ?_) (fun f cdv A outer s H vs Q E hr h => ?_)
  · obtain ⟨v, ns, rfl, _⟩ := h
    rfl
  · obtain ⟨v, ns, rfl, ⟨a, rfl, ht⟩, hz, k⟩ := h
    refine ⟨_, pss_cons (ps_set (i := 1) sc_ecount.nd rfl (.inl rfl) pe_int)
      (pss_cons (ps_for PassesOwn.never rfl (pi_tup (pv 0)) (pg_name (i := 2) sc_ecount.nd rfl (.inl rfl)) (pss_one (ps_aug (i := 1) sc_ecount.nd rfl (.inl rfl) (pv 2) iop_mul)))
      (pss_one (ps_ret (pv 1)))), ?_⟩
    refine ⟨_, rfl, a, rfl, ⟨_, ht⟩, for_tup (K := K) (a := a) (xs := iv ns) (fun i σ H' => H' = H ∧ ∃ z, σ = [some (.ref a), some (.int ((ns.take i).foldl (fun c n => c * n) 1)), z])
      ⟨rfl, _, rfl⟩ (fun i σ H' _ ⟨e, _⟩ => by rw [e]; exact ht) ?_ ?_⟩
    · rintro i x σ H' hx ⟨rfl, z, rfl⟩
      obtain ⟨n, hn, rfl⟩ := iv_get hx
      refine ⟨_, rfl, _, rfl, _, _, rfl, rfl, ?_, rfl, some (.int n), ?_⟩
      · have := hz n (List.mem_of_getElem? hn)
        exact .inr ⟨by omega, by omega⟩
      · rw [foldl_snoc hn]
        rfl
    · rintro σ H' ⟨rfl, z, rfl⟩
      rw [List.length_map, List.take_length]
      exact ⟨_, rfl, k⟩
theorem sc_rank : FnScope ["shape", "index", "rank", "size", "place"] ["shape", "index"] (defScope (top 63)) := ⟨rfl, rfl, rfl, by decide +kernel, rfl, by decide +kernel, by decide +kernel⟩
theorem c_rank (T : Tx K mg) : C8.Cal P w K mg base 1 "rank_of" (spRank K) [] := by
  refine cal_of T.f_rank_of (fun _ _ _ _ _ _ us hl => match us, hl with | [_, _], _ => rfl) sc_rank (fun vs H Q E h => ?_) (fun f cdv A outer s H vs Q E hr h => ?_)
  · obtain ⟨v, u, ns, ps, rfl, _⟩ := h
    rfl
  · obtain ⟨v, u, ns, ps, rfl, ⟨a, rfl, ha⟩, ⟨b, rfl, hb⟩, hl, hz, k⟩ := h
    have nd := sc_rank.nd
    refine ⟨_, pss_cons (ps_set (i := 2) nd rfl (.inl rfl) pe_int)
      (pss_cons (ps_for PassesOwn.never rfl (RZ.pi_zipA (by rfl) T.n_zip (pa_cons (pv 0) (pa_cons (pv 1) pa_nil))) (pg_tup (by rfl) (pgs_cons (pg_name (i := 3) nd rfl (.inl rfl)) (pgs_cons (pg_name (i := 4) nd rfl (.inl rfl)) pgs_nil)))
        (pss_one (ps_set (i := 2) nd rfl (.inl rfl) (pe_op op_add (pe_op op_mul (pv 2) (pv 3)) (pv 4)))))
      (pss_one (ps_ret (pv 2)))), ?_⟩
    refine ⟨_, rfl, _, rfl, a, b, iv ns, iv ps, rfl, .inr ⟨ha, hb, RZ.for_zipT (K := K) (a := a) (b := b) (xs := iv ns) (ys := iv ps) (by simpa using hl)
      (fun i σ H' => Same H H' ∧ ∃ z y, σ = [some (.ref a), some (.ref b), some (.int (rankF (ns.take i) (ps.take i))), z, y]) ⟨Same.refl H, _, _, rfl⟩ (fun i σ H' ⟨e, _⟩ => ⟨Same.sqT e ha, Same.sqT e hb⟩) ?_ ?_⟩⟩
    · rintro i x y t σ H' hx hy ⟨hs, z1, z2, rfl⟩ ht
      obtain ⟨n, hn, rfl⟩ := iv_get hx
      obtain ⟨p, hp, rfl⟩ := iv_get hy
      refine ⟨t, [.int n, .int p], rfl, SqT.of upd_same, rfl, _, _, rfl, _, _, rfl, rfl, ?_⟩
      refine ⟨_, rfl, _, rfl, _, _, rfl, rfl, .inr ?_, _, rfl, _, _, rfl, rfl, same_upd hs ht, some (.int n), some (.int p), ?_⟩
      · have := hz n (List.mem_of_getElem? hn)
        exact ⟨by omega, by omega⟩
      · rw [rankF_snoc hn hp]
        rfl
    · rintro σ H' ⟨hs, z1, z2, rfl⟩
      refine ⟨_, rfl, ?_⟩
      have e1 : (iv ns).length = ns.length := by simp
      rw [e1, List.take_length, hl, List.take_length]
      exact k H' hs
theorem sc_inb : FnScope ["shape", "index", "size", "place"] ["shape", "index"] (defScope (top 65)) := ⟨rfl, rfl, rfl, by decide +kernel, rfl, by decide +kernel, by decide +kernel⟩
theorem c_inb (T : Tx K mg) : C8.Cal P w K mg base 1 "is_index" (spInb K) [] := by
  refine cal_of T.f_is_index (fun _ _ _ _ _ _ us hl => match us, hl with | [_, _], _ => rfl) sc_inb (fun vs H Q E h => ?_) (fun f cdv A outer s H vs Q E hr h => ?_)
  · obtain ⟨v, u, ns, ps, rfl, _⟩ := h
    rfl
  · obtain ⟨v, u, ns, ps, rfl, ⟨a, rfl, ha⟩, ⟨b, rfl, hb⟩, hl, hz, k⟩ := h
    have nd := sc_inb.nd
    refine ⟨_, pss_one (ps_ret (pe_and (pe_cmpR op_eq (pe_callB call_len (by rfl) T.n_len PySem.boot_len (pa_cons (pv 1) pa_nil)) (pe_callB call_len (by rfl) T.n_len PySem.boot_len (pa_cons (pv 0) pa_nil)) (nomark _))
      (pe_one (pe_callB (cr_all rfl) (by rfl) T.n_all (by decide +kernel) (pa_cons
        (pe_lc (own := [("size", 2), ("place", 3)]) (g := gTup K 2 (gCons (gName 2) (gCons (gName 3) gNil))) (tt := tYes) rfl nd (RZ.pi_zipA (by rfl) T.n_zip (pa_cons (pv 0) (pa_cons (pv 1) pa_nil))) (blkOk_by (N := ["shape", "index", "size", "place"]) (sc := defScope (top 65)) (by decide +kernel))
          (fun _ _ _ _ _ => pg_tup (by rfl) (pgs_cons (pg_name (i := 2) nd rfl (.inl rfl)) (pgs_cons (pg_name (i := 3) nd rfl (.inl rfl)) pgs_nil))) (fun _ _ _ _ _ => pts_nil)
          (fun _ _ _ _ _ => pe_chain op_le op_lt pe_int (pv 3) (pv 2))) pa_nil))))), ?_⟩
    refine ⟨_, rfl, _, _, rfl, .inr ⟨_, hb, rfl⟩, _, rfl, _, _, rfl, .inr ⟨_, ha, rfl⟩, rfl, _, rfl, ?_⟩
    rw [if_pos (by simp [hl])]
    refine tcb1 ?_
    refine tlc_zip (s1 := 2) (s2 := 3) (ns := ns) (ps := ps) (fun n p => .bl (decide (0 ≤ p) && decide (p < n))) ?_ ha hb hl (by omega) ?_ (fun n p H' R _ _ hk => ?_) (fun D H' hs hD hd => ?_)
    · exact fun R h => ⟨_, rfl, _, rfl, h⟩
    · exact fun _ _ => rfl
    · refine ⟨_, rfl, 0, p, rfl, rfl, _, rfl, ?_⟩
      by_cases h0 : 0 ≤ p
      · rw [if_pos (by simpa using h0)]
        refine ⟨_, rfl, _, _, rfl, rfl, ?_⟩
        have := hk H' (Same.refl _)
        rw [decide_eq_true h0] at this
        exact this
      · rw [if_neg (by simpa using h0)]
        have := hk H' (Same.refl _)
        rw [decide_eq_false h0] at this
        exact this
    · refine ⟨D, (ns.zip ps).map fun p => decide (0 ≤ p.2) && decide (p.2 < p.1), rfl, SqL.of (by rw [hd, List.map_map]; rfl), ?_⟩
      have := k H' hs
      unfold inb at this
      rw [List.all_map]
      exact this
theorem sc_ix : FnScope ["shape", "rank", "places", "size"] ["shape", "rank"] (defScope (top 64)) := ⟨rfl, rfl, rfl, by decide +kernel, rfl, by decide +kernel, by decide +kernel⟩
theorem c_ix (T : Tx K mg) : C8.Cal P w K mg base 1 "index_of" (spIx K) [] := by
  refine cal_of T.f_index_of (fun _ _ _ _ _ _ us hl => match us, hl with | [_, _], _ => rfl) sc_ix (fun vs H Q E h => ?_) (fun f cdv A outer s H vs Q E hr h => ?_)
  · obtain ⟨v, ns, r, rfl, _⟩ := h
    rfl
  · obtain ⟨v, ns, r, rfl, ⟨a, rfl, ha⟩, hp, hz, k⟩ := h
    have nd := sc_ix.nd
    refine ⟨_, pss_cons (ps_set (i := 2) nd rfl (.inl rfl) (pe_lst pa_nil))
      (pss_cons (ps_for PassesOwn.never rfl (pi_tup (pe_revT (pv 0))) (pg_name (i := 3) nd rfl (.inl rfl))
        (pss_cons (ps_expr (pe_bm PySem.F.plainAttrs_list PySem.F.slot_list_append PySem.F.type_list_append mt_append (pv 2) (pa_cons (pe_op op_modN (pv 1) (pv 3)) pa_nil)))
          (pss_one (ps_set (i := 1) nd rfl (.inl rfl) (pe_op op_fdivN (pv 1) (pv 3))))))
      (pss_one (ps_ret (pe_callTy call_tuple_of (by rfl) T.n_tuple (by decide +kernel) (pa_cons (pe_revL (pv 2)) pa_nil))))), ?_⟩
    refine ⟨by decide, fun l hl => ?_⟩
    refine ⟨_, rfl, a, iv ns, rfl, Same.sqT (same_upd0 hl) ha, fun p hp0 => ?_⟩
    have hpl : p ≠ l := fun z => by rw [z, upd_same] at hp0; cases hp0
    have hpH : H p = none := by rw [upd_ne hpl] at hp0; exact hp0
    refine ⟨p, rfl, ⟨_, SqT.of upd_same⟩, for_tup (K := K) (a := p) (xs := (iv ns).reverse) (fun i σ H' => Same H H' ∧ H' p = some (.tup (iv ns).reverse) ∧ H' l = some (.lst (iv (ixGo (ns.reverse.take i) r))) ∧ ∃ z, σ = [some (.ref a), some (.int (leftGo (ns.reverse.take i) r)), some (.ref l), z])
      ⟨same_updD (same_upd0 hl) hpH, upd_same, by rw [upd_ne (Ne.symm hpl), upd_same]; rfl, _, rfl⟩ (fun i σ H' _ h => SqT.of h.2.1) ?_ ?_⟩
    · rintro i x σ H' hx ⟨hs, h1, h2, z, rfl⟩
      rw [← List.map_reverse] at hx
      obtain ⟨n, hn, rfl⟩ := iv_get hx
      have hn1 := hp n (List.mem_reverse.mp (List.mem_of_getElem? hn))
      obtain ⟨e1, e2⟩ := ixGo_snoc (ns.reverse.take i) n r
      refine ⟨_, rfl, .inl ⟨rfl, _, SqL.of h2⟩, _, rfl, _, rfl, _, _, rfl, rfl, by omega, l, _, _, rfl, rfl, h2, ?_, ?_⟩
      · rw [List.length_map, ixGo_len, List.length_take, sizeLine_eq]
        rw [List.length_reverse]; omega
      · refine ⟨_, rfl, _, rfl, _, _, rfl, rfl, ⟨by omega, by omega⟩, ?_⟩
        have hlp : l ≠ p := Ne.symm hpl
        refine ⟨same_updD hs hl, by rw [upd_ne hpl]; exact h1, ?_, some (.int n), ?_⟩
        · rw [upd_same, take_snoc hn, e1]
          simp [Int.fmod_eq_emod_of_nonneg _ (show 0 ≤ n by omega)]
        · rw [take_snoc hn, e2]
          simp [Int.fdiv_eq_ediv_of_nonneg _ (show 0 ≤ n by omega)]
    · rintro σ H' ⟨hs, h1, h2, z, rfl⟩
      refine ⟨_, rfl, l, _, rfl, SqL.of h2, fun p2 hp2 => ⟨p2, _, rfl, .inl ⟨SqL.of upd_same, fun p3 hp3 => ?_⟩⟩⟩
      have e1 : ((iv ns).reverse).length = ns.reverse.length := by simp
      refine k _ _ (same_updD (same_updD hs (hs.free hp2)) ?_) ⟨p3, rfl, SqT.of (by
        rw [upd_same, e1, List.take_length, ← List.map_reverse]; rfl)⟩
      have : p3 ≠ p2 := fun z => by rw [z, upd_same] at hp3; cases hp3
      rw [upd_ne this] at hp3
      exact hs.free hp3
theorem sc_gi : FnScope ["chunk_shape", "index", "size", "place"] ["chunk_shape", "index"] (defScope (top 99)) := ⟨rfl, rfl, rfl, by decide +kernel, rfl, by decide +kernel, by decide +kernel⟩
theorem c_gi (T : Tx K mg) : C8.Cal P w K mg base 1 "grid_index" (spZip K zdiv) [] := by
  refine cal_of T.f_grid_index (fun _ _ _ _ _ _ us hl => match us, hl with | [_, _], _ => rfl) sc_gi (fun vs H Q E h => ?_) (fun f cdv A outer s H vs Q E hr h => ?_)
  · obtain ⟨v, u, ns, ps, rfl, _⟩ := h
    rfl
  · obtain ⟨v, u, ns, ps, rfl, ⟨a, rfl, ha⟩, ⟨b, rfl, hb⟩, hl, hp, hz, k⟩ := h
    have nd := sc_gi.nd
    refine ⟨_, pss_one (ps_ret (pe_callTy call_tuple_of (by rfl) T.n_tuple (by decide +kernel) (pa_cons
        (pe_lc (own := [("size", 2), ("place", 3)]) (g := gTup K 2 (gCons (gName 2) (gCons (gName 3) gNil))) (tt := tYes) rfl nd (RZ.pi_zipA (by rfl) T.n_zip (pa_cons (pv 0) (pa_cons (pv 1) pa_nil))) (blkOk_by (N := ["chunk_shape", "index", "size", "place"]) (sc := defScope (top 99)) (by decide +kernel))
          (fun _ _ _ _ _ => pg_tup (by rfl) (pgs_cons (pg_name (i := 2) nd rfl (.inl rfl)) (pgs_cons (pg_name (i := 3) nd rfl (.inl rfl)) pgs_nil))) (fun _ _ _ _ _ => pts_nil)
          (fun _ _ _ _ _ => pe_op op_fdivN (pv 3) (pv 2))) pa_nil))), ?_⟩
    refine tcb1 ?_
    refine tlc_zip (s1 := 2) (s2 := 3) (ns := ns) (ps := ps) (fun n p => .int (p / n)) ?_ ha hb hl (by omega) ?_ (fun n p H' R hm _ hk => ?_) (fun D H' hs hD hd => ?_)
    · exact fun R h => ⟨_, rfl, _, rfl, h⟩
    · exact fun _ _ => rfl
    · have hn := hp n (List.of_mem_zip hm).1
      refine ⟨_, rfl, _, rfl, p, n, rfl, rfl, ⟨by omega, by omega⟩, ?_⟩
      have := hk H' (Same.refl _)
      rw [← Int.fdiv_eq_ediv_of_nonneg _ (show 0 ≤ n by omega)] at this
      exact this
    · refine ⟨D, _, rfl, .inl ⟨SqL.of hd, fun t ht => ?_⟩⟩
      exact k t _ (same_updD hs (hs.free ht)) (by rw [upd_same]; unfold zdiv iv; rw [List.map_map]; rfl)
theorem sc_pc : FnScope ["chunk_shape", "index", "size", "place"] ["chunk_shape", "index"] (defScope (top 100)) := ⟨rfl, rfl, rfl, by decide +kernel, rfl, by decide +kernel, by decide +kernel⟩
theorem c_pc (T : Tx K mg) : C8.Cal P w K mg base 1 "place_in_chunk" (spZip K zmod) [] := by
  refine cal_of T.f_place_in_chunk (fun _ _ _ _ _ _ us hl => match us, hl with | [_, _], _ => rfl) sc_pc (fun vs H Q E h => ?_) (fun f cdv A outer s H vs Q E hr h => ?_)
  · obtain ⟨v, u, ns, ps, rfl, _⟩ := h
    rfl
  · obtain ⟨v, u, ns, ps, rfl, ⟨a, rfl, ha⟩, ⟨b, rfl, hb⟩, hl, hp, hz, k⟩ := h
    have nd := sc_pc.nd
    refine ⟨_, pss_one (ps_ret (pe_callTy call_tuple_of (by rfl) T.n_tuple (by decide +kernel) (pa_cons
        (pe_lc (own := [("size", 2), ("place", 3)]) (g := gTup K 2 (gCons (gName 2) (gCons (gName 3) gNil))) (tt := tYes) rfl nd (RZ.pi_zipA (by rfl) T.n_zip (pa_cons (pv 0) (pa_cons (pv 1) pa_nil))) (blkOk_by (N := ["chunk_shape", "index", "size", "place"]) (sc := defScope (top 100)) (by decide +kernel))
          (fun _ _ _ _ _ => pg_tup (by rfl) (pgs_cons (pg_name (i := 2) nd rfl (.inl rfl)) (pgs_cons (pg_name (i := 3) nd rfl (.inl rfl)) pgs_nil))) (fun _ _ _ _ _ => pts_nil)
          (fun _ _ _ _ _ => pe_op op_modN (pv 3) (pv 2))) pa_nil))), ?_⟩
    refine tcb1 ?_
    refine tlc_zip (s1 := 2) (s2 := 3) (ns := ns) (ps := ps) (fun n p => .int (p % n)) ?_ ha hb hl (by omega) ?_ (fun n p H' R hm _ hk => ?_) (fun D H' hs hD hd => ?_)
    · exact fun R h => ⟨_, rfl, _, rfl, h⟩
    · exact fun _ _ => rfl
    · have hn := hp n (List.of_mem_zip hm).1
      refine ⟨_, rfl, _, rfl, p, n, rfl, rfl, by omega, ?_⟩
      have := hk H' (Same.refl _)
      rw [← Int.fmod_eq_emod_of_nonneg _ (show 0 ≤ n by omega)] at this
      exact this
    · refine ⟨D, _, rfl, .inl ⟨SqL.of hd, fun t ht => ?_⟩⟩
      exact k t _ (same_updD hs (hs.free ht)) (by rw [upd_same]; unfold zmod iv; rw [List.map_map]; rfl)
theorem sc_shape : FnScope ["shape", "size"] ["shape"] (defScope (top 61)) := ⟨rfl, rfl, rfl, by decide +kernel, rfl, by decide +kernel, by decide +kernel⟩
theorem c_shape (T : Tx K mg) : C8.Cal P w K mg base 1 "is_shape" (spShape K) [] := by
  refine cal_of T.f_is_shape (fun _ _ _ _ _ _ us hl => match us, hl with | [_], _ => rfl) sc_shape (fun vs H Q E h => ?_) (fun f cdv A outer s H vs Q E hr h => ?_)
  · obtain ⟨v, ns, rfl, _⟩ := h
    rfl
  · obtain ⟨v, ns, rfl, ⟨a, rfl, ha⟩, hp, hz, k⟩ := h
    have nd := sc_shape.nd
    refine ⟨_, pss_one (ps_ret (pe_and (pe_cmpR op_le (pe_callB call_len (by rfl) T.n_len PySem.boot_len (pa_cons (pv 0) pa_nil)) (pe_gi (by rfl) T.i_MOST_DIMENSIONS) (nomark _))
      (pe_one (pe_callB (cr_all rfl) (by rfl) T.n_all (by decide +kernel) (pa_cons
        (pe_lc (own := [("size", 1)]) (g := gName 1) (tt := tYes) rfl nd (pi_tup (pv 0)) (blkOk_by (N := ["shape", "size"]) (sc := defScope (top 61)) (by decide +kernel))
          (fun _ _ _ _ _ => pg_name (i := 1) nd rfl (.inl rfl)) (fun _ _ _ _ _ => pts_nil)
          (fun _ _ _ _ _ => pe_chain op_le op_le pe_int (pv 1) (pe_gi (by rfl) T.i_LARGEST_SIZE))) pa_nil))))), ?_⟩
    refine ⟨_, rfl, _, _, rfl, .inr ⟨_, ha, rfl⟩, ((iv ns).length : Int), 4, rfl, rfl, _, rfl, ?_⟩
    rw [if_pos (by simp; omega)]
    refine tcb1 ?_
    refine tlc_tup (s1 := 1) (xs := ns) V.int (fun _ => .bl true) ?_ ha (by omega) ?_ (fun n H' R hm _ hk => ?_) (fun D H' hs hD hd => ?_)
    · exact fun R h => ⟨_, rfl, h⟩
    · exact fun _ => rfl
    · have hn := hp n hm
      refine ⟨_, rfl, 0, n, rfl, rfl, _, rfl, ?_⟩
      rw [if_pos (by simpa using hn.1)]
      refine ⟨n, 1000000000, rfl, rfl, ?_⟩
      have := hk H' (Same.refl _)
      rw [← decide_eq_true (show n ≤ 1000000000 by omega)] at this
      exact this
    · refine ⟨D, ns.map fun _ => true, rfl, SqL.of (by rw [hd, List.map_map]; rfl), ?_⟩
      have e : (ns.map fun _ => true).all id = true := by simp
      rw [e]
      exact k H' hs
end
end Tz
/-! What stands in a file and a batch; keys; trees. Core Lean alone. -/
namespace Tz
/-- bs has xs from place i on -/
def Has (bs : List Int) (i : Nat) (xs : List Int) : Prop := ∃ pre post, bs = pre ++ xs ++ post ∧ pre.length = i
theorem Has.fst {bs xs ys : List Int} {i : Nat} (h : Has bs i (xs ++ ys)) : Has bs i xs := by
  obtain ⟨pre, post, rfl, e⟩ := h
  exact ⟨pre, ys ++ post, by simp, e⟩
theorem Has.snd {bs xs ys : List Int} {i : Nat} (h : Has bs i (xs ++ ys)) : Has bs (i + xs.length) ys := by
  obtain ⟨pre, post, rfl, e⟩ := h
  exact ⟨pre ++ xs, post, by simp, by simp [e]⟩
theorem Has.head {bs xs : List Int} {x : Int} {i : Nat} (h : Has bs i (x :: xs)) : bs[i]? = some x := by
  obtain ⟨pre, post, rfl, e⟩ := h
  rw [List.append_assoc, List.getElem?_append_right (by omega), e, Nat.sub_self]
  rfl
theorem Has.tail {bs xs : List Int} {x : Int} {i : Nat} (h : Has bs i (x :: xs)) : Has bs (i + 1) xs := Has.snd (xs := [x]) h
theorem Has.len {bs xs : List Int} {i : Nat} (h : Has bs i xs) : i + xs.length ≤ bs.length := by
  obtain ⟨pre, post, rfl, e⟩ := h
  simp; omega
theorem Has.all (xs : List Int) : Has xs 0 xs := ⟨[], [], by simp, rfl⟩
theorem Has.app {bs xs : List Int} {i : Nat} (h : Has bs i xs) (ys : List Int) : Has (bs ++ ys) i xs := by
  obtain ⟨pre, post, rfl, e⟩ := h
  exact ⟨pre, post ++ ys, by simp, e⟩
theorem Has.pre {bs xs : List Int} {i : Nat} (h : Has bs i xs) (ys : List Int) : Has (ys ++ bs) (ys.length + i) xs := by
  obtain ⟨pre, post, rfl, e⟩ := h
  exact ⟨ys ++ pre, post, by simp, by simp [e]⟩
theorem Has.cut {bs xs : List Int} {i : Nat} (h : Has bs i xs) : (bs.drop i).take xs.length = xs := by
  obtain ⟨pre, post, rfl, e⟩ := h
  subst e
  simp
/-- a row of a node: the key, and the pointer (address, length) -/
structure Row where
  key : List Int
  ad : Int
  ln : Int
  deriving DecidableEq
def wrow (r : Row) : List Int := wints r.key ++ wnum r.ad ++ wnum r.ln
def wnode (rs : List Row) : List Int := wnum rs.length ++ rs.flatMap wrow
/-! ### keys -/
def kl : List Int → List Int → Bool
  | [], [] => false
  | [], _ :: _ => true
  | _ :: _, [] => false
  | x :: xs, y :: ys => if x = y then kl xs ys else decide (x < y)
theorem kl_irr : ∀ a, kl a a = false
  | [] => rfl
  | x :: xs => by simp [kl, kl_irr xs]
theorem kl_trans : ∀ {a b c : List Int}, kl a b = true → kl b c = true → kl a c = true
  | [], [], _, h, _ => by simp [kl] at h
  | [], _ :: _, [], _, h => by simp [kl] at h
  | [], _ :: _, _ :: _, _, _ => rfl
  | _ :: _, [], _, h, _ => by simp [kl] at h
  | _ :: _, _ :: _, [], _, h => by simp [kl] at h
  | x :: xs, y :: ys, z :: zs, h1, h2 => by
    simp only [kl] at h1 h2 ⊢
    by_cases e1 : x = y
    · subst e1
      rw [if_pos rfl] at h1
      by_cases e2 : x = z
      · subst e2
        rw [if_pos rfl] at h2 ⊢
        exact kl_trans h1 h2
      · rw [if_neg e2] at h2 ⊢
        exact h2
    · rw [if_neg e1] at h1
      have h1 := of_decide_eq_true h1
      by_cases e2 : y = z
      · subst e2
        rw [if_neg e1]
        exact decide_eq_true h1
      · rw [if_neg e2] at h2
        have h2 := of_decide_eq_true h2
        rw [if_neg (by omega)]
        exact decide_eq_true (by omega)
theorem kl_tri : ∀ a b : List Int, kl a b = true ∨ a = b ∨ kl b a = true
  | [], [] => .inr (.inl rfl)
  | [], _ :: _ => .inl rfl
  | _ :: _, [] => .inr (.inr rfl)
  | x :: xs, y :: ys => by
    simp only [kl]
    by_cases e : x = y
    · subst e
      rw [if_pos rfl, if_pos rfl]
      rcases kl_tri xs ys with h | h | h
      · exact .inl h
      · exact .inr (.inl (by rw [h]))
      · exact .inr (.inr h)
    · rw [if_neg e, if_neg (Ne.symm e)]
      by_cases h : x < y
      · exact .inl (decide_eq_true h)
      · exact .inr (.inr (decide_eq_true (by omega)))
theorem kl_asym {a b : List Int} (h : kl a b = true) : kl b a = false := by
  cases e : kl b a with
  | false => rfl
  | true =>
    have := kl_trans h e
    rw [kl_irr] at this
    cases this
/-- a ≤ b < c -/
theorem kl_le_lt {a b c : List Int} (h1 : kl b a = false) (h2 : kl b c = true) : kl a c = true := by
  rcases kl_tri a b with h | h | h
  · exact kl_trans h h2
  · rw [h]; exact h2
  · rw [h] at h1; cases h1
/-- a < b ≤ c -/
theorem kl_lt_le {a b c : List Int} (h1 : kl a b = true) (h2 : kl c b = false) : kl a c = true := by
  rcases kl_tri b c with h | h | h
  · exact kl_trans h1 h
  · rw [← h]; exact h1
  · rw [h] at h2; cases h2
theorem kl_le_trans {a b c : List Int} (h1 : kl b a = false) (h2 : kl c b = false) : kl c a = false := by
  cases e : kl c a with
  | false => rfl
  | true =>
    rw [kl_lt_le e h1] at h2
    cases h2
theorem kl_ne {a b : List Int} (h : kl a b = true) : a ≠ b := fun e => by rw [e, kl_irr] at h; cases h
/-! ### sorted rows -/
def Srt (es : List Row) : Prop := es.Pairwise fun a b => kl a.key b.key = true
def ins (n : Row) (es : List Row) : List Row := es.filter (fun r => kl r.key n.key) ++ [n] ++ es.filter (fun r => kl n.key r.key)
def del (key : List Int) (es : List Row) : List Row := es.filter fun r => !decide (r.key = key)
def look (key : List Int) (es : List Row) : Option Row := es.find? fun r => decide (r.key = key)
theorem filter_all {α : Type} {p : α → Bool} {l : List α} (h : ∀ x ∈ l, p x = true) : l.filter p = l := List.filter_eq_self.mpr h
theorem filter_none {α : Type} {p : α → Bool} {l : List α} (h : ∀ x ∈ l, p x = false) : l.filter p = [] := List.filter_eq_nil_iff.mpr fun x hx => by rw [h x hx]; decide
theorem ins_mid {n : Row} {A M B : List Row} (hA : ∀ a ∈ A, kl a.key n.key = true) (hB : ∀ b ∈ B, kl n.key b.key = true) : ins n (A ++ M ++ B) = A ++ ins n M ++ B := by
  unfold ins
  simp only [List.filter_append]
  rw [filter_all hA, filter_all hB, filter_none (l := A) (p := fun r => kl n.key r.key) fun a ha => kl_asym (hA a ha), filter_none (l := B) (p := fun r => kl r.key n.key) fun b hb => kl_asym (hB b hb)]
  simp
theorem del_mid {key : List Int} {A M B : List Row} (hA : ∀ a ∈ A, a.key ≠ key) (hB : ∀ b ∈ B, b.key ≠ key) : del key (A ++ M ++ B) = A ++ del key M ++ B := by
  unfold del
  simp only [List.filter_append]
  rw [filter_all (l := A) (p := fun r : Row => !decide (r.key = key)) fun a ha => by simp [hA a ha], filter_all (l := B) (p := fun r : Row => !decide (r.key = key)) fun b hb => by simp [hB b hb]]
theorem look_mid {key : List Int} {A M B : List Row} (hA : ∀ a ∈ A, a.key ≠ key) (hB : ∀ b ∈ B, b.key ≠ key) : look key (A ++ M ++ B) = look key M := by
  unfold look
  have a : A.find? (fun r => decide (r.key = key)) = none := List.find?_eq_none.mpr fun a ha => by simp [hA a ha]
  have b : B.find? (fun r => decide (r.key = key)) = none := List.find?_eq_none.mpr fun b hb => by simp [hB b hb]
  rw [List.find?_append, List.find?_append, a, b]
  simp
theorem ins_mem {n : Row} {es : List Row} {r : Row} (h : r ∈ ins n es) : r = n ∨ r ∈ es := by
  unfold ins at h
  simp only [List.mem_append, List.mem_filter, List.mem_singleton] at h
  rcases h with (h | h) | h
  · exact .inr h.1
  · exact .inl h
  · exact .inr h.1
theorem ins_srt {n : Row} {es : List Row} (h : Srt es) : Srt (ins n es) := by
  unfold ins Srt
  refine List.pairwise_append.mpr ⟨List.pairwise_append.mpr ⟨List.Pairwise.filter _ h, List.pairwise_singleton _ _, fun a ha b hb => ?_⟩, List.Pairwise.filter _ h, fun a ha b hb => ?_⟩
  · rw [List.mem_singleton.mp hb]
    exact (List.mem_filter.mp ha).2
  · have hb := (List.mem_filter.mp hb).2
    rcases List.mem_append.mp ha with ha | ha
    · exact kl_trans (List.mem_filter.mp ha).2 hb
    · rw [List.mem_singleton.mp ha]; exact hb
theorem two_filters {α : Type} {p q : α → Bool} (h : ∀ x, p x = true → q x = false) : ∀ l : List α, (l.filter p).length + (l.filter q).length ≤ l.length
  | [] => by simp
  | x :: l => by
    have := two_filters h l
    cases hp : p x with
    | true => simp only [List.filter_cons, hp, h x hp]; simp; omega
    | false =>
      cases hq : q x with
      | true => simp only [List.filter_cons, hp, hq]; simp; omega
      | false => simp only [List.filter_cons, hp, hq]; simp; omega
theorem ins_len {n : Row} {es : List Row} : (ins n es).length ≤ es.length + 1 := by
  have := two_filters (p := fun r : Row => kl r.key n.key) (q := fun r : Row => kl n.key r.key) (fun x h => kl_asym h) es
  unfold ins
  simp only [List.length_append, List.length_singleton]
  omega
theorem ins_ne {n : Row} {es : List Row} : ins n es ≠ [] := by unfold ins; simp
theorem ins_head {n x : Row} {rest : List Row} (h : Srt (x :: rest)) : ∃ y r, ins n (x :: rest) = y :: r ∧ (y.key = n.key ∨ y.key = x.key) := by
  cases e : kl x.key n.key with
  | true => exact ⟨x, _, by unfold ins; rw [List.filter_cons, if_pos e]; rfl, .inr rfl⟩
  | false =>
    refine ⟨n, (x :: rest).filter (fun r => kl n.key r.key), ?_, .inl rfl⟩
    · unfold ins
      rw [filter_none (p := fun r : Row => kl r.key n.key)]
      · rfl
      · intro y hy
        rcases List.mem_cons.mp hy with rfl | hy
        · exact e
        · refine kl_le_trans e ?_
          exact kl_asym (List.rel_of_pairwise_cons h hy)
theorem del_srt {key : List Int} {es : List Row} (h : Srt es) : Srt (del key es) := List.Pairwise.filter _ h
theorem del_mem {key : List Int} {es : List Row} {r : Row} (h : r ∈ del key es) : r ∈ es ∧ r.key ≠ key := by
  obtain ⟨a, b⟩ := List.mem_filter.mp h
  exact ⟨a, by simpa using b⟩
/-! ### the file and the batch -/
structure Sto where
  fb : List Int
  wb : List Int
def Rec (S : Sto) (ad ln kd : Int) (c : List Int) : Prop := ln = ((mkrec kd c).length : Int) ∧ Low (mkrec kd c) ∧ ∃ i : Nat, (ad = i ∧ Has S.fb i (mkrec kd c)) ∨ (ad = ((S.fb.length + i : Nat) : Int) ∧ Has S.wb i (mkrec kd c))
def Ext (S S' : Sto) : Prop := ∀ ad ln kd c, Rec S ad ln kd c → Rec S' ad ln kd c
theorem Ext.refl (S : Sto) : Ext S S := fun _ _ _ _ h => h
theorem Ext.trans {S T U : Sto} (a : Ext S T) (b : Ext T U) : Ext S U := fun _ _ _ _ h => b _ _ _ _ (a _ _ _ _ h)
theorem Ext.put (fb wb x : List Int) : Ext ⟨fb, wb⟩ ⟨fb, wb ++ x⟩ := by
  rintro ad ln kd c ⟨h1, h2, i, h | h⟩
  · exact ⟨h1, h2, i, .inl h⟩
  · exact ⟨h1, h2, i, .inr ⟨h.1, h.2.app x⟩⟩
theorem Ext.seal (fb wb x : List Int) : Ext ⟨fb, wb⟩ ⟨fb ++ wb ++ x, []⟩ := by
  rintro ad ln kd c ⟨h1, h2, i, h | h⟩
  · exact ⟨h1, h2, i, .inl ⟨h.1, (h.2.app wb).app x⟩⟩
  · exact ⟨h1, h2, fb.length + i, .inl ⟨h.1, (h.2.pre fb).app x⟩⟩
theorem Rec.new {fb wb c : List Int} {kd : Int} (h : Low (mkrec kd c)) : Rec ⟨fb, wb ++ mkrec kd c⟩ ((fb.length + wb.length : Nat) : Int) ((mkrec kd c).length : Int) kd c :=
  ⟨rfl, h, wb.length, .inr ⟨rfl, wb, [], by simp, rfl⟩⟩
/-! ### nodes -/
structure Kid where
  row : Row
  es : List Row
  φ : Nat
def Sep (a b : Kid) : Prop := ∀ r ∈ a.es, kl r.key b.row.key = true
def KFit (key : List Int) : Prop := key.length ≤ 3 ∧ ∀ k ∈ key, 0 ≤ k ∧ k ≤ 5
def Row.Fit (r : Row) : Prop := KFit r.key ∧ 0 ≤ r.ad ∧ r.ad < 100000000 ∧ 0 ≤ r.ln ∧ r.ln < 100000000
abbrev flat (ks : List Kid) : List Row := ks.flatMap (·.es)
abbrev phis (ks : List Kid) : Nat := (ks.map (·.φ)).sum
def Nd (S : Sto) : Nat → Row → List Row → Nat → Prop
  | 0, p, es, φ => (∃ x rest, es = x :: rest ∧ p.key = x.key) ∧ es.length ≤ 8 ∧ Srt es ∧ (∀ r ∈ es, r.Fit) ∧ Rec S p.ad p.ln 1 (wnode es) ∧ es.length - 5 ≤ φ
  | d + 1, p, es, φ => ∃ ks : List Kid, (∃ x rest, ks = x :: rest ∧ p.key = x.row.key) ∧ ks.length ≤ 8 ∧ ks.Pairwise Sep ∧ (∀ k ∈ ks, k.row.Fit ∧ Nd S d k.row k.es k.φ) ∧ Rec S p.ad p.ln 2 (wnode (ks.map (·.row))) ∧ es = flat ks ∧
    4 ^ (d + 1) * (ks.length - 5) + phis ks ≤ φ
theorem Nd.ext {S S' : Sto} (x : Ext S S') : ∀ {d : Nat} {p : Row} {es : List Row} {φ : Nat}, Nd S d p es φ → Nd S' d p es φ
  | 0, _, _, _, ⟨h1, h2, h3, h4, h5, h6⟩ => ⟨h1, h2, h3, h4, x _ _ _ _ h5, h6⟩
  | d + 1, _, _, _, ⟨ks, h1, h2, h3, h4, h5, h6, h7⟩ => ⟨ks, h1, h2, h3, fun k hk => ⟨(h4 k hk).1, Nd.ext x (h4 k hk).2⟩, x _ _ _ _ h5, h6, h7⟩
theorem Nd.ne {S : Sto} : ∀ {d : Nat} {p : Row} {es : List Row} {φ : Nat}, Nd S d p es φ → es ≠ []
  | 0, _, _, _, ⟨⟨x, rest, e, _⟩, _⟩ => by rw [e]; simp
  | d + 1, _, _, _, ⟨ks, ⟨x, rest, e, _⟩, _, _, h4, _, e2, _⟩ => by
    subst e e2
    have := Nd.ne (h4 x List.mem_cons_self).2
    simp [flat, this]
theorem Nd.low {S : Sto} : ∀ {d : Nat} {p : Row} {es : List Row} {φ : Nat}, Nd S d p es φ → ∀ r ∈ es, kl r.key p.key = false
  | 0, _, _, _, ⟨⟨x, rest, e, e2⟩, _, h3, _⟩, r, hr => by
    subst e
    rw [e2]
    rcases List.mem_cons.mp hr with rfl | hr
    · exact kl_irr _
    · exact kl_asym (List.rel_of_pairwise_cons h3 hr)
  | d + 1, _, _, _, ⟨ks, ⟨x, rest, e, e1⟩, _, h3, h4, _, e2, _⟩, r, hr => by
    subst e e2
    rw [e1]
    obtain ⟨k, hk, hr⟩ := List.mem_flatMap.mp hr
    have hrk := Nd.low (h4 k hk).2 r hr
    rcases List.mem_cons.mp hk with rfl | hk2
    · exact hrk
    · have hx := (h4 x List.mem_cons_self).2
      cases e3 : x.es with
      | nil => exact absurd e3 (Nd.ne hx)
      | cons y ys =>
        have hy : y ∈ x.es := by rw [e3]; exact List.mem_cons_self
        have a1 := Nd.low hx y hy
        have a2 := List.rel_of_pairwise_cons h3 hk2 y hy
        exact kl_le_trans (kl_asym (kl_le_lt a1 a2)) hrk
theorem flat_srt {S : Sto} {d : Nat} : ∀ {ks : List Kid}, ks.Pairwise Sep → (∀ k ∈ ks, Nd S d k.row k.es k.φ) → (∀ k ∈ ks, Srt k.es) → Srt (flat ks)
  | [], _, _, _ => List.Pairwise.nil
  | k :: ks, h1, h2, h3 => by
    obtain ⟨a, b⟩ := List.pairwise_cons.mp h1
    show Srt (k.es ++ flat ks)
    refine List.pairwise_append.mpr ⟨h3 k List.mem_cons_self, flat_srt b (fun x hx => h2 x (List.mem_cons_of_mem _ hx)) fun x hx => h3 x (List.mem_cons_of_mem _ hx), fun r hr t ht => ?_⟩
    obtain ⟨k2, hk2, ht⟩ := List.mem_flatMap.mp ht
    exact kl_lt_le (a k2 hk2 r hr) (Nd.low (h2 k2 (List.mem_cons_of_mem _ hk2)) t ht)
theorem Nd.srt {S : Sto} : ∀ {d : Nat} {p : Row} {es : List Row} {φ : Nat}, Nd S d p es φ → Srt es
  | 0, _, _, _, ⟨_, _, h3, _⟩ => h3
  | d + 1, _, _, _, ⟨ks, _, _, h3, h4, _, e2, _⟩ => by
    subst e2
    exact flat_srt h3 (fun k hk => (h4 k hk).2) fun k hk => Nd.srt (h4 k hk).2
theorem Nd.fit {S : Sto} : ∀ {d : Nat} {p : Row} {es : List Row} {φ : Nat}, Nd S d p es φ → ∀ r ∈ es, r.Fit
  | 0, _, _, _, ⟨_, _, _, h4, _⟩, r, hr => h4 r hr
  | d + 1, _, _, _, ⟨ks, _, _, _, h4, _, e2, _⟩, r, hr => by
    subst e2
    obtain ⟨k, hk, hr⟩ := List.mem_flatMap.mp hr
    exact Nd.fit (h4 k hk).2 r hr
theorem Nd.mono {S : Sto} {d : Nat} {p : Row} {es : List Row} {φ ψ : Nat} (h : Nd S d p es φ) (l : φ ≤ ψ) : Nd S d p es ψ := by
  cases d with
  | zero => obtain ⟨h1, h2, h3, h4, h5, h6⟩ := h; exact ⟨h1, h2, h3, h4, h5, Nat.le_trans h6 l⟩
  | succ d => obtain ⟨ks, h1, h2, h3, h4, h5, h6, h7⟩ := h; exact ⟨ks, h1, h2, h3, h4, h5, h6, Nat.le_trans h7 l⟩
/-! ### saving rows -/
def Sv (S : Sto) (kd : Int) (rs : List Row) (r : Row) : Prop := (∃ x rest, rs = x :: rest ∧ r.key = x.key) ∧ r.Fit ∧ Rec S r.ad r.ln kd (wnode rs)
def Saved (S : Sto) (kd : Int) (rs out : List Row) : Prop := (rs = [] ∧ out = []) ∨ (1 ≤ rs.length ∧ rs.length ≤ 8 ∧ ∃ r, out = [r] ∧ Sv S kd rs r) ∨ (rs.length = 9 ∧ ∃ r1 r2, out = [r1, r2] ∧ Sv S kd (rs.take 5) r1 ∧ Sv S kd (rs.drop 5) r2)
def Mad (S : Sto) (d : Nat) (ms : List Kid) (es : List Row) : Prop := (∀ m ∈ ms, m.row.Fit ∧ Nd S d m.row m.es m.φ) ∧ ms.Pairwise Sep ∧ flat ms = es
/-- the key of the first -/
def HeadK (out : List Row) (P : List Int → Prop) : Prop := ∀ x rest, out = x :: rest → P x.key
theorem saved_leaf {S : Sto} {rs out : List Row} (h : Saved S 1 rs out) (hs : Srt rs) (hf : ∀ r ∈ rs, r.Fit) {P : List Int → Prop} (hP : HeadK rs P) : ∃ ms : List Kid, ms.map (·.row) = out ∧ Mad S 0 ms rs ∧ HeadK out P ∧ phis ms + 4 * (ms.length - 1) ≤ rs.length - 5 ∧ ms.length ≤ 2 ∧ (rs ≠ [] → ms ≠ []) ∧ (rs.length ≤ 8 → ms.length ≤ 1) := by
  rcases h with ⟨rfl, rfl⟩ | ⟨h1, h2, r, rfl, ⟨x, rest, e, e2⟩, h4, h5⟩ | ⟨h9, r1, r2, rfl, ⟨⟨x, rest, e, e2⟩, h4, h5⟩, ⟨y, rest2, e3, e4⟩, h6, h7⟩
  · exact ⟨[], rfl, ⟨fun m hm => by simp at hm, List.Pairwise.nil, rfl⟩, fun x r e => by simp at e, by simp [phis], by simp, fun n => absurd rfl n, fun _ => by simp⟩
  · refine ⟨[⟨r, rs, rs.length - 5⟩], rfl, ⟨fun m hm => ?_, List.pairwise_singleton _ _, by simp [flat]⟩, fun z l ez => ?_, by simp [phis], by simp, fun _ => by simp, fun _ => by simp⟩
    · rw [List.mem_singleton.mp hm]
      exact ⟨h4, ⟨x, rest, e, e2⟩, h2, hs, hf, h5, Nat.le_refl _⟩
    · cases ez
      rw [e2]
      exact hP _ _ e
  · have hsp : rs.take 5 ++ rs.drop 5 = rs := List.take_append_drop 5 rs
    have l1 : (rs.take 5).length = 5 := by rw [List.length_take]; omega
    have l2 : (rs.drop 5).length = 4 := by rw [List.length_drop]; omega
    rw [← hsp] at hs
    obtain ⟨p1, p2, p3⟩ := List.pairwise_append.mp hs
    refine ⟨[⟨r1, rs.take 5, 0⟩, ⟨r2, rs.drop 5, 0⟩], rfl, ⟨fun m hm => ?_, ?_, by simp [flat]⟩, fun z l ez => ?_, by simp [phis]; omega, by simp, fun _ => by simp, fun h => by omega⟩
    · rcases List.mem_cons.mp hm with rfl | hm
      · exact ⟨h4, ⟨x, rest, e, e2⟩, by rw [l1]; decide, p1, fun r hr => hf r (List.mem_of_mem_take hr), h5, by rw [l1]; exact Nat.le_refl 0⟩
      · rw [List.mem_singleton.mp hm]
        exact ⟨h6, ⟨y, rest2, e3, e4⟩, by rw [l2]; decide, p2, fun r hr => hf r (List.mem_of_mem_drop hr), h7, by rw [l2]; exact Nat.zero_le _⟩
    · refine List.pairwise_cons.mpr ⟨fun k hk => ?_, List.pairwise_singleton _ _⟩
      rw [List.mem_singleton.mp hk]
      intro r hr
      show kl r.key r2.key = true
      rw [e4]
      exact p3 r hr y (by rw [e3]; exact List.mem_cons_self)
    · cases ez
      rw [e2]
      refine hP x (rest ++ rs.drop 5) ?_
      conv => lhs; rw [← hsp, e]
      rfl
theorem flat_append (A B : List Kid) : flat (A ++ B) = flat A ++ flat B := List.flatMap_append
theorem saved_inner {S : Sto} {d : Nat} {R : List Kid} {out : List Row} (h : Saved S 2 (R.map (·.row)) out) (hs : R.Pairwise Sep) (hf : ∀ k ∈ R, k.row.Fit ∧ Nd S d k.row k.es k.φ) {P : List Int → Prop} (hP : HeadK (R.map (·.row)) P) :
    ∃ ms : List Kid, ms.map (·.row) = out ∧ Mad S (d + 1) ms (flat R) ∧ HeadK out P ∧ phis ms + 4 ^ (d + 2) * (ms.length - 1) ≤ 4 ^ (d + 1) * (R.length - 5) + phis R ∧ ms.length ≤ 2 ∧ (R ≠ [] → ms ≠ []) ∧ (R.length ≤ 8 → ms.length ≤ 1) := by
  have cons_of : ∀ {L : List Kid} {x : Row} {rest : List Row}, L.map (·.row) = x :: rest → ∃ k l, L = k :: l ∧ k.row = x := fun {L x rest} e => by
    cases L with
    | nil => simp at e
    | cons k l => exact ⟨k, l, rfl, (List.cons.inj e).1⟩
  rcases h with ⟨h0, rfl⟩ | ⟨h1, h2, r, rfl, ⟨x, rest, e, e2⟩, h4, h5⟩ | ⟨h9, r1, r2, rfl, ⟨⟨x, rest, e, e2⟩, h4, h5⟩, ⟨y, rest2, e3, e4⟩, h6, h7⟩
  · have : R = [] := List.map_eq_nil_iff.mp h0
    subst this
    exact ⟨[], rfl, ⟨fun m hm => by simp at hm, List.Pairwise.nil, rfl⟩, fun x r e => by simp at e, by simp [phis], by simp, fun n => absurd rfl n, fun _ => by simp⟩
  · rw [List.length_map] at h1 h2
    obtain ⟨k, l, ek, ek2⟩ := cons_of e
    refine ⟨[⟨r, flat R, 4 ^ (d + 1) * (R.length - 5) + phis R⟩], rfl, ⟨fun m hm => ?_, List.pairwise_singleton _ _, by simp [flat]⟩, fun z l ez => ?_, by simp [phis], by simp, fun _ => by simp, fun _ => by simp⟩
    · rw [List.mem_singleton.mp hm]
      exact ⟨h4, R, ⟨k, l, ek, by rw [ek2]; exact e2⟩, h2, hs, hf, h5, rfl, Nat.le_refl _⟩
    · cases ez
      rw [e2]
      exact hP _ _ e
  · rw [List.length_map] at h9
    rw [← List.map_take] at e h5
    rw [← List.map_drop] at e3 h7
    have hsp : R.take 5 ++ R.drop 5 = R := List.take_append_drop 5 R
    have l1 : (R.take 5).length = 5 := by rw [List.length_take]; omega
    have l2 : (R.drop 5).length = 4 := by rw [List.length_drop]; omega
    obtain ⟨k, l, ek, ek2⟩ := cons_of e
    obtain ⟨k', l', ek', ek2'⟩ := cons_of e3
    have hs' := hs
    rw [← hsp] at hs'
    obtain ⟨p1, p2, p3⟩ := List.pairwise_append.mp hs'
    have hphi : phis R = phis (R.take 5) + phis (R.drop 5) := by
      conv => lhs; rw [← hsp]
      simp only [phis, List.map_append, List.sum_append]
    refine ⟨[⟨r1, flat (R.take 5), phis (R.take 5)⟩, ⟨r2, flat (R.drop 5), phis (R.drop 5)⟩], rfl, ⟨fun m hm => ?_, ?_, ?_⟩, fun z l ez => ?_, ?_, by simp, fun _ => by simp, fun h => by omega⟩
    · rcases List.mem_cons.mp hm with rfl | hm
      · exact ⟨h4, R.take 5, ⟨k, l, ek, by rw [ek2]; exact e2⟩, by rw [l1]; decide, p1, fun r hr => hf r (List.mem_of_mem_take hr), h5, rfl, by rw [l1]; simp⟩
      · rw [List.mem_singleton.mp hm]
        exact ⟨h6, R.drop 5, ⟨k', l', ek', by rw [ek2']; exact e4⟩, by rw [l2]; decide, p2, fun r hr => hf r (List.mem_of_mem_drop hr), h7, rfl, by rw [l2]; simp⟩
    · refine List.pairwise_cons.mpr ⟨fun b hb => ?_, List.pairwise_singleton _ _⟩
      rw [List.mem_singleton.mp hb]
      intro r hr
      show kl r.key r2.key = true
      obtain ⟨a, ha, hr⟩ := List.mem_flatMap.mp hr
      rw [e4, ← ek2']
      exact p3 a ha k' (by rw [ek']; exact List.mem_cons_self) r hr
    · show flat (R.take 5) ++ (flat (R.drop 5) ++ []) = flat R
      rw [List.append_nil, ← flat_append, hsp]
    · cases ez
      rw [e2, ← ek2]
      refine hP k.row ((l ++ R.drop 5).map (·.row)) ?_
      conv => lhs; rw [← hsp, ek]
      rfl
    · show phis (R.take 5) + (phis (R.drop 5) + 0) + 4 ^ (d + 2) * (2 - 1) ≤ _
      rw [hphi, h9, Nat.pow_succ 4 (d + 1)]
      omega
end Tz
namespace Tz
open PySem PySem.Spec PyProof.Rows L2
/-- a new object o is given back, all else stands -/
abbrev Out (H : Hp) (Q : VK) (o : HO) : Prop := ∀ (l : Addr) (H' : Hp), H l = none → Same H H' → H' l = some o → Q (.ref l) H'
def Big : Int := 1000000000000
def spWnum (K : PySem.W.Frag) : Sp := fun vs H Q _ => ∃ n : Int, vs = [.int n] ∧ 0 ≤ n ∧ n < Big ∧ Out H Q (.lst (iv (wnum n)))
def spWint (K : PySem.W.Frag) : Sp := fun vs H Q _ => ∃ z : Int, vs = [.int z] ∧ -Big < 2 * z + 1 ∧ 2 * z < Big ∧ Out H Q (.lst (iv (wint z)))
theorem wnum_len10 {n : Int} (h0 : 0 ≤ n) (h : n < Big) : (wnum n).length ≤ 10 := wnum_len 9 h0 (by unfold Big at h; omega)
section
variable {P : Program} {w : World} {K : PySem.W.Frag} {mg : Str → Option Value} {base : Heap}
theorem sc_wn : FnScope ["number", "values"] ["number"] (defScope (top 40)) := ⟨rfl, rfl, rfl, by decide +kernel, rfl, by decide +kernel, by decide +kernel⟩
theorem c_wn (T : Tx K mg) : C8.Cal P w K mg base 1 "write_number" (spWnum K) [] := by
  refine cal_of T.f_write_number (fun _ _ _ _ _ _ us hl => match us, hl with | [_], _ => rfl) sc_wn (fun vs H Q E h => ?_) (fun f cdv A outer s H vs Q E hr h => ?_)
  · obtain ⟨n, rfl, _⟩ := h
    rfl
  · obtain ⟨n, rfl, hn0, hnB, k⟩ := h
    have nd := sc_wn.nd
    refine ⟨_, pss_cons (ps_set (i := 1) nd rfl (.inl rfl) (pe_lst pa_nil))
      (pss_cons (ps_while PassesOwn.never (pt_cmpR op_ge (pv 0) (pe_gi (by rfl) T.i_BASE) (nomark _))
        (pss_cons (ps_expr (pe_bm PySem.F.plainAttrs_list PySem.F.slot_list_append PySem.F.type_list_append mt_append (pv 1) (pa_cons (pe_op op_add (pe_gi (by rfl) T.i_BASE) (pe_op op_modN (pv 0) (pe_gi (by rfl) T.i_BASE))) pa_nil)))
          (pss_one (ps_set (i := 0) nd rfl (.inl rfl) (pe_op op_fdivN (pv 0) (pe_gi (by rfl) T.i_BASE))))))
      (pss_cons (ps_expr (pe_bm PySem.F.plainAttrs_list PySem.F.slot_list_append PySem.F.type_list_append mt_append (pv 1) (pa_cons (pv 0) pa_nil)))
      (pss_one (ps_ret (pv 1))))), ?_⟩
    refine ⟨by decide, fun l hl => ?_⟩
    refine ⟨fun m σ H' => Same H H' ∧ ∃ (pre : List Int) (q : Int), 0 ≤ q ∧ m = q.toNat ∧ pre ++ wnum q = wnum n ∧ H' l = some (.lst (iv pre)) ∧ σ = [some (.int q), some (.ref l)],
      ⟨_, same_upd0 hl, [], n, hn0, rfl, rfl, upd_same, rfl⟩, ?_⟩
    rintro m σ H' ⟨hs, pre, q, hq, rfl, he, hL, rfl⟩
    have hlen := congrArg List.length he
    rw [List.length_append] at hlen
    have h10 := wnum_len10 hn0 hnB
    have hp1 := wnum_pos q
    refine ⟨_, rfl, q, 125, rfl, rfl, _, rfl, ?_⟩
    refine iteB (fun hb => ?_) fun hb => ?_
    · refine ⟨_, fun _ _ h => h, ?_⟩
      have hw := wnum_big hb
      rw [hw] at he hlen
      rw [List.length_cons] at hlen
      have hq2 := wnum_pos (q / 125)
      refine ⟨_, rfl, .inl ⟨rfl, _, SqL.of hL⟩, _, rfl, q, 125, rfl, rfl, (show (125 : Int) ≠ 0 by decide), 125, _, rfl, rfl, l, _, _, rfl, rfl, hL, ?_, ?_⟩
      · rw [List.length_map, sizeLine_eq]; omega
      · refine ⟨_, rfl, q, 125, rfl, rfl, ⟨by decide, by decide⟩, (q / 125).toNat, by omega, same_updD hs hl, pre ++ [125 + q % 125], q / 125, by omega, rfl, ?_, ?_, ?_⟩
        · rw [← he]; simp
        · rw [upd_same, Int.fmod_eq_emod_of_nonneg _ (by decide)]; simp
        · simp [Int.fdiv_eq_ediv_of_nonneg _ (show (0 : Int) ≤ 125 by decide)]
    · rw [wnum_small hq (by omega)] at he
      refine ⟨_, rfl, .inl ⟨rfl, _, SqL.of hL⟩, _, rfl, l, _, _, rfl, rfl, hL, ?_, ?_⟩
      · rw [List.length_map, sizeLine_eq]; omega
      · refine ⟨_, rfl, k l _ hl (same_updD hs hl) ?_⟩
        rw [upd_same, ← he]
        simp
theorem sc_wi : FnScope ["number"] ["number"] (defScope (top 41)) := ⟨rfl, rfl, rfl, by decide +kernel, rfl, by decide +kernel, by decide +kernel⟩
theorem c_wi (T : Tx K mg) : C8.Cal P w K mg base 2 "write_integer" (spWint K) [] := by
  refine cal_of T.f_write_integer (fun _ _ _ _ _ _ us hl => match us, hl with | [_], _ => rfl) sc_wi (fun vs H Q E h => ?_) (fun f cdv A outer s H vs Q E hr h => ?_)
  · obtain ⟨n, rfl, _⟩ := h
    rfl
  · obtain ⟨z, rfl, h1, h2, k⟩ := h
    have nd := sc_wi.nd
    refine ⟨_, pss_cons (ps_if (pt_cmpR op_lt (pv 0) pe_int (nomark _)) (pss_one (ps_ret (C8.pe_c (c_wn T) hr (by decide) rfl (pa_cons (pe_op op_sub (pe_op op_mul (pe_un un_neg pe_int) (pv 0)) pe_int) pa_nil)))) pss_nil)
      (pss_one (ps_ret (C8.pe_c (c_wn T) hr (by decide) rfl (pa_cons (pe_op op_mul pe_int (pv 0)) pa_nil)))), ?_⟩
    refine ⟨_, rfl, z, 0, rfl, rfl, _, rfl, ?_⟩
    unfold wint at k
    refine iteB (fun hb => ?_) fun hb => ?_
    · rw [if_pos hb] at k
      refine ⟨2, rfl, _, rfl, -2, z, rfl, rfl, .inl ⟨by decide, by decide⟩, -2 * z, 1, rfl, rfl, -2 * z - 1, rfl, by omega, by omega, k⟩
    · rw [if_neg hb] at k
      exact ⟨_, rfl, 2, z, rfl, rfl, .inl ⟨by decide, by decide⟩, 2 * z, rfl, by omega, by omega, k⟩
/-- ints that are small -/
def Sml (ks : List Int) : Prop := (∀ k ∈ ks, -100000 ≤ k ∧ k ≤ 100000) ∧ ks.length ≤ 1000
theorem sml_B {z : Int} (h : -100000 ≤ z ∧ z ≤ 100000) : -Big < 2 * z + 1 ∧ 2 * z < Big := by unfold Big; omega
theorem wint_len10 {z : Int} (h : -100000 ≤ z ∧ z ≤ 100000) : (wint z).length ≤ 10 := by
  unfold wint
  split
  · exact wnum_len10 (by omega) (by unfold Big; omega)
  · exact wnum_len10 (by omega) (by unfold Big; omega)
theorem flat_le {α : Type} {f : α → List Int} {c : Nat} : ∀ {l : List α}, (∀ x ∈ l, (f x).length ≤ c) → (l.flatMap f).length ≤ c * l.length
  | [], _ => by simp
  | x :: l, h => by
    have := flat_le (l := l) fun y hy => h y (List.mem_cons_of_mem _ hy)
    have h1 := h x List.mem_cons_self
    simp only [List.flatMap_cons, List.length_append, List.length_cons, Nat.mul_add]
    omega
def spWints (K : PySem.W.Frag) : Sp := fun vs H Q _ => ∃ (v : V) (ks : List Int), vs = [v] ∧ TupI K H v ks ∧ Sml ks ∧ Out H Q (.lst (iv (wints ks)))
theorem sc_ws : FnScope ["numbers", "values", "number"] ["numbers"] (defScope (top 42)) := ⟨rfl, rfl, rfl, by decide +kernel, rfl, by decide +kernel, by decide +kernel⟩
theorem c_ws (T : Tx K mg) : C8.Cal P w K mg base 3 "write_integers" (spWints K) [] := by
  refine cal_of T.f_write_integers (fun _ _ _ _ _ _ us hl => match us, hl with | [_], _ => rfl) sc_ws (fun vs H Q E h => ?_) (fun f cdv A outer s H vs Q E hr h => ?_)
  · obtain ⟨v, n, rfl, _⟩ := h
    rfl
  · obtain ⟨v, ks, rfl, ⟨a, rfl, ha⟩, hk, k⟩ := h
    have nd := sc_ws.nd
    refine ⟨_, pss_cons (ps_set (i := 1) nd rfl (.inl rfl) (C8.pe_c (c_wn T) hr (by decide) rfl (pa_cons (pe_callB call_len (by rfl) T.n_len PySem.boot_len (pa_cons (pv 0) pa_nil)) pa_nil)))
      (pss_cons (ps_for PassesOwn.never rfl (pi_tup (pv 0)) (pg_name (i := 2) nd rfl (.inl rfl))
        (pss_one (ps_expr (pe_bm PySem.F.plainAttrs_list PySem.F.slot_list_extend PySem.F.type_list_extend mt_extend (pv 1) (pa_cons (C8.pe_c (c_wi T) hr (by decide) rfl (pa_cons (pv 2) pa_nil)) pa_nil)))))
      (pss_one (ps_ret (pv 1)))), ?_⟩
    refine ⟨_, rfl, _, _, rfl, .inr ⟨_, ha, rfl⟩, ((iv ks).length : Int), rfl, by omega, by unfold Big; simp; have := hk.2; omega, fun l H1 hl hs1 hL => ?_⟩
    refine ⟨_, rfl, a, rfl, ⟨_, Same.sqT hs1 ha⟩, for_tup (K := K) (a := a) (xs := iv ks) (fun i σ H' => Same H H' ∧ H' l = some (.lst (iv (wnum ks.length ++ (ks.take i).flatMap wint))) ∧ ∃ z, σ = [some (.ref a), some (.ref l), z])
      ⟨hs1, by rw [hL]; simp, _, rfl⟩ (fun i σ H' _ h => Same.sqT h.1 ha) ?_ ?_⟩
    · rintro i x σ H' hx ⟨hs, h1, z, rfl⟩
      obtain ⟨n, hn, rfl⟩ := iv_get hx
      have hm := List.mem_of_getElem? hn
      have hb := sml_B (hk.1 n hm)
      refine ⟨_, rfl, .inl ⟨rfl, _, SqL.of h1⟩, _, rfl, n, rfl, hb.1, hb.2, fun l2 H2 hl2 hs2 hL2 => ?_⟩
      have hll : H2 l = some (.lst (iv (wnum ks.length ++ (ks.take i).flatMap wint))) := hs2 _ _ h1
      refine ⟨l, l2, _, _, rfl, rfl, hll, hL2, ?_, same_updD (hs.trans hs2) hl, ?_, some (.int n), rfl⟩
      · simp only [List.length_map, List.length_append]
        have e1 := wnum_len10 (n := ks.length) (by omega) (by unfold Big; have := hk.2; omega)
        have e2 := flat_le (f := wint) (c := 10) (l := ks.take i) fun x hx => wint_len10 (hk.1 x (List.mem_of_mem_take hx))
        have e3 := wint_len10 (hk.1 n hm)
        have e4 : (ks.take i).length ≤ 1000 := by rw [List.length_take]; have := hk.2; omega
        rw [sizeLine_eq]
        omega
      · rw [upd_same, take_snoc hn]
        simp
    · rintro σ H' ⟨hs, h1, z, rfl⟩
      refine ⟨_, rfl, k l H' hl hs ?_⟩
      rw [h1, List.length_map, List.take_length]
      rfl
end
end Tz
namespace Tz
open PySem PySem.Spec PyProof.Rows L2
def spWbytes (K : PySem.W.Frag) : Sp := fun vs H Q _ => ∃ (a : Addr) (xs : List Int), vs = [.ref a] ∧ H a = some (.lst (iv xs)) ∧ xs.length ≤ 100000 ∧ Out H Q (.lst (iv (wbytes xs)))
def spChk (K : PySem.W.Frag) : Sp := fun vs H Q _ => ∃ (a : Addr) (xs : List Int), vs = [.ref a] ∧ SqL K H a (iv xs) ∧ Out H Q (.lst (iv (chk xs)))
def spMkrec (K : PySem.W.Frag) : Sp := fun vs H Q _ => ∃ (a : Addr) (kd : Int) (xs : List Int), vs = [.int kd, .ref a] ∧ SqL K H a (iv xs) ∧ xs.length ≤ 1000000 ∧ Out H Q (.lst (iv (mkrec kd xs)))
section
variable {P : Program} {w : World} {K : PySem.W.Frag} {mg : Str → Option Value} {base : Heap}
theorem sc_wb : FnScope ["values", "found", "value"] ["values"] (defScope (top 43)) := ⟨rfl, rfl, rfl, by decide +kernel, rfl, by decide +kernel, by decide +kernel⟩
theorem c_wb (T : Tx K mg) : C8.Cal P w K mg base 2 "write_bytes" (spWbytes K) [] := by
  refine cal_of T.f_write_bytes (fun _ _ _ _ _ _ us hl => match us, hl with | [_], _ => rfl) sc_wb (fun vs H Q E h => ?_) (fun f cdv A outer s H vs Q E hr h => ?_)
  · obtain ⟨v, n, rfl, _⟩ := h
    rfl
  · obtain ⟨a, xs, rfl, ha, hz, k⟩ := h
    have nd := sc_wb.nd
    refine ⟨_, pss_cons (ps_set (i := 1) nd rfl (.inl rfl) (C8.pe_c (c_wn T) hr (by decide) rfl (pa_cons (pe_callB call_len (by rfl) T.n_len PySem.boot_len (pa_cons (pv 0) pa_nil)) pa_nil)))
      (pss_cons (ps_for PassesOwn.never rfl (pi_list (pv 0)) (pg_name (i := 2) nd rfl (.inl rfl))
        (pss_one (ps_if (pt_cmpR op_lt (pv 2) (pe_gi (by rfl) T.i_HIGHEST) (nomark _))
          (pss_one (ps_expr (pe_bm PySem.F.plainAttrs_list PySem.F.slot_list_append PySem.F.type_list_append mt_append (pv 1) (pa_cons (pv 2) pa_nil))))
          (pss_cons (ps_expr (pe_bm PySem.F.plainAttrs_list PySem.F.slot_list_append PySem.F.type_list_append mt_append (pv 1) (pa_cons (pe_gi (by rfl) T.i_HIGHEST) pa_nil)))
            (pss_one (ps_expr (pe_bm PySem.F.plainAttrs_list PySem.F.slot_list_append PySem.F.type_list_append mt_append (pv 1) (pa_cons (pe_op op_sub (pv 2) (pe_gi (by rfl) T.i_HIGHEST)) pa_nil))))))))
      (pss_one (ps_ret (pv 1)))), ?_⟩
    refine ⟨_, rfl, _, _, rfl, .inl ⟨_, SqL.of ha, rfl⟩, ((iv xs).length : Int), rfl, by omega, by unfold Big; simp; omega, fun l H1 hl hs1 hL => ?_⟩
    refine ⟨_, rfl, a, rfl, ⟨_, SqL.of (hs1 _ _ ha)⟩, for_list (K := K) (a := a) (xs := iv xs) (fun i σ H' => Same H H' ∧ H' l = some (.lst (iv (wnum xs.length ++ (xs.take i).flatMap wbyte))) ∧ ∃ z, σ = [some (.ref a), some (.ref l), z])
      ⟨hs1, by rw [hL]; simp, _, rfl⟩ (fun i σ H' _ h => SqL.of (h.1 _ _ ha)) ?_ ?_⟩
    · rintro i x σ H' hx ⟨hs, h1, z, rfl⟩
      obtain ⟨n, hn, rfl⟩ := iv_get hx
      have e1 := wnum_len10 (n := xs.length) (by omega) (by unfold Big; omega)
      have e2 := flat_le (f := wbyte) (c := 2) (l := xs.take i) fun x hx => (wbyte_len x).2
      have e4 : (xs.take i).length ≤ 100000 := by rw [List.length_take]; omega
      have hlen : (iv (wnum xs.length ++ (xs.take i).flatMap wbyte)).length + 3 < sizeLine := by
        simp only [List.length_map, List.length_append]; rw [sizeLine_eq]; omega
      refine ⟨_, rfl, n, 249, rfl, rfl, _, rfl, ?_⟩
      refine iteB (fun hb => ?_) fun hb => ?_
      · refine ⟨_, rfl, .inl ⟨rfl, _, SqL.of h1⟩, _, rfl, l, _, _, rfl, rfl, h1, by omega, same_updD hs hl, ?_, some (.int n), rfl⟩
        rw [upd_same, take_snoc hn]
        simp [wbyte, hb]
      · refine ⟨_, rfl, .inl ⟨rfl, _, SqL.of h1⟩, l, _, _, rfl, rfl, h1, by omega, ?_⟩
        refine ⟨_, rfl, .inl ⟨rfl, _, SqL.of upd_same⟩, _, rfl, n, 249, rfl, rfl, l, _, _, rfl, rfl, upd_same, by rw [List.length_append]; simp only [List.length_singleton]; omega, same_updD (same_updD hs hl) hl, ?_, some (.int n), rfl⟩
        rw [upd_same, take_snoc hn]
        simp [wbyte, hb]
    · rintro σ H' ⟨hs, h1, z, rfl⟩
      refine ⟨_, rfl, k l H' hl hs ?_⟩
      rw [h1, List.length_map, List.take_length]
      rfl
theorem sc_chk : FnScope ["values", "total"] ["values"] (defScope (top 50)) := ⟨rfl, rfl, rfl, by decide +kernel, rfl, by decide +kernel, by decide +kernel⟩
theorem c_chk (T : Tx K mg) : C8.Cal P w K mg base 1 "check_of" (spChk K) [] := by
  refine cal_of T.f_check_of (fun _ _ _ _ _ _ us hl => match us, hl with | [_], _ => rfl) sc_chk (fun vs H Q E h => ?_) (fun f cdv A outer s H vs Q E hr h => ?_)
  · obtain ⟨v, n, rfl, _⟩ := h
    rfl
  · obtain ⟨a, xs, rfl, ha, k⟩ := h
    have nd := sc_chk.nd
    refine ⟨_, pss_cons (ps_set (i := 1) nd rfl (.inl rfl) (pe_op op_modN (pe_callB (cr_sum rfl) (by rfl) T.n_sum (by decide +kernel) (pa_cons (pv 0) pa_nil)) pe_int))
      (pss_one (ps_ret (pe_lst (pa_cons (pe_op op_fdivN (pv 1) pe_int) (pa_cons (pe_op op_modN (pv 1) pe_int) pa_nil))))), ?_⟩
    refine ⟨_, rfl, a, xs, rfl, ha, xs.sum, 62500, rfl, rfl, (show (62500 : Int) ≠ 0 by decide), ?_⟩
    refine ⟨_, rfl, _, 250, rfl, rfl, ⟨by decide, by decide⟩, _, rfl, _, 250, rfl, rfl, (show (250 : Int) ≠ 0 by decide), (by show 2 ≤ sizeLine; decide), fun l hl => ?_⟩
    refine k l _ hl (same_upd0 hl) ?_
    rw [upd_same, Int.fmod_eq_emod_of_nonneg _ (show (0 : Int) ≤ 62500 by decide)]
    simp [chk, Int.fmod_eq_emod_of_nonneg _ (show (0 : Int) ≤ 250 by decide), Int.fdiv_eq_ediv_of_nonneg _ (show (0 : Int) ≤ 250 by decide)]
theorem sc_mr : FnScope ["kind", "content", "values"] ["kind", "content"] (defScope (top 55)) := ⟨rfl, rfl, rfl, by decide +kernel, rfl, by decide +kernel, by decide +kernel⟩
theorem c_mr (T : Tx K mg) : C8.Cal P w K mg base 2 "make_record" (spMkrec K) [] := by
  refine cal_of T.f_make_record (fun _ _ _ _ _ _ us hl => match us, hl with | [_, _], _ => rfl) sc_mr (fun vs H Q E h => ?_) (fun f cdv A outer s H vs Q E hr h => ?_)
  · obtain ⟨a, kd, xs, rfl, _⟩ := h
    rfl
  · obtain ⟨a, kd, xs, rfl, ha, hz, k⟩ := h
    have nd := sc_mr.nd
    refine ⟨_, pss_cons (ps_set (i := 2) nd rfl (.inl rfl) (pe_op op_cat (pe_lst (pa_cons (pv 0) pa_nil)) (pe_callTy call_list_of (by rfl) T.n_list (by decide +kernel) (pa_cons (pv 1) pa_nil))))
      (pss_one (ps_ret (pe_op op_cat (pv 2) (C8.pe_c (c_chk T) hr (by decide) rfl (pa_cons (pv 2) pa_nil))))), ?_⟩
    refine ⟨_, rfl, (by show 1 ≤ sizeLine; decide), fun l hl => ⟨_, rfl, a, _, rfl, .inl (same_sqL (same_upd0 hl) ha), fun l2 hl2 => ?_⟩⟩
    have n2 : l ≠ l2 := fun z => by rw [← z, upd_same] at hl2; cases hl2
    refine ⟨l, l2, [.int kd], iv xs, rfl, rfl, (by rw [upd_ne n2, upd_same]), upd_same, by simp only [List.length_map, List.length_singleton]; rw [sizeLine_eq]; omega, fun p hp => ?_⟩
    refine ⟨_, rfl, _, rfl, p, kd :: xs, rfl, SqL.of upd_same, fun c H2 hc hs2 hC => ?_⟩
    have hp2 : H2 p = some (.lst (iv (kd :: xs))) := hs2 _ _ upd_same
    refine ⟨p, c, iv (kd :: xs), iv (chk (kd :: xs)), rfl, rfl, hp2, hC, by simp only [List.length_map, List.length_cons, chk_len]; rw [sizeLine_eq]; omega, fun q hq => ?_⟩
    have sAll : Same H H2 := fun b o e => hs2 b o (by
      have h1 := ne_of_none e hl
      have h2 : b ≠ l2 := fun z => by
        subst z
        rw [upd_ne h1, e] at hl2; cases hl2
      have h3 : b ≠ p := fun z => by
        subst z
        rw [upd_ne h2, upd_ne h1, e] at hp; cases hp
      rw [upd_ne h3, upd_ne h2, upd_ne h1]; exact e)
    exact k q _ (sAll.free hq) (same_updD sAll (sAll.free hq)) (by rw [upd_same]; unfold mkrec; simp)
end
end Tz
namespace Tz
open PySem PySem.Spec PyProof.Rows L2
def spByte (K : PySem.W.Frag) : Sp := fun vs H Q _ => ∃ (a : Addr) (bs : List Int) (i : Nat) (b : Int) (x : V), vs = [.ref a, .int i, x] ∧ SqL K H a (iv bs) ∧ bs[i]? = some b ∧ b ≤ 249 ∧ Q (.int b) H
def spRn (K : PySem.W.Frag) : Sp := fun vs H Q _ => ∃ (a : Addr) (bs : List Int) (i : Nat) (n : Int), vs = [.ref a, .int i] ∧ SqL K H a (iv bs) ∧ 0 ≤ n ∧ Has bs i (wnum n) ∧ Out H Q (.tup [.int n, .int ((i + (wnum n).length : Nat) : Int)])
def spRi (K : PySem.W.Frag) : Sp := fun vs H Q _ => ∃ (a : Addr) (bs : List Int) (i : Nat) (z : Int), vs = [.ref a, .int i] ∧ SqL K H a (iv bs) ∧ Has bs i (wint z) ∧ Out H Q (.tup [.int z, .int ((i + (wint z).length : Nat) : Int)])
def spRc (K : PySem.W.Frag) : Sp := fun vs H Q _ => ∃ (a : Addr) (bs : List Int) (i n : Nat), vs = [.ref a, .int i] ∧ SqL K H a (iv bs) ∧ Has bs i (wnum n) ∧ n + (i + (wnum n).length) ≤ bs.length ∧ Out H Q (.tup [.int n, .int ((i + (wnum n).length : Nat) : Int)])
def spRs (K : PySem.W.Frag) : Sp := fun vs H Q _ => ∃ (a : Addr) (bs : List Int) (i : Nat) (ks : List Int), vs = [.ref a, .int i] ∧ SqL K H a (iv bs) ∧ Has bs i (wints ks) ∧ ks.length ≤ 1000 ∧
  ∀ t l H', Same H H' → H' l = some (.lst (iv ks)) → H' t = some (.tup [.ref l, .int ((i + (wints ks).length : Nat) : Int)]) → Q (.ref t) H'
def spRb (K : PySem.W.Frag) : Sp := fun vs H Q _ => ∃ (a : Addr) (bs : List Int) (xs : List Int), vs = [.ref a, .int 0] ∧ SqL K H a (iv bs) ∧ bs = wbytes xs ∧ Byt xs ∧ xs.length ≤ 100000 ∧
  ∀ t l H', Same H H' → H l = none → H' l = some (.lst (iv xs)) → H' t = some (.tup [.ref l, .int (bs.length : Int)]) → Q (.ref t) H'
theorem wnum_low2 {n : Int} (h : 0 ≤ n) {b : Int} (hb : b ∈ wnum n) : b ≤ 249 := (wnum_Low h b hb).2
section
variable {P : Program} {w : World} {K : PySem.W.Frag} {mg : Str → Option Value} {base : Heap}
theorem sc_by : FnScope ["values", "at", "index"] ["values", "at", "index"] (defScope (top 44)) := ⟨rfl, rfl, rfl, by decide +kernel, rfl, by decide +kernel, by decide +kernel⟩
theorem c_by (T : Tx K mg) : C8.Cal P w K mg base 1 "byte_at" (spByte K) [] := by
  refine cal_of T.f_byte_at (fun _ _ _ _ _ _ us hl => match us, hl with | [_, _, _], _ => rfl) sc_by (fun vs H Q E h => ?_) (fun f cdv A outer s H vs Q E hr h => ?_)
  · obtain ⟨a, bs, i, b, x, rfl, _⟩ := h
    rfl
  · obtain ⟨a, bs, i, b, x, rfl, ha, hi, hb, k⟩ := h
    have hib : (iv bs)[i]? = some (.int b) := by rw [List.getElem?_map, hi]; rfl
    have hlt : i < bs.length := (List.getElem?_eq_some_iff.mp hi).1
    refine ⟨_, pss_cons (ps_if (PW.pt (pw_or (pt_cmpR op_lt (pv 1) pe_int (nomark _)) (pw_or (pt_cmpR op_ge (pv 1) (pe_callB call_len (by rfl) T.n_len PySem.boot_len (pa_cons (pv 0) pa_nil)) (nomark _))
        (pw_or1 (pt_cmpR op_gt (pe_ix ix_list (pv 0) (pv 1) (fun _ _ => rfl)) (pe_gi (by rfl) T.i_HIGHEST) (nomark _)))))) (pss_one ps_never) pss_nil)
      (pss_one (ps_ret (pe_ix ix_list (pv 0) (pv 1) (fun _ _ => rfl)))), ?_⟩
    refine ⟨_, rfl, (i : Int), 0, rfl, rfl, _, rfl, ?_⟩
    refine iteKF (by simp) ?_
    refine ⟨_, rfl, _, rfl, _, _, rfl, .inl ⟨_, ha, rfl⟩, (i : Int), ((iv bs).length : Int), rfl, rfl, _, rfl, ?_⟩
    refine iteKF (by simp; omega) ?_
    refine ⟨_, rfl, _, rfl, a, _, _, _, rfl, rfl, ha, atI_nat hib, b, 249, rfl, rfl, _, rfl, ?_⟩
    refine iteKF (by simp; omega) ?_
    exact ⟨_, rfl, _, rfl, a, _, _, _, rfl, rfl, ha, atI_nat hib, k⟩
theorem sc_rn : FnScope ["values", "index", "number", "scale", "at"] ["values", "index"] (defScope (top 45)) := ⟨rfl, rfl, rfl, by decide +kernel, rfl, by decide +kernel, by decide +kernel⟩
theorem c_rn (T : Tx K mg) : C8.Cal P w K mg base 2 "read_number" (spRn K) [] := by
  refine cal_of T.f_read_number (fun _ _ _ _ _ _ us hl => match us, hl with | [_, _], _ => rfl) sc_rn (fun vs H Q E h => ?_) (fun f cdv A outer s H vs Q E hr h => ?_)
  · obtain ⟨a, bs, i, n, rfl, _⟩ := h
    rfl
  · obtain ⟨a, bs, i, n, rfl, ha, hn0, hh, k⟩ := h
    have nd := sc_rn.nd
    refine ⟨_, pss_cons (ps_set (i := 2) nd rfl (.inl rfl) pe_int) (pss_cons (ps_set (i := 3) nd rfl (.inl rfl) pe_int) (pss_cons (ps_set (i := 4) nd rfl (.inl rfl) (pv 1))
      (pss_cons (ps_while PassesOwn.never (pt_cmpR op_ge (C8.pe_c (c_by T) hr (by decide) rfl (pa_cons (pv 0) (pa_cons (pv 4) (pa_cons (pv 1) pa_nil)))) (pe_gi (by rfl) T.i_BASE) (nomark _))
        (pss_cons (ps_aug (i := 2) nd rfl (.inl rfl) (pe_op op_mul (pv 3) (pe_op op_sub (pe_ix ix_list (pv 0) (pv 4) (fun _ _ => rfl)) (pe_gi (by rfl) T.i_BASE))) ip_add)
          (pss_cons (ps_aug (i := 3) nd rfl (.inl rfl) (pe_gi (by rfl) T.i_BASE) iop_mul)
            (pss_one (ps_aug (i := 4) nd rfl (.inl rfl) pe_int ip_add)))))
      (pss_cons (ps_if (PW.pt (pw_and (pt_cmpR op_eq (pe_ix ix_list (pv 0) (pv 4) (fun _ _ => rfl)) pe_int (nomark _)) (pw_and1 (pt_cmpR op_gt (pv 4) (pv 1) (nomark _))))) (pss_one ps_never) pss_nil)
      (pss_one (ps_ret (pe_tup (pa_cons (pe_op op_add (pv 2) (pe_op op_mul (pv 3) (pe_ix ix_list (pv 0) (pv 4) (fun _ _ => rfl)))) (pa_cons (pe_op op_add (pv 4) pe_int) pa_nil))))))))), ?_⟩
    refine ⟨_, rfl, ?_⟩
    refine ⟨fun m σ H' => H' = H ∧ ∃ (done : Nat) (q sc num : Int), 0 ≤ q ∧ Has bs (i + done) (wnum q) ∧ num + sc * q = n ∧ 1 ≤ sc ∧ (done = 0 ∨ 1 ≤ q) ∧ done + (wnum q).length = (wnum n).length ∧ m = q.toNat ∧ σ = [some (.ref a), some (.int i), some (.int num), some (.int sc), some (.int ((i + done : Nat) : Int))],
      ⟨_, rfl, 0, n, 1, 0, hn0, hh, by omega, by omega, .inl rfl, by omega, rfl, rfl⟩, ?_⟩
    rintro m σ H' ⟨rfl, done, q, sc, num, hq, hq2, hnum, hsc, hd, hlen, rfl, rfl⟩
    have hhead : ∃ b rest, wnum q = b :: rest ∧ bs[i + done]? = some b := by
      cases e : wnum q with
      | nil => exact absurd e (wnum_ne q)
      | cons b rest => rw [e] at hq2; exact ⟨b, rest, rfl, hq2.head⟩
    obtain ⟨b, rest, hw, hb⟩ := hhead
    have hbl := wnum_low2 hq (by rw [hw]; exact List.mem_cons_self)
    have hib : (iv bs)[i + done]? = some (.int b) := by rw [List.getElem?_map, hb]; rfl
    refine ⟨_, rfl, _, rfl, _, rfl, a, bs, i + done, b, _, rfl, ha, hb, hbl, b, 125, rfl, rfl, _, rfl, ?_⟩
    refine iteB (fun hc => ?_) fun hc => ?_
    · have hq125 : 125 ≤ q := by
        refine Int.not_lt.mp fun z => ?_
        rw [wnum_small hq z] at hw
        cases hw
        omega
      have hbig := wnum_big hq125
      rw [hw] at hbig
      obtain ⟨rfl, rfl⟩ := List.cons.inj hbig
      refine ⟨_, fun _ _ h => h, ?_⟩
      have hm := Int.emod_nonneg q (show (125 : Int) ≠ 0 by decide)
      have hm2 := Int.emod_lt_of_pos q (show (0 : Int) < 125 by decide)
      refine ⟨_, rfl, _, rfl, _, rfl, _, rfl, a, _, _, _, rfl, rfl, ha, atI_nat hib, _, 125, rfl, rfl, sc, _, rfl, rfl, .inr ⟨by omega, by omega⟩, num, _, rfl, rfl, ?_⟩
      refine ⟨_, rfl, sc, 125, rfl, rfl, .inr ⟨by decide, by decide⟩, ?_⟩
      refine ⟨_, rfl, _, 1, rfl, rfl, (q / 125).toNat, by omega, rfl, done + 1, q / 125, sc * 125, num + sc * (125 + q % 125 - 125), by omega, ?_, ?_, by omega, .inr (by omega), ?_, rfl, ?_⟩
      · rw [hw] at hq2
        exact hq2.tail
      · have e1 : sc * q = sc * (q % 125) + sc * (125 * (q / 125)) := by rw [← Int.mul_add, Int.emod_add_mul_ediv]
        have e2 : sc * 125 * (q / 125) = sc * (125 * (q / 125)) := Int.mul_assoc _ _ _
        have e3 : sc * (125 + q % 125 - 125) = sc * (q % 125) := by congr 1; omega
        omega
      · rw [hw, List.length_cons] at hlen
        omega
      · have e : ((i + (done + 1) : Nat) : Int) = ((i + done : Nat) : Int) + 1 := by push_cast; omega
        rw [e]
        rfl
    · have hq3 : q < 125 := by
        refine Int.not_le.mp fun z => ?_
        rw [wnum_big z] at hw
        cases hw
        have hm := Int.emod_nonneg q (show (125 : Int) ≠ 0 by decide)
        omega
      rw [wnum_small hq hq3] at hw
      cases hw
      rw [wnum_small hq hq3] at hlen
      have hlen : done + 1 = (wnum n).length := hlen
      refine ⟨_, rfl, _, rfl, a, _, _, _, rfl, rfl, ha, atI_nat hib, rfl, _, rfl, ?_⟩
      have rest : tRet (tTup (tCons (tOp (rI0 fun i j => .int (i + j)) (tVar 2) (tOp (rI CMul fun i j => .int (i * j)) (tVar 3) (tOp (rIxL K) (tVar 0) (tVar 4)))) (tCons (tOp (rI0 fun i j => .int (i + j)) (tVar 4) (tC (.int 1))) tNil)))
          { nx := fun _ H' => Q .non H', rt := Q } [some (.ref a), some (.int i), some (.int num), some (.int sc), some (.int ((i + done : Nat) : Int))] H' := by
        refine ⟨_, rfl, _, rfl, _, rfl, _, rfl, a, _, _, _, rfl, rfl, ha, atI_nat hib, sc, q, rfl, rfl, .inr ⟨by omega, by omega⟩, num, _, rfl, rfl, _, rfl, _, 1, rfl, rfl, (by show 2 ≤ sizeLine; decide), fun t ht => ?_⟩
        refine k t _ ht (same_upd0 ht) ?_
        have e : ((i + (done + 1) : Nat) : Int) = ((i + done : Nat) : Int) + 1 := by push_cast; omega
        rw [upd_same, ← hlen, e, ← hnum]
      by_cases h0 : q = 0
      · subst h0
        refine iteK (by simp) ?_
        have hd0 : done = 0 := by rcases hd with z | z <;> omega
        subst hd0
        refine ⟨_, rfl, _, rfl, _, _, rfl, rfl, _, rfl, ?_⟩
        exact iteKF (by simp) rest
      · refine iteKF (by simp [h0]) ?_
        exact iteKF rfl rest
theorem unint_odd {n : Int} (h : n % 2 = 1) : unint n = -((n + 1) / 2) := by unfold unint; rw [if_pos h]
theorem unint_even {n : Int} (h : ¬ n % 2 = 1) : unint n = n / 2 := by unfold unint; rw [if_neg h]
theorem sc_ri : FnScope ["values", "index", "number", "at"] ["values", "index"] (defScope (top 46)) := ⟨rfl, rfl, rfl, by decide +kernel, rfl, by decide +kernel, by decide +kernel⟩
theorem c_ri (T : Tx K mg) : C8.Cal P w K mg base 3 "read_integer" (spRi K) [] := by
  refine cal_of T.f_read_integer (fun _ _ _ _ _ _ us hl => match us, hl with | [_, _], _ => rfl) sc_ri (fun vs H Q E h => ?_) (fun f cdv A outer s H vs Q E hr h => ?_)
  · obtain ⟨a, bs, i, n, rfl, _⟩ := h
    rfl
  · obtain ⟨a, bs, i, z, rfl, ha, hh, k⟩ := h
    have nd := sc_ri.nd
    obtain ⟨n, hn0, hw, hz⟩ := wint_form z
    rw [hw] at hh k
    refine ⟨_, pss_cons (ps_asg (C8.pe_c (c_rn T) hr (by decide) rfl (pa_cons (pv 0) (pa_cons (pv 1) pa_nil))) (pg_tup (by rfl) (pgs_cons (pg_name (i := 2) nd rfl (.inl rfl)) (pgs_cons (pg_name (i := 3) nd rfl (.inl rfl)) pgs_nil))))
      (pss_cons (ps_if (pt_cmpR op_eq (pe_op op_modN (pv 2) pe_int) pe_int (nomark _)) (pss_one (ps_ret (pe_tup (pa_cons (pe_un un_neg (pe_op op_fdivN (pe_op op_add (pv 2) pe_int) pe_int)) (pa_cons (pv 3) pa_nil))))) pss_nil)
      (pss_one (ps_ret (pe_tup (pa_cons (pe_op op_fdivN (pv 2) pe_int) (pa_cons (pv 3) pa_nil)))))), ?_⟩
    refine ⟨_, rfl, _, rfl, a, bs, i, n, rfl, ha, hn0, hh, fun t H1 ht hs hT => ?_⟩
    refine ⟨t, _, rfl, SqT.of hT, rfl, _, _, rfl, _, _, rfl, rfl, ?_⟩
    refine ⟨_, rfl, n, 2, rfl, rfl, (show (2 : Int) ≠ 0 by decide), rfl, _, rfl, ?_⟩
    have fm : n.fmod 2 = n % 2 := Int.fmod_eq_emod_of_nonneg _ (by decide)
    have fd : ∀ m : Int, m.fdiv 2 = m / 2 := fun m => Int.fdiv_eq_ediv_of_nonneg _ (by decide)
    by_cases hc : n % 2 = 1
    · refine iteK (by simp [fm, hc]) ?_
      refine ⟨_, rfl, n, 1, rfl, rfl, _, 2, rfl, rfl, ⟨by decide, by decide⟩, _, rfl, _, rfl, (by show 2 ≤ sizeLine; decide), fun q hq => ?_⟩
      refine k q _ (hs.free hq) (same_updD hs (hs.free hq)) ?_
      rw [upd_same, ← hz, unint_odd hc]
      simp [fd]
    · refine iteKF (by simp [fm, hc]) ?_
      refine ⟨_, rfl, n, 2, rfl, rfl, ⟨by decide, by decide⟩, _, rfl, (by show 2 ≤ sizeLine; decide), fun q hq => ?_⟩
      refine k q _ (hs.free hq) (same_updD hs (hs.free hq)) ?_
      rw [upd_same, ← hz, unint_even hc]
      simp [fd]
theorem sc_rc : FnScope ["values", "index", "count", "at"] ["values", "index"] (defScope (top 47)) := ⟨rfl, rfl, rfl, by decide +kernel, rfl, by decide +kernel, by decide +kernel⟩
theorem c_rc (T : Tx K mg) : C8.Cal P w K mg base 3 "read_count" (spRc K) [] := by
  refine cal_of T.f_read_count (fun _ _ _ _ _ _ us hl => match us, hl with | [_, _], _ => rfl) sc_rc (fun vs H Q E h => ?_) (fun f cdv A outer s H vs Q E hr h => ?_)
  · obtain ⟨a, bs, i, n, rfl, _⟩ := h
    rfl
  · obtain ⟨a, bs, i, n, rfl, ha, hh, hle, k⟩ := h
    have nd := sc_rc.nd
    refine ⟨_, pss_cons (ps_asg (C8.pe_c (c_rn T) hr (by decide) rfl (pa_cons (pv 0) (pa_cons (pv 1) pa_nil))) (pg_tup (by rfl) (pgs_cons (pg_name (i := 2) nd rfl (.inl rfl)) (pgs_cons (pg_name (i := 3) nd rfl (.inl rfl)) pgs_nil))))
      (pss_cons (ps_if (pt_cmpR op_gt (pv 2) (pe_op op_sub (pe_callB call_len (by rfl) T.n_len PySem.boot_len (pa_cons (pv 0) pa_nil)) (pv 3)) (nomark _)) (pss_one ps_never) pss_nil)
      (pss_one (ps_ret (pe_tup (pa_cons (pv 2) (pa_cons (pv 3) pa_nil)))))), ?_⟩
    refine ⟨_, rfl, _, rfl, a, bs, i, n, rfl, ha, by omega, hh, fun t H1 ht hs hT => ?_⟩
    refine ⟨t, _, rfl, SqT.of hT, rfl, _, _, rfl, _, _, rfl, rfl, ?_⟩
    refine ⟨_, rfl, _, rfl, _, _, rfl, .inl ⟨_, same_sqL hs ha, rfl⟩, _, rfl, ((iv bs).length : Int), _, rfl, rfl, n, _, rfl, rfl, _, rfl, ?_⟩
    refine iteKF (by simp; omega) ?_
    refine ⟨_, rfl, _, rfl, (by show 2 ≤ sizeLine; decide), fun q hq => k q _ (hs.free hq) (same_updD hs (hs.free hq)) upd_same⟩
theorem split_at {α : Type} {l : List α} {j : Nat} {x : α} (h : l[j]? = some x) : l = l.take j ++ x :: l.drop (j + 1) := by
  obtain ⟨hj, e⟩ := List.getElem?_eq_some_iff.mp h
  rw [← e, List.getElem_cons_drop, List.take_append_drop]
theorem sc_rs : FnScope ["values", "index", "count", "at", "numbers", "_", "number"] ["values", "index"] (defScope (top 48)) := ⟨rfl, rfl, rfl, by decide +kernel, rfl, by decide +kernel, by decide +kernel⟩
theorem c_rs (T : Tx K mg) : C8.Cal P w K mg base 4 "read_integers" (spRs K) [] := by
  refine cal_of T.f_read_integers (fun _ _ _ _ _ _ us hl => match us, hl with | [_, _], _ => rfl) sc_rs (fun vs H Q E h => ?_) (fun f cdv A outer s H vs Q E hr h => ?_)
  · obtain ⟨a, bs, i, n, rfl, _⟩ := h
    rfl
  · obtain ⟨a, bs, i, ks, rfl, ha, hh, hz, k⟩ := h
    have nd := sc_rs.nd
    refine ⟨_, pss_cons (ps_asg (C8.pe_c (c_rc T) hr (by decide) rfl (pa_cons (pv 0) (pa_cons (pv 1) pa_nil))) (pg_tup (by rfl) (pgs_cons (pg_name (i := 2) nd rfl (.inl rfl)) (pgs_cons (pg_name (i := 3) nd rfl (.inl rfl)) pgs_nil))))
      (pss_cons (ps_set (i := 4) nd rfl (.inl rfl) (pe_lst pa_nil))
      (pss_cons (ps_for PassesOwn.never rfl (pi_range1 (by rfl) T.n_range (pa_cons (pv 2) pa_nil)) (pg_name (i := 5) nd rfl (.inl rfl))
        (pss_cons (ps_try_thru0 (pss_one (ps_asg (C8.pe_c (c_ri T) hr (by decide) rfl (pa_cons (pv 0) (pa_cons (pv 3) pa_nil))) (pg_tup (by rfl) (pgs_cons (pg_name (i := 6) nd rfl (.inl rfl)) (pgs_cons (pg_name (i := 3) nd rfl (.inl rfl)) pgs_nil))))))
          (pss_one (ps_expr (pe_bm PySem.F.plainAttrs_list PySem.F.slot_list_append PySem.F.type_list_append mt_append (pv 4) (pa_cons (pv 6) pa_nil))))))
      (pss_one (ps_ret (pe_tup (pa_cons (pv 4) (pa_cons (pv 3) pa_nil))))))), ?_⟩
    have h1 : Has bs i (wnum ks.length) := hh.fst
    have h2 : Has bs (i + (wnum ks.length).length) (ks.flatMap wint) := hh.snd
    have hl2 := h2.len
    have hl3 := flat_wint_len ks
    refine ⟨_, rfl, _, rfl, a, bs, i, ks.length, rfl, ha, h1, by omega, fun t H1 ht hs hT => ?_⟩
    refine ⟨t, _, rfl, SqT.of hT, rfl, _, _, rfl, _, _, rfl, rfl, ?_⟩
    refine ⟨(by show 0 ≤ sizeLine; decide), fun l hl => ?_⟩
    have hlH : H l = none := hs.free hl
    refine ⟨_, rfl, (ks.length : Int), rfl, by omega, by omega, for_range (n := ks.length) (fun j σ H' => Same H H' ∧ H' l = some (.lst (iv (ks.take j))) ∧ ∃ y z, σ = [some (.ref a), some (.int i), some (.int ks.length), some (.int ((i + (wnum ks.length ++ (ks.take j).flatMap wint).length : Nat) : Int)), some (.ref l), y, z])
      ⟨same_updD hs hlH, by rw [upd_same]; rfl, none, none, by simp [L2.start]⟩ ?_ ?_⟩
    · rintro j σ H' hj ⟨hs', hL, y, z, rfl⟩
      obtain ⟨x, hx⟩ : ∃ x, ks[j]? = some x := ⟨ks[j], List.getElem?_eq_getElem hj⟩
      have hsplit : ks.flatMap wint = (ks.take j).flatMap wint ++ (wint x ++ (ks.drop (j + 1)).flatMap wint) := by
        have e := split_at hx
        conv => lhs; rw [e]
        simp
      have hx3 : Has bs (i + (wnum ks.length ++ (ks.take j).flatMap wint).length) (wint x) := by
        rw [hsplit] at h2
        have := h2.snd.fst
        rw [List.length_append]
        rw [← Nat.add_assoc]; exact this
      refine ⟨_, rfl, _, rfl, a, bs, _, x, rfl, same_sqL hs' ha, hx3, fun t2 H2 ht2 hs2 hT2 => ?_⟩
      refine ⟨t2, _, rfl, SqT.of hT2, rfl, _, _, rfl, _, _, rfl, rfl, ?_⟩
      refine ⟨_, rfl, .inl ⟨rfl, _, SqL.of (hs2 _ _ hL)⟩, _, rfl, l, _, _, rfl, rfl, hs2 _ _ hL, ?_, same_updD (hs'.trans hs2) hlH, ?_, some (.int (0 + (j : Int))), some (.int x), ?_⟩
      · rw [List.length_map, List.length_take, sizeLine_eq]; omega
      · rw [upd_same, take_snoc hx]; simp
      · rw [take_snoc hx]
        simp [Nat.add_assoc]
    · rintro σ H' ⟨hs', hL, y, z, rfl⟩
      refine ⟨_, rfl, _, rfl, (by show 2 ≤ sizeLine; decide), fun q hq => ?_⟩
      rw [List.take_length] at hL
      have hql : l ≠ q := fun e => by rw [← e, hL] at hq; cases hq
      refine k q l _ (same_updD hs' (hs'.free hq)) (by rw [upd_ne hql]; exact hL) ?_
      rw [upd_same, List.take_length]
      rfl
end
end Tz
namespace Tz
open PySem PySem.Spec PyProof.Rows L2
/-! ### == of lists, tuples of ints -/
theorem dpAll_ints {K : PySem.W.Frag} {H : Hp} : ∀ ns : List Int, DpAll K H (iv ns) (ns.map .int)
  | [] => .nil
  | _ :: ns => .cons (.int _) (dpAll_ints ns)
theorem eqvAll_ints : ∀ ns ms : List Int, PyData.eqvAll (ns.map .int) (ms.map .int) = decide (ns = ms)
  | [], [] => by simp [PyData.eqvAll]
  | [], _ :: _ => by simp [PyData.eqvAll]
  | _ :: _, [] => by simp [PyData.eqvAll]
  | n :: ns, m :: ms => by
    simp only [List.map_cons, PyData.eqvAll, PyData.eqv, eqvAll_ints ns ms]
    by_cases h : n = m <;> simp [h]
def rEqL (K : PySem.W.Frag) (B : List Int → List Int → Bool) : R2 := fun x y H Q => ∃ (a b : Addr) (ns ms : List Int), x = .ref a ∧ y = .ref b ∧ SqL K H a (iv ns) ∧ SqL K H b (iv ms) ∧ Q (.bl (B ns ms)) H
theorem canAll_ints : ∀ ns : List Int, PyData.canLayAll0 (ns.map .int) = true
  | [] => by simp [PyData.canLayAll0]
  | n :: ns => by simp [PyData.canLayAll0, PyData.canLay0, canAll_ints ns]
theorem shaped_L {ns : List Int} : SeqAt.shaped (.list (ns.map .int)) = true := by
  unfold SeqAt.shaped
  simp only [PyData.canLay0, PyData.depth, canAll_ints, PySem.W.depth_ints, List.length_map]
  simp
theorem shaped_T {ns : List Int} : SeqAt.shaped (.tuple (ns.map .int)) = true := by
  unfold SeqAt.shaped
  simp only [PyData.canLay0, PyData.depth, canAll_ints, PySem.W.depth_ints, List.length_map]
  simp
def rEqT (K : PySem.W.Frag) (B : List Int → List Int → Bool) : R2 := fun x y H Q => ∃ (ns ms : List Int), TupI K H x ns ∧ TupI K H y ms ∧ Q (.bl (B ns ms)) H
section
variable {X : Cx}
theorem op_imp {op : CmpOp} {r r' : R2} (h : OpR X (compareOp op) r) (hi : ∀ x y H Q, r' x y H Q → r x y H Q) : OpR X (compareOp op) r' := fun pins s σ H x y v u Q I rx ry q => h pins s σ H x y v u Q I rx ry (hi _ _ _ _ q)
theorem op_eqL (hu : X.A.units + 64 < cLine) : OpR X (compareOp .Eq) (rEqL X.K fun ns ms => decide (ns = ms)) := op_imp (op_eqD hu) fun x y H Q h => by
  obtain ⟨a, b, ns, ms, rfl, rfl, ha, hb, q⟩ := h
  refine ⟨_, _, .lst ha (dpAll_ints ns), .lst hb (dpAll_ints ms), shaped_L, shaped_L, ?_⟩
  rw [PyData.eqv, eqvAll_ints]; exact q
theorem op_neL (hu : X.A.units + 64 < cLine) : OpR X (compareOp .NotEq) (rEqL X.K fun ns ms => !decide (ns = ms)) := op_imp (op_neD hu) fun x y H Q h => by
  obtain ⟨a, b, ns, ms, rfl, rfl, ha, hb, q⟩ := h
  refine ⟨_, _, .lst ha (dpAll_ints ns), .lst hb (dpAll_ints ms), shaped_L, shaped_L, ?_⟩
  rw [PyData.eqv, eqvAll_ints]; exact q
theorem op_eqT (hu : X.A.units + 64 < cLine) : OpR X (compareOp .Eq) (rEqT X.K fun ns ms => decide (ns = ms)) := op_imp (op_eqD hu) fun x y H Q h => by
  obtain ⟨ns, ms, ⟨a, rfl, ha⟩, ⟨b, rfl, hb⟩, q⟩ := h
  refine ⟨_, _, .tup ha (dpAll_ints ns), .tup hb (dpAll_ints ms), shaped_T, shaped_T, ?_⟩
  rw [PyData.eqv, eqvAll_ints]; exact q
theorem op_neT (hu : X.A.units + 64 < cLine) : OpR X (compareOp .NotEq) (rEqT X.K fun ns ms => !decide (ns = ms)) := op_imp (op_neD hu) fun x y H Q h => by
  obtain ⟨ns, ms, ⟨a, rfl, ha⟩, ⟨b, rfl, hb⟩, q⟩ := h
  refine ⟨_, _, .tup ha (dpAll_ints ns), .tup hb (dpAll_ints ms), shaped_T, shaped_T, ?_⟩
  rw [PyData.eqv, eqvAll_ints]; exact q
end
end Tz
namespace Tz
open PySem PySem.Spec PyProof.Rows L2
theorem cut_head (l r : List V) (h : r.length = 2) : cutV (l ++ r) none (some (-2)) = l := by
  unfold cutV
  have e : HT.sIx (l ++ r).length (l ++ r).length (some (-2)) = l.length := by
    simp only [HT.sIx]
    rw [if_pos (by decide), List.length_append, h]; omega
  rw [e]
  simp [HT.sIx]
theorem cut_last (l r : List V) (h : r.length = 2) : cutV (l ++ r) (some (-2)) none = r := by
  unfold cutV
  have e : HT.sIx (l ++ r).length 0 (some (-2)) = l.length := by
    simp only [HT.sIx]
    rw [if_pos (by decide), List.length_append, h]; omega
  rw [e]
  simp [HT.sIx]
theorem cut_mid (x : V) (l r : List V) (h : r.length = 2) : cutV ((x :: l) ++ r) (some 1) (some (-2)) = l := by
  unfold cutV
  have e : HT.sIx ((x :: l) ++ r).length ((x :: l) ++ r).length (some (-2)) = l.length + 1 := by
    simp only [HT.sIx]
    rw [if_pos (by decide), List.length_append, h, List.length_cons]; omega
  have e2 : HT.sIx ((x :: l) ++ r).length 0 (some 1) = 1 := by
    simp only [HT.sIx]
    rw [if_neg (by decide)]
    simp
  rw [e, e2]
  simp
/-- what content_of gives: the content, or None -/
def spCo (K : PySem.W.Frag) : Sp := fun vs H Q _ => ∃ (a : Addr) (kd kd' : Int) (xs : List Int), vs = [.int kd, .ref a] ∧ SqL K H a (iv (mkrec kd' xs)) ∧ Low (mkrec kd' xs) ∧
  (kd = kd' → Out H Q (.lst (iv xs))) ∧ (kd ≠ kd' → Q .non H)
section
variable {P : Program} {w : World} {K : PySem.W.Frag} {mg : Str → Option Value} {base : Heap}
theorem sc_co : FnScope ["kind", "values"] ["kind", "values"] (defScope (top 56)) := ⟨rfl, rfl, rfl, by decide +kernel, rfl, by decide +kernel, by decide +kernel⟩
theorem c_co (T : Tx K mg) : C8.Cal P w K mg base 2 "content_of" (spCo K) [] := by
  refine cal_of T.f_content_of (fun _ _ _ _ _ _ us hl => match us, hl with | [_, _], _ => rfl) sc_co (fun vs H Q E h => ?_) (fun f cdv A outer s H vs Q E hr h => ?_)
  · obtain ⟨a, kd, kd', xs, rfl, _⟩ := h
    rfl
  · obtain ⟨a, kd, kd', xs, rfl, ha, hlow, k1, k2⟩ := h
    have hu := hr.units
    refine ⟨_, pss_cons (ps_if (PW.pt (pw_or (pt_cmpR op_lt (pe_callB call_len (by rfl) T.n_len PySem.boot_len (pa_cons (pv 1) pa_nil)) pe_int (nomark _))
        (pw_or (pt_cmpR op_ne (pe_ix ix_list (pv 1) pe_int (fun _ _ => rfl)) (pv 0) (nomark _))
        (pw_or1 (pt_cmpR op_gt (pe_callB (cr_max rfl) (by rfl) T.n_max (by decide +kernel) (pa_cons (pv 1) pa_nil)) (pe_gi (by rfl) T.i_HIGHEST) (nomark _)))))) (pss_one (ps_ret pe_non)) pss_nil)
      (pss_cons (ps_if (pt_cmpR (op_neL hu) (C8.pe_c (c_chk T) hr (by decide) rfl (pa_cons (pe_slice sl_list (pv 1) po_none (po_some (pe_un un_neg pe_int))) pa_nil)) (pe_slice sl_list (pv 1) (po_some (pe_un un_neg pe_int)) po_none) (nomark _)) (pss_one (ps_ret pe_non)) pss_nil)
      (pss_one (ps_ret (pe_slice sl_list (pv 1) (po_some pe_int) (po_some (pe_un un_neg pe_int)))))), ?_⟩
    have hlen : (iv (mkrec kd' xs)).length = xs.length + 3 := by rw [List.length_map, mkrec_len]
    have h0 : (iv (mkrec kd' xs))[0]? = some (.int kd') := rfl
    refine ⟨_, rfl, _, _, rfl, .inl ⟨_, ha, rfl⟩, ((iv (mkrec kd' xs)).length : Int), 3, rfl, rfl, _, rfl, ?_⟩
    refine iteKF (by rw [hlen]; simp; omega) ?_
    refine ⟨_, rfl, a, _, 0, _, rfl, rfl, ha, atI_nat (j := 0) h0, _, rfl, rfl, _, rfl, ?_⟩
    by_cases hk : kd = kd'
    · subst hk
      refine iteKF (by simp) ?_
      refine ⟨_, rfl, a, mkrec kd xs, rfl, ha, by rw [mkrec_len]; omega, fun m hm _ => ?_⟩
      have hm2 := (hlow m hm).2
      refine ⟨m, 249, rfl, rfl, _, rfl, ?_⟩
      refine iteKF (by simp; omega) ?_
      have em : iv (mkrec kd xs) = iv (kd :: xs) ++ iv (chk (kd :: xs)) := by unfold mkrec iv; rw [List.map_append]
      have e2 : (iv (chk (kd :: xs))).length = 2 := rfl
      refine ⟨_, rfl, 2, rfl, -2, rfl, a, _, rfl, ha, fun p hp => ⟨p, kd :: xs, rfl, SqL.of (by rw [upd_same, em, cut_head _ _ e2]), fun c H2 hc hs2 hC => ?_⟩⟩
      have hs : Same H H2 := (same_upd0 hp).trans hs2
      refine ⟨_, rfl, 2, rfl, -2, rfl, a, _, rfl, same_sqL hs ha, fun q hq => ?_⟩
      have hcq : c ≠ q := fun z => by rw [← z, hC] at hq; cases hq
      refine ⟨c, q, chk (kd :: xs), chk (kd :: xs), rfl, rfl, SqL.of (by rw [upd_ne hcq]; exact hC), SqL.of (by rw [upd_same, em, cut_last _ _ e2]), _, rfl, ?_⟩
      refine iteKF (by simp) ?_
      have hs3 : Same H (upd H2 q (.lst (cutV (iv (mkrec kd xs)) (some (-2)) none))) := same_updD hs (hs.free hq)
      refine ⟨_, rfl, 1, rfl, 2, rfl, -2, rfl, a, _, rfl, same_sqL hs3 ha, fun t ht => ?_⟩
      refine k1 rfl t _ (hs3.free ht) (same_updD hs3 (hs3.free ht)) ?_
      rw [upd_same, em]
      exact congrArg (fun z => some (HO.lst z)) (cut_mid (.int kd) (iv xs) _ e2)
    · refine iteK (by simp [Ne.symm hk]) ?_
      refine iteK rfl ?_
      exact k2 hk
theorem sc_rb : FnScope ["values", "index", "count", "at", "found", "_", "value", "more"] ["values", "index"] (defScope (top 49)) := ⟨rfl, rfl, rfl, by decide +kernel, rfl, by decide +kernel, by decide +kernel⟩
theorem c_rb (T : Tx K mg) : C8.Cal P w K mg base 4 "read_bytes" (spRb K) [] := by
  refine cal_of T.f_read_bytes (fun _ _ _ _ _ _ us hl => match us, hl with | [_, _], _ => rfl) sc_rb (fun vs H Q E h => ?_) (fun f cdv A outer s H vs Q E hr h => ?_)
  · obtain ⟨a, bs, xs, rfl, _⟩ := h
    rfl
  · obtain ⟨a, bs, xs, rfl, ha, rfl, hby, hz, k⟩ := h
    have nd := sc_rb.nd
    refine ⟨_, pss_cons (ps_asg (C8.pe_c (c_rc T) hr (by decide) rfl (pa_cons (pv 0) (pa_cons (pv 1) pa_nil))) (pg_tup (by rfl) (pgs_cons (pg_name (i := 2) nd rfl (.inl rfl)) (pgs_cons (pg_name (i := 3) nd rfl (.inl rfl)) pgs_nil))))
      (pss_cons (ps_set (i := 4) nd rfl (.inl rfl) (pe_lst pa_nil))
      (pss_cons (ps_for PassesOwn.never rfl (pi_range1 (by rfl) T.n_range (pa_cons (pv 2) pa_nil)) (pg_name (i := 5) nd rfl (.inl rfl))
        (pss_cons (ps_set (i := 6) nd rfl (.inl rfl) (C8.pe_c (c_by T) hr (by decide) rfl (pa_cons (pv 0) (pa_cons (pv 3) (pa_cons (pv 1) pa_nil)))))
        (pss_cons (ps_aug (i := 3) nd rfl (.inl rfl) pe_int ip_add)
        (pss_cons (ps_if (pt_cmpR op_eq (pv 6) (pe_gi (by rfl) T.i_HIGHEST) (nomark _))
          (pss_cons (ps_set (i := 7) nd rfl (.inl rfl) (C8.pe_c (c_by T) hr (by decide) rfl (pa_cons (pv 0) (pa_cons (pv 3) (pa_cons (pv 1) pa_nil)))))
          (pss_cons (ps_if (pt_cmpR op_gt (pv 7) (pe_op op_sub pe_int (pe_gi (by rfl) T.i_HIGHEST)) (nomark _)) (pss_one ps_never) pss_nil)
          (pss_cons (ps_aug (i := 6) nd rfl (.inl rfl) (pv 7) ip_add)
          (pss_one (ps_aug (i := 3) nd rfl (.inl rfl) pe_int ip_add))))) pss_nil)
        (pss_one (ps_expr (pe_bm PySem.F.plainAttrs_list PySem.F.slot_list_append PySem.F.type_list_append mt_append (pv 4) (pa_cons (pv 6) pa_nil))))))))
      (pss_one (ps_ret (pe_tup (pa_cons (pv 4) (pa_cons (pv 3) pa_nil))))))), ?_⟩
    have hh : Has (wbytes xs) 0 (wnum xs.length ++ xs.flatMap wbyte) := Has.all _
    have h1 := hh.fst
    have h2 := hh.snd
    have hl2 := h2.len
    have hl3 := (flat_wbyte_len xs).1
    refine ⟨_, rfl, _, rfl, a, _, 0, xs.length, rfl, ha, h1, by omega, fun t H1 ht hs hT => ?_⟩
    refine ⟨t, _, rfl, SqT.of hT, rfl, _, _, rfl, _, _, rfl, rfl, ?_⟩
    refine ⟨(by show 0 ≤ sizeLine; decide), fun l hl => ?_⟩
    have hlH : H l = none := hs.free hl
    refine ⟨_, rfl, (xs.length : Int), rfl, by omega, by omega, for_range (n := xs.length) (fun j σ H' => Same H H' ∧ H' l = some (.lst (iv (xs.take j))) ∧ ∃ y z u, σ = [some (.ref a), some (.int 0), some (.int xs.length), some (.int (((wnum xs.length ++ (xs.take j).flatMap wbyte).length : Nat) : Int)), some (.ref l), y, z, u])
      ⟨same_updD hs hlH, by rw [upd_same]; rfl, none, none, none, by simp [L2.start]⟩ ?_ ?_⟩
    · rintro j σ H' hj ⟨hs', hL, y, z, u, rfl⟩
      obtain ⟨x, hx⟩ : ∃ x, xs[j]? = some x := ⟨xs[j], List.getElem?_eq_getElem hj⟩
      have hxb := hby x (List.mem_of_getElem? hx)
      have hsplit : xs.flatMap wbyte = (xs.take j).flatMap wbyte ++ (wbyte x ++ (xs.drop (j + 1)).flatMap wbyte) := by
        have e := split_at hx
        conv => lhs; rw [e]
        simp
      have hx3 : Has (wbytes xs) (wnum xs.length ++ (xs.take j).flatMap wbyte).length (wbyte x) := by
        rw [hsplit] at h2
        have := h2.snd.fst
        rw [List.length_append, Nat.zero_add] at *
        exact this
      have ha' := same_sqL hs' ha
      have hsz : (iv (xs.take j)).length < sizeLine := by rw [List.length_map, List.length_take, sizeLine_eq]; omega
      by_cases hc : x < 249
      · have hw : wbyte x = [x] := by unfold wbyte; rw [if_pos hc]
        rw [hw] at hx3
        refine ⟨_, rfl, _, rfl, _, rfl, a, _, _, x, _, rfl, ha', hx3.head, by omega, ?_⟩
        refine ⟨_, rfl, _, 1, rfl, rfl, _, rfl, rfl, _, rfl, ?_⟩
        refine iteKF (by simp; omega) ?_
        refine ⟨_, rfl, .inl ⟨rfl, _, SqL.of hL⟩, _, rfl, l, _, _, rfl, rfl, hL, hsz, same_updD hs' hlH, ?_, some (.int (0 + (j : Int))), some (.int x), u, ?_⟩
        · rw [upd_same, take_snoc hx]; simp
        · rw [take_snoc hx]
          have e : ((wnum xs.length ++ (xs.take j ++ [x]).flatMap wbyte).length : Int) = ((wnum xs.length ++ (xs.take j).flatMap wbyte).length : Int) + 1 := by
            simp [wbyte, hc]; omega
          rw [e]; rfl
      · have hw : wbyte x = [249, x - 249] := by unfold wbyte; rw [if_neg hc]
        rw [hw] at hx3
        refine ⟨_, rfl, _, rfl, _, rfl, a, _, _, 249, _, rfl, ha', hx3.head, by omega, ?_⟩
        refine ⟨_, rfl, _, 1, rfl, rfl, _, rfl, rfl, _, rfl, ?_⟩
        refine iteK (by simp) ?_
        refine ⟨_, rfl, _, rfl, _, rfl, a, wbytes xs, (wnum xs.length ++ (xs.take j).flatMap wbyte).length + 1, x - 249, .int 0, rfl, ha', hx3.tail.head, by omega, ?_⟩
        refine ⟨_, rfl, 255, 249, rfl, rfl, x - 249, _, rfl, rfl, _, rfl, ?_⟩
        refine iteKF (by simp; omega) ?_
        refine ⟨_, rfl, _, rfl, 249, x - 249, rfl, rfl, _, rfl, _, 1, rfl, rfl, ?_⟩
        refine ⟨_, rfl, .inl ⟨rfl, _, SqL.of hL⟩, _, rfl, l, _, _, rfl, rfl, hL, hsz, same_updD hs' hlH, ?_, some (.int (0 + (j : Int))), some (.int x), some (.int (x - 249)), ?_⟩
        · rw [upd_same, take_snoc hx]
          have : (249 : Int) + (x - 249) = x := by omega
          simp [this]
        · rw [take_snoc hx]
          have e : ((wnum xs.length ++ (xs.take j ++ [x]).flatMap wbyte).length : Int) = ((wnum xs.length ++ (xs.take j).flatMap wbyte).length : Int) + 1 + 1 := by
            simp [wbyte, hc]; omega
          have e3 : (249 : Int) + (x - 249) = x := by omega
          rw [e]
          simp [e3]
    · rintro σ H' ⟨hs', hL, y, z, u, rfl⟩
      refine ⟨_, rfl, _, rfl, (by show 2 ≤ sizeLine; decide), fun q hq => ?_⟩
      rw [List.take_length] at hL
      have hql : l ≠ q := fun e => by rw [← e, hL] at hq; cases hq
      refine k q l _ (same_updD hs' (hs'.free hq)) hlH (by rw [upd_ne hql]; exact hL) ?_
      rw [upd_same, List.take_length]
      rfl
end
end Tz
namespace Tz
open PySem PySem.Spec PyProof.Rows L2
/-- a list in, a new list out -/
def spEn (K : PySem.W.Frag) (R : List Int → List Int → Prop) : Sp := fun vs H Q _ => ∃ (a : Addr) (xs : List Int), vs = [.ref a] ∧ SqL K H a (iv xs) ∧ xs.length ≤ 1000000 ∧ ∀ ys, R xs ys → Out H Q (.lst (iv ys))
/-- the same way back: ys is given, xs is to be found -/
def spDe (K : PySem.W.Frag) (R : List Int → List Int → Prop) : Sp := fun vs H Q _ => ∃ (a : Addr) (xs ys : List Int), vs = [.ref a] ∧ SqL K H a (iv ys) ∧ ys.length ≤ 1000000 ∧ xs.length ≤ 1000000 ∧ Byt xs ∧ R xs ys ∧ Out H Q (.lst (iv xs))
def spEnW (K : PySem.W.Frag) (R : Nat → List Int → List Int → Prop) : Sp := fun vs H Q _ => ∃ (a : Addr) (xs : List Int) (w : Nat), vs = [.ref a, .int w] ∧ (w = 1 ∨ w = 2 ∨ w = 4) ∧ SqL K H a (iv xs) ∧ xs.length ≤ 1000000 ∧ ∀ ys, R w xs ys → Out H Q (.lst (iv ys))
def spDeW (K : PySem.W.Frag) (R : Nat → List Int → List Int → Prop) : Sp := fun vs H Q _ => ∃ (a : Addr) (xs ys : List Int) (w : Nat), vs = [.ref a, .int w] ∧ (w = 1 ∨ w = 2 ∨ w = 4) ∧ SqL K H a (iv ys) ∧ ys.length ≤ 1000000 ∧ xs.length ≤ 1000000 ∧ Byt xs ∧ R w xs ys ∧ Out H Q (.lst (iv xs))
def RDel (xs ys : List Int) : Prop := ys = diffs 0 xs
def RPla (w : Nat) (xs ys : List Int) : Prop := ys = toPl xs w w
theorem lastD_take {xs : List Int} {i : Nat} {n b : Int} (h : xs[i]? = some n) : (xs.take (i + 1)).getLastD b = n := by
  rw [take_snoc h]; simp
theorem diffs_take {xs : List Int} {i : Nat} {n b : Int} (h : xs[i]? = some n) : diffs b (xs.take (i + 1)) = diffs b (xs.take i) ++ [(n - (xs.take i).getLastD b) % 256] := by
  rw [take_snoc h, diffs_snoc]
theorem sums_take {xs : List Int} {i : Nat} {n b : Int} (h : xs[i]? = some n) : sums b (xs.take (i + 1)) = sums b (xs.take i) ++ [((sums b (xs.take i)).getLastD b + n) % 256] := by
  rw [take_snoc h, sums_snoc]
theorem sums_len : ∀ (b : Int) (xs : List Int), (sums b xs).length = xs.length
  | _, [] => rfl
  | b, v :: r => by simp [sums, sums_len _ r]
theorem ints_len {xs : List Int} {i : Nat} (h : xs.length ≤ 1000000) : (iv (xs.take i)).length < sizeLine := by
  rw [List.length_map, List.length_take, sizeLine_eq]; omega
section
variable {P : Program} {w : World} {K : PySem.W.Frag} {mg : Str → Option Value} {base : Heap}
theorem sc_td : FnScope ["values", "before", "found", "value"] ["values"] (defScope (top 14)) := ⟨rfl, rfl, rfl, by decide +kernel, rfl, by decide +kernel, by decide +kernel⟩
theorem c_td (T : Tx K mg) : C8.Cal P w K mg base 1 "to_differences" (spEn K RDel) [] := by
  refine cal_of T.f_to_differences (fun _ _ _ _ _ _ us hl => match us, hl with | [_], _ => rfl) sc_td (fun vs H Q E h => ?_) (fun f cdv A outer s H vs Q E hr h => ?_)
  · obtain ⟨a, xs, rfl, _⟩ := h
    rfl
  · obtain ⟨a, xs, rfl, ha, hz, q⟩ := h
    have nd := sc_td.nd
    refine ⟨_, pss_cons (ps_set (i := 1) nd rfl (.inl rfl) pe_int)
      (pss_cons (ps_set (i := 2) nd rfl (.inl rfl) (pe_lst pa_nil))
      (pss_cons (ps_for PassesOwn.never rfl (pi_list (pv 0)) (pg_name (i := 3) nd rfl (.inl rfl))
        (pss_cons (ps_expr (pe_bm PySem.F.plainAttrs_list PySem.F.slot_list_append PySem.F.type_list_append mt_append (pv 2) (pa_cons (pe_op op_modN (pe_op op_sub (pv 3) (pv 1)) pe_int) pa_nil)))
          (pss_one (ps_set (i := 1) nd rfl (.inl rfl) (pv 3)))))
      (pss_one (ps_ret (pv 2))))), ?_⟩
    refine ⟨(by show 0 ≤ sizeLine; decide), fun l hl => ?_⟩
    refine ⟨_, rfl, a, rfl, ⟨_, same_sqL (same_upd0 hl) ha⟩, for_list (K := K) (a := a) (xs := iv xs) (fun i σ H' => Same H H' ∧ H' l = some (.lst (iv (diffs 0 (xs.take i)))) ∧ ∃ z, σ = [some (.ref a), some (.int ((xs.take i).getLastD 0)), some (.ref l), z])
      ⟨same_upd0 hl, by rw [upd_same]; rfl, none, rfl⟩ (fun i σ H' _ h => same_sqL h.1 ha) ?_ ?_⟩
    · rintro i x σ H' hx ⟨hs, h1, z, rfl⟩
      obtain ⟨n, hn, rfl⟩ := iv_get hx
      refine ⟨_, rfl, .inl ⟨rfl, _, SqL.of h1⟩, _, rfl, _, rfl, n, _, rfl, rfl, _, 256, rfl, rfl, (show (256 : Int) ≠ 0 by decide), l, _, _, rfl, rfl, h1, ?_, ?_⟩
      · rw [List.length_map, diffs_len, List.length_take, sizeLine_eq]; omega
      · refine ⟨_, rfl, same_updD hs hl, ?_, some (.int n), ?_⟩
        · rw [upd_same, diffs_take hn]
          simp [Int.fmod_eq_emod_of_nonneg _ (show (0 : Int) ≤ 256 by decide)]
        · rw [lastD_take hn]
          rfl
    · rintro σ H' ⟨hs, h1, z, rfl⟩
      rw [List.length_map, List.take_length] at h1
      exact ⟨_, rfl, q _ rfl l H' hl hs h1⟩
theorem sc_fd : FnScope ["values", "total", "found", "value"] ["values"] (defScope (top 15)) := ⟨rfl, rfl, rfl, by decide +kernel, rfl, by decide +kernel, by decide +kernel⟩
theorem c_fd (T : Tx K mg) : C8.Cal P w K mg base 1 "from_differences" (spDe K RDel) [] := by
  refine cal_of T.f_from_differences (fun _ _ _ _ _ _ us hl => match us, hl with | [_], _ => rfl) sc_fd (fun vs H Q E h => ?_) (fun f cdv A outer s H vs Q E hr h => ?_)
  · obtain ⟨a, xs, ys, rfl, _⟩ := h
    rfl
  · obtain ⟨a, xs, ys, rfl, ha, hz, _, hb, rfl, q⟩ := h
    have nd := sc_fd.nd
    refine ⟨_, pss_cons (ps_set (i := 1) nd rfl (.inl rfl) pe_int)
      (pss_cons (ps_set (i := 2) nd rfl (.inl rfl) (pe_lst pa_nil))
      (pss_cons (ps_for PassesOwn.never rfl (pi_list (pv 0)) (pg_name (i := 3) nd rfl (.inl rfl))
        (pss_cons (ps_set (i := 1) nd rfl (.inl rfl) (pe_op op_modN (pe_op op_add (pv 1) (pv 3)) pe_int))
          (pss_one (ps_expr (pe_bm PySem.F.plainAttrs_list PySem.F.slot_list_append PySem.F.type_list_append mt_append (pv 2) (pa_cons (pv 1) pa_nil))))))
      (pss_one (ps_ret (pv 2))))), ?_⟩
    refine ⟨(by show 0 ≤ sizeLine; decide), fun l hl => ?_⟩
    generalize hys : diffs 0 xs = ys at *
    refine ⟨_, rfl, a, rfl, ⟨_, same_sqL (same_upd0 hl) ha⟩, for_list (K := K) (a := a) (xs := iv ys) (fun i σ H' => Same H H' ∧ H' l = some (.lst (iv (sums 0 (ys.take i)))) ∧ ∃ z, σ = [some (.ref a), some (.int ((sums 0 (ys.take i)).getLastD 0)), some (.ref l), z])
      ⟨same_upd0 hl, by rw [upd_same]; rfl, none, rfl⟩ (fun i σ H' _ h => same_sqL h.1 ha) ?_ ?_⟩
    · rintro i x σ H' hx ⟨hs, h1, z, rfl⟩
      obtain ⟨n, hn, rfl⟩ := iv_get hx
      refine ⟨_, rfl, _, rfl, _, n, rfl, rfl, _, 256, rfl, rfl, (show (256 : Int) ≠ 0 by decide), ?_⟩
      refine ⟨_, rfl, .inl ⟨rfl, _, SqL.of h1⟩, _, rfl, l, _, _, rfl, rfl, h1, ?_, same_updD hs hl, ?_, some (.int n), ?_⟩
      · rw [List.length_map, sums_len, List.length_take, sizeLine_eq]; omega
      · rw [upd_same, sums_take hn]
        simp [Int.fmod_eq_emod_of_nonneg _ (show (0 : Int) ≤ 256 by decide)]
      · rw [sums_take hn]
        simp [Int.fmod_eq_emod_of_nonneg _ (show (0 : Int) ≤ 256 by decide)]
    · rintro σ H' ⟨hs, h1, z, rfl⟩
      rw [List.length_map, List.take_length, ← hys, sums_diffs 0 xs hb] at h1
      exact ⟨_, rfl, q l H' hl hs h1⟩
theorem sc_tp : FnScope ["values", "size", "found", "plane"] ["values", "size"] (defScope (top 16)) := ⟨rfl, rfl, rfl, by decide +kernel, rfl, by decide +kernel, by decide +kernel⟩
theorem c_tp (T : Tx K mg) : C8.Cal P w K mg base 1 "to_planes" (spEnW K RPla) [] := by
  refine cal_of T.f_to_planes (fun _ _ _ _ _ _ us hl => match us, hl with | [_, _], _ => rfl) sc_tp (fun vs H Q E h => ?_) (fun f cdv A outer s H vs Q E hr h => ?_)
  · obtain ⟨a, xs, w, rfl, _⟩ := h
    rfl
  · obtain ⟨a, xs, w, rfl, hw, ha, hz, q⟩ := h
    have nd := sc_tp.nd
    refine ⟨_, pss_cons (ps_set (i := 2) nd rfl (.inl rfl) (pe_lst pa_nil))
      (pss_cons (ps_for PassesOwn.never rfl (pi_range1 (by rfl) T.n_range (pa_cons (pv 1) pa_nil)) (pg_name (i := 3) nd rfl (.inl rfl))
        (pss_one (ps_expr (pe_bm PySem.F.plainAttrs_list PySem.F.slot_list_extend PySem.F.type_list_extend mt_extend (pv 2) (pa_cons (pe_step (pv 0) (pv 3) (pv 1)) pa_nil)))))
      (pss_one (ps_ret (pv 2)))), ?_⟩
    refine ⟨(by show 0 ≤ sizeLine; decide), fun l hl => ?_⟩
    refine ⟨_, rfl, (w : Int), rfl, by omega, by omega, for_range (n := w) (fun p σ H' => Same H H' ∧ H' l = some (.lst (iv (toPl xs w p))) ∧ ∃ z, σ = [some (.ref a), some (.int w), some (.ref l), z])
      ⟨same_upd0 hl, by rw [upd_same]; rfl, none, rfl⟩ ?_ ?_⟩
    · rintro p σ H' hp ⟨hs, hL, z, rfl⟩
      have hL2 : (toPl xs w p ++ stride xs p w).length ≤ xs.length := by
        have h1 := toPl_le (xs := xs) (w := w) (p := p + 1) (by omega)
        rw [toPl_len hw, toPl_succ] at h1
        exact h1
      refine ⟨_, rfl, .inl ⟨rfl, _, SqL.of hL⟩, _, rfl, a, xs, rfl, same_sqL hs ha, _, rfl, ((p : Nat) : Int), by simp, p, rfl, _, rfl, (w : Int), rfl, w, rfl, by omega, same_sqL hs ha, fun t ht => ?_⟩
      have hlt : l ≠ t := fun e => by rw [← e, hL] at ht; cases ht
      refine ⟨l, t, _, _, rfl, rfl, by rw [upd_ne hlt]; exact hL, upd_same, ?_, same_updD (same_updD hs (hs.free ht)) hl, ?_, some (.int p), by simp⟩
      · rw [← List.length_append, ← List.map_append, List.length_map, sizeLine_eq]; omega
      · rw [upd_same, toPl_succ]; simp
    · rintro σ H' ⟨hs, hL, z, rfl⟩
      exact ⟨_, rfl, q _ rfl l H' hl hs hL⟩
end
end Tz
namespace Tz
open PySem PySem.Spec PyProof.Rows L2
/-! ### Damaged(address, length) -/
/-- what the written part says of an own error over ValueError whose __init__ says super().__init__('..') -/
structure DamF (P : Program) (K : PySem.W.Frag) (mg : Str → Option Value) (C fI cc : Addr) (params : Arguments) (body : List Stmt) (scope : Scope) : Prop where
  fn : ∃ oc od dV kV doc pm an ct osl cda ccl cdd vs ccs file tf, K.lookup fI = some ⟨oc, od, .func (PySem.W.ksFn "__init__" "Damaged.__init__" params body scope dV kV doc pm an (.ref cda) ct cc), osl⟩ ∧ dV = .none ∧
    PySem.W.codeIn K (.ref cda) "Damaged.__init__" = true ∧ K.lookup cda = some ⟨ccl, cdd, .fields vs, ccs⟩ ∧ vs[2]? = some (.str file tf) ∧ ((P.main.file : Str) == file) = true
  cell : ∃ cl cld csl, K.lookup cc = some ⟨cl, cld, .cell (some (.ref C)), csl⟩
  self : PySem.W.mroIn K C (.ref C) = some true
  sup : mg "super" = none
  ox : OexC K C
  na : PySem.W.findIn K (.ref C) "address" = some none
  nl : PySem.W.findIn K (.ref C) "length" = some none
  no : PySem.W.nsIn K cStatics "thirdparty.any" = some none
  si : PySem.W.ks_superIn K C C "__init__" = some (some (.builtin "ValueError.__init__"))
  ve : PySem.W.subIn K (.ref C) (.type "ValueError") = some true
  iC : PySem.W.findIn K (.ref C) "__init__" = some (some (.ref fI))
  tI : PySem.W.typeIn K (.ref fI) = some (.type "function")
  kp : PySem.W.keepIn K (.ref fI) = true
  top : (P.main.scope.names.lookup ("super" : Str)).isSome = false
  gC : mg "Damaged" = some (.ref C)
def spDam (C : Addr) : Sp := fun vs H Q _ => ∃ (a : Addr) (y z : V), vs = [.ref a, y, z] ∧ H a = some (exo a C none) ∧
  ∀ dx, H dx = none → dx ≠ a → Q .non (upd (upd (upd H dx (exd dx [("address", y)])) a (exo a C (some dx))) dx (exd dx [("length", z), ("address", y)]))
/-- the context of its __init__ -/
def dcx (P : Program) (w : World) (K : PySem.W.Frag) (mg : Str → Option Value) (base : Heap) (scope : Scope) (f cc : Addr) (cd : Value) (A : Around) (outer : List Env) (s : Shared) (H : Hp) : Cx :=
  { cxOf CX0 P w K mg base ["self", "address", "length"] "Damaged.__init__" scope f cd A outer s H (fun _ _ _ => False) with
    env := PySem.W.ksEnv "Damaged.__init__" scope s.heap.objs.size f cd cc
    A := A.deeper (PySem.W.ksEnv "Damaged.__init__" scope s.heap.objs.size f cd cc)
    stack := PySem.W.ksEnv "Damaged.__init__" scope s.heap.objs.size f cd cc :: outer
    fn := fun _ => false
    xe := fun _ _ => False }
section
abbrev scope : Scope := defScope (inClass (top 10) 0)
/-- where the first line's call stands -/
def dP : Pos × Pos := match defBody (inClass (top 10) 0) with
  | .Expr (.Call (.Attribute _ _ a) _ _ b) _ :: _ => (a, b)
  | _ => (⟨0, 0, 0, 0⟩, ⟨0, 0, 0, 0⟩)
abbrev p2 : Pos := dP.1
abbrev p3 : Pos := dP.2
variable {P : Program} {w : World} {K : PySem.W.Frag} {mg : Str → Option Value} {base : Heap} {C fI cc : Addr} {p0 p1 p4 q0 q1 q2 q3 r0 r1 r2 r3 : Pos} {cv : Const} {ck : Nat} {cp : Pos} {params : Arguments}
abbrev damBody (p0 p1 p4 q0 q1 q2 q3 r0 r1 r2 r3 cp : Pos) (cs : Str) (ck : Nat) : List Stmt :=
  [.Expr (.Call (.Attribute (.Call (.Name "super" p0) [] [] p1) "__init__" p2) [.Constant (.str cs) ck cp] [] p3) p4,
   .Assign [.Attribute (.Name "self" q0) "address" q1] (.Name "address" q2) q3, .Assign [.Attribute (.Name "self" r0) "length" r1] (.Name "length" r2) r3]
/-- super().__init__('..') -/
theorem dam_super {A : Around} {outer : List Env} {s0 s : Shared} {H0 H : Hp} {a : Addr} {σ : L2.St} {cs : Str} {fd : FuncData} {oc : Value} {od : Option Addr} {osl : Array (Option Value)} {cda : Addr} {ccl : Value} {cdd : Option Addr} {vs : Array Value} {ccs : Array (Option Value)} {file : Str} {tf : Tok}
    {body : List Stmt} {E : Value → Shared → Prop} {Q : Value → Shared → Prop} {ar : Arg} {bd : List Stmt}
    (T : DamF P K mg C fI cc params bd scope) (lkf : K.lookup fI = some ⟨oc, od, .func fd, osl⟩) (hpar : (fd.params.posonlyargs ++ fd.params.args).head? = some ar) (har : ar.arg = "self") (hcda : K.lookup cda = some ⟨ccl, cdd, .fields vs, ccs⟩) (hvs : vs[2]? = some (.str file tf)) (hfile : ((P.main.file : Str) == file) = true)
    (hk : scope.kind = .function) (hks : scope.names.lookup ("super" : Str) = some .globalImplicit) (hkc : scope.names.lookup ("__class__" : Str) = some .free) (hka : scope.names.lookup ("self" : Str) = some .local)
    (I : L2.Inv (dcx P w K mg base scope fI cc (.ref cda) A outer s0 H0) [] σ H s) (hσ : σ[0]? = some (some (.ref a))) (ha : H a = some (exo a C none))
    (h : ∀ s', L2.Inv (dcx P w K mg base scope fI cc (.ref cda) A outer s0 H0) [] σ H s' → Q .none s') :
    _root_.PySem.wpAt (model P w) (dcx P w K mg base scope fI cc (.ref cda) A outer s0 H0).A (.func body (dcx P w K mg base scope fI cc (.ref cda) A outer s0 H0).env)
      (eval (.Call (.Attribute (.Call (.Name "super" p0) [] [] p1) "__init__" p2) [.Constant (.str cs) ck cp] [] p3) (dcx P w K mg base scope fI cc (.ref cda) A outer s0 H0).env) Q E s := by
  obtain ⟨nm, qn, N, bs, bm, sn, sub, ab, col, dd, k0, k1, k2, k3, k5, hC, hbm⟩ := T.ox.cls
  obtain ⟨cl, cld, csl, hcc⟩ := T.cell
  have KI : K.In s.heap := I.kIn
  obtain ⟨t1, ho⟩ := exo_at I.hok ha
  have hcls : PySem.W.clsIn K C = some { name := nm, bases := bs, mro := .ref C :: bm, ns := N, qualname := qn, hasDict := true, slotNames := sn, subclasses := sub, abstract := ab, collection := col, hasDel := false } := by unfold PySem.W.clsIn; rw [hC] <;> rfl
  have IA : PySem.W.InstAt s.heap a { cls := .ref C, dict := none, data := .fields #[.ref t1, .none, .none, .none, .bool false, .none] } C none := ⟨ho, rfl, rfl, trivial⟩
  have hCo := KI _ _ hC
  refine ks_wpAt_MethodCall (pl := _) ?_
  refine ks_wpAt_super_base (env := PySem.W.ksEnv "Damaged.__init__" scope s0.heap.objs.size fI (.ref cda) cc) hks hkc (by decide) rfl (KI _ _ lkf) rfl hpar rfl (KI _ _ hcda) rfl hvs hfile T.top ?_
  obtain ⟨mb, b1, b2⟩ := I.mod.blt
  refine PySem.W.ks_loadName_global hk hks (Calls.loadGlobal_builtin (env := PySem.W.ksEnv "Damaged.__init__" scope s0.heap.objs.size fI (.ref cda) cc) (I.mod.glob.keeps I.bk) T.sup (b1.keeps I.bk) ((b2 "super" (by decide)).trans (by decide +kernel)) ⟨rfl, ?_⟩)
  refine wpAny_loadName_free hk hkc rfl ⟨_, KI _ _ hcc, rfl⟩ ?_
  obtain ⟨m, hn, hl⟩ := I.loc
  obtain ⟨u, ru, lk⟩ := hl 0 "self" _ rfl hσ (.inl hka)
  obtain rfl : u = Value.ref a := ru
  have hm : m "self" = some (.ref a) := by
    rcases lk with ⟨_, e⟩ | ⟨e, _⟩
    · exact e
    · have hka' : (dcx P w K mg base scope fI cc (.ref cda) A outer s0 H0).env.kindOf "self" = some .local := hka
      rcases e with e | e <;> (rw [hka'] at e; cases e)
  rw [har]
  refine wpAny_loadName_local hk hka hn hm ?_
  refine ks_wpAny_isType_cls hCo rfl ⟨rfl, ?_⟩
  obtain ⟨hp, g, d, t, os⟩ := s
  refine ks_wpAny_call_super hCo rfl ho rfl (fun c e => by cases e) (PySem.W.looks_mroIn KI T.self) (fun h' eso kh => ?_)
  have I1 : L2.Inv (dcx P w K mg base scope fI cc (.ref cda) A outer s0 H0) [] σ H ⟨h', g, d, t, os⟩ := I.kept (t' := t) kh
  have KI1 : K.In h' := I1.kIn
  have hsi := T.si
  unfold PySem.W.ks_superIn at hsi
  rw [hcls] at hsi
  have mro : PySem.W.Looks (model P w) h' (mroOf (.ref C)) (.ref C :: bm) := (PySem.W.looks_clsIn KI1 hcls).andThen .now
  refine PySem.W.kxs_getMethod PySem.W.kxs_ValueError eso (PySem.W.looks_opaque KI1 T.no) mro rfl KI1 hsi ?_ (PySem.W.ks_ne KI IA hcls) (by decide) ?_
  · have IA1 : PySem.W.InstAt h' a { cls := .ref C, dict := none, data := .fields #[.ref t1, .none, .none, .none, .bool false, .none] } C none := ⟨kh _ _ ho, rfl, rfl, trivial⟩
    exact IA1.type.andThen (PySem.W.looks_subIn KI1 T.ve)
  have kp2 : ∀ b o, h'.get? b = some o → (h'.push (PySem.W.kxs_mw "ValueError.__init__" a)).get? b = some o := fun b o e => Heap.get?_push_of_some _ e
  have I2 : L2.Inv (dcx P w K mg base scope fI cc (.ref cda) A outer s0 H0) [] σ H ⟨h'.push (PySem.W.kxs_mw "ValueError.__init__" a), g, d, t + 1, os⟩ := I1.kept (t' := t + 1) kp2
  have hu : (h'.push (PySem.W.kxs_mw "ValueError.__init__" a)).get? h'.objs.size = some (PySem.W.kxs_mw "ValueError.__init__" a) := Heap.get?_push_size _ rfl
  have lit := pe_str (X := dcx P w K mg base scope fI cc (.ref cda) A outer s0 H0) (x := cs) (j := ck) (pos := cp)
  have I2p : L2.Inv (dcx P w K mg base scope fI cc (.ref cda) A outer s0 H0) [(h'.objs.size, PySem.W.kxs_mw "ValueError.__init__" a)] σ H ⟨h'.push (PySem.W.kxs_mw "ValueError.__init__" a), g, d, t + 1, os⟩ :=
    I2.pins_of fun y hy => by
      rw [List.mem_singleton.mp hy]
      exact ⟨hu, I1.hok.fresh (Nat.le_refl _), Nat.ne_of_gt I1.lt, I1.nofs (Nat.le_refl _), fun v z => by cases z⟩
  refine PySem.W.kxs_callWith (i := "ValueError.__init__") (x := a) rfl (Calls.evalArgs_plain ?_)
  refine thn ((pa_cons lit pa_nil).run p3 _ _ σ H (fun vs H' => vs = [.str cs] ∧ H' = H) I2p ⟨rfl, rfl⟩) fun us s3 ⟨vs3, H3, I3, r3', ev, eH⟩ => ?_
  subst ev eH
  have hu3 := (I3.pin (h'.objs.size, PySem.W.kxs_mw "ValueError.__init__" a) (List.mem_append_right _ (List.mem_singleton.mpr rfl))).1
  refine ⟨hu3, ?_⟩
  obtain ⟨t3, ho3⟩ := exo_at I3.hok ha
  have hlen : us.length ≤ sizeLine := by rw [← r3'.length, sizeLine_eq]; exact (by decide : 1 ≤ 16777216)
  obtain ⟨hp3, g3, d3, tk3, os3⟩ := s3
  have hC3 := I3.kIn _ _ hC
  refine wpAny_call (Q := Q) (codeAny_of_tree (show wpAny _ _ (callAny (.ref h'.objs.size) ⟨us, []⟩) _ _ _ from ?_))
  simp only [callAny]
  refine wpAny_bind (wpAny_load hu3 ?_)
  simp only [PySem.W.kxs_mw, show (Value.type "method-wrapper" == Value.type "method" || Value.type "method-wrapper" == Value.type "builtin_function_or_method" || Value.type "method-wrapper" == Value.type "method-wrapper") = true by decide, if_true]
  refine PySem.W.KFB.if_so (by decide) (wpAny_bind (PySem.W.check_bound_init F.excBase_ValueError.toExcCallFacts hC3 ho3 rfl (wpAny_bind (wpAny_pure (wpAny_pure ⟨plainId_quiet F.excBase_ValueError.init.plain _, codeAny_builtin F.excBase_ValueError.initEntry ?_⟩)))))
  refine PySem.W.exc_init_tree (cls := .ref C) (t0 := t3) (dv := none) (c2 := .none) (c3 := .none) (b4 := .bool false) ho3 hlen fun h4 k4 e4 _ => ?_
  refine h _ ?_
  have J := (I3.pins_of (pins' := []) fun y hy => by simp at hy).write (t' := tk3) (x := a) (e := a) (o := exo a C none) (by rw [ha]; exact True.intro) (.inl rfl) k4 ⟨_, e4⟩ (exo_ok e4)
  have eu : upd H3 a (exo a C none) = H3 := by
    funext b
    by_cases hb : b = a
    · rw [hb, upd_same, ha]
    · rw [upd_ne hb]
  rw [eu] at J
  exact J
/-- the def's promise -/
theorem dam_ok (T : DamF P K mg C fI cc (defArgs (inClass (top 10) 0)) (defBody (inClass (top 10) 0)) scope) : ∃ fd, FnOk P w K mg base CX0 1 fI fd ["self", "address", "length"] (spDam C) ∧ Binds K fd ["self", "address", "length"] [] := by
  obtain ⟨oc, od, dV, kV, doc, pm, an, ct, osl, cda, ccl, cdd, vs, ccs, file, tf, lk, rfl, hcd, hcda, hvs, hfile⟩ := T.fn
  refine ⟨PySem.W.ksFn "__init__" "Damaged.__init__" (defArgs (inClass (top 10) 0)) (defBody (inClass (top 10) 0)) scope .none kV doc pm an (.ref cda) ct cc, ⟨fun vs H Q E h => ?_, fun A outer s H args us vals Q E hr e0 hb r hsp => ?_⟩, .all fun us hl => ?_⟩
  rotate_left
  · obtain ⟨a, y, z, rfl, ha, hq⟩ := hsp
    have KX : K.In s.heap := e0.mod.kin.keeps fun b o e => (e0.bs b o e).1
    have lim : s.heap.NoLimit := e0.mod.nolimit.keeps fun b o e => (e0.bs b o e).1
    match us, r with
    | [ua, uy, uz], .cons ra (.cons ry (.cons rz .nil)) =>
    obtain rfl : ua = Value.ref a := ra
    refine ks_codeAny_call_defAt hr.depth (KX _ _ lk) rfl lim (PySem.W.codeRec_of KX hcd) rfl hb (show ∀ x ∈ scope.names, x.2 ≠ .cell by decide) (fun x hx => ?_) (fun h₀ hns hk => ?_)
    · simp only [List.zip_cons_cons, List.zip_nil_right, List.mem_cons, List.not_mem_nil, or_false] at hx
      rcases hx with rfl | rfl | rfl <;> rfl
    have hm1 : (fun x => (([("self", Value.ref a), ("address", uy), ("length", uz)] : List (Str × Value)).reverse.lookup x)) "self" = some (.ref a) := rfl
    have I : L2.Inv (dcx P w K mg base scope fI cc (.ref cda) A outer s H) [] [some (.ref a), some y, some z] H { s with heap := h₀, toks := s.toks + 3 } := by
      have noA : ∀ b : Addr, b ∉ ([] : List Addr) := fun b q => by simp at q
      obtain ⟨cl, cld, csl, hcc⟩ := T.cell
      have ccell : ∀ x c, (dcx P w K mg base scope fI cc (.ref cda) A outer s H).env.cells.lookup x = some c → x = "__class__" ∧ c = cc := fun x c e => by
        have e : ([("__class__", cc)] : List (Str × Addr)).lookup x = some c := e
        simp only [List.lookup] at e
        split at e
        · rename_i q
          cases e
          exact ⟨by simpa using q, rfl⟩
        · cases e
      have hccb : base.get? cc = some ⟨cl, cld, .cell (some (.ref C)), csl⟩ := e0.mod.kin _ _ hcc
      refine ⟨⟨e0.mod, rfl, rfl, rfl, Nat.le_refl _, fun x y c h1 h2 => (ccell _ _ h1).1.trans (ccell _ _ h2).1.symm, fun x hx => ?_, fun _ _ hx => (nomatch hx), fun _ => hr.hd, Around.frames_deeper e0.frames, .inr ⟨rfl, rfl⟩, fun b q => absurd q (noA b), e0.bs, e0.bsz, fun b _ _ => noA b, fun b q => absurd q (noA b), e0.funs, e0.frf⟩,
        rfl, e0.bare, Un.kept hk, ⟨_, hns, fun i x v h1 h2 h3 => ?_⟩, fun x c h => ?_, e0.hok.fresh (Nat.le_refl _), fun x c h => ?_, fun q hq => ?_, e0.hok.kept hk, rfl⟩
      · refine ⟨cc, ?_⟩
        have key : ∀ x : Str, (scope.names.lookup x = some .cell ∨ scope.names.lookup x = some .free) → x = "__class__" := fun x hx => by
          have hx' : scope.names.lookup x = some .cell ∨ scope.names.lookup x = some .free := hx
          have mem : (x, NameKind.cell) ∈ scope.names ∨ (x, NameKind.free) ∈ scope.names := hx'.imp PySem.mem_of_lookup PySem.mem_of_lookup
          have all : ∀ p ∈ scope.names, (p.2 = .cell ∨ p.2 = .free) → p.1 = "__class__" := by decide
          rcases mem with m | m
          · exact all _ m (.inl rfl)
          · exact all _ m (.inr rfl)
        rw [key x hx]
        rfl
      · match i with
        | 0 =>
          cases h1; cases h2
          exact ⟨_, rfl, .inl ⟨rfl, rfl⟩⟩
        | 1 =>
          cases h1; cases h2
          exact ⟨_, ry, .inl ⟨rfl, rfl⟩⟩
        | 2 =>
          cases h1; cases h2
          exact ⟨_, rz, .inl ⟨rfl, rfl⟩⟩
        | n + 3 => cases h1
      · obtain ⟨rfl, rfl⟩ := ccell x c h
        exact ⟨_, _, hk _ _ (KX _ _ hcc), rfl⟩
      · obtain ⟨rfl, rfl⟩ := ccell x c h
        exact (e0.bs _ _ hccb).2
      · have : q ∈ ([] : List (Addr × Obj)) := hq
        simp at this
    have nd : (["self", "address", "length"] : List Str).Nodup := by decide
    refine ks_wpAt_execs_cons (ks_wpAt_Expr_any (dam_super T lk rfl rfl hcda hvs hfile rfl rfl rfl rfl I rfl ha fun s1 I1 => ?_))
    refine wpAt_of_wpAny ?_
    have X1 : PSs (dcx P w K mg base scope fI cc (.ref cda) A outer s H) ((defBody (inClass (top 10) 0)).tail) _ :=
      pss_cons (ps_ost (f := "address") (pe_var (i := 0) rfl (.inl rfl)) (pe_var (i := 1) rfl (.inl rfl))) (pss_one (ps_ost (f := "length") (pe_var (i := 0) rfl (.inl rfl)) (pe_var (i := 2) rfl (.inl rfl))))
    refine wpAny_mono (X1.run [] s1 _ H { nx := fun _ H' => Q .non H', rt := Q } I1 ?_) (fun fl s2 hs => ?_) fun _ _ q => q.elim
    · refine ⟨_, rfl, _, rfl, a, C, rfl, T.ox, T.na, .inl ⟨ha, fun dx n1 n2 => ?_⟩⟩
      refine ⟨_, rfl, _, rfl, a, C, rfl, T.ox, T.nl, .inr ⟨dx, _, upd_same, ?_, (by show 1 ≤ 900; decide), hq dx n1 n2⟩⟩
      rw [upd_ne n2, upd_same]
    · cases fl with
      | next =>
        obtain ⟨σ', H', J, q⟩ := hs
        exact ⟨.non, H', J.os, J.bare, J.base, J.hok, rfl, q⟩
      | brk => obtain ⟨_, _, _, q⟩ := hs; exact q.elim
      | cont => obtain ⟨_, _, _, q⟩ := hs; exact q.elim
      | ret u =>
        obtain ⟨v, σ', H', J, rv, q⟩ := hs
        exact ⟨v, H', J.os, J.bare, J.base, J.hok, rv, q⟩
  · match us, hl with
    | [_, _, _], _ => rfl
  · obtain ⟨a, y, z, rfl, _⟩ := h
    rfl
/-- raise Damaged(a, b), as an exception that is made -/
theorem pmk_dam {X : Cx} {e : Expr} {es : List Expr} {ta : TA} {p pos : Pos} (T : DamF X.prog X.K X.mg C fI cc (defArgs (inClass (top 10) 0)) (defBody (inClass (top 10) 0)) scope) (hr : Room 2 X.A) (hg : Gl X "Damaged") (ha : PA X (e :: es) ta)
    (he : starEach (e :: es) X.env = (false, eval e X.env) :: starEach es X.env := by rfl) (hpl : (backTo pos (starEach es X.env)).any (·.1) = false := by rfl) :
    PMk X (.Call (.Name "Damaged" p) (e :: es) [] pos) (tMkO C (spDam C) [] ta) := by
  obtain ⟨fd, F1, B⟩ := dam_ok (w := X.w) (base := X.base) T
  exact pmk_oex T.ox T.iC T.tI F1 hr B .nil (fun _ _ _ _ _ _ _ h => h.elim) hg T.gC ha (by decide) he hpl
/-- what it makes: the way out of the def -/
theorem mk_dam {ta : TA} {σ : L2.St} {H : Hp} {Q : XK} (hmono : ∀ {A B : List V → Hp → Prop}, ta σ H A → (∀ vs H1, A vs H1 → B vs H1) → ta σ H B) (h : ta σ H fun vs H1 => ∃ y z, vs = [y, z] ∧ ∀ d fs H2, Same H1 H2 → H1 d = none → H2 d = some (.xd fs) → Q (.ref C) (some d) H2) : tMkO C (spDam C) [] ta σ H Q := by
  have key : ∀ vs H1, (∃ y z, vs = [y, z] ∧ ∀ d fs H2, Same H1 H2 → H1 d = none → H2 d = some (.xd fs) → Q (.ref C) (some d) H2) → vs.length ≤ 1000 ∧ ∀ a, H1 a = none → spDam C (.ref a :: (vs ++ [])) (upd H1 a (exo a C none))
      (fun v H2 => v = .non ∧ ∃ (d : Addr) (fs : List (Str × V)), H2 a = some (exo a C (some d)) ∧ H2 d = some (exd d fs) ∧ H1 d = none ∧ Q (.ref C) (some d) (upd (L2.del H2 a) d (.xd fs))) (fun _ _ _ => False) := by
    rintro vs H1 ⟨y, z, rfl, q⟩
    refine ⟨by show 2 ≤ 1000; decide, fun a na => ⟨a, y, z, rfl, upd_same, fun dx n1 n2 => ⟨rfl, dx, [("length", z), ("address", y)], ?_, upd_same, ?_, ?_⟩⟩⟩
    · rw [upd_ne (Ne.symm n2), upd_same]
    · rw [upd_ne n2] at n1; exact n1
    · rw [upd_ne n2] at n1
      refine q dx _ _ (fun b o e => ?_) n1 upd_same
      have h1 : b ≠ a := ne_of_none e na
      have h2 : b ≠ dx := ne_of_none e n1
      rw [upd_ne h2, L2.del_ne h1, upd_ne h2, upd_ne h1, upd_ne h2, upd_ne h1]
      exact e
  exact hmono h key
end
end Tz
namespace Tz
open PySem PySem.Spec PyProof.Rows L2
def Kd.name : Kd → Str
  | .i1 => "i1" | .i2 => "i2" | .i4 => "i4" | .u1 => "u1" | .u2 => "u2" | .u4 => "u4"
structure Ty (P : Program) (w : World) (K : PySem.W.Frag) (mg : Str → Option Value) : Prop extends Tx K mg where
  wid : ∀ k : Kd, KDct K w (He.ga K "WIDTHS") k.name (.int k.w)
  spa : ∀ k : Kd, KDi K (He.ga K "SPANS") k.w (.int k.span)
  nothing : ∀ H, SqT K H (He.ga K "NOTHING") (iv [0, 0])
  dam : ∃ cc, DamF P K mg (He.ga K "Damaged") (He.ma K (He.ga K "Damaged") "__init__") cc (defArgs (inClass (top 10) 0)) (defBody (inClass (top 10) 0)) scope
  exm : PySem.W.exmOne K (.ref (He.ga K "Damaged")) (.ref (He.ga K "Damaged")) = some true
def spKd (f : Kd → Int) : Sp := fun vs H Q _ => ∃ k : Kd, vs = [.str k.name] ∧ Q (.int (f k)) H
instance (k : Kd) (v : Int) : Decidable (k.In v) := inferInstanceAs (Decidable (k.least ≤ v ∧ v ≤ k.greatest))
def spInR : Sp := fun vs H Q _ => ∃ (k : Kd) (v : Int), vs = [.str k.name, .int v] ∧ Q (.bl (decide (k.In v))) H
def spDem (K : PySem.W.Frag) : Sp := fun vs H Q _ => ∃ (k : Kd) (a : Addr) (xs : List Int), vs = [.str k.name, .ref a] ∧ SqL K H a (iv xs) ∧ (∀ x ∈ xs, k.In x) ∧ Q .non H
section
variable {P : Program} {w : World} {K : PySem.W.Frag} {mg : Str → Option Value} {base : Heap}
theorem sc_k1 : FnScope ["kind"] ["kind"] (defScope (top 29)) := ⟨rfl, rfl, rfl, by decide +kernel, rfl, by decide +kernel, by decide +kernel⟩
theorem c_width (T : Ty P w K mg) : C8.Cal P w K mg base 1 "width" (spKd fun k => k.w) [] := by
  refine cal_of T.f_width (fun _ _ _ _ _ _ us hl => match us, hl with | [_], _ => rfl) sc_k1 (fun vs H Q E h => ?_) (fun f cdv A outer s H vs Q E hr h => ?_)
  · obtain ⟨k, rfl, _⟩ := h
    rfl
  · obtain ⟨k, rfl, q⟩ := h
    refine ⟨_, pss_one (ps_ret (pe_ix ix_kdict (pe_glob (by rfl) T.g_WIDTHS (v := .ref (He.ga K "WIDTHS")) rfl) (pv 0) (fun _ _ => rfl))), ?_⟩
    exact ⟨_, rfl, _, _, _, rfl, rfl, T.wid k, q⟩
theorem sc_k2 : FnScope ["kind"] ["kind"] (defScope (top 30)) := ⟨rfl, rfl, rfl, by decide +kernel, rfl, by decide +kernel, by decide +kernel⟩
theorem c_span (T : Ty P w K mg) : C8.Cal P w K mg base 1 "span" (spKd Kd.span) [] := by
  refine cal_of T.f_span (fun _ _ _ _ _ _ us hl => match us, hl with | [_], _ => rfl) sc_k2 (fun vs H Q E h => ?_) (fun f cdv A outer s H vs Q E hr h => ?_)
  · obtain ⟨k, rfl, _⟩ := h
    rfl
  · obtain ⟨k, rfl, q⟩ := h
    refine ⟨_, pss_one (ps_ret (pe_ix ix_kdictI (pe_glob (by rfl) T.g_SPANS (v := .ref (He.ga K "SPANS")) rfl) (pe_ix ix_kdict (pe_glob (by rfl) T.g_WIDTHS (v := .ref (He.ga K "WIDTHS")) rfl) (pv 0) (fun _ _ => rfl)) (fun _ _ => rfl))), ?_⟩
    exact ⟨_, rfl, _, _, _, rfl, rfl, T.wid k, _, _, _, rfl, rfl, T.spa k, q⟩
theorem sc_k3 : FnScope ["kind"] ["kind"] (defScope (top 31)) := ⟨rfl, rfl, rfl, by decide +kernel, rfl, by decide +kernel, by decide +kernel⟩
theorem c_least (T : Ty P w K mg) : C8.Cal P w K mg base 2 "least" (spKd Kd.least) [] := by
  refine cal_of T.f_least (fun _ _ _ _ _ _ us hl => match us, hl with | [_], _ => rfl) sc_k3 (fun vs H Q E h => ?_) (fun f cdv A outer s H vs Q E hr h => ?_)
  · obtain ⟨k, rfl, _⟩ := h
    rfl
  · obtain ⟨k, rfl, q⟩ := h
    refine ⟨_, pss_cons (ps_if (pt_cmpR op_eq (pe_ix ix_str (pv 0) pe_int (fun _ _ => rfl)) pe_str (nomark _)) (pss_one (ps_ret pe_int)) pss_nil)
      (pss_one (ps_ret (pe_un un_neg (pe_op op_fdivN (C8.pe_c (c_span T) hr (by decide) rfl (pa_cons (pv 0) pa_nil)) pe_int)))), ?_⟩
    have hu : ∀ k : Kd, ∃ c, atI k.name.cps.toList 0 = some c ∧ (decide (V.str ⟨#[c]⟩ = V.str "u") = true → k.least = 0) ∧ (decide (V.str ⟨#[c]⟩ = V.str "u") = false → k.least = -(k.span.fdiv 2)) := by
      intro k
      cases k
      all_goals (refine ⟨_, rfl, ?_, ?_⟩ <;> first | (intro _; rfl) | (intro h; exact absurd h (by decide)))
    obtain ⟨c, hc, h1, h2⟩ := hu k
    refine ⟨_, rfl, _, 0, c, rfl, rfl, by cases k <;> decide, hc, rfl, _, rfl, ?_⟩
    cases hd : decide (V.str ⟨#[c]⟩ = V.str "u") with
    | true =>
      refine iteT ?_
      rw [h1 hd] at q
      exact q
    | false =>
      refine iteF ?_
      rw [h2 hd] at q
      exact ⟨_, rfl, k, rfl, k.span, 2, rfl, rfl, ⟨by decide, by decide⟩, _, rfl, q⟩
theorem sc_k4 : FnScope ["kind"] ["kind"] (defScope (top 32)) := ⟨rfl, rfl, rfl, by decide +kernel, rfl, by decide +kernel, by decide +kernel⟩
theorem c_greatest (T : Ty P w K mg) : C8.Cal P w K mg base 3 "greatest" (spKd Kd.greatest) [] := by
  refine cal_of T.f_greatest (fun _ _ _ _ _ _ us hl => match us, hl with | [_], _ => rfl) sc_k4 (fun vs H Q E h => ?_) (fun f cdv A outer s H vs Q E hr h => ?_)
  · obtain ⟨k, rfl, _⟩ := h
    rfl
  · obtain ⟨k, rfl, q⟩ := h
    refine ⟨_, pss_one (ps_ret (pe_op op_sub (pe_op op_add (C8.pe_c (c_least T) hr (by decide) rfl (pa_cons (pv 0) pa_nil)) (C8.pe_c (c_span T) hr (by decide) rfl (pa_cons (pv 0) pa_nil))) pe_int)), ?_⟩
    exact ⟨_, rfl, k, rfl, _, rfl, k, rfl, k.least, k.span, rfl, rfl, _, 1, rfl, rfl, q⟩
theorem sc_k5 : FnScope ["kind", "value"] ["kind", "value"] (defScope (top 33)) := ⟨rfl, rfl, rfl, by decide +kernel, rfl, by decide +kernel, by decide +kernel⟩
theorem c_inr (T : Ty P w K mg) : C8.Cal P w K mg base 4 "in_range" spInR [] := by
  refine cal_of T.f_in_range (fun _ _ _ _ _ _ us hl => match us, hl with | [_, _], _ => rfl) sc_k5 (fun vs H Q E h => ?_) (fun f cdv A outer s H vs Q E hr h => ?_)
  · obtain ⟨k, v, rfl, _⟩ := h
    rfl
  · obtain ⟨k, v, rfl, q⟩ := h
    refine ⟨_, pss_one (ps_ret (pe_chain op_le op_le (C8.pe_c (c_least T) hr (by decide) rfl (pa_cons (pv 0) pa_nil)) (pv 1) (C8.pe_c (c_greatest T) hr (by decide) rfl (pa_cons (pv 0) pa_nil)))), ?_⟩
    refine ⟨_, rfl, k, rfl, _, rfl, k.least, v, rfl, rfl, _, rfl, ?_⟩
    by_cases h1 : k.least ≤ v
    · refine iteK (by simpa using h1) ⟨_, rfl, k, rfl, v, k.greatest, rfl, rfl, ?_⟩
      have e : decide (k.In v) = decide (v ≤ k.greatest) := by unfold Kd.In; simp [h1]
      rw [e] at q
      exact q
    · refine iteKF (by simpa using h1) ?_
      have e : decide (k.In v) = false := by unfold Kd.In; simp [h1]
      rw [e] at q
      exact q
theorem sc_k6 : FnScope ["kind", "values", "value"] ["kind", "values"] (defScope (top 34)) := ⟨rfl, rfl, rfl, by decide +kernel, rfl, by decide +kernel, by decide +kernel⟩
theorem c_dem (T : Ty P w K mg) : C8.Cal P w K mg base 5 "demand_range" (spDem K) [] := by
  refine cal_of T.f_demand_range (fun _ _ _ _ _ _ us hl => match us, hl with | [_, _], _ => rfl) sc_k6 (fun vs H Q E h => ?_) (fun f cdv A outer s H vs Q E hr h => ?_)
  · obtain ⟨k, a, xs, rfl, _⟩ := h
    rfl
  · obtain ⟨k, a, xs, rfl, ha, hin, q⟩ := h
    have nd := sc_k6.nd
    refine ⟨_, pss_one (ps_for PassesOwn.never rfl (pi_list (pv 1)) (pg_name (i := 2) nd rfl (.inl rfl))
      (pss_one (ps_if (pt_not (pt_val (C8.pe_c (c_inr T) hr (by decide) rfl (pa_cons (pv 0) (pa_cons (pv 2) pa_nil))))) (pss_one ps_never) pss_nil))), ?_⟩
    refine ⟨_, rfl, a, rfl, ⟨_, ha⟩, for_list (K := K) (a := a) (xs := iv xs) (fun i σ H' => H' = H ∧ ∃ z, σ = [some (.str k.name), some (.ref a), z]) ⟨rfl, _, rfl⟩ (fun i σ H' _ h => by rw [h.1]; exact ha) ?_ ?_⟩
    · rintro i x σ H' hx ⟨rfl, z, rfl⟩
      obtain ⟨n, hn, rfl⟩ := iv_get hx
      have := hin n (List.mem_of_getElem? hn)
      refine ⟨_, rfl, _, rfl, k, n, rfl, _, rfl, ?_⟩
      refine iteKF (by simp [this]) ⟨rfl, some (.int n), rfl⟩
    · rintro σ H' ⟨rfl, z, rfl⟩
      exact q
end
end Tz
namespace Tz
open PySem PySem.Spec PyProof.Rows L2
def shr : Nat → Int → Int
  | 0, n => n
  | j + 1, n => shr j (n / 256)
theorem shr_succ : ∀ (j : Nat) (n : Int), shr (j + 1) n = shr j n / 256
  | 0, _ => rfl
  | j + 1, n => by
    show shr (j + 1) (n / 256) = shr j (n / 256) / 256
    exact shr_succ j (n / 256)
theorem dig_at : ∀ {w j : Nat} {n : Int}, j < w → (dig w n)[j]? = some (shr j n % 256)
  | 0, _, _, h => absurd h (Nat.not_lt_zero _)
  | _ + 1, 0, _, _ => rfl
  | w + 1, j + 1, n, h => by
    show (dig w (n / 256))[j]? = some (shr j (n / 256) % 256)
    exact dig_at (by omega)
def spSto (K : PySem.W.Frag) : Sp := fun vs H Q _ => ∃ (k : Kd) (a : Addr) (xs : List Int), vs = [.str k.name, .ref a] ∧ SqL K H a (iv xs) ∧ (∀ x ∈ xs, k.In x) ∧ xs.length ≤ 1000000 ∧ Out H Q (.lst (iv (k.stor xs)))
def spLoa (K : PySem.W.Frag) : Sp := fun vs H Q _ => ∃ (k : Kd) (a : Addr) (xs : List Int), vs = [.str k.name, .ref a] ∧ SqL K H a (iv (k.stor xs)) ∧ (∀ x ∈ xs, k.In x) ∧ xs.length ≤ 1000000 ∧ Out H Q (.lst (iv xs))
theorem stor_snoc {k : Kd} {xs : List Int} {i : Nat} {v : Int} (h : xs[i]? = some v) : k.stor (xs.take (i + 1)) = k.stor (xs.take i) ++ dig k.w (v % k.span) := by
  rw [take_snoc h]
  unfold Kd.stor
  simp
theorem rg_pos {b c : Int} {n : Nat} (hc : c = 1 ∨ c = 2 ∨ c = 4) (hb : b = c * n) (hs : b < 2 ^ 40) : RgC 0 b c n := by
  have e : Builtin.Range.rangeSize 0 b c = n := by
    unfold Builtin.Range.rangeSize
    rcases hc with rfl | rfl | rfl
    · rw [if_pos (by decide)]; split <;> omega
    · rw [if_pos (by decide)]; split <;> omega
    · rw [if_pos (by decide)]; split <;> omega
  refine ⟨by omega, by omega, ?_, e⟩
  unfold Builtin.Range.small
  rw [e]
  simp only [Builtin.Range.rangeFitsLong, Bool.and_eq_true, Bool.or_eq_true, decide_eq_true_eq, beq_iff_eq]
  have h1 : c > 0 := by omega
  have h2 : 0 ≤ b := by rcases hc with rfl | rfl | rfl <;> omega
  have h3 : (n : Int) ≤ b := by rcases hc with rfl | rfl | rfl <;> omega
  simp only [h1, if_true]
  refine ⟨⟨⟨⟨by omega, by omega⟩, by omega⟩, by omega⟩, ?_⟩
  right
  rcases hc with rfl | rfl | rfl <;> simp [Builtin.Range.rangeFitsLong] <;> omega
theorem dig_back {w p : Nat} {n d : Int} (hp : p < w) (h : (dig w n)[w - 1 - p]? = some d) : undig ((dig w n).drop (w - (p + 1))) = undig ((dig w n).drop (w - p)) * 256 + d := by
  have e : (dig w n).drop (w - (p + 1)) = d :: (dig w n).drop (w - p) := by
    obtain ⟨hl, he⟩ := List.getElem?_eq_some_iff.mp h
    have := List.drop_eq_getElem_cons hl
    rw [he] at this
    rw [show w - (p + 1) = w - 1 - p by omega, this, show w - 1 - p + 1 = w - p by omega]
  rw [e]
  rfl
theorem stor_digit {k : Kd} {xs : List Int} {j p : Nat} {v : Int} (hv : xs[j]? = some v) (hp : p < k.w) : (k.stor xs)[k.w * j + (k.w - 1 - p)]? = (dig k.w (v % k.span))[k.w - 1 - p]? := by
  rw [← k.stor_at xs hv, List.getElem?_take_of_lt (by omega), List.getElem?_drop]
section
variable {P : Program} {w : World} {K : PySem.W.Frag} {mg : Str → Option Value} {base : Heap}
theorem sc_sto : FnScope ["kind", "values", "stored", "value", "left", "_"] ["kind", "values"] (defScope (top 35)) := ⟨rfl, rfl, rfl, by decide +kernel, rfl, by decide +kernel, by decide +kernel⟩
theorem c_sto (T : Ty P w K mg) : C8.Cal P w K mg base 6 "store_values" (spSto K) [] := by
  refine cal_of T.f_store_values (fun _ _ _ _ _ _ us hl => match us, hl with | [_, _], _ => rfl) sc_sto (fun vs H Q E h => ?_) (fun f cdv A outer s H vs Q E hr h => ?_)
  · obtain ⟨k, a, xs, rfl, _⟩ := h
    rfl
  · obtain ⟨k, a, xs, rfl, ha, hin, hz, q⟩ := h
    have nd := sc_sto.nd
    refine ⟨_, pss_cons (ps_expr (C8.pe_c (c_dem T) hr (by decide) rfl (pa_cons (pv 0) (pa_cons (pv 1) pa_nil))))
      (pss_cons (ps_set (i := 2) nd rfl (.inl rfl) (pe_lst pa_nil))
      (pss_cons (ps_for PassesOwn.never rfl (pi_list (pv 1)) (pg_name (i := 3) nd rfl (.inl rfl))
        (pss_cons (ps_set (i := 4) nd rfl (.inl rfl) (pe_op op_modN (pv 3) (C8.pe_c (c_span T) hr (by decide) rfl (pa_cons (pv 0) pa_nil))))
        (pss_one (ps_for PassesOwn.never rfl (pi_range1 (by rfl) T.n_range (pa_cons (pe_ix ix_kdict (pe_glob (by rfl) T.g_WIDTHS (v := .ref (He.ga K "WIDTHS")) rfl) (pv 0) (fun _ _ => rfl)) pa_nil)) (pg_name (i := 5) nd rfl (.inl rfl))
          (pss_cons (ps_expr (pe_bm PySem.F.plainAttrs_list PySem.F.slot_list_append PySem.F.type_list_append mt_append (pv 2) (pa_cons (pe_op op_modN (pv 4) pe_int) pa_nil)))
            (pss_one (ps_set (i := 4) nd rfl (.inl rfl) (pe_op op_fdivN (pv 4) pe_int))))))))
      (pss_one (ps_ret (pv 2))))), ?_⟩
    refine ⟨_, rfl, _, rfl, k, a, xs, rfl, ha, hin, ?_⟩
    refine ⟨(by show 0 ≤ sizeLine; decide), fun l hl => ?_⟩
    have hw4 : k.w ≤ 4 := by cases k <;> decide
    refine ⟨_, rfl, a, rfl, ⟨_, same_sqL (same_upd0 hl) ha⟩, for_list (K := K) (a := a) (xs := iv xs) (fun i σ H' => Same H H' ∧ H' l = some (.lst (iv (k.stor (xs.take i)))) ∧ ∃ z u y, σ = [some (.str k.name), some (.ref a), some (.ref l), z, u, y])
      ⟨same_upd0 hl, by rw [upd_same]; rfl, none, none, none, rfl⟩ (fun i σ H' _ h => same_sqL h.1 ha) ?_ ?_⟩
    · rintro i x σ H' hx ⟨hs, h1, z, u, y, rfl⟩
      obtain ⟨n, hn, rfl⟩ := iv_get hx
      have hsp : k.span ≠ 0 := by cases k <;> decide
      have hsp0 : 0 ≤ k.span := by cases k <;> decide
      have hzi : (xs.take i).length ≤ 1000000 := by rw [List.length_take]; omega
      refine ⟨_, rfl, _, rfl, k, rfl, n, k.span, rfl, rfl, hsp, ?_⟩
      refine ⟨_, rfl, _, _, _, rfl, rfl, T.wid k, (k.w : Int), rfl, by omega, by omega, for_range (n := k.w) (fun j σ H' => Same H H' ∧ H' l = some (.lst (iv (k.stor (xs.take i) ++ (dig k.w (n % k.span)).take j))) ∧ ∃ y, σ = [some (.str k.name), some (.ref a), some (.ref l), some (.int n), some (.int (shr j (n % k.span))), y])
        ⟨hs, by rw [h1]; simp, y, by simp [shr, Int.fmod_eq_emod_of_nonneg _ hsp0]⟩ ?_ ?_⟩
      · rintro j σ H1 hj ⟨hs1, h2, y1, rfl⟩
        have hd := dig_at (n := n % k.span) hj
        have hm : (k.stor (xs.take i)).length ≤ 4 * 1000000 := by
          rw [Kd.stor_len]
          exact Nat.mul_le_mul hw4 hzi
        refine ⟨_, rfl, .inl ⟨rfl, _, SqL.of h2⟩, _, rfl, _, 256, rfl, rfl, (show (256 : Int) ≠ 0 by decide), l, _, _, rfl, rfl, h2, ?_, ?_⟩
        · rw [List.length_map, List.length_append, List.length_take, dig_len, sizeLine_eq]; omega
        · refine ⟨_, rfl, _, 256, rfl, rfl, ⟨by decide, by decide⟩, same_updD hs1 hl, ?_, some (.int (0 + j)), ?_⟩
          · rw [upd_same, take_snoc hd]
            simp [Int.fmod_eq_emod_of_nonneg _ (show (0 : Int) ≤ 256 by decide)]
          · rw [shr_succ]
            simp [Int.fdiv_eq_ediv_of_nonneg _ (show (0 : Int) ≤ 256 by decide)]
      · rintro σ H1 ⟨hs1, h2, y1, rfl⟩
        refine ⟨hs1, ?_, some (.int n), some (.int (shr k.w (n % k.span))), y1, rfl⟩
        rw [h2, stor_snoc hn, show (dig k.w (n % k.span)).take k.w = dig k.w (n % k.span) from List.take_of_length_le (by rw [dig_len]; omega)]
    · rintro σ H' ⟨hs, h1, z, u, y, rfl⟩
      refine ⟨_, rfl, q l H' hl hs ?_⟩
      rw [h1, List.length_map, List.take_length]
theorem sc_loa : FnScope ["kind", "stored", "size", "values", "at", "number", "place"] ["kind", "stored"] (defScope (top 36)) := ⟨rfl, rfl, rfl, by decide +kernel, rfl, by decide +kernel, by decide +kernel⟩
theorem c_loa (T : Ty P w K mg) : C8.Cal P w K mg base 6 "load_values" (spLoa K) [] := by
  refine cal_of T.f_load_values (fun _ _ _ _ _ _ us hl => match us, hl with | [_, _], _ => rfl) sc_loa (fun vs H Q E h => ?_) (fun f cdv A outer s H vs Q E hr h => ?_)
  · obtain ⟨k, a, xs, rfl, _⟩ := h
    rfl
  · obtain ⟨k, a, xs, rfl, ha, hin, hz, q⟩ := h
    have nd := sc_loa.nd
    refine ⟨_, pss_cons (ps_set (i := 2) nd rfl (.inl rfl) (pe_ix ix_kdict (pe_glob (by rfl) T.g_WIDTHS (v := .ref (He.ga K "WIDTHS")) rfl) (pv 0) (fun _ _ => rfl)))
      (pss_cons (ps_set (i := 3) nd rfl (.inl rfl) (pe_lst pa_nil))
      (pss_cons (ps_for PassesOwn.never rfl (pi_range3 (by rfl) T.n_range (pa_cons pe_int (pa_cons (pe_callB call_len (by rfl) T.n_len PySem.boot_len (pa_cons (pv 1) pa_nil)) (pa_cons (pv 2) pa_nil)))) (pg_name (i := 4) nd rfl (.inl rfl))
        (pss_cons (ps_set (i := 5) nd rfl (.inl rfl) pe_int)
        (pss_cons (ps_for PassesOwn.never rfl (pi_range3 (by rfl) T.n_range (pa_cons (pe_op op_sub (pv 2) pe_int) (pa_cons (pe_un un_neg pe_int) (pa_cons (pe_un un_neg pe_int) pa_nil)))) (pg_name (i := 6) nd rfl (.inl rfl))
          (pss_one (ps_set (i := 5) nd rfl (.inl rfl) (pe_op op_add (pe_op op_mul (pv 5) pe_int) (pe_ix ix_list (pv 1) (pe_op op_add (pv 4) (pv 6)) (fun _ _ => rfl))))))
        (pss_cons (ps_if (pt_cmpR op_gt (pv 5) (C8.pe_c (c_greatest T) hr (by decide) rfl (pa_cons (pv 0) pa_nil)) (nomark _))
          (pss_one (ps_aug (i := 5) nd rfl (.inl rfl) (C8.pe_c (c_span T) hr (by decide) rfl (pa_cons (pv 0) pa_nil)) ip_sub)) pss_nil)
        (pss_one (ps_expr (pe_bm PySem.F.plainAttrs_list PySem.F.slot_list_append PySem.F.type_list_append mt_append (pv 3) (pa_cons (pv 5) pa_nil))))))))
      (pss_one (ps_ret (pv 3))))), ?_⟩
    have hw4 := k.w_of
    have hlen : (iv (k.stor xs)).length = k.w * xs.length := by rw [List.length_map, Kd.stor_len]
    refine ⟨_, rfl, _, _, _, rfl, rfl, T.wid k, ?_⟩
    refine ⟨(by show 0 ≤ sizeLine; decide), fun l hl => ?_⟩
    refine ⟨_, rfl, _, _, rfl, .inl ⟨_, same_sqL (same_upd0 hl) ha, rfl⟩, _, rfl, 0, _, (k.w : Int), xs.length, rfl, rg_pos (by omega) (by rw [hlen]; simp) ?_, ?_⟩
    · rw [hlen]
      rcases hw4 with e | e | e <;> rw [e] <;> omega
    refine for_rangeC (fun j σ H' => Same H H' ∧ H' l = some (.lst (iv (xs.take j))) ∧ ∃ y u z, σ = [some (.str k.name), some (.ref a), some (.int k.w), some (.ref l), y, u, z])
      ⟨same_upd0 hl, by rw [upd_same]; rfl, none, none, none, rfl⟩ ?_ ?_
    · rintro j σ H' hj ⟨hs, hL, y, u, z, rfl⟩
      obtain ⟨v, hv⟩ : ∃ x, xs[j]? = some x := ⟨xs[j], List.getElem?_eq_getElem hj⟩
      have hvin := hin v (List.mem_of_getElem? hv)
      have ha' := same_sqL hs ha
      refine ⟨_, rfl, (k.w : Int), 1, rfl, rfl, 1, rfl, 1, rfl, (k.w : Int) - 1, -1, -1, k.w, rfl, ?_, ?_⟩
      · have := RgC.neg (i := (k.w : Int) - 1) (j := -1) (by omega) (by omega) (by omega) (by omega)
        rw [show ((k.w : Int) - 1 - -1).toNat = k.w by omega] at this
        exact this
      refine for_rangeC (fun p σ H2 => H2 = H' ∧ ∃ z, σ = [some (.str k.name), some (.ref a), some (.int k.w), some (.ref l), some (.int (0 + (j : Nat) * (k.w : Int))), some (.int (undig ((dig k.w (v % k.span)).drop (k.w - p)))), z])
        ⟨rfl, z, ?_⟩ ?_ ?_
      · rw [Nat.sub_zero, List.drop_eq_nil_of_le (by rw [dig_len]; omega)]
        rfl
      · rintro p σ H2 hp ⟨rfl, z, rfl⟩
        obtain ⟨d, hd⟩ : ∃ d, (dig k.w (v % k.span))[k.w - 1 - p]? = some d := by
          have hlt : k.w - 1 - p < (dig k.w (v % k.span)).length := by rw [dig_len]; omega
          exact ⟨_, List.getElem?_eq_getElem hlt⟩
        have hat : (iv (k.stor xs))[k.w * j + (k.w - 1 - p)]? = some (.int d) := by
          rw [List.getElem?_map, stor_digit hv hp, hd]; rfl
        have e0 : (0 + (j : Nat) * (k.w : Int)) + ((k.w : Int) - 1 + (p : Nat) * -1) = ((k.w * j + (k.w - 1 - p) : Nat) : Int) := by
          rw [Int.natCast_add, Int.natCast_mul, Int.mul_comm (k.w : Int)]; omega
        refine ⟨_, rfl, _, 256, rfl, rfl, .inr ⟨by decide, by decide⟩, ?_⟩
        refine ⟨_, rfl, _, rfl, _, rfl, _, _, rfl, rfl, a, _, _, .int d, rfl, rfl, ha', ?_, ?_⟩
        · rw [e0]; exact atI_nat hat
        refine ⟨_, _, rfl, rfl, rfl, some (.int ((k.w : Int) - 1 + (p : Nat) * -1)), ?_⟩
        rw [dig_back hp hd]
        rfl
      · rintro σ H2 ⟨rfl, z, rfl⟩
        rw [Nat.sub_self, List.drop_zero]
        have hr := k.round hvin
        unfold Kd.back at hr
        have hsz : (iv (xs.take j)).length < sizeLine := by rw [List.length_map, List.length_take, sizeLine_eq]; omega
        refine ⟨_, rfl, _, rfl, k, rfl, _, _, rfl, rfl, _, rfl, ?_⟩
        refine iteB (fun hb => ?_) fun hb => ?_
        · rw [if_pos hb] at hr
          refine ⟨_, rfl, _, rfl, k, rfl, _, _, rfl, rfl, ?_⟩
          refine ⟨_, rfl, .inl ⟨rfl, _, SqL.of hL⟩, _, rfl, l, _, _, rfl, rfl, hL, hsz, same_updD hs hl, ?_, _, _, z, rfl⟩
          rw [upd_same, take_snoc hv]
          show some (HO.lst (iv (xs.take j) ++ [V.int (undig (dig k.w (v % k.span)) - k.span)])) = _
          rw [hr]; simp
        · rw [if_neg hb] at hr
          refine ⟨_, rfl, .inl ⟨rfl, _, SqL.of hL⟩, _, rfl, l, _, _, rfl, rfl, hL, hsz, same_updD hs hl, ?_, _, _, z, rfl⟩
          rw [upd_same, take_snoc hv, hr]; simp
    · rintro σ H' ⟨hs, hL, y, u, z, rfl⟩
      rw [List.take_length] at hL
      exact ⟨_, rfl, q l H' hl hs hL⟩
end
end Tz
namespace Tz
open PySem PySem.Spec PyProof.Rows L2
theorem ixN_at {n j : Nat} (hj : j < n) : ixN n (j : Int) = some j := by
  unfold ixN
  have h0 : (0 : Int) ≤ (j : Int) := Int.natCast_nonneg j
  have h1 : (j : Int) < (n : Int) := Int.ofNat_lt.mpr hj
  simp only [h0, h1, if_true, Int.toNat_natCast]
theorem rg_cnt {n p w : Nat} (hw : w = 1 ∨ w = 2 ∨ w = 4) (hn : n < 2 ^ 40) (hp : p < 2 ^ 40) : RgC (p : Int) (n : Int) (w : Int) (cnt n p w) := by
  have e : Builtin.Range.rangeSize (p : Int) (n : Int) (w : Int) = cnt n p w := by
    unfold Builtin.Range.rangeSize cnt
    rw [if_pos (by omega)]
    by_cases h : p < n
    · rw [if_pos (by omega), if_pos h]
      rcases hw with rfl | rfl | rfl <;> omega
    · rw [if_neg (by omega), if_neg h]
      rfl
  refine ⟨by omega, by omega, ?_, e⟩
  have hb : cnt n p w ≤ n := by
    unfold cnt
    split
    · rcases hw with rfl | rfl | rfl <;> omega
    · omega
  unfold Builtin.Range.small
  rw [e]
  simp only [Builtin.Range.rangeFitsLong, Bool.and_eq_true, Bool.or_eq_true, decide_eq_true_eq, beq_iff_eq]
  have h1 : (w : Int) > 0 := by omega
  simp only [h1, if_true]
  refine ⟨⟨⟨⟨by omega, by omega⟩, by omega⟩, by omega⟩, ?_⟩
  right
  rcases hw with rfl | rfl | rfl <;> simp [Builtin.Range.rangeFitsLong] <;> omega
section
variable {P : Program} {w : World} {K : PySem.W.Frag} {mg : Str → Option Value} {base : Heap}
theorem sc_fp : FnScope ["values", "size", "found", "at", "plane", "place"] ["values", "size"] (defScope (top 17)) := ⟨rfl, rfl, rfl, by decide +kernel, rfl, by decide +kernel, by decide +kernel⟩
theorem c_fp (T : Tx K mg) : C8.Cal P w K mg base 1 "from_planes" (spDeW K RPla) [] := by
  refine cal_of T.f_from_planes (fun _ _ _ _ _ _ us hl => match us, hl with | [_, _], _ => rfl) sc_fp (fun vs H Q E h => ?_) (fun f cdv A outer s H vs Q E hr h => ?_)
  · obtain ⟨a, xs, ys, w, rfl, _⟩ := h
    rfl
  · obtain ⟨a, xs, ys, w, rfl, hw, ha, hy, hz, hb, he, q⟩ := h
    have nd := sc_fp.nd
    refine ⟨_, pss_cons (ps_set (i := 2) nd rfl (.inl rfl) (pe_callTy call_list_of (by rfl) T.n_list (by decide +kernel) (pa_cons (pv 0) pa_nil)))
      (pss_cons (ps_set (i := 3) nd rfl (.inl rfl) pe_int)
      (pss_cons (ps_for PassesOwn.never rfl (pi_range1 (by rfl) T.n_range (pa_cons (pv 1) pa_nil)) (pg_name (i := 4) nd rfl (.inl rfl))
        (pss_one (ps_for PassesOwn.never rfl (pi_range3 (by rfl) T.n_range (pa_cons (pv 4) (pa_cons (pe_callB call_len (by rfl) T.n_len PySem.boot_len (pa_cons (pv 0) pa_nil)) (pa_cons (pv 1) pa_nil)))) (pg_name (i := 5) nd rfl (.inl rfl))
          (pss_cons (ps_asg (pe_ix ix_list (pv 0) (pv 3) (fun _ _ => rfl)) (pg_sub (pv 2) (pv 5) set_list (fun _ => rfl)))
            (pss_one (ps_aug (i := 3) nd rfl (.inl rfl) pe_int ip_add))))))
      (pss_one (ps_ret (pv 2))))), ?_⟩
    have hlen : ys.length = xs.length := by rw [he]; exact toPl_len hw
    refine ⟨_, rfl, a, _, rfl, .inl ha, fun l hl => ?_⟩
    refine ⟨_, rfl, (w : Int), rfl, by omega, by omega, for_range (n := w) (fun p σ H' => Same H H' ∧ ∃ fnd, H' l = some (.lst (iv fnd)) ∧ Back xs fnd w p 0 ∧ ∃ z u, σ = [some (.ref a), some (.int w), some (.ref l), some (.int ((toPl xs w p).length : Nat)), z, u])
      ⟨same_upd0 hl, ys, upd_same, ⟨hlen, fun q _ hc => hc.elim (fun h => absurd h (Nat.not_lt_zero _)) fun h => absurd h.2 (Nat.not_lt_zero _)⟩, none, none, rfl⟩ ?_ ?_⟩
    · rintro p σ H' hp ⟨hs, fnd, hL, hB, z, u, rfl⟩
      refine ⟨_, rfl, _, rfl, _, _, rfl, .inl ⟨_, same_sqL hs ha, rfl⟩, _, rfl, (p : Int), (xs.length : Int), (w : Int), cnt xs.length p w, by simp [hlen], rg_cnt hw (by omega) (by omega), ?_⟩
      refine for_rangeC (fun k σ H2 => Same H H2 ∧ ∃ fnd, H2 l = some (.lst (iv fnd)) ∧ Back xs fnd w p k ∧ ∃ u, σ = [some (.ref a), some (.int w), some (.ref l), some (.int (((toPl xs w p).length + k : Nat) : Int)), some (.int p), u])
        ⟨hs, fnd, hL, hB, u, by simp⟩ ?_ ?_
      · rintro k σ H2 hk ⟨hs2, fnd2, hL2, hB2, u2, rfl⟩
        have hin := cnt_in (by omega) hk
        have hat := toPl_get (xs := xs) hp hk
        have hiv : (iv ys)[(toPl xs w p).length + k]? = some (.int (xs.getD (p + w * k) 0)) := by
          rw [List.getElem?_map, he, hat]; rfl
        have e0 : (p : Int) + (k : Nat) * (w : Int) = ((p + w * k : Nat) : Int) := by
          rw [Int.natCast_add, Int.natCast_mul, Int.mul_comm (k : Int)]
        refine ⟨_, rfl, _, rfl, a, _, _, .int (xs.getD (p + w * k) 0), rfl, rfl, same_sqL hs2 ha, atI_nat hiv, ?_⟩
        refine ⟨_, rfl, _, rfl, l, _, _, p + w * k, rfl, rfl, hL2, ?_, ?_⟩
        · rw [e0]
          exact ixN_at (by rw [List.length_map, hB2.1]; exact hin)
        · refine ⟨_, rfl, _, 1, rfl, rfl, same_updD hs2 hl, _, by rw [upd_same, ← List.map_set], hB2.step hp hk, some (.int ((p : Int) + (k : Nat) * (w : Int))), ?_⟩
          rfl
      · rintro σ H2 ⟨hs2, fnd2, hL2, hB2, u2, rfl⟩
        refine ⟨hs2, fnd2, hL2, hB2.plane (by omega), some (.int p), u2, ?_⟩
        rw [toPl_succ, List.length_append, stride_len]
    · rintro σ H' ⟨hs, fnd, hL, hB, z, u, rfl⟩
      rw [hB.done (by omega)] at hL
      exact ⟨_, rfl, q l H' hl hs hL⟩
end
end Tz
namespace Tz
open PySem PySem.Spec PyProof.Rows L2
/-- three tests that change nothing, joined by and -/
theorem and3 {t1 t2 t3 : TT} {σ : L2.St} {H : Hp} {Q : Bool → Hp → Prop} (b1 b2 b3 : Bool) (h1 : ∀ R : Bool → Hp → Prop, R b1 H → t1 σ H R) (h2 : b1 = true → ∀ R : Bool → Hp → Prop, R b2 H → t2 σ H R)
    (h3 : b1 = true → b2 = true → ∀ R : Bool → Hp → Prop, R b3 H → t3 σ H R) (q : Q (b1 && b2 && b3) H) : tAnd t1 (tAnd t2 t3) σ H Q := by
  refine h1 _ ?_
  cases b1 with
  | false => exact q
  | true =>
    show tAnd t2 t3 σ H Q
    refine h2 rfl _ ?_
    cases b2 with
    | false => exact q
    | true => exact h3 rfl rfl _ q
theorem ivat {xs : List Int} {i : Nat} {x : Int} (h : xs[i]? = some x) : (iv xs)[i]? = some (.int x) := by rw [List.getElem?_map, h]; rfl
theorem rep_snoc (c : Nat) (b : Int) (r : List Int) : List.replicate (c + 1) b ++ r = List.replicate c b ++ b :: r := by
  rw [List.replicate_succ', List.append_assoc]; rfl
theorem flat_rep (c : Nat) (b : Int) : (List.replicate c [V.int b]).flatten = iv (List.replicate c b) := by
  induction c with
  | zero => rfl
  | succ c ih => rw [List.replicate_succ, List.flatten_cons, ih]; rfl
theorem drop_at {xs : List Int} {i : Nat} {x : Int} (h : xs[i]? = some x) : xs.drop i = x :: xs.drop (i + 1) := by
  obtain ⟨hl, he⟩ := List.getElem?_eq_some_iff.mp h
  rw [List.drop_eq_getElem_cons hl, he]
theorem rg_two {b : Int} {n : Nat} (hb : b = 2 * n) (hs : b < 2 ^ 40) : RgC 0 b 2 n := rg_pos (by omega) hb hs
theorem IsRuns.parts {ys out : List Int} (h : IsRuns ys out) (hne : out ≠ []) : ∃ (c : Nat) (b : Int) (ys' out' : List Int), out = (c : Int) :: b :: out' ∧ ys = List.replicate c b ++ ys' ∧ 1 ≤ c ∧ c ≤ 255 ∧ (c = 255 ∨ ys'[0]? ≠ some b) ∧ IsRuns ys' out' := by
  cases h with
  | nil => exact absurd rfl hne
  | cons h1 h2 h3 h => exact ⟨_, _, _, _, rfl, rfl, h1, h2, h3, h⟩
section
variable {P : Program} {w : World} {K : PySem.W.Frag} {mg : Str → Option Value} {base : Heap}
theorem sc_tr : FnScope ["values", "found", "at", "count"] ["values"] (defScope (top 18)) := ⟨rfl, rfl, rfl, by decide +kernel, rfl, by decide +kernel, by decide +kernel⟩
theorem c_tr (T : Tx K mg) : C8.Cal P w K mg base 1 "to_runs" (spEn K IsRuns) [] := by
  refine cal_of T.f_to_runs (fun _ _ _ _ _ _ us hl => match us, hl with | [_], _ => rfl) sc_tr (fun vs H Q E h => ?_) (fun f cdv A outer s H vs Q E hr h => ?_)
  · obtain ⟨a, xs, rfl, _⟩ := h
    rfl
  · obtain ⟨a, xs, rfl, ha, hz, q⟩ := h
    have nd := sc_tr.nd
    refine ⟨_, pss_cons (ps_set (i := 1) nd rfl (.inl rfl) (pe_lst pa_nil))
      (pss_cons (ps_set (i := 2) nd rfl (.inl rfl) pe_int)
      (pss_cons (ps_while PassesOwn.never (pt_cmpR op_lt (pv 2) (pe_callB call_len (by rfl) T.n_len PySem.boot_len (pa_cons (pv 0) pa_nil)) (nomark _))
        (pss_cons (ps_set (i := 3) nd rfl (.inl rfl) pe_int)
        (pss_cons (ps_while PassesOwn.never (PW.pt (pw_and (pt_cmpR op_lt (pv 3) (pe_gi (by rfl) T.i_LONGEST_RUN) (nomark _)) (pw_and (pt_cmpR op_lt (pe_op op_add (pv 2) (pv 3)) (pe_callB call_len (by rfl) T.n_len PySem.boot_len (pa_cons (pv 0) pa_nil)) (nomark _))
            (pw_and1 (pt_cmpR op_eq (pe_ix ix_list (pv 0) (pe_op op_add (pv 2) (pv 3)) (fun _ _ => rfl)) (pe_ix ix_list (pv 0) (pv 2) (fun _ _ => rfl)) (nomark _))))))
          (pss_one (ps_aug (i := 3) nd rfl (.inl rfl) pe_int ip_add)))
        (pss_cons (ps_expr (pe_bm PySem.F.plainAttrs_list PySem.F.slot_list_append PySem.F.type_list_append mt_append (pv 1) (pa_cons (pv 3) pa_nil)))
        (pss_cons (ps_expr (pe_bm PySem.F.plainAttrs_list PySem.F.slot_list_append PySem.F.type_list_append mt_append (pv 1) (pa_cons (pe_ix ix_list (pv 0) (pv 2) (fun _ _ => rfl)) pa_nil)))
        (pss_one (ps_aug (i := 2) nd rfl (.inl rfl) (pv 3) ip_add)))))))
      (pss_one (ps_ret (pv 1))))), ?_⟩
    refine ⟨(by show 0 ≤ sizeLine; decide), fun l hl => ?_⟩
    refine ⟨fun m σ H' => Same H H' ∧ ∃ (i : Nat) (pre : List Int), i ≤ xs.length ∧ m = xs.length - i ∧ pre.length ≤ 2 * i ∧ H' l = some (.lst (iv pre)) ∧ (∀ out, IsRuns (xs.drop i) out → IsRuns xs (pre ++ out)) ∧ ∃ z, σ = [some (.ref a), some (.ref l), some (.int (i : Nat)), z],
      ⟨_, same_upd0 hl, 0, [], Nat.zero_le _, rfl, Nat.zero_le _, upd_same, fun out h => h, none, rfl⟩, ?_⟩
    rintro m σ H' ⟨hs, i, pre, hi, rfl, hpl, hL, hrun, z, rfl⟩
    have ha' := same_sqL hs ha
    have hlen : (iv xs).length = xs.length := List.length_map _
    refine ⟨_, rfl, _, rfl, _, _, rfl, .inl ⟨_, ha', rfl⟩, (i : Int), ((iv xs).length : Int), rfl, rfl, _, rfl, ?_⟩
    refine iteB (fun hb => ?_) fun hb => ?_
    · have hlt : i < xs.length := by rw [hlen] at hb; omega
      obtain ⟨b, hbx⟩ : ∃ b, xs[i]? = some b := ⟨_, List.getElem?_eq_getElem hlt⟩
      refine ⟨_, fun _ _ h => h, ?_⟩
      refine ⟨fun m σ H2 => H2 = H' ∧ ∃ c : Nat, 1 ≤ c ∧ c ≤ 255 ∧ i + c ≤ xs.length ∧ m = xs.length - (i + c) ∧ xs.drop i = List.replicate c b ++ xs.drop (i + c) ∧ σ = [some (.ref a), some (.ref l), some (.int (i : Nat)), some (.int (c : Nat))],
        ⟨_, rfl, 1, Nat.le_refl _, by omega, by omega, rfl, drop_at hbx, rfl⟩, ?_⟩
      rintro m σ H2 ⟨rfl, c, hc1, hc2, hic, rfl, hdrop, rfl⟩
      refine and3 (decide (c < 255)) (decide (i + c < xs.length)) (decide (xs[i + c]? = some b)) (fun R h => ?_) (fun e1 R h => ?_) (fun e1 e2 R h => ?_) ?_
      · refine ⟨_, rfl, (c : Int), 255, rfl, rfl, _, rfl, ?_⟩
        have e : decide ((c : Int) < 255) = decide (c < 255) := by simp only [decide_eq_decide]; omega
        rw [e]; exact h
      · refine ⟨_, rfl, _, rfl, (i : Int), (c : Int), rfl, rfl, _, rfl, _, _, rfl, .inl ⟨_, ha', rfl⟩, _, _, rfl, rfl, _, rfl, ?_⟩
        have e : decide ((i : Int) + (c : Int) < ((iv xs).length : Int)) = decide (i + c < xs.length) := by simp only [decide_eq_decide]; rw [hlen]; omega
        rw [e]; exact h
      · have h2 : i + c < xs.length := by simpa using e2
        obtain ⟨y, hy⟩ : ∃ y, xs[i + c]? = some y := ⟨_, List.getElem?_eq_getElem h2⟩
        have e0 : atI (iv xs) ((i : Int) + (c : Int)) = some (.int y) := by
          rw [← Int.natCast_add]
          exact atI_nat (ivat hy)
        refine ⟨_, rfl, _, rfl, _, rfl, (i : Int), (c : Int), rfl, rfl, a, _, _, .int y, rfl, rfl, ha', e0, _, rfl, _, rfl, a, _, _, .int b, rfl, rfl, ha', atI_nat (ivat hbx), rfl, _, rfl, ?_⟩
        have e : decide (V.int y = V.int b) = decide (xs[i + c]? = some b) := by rw [hy]; simp
        rw [e]; exact h
      by_cases hall : c < 255 ∧ i + c < xs.length ∧ xs[i + c]? = some b
      · obtain ⟨h1, h2, h3⟩ := hall
        refine iteK (by rw [decide_eq_true h1, decide_eq_true h2, decide_eq_true h3]; rfl) ?_
        refine ⟨_, fun _ _ h => h, ?_⟩
        refine ⟨_, rfl, _, 1, rfl, rfl, xs.length - (i + (c + 1)), by omega, rfl, c + 1, by omega, by omega, by omega, rfl, ?_, rfl⟩
        rw [hdrop, rep_snoc, drop_at h3]; rfl
      · refine iteKF ?_ ?_
        · by_cases h1 : c < 255
          · by_cases h2 : i + c < xs.length
            · have h3 : ¬ xs[i + c]? = some b := fun h3 => hall ⟨h1, h2, h3⟩
              rw [decide_eq_false h3, Bool.and_false]
            · rw [decide_eq_false h2, Bool.and_false]; rfl
          · rw [decide_eq_false h1]; rfl
        · have hsz : (iv pre).length + 2 < sizeLine := by rw [List.length_map, sizeLine_eq]; omega
          refine ⟨_, rfl, .inl ⟨rfl, _, SqL.of hL⟩, _, rfl, l, _, _, rfl, rfl, hL, by omega, ?_⟩
          refine ⟨_, rfl, .inl ⟨rfl, _, SqL.of upd_same⟩, _, rfl, _, rfl, a, _, _, .int b, rfl, rfl, same_sqL (same_updD hs hl) ha, atI_nat (ivat hbx), l, _, _, rfl, rfl, upd_same, by rw [List.length_append]; simp only [List.length_singleton]; omega, ?_⟩
          refine ⟨_, rfl, _, rfl, (i : Int), (c : Int), rfl, rfl, xs.length - (i + c), by omega, same_updD (same_updD hs hl) hl, i + c, pre ++ [(c : Int), b], hic, rfl, ?_, ?_, ?_, some (.int (c : Nat)), ?_⟩
          · rw [List.length_append, List.length_cons, List.length_singleton]; omega
          · rw [upd_same]; simp
          · intro out h
            rw [List.append_assoc]
            refine hrun _ ?_
            rw [hdrop]
            refine IsRuns.cons hc1 hc2 ?_ h
            rw [List.getElem?_drop, Nat.add_zero]
            by_cases h1 : c < 255
            · refine .inr fun h3 => hall ⟨h1, ?_, h3⟩
              exact (List.getElem?_eq_some_iff.mp h3).1
            · exact .inl (by omega)
          · rw [Int.natCast_add]; rfl
    · have he : i = xs.length := by rw [hlen] at hb; omega
      refine ⟨_, rfl, q pre ?_ l H' hl hs hL⟩
      have := hrun [] (by rw [he, List.drop_length]; exact .nil)
      rw [List.append_nil] at this
      exact this
theorem sc_fr : FnScope ["values", "found", "at", "count"] ["values"] (defScope (top 19)) := ⟨rfl, rfl, rfl, by decide +kernel, rfl, by decide +kernel, by decide +kernel⟩
theorem c_fr (T : Tx K mg) : C8.Cal P w K mg base 1 "from_runs" (spDe K IsRuns) [] := by
  refine cal_of T.f_from_runs (fun _ _ _ _ _ _ us hl => match us, hl with | [_], _ => rfl) sc_fr (fun vs H Q E h => ?_) (fun f cdv A outer s H vs Q E hr h => ?_)
  · obtain ⟨a, xs, ys, rfl, _⟩ := h
    rfl
  · obtain ⟨a, xs, ys, rfl, ha, hy, hz, hb, hruns, q⟩ := h
    have nd := sc_fr.nd
    refine ⟨_, pss_cons (ps_if (pt_cmpR op_eq (pe_op op_modN (pe_callB call_len (by rfl) T.n_len PySem.boot_len (pa_cons (pv 0) pa_nil)) pe_int) pe_int (nomark _)) (pss_one ps_never) pss_nil)
      (pss_cons (ps_set (i := 1) nd rfl (.inl rfl) (pe_lst pa_nil))
      (pss_cons (ps_for PassesOwn.never rfl (pi_range3 (by rfl) T.n_range (pa_cons pe_int (pa_cons (pe_callB call_len (by rfl) T.n_len PySem.boot_len (pa_cons (pv 0) pa_nil)) (pa_cons pe_int pa_nil)))) (pg_name (i := 2) nd rfl (.inl rfl))
        (pss_cons (ps_set (i := 3) nd rfl (.inl rfl) (pe_ix ix_list (pv 0) (pv 2) (fun _ _ => rfl)))
        (pss_cons (ps_if (pt_cmpR op_lt (pv 3) pe_int (nomark _)) (pss_one ps_never) pss_nil)
        (pss_cons (ps_if (PW.pt (pw_and (pt_cmpR op_gt (pv 2) pe_int (nomark _)) (pw_and (pt_cmpR op_eq (pe_ix ix_list (pv 0) (pe_op op_add (pv 2) pe_int) (fun _ _ => rfl)) (pe_ix ix_list (pv 0) (pe_op op_sub (pv 2) pe_int) (fun _ _ => rfl)) (nomark _))
            (pw_and1 (pt_cmpR op_lt (pe_ix ix_list (pv 0) (pe_op op_sub (pv 2) pe_int) (fun _ _ => rfl)) (pe_gi (by rfl) T.i_LONGEST_RUN) (nomark _)))))) (pss_one ps_never) pss_nil)
        (pss_one (ps_expr (pe_bm PySem.F.plainAttrs_list PySem.F.slot_list_extend PySem.F.type_list_extend mt_extend (pv 1) (pa_cons (pe_op op_rep (pe_lst (pa_cons (pe_ix ix_list (pv 0) (pe_op op_add (pv 2) pe_int) (fun _ _ => rfl)) pa_nil)) (pv 3)) pa_nil))))))))
      (pss_one (ps_ret (pv 1))))), ?_⟩
    have hlen : (iv ys).length = ys.length := List.length_map _
    obtain ⟨hev, _⟩ := hruns.even
    refine ⟨_, rfl, _, _, rfl, .inl ⟨_, ha, rfl⟩, ((iv ys).length : Int), 2, rfl, rfl, (show (2 : Int) ≠ 0 by decide), rfl, _, rfl, ?_⟩
    refine iteKF ?_ ?_
    · show decide (V.int (((iv ys).length : Int).fmod 2) = V.int 1) = false
      rw [Int.fmod_eq_emod_of_nonneg _ (show (0 : Int) ≤ 2 by decide), decide_eq_false_iff_not, hlen]
      intro e
      have := V.int.inj e
      omega
    refine ⟨(by show 0 ≤ sizeLine; decide), fun l hl => ?_⟩
    refine ⟨_, rfl, _, _, rfl, .inl ⟨_, same_sqL (same_upd0 hl) ha, rfl⟩, 0, _, 2, ys.length / 2, rfl, rg_two (by rw [hlen]; omega) (by rw [hlen]; omega), ?_⟩
    refine for_rangeC (fun j σ H' => Same H H' ∧ ∃ (fo rest : List Int), H' l = some (.lst (iv fo)) ∧ xs = fo ++ rest ∧ IsRuns rest (ys.drop (2 * j)) ∧ (1 ≤ j → ∃ (c' b' : Int), ys[2 * j - 2]? = some c' ∧ ys[2 * j - 1]? = some b' ∧ (c' = 255 ∨ rest[0]? ≠ some b')) ∧ ∃ z u, σ = [some (.ref a), some (.ref l), z, u])
      ⟨same_upd0 hl, [], xs, upd_same, rfl, hruns, fun h => absurd h (by decide), none, none, rfl⟩ ?_ ?_
    · rintro j σ H' hj ⟨hs, fo, rest, hL, hx, hR, hpr, z, u, rfl⟩
      have ha' := same_sqL hs ha
      obtain ⟨c, b, rest', out', hout, hre, hc1, hc2, hnx, hR'⟩ := hR.parts (by
        intro e
        have := congrArg List.length e
        rw [List.length_drop, List.length_nil] at this
        omega)
      have h0 : ys[2 * j]? = some (c : Int) := by
        have := congrArg (·[0]?) hout
        rw [List.getElem?_drop, Nat.add_zero] at this
        exact this
      have h1 : ys[2 * j + 1]? = some b := by
        have := congrArg (·[1]?) hout
        rw [List.getElem?_drop] at this
        exact this
      have hd2 : ys.drop (2 * (j + 1)) = out' := by
        have := congrArg (List.drop 2) hout
        rw [List.drop_drop] at this
        exact this
      have i0 : atI (iv ys) (0 + (j : Nat) * 2) = some (.int c) := by
        have e : (0 : Int) + (j : Nat) * 2 = ((2 * j : Nat) : Int) := by omega
        rw [e]; exact atI_nat (ivat h0)
      have i1 : atI (iv ys) (0 + (j : Nat) * 2 + 1) = some (.int b) := by
        have e : (0 : Int) + (j : Nat) * 2 + 1 = ((2 * j + 1 : Nat) : Int) := by omega
        rw [e]; exact atI_nat (ivat h1)
      have hfl : fo.length + c + rest'.length ≤ 1000000 := by
        have := congrArg List.length hx
        rw [hre] at this
        simp only [List.length_append, List.length_replicate] at this
        omega
      refine ⟨_, rfl, _, rfl, a, _, _, .int c, rfl, rfl, ha', i0, ?_⟩
      refine ⟨_, rfl, (c : Int), 1, rfl, rfl, _, rfl, ?_⟩
      refine iteKF (by rw [decide_eq_false_iff_not]; omega) ?_
      unfold tNext
      dsimp only
      refine and3 (decide (0 < j)) (match ys[2 * j - 1]? with | some b' => decide (b = b') | none => false) (match ys[2 * j - 2]? with | some c' => decide (c' < 255) | none => false) (fun R h => ?_) (fun e1 R h => ?_) (fun e1 e2 R h => ?_) ?_
      · refine ⟨_, rfl, _, 0, rfl, rfl, _, rfl, ?_⟩
        have e : decide (0 < (0 : Int) + (j : Nat) * 2) = decide (0 < j) := by simp only [decide_eq_decide]; omega
        rw [e]; exact h
      · have hj1 : 1 ≤ j := of_decide_eq_true e1
        obtain ⟨c', b', hc', hb', _⟩ := hpr hj1
        have im : atI (iv ys) (0 + (j : Nat) * 2 - 1) = some (.int b') := by
          have e : (0 : Int) + (j : Nat) * 2 - 1 = ((2 * j - 1 : Nat) : Int) := by omega
          rw [e]; exact atI_nat (ivat hb')
        refine ⟨_, rfl, _, rfl, _, 1, rfl, rfl, a, _, _, .int b, rfl, rfl, ha', i1, _, rfl, _, rfl, _, 1, rfl, rfl, a, _, _, .int b', rfl, rfl, ha', im, rfl, _, rfl, ?_⟩
        rw [hb'] at h
        have e : decide (V.int b = V.int b') = decide (b = b') := by simp
        rw [e]; exact h
      · have hj1 : 1 ≤ j := of_decide_eq_true e1
        obtain ⟨c', b', hc', hb', _⟩ := hpr hj1
        have im : atI (iv ys) (0 + (j : Nat) * 2 - 2) = some (.int c') := by
          have e : (0 : Int) + (j : Nat) * 2 - 2 = ((2 * j - 2 : Nat) : Int) := by omega
          rw [e]; exact atI_nat (ivat hc')
        refine ⟨_, rfl, _, rfl, _, 2, rfl, rfl, a, _, _, .int c', rfl, rfl, ha', im, c', 255, rfl, rfl, _, rfl, ?_⟩
        rw [hc'] at h
        exact h
      refine iteKF ?_ ?_
      · by_cases hj1 : 1 ≤ j
        · obtain ⟨c', b', hc', hb', hor⟩ := hpr hj1
          rw [hc', hb']
          rcases hor with h | h
          · subst h
            simp
          · have : ¬ b = b' := by
              intro e
              refine h ?_
              rw [hre, ← e]
              obtain ⟨k, rfl⟩ : ∃ k, c = k + 1 := ⟨c - 1, by omega⟩
              rfl
            simp [this]
        · have : ¬ 0 < j := by omega
          simp [this]
      refine ⟨_, rfl, .inl ⟨rfl, _, SqL.of hL⟩, _, rfl, _, rfl, _, 1, rfl, rfl, a, _, _, .int b, rfl, rfl, ha', i1, (by show 1 ≤ sizeLine; decide), fun t ht => ?_⟩
      refine ⟨_, rfl, t, (c : Int), _, rfl, rfl, upd_same, by omega, by omega, by rw [sizeLine_eq]; simp only [List.length_singleton, Int.toNat_natCast]; omega, fun p hp => ?_⟩
      have htl : l ≠ t := fun e => by rw [← e, hL] at ht; cases ht
      have hpt : t ≠ p := fun e => by rw [← e, upd_same] at hp; cases hp
      have hp0 : H' p = none := by rw [upd_ne (Ne.symm hpt)] at hp; exact hp
      have hpl : l ≠ p := fun e => by rw [← e, hL] at hp0; cases hp0
      refine ⟨l, p, _, _, rfl, rfl, by rw [upd_ne hpl, upd_ne htl]; exact hL, upd_same, ?_, same_updD (same_updD (same_updD hs (hs.free ht)) (hs.free hp0)) hl, fo ++ List.replicate c b, rest', ?_, by rw [hx, hre, List.append_assoc], by rw [hd2]; exact hR', fun _ => ⟨c, b, ?_, ?_, ?_⟩, _, _, rfl⟩
      · rw [Int.toNat_natCast, flat_rep, List.length_map, List.length_map, List.length_replicate, sizeLine_eq]; omega
      · rw [upd_same, Int.toNat_natCast, flat_rep]; simp
      · exact h0
      · exact h1
      · rcases hnx with h | h
        · exact .inl (by omega)
        · exact .inr h
    · rintro σ H' ⟨hs, fo, rest, hL, hx, hR, hpr, z, u, rfl⟩
      have hd : ys.drop (2 * (ys.length / 2)) = [] := List.drop_eq_nil_of_le (by omega)
      rw [hd] at hR
      have : rest = [] := by
        generalize e : ([] : List Int) = o at hR
        cases hR with
        | nil => rfl
        | cons => cases e
      rw [this, List.append_nil] at hx
      rw [← hx] at hL
      exact ⟨_, rfl, q l H' hl hs hL⟩
end
end Tz
namespace Tz
open PySem PySem.Spec PyProof.Rows L2
theorem cut_to (l : List V) {k : Nat} (h : k ≤ l.length) : cutV l none (some (k : Int)) = l.take k := by
  unfold cutV
  have e : HT.sIx l.length l.length (some (k : Int)) = k := by
    simp only [HT.sIx]
    rw [if_neg (by omega)]; omega
  rw [e]
  simp [HT.sIx]
theorem cut_from (l : List V) {k : Nat} (h : k ≤ l.length) : cutV l (some (k : Int)) none = l.drop k := by
  unfold cutV
  have e : HT.sIx l.length 0 (some (k : Int)) = k := by
    simp only [HT.sIx]
    rw [if_neg (by omega)]; omega
  rw [e]
  simp only [HT.sIx]
  exact List.take_of_length_le (by rw [List.length_drop]; omega)
theorem atI_back {xs : List V} {c : Nat} {v : V} (hc : c < xs.length) (h : xs[xs.length - 1 - c]? = some v) : atI xs (-1 - (c : Int)) = some v := by
  unfold atI
  have e : ixN xs.length (-1 - (c : Int)) = some (xs.length - 1 - c) := by
    unfold ixN
    rw [if_neg (by omega), if_pos (by omega)]
    congr 1; omega
  rw [e]; exact h
theorem same3 {H0 : Hp} {t p r : Addr} {o1 o2 o3 : HO} (ht : H0 t = none) (hp : upd H0 t o1 p = none) (hr : upd (upd H0 t o1) p o2 r = none) : Same H0 (upd (upd (upd H0 t o1) p o2) r o3) := by
  have s1 : Same H0 (upd H0 t o1) := same_upd0 ht
  have s2 : Same H0 (upd (upd H0 t o1) p o2) := same_updD s1 (s1.free hp)
  exact same_updD s2 (s2.free hr)
section
variable {P : Program} {w : World} {K : PySem.W.Frag} {mg : Str → Option Value} {base : Heap}
theorem sc_ts : FnScope ["values", "count"] ["values"] (defScope (top 20)) := ⟨rfl, rfl, rfl, by decide +kernel, rfl, by decide +kernel, by decide +kernel⟩
theorem c_ts (T : Tx K mg) : C8.Cal P w K mg base 1 "to_short" (spEn K IsShort) [] := by
  refine cal_of T.f_to_short (fun _ _ _ _ _ _ us hl => match us, hl with | [_], _ => rfl) sc_ts (fun vs H Q E h => ?_) (fun f cdv A outer s H vs Q E hr h => ?_)
  · obtain ⟨a, xs, rfl, _⟩ := h
    rfl
  · obtain ⟨a, xs, rfl, ha, hz, q⟩ := h
    have nd := sc_ts.nd
    refine ⟨_, pss_cons (ps_set (i := 1) nd rfl (.inl rfl) pe_int)
      (pss_cons (ps_while PassesOwn.never (PW.pt (pw_and (pt_cmpR op_lt (pv 1) (pe_gi (by rfl) T.i_MOST_ZEROS) (nomark _)) (pw_and (pt_cmpR op_lt (pv 1) (pe_callB call_len (by rfl) T.n_len PySem.boot_len (pa_cons (pv 0) pa_nil)) (nomark _))
            (pw_and1 (pt_cmpR op_eq (pe_ix ix_list (pv 0) (pe_op op_sub (pe_un un_neg pe_int) (pv 1)) (fun _ _ => rfl)) pe_int (nomark _))))))
          (pss_one (ps_aug (i := 1) nd rfl (.inl rfl) pe_int ip_add)))
      (pss_one (ps_ret (pe_op op_cat (pe_lst (pa_cons (pe_op op_fdivN (pv 1) pe_int) (pa_cons (pe_op op_modN (pv 1) pe_int) pa_nil)))
        (pe_callTy call_list_of (by rfl) T.n_list (by decide +kernel) (pa_cons (pe_slice sl_list (pv 0) po_none (po_some (pe_op op_sub (pe_callB call_len (by rfl) T.n_len PySem.boot_len (pa_cons (pv 0) pa_nil)) (pv 1)))) pa_nil)))))), ?_⟩
    have hlen : (iv xs).length = xs.length := List.length_map _
    refine ⟨fun m σ H' => H' = H ∧ ∃ c : Nat, c ≤ 65535 ∧ c ≤ xs.length ∧ m = xs.length - c ∧ xs = xs.take (xs.length - c) ++ List.replicate c 0 ∧ σ = [some (.ref a), some (.int (c : Nat))],
      ⟨_, rfl, 0, by omega, by omega, rfl, by simp, rfl⟩, ?_⟩
    rintro m σ H' ⟨rfl, c, hc1, hc2, rfl, hx, rfl⟩
    refine and3 (decide (c < 65535)) (decide (c < xs.length)) (decide (xs[xs.length - 1 - c]? = some 0)) (fun R h => ?_) (fun e1 R h => ?_) (fun e1 e2 R h => ?_) ?_
    · refine ⟨_, rfl, (c : Int), 65535, rfl, rfl, _, rfl, ?_⟩
      have e : decide ((c : Int) < 65535) = decide (c < 65535) := by simp only [decide_eq_decide]; omega
      rw [e]; exact h
    · refine ⟨_, rfl, _, rfl, _, _, rfl, .inl ⟨_, ha, rfl⟩, (c : Int), _, rfl, rfl, _, rfl, ?_⟩
      have e : decide ((c : Int) < ((iv xs).length : Int)) = decide (c < xs.length) := by simp only [decide_eq_decide]; rw [hlen]; omega
      rw [e]; exact h
    · have h2 : c < xs.length := of_decide_eq_true e2
      obtain ⟨y, hy⟩ : ∃ y, xs[xs.length - 1 - c]? = some y := ⟨_, List.getElem?_eq_getElem (by omega)⟩
      have e0 : atI (iv xs) (-1 - (c : Int)) = some (.int y) := atI_back (by rw [hlen]; exact h2) (by rw [hlen]; exact ivat hy)
      refine ⟨_, rfl, 1, rfl, _, rfl, -1, (c : Int), rfl, rfl, a, _, _, .int y, rfl, rfl, ha, e0, rfl, _, rfl, ?_⟩
      have e : decide (V.int y = V.int 0) = decide (xs[xs.length - 1 - c]? = some 0) := by rw [hy]; simp
      rw [e]; exact h
    by_cases hall : c < 65535 ∧ c < xs.length ∧ xs[xs.length - 1 - c]? = some 0
    · obtain ⟨h1, h2, h3⟩ := hall
      refine iteK (by rw [decide_eq_true h1, decide_eq_true h2, decide_eq_true h3]; rfl) ?_
      refine ⟨_, fun _ _ h => h, ?_⟩
      refine ⟨_, rfl, _, 1, rfl, rfl, xs.length - (c + 1), by omega, rfl, c + 1, by omega, by omega, rfl, ?_, rfl⟩
      have e1 : xs.take (xs.length - c) = xs.take (xs.length - (c + 1)) ++ [0] := by
        have := take_snoc (l := xs) (i := xs.length - (c + 1)) (x := 0) (by rw [← h3]; congr 1; omega)
        rw [show xs.length - (c + 1) + 1 = xs.length - c by omega] at this
        exact this
      rw [e1, List.append_assoc] at hx
      exact hx
    · refine iteKF ?_ ?_
      · by_cases h1 : c < 65535
        · by_cases h2 : c < xs.length
          · have h3 : ¬ xs[xs.length - 1 - c]? = some 0 := fun h3 => hall ⟨h1, h2, h3⟩
            rw [decide_eq_false h3, Bool.and_false]
          · rw [decide_eq_false h2, Bool.and_false]; rfl
        · rw [decide_eq_false h1]; rfl
      · refine ⟨_, rfl, (c : Int), 256, rfl, rfl, ⟨by decide, by decide⟩, _, rfl, (c : Int), 256, rfl, rfl, (show (256 : Int) ≠ 0 by decide), (by show 2 ≤ sizeLine; decide), fun t ht => ?_⟩
        refine ⟨_, rfl, _, rfl, _, _, rfl, .inl ⟨_, same_sqL (same_upd0 ht) ha, rfl⟩, _, rfl, _, (c : Int), rfl, rfl, _, rfl, a, _, rfl, same_sqL (same_upd0 ht) ha, fun p hp => ?_⟩
        have hpt : t ≠ p := fun e => by rw [← e, upd_same] at hp; cases hp
        refine ⟨p, _, rfl, .inl (SqL.of upd_same), fun r hrr => ?_⟩
        have hrt : t ≠ r := fun e => by rw [← e, upd_ne hpt, upd_same] at hrr; cases hrr
        have ecut : cutV (iv xs) none (some ((iv xs).length - (c : Int))) = iv (xs.take (xs.length - c)) := by
          have e : ((iv xs).length : Int) - (c : Int) = ((xs.length - c : Nat) : Int) := by rw [hlen]; omega
          rw [e, cut_to _ (by rw [hlen]; omega)]
          unfold iv; rw [List.map_take]
        refine ⟨t, r, _, _, rfl, rfl, by rw [upd_ne hrt, upd_ne hpt, upd_same], by rw [upd_same], ?_, fun z hz0 => ?_⟩
        · show [V.int _, V.int _].length + (cutV (iv xs) none (some ((iv xs).length - (c : Int)))).length ≤ _
          rw [ecut, List.length_map, List.length_take, sizeLine_eq]; simp only [List.length_cons, List.length_nil]; omega
        · refine q (((c / 256 : Nat) : Int) :: ((c % 256 : Nat) : Int) :: xs.take (xs.length - c)) ⟨c, hc1, hc2, hx, ?_, rfl⟩ z _ ((same3 ht hp hrr).free hz0) (same_updD (same3 ht hp hrr) ((same3 ht hp hrr).free hz0)) ?_
          · by_cases h1 : c < 65535
            · by_cases h2 : c < xs.length
              · exact .inr (.inr fun h3 => hall ⟨h1, h2, h3⟩)
              · exact .inr (.inl (by omega))
            · exact .inl (by omega)
          · rw [upd_same]
            show some (HO.lst (V.int ((c : Int).fdiv 256) :: V.int ((c : Int).fmod 256) :: cutV (iv xs) none (some ((iv xs).length - (c : Int))))) = _
            rw [ecut, Int.fmod_eq_emod_of_nonneg _ (show (0 : Int) ≤ 256 by decide), Int.fdiv_eq_ediv_of_nonneg _ (show (0 : Int) ≤ 256 by decide)]
            rfl
theorem sc_fs : FnScope ["values", "count"] ["values"] (defScope (top 21)) := ⟨rfl, rfl, rfl, by decide +kernel, rfl, by decide +kernel, by decide +kernel⟩
theorem c_fs (T : Tx K mg) : C8.Cal P w K mg base 1 "from_short" (spDe K IsShort) [] := by
  refine cal_of T.f_from_short (fun _ _ _ _ _ _ us hl => match us, hl with | [_], _ => rfl) sc_fs (fun vs H Q E h => ?_) (fun f cdv A outer s H vs Q E hr h => ?_)
  · obtain ⟨a, xs, ys, rfl, _⟩ := h
    rfl
  · obtain ⟨a, xs, ys, rfl, ha, hy, hz, hb, ⟨c, hc1, hc2, hx, hor, rfl⟩, q⟩ := h
    have nd := sc_fs.nd
    refine ⟨_, pss_cons (ps_if (pt_cmpR op_lt (pe_callB call_len (by rfl) T.n_len PySem.boot_len (pa_cons (pv 0) pa_nil)) pe_int (nomark _)) (pss_one ps_never) pss_nil)
      (pss_cons (ps_set (i := 1) nd rfl (.inl rfl) (pe_op op_add (pe_op op_mul (pe_ix ix_list (pv 0) pe_int (fun _ _ => rfl)) pe_int) (pe_ix ix_list (pv 0) pe_int (fun _ _ => rfl))))
      (pss_cons (ps_if (PW.pt (pw_and (pt_cmpR op_lt (pv 1) (pe_gi (by rfl) T.i_MOST_ZEROS) (nomark _)) (pw_and (pt_cmpR op_gt (pe_callB call_len (by rfl) T.n_len PySem.boot_len (pa_cons (pv 0) pa_nil)) pe_int (nomark _))
            (pw_and1 (pt_cmpR op_eq (pe_ix ix_list (pv 0) (pe_un un_neg pe_int) (fun _ _ => rfl)) pe_int (nomark _)))))) (pss_one ps_never) pss_nil)
      (pss_one (ps_ret (pe_op op_cat (pe_callTy call_list_of (by rfl) T.n_list (by decide +kernel) (pa_cons (pe_slice sl_list (pv 0) (po_some pe_int) po_none) pa_nil))
        (pe_op op_rep (pe_lst (pa_cons pe_int pa_nil)) (pv 1))))))), ?_⟩
    generalize hys : ((c / 256 : Nat) : Int) :: ((c % 256 : Nat) : Int) :: xs.take (xs.length - c) = ys at *
    have hlen : (iv ys).length = xs.length - c + 2 := by rw [List.length_map, ← hys]; simp only [List.length_cons, List.length_take]; omega
    have h0 : (iv ys)[0]? = some (.int ((c / 256 : Nat) : Int)) := by rw [← hys]; rfl
    have h1 : (iv ys)[1]? = some (.int ((c % 256 : Nat) : Int)) := by rw [← hys]; rfl
    have ec : ((c / 256 : Nat) : Int) * 256 + ((c % 256 : Nat) : Int) = (c : Int) := by omega
    refine ⟨_, rfl, _, _, rfl, .inl ⟨_, ha, rfl⟩, ((iv ys).length : Int), 2, rfl, rfl, _, rfl, ?_⟩
    refine iteKF (by rw [decide_eq_false_iff_not, hlen]; omega) ?_
    refine ⟨_, rfl, a, _, 0, _, rfl, rfl, ha, atI_nat (j := 0) h0, _, 256, rfl, rfl, .inr ⟨by decide, by decide⟩, _, rfl, a, _, 1, _, rfl, rfl, ha, atI_nat (j := 1) h1, _, _, rfl, rfl, ?_⟩
    show tSeq _ _ _ [some (.ref a), some (.int (((c / 256 : Nat) : Int) * 256 + ((c % 256 : Nat) : Int)))] H
    rw [ec]
    unfold tSeq
    dsimp only
    refine and3 (decide (c < 65535)) (decide (c < xs.length)) (decide (xs[xs.length - 1 - c]? = some 0)) (fun R h => ?_) (fun e1 R h => ?_) (fun e1 e2 R h => ?_) ?_
    · refine ⟨_, rfl, (c : Int), 65535, rfl, rfl, _, rfl, ?_⟩
      have e : decide ((c : Int) < 65535) = decide (c < 65535) := by simp only [decide_eq_decide]; omega
      rw [e]; exact h
    · refine ⟨_, rfl, _, _, rfl, .inl ⟨_, ha, rfl⟩, _, 2, rfl, rfl, _, rfl, ?_⟩
      have e : decide (2 < ((iv ys).length : Int)) = decide (c < xs.length) := by simp only [decide_eq_decide]; rw [hlen]; omega
      rw [e]; exact h
    · have h2 : c < xs.length := of_decide_eq_true e2
      obtain ⟨y, hy⟩ : ∃ y, xs[xs.length - 1 - c]? = some y := ⟨_, List.getElem?_eq_getElem (by omega)⟩
      have e0 : atI (iv ys) (-1) = some (.int y) := by
        refine atI_back (c := 0) (by rw [hlen]; omega) ?_
        rw [hlen, show xs.length - c + 2 - 1 - 0 = (xs.length - 1 - c) + 2 by omega, ← hys]
        show (iv (xs.take (xs.length - c)))[xs.length - 1 - c]? = _
        rw [List.getElem?_map, List.getElem?_take_of_lt (by omega), hy]; rfl
      refine ⟨_, rfl, 1, rfl, a, _, _, .int y, rfl, rfl, ha, e0, rfl, _, rfl, ?_⟩
      have e : decide (V.int y = V.int 0) = decide (xs[xs.length - 1 - c]? = some 0) := by rw [hy]; simp
      rw [e]; exact h
    refine iteKF ?_ ?_
    · rcases hor with e | e | e
      · rw [decide_eq_false (show ¬ c < 65535 by omega)]; rfl
      · rw [decide_eq_false (show ¬ c < xs.length by omega), Bool.and_false]; rfl
      · rw [decide_eq_false e, Bool.and_false]
    refine ⟨_, rfl, 2, rfl, a, _, rfl, ha, fun t ht => ⟨t, _, rfl, .inl (SqL.of upd_same), fun p hp => ?_⟩⟩
    refine ⟨(by show 1 ≤ sizeLine; decide), fun r hrr => ?_⟩
    refine ⟨_, rfl, r, (c : Int), _, rfl, rfl, upd_same, by omega, by omega, by rw [sizeLine_eq]; simp only [List.length_singleton, Int.toNat_natCast]; omega, fun z hz0 => ?_⟩
    have hpr : p ≠ r := fun e => by rw [← e, upd_same] at hrr; cases hrr
    have hrz : r ≠ z := fun e => by rw [← e, upd_same] at hz0; cases hz0
    have hpz : p ≠ z := fun e => by rw [← e, upd_ne hpr, upd_same] at hz0; cases hz0
    have ecut : cutV (iv ys) (some 2) none = iv (xs.take (xs.length - c)) := by
      have := cut_from (iv ys) (k := 2) (by rw [hlen]; omega)
      rw [← hys] at this ⊢
      exact this
    refine ⟨p, z, _, _, rfl, rfl, by rw [upd_ne hpz, upd_ne hpr, upd_same], upd_same, ?_, fun y hy => ?_⟩
    · rw [ecut, Int.toNat_natCast, flat_rep, List.length_map, List.length_map, List.length_replicate, List.length_take, sizeLine_eq]; omega
    · refine q y _ ((same_updD (same3 ht hp hrr) ((same3 ht hp hrr).free hz0)).free hy) (same_updD (same_updD (same3 ht hp hrr) ((same3 ht hp hrr).free hz0)) ((same_updD (same3 ht hp hrr) ((same3 ht hp hrr).free hz0)).free hy)) ?_
      rw [upd_same, ecut, Int.toNat_natCast, flat_rep]
      conv => rhs; rw [hx]
      simp
end
end Tz
namespace Tz
open PySem PySem.Spec PyProof.Rows L2
def Flt.name : Flt → Str
  | .delta => "delta" | .planes => "planes" | .runs => "runs" | .zeros => "zeros"
def spAf (K : PySem.W.Frag) : Sp := fun vs H Q _ => ∃ (f : Flt) (a : Addr) (xs : List Int) (w : Nat), vs = [.str f.name, .ref a, .int w] ∧ (w = 1 ∨ w = 2 ∨ w = 4) ∧ SqL K H a (iv xs) ∧ xs.length ≤ 1000000 ∧ ∀ ys, Enc w f xs ys → Out H Q (.lst (iv ys))
def spUf (K : PySem.W.Frag) : Sp := fun vs H Q _ => ∃ (f : Flt) (a : Addr) (xs ys : List Int) (w : Nat), vs = [.str f.name, .ref a, .int w] ∧ (w = 1 ∨ w = 2 ∨ w = 4) ∧ SqL K H a (iv ys) ∧ ys.length ≤ 1000000 ∧ xs.length ≤ 1000000 ∧ Byt xs ∧ Enc w f xs ys ∧ Out H Q (.lst (iv xs))
section
variable {P : Program} {w : World} {K : PySem.W.Frag} {mg : Str → Option Value} {base : Heap}
theorem sc_af : FnScope ["name", "values", "size"] ["name", "values", "size"] (defScope (top 22)) := ⟨rfl, rfl, rfl, by decide +kernel, rfl, by decide +kernel, by decide +kernel⟩
theorem c_af (T : Tx K mg) : C8.Cal P w K mg base 2 "apply_filter" (spAf K) [] := by
  refine cal_of T.f_apply_filter (fun _ _ _ _ _ _ us hl => match us, hl with | [_, _, _], _ => rfl) sc_af (fun vs H Q E h => ?_) (fun f cdv A outer s H vs Q E hr h => ?_)
  · obtain ⟨f, a, xs, w, rfl, _⟩ := h
    rfl
  · obtain ⟨fl, a, xs, w, rfl, hw, ha, hz, q⟩ := h
    have nd := sc_af.nd
    refine ⟨_, pss_cons (ps_if (pt_cmpR op_eq (pv 0) pe_str (nomark _)) (pss_one (ps_ret (C8.pe_c (c_td T) hr (by decide) rfl (pa_cons (pv 1) pa_nil)))) pss_nil)
      (pss_cons (ps_if (pt_cmpR op_eq (pv 0) pe_str (nomark _)) (pss_one (ps_ret (C8.pe_c (c_tp T) hr (by decide) rfl (pa_cons (pv 1) (pa_cons (pv 2) pa_nil))))) pss_nil)
      (pss_cons (ps_if (pt_cmpR op_eq (pv 0) pe_str (nomark _)) (pss_one (ps_ret (C8.pe_c (c_tr T) hr (by decide) rfl (pa_cons (pv 1) pa_nil)))) pss_nil)
      (pss_one (ps_ret (C8.pe_c (c_ts T) hr (by decide) rfl (pa_cons (pv 1) pa_nil)))))), ?_⟩
    refine ⟨_, rfl, rfl, _, rfl, ?_⟩
    cases fl with
    | delta => exact iteK (by decide) ⟨_, rfl, a, xs, rfl, ha, hz, q⟩
    | planes =>
      refine iteKF (by decide) ⟨_, rfl, rfl, _, rfl, ?_⟩
      exact iteK (by decide) ⟨_, rfl, _, rfl, a, xs, w, rfl, hw, ha, hz, q⟩
    | runs =>
      refine iteKF (by decide) ⟨_, rfl, rfl, _, rfl, ?_⟩
      refine iteKF (by decide) ⟨_, rfl, rfl, _, rfl, ?_⟩
      exact iteK (by decide) ⟨_, rfl, a, xs, rfl, ha, hz, q⟩
    | zeros =>
      refine iteKF (by decide) ⟨_, rfl, rfl, _, rfl, ?_⟩
      refine iteKF (by decide) ⟨_, rfl, rfl, _, rfl, ?_⟩
      refine iteKF (by decide) ⟨_, rfl, a, xs, rfl, ha, hz, q⟩
theorem sc_uf : FnScope ["name", "values", "size"] ["name", "values", "size"] (defScope (top 23)) := ⟨rfl, rfl, rfl, by decide +kernel, rfl, by decide +kernel, by decide +kernel⟩
theorem c_uf (T : Tx K mg) : C8.Cal P w K mg base 2 "undo_filter" (spUf K) [] := by
  refine cal_of T.f_undo_filter (fun _ _ _ _ _ _ us hl => match us, hl with | [_, _, _], _ => rfl) sc_uf (fun vs H Q E h => ?_) (fun f cdv A outer s H vs Q E hr h => ?_)
  · obtain ⟨f, a, xs, ys, w, rfl, _⟩ := h
    rfl
  · obtain ⟨fl, a, xs, ys, w, rfl, hw, ha, hy, hz, hb, he, q⟩ := h
    have nd := sc_uf.nd
    refine ⟨_, pss_cons (ps_if (pt_cmpR op_eq (pv 0) pe_str (nomark _)) (pss_one (ps_ret (C8.pe_c (c_fd T) hr (by decide) rfl (pa_cons (pv 1) pa_nil)))) pss_nil)
      (pss_cons (ps_if (pt_cmpR op_eq (pv 0) pe_str (nomark _)) (pss_one (ps_ret (C8.pe_c (c_fp T) hr (by decide) rfl (pa_cons (pv 1) (pa_cons (pv 2) pa_nil))))) pss_nil)
      (pss_cons (ps_if (pt_cmpR op_eq (pv 0) pe_str (nomark _)) (pss_one (ps_ret (C8.pe_c (c_fr T) hr (by decide) rfl (pa_cons (pv 1) pa_nil)))) pss_nil)
      (pss_one (ps_ret (C8.pe_c (c_fs T) hr (by decide) rfl (pa_cons (pv 1) pa_nil)))))), ?_⟩
    refine ⟨_, rfl, rfl, _, rfl, ?_⟩
    cases fl with
    | delta => exact iteK (by decide) ⟨_, rfl, a, xs, ys, rfl, ha, hy, hz, hb, he, q⟩
    | planes =>
      refine iteKF (by decide) ⟨_, rfl, rfl, _, rfl, ?_⟩
      exact iteK (by decide) ⟨_, rfl, _, rfl, a, xs, ys, w, rfl, hw, ha, hy, hz, hb, he, q⟩
    | runs =>
      refine iteKF (by decide) ⟨_, rfl, rfl, _, rfl, ?_⟩
      refine iteKF (by decide) ⟨_, rfl, rfl, _, rfl, ?_⟩
      exact iteK (by decide) ⟨_, rfl, a, xs, ys, rfl, ha, hy, hz, hb, he, q⟩
    | zeros =>
      refine iteKF (by decide) ⟨_, rfl, rfl, _, rfl, ?_⟩
      refine iteKF (by decide) ⟨_, rfl, rfl, _, rfl, ?_⟩
      exact iteKF (by decide) ⟨_, rfl, a, xs, ys, rfl, ha, hy, hz, hb, he, q⟩
end
end Tz
namespace Tz
open PySem PySem.Spec PyProof.Rows L2
abbrev fnames (fs : List Flt) : List V := fs.map fun f => .str f.name
def spAc (K : PySem.W.Frag) : Sp := fun vs H Q _ => ∃ (t a : Addr) (fs : List Flt) (xs : List Int) (w : Nat), vs = [.ref t, .ref a, .int w] ∧ (w = 1 ∨ w = 2 ∨ w = 4) ∧ SqT K H t (fnames fs) ∧ fs.length ≤ 3 ∧ SqL K H a (iv xs) ∧ xs.length ≤ 100000 ∧ ∀ ys, EncC w fs xs ys → Out H Q (.lst (iv ys))
def spUc (K : PySem.W.Frag) : Sp := fun vs H Q _ => ∃ (t a : Addr) (fs : List Flt) (xs ys : List Int) (w : Nat), vs = [.ref t, .ref a, .int w] ∧ (w = 1 ∨ w = 2 ∨ w = 4) ∧ SqT K H t (fnames fs) ∧ fs.length ≤ 3 ∧ SqL K H a (iv ys) ∧ xs.length ≤ 100000 ∧ Byt xs ∧ EncC w fs xs ys ∧ Out H Q (.lst (iv xs))
theorem grow3 {n l : Nat} (hn : n ≤ 3) (hl : l ≤ 100000) : grow n l ≤ 1000000 := by
  have : n = 0 ∨ n = 1 ∨ n = 2 ∨ n = 3 := by omega
  rcases this with rfl | rfl | rfl | rfl <;> simp only [grow] <;> omega
theorem EncC.len3 {w : Nat} (hw : w = 1 ∨ w = 2 ∨ w = 4) {fs : List Flt} {i : Nat} {xs out : List Int} (h : EncC w (fs.take i) xs out) (hf : fs.length ≤ 3) (hx : xs.length ≤ 100000) : out.length ≤ 1000000 := by
  refine Nat.le_trans (h.len hw) (grow3 ?_ hx)
  rw [List.length_take]; omega
theorem fname_get {fs : List Flt} {i : Nat} {x : V} (h : (fnames fs)[i]? = some x) : ∃ f, fs[i]? = some f ∧ x = .str f.name := by
  rw [List.getElem?_map] at h
  cases e : fs[i]? with
  | none => rw [e] at h; cases h
  | some f => rw [e] at h; exact ⟨f, rfl, (Option.some.inj h).symm⟩
section
variable {P : Program} {w : World} {K : PySem.W.Frag} {mg : Str → Option Value} {base : Heap}
theorem sc_ac : FnScope ["names", "values", "size", "found", "name"] ["names", "values", "size"] (defScope (top 24)) := ⟨rfl, rfl, rfl, by decide +kernel, rfl, by decide +kernel, by decide +kernel⟩
theorem c_ac (T : Tx K mg) : C8.Cal P w K mg base 3 "apply_chain" (spAc K) [] := by
  refine cal_of T.f_apply_chain (fun _ _ _ _ _ _ us hl => match us, hl with | [_, _, _], _ => rfl) sc_ac (fun vs H Q E h => ?_) (fun f cdv A outer s H vs Q E hr h => ?_)
  · obtain ⟨t, a, fs, xs, w, rfl, _⟩ := h
    rfl
  · obtain ⟨t, a, fs, xs, w, rfl, hw, ht, hf, ha, hz, q⟩ := h
    have nd := sc_ac.nd
    refine ⟨_, pss_cons (ps_set (i := 3) nd rfl (.inl rfl) (pe_callTy call_list_of (by rfl) T.n_list (by decide +kernel) (pa_cons (pv 1) pa_nil)))
      (pss_cons (ps_for PassesOwn.never rfl (pi_tup (pv 0)) (pg_name (i := 4) nd rfl (.inl rfl))
        (pss_one (ps_set (i := 3) nd rfl (.inl rfl) (C8.pe_c (c_af T) hr (by decide) rfl (pa_cons (pv 4) (pa_cons (pv 3) (pa_cons (pv 2) pa_nil)))))))
      (pss_one (ps_ret (pv 3)))), ?_⟩
    refine ⟨_, rfl, a, _, rfl, .inl ha, fun l hl => ?_⟩
    refine ⟨_, rfl, t, rfl, ⟨_, Same.sqT (same_upd0 hl) ht⟩, for_tup (K := K) (a := t) (xs := fnames fs) (fun i σ H' => Same H H' ∧ ∃ l mid z, H l = none ∧ H' l = some (.lst (iv mid)) ∧ EncC w (fs.take i) xs mid ∧ σ = [some (.ref t), some (.ref a), some (.int w), some (.ref l), z])
      ⟨same_upd0 hl, l, xs, none, hl, upd_same, .nil xs, rfl⟩ (fun i σ H' _ h => Same.sqT h.1 ht) ?_ ?_⟩
    · rintro i x σ H' hx ⟨hs, l1, mid, z, hl1, hL, hE, rfl⟩
      obtain ⟨fl, hfl, rfl⟩ := fname_get hx
      refine ⟨_, rfl, _, rfl, _, rfl, fl, l1, mid, w, rfl, hw, SqL.of hL, hE.len3 hw hf hz, fun ys hy l2 H2 hl2 hs2 hL2 => ?_⟩
      refine ⟨hs.trans hs2, l2, ys, some (.str fl.name), hs.free hl2, hL2, ?_, rfl⟩
      rw [take_snoc hfl]
      exact .snoc hE hy
    · rintro σ H' ⟨hs, l1, mid, z, hl1, hL, hE, rfl⟩
      rw [List.length_map, List.take_length] at hE
      exact ⟨_, rfl, q mid hE l1 H' hl1 hs hL⟩
theorem sc_uc : FnScope ["names", "values", "size", "found", "name"] ["names", "values", "size"] (defScope (top 25)) := ⟨rfl, rfl, rfl, by decide +kernel, rfl, by decide +kernel, by decide +kernel⟩
theorem c_uc (T : Tx K mg) : C8.Cal P w K mg base 3 "undo_chain" (spUc K) [] := by
  refine cal_of T.f_undo_chain (fun _ _ _ _ _ _ us hl => match us, hl with | [_, _, _], _ => rfl) sc_uc (fun vs H Q E h => ?_) (fun f cdv A outer s H vs Q E hr h => ?_)
  · obtain ⟨t, a, fs, xs, ys, w, rfl, _⟩ := h
    rfl
  · obtain ⟨t, a, fs, xs, ys, w, rfl, hw, ht, hf, ha, hz, hb, hE, q⟩ := h
    have nd := sc_uc.nd
    refine ⟨_, pss_cons (ps_set (i := 3) nd rfl (.inl rfl) (pe_callTy call_list_of (by rfl) T.n_list (by decide +kernel) (pa_cons (pv 1) pa_nil)))
      (pss_cons (ps_for PassesOwn.never rfl (pi_tup (pe_revT (pv 0))) (pg_name (i := 4) nd rfl (.inl rfl))
        (pss_one (ps_set (i := 3) nd rfl (.inl rfl) (C8.pe_c (c_uf T) hr (by decide) rfl (pa_cons (pv 4) (pa_cons (pv 3) (pa_cons (pv 2) pa_nil)))))))
      (pss_one (ps_ret (pv 3)))), ?_⟩
    refine ⟨_, rfl, a, _, rfl, .inl ha, fun l hl => ?_⟩
    refine ⟨_, rfl, t, fnames fs, rfl, Same.sqT (same_upd0 hl) ht, fun p hp => ?_⟩
    have hpl : p ≠ l := fun z => by rw [z, upd_same] at hp; cases hp
    have hpH : H p = none := by rw [upd_ne hpl] at hp; exact hp
    refine ⟨p, rfl, ⟨_, SqT.of upd_same⟩, for_tup (K := K) (a := p) (xs := (fnames fs).reverse) (fun i σ H' => Same H H' ∧ H' p = some (.tup (fnames fs).reverse) ∧ ∃ l mid z, H l = none ∧ H' l = some (.lst (iv mid)) ∧ EncC w (fs.take (fs.length - i)) xs mid ∧ σ = [some (.ref t), some (.ref a), some (.int w), some (.ref l), z])
      ⟨same_updD (same_upd0 hl) hpH, upd_same, l, ys, none, hl, by rw [upd_ne (Ne.symm hpl), upd_same], by rw [Nat.sub_zero, List.take_length]; exact hE, rfl⟩ (fun i σ H' _ h => SqT.of h.2.1) ?_ ?_⟩
    · rintro i x σ H' hx ⟨hs, hp1, l1, mid, z, hl1, hL, hE1, rfl⟩
      have hi : i < fs.length := by
        have := (List.getElem?_eq_some_iff.mp hx).1
        rw [List.length_reverse, List.length_map] at this
        exact this
      rw [List.getElem?_reverse (by rw [List.length_map]; exact hi), List.length_map] at hx
      obtain ⟨fl, hfl, rfl⟩ := fname_get hx
      have e1 : fs.take (fs.length - i) = fs.take (fs.length - (i + 1)) ++ [fl] := by
        have := take_snoc (l := fs) (i := fs.length - (i + 1)) (x := fl) (by rw [← hfl]; congr 1; omega)
        rw [show fs.length - (i + 1) + 1 = fs.length - i by omega] at this
        exact this
      have hlm := hE1.len3 hw hf hz
      rw [e1] at hE1
      obtain ⟨mid2, hE2, hen⟩ := hE1.last
      refine ⟨_, rfl, _, rfl, _, rfl, fl, l1, mid2, mid, w, rfl, hw, SqL.of hL, hlm, hE2.len3 hw hf hz, hE2.byt hb, hen, fun l2 H2 hl2 hs2 hL2 => ?_⟩
      exact ⟨hs.trans hs2, hs2 _ _ hp1, l2, mid2, some (.str fl.name), hs.free hl2, hL2, hE2, rfl⟩
    · rintro σ H' ⟨hs, hp1, l1, mid, z, hl1, hL, hE1, rfl⟩
      rw [List.length_reverse, List.length_map, Nat.sub_self, List.take_zero] at hE1
      rw [hE1.empty] at hL
      exact ⟨_, rfl, q l1 H' hl1 hs hL⟩
end
end Tz
namespace Tz
open PySem PySem.Spec PyProof.Rows L2
/-- a row that is small -/
def Row.Ok (r : Row) : Prop := Sml r.key ∧ r.key.length ≤ 100 ∧ 0 ≤ r.ad ∧ r.ad < Big ∧ 0 ≤ r.ln ∧ r.ln < Big
def RowR (K : PySem.W.Frag) (H : Hp) (v : V) (r : Row) : Prop := ∃ (t : Addr) (k p : V), v = .ref t ∧ SqT K H t [k, p] ∧ TupI K H k r.key ∧ TupI K H p [r.ad, r.ln]
theorem RowR.keep {K : PySem.W.Frag} {H H' : Hp} {v : V} {r : Row} (h : RowR K H v r) (s : Same H H') : RowR K H' v r := by
  obtain ⟨t, k, p, e, h1, h2, h3⟩ := h
  exact ⟨t, k, p, e, Same.sqT s h1, h2.keep s, h3.keep s⟩
/-- the values vs stand for the rows rs -/
def RowsV (K : PySem.W.Frag) (H : Hp) (vs : List V) (rs : List Row) : Prop := vs.length = rs.length ∧ ∀ (i : Nat) (v : V) (r : Row), vs[i]? = some v → rs[i]? = some r → RowR K H v r
theorem RowsV.keep {K : PySem.W.Frag} {H H' : Hp} {vs : List V} {rs : List Row} (h : RowsV K H vs rs) (s : Same H H') : RowsV K H' vs rs := ⟨h.1, fun i v r hv hr => (h.2 i v r hv hr).keep s⟩
theorem RowsV.get {K : PySem.W.Frag} {H : Hp} {vs : List V} {rs : List Row} (h : RowsV K H vs rs) {i : Nat} {v : V} (hv : vs[i]? = some v) : ∃ r, rs[i]? = some r ∧ RowR K H v r := by
  have hi : i < rs.length := by rw [← h.1]; exact (List.getElem?_eq_some_iff.mp hv).1
  exact ⟨_, List.getElem?_eq_getElem hi, h.2 i v _ hv (List.getElem?_eq_getElem hi)⟩
def RowsR (K : PySem.W.Frag) (H : Hp) (l : Addr) (rs : List Row) : Prop := ∃ vs, SqL K H l vs ∧ RowsV K H vs rs
theorem RowsR.keep {K : PySem.W.Frag} {H H' : Hp} {l : Addr} {rs : List Row} (h : RowsR K H l rs) (s : Same H H') : RowsR K H' l rs := by
  obtain ⟨vs, h1, h2⟩ := h
  exact ⟨vs, same_sqL s h1, h2.keep s⟩
theorem wrow_len {r : Row} (h : r.Ok) : (wrow r).length ≤ 1100 := by
  obtain ⟨h1, h2, h3, h4, h5, h6⟩ := h
  unfold wrow wints
  have e1 := wnum_len10 (n := (r.key.length : Int)) (by omega) (by unfold Big; omega)
  have e2 := flat_le (f := wint) (c := 10) (l := r.key) fun x hx => wint_len10 (h1.1 x hx)
  have e3 := wnum_len10 h3 h4
  have e4 := wnum_len10 h5 h6
  simp only [List.length_append]
  omega
def spWnode (K : PySem.W.Frag) : Sp := fun vs H Q _ => ∃ (a : Addr) (rs : List Row), vs = [.ref a] ∧ RowsR K H a rs ∧ rs.length ≤ 1000 ∧ (∀ r ∈ rs, r.Ok) ∧ Out H Q (.lst (iv (wnode rs)))
section
variable {P : Program} {w : World} {K : PySem.W.Frag} {mg : Str → Option Value} {base : Heap}
theorem sc_wnode : FnScope ["rows", "content", "key", "pointer"] ["rows"] (defScope (top 71)) := ⟨rfl, rfl, rfl, by decide +kernel, rfl, by decide +kernel, by decide +kernel⟩
theorem c_wnode (T : Tx K mg) : C8.Cal P w K mg base 4 "write_node" (spWnode K) [] := by
  refine cal_of T.f_write_node (fun _ _ _ _ _ _ us hl => match us, hl with | [_], _ => rfl) sc_wnode (fun vs H Q E h => ?_) (fun f cdv A outer s H vs Q E hr h => ?_)
  · obtain ⟨a, rs, rfl, _⟩ := h
    rfl
  · obtain ⟨a, rs, rfl, ⟨us, ha, hv⟩, hz, hok, k⟩ := h
    have nd := sc_wnode.nd
    refine ⟨_, pss_cons (ps_set (i := 1) nd rfl (.inl rfl) (C8.pe_c (c_wn T) hr (by decide) rfl (pa_cons (pe_callB call_len (by rfl) T.n_len PySem.boot_len (pa_cons (pv 0) pa_nil)) pa_nil)))
      (pss_cons (ps_for PassesOwn.never rfl (pi_list (pv 0)) (pg_tup (by rfl) (pgs_cons (pg_name (i := 2) nd rfl (.inl rfl)) (pgs_cons (pg_name (i := 3) nd rfl (.inl rfl)) pgs_nil)))
        (pss_cons (ps_expr (pe_bm PySem.F.plainAttrs_list PySem.F.slot_list_extend PySem.F.type_list_extend mt_extend (pv 1) (pa_cons (C8.pe_c (c_ws T) hr (by decide) rfl (pa_cons (pv 2) pa_nil)) pa_nil)))
        (pss_cons (ps_expr (pe_bm PySem.F.plainAttrs_list PySem.F.slot_list_extend PySem.F.type_list_extend mt_extend (pv 1) (pa_cons (C8.pe_c (c_wn T) hr (by decide) rfl (pa_cons (pe_ix ix_tup (pv 3) pe_int (fun _ _ => rfl)) pa_nil)) pa_nil)))
        (pss_one (ps_expr (pe_bm PySem.F.plainAttrs_list PySem.F.slot_list_extend PySem.F.type_list_extend mt_extend (pv 1) (pa_cons (C8.pe_c (c_wn T) hr (by decide) rfl (pa_cons (pe_ix ix_tup (pv 3) pe_int (fun _ _ => rfl)) pa_nil)) pa_nil)))))))
      (pss_one (ps_ret (pv 1)))), ?_⟩
    have h10 := wnum_len10 (n := (rs.length : Int)) (by omega) (by unfold Big; omega)
    refine ⟨_, rfl, _, _, rfl, .inl ⟨_, ha, rfl⟩, (us.length : Int), rfl, by omega, by unfold Big; rw [hv.1]; omega, fun l H1 hl hs1 hL => ?_⟩
    refine ⟨_, rfl, a, rfl, ⟨_, same_sqL hs1 ha⟩, for_list (K := K) (a := a) (xs := us) (fun i σ H' => Same H H' ∧ H' l = some (.lst (iv (wnum rs.length ++ (rs.take i).flatMap wrow))) ∧ ∃ y z, σ = [some (.ref a), some (.ref l), y, z])
      ⟨hs1, by rw [hL, hv.1]; simp, none, none, rfl⟩ (fun i σ H' _ h => same_sqL h.1 ha) ?_ ?_⟩
    · rintro i x σ H' hx ⟨hs, h1, y, z, rfl⟩
      obtain ⟨r, hr1, t, kv, pv, rfl, ht, hk, p, rfl, hp⟩ := hv.get hx
      have hro := hok r (List.mem_of_getElem? hr1)
      have hwl := wrow_len hro
      obtain ⟨hsm, hkl, had, had2, hln, hln2⟩ := hro
      have hfl := flat_le (f := wrow) (c := 1100) (l := rs.take i) fun x hx => wrow_len (hok x (List.mem_of_mem_take hx))
      have hti : (rs.take i).length ≤ 1000 := by rw [List.length_take]; omega
      have hsz : (wnum rs.length ++ (rs.take i).flatMap wrow).length + (wrow r).length ≤ 1200000 := by
        rw [List.length_append]; omega
      have hsz2 : (wrow r).length = (wints r.key).length + (wnum r.ad).length + (wnum r.ln).length := by unfold wrow; simp; omega
      refine ⟨t, [kv, .ref p], rfl, Same.sqT hs ht, rfl, _, _, rfl, _, _, rfl, rfl, ?_⟩
      refine ⟨_, rfl, .inl ⟨rfl, _, SqL.of h1⟩, _, rfl, kv, r.key, rfl, hk.keep hs, hsm, fun l2 H2 hl2 hs2 hL2 => ?_⟩
      refine ⟨l, l2, _, _, rfl, rfl, hs2 _ _ h1, hL2, by rw [List.length_map, List.length_map, sizeLine_eq]; omega, ?_⟩
      have hsA : Same H (upd H2 l (.lst (iv (wnum rs.length ++ (rs.take i).flatMap wrow) ++ iv (wints r.key)))) := same_updD (hs.trans hs2) hl
      refine ⟨_, rfl, .inl ⟨rfl, _, SqL.of upd_same⟩, _, rfl, p, _, 0, .int r.ad, rfl, rfl, Same.sqT hsA hp, atI_nat (j := 0) rfl, r.ad, rfl, had, had2, fun l3 H3 hl3 hs3 hL3 => ?_⟩
      refine ⟨l, l3, _, _, rfl, rfl, hs3 _ _ upd_same, hL3, by rw [List.length_append, List.length_map, List.length_map, List.length_map, sizeLine_eq]; omega, ?_⟩
      have hsB := same_updD (o := .lst ((iv (wnum rs.length ++ (rs.take i).flatMap wrow) ++ iv (wints r.key)) ++ iv (wnum r.ad))) (hsA.trans hs3) hl
      refine ⟨_, rfl, .inl ⟨rfl, _, SqL.of upd_same⟩, _, rfl, p, _, 1, .int r.ln, rfl, rfl, Same.sqT hsB hp, atI_nat (j := 1) rfl, r.ln, rfl, hln, hln2, fun l4 H4 hl4 hs4 hL4 => ?_⟩
      refine ⟨l, l4, _, _, rfl, rfl, hs4 _ _ upd_same, hL4, by rw [List.length_append, List.length_append, List.length_map, List.length_map, List.length_map, List.length_map, sizeLine_eq]; omega, same_updD (hsB.trans hs4) hl, ?_, some kv, some (.ref p), rfl⟩
      rw [upd_same, take_snoc hr1]
      simp [wrow]
    · rintro σ H' ⟨hs, h1, y, z, rfl⟩
      refine ⟨_, rfl, k l H' hl hs ?_⟩
      rw [h1, hv.1, List.take_length]
      rfl
end
end Tz
namespace Tz
open PySem PySem.Spec PyProof.Rows L2
theorem RowsV.snoc {K : PySem.W.Frag} {H : Hp} {us : List V} {rs : List Row} {v : V} {r : Row} (h : RowsV K H us rs) (hr : RowR K H v r) : RowsV K H (us ++ [v]) (rs ++ [r]) := by
  refine ⟨by rw [List.length_append, List.length_append, h.1]; rfl, fun i x y hx hy => ?_⟩
  by_cases hi : i < us.length
  · rw [List.getElem?_append_left hi] at hx
    rw [List.getElem?_append_left (by rw [← h.1]; exact hi)] at hy
    exact h.2 i x y hx hy
  · rw [List.getElem?_append_right (by omega)] at hx
    rw [List.getElem?_append_right (by rw [← h.1]; omega), ← h.1] at hy
    cases e : i - us.length with
    | zero =>
      rw [e] at hx hy
      cases hx
      cases hy
      exact hr
    | succ k => rw [e] at hx; cases hx
theorem RowsV.nil {K : PySem.W.Frag} {H : Hp} : RowsV K H [] [] := ⟨rfl, fun i x y hx => by simp at hx⟩
/-- all but the list at w stands -/
def SX (w : Addr) (H H' : Hp) : Prop := ∀ b o, b ≠ w → H b = some o → H' b = some o
theorem SX.refl (w : Addr) (H : Hp) : SX w H H := fun _ _ _ e => e
theorem SX.trans {w : Addr} {H H1 H2 : Hp} (a : SX w H H1) (b : SX w H1 H2) : SX w H H2 := fun x o n e => b x o n (a x o n e)
theorem Same.sx {w : Addr} {H H' : Hp} (s : Same H H') : SX w H H' := fun b o _ e => s b o e
theorem sx_upd {w : Addr} {H : Hp} {o : HO} : SX w H (upd H w o) := fun b u n e => by rw [upd_ne n]; exact e
theorem SX.free {w a : Addr} {H H' : Hp} (s : SX w H H') (n : a ≠ w) (h : H' a = none) : H a = none := by
  cases e : H a with
  | none => rfl
  | some o => rw [s a o n e] at h; cases h
theorem SX.sqT {w : Addr} {H H' : Hp} (s : SX w H H') {l : List V} (hw : H w = some (.lst l)) {K : PySem.W.Frag} {a : Addr} {xs : List V} (h : SqT K H a xs) : SqT K H' a xs := by
  rcases h with (h | ⟨o, h⟩) | h
  · exact .inl (.inl (s _ _ (fun e => by rw [e, hw] at h; cases h) h))
  · exact .inl (.inr ⟨o, s _ _ (fun e => by rw [e, hw] at h; cases h) h⟩)
  · exact .inr h
theorem SX.tupI {w : Addr} {H H' : Hp} (s : SX w H H') {l : List V} (hw : H w = some (.lst l)) {K : PySem.W.Frag} {v : V} {ns : List Int} (h : TupI K H v ns) : TupI K H' v ns := by
  obtain ⟨a, e, h⟩ := h
  exact ⟨a, e, s.sqT hw h⟩
theorem SX.rowR {w : Addr} {H H' : Hp} (s : SX w H H') {l : List V} (hw : H w = some (.lst l)) {K : PySem.W.Frag} {v : V} {r : Row} (h : RowR K H v r) : RowR K H' v r := by
  obtain ⟨t, k, p, e, h1, h2, h3⟩ := h
  exact ⟨t, k, p, e, s.sqT hw h1, s.tupI hw h2, s.tupI hw h3⟩
theorem SX.rowsV {w : Addr} {H H' : Hp} (s : SX w H H') {l : List V} (hw : H w = some (.lst l)) {K : PySem.W.Frag} {vs : List V} {rs : List Row} (h : RowsV K H vs rs) : RowsV K H' vs rs := ⟨h.1, fun i v r hv hr => s.rowR hw (h.2 i v r hv hr)⟩
def spRnode (K : PySem.W.Frag) : Sp := fun vs H Q _ => ∃ (a : Addr) (rs : List Row), vs = [.ref a] ∧ SqL K H a (iv (wnode rs)) ∧ 1 ≤ rs.length ∧ rs.length ≤ 8 ∧ (∀ r ∈ rs, r.Ok) ∧
  ∀ l us H', Same H H' → H l = none → H' l = some (.lst us) → RowsV K H' us rs → Q (.ref l) H'
section
variable {P : Program} {w : World} {K : PySem.W.Frag} {mg : Str → Option Value} {base : Heap}
theorem sc_rnode : FnScope ["content", "count", "at", "rows", "_", "key", "address", "length"] ["content"] (defScope (top 72)) := ⟨rfl, rfl, rfl, by decide +kernel, rfl, by decide +kernel, by decide +kernel⟩
theorem c_rnode (T : Tx K mg) : C8.Cal P w K mg base 5 "read_node" (spRnode K) [] := by
  refine cal_of T.f_read_node (fun _ _ _ _ _ _ us hl => match us, hl with | [_], _ => rfl) sc_rnode (fun vs H Q E h => ?_) (fun f cdv A outer s H vs Q E hr h => ?_)
  · obtain ⟨a, rs, rfl, _⟩ := h
    rfl
  · obtain ⟨a, rs, rfl, ha, hz1, hz8, hok, k⟩ := h
    have nd := sc_rnode.nd
    refine ⟨_, pss_cons (ps_try_thru0 (pss_cons (ps_asg (C8.pe_c (c_rn T) hr (by decide) rfl (pa_cons (pv 0) (pa_cons pe_int pa_nil))) (pg_tup (by rfl) (pgs_cons (pg_name (i := 1) nd rfl (.inl rfl)) (pgs_cons (pg_name (i := 2) nd rfl (.inl rfl)) pgs_nil))))
        (pss_cons (ps_set (i := 3) nd rfl (.inl rfl) (pe_lst pa_nil))
        (pss_one (ps_for PassesOwn.never rfl (pi_range1 (by rfl) T.n_range (pa_cons (pe_callB (call_min2 rfl) (by rfl) T.n_min (by decide +kernel) (pa_cons (pv 1) (pa_cons (pe_gi (by rfl) T.i_MOST_ENTRIES) pa_nil))) pa_nil)) (pg_name (i := 4) nd rfl (.inl rfl))
          (pss_cons (ps_asg (C8.pe_c (c_rs T) hr (by decide) rfl (pa_cons (pv 0) (pa_cons (pv 2) pa_nil))) (pg_tup (by rfl) (pgs_cons (pg_name (i := 5) nd rfl (.inl rfl)) (pgs_cons (pg_name (i := 2) nd rfl (.inl rfl)) pgs_nil))))
          (pss_cons (ps_asg (C8.pe_c (c_rn T) hr (by decide) rfl (pa_cons (pv 0) (pa_cons (pv 2) pa_nil))) (pg_tup (by rfl) (pgs_cons (pg_name (i := 6) nd rfl (.inl rfl)) (pgs_cons (pg_name (i := 2) nd rfl (.inl rfl)) pgs_nil))))
          (pss_cons (ps_asg (C8.pe_c (c_rn T) hr (by decide) rfl (pa_cons (pv 0) (pa_cons (pv 2) pa_nil))) (pg_tup (by rfl) (pgs_cons (pg_name (i := 7) nd rfl (.inl rfl)) (pgs_cons (pg_name (i := 2) nd rfl (.inl rfl)) pgs_nil))))
          (pss_one (ps_expr (pe_bm PySem.F.plainAttrs_list PySem.F.slot_list_append PySem.F.type_list_append mt_append (pv 3) (pa_cons (pe_tup (pa_cons (pe_callTy call_tuple_of (by rfl) T.n_tuple (by decide +kernel) (pa_cons (pv 5) pa_nil)) (pa_cons (pe_tup (pa_cons (pv 6) (pa_cons (pv 7) pa_nil))) pa_nil))) pa_nil))))))))))))
      (pss_cons (ps_if (PW.pt (pw_or (pt_cmpR op_ne (pv 1) (pe_callB call_len (by rfl) T.n_len PySem.boot_len (pa_cons (pv 3) pa_nil)) (nomark _)) (pw_or (pt_cmpR op_eq (pv 1) pe_int (nomark _))
        (pw_or1 (pt_cmpR op_ne (pv 2) (pe_callB call_len (by rfl) T.n_len PySem.boot_len (pa_cons (pv 0) pa_nil)) (nomark _)))))) (pss_one (ps_ret pe_non)) pss_nil)
      (pss_one (ps_ret (pv 3)))), ?_⟩
    have hh : Has (wnode rs) 0 (wnum rs.length ++ rs.flatMap wrow) := Has.all _
    have h2 := hh.snd
    refine ⟨_, rfl, a, _, 0, (rs.length : Int), rfl, ha, by omega, hh.fst, fun t H1 ht hs hT => ?_⟩
    refine ⟨t, _, rfl, SqT.of hT, rfl, _, _, rfl, _, _, rfl, rfl, ?_⟩
    refine ⟨(by show 0 ≤ sizeLine; decide), fun l hl => ?_⟩
    have hlH : H l = none := hs.free hl
    have hmin : (if (8 : Int) < (rs.length : Int) then (8 : Int) else (rs.length : Int)) = (rs.length : Int) := if_neg (by omega)
    refine ⟨_, rfl, _, _, rfl, ((rs.length : Nat) : Int), ?_, by omega, by omega, for_range (n := rs.length) (fun j σ H' => Same H H' ∧ (∃ us, H' l = some (.lst us) ∧ RowsV K H' us (rs.take j)) ∧ ∃ x y z u, σ = [some (.ref a), some (.int rs.length), some (.int (((wnum rs.length ++ (rs.take j).flatMap wrow).length : Nat) : Int)), some (.ref l), x, y, z, u])
      ⟨same_updD hs hlH, ⟨[], upd_same, RowsV.nil⟩, none, none, none, none, by simp [L2.start]⟩ ?_ ?_⟩
    · show [V.int (if (8 : Int) < (rs.length : Int) then (8 : Int) else (rs.length : Int))] = _
      rw [hmin]
    · rintro j σ H' hj ⟨hs', ⟨us, hL, hU⟩, x, y, z, u, rfl⟩
      obtain ⟨r, hr1⟩ : ∃ x, rs[j]? = some x := ⟨rs[j], List.getElem?_eq_getElem hj⟩
      obtain ⟨hsm, hkl, had, had2, hln, hln2⟩ := hok r (List.mem_of_getElem? hr1)
      have hsplit : rs.flatMap wrow = (rs.take j).flatMap wrow ++ (wrow r ++ (rs.drop (j + 1)).flatMap wrow) := by
        have e := split_at hr1
        conv => lhs; rw [e]
        simp
      have hx3 : Has (wnode rs) (wnum rs.length ++ (rs.take j).flatMap wrow).length (wrow r) := by
        rw [hsplit] at h2
        have := h2.snd.fst
        rw [List.length_append, Nat.zero_add] at *
        exact this
      have g1 : Has (wnode rs) (wnum rs.length ++ (rs.take j).flatMap wrow).length (wints r.key) := hx3.fst.fst
      have g2 : Has (wnode rs) ((wnum rs.length ++ (rs.take j).flatMap wrow).length + (wints r.key).length) (wnum r.ad) := hx3.fst.snd
      have g3 : Has (wnode rs) ((wnum rs.length ++ (rs.take j).flatMap wrow).length + (wints r.key).length + (wnum r.ad).length) (wnum r.ln) := by
        have := hx3.snd
        rw [show (wints r.key ++ wnum r.ad).length = (wints r.key).length + (wnum r.ad).length from List.length_append, ← Nat.add_assoc] at this
        exact this
      refine ⟨_, rfl, _, rfl, a, _, _, r.key, rfl, same_sqL hs' ha, g1, by omega, fun t1 l1 H3 hs3 hl1 ht1 => ?_⟩
      refine ⟨t1, _, rfl, SqT.of ht1, rfl, _, _, rfl, _, _, rfl, rfl, ?_⟩
      refine ⟨_, rfl, _, rfl, a, _, _, r.ad, rfl, same_sqL (hs'.trans hs3) ha, had, g2, fun t2 H4 ht2 hs4 hT2 => ?_⟩
      refine ⟨t2, _, rfl, SqT.of hT2, rfl, _, _, rfl, _, _, rfl, rfl, ?_⟩
      refine ⟨_, rfl, _, rfl, a, _, _, r.ln, rfl, same_sqL ((hs'.trans hs3).trans hs4) ha, hln, g3, fun t3 H5 ht3 hs5 hT3 => ?_⟩
      refine ⟨t3, _, rfl, SqT.of hT3, rfl, _, _, rfl, _, _, rfl, rfl, ?_⟩
      have hs35 : Same H3 H5 := hs4.trans hs5
      have hsB : Same H' H5 := hs3.trans hs35
      refine ⟨_, rfl, .inl ⟨rfl, _, SqL.of (hsB _ _ hL)⟩, _, rfl, l1, _, rfl, .inl ⟨SqL.of (hs35 _ _ hl1), fun p1 hp1 => ?_⟩⟩
      refine ⟨_, rfl, _, rfl, (by show 2 ≤ sizeLine; decide), fun p2 hp2 => ⟨(by show 2 ≤ sizeLine; decide), fun p3 hp3 => ?_⟩⟩
      have hlp1 : l ≠ p1 := fun e => by rw [← e, hsB _ _ hL] at hp1; cases hp1
      have hlp2 : l ≠ p2 := fun e => by rw [← e, upd_ne hlp1, hsB _ _ hL] at hp2; cases hp2
      have hlp3 : l ≠ p3 := fun e => by rw [← e, upd_ne hlp2, upd_ne hlp1, hsB _ _ hL] at hp3; cases hp3
      have h12 : p1 ≠ p2 := fun e => by rw [← e, upd_same] at hp2; cases hp2
      have h13 : p1 ≠ p3 := fun e => by rw [← e, upd_ne h12, upd_same] at hp3; cases hp3
      have h23 : p2 ≠ p3 := fun e => by rw [← e, upd_same] at hp3; cases hp3
      have ul : us.length ≤ 8 := by rw [hU.1, List.length_take]; omega
      have s3 := same3 (o3 := .tup [.ref p1, .ref p2]) hp1 hp2 hp3
      refine ⟨l, us, .ref p3, rfl, rfl, by rw [upd_ne hlp3, upd_ne hlp2, upd_ne hlp1]; exact hsB _ _ hL, by rw [sizeLine_eq]; omega, ?_⟩
      have hLe : (upd (upd (upd H5 p1 (.tup (iv r.key))) p2 (.tup [.int r.ad, .int r.ln])) p3 (.tup [.ref p1, .ref p2])) l = some (.lst us) := by rw [upd_ne hlp3, upd_ne hlp2, upd_ne hlp1]; exact hsB _ _ hL
      refine ⟨same_updD ((hs'.trans hsB).trans s3) hlH, ⟨us ++ [.ref p3], upd_same, ?_⟩, some (.int (0 + (j : Nat))), some (.ref l1), some (.int r.ad), some (.int r.ln), ?_⟩
      · rw [take_snoc hr1]
        refine RowsV.snoc ((sx_upd (w := l)).rowsV hLe ((hU.keep hsB).keep s3)) ((sx_upd (w := l)).rowR hLe ?_)
        refine ⟨p3, .ref p1, .ref p2, rfl, SqT.of upd_same, ⟨p1, rfl, SqT.of ?_⟩, ⟨p2, rfl, SqT.of ?_⟩⟩
        · rw [upd_ne h13, upd_ne h12, upd_same]
        · rw [upd_ne h23, upd_same]; rfl
      · have e : (wnum rs.length ++ (rs.take (j + 1)).flatMap wrow).length = (wnum rs.length ++ (rs.take j).flatMap wrow).length + (wints r.key).length + (wnum r.ad).length + (wnum r.ln).length := by
          rw [take_snoc hr1]
          simp [wrow]
          omega
        rw [e]
        rfl
    · rintro σ H' ⟨hs', ⟨us, hL, hU⟩, x, y, z, u, rfl⟩
      rw [List.take_length] at hU
      have hul := hU.1
      have elen : (iv (wnode rs)).length = (wnum rs.length ++ rs.flatMap wrow).length := List.length_map _
      refine ⟨_, rfl, _, rfl, _, _, rfl, .inl ⟨_, SqL.of hL, rfl⟩, rfl, _, rfl, ?_⟩
      refine iteKF (by rw [hul]; simp) ?_
      refine ⟨_, rfl, rfl, _, rfl, ?_⟩
      refine iteKF (by rw [decide_eq_false_iff_not]; intro e; have := V.int.inj e; omega) ?_
      refine ⟨_, rfl, _, rfl, _, _, rfl, .inl ⟨_, same_sqL hs' ha, rfl⟩, rfl, _, rfl, ?_⟩
      refine iteKF (by rw [elen, List.take_length]; simp) ?_
      exact ⟨_, rfl, k l us H' hs' hlH hL hU⟩
end
end Tz
/-! Trees: one put, one removal, level by level. Core Lean alone. -/
namespace Tz
def PB (S : Sto) (d : Nat) (n p : Row) (es : List Row) (φ : Nat) (ms : List Kid) : Prop := Mad S d ms (ins n es) ∧ ms ≠ [] ∧ ms.length ≤ 2 ∧ HeadK (ms.map (·.row)) (fun k => k = p.key ∨ k = n.key) ∧ phis ms + 4 ^ (d + 1) * (ms.length - 1) ≤ φ + 1
theorem put_leaf {S S' : Sto} {n p : Row} {es : List Row} {φ : Nat} (h : Nd S 0 p es φ) (hn : n.Fit) {out : List Row} (hs : Saved S' 1 (ins n es) out) : ∃ ms : List Kid, ms.map (·.row) = out ∧ PB S' 0 n p es φ ms := by
  obtain ⟨⟨x, rest, e, e2⟩, h2, h3, h4, h5, h6⟩ := h
  obtain ⟨ms, m1, m2, m3, m4, m5, m6, m7⟩ := saved_leaf hs (ins_srt h3) (fun r hr => by
    rcases ins_mem hr with rfl | hr
    · exact hn
    · exact h4 r hr) (P := fun k => k = p.key ∨ k = n.key) (fun y r ey => by
    subst e
    obtain ⟨y', r', e3, e4⟩ := ins_head (n := n) h3
    rw [e3] at ey
    cases ey
    rcases e4 with e4 | e4
    · exact .inr e4
    · exact .inl (by rw [e4, e2]))
  refine ⟨ms, m1, m2, m6 ins_ne, m5, by rw [m1]; exact m3, ?_⟩
  have := ins_len (n := n) (es := es)
  show phis ms + 4 * (ms.length - 1) ≤ φ + 1
  omega
/-- where child_at stops -/
def At (rows : List Row) (key : List Int) (i : Nat) : Prop := i < rows.length ∧ (∀ j r, i < j → rows[j]? = some r → kl key r.key = true) ∧ (i = 0 ∨ ∃ r, rows[i]? = some r ∧ kl key r.key = false)
structure Split (key : List Int) (ks A : List Kid) (k : Kid) (B : List Kid) : Prop where
  eq : ks = A ++ k :: B
  lo : ∀ a ∈ A, ∀ r ∈ a.es, kl r.key key = true
  hi : ∀ b ∈ B, kl key b.row.key = true
  lok : ∀ a ∈ A, ∀ r ∈ a.es, kl r.key k.row.key = true
theorem split_of {ks : List Kid} {key : List Int} {i : Nat} (hs : ks.Pairwise Sep) (h : At (ks.map (·.row)) key i) : ∃ k, ks[i]? = some k ∧ Split key ks (ks.take i) k (ks.drop (i + 1)) := by
  obtain ⟨h1, h2, h3⟩ := h
  rw [List.length_map] at h1
  have e : ks = ks.take i ++ ks[i] :: ks.drop (i + 1) := by rw [List.getElem_cons_drop, List.take_append_drop]
  have hs' := hs
  rw [e] at hs'
  obtain ⟨p1, p2, p3⟩ := List.pairwise_append.mp hs'
  have lok : ∀ a ∈ ks.take i, ∀ r ∈ a.es, kl r.key ks[i].row.key = true := fun a ha r hr => p3 a ha _ List.mem_cons_self r hr
  refine ⟨ks[i], List.getElem?_eq_getElem h1, e, fun a ha r hr => ?_, fun b hb => ?_, lok⟩
  · rcases h3 with h3 | ⟨r', h3, h4⟩
    · rw [h3] at ha; simp at ha
    · rw [List.getElem?_map, List.getElem?_eq_getElem h1] at h3
      cases h3
      exact kl_lt_le (lok a ha r hr) h4
  · obtain ⟨j, hj⟩ := List.mem_iff_getElem?.mp hb
    rw [List.getElem?_drop] at hj
    exact h2 (i + 1 + j) b.row (by omega) (by rw [List.getElem?_map, hj]; rfl)
theorem Split.his {S : Sto} {d : Nat} {key : List Int} {ks A B : List Kid} {k : Kid} (h : Split key ks A k B) (hn : ∀ k ∈ ks, Nd S d k.row k.es k.φ) : ∀ b ∈ B, ∀ r ∈ b.es, kl key r.key = true := fun b hb r hr =>
  kl_lt_le (h.hi b hb) (Nd.low (hn b (by rw [h.eq]; exact List.mem_append_right _ (List.mem_cons_of_mem _ hb))) r hr)
theorem Split.flatLo {key : List Int} {ks A B : List Kid} {k : Kid} (h : Split key ks A k B) : ∀ r ∈ flat A, kl r.key key = true := fun r hr => by
  obtain ⟨a, ha, hr⟩ := List.mem_flatMap.mp hr
  exact h.lo a ha r hr
theorem Split.flatHi {S : Sto} {d : Nat} {key : List Int} {ks A B : List Kid} {k : Kid} (h : Split key ks A k B) (hn : ∀ k ∈ ks, Nd S d k.row k.es k.φ) : ∀ r ∈ flat B, kl key r.key = true := fun r hr => by
  obtain ⟨b, hb, hr⟩ := List.mem_flatMap.mp hr
  exact h.his hn b hb r hr
theorem flat3 (A : List Kid) (k : Kid) (B : List Kid) : flat (A ++ k :: B) = flat A ++ k.es ++ flat B := by simp [flat]
theorem splice_sep {A ms B : List Kid} {k : Kid} (hks : (A ++ k :: B).Pairwise Sep) (hlo : ∀ a ∈ A, ∀ m ∈ ms, Sep a m) (hhi : ∀ m ∈ ms, ∀ b ∈ B, Sep m b) (hms : ms.Pairwise Sep) : (A ++ ms ++ B).Pairwise Sep := by
  obtain ⟨p1, p2, p3⟩ := List.pairwise_append.mp hks
  refine List.pairwise_append.mpr ⟨List.pairwise_append.mpr ⟨p1, hms, hlo⟩, (List.pairwise_cons.mp p2).2, fun x hx b hb => ?_⟩
  rcases List.mem_append.mp hx with hx | hx
  · exact p3 x hx b (List.mem_cons_of_mem _ hb)
  · exact hhi x hx b hb
/-- the first key is the least -/
theorem heads_low {S : Sto} {d : Nat} {ms : List Kid} {es : List Row} (h : Mad S d ms es) {x : Kid} {rest : List Kid} (e : ms = x :: rest) : ∀ m ∈ ms, kl m.row.key x.row.key = false := fun m hm => by
  subst e
  rcases List.mem_cons.mp hm with rfl | hm
  · exact kl_irr _
  · have hx := (h.1 x List.mem_cons_self).2
    cases e3 : x.es with
    | nil => exact absurd e3 (Nd.ne hx)
    | cons y ys =>
      have hy : y ∈ x.es := by rw [e3]; exact List.mem_cons_self
      exact kl_asym (kl_le_lt (Nd.low hx y hy) (List.rel_of_pairwise_cons h.2.1 hm y hy))
theorem phis_append (A B : List Kid) : phis (A ++ B) = phis A + phis B := by simp [phis, List.sum_append]
theorem phis_cons (k : Kid) (B : List Kid) : phis (k :: B) = k.φ + phis B := by simp [phis]
theorem put_inner {S S1 S' : Sto} {d : Nat} {n p : Row} {φ : Nat} {ks A B ms : List Kid} {k : Kid} (x1 : Ext S S') (x2 : Ext S1 S')
    (hp : ∃ x rest, ks = x :: rest ∧ p.key = x.row.key) (h8 : ks.length ≤ 8) (hs : ks.Pairwise Sep) (hf : ∀ k ∈ ks, k.row.Fit ∧ Nd S d k.row k.es k.φ) (hphi : 4 ^ (d + 1) * (ks.length - 5) + phis ks ≤ φ)
    (sp : Split n.key ks A k B) (hm : PB S1 d n k.row k.es k.φ ms) {out : List Row} (hsv : Saved S' 2 ((A ++ ms ++ B).map (·.row)) out) : ∃ ms' : List Kid, ms'.map (·.row) = out ∧ PB S' (d + 1) n p (flat ks) φ ms' := by
  obtain ⟨⟨a1, a2, a3⟩, b1, b2, b3, b4⟩ := hm
  have hn : ∀ k ∈ ks, Nd S d k.row k.es k.φ := fun k hk => (hf k hk).2
  have hmem : k ∈ ks := by rw [sp.eq]; exact List.mem_append_right _ List.mem_cons_self
  have hks := hs
  rw [sp.eq] at hks
  obtain ⟨p1, p2, p3⟩ := List.pairwise_append.mp hks
  have hne : ∃ x rest, ms = x :: rest := by
    cases ms with
    | nil => exact absurd rfl b1
    | cons x r => exact ⟨x, r, rfl⟩
  obtain ⟨x, rest, ex⟩ := hne
  have hxk := b3 x.row (rest.map (·.row)) (by rw [ex]; rfl)
  have hR : (A ++ ms ++ B).Pairwise Sep := by
    refine splice_sep hks (fun a ha m hm r hr => ?_) (fun m hm b hb r hr => ?_) a2
    · have hl := heads_low (S := S1) (d := d) ⟨a1, a2, a3⟩ ex m hm
      refine kl_lt_le ?_ hl
      rcases hxk with e | e
      · rw [e]; exact sp.lok a ha r hr
      · rw [e]; exact sp.lo a ha r hr
    · have : r ∈ ins n k.es := by rw [← a3]; exact List.mem_flatMap.mpr ⟨m, hm, hr⟩
      rcases ins_mem this with rfl | h
      · exact sp.hi b hb
      · exact (List.pairwise_cons.mp p2).1 b hb r h
  have hRn : ∀ y ∈ A ++ ms ++ B, y.row.Fit ∧ Nd S' d y.row y.es y.φ := fun y hy => by
    rcases List.mem_append.mp hy with hy | hy
    · rcases List.mem_append.mp hy with hy | hy
      · have := hf y (by rw [sp.eq]; exact List.mem_append_left _ hy)
        exact ⟨this.1, Nd.ext x1 this.2⟩
      · exact ⟨(a1 y hy).1, Nd.ext x2 (a1 y hy).2⟩
    · have := hf y (by rw [sp.eq]; exact List.mem_append_right _ (List.mem_cons_of_mem _ hy))
      exact ⟨this.1, Nd.ext x1 this.2⟩
  obtain ⟨x0, rest0, e0, e0'⟩ := hp
  have hH : HeadK ((A ++ ms ++ B).map (·.row)) (fun key => key = p.key ∨ key = n.key) := fun y r ey => by
    cases hA : A with
    | nil =>
      rw [hA, ex] at ey
      cases ey
      have : x0 = k := by
        have := sp.eq
        rw [e0, hA] at this
        exact (List.cons.inj this).1
      rw [e0', this]
      exact hxk
    | cons a A' =>
      rw [hA] at ey
      cases ey
      have : x0 = a := by
        have := sp.eq
        rw [e0, hA] at this
        exact (List.cons.inj this).1
      rw [e0', this]
      exact .inl rfl
  obtain ⟨ms', m1, m2, m3, m4, m5, m6, m7⟩ := saved_inner hsv hR hRn hH
  have hfl : flat (A ++ ms ++ B) = ins n (flat ks) := by
    rw [flat_append, flat_append, a3, sp.eq, flat3, ins_mid sp.flatLo (sp.flatHi hn)]
  rw [hfl] at m2
  refine ⟨ms', m1, m2, m6 (by rw [ex]; simp), m5, by rw [m1]; exact m3, ?_⟩
  rw [phis_append, phis_append] at m4
  have hl : ks.length = A.length + 1 + B.length := by rw [sp.eq]; simp; omega
  have hl2 : (A ++ ms ++ B).length = A.length + ms.length + B.length := by simp; omega
  have hphk : phis ks = phis A + (k.φ + phis B) := by rw [sp.eq, phis_append, phis_cons]
  have hm1 : 1 ≤ ms.length := by rw [ex]; simp
  have key : 4 ^ (d + 1) * ((A ++ ms ++ B).length - 5) ≤ 4 ^ (d + 1) * (ks.length - 5) + 4 ^ (d + 1) * (ms.length - 1) := by
    rw [← Nat.mul_add]
    exact Nat.mul_le_mul_left _ (by omega)
  show phis ms' + 4 ^ (d + 2) * (ms'.length - 1) ≤ φ + 1
  omega
/-! ### removal -/
def RM (S : Sto) (d : Nat) (key : List Int) (p : Row) (es : List Row) (φ : Nat) (ms : List Kid) : Prop := Mad S d ms (del key es) ∧ ms.length ≤ 1 ∧ HeadK (ms.map (·.row)) (fun k => kl k p.key = false) ∧ phis ms ≤ φ
theorem remove_leaf {S S' : Sto} {key : List Int} {p : Row} {es : List Row} {φ : Nat} (h : Nd S 0 p es φ) {out : List Row} (hs : Saved S' 1 (del key es) out) : ∃ ms : List Kid, ms.map (·.row) = out ∧ RM S' 0 key p es φ ms := by
  have hlow := Nd.low h
  obtain ⟨⟨x, rest, e, e2⟩, h2, h3, h4, h5, h6⟩ := h
  have hl : (del key es).length ≤ es.length := List.length_filter_le _ _
  obtain ⟨ms, m1, m2, m3, m4, m5, m6, m7⟩ := saved_leaf hs (del_srt h3) (fun r hr => h4 r (del_mem hr).1) (P := fun k => kl k p.key = false) (fun y r ey => hlow y (del_mem (key := key) (by rw [ey]; exact List.mem_cons_self)).1)
  exact ⟨ms, m1, m2, m7 (by omega), by rw [m1]; exact m3, by omega⟩
theorem remove_inner {S S1 S' : Sto} {d : Nat} {key : List Int} {p : Row} {φ : Nat} {ks A B ms : List Kid} {k : Kid} (x1 : Ext S S') (x2 : Ext S1 S')
    (hp : ∃ x rest, ks = x :: rest ∧ p.key = x.row.key) (h8 : ks.length ≤ 8) (hs : ks.Pairwise Sep) (hf : ∀ k ∈ ks, k.row.Fit ∧ Nd S d k.row k.es k.φ) (hphi : 4 ^ (d + 1) * (ks.length - 5) + phis ks ≤ φ)
    (sp : Split key ks A k B) (hm : RM S1 d key k.row k.es k.φ ms) {out : List Row} (hsv : Saved S' 2 ((A ++ ms ++ B).map (·.row)) out) : ∃ ms' : List Kid, ms'.map (·.row) = out ∧ RM S' (d + 1) key p (flat ks) φ ms' := by
  obtain ⟨⟨a1, a2, a3⟩, b2, b3, b4⟩ := hm
  have hn : ∀ k ∈ ks, Nd S d k.row k.es k.φ := fun k hk => (hf k hk).2
  have hmem : k ∈ ks := by rw [sp.eq]; exact List.mem_append_right _ List.mem_cons_self
  have hks := hs
  rw [sp.eq] at hks
  obtain ⟨p1, p2, p3⟩ := List.pairwise_append.mp hks
  have hge : ∀ m ∈ ms, kl m.row.key k.row.key = false := fun m hm => by
    cases ms with
    | nil => simp at hm
    | cons x r =>
      have : r = [] := by
        rw [List.length_cons] at b2
        exact List.eq_nil_of_length_eq_zero (by omega)
      subst this
      rw [List.mem_singleton.mp hm]
      exact b3 x.row [] rfl
  have hR : (A ++ ms ++ B).Pairwise Sep := by
    refine splice_sep hks (fun a ha m hm r hr => kl_lt_le (sp.lok a ha r hr) (hge m hm)) (fun m hm b hb r hr => ?_) a2
    have : r ∈ del key k.es := by rw [← a3]; exact List.mem_flatMap.mpr ⟨m, hm, hr⟩
    exact (List.pairwise_cons.mp p2).1 b hb r (del_mem this).1
  have hRn : ∀ y ∈ A ++ ms ++ B, y.row.Fit ∧ Nd S' d y.row y.es y.φ := fun y hy => by
    rcases List.mem_append.mp hy with hy | hy
    · rcases List.mem_append.mp hy with hy | hy
      · have := hf y (by rw [sp.eq]; exact List.mem_append_left _ hy)
        exact ⟨this.1, Nd.ext x1 this.2⟩
      · exact ⟨(a1 y hy).1, Nd.ext x2 (a1 y hy).2⟩
    · have := hf y (by rw [sp.eq]; exact List.mem_append_right _ (List.mem_cons_of_mem _ hy))
      exact ⟨this.1, Nd.ext x1 this.2⟩
  obtain ⟨x0, rest0, e0, e0'⟩ := hp
  have hH : HeadK ((A ++ ms ++ B).map (·.row)) (fun z => kl z p.key = false) := fun y r ey => by
    cases hA : A with
    | nil =>
      have hx0 : x0 = k := by
        have := sp.eq
        rw [e0, hA] at this
        exact (List.cons.inj this).1
      rw [e0', hx0]
      rw [hA, List.nil_append] at ey
      cases hms : ms with
      | nil =>
        rw [hms, List.nil_append] at ey
        cases hB : B with
        | nil => rw [hB] at ey; cases ey
        | cons b B' =>
          rw [hB] at ey
          cases ey
          have hk2 := hn k hmem
          cases e3 : k.es with
          | nil => exact absurd e3 (Nd.ne hk2)
          | cons z zs =>
            have hz : z ∈ k.es := by rw [e3]; exact List.mem_cons_self
            exact kl_asym (kl_le_lt (Nd.low hk2 z hz) ((List.pairwise_cons.mp p2).1 b (by rw [hB]; exact List.mem_cons_self) z hz))
      | cons m ms2 =>
        rw [hms] at ey
        cases ey
        exact hge m (by rw [hms]; exact List.mem_cons_self)
    | cons a A' =>
      rw [hA] at ey
      cases ey
      have : x0 = a := by
        have := sp.eq
        rw [e0, hA] at this
        exact (List.cons.inj this).1
      rw [e0', this]
      exact kl_irr _
  obtain ⟨ms', m1, m2, m3, m4, m5, m6, m7⟩ := saved_inner hsv hR hRn hH
  have hfl : flat (A ++ ms ++ B) = del key (flat ks) := by
    rw [flat_append, flat_append, a3, sp.eq, flat3, del_mid (fun a ha => kl_ne (sp.flatLo a ha)) (fun b hb => Ne.symm (kl_ne (sp.flatHi hn b hb)))]
  rw [hfl] at m2
  have hl : ks.length = A.length + 1 + B.length := by rw [sp.eq]; simp; omega
  have hl2 : (A ++ ms ++ B).length = A.length + ms.length + B.length := by simp; omega
  refine ⟨ms', m1, m2, m7 (by omega), by rw [m1]; exact m3, ?_⟩
  rw [phis_append, phis_append] at m4
  have hphk : phis ks = phis A + (k.φ + phis B) := by rw [sp.eq, phis_append, phis_cons]
  have key : 4 ^ (d + 1) * ((A ++ ms ++ B).length - 5) ≤ 4 ^ (d + 1) * (ks.length - 5) := Nat.mul_le_mul_left _ (by omega)
  omega
theorem look_split {S : Sto} {d : Nat} {key : List Int} {ks A B : List Kid} {k : Kid} (h : Split key ks A k B) (hn : ∀ k ∈ ks, Nd S d k.row k.es k.φ) : look key (flat ks) = look key k.es := by
  rw [h.eq, flat3, look_mid (fun a ha => kl_ne (h.flatLo a ha)) (fun b hb => Ne.symm (kl_ne (h.flatHi hn b hb)))]
/-! ### roots -/
def FF : Nat → Nat
  | 0 => 0
  | d + 1 => FF d + 4 ^ (d + 1)
theorem FF_mono : ∀ {a b : Nat}, a ≤ b → FF a ≤ FF b
  | a, 0, h => by rw [Nat.le_zero.mp h]; exact Nat.le_refl _
  | a, b + 1, h => by
    rcases Nat.lt_or_ge b a with h2 | h2
    · rw [show a = b + 1 by omega]; exact Nat.le_refl _
    · exact Nat.le_trans (FF_mono h2) (Nat.le_add_right _ _)
theorem FF_bound {d φ Ψ : Nat} (h : φ + FF d ≤ Ψ) (hΨ : Ψ ≤ 5000) : d ≤ 5 := by
  refine Nat.not_lt.mp fun z => ?_
  have := FF_mono (a := 6) (b := d) z
  have e : FF 6 = 5460 := by decide
  omega
def TreeR (S : Sto) (ad ln : Int) (es : List Row) (Ψ : Nat) : Prop := (ad = 0 ∧ ln = 0 ∧ es = []) ∨ ∃ d key φ, Nd S d ⟨key, ad, ln⟩ es φ ∧ φ + FF d ≤ Ψ
theorem Nd.rec {S : Sto} {d : Nat} {p : Row} {es : List Row} {φ : Nat} (h : Nd S d p es φ) : 3 ≤ p.ln := by
  have : ∃ kd c, Rec S p.ad p.ln kd c := by
    cases d with
    | zero => exact ⟨_, _, h.2.2.2.2.1⟩
    | succ d => obtain ⟨ks, h1, h2, h3, h4, h5, h6⟩ := h; exact ⟨_, _, h5⟩
  obtain ⟨kd, c, h, _⟩ := this
  rw [mkrec_len] at h
  omega
theorem Nd.rekey {S : Sto} {d : Nat} {p : Row} {es : List Row} {φ : Nat} (h : Nd S d p es φ) : Nd S d ⟨p.key, p.ad, p.ln⟩ es φ := h
theorem TreeR.ext {S S' : Sto} {ad ln : Int} {es : List Row} {Ψ : Nat} (h : TreeR S ad ln es Ψ) (x : Ext S S') : TreeR S' ad ln es Ψ := by
  rcases h with h | ⟨d, key, φ, h1, h2⟩
  · exact .inl h
  · exact .inr ⟨d, key, φ, Nd.ext x h1, h2⟩
theorem TreeR.srt {S : Sto} {ad ln : Int} {es : List Row} {Ψ : Nat} (h : TreeR S ad ln es Ψ) : Srt es := by
  rcases h with ⟨_, _, rfl⟩ | ⟨d, key, φ, h1, h2⟩
  · exact List.Pairwise.nil
  · exact Nd.srt h1
theorem TreeR.fit {S : Sto} {ad ln : Int} {es : List Row} {Ψ : Nat} (h : TreeR S ad ln es Ψ) : ∀ r ∈ es, r.Fit := by
  rcases h with ⟨_, _, rfl⟩ | ⟨d, key, φ, h1, h2⟩
  · exact fun r hr => by simp at hr
  · exact Nd.fit h1
/-- the first put -/
theorem root_first {S' : Sto} {n : Row} (hn : n.Fit) {out : List Row} (hs : Saved S' 1 [n] out) : ∃ r, out = [r] ∧ r.Fit ∧ ∀ Ψ, TreeR S' r.ad r.ln (ins n []) (Ψ + 1) := by
  rcases hs with ⟨h, _⟩ | ⟨h1, h2, r, rfl, ⟨x, rest, e, e2⟩, h4, h5⟩ | ⟨h9, _⟩
  · cases h
  · cases e
    exact ⟨r, rfl, h4, fun Ψ => .inr ⟨0, n.key, 0, ⟨⟨n, [], rfl, rfl⟩, by simp [ins], List.pairwise_singleton _ _, fun r hr => by rw [List.mem_singleton.mp hr]; exact hn, h5, by simp [ins]⟩, by simp [FF]⟩⟩
  · simp at h9
/-- a root with one node below -/
theorem root_one {S' : Sto} {d : Nat} {n p : Row} {es : List Row} {φ Ψ : Nat} {ms : List Kid} (h : PB S' d n p es φ ms) (hΨ : φ + FF d ≤ Ψ) {r : Row} (e : ms.map (·.row) = [r]) : r.Fit ∧ TreeR S' r.ad r.ln (ins n es) (Ψ + 1) := by
  obtain ⟨⟨a1, a2, a3⟩, b1, b2, b3, b4⟩ := h
  match ms, e with
  | [m], e =>
    cases e
    have hm := a1 m List.mem_cons_self
    refine ⟨hm.1, .inr ⟨d, m.row.key, m.φ, ?_, ?_⟩⟩
    · rw [← a3]
      simpa [flat] using hm.2
    · have : phis [m] = m.φ := by simp [phis]
      rw [this] at b4
      omega
theorem root_two {S1 S' : Sto} {d : Nat} {n p : Row} {es : List Row} {φ Ψ : Nat} {ms : List Kid} (x : Ext S1 S') (h : PB S1 d n p es φ ms) (hΨ : φ + FF d ≤ Ψ) (h2 : ms.length = 2) {out : List Row} (hs : Saved S' 2 (ms.map (·.row)) out) :
    ∃ r, out = [r] ∧ r.Fit ∧ TreeR S' r.ad r.ln (ins n es) (Ψ + 1) := by
  obtain ⟨⟨a1, a2, a3⟩, b1, b2, b3, b4⟩ := h
  obtain ⟨ms', m1, m2, m3, m4, m5, m6, m7⟩ := saved_inner hs a2 (fun k hk => ⟨(a1 k hk).1, Nd.ext x (a1 k hk).2⟩) (P := fun _ => True) (fun _ _ _ => trivial)
  have hm7 := m7 (by omega)
  match ms', m6 b1, hm7, m1, m2, m4 with
  | [m], _, _, m1, m2, m4 =>
    have hm := m2.1 m List.mem_cons_self
    refine ⟨m.row, m1.symm, hm.1, .inr ⟨d + 1, m.row.key, m.φ, ?_, ?_⟩⟩
    · rw [← a3, ← m2.2.2]
      simpa [flat] using hm.2
    · have e1 : phis [m] = m.φ := by simp [phis]
      rw [e1, h2] at m4
      rw [h2] at b4
      show m.φ + (FF d + 4 ^ (d + 1)) ≤ Ψ + 1
      simp at m4 b4
      omega
  | _ :: _ :: _, _, hm7, _, _, _ => simp at hm7
/-- the counts of sorted keys -/
def r6 : List Int → Int
  | [] => 0
  | x :: xs => x * 6 ^ xs.length + r6 xs
theorem r6_bound : ∀ {a : List Int}, (∀ k ∈ a, 0 ≤ k ∧ k ≤ 5) → 0 ≤ r6 a ∧ r6 a < 6 ^ a.length
  | [], _ => by simp [r6]
  | x :: xs, h => by
    have ⟨i1, i2⟩ := r6_bound (a := xs) fun k hk => h k (List.mem_cons_of_mem _ hk)
    have hx := h x List.mem_cons_self
    have e : (6 : Int) ^ (xs.length + 1) = 6 * 6 ^ xs.length := by rw [Int.pow_succ, Int.mul_comm]
    have h0 : (0 : Int) ≤ x * 6 ^ xs.length := Int.mul_nonneg hx.1 (Int.le_trans i1 (Int.le_of_lt i2))
    have h5 : x * 6 ^ xs.length ≤ 5 * 6 ^ xs.length := Int.mul_le_mul_of_nonneg_right hx.2 (Int.le_trans i1 (Int.le_of_lt i2))
    simp only [r6, List.length_cons, e]
    omega
theorem r6_lt : ∀ {a b : List Int}, a.length = b.length → (∀ k ∈ a, 0 ≤ k ∧ k ≤ 5) → (∀ k ∈ b, 0 ≤ k ∧ k ≤ 5) → kl a b = true → r6 a < r6 b
  | [], [], _, _, _, h => by simp [kl] at h
  | x :: xs, y :: ys, hl, ha, hb, h => by
    simp only [List.length_cons] at hl
    have hl' : xs.length = ys.length := by omega
    have ⟨i1, i2⟩ := r6_bound (a := xs) fun k hk => ha k (List.mem_cons_of_mem _ hk)
    have ⟨j1, j2⟩ := r6_bound (a := ys) fun k hk => hb k (List.mem_cons_of_mem _ hk)
    simp only [kl] at h
    simp only [r6, hl']
    rw [hl'] at i2
    by_cases e : x = y
    · subst e
      rw [if_pos rfl] at h
      have := r6_lt hl' (fun k hk => ha k (List.mem_cons_of_mem _ hk)) (fun k hk => hb k (List.mem_cons_of_mem _ hk)) h
      omega
    · rw [if_neg e] at h
      have h := of_decide_eq_true h
      have : (x + 1) * 6 ^ ys.length ≤ y * 6 ^ ys.length := Int.mul_le_mul_of_nonneg_right (by omega) (Int.le_trans j1 (Int.le_of_lt j2))
      rw [Int.add_mul, Int.one_mul] at this
      omega
theorem asc_len : ∀ {l : List Int} {lo hi : Int}, l.Pairwise (· < ·) → (∀ x ∈ l, lo ≤ x ∧ x < hi) → lo ≤ hi → (l.length : Int) ≤ hi - lo
  | [], lo, hi, _, _, h => by simp; omega
  | x :: xs, lo, hi, h1, h2, h3 => by
    have hx := h2 x List.mem_cons_self
    have := asc_len (l := xs) (lo := x + 1) (hi := hi) (List.pairwise_cons.mp h1).2 (fun y hy => ⟨(List.pairwise_cons.mp h1).1 y hy, (h2 y (List.mem_cons_of_mem _ hy)).2⟩) (by omega)
    simp only [List.length_cons]
    omega
theorem srt_count {es : List Row} {D : Nat} (h : Srt es) (hf : ∀ r ∈ es, KFit r.key) (hD : ∀ r ∈ es, r.key.length = D) (h3 : D ≤ 3) : es.length ≤ 216 := by
  have h6 : (6 : Int) ^ D ≤ 216 := by
    have : D = 0 ∨ D = 1 ∨ D = 2 ∨ D = 3 := by omega
    rcases this with rfl | rfl | rfl | rfl <;> decide
  have := asc_len (l := es.map fun r => r6 r.key) (lo := 0) (hi := 6 ^ D) (List.pairwise_map.mpr (List.Pairwise.imp_of_mem (fun {a b} ha hb hab => r6_lt (by rw [hD a ha, hD b hb]) (hf a ha).2 (hf b hb).2 hab) h)) (fun x hx => by
    obtain ⟨r, hr, rfl⟩ := List.mem_map.mp hx
    have := r6_bound (hf r hr).2
    rw [hD r hr] at this
    exact this) (Int.pow_nonneg (by decide))
  rw [List.length_map] at this
  omega
end Tz
namespace Tz
open PySem PySem.Spec PyProof.Rows L2
/-! ### the file and the log -/
structure LA where
  lg : Addr
  dk : Addr
  cl : Addr
  wl : Addr
  d1 : Addr
  d2 : Addr
structure LogR (K : PySem.W.Frag) (H : Hp) (L : LA) (S : Sto) (n : Int) : Prop where
  hl : H L.lg = some (.ins (He.ga K "Log") L.d1 [("disk", .ref L.dk), ("waiting", .ref L.wl), ("sealed", .int n)])
  hd : H L.dk = some (.ins (He.ga K "Disk") L.d2 [("cells", .ref L.cl)])
  hc : H L.cl = some (.lst (iv S.fb))
  hw : H L.wl = some (.lst (iv S.wb))
  ne : L.cl ≠ L.wl
  hz : S.fb.length + S.wb.length ≤ 16700000
theorem LogR.keep {K : PySem.W.Frag} {H H' : Hp} {L : LA} {S : Sto} {n : Int} (h : LogR K H L S n) (s : Same H H') : LogR K H' L S n := ⟨s _ _ h.hl, s _ _ h.hd, s _ _ h.hc, s _ _ h.hw, h.ne, h.hz⟩
theorem ne_ins {H : Hp} {a b : Addr} {C d : Addr} {fs : List (Str × V)} {l : List V} (h : H a = some (.ins C d fs)) (h2 : H b = some (.lst l)) : a ≠ b := fun e => by rw [e, h2] at h; cases h
theorem LogR.wr {K : PySem.W.Frag} {H H' : Hp} {L : LA} {S : Sto} {n : Int} {wb : List Int} (h : LogR K H L S n) (s : SX L.wl H H') (hw : H' L.wl = some (.lst (iv wb))) (hz : S.fb.length + wb.length ≤ 16700000) : LogR K H' L ⟨S.fb, wb⟩ n :=
  ⟨s _ _ (ne_ins h.hl h.hw) h.hl, s _ _ (ne_ins h.hd h.hw) h.hd, s _ _ h.ne h.hc, hw, h.ne, hz⟩
theorem cut_has {bs xs : List Int} {i : Nat} (h : Has bs i xs) {n : Int} (hn : n = (xs.length : Int)) : cutV (iv bs) (some (i : Int)) (some ((i : Int) + n)) = iv xs := by
  have hl := h.len
  unfold cutV
  subst hn
  rw [show ((i : Int) + (xs.length : Int)) = ((i + xs.length : Nat) : Int) by push_cast; rfl, HT.sIx_nat, HT.sIx_nat, List.length_map, Nat.min_eq_left hl, Nat.min_eq_left (by omega), Nat.add_sub_cancel_left, ← List.map_drop, ← List.map_take, h.cut]
def spDlen (K : PySem.W.Frag) : Sp := fun vs H Q _ => ∃ (a d c : Addr) (xs : List V), vs = [.ref a] ∧ H a = some (.ins (He.ga K "Disk") d [("cells", .ref c)]) ∧ H c = some (.lst xs) ∧ Q (.int (xs.length : Int)) H
def spPart (K : PySem.W.Frag) : Sp := fun vs H Q _ => ∃ (a d c : Addr) (bs xs : List Int) (i : Nat) (n : Int), vs = [.ref a, .int i, .int n] ∧ H a = some (.ins (He.ga K "Disk") d [("cells", .ref c)]) ∧ H c = some (.lst (iv bs)) ∧ Has bs i xs ∧ n = (xs.length : Int) ∧ Out H Q (.lst (iv xs))
/-- append([v]) -/
def spDapp (K : PySem.W.Frag) : Sp := fun vs H Q _ => ∃ (a d c l : Addr) (bs xs : List V), vs = [.ref a, .ref l] ∧ H a = some (.ins (He.ga K "Disk") d [("cells", .ref c)]) ∧ H c = some (.lst bs) ∧ SqL K H l xs ∧ bs.length + xs.length ≤ sizeLine ∧
  ∀ H', SX c H H' → H' c = some (.lst (bs ++ xs)) → Q .non H'
/-- what reading a record gives: its content, or Damaged where the kind is another -/
def GetR (K : PySem.W.Frag) (H : Hp) (Q : VK) (E : XK) (kd kd' : Int) (c : List Int) : Prop := (kd = kd' → Out H Q (.lst (iv c))) ∧ (kd ≠ kd' → ∀ d fs H2, Same H H2 → H d = none → H2 d = some (.xd fs) → E (.ref (He.ga K "Damaged")) (some d) H2)
def spRrec (K : PySem.W.Frag) : Sp := fun vs H Q E => ∃ (a d cl : Addr) (p : V) (bs c : List Int) (kd kd' : Int) (i : Nat) (n : Int), vs = [.ref a, .int kd, p] ∧ H a = some (.ins (He.ga K "Disk") d [("cells", .ref cl)]) ∧ H cl = some (.lst (iv bs)) ∧ TupI K H p [(i : Int), n] ∧
  Has bs i (mkrec kd' c) ∧ n = ((mkrec kd' c).length : Int) ∧ Low (mkrec kd' c) ∧ GetR K H Q E kd kd' c
def spFetch (K : PySem.W.Frag) : Sp := fun vs H Q E => ∃ (L : LA) (S : Sto) (z : Int) (p : V) (kd kd' ad ln : Int) (c : List Int), vs = [.ref L.lg, .int kd, p] ∧ LogR K H L S z ∧ TupI K H p [ad, ln] ∧ Rec S ad ln kd' c ∧ GetR K H Q E kd kd' c
def spLput (K : PySem.W.Frag) : Sp := fun vs H Q _ => ∃ (L : LA) (S : Sto) (z : Int) (kd : Int) (a : Addr) (c : List Int), vs = [.ref L.lg, .int kd, .ref a] ∧ LogR K H L S z ∧ SqL K H a (iv c) ∧ c.length ≤ 1000000 ∧ S.fb.length + S.wb.length + c.length + 3 ≤ 16700000 ∧
  ∀ (t : Addr) (H' : Hp), SX L.wl H H' → H t = none → H' L.wl = some (.lst (iv (S.wb ++ mkrec kd c))) → H' t = some (.tup (iv [((S.fb.length + S.wb.length : Nat) : Int), ((mkrec kd c).length : Int)])) → Q (.ref t) H'
section
variable {P : Program} {w : World} {K : PySem.W.Frag} {mg : Str → Option Value} {base : Heap}
theorem sc_dlen : FnScope ["self"] ["self"] (defScope (inClass (top 109) 1)) := ⟨rfl, rfl, rfl, by decide +kernel, rfl, by decide +kernel, by decide +kernel⟩
theorem m_dlen (T : Tx K mg) : C8.Met P w K mg base 1 (He.ga K "Disk") "__len__" (spDlen K) [] := by
  refine met_of T.f_Disk_len T.c_Disk (fun _ _ _ _ _ _ us hl => match us, hl with | [_], _ => rfl) sc_dlen (fun vs H Q E h => ?_) (fun f cdv A outer s H vs Q E hr h => ?_)
  · obtain ⟨a, d, c, xs, rfl, _⟩ := h
    rfl
  · obtain ⟨a, d, c, xs, rfl, ha, hc, k⟩ := h
    refine ⟨_, pss_one (ps_ret (pe_callB call_len (by rfl) T.n_len PySem.boot_len (pa_cons (pe_fld (pv 0) rfl) pa_nil))), ?_⟩
    exact ⟨_, rfl, a, _, d, _, _, rfl, ha, T.c_Disk, T.a_Disk_cells, rfl, _, _, rfl, .inl ⟨_, SqL.of hc, rfl⟩, k⟩
/-- len(disk) -/
def rDlen (K : PySem.W.Frag) : List V → Hp → VK → Prop := fun vs H Q => ∃ (a d c : Addr) (xs : List V), vs = [.ref a] ∧ H a = some (.ins (He.ga K "Disk") d [("cells", .ref c)]) ∧ H c = some (.lst xs) ∧ xs.length ≤ sizeLine ∧ Q (.int (xs.length : Int)) H
theorem cr_dlen {X : Cx} (T : Tx X.K X.mg) {j : Nat} (hr : Room j X.A) (hj : 2 ≤ j) : CallR X (.builtin "len") (rDlen X.K) := by
  obtain ⟨f, fd, ps, ds, hc, hm, F, b, d⟩ := (m_dlen (P := X.prog) (w := X.w) (base := X.base) T).ex
  cases d
  intro pins s σ H xs us Q I r h
  refine call_lenO hc hm F (hr.mono hj) b pins s σ H xs us Q I r ?_
  obtain ⟨a, d, c, ys, rfl, h1, h2, h3, h4⟩ := h
  refine ⟨a, d, _, rfl, h1, a, d, c, ys, rfl, h1, h2, ys.length, rfl, ?_, h4⟩
  rw [sizeLine_eq] at h3
  omega
theorem sc_part : FnScope ["self", "address", "count"] ["self", "address", "count"] (defScope (inClass (top 109) 2)) := ⟨rfl, rfl, rfl, by decide +kernel, rfl, by decide +kernel, by decide +kernel⟩
theorem m_part (T : Tx K mg) : C8.Met P w K mg base 1 (He.ga K "Disk") "part" (spPart K) [] := by
  refine met_of T.f_Disk_part T.c_Disk (fun _ _ _ _ _ _ us hl => match us, hl with | [_, _, _], _ => rfl) sc_part (fun vs H Q E h => ?_) (fun f cdv A outer s H vs Q E hr h => ?_)
  · obtain ⟨a, d, c, bs, xs, i, n, rfl, _⟩ := h
    rfl
  · obtain ⟨a, d, c, bs, xs, i, n, rfl, ha, hc, hx, hn, k⟩ := h
    refine ⟨_, pss_one (ps_ret (pe_slice sl_list (pe_fld (pv 0) rfl) (po_some (pv 1)) (po_some (pe_op op_add (pv 1) (pv 2))))), ?_⟩
    refine ⟨_, rfl, a, _, d, _, _, rfl, ha, T.c_Disk, T.a_Disk_cells, rfl, _, rfl, (i : Int), rfl, _, rfl, _, rfl, (i : Int), n, rfl, rfl, (i : Int) + n, rfl, c, _, rfl, SqL.of hc, fun p hp => ?_⟩
    rw [cut_has hx hn]
    exact k p _ hp (same_upd0 hp) upd_same
theorem sc_rrec : FnScope ["disk", "kind", "pointer", "address", "length", "values", "content"] ["disk", "kind", "pointer"] (defScope (top 57)) := ⟨rfl, rfl, rfl, by decide +kernel, rfl, by decide +kernel, by decide +kernel⟩
theorem x_rrec (T : Ty P w K mg) : ∃ fd, FnOk P w K mg base (L2.CX P w) 3 (He.ga K "read_record") fd ["disk", "kind", "pointer"] (spRrec K) ∧ L2.Binds K fd ["disk", "kind", "pointer"] [] := by
  obtain ⟨hm, fd, F⟩ := T.f_read_record
  refine ⟨fd, ?_, F.bindsN (fun _ _ _ _ _ _ us hl => match us, hl with | [_, _, _], _ => rfl)⟩
  refine FunD.ok F sc_rrec (fun vs H Q E h => ?_) fun cdv A outer s H vs Q E hr h => ?_
  · obtain ⟨a, d, cl, p, bs, c, kd, kd', i, n, rfl, _⟩ := h
    rfl
  · obtain ⟨a, d, cl, p, bs, c, kd, kd', i, n, rfl, ha, hc, ⟨pa, rfl, hp⟩, hx, hn, hlow, hg1, hg2⟩ := h
    obtain ⟨cc, dam⟩ := T.dam
    have nd := sc_rrec.nd
    refine ⟨_, pss_cons (ps_asg (pv 2) (pg_tup (by rfl) (pgs_cons (pg_name (i := 3) nd rfl (.inl rfl)) (pgs_cons (pg_name (i := 4) nd rfl (.inl rfl)) pgs_nil))))
      (pss_cons (ps_set (i := 5) nd rfl (.inl rfl) (C8.pe_mt (m_part T.toTx) hr (by decide) (pv 0) (pa_cons (pv 3) (pa_cons (pv 4) pa_nil))))
      (pss_cons (ps_set (i := 6) nd rfl (.inl rfl) pe_non)
      (pss_cons (ps_if (pt_cmpR op_eq (pe_callB call_len (by rfl) T.n_len PySem.boot_len (pa_cons (pv 5) pa_nil)) (pv 4) (nomark _))
        (pss_one (ps_set (i := 6) nd rfl (.inl rfl) (C8.pe_c (c_co T.toTx) hr (by decide) rfl (pa_cons (pv 1) (pa_cons (pv 5) pa_nil))))) pss_nil)
      (pss_cons (ps_if (pt_cmp (pc_isN (pv 6))) (pss_one (ps_raise rfl (takes_of rfl rfl rfl rfl) (pmk_dam dam (hr.mono (by decide)) rfl (pa_cons (pv 3) (pa_cons (pv 4) pa_nil))))) pss_nil)
      (pss_one (ps_ret (pv 6))))))), ?_⟩
    refine ⟨_, rfl, pa, _, rfl, hp, rfl, _, _, rfl, _, _, rfl, rfl, ?_⟩
    refine ⟨_, rfl, a, d, _, rfl, ha, rfl, _, rfl, _, rfl, a, d, cl, bs, _, i, n, rfl, ha, hc, hx, hn, fun l H1 hl hs hL => ?_⟩
    refine ⟨_, rfl, _, _, rfl, .inl ⟨_, SqL.of hL, rfl⟩, _, rfl, rfl, _, rfl, ?_⟩
    refine iteK (by rw [hn]; simp) ?_
    refine ⟨_, rfl, _, rfl, l, kd, kd', c, rfl, SqL.of hL, hlow, fun hk l2 H2 hl2 hs2 hL2 => ?_, fun hk => ?_⟩
    · refine ⟨_, rfl, _, rfl, ?_⟩
      refine iteKF (by simp) ?_
      exact ⟨_, rfl, hg1 hk l2 H2 (hs.free hl2) (hs.trans hs2) hL2⟩
    · refine ⟨_, rfl, _, rfl, ?_⟩
      refine iteK (by simp) ?_
      refine mk_dam (fun {A B} h hm => ?_) ?_
      · obtain ⟨x, hx, y, hy, h⟩ := h
        exact ⟨x, hx, y, hy, hm _ _ h⟩
      · exact ⟨_, rfl, _, rfl, _, _, rfl, fun d2 fs H2 hs2 hd2 hf2 => hg2 hk d2 fs H2 (hs.trans hs2) (hs.free hd2) hf2⟩
theorem sc_dapp : FnScope ["self", "values"] ["self", "values"] (defScope (inClass (top 109) 3)) := ⟨rfl, rfl, rfl, by decide +kernel, rfl, by decide +kernel, by decide +kernel⟩
theorem m_dapp (T : Tx K mg) : C8.Met P w K mg base 1 (He.ga K "Disk") "append" (spDapp K) [] := by
  refine met_of T.f_Disk_append T.c_Disk (fun _ _ _ _ _ _ us hl => match us, hl with | [_, _], _ => rfl) sc_dapp (fun vs H Q E h => ?_) (fun f cdv A outer s H vs Q E hr h => ?_)
  · obtain ⟨a, d, c, l, bs, xs, rfl, _⟩ := h
    rfl
  · obtain ⟨a, d, c, l, bs, xs, rfl, ha, hc, hl, hz, k⟩ := h
    refine ⟨_, pss_one (ps_expr (pe_bm PySem.F.plainAttrs_list PySem.F.slot_list_extend PySem.F.type_list_extend mt_extend (pe_fld (pv 0) rfl) (pa_cons (pe_callTy call_list_of (by rfl) T.n_list (by decide +kernel) (pa_cons (pv 1) pa_nil)) pa_nil))), ?_⟩
    refine ⟨_, rfl, a, _, d, _, _, rfl, ha, T.c_Disk, T.a_Disk_cells, rfl, .inl ⟨rfl, _, SqL.of hc⟩, _, rfl, l, _, rfl, .inl hl, fun p hp => ?_⟩
    have hcp : c ≠ p := fun e => by rw [← e, hc] at hp; cases hp
    refine ⟨c, p, bs, xs, rfl, rfl, by rw [upd_ne hcp]; exact hc, upd_same, hz, ?_⟩
    refine k _ (fun b o hb hB => ?_) upd_same
    have hbp : b ≠ p := fun e => by rw [e, hp] at hB; cases hB
    rw [upd_ne hb, upd_ne hbp]
    exact hB
theorem sc_lput : FnScope ["self", "kind", "content", "record", "address"] ["self", "kind", "content"] (defScope (inClass (top 120) 3)) := ⟨rfl, rfl, rfl, by decide +kernel, rfl, by decide +kernel, by decide +kernel⟩
theorem m_lput (T : Tx K mg) : C8.Met P w K mg base 4 (He.ga K "Log") "put" (spLput K) [] := by
  refine met_of T.f_Log_put T.c_Log (fun _ _ _ _ _ _ us hl => match us, hl with | [_, _, _], _ => rfl) sc_lput (fun vs H Q E h => ?_) (fun f cdv A outer s H vs Q E hr h => ?_)
  · obtain ⟨L, S, z, kd, a, c, rfl, _⟩ := h
    rfl
  · obtain ⟨L, S, z, kd, a, c, rfl, hL, ha, hz, hb, k⟩ := h
    have nd := sc_lput.nd
    refine ⟨_, pss_cons (ps_set (i := 3) nd rfl (.inl rfl) (C8.pe_c (c_mr T) hr (by decide) rfl (pa_cons (pv 1) (pa_cons (pv 2) pa_nil))))
      (pss_cons (ps_set (i := 4) nd rfl (.inl rfl) (pe_op op_add (pe_callB (cr_dlen T hr (by decide)) (by rfl) T.n_len PySem.boot_len (pa_cons (pe_fld (pv 0) rfl) pa_nil)) (pe_callB call_len (by rfl) T.n_len PySem.boot_len (pa_cons (pe_fld (pv 0) rfl) pa_nil))))
      (pss_cons (ps_expr (pe_bm PySem.F.plainAttrs_list PySem.F.slot_list_extend PySem.F.type_list_extend mt_extend (pe_fld (pv 0) rfl) (pa_cons (pv 3) pa_nil)))
      (pss_one (ps_ret (pe_tup (pa_cons (pv 4) (pa_cons (pe_callB call_len (by rfl) T.n_len PySem.boot_len (pa_cons (pv 3) pa_nil)) pa_nil))))))), ?_⟩
    refine ⟨_, rfl, _, rfl, a, kd, c, rfl, ha, hz, fun r H1 hr1 hs hR => ?_⟩
    have h1 := hL.keep hs
    refine ⟨_, rfl, L.lg, _, L.d1, _, _, rfl, h1.hl, T.c_Log, T.a_Log_disk, rfl, L.dk, L.d2, L.cl, _, rfl, h1.hd, h1.hc, by rw [List.length_map, sizeLine_eq]; omega, ?_⟩
    refine ⟨_, rfl, L.lg, _, L.d1, _, _, rfl, h1.hl, T.c_Log, T.a_Log_waiting, rfl, _, _, rfl, .inl ⟨_, SqL.of h1.hw, rfl⟩, _, _, rfl, rfl, ?_⟩
    refine ⟨_, rfl, L.lg, _, L.d1, _, _, rfl, h1.hl, T.c_Log, T.a_Log_waiting, rfl, .inl ⟨rfl, _, SqL.of h1.hw⟩, _, rfl, L.wl, r, _, _, rfl, rfl, h1.hw, hR, ?_, ?_⟩
    · rw [List.length_map, List.length_map, mkrec_len, sizeLine_eq]; omega
    have hrw : r ≠ L.wl := fun e => by rw [e, hL.hw] at hr1; cases hr1
    refine ⟨_, rfl, _, rfl, _, _, rfl, .inl ⟨_, SqL.of (by rw [upd_ne hrw]; exact hR), rfl⟩, (by show 2 ≤ sizeLine; decide), fun t ht => ?_⟩
    have htw : L.wl ≠ t := fun e => by rw [← e, upd_same] at ht; cases ht
    have ht1 : H1 t = none := by rw [upd_ne (Ne.symm htw)] at ht; exact ht
    refine k t _ (fun b o hb hB => ?_) (hs.free ht1) ?_ ?_
    · have hbt : b ≠ t := fun e => by rw [e, hs.free ht1] at hB; cases hB
      rw [upd_ne hbt, upd_ne hb]
      exact hs _ _ hB
    · rw [upd_ne htw, upd_same]
      simp
    · rw [upd_same]
      simp
theorem sc_fetch : FnScope ["self", "kind", "pointer", "address", "length", "start", "content"] ["self", "kind", "pointer"] (defScope (inClass (top 120) 4)) := ⟨rfl, rfl, rfl, by decide +kernel, rfl, by decide +kernel, by decide +kernel⟩
theorem x_fetch (T : Ty P w K mg) : ∃ fd, FnOk P w K mg base (L2.CX P w) 4 (He.ma K (He.ga K "Log") "fetch") fd ["self", "kind", "pointer"] (spFetch K) ∧ L2.Binds K fd ["self", "kind", "pointer"] [] := by
  obtain ⟨hm, fd, F⟩ := T.f_Log_fetch
  obtain ⟨hmR, fdr, FR⟩ := T.f_read_record
  obtain ⟨fd2, G, GB⟩ := x_rrec (base := base) T
  refine ⟨fd, ?_, F.bindsN (fun _ _ _ _ _ _ us hl => match us, hl with | [_, _, _], _ => rfl)⟩
  refine FunD.ok F sc_fetch (fun vs H Q E h => ?_) fun cdv A outer s H vs Q E hr h => ?_
  · obtain ⟨L, S, z, p, kd, kd', ad, ln, c, rfl, _⟩ := h
    rfl
  · obtain ⟨L, S, z, p, kd, kd', ad, ln, c, rfl, hL, ⟨pa, rfl, hp⟩, ⟨hln, hlow, i, hrec⟩, hg1, hg2⟩ := h
    obtain ⟨cc, dam⟩ := T.dam
    have nd := sc_fetch.nd
    refine ⟨_, pss_cons (ps_asg (pv 2) (pg_tup (by rfl) (pgs_cons (pg_name (i := 3) nd rfl (.inl rfl)) (pgs_cons (pg_name (i := 4) nd rfl (.inl rfl)) pgs_nil))))
      (pss_cons (ps_set (i := 5) nd rfl (.inl rfl) (pe_op op_sub (pv 3) (pe_callB (cr_dlen T.toTx hr (by decide)) (by rfl) T.n_len PySem.boot_len (pa_cons (pe_fld (pv 0) rfl) pa_nil))))
      (pss_cons (ps_if (pt_cmpR op_lt (pv 5) pe_int (nomark _)) (pss_one (ps_ret (pe_callS G hr rfl hmR FR.kp GB (fun σ => passAt (takes_of rfl rfl rfl rfl) σ) (pa_cons (pe_fld (pv 0) rfl) (pa_cons (pv 1) (pa_cons (pv 2) pa_nil)))))) pss_nil)
      (pss_cons (ps_set (i := 6) nd rfl (.inl rfl) (C8.pe_c (c_co T.toTx) hr (by decide) rfl (pa_cons (pv 1) (pa_cons (pe_slice sl_list (pe_fld (pv 0) rfl) (po_some (pv 5)) (po_some (pe_op op_add (pv 5) (pv 4)))) pa_nil))))
      (pss_cons (ps_if (PW.pt (pw_or (pt_cmp (pc_isN (pv 6))) (pw_or1 (pt_cmpR op_gt (pe_op op_add (pv 5) (pv 4)) (pe_callB call_len (by rfl) T.n_len PySem.boot_len (pa_cons (pe_fld (pv 0) rfl) pa_nil)) (nomark _)))))
        (pss_one (ps_raise rfl (takes_of rfl rfl rfl rfl) (pmk_dam dam (hr.mono (by decide)) rfl (pa_cons (pv 3) (pa_cons (pv 4) pa_nil))))) pss_nil)
      (pss_one (ps_ret (pv 6))))))), ?_⟩
    have hwl := hL.hw
    have hclz : (iv S.fb).length ≤ sizeLine := by have := hL.hz; rw [List.length_map, sizeLine_eq]; omega
    refine ⟨_, rfl, pa, _, rfl, hp, rfl, _, _, rfl, _, _, rfl, rfl, ?_⟩
    refine ⟨_, rfl, _, rfl, L.lg, _, L.d1, _, _, rfl, hL.hl, T.c_Log, T.a_Log_disk, rfl, L.dk, L.d2, L.cl, _, rfl, hL.hd, hL.hc, hclz, _, _, rfl, rfl, ?_⟩
    refine ⟨_, rfl, _, 0, rfl, rfl, _, rfl, ?_⟩
    rcases hrec with ⟨rfl, hx⟩ | ⟨rfl, hx⟩
    · have hlx := hx.len
      have hpos : 0 < (mkrec kd' c).length := by rw [mkrec_len]; omega
      refine iteK (by simp; omega) ?_
      refine ⟨_, rfl, L.lg, _, L.d1, _, _, rfl, hL.hl, T.c_Log, T.a_Log_disk, rfl, _, rfl, _, rfl, ?_⟩
      exact ⟨L.dk, L.d2, L.cl, .ref pa, S.fb, c, kd, kd', i, ln, rfl, hL.hd, hL.hc, ⟨pa, rfl, hp⟩, hx, hln, hlow, hg1, fun hk d fs H2 s2 hd2 hf2 => hg2 hk d fs H2 s2 hd2 hf2⟩
    · have hlx := hx.len
      refine iteKF (by rw [decide_eq_false_iff_not, List.length_map]; omega) ?_
      have e0 : (((S.fb.length + i : Nat) : Int) - ((iv S.fb).length : Int)) = (i : Int) := by rw [List.length_map]; omega
      have h5 := congrArg (fun v => some (some (V.int v))) e0
      refine ⟨_, rfl, _, rfl, L.lg, _, L.d1, _, _, rfl, hL.hl, T.c_Log, T.a_Log_waiting, rfl, .int (i : Int), h5, (i : Int), rfl, .int (i : Int), h5, _, rfl, (i : Int), ln, rfl, rfl, (i : Int) + ln, rfl, L.wl, _, rfl, SqL.of hL.hw, fun q hq => ?_⟩
      rw [cut_has hx hln]
      refine ⟨q, kd, kd', c, rfl, SqL.of upd_same, hlow, fun hk l2 H2 hl2 hs2 hL2 => ?_, fun hk => ?_⟩
      · refine ⟨_, rfl, _, rfl, ?_⟩
        refine iteKF (by simp) ?_
        have hs3 : Same H H2 := (same_upd0 hq).trans hs2
        have hL3 := hL.keep hs3
        refine ⟨.int (i : Int), h5, _, rfl, (i : Int), ln, rfl, rfl, _, rfl, L.lg, _, L.d1, _, _, rfl, hL3.hl, T.c_Log, T.a_Log_waiting, rfl, _, _, rfl, .inl ⟨_, SqL.of hL3.hw, rfl⟩, _, _, rfl, rfl, _, rfl, ?_⟩
        refine iteKF (by rw [hln]; simp; omega) ?_
        exact ⟨_, rfl, hg1 hk l2 H2 ((same_upd0 hq).free hl2) hs3 hL2⟩
      · refine ⟨_, rfl, _, rfl, ?_⟩
        refine iteK (by simp) ?_
        refine iteK rfl ?_
        refine mk_dam (fun {A B} h hm => ?_) ?_
        · obtain ⟨x, hx, y, hy, h⟩ := h
          exact ⟨x, hx, y, hy, hm _ _ h⟩
        · exact ⟨_, rfl, _, rfl, _, _, rfl, fun d2 fs H2 hs2 hd2 hf2 => hg2 hk d2 fs H2 ((same_upd0 hq).trans hs2) ((same_upd0 hq).free hd2) hf2⟩
end
end Tz
namespace Tz
open PySem PySem.Spec PyProof.Rows L2
/-- rows that stand in a new list -/
abbrev OutRows (K : PySem.W.Frag) (H : Hp) (Q : VK) (rs : List Row) : Prop := ∀ (l : Addr) (us : List V) (H' : Hp), H l = none → Same H H' → H' l = some (.lst us) → RowsV K H' us rs → Q (.ref l) H'
def spLoadN (K : PySem.W.Frag) : Sp := fun vs H Q _ => ∃ (L : LA) (S : Sto) (z : Int) (p : V) (ad ln kd : Int) (rs : List Row), vs = [.ref L.lg, p] ∧ LogR K H L S z ∧ TupI K H p [ad, ln] ∧ Rec S ad ln kd (wnode rs) ∧ (kd = 1 ∨ kd = 2) ∧ 1 ≤ rs.length ∧ rs.length ≤ 8 ∧ (∀ r ∈ rs, r.Ok) ∧
  ∀ t l us H', Same H H' → H' t = some (.tup [.bl (decide (kd = 1)), .ref l]) → H' l = some (.lst us) → RowsV K H' us rs → Q (.ref t) H'
section
variable {P : Program} {w : World} {K : PySem.W.Frag} {mg : Str → Option Value} {base : Heap}
theorem sc_loadn : FnScope ["log", "pointer", "kind", "rows"] ["log", "pointer"] (defScope (top 73)) := ⟨rfl, rfl, rfl, by decide +kernel, rfl, by decide +kernel, by decide +kernel⟩
theorem c_loadn (T : Ty P w K mg) : C8.Cal P w K mg base 6 "load_node" (spLoadN K) [] := by
  refine cal_of T.f_load_node (fun _ _ _ _ _ _ us hl => match us, hl with | [_, _], _ => rfl) sc_loadn (fun vs H Q E h => ?_) (fun f cdv A outer s H vs Q E hr h => ?_)
  · obtain ⟨L, S, z, p, ad, ln, kd, rs, rfl, _⟩ := h
    rfl
  · obtain ⟨L, S, z, p, ad, ln, kd, rs, rfl, hL, hp, hrec, hkd, hz1, hz8, hok, k⟩ := h
    obtain ⟨fd, G, GB⟩ := x_fetch (base := base) T
    have nd := sc_loadn.nd
    refine ⟨_, pss_cons (ps_for PassesOwn.never rfl (pi_tup (pe_tup (pa_cons (pe_gi (by rfl) T.i_LEAF) (pa_cons (pe_gi (by rfl) T.i_INNER) pa_nil)))) (pg_name (i := 2) nd rfl (.inl rfl))
        (pss_cons (ps_try_only rfl rfl ⟨rfl, by decide, .inl T.g_Damaged⟩ takes0 (fun W pn xe tk _ => pss_one (ps_set (i := 3) nd rfl (.inl rfl) (C8.pe_c (c_rnode T.toTx) hr (by decide) rfl (pa_cons
            (pe_methT (pv 0) T.c_Log T.f_Log_fetch.1 G (hr.mono (by decide)) GB (fun σ => passAt tk σ) (pa_cons (pv 2) (pa_cons (pv 1) pa_nil))) pa_nil))))
          (fun a oe cls d pn _ _ => pss_one ps_continue))
        (pss_one (ps_if (pt_cmp (pc_notN (pv 3))) (pss_one (ps_ret (pe_tup (pa_cons (pe_cmpR op_eq (pv 2) (pe_gi (by rfl) T.i_LEAF) (nomark _)) (pa_cons (pv 3) pa_nil))))) pss_nil))))
      (pss_one ps_never), ?_⟩
    refine ⟨(by show 2 ≤ sizeLine; decide), fun q hq => ?_⟩
    refine ⟨q, rfl, ⟨_, SqT.of upd_same⟩, for_tup (K := K) (a := q) (xs := iv [1, 2]) (fun i σ H' => Same H H' ∧ SqT K H' q (iv [1, 2]) ∧ (i = 1 → kd = 2) ∧ (i = 2 → False) ∧ ∃ y y2, σ = [some (.ref L.lg), some p, y, y2])
      ⟨same_upd0 hq, SqT.of upd_same, fun e => by omega, fun e => by omega, none, none, rfl⟩ (fun i σ H' _ h => h.2.1) ?_ ?_⟩
    · rintro i x σ H' hx ⟨hs, hq1, hi1, hi2, y, y2, rfl⟩
      have hL' := hL.keep hs
      obtain ⟨n, hn, rfl⟩ := iv_get hx
      have hni : n = (i : Int) + 1 ∧ i < 2 := by
        match i, hn with
        | 0, hn => cases hn; exact ⟨rfl, by omega⟩
        | 1, hn => cases hn; exact ⟨rfl, by omega⟩
        | j + 2, hn => cases hn
      refine ⟨_, rfl, L.lg, L.d1, _, rfl, hL'.hl, rfl, _, rfl, _, rfl, L, S, z, p, n, kd, ad, ln, wnode rs, rfl, hL', hp.keep hs, hrec, fun hk l H2 hl hs2 hL2 => ?_, fun hk d fs H2 hs2 hd2 hf2 => ?_⟩
      · refine ⟨l, rs, rfl, SqL.of hL2, hz1, hz8, hok, fun l3 us H3 hs3 hl3 hL3 hU3 => ?_⟩
        refine ⟨_, rfl, _, rfl, ?_⟩
        refine iteK (by simp) ?_
        refine ⟨_, rfl, rfl, _, rfl, (by show 2 ≤ sizeLine; decide), fun t ht => ?_⟩
        have hs4 : Same H H3 := (hs.trans hs2).trans hs3
        have hlt : l3 ≠ t := fun e => by rw [← e, hL3] at ht; cases ht
        refine k t l3 us _ (same_updD hs4 (hs4.free ht)) ?_ (by rw [upd_ne hlt]; exact hL3) (hU3.keep (same_upd0 ht))
        rw [upd_same, hk]
        by_cases h1 : kd = 1
        · subst h1; rfl
        · have e1 : decide (V.int kd = V.int 1) = false := decide_eq_false fun e => h1 (V.int.inj e)
          have e2 : decide (kd = 1) = false := decide_eq_false h1
          rw [e1, e2]
      · have hiu : i + 1 = 1 → kd = 2 := fun e => by
          rcases hkd with rfl | rfl
          · omega
          · rfl
        refine ⟨true, T.exm, fun _ a ha => ⟨hs.trans hs2, Same.sqT hs2 hq1, hiu, fun e => ?_, some (.int n), y2, rfl⟩, fun e => by cases e⟩
        have := hi1 (by omega)
        omega
    · rintro σ H' ⟨hs, hq1, hi1, hi2, y, y2, rfl⟩
      exact (hi2 rfl).elim
end
end Tz
namespace Tz
open PySem PySem.Spec PyProof.Rows L2
theorem kl_lex : ∀ a b : List Int, HT.lexLt a b = kl a b
  | [], [] => rfl
  | [], _ :: _ => rfl
  | _ :: _, [] => rfl
  | x :: xs, y :: ys => by
    show (if x = y then HT.lexLt xs ys else decide (x < y)) = if x = y then kl xs ys else decide (x < y)
    rw [kl_lex xs ys]
theorem KFit.sml {key : List Int} (h : KFit key) : Sml key := ⟨fun k hk => by have := h.2 k hk; omega, by have := h.1; omega⟩
theorem Row.Fit.ok {r : Row} (h : r.Fit) : r.Ok := by
  obtain ⟨h1, h2, h3, h4, h5⟩ := h
  exact ⟨h1.sml, by have := h1.1; omega, h2, by unfold Big; omega, h4, by unfold Big; omega⟩
theorem wint_len1 {k : Int} (h : 0 ≤ k ∧ k ≤ 5) : (wint k).length = 1 := by
  unfold wint
  rw [if_neg (by omega)]
  exact wnum_len1 (by omega) (by omega)
theorem wrow_fit {r : Row} (h : r.Fit) : (wrow r).length ≤ 12 := by
  obtain ⟨⟨h1, h1'⟩, h2, h3, h4, h5⟩ := h
  unfold wrow wints
  have e1 := wnum_len 0 (n := (r.key.length : Int)) (by omega) (by simp; omega)
  have e2 := flat_le (f := wint) (c := 1) (l := r.key) fun x hx => Nat.le_of_eq (wint_len1 (h1' x hx))
  have e3 := wnum_len 3 h2 (by simp; omega)
  have e4 := wnum_len 3 h4 (by simp; omega)
  simp only [List.length_append]
  omega
theorem wnode_fit {rs : List Row} (h8 : rs.length ≤ 8) (h : ∀ r ∈ rs, r.Fit) : (wnode rs).length ≤ 97 := by
  unfold wnode
  have e1 := wnum_len 0 (n := (rs.length : Int)) (by omega) (by simp; omega)
  have e2 := flat_le (f := wrow) (c := 12) (l := rs) fun x hx => wrow_fit (h x hx)
  rw [List.length_append]
  omega
theorem wrow_Low {r : Row} (h : r.Fit) : Low (wrow r) := ((wints_Low _).append (wnum_Low h.2.1)).append (wnum_Low h.2.2.2.1)
theorem wnode_Low {rs : List Row} (h : ∀ r ∈ rs, r.Fit) : Low (wnode rs) := (wnum_Low (by omega)).append (Low.flatMap fun r hr => wrow_Low (h r hr))
/-! ### rows with their values -/
def RowsZ (K : PySem.W.Frag) (H : Hp) (ps : List (V × Row)) : Prop := ∀ q ∈ ps, RowR K H q.1 q.2
theorem RowsZ.keep {K : PySem.W.Frag} {H H' : Hp} {ps : List (V × Row)} (h : RowsZ K H ps) (s : Same H H') : RowsZ K H' ps := fun q hq => (h q hq).keep s
theorem SX.rowsZ {w : Addr} {H H' : Hp} (s : SX w H H') {l : List V} (hw : H w = some (.lst l)) {K : PySem.W.Frag} {ps : List (V × Row)} (h : RowsZ K H ps) : RowsZ K H' ps := fun q hq => s.rowR hw (h q hq)
theorem RowsZ.app {K : PySem.W.Frag} {H : Hp} {ps qs : List (V × Row)} (h : RowsZ K H ps) (g : RowsZ K H qs) : RowsZ K H (ps ++ qs) := fun q hq => (List.mem_append.mp hq).elim (h q) (g q)
theorem RowsZ.sub {K : PySem.W.Frag} {H : Hp} {ps qs : List (V × Row)} (h : RowsZ K H ps) (g : ∀ q ∈ qs, q ∈ ps) : RowsZ K H qs := fun q hq => h q (g q hq)
theorem RowsZ.v {K : PySem.W.Frag} {H : Hp} {ps : List (V × Row)} (h : RowsZ K H ps) : RowsV K H (ps.map (·.1)) (ps.map (·.2)) := by
  refine ⟨by simp, fun i v r hv hr => ?_⟩
  rw [List.getElem?_map] at hv hr
  cases e : ps[i]? with
  | none => rw [e] at hv; cases hv
  | some q =>
    rw [e] at hv hr
    cases hv; cases hr
    exact h q (List.mem_of_getElem? e)
theorem RowsV.z {K : PySem.W.Frag} {H : Hp} {us : List V} {rs : List Row} (h : RowsV K H us rs) : ∃ ps : List (V × Row), us = ps.map (·.1) ∧ rs = ps.map (·.2) ∧ RowsZ K H ps := by
  refine ⟨us.zip rs, ?_, ?_, fun q hq => ?_⟩
  · rw [List.map_fst_zip (by rw [h.1]; exact Nat.le_refl _)]
  · rw [List.map_snd_zip (by rw [h.1]; exact Nat.le_refl _)]
  · obtain ⟨i, hi⟩ := List.mem_iff_getElem?.mp hq
    obtain ⟨h1, h2⟩ := List.getElem?_zip_eq_some.mp hi
    exact h.2 i q.1 q.2 h1 h2
/-- what a node holds -/
theorem nd_rows {S : Sto} {d : Nat} {p : Row} {es : List Row} {φ : Nat} (h : Nd S d p es φ) : ∃ kd rs, Rec S p.ad p.ln kd (wnode rs) ∧ (kd = 1 ∨ kd = 2) ∧ 1 ≤ rs.length ∧ rs.length ≤ 8 ∧ (∀ r ∈ rs, r.Fit) ∧
    ((d = 0 ∧ kd = 1 ∧ rs = es) ∨ ∃ d' ks, d = d' + 1 ∧ kd = 2 ∧ rs = ks.map (·.row) ∧ (∃ x rest, ks = x :: rest ∧ p.key = x.row.key) ∧ ks.length ≤ 8 ∧ ks.Pairwise Sep ∧ (∀ k ∈ ks, k.row.Fit ∧ Nd S d' k.row k.es k.φ) ∧ es = flat ks ∧ 4 ^ (d' + 1) * (ks.length - 5) + phis ks ≤ φ) := by
  cases d with
  | zero =>
    obtain ⟨⟨x, rest, e, e2⟩, h2, h3, h4, h5, h6⟩ := h
    exact ⟨1, es, h5, .inl rfl, by rw [e]; simp, h2, h4, .inl ⟨rfl, rfl, rfl⟩⟩
  | succ d =>
    obtain ⟨ks, ⟨x, rest, e, e2⟩, h2, h3, h4, h5, h6, h7⟩ := h
    exact ⟨2, _, h5, .inr rfl, by rw [e]; simp, by simpa using h2, fun r hr => by
      obtain ⟨k, hk, rfl⟩ := List.mem_map.mp hr
      exact (h4 k hk).1, .inr ⟨d, ks, rfl, rfl, rfl, ⟨x, rest, e, e2⟩, h2, h3, h4, h6, h7⟩⟩
def spChild (K : PySem.W.Frag) : Sp := fun vs H Q _ => ∃ (l : Addr) (kv : V) (rs : List Row) (key : List Int), vs = [.ref l, kv] ∧ RowsR K H l rs ∧ TupI K H kv key ∧ 1 ≤ rs.length ∧ rs.length ≤ 1000 ∧ ∀ i : Nat, At rs key i → Q (.int i) H
def spFind (K : PySem.W.Frag) : Sp := fun vs H Q _ => ∃ (L : LA) (S : Sto) (z : Int) (p kv : V) (ad ln : Int) (key : List Int) (es : List Row) (Ψ : Nat), vs = [.ref L.lg, p, kv] ∧ LogR K H L S z ∧ TupI K H p [ad, ln] ∧ TreeR S ad ln es Ψ ∧ TupI K H kv key ∧
  (look key es = none → ∀ H', Same H H' → Q .non H') ∧ (∀ r, look key es = some r → ∀ v H', Same H H' → TupI K H' v [r.ad, r.ln] → Q v H')
theorem look_drop {key : List Int} {rs : List Row} {i : Nat} {r : Row} (h : rs[i]? = some r) : look key (rs.drop i) = if r.key = key then some r else look key (rs.drop (i + 1)) := by
  have e : rs.drop i = r :: rs.drop (i + 1) := by
    obtain ⟨hi, e⟩ := List.getElem?_eq_some_iff.mp h
    rw [← e]
    exact List.drop_eq_getElem_cons hi
  rw [e]
  unfold look
  rw [List.find?_cons]
  by_cases hk : r.key = key
  · simp [hk]
  · simp [hk]
section
variable {P : Program} {w : World} {K : PySem.W.Frag} {mg : Str → Option Value} {base : Heap}
theorem sc_child : FnScope ["rows", "key", "found", "at"] ["rows", "key"] (defScope (top 74)) := ⟨rfl, rfl, rfl, by decide +kernel, rfl, by decide +kernel, by decide +kernel⟩
theorem c_child (T : Tx K mg) : C8.Cal P w K mg base 1 "child_at" (spChild K) [] := by
  refine cal_of T.f_child_at (fun _ _ _ _ _ _ us hl => match us, hl with | [_, _], _ => rfl) sc_child (fun vs H Q E h => ?_) (fun f cdv A outer s H vs Q E hr h => ?_)
  · obtain ⟨l, kv, rs, key, rfl, _⟩ := h
    rfl
  · obtain ⟨l, kv, rs, key, rfl, ⟨us, hl, hU⟩, hk, hz1, hz, k⟩ := h
    have nd := sc_child.nd
    refine ⟨_, pss_cons (ps_set (i := 2) nd rfl (.inl rfl) pe_int)
      (pss_cons (ps_for PassesOwn.never rfl (pi_range1 (by rfl) T.n_range (pa_cons (pe_callB call_len (by rfl) T.n_len PySem.boot_len (pa_cons (pv 0) pa_nil)) pa_nil)) (pg_name (i := 3) nd rfl (.inl rfl))
        (pss_one (ps_if (pt_cmpR (op_leTT hr.units0) (pe_ix ix_tup (pe_ix ix_list (pv 0) (pv 3) (fun _ _ => rfl)) pe_int (fun _ _ => rfl)) (pv 1) (nomark _)) (pss_one (ps_set (i := 2) nd rfl (.inl rfl) (pv 3))) pss_nil)))
      (pss_one (ps_ret (pv 2)))), ?_⟩
    refine ⟨_, rfl, _, _, rfl, .inl ⟨_, hl, rfl⟩, (rs.length : Int), by rw [hU.1], by omega, by omega, for_range (n := rs.length) (fun j σ H' => H' = H ∧ ∃ (i : Nat) (y : Option V), i < rs.length ∧ (∀ j' r, i < j' → j' < j → rs[j']? = some r → kl key r.key = true) ∧ (i = 0 ∨ ∃ r, rs[i]? = some r ∧ kl key r.key = false) ∧ σ = [some (.ref l), some kv, some (.int i), y])
      ⟨rfl, 0, none, by omega, fun j' r h1 h2 => by omega, .inl rfl, rfl⟩ ?_ ?_⟩
    · rintro j σ H' hj ⟨rfl, i, y, hi, h1, h2, rfl⟩
      obtain ⟨r, hr1⟩ : ∃ x, rs[j]? = some x := ⟨rs[j], List.getElem?_eq_getElem hj⟩
      obtain ⟨u, hu1⟩ : ∃ x, us[j]? = some x := ⟨us[j]'(by rw [hU.1]; exact hj), List.getElem?_eq_getElem _⟩
      obtain ⟨t, kr, pr, rfl, ht, hkr, hpr⟩ := hU.2 j u r hu1 hr1
      refine ⟨_, rfl, _, rfl, l, us, ((0 : Int) + (j : Int)), .ref t, rfl, rfl, hl, by rw [Int.zero_add]; exact atI_nat hu1, t, [kr, pr], 0, kr, rfl, rfl, ht, atI_nat (j := 0) rfl, _, rfl, r.key, key, hkr, hk, _, rfl, ?_⟩
      cases hc : kl key r.key with
      | false =>
        refine iteK (by show (!HT.lexLt key r.key) = true; rw [kl_lex, hc]; rfl) ?_
        refine ⟨_, rfl, rfl, j, some (.int j), hj, fun j' r' a b => by omega, .inr ⟨r, hr1, hc⟩, ?_⟩
        simp
      | true =>
        refine iteKF (by show (!HT.lexLt key r.key) = false; rw [kl_lex, hc]; rfl) ?_
        refine ⟨rfl, i, _, hi, fun j' r' a b e => ?_, h2, rfl⟩
        by_cases e2 : j' = j
        · subst e2
          rw [hr1] at e
          cases e
          exact hc
        · exact h1 j' r' a (by omega) e
    · rintro σ H' ⟨rfl, i, y, hi, h1, h2, rfl⟩
      exact ⟨_, rfl, k i ⟨hi, fun j r a e => h1 j r a (List.getElem?_eq_some_iff.mp e).1 e, h2⟩⟩
theorem sc_find : FnScope ["log", "root", "key", "pointer", "is_leaf", "rows", "other", "found"] ["log", "root", "key"] (defScope (top 75)) := ⟨rfl, rfl, rfl, by decide +kernel, rfl, by decide +kernel, by decide +kernel⟩
theorem c_find (T : Ty P w K mg) : C8.Cal P w K mg base 7 "find" (spFind K) [] := by
  refine cal_of T.f_find (fun _ _ _ _ _ _ us hl => match us, hl with | [_, _, _], _ => rfl) sc_find (fun vs H Q E h => ?_) (fun f cdv A outer s H vs Q E hr h => ?_)
  · obtain ⟨L, S, z, p, kv, ad, ln, key, es, Ψ, rfl, _⟩ := h
    rfl
  · obtain ⟨L, S, z, p, kv, ad, ln, key, es, Ψ, rfl, hL, hp, hT, hk, k1, k2⟩ := h
    have nd := sc_find.nd
    refine ⟨_, pss_cons (ps_set (i := 3) nd rfl (.inl rfl) (pv 1))
      (pss_cons (ps_while PassesOwn.never (pt_cmpR (op_neT hr.units) (pv 3) (pe_glob (by rfl) T.g_NOTHING (v := .ref (He.ga K "NOTHING")) rfl) (nomark _))
        (pss_cons (ps_asg (C8.pe_c (c_loadn T) hr (by decide) rfl (pa_cons (pv 0) (pa_cons (pv 3) pa_nil))) (pg_tup (by rfl) (pgs_cons (pg_name (i := 4) nd rfl (.inl rfl)) (pgs_cons (pg_name (i := 5) nd rfl (.inl rfl)) pgs_nil))))
        (pss_cons (ps_if (pt_val (pv 4))
            (pss_cons (ps_for PassesOwn.never rfl (pi_list (pv 5)) (pg_tup (by rfl) (pgs_cons (pg_name (i := 6) nd rfl (.inl rfl)) (pgs_cons (pg_name (i := 7) nd rfl (.inl rfl)) pgs_nil)))
              (pss_one (ps_if (pt_cmpR (op_eqT hr.units) (pv 6) (pv 2) (nomark _)) (pss_one (ps_ret (pv 7))) pss_nil)))
            (pss_one (ps_ret pe_non))) pss_nil)
        (pss_one (ps_set (i := 3) nd rfl (.inl rfl) (pe_ix ix_tup (pe_ix ix_list (pv 5) (C8.pe_c (c_child T.toTx) hr (by decide) rfl (pa_cons (pv 5) (pa_cons (pv 2) pa_nil))) (fun _ _ => rfl)) pe_int (fun _ _ => rfl)))))))
      (pss_one (ps_ret pe_non))), ?_⟩
    have hNo : TupI K H (.ref (He.ga K "NOTHING")) [0, 0] := ⟨_, rfl, T.nothing H⟩
    refine ⟨_, rfl, ?_⟩
    refine ⟨fun m σ H' => Same H H' ∧ ∃ (q : V) (ad' ln' : Int) (x y x2 y2 : Option V), TupI K H' q [ad', ln'] ∧ ((ad' = 0 ∧ ln' = 0 ∧ look key es = none) ∨ ∃ d row es' φ, m = d ∧ row.ad = ad' ∧ row.ln = ln' ∧ Nd S d row es' φ ∧ look key es' = look key es) ∧ σ = [some (.ref L.lg), some p, some kv, some q, x, y, x2, y2], ?_, ?_⟩
    · rcases hT with ⟨rfl, rfl, rfl⟩ | ⟨d, key0, φ, h1, h2⟩
      · exact ⟨0, Same.refl H, p, 0, 0, none, none, none, none, hp, .inl ⟨rfl, rfl, rfl⟩, rfl⟩
      · exact ⟨d, Same.refl H, p, ad, ln, none, none, none, none, hp, .inr ⟨d, _, es, φ, rfl, rfl, rfl, h1, rfl⟩, rfl⟩
    rintro m σ H' ⟨hs, q, ad', ln', x, y, x2, y2, hq, hcase, rfl⟩
    refine ⟨_, rfl, [ad', ln'], [0, 0], hq, hNo.keep hs, _, rfl, ?_⟩
    rcases hcase with ⟨rfl, rfl, hn⟩ | ⟨d, row, es', φ, rfl, rfl, rfl, hnd, hlk⟩
    · refine iteKF (by simp) ?_
      exact k1 hn H' hs
    · refine iteK (by have := hnd.rec; simp; omega) ?_
      refine ⟨_, fun _ _ h => h, ?_⟩
      obtain ⟨kd, rs, hrec, hkd, hz1, hz8, hfit, hcase⟩ := nd_rows hnd
      refine ⟨_, rfl, _, rfl, L, S, z, q, row.ad, row.ln, kd, rs, rfl, hL.keep hs, hq, hrec, hkd, hz1, hz8, fun r hr => (hfit r hr).ok, fun t l us H2 hs2 ht hl hU => ?_⟩
      refine ⟨t, _, rfl, SqT.of ht, rfl, _, _, rfl, _, _, rfl, rfl, ?_⟩
      have hsA := hs.trans hs2
      rcases hcase with ⟨rfl, rfl, rfl⟩ | ⟨d', ks, rfl, rfl, rfl, hp0, hk8, hsep, hkids, rfl, hphi⟩
      · refine ⟨_, rfl, _, rfl, ?_⟩
        refine iteK (by simp) ?_
        refine ⟨_, rfl, l, rfl, ⟨_, SqL.of hl⟩, for_list (K := K) (a := l) (xs := us) (fun i σ H' => H' = H2 ∧ look key (rs.drop i) = look key rs ∧ ∃ x y, σ = [some (.ref L.lg), some p, some kv, some q, some (.bl true), some (.ref l), x, y])
          ⟨rfl, by simp, x2, y2, rfl⟩ (fun i σ H' _ h => by rw [h.1]; exact SqL.of hl) ?_ ?_⟩
        · rintro i v σ H' hx ⟨rfl, hlo, x3, y3, rfl⟩
          obtain ⟨r, hr1, t3, kr, pr, rfl, ht3, hkr, hpr⟩ := hU.get hx
          refine ⟨t3, [kr, pr], rfl, ht3, rfl, _, _, rfl, _, _, rfl, rfl, ?_⟩
          rw [look_drop hr1] at hlo
          refine ⟨_, rfl, _, rfl, r.key, key, hkr, hk.keep hsA, _, rfl, ?_⟩
          by_cases he : r.key = key
          · refine iteK (by simpa using he) ?_
            rw [if_pos he] at hlo
            refine ⟨_, rfl, k2 r (by rw [← hlk, ← hlo]) pr H' hsA hpr⟩
          · refine iteKF (by simpa using he) ?_
            rw [if_neg he] at hlo
            exact ⟨rfl, hlo, _, _, rfl⟩
        · rintro σ H' ⟨rfl, hlo, x3, y3, rfl⟩
          refine k1 ?_ H' hsA
          rw [← hlk, ← hlo, hU.1, List.drop_length]
          rfl
      · refine ⟨_, rfl, _, rfl, ?_⟩
        refine iteKF (by simp) ?_
        refine ⟨_, rfl, _, rfl, _, rfl, l, kv, _, key, rfl, ⟨us, SqL.of hl, hU⟩, hk.keep hsA, hz1, by omega, fun i hi => ?_⟩
        obtain ⟨kid, hkid, hsp⟩ := split_of hsep hi
        have hri : (ks.map (·.row))[i]? = some kid.row := by rw [List.getElem?_map, hkid]; rfl
        have hin : i < us.length := by rw [hU.1]; exact hi.1
        have hui : us[i]? = some us[i] := List.getElem?_eq_getElem hin
        obtain ⟨t3, kr, pr, e3, ht3, hkr, hpr⟩ := hU.2 i _ _ hui hri
        refine ⟨l, us, (i : Int), us[i], rfl, rfl, SqL.of hl, atI_nat hui, t3, [kr, pr], 1, pr, e3, rfl, ht3, atI_nat (j := 1) rfl, d', by omega, hsA, pr, _, _, _, _, _, _, hpr, .inr ⟨d', kid.row, kid.es, kid.φ, rfl, rfl, rfl, (hkids kid (List.mem_of_getElem? hkid)).2, ?_⟩, rfl⟩
        rw [← hlk, look_split hsp fun k hk => (hkids k hk).2]
end
end Tz
namespace Tz
open PySem PySem.Spec PyProof.Rows L2
theorem SX.updN {w : Addr} {H H' : Hp} {p : Addr} {o : HO} (s : SX w H H') (hw : H w ≠ none) (n : H' p = none) (hw2 : H' w ≠ none) : SX w H (upd H' p o) := fun b u ne e => by
  have h := s b u ne e
  rw [upd_ne (fun z => by rw [z, n] at h; cases h)]
  exact h
theorem SX.app {w : Addr} {H H' : Hp} {p : Addr} {o : HO} (s : SX w H H') (n : H' p = none) : SX w H (upd H' p o) := fun b u ne e => by
  have h := s b u ne e
  rw [upd_ne (fun z => by rw [z, n] at h; cases h)]
  exact h
theorem SX.thenSame {w : Addr} {H H1 H2 : Hp} (a : SX w H H1) (b : Same H1 H2) : SX w H H2 := a.trans (Same.sx b)
theorem same_sx {w : Addr} {H H1 H2 : Hp} (a : Same H H1) (b : SX w H1 H2) : SX w H H2 := (Same.sx a).trans b
theorem sx_lst {w a : Addr} {H H' : Hp} {l : List V} (s : SX w H H') (ne : a ≠ w) (h : H a = some (.lst l)) : H' a = some (.lst l) := s _ _ ne h
/-- a list of rows is not the list of the batch -/
theorem rows_ne {K : PySem.W.Frag} {H : Hp} {l w : Addr} {us : List V} {rs : List Row} {bs : List Int} (h : H l = some (.lst us)) (hU : RowsV K H us rs) (hr : rs ≠ []) (hw : H w = some (.lst (iv bs))) : l ≠ w := fun e => by
  rw [e, hw] at h
  cases h
  cases rs with
  | nil => exact hr rfl
  | cons r rest =>
    have hl := hU.1
    cases hb : bs with
    | nil => rw [hb] at hl; cases hl
    | cons b bs' =>
      rw [hb] at hU
      obtain ⟨t, k, p, e, _⟩ := hU.2 0 (.int b) r rfl rfl
      cases e
theorem RowsV.take {K : PySem.W.Frag} {H : Hp} {us : List V} {rs : List Row} (h : RowsV K H us rs) (n : Nat) : RowsV K H (us.take n) (rs.take n) := by
  obtain ⟨ps, rfl, rfl, hz⟩ := h.z
  rw [← List.map_take, ← List.map_take]
  exact RowsZ.v (hz.sub fun q hq => List.mem_of_mem_take hq)
theorem RowsV.drop {K : PySem.W.Frag} {H : Hp} {us : List V} {rs : List Row} (h : RowsV K H us rs) (n : Nat) : RowsV K H (us.drop n) (rs.drop n) := by
  obtain ⟨ps, rfl, rfl, hz⟩ := h.z
  rw [← List.map_drop, ← List.map_drop]
  exact RowsZ.v (hz.sub fun q hq => List.mem_of_mem_drop hq)
theorem RowsV.app {K : PySem.W.Frag} {H : Hp} {us vs : List V} {rs ts : List Row} (h : RowsV K H us rs) (g : RowsV K H vs ts) : RowsV K H (us ++ vs) (rs ++ ts) := by
  obtain ⟨ps, rfl, rfl, hz⟩ := h.z
  obtain ⟨qs, rfl, rfl, hy⟩ := g.z
  rw [← List.map_append, ← List.map_append]
  exact RowsZ.v (hz.app hy)
theorem Sv.ext {S S' : Sto} {kd : Int} {rs : List Row} {r : Row} (h : Sv S kd rs r) (x : Ext S S') : Sv S' kd rs r := ⟨h.1, h.2.1, x _ _ _ _ h.2.2⟩
theorem op_lt2 {X : Cx} (hu : X.A.units < cLine) : OpR X (compareOp .Lt) (rOrd X.K kl) := op_imp (op_ltT hu) fun x y H Q h => by
  obtain ⟨ns, ms, ⟨a, rfl, ha⟩, ⟨b, rfl, hb⟩, q⟩ := h
  exact ⟨a, b, ns, ms, rfl, rfl, ha, hb, by rw [kl_lex]; exact q⟩
theorem op_gt2 {X : Cx} (hu : X.A.units < cLine) : OpR X (compareOp .Gt) (rOrd X.K fun ns ms => kl ms ns) := op_imp (op_gtT hu) fun x y H Q h => by
  obtain ⟨ns, ms, ha, hb, q⟩ := h
  refine ⟨ns, ms, ha, hb, ?_⟩
  show Q (.bl (HT.lexLt ms ns)) H
  rw [kl_lex]; exact q
/-- saving rows: what is promised -/
def spSv (n : Nat) (K : PySem.W.Frag) : Sp := fun vs H Q _ => ∃ (L : LA) (S : Sto) (z kd : Int) (l : Addr) (us : List V) (rs : List Row), vs = [.ref L.lg, .int kd, .ref l] ∧ LogR K H L S z ∧ H l = some (.lst us) ∧ RowsV K H us rs ∧ rs.length ≤ n ∧ (∀ r ∈ rs, r.Fit) ∧ (0 ≤ kd ∧ kd ≤ 249) ∧
  S.fb.length + S.wb.length + 100 * (n - 7) ≤ 16700000 ∧ ∀ lo us' out H' wb', H lo = none → SX L.wl H H' → LogR K H' L ⟨S.fb, wb'⟩ z → H' lo = some (.lst us') → RowsV K H' us' out → Saved ⟨S.fb, wb'⟩ kd rs out → Ext S ⟨S.fb, wb'⟩ → wb'.length ≤ S.wb.length + 200 → (rs.length ≤ 8 → wb'.length ≤ S.wb.length + 100) → Q (.ref lo) H'
section
variable {P : Program} {w : World} {K : PySem.W.Frag} {mg : Str → Option Value} {base : Heap}
theorem sc_sv : FnScope ["log", "kind", "rows"] ["log", "kind", "rows"] (defScope (top 76)) := ⟨rfl, rfl, rfl, by decide +kernel, rfl, by decide +kernel, by decide +kernel⟩
/-- one node is written -/
theorem sv_one {H H1 H2 : Hp} {L : LA} {S : Sto} {z kd : Int} {rs : List Row} {t q lo : Addr} {Q : VK} {kr : V} {x : Row} {rest : List Row} (hL : LogR K H L S z) (e : rs = x :: rest) (hkr : TupI K H kr x.key) (h8 : rs.length ≤ 8) (hfit : ∀ r ∈ rs, r.Fit) (hkd : 0 ≤ kd ∧ kd ≤ 249)
    (hz : S.fb.length + S.wb.length + 100 ≤ 16700000) (hs1 : Same H H1) (sx : SX L.wl H1 H2) (hw : H2 L.wl = some (.lst (iv (S.wb ++ mkrec kd (wnode rs))))) (ht : H2 t = some (.tup (iv [((S.fb.length + S.wb.length : Nat) : Int), ((mkrec kd (wnode rs)).length : Int)])))
    (hq : H2 q = none) (hlo : upd H2 q (.tup [kr, .ref t]) lo = none)
    (k : ∀ lo us' out H' wb', H lo = none → SX L.wl H H' → LogR K H' L ⟨S.fb, wb'⟩ z → H' lo = some (.lst us') → RowsV K H' us' out → Saved ⟨S.fb, wb'⟩ kd rs out → Ext S ⟨S.fb, wb'⟩ → wb'.length ≤ S.wb.length + 200 → (rs.length ≤ 8 → wb'.length ≤ S.wb.length + 100) → Q (.ref lo) H') :
    Q (.ref lo) (upd (upd H2 q (.tup [kr, .ref t])) lo (.lst [.ref q])) := by
  have hsx : SX L.wl H H2 := same_sx hs1 sx
  have hql : q ≠ lo := fun z => by rw [← z, upd_same] at hlo; cases hlo
  have hlo2 : H2 lo = none := by rw [upd_ne (Ne.symm hql)] at hlo; exact hlo
  have hwlo : L.wl ≠ lo := fun z => by rw [← z, hw] at hlo2; cases hlo2
  have hwq : L.wl ≠ q := fun z => by rw [← z, hw] at hq; cases hq
  have htq : t ≠ q := fun z => by rw [← z, ht] at hq; cases hq
  have htlo : t ≠ lo := fun z => by rw [← z, ht] at hlo2; cases hlo2
  have hlen := wnode_fit h8 hfit
  have hml : (mkrec kd (wnode rs)).length = (wnode rs).length + 3 := mkrec_len _ _
  have hlow : Low (mkrec kd (wnode rs)) := mkrec_Low hkd (wnode_Low hfit)
  have hsx3 : SX L.wl H (upd (upd H2 q (.tup [kr, .ref t])) lo (.lst [.ref q])) := (hsx.app hq).app hlo
  have hw3 : upd (upd H2 q (.tup [kr, .ref t])) lo (.lst [.ref q]) L.wl = some (.lst (iv (S.wb ++ mkrec kd (wnode rs)))) := by rw [upd_ne hwlo, upd_ne hwq]; exact hw
  have hx := hfit x (by rw [e]; exact List.mem_cons_self)
  refine k lo [.ref q] [⟨x.key, ((S.fb.length + S.wb.length : Nat) : Int), ((mkrec kd (wnode rs)).length : Int)⟩] _ (S.wb ++ mkrec kd (wnode rs)) (hsx.free (Ne.symm hwlo) hlo2) hsx3 (hL.wr hsx3 hw3 (by rw [List.length_append]; omega)) upd_same ?_ ?_ (Ext.put _ _ _) (by rw [List.length_append]; omega) (fun _ => by rw [List.length_append]; omega)
  · refine RowsZ.v (ps := [(.ref q, ⟨x.key, ((S.fb.length + S.wb.length : Nat) : Int), ((mkrec kd (wnode rs)).length : Int)⟩)]) fun y hy => ?_
    rw [List.mem_singleton.mp hy]
    refine ⟨q, kr, .ref t, rfl, SqT.of (by rw [upd_ne hql, upd_same]), hsx3.tupI hL.hw hkr, ⟨t, rfl, SqT.of (by rw [upd_ne htlo, upd_ne htq]; exact ht)⟩⟩
  · refine .inr (.inl ⟨by rw [e]; simp, h8, _, rfl, ⟨x, rest, e, rfl⟩, ⟨hx.1, ?_, ?_, ?_, ?_⟩, Rec.new hlow⟩)
    · show (0 : Int) ≤ ((S.fb.length + S.wb.length : Nat) : Int); omega
    · show ((S.fb.length + S.wb.length : Nat) : Int) < 100000000; omega
    · show (0 : Int) ≤ ((mkrec kd (wnode rs)).length : Int); omega
    · show ((mkrec kd (wnode rs)).length : Int) < 100000000; omega
theorem c_sv8 (T : Tx K mg) : C8.Cal P w K mg base 6 "save_rows" (spSv 8 K) [] := by
  refine cal_of T.f_save_rows (fun _ _ _ _ _ _ us hl => match us, hl with | [_, _, _], _ => rfl) sc_sv (fun vs H Q E h => ?_) (fun f cdv A outer s H vs Q E hr h => ?_)
  · obtain ⟨L, S, z, kd, l, us, rs, rfl, _⟩ := h
    rfl
  · obtain ⟨L, S, z, kd, l, us, rs, rfl, hL, hl, hU, h8, hfit, hkd, hz, k⟩ := h
    have nd := sc_sv.nd
    refine ⟨_, pss_cons (ps_if (pt_cmpR op_eq (pe_callB call_len (by rfl) T.n_len PySem.boot_len (pa_cons (pv 2) pa_nil)) pe_int (nomark _)) (pss_one (ps_ret (pe_lst pa_nil))) pss_nil)
      (pss_cons (ps_if (pt_cmpR op_gt (pe_callB call_len (by rfl) T.n_len PySem.boot_len (pa_cons (pv 2) pa_nil)) (pe_gi (by rfl) T.i_MOST_ENTRIES) (nomark _)) (pss_one ps_never) pss_nil)
      (pss_one (ps_ret (pe_lst (pa_cons (pe_tup (pa_cons (pe_ix ix_tup (pe_ix ix_list (pv 2) pe_int (fun _ _ => rfl)) pe_int (fun _ _ => rfl))
        (pa_cons (C8.pe_mt (m_lput T) hr (by decide) (pv 0) (pa_cons (pv 1) (pa_cons (C8.pe_c (c_wnode T) hr (by decide) rfl (pa_cons (pv 2) pa_nil)) pa_nil))) pa_nil))) pa_nil))))), ?_⟩
    have hUl := hU.1
    refine ⟨_, rfl, _, _, rfl, .inl ⟨_, SqL.of hl, rfl⟩, rfl, _, rfl, ?_⟩
    cases e : rs with
    | nil =>
      rw [e] at hUl
      refine iteK (by rw [hUl]; simp) ?_
      refine ⟨(by show 0 ≤ sizeLine; decide), fun lo hlo => ?_⟩
      have hs := same_upd0 (o := .lst []) hlo
      exact k lo [] [] _ S.wb hlo (Same.sx hs) (hL.keep hs) upd_same RowsV.nil (.inl ⟨e, rfl⟩) (Ext.refl _) (by omega) (fun _ => by omega)
    | cons x rest =>
      have hU0 := hU
      rw [e] at hUl hU0
      simp only [List.length_cons] at hUl
      have h8' := h8
      rw [e, List.length_cons] at h8'
      refine iteKF (decide_eq_false fun z => by have := V.int.inj z; omega) ?_
      refine ⟨_, rfl, _, _, rfl, .inl ⟨_, SqL.of hl, rfl⟩, _, _, rfl, rfl, _, rfl, ?_⟩
      refine iteKF (by simp; omega) ?_
      obtain ⟨u, hu1⟩ : ∃ v, us[0]? = some v := ⟨us[0]'(by omega), List.getElem?_eq_getElem _⟩
      obtain ⟨t0, kr, pr, rfl, ht0, hkr, hpr⟩ := hU0.2 0 u x hu1 rfl
      refine ⟨_, rfl, l, us, 0, .ref t0, rfl, rfl, SqL.of hl, atI_nat (j := 0) hu1, t0, [kr, pr], 0, kr, rfl, rfl, ht0, atI_nat (j := 0) rfl, ?_⟩
      refine ⟨_, rfl, L.lg, L.d1, _, rfl, hL.hl, rfl, _, rfl, _, rfl, l, rs, rfl, ⟨us, SqL.of hl, hU⟩, by omega, fun r hr => (hfit r hr).ok, fun c H1 hc hs hC => ?_⟩
      have hln := wnode_fit h8 hfit
      refine ⟨L, S, z, kd, c, wnode rs, rfl, hL.keep hs, SqL.of hC, by omega, by omega, fun t H2 sx ht hw hT => ?_⟩
      refine ⟨(by show 2 ≤ sizeLine; decide), fun q hq => ⟨(by show 1 ≤ sizeLine; decide), fun lo hlo => ?_⟩⟩
      exact sv_one hL e hkr h8 hfit hkd (by omega) hs sx hw hT hq hlo k
theorem c_sv (T : Tx K mg) : C8.Cal P w K mg base 7 "save_rows" (spSv 9 K) [] := by
  refine cal_of T.f_save_rows (fun _ _ _ _ _ _ us hl => match us, hl with | [_, _, _], _ => rfl) sc_sv (fun vs H Q E h => ?_) (fun f cdv A outer s H vs Q E hr h => ?_)
  · obtain ⟨L, S, z, kd, l, us, rs, rfl, _⟩ := h
    rfl
  · obtain ⟨L, S, z, kd, l, us, rs, rfl, hL, hl, hU, h9, hfit, hkd, hz, k⟩ := h
    have nd := sc_sv.nd
    refine ⟨_, pss_cons (ps_if (pt_cmpR op_eq (pe_callB call_len (by rfl) T.n_len PySem.boot_len (pa_cons (pv 2) pa_nil)) pe_int (nomark _)) (pss_one (ps_ret (pe_lst pa_nil))) pss_nil)
      (pss_cons (ps_if (pt_cmpR op_gt (pe_callB call_len (by rfl) T.n_len PySem.boot_len (pa_cons (pv 2) pa_nil)) (pe_gi (by rfl) T.i_MOST_ENTRIES) (nomark _)) (pss_one (ps_ret (pe_op op_cat
          (C8.pe_c (c_sv8 T) hr (by decide) rfl (pa_cons (pv 0) (pa_cons (pv 1) (pa_cons (pe_slice sl_list (pv 2) po_none (po_some (pe_gi (by rfl) T.i_FIRST_HALF))) pa_nil))))
          (C8.pe_c (c_sv8 T) hr (by decide) rfl (pa_cons (pv 0) (pa_cons (pv 1) (pa_cons (pe_slice sl_list (pv 2) (po_some (pe_gi (by rfl) T.i_FIRST_HALF)) po_none) pa_nil))))))) pss_nil)
      (pss_one (ps_ret (pe_lst (pa_cons (pe_tup (pa_cons (pe_ix ix_tup (pe_ix ix_list (pv 2) pe_int (fun _ _ => rfl)) pe_int (fun _ _ => rfl))
        (pa_cons (C8.pe_mt (m_lput T) hr (by decide) (pv 0) (pa_cons (pv 1) (pa_cons (C8.pe_c (c_wnode T) hr (by decide) rfl (pa_cons (pv 2) pa_nil)) pa_nil))) pa_nil))) pa_nil))))), ?_⟩
    have hUl := hU.1
    refine ⟨_, rfl, _, _, rfl, .inl ⟨_, SqL.of hl, rfl⟩, rfl, _, rfl, ?_⟩
    cases e : rs with
    | nil =>
      rw [e] at hUl
      refine iteK (by rw [hUl]; simp) ?_
      refine ⟨(by show 0 ≤ sizeLine; decide), fun lo hlo => ?_⟩
      have hs := same_upd0 (o := .lst []) hlo
      exact k lo [] [] _ S.wb hlo (Same.sx hs) (hL.keep hs) upd_same RowsV.nil (.inl ⟨e, rfl⟩) (Ext.refl _) (by omega) (fun _ => by omega)
    | cons x rest =>
      have hU0 := hU
      rw [e] at hUl hU0
      simp only [List.length_cons] at hUl
      have h9' := h9
      rw [e, List.length_cons] at h9'
      refine iteKF (decide_eq_false fun z => by have := V.int.inj z; omega) ?_
      refine ⟨_, rfl, _, _, rfl, .inl ⟨_, SqL.of hl, rfl⟩, _, _, rfl, rfl, _, rfl, ?_⟩
      by_cases h8 : rs.length ≤ 8
      · have h8' := h8
        rw [e, List.length_cons] at h8'
        refine iteKF (by simp; omega) ?_
        obtain ⟨u, hu1⟩ : ∃ v, us[0]? = some v := ⟨us[0]'(by omega), List.getElem?_eq_getElem _⟩
        obtain ⟨t0, kr, pr, rfl, ht0, hkr, hpr⟩ := hU0.2 0 u x hu1 rfl
        refine ⟨_, rfl, l, us, 0, .ref t0, rfl, rfl, SqL.of hl, atI_nat (j := 0) hu1, t0, [kr, pr], 0, kr, rfl, rfl, ht0, atI_nat (j := 0) rfl, ?_⟩
        refine ⟨_, rfl, L.lg, L.d1, _, rfl, hL.hl, rfl, _, rfl, _, rfl, l, rs, rfl, ⟨us, SqL.of hl, hU⟩, by omega, fun r hr => (hfit r hr).ok, fun c H1 hc hs hC => ?_⟩
        have hln := wnode_fit h8 hfit
        refine ⟨L, S, z, kd, c, wnode rs, rfl, hL.keep hs, SqL.of hC, by omega, by omega, fun t H2 sx ht hw hT => ?_⟩
        refine ⟨(by show 2 ≤ sizeLine; decide), fun q hq => ⟨(by show 1 ≤ sizeLine; decide), fun lo hlo => ?_⟩⟩
        exact sv_one hL e hkr h8 hfit hkd (by omega) hs sx hw hT hq hlo k
      · have h9e : rs.length = 9 := by omega
        have hus : us.length = 9 := by rw [hU.1]; exact h9e
        refine iteK (by simp; omega) ?_
        have hlw : l ≠ L.wl := rows_ne hl hU (by rw [e]; simp) hL.hw
        refine ⟨_, rfl, _, rfl, _, rfl, 5, rfl, l, us, rfl, SqL.of hl, fun p1 hp1 => ?_⟩
        have c1 : cutV us none (some 5) = us.take 5 := cut_to us (k := 5) (by omega)
        have c2 : cutV us (some 5) none = us.drop 5 := cut_from us (k := 5) (by omega)
        rw [c1]
        have hs1 := same_upd0 (o := .lst (us.take 5)) hp1
        have t5 : (rs.take 5).length = 5 := by rw [List.length_take]; omega
        have d5 : (rs.drop 5).length = 4 := by rw [List.length_drop]; omega
        refine ⟨L, S, z, kd, p1, us.take 5, rs.take 5, rfl, hL.keep hs1, upd_same, (hU.take 5).keep hs1, by omega, fun r hr => hfit r (List.mem_of_mem_take hr), hkd, by omega, fun lo1 us1 out1 H1 wb1 hlo1 sx1 hL1 hl1 hU1 sv1 x1 z1 z1' => ?_⟩
        have z1' := z1' (by omega)
        have sxa : SX L.wl H H1 := same_sx hs1 sx1
        refine ⟨_, rfl, _, rfl, _, rfl, 5, rfl, l, us, rfl, SqL.of (sx_lst sxa hlw hl), fun p2 hp2 => ?_⟩
        rw [c2]
        have hs2 := same_upd0 (o := .lst (us.drop 5)) hp2
        have hUb : RowsV K H1 us rs := sxa.rowsV hL.hw hU
        refine ⟨L, ⟨S.fb, wb1⟩, z, kd, p2, us.drop 5, rs.drop 5, rfl, hL1.keep hs2, upd_same, (hUb.drop 5).keep hs2, by omega, fun r hr => hfit r (List.mem_of_mem_drop hr), hkd, by show S.fb.length + wb1.length + 100 * (8 - 7) ≤ 16700000; omega, fun lo2 us2 out2 H2 wb2 hlo2 sx2 hL2 hl2 hU2 sv2 x2 z2 z2' => ?_⟩
        have z2' := z2' (by omega)
        have sxb : SX L.wl H1 H2 := same_sx hs2 sx2
        have hlw1 : lo1 ≠ L.wl := by
          intro z
          have := hlo1
          rw [z, hs1 _ _ hL.hw] at this
          cases this
        have hl12 := sx_lst sxb hlw1 hl1
        have hU12 : RowsV K H2 us1 out1 := sxb.rowsV hL1.hw hU1
        obtain ⟨r1, rfl, v1⟩ : ∃ r, out1 = [r] ∧ Sv ⟨S.fb, wb1⟩ kd (rs.take 5) r := by
          rcases sv1 with ⟨a, _⟩ | ⟨_, _, r, a, b⟩ | ⟨a, _⟩
          · rw [a] at t5; cases t5
          · exact ⟨r, a, b⟩
          · omega
        obtain ⟨r2, rfl, v2⟩ : ∃ r, out2 = [r] ∧ Sv ⟨S.fb, wb2⟩ kd (rs.drop 5) r := by
          rcases sv2 with ⟨a, _⟩ | ⟨_, _, r, a, b⟩ | ⟨a, _⟩
          · rw [a] at d5; cases d5
          · exact ⟨r, a, b⟩
          · omega
        have n1 := hU12.1
        have n2 := hU2.1
        refine ⟨lo1, lo2, us1, us2, rfl, rfl, hl12, hl2, by rw [n1, n2]; show 2 ≤ sizeLine; decide, fun lo hlo => ?_⟩
        have hs3 := same_upd0 (o := .lst (us1 ++ us2)) hlo
        have sxc : SX L.wl H H2 := sxa.trans sxb
        have hlw2 : lo ≠ L.wl := fun z => by rw [z, hL2.hw] at hlo; cases hlo
        exact k lo (us1 ++ us2) [r1, r2] _ wb2 (sxc.free hlw2 hlo) (sxc.thenSame hs3) (hL2.keep hs3) upd_same ((hU12.app hU2).keep hs3) (.inr (.inr ⟨h9e, r1, r2, rfl, v1.ext x2, v2⟩)) (x1.trans x2) (by
          have : (⟨S.fb, wb1⟩ : Sto).wb.length = wb1.length := rfl
          omega) (fun h => absurd h h8)
end
end Tz
namespace Tz
open PySem PySem.Spec PyProof.Rows L2
/-- x = [..], then the rest -/
theorem seq_lc {wi : L2.TI} {g : TG} {tt : TT} {te : TE} {vs : List Nat} {i : Nat} {u : TS} {D : Ends} {σ : L2.St} {H : Hp} (h : tLc wi g tt te vs σ H (fun x H1 => gName i x σ H1 (fun σ' H' => u D σ' H'))) : tSeq (tAsg (tLc wi g tt te vs) (gName i)) u D σ H := h
theorem filter_snd {p : Row → Bool} (ps : List (V × Row)) : (ps.filter fun q => p q.2).map (·.2) = (ps.map (·.2)).filter p := by
  rw [List.filter_map]
  rfl
def spPinto (K : PySem.W.Frag) : Sp := fun vs H Q _ => ∃ (l : Addr) (kv pv : V) (us : List V) (rs : List Row) (n : Row), vs = [.ref l, kv, pv] ∧ H l = some (.lst us) ∧ RowsV K H us rs ∧ rs.length ≤ 1000 ∧ TupI K H kv n.key ∧ TupI K H pv [n.ad, n.ln] ∧ OutRows K H Q (ins n rs)
section
variable {P : Program} {w : World} {K : PySem.W.Frag} {mg : Str → Option Value} {base : Heap}
theorem sc_pinto : FnScope ["rows", "key", "pointer", "smaller", "greater", "row"] ["rows", "key", "pointer"] (defScope (top 77)) := ⟨rfl, rfl, rfl, by decide +kernel, rfl, by decide +kernel, by decide +kernel⟩
theorem c_pinto (T : Tx K mg) : C8.Cal P w K mg base 1 "put_into" (spPinto K) [] := by
  refine cal_of T.f_put_into (fun _ _ _ _ _ _ us hl => match us, hl with | [_, _, _], _ => rfl) sc_pinto (fun vs H Q E h => ?_) (fun f cdv A outer s H vs Q E hr h => ?_)
  · obtain ⟨l, kv, pv, us, rs, n, rfl, _⟩ := h
    rfl
  · obtain ⟨l, kv, pvv, us, rs, n, rfl, hl, hU, hz, hk, hp, q⟩ := h
    have nd := sc_pinto.nd
    refine ⟨_, pss_cons (ps_setLc (i := 3) (own := [("row", 5)]) (g := gName 5) (tt := tTest (tOp (rOrd K kl) (tOp (rIxT K) (tVar 5) (tC (.int 0))) (tVar 1))) rfl nd rfl rfl (sw_true rfl rfl rfl (by decide +kernel)) (pi_list (pv 0)) (blkOk_by (N := ["rows", "key", "pointer", "smaller", "greater", "row"]) (sc := defScope (top 77)) (by decide +kernel))
          (fun _ _ _ _ _ => pg_name (i := 5) nd rfl (.inl rfl)) (fun _ _ _ _ _ => pts_one (pt_cmpR (op_lt2 hr.units0) (pe_ix ix_tup (pv 5) pe_int (fun _ _ => rfl)) (pv 1) (nomark _))) (fun _ _ _ _ _ => pv 5))
      (pss_cons (ps_setLc (i := 4) (own := [("row", 5)]) (g := gName 5) (tt := tTest (tOp (rOrd K fun ns ms => kl ms ns) (tOp (rIxT K) (tVar 5) (tC (.int 0))) (tVar 1))) rfl nd rfl rfl (sw_true rfl rfl rfl (by decide +kernel)) (pi_list (pv 0)) (blkOk_by (N := ["rows", "key", "pointer", "smaller", "greater", "row"]) (sc := defScope (top 77)) (by decide +kernel))
          (fun _ _ _ _ _ => pg_name (i := 5) nd rfl (.inl rfl)) (fun _ _ _ _ _ => pts_one (pt_cmpR (op_gt2 hr.units0) (pe_ix ix_tup (pv 5) pe_int (fun _ _ => rfl)) (pv 1) (nomark _))) (fun _ _ _ _ _ => pv 5))
      (pss_one (ps_ret (pe_op op_cat (pe_op op_cat (pv 3) (pe_lst (pa_cons (pe_tup (pa_cons (pv 1) (pa_cons (pv 2) pa_nil))) pa_nil))) (pv 4))))), ?_⟩
    obtain ⟨ps, rfl, rfl, hZ⟩ := hU.z
    have hpl : ps.length ≤ 1000 := by simpa using hz
    refine seq_lc ?_
    refine tlc_list (s1 := 5) (xs := ps) (·.1) (fun q => kl q.2.key n.key) (·.1) (fun R h => ⟨_, rfl, h⟩) (SqL.of hl) (by omega) (fun _ => rfl) (fun x H' R hx hs hk2 => ?_) (fun x H' R hx _ hs hk2 => ⟨_, rfl, hk2 H' (Same.refl _)⟩) (fun D H1 hs1 hD hd1 => ?_)
    · obtain ⟨t, kr, pr, e, ht, hkr, hpr⟩ := (hZ x hx).keep hs
      rw [e]
      exact ⟨_, rfl, t, [kr, pr], 0, kr, rfl, rfl, ht, atI_nat (j := 0) rfl, _, rfl, x.2.key, n.key, hkr, hk.keep hs, _, rfl, hk2 H' (Same.refl _)⟩
    refine seq_lc ?_
    refine tlc_list (s1 := 5) (xs := ps) (·.1) (fun q => kl n.key q.2.key) (·.1) (fun R h => ⟨_, rfl, h⟩) (SqL.of (hs1 _ _ hl)) (by omega) (fun _ => rfl) (fun x H' R hx hs hk2 => ?_) (fun x H' R hx _ hs hk2 => ⟨_, rfl, hk2 H' (Same.refl _)⟩) (fun D2 H2 hs2 hD2 hd2 => ?_)
    · obtain ⟨t, kr, pr, e, ht, hkr, hpr⟩ := (hZ x hx).keep (hs1.trans hs)
      rw [e]
      exact ⟨_, rfl, t, [kr, pr], 0, kr, rfl, rfl, ht, atI_nat (j := 0) rfl, _, rfl, x.2.key, n.key, hkr, hk.keep (hs1.trans hs), _, rfl, hk2 H' (Same.refl _)⟩
    have hs12 := hs1.trans hs2
    refine ⟨_, rfl, _, rfl, _, rfl, (by show 2 ≤ sizeLine; decide), fun p1 hp1 => ⟨(by show 1 ≤ sizeLine; decide), fun p2 hp2 => ?_⟩⟩
    have hsA := hs12.trans (same_upd0 (o := .tup [kv, pvv]) hp1)
    have hsB := hsA.trans (same_upd0 (o := .lst [.ref p1]) hp2)
    have hD12 : H2 D = _ := hs2 _ _ hd1
    have e1 : D ≠ p1 := fun e => by rw [← e, hD12] at hp1; cases hp1
    have e2 : D ≠ p2 := fun e => by rw [← e, upd_ne e1, hD12] at hp2; cases hp2
    have f1 : D2 ≠ p1 := fun e => by rw [← e, hd2] at hp1; cases hp1
    have f2 : D2 ≠ p2 := fun e => by rw [← e, upd_ne f1, hd2] at hp2; cases hp2
    have g1 : p1 ≠ p2 := fun e => by rw [← e, upd_same] at hp2; cases hp2
    have l1 := List.length_filter_le (fun q : V × Row => kl q.2.key n.key) ps
    have l2 := List.length_filter_le (fun q : V × Row => kl n.key q.2.key) ps
    refine ⟨D, p2, _, _, rfl, rfl, by rw [upd_ne e2, upd_ne e1]; exact hD12, upd_same, by rw [List.length_map, sizeLine_eq]; simp only [List.length_singleton]; omega, fun p3 hp3 => ?_⟩
    have f3 : D2 ≠ p3 := fun e => by rw [← e, upd_ne f2, upd_ne f1, hd2] at hp3; cases hp3
    have hsC := hsB.trans (same_upd0 (o := .lst (List.map (fun x => x.fst) (List.filter (fun q => kl q.2.key n.key) ps) ++ [.ref p1])) hp3)
    refine ⟨_, rfl, p3, D2, _, _, rfl, rfl, upd_same, by rw [upd_ne f3, upd_ne f2, upd_ne f1]; exact hd2, by rw [List.length_append, List.length_map, List.length_map, sizeLine_eq]; simp only [List.length_singleton]; omega, fun p4 hp4 => ?_⟩
    have hsD := hsC.trans (same_upd0 (o := .lst (List.map (fun x => x.fst) (List.filter (fun q => kl q.2.key n.key) ps) ++ [.ref p1] ++ List.map (fun x => x.fst) (List.filter (fun q => kl n.key q.2.key) ps))) hp4)
    refine q p4 _ _ (hsC.free hp4) hsD upd_same ?_
    have hZr : RowsZ K H (ps.filter fun q => kl q.2.key n.key) := hZ.sub fun q hq => (List.mem_filter.mp hq).1
    have hZg : RowsZ K H (ps.filter fun q => kl n.key q.2.key) := hZ.sub fun q hq => (List.mem_filter.mp hq).1
    unfold ins
    rw [← filter_snd (p := fun r => kl r.key n.key), ← filter_snd (p := fun r => kl n.key r.key)]
    refine RowsV.app (RowsV.app (RowsZ.v (hZr.keep hsD)) (RowsZ.v (ps := [(.ref p1, n)]) fun y hy => ?_)) (RowsZ.v (hZg.keep hsD))
    rw [List.mem_singleton.mp hy]
    have hp1s : (upd (upd H2 p1 (.tup [kv, pvv])) p2 (.lst [.ref p1])) p1 = some (.tup [kv, pvv]) := by rw [upd_ne g1, upd_same]
    have hsE := (same_upd0 (o := .lst (List.map (fun x => x.fst) (List.filter (fun q => kl q.2.key n.key) ps) ++ [.ref p1])) hp3).trans (same_upd0 (o := .lst (List.map (fun x => x.fst) (List.filter (fun q => kl q.2.key n.key) ps) ++ [.ref p1] ++ List.map (fun x => x.fst) (List.filter (fun q => kl n.key q.2.key) ps))) hp4)
    exact ⟨p1, kv, pvv, rfl, SqT.of (hsE _ _ hp1s), hk.keep hsD, hp.keep hsD⟩
end
end Tz
namespace Tz
open PySem PySem.Spec PyProof.Rows L2
def spPB (d : Nat) (K : PySem.W.Frag) : Sp := fun vs H Q _ => ∃ (L : LA) (S : Sto) (z : Int) (nv kv pv : V) (n p : Row) (es : List Row) (φ : Nat), vs = [.ref L.lg, nv, kv, pv] ∧ LogR K H L S z ∧ TupI K H nv [p.ad, p.ln] ∧ Nd S d p es φ ∧ TupI K H kv n.key ∧ TupI K H pv [n.ad, n.ln] ∧ n.Fit ∧
  S.fb.length + S.wb.length + 200 * (d + 1) ≤ 16700000 ∧ ∀ lo us ms H' wb', H lo = none → SX L.wl H H' → LogR K H' L ⟨S.fb, wb'⟩ z → H' lo = some (.lst us) → RowsV K H' us (ms.map (·.row)) → PB ⟨S.fb, wb'⟩ d n p es φ ms → Ext S ⟨S.fb, wb'⟩ → wb'.length ≤ S.wb.length + 200 * (d + 1) → Q (.ref lo) H'
def spPut (K : PySem.W.Frag) : Sp := fun vs H Q _ => ∃ (L : LA) (S : Sto) (z : Int) (rv kv pv : V) (ad ln : Int) (n : Row) (es : List Row) (Ψ : Nat), vs = [.ref L.lg, rv, kv, pv] ∧ LogR K H L S z ∧ TupI K H rv [ad, ln] ∧ TreeR S ad ln es Ψ ∧ Ψ ≤ 5000 ∧ TupI K H kv n.key ∧ TupI K H pv [n.ad, n.ln] ∧ n.Fit ∧
  S.fb.length + S.wb.length + 1500 ≤ 16700000 ∧ ∀ v ad' ln' H' wb', SX L.wl H H' → LogR K H' L ⟨S.fb, wb'⟩ z → TupI K H' v [ad', ln'] → TreeR ⟨S.fb, wb'⟩ ad' ln' (ins n es) (Ψ + 1) → Ext S ⟨S.fb, wb'⟩ → wb'.length ≤ S.wb.length + 1500 → Q v H'
theorem new_ne {H H1 : Hp} {L : LA} {K : PySem.W.Frag} {S : Sto} {z : Int} {a : Addr} (hL : LogR K H L S z) (h : H a = none) : a ≠ L.wl := fun e => by rw [e, hL.hw] at h; cases h
theorem split_at2 {α : Type} {l : List α} {i : Nat} {x : α} (h : l[i]? = some x) : l = l.take i ++ x :: l.drop (i + 1) := split_at h
section
variable {P : Program} {w : World} {K : PySem.W.Frag} {mg : Str → Option Value} {base : Heap}
theorem sc_pb : FnScope ["log", "node", "key", "pointer", "is_leaf", "rows", "at", "made"] ["log", "node", "key", "pointer"] (defScope (top 78)) := ⟨rfl, rfl, rfl, by decide +kernel, rfl, by decide +kernel, by decide +kernel⟩
theorem c_pb (T : Ty P w K mg) : ∀ d, C8.Cal P w K mg base (d + 8) "put_below" (spPB d K) [] := by
  intro d
  induction d with
  | zero =>
    refine cal_of T.f_put_below (fun _ _ _ _ _ _ us hl => match us, hl with | [_, _, _, _], _ => rfl) sc_pb (fun vs H Q E h => ?_) (fun f cdv A outer s H vs Q E hr h => ?_)
    · obtain ⟨L, S, z, nv, kv, pv, n, p, es, φ, rfl, _⟩ := h
      rfl
    · obtain ⟨L, S, z, nv, kv, pvv, n, p, es, φ, rfl, hL, hn, hnd, hk, hp, hfit, hz, k⟩ := h
      have nd := sc_pb.nd
      refine ⟨_, pss_cons (ps_asg (C8.pe_c (c_loadn T) hr (by decide) rfl (pa_cons (pv 0) (pa_cons (pv 1) pa_nil))) (pg_tup (by rfl) (pgs_cons (pg_name (i := 4) nd rfl (.inl rfl)) (pgs_cons (pg_name (i := 5) nd rfl (.inl rfl)) pgs_nil))))
        (pss_cons (ps_if (pt_val (pv 4)) (pss_one (ps_ret (C8.pe_c (c_sv T.toTx) hr (by decide) rfl (pa_cons (pv 0) (pa_cons (pe_gi (by rfl) T.i_LEAF) (pa_cons (C8.pe_c (c_pinto T.toTx) hr (by decide) rfl (pa_cons (pv 5) (pa_cons (pv 2) (pa_cons (pv 3) pa_nil)))) pa_nil)))))) pss_nil)
        (pss_cons ps_never (pss_cons ps_never (pss_one ps_never)))), ?_⟩
      obtain ⟨kd, rs, hrec, hkd, hz1, hz8, hfits, hcase⟩ := nd_rows hnd
      rcases hcase with ⟨_, rfl, rfl⟩ | ⟨d', ks, h, _⟩
      · refine ⟨_, rfl, _, rfl, L, S, z, nv, p.ad, p.ln, 1, rs, rfl, hL, hn, hrec, hkd, hz1, hz8, fun r hr => (hfits r hr).ok, fun t l us H2 hs2 ht hl hU => ?_⟩
        refine ⟨t, _, rfl, SqT.of ht, rfl, _, _, rfl, _, _, rfl, rfl, ?_⟩
        refine ⟨_, rfl, _, rfl, ?_⟩
        refine iteK (by simp) ?_
        refine ⟨_, rfl, _, rfl, _, rfl, _, rfl, l, kv, pvv, us, rs, n, rfl, hl, hU, by omega, hk.keep hs2, hp.keep hs2, fun l3 us3 H3 hl3 hs3 hL3 hU3 => ?_⟩
        have hsA := hs2.trans hs3
        refine ⟨L, S, z, 1, l3, us3, ins n rs, rfl, hL.keep hsA, hL3, hU3, by have := ins_len (n := n) (es := rs); omega, fun r hr => ?_, by decide, by omega, fun lo us' out H' wb' hlo sx hL' hl' hU' hsv hx hw1 hw2 => ?_⟩
        · rcases ins_mem hr with rfl | hr
          · exact hfit
          · exact hfits r hr
        · obtain ⟨ms, hms, hPB⟩ := put_leaf hnd hfit hsv
          subst hms
          exact k lo us' ms H' wb' (hsA.free hlo) (same_sx hsA sx) hL' hl' hU' hPB hx (by omega)
      · omega
  | succ d ih =>
    refine cal_of T.f_put_below (fun _ _ _ _ _ _ us hl => match us, hl with | [_, _, _, _], _ => rfl) sc_pb (fun vs H Q E h => ?_) (fun f cdv A outer s H vs Q E hr h => ?_)
    · obtain ⟨L, S, z, nv, kv, pv, n, p, es, φ, rfl, _⟩ := h
      rfl
    · obtain ⟨L, S, z, nv, kv, pvv, n, p, es, φ, rfl, hL, hn, hnd, hk, hp, hfit, hz, k⟩ := h
      have nd := sc_pb.nd
      refine ⟨_, pss_cons (ps_asg (C8.pe_c (c_loadn T) hr (by omega) rfl (pa_cons (pv 0) (pa_cons (pv 1) pa_nil))) (pg_tup (by rfl) (pgs_cons (pg_name (i := 4) nd rfl (.inl rfl)) (pgs_cons (pg_name (i := 5) nd rfl (.inl rfl)) pgs_nil))))
        (pss_cons (ps_if (pt_val (pv 4)) (pss_one ps_never) pss_nil)
        (pss_cons (ps_set (i := 6) nd rfl (.inl rfl) (C8.pe_c (c_child T.toTx) hr (by omega) rfl (pa_cons (pv 5) (pa_cons (pv 2) pa_nil))))
        (pss_cons (ps_set (i := 7) nd rfl (.inl rfl) (C8.pe_c ih hr (by omega) rfl (pa_cons (pv 0) (pa_cons (pe_ix ix_tup (pe_ix ix_list (pv 5) (pv 6) (fun _ _ => rfl)) pe_int (fun _ _ => rfl)) (pa_cons (pv 2) (pa_cons (pv 3) pa_nil))))))
        (pss_one (ps_ret (C8.pe_c (c_sv T.toTx) hr (by omega) rfl (pa_cons (pv 0) (pa_cons (pe_gi (by rfl) T.i_INNER) (pa_cons (pe_op op_cat (pe_op op_cat (pe_slice sl_list (pv 5) po_none (po_some (pv 6))) (pv 7)) (pe_slice sl_list (pv 5) (po_some (pe_op op_add (pv 6) pe_int)) po_none)) pa_nil))))))))), ?_⟩
      obtain ⟨kd, rs, hrec, hkd, hz1, hz8, hfits, hcase⟩ := nd_rows hnd
      rcases hcase with ⟨h, _⟩ | ⟨d', ks, hd, rfl, rfl, hp0, hk8, hsep, hkids, rfl, hphi⟩
      · omega
      obtain rfl : d' = d := by omega
      refine ⟨_, rfl, _, rfl, L, S, z, nv, p.ad, p.ln, 2, _, rfl, hL, hn, hrec, hkd, hz1, hz8, fun r hr => (hfits r hr).ok, fun t l us H2 hs2 ht hl hU => ?_⟩
      refine ⟨t, _, rfl, SqT.of ht, rfl, _, _, rfl, _, _, rfl, rfl, ?_⟩
      refine ⟨_, rfl, _, rfl, ?_⟩
      refine iteKF (by simp) ?_
      have hL2 := hL.keep hs2
      refine ⟨_, rfl, _, rfl, l, kv, _, n.key, rfl, ⟨us, SqL.of hl, hU⟩, hk.keep hs2, hz1, by omega, fun i hi => ?_⟩
      obtain ⟨kid, hkid, hsp⟩ := split_of hsep hi
      have hri : (ks.map (·.row))[i]? = some kid.row := by rw [List.getElem?_map, hkid]; rfl
      have hin : i < us.length := by rw [hU.1]; exact hi.1
      have hui : us[i]? = some us[i] := List.getElem?_eq_getElem hin
      obtain ⟨t3, kr, pr, e3, ht3, hkr, hpr⟩ := hU.2 i _ _ hui hri
      refine ⟨_, rfl, _, rfl, _, rfl, l, us, (i : Int), us[i], rfl, rfl, SqL.of hl, atI_nat hui, t3, [kr, pr], 1, pr, e3, rfl, ht3, atI_nat (j := 1) rfl, _, rfl, _, rfl, ?_⟩
      have hlw : l ≠ L.wl := rows_ne hl hU (by intro z; rw [z] at hz1; simp at hz1) hL2.hw
      refine ⟨L, S, z, pr, kv, pvv, n, kid.row, kid.es, kid.φ, rfl, hL2, hpr, (hkids kid (List.mem_of_getElem? hkid)).2, hk.keep hs2, hp.keep hs2, hfit, by omega, fun lo us1 ms H3 wb1 hlo sx hL3 hl3 hU3 hPB hx1 hw1 => ?_⟩
      have hlH3 := sx_lst sx hlw hl
      have hU13 : RowsV K H3 us (ks.map (·.row)) := sx.rowsV hL2.hw hU
      have hw3 := hL3.hw
      have c1 : cutV us none (some (i : Int)) = us.take i := cut_to us (by omega)
      have c2 : cutV us (some ((i : Int) + 1)) none = us.drop (i + 1) := by
        rw [show (i : Int) + 1 = ((i + 1 : Nat) : Int) by push_cast; rfl]
        exact cut_from us (by omega)
      have hul : us.length ≤ 8 := by rw [hU.1]; exact hz8
      have hms2 : us1.length ≤ 2 := by rw [hU3.1, List.length_map]; exact hPB.2.2.1
      refine ⟨_, rfl, _, rfl, _, rfl, (i : Int), rfl, l, us, rfl, SqL.of hlH3, fun p1 hp1 => ?_⟩
      rw [c1]
      have hs1' := same_upd0 (o := .lst (us.take i)) hp1
      refine ⟨_, rfl, p1, lo, us.take i, us1, rfl, rfl, upd_same, hs1' _ _ hl3, by rw [List.length_take, sizeLine_eq]; omega, fun p2 hp2 => ?_⟩
      have hs2' := hs1'.trans (same_upd0 (o := .lst (us.take i ++ us1)) hp2)
      refine ⟨_, rfl, _, rfl, (i : Int), 1, rfl, rfl, (i : Int) + 1, rfl, l, us, rfl, SqL.of (hs2' _ _ hlH3), fun p3 hp3 => ?_⟩
      rw [c2]
      have hs3' := same_upd0 (o := .lst (us.drop (i + 1))) hp3
      have hs3A := hs2'.trans hs3'
      refine ⟨p2, p3, us.take i ++ us1, us.drop (i + 1), rfl, rfl, hs3' _ _ upd_same, upd_same, by rw [List.length_append, List.length_take, List.length_drop, sizeLine_eq]; omega, fun p4 hp4 => ?_⟩
      have hs4A := hs3A.trans (same_upd0 (o := .lst (us.take i ++ us1 ++ us.drop (i + 1))) hp4)
      have hR : RowsV K H3 (us.take i ++ us1 ++ us.drop (i + 1)) ((ks.take i ++ ms ++ ks.drop (i + 1)).map (·.row)) := by
        rw [List.map_append, List.map_append, List.map_take, List.map_drop]
        exact ((hU13.take i).app hU3).app (hU13.drop (i + 1))
      refine ⟨L, ⟨S.fb, wb1⟩, z, 2, p4, _, _, rfl, hL3.keep hs4A, upd_same, hR.keep hs4A, ?_, fun r hr => ?_, by decide, ?_, fun lo2 us2 out H' wb' hlo2 sx2 hL' hl' hU' hsv hx2 hw2 hw2' => ?_⟩
      · have e := congrArg List.length hsp.eq
        have := hPB.2.2.1
        simp only [List.length_map, List.length_append, List.length_cons] at e ⊢
        omega
      · obtain ⟨y, hy, rfl⟩ := List.mem_map.mp hr
        rcases List.mem_append.mp hy with hy | hy
        · rcases List.mem_append.mp hy with hy | hy
          · exact (hkids y (List.mem_of_mem_take hy)).1
          · exact (hPB.1.1 y hy).1
        · exact (hkids y (List.mem_of_mem_drop hy)).1
      · show S.fb.length + wb1.length + 100 * (9 - 7) ≤ 16700000
        omega
      · obtain ⟨ms', hms', hPB'⟩ := put_inner (hx1.trans hx2) hx2 hp0 hk8 hsep hkids hphi hsp hPB hsv
        subst hms'
        have hlo2' : H3 lo2 = none := hs4A.free hlo2
        have hne2 : lo2 ≠ L.wl := new_ne (H1 := H3) hL3 hlo2'
        have sxA : SX L.wl H H' := (same_sx hs2 sx).trans (same_sx hs4A sx2)
        refine k lo2 us2 ms' H' wb' (hs2.free (sx.free hne2 hlo2')) sxA hL' hl' hU' hPB' (hx1.trans hx2) ?_
        have : (⟨S.fb, wb1⟩ : Sto).wb.length = wb1.length := rfl
        omega
end
end Tz
namespace Tz
open PySem PySem.Spec PyProof.Rows L2
theorem first_row {K : PySem.W.Frag} {H : Hp} {us : List V} {r : Row} {rest : List Row} (hU : RowsV K H us (r :: rest)) : ∃ t kr pr, us[0]? = some (.ref t) ∧ SqT K H t [kr, pr] ∧ TupI K H kr r.key ∧ TupI K H pr [r.ad, r.ln] := by
  have hl := hU.1
  obtain ⟨u, hu1⟩ : ∃ v, us[0]? = some v := ⟨us[0]'(by simp at hl; omega), List.getElem?_eq_getElem _⟩
  obtain ⟨t, kr, pr, rfl, a, b, c⟩ := hU.2 0 u r hu1 rfl
  exact ⟨t, kr, pr, hu1, a, b, c⟩
section
variable {P : Program} {w : World} {K : PySem.W.Frag} {mg : Str → Option Value} {base : Heap}
theorem sc_put : FnScope ["log", "root", "key", "pointer", "made"] ["log", "root", "key", "pointer"] (defScope (top 79)) := ⟨rfl, rfl, rfl, by decide +kernel, rfl, by decide +kernel, by decide +kernel⟩
theorem c_put (T : Ty P w K mg) : C8.Cal P w K mg base 14 "put" (spPut K) [] := by
  refine cal_of T.f_put (fun _ _ _ _ _ _ us hl => match us, hl with | [_, _, _, _], _ => rfl) sc_put (fun vs H Q E h => ?_) (fun f cdv A outer s H vs Q E hr h => ?_)
  · obtain ⟨L, S, z, rv, kv, pv, ad, ln, n, es, Ψ, rfl, _⟩ := h
    rfl
  · obtain ⟨L, S, z, rv, kv, pvv, ad, ln, n, es, Ψ, rfl, hL, hrv, hT, hΨ, hk, hp, hfit, hz, q⟩ := h
    have nd := sc_put.nd
    have hNo : TupI K H (.ref (He.ga K "NOTHING")) [0, 0] := ⟨_, rfl, T.nothing H⟩
    rcases hT with ⟨rfl, rfl, rfl⟩ | ⟨d, key0, φ, hnd, hφ⟩
    · refine ⟨_, pss_cons (ps_if (pt_cmpR (op_eqT hr.units) (pv 1) (pe_glob (by rfl) T.g_NOTHING (v := .ref (He.ga K "NOTHING")) rfl) (nomark _)) (pss_one (ps_ret (pe_ix ix_tup (pe_ix ix_list (C8.pe_c (c_sv T.toTx) hr (by decide) rfl (pa_cons (pv 0) (pa_cons (pe_gi (by rfl) T.i_LEAF)
          (pa_cons (pe_lst (pa_cons (pe_tup (pa_cons (pv 2) (pa_cons (pv 3) pa_nil))) pa_nil)) pa_nil)))) pe_int (fun _ _ => rfl)) pe_int (fun _ _ => rfl)))) pss_nil)
        (pss_cons ps_never (pss_cons ps_never (pss_one ps_never))), ?_⟩
      refine ⟨_, rfl, [0, 0], [0, 0], hrv, hNo, _, rfl, ?_⟩
      refine iteK (by simp) ?_
      refine ⟨_, rfl, _, rfl, _, rfl, (by show 2 ≤ sizeLine; decide), fun p1 hp1 => ⟨(by show 1 ≤ sizeLine; decide), fun p2 hp2 => ?_⟩⟩
      have hs1 := same_upd0 (o := .tup [kv, pvv]) hp1
      have hs2 := same_upd0 (o := .lst [.ref p1]) hp2
      have hsA := hs1.trans hs2
      refine ⟨L, S, z, 1, p2, [.ref p1], [n], rfl, hL.keep hsA, upd_same, RowsZ.v (ps := [(.ref p1, n)]) fun y hy => ?_, by simp, fun r hr => by rw [List.mem_singleton.mp hr]; exact hfit, by decide, by omega, fun lo us' out H' wb' hlo sx hL' hl' hU' hsv hx hw1 hw2 => ?_⟩
      · rw [List.mem_singleton.mp hy]
        exact ⟨p1, kv, pvv, rfl, SqT.of (hs2 _ _ upd_same), hk.keep hsA, hp.keep hsA⟩
      · obtain ⟨r, rfl, hrf, hTr⟩ := root_first hfit hsv
        obtain ⟨t, kr, pr, hu0, ht, hkr, hpr⟩ := first_row hU'
        refine ⟨lo, us', 0, .ref t, rfl, rfl, SqL.of hl', atI_nat (j := 0) hu0, t, [kr, pr], 1, pr, rfl, rfl, ht, atI_nat (j := 1) rfl, ?_⟩
        exact q pr r.ad r.ln H' wb' (same_sx hsA sx) hL' hpr (hTr Ψ) hx (by omega)
    · have hd5 := FF_bound hφ hΨ
      refine ⟨_, pss_cons (ps_if (pt_cmpR (op_eqT hr.units) (pv 1) (pe_glob (by rfl) T.g_NOTHING (v := .ref (He.ga K "NOTHING")) rfl) (nomark _)) (pss_one ps_never) pss_nil)
        (pss_cons (ps_set (i := 4) nd rfl (.inl rfl) (C8.pe_c (c_pb T d) hr (by omega) rfl (pa_cons (pv 0) (pa_cons (pv 1) (pa_cons (pv 2) (pa_cons (pv 3) pa_nil))))))
        (pss_cons (ps_if (pt_cmpR op_gt (pe_callB call_len (by rfl) T.n_len PySem.boot_len (pa_cons (pv 4) pa_nil)) pe_int (nomark _)) (pss_one (ps_set (i := 4) nd rfl (.inl rfl) (C8.pe_c (c_sv T.toTx) hr (by decide) rfl (pa_cons (pv 0) (pa_cons (pe_gi (by rfl) T.i_INNER) (pa_cons (pv 4) pa_nil)))))) pss_nil)
        (pss_one (ps_ret (pe_ix ix_tup (pe_ix ix_list (pv 4) pe_int (fun _ _ => rfl)) pe_int (fun _ _ => rfl)))))), ?_⟩
      have h3 := hnd.rec
      refine ⟨_, rfl, [ad, ln], [0, 0], hrv, hNo, _, rfl, ?_⟩
      refine iteKF (by simp at h3 ⊢; omega) ?_
      refine ⟨_, rfl, _, rfl, _, rfl, _, rfl, L, S, z, rv, kv, pvv, n, ⟨key0, ad, ln⟩, es, φ, rfl, hL, hrv, hnd, hk, hp, hfit, by omega, fun lo us ms H1 wb1 hlo sx1 hL1 hl1 hU1 hPB hx1 hw1 => ?_⟩
      have hm2 := hPB.2.2.1
      have hne := hPB.2.1
      have hul : us.length = ms.length := by rw [hU1.1, List.length_map]
      refine ⟨_, rfl, _, _, rfl, .inl ⟨_, SqL.of hl1, rfl⟩, _, _, rfl, rfl, _, rfl, ?_⟩
      by_cases h1 : ms.length = 1
      · refine iteKF (by rw [hul, h1]; rfl) ?_
        obtain ⟨m, rfl⟩ := List.length_eq_one_iff.mp h1
        obtain ⟨hrf, hTr⟩ := root_one hPB hφ (r := m.row) rfl
        obtain ⟨t, kr, pr, hu0, ht, hkr, hpr⟩ := first_row hU1
        refine ⟨_, rfl, lo, us, 0, .ref t, rfl, rfl, SqL.of hl1, atI_nat (j := 0) hu0, t, [kr, pr], 1, pr, rfl, rfl, ht, atI_nat (j := 1) rfl, ?_⟩
        exact q pr m.row.ad m.row.ln H1 wb1 sx1 hL1 hpr hTr hx1 (by omega)
      · have h2 : ms.length = 2 := by
          have : 1 ≤ ms.length := by
            cases ms with
            | nil => exact absurd rfl hne
            | cons _ _ => simp
          omega
        refine iteK (by rw [hul, h2]; rfl) ?_
        refine ⟨_, rfl, _, rfl, ?_⟩
        refine ⟨L, ⟨S.fb, wb1⟩, z, 2, lo, us, _, rfl, hL1, hl1, hU1, by rw [List.length_map]; omega, fun r hr => ?_, by decide, ?_, fun lo2 us2 out H2 wb2 hlo2 sx2 hL2 hl2 hU2 hsv hx2 hw2 hw2' => ?_⟩
        · obtain ⟨m, hm, rfl⟩ := List.mem_map.mp hr
          exact (hPB.1.1 m hm).1
        · show S.fb.length + wb1.length + 100 * (9 - 7) ≤ 16700000
          omega
        · obtain ⟨r, rfl, hrf, hTr⟩ := root_two hx2 hPB hφ h2 hsv
          obtain ⟨t, kr, pr, hu0, ht, hkr, hpr⟩ := first_row hU2
          refine ⟨_, rfl, lo2, us2, 0, .ref t, rfl, rfl, SqL.of hl2, atI_nat (j := 0) hu0, t, [kr, pr], 1, pr, rfl, rfl, ht, atI_nat (j := 1) rfl, ?_⟩
          have e : (⟨S.fb, wb1⟩ : Sto).wb.length = wb1.length := rfl
          exact q pr r.ad r.ln H2 wb2 (sx1.trans sx2) hL2 hpr hTr (hx1.trans hx2) (by omega)
end
end Tz
namespace Tz
open PySem PySem.Spec PyProof.Rows L2
def spRB (d : Nat) (K : PySem.W.Frag) : Sp := fun vs H Q _ => ∃ (L : LA) (S : Sto) (z : Int) (nv kv : V) (key : List Int) (p : Row) (es : List Row) (φ : Nat), vs = [.ref L.lg, nv, kv] ∧ LogR K H L S z ∧ TupI K H nv [p.ad, p.ln] ∧ Nd S d p es φ ∧ TupI K H kv key ∧
  S.fb.length + S.wb.length + 200 * (d + 1) ≤ 16700000 ∧ ∀ lo us ms H' wb', H lo = none → SX L.wl H H' → LogR K H' L ⟨S.fb, wb'⟩ z → H' lo = some (.lst us) → RowsV K H' us (ms.map (·.row)) → RM ⟨S.fb, wb'⟩ d key p es φ ms → Ext S ⟨S.fb, wb'⟩ → wb'.length ≤ S.wb.length + 200 * (d + 1) → Q (.ref lo) H'
def spLow (K : PySem.W.Frag) : Sp := fun vs H Q _ => ∃ (L : LA) (S : Sto) (z : Int) (rv : V) (d : Nat) (p : Row) (es : List Row) (φ : Nat), vs = [.ref L.lg, rv] ∧ LogR K H L S z ∧ TupI K H rv [p.ad, p.ln] ∧ Nd S d p es φ ∧
  ∀ v d' p' φ' H', Same H H' → TupI K H' v [p'.ad, p'.ln] → Nd S d' p' es φ' → φ' + FF d' ≤ φ + FF d → Q v H'
def spRem (K : PySem.W.Frag) : Sp := fun vs H Q _ => ∃ (L : LA) (S : Sto) (z : Int) (rv kv : V) (ad ln : Int) (key : List Int) (es : List Row) (Ψ : Nat), vs = [.ref L.lg, rv, kv] ∧ LogR K H L S z ∧ TupI K H rv [ad, ln] ∧ TreeR S ad ln es Ψ ∧ Ψ ≤ 5000 ∧ TupI K H kv key ∧ (∃ r, look key es = some r) ∧
  S.fb.length + S.wb.length + 1500 ≤ 16700000 ∧ ∀ v ad' ln' H' wb', SX L.wl H H' → LogR K H' L ⟨S.fb, wb'⟩ z → TupI K H' v [ad', ln'] → TreeR ⟨S.fb, wb'⟩ ad' ln' (del key es) Ψ → Ext S ⟨S.fb, wb'⟩ → wb'.length ≤ S.wb.length + 1500 → Q v H'
section
variable {P : Program} {w : World} {K : PySem.W.Frag} {mg : Str → Option Value} {base : Heap}
theorem sc_rb2 : FnScope ["log", "node", "key", "is_leaf", "rows", "at", "made", "row"] ["log", "node", "key"] (defScope (top 80)) := ⟨rfl, rfl, rfl, by decide +kernel, rfl, by decide +kernel, by decide +kernel⟩
theorem c_rbel (T : Ty P w K mg) : ∀ d, C8.Cal P w K mg base (d + 8) "remove_below" (spRB d K) [] := by
  intro d
  induction d with
  | zero =>
    refine cal_of T.f_remove_below (fun _ _ _ _ _ _ us hl => match us, hl with | [_, _, _], _ => rfl) sc_rb2 (fun vs H Q E h => ?_) (fun f cdv A outer s H vs Q E hr h => ?_)
    · obtain ⟨L, S, z, nv, kv, key, p, es, φ, rfl, _⟩ := h
      rfl
    · obtain ⟨L, S, z, nv, kv, key, p, es, φ, rfl, hL, hn, hnd, hk, hz, k⟩ := h
      have nd := sc_rb2.nd
      refine ⟨_, pss_cons (ps_asg (C8.pe_c (c_loadn T) hr (by decide) rfl (pa_cons (pv 0) (pa_cons (pv 1) pa_nil))) (pg_tup (by rfl) (pgs_cons (pg_name (i := 3) nd rfl (.inl rfl)) (pgs_cons (pg_name (i := 4) nd rfl (.inl rfl)) pgs_nil))))
        (pss_cons (ps_if (pt_val (pv 3)) (pss_one (ps_ret (C8.pe_c (c_sv T.toTx) hr (by decide) rfl (pa_cons (pv 0) (pa_cons (pe_gi (by rfl) T.i_LEAF) (pa_cons
            (pe_lc (own := [("row", 7)]) (g := gName 7) (tt := tTest (tOp (rEqT K fun ns ms => !decide (ns = ms)) (tOp (rIxT K) (tVar 7) (tC (.int 0))) (tVar 2))) rfl nd (pi_list (pv 4)) (blkOk_by (N := ["log", "node", "key", "is_leaf", "rows", "at", "made", "row"]) (sc := defScope (top 80)) (by decide +kernel))
              (fun _ _ _ _ _ => pg_name (i := 7) nd rfl (.inl rfl)) (fun _ _ _ _ _ => pts_one (pt_cmpR (op_neT hr.units) (pe_ix ix_tup (pv 7) pe_int (fun _ _ => rfl)) (pv 2) (nomark _))) (fun _ _ _ _ _ => pv 7)) pa_nil)))))) pss_nil)
        (pss_cons ps_never (pss_cons ps_never (pss_one ps_never)))), ?_⟩
      obtain ⟨kd, rs, hrec, hkd, hz1, hz8, hfits, hcase⟩ := nd_rows hnd
      rcases hcase with ⟨_, rfl, rfl⟩ | ⟨d', ks, h, _⟩
      · refine ⟨_, rfl, _, rfl, L, S, z, nv, p.ad, p.ln, 1, rs, rfl, hL, hn, hrec, hkd, hz1, hz8, fun r hr => (hfits r hr).ok, fun t l us H2 hs2 ht hl hU => ?_⟩
        refine ⟨t, _, rfl, SqT.of ht, rfl, _, _, rfl, _, _, rfl, rfl, ?_⟩
        refine ⟨_, rfl, _, rfl, ?_⟩
        refine iteK (by simp) ?_
        refine ⟨_, rfl, ?_⟩
        dsimp only [tCons, tC]
        obtain ⟨ps, rfl, rfl, hZ⟩ := hU.z
        refine tlc_list (s1 := 7) (xs := ps) (·.1) (fun q => !decide (q.2.key = key)) (·.1) (fun R h => ⟨_, rfl, h⟩) (SqL.of hl) (by simp at hz8; omega) (fun _ => rfl) (fun x H' R hx hs hk2 => ?_) (fun x H' R hx _ hs hk2 => ⟨_, rfl, hk2 H' (Same.refl _)⟩) (fun D H3 hs3 hD hd3 => ?_)
        · obtain ⟨t, kr, pr, e, ht, hkr, hpr⟩ := (hZ x hx).keep hs
          rw [e]
          exact ⟨_, rfl, t, [kr, pr], 0, kr, rfl, rfl, ht, atI_nat (j := 0) rfl, _, rfl, x.2.key, key, hkr, hk.keep (hs2.trans hs), _, rfl, hk2 H' (Same.refl _)⟩
        have hsA := hs2.trans hs3
        have hU3 : RowsV K H3 ((ps.filter fun q => !decide (q.2.key = key)).map (·.1)) (del key (ps.map (·.2))) := by
          unfold del
          rw [← filter_snd (p := fun r => !decide (r.key = key))]
          exact RowsZ.v ((hZ.sub fun q hq => (List.mem_filter.mp hq).1).keep hs3)
        refine ⟨L, S, z, 1, D, _, _, rfl, hL.keep hsA, hd3, hU3, ?_, fun r hr => hfits r (del_mem hr).1, by decide, by omega, fun lo us' out H' wb' hlo sx hL' hl' hU' hsv hx hw1 hw2 => ?_⟩
        · have : (del key (ps.map (·.2))).length ≤ (ps.map (·.2)).length := List.length_filter_le _ _
          omega
        · obtain ⟨ms, hms, hRM⟩ := remove_leaf hnd hsv
          subst hms
          exact k lo us' ms H' wb' (hsA.free hlo) (same_sx hsA sx) hL' hl' hU' hRM hx (by omega)
      · omega
  | succ d ih =>
    refine cal_of T.f_remove_below (fun _ _ _ _ _ _ us hl => match us, hl with | [_, _, _], _ => rfl) sc_rb2 (fun vs H Q E h => ?_) (fun f cdv A outer s H vs Q E hr h => ?_)
    · obtain ⟨L, S, z, nv, kv, key, p, es, φ, rfl, _⟩ := h
      rfl
    · obtain ⟨L, S, z, nv, kv, key, p, es, φ, rfl, hL, hn, hnd, hk, hz, k⟩ := h
      have nd := sc_rb2.nd
      refine ⟨_, pss_cons (ps_asg (C8.pe_c (c_loadn T) hr (by omega) rfl (pa_cons (pv 0) (pa_cons (pv 1) pa_nil))) (pg_tup (by rfl) (pgs_cons (pg_name (i := 3) nd rfl (.inl rfl)) (pgs_cons (pg_name (i := 4) nd rfl (.inl rfl)) pgs_nil))))
        (pss_cons (ps_if (pt_val (pv 3)) (pss_one ps_never) pss_nil)
        (pss_cons (ps_set (i := 5) nd rfl (.inl rfl) (C8.pe_c (c_child T.toTx) hr (by omega) rfl (pa_cons (pv 4) (pa_cons (pv 2) pa_nil))))
        (pss_cons (ps_set (i := 6) nd rfl (.inl rfl) (C8.pe_c ih hr (by omega) rfl (pa_cons (pv 0) (pa_cons (pe_ix ix_tup (pe_ix ix_list (pv 4) (pv 5) (fun _ _ => rfl)) pe_int (fun _ _ => rfl)) (pa_cons (pv 2) pa_nil)))))
        (pss_one (ps_ret (C8.pe_c (c_sv T.toTx) hr (by omega) rfl (pa_cons (pv 0) (pa_cons (pe_gi (by rfl) T.i_INNER) (pa_cons (pe_op op_cat (pe_op op_cat (pe_slice sl_list (pv 4) po_none (po_some (pv 5))) (pv 6)) (pe_slice sl_list (pv 4) (po_some (pe_op op_add (pv 5) pe_int)) po_none)) pa_nil))))))))), ?_⟩
      obtain ⟨kd, rs, hrec, hkd, hz1, hz8, hfits, hcase⟩ := nd_rows hnd
      rcases hcase with ⟨h, _⟩ | ⟨d', ks, hd, rfl, rfl, hp0, hk8, hsep, hkids, rfl, hphi⟩
      · omega
      obtain rfl : d' = d := by omega
      refine ⟨_, rfl, _, rfl, L, S, z, nv, p.ad, p.ln, 2, _, rfl, hL, hn, hrec, hkd, hz1, hz8, fun r hr => (hfits r hr).ok, fun t l us H2 hs2 ht hl hU => ?_⟩
      refine ⟨t, _, rfl, SqT.of ht, rfl, _, _, rfl, _, _, rfl, rfl, ?_⟩
      refine ⟨_, rfl, _, rfl, ?_⟩
      refine iteKF (by simp) ?_
      have hL2 := hL.keep hs2
      refine ⟨_, rfl, _, rfl, l, kv, _, key, rfl, ⟨us, SqL.of hl, hU⟩, hk.keep hs2, hz1, by omega, fun i hi => ?_⟩
      obtain ⟨kid, hkid, hsp⟩ := split_of hsep hi
      have hri : (ks.map (·.row))[i]? = some kid.row := by rw [List.getElem?_map, hkid]; rfl
      have hin : i < us.length := by rw [hU.1]; exact hi.1
      have hui : us[i]? = some us[i] := List.getElem?_eq_getElem hin
      obtain ⟨t3, kr, pr, e3, ht3, hkr, hpr⟩ := hU.2 i _ _ hui hri
      refine ⟨_, rfl, _, rfl, _, rfl, l, us, (i : Int), us[i], rfl, rfl, SqL.of hl, atI_nat hui, t3, [kr, pr], 1, pr, e3, rfl, ht3, atI_nat (j := 1) rfl, _, rfl, ?_⟩
      have hlw : l ≠ L.wl := rows_ne hl hU (by intro z; rw [z] at hz1; simp at hz1) hL2.hw
      refine ⟨L, S, z, pr, kv, key, kid.row, kid.es, kid.φ, rfl, hL2, hpr, (hkids kid (List.mem_of_getElem? hkid)).2, hk.keep hs2, by omega, fun lo us1 ms H3 wb1 hlo sx hL3 hl3 hU3 hRM hx1 hw1 => ?_⟩
      have hlH3 := sx_lst sx hlw hl
      have hU13 : RowsV K H3 us (ks.map (·.row)) := sx.rowsV hL2.hw hU
      have hw3 := hL3.hw
      have c1 : cutV us none (some (i : Int)) = us.take i := cut_to us (by omega)
      have c2 : cutV us (some ((i : Int) + 1)) none = us.drop (i + 1) := by
        rw [show (i : Int) + 1 = ((i + 1 : Nat) : Int) by push_cast; rfl]
        exact cut_from us (by omega)
      have hul : us.length ≤ 8 := by rw [hU.1]; exact hz8
      have hms2 : us1.length ≤ 1 := by rw [hU3.1, List.length_map]; exact hRM.2.1
      refine ⟨_, rfl, _, rfl, _, rfl, (i : Int), rfl, l, us, rfl, SqL.of hlH3, fun p1 hp1 => ?_⟩
      rw [c1]
      have hs1' := same_upd0 (o := .lst (us.take i)) hp1
      refine ⟨_, rfl, p1, lo, us.take i, us1, rfl, rfl, upd_same, hs1' _ _ hl3, by rw [List.length_take, sizeLine_eq]; omega, fun p2 hp2 => ?_⟩
      have hs2' := hs1'.trans (same_upd0 (o := .lst (us.take i ++ us1)) hp2)
      refine ⟨_, rfl, _, rfl, (i : Int), 1, rfl, rfl, (i : Int) + 1, rfl, l, us, rfl, SqL.of (hs2' _ _ hlH3), fun p3 hp3 => ?_⟩
      rw [c2]
      have hs3' := same_upd0 (o := .lst (us.drop (i + 1))) hp3
      have hs3A := hs2'.trans hs3'
      refine ⟨p2, p3, us.take i ++ us1, us.drop (i + 1), rfl, rfl, hs3' _ _ upd_same, upd_same, by rw [List.length_append, List.length_take, List.length_drop, sizeLine_eq]; omega, fun p4 hp4 => ?_⟩
      have hs4A := hs3A.trans (same_upd0 (o := .lst (us.take i ++ us1 ++ us.drop (i + 1))) hp4)
      have hR : RowsV K H3 (us.take i ++ us1 ++ us.drop (i + 1)) ((ks.take i ++ ms ++ ks.drop (i + 1)).map (·.row)) := by
        rw [List.map_append, List.map_append, List.map_take, List.map_drop]
        exact ((hU13.take i).app hU3).app (hU13.drop (i + 1))
      refine ⟨L, ⟨S.fb, wb1⟩, z, 2, p4, _, _, rfl, hL3.keep hs4A, upd_same, hR.keep hs4A, ?_, fun r hr => ?_, by decide, ?_, fun lo2 us2 out H' wb' hlo2 sx2 hL' hl' hU' hsv hx2 hw2 hw2' => ?_⟩
      · have e := congrArg List.length hsp.eq
        have := hRM.2.1
        simp only [List.length_map, List.length_append, List.length_cons] at e ⊢
        omega
      · obtain ⟨y, hy, rfl⟩ := List.mem_map.mp hr
        rcases List.mem_append.mp hy with hy | hy
        · rcases List.mem_append.mp hy with hy | hy
          · exact (hkids y (List.mem_of_mem_take hy)).1
          · exact (hRM.1.1 y hy).1
        · exact (hkids y (List.mem_of_mem_drop hy)).1
      · show S.fb.length + wb1.length + 100 * (9 - 7) ≤ 16700000
        omega
      · obtain ⟨ms', hms', hRM'⟩ := remove_inner (hx1.trans hx2) hx2 hp0 hk8 hsep hkids hphi hsp hRM hsv
        subst hms'
        have hlo2' : H3 lo2 = none := hs4A.free hlo2
        have hne2 : lo2 ≠ L.wl := new_ne (H1 := H3) hL3 hlo2'
        have sxA : SX L.wl H H' := (same_sx hs2 sx).trans (same_sx hs4A sx2)
        refine k lo2 us2 ms' H' wb' (hs2.free (sx.free hne2 hlo2')) sxA hL' hl' hU' hRM' (hx1.trans hx2) ?_
        have : (⟨S.fb, wb1⟩ : Sto).wb.length = wb1.length := rfl
        omega
theorem sc_low : FnScope ["log", "root", "is_leaf", "rows"] ["log", "root"] (defScope (top 81)) := ⟨rfl, rfl, rfl, by decide +kernel, rfl, by decide +kernel, by decide +kernel⟩
theorem c_low (T : Ty P w K mg) : C8.Cal P w K mg base 7 "lowered" (spLow K) [] := by
  refine cal_of T.f_lowered (fun _ _ _ _ _ _ us hl => match us, hl with | [_, _], _ => rfl) sc_low (fun vs H Q E h => ?_) (fun f cdv A outer s H vs Q E hr h => ?_)
  · obtain ⟨L, S, z, rv, d, p, es, φ, rfl, _⟩ := h
    rfl
  · obtain ⟨L, S, z, rv, d, p, es, φ, rfl, hL, hrv, hnd, k⟩ := h
    have nd := sc_low.nd
    refine ⟨_, pss_cons (ps_asg (C8.pe_c (c_loadn T) hr (by decide) rfl (pa_cons (pv 0) (pa_cons (pv 1) pa_nil))) (pg_tup (by rfl) (pgs_cons (pg_name (i := 2) nd rfl (.inl rfl)) (pgs_cons (pg_name (i := 3) nd rfl (.inl rfl)) pgs_nil))))
      (pss_cons (ps_while PassesOwn.never (PW.pt (pw_and (pt_not (pt_val (pv 2))) (pw_and1 (pt_cmpR op_eq (pe_callB call_len (by rfl) T.n_len PySem.boot_len (pa_cons (pv 3) pa_nil)) pe_int (nomark _)))))
        (pss_cons (ps_set (i := 1) nd rfl (.inl rfl) (pe_ix ix_tup (pe_ix ix_list (pv 3) pe_int (fun _ _ => rfl)) pe_int (fun _ _ => rfl)))
        (pss_one (ps_asg (C8.pe_c (c_loadn T) hr (by decide) rfl (pa_cons (pv 0) (pa_cons (pv 1) pa_nil))) (pg_tup (by rfl) (pgs_cons (pg_name (i := 2) nd rfl (.inl rfl)) (pgs_cons (pg_name (i := 3) nd rfl (.inl rfl)) pgs_nil)))))))
      (pss_one (ps_ret (pv 1)))), ?_⟩
    obtain ⟨kd, rs, hrec, hkd, hz1, hz8, hfits, hcase⟩ := nd_rows hnd
    refine ⟨_, rfl, _, rfl, L, S, z, rv, p.ad, p.ln, kd, rs, rfl, hL, hrv, hrec, hkd, hz1, hz8, fun r hr => (hfits r hr).ok, fun t l us H2 hs2 ht hl hU => ?_⟩
    refine ⟨t, _, rfl, SqT.of ht, rfl, _, _, rfl, _, _, rfl, rfl, ?_⟩
    refine ⟨fun m σ H' => Same H H' ∧ ∃ (rv : V) (d' : Nat) (p' : Row) (φ' : Nat) (l : Addr) (us : List V) (kd : Int) (rs : List Row), m = d' ∧ TupI K H' rv [p'.ad, p'.ln] ∧ Nd S d' p' es φ' ∧ φ' + FF d' ≤ φ + FF d ∧ H' l = some (.lst us) ∧ RowsV K H' us rs ∧ (kd = 1 ∨ kd = 2) ∧
        ((d' = 0 ∧ kd = 1 ∧ rs = es) ∨ ∃ d'' ks, d' = d'' + 1 ∧ kd = 2 ∧ rs = ks.map (·.row) ∧ (∃ x rest, ks = x :: rest ∧ p'.key = x.row.key) ∧ ks.length ≤ 8 ∧ ks.Pairwise Sep ∧ (∀ k ∈ ks, k.row.Fit ∧ Nd S d'' k.row k.es k.φ) ∧ es = flat ks ∧ 4 ^ (d'' + 1) * (ks.length - 5) + phis ks ≤ φ') ∧
        σ = [some (.ref L.lg), some rv, some (.bl (decide (kd = 1))), some (.ref l)],
      ⟨d, hs2, rv, d, p, φ, l, us, kd, rs, rfl, hrv.keep hs2, hnd, Nat.le_refl _, hl, hU, hkd, hcase, rfl⟩, ?_⟩
    rintro m σ H' ⟨hs, rv', d', p', φ', l', us', kd', rs', rfl, hrv', hnd', hφ', hl', hU', hkd', hcase', rfl⟩
    rcases hcase' with ⟨rfl, rfl, rfl⟩ | ⟨d'', ks, rfl, rfl, rfl, ⟨x, rest, rfl, hpk⟩, hk8, hsep, hkids, rfl, hphi⟩
    · refine ⟨_, rfl, _, rfl, ?_⟩
      refine iteKF (by simp) ?_
      refine iteKF rfl ?_
      exact ⟨_, rfl, k rv' 0 p' φ' H' hs hrv' hnd' hφ'⟩
    · refine ⟨_, rfl, _, rfl, ?_⟩
      refine iteK (by simp) ?_
      refine ⟨_, rfl, _, _, rfl, .inl ⟨_, SqL.of hl', rfl⟩, rfl, _, rfl, ?_⟩
      have hul : us'.length = rest.length + 1 := by rw [hU'.1]; simp
      by_cases h1 : rest = []
      · subst h1
        refine iteK (by rw [hul]; rfl) ?_
        refine ⟨_, fun _ _ h => h, ?_⟩
        obtain ⟨t2, kr, pr, hu0, ht2, hkr, hpr⟩ := first_row hU'
        refine ⟨_, rfl, l', us', 0, .ref t2, rfl, rfl, SqL.of hl', atI_nat (j := 0) hu0, t2, [kr, pr], 1, pr, rfl, rfl, ht2, atI_nat (j := 1) rfl, ?_⟩
        have hx := hkids x List.mem_cons_self
        obtain ⟨kd2, rs2, hrec2, hkd2, hz12, hz82, hfits2, hcase2⟩ := nd_rows hx.2
        refine ⟨_, rfl, _, rfl, L, S, z, pr, x.row.ad, x.row.ln, kd2, rs2, rfl, hL.keep hs, hpr, hrec2, hkd2, hz12, hz82, fun r hr => (hfits2 r hr).ok, fun t3 l3 us3 H3 hs3 ht3 hl3 hU3 => ?_⟩
        refine ⟨t3, _, rfl, SqT.of ht3, rfl, _, _, rfl, _, _, rfl, rfl, ?_⟩
        have hfx : flat [x] = x.es := by simp [flat]
        rw [hfx]
        refine ⟨d'', by omega, hs.trans hs3, pr, d'', x.row, x.φ, l3, us3, kd2, rs2, rfl, hpr.keep hs3, hx.2, ?_, hl3, hU3, hkd2, hcase2, rfl⟩
        have e1 : phis [x] = x.φ := by simp [phis]
        rw [e1] at hphi
        have e2 : FF (d'' + 1) = FF d'' + 4 ^ (d'' + 1) := rfl
        have e3 : 0 < 4 ^ (d'' + 1) := Nat.pow_pos (by decide)
        omega
      · have : rest.length ≠ 0 := fun z => h1 (List.eq_nil_of_length_eq_zero z)
        refine iteKF (decide_eq_false fun z => by have := V.int.inj z; omega) ?_
        exact ⟨_, rfl, k rv' (d'' + 1) p' φ' H' hs hrv' hnd' hφ'⟩
theorem sc_rem : FnScope ["log", "root", "key", "made"] ["log", "root", "key"] (defScope (top 82)) := ⟨rfl, rfl, rfl, by decide +kernel, rfl, by decide +kernel, by decide +kernel⟩
theorem c_rem (T : Ty P w K mg) : C8.Cal P w K mg base 14 "remove" (spRem K) [] := by
  refine cal_of T.f_remove (fun _ _ _ _ _ _ us hl => match us, hl with | [_, _, _], _ => rfl) sc_rem (fun vs H Q E h => ?_) (fun f cdv A outer s H vs Q E hr h => ?_)
  · obtain ⟨L, S, z, rv, kv, ad, ln, key, es, Ψ, rfl, _⟩ := h
    rfl
  · obtain ⟨L, S, z, rv, kv, ad, ln, key, es, Ψ, rfl, hL, hrv, hT, hΨ, hk, ⟨r0, hlook⟩, hz, q⟩ := h
    have nd := sc_rem.nd
    have hT0 := hT
    rcases hT with ⟨rfl, rfl, rfl⟩ | ⟨d, key0, φ, hnd, hφ⟩
    · cases hlook
    · have hd5 := FF_bound hφ hΨ
      refine ⟨_, pss_cons (ps_if (pt_cmp (pc_isN (C8.pe_c (c_find T) hr (by decide) rfl (pa_cons (pv 0) (pa_cons (pv 1) (pa_cons (pv 2) pa_nil)))))) (pss_one ps_never) pss_nil)
        (pss_cons (ps_set (i := 3) nd rfl (.inl rfl) (C8.pe_c (c_rbel T d) hr (by omega) rfl (pa_cons (pv 0) (pa_cons (pv 1) (pa_cons (pv 2) pa_nil)))))
        (pss_cons (ps_if (pt_cmpR op_eq (pe_callB call_len (by rfl) T.n_len PySem.boot_len (pa_cons (pv 3) pa_nil)) pe_int (nomark _)) (pss_one (ps_ret (pe_glob (by rfl) T.g_NOTHING (v := .ref (He.ga K "NOTHING")) rfl))) pss_nil)
        (pss_one (ps_ret (C8.pe_c (c_low T) hr (by decide) rfl (pa_cons (pv 0) (pa_cons (pe_ix ix_tup (pe_ix ix_list (pv 3) pe_int (fun _ _ => rfl)) pe_int (fun _ _ => rfl)) pa_nil))))))), ?_⟩
      refine ⟨_, rfl, _, rfl, _, rfl, L, S, z, rv, kv, ad, ln, key, es, Ψ, rfl, hL, hrv, hT0, hk, fun h => (by rw [h] at hlook; cases hlook), fun r _ v H1 hs1 hv => ?_⟩
      obtain ⟨va, rfl, hva⟩ := hv
      refine ⟨_, rfl, ?_⟩
      refine iteKF (by simp) ?_
      refine ⟨_, rfl, _, rfl, _, rfl, L, S, z, rv, kv, key, ⟨key0, ad, ln⟩, es, φ, rfl, hL.keep hs1, hrv.keep hs1, hnd, hk.keep hs1, by omega, fun lo us ms H2 wb1 hlo sx1 hL1 hl1 hU1 hRM hx1 hw1 => ?_⟩
      refine ⟨_, rfl, _, _, rfl, .inl ⟨_, SqL.of hl1, rfl⟩, rfl, _, rfl, ?_⟩
      have hul : us.length = ms.length := by rw [hU1.1, List.length_map]
      obtain ⟨⟨a1, a2, a3⟩, b1, b2, b3⟩ := hRM
      match ms, hul, b1, hU1, a1, a2, a3, b2, b3 with
      | [], hul, b1, hU1, a1, a2, a3, b2, b3 =>
        refine iteK (by rw [hul]; rfl) ?_
        refine q _ 0 0 H2 wb1 (same_sx hs1 sx1) hL1 ⟨_, rfl, T.nothing H2⟩ (.inl ⟨rfl, rfl, ?_⟩) hx1 (by omega)
        rw [← a3]
        rfl
      | [m], hul, b1, hU1, a1, a2, a3, b2, b3 =>
        refine iteKF (by rw [hul]; rfl) ?_
        have hm := a1 m List.mem_cons_self
        obtain ⟨t, kr, pr, hu0, ht, hkr, hpr⟩ := first_row hU1
        have hfm : flat [m] = m.es := by simp [flat]
        rw [hfm] at a3
        refine ⟨_, rfl, _, rfl, lo, us, 0, .ref t, rfl, rfl, SqL.of hl1, atI_nat (j := 0) hu0, t, [kr, pr], 1, pr, rfl, rfl, ht, atI_nat (j := 1) rfl, ?_⟩
        refine ⟨L, ⟨S.fb, wb1⟩, z, pr, d, m.row, del key es, m.φ, rfl, hL1, hpr, by rw [← a3]; exact hm.2, fun v d' p' φ' H3 hs3 hv3 hnd3 hφ3 => ?_⟩
        have e1 : phis [m] = m.φ := by simp [phis]
        rw [e1] at b3
        exact q v p'.ad p'.ln H3 wb1 ((same_sx hs1 sx1).thenSame hs3) (hL1.keep hs3) hv3 (.inr ⟨d', p'.key, φ', hnd3, by omega⟩) hx1 (by omega)
      | _ :: _ :: _, hul, b1, hU1, a1, a2, a3, b2, b3 => simp at b1
end
end Tz
namespace Tz
open PySem PySem.Spec PyProof.Rows L2
/-- with the generator entries -/
structure Te (P : Program) (w : World) (K : PySem.W.Frag) (mg : Str → Option Value) : Prop extends Ty P w K mg where
  ent : mg "entries" = some (.ref (He.ga K "entries")) ∧ ∃ (fd : FuncData) (t0 : Addr), FunD K "entries" "entries" (defArgs (top 84)) (defBody (top 84)) (defScope (top 84)) [] [("low", .ref t0), ("high", .non)] (He.ga K "entries") fd ∧ ∀ H, SqT K H t0 []
/-- [f(i) for i in range(n) if c], c always true -/
theorem tlc_rangeT {K : PySem.W.Frag} {n : Nat} {lo : Int} {s1 : Nat} {σ : L2.St} {H : Hp} {Q : VK} {wi : L2.TI} {te : TE} {tt : TT} (f : Nat → V) (hwi : ∀ R : It → Hp → Prop, R (Itr lo n) H → wi σ H R) (hz : n ≤ 100000)
    (hw : ∀ x, wipe ((wipe σ [s1]).set s1 x) [s1] = wipe σ [s1])
    (turn : ∀ i H' (R : Bool → Hp → Prop), i < n → Same H H' → (∀ H4, Same H' H4 → R true H4) → tt ((wipe σ [s1]).set s1 (some (.int (lo + i)))) H' R)
    (turn2 : ∀ i H' (R : VK), i < n → Same H H' → (∀ H4, Same H' H4 → R (f i) H4) → te ((wipe σ [s1]).set s1 (some (.int (lo + i)))) H' R)
    (k : ∀ D H', Same H H' → H D = none → H' D = some (.lst ((List.range n).map f)) → Q (.ref D) H') :
    tLc wi (gName s1) tt te [s1] σ H Q := by
  refine hwi _ fun D hD => ?_
  refine lc_range (lo := lo) (n := n) (fun i H' => Same H H' ∧ H' D = some (.lst ((List.range i).map f))) ⟨same_upd0 hD, upd_same⟩ ?_ ?_
  · rintro i H' hi ⟨hs, hd⟩
    refine ⟨hw _, ?_⟩
    refine turn i H' _ hi hs fun H3 h3 => ?_
    rw [if_pos rfl]
    refine turn2 i H3 _ hi (hs.trans h3) fun H4 h4 => ?_
    refine ⟨_, h4 D _ (h3 D _ hd), ?_, same_updD ((hs.trans h3).trans h4) hD, ?_⟩
    · rw [List.length_map, List.length_range, sizeLine_eq]; omega
    · rw [upd_same, List.range_succ, List.map_append]; rfl
  · rintro H' ⟨hs, hd⟩
    exact k D H' hs hD hd
def spReach (K : PySem.W.Frag) : Sp := fun vs H Q _ => ∃ (l : Addr) (i : Nat) (lo : V) (rs : List Row), vs = [.ref l, .int i, lo, .non] ∧ RowsR K H l rs ∧ i < rs.length ∧ (∀ r, rs[i + 1]? = some r → r.key ≠ []) ∧ TupI K H lo [] ∧ Q (.bl true) H
/-- what entries hands out -/
def spEnt (K : PySem.W.Frag) : SpG := fun vs H cont _ => ∃ (L : LA) (S : Sto) (z : Int) (rv lo : V) (ad ln : Int) (es : List Row) (Ψ : Nat), vs = [.ref L.lg, rv, lo, .non] ∧ LogR K H L S z ∧ TupI K H rv [ad, ln] ∧ TreeR S ad ln es Ψ ∧ Ψ ≤ 5000 ∧ TupI K H lo [] ∧ es.length ≤ 100000 ∧
  ∀ ys H', Same H H' → RowsV K H' ys es → cont ys H'
/-- over a list, in a generator -/
theorem for_listG {K : PySem.W.Frag} {a : Addr} {xs : List V} {g : TG} {tb : TGn} {D : GEnds} {ys : List V} {σ : L2.St} {H : Hp} (Pv : Nat → List V → L2.St → Hp → Prop) (h0 : Pv 0 ys σ H) (hl : ∀ i ys σ H, i ≤ xs.length → Pv i ys σ H → SqL K H a xs)
    (hs : ∀ i x ys σ H, xs[i]? = some x → Pv i ys σ H → g x σ H fun σ2 H2 => tb { D with nx := Pv (i + 1), ct := Pv (i + 1), bk := D.nx } ys σ2 H2) (hd : ∀ ys σ H, Pv xs.length ys σ H → D.nx ys σ H) :
    ∃ W : Nat → Nat → List V → L2.St → Hp → Prop, (∃ m, W 0 m ys σ H) ∧ ∀ i m ys σ H, W i m ys σ H →
      ((Itl K a).stop i H ∧ D.nx ys σ H) ∨ ((Itl K a).go i H ∧ ∃ N : List V → L2.St → Hp → Prop, (∀ ys' σ' H', N ys' σ' H' → ∃ m', m' < m ∧ W (i + 1) m' ys' σ' H') ∧ ∀ x H', (Itl K a).yld i H x H' → g x σ H' fun σ2 H2 => tb { D with nx := N, ct := N, bk := D.nx } ys σ2 H2) := by
  refine ⟨fun i m ys σ H => m = xs.length - i ∧ i ≤ xs.length ∧ Pv i ys σ H, ⟨xs.length, by simp, Nat.zero_le _, h0⟩, ?_⟩
  rintro i m ys σ H ⟨rfl, hi, p⟩
  have q := hl i ys σ H hi p
  by_cases hlt : i < xs.length
  · refine .inr ⟨⟨xs, xs[i], q, by simp [hlt]⟩, Pv (i + 1), fun ys' σ' H' p' => ⟨xs.length - (i + 1), by omega, rfl, hlt, p'⟩, fun x H' y => ?_⟩
    obtain ⟨e, y⟩ := y
    subst e
    exact hs i x ys σ _ (y xs q) p
  · have e : i = xs.length := by omega
    subst e
    exact .inl ⟨⟨xs, q, Nat.le_refl _⟩, hd ys σ H p⟩
theorem nil_or_snoc {α : Type} (l : List α) : l = [] ∨ ∃ r x, l = r ++ [x] := by
  rcases List.eq_nil_or_concat l with h | ⟨r, x, h⟩
  · exact .inl h
  · exact .inr ⟨r, x, by rw [h, List.concat_eq_append]⟩
theorem kl_nil_r : ∀ a : List Int, kl a [] = false
  | [] => rfl
  | _ :: _ => rfl
theorem gthen_lc {wi : L2.TI} {g : TG} {tt : TT} {te : TE} {vs : List Nat} {i : Nat} {u : TGn} {D : GEnds} {ys : List V} {σ : L2.St} {H : Hp} (h : tLc wi g tt te vs σ H (fun x H1 => gName i x σ H1 (fun σ' H' => u D ys σ' H'))) : tGThen (tPlain (tAsg (tLc wi g tt te vs) (gName i))) u D ys σ H := h
section
variable {P : Program} {w : World} {K : PySem.W.Frag} {mg : Str → Option Value} {base : Heap}
theorem sc_reach : FnScope ["rows", "at", "low", "high"] ["rows", "at", "low", "high"] (defScope (top 83)) := ⟨rfl, rfl, rfl, by decide +kernel, rfl, by decide +kernel, by decide +kernel⟩
theorem c_reach (T : Tx K mg) : C8.Cal P w K mg base 1 "reaches" (spReach K) [] := by
  refine cal_of T.f_reaches (fun _ _ _ _ _ _ us hl => match us, hl with | [_, _, _, _], _ => rfl) sc_reach (fun vs H Q E h => ?_) (fun f cdv A outer s H vs Q E hr h => ?_)
  · obtain ⟨l, i, lo, rs, rfl, _⟩ := h
    rfl
  · obtain ⟨l, i, lo, rs, rfl, ⟨us, hl, hU⟩, hi, hne, hlo, q⟩ := h
    have nd := sc_reach.nd
    refine ⟨_, pss_cons (ps_if (PW.pt (pw_and (pt_cmp (pc_notN (pv 3))) (pw_and1 (pt_cmpR (op_geT hr.units0) (pe_ix ix_tup (pe_ix ix_list (pv 0) (pv 1) (fun _ _ => rfl)) pe_int (fun _ _ => rfl)) (pv 3) (nomark _))))) (pss_one ps_never) pss_nil)
      (pss_one (ps_ret (pe_or (pe_cmpR op_ge (pe_op op_add (pv 1) pe_int) (pe_callB call_len (by rfl) T.n_len PySem.boot_len (pa_cons (pv 0) pa_nil)) (nomark _))
        (pe_one (pe_cmpR (op_gt2 hr.units0) (pe_ix ix_tup (pe_ix ix_list (pv 0) (pe_op op_add (pv 1) pe_int) (fun _ _ => rfl)) pe_int (fun _ _ => rfl)) (pv 2) (nomark _)))))), ?_⟩
    refine ⟨_, rfl, _, rfl, ?_⟩
    refine iteKF (by simp) ?_
    refine iteKF rfl ?_
    refine ⟨_, rfl, (i : Int), 1, rfl, rfl, _, rfl, _, _, rfl, .inl ⟨_, hl, rfl⟩, _, _, rfl, rfl, _, rfl, ?_⟩
    by_cases hc : i + 1 < rs.length
    · refine iteKF (decide_eq_false (by rw [hU.1]; omega)) ?_
      obtain ⟨r, hr1⟩ : ∃ x, rs[i + 1]? = some x := ⟨rs[i + 1], List.getElem?_eq_getElem hc⟩
      obtain ⟨u, hu1⟩ : ∃ x, us[i + 1]? = some x := ⟨us[i + 1]'(by rw [hU.1]; exact hc), List.getElem?_eq_getElem _⟩
      obtain ⟨t, kr, pr, rfl, ht, hkr, hpr⟩ := hU.2 (i + 1) u r hu1 hr1
      refine ⟨_, rfl, _, rfl, (i : Int), 1, rfl, rfl, l, us, (i : Int) + 1, .ref t, rfl, rfl, hl, by rw [show (i : Int) + 1 = ((i + 1 : Nat) : Int) by push_cast; rfl]; exact atI_nat hu1, t, [kr, pr], 0, kr, rfl, rfl, ht, atI_nat (j := 0) rfl, _, rfl, r.key, [], hkr, hlo, ?_⟩
      have : kl [] r.key = true := by
        cases e : r.key with
        | nil => exact absurd e (hne r hr1)
        | cons a b => rfl
      show Q (.bl (kl [] r.key)) H
      rw [this]
      exact q
    · refine iteK (decide_eq_true (by rw [hU.1]; omega)) ?_
      exact q
theorem gsc_ent : GScope ["log", "root", "low", "high", "waiting", "is_leaf", "rows", "key", "pointer", "below", "at"] ["log", "root", "low", "high"] (defScope (top 84)) := ⟨rfl, rfl, rfl, by decide +kernel, rfl, by decide +kernel, by decide +kernel⟩
/-- what waits: a value, its row, what is below, its depth -/
structure Wt where
  v : V
  row : Row
  es : List Row
  d : Nat
def wts (l : List Wt) : Nat := (l.map fun x => 9 ^ x.d).sum
theorem wts_append (a b : List Wt) : wts (a ++ b) = wts a + wts b := by simp [wts]
theorem wts_le {l : List Wt} {d : Nat} (h : ∀ x ∈ l, x.d = d) (h8 : l.length ≤ 8) : wts l ≤ 8 * 9 ^ d := by
  have : ∀ l : List Wt, (∀ x ∈ l, x.d = d) → wts l = l.length * 9 ^ d := by
    intro l
    induction l with
    | nil => intro _; simp [wts]
    | cons x r ih =>
      intro h
      have e : wts (x :: r) = 9 ^ x.d + wts r := by simp [wts]
      rw [e, ih fun y hy => h y (List.mem_cons_of_mem _ hy), h x List.mem_cons_self, List.length_cons, Nat.add_mul, Nat.one_mul, Nat.add_comm]
  rw [this l h]
  exact Nat.mul_le_mul_right _ h8
/-- all that waits stands so -/
def WtR (K : PySem.W.Frag) (S : Sto) (H : Hp) (l : List Wt) : Prop := ∀ x ∈ l, TupI K H x.v [x.row.ad, x.row.ln] ∧ ∃ φ, Nd S x.d x.row x.es φ
theorem WtR.keep {K : PySem.W.Frag} {S : Sto} {H H' : Hp} {l : List Wt} (h : WtR K S H l) (s : Same H H') : WtR K S H' l := fun x hx => ⟨(h x hx).1.keep s, (h x hx).2⟩
theorem ent_binds {fd : FuncData} {t0 : Addr} (F : FunD K "entries" "entries" (defArgs (top 84)) (defBody (top 84)) (defScope (top 84)) [] [("low", .ref t0), ("high", .non)] (He.ga K "entries") fd) : ∃ ds, Vals [.ref t0, .non] ds ∧ L2.Binds K fd ["log", "root", "low", "high"] ds := by
  refine F.binds0 2 (by simp) rfl fun D doc pm an cdv ct us ks hl hk => ?_
  match us, ks, hl, hk with
  | [u1, u2], [k1, k2], _, _ =>
    refine ⟨_, _, _, _, _, _, rfl, rfl, ?_⟩
    refine ⟨_, _, _, _, _, _, rfl, rfl, ?_⟩
    rfl
theorem x_ent (T : Te P w K mg) : ∃ fd t0 ds, (∀ H, SqT K H t0 []) ∧ Vals [.ref t0, .non] ds ∧ L2.Binds K fd ["log", "root", "low", "high"] ds ∧ GFn P w K mg base 7 (He.ga K "entries") fd ["log", "root", "low", "high"] (spEnt K) := by
  obtain ⟨hm, fd, t0, F, ht0⟩ := T.ent
  obtain ⟨ds, hv, hb⟩ := ent_binds F
  obtain ⟨oc, od, dV, kV, doc, pm, an, cdv, ct, osl, rfl, lk, hcd, hD, hK⟩ := F.ex
  refine ⟨_, t0, ds, ht0, hv, hb, gfn_of (N := ["log", "root", "low", "high", "waiting", "is_leaf", "rows", "key", "pointer", "below", "at"]) lk hcd gsc_ent (fun vs H Q E h => ?_) fun A outer s H vs Q E pn hr h => ?_⟩
  · obtain ⟨L, S, z, rv, lo, ad, ln, es, Ψ, rfl, _⟩ := h
    rfl
  · obtain ⟨L, S, z, rv, lo, ad, ln, es, Ψ, rfl, hL, hrv, hTr, hΨ, hlo, hes, q⟩ := h
    have nd := gsc_ent.nd
    refine ⟨_, gss_cons (gs_ps (ps_set (i := 4) nd rfl (.inl rfl) (pe_lst pa_nil)))
      (gss_cons (gs_ps (ps_if (pt_cmpR (op_neT hr.units) (pv 1) (pe_glob (by rfl) T.g_NOTHING (v := .ref (He.ga K "NOTHING")) rfl) (nomark _)) (pss_one (ps_expr (pe_bm PySem.F.plainAttrs_list PySem.F.slot_list_append PySem.F.type_list_append mt_append (pv 4) (pa_cons (pv 1) pa_nil)))) pss_nil))
      (gss_cons (gs_while owns_gcx (pt_cmpR op_gt (pe_callB call_len (by rfl) T.n_len PySem.boot_len (pa_cons (pv 4) pa_nil)) pe_int (nomark _))
        (gss_cons (gs_ps (ps_asg (C8.pe_c (c_loadn T.toTy) hr (by decide) rfl (pa_cons (pv 0) (pa_cons (pe_bm0 PySem.F.plainAttrs_list PySem.F.slot_list_pop PySem.F.type_list_pop mt_pop (pv 4)) pa_nil))) (pg_tup (by rfl) (pgs_cons (pg_name (i := 5) nd rfl (.inl rfl)) (pgs_cons (pg_name (i := 6) nd rfl (.inr rfl)) pgs_nil)))))
        (gss_cons (gs_if (pt_val (pv 5))
          (gss_cons (gs_for owns_gcx rfl (pi_list (pv 6)) (pg_tup (by rfl) (pgs_cons (pg_name (i := 7) nd rfl (.inl rfl)) (pgs_cons (pg_name (i := 8) nd rfl (.inl rfl)) pgs_nil)))
            (gss_cons (gs_if (PW.pt (pw_and (pt_cmpR (op_geT hr.units0) (pv 7) (pv 2) (nomark _)) (pw_and1 (PW.pt (pw_or (pt_cmp (pc_isN (pv 3))) (pw_or1 (pt_cmpR (op_lt2 hr.units0) (pv 7) (pv 3) (nomark _))))))))
              (gss_cons (gs_yield (pe_tup (pa_cons (pv 7) (pa_cons (pv 8) pa_nil)))) gss_nil) gss_nil) gss_nil)) gss_nil)
          (gss_cons (gs_ps (ps_setLc (i := 9) (own := [("at", 10)]) (g := gName 10) (tt := tB (tCall (spReach K) [] C8.E0 (tCons (tVar 6) (tCons (tVar 10) (tCons (tVar 2) (tCons (tVar 3) tNil)))))) (te := tOp (rIxT K) (tOp (rIxL K) (tVar 6) (tVar 10)) (tC (.int 1))) rfl nd rfl rfl (sw_true rfl rfl rfl (by decide +kernel))
              (pi_range1 (by rfl) T.n_range (pa_cons (pe_callB call_len (by rfl) T.n_len PySem.boot_len (pa_cons (pv 6) pa_nil)) pa_nil))
              (blkOk_by (N := ["log", "root", "low", "high", "waiting", "is_leaf", "rows", "key", "pointer", "below", "at"]) (sc := defScope (top 84)) (by decide +kernel))
              (fun _ _ _ _ _ => pg_name (i := 10) nd rfl (.inl rfl)) (fun _ _ _ _ _ => pts_one (pt_val (C8.pe_c (c_reach T.toTx) hr (by decide) rfl (pa_cons (pv 6) (pa_cons (pv 10) (pa_cons (pv 2) (pa_cons (pv 3) pa_nil)))))))
              (fun _ _ _ _ _ => pe_ix ix_tup (pe_ix ix_list (pv 6) (pv 10) (fun _ _ => rfl)) pe_int (fun _ _ => rfl))))
          (gss_cons (gs_ps (ps_expr (pe_bm PySem.F.plainAttrs_list PySem.F.slot_list_extend PySem.F.type_list_extend mt_extend (pv 4) (pa_cons (pe_revL (pv 9)) pa_nil)))) gss_nil)))
        gss_nil)))
      gss_nil)), ?_⟩
    have hNo : TupI K H (.ref (He.ga K "NOTHING")) [0, 0] := ⟨_, rfl, T.nothing H⟩
    refine ⟨(by show 0 ≤ sizeLine; decide), fun W hW => ?_⟩
    have hs0 := same_upd0 (o := .lst []) hW
    refine ⟨_, rfl, [ad, ln], [0, 0], hrv.keep hs0, hNo.keep hs0, _, rfl, ?_⟩
    let Iv : Nat → List V → L2.St → Hp → Prop := fun m ys σ H0 => Same H H0 ∧ ∃ (dn : List Row) (st : List Wt) (x5 x6 x7 x8 x9 x10 : Option V), m = wts st ∧ wts st ≤ 59049 ∧ H0 W = some (.lst (st.map (·.v))) ∧ WtR K S H0 st ∧ RowsV K H0 ys dn ∧ dn ++ (st.reverse.flatMap (·.es)) = es ∧
      σ = [some (.ref L.lg), some rv, some lo, some .non, some (.ref W), x5, x6, x7, x8, x9, x10]
    have start : ∃ m0, (ad = 0 ∧ ln = 0 ∧ Iv m0 [] [some (.ref L.lg), some rv, some lo, some .non, some (.ref W), none, none, none, none, none, none] (upd H W (.lst []))) ∨
        (([ad, ln] : List Int) ≠ [0, 0] ∧ Iv m0 [] [some (.ref L.lg), some rv, some lo, some .non, some (.ref W), none, none, none, none, none, none] (upd (upd H W (.lst [])) W (.lst [rv]))) := by
      rcases hTr with ⟨rfl, rfl, rfl⟩ | ⟨d, key0, φ, hnd, hφ⟩
      · exact ⟨0, .inl ⟨rfl, rfl, hs0, [], [], none, none, none, none, none, none, rfl, by simp [wts], upd_same, fun x hx => by simp at hx, RowsV.nil, rfl, rfl⟩⟩
      · have hd5 := FF_bound hφ hΨ
        have h9 : 9 ^ d ≤ 59049 := by
          have := Nat.pow_le_pow_right (n := 9) (by decide) hd5
          exact this
        refine ⟨_, .inr ⟨?_, same_updD hs0 hW, [], [⟨rv, ⟨key0, ad, ln⟩, es, d⟩], none, none, none, none, none, none, rfl, by simpa [wts] using h9, upd_same, fun x hx => ?_, RowsV.nil, by simp, rfl⟩⟩
        · have := hnd.rec
          simp at this ⊢
          omega
        · rw [List.mem_singleton.mp hx]
          exact ⟨hrv.keep (same_updD hs0 hW), φ, hnd⟩
    obtain ⟨m0, start⟩ := start
    rcases start with ⟨rfl, rfl, h⟩ | ⟨hne, h⟩
    case' inl =>
      refine iteKF (by simp) ?_
      refine ⟨Iv, ⟨m0, h⟩, ?_⟩
    case' inr =>
      refine iteK (by have := hne; simp at this ⊢; omega) ?_
      refine ⟨_, rfl, .inl ⟨rfl, _, SqL.of upd_same⟩, _, rfl, W, [], rv, rfl, rfl, upd_same, (by show 0 < sizeLine; decide), ?_⟩
      refine ⟨Iv, ⟨m0, h⟩, ?_⟩
    all_goals
      rintro m ys σ H' ⟨hs, dn, st, x5, x6, x7, x8, x9, x10, rfl, h59, hWst, hwt, hys, hes2, rfl⟩
      refine ⟨_, rfl, _, _, rfl, .inl ⟨_, SqL.of hWst, rfl⟩, _, _, rfl, rfl, _, rfl, ?_⟩
      rcases nil_or_snoc st with rfl | ⟨l, x, rfl⟩
      · refine iteKF (by simp) ?_
        simp at hes2
        subst hes2
        exact q ys H' hs hys
      · refine iteK (by simp) ?_
        refine ⟨_, fun _ _ _ h => h, ?_⟩
        obtain ⟨hxv, φx, hnd⟩ := hwt x (by simp)
        obtain ⟨kd, rs, hrec, hkd, hz1, hz8, hfit, hcase⟩ := nd_rows hnd
        have hwl' : (l ++ [x]).map (·.v) = l.map (·.v) ++ [x.v] := by simp
        rw [hwl'] at hWst
        have hW1 : ∀ o, Same H (upd H' W o) := fun o => same_updD hs hW
        have sxW : SX W H' (upd H' W (.lst (l.map (·.v)))) := sx_upd
        have hwx : wts (l ++ [x]) = wts l + 9 ^ x.d := by rw [wts_append]; simp [wts]
        have hpos : 0 < 9 ^ x.d := Nat.pow_pos (by decide)
        rw [hwx] at h59 ⊢
        refine ⟨_, rfl, _, rfl, .inl ⟨rfl, _, SqL.of hWst⟩, W, l.map (·.v) ++ [x.v], x.v, rfl, rfl, hWst, by simp, ?_⟩
        rw [List.dropLast_concat]
        refine ⟨L, S, z, x.v, x.row.ad, x.row.ln, kd, rs, rfl, hL.keep (hW1 _), sxW.tupI hWst hxv, hrec, hkd, hz1, hz8, fun r hr => (hfit r hr).ok, fun t l2 us H2 hs2 ht hl2 hU => ?_⟩
        refine ⟨t, _, rfl, SqT.of ht, rfl, _, _, rfl, _, _, rfl, rfl, ?_⟩
        refine ⟨_, rfl, _, rfl, ?_⟩
        have hsA : Same H H2 := (hW1 _).trans hs2
        have hWl : H2 W = some (.lst (l.map (·.v))) := hs2 _ _ upd_same
        have hwt2 : WtR K S H2 l := fun y hy => by
          obtain ⟨a, b⟩ := hwt y (List.mem_append_left _ hy)
          exact ⟨(sxW.tupI hWst a).keep hs2, b⟩
        have hys2 : RowsV K H2 ys dn := (sxW.rowsV hWst hys).keep hs2
        have hes3 : dn ++ (x.es ++ l.reverse.flatMap (·.es)) = es := by simpa using hes2
        rcases hcase with ⟨hd0, rfl, rfl⟩ | ⟨d', ks, hd', rfl, rfl, hp0, hk8, hsep, hkids, hesk, hphi⟩
        · refine iteK (by simp) ?_
          have hul : us.length = x.es.length := hU.1
          have hdl : dn.length + x.es.length ≤ 100000 := by
            have := congrArg List.length hes3
            simp only [List.length_append] at this
            omega
          refine ⟨_, rfl, l2, rfl, ⟨_, SqL.of hl2⟩, for_listG (K := K) (a := l2) (xs := us) (fun i ys' σ H3 => Same H2 H3 ∧ RowsV K H3 ys' (dn ++ x.es.take i) ∧ ∃ y7 y8, σ = [some (.ref L.lg), some rv, some lo, some .non, some (.ref W), some (.bl true), some (.ref l2), y7, y8, x9, x10])
            ⟨Same.refl _, by simpa using hys2, x7, x8, rfl⟩ (fun i ys' σ H3 _ h => same_sqL h.1 (SqL.of hl2)) ?_ ?_⟩
          · rintro i v ys' σ H3 hv ⟨hs3, hys3, y7, y8, rfl⟩
            obtain ⟨r, hr1, t3, kr, pr, rfl, ht3, hkr, hpr⟩ := (hU.keep hs3).get hv
            refine ⟨t3, [kr, pr], rfl, ht3, rfl, _, _, rfl, _, _, rfl, rfl, ?_⟩
            refine ⟨_, rfl, _, rfl, r.key, [], hkr, hlo.keep (hsA.trans hs3), _, rfl, ?_⟩
            refine iteK (by show (!HT.lexLt r.key []) = true; rw [kl_lex, kl_nil_r]; rfl) ?_
            refine ⟨_, rfl, _, rfl, ?_⟩
            refine iteK (by simp) ?_
            refine iteK rfl ?_
            have hyl := hys3.1
            rw [List.length_append, List.length_take] at hyl
            refine ⟨by rw [sizeLine_eq]; omega, _, rfl, _, rfl, (by show 2 ≤ sizeLine; decide), fun p hp => ?_⟩
            have hs4 := same_upd0 (o := .tup [kr, pr]) hp
            refine ⟨hs3.trans hs4, ?_, _, _, rfl⟩
            rw [take_snoc hr1, ← List.append_assoc]
            exact (hys3.keep hs4).snoc ⟨p, kr, pr, rfl, SqT.of upd_same, hkr.keep hs4, hpr.keep hs4⟩
          · rintro ys' σ H3 ⟨hs3, hys3, y7, y8, rfl⟩
            rw [hul, List.take_length] at hys3
            refine ⟨wts l, by omega, hsA.trans hs3, dn ++ x.es, l, _, _, _, _, _, _, rfl, by omega, hs3 _ _ hWl, hwt2.keep hs3, hys3, by rw [List.append_assoc]; exact hes3, rfl⟩
        · refine iteKF (by simp) ?_
          have hul : us.length = ks.length := by rw [hU.1, List.length_map]
          have hex : ∀ i, i < ks.length → ∃ pr, ∃ t kr k, us[i]? = some (.ref t) ∧ ks[i]? = some k ∧ SqT K H2 t [kr, pr] ∧ TupI K H2 pr [k.row.ad, k.row.ln] := fun i hi => by
            have h1 : us[i]? = some us[i] := List.getElem?_eq_getElem _
            have h2 : ks[i]? = some ks[i] := List.getElem?_eq_getElem hi
            obtain ⟨t, kr, pr, e, a, b, c⟩ := hU.2 i us[i] ks[i].row h1 (by rw [List.getElem?_map, h2]; rfl)
            exact ⟨pr, t, kr, ks[i], by rw [h1, e], h2, a, c⟩
          obtain ⟨f, hf⟩ : ∃ f : Nat → V, ∀ i, i < ks.length → ∃ t kr k, us[i]? = some (.ref t) ∧ ks[i]? = some k ∧ SqT K H2 t [kr, f i] ∧ TupI K H2 (f i) [k.row.ad, k.row.ln] :=
            ⟨fun i => if h : i < ks.length then Classical.choose (hex i h) else .non, fun i h => by
              have := Classical.choose_spec (hex i h)
              simpa only [dif_pos h] using this⟩
          refine gthen_lc ?_
          refine tlc_rangeT (K := K) (s1 := 10) (n := ks.length) (lo := 0) f (fun R h => ⟨_, rfl, _, _, rfl, .inl ⟨_, SqL.of hl2, rfl⟩, (ks.length : Int), by rw [hul], by omega, by omega, h⟩) (by omega) (fun _ => rfl) (fun i H3 R hi hs3 hk3 => ?_) (fun i H3 R hi hs3 hk3 => ?_) (fun D H3 hs3 hD hd3 => ?_)
          · refine ⟨_, rfl, _, rfl, _, rfl, _, rfl, l2, i, lo, _, by simp, ⟨us, SqL.of (hs3 _ _ hl2), hU.keep hs3⟩, by rw [List.length_map]; exact hi, fun r hr => ?_, hlo.keep (hsA.trans hs3), _, rfl, hk3 H3 (Same.refl _)⟩
            rw [List.getElem?_map] at hr
            obtain ⟨k1, hk1, rfl⟩ := Option.map_eq_some_iff.mp hr
            have h2 : ks[i]? = some ks[i] := List.getElem?_eq_getElem hi
            obtain ⟨hj, ej⟩ := List.getElem?_eq_some_iff.mp hk1
            have hsepi : Sep ks[i] k1 := by rw [← ej]; exact List.pairwise_iff_getElem.mp hsep i (i + 1) hi hj (by omega)
            cases e : ks[i].es with
            | nil => exact absurd e (Nd.ne (hkids ks[i] (List.getElem_mem hi)).2)
            | cons y yr =>
              have := hsepi y (by rw [e]; exact List.mem_cons_self)
              intro z
              rw [z, kl_nil_r] at this
              cases this
          · obtain ⟨t3, kr, k, hu3, hk', ht3, hp3⟩ := hf i hi
            refine ⟨_, rfl, _, rfl, l2, us, (0 : Int) + (i : Int), .ref t3, rfl, rfl, SqL.of (hs3 _ _ hl2), by rw [Int.zero_add]; exact atI_nat hu3, t3, [kr, f i], 1, f i, rfl, rfl, Same.sqT hs3 ht3, atI_nat (j := 1) rfl, hk3 H3 (Same.refl _)⟩
          · have hW3 := hs3 _ _ hWl
            have hDW : D ≠ W := fun e => by rw [e, hWl] at hD; cases hD
            refine ⟨_, rfl, .inl ⟨rfl, _, SqL.of hW3⟩, _, rfl, D, _, rfl, SqL.of hd3, fun p hp => ?_⟩
            have hWp : W ≠ p := fun e => by rw [← e, hW3] at hp; cases hp
            have hs4 := same_upd0 (o := .lst ((List.range ks.length).map f).reverse) hp
            have hll : l.length ≤ wts l := by
              unfold wts
              have : ∀ l : List Wt, l.length ≤ (l.map fun x => 9 ^ x.d).sum := fun l => by
                induction l with
                | nil => simp
                | cons y r ih =>
                  have : 0 < 9 ^ y.d := Nat.pow_pos (by decide)
                  simp only [List.length_cons, List.map_cons, List.sum_cons]
                  omega
              exact this l
            refine ⟨W, p, _, _, rfl, rfl, hs4 _ _ hW3, upd_same, by rw [List.length_map, List.length_reverse, List.length_map, List.length_range, sizeLine_eq]; omega, ?_⟩
            have hsB : Same H2 (upd H3 p (.lst ((List.range ks.length).map f).reverse)) := hs3.trans hs4
            have sxB := sx_upd (w := W) (H := upd H3 p (.lst ((List.range ks.length).map f).reverse)) (o := .lst (l.map (·.v) ++ ((List.range ks.length).map f).reverse))
            have hWB := hs4 _ _ hW3
            let kw : List Wt := (((List.range ks.length).map f).zip ks).map fun q => ⟨q.1, q.2.row, q.2.es, d'⟩
            have hrl : ((List.range ks.length).map f).length = ks.length := by rw [List.length_map, List.length_range]
            have kv : kw.map (·.v) = (List.range ks.length).map f := by
              show List.map _ (List.map _ _) = _
              rw [List.map_map]
              exact List.map_fst_zip (by rw [hrl]; exact Nat.le_refl _)
            have ke : kw.flatMap (·.es) = flat ks := by
              show List.flatMap _ (List.map _ _) = _
              rw [List.flatMap_map]
              have : (((List.range ks.length).map f).zip ks).flatMap (fun q => q.2.es) = ((((List.range ks.length).map f).zip ks).map (·.2)).flatMap (·.es) := by rw [List.flatMap_map]
              rw [this, List.map_snd_zip (by rw [hrl]; exact Nat.le_refl _)]
            have kd' : ∀ y ∈ kw, y.d = d' := fun y hy => by
              obtain ⟨q, hq, rfl⟩ := List.mem_map.mp hy
              rfl
            have kl8 : kw.length ≤ 8 := by
              show (List.map _ _).length ≤ 8
              rw [List.length_map, List.length_zip, hrl, Nat.min_self]
              exact hk8
            have kR : WtR K S H2 kw := fun y hy => by
              obtain ⟨q, hq, rfl⟩ := List.mem_map.mp hy
              obtain ⟨i, hi⟩ := List.mem_iff_getElem?.mp hq
              obtain ⟨h1, h2⟩ := List.getElem?_zip_eq_some.mp hi
              have hlt := (List.getElem?_eq_some_iff.mp h2).1
              obtain ⟨t3, kr, k, hu3, hk', ht3, hp3⟩ := hf i hlt
              rw [h2] at hk'
              cases hk'
              rw [List.getElem?_map, List.getElem?_range hlt] at h1
              have h1 : f i = q.1 := Option.some.inj h1
              rw [h1] at hp3
              exact ⟨hp3, _, (hkids q.2 (List.mem_of_getElem? h2)).2⟩
            have kw8 := wts_le kd' kl8
            have hpd : 9 ^ x.d = 9 * 9 ^ d' := by rw [hd', Nat.pow_succ, Nat.mul_comm]
            have hpd' : 0 < 9 ^ d' := Nat.pow_pos (by decide)
            have wrev : wts kw.reverse = wts kw := by unfold wts; rw [List.map_reverse, List.sum_reverse]
            refine ⟨wts (l ++ kw.reverse), ?_, same_updD (hsA.trans hsB) hW, dn, l ++ kw.reverse, _, _, _, _, _, _, rfl, ?_, ?_, ?_, sxB.rowsV hWB (hys2.keep hsB), ?_, rfl⟩
            · rw [wts_append, wrev]; omega
            · rw [wts_append, wrev]; omega
            · rw [upd_same, List.map_append, List.map_reverse, kv]
            · intro y hy
              have : TupI K H2 y.v [y.row.ad, y.row.ln] ∧ ∃ φ, Nd S y.d y.row y.es φ := by
                rcases List.mem_append.mp hy with hy | hy
                · exact hwt2 y hy
                · exact kR y (List.mem_reverse.mp hy)
              exact ⟨sxB.tupI hWB (this.1.keep hsB), this.2⟩
            · rw [List.reverse_append, List.reverse_reverse, List.flatMap_append, ke, ← hesk]
              exact hes3
end
end Tz
/-! Indexes, ranks, boxes, chunks of a total array. Core Lean alone. -/
namespace Tz
theorem snoc_ind {α : Type} {P : List α → Prop} (h0 : P []) (h1 : ∀ l x, P l → P (l ++ [x])) (l : List α) : P l := by
  have : ∀ l : List α, P l.reverse := fun l => by
    induction l with
    | nil => exact h0
    | cons x r ih => rw [List.reverse_cons]; exact h1 _ _ ih
  have h := this l.reverse
  rwa [List.reverse_reverse] at h
theorem snoc_of {α : Type} {l : List α} {n : Nat} (h : l.length = n + 1) : ∃ r x, l = r ++ [x] ∧ r.length = n := by
  refine ⟨l.take n, l[n]'(by omega), ?_, by rw [List.length_take]; omega⟩
  rw [List.take_append_getElem]
  exact (List.take_of_length_le (by omega)).symm
theorem ecount_snoc (ns : List Int) (n : Int) : ecount (ns ++ [n]) = ecount ns * n := by unfold ecount; rw [List.foldl_append]; rfl
theorem rank_snoc {ns ps : List Int} (h : ns.length = ps.length) (n p : Int) : rankF (ns ++ [n]) (ps ++ [p]) = rankF ns ps * n + p := by
  unfold rankF
  rw [List.zip_append h, List.foldl_append]; rfl
theorem inb_snoc {ns ps : List Int} (h : ns.length = ps.length) (n p : Int) : inb (ns ++ [n]) (ps ++ [p]) = (inb ns ps && (decide (0 ≤ p) && decide (p < n))) := by
  unfold inb
  rw [List.zip_append h, List.all_append]
  simp
theorem ixOf_snoc (ns : List Int) (n r : Int) : ixOf (ns ++ [n]) r = ixOf ns (r / n) ++ [r % n] := by
  unfold ixOf
  rw [List.reverse_append]
  simp [ixGo]
theorem ixOf_len (ns : List Int) (r : Int) : (ixOf ns r).length = ns.length := by unfold ixOf; rw [List.length_reverse, ixGo_len, List.length_reverse]
theorem rank_ok (ns : List Int) : ∀ ps : List Int, ns.length = ps.length → inb ns ps = true → 0 ≤ rankF ns ps ∧ rankF ns ps < ecount ns ∧ ixOf ns (rankF ns ps) = ps := by
  induction ns using snoc_ind with
  | h0 =>
    intro ps h _
    cases ps with
    | nil => exact ⟨by decide, by decide, rfl⟩
    | cons _ _ => simp at h
  | h1 ns n ih =>
    intro ps h hi
    rw [List.length_append, List.length_singleton] at h
    obtain ⟨qs, p, rfl, hl⟩ := snoc_of (n := ns.length) (l := ps) (by omega)
    rw [inb_snoc hl.symm] at hi
    simp only [Bool.and_eq_true, decide_eq_true_eq] at hi
    obtain ⟨hi1, hp0, hpn⟩ := hi
    obtain ⟨a, b, c⟩ := ih qs hl.symm hi1
    rw [rank_snoc hl.symm, ecount_snoc, ixOf_snoc]
    have hn : 0 < n := by omega
    have e1 : (rankF ns qs * n + p) / n = rankF ns qs := by
      rw [Int.add_comm, Int.add_mul_ediv_right _ _ (by omega), Int.ediv_eq_zero_of_lt hp0 hpn, Int.zero_add]
    have e2 : (rankF ns qs * n + p) % n = p := by
      rw [Int.add_comm, Int.add_mul_emod_self_right, Int.emod_eq_of_lt hp0 hpn]
    rw [e1, e2, c]
    have h1 : 0 ≤ rankF ns qs * n := Int.mul_nonneg a (by omega)
    have h2 : (rankF ns qs + 1) * n ≤ ecount ns * n := Int.mul_le_mul_of_nonneg_right (by omega) (by omega)
    rw [Int.add_mul, Int.one_mul] at h2
    exact ⟨by omega, by omega, rfl⟩
theorem ecount_nonneg {ns : List Int} : (∀ n ∈ ns, 0 ≤ n) → 0 ≤ ecount ns := by
  induction ns using snoc_ind with
  | h0 => intro _; decide
  | h1 ns n ih =>
    intro h
    rw [ecount_snoc]
    exact Int.mul_nonneg (ih fun m hm => h m (List.mem_append_left _ hm)) (h n (by simp))
theorem ixOf_ok (ns : List Int) : ∀ r : Int, (∀ n ∈ ns, 0 ≤ n) → 0 ≤ r → r < ecount ns → inb ns (ixOf ns r) = true ∧ rankF ns (ixOf ns r) = r := by
  induction ns using snoc_ind with
  | h0 =>
    intro r _ h0 h1
    have : r = 0 := by
      have e : ecount [] = 1 := rfl
      omega
    subst this
    exact ⟨rfl, rfl⟩
  | h1 ns n ih =>
    intro r hn h0 h1
    rw [ecount_snoc] at h1
    have hn0 : 0 ≤ n := hn n (by simp)
    have hn1 : 0 < n := by
      rcases Int.lt_or_eq_of_le hn0 with h | h
      · exact h
      · subst h; omega
    rw [ixOf_snoc, inb_snoc (ixOf_len ns _).symm, rank_snoc (ixOf_len ns _).symm]
    have hq0 : 0 ≤ r / n := Int.ediv_nonneg h0 hn0
    have hq1 : r / n < ecount ns := Int.ediv_lt_of_lt_mul hn1 h1
    obtain ⟨a, b⟩ := ih (r / n) (fun m hm => hn m (List.mem_append_left _ hm)) hq0 hq1
    have hm0 := Int.emod_nonneg r (show n ≠ 0 by omega)
    have hm1 := Int.emod_lt_of_pos r hn1
    refine ⟨by rw [a]; simp [hm0, hm1], ?_⟩
    rw [b, Int.mul_comm]
    exact Int.mul_ediv_add_emod r n
/-- all indexes in row order -/
def allIx (ns : List Int) : List (List Int) := (List.range (ecount ns).toNat).map fun r : Nat => ixOf ns (r : Int)
theorem allIx_len (ns : List Int) : (allIx ns).length = (ecount ns).toNat := by simp [allIx]
theorem allIx_get {ns : List Int} {r : Nat} (h : r < (ecount ns).toNat) : (allIx ns)[r]? = some (ixOf ns r) := by
  unfold allIx
  rw [List.getElem?_map, List.getElem?_range h]; rfl
theorem allIx_mem {ns : List Int} (hn : ∀ n ∈ ns, 0 ≤ n) {p : List Int} (h : p ∈ allIx ns) : p.length = ns.length ∧ inb ns p = true := by
  obtain ⟨r, hr, rfl⟩ := List.mem_map.mp h
  have hr := List.mem_range.mp hr
  exact ⟨ixOf_len _ _, (ixOf_ok ns r hn (by omega) (by omega)).1⟩
theorem allIx_at {ns p : List Int} (hl : ns.length = p.length) (hi : inb ns p = true) : (allIx ns)[(rankF ns p).toNat]? = some p := by
  obtain ⟨a, b, c⟩ := rank_ok ns p hl hi
  rw [allIx_get (by omega)]
  rw [show (((rankF ns p).toNat : Nat) : Int) = rankF ns p by omega, c]
/-- a total array, one place changed -/
def updI (A : List Int → Int) (i : List Int) (v : Int) : List Int → Int := fun j => if j = i then v else A j
theorem map_set {ns i : List Int} (hn : ∀ n ∈ ns, 0 ≤ n) (hl : ns.length = i.length) (hi : inb ns i = true) {β : Type} (F : List Int → β) (G : List Int → β) (v : β) (h1 : G i = v) (h2 : ∀ j, j ∈ allIx ns → j ≠ i → G j = F j) : ((allIx ns).map F).set (rankF ns i).toNat v = (allIx ns).map G := by
  obtain ⟨a, b, c⟩ := rank_ok ns i hl hi
  refine List.ext_getElem? fun r => ?_
  rw [List.getElem?_set, List.getElem?_map]
  by_cases hr : (rankF ns i).toNat = r
  · subst hr
    rw [if_pos rfl, if_pos (by rw [List.length_map, allIx_len]; omega), List.getElem?_map, allIx_at hl hi, Option.map_some, h1]
  · rw [if_neg hr, List.getElem?_map]
    cases e : (allIx ns)[r]? with
    | none => rfl
    | some j =>
      have hj : j ≠ i := fun z => by
        have hlt := (List.getElem?_eq_some_iff.mp e).1
        rw [allIx_len] at hlt
        rw [allIx_get hlt] at e
        have e := Option.some.inj e
        have := (ixOf_ok ns r hn (by omega) (by omega)).2
        rw [e, z] at this
        omega
      rw [Option.map_some, Option.map_some, h2 j (List.mem_of_getElem? e) hj]
/-! ### grids -/
def zadd (a b : List Int) : List Int := (a.zip b).map fun p => p.1 + p.2
def gp (cs g p : List Int) : List Int := zadd (zmul cs g) p
theorem gp_cons (c g p : Int) (cs gs ps : List Int) : gp (c :: cs) (g :: gs) (p :: ps) = (c * g + p) :: gp cs gs ps := rfl
theorem gp_back : ∀ {cs i : List Int}, cs.length = i.length → gp cs (zdiv cs i) (zmod cs i) = i
  | [], [], _ => rfl
  | [], _ :: _, h => by simp at h
  | _ :: _, [], h => by simp at h
  | c :: cs, x :: i, h => by
    show gp (c :: cs) (x / c :: zdiv cs i) (x % c :: zmod cs i) = x :: i
    rw [gp_cons, gp_back (by simpa using h), Int.mul_ediv_add_emod]
theorem zdiv_len {cs i : List Int} (h : cs.length = i.length) : (zdiv cs i).length = cs.length := by unfold zdiv; rw [List.length_map, List.length_zip, ← h, Nat.min_self]
theorem zmod_len {cs i : List Int} (h : cs.length = i.length) : (zmod cs i).length = cs.length := by unfold zmod; rw [List.length_map, List.length_zip, ← h, Nat.min_self]
theorem gp_len {cs g p : List Int} (h : g.length = cs.length) (h2 : p.length = cs.length) : (gp cs g p).length = cs.length := by
  unfold gp zadd zmul
  simp [h, h2]
theorem zmod_inb : ∀ {cs i : List Int}, (∀ n ∈ cs, 1 ≤ n) → cs.length = i.length → inb cs (zmod cs i) = true
  | [], _, _, _ => by simp [inb]
  | c :: cs, [], _, h => by simp at h
  | c :: cs, x :: i, hc, h => by
    have := zmod_inb (cs := cs) (i := i) (fun n hn => hc n (List.mem_cons_of_mem _ hn)) (by simpa using h)
    have hc1 := hc c List.mem_cons_self
    have h0 := Int.emod_nonneg x (show c ≠ 0 by omega)
    have h1 := Int.emod_lt_of_pos x (show 0 < c by omega)
    show (((c, x % c) :: cs.zip (zmod cs i)).all fun p => decide (0 ≤ p.2) && decide (p.2 < p.1)) = true
    rw [List.all_cons]
    unfold inb at this
    rw [this]
    simp [h0, h1]
theorem gp_div : ∀ {cs g p : List Int}, (∀ n ∈ cs, 1 ≤ n) → g.length = cs.length → p.length = cs.length → inb cs p = true → zdiv cs (gp cs g p) = g ∧ zmod cs (gp cs g p) = p
  | [], [], [], _, _, _, _ => ⟨rfl, rfl⟩
  | [], _ :: _, _, _, h, _, _ => by simp at h
  | [], [], _ :: _, _, _, h, _ => by simp at h
  | _ :: _, [], _, _, h, _, _ => by simp at h
  | _ :: _, _ :: _, [], _, _, h, _ => by simp at h
  | c :: cs, g :: gs, p :: ps, hc, h1, h2, hi => by
    unfold inb at hi
    rw [List.zip_cons_cons, List.all_cons] at hi
    simp only [Bool.and_eq_true, decide_eq_true_eq] at hi
    obtain ⟨⟨hp0, hpc⟩, hi⟩ := hi
    obtain ⟨a, b⟩ := gp_div (cs := cs) (g := gs) (p := ps) (fun n hn => hc n (List.mem_cons_of_mem _ hn)) (by simpa using h1) (by simpa using h2) hi
    have hc1 := hc c List.mem_cons_self
    rw [gp_cons]
    have e1 : (c * g + p) / c = g := by
      rw [Int.add_comm, Int.mul_comm, Int.add_mul_ediv_right _ _ (by omega), Int.ediv_eq_zero_of_lt hp0 hpc, Int.zero_add]
    have e2 : (c * g + p) % c = p := by
      rw [Int.add_comm, Int.mul_comm, Int.add_mul_emod_self_right, Int.emod_eq_of_lt hp0 hpc]
    refine ⟨?_, ?_⟩
    · show (c * g + p) / c :: zdiv cs (gp cs gs ps) = g :: gs
      rw [e1, a]
    · show (c * g + p) % c :: zmod cs (gp cs gs ps) = p :: ps
      rw [e2, b]
/-- the values of a chunk -/
def chv (cs : List Int) (A : List Int → Int) (g : List Int) : List Int := (allIx cs).map fun p => A (gp cs g p)
theorem chv_len (cs : List Int) (A : List Int → Int) (g : List Int) : (chv cs A g).length = (ecount cs).toNat := by unfold chv; rw [List.length_map, allIx_len]
theorem chv_get {cs i : List Int} (hc : ∀ n ∈ cs, 1 ≤ n) (hl : cs.length = i.length) (A : List Int → Int) : (chv cs A (zdiv cs i))[(rankF cs (zmod cs i)).toNat]? = some (A i) := by
  unfold chv
  rw [List.getElem?_map, allIx_at (zmod_len hl).symm (zmod_inb hc hl), Option.map_some, gp_back hl]
theorem chv_set {cs i : List Int} (hc : ∀ n ∈ cs, 1 ≤ n) (hl : cs.length = i.length) (A : List Int → Int) (v : Int) : (chv cs A (zdiv cs i)).set (rankF cs (zmod cs i)).toNat v = chv cs (updI A i v) (zdiv cs i) := by
  have hc0 : ∀ n ∈ cs, 0 ≤ n := fun n hn => by have := hc n hn; omega
  unfold chv
  refine map_set hc0 (zmod_len hl).symm (zmod_inb hc hl) _ _ v (by unfold updI; rw [gp_back hl, if_pos rfl]) fun j hj hne => ?_
  obtain ⟨a, b⟩ := allIx_mem hc0 hj
  unfold updI
  refine if_neg fun z => hne ?_
  have := (gp_div hc (zdiv_len hl) a b).2
  rw [z] at this
  exact this.symm
theorem chv_other {cs i g : List Int} (hc : ∀ n ∈ cs, 1 ≤ n) (hg : g.length = cs.length) (A : List Int → Int) (v : Int) (hne : g ≠ zdiv cs i) : chv cs (updI A i v) g = chv cs A g := by
  have hc0 : ∀ n ∈ cs, 0 ≤ n := fun n hn => by have := hc n hn; omega
  unfold chv
  refine List.map_congr_left fun p hp => ?_
  obtain ⟨a, b⟩ := allIx_mem hc0 hp
  unfold updI
  refine if_neg fun z => hne ?_
  have := (gp_div hc hg a b).1
  rw [z] at this
  exact this.symm
theorem chv_congr {cs g : List Int} (hc : ∀ n ∈ cs, 1 ≤ n) (hg : g.length = cs.length) {A B : List Int → Int} (h : ∀ i, i.length = cs.length → zdiv cs i = g → A i = B i) : chv cs A g = chv cs B g := by
  have hc0 : ∀ n ∈ cs, 0 ≤ n := fun n hn => by have := hc n hn; omega
  unfold chv
  refine List.map_congr_left fun p hp => ?_
  obtain ⟨a, b⟩ := allIx_mem hc0 hp
  exact h _ (gp_len hg a) (gp_div hc hg a b).1
theorem chv_const {cs : List Int} {A : List Int → Int} {g : List Int} {v : Int} (h : ∀ p ∈ allIx cs, A (gp cs g p) = v) : chv cs A g = List.replicate (ecount cs).toNat v := by
  rw [← allIx_len]
  unfold chv
  exact List.map_eq_replicate_iff.mpr h
/-! ### selections -/
structure Rg where
  st : Int
  sp : Int
  ct : Int
def boxStep (ixs : List (List Int)) (r : Rg) : List (List Int) := ixs.flatMap fun i => (List.range r.ct.toNat).map fun k : Nat => i ++ [r.st + r.sp * (k : Int)]
def boxIx (rs : List Rg) : List (List Int) := rs.foldl boxStep [[]]
def whole (ns : List Int) : List Rg := ns.map fun n => ⟨0, 1, n⟩
theorem range_mul {α : Type} (n : Nat) (f : Nat → α) : ∀ E, (List.range (E * n)).map f = (List.range E).flatMap fun e => (List.range n).map fun k => f (e * n + k)
  | 0 => by simp
  | E + 1 => by
    rw [Nat.add_mul, Nat.one_mul, List.range_add, List.map_append, range_mul n f E, List.range_succ, List.flatMap_append, List.map_map]
    simp [Function.comp_def]
theorem box_whole (ns : List Int) : (∀ n ∈ ns, 0 ≤ n) → boxIx (whole ns) = allIx ns := by
  induction ns using snoc_ind with
  | h0 => intro _; rfl
  | h1 ns n ih =>
    intro h
    have hn : 0 ≤ n := h n (by simp)
    have h' : ∀ m ∈ ns, 0 ≤ m := fun m hm => h m (List.mem_append_left _ hm)
    have e0 : boxIx (whole (ns ++ [n])) = boxStep (boxIx (whole ns)) ⟨0, 1, n⟩ := by
      unfold boxIx whole
      rw [List.map_append, List.foldl_append]; rfl
    rw [e0, ih h']
    unfold boxStep allIx
    have hE := ecount_nonneg h'
    have e1 : (ecount (ns ++ [n])).toNat = (ecount ns).toNat * n.toNat := by rw [ecount_snoc, Int.toNat_mul hE hn]
    rw [e1, range_mul, List.flatMap_map]
    refine congrArg (fun F => List.flatMap F (List.range (ecount ns).toNat)) (funext fun e => ?_)
    refine List.map_congr_left fun k hk => ?_
    have hk : k < n.toNat := List.mem_range.mp hk
    rw [ixOf_snoc]
    have hnn : ((n.toNat : Nat) : Int) = n := by omega
    have e2 : ((e * n.toNat + k : Nat) : Int) = (e : Int) * n + k := by push_cast; rw [hnn]
    have e3 : ((e : Int) * n + k) / n = e := by rw [Int.add_comm, Int.add_mul_ediv_right _ _ (by omega), Int.ediv_eq_zero_of_lt (by omega) (by omega), Int.zero_add]
    have e4 : ((e : Int) * n + k) % n = k := by rw [Int.add_comm, Int.add_mul_emod_self_right, Int.emod_eq_of_lt (by omega) (by omega)]
    rw [e2, e3, e4]
    simp
/-- the range fits the size -/
def Rg.Fits (n : Int) (r : Rg) : Prop := 0 ≤ r.st ∧ 1 ≤ r.sp ∧ 0 ≤ r.ct ∧ (r.ct = 0 ∨ r.st + r.sp * (r.ct - 1) < n)
theorem box_mem {ns : List Int} : ∀ {rs : List Rg}, ns.length = rs.length → (∀ (k : Nat) (n : Int) (r : Rg), ns[k]? = some n → rs[k]? = some r → r.Fits n) → ∀ i ∈ boxIx rs, i.length = ns.length ∧ inb ns i = true := by
  induction ns using snoc_ind with
  | h0 =>
    intro rs h _ i hi
    cases rs with
    | nil =>
      have : i = [] := by simpa [boxIx] using hi
      subst this
      exact ⟨rfl, rfl⟩
    | cons _ _ => simp at h
  | h1 ns n ih =>
    intro rs h hf i hi
    rw [List.length_append, List.length_singleton] at h
    obtain ⟨qs, r, rfl, hl⟩ := snoc_of (n := ns.length) (l := rs) (by omega)
    have e0 : boxIx (qs ++ [r]) = boxStep (boxIx qs) r := by unfold boxIx; rw [List.foldl_append]; rfl
    rw [e0] at hi
    obtain ⟨j, hj, hi⟩ := List.mem_flatMap.mp hi
    obtain ⟨k, hk, rfl⟩ := List.mem_map.mp hi
    have hk := List.mem_range.mp hk
    obtain ⟨a, b⟩ := ih hl.symm (fun k n' r' h1 h2 => hf k n' r' (by rw [List.getElem?_append_left (List.getElem?_eq_some_iff.mp h1).1]; exact h1) (by rw [List.getElem?_append_left (List.getElem?_eq_some_iff.mp h2).1]; exact h2)) j hj
    obtain ⟨f1, f2, f3, f4⟩ := hf ns.length n r (by simp) (by rw [← hl]; simp)
    refine ⟨by simp [a], ?_⟩
    rw [inb_snoc a.symm, b]
    have hk2 : (k : Int) ≤ r.ct - 1 := by omega
    have h5 : r.sp * (k : Int) ≤ r.sp * (r.ct - 1) := Int.mul_le_mul_of_nonneg_left hk2 (by omega)
    have h6 : 0 ≤ r.sp * (k : Int) := Int.mul_nonneg (by omega) (by omega)
    have h7 : 0 ≤ r.st + r.sp * (k : Int) := by omega
    have h8 : r.st + r.sp * (k : Int) < n := by omega
    simp [h7, h8]
end Tz
/-! Chunked arrays: what a tree of chunks stands for. Core Lean alone. -/
namespace Tz
structure Lay where
  k : Kd
  cs : List Int
  fill : Int
  fs : List Flt
structure Lay.Ok (y : Lay) : Prop where
  cs : ∀ n ∈ y.cs, 1 ≤ n ∧ n ≤ 4
  dim : y.cs.length ≤ 3
  fs : y.fs.length ≤ 3
  fill : y.k.In y.fill
theorem Lay.Ok.c1 {y : Lay} (h : y.Ok) : ∀ n ∈ y.cs, 1 ≤ n := fun n hn => (h.cs n hn).1
theorem Lay.Ok.c0 {y : Lay} (h : y.Ok) : ∀ n ∈ y.cs, 0 ≤ n := fun n hn => by have := (h.cs n hn).1; omega
theorem four {n : Int} (h : 1 ≤ n ∧ n ≤ 4) : n = 1 ∨ n = 2 ∨ n = 3 ∨ n = 4 := by omega
theorem ecount4 {cs : List Int} (h : ∀ n ∈ cs, 1 ≤ n ∧ n ≤ 4) (hl : cs.length ≤ 3) : 1 ≤ ecount cs ∧ ecount cs ≤ 64 := by
  match cs, h, hl with
  | [], _, _ => decide
  | [a], h, _ =>
    have ha := four (h a (by simp))
    rcases ha with rfl | rfl | rfl | rfl <;> decide
  | [a, b], h, _ =>
    have ha := four (h a (by simp))
    have hb := four (h b (by simp))
    rcases ha with rfl | rfl | rfl | rfl <;> rcases hb with rfl | rfl | rfl | rfl <;> decide
  | [a, b, c], h, _ =>
    have ha := four (h a (by simp))
    have hb := four (h b (by simp))
    have hc := four (h c (by simp))
    rcases ha with rfl | rfl | rfl | rfl <;> rcases hb with rfl | rfl | rfl | rfl <;> rcases hc with rfl | rfl | rfl | rfl <;> decide
  | _ :: _ :: _ :: _ :: _, _, hl => simp at hl
/-- what stands in the record of a chunk with these values -/
def ChE (y : Lay) (vals c : List Int) : Prop := ∃ ys, EncC y.k.w y.fs (y.k.stor vals) ys ∧ c = wbytes ys
theorem wbytes_len {ys : List Int} {n : Nat} (h : ys.length ≤ n) (hn : n < 15000) : (wbytes ys).length ≤ 2 * n + 2 := by
  unfold wbytes
  rw [List.length_append]
  have e1 := wnum_len 1 (n := (ys.length : Int)) (by omega) (by simp; omega)
  have := flat_wbyte_len ys
  omega
theorem ChE.len {y : Lay} (ho : y.Ok) {vals c : List Int} (hv : vals.length ≤ 64) (h : ChE y vals c) : c.length ≤ 4200 := by
  obtain ⟨ys, h1, rfl⟩ := h
  have h2 := h1.len y.k.w_of
  rw [Kd.stor_len] at h2
  have hw := y.k.w_of
  have h3 : y.k.w * vals.length ≤ 256 := by
    rcases hw with e | e | e <;> rw [e] <;> omega
  have hf := ho.fs
  have h4 : grow y.fs.length (y.k.w * vals.length) ≤ 2062 := by
    have : y.fs.length = 0 ∨ y.fs.length = 1 ∨ y.fs.length = 2 ∨ y.fs.length = 3 := by omega
    rcases this with e | e | e | e <;> rw [e] <;> simp only [grow] <;> omega
  have := wbytes_len (n := 2062) (Nat.le_trans h2 h4) (by decide)
  omega
/-- the tree stands for the total array A -/
structure Slab (S : Sto) (y : Lay) (ad ln : Int) (A : List Int → Int) (es : List Row) (Ψ : Nat) : Prop where
  tree : TreeR S ad ln es Ψ
  keys : ∀ r ∈ es, r.key.length = y.cs.length
  chs : ∀ r ∈ es, ∃ c, Rec S r.ad r.ln 3 c ∧ ChE y (chv y.cs A r.key) c
  rest : ∀ g, g.length = y.cs.length → look g es = none → chv y.cs A g = List.replicate (ecount y.cs).toNat y.fill
  rng : ∀ i, y.k.In (A i)
theorem look_some {key : List Int} {es : List Row} {r : Row} (h : look key es = some r) : r ∈ es ∧ r.key = key := by
  refine ⟨List.mem_of_find?_eq_some h, ?_⟩
  have := List.find?_some h
  simpa using this
theorem look_none {key : List Int} {es : List Row} (h : look key es = none) : ∀ r ∈ es, r.key ≠ key := fun r hr => by
  have := List.find?_eq_none.mp h r hr
  simpa using this
theorem look_none_of {key : List Int} {es : List Row} (h : ∀ r ∈ es, r.key ≠ key) : look key es = none := List.find?_eq_none.mpr fun r hr => by simpa using h r hr
theorem look_mem {es : List Row} {r : Row} (h : r ∈ es) : ∃ r', look r.key es = some r' := by
  cases e : look r.key es with
  | some r' => exact ⟨r', rfl⟩
  | none => exact absurd rfl (look_none e r h)
theorem Slab.ext {S S' : Sto} {y : Lay} {ad ln : Int} {A : List Int → Int} {es : List Row} {Ψ : Nat} (h : Slab S y ad ln A es Ψ) (x : Ext S S') : Slab S' y ad ln A es Ψ :=
  ⟨h.tree.ext x, h.keys, fun r hr => by obtain ⟨c, h1, h2⟩ := h.chs r hr; exact ⟨c, x _ _ _ _ h1, h2⟩, h.rest, h.rng⟩
theorem Slab.count {S : Sto} {y : Lay} (ho : y.Ok) {ad ln : Int} {A : List Int → Int} {es : List Row} {Ψ : Nat} (h : Slab S y ad ln A es Ψ) : es.length ≤ 216 :=
  srt_count h.tree.srt (fun r hr => (h.tree.fit r hr).1) h.keys ho.dim
theorem Slab.congr {S : Sto} {y : Lay} {ad ln : Int} {A B : List Int → Int} {es : List Row} {Ψ : Nat} (h : Slab S y ad ln A es Ψ) (e : ∀ g, g.length = y.cs.length → chv y.cs A g = chv y.cs B g) (hB : ∀ i, y.k.In (B i)) : Slab S y ad ln B es Ψ :=
  ⟨h.tree, h.keys, fun r hr => by rw [← e _ (h.keys r hr)]; exact h.chs r hr, fun g hg hl => by rw [← e g hg]; exact h.rest g hg hl, hB⟩
theorem chv_rng {y : Lay} {A : List Int → Int} (h : ∀ i, y.k.In (A i)) (g : List Int) : ∀ x ∈ chv y.cs A g, y.k.In x := fun x hx => by
  obtain ⟨p, hp, rfl⟩ := List.mem_map.mp hx
  exact h _
/-- one chunk is saved -/
theorem Slab.save {S S1 S' : Sto} {y : Lay} {ad ln ad' ln' : Int} {A B : List Int → Int} {es : List Row} {Ψ : Nat} {g : List Int} {n : Row} {c : List Int} (h : Slab S y ad ln A es Ψ) (x1 : Ext S S1) (x2 : Ext S1 S') (hn : n.key = g) (hg : g.length = y.cs.length)
    (hc : Rec S1 n.ad n.ln 3 c) (he : ChE y (chv y.cs B g) c) (hB : ∀ g', g'.length = y.cs.length → g' ≠ g → chv y.cs B g' = chv y.cs A g') (hr : ∀ i, y.k.In (B i)) (ht : TreeR S' ad' ln' (ins n es) (Ψ + 1)) : Slab S' y ad' ln' B (ins n es) (Ψ + 1) := by
  refine ⟨ht, fun r hr => ?_, fun r hr => ?_, fun g' hg' hl => ?_, hr⟩
  · rcases ins_mem hr with rfl | hr
    · rw [hn]; exact hg
    · exact h.keys r hr
  · unfold ins at hr
    simp only [List.mem_append, List.mem_filter, List.mem_singleton] at hr
    have old : ∀ r ∈ es, r.key ≠ g → ∃ c, Rec S' r.ad r.ln 3 c ∧ ChE y (chv y.cs B r.key) c := fun r hr hne => by
      obtain ⟨c, a, b⟩ := h.chs r hr
      exact ⟨c, x2 _ _ _ _ (x1 _ _ _ _ a), by rw [hB _ (h.keys r hr) hne]; exact b⟩
    rcases hr with (hr | hr) | hr
    · exact old r hr.1 (by rw [← hn]; exact kl_ne hr.2)
    · subst hr
      rw [hn]
      exact ⟨c, x2 _ _ _ _ hc, he⟩
    · exact old r hr.1 (by rw [← hn]; exact Ne.symm (kl_ne hr.2))
  · have hln := look_none hl
    have hne : g' ≠ g := fun z => hln n (by unfold ins; simp) (by rw [hn, z])
    rw [hB g' hg' hne]
    refine h.rest g' hg' (look_none_of fun r hr e => ?_)
    have hrn : r.key ≠ n.key := by rw [e, hn]; exact hne
    refine hln r ?_ e
    unfold ins
    simp only [List.mem_append, List.mem_filter, List.mem_singleton]
    rcases kl_tri r.key n.key with z | z | z
    · exact .inl (.inl ⟨hr, z⟩)
    · exact absurd z hrn
    · exact .inr ⟨hr, z⟩
/-- one chunk is removed -/
theorem Slab.rem {S S' : Sto} {y : Lay} {ad ln ad' ln' : Int} {A B : List Int → Int} {es : List Row} {Ψ : Nat} {g : List Int} (h : Slab S y ad ln A es Ψ) (x : Ext S S') (hg : g.length = y.cs.length) (hf : chv y.cs B g = List.replicate (ecount y.cs).toNat y.fill)
    (hB : ∀ g', g'.length = y.cs.length → g' ≠ g → chv y.cs B g' = chv y.cs A g') (hr : ∀ i, y.k.In (B i)) (ht : TreeR S' ad' ln' (del g es) Ψ) : Slab S' y ad' ln' B (del g es) Ψ := by
  refine ⟨ht, fun r hr => h.keys r (del_mem hr).1, fun r hr => ?_, fun g' hg' hl => ?_, hr⟩
  · obtain ⟨a, b⟩ := del_mem hr
    obtain ⟨c, h1, h2⟩ := h.chs r a
    exact ⟨c, x _ _ _ _ h1, by rw [hB _ (h.keys r a) b]; exact h2⟩
  · by_cases hne : g' = g
    · rw [hne]; exact hf
    · rw [hB g' hg' hne]
      refine h.rest g' hg' (look_none_of fun r hr e => ?_)
      refine look_none hl r ?_ e
      exact List.mem_filter.mpr ⟨hr, by rw [e]; simpa using hne⟩
end Tz
namespace Tz
open PySem PySem.Spec PyProof.Rows L2
def LayR (K : PySem.W.Frag) (H : Hp) (ly : Addr) (y : Lay) : Prop := ∃ dx c f, H ly = some (.ins (He.ga K "Layout") dx [("kind", .str y.k.name), ("chunk_shape", .ref c), ("fill", .int y.fill), ("filters", .ref f)]) ∧ SqT K H c (iv y.cs) ∧ SqT K H f (fnames y.fs)
theorem LayR.keep {K : PySem.W.Frag} {H H' : Hp} {ly : Addr} {y : Lay} (h : LayR K H ly y) (s : Same H H') : LayR K H' ly y := by
  obtain ⟨dx, c, f, h1, h2, h3⟩ := h
  exact ⟨dx, c, f, s _ _ h1, Same.sqT s h2, Same.sqT s h3⟩
theorem SX.layR {w : Addr} {H H' : Hp} (s : SX w H H') {l : List V} (hw : H w = some (.lst l)) {K : PySem.W.Frag} {ly : Addr} {y : Lay} (h : LayR K H ly y) : LayR K H' ly y := by
  obtain ⟨dx, c, f, h1, h2, h3⟩ := h
  exact ⟨dx, c, f, s _ _ (ne_ins h1 hw) h1, s.sqT hw h2, s.sqT hw h3⟩
def spEncC (K : PySem.W.Frag) : Sp := fun vs H Q _ => ∃ (ly a : Addr) (y : Lay) (vals : List Int), vs = [.ref ly, .ref a] ∧ LayR K H ly y ∧ y.Ok ∧ SqL K H a (iv vals) ∧ vals.length ≤ 64 ∧ (∀ x ∈ vals, y.k.In x) ∧ ∀ c, ChE y vals c → Out H Q (.lst (iv c))
def spDecC (K : PySem.W.Frag) : Sp := fun vs H Q _ => ∃ (ly a : Addr) (y : Lay) (vals c : List Int), vs = [.ref ly, .ref a] ∧ LayR K H ly y ∧ y.Ok ∧ SqL K H a (iv c) ∧ ChE y vals c ∧ (vals.length : Int) = ecount y.cs ∧ (∀ x ∈ vals, y.k.In x) ∧ Out H Q (.lst (iv vals))
def spLdC (K : PySem.W.Frag) : Sp := fun vs H Q _ => ∃ (L : LA) (S : Sto) (z : Int) (ly : Addr) (y : Lay) (rv gv : V) (ad ln : Int) (A : List Int → Int) (es : List Row) (Ψ : Nat) (g : List Int), vs = [.ref L.lg, .ref ly, rv, gv] ∧ LogR K H L S z ∧ LayR K H ly y ∧ y.Ok ∧ TupI K H rv [ad, ln] ∧ Slab S y ad ln A es Ψ ∧
  TupI K H gv g ∧ g.length = y.cs.length ∧ Out H Q (.lst (iv (chv y.cs A g)))
def spSvC (K : PySem.W.Frag) : Sp := fun vs H Q _ => ∃ (L : LA) (S : Sto) (z : Int) (ly a : Addr) (y : Lay) (rv gv : V) (ad ln : Int) (A B : List Int → Int) (es : List Row) (Ψ : Nat) (g : List Int), vs = [.ref L.lg, .ref ly, rv, gv, .ref a] ∧ LogR K H L S z ∧ LayR K H ly y ∧ y.Ok ∧ TupI K H rv [ad, ln] ∧ Slab S y ad ln A es Ψ ∧ Ψ ≤ 5000 ∧
  TupI K H gv g ∧ g.length = y.cs.length ∧ KFit g ∧ SqL K H a (iv (chv y.cs B g)) ∧ (∀ g', g'.length = y.cs.length → g' ≠ g → chv y.cs B g' = chv y.cs A g') ∧ (∀ i, y.k.In (B i)) ∧ S.fb.length + S.wb.length + 6000 ≤ 16700000 ∧
  ∀ v n ad' ln' H' wb', SX L.wl H H' → LogR K H' L ⟨S.fb, wb'⟩ z → TupI K H' v [ad', ln'] → n.key = g → Slab ⟨S.fb, wb'⟩ y ad' ln' B (ins n es) (Ψ + 1) → Ext S ⟨S.fb, wb'⟩ → wb'.length ≤ S.wb.length + 6000 → Q v H'
section
variable {P : Program} {w : World} {K : PySem.W.Frag} {mg : Str → Option Value} {base : Heap}
theorem cs_szs {y : Lay} (ho : y.Ok) : Szs y.cs := fun n hn => by have := ho.cs n hn; omega
theorem sc_encc : FnScope ["layout", "values", "stored"] ["layout", "values"] (defScope (top 86)) := ⟨rfl, rfl, rfl, by decide +kernel, rfl, by decide +kernel, by decide +kernel⟩
theorem c_encc (T : Ty P w K mg) : C8.Cal P w K mg base 7 "encode_chunk" (spEncC K) [] := by
  refine cal_of T.f_encode_chunk (fun _ _ _ _ _ _ us hl => match us, hl with | [_, _], _ => rfl) sc_encc (fun vs H Q E h => ?_) (fun f cdv A outer s H vs Q E hr h => ?_)
  · obtain ⟨ly, a, y, vals, rfl, _⟩ := h
    rfl
  · obtain ⟨ly, a, y, vals, rfl, ⟨dx, c, fa, hly, hc, hf⟩, ho, ha, hz, hin, q⟩ := h
    have nd := sc_encc.nd
    refine ⟨_, pss_cons (ps_set (i := 2) nd rfl (.inl rfl) (C8.pe_c (c_sto T) hr (by decide) rfl (pa_cons (pe_fld (pv 0) rfl) (pa_cons (pv 1) pa_nil))))
      (pss_one (ps_ret (C8.pe_c (c_wb T.toTx) hr (by decide) rfl (pa_cons (C8.pe_c (c_ac T.toTx) hr (by decide) rfl (pa_cons (pe_fld (pv 0) rfl) (pa_cons (pv 2) (pa_cons (C8.pe_c (c_width T) hr (by decide) rfl (pa_cons (pe_fld (pv 0) rfl) pa_nil)) pa_nil)))) pa_nil)))), ?_⟩
    refine ⟨_, rfl, ly, _, dx, _, _, rfl, hly, T.c_Layout, T.a_Layout_kind, rfl, _, rfl, y.k, a, vals, rfl, ha, hin, by omega, fun l1 H1 hl1 hs1 hL1 => ?_⟩
    refine ⟨_, rfl, ly, _, dx, _, _, rfl, hs1 _ _ hly, T.c_Layout, T.a_Layout_filters, rfl, _, rfl, _, rfl, ly, _, dx, _, _, rfl, hs1 _ _ hly, T.c_Layout, T.a_Layout_kind, rfl, y.k, rfl, ?_⟩
    have hw := y.k.w_of
    have hsl : (y.k.stor vals).length ≤ 256 := by
      rw [Kd.stor_len]
      rcases hw with e | e | e <;> rw [e] <;> omega
    refine ⟨fa, l1, y.fs, _, y.k.w, rfl, hw, Same.sqT hs1 hf, ho.fs, SqL.of hL1, by omega, fun ys hE l2 H2 hl2 hs2 hL2 => ?_⟩
    have hyl := hE.len hw
    have hg : grow y.fs.length (y.k.stor vals).length ≤ 1000000 := by
      have := ho.fs
      have : y.fs.length = 0 ∨ y.fs.length = 1 ∨ y.fs.length = 2 ∨ y.fs.length = 3 := by omega
      rcases this with e | e | e | e <;> rw [e] <;> simp only [grow] <;> omega
    have hg2 : grow y.fs.length (y.k.stor vals).length ≤ 2062 := by
      have := ho.fs
      have : y.fs.length = 0 ∨ y.fs.length = 1 ∨ y.fs.length = 2 ∨ y.fs.length = 3 := by omega
      rcases this with e | e | e | e <;> rw [e] <;> simp only [grow] <;> omega
    refine ⟨l2, ys, rfl, hL2, by omega, fun l3 H3 hl3 hs3 hL3 => ?_⟩
    have hs := (hs1.trans hs2).trans hs3
    exact q (wbytes ys) ⟨ys, hE, rfl⟩ l3 H3 ((hs1.trans hs2).free hl3) hs hL3
theorem sc_decc : FnScope ["layout", "content", "size", "passed", "at", "stored"] ["layout", "content"] (defScope (top 87)) := ⟨rfl, rfl, rfl, by decide +kernel, rfl, by decide +kernel, by decide +kernel⟩
theorem c_decc (T : Ty P w K mg) : C8.Cal P w K mg base 7 "decode_chunk" (spDecC K) [] := by
  refine cal_of T.f_decode_chunk (fun _ _ _ _ _ _ us hl => match us, hl with | [_, _], _ => rfl) sc_decc (fun vs H Q E h => ?_) (fun f cdv A outer s H vs Q E hr h => ?_)
  · obtain ⟨ly, a, y, vals, c, rfl, _⟩ := h
    rfl
  · obtain ⟨ly, a, y, vals, c, rfl, ⟨dx, ca, fa, hly, hc, hf⟩, ho, ha, ⟨ys, hE, rfl⟩, hvl, hin, q⟩ := h
    have nd := sc_decc.nd
    refine ⟨_, pss_cons (ps_set (i := 2) nd rfl (.inl rfl) (C8.pe_c (c_width T) hr (by decide) rfl (pa_cons (pe_fld (pv 0) rfl) pa_nil)))
      (pss_cons (ps_try_thru0 (pss_cons (ps_asg (C8.pe_c (c_rb T.toTx) hr (by decide) rfl (pa_cons (pv 1) (pa_cons pe_int pa_nil))) (pg_tup (by rfl) (pgs_cons (pg_name (i := 3) nd rfl (.inl rfl)) (pgs_cons (pg_name (i := 4) nd rfl (.inl rfl)) pgs_nil))))
        (pss_one (ps_set (i := 5) nd rfl (.inl rfl) (C8.pe_c (c_uc T.toTx) hr (by decide) rfl (pa_cons (pe_fld (pv 0) rfl) (pa_cons (pv 3) (pa_cons (pv 2) pa_nil))))))))
      (pss_cons (ps_if (PW.pt (pw_or (pt_cmpR op_ne (pv 4) (pe_callB call_len (by rfl) T.n_len PySem.boot_len (pa_cons (pv 1) pa_nil)) (nomark _))
          (pw_or1 (pt_cmpR op_ne (pe_callB call_len (by rfl) T.n_len PySem.boot_len (pa_cons (pv 5) pa_nil)) (pe_op op_mul (pv 2) (C8.pe_c (c_ecount T.toTx) hr (by decide) rfl (pa_cons (pe_fld (pv 0) rfl) pa_nil))) (nomark _))))) (pss_one (ps_ret pe_non)) pss_nil)
      (pss_one (ps_ret (C8.pe_c (c_loa T) hr (by decide) rfl (pa_cons (pe_fld (pv 0) rfl) (pa_cons (pv 5) pa_nil))))))), ?_⟩
    have hw := y.k.w_of
    have hE4 := ecount4 ho.cs ho.dim
    have hsl : (y.k.stor vals).length ≤ 256 := by
      rw [Kd.stor_len]
      rcases hw with e | e | e <;> rw [e] <;> omega
    have hyl := hE.len hw
    have hg2 : grow y.fs.length (y.k.stor vals).length ≤ 2062 := by
      have := ho.fs
      have : y.fs.length = 0 ∨ y.fs.length = 1 ∨ y.fs.length = 2 ∨ y.fs.length = 3 := by omega
      rcases this with e | e | e | e <;> rw [e] <;> simp only [grow] <;> omega
    refine ⟨_, rfl, ly, _, dx, _, _, rfl, hly, T.c_Layout, T.a_Layout_kind, rfl, y.k, rfl, ?_⟩
    refine ⟨_, rfl, a, _, ys, rfl, ha, rfl, hE.byt (Kd.stor_Byt _ _), by omega, fun t l1 H1 hs1 hl1 hL1 hT1 => ?_⟩
    refine ⟨t, _, rfl, SqT.of hT1, rfl, _, _, rfl, _, _, rfl, rfl, ?_⟩
    refine ⟨_, rfl, ly, _, dx, _, _, rfl, hs1 _ _ hly, T.c_Layout, T.a_Layout_filters, rfl, _, rfl, _, rfl, ?_⟩
    refine ⟨fa, l1, y.fs, y.k.stor vals, ys, y.k.w, rfl, hw, Same.sqT hs1 hf, ho.fs, SqL.of hL1, by omega, Kd.stor_Byt _ _, hE, fun l2 H2 hl2 hs2 hL2 => ?_⟩
    have hs := hs1.trans hs2
    refine ⟨_, rfl, _, rfl, _, _, rfl, .inl ⟨_, same_sqL hs ha, rfl⟩, rfl, _, rfl, ?_⟩
    refine iteKF (by simp) ?_
    refine ⟨_, rfl, _, _, rfl, .inl ⟨_, SqL.of hL2, rfl⟩, _, rfl, _, rfl, ly, _, dx, _, _, rfl, hs _ _ hly, T.c_Layout, T.a_Layout_chunk_shape, rfl, ?_⟩
    refine ⟨_, y.cs, rfl, ⟨ca, rfl, Same.sqT hs hc⟩, cs_szs ho, (y.k.w : Int), ecount y.cs, rfl, rfl, .inl ⟨by omega, by omega⟩, rfl, _, rfl, ?_⟩
    refine iteKF (by rw [List.length_map, Kd.stor_len, ← hvl]; push_cast; simp) ?_
    refine ⟨_, rfl, ly, _, dx, _, _, rfl, hs _ _ hly, T.c_Layout, T.a_Layout_kind, rfl, _, rfl, ?_⟩
    exact ⟨y.k, l2, vals, rfl, SqL.of hL2, hin, by omega, fun l3 H3 hl3 hs3 hL3 => q l3 H3 (hs.free hl3) (hs.trans hs3) hL3⟩
theorem sc_ldc : FnScope ["log", "layout", "root", "grid", "pointer", "values"] ["log", "layout", "root", "grid"] (defScope (top 88)) := ⟨rfl, rfl, rfl, by decide +kernel, rfl, by decide +kernel, by decide +kernel⟩
theorem flat_repl (c : Nat) (b : Int) : (List.replicate c [V.int b]).flatten = iv (List.replicate c b) := flat_rep c b
theorem c_ldc (T : Ty P w K mg) : C8.Cal P w K mg base 8 "load_chunk" (spLdC K) [] := by
  refine cal_of T.f_load_chunk (fun _ _ _ _ _ _ us hl => match us, hl with | [_, _, _, _], _ => rfl) sc_ldc (fun vs H Q E h => ?_) (fun f cdv A0 outer s H vs Q E hr h => ?_)
  · obtain ⟨L, S, z, ly, y, rv, gv, ad, ln, A, es, Ψ, g, rfl, _⟩ := h
    rfl
  · obtain ⟨L, S, z, ly, y, rv, gv, ad, ln, A, es, Ψ, g, rfl, hL, ⟨dx, ca, fa, hly, hc, hf⟩, ho, hrv, hS, hg, hgl, q⟩ := h
    obtain ⟨fd, G, GB⟩ := x_fetch (base := base) T
    have nd := sc_ldc.nd
    refine ⟨_, pss_cons (ps_set (i := 4) nd rfl (.inl rfl) (C8.pe_c (c_find T) hr (by decide) rfl (pa_cons (pv 0) (pa_cons (pv 2) (pa_cons (pv 3) pa_nil)))))
      (pss_cons (ps_if (pt_cmp (pc_isN (pv 4))) (pss_one (ps_ret (pe_op op_rep (pe_lst (pa_cons (pe_fld (pv 1) rfl) pa_nil)) (C8.pe_c (c_ecount T.toTx) hr (by decide) rfl (pa_cons (pe_fld (pv 1) rfl) pa_nil))))) pss_nil)
      (pss_cons (ps_set (i := 5) nd rfl (.inl rfl) (C8.pe_c (c_decc T) hr (by decide) rfl (pa_cons (pv 1) (pa_cons
          (pe_methT (pv 0) T.c_Log T.f_Log_fetch.1 G (hr.mono (by decide)) GB (fun σ => passAt takes0 σ) (pa_cons (pe_gi (by rfl) T.i_CHUNK) (pa_cons (pv 4) pa_nil))) pa_nil))))
      (pss_cons (ps_if (pt_cmp (pc_isN (pv 5))) (pss_one ps_never) pss_nil)
      (pss_one (ps_ret (pv 5)))))), ?_⟩
    have hE4 := ecount4 ho.cs ho.dim
    refine ⟨_, rfl, _, rfl, _, rfl, L, S, z, rv, gv, ad, ln, g, es, Ψ, rfl, hL, hrv, hS.tree, hg, fun hn H1 hs1 => ?_, fun r hr1 v H1 hs1 hv => ?_⟩
    · refine ⟨_, rfl, _, rfl, ?_⟩
      refine iteK (by simp) ?_
      refine ⟨_, rfl, ly, _, dx, _, _, rfl, hs1 _ _ hly, T.c_Layout, T.a_Layout_fill, rfl, (by show 1 ≤ sizeLine; decide), fun p hp => ?_⟩
      have hs2 := hs1.trans (same_upd0 (o := .lst [.int y.fill]) hp)
      refine ⟨_, rfl, ly, _, dx, _, _, rfl, hs2 _ _ hly, T.c_Layout, T.a_Layout_chunk_shape, rfl, _, y.cs, rfl, ⟨ca, rfl, Same.sqT hs2 hc⟩, cs_szs ho, ?_⟩
      refine ⟨p, ecount y.cs, [.int y.fill], rfl, rfl, upd_same, by omega, by omega, by rw [sizeLine_eq]; simp only [List.length_singleton]; omega, fun p2 hp2 => ?_⟩
      refine q p2 _ (hs2.free hp2) (same_updD hs2 (hs2.free hp2)) ?_
      rw [upd_same, flat_repl, hS.rest g hgl hn]
    · obtain ⟨va, rfl, hva⟩ := id hv
      obtain ⟨hmem, hkey⟩ := look_some hr1
      obtain ⟨c, hrec, hch⟩ := hS.chs r hmem
      rw [hkey] at hch
      refine ⟨_, rfl, _, rfl, ?_⟩
      refine iteKF (by simp) ?_
      have hL1 := hL.keep hs1
      refine ⟨_, rfl, _, rfl, L.lg, L.d1, _, rfl, hL1.hl, rfl, _, rfl, L, S, z, .ref va, 3, 3, r.ad, r.ln, c, rfl, hL1, ⟨va, rfl, hva⟩, hrec, fun _ l2 H2 hl2 hs2 hL2 => ?_, fun h => absurd rfl h⟩
      have hsA := hs1.trans hs2
      refine ⟨ly, l2, y, chv y.cs A g, c, rfl, ⟨dx, ca, fa, hsA _ _ hly, Same.sqT hsA hc, Same.sqT hsA hf⟩, ho, SqL.of hL2, hch, by rw [chv_len]; omega, chv_rng hS.rng g, fun l3 H3 hl3 hs3 hL3 => ?_⟩
      refine ⟨_, rfl, _, rfl, ?_⟩
      refine iteKF (by simp) ?_
      exact ⟨_, rfl, q l3 H3 (hsA.free hl3) (hsA.trans hs3) hL3⟩
theorem sc_svc : FnScope ["log", "layout", "root", "grid", "values"] ["log", "layout", "root", "grid", "values"] (defScope (top 89)) := ⟨rfl, rfl, rfl, by decide +kernel, rfl, by decide +kernel, by decide +kernel⟩
theorem c_svc (T : Ty P w K mg) : C8.Cal P w K mg base 15 "save_chunk" (spSvC K) [] := by
  refine cal_of T.f_save_chunk (fun _ _ _ _ _ _ us hl => match us, hl with | [_, _, _, _, _], _ => rfl) sc_svc (fun vs H Q E h => ?_) (fun f cdv A0 outer s H vs Q E hr h => ?_)
  · obtain ⟨L, S, z, ly, a, y, rv, gv, ad, ln, A, B, es, Ψ, g, rfl, _⟩ := h
    rfl
  · obtain ⟨L, S, z, ly, a, y, rv, gv, ad, ln, A, B, es, Ψ, g, rfl, hL, hly, ho, hrv, hS, hΨ, hg, hgl, hgf, ha, hB, hBr, hz, q⟩ := h
    refine ⟨_, pss_one (ps_ret (C8.pe_c (c_put T) hr (by decide) rfl (pa_cons (pv 0) (pa_cons (pv 2) (pa_cons (pv 3) (pa_cons
      (C8.pe_mt (m_lput T.toTx) hr (by decide) (pv 0) (pa_cons (pe_gi (by rfl) T.i_CHUNK) (pa_cons (C8.pe_c (c_encc T) hr (by decide) rfl (pa_cons (pv 1) (pa_cons (pv 4) pa_nil))) pa_nil))) pa_nil)))))), ?_⟩
    have hE4 := ecount4 ho.cs ho.dim
    have hvl : (chv y.cs B g).length ≤ 64 := by rw [chv_len]; omega
    refine ⟨_, rfl, _, rfl, _, rfl, _, rfl, L.lg, L.d1, _, rfl, hL.hl, rfl, _, rfl, _, rfl, ly, a, y, chv y.cs B g, rfl, hly, ho, ha, hvl, chv_rng hBr g, fun c hch l1 H1 hl1 hs1 hL1 => ?_⟩
    have hcl := hch.len ho hvl
    refine ⟨L, S, z, 3, l1, c, rfl, hL.keep hs1, SqL.of hL1, by omega, by omega, fun t H2 sx2 ht hw2 hT2 => ?_⟩
    have sxA : SX L.wl H H2 := same_sx hs1 sx2
    have hml : (mkrec 3 c).length = c.length + 3 := mkrec_len _ _
    have hlow : Low (mkrec 3 c) := by
      obtain ⟨ys, hE, rfl⟩ := hch
      exact mkrec_Low (by decide) (wbytes_Low (hE.byt (Kd.stor_Byt _ _)))
    have hz2 : S.fb.length + (S.wb ++ mkrec 3 c).length + 1500 ≤ 16700000 := by rw [List.length_append]; omega
    have hL2 : LogR K H2 L ⟨S.fb, S.wb ++ mkrec 3 c⟩ z := hL.wr sxA hw2 (by rw [List.length_append]; omega)
    have x1 : Ext S ⟨S.fb, S.wb ++ mkrec 3 c⟩ := Ext.put _ _ _
    refine ⟨L, ⟨S.fb, S.wb ++ mkrec 3 c⟩, z, rv, gv, .ref t, ad, ln, ⟨g, ((S.fb.length + S.wb.length : Nat) : Int), ((mkrec 3 c).length : Int)⟩, es, Ψ, rfl, hL2, sxA.tupI hL.hw hrv, hS.tree.ext x1, hΨ, sxA.tupI hL.hw hg, ⟨t, rfl, SqT.of hT2⟩, ⟨hgf, ?_, ?_, ?_, ?_⟩, hz2, fun v ad' ln' H3 wb3 sx3 hL3 hv3 hT3 x3 hw3 => ?_⟩
    · show (0 : Int) ≤ ((S.fb.length + S.wb.length : Nat) : Int); omega
    · show ((S.fb.length + S.wb.length : Nat) : Int) < 100000000; omega
    · show (0 : Int) ≤ ((mkrec 3 c).length : Int); omega
    · show ((mkrec 3 c).length : Int) < 100000000; omega
    · have e : (⟨S.fb, S.wb ++ mkrec 3 c⟩ : Sto).wb.length = S.wb.length + (mkrec 3 c).length := List.length_append
      exact q v _ ad' ln' H3 wb3 (sxA.trans sx3) hL3 hv3 rfl (hS.save x1 x3 rfl hgl (Rec.new hlow) hch hB hBr hT3) (x1.trans x3) (by omega)
end
end Tz
/-! Selections. Core Lean alone. -/
namespace Tz
inductive Sel where
  | pts (ixs : List (List Int))
  | box (rs : List Rg)
def picks : Sel → List (List Int)
  | .pts ixs => ixs
  | .box rs => boxIx rs
def SelFits (ns : List Int) : Sel → Prop
  | .pts ixs => (∀ i ∈ ixs, i.length = ns.length ∧ inb ns i = true) ∧ ixs.length ≤ 100
  | .box rs => ns.length = rs.length ∧ ∀ (k : Nat) (n : Int) (r : Rg), ns[k]? = some n → rs[k]? = some r → r.Fits n
theorem picks_ok {ns : List Int} {sel : Sel} (h : SelFits ns sel) : ∀ i ∈ picks sel, i.length = ns.length ∧ inb ns i = true := by
  cases sel with
  | pts ixs => exact h.1
  | box rs => exact box_mem h.1 h.2
def Sz6 (ns : List Int) : Prop := (∀ n ∈ ns, 0 ≤ n ∧ n ≤ 6) ∧ ns.length ≤ 3
theorem Sz6.szs {ns : List Int} (h : Sz6 ns) : Szs ns := fun n hn => by have := h.1 n hn; omega
theorem Sz6.nn {ns : List Int} (h : Sz6 ns) : ∀ n ∈ ns, 0 ≤ n := fun n hn => (h.1 n hn).1
theorem Rg.Fits.ct {n : Int} {r : Rg} (h : r.Fits n) (hn : 0 ≤ n) : 0 ≤ r.ct ∧ r.ct ≤ n := by
  obtain ⟨h1, h2, h3, h4⟩ := h
  refine ⟨h3, ?_⟩
  rcases h4 with h4 | h4
  · omega
  · by_cases h5 : r.ct = 0
    · omega
    · have : 1 * (r.ct - 1) ≤ r.sp * (r.ct - 1) := Int.mul_le_mul_of_nonneg_right h2 (by omega)
      omega
def bsize (rs : List Rg) : Int := rs.foldl (fun c r => c * r.ct) 1
theorem bsize_snoc (rs : List Rg) (r : Rg) : bsize (rs ++ [r]) = bsize rs * r.ct := by unfold bsize; rw [List.foldl_append]; rfl
theorem sum_const {α : Type} (l : List α) (c : Nat) {f : α → Nat} (h : ∀ x ∈ l, f x = c) : (l.map f).sum = l.length * c := by
  induction l with
  | nil => simp
  | cons x r ih =>
    rw [List.map_cons, List.sum_cons, h x List.mem_cons_self, ih fun y hy => h y (List.mem_cons_of_mem _ hy), List.length_cons, Nat.add_mul, Nat.one_mul, Nat.add_comm]
theorem boxStep_len (ixs : List (List Int)) (r : Rg) : (boxStep ixs r).length = ixs.length * r.ct.toNat := by
  unfold boxStep
  rw [List.length_flatMap]
  exact sum_const _ _ fun x _ => by simp
theorem boxIx_snoc (rs : List Rg) (r : Rg) : boxIx (rs ++ [r]) = boxStep (boxIx rs) r := by unfold boxIx; rw [List.foldl_append]; rfl
theorem bsize_eq (rs : List Rg) : (∀ r ∈ rs, 0 ≤ r.ct) → bsize rs = ((boxIx rs).length : Int) := by
  induction rs using snoc_ind with
  | h0 => intro _; rfl
  | h1 rs r ih =>
    intro h
    have h0 : 0 ≤ r.ct := h r (by simp)
    rw [bsize_snoc, boxIx_snoc, boxStep_len, ih fun x hx => h x (List.mem_append_left _ hx)]
    push_cast
    rw [show ((r.ct.toNat : Nat) : Int) = r.ct by omega]
theorem boxIx_len6 (rs : List Rg) : (∀ r ∈ rs, r.ct ≤ 6) → (boxIx rs).length ≤ 6 ^ rs.length := by
  induction rs using snoc_ind with
  | h0 => intro _; decide
  | h1 rs r ih =>
    intro h
    have h0 : r.ct ≤ 6 := h r (by simp)
    rw [boxIx_snoc, boxStep_len, List.length_append, List.length_singleton, Nat.pow_succ]
    exact Nat.mul_le_mul (ih fun x hx => h x (List.mem_append_left _ hx)) (by omega)
theorem six {n : Nat} (h : n ≤ 3) : 6 ^ n ≤ 216 := by
  have : n = 0 ∨ n = 1 ∨ n = 2 ∨ n = 3 := by omega
  rcases this with rfl | rfl | rfl | rfl <;> decide
theorem SelFits.cts {ns : List Int} {rs : List Rg} (h : SelFits ns (.box rs)) (hz : Sz6 ns) : ∀ r ∈ rs, 0 ≤ r.ct ∧ r.ct ≤ 6 := fun r hr => by
  obtain ⟨k, hk⟩ := List.mem_iff_getElem?.mp hr
  have hlt : k < ns.length := by rw [h.1]; exact (List.getElem?_eq_some_iff.mp hk).1
  have hn := hz.1 ns[k] (List.getElem_mem hlt)
  have := (h.2 k ns[k] r (List.getElem?_eq_getElem hlt) hk).ct hn.1
  omega
theorem picks_len {ns : List Int} {sel : Sel} (h : SelFits ns sel) (hz : Sz6 ns) : (picks sel).length ≤ 216 := by
  cases sel with
  | pts ixs =>
    have h2 : ixs.length ≤ 100 := h.2
    show ixs.length ≤ 216
    omega
  | box rs => exact Nat.le_trans (boxIx_len6 rs fun r hr => (h.cts hz r hr).2) (six (by rw [← h.1]; exact hz.2))
theorem ecount6 {ns : List Int} (h : Sz6 ns) : 0 ≤ ecount ns ∧ ecount ns ≤ 216 := by
  have h0 := ecount_nonneg h.nn
  have h1 : SelFits ns (.box (whole ns)) := by
    refine ⟨by simp [whole], fun k n r hn hr => ?_⟩
    unfold whole at hr
    rw [List.getElem?_map, hn] at hr
    cases hr
    have := h.1 n (List.mem_of_getElem? hn)
    refine ⟨Int.le_refl 0, Int.le_refl 1, this.1, ?_⟩
    show n = 0 ∨ 0 + 1 * (n - 1) < n
    omega
  have := picks_len h1 h
  have e : picks (.box (whole ns)) = allIx ns := box_whole ns h.nn
  rw [e, allIx_len] at this
  omega
theorem whole_fits {ns : List Int} (h : Sz6 ns) : SelFits ns (.box (whole ns)) := by
  refine ⟨by simp [whole], fun k n r hn hr => ?_⟩
  unfold whole at hr
  rw [List.getElem?_map, hn] at hr
  cases hr
  have := h.1 n (List.mem_of_getElem? hn)
  refine ⟨Int.le_refl 0, Int.le_refl 1, this.1, ?_⟩
  show n = 0 ∨ 0 + 1 * (n - 1) < n
  omega
/-- an index within a shape -/
theorem inb_bd : ∀ {ns i : List Int}, ns.length = i.length → inb ns i = true → (∀ n ∈ ns, n ≤ 6) → ∀ k ∈ i, 0 ≤ k ∧ k ≤ 5
  | _, [], _, _, _, k, hk => by simp at hk
  | [], _ :: _, h, _, _, _, _ => by simp at h
  | n :: ns, x :: i, h, hi, hn, k, hk => by
    unfold inb at hi
    rw [List.zip_cons_cons, List.all_cons] at hi
    simp only [Bool.and_eq_true, decide_eq_true_eq] at hi
    rcases List.mem_cons.mp hk with rfl | hk
    · have := hn n List.mem_cons_self
      omega
    · exact inb_bd (ns := ns) (by simpa using h) hi.2 (fun m hm => hn m (List.mem_cons_of_mem _ hm)) k hk
/-- the grid of an index within a shape -/
theorem zdiv_fit {cs : List Int} (hc : ∀ n ∈ cs, 1 ≤ n) : ∀ {i : List Int}, cs.length = i.length → (∀ k ∈ i, 0 ≤ k ∧ k ≤ 5) → ∀ k ∈ zdiv cs i, 0 ≤ k ∧ k ≤ 5 := by
  intro i hl hi k hk
  unfold zdiv at hk
  obtain ⟨p, hp, rfl⟩ := List.mem_map.mp hk
  obtain ⟨h1, h2⟩ := List.of_mem_zip hp
  have hc1 := hc p.1 h1
  have hi1 := hi p.2 h2
  have a : 0 ≤ p.2 / p.1 := Int.ediv_nonneg hi1.1 (by omega)
  have b : p.2 / p.1 ≤ p.2 := Int.ediv_le_self _ hi1.1
  exact ⟨a, by omega⟩
end Tz
namespace Tz
open PySem PySem.Spec PyProof.Rows L2
/-! ### tuples of ints, many -/
def TupsZ (K : PySem.W.Frag) (H : Hp) (ps : List (V × List Int)) : Prop := ∀ q ∈ ps, TupI K H q.1 q.2
theorem TupsZ.keep {K : PySem.W.Frag} {H H' : Hp} {ps : List (V × List Int)} (h : TupsZ K H ps) (s : Same H H') : TupsZ K H' ps := fun q hq => (h q hq).keep s
theorem SX.tupsZ {w : Addr} {H H' : Hp} (s : SX w H H') {l : List V} (hw : H w = some (.lst l)) {K : PySem.W.Frag} {ps : List (V × List Int)} (h : TupsZ K H ps) : TupsZ K H' ps := fun q hq => s.tupI hw (h q hq)
theorem TupsZ.app {K : PySem.W.Frag} {H : Hp} {ps qs : List (V × List Int)} (h : TupsZ K H ps) (g : TupsZ K H qs) : TupsZ K H (ps ++ qs) := fun q hq => (List.mem_append.mp hq).elim (h q) (g q)
def rgL (r : Rg) : List Int := [r.st, r.sp, r.ct]
/-- how a selection stands -/
def SelR (K : PySem.W.Frag) (H : Hp) (v : V) : Sel → Prop
  | .pts ixs => ∃ t p ps, v = .ref t ∧ SqT K H t [.str "points", .ref p] ∧ SqT K H p (ps.map (·.1)) ∧ ps.map (·.2) = ixs ∧ TupsZ K H ps
  | .box rs => ∃ t p ps, v = .ref t ∧ SqT K H t [.str "box", .ref p] ∧ SqT K H p (ps.map (·.1)) ∧ ps.map (·.2) = rs.map rgL ∧ TupsZ K H ps
theorem SelR.keep {K : PySem.W.Frag} {H H' : Hp} {v : V} {sel : Sel} (h : SelR K H v sel) (s : Same H H') : SelR K H' v sel := by
  cases sel with
  | pts ixs => obtain ⟨t, p, ps, e, h1, h2, h3, h4⟩ := h; exact ⟨t, p, ps, e, Same.sqT s h1, Same.sqT s h2, h3, h4.keep s⟩
  | box rs => obtain ⟨t, p, ps, e, h1, h2, h3, h4⟩ := h; exact ⟨t, p, ps, e, Same.sqT s h1, Same.sqT s h2, h3, h4.keep s⟩
theorem SX.selR {w : Addr} {H H' : Hp} (s : SX w H H') {l : List V} (hw : H w = some (.lst l)) {K : PySem.W.Frag} {v : V} {sel : Sel} (h : SelR K H v sel) : SelR K H' v sel := by
  cases sel with
  | pts ixs => obtain ⟨t, p, ps, e, h1, h2, h3, h4⟩ := h; exact ⟨t, p, ps, e, s.sqT hw h1, s.sqT hw h2, h3, s.tupsZ hw h4⟩
  | box rs => obtain ⟨t, p, ps, e, h1, h2, h3, h4⟩ := h; exact ⟨t, p, ps, e, s.sqT hw h1, s.sqT hw h2, h3, s.tupsZ hw h4⟩
/-- indexes in a new list -/
abbrev OutTups (K : PySem.W.Frag) (H : Hp) (Q : VK) (xss : List (List Int)) : Prop := ∀ (l : Addr) (ps : List (V × List Int)) (H' : Hp), H l = none → Same H H' → H' l = some (.lst (ps.map (·.1))) → ps.map (·.2) = xss → TupsZ K H' ps → Q (.ref l) H'
def spSelSize (K : PySem.W.Frag) : Sp := fun vs H Q _ => ∃ (v : V) (ns : List Int) (sel : Sel), vs = [v] ∧ SelR K H v sel ∧ SelFits ns sel ∧ Sz6 ns ∧ Q (.int ((picks sel).length : Int)) H
def spFr (K : PySem.W.Frag) : Sp := fun vs H Q _ => ∃ (n : Int) (v : V) (r : Rg) (e : Bool), vs = [.int n, v, .bl e] ∧ TupI K H v (rgL r) ∧ r.Fits n ∧ (0 ≤ r.ct ∧ r.ct ≤ 6) ∧ (r.ct = 0 → e = true) ∧ Q (.bl true) H
def spFits (K : PySem.W.Frag) : Sp := fun vs H Q _ => ∃ (u v : V) (ns : List Int) (sel : Sel), vs = [u, v] ∧ TupI K H u ns ∧ SelR K H v sel ∧ SelFits ns sel ∧ Sz6 ns ∧ ∀ H', Same H H' → Q (.bl true) H'
def spBox (K : PySem.W.Frag) : Sp := fun vs H Q _ => ∃ (p : Addr) (ps : List (V × List Int)) (rs : List Rg), vs = [.ref p] ∧ SqT K H p (ps.map (·.1)) ∧ ps.map (·.2) = rs.map rgL ∧ TupsZ K H ps ∧ (∀ r ∈ rs, 0 ≤ r.ct ∧ r.ct ≤ 6) ∧ rs.length ≤ 3 ∧ OutTups K H Q (boxIx rs)
def spPick (K : PySem.W.Frag) : Sp := fun vs H Q _ => ∃ (u v : V) (ns : List Int) (sel : Sel), vs = [u, v] ∧ TupI K H u ns ∧ SelR K H v sel ∧ SelFits ns sel ∧ Sz6 ns ∧ OutTups K H Q (picks sel)
theorem ps_len {α : Type} {ps : List (V × List Int)} {rs : List α} {f : α → List Int} (h : ps.map (·.2) = rs.map f) : ps.length = rs.length := by
  have := congrArg List.length h
  simpa using this
theorem ps_get {α : Type} {ps : List (V × List Int)} {rs : List α} {f : α → List Int} (h : ps.map (·.2) = rs.map f) {i : Nat} {q : V × List Int} (hq : ps[i]? = some q) : ∃ r, rs[i]? = some r ∧ q.2 = f r := by
  have e := congrArg (fun l => l[i]?) h
  simp only [List.getElem?_map, hq, Option.map_some] at e
  cases hr : rs[i]? with
  | none => rw [hr] at e; cases e
  | some r => rw [hr] at e; exact ⟨r, rfl, Option.some.inj e⟩
/-- [f(x, y) for x, y in zip(t, u)], two tuples -/
theorem tlc_zipV {K : PySem.W.Frag} {a b : Addr} {xs ys : List V} {s1 s2 : Nat} {σ : L2.St} {H : Hp} {Q : VK} {ta : TA} {te : TE} (F : Nat → V) (hta : ∀ R : List V → Hp → Prop, R [.ref a, .ref b] H → ta σ H R) (ha : SqT K H a xs) (hb : SqT K H b ys) (hl : xs.length = ys.length) (hz : xs.length ≤ 1000)
    (hw : ∀ x y, wipe (((wipe σ [s1, s2]).set s1 x).set s2 y) [s1, s2] = wipe σ [s1, s2])
    (turn : ∀ i x y H' (R : VK), xs[i]? = some x → ys[i]? = some y → Same H H' → (∀ H4, Same H' H4 → R (F i) H4) → te (((wipe σ [s1, s2]).set s1 (some x)).set s2 (some y)) H' R)
    (k : ∀ D H', Same H H' → H D = none → H' D = some (.lst ((List.range xs.length).map F)) → Q (.ref D) H') :
    tLc (RZ.iZipA K ta) (gTup K 2 (gCons (gName s1) (gCons (gName s2) gNil))) tYes te [s1, s2] σ H Q := by
  refine hta _ ⟨a, b, xs, ys, rfl, .inr ⟨ha, hb, fun D hD => ?_⟩⟩
  refine lc_zipT (K := K) (xs := xs) (ys := ys) hl (fun i H' => Same H H' ∧ H' D = some (.lst ((List.range i).map F))) ⟨same_upd0 hD, upd_same⟩ (fun i H' h => ⟨Same.sqT h.1 ha, Same.sqT h.1 hb⟩) ?_ ?_
  · rintro i x y t H' hx hy ⟨hs, hd⟩ ht
    refine ⟨t, [x, y], rfl, SqT.of upd_same, rfl, _, _, rfl, _, _, rfl, rfl, hw _ _, ?_⟩
    show te _ _ _
    refine turn i x y _ _ hx hy (same_upd hs ht) fun H4 h4 => ?_
    have hd4 : H4 D = some (.lst ((List.range i).map F)) := h4 D _ (by rw [upd_ne (ne_of_none hd ht)]; exact hd)
    refine ⟨_, hd4, ?_, ?_, ?_⟩
    · rw [List.length_map, List.length_range, sizeLine_eq]
      have : i < xs.length := (List.getElem?_eq_some_iff.mp hx).1
      omega
    · exact same_updD ((same_upd hs ht).trans h4) hD
    · rw [upd_same, List.range_succ, List.map_append]; rfl
  · rintro H' ⟨hs, hd⟩
    exact k D H' hs hD hd
theorem bl_all {n : Nat} : (List.range n).map (fun _ => V.bl true) = ((List.range n).map fun _ => true).map V.bl := by rw [List.map_map]; rfl
section
variable {P : Program} {w : World} {K : PySem.W.Frag} {mg : Str → Option Value} {base : Heap}
theorem sc_selsize : FnScope ["selection", "kind", "parts", "count", "start", "step", "many"] ["selection"] (defScope (top 92)) := ⟨rfl, rfl, rfl, by decide +kernel, rfl, by decide +kernel, by decide +kernel⟩
theorem c_selsize (T : Tx K mg) : C8.Cal P w K mg base 1 "selection_size" (spSelSize K) [] := by
  refine cal_of T.f_selection_size (fun _ _ _ _ _ _ us hl => match us, hl with | [_], _ => rfl) sc_selsize (fun vs H Q E h => ?_) (fun f cdv A outer s H vs Q E hr h => ?_)
  · obtain ⟨v, ns, sel, rfl, _⟩ := h
    rfl
  · obtain ⟨v, ns, sel, rfl, hsel, hfit, h6, q⟩ := h
    have nd := sc_selsize.nd
    refine ⟨_, pss_cons (ps_asg (pv 0) (pg_tup (by rfl) (pgs_cons (pg_name (i := 1) nd rfl (.inl rfl)) (pgs_cons (pg_name (i := 2) nd rfl (.inl rfl)) pgs_nil))))
      (pss_cons (ps_if (pt_cmpR op_eq (pv 1) pe_str (nomark _)) (pss_one (ps_ret (pe_callB call_len (by rfl) T.n_len PySem.boot_len (pa_cons (pv 2) pa_nil)))) pss_nil)
      (pss_cons (ps_set (i := 3) nd rfl (.inl rfl) pe_int)
      (pss_cons (ps_for PassesOwn.never rfl (pi_tup (pv 2)) (pg_tup (by rfl) (pgs_cons (pg_name (i := 4) nd rfl (.inl rfl)) (pgs_cons (pg_name (i := 5) nd rfl (.inl rfl)) (pgs_cons (pg_name (i := 6) nd rfl (.inl rfl)) pgs_nil))))
        (pss_one (ps_aug (i := 3) nd rfl (.inl rfl) (pv 6) iop_mul)))
      (pss_one (ps_ret (pv 3)))))), ?_⟩
    cases sel with
    | pts ixs =>
      obtain ⟨t, p, ps, rfl, ht, hp, hps, hz⟩ := hsel
      refine ⟨_, rfl, t, _, rfl, ht, rfl, _, _, rfl, _, _, rfl, rfl, ?_⟩
      refine ⟨_, rfl, rfl, _, rfl, ?_⟩
      refine iteK (by decide) ?_
      refine ⟨_, rfl, _, _, rfl, .inr ⟨_, hp, rfl⟩, ?_⟩
      have e : (ps.map (·.1)).length = (picks (.pts ixs)).length := by
        show _ = ixs.length
        rw [← hps]; simp
      rw [e]
      exact q
    | box rs =>
      obtain ⟨t, p, ps, rfl, ht, hp, hps, hz⟩ := hsel
      refine ⟨_, rfl, t, _, rfl, ht, rfl, _, _, rfl, _, _, rfl, rfl, ?_⟩
      refine ⟨_, rfl, rfl, _, rfl, ?_⟩
      refine iteKF (by decide) ?_
      have hct := hfit.cts h6
      refine ⟨_, rfl, p, rfl, ⟨_, hp⟩, for_tup (K := K) (a := p) (xs := ps.map (·.1)) (fun i σ H' => H' = H ∧ ∃ x y z, σ = [some (.ref t), some (.str "box"), some (.ref p), some (.int (bsize (rs.take i))), x, y, z])
        ⟨rfl, none, none, none, rfl⟩ (fun i σ H' _ h => by rw [h.1]; exact hp) ?_ ?_⟩
      · rintro i x σ H' hx ⟨rfl, y1, y2, y3, rfl⟩
        rw [List.getElem?_map] at hx
        obtain ⟨qq, hq, rfl⟩ := Option.map_eq_some_iff.mp hx
        obtain ⟨r, hr1, e2⟩ := ps_get hps hq
        obtain ⟨ta, e3, hta⟩ := hz qq (List.mem_of_getElem? hq)
        rw [e2] at hta
        refine ⟨ta, [.int r.st, .int r.sp, .int r.ct], e3, hta, rfl, _, _, rfl, _, _, rfl, _, _, rfl, rfl, ?_⟩
        have hc := hct r (List.mem_of_getElem? hr1)
        refine ⟨_, rfl, _, rfl, bsize (rs.take i), r.ct, rfl, rfl, .inr ⟨by omega, by omega⟩, rfl, some (.int r.st), some (.int r.sp), some (.int r.ct), ?_⟩
        rw [take_snoc hr1, bsize_snoc]
        rfl
      · rintro σ H' ⟨rfl, y1, y2, y3, rfl⟩
        refine ⟨_, rfl, ?_⟩
        have e : (ps.map (·.1)).length = rs.length := by rw [List.length_map]; exact ps_len hps
        rw [e, List.take_length, bsize_eq rs fun r hr => (hct r hr).1]
        exact q
theorem sc_frange : FnScope ["size", "row", "is_empty", "start", "step", "count"] ["size", "row", "is_empty"] (defScope (top 93)) := ⟨rfl, rfl, rfl, by decide +kernel, rfl, by decide +kernel, by decide +kernel⟩
theorem c_frange (T : Tx K mg) : C8.Cal P w K mg base 1 "fits_range" (spFr K) [] := by
  refine cal_of T.f_fits_range (fun _ _ _ _ _ _ us hl => match us, hl with | [_, _, _], _ => rfl) sc_frange (fun vs H Q E h => ?_) (fun f cdv A outer s H vs Q E hr h => ?_)
  · obtain ⟨n, v, r, e, rfl, _⟩ := h
    rfl
  · obtain ⟨n, v, r, e, rfl, ⟨t, rfl, ht⟩, ⟨f1, f2, f3, f4⟩, ⟨c0, c6⟩, he, q⟩ := h
    have nd := sc_frange.nd
    refine ⟨_, pss_cons (ps_asg (pv 1) (pg_tup (by rfl) (pgs_cons (pg_name (i := 3) nd rfl (.inl rfl)) (pgs_cons (pg_name (i := 4) nd rfl (.inl rfl)) (pgs_cons (pg_name (i := 5) nd rfl (.inl rfl)) pgs_nil)))))
      (pss_cons (ps_if (PW.pt (pw_or (pt_cmpR op_lt (pv 3) pe_int (nomark _)) (pw_or (pt_cmpR op_lt (pv 4) pe_int (nomark _)) (pw_or1 (pt_cmpR op_lt (pv 5) pe_int (nomark _)))))) (pss_one (ps_ret pe_bl)) pss_nil)
      (pss_one (ps_ret (pe_or (pv 2) (pe_one (pe_cmpR op_lt (pe_op op_add (pv 3) (pe_op op_mul (pv 4) (pe_op op_sub (pv 5) pe_int))) (pv 0) (nomark _))))))), ?_⟩
    refine ⟨_, rfl, t, [.int r.st, .int r.sp, .int r.ct], rfl, ht, rfl, _, _, rfl, _, _, rfl, _, _, rfl, rfl, ?_⟩
    refine ⟨_, rfl, r.st, 0, rfl, rfl, _, rfl, ?_⟩
    refine iteKF (by simp; omega) ?_
    refine ⟨_, rfl, r.sp, 1, rfl, rfl, _, rfl, ?_⟩
    refine iteKF (by simp; omega) ?_
    refine ⟨_, rfl, r.ct, 0, rfl, rfl, _, rfl, ?_⟩
    refine iteKF (by simp; omega) ?_
    refine ⟨_, rfl, e, rfl, ?_⟩
    cases e with
    | true => exact iteK rfl q
    | false =>
      refine iteKF rfl ?_
      have hne : r.ct ≠ 0 := fun z => by have := he z; cases this
      have hlt : r.st + r.sp * (r.ct - 1) < n := by omega
      refine ⟨_, rfl, _, rfl, _, rfl, r.ct, 1, rfl, rfl, r.sp, r.ct - 1, rfl, rfl, .inr ⟨by omega, by omega⟩, r.st, _, rfl, rfl, _, rfl, _, _, rfl, rfl, ?_⟩
      show Q (.bl (decide (r.st + r.sp * (r.ct - 1) < n))) H
      rw [decide_eq_true hlt]
      exact q
theorem sc_fits : FnScope ["shape", "selection", "kind", "parts", "is_empty", "index", "row", "size"] ["shape", "selection"] (defScope (top 94)) := ⟨rfl, rfl, rfl, by decide +kernel, rfl, by decide +kernel, by decide +kernel⟩
theorem c_fits (T : Tx K mg) : C8.Cal P w K mg base 2 "fits" (spFits K) [] := by
  refine cal_of T.f_fits (fun _ _ _ _ _ _ us hl => match us, hl with | [_, _], _ => rfl) sc_fits (fun vs H Q E h => ?_) (fun f cdv A outer s H vs Q E hr h => ?_)
  · obtain ⟨u, v, ns, sel, rfl, _⟩ := h
    rfl
  · obtain ⟨u, v, ns, sel, rfl, hu, hsel, hfit, h6, q⟩ := h
    have nd := sc_fits.nd
    refine ⟨_, pss_cons (ps_asg (pv 1) (pg_tup (by rfl) (pgs_cons (pg_name (i := 2) nd rfl (.inl rfl)) (pgs_cons (pg_name (i := 3) nd rfl (.inl rfl)) pgs_nil))))
      (pss_cons (ps_if (pt_cmpR op_eq (pv 2) pe_str (nomark _)) (pss_one (ps_ret (pe_callB (cr_all rfl) (by rfl) T.n_all (by decide +kernel) (pa_cons
        (pe_lc (own := [("index", 5)]) (g := gName 5) (tt := tYes) (te := tCall (spInb K) [] C8.E0 (tCons (tVar 0) (tCons (tVar 5) tNil))) rfl nd (pi_tup (pv 3)) (blkOk_by (N := ["shape", "selection", "kind", "parts", "is_empty", "index", "row", "size"]) (sc := defScope (top 94)) (by decide +kernel))
          (fun _ _ _ _ _ => pg_name (i := 5) nd rfl (.inl rfl)) (fun _ _ _ _ _ => pts_nil) (fun _ _ _ _ _ => C8.pe_c (c_inb T) hr (by decide) rfl (pa_cons (pv 0) (pa_cons (pv 5) pa_nil)))) pa_nil)))) pss_nil)
      (pss_cons (ps_if (pt_cmpR op_ne (pe_callB call_len (by rfl) T.n_len PySem.boot_len (pa_cons (pv 3) pa_nil)) (pe_callB call_len (by rfl) T.n_len PySem.boot_len (pa_cons (pv 0) pa_nil)) (nomark _)) (pss_one (ps_ret pe_bl)) pss_nil)
      (pss_cons (ps_set (i := 4) nd rfl (.inr rfl) (pe_callB (cr_any rfl) (by rfl) T.n_any (by decide +kernel) (pa_cons
        (pe_lc (own := [("row", 6)]) (g := gName 6) (tt := tYes) (te := tOp rEq (tOp (rIxT K) (tVar 6) (tC (.int 2))) (tC (.int 0))) rfl nd (pi_tup (pv 3)) (blkOk_by (N := ["shape", "selection", "kind", "parts", "is_empty", "index", "row", "size"]) (sc := defScope (top 94)) (by decide +kernel))
          (fun _ _ _ _ _ => pg_name (i := 6) nd rfl (.inl rfl)) (fun _ _ _ _ _ => pts_nil) (fun _ _ _ _ _ => pe_cmpR op_eq (pe_ix ix_tup (pv 6) pe_int (fun _ _ => rfl)) pe_int (nomark _))) pa_nil)))
      (pss_one (ps_ret (pe_callB (cr_all rfl) (by rfl) T.n_all (by decide +kernel) (pa_cons
        (pe_lc (own := [("size", 7), ("row", 6)]) (g := gTup K 2 (gCons (gName 7) (gCons (gName 6) gNil))) (tt := tYes) (te := tCall (spFr K) [] C8.E0 (tCons (tVar 7) (tCons (tVar 6) (tCons (tVar 4) tNil)))) rfl nd (RZ.pi_zipA (by rfl) T.n_zip (pa_cons (pv 0) (pa_cons (pv 3) pa_nil))) (blkOk_by (N := ["shape", "selection", "kind", "parts", "is_empty", "index", "row", "size"]) (sc := defScope (top 94)) (by decide +kernel))
          (fun _ _ _ _ _ => pg_tup (by rfl) (pgs_cons (pg_name (i := 7) nd rfl (.inl rfl)) (pgs_cons (pg_name (i := 6) nd rfl (.inl rfl)) pgs_nil))) (fun _ _ _ _ _ => pts_nil)
          (fun _ _ _ _ _ => C8.pe_c (c_frange T) hr (by decide) rfl (pa_cons (pv 7) (pa_cons (pv 6) (pa_cons (pv 4) pa_nil))))) pa_nil))))))), ?_⟩
    cases sel with
    | pts ixs =>
      obtain ⟨t, p, ps, rfl, ht, hp, hps, hz⟩ := hsel
      refine ⟨_, rfl, t, _, rfl, ht, rfl, _, _, rfl, _, _, rfl, rfl, ?_⟩
      refine ⟨_, rfl, rfl, _, rfl, ?_⟩
      refine iteK (by decide) ?_
      have hpl : ps.length ≤ 100 := by
        have := congrArg List.length hps
        rw [List.length_map] at this
        rw [this]; exact hfit.2
      refine tcb1 ?_
      refine tlc_tup (s1 := 5) (xs := ps) (·.1) (fun _ => .bl true) (fun R h => ⟨_, rfl, h⟩) hp (by omega) (fun _ => rfl) (fun x H' R hx hs hk2 => ?_) (fun D H' hs hD hd => ?_)
      · have hx2 := hfit.1 x.2 (by rw [← hps]; exact List.mem_map.mpr ⟨x, hx, rfl⟩)
        refine ⟨_, rfl, _, rfl, u, x.1, ns, x.2, rfl, hu.keep hs, (hz x hx).keep hs, hx2.1.symm, by have := h6.2; omega, fun H4 h4 => ?_⟩
        rw [hx2.2]
        exact hk2 H4 h4
      · refine ⟨D, ps.map fun _ => true, rfl, SqL.of (by rw [hd, List.map_map]; rfl), ?_⟩
        have e : (ps.map fun _ => true).all id = true := by simp
        rw [e]
        exact q H' hs
    | box rs =>
      obtain ⟨t, p, ps, rfl, ht, hp, hps, hz⟩ := hsel
      have hct := hfit.cts h6
      have hpl : ps.length = rs.length := ps_len hps
      have hrl : ns.length = rs.length := hfit.1
      have hr3 : rs.length ≤ 3 := by rw [← hrl]; exact h6.2
      obtain ⟨ua, rfl, hua⟩ := id hu
      refine ⟨_, rfl, t, _, rfl, ht, rfl, _, _, rfl, _, _, rfl, rfl, ?_⟩
      refine ⟨_, rfl, rfl, _, rfl, ?_⟩
      refine iteKF (by decide) ?_
      refine ⟨_, rfl, _, _, rfl, .inr ⟨_, hp, rfl⟩, _, rfl, _, _, rfl, .inr ⟨_, hua, rfl⟩, rfl, _, rfl, ?_⟩
      refine iteKF (by simp [hpl, hrl]) ?_
      unfold tNext
      dsimp only [tSeq, tAsg]
      refine tcb1 ?_
      refine tlc_tup (s1 := 6) (xs := ps) (·.1) (fun x => .bl (decide (V.int (x.2.getD 2 0) = V.int 0))) (fun R h => ⟨_, rfl, h⟩) hp (by omega) (fun _ => rfl) (fun x H' R hx hs hk2 => ?_) (fun D H1 hs1 hD hd1 => ?_)
      · obtain ⟨i, hi⟩ := List.mem_iff_getElem?.mp hx
        obtain ⟨r, hr1, e2⟩ := ps_get hps hi
        obtain ⟨ta, e3, hta⟩ := (hz x hx).keep hs
        rw [e2] at hta
        rw [e3]
        have := hk2 H' (Same.refl _)
        rw [e2] at this
        exact ⟨_, rfl, ta, [.int r.st, .int r.sp, .int r.ct], 2, .int r.ct, rfl, rfl, hta, atI_nat (j := 2) rfl, rfl, this⟩
      · refine ⟨D, ps.map fun x => decide (V.int (x.2.getD 2 0) = V.int 0), rfl, SqL.of (by rw [hd1, List.map_map]; rfl), ?_⟩
        refine tcb1 ?_
        refine tlc_zipV (s1 := 7) (s2 := 6) (xs := iv ns) (ys := ps.map Prod.fst) (fun _ => .bl true) (fun R h => ⟨_, rfl, _, rfl, h⟩) (Same.sqT hs1 hua) (Same.sqT hs1 hp) (by rw [List.length_map, List.length_map, hpl, hrl]) (by rw [List.length_map]; omega) (fun _ _ => rfl) (fun i x yv H' R hx hy hs hk2 => ?_) (fun D2 H2 hs2 hD2 hd2 => ?_)
        · obtain ⟨n, hn, rfl⟩ := iv_get hx
          rw [List.getElem?_map] at hy
          obtain ⟨qq, hq, rfl⟩ := Option.map_eq_some_iff.mp hy
          obtain ⟨r, hr1, e2⟩ := ps_get hps hq
          have hta := (hz qq (List.mem_of_getElem? hq)).keep (hs1.trans hs)
          rw [e2] at hta
          refine ⟨_, rfl, _, rfl, _, rfl, n, qq.1, r, _, rfl, hta, hfit.2 i n r hn hr1, hct r (List.mem_of_getElem? hr1), fun h0 => ?_, hk2 H' (Same.refl _)⟩
          refine List.any_eq_true.mpr ⟨true, List.mem_map.mpr ⟨qq, List.mem_of_getElem? hq, ?_⟩, rfl⟩
          rw [e2]
          show decide (V.int r.ct = V.int 0) = true
          rw [h0]
          rfl
        · refine ⟨D2, (List.range (iv ns).length).map fun _ => true, rfl, SqL.of (by rw [hd2, bl_all]), ?_⟩
          have e : ((List.range (iv ns).length).map fun _ => true).all id = true := by simp
          rw [e]
          exact q H2 (hs1.trans hs2)
end
end Tz
namespace Tz
open PySem PySem.Spec PyProof.Rows L2
/-- [x + (n,) for x in xs for n in ns] -/
theorem tlc2_box {K : PySem.W.Frag} {a b : Addr} {ps : List (V × List Int)} {qs : List Int} {s1 s2 : Nat} {σ : L2.St} {H : Hp} {Q : VK} {tl tl1 : TE} {te : TE} (htl : ∀ R : VK, R (.ref a) H → tl σ H R) (ha : SqL K H a (ps.map (·.1))) (hb : SqL K H b (iv qs)) (hps : TupsZ K H ps)
    (htl1 : ∀ x H' (R : VK), R (.ref b) H' → tl1 ((wipe σ [s1, s2]).set s1 x) H' R) (hz : ps.length * qs.length ≤ 100000)
    (hw1 : ∀ x, wipe ((wipe σ [s1, s2]).set s1 x) [s1, s2] = wipe σ [s1, s2])
    (hw2 : ∀ x y, wipe ((wipe ((wipe σ [s1, s2]).set s1 x) [s2]).set s2 y) [s2] = wipe ((wipe σ [s1, s2]).set s1 x) [s2])
    (turn : ∀ x n H' (R : VK), x ∈ ps → n ∈ qs → Same H H' → (∀ v H4, Same H' H4 → TupI K H4 v (x.2 ++ [n]) → R v H4) → te ((wipe ((wipe σ [s1, s2]).set s1 (some x.1)) [s2]).set s2 (some (.int n))) H' R)
    (k : ∀ D ps' H', Same H H' → H D = none → H' D = some (.lst (ps'.map (·.1))) → ps'.map (·.2) = ps.flatMap (fun x => qs.map fun n => x.2 ++ [n]) → TupsZ K H' ps' → Q (.ref D) H') :
    tLc2 (iList K tl) (gName s1) tYes (iList K tl1) (gName s2) tYes te [s1, s2] [s2] σ H Q := by
  refine htl _ ⟨a, rfl, ⟨_, ha⟩, fun D hD => ?_⟩
  let G : List (V × List Int) → List (List Int) := fun l => l.flatMap (fun x => qs.map fun n => x.2 ++ [n])
  have glen : ∀ l : List (V × List Int), (G l).length = l.length * qs.length := fun l => by
    show (List.flatMap _ l).length = _
    rw [List.length_flatMap]
    exact sum_const l qs.length fun x _ => by simp
  let Pv : Nat → Hp → Prop := fun i H' => Same H H' ∧ ∃ acc : List (V × List Int), H' D = some (.lst (acc.map (·.1))) ∧ acc.map (·.2) = G (ps.take i) ∧ TupsZ K H' acc
  refine ⟨fun i m H' => m = ps.length - i ∧ i ≤ ps.length ∧ Pv i H', ⟨ps.length, by simp, Nat.zero_le _, same_upd0 hD, [], upd_same, rfl, fun q hq => by simp at hq⟩, ?_⟩
  rintro i m H' ⟨rfl, hi, hs, acc, hacc, hG, hZ⟩
  have qa := same_sqL hs ha
  by_cases hlt : i < ps.length
  · refine .inr ⟨⟨_, (ps[i]).1, qa, by rw [List.getElem?_map, List.getElem?_eq_getElem hlt]; rfl⟩, Pv (i + 1), fun H2 p' => ⟨ps.length - (i + 1), by omega, rfl, hlt, p'⟩, fun x H2 y => ?_⟩
    obtain ⟨rfl, y⟩ := y
    have hx := y _ qa
    rw [List.getElem?_map, List.getElem?_eq_getElem hlt] at hx
    have hx := Option.some.inj hx
    subst hx
    have hget : ps[i]? = some ps[i] := List.getElem?_eq_getElem hlt
    refine ⟨hw1 _, ?_⟩
    dsimp only [tYes]
    rw [if_pos rfl]
    refine htl1 _ _ _ ⟨b, rfl, ⟨_, same_sqL hs hb⟩, ?_⟩
    let Pw : Nat → Hp → Prop := fun j H3 => Same H H3 ∧ ∃ acc : List (V × List Int), H3 D = some (.lst (acc.map (·.1))) ∧ acc.map (·.2) = G (ps.take i) ++ (qs.take j).map (fun n => (ps[i]).2 ++ [n]) ∧ TupsZ K H3 acc
    refine ⟨fun j k H3 => k = qs.length - j ∧ j ≤ qs.length ∧ Pw j H3, ⟨qs.length, by simp, Nat.zero_le _, hs, acc, hacc, by simpa using hG, hZ⟩, ?_⟩
    rintro j k1 H3 ⟨rfl, hj, hs3, acc3, hacc3, hG3, hZ3⟩
    have qb := same_sqL hs3 hb
    by_cases hlt3 : j < qs.length
    · refine .inr ⟨⟨_, .int qs[j], qb, by rw [List.getElem?_map, List.getElem?_eq_getElem hlt3]; rfl⟩, Pw (j + 1), fun H4 p' => ⟨qs.length - (j + 1), by omega, rfl, hlt3, p'⟩, fun z H4 y4 => ?_⟩
      obtain ⟨rfl, y4⟩ := y4
      have hz4 := y4 _ qb
      rw [List.getElem?_map, List.getElem?_eq_getElem hlt3] at hz4
      have hz4 := Option.some.inj hz4
      subst hz4
      have hget3 : qs[j]? = some qs[j] := List.getElem?_eq_getElem hlt3
      refine ⟨hw2 _ _, ?_⟩
      show te _ _ _
      refine turn ps[i] qs[j] _ _ (List.getElem_mem hlt) (List.getElem_mem hlt3) hs3 fun v H5 hs5 hv => ?_
      have hD5 := hs5 _ _ hacc3
      have hl3 := congrArg List.length hG3
      rw [List.length_map, List.length_append, glen, List.length_map, List.length_take, List.length_take] at hl3
      have h1 : min i ps.length * qs.length + min j qs.length ≤ ps.length * qs.length := by
        have : (i + 1) * qs.length ≤ ps.length * qs.length := Nat.mul_le_mul_right _ (by omega)
        rw [Nat.add_mul, Nat.one_mul] at this
        rw [Nat.min_eq_left (by omega), Nat.min_eq_left (by omega)]
        omega
      refine ⟨_, hD5, by rw [List.length_map, sizeLine_eq]; omega, same_updD (hs3.trans hs5) hD, acc3 ++ [(v, (ps[i]).2 ++ [qs[j]])], by rw [upd_same, List.map_append]; rfl, ?_, ?_⟩
      · rw [List.map_append, hG3, take_snoc hget3, List.map_append, List.append_assoc]; rfl
      · have sx := sx_upd (w := D) (H := H5) (o := .lst (acc3.map (·.1) ++ [v]))
        refine TupsZ.app (sx.tupsZ hD5 (hZ3.keep hs5)) fun q hq => ?_
        rw [List.mem_singleton.mp hq]
        exact sx.tupI hD5 hv
    · have e : j = qs.length := by omega
      subst e
      refine .inl ⟨⟨_, qb, by simp⟩, hs3, acc3, hacc3, ?_, hZ3⟩
      rw [hG3, take_snoc hget, List.take_length]
      show _ = List.flatMap _ (_ ++ _)
      rw [List.flatMap_append]
      simp [G]
  · have e : i = ps.length := by omega
    subst e
    refine .inl ⟨⟨_, qa, by simp⟩, k D acc H' hs hD hacc ?_ hZ⟩
    rw [hG, List.take_length]
theorem seq_lc2 {wi wi1 : L2.TI} {g g1 : TG} {tt tt1 : TT} {te : TE} {vs vs1 : List Nat} {i : Nat} {D : Ends} {σ : L2.St} {H : Hp} (h : tLc2 wi g tt wi1 g1 tt1 te vs vs1 σ H (fun x H1 => gName i x σ H1 D.nx)) : tAsg (tLc2 wi g tt wi1 g1 tt1 te vs vs1) (gName i) D σ H := h
section
variable {P : Program} {w : World} {K : PySem.W.Frag} {mg : Str → Option Value} {base : Heap}
theorem sc_box : FnScope ["ranges", "indexes", "start", "step", "count", "places", "k", "index", "place"] ["ranges"] (defScope (top 95)) := ⟨rfl, rfl, rfl, by decide +kernel, rfl, by decide +kernel, by decide +kernel⟩
theorem c_box (T : Tx K mg) : C8.Cal P w K mg base 1 "box_indexes" (spBox K) [] := by
  refine cal_of T.f_box_indexes (fun _ _ _ _ _ _ us hl => match us, hl with | [_], _ => rfl) sc_box (fun vs H Q E h => ?_) (fun f cdv A outer s H vs Q E hr h => ?_)
  · obtain ⟨p, ps, rs, rfl, _⟩ := h
    rfl
  · obtain ⟨p, ps, rs, rfl, hp, hps, hz, hct, hr3, q⟩ := h
    have nd := sc_box.nd
    refine ⟨_, pss_cons (ps_set (i := 1) nd rfl (.inl rfl) (pe_lst (pa_cons (pe_tup pa_nil) pa_nil)))
      (pss_cons (ps_for PassesOwn.never rfl (pi_tup (pv 0)) (pg_tup (by rfl) (pgs_cons (pg_name (i := 2) nd rfl (.inr rfl)) (pgs_cons (pg_name (i := 3) nd rfl (.inr rfl)) (pgs_cons (pg_name (i := 4) nd rfl (.inl rfl)) pgs_nil))))
        (pss_cons (ps_set (i := 5) nd rfl (.inr rfl) (pe_lc (own := [("k", 6)]) (g := gName 6) (tt := tYes) rfl nd (pi_range1 (by rfl) T.n_range (pa_cons (pv 4) pa_nil)) (blkOk_by (N := ["ranges", "indexes", "start", "step", "count", "places", "k", "index", "place"]) (sc := defScope (top 95)) (by decide +kernel))
            (fun _ _ _ _ _ => pg_name (i := 6) nd rfl (.inl rfl)) (fun _ _ _ _ _ => pts_nil) (fun _ _ _ _ _ => pe_op op_add (pv 2) (pe_op op_mul (pv 3) (pv 6)))))
        (pss_one (ps_setLc2 (i := 1) (own := [("index", 7), ("place", 8)]) (vs1 := [8]) (g := gName 7) (tt := tYes) (g1 := gName 8) (tt1 := tYes) (wi1 := iList K (tVar 5)) (te := tOp (rCatA K) (tVar 7) (tTup (tCons (tVar 8) tNil))) rfl nd rfl rfl (sw_true rfl rfl rfl (by decide +kernel)) (pi_list (pv 1))
            (blkOk_by (N := ["ranges", "indexes", "start", "step", "count", "places", "k", "index", "place"]) (sc := defScope (top 95)) (by decide +kernel)) (by decide)
            (fun _ _ _ _ _ => pg_name (i := 7) nd rfl (.inl rfl)) (fun _ _ _ _ _ => pts_nil) (fun _ _ _ _ _ => pi_list (pv 5)) (fun _ _ _ _ _ => pg_name (i := 8) nd rfl (.inl rfl)) (fun _ _ _ _ _ => pts_nil)
            (fun _ _ _ _ _ => pe_op op_catA (pv 7) (pe_tup (pa_cons (pv 8) pa_nil)))))))
      (pss_one (ps_ret (pv 1)))), ?_⟩
    refine ⟨(by show 0 ≤ sizeLine; decide), fun t0 ht0 => ⟨(by show 1 ≤ sizeLine; decide), fun l0 hl0 => ?_⟩⟩
    have hs1 := same_upd0 (o := .tup []) ht0
    have hs2 := same_upd0 (o := .lst [.ref t0]) hl0
    have hpl : ps.length = rs.length := ps_len hps
    refine ⟨_, rfl, p, rfl, ⟨_, Same.sqT (hs1.trans hs2) hp⟩, for_tup (K := K) (a := p) (xs := ps.map Prod.fst) (fun i σ H' => Same H H' ∧ ∃ (l : Addr) (pp : List (V × List Int)) (x2 x3 x4 x5 x6 x7 x8 : Option V), H l = none ∧ H' l = some (.lst (pp.map (·.1))) ∧ pp.map (·.2) = boxIx (rs.take i) ∧ TupsZ K H' pp ∧ σ = [some (.ref p), some (.ref l), x2, x3, x4, x5, x6, x7, x8])
      ⟨hs1.trans hs2, l0, [(.ref t0, [])], none, none, none, none, none, none, none, hs1.free hl0, upd_same, rfl, fun y hy => ?_, rfl⟩ (fun i σ H' _ h => Same.sqT h.1 hp) ?_ ?_⟩
    · rw [List.mem_singleton.mp hy]
      exact ⟨t0, rfl, SqT.of (hs2 _ _ upd_same)⟩
    · rintro i x σ H' hx ⟨hs, l, pp, x2, x3, x4, x5, x6, x7, x8, hlH, hl, hG, hZ, rfl⟩
      rw [List.getElem?_map] at hx
      obtain ⟨qq, hq, rfl⟩ := Option.map_eq_some_iff.mp hx
      obtain ⟨r, hr1, e2⟩ := ps_get hps hq
      obtain ⟨ta, e3, hta⟩ := (hz qq (List.mem_of_getElem? hq)).keep hs
      rw [e2] at hta
      have hc := hct r (List.mem_of_getElem? hr1)
      refine ⟨ta, [.int r.st, .int r.sp, .int r.ct], e3, hta, rfl, _, _, rfl, _, _, rfl, _, _, rfl, rfl, ?_⟩
      dsimp only [tSeq, tAsg]
      refine tlc_range (K := K) (s1 := 6) (n := r.ct.toNat) (lo := 0) (fun k => .int (r.st + r.sp * (k : Int))) (fun R h => ⟨_, rfl, r.ct, rfl, by omega, by omega, h⟩) (by omega) (fun _ => rfl) (fun k H2 R hk hs2 hk2 => ?_) (fun D H2 hs2 hD hd2 => ?_)
      · refine ⟨_, rfl, _, rfl, _, rfl, r.sp, (0 : Int) + (k : Int), rfl, rfl, .inr ⟨by omega, by omega⟩, r.st, _, rfl, rfl, ?_⟩
        have := hk2 H2 (Same.refl _)
        rw [Int.zero_add]
        exact this
      · have hlen : (rs.take i).length ≤ 2 := by
          rw [List.length_take]
          have := (List.getElem?_eq_some_iff.mp hr1).1
          omega
        have hl36 : pp.length ≤ 36 := by
          have e := congrArg List.length hG
          rw [List.length_map] at e
          have h6 := boxIx_len6 (rs.take i) fun r hr => (hct r (List.mem_of_mem_take hr)).2
          have : 6 ^ (rs.take i).length ≤ 36 := by
            have : (rs.take i).length = 0 ∨ (rs.take i).length = 1 ∨ (rs.take i).length = 2 := by omega
            rcases this with h | h | h <;> rw [h] <;> decide
          omega
        have hDn : ((List.range r.ct.toNat).map fun k : Nat => V.int (r.st + r.sp * (k : Int))) = iv ((List.range r.ct.toNat).map fun k : Nat => r.st + r.sp * (k : Int)) := by unfold iv; rw [List.map_map]; rfl
        rw [hDn] at hd2
        refine seq_lc2 ?_
        refine tlc2_box (K := K) (s1 := 7) (s2 := 8) (a := l) (b := D) (ps := pp) (qs := (List.range r.ct.toNat).map fun k : Nat => r.st + r.sp * (k : Int)) (fun R h => ⟨_, rfl, h⟩) (SqL.of (hs2 _ _ hl)) (SqL.of hd2) (hZ.keep hs2) (fun x H' R h => ⟨_, rfl, h⟩) ?_ (fun _ => rfl) (fun _ _ => rfl) (fun x n H3 R hx hn hs3 hk3 => ?_) (fun D2 ps' H3 hs3 hD2 hd3 hps3 hZ3 => ?_)
        · rw [List.length_map, List.length_range]
          have : pp.length * r.ct.toNat ≤ 36 * 6 := Nat.mul_le_mul hl36 (by omega)
          omega
        · obtain ⟨tx, e4, htx⟩ := ((hZ.keep hs2).keep hs3) x hx
          rw [e4]
          refine ⟨_, rfl, _, rfl, (by show 1 ≤ sizeLine; decide), fun p1 hp1 => ?_⟩
          have hsp := same_upd0 (o := .tup [.int n]) hp1
          refine ⟨tx, p1, iv x.2, [.int n], rfl, rfl, Same.sqT hsp htx, SqT.of upd_same, ?_, fun h0 => ?_, fun _ h => (by cases h), fun hne _ p2 hp2 => ?_⟩
          · have : x.2 ∈ pp.map (·.2) := List.mem_map.mpr ⟨x, hx, rfl⟩
            rw [hG] at this
            have : x.2.length ≤ 3 := by
              have hb : ∀ rs : List Rg, ∀ i ∈ boxIx rs, i.length = rs.length := fun rs => by
                induction rs using snoc_ind with
                | h0 => intro i hi; simp [boxIx] at hi; subst hi; rfl
                | h1 rs r ih =>
                  intro i hi
                  rw [boxIx_snoc] at hi
                  obtain ⟨j, hj, hi⟩ := List.mem_flatMap.mp hi
                  obtain ⟨k, hk, rfl⟩ := List.mem_map.mp hi
                  simp [ih j hj]
              have := hb _ _ this
              omega
            rw [List.length_map, sizeLine_eq]
            simp only [List.length_singleton]
            omega
          · have e0 : x.2 = [] := by simpa using h0
            refine hk3 (.ref p1) _ hsp ⟨p1, rfl, SqT.of ?_⟩
            rw [upd_same, e0]; try rfl
          · refine hk3 (.ref p2) _ (hsp.trans (same_upd0 hp2)) ⟨p2, rfl, SqT.of ?_⟩
            rw [upd_same]; try simp
        · refine ⟨(hs.trans hs2).trans hs3, D2, ps', _, _, _, _, _, _, _, hs.free (hs2.free hD2), hd3, ?_, hZ3, rfl⟩
          rw [hps3, take_snoc hr1, boxIx_snoc]
          unfold boxStep
          rw [← hG, List.flatMap_map]
          refine congrArg (fun F => List.flatMap F pp) (funext fun x => ?_)
          rw [List.map_map]
          rfl
    · rintro σ H' ⟨hs, l, pp, x2, x3, x4, x5, x6, x7, x8, hlH, hl, hG, hZ, rfl⟩
      have e : (ps.map Prod.fst).length = rs.length := by rw [List.length_map]; exact hpl
      rw [e, List.take_length] at hG
      exact ⟨_, rfl, q l pp H' hlH hs hl hG hZ⟩
theorem sc_pick : FnScope ["shape", "selection", "size"] ["shape", "selection"] (defScope (top 96)) := ⟨rfl, rfl, rfl, by decide +kernel, rfl, by decide +kernel, by decide +kernel⟩
theorem c_pick (T : Tx K mg) : C8.Cal P w K mg base 3 "picked" (spPick K) [] := by
  refine cal_of T.f_picked (fun _ _ _ _ _ _ us hl => match us, hl with | [_, _], _ => rfl) sc_pick (fun vs H Q E h => ?_) (fun f cdv A outer s H vs Q E hr h => ?_)
  · obtain ⟨u, v, ns, sel, rfl, _⟩ := h
    rfl
  · obtain ⟨u, v, ns, sel, rfl, hu, hsel, hfit, h6, q⟩ := h
    have nd := sc_pick.nd
    refine ⟨_, pss_cons (ps_if (pt_not (pt_val (C8.pe_c (c_fits T) hr (by decide) rfl (pa_cons (pv 0) (pa_cons (pv 1) pa_nil))))) (pss_one ps_never) pss_nil)
      (pss_cons (ps_set (i := 2) nd rfl (.inl rfl) (C8.pe_c (c_selsize T) hr (by decide) rfl (pa_cons (pv 1) pa_nil)))
      (pss_cons (ps_if (pt_cmpR op_gt (pv 2) (pe_gi (by rfl) T.i_MOST_PICKED) (nomark _)) (pss_one ps_never) pss_nil)
      (pss_cons (ps_if (pt_cmpR op_eq (pe_ix ix_tup (pv 1) pe_int (fun _ _ => rfl)) pe_str (nomark _)) (pss_one (ps_ret (pe_callTy call_list_of (by rfl) T.n_list (by decide +kernel) (pa_cons (pe_ix ix_tup (pv 1) pe_int (fun _ _ => rfl)) pa_nil)))) pss_nil)
      (pss_cons (ps_if (pt_cmpR op_eq (pv 2) pe_int (nomark _)) (pss_one (ps_ret (pe_lst pa_nil))) pss_nil)
      (pss_one (ps_ret (C8.pe_c (c_box T) hr (by decide) rfl (pa_cons (pe_ix ix_tup (pv 1) pe_int (fun _ _ => rfl)) pa_nil)))))))), ?_⟩
    have hlen := picks_len hfit h6
    refine ⟨_, rfl, _, rfl, u, v, ns, sel, rfl, hu, hsel, hfit, h6, fun H1 hs1 => ?_⟩
    refine ⟨_, rfl, ?_⟩
    refine iteKF rfl ?_
    refine ⟨_, rfl, v, ns, sel, rfl, hsel.keep hs1, hfit, h6, ?_⟩
    refine ⟨_, rfl, _, _, rfl, rfl, _, rfl, ?_⟩
    refine iteKF (by simp; omega) ?_
    have hsel1 := hsel.keep hs1
    cases sel with
    | pts ixs =>
      obtain ⟨t, p, ps, rfl, ht, hp, hps, hz⟩ := hsel1
      refine ⟨_, rfl, t, _, 0, .str "points", rfl, rfl, ht, atI_nat (j := 0) rfl, rfl, _, rfl, ?_⟩
      refine iteK (by decide) ?_
      refine ⟨_, rfl, t, _, 1, .ref p, rfl, rfl, ht, atI_nat (j := 1) rfl, p, _, rfl, .inr hp, fun l hl => ?_⟩
      have hs2 := same_upd0 (o := .lst (ps.map (·.1))) hl
      exact q l ps _ (hs1.free hl) (hs1.trans hs2) upd_same hps (hz.keep hs2)
    | box rs =>
      obtain ⟨t, p, ps, rfl, ht, hp, hps, hz⟩ := hsel1
      have hct := hfit.cts h6
      refine ⟨_, rfl, t, _, 0, .str "box", rfl, rfl, ht, atI_nat (j := 0) rfl, rfl, _, rfl, ?_⟩
      refine iteKF (by decide) ?_
      refine ⟨_, rfl, rfl, _, rfl, ?_⟩
      by_cases h0 : (picks (.box rs)).length = 0
      · refine iteK (by rw [h0]; rfl) ?_
        refine ⟨(by show 0 ≤ sizeLine; decide), fun l hl => ?_⟩
        have hs2 := same_upd0 (o := .lst []) hl
        exact q l [] _ (hs1.free hl) (hs1.trans hs2) upd_same (List.eq_nil_of_length_eq_zero h0).symm fun y hy => by simp at hy
      · refine iteKF (decide_eq_false fun z => by have := V.int.inj z; omega) ?_
        refine ⟨_, rfl, t, _, 1, .ref p, rfl, rfl, ht, atI_nat (j := 1) rfl, p, ps, rs, rfl, hp, hps, hz, hct, by rw [← hfit.1]; exact h6.2, fun l pp H2 hl hs2 hl2 hpp hZ => ?_⟩
        exact q l pp H2 (hs1.free hl) (hs1.trans hs2) hl2 hpp hZ
end
end Tz
namespace Tz
open PySem PySem.Spec PyProof.Rows L2
/-- no tuple stands there -/
def NT (H : Hp) (w : Addr) : Prop := (∀ xs, H w ≠ some (.tup xs)) ∧ ∀ o u, H w ≠ some (.frz o u)
theorem NT.lst {H : Hp} {w : Addr} {l : List V} (h : H w = some (.lst l)) : NT H w := ⟨fun xs e => (by rw [h] at e; cases e), fun o u e => (by rw [h] at e; cases e)⟩
theorem NT.dT {H : Hp} {w : Addr} {l : List (List L2.Key × V)} (h : H w = some (.dT l)) : NT H w := ⟨fun xs e => (by rw [h] at e; cases e), fun o u e => (by rw [h] at e; cases e)⟩
theorem SX.sqT' {w : Addr} {H H' : Hp} (s : SX w H H') (hw : NT H w) {K : PySem.W.Frag} {a : Addr} {xs : List V} (h : SqT K H a xs) : SqT K H' a xs := by
  rcases h with (h | ⟨o, h⟩) | h
  · exact .inl (.inl (s _ _ (fun e => by rw [e] at h; exact hw.1 _ h) h))
  · exact .inl (.inr ⟨o, s _ _ (fun e => by rw [e] at h; exact hw.2 _ _ h) h⟩)
  · exact .inr h
theorem SX.tupsZ' {w : Addr} {H H' : Hp} (s : SX w H H') (hw : NT H w) {K : PySem.W.Frag} {ps : List (V × List Int)} (h : TupsZ K H ps) : TupsZ K H' ps := fun q hq => by
  obtain ⟨a, e, h⟩ := h q hq
  exact ⟨a, e, s.sqT' hw h⟩
/-! ### dicts with tuple keys -/
theorem kI_inj {a b : List Int} (h : kI a = kI b) : a = b := by
  unfold kI at h
  induction a generalizing b with
  | nil => cases b with
    | nil => rfl
    | cons _ _ => cases h
  | cons x r ih =>
    cases b with
    | nil => cases h
    | cons y s =>
      obtain ⟨e1, e2⟩ := List.cons.inj h
      rw [Sum.inl.inj e1, ih e2]
def assoc (g : List Int) (es : List (List Int × V)) : Option V := (es.find? fun e => decide (e.1 = g)).map (·.2)
theorem valV_ent (g : List Int) : ∀ es : List (List Int × V), valV (es.map entI) (kI g) = assoc g es
  | [] => rfl
  | e :: es => by
    unfold assoc
    rw [List.map_cons, List.find?_cons]
    by_cases h : e.1 = g
    · rw [valV_pos (p := entI e) (show kI e.1 = kI g by rw [h])]
      simp [h]
    · rw [valV_neg (p := entI e) (fun z => h (kI_inj z)), valV_ent g es]
      simp [h, assoc]
theorem assoc_none {g : List Int} {es : List (List Int × V)} (h : assoc g es = none) : ∀ e ∈ es, e.1 ≠ g := fun e he => by
  unfold assoc at h
  have := List.find?_eq_none.mp (Option.map_eq_none_iff.mp h) e he
  simpa using this
theorem assoc_some {g : List Int} {es : List (List Int × V)} {v : V} (h : assoc g es = some v) : (g, v) ∈ es := by
  unfold assoc at h
  obtain ⟨e, h1, h2⟩ := Option.map_eq_some_iff.mp h
  have h3 := List.find?_some h1
  have h3 : e.1 = g := by simpa using h3
  have := List.mem_of_find?_eq_some h1
  rw [← h3, ← h2]
  exact this
theorem putK_ent {g : List Int} {es : List (List Int × V)} {v : V} (h : assoc g es = none) : putK (es.map entI) (kI g) v = (es ++ [(g, v)]).map entI := by
  unfold putK
  rw [valV_any, valV_ent, h]
  simp
theorem assoc_app {g : List Int} {es : List (List Int × V)} {v : V} (h : assoc g es = none) : assoc g (es ++ [(g, v)]) = some v := by
  unfold assoc at h ⊢
  rw [List.find?_append, Option.map_eq_none_iff.mp h]
  simp
abbrev OutL (H : Hp) (Q : VK) (xs : List Int) : Prop := Out H Q (.lst (iv xs))
def spRslab (K : PySem.W.Frag) : Sp := fun vs H Q _ => ∃ (L : LA) (S : Sto) (z : Int) (ly : Addr) (y : Lay) (rv sv pv : V) (ad ln : Int) (A : List Int → Int) (es : List Row) (Ψ : Nat) (ns : List Int) (sel : Sel), vs = [.ref L.lg, .ref ly, rv, sv, pv] ∧ LogR K H L S z ∧ LayR K H ly y ∧ y.Ok ∧ TupI K H rv [ad, ln] ∧ Slab S y ad ln A es Ψ ∧
  TupI K H sv ns ∧ Sz6 ns ∧ ns.length = y.cs.length ∧ SelR K H pv sel ∧ SelFits ns sel ∧ OutL H Q ((picks sel).map A)
section
variable {P : Program} {w : World} {K : PySem.W.Frag} {mg : Str → Option Value} {base : Heap}
theorem cs_pos {y : Lay} (ho : y.Ok) : Pos1 y.cs := fun n hn => by have := ho.cs n hn; omega
theorem sc_rslab : FnScope ["log", "layout", "root", "shape", "selection", "loaded", "values", "index", "grid"] ["log", "layout", "root", "shape", "selection"] (defScope (top 102)) := ⟨rfl, rfl, rfl, by decide +kernel, rfl, by decide +kernel, by decide +kernel⟩
theorem c_rslab (T : Ty P w K mg) : C8.Cal P w K mg base 9 "read_slab" (spRslab K) [] := by
  refine cal_of T.f_read_slab (fun _ _ _ _ _ _ us hl => match us, hl with | [_, _, _, _, _], _ => rfl) sc_rslab (fun vs H Q E h => ?_) (fun f cdv A0 outer s H vs Q E hr h => ?_)
  · obtain ⟨L, S, z, ly, y, rv, sv, pv, ad, ln, A, es, Ψ, ns, sel, rfl, _⟩ := h
    rfl
  · obtain ⟨L, S, z, ly, y, rv, sv, pvv, ad, ln, A, es, Ψ, ns, sel, rfl, hL, hly, ho, hrv, hS, hsv, h6, hdim, hsel, hfit, q⟩ := h
    have nd := sc_rslab.nd
    have hlc : Pos1 y.cs := cs_pos ho
    refine ⟨_, pss_cons (ps_set (i := 5) nd rfl (.inl rfl) pe_dnewT)
      (pss_cons (ps_set (i := 6) nd rfl (.inl rfl) (pe_lst pa_nil))
      (pss_cons (ps_for PassesOwn.never rfl (pi_list (C8.pe_c (c_pick T.toTx) hr (by decide) rfl (pa_cons (pv 3) (pa_cons (pv 4) pa_nil)))) (pg_name (i := 7) nd rfl (.inl rfl))
        (pss_cons (ps_set (i := 8) nd rfl (.inl rfl) (C8.pe_c (c_gi T.toTx) hr (by decide) rfl (pa_cons (pe_fld (pv 1) rfl) (pa_cons (pv 7) pa_nil))))
        (C8.pss_cut (ps_if (pt_cmp (pc_dnotin (hu_of hr) (pv 8) (pv 5))) (pss_one (ps_dput (hu_of hr) (pv 5) (pv 8) (C8.pe_c (c_ldc T) hr (by decide) rfl (pa_cons (pv 0) (pa_cons (pv 1) (pa_cons (pv 2) (pa_cons (pv 8) pa_nil))))) rfl)) pss_nil)
        (pss_one (ps_expr (pe_bm PySem.F.plainAttrs_list PySem.F.slot_list_append PySem.F.type_list_append mt_append (pv 6) (pa_cons
          (pe_ix ix_list (pe_dget (hu_of hr) (pv 5) (pv 8) (fun _ _ => rfl)) (C8.pe_c (c_rank T.toTx) hr (by decide) rfl (pa_cons (pe_fld (pv 1) rfl) (pa_cons (C8.pe_c (c_pc T.toTx) hr (by decide) rfl (pa_cons (pe_fld (pv 1) rfl) (pa_cons (pv 7) pa_nil))) pa_nil))) (fun _ _ => rfl)) pa_nil)))))))
      (pss_one (ps_ret (pv 6))))), ?_⟩
    refine fun d hd => ⟨(by show 0 ≤ sizeLine; decide), fun vl hvl => ?_⟩
    have hs1 := same_upd0 (o := .dT []) hd
    have hs2 := hs1.trans (same_upd0 (o := .lst []) hvl)
    have hdv : d ≠ vl := fun e => by rw [← e, upd_same] at hvl; cases hvl
    refine ⟨_, rfl, _, rfl, sv, pvv, ns, sel, rfl, hsv.keep hs2, hsel.keep hs2, hfit, h6, fun li ps H1 hli hs3 hli1 hps hZ => ?_⟩
    have hsA := hs2.trans hs3
    have hvl1 : H1 vl = some (.lst []) := hs3 _ _ upd_same
    have hd1 : H1 d = some (.dT []) := hs3 _ _ (by rw [upd_ne hdv, upd_same])
    have hld : li ≠ d := fun e => by rw [e, upd_ne hdv, upd_same] at hli; cases hli
    have hlv : li ≠ vl := fun e => by rw [e, upd_same] at hli; cases hli
    have hpl : ps.length = (picks sel).length := by rw [← hps]; simp
    have hp216 := picks_len hfit h6
    have hvH : H vl = none := hs1.free hvl
    refine ⟨li, rfl, ⟨_, SqL.of hli1⟩, for_list (K := K) (a := li) (xs := ps.map Prod.fst) (fun j σ H' => Same H H' ∧ H' li = some (.lst (ps.map (·.1))) ∧ TupsZ K H' ps ∧ H' vl = some (.lst (iv (((picks sel).take j).map A))) ∧
        (∃ ds : List (List Int × V), H' d = some (.dT (ds.map entI)) ∧ ds.length ≤ j ∧ ∀ e ∈ ds, e.1.length = y.cs.length ∧ ∃ l, e.2 = .ref l ∧ l ≠ vl ∧ H' l = some (.lst (iv (chv y.cs A e.1)))) ∧
        ∃ x7 x8, σ = [some (.ref L.lg), some (.ref ly), some rv, some sv, some pvv, some (.ref d), some (.ref vl), x7, x8])
      ⟨hsA, hli1, hZ, hvl1, ⟨[], hd1, Nat.le_refl _, fun e he => by simp at he⟩, none, none, rfl⟩ (fun j σ H' _ h => SqL.of h.2.1) ?_ ?_⟩
    · rintro j x σ H' hx ⟨hs, hlij, hZj, hvlj, ⟨ds, hdj, hdl, hds⟩, x7, x8, rfl⟩
      rw [List.getElem?_map] at hx
      obtain ⟨qq, hq, rfl⟩ := Option.map_eq_some_iff.mp hx
      have hj : j < ps.length := (List.getElem?_eq_some_iff.mp hq).1
      have hqm := List.mem_of_getElem? hq
      obtain ⟨ta, e3, hta⟩ := hZj qq hqm
      have hpick : (picks sel)[j]? = some qq.2 := by rw [← hps, List.getElem?_map, hq]; rfl
      obtain ⟨hil, hiin⟩ := picks_ok hfit qq.2 (List.mem_of_getElem? hpick)
      have hicl : y.cs.length = qq.2.length := by rw [hil, hdim]
      have hlyj := hly.keep hs
      obtain ⟨dx, ca, fa, hly0, hca0, hfa0⟩ := id hly
      refine ⟨_, rfl, ly, _, dx, _, _, rfl, hs _ _ hly0, T.c_Layout, T.a_Layout_chunk_shape, rfl, _, rfl, _, _, y.cs, qq.2, rfl, ⟨ca, rfl, Same.sqT hs hca0⟩, hZj qq hqm, hicl, hlc, by have := ho.dim; omega, fun g H2 hs4 hg => ?_⟩
      have hgl := zdiv_len hicl
      have hgfit : TupI K H2 (.ref g) (zdiv y.cs qq.2) := ⟨g, rfl, SqT.of hg⟩
      have hgk : H2 g = some (.tup ((kI (zdiv y.cs qq.2)).map kV)) := by rw [kI_V]; exact hg
      have hd2 := hs4 _ _ hdj
      have hDG := DGet.t hd2 hgk
      rw [valV_ent] at hDG
      have hsB := hs.trans hs4
      refine ⟨fun σ3 H3 => σ3 = [some (.ref L.lg), some (.ref ly), some rv, some sv, some pvv, some (.ref d), some (.ref vl), some qq.1, some (.ref g)] ∧ Same H H3 ∧ H3 li = some (.lst (ps.map (·.1))) ∧ TupsZ K H3 ps ∧ H3 vl = some (.lst (iv (((picks sel).take j).map A))) ∧ H3 g = some (.tup ((kI (zdiv y.cs qq.2)).map kV)) ∧
        ∃ ds' : List (List Int × V), H3 d = some (.dT (ds'.map entI)) ∧ ds'.length ≤ j + 1 ∧ (∀ e ∈ ds', e.1.length = y.cs.length ∧ ∃ l, e.2 = .ref l ∧ l ≠ vl ∧ H3 l = some (.lst (iv (chv y.cs A e.1)))) ∧ (assoc (zdiv y.cs qq.2) ds').isSome = true, ?_, ?_⟩
      · refine ⟨_, rfl, _, rfl, d, _, rfl, hDG, _, rfl, ?_⟩
        have hvl2 := hs4 _ _ hvlj
        cases has : assoc (zdiv y.cs qq.2) ds with
        | some v =>
          refine iteKF rfl ?_
          exact ⟨rfl, hsB, hs4 _ _ hlij, hZj.keep hs4, hvl2, hgk, ds, hd2, by omega, fun e he => by
            obtain ⟨b1, l, b2, b3, b4⟩ := hds e he
            exact ⟨b1, l, b2, b3, hs4 _ _ b4⟩, by rw [has]; rfl⟩
        | none =>
          refine iteK rfl ?_
          refine ⟨_, rfl, _, rfl, _, rfl, _, rfl, L, S, z, ly, y, rv, .ref g, ad, ln, A, es, Ψ, zdiv y.cs qq.2, rfl, hL.keep hsB, hly.keep hsB, ho, hrv.keep hsB, hS, hgfit, hgl, fun lc H3 hlc hs5 hlc3 => ?_⟩
          have hd3 := hs5 _ _ hd2
          have hg3 := hs5 _ _ hgk
          refine ⟨_, rfl, _, rfl, d, _, rfl, DPut.t hd3 hg3 (by rw [List.length_map, sizeLine_eq]; omega), ?_⟩
          rw [putK_ent has]
          have hgd : g ≠ d := fun e => by rw [e, hd3] at hg3; cases hg3
          have hvd : vl ≠ d := Ne.symm hdv
          have hlcd : lc ≠ d := fun e => by rw [e, hd3] at hlc3; cases hlc3
          have hlcv : lc ≠ vl := fun e => by rw [e, hvl2] at hlc; cases hlc
          refine ⟨rfl, same_updD (hsB.trans hs5) hd, by rw [upd_ne hld]; exact hs5 _ _ (hs4 _ _ hlij), sx_upd.tupsZ' (NT.dT hd3) ((hZj.keep hs4).keep hs5), by rw [upd_ne hvd]; exact hs5 _ _ hvl2, by rw [upd_ne hgd]; exact hg3, ds ++ [(zdiv y.cs qq.2, .ref lc)], upd_same, by rw [List.length_append, List.length_singleton]; omega, fun e he => ?_, by rw [assoc_app has]; rfl⟩
          rcases List.mem_append.mp he with he | he
          · obtain ⟨b1, l, b2, b3, b4⟩ := hds e he
            have b5 := hs5 _ _ (hs4 _ _ b4)
            exact ⟨b1, l, b2, b3, by rw [upd_ne (fun e => by rw [e, hd3] at b5; cases b5)]; exact b5⟩
          · rw [List.mem_singleton.mp he]
            exact ⟨hgl, lc, rfl, hlcv, by rw [upd_ne hlcd]; exact hlc3⟩
      · rintro σ3 H3 ⟨rfl, a1, a2, a3, a4, a5, ds', a6, a7, a8, a9⟩
        obtain ⟨v, hv⟩ := Option.isSome_iff_exists.mp a9
        obtain ⟨b1, lc, b2, b3, b4⟩ := a8 _ (assoc_some hv)
        have b2 : v = .ref lc := b2
        subst b2
        have hDG3 := DGet.t a6 a5
        rw [valV_ent, hv] at hDG3
        refine ⟨_, rfl, .inl ⟨rfl, _, SqL.of a4⟩, _, rfl, _, rfl, d, _, rfl, hDG3, ?_⟩
        refine ⟨_, rfl, ly, _, dx, _, _, rfl, a1 _ _ hly0, T.c_Layout, T.a_Layout_chunk_shape, rfl, _, rfl, ly, _, dx, _, _, rfl, a1 _ _ hly0, T.c_Layout, T.a_Layout_chunk_shape, rfl, _, rfl, _, _, y.cs, qq.2, rfl, ⟨ca, rfl, Same.sqT a1 hca0⟩, a3 qq hqm, hicl, hlc, by have := ho.dim; omega, fun pc H5 hs5 hpc => ?_⟩
        refine ⟨_, _, y.cs, zmod y.cs qq.2, rfl, ⟨ca, rfl, Same.sqT (a1.trans hs5) hca0⟩, ⟨pc, rfl, SqT.of hpc⟩, (zmod_len hicl).symm, cs_szs ho, fun H6 hs6 => ?_⟩
        have hs56 := hs5.trans hs6
        have hgt := chv_get ho.c1 hicl A
        refine ⟨lc, _, rankF y.cs (zmod y.cs qq.2), .int (A qq.2), rfl, rfl, SqL.of (hs56 _ _ b4), ?_, vl, _, _, rfl, rfl, hs56 _ _ a4, by rw [List.length_map, List.length_map, List.length_take, sizeLine_eq]; omega, ?_⟩
        · have hrkb := rank_ok y.cs (zmod y.cs qq.2) (zmod_len hicl).symm (zmod_inb ho.c1 hicl)
          have e0 : rankF y.cs (zmod y.cs qq.2) = ((rankF y.cs (zmod y.cs qq.2)).toNat : Int) := by omega
          rw [e0]
          refine atI_nat ?_
          rw [List.getElem?_map, hgt]
          rfl
        · refine ⟨same_updD (a1.trans hs56) hvH, by rw [upd_ne hlv]; exact hs56 _ _ a2, sx_upd.tupsZ' (NT.lst (hs56 _ _ a4)) (a3.keep hs56), ?_, ⟨ds', by rw [upd_ne hdv]; exact hs56 _ _ a6, a7, fun e he => ?_⟩, _, _, rfl⟩
          · rw [upd_same, take_snoc hpick, List.map_append]
            simp
          · obtain ⟨c1, l, c2, c3, c4⟩ := a8 e he
            exact ⟨c1, l, c2, c3, by rw [upd_ne c3]; exact hs56 _ _ c4⟩
    · rintro σ H' ⟨hs, hlij, hZj, hvlj, ⟨ds, hdj, hdl, hds⟩, x7, x8, rfl⟩
      refine ⟨_, rfl, q vl H' hvH hs ?_⟩
      rw [hvlj, List.length_map, hpl, List.take_length]
end
end Tz
/-! Writing. Core Lean alone. -/
namespace Tz
def writes (A : List Int → Int) (ps : List (List Int × Int)) : List Int → Int := ps.foldl (fun A p => updI A p.1 p.2) A
theorem writes_snoc (A : List Int → Int) {ps : List (List Int × Int)} {j : Nat} {p : List Int × Int} (h : ps[j]? = some p) : writes A (ps.take (j + 1)) = updI (writes A (ps.take j)) p.1 p.2 := by
  unfold writes
  rw [take_snoc h, List.foldl_append]; rfl
theorem writes_out : ∀ (ps : List (List Int × Int)) (A : List Int → Int) (i : List Int), (∀ p ∈ ps, p.1 ≠ i) → writes A ps i = A i
  | [], _, _, _ => rfl
  | p :: ps, A, i, h => by
    show writes (updI A p.1 p.2) ps i = A i
    rw [writes_out ps _ i fun q hq => h q (List.mem_cons_of_mem _ hq)]
    unfold updI
    exact if_neg fun e => h p List.mem_cons_self e.symm
theorem writes_rng {k : Kd} : ∀ (ps : List (List Int × Int)) (A : List Int → Int), (∀ i, k.In (A i)) → (∀ p ∈ ps, k.In p.2) → ∀ i, k.In (writes A ps i)
  | [], _, h, _, i => h i
  | p :: ps, A, h, hp, i => by
    refine writes_rng ps (updI A p.1 p.2) (fun j => ?_) (fun q hq => hp q (List.mem_cons_of_mem _ hq)) i
    unfold updI
    split
    · exact hp p List.mem_cons_self
    · exact h j
/-- B at the grids of the list, A elsewhere -/
def mixK (cs : List Int) (A B : List Int → Int) (keys : List (List Int)) : List Int → Int := fun i => if zdiv cs i ∈ keys then B i else A i
theorem mixK_rng {k : Kd} {cs : List Int} {A B : List Int → Int} {keys : List (List Int)} (hA : ∀ i, k.In (A i)) (hB : ∀ i, k.In (B i)) : ∀ i, k.In (mixK cs A B keys i) := fun i => by
  unfold mixK
  split
  · exact hB i
  · exact hA i
theorem mixK_at {cs : List Int} (hc : ∀ n ∈ cs, 1 ≤ n) {A B : List Int → Int} {keys : List (List Int)} {g : List Int} (hg : g.length = cs.length) (h : g ∈ keys) : chv cs (mixK cs A B keys) g = chv cs B g :=
  chv_congr hc hg fun i _ e => by unfold mixK; rw [if_pos (by rw [e]; exact h)]
theorem mixK_step {cs : List Int} (hc : ∀ n ∈ cs, 1 ≤ n) {A B : List Int → Int} {ks : List (List Int)} {g g' : List Int} (hg : g'.length = cs.length) (h : g' ≠ g) : chv cs (mixK cs A B (ks ++ [g])) g' = chv cs (mixK cs A B ks) g' :=
  chv_congr hc hg fun i _ e => by
    unfold mixK
    by_cases hm : zdiv cs i ∈ ks
    · rw [if_pos hm, if_pos (List.mem_append_left _ hm)]
    · rw [if_neg hm, if_neg fun z => ?_]
      rcases List.mem_append.mp z with z | z
      · exact hm z
      · exact h (by rw [← e]; exact List.mem_singleton.mp z)
theorem mixK_nil {cs : List Int} {A B : List Int → Int} : mixK cs A B [] = A := funext fun i => by unfold mixK; rw [if_neg (by simp)]
theorem mixK_all {cs : List Int} {A B : List Int → Int} {keys : List (List Int)} (h : ∀ i, zdiv cs i ∉ keys → B i = A i) : mixK cs A B keys = B := funext fun i => by
  unfold mixK
  split
  · rfl
  · rename_i hn
    exact (h i hn).symm
end Tz
namespace Tz
open PySem PySem.Spec PyProof.Rows L2
def spWslab (K : PySem.W.Frag) : Sp := fun vs H Q _ => ∃ (L : LA) (S : Sto) (z : Int) (ly : Addr) (y : Lay) (rv sv pv : V) (va : Addr) (ad ln : Int) (A : List Int → Int) (es : List Row) (Ψ : Nat) (ns : List Int) (sel : Sel) (vals : List Int), vs = [.ref L.lg, .ref ly, rv, sv, pv, .ref va] ∧ LogR K H L S z ∧ LayR K H ly y ∧ y.Ok ∧ TupI K H rv [ad, ln] ∧ Slab S y ad ln A es Ψ ∧ Ψ + 216 ≤ 5000 ∧
  TupI K H sv ns ∧ Sz6 ns ∧ ns.length = y.cs.length ∧ SelR K H pv sel ∧ SelFits ns sel ∧ H va = some (.lst (iv vals)) ∧ vals.length = (picks sel).length ∧ (∀ v ∈ vals, y.k.In v) ∧ S.fb.length + S.wb.length + 1296000 ≤ 16700000 ∧
  ∀ v ad' ln' es' Ψ' H' wb', SX L.wl H H' → LogR K H' L ⟨S.fb, wb'⟩ z → TupI K H' v [ad', ln'] → Slab ⟨S.fb, wb'⟩ y ad' ln' (writes A ((picks sel).zip vals)) es' Ψ' → Ψ' ≤ Ψ + 216 → Ext S ⟨S.fb, wb'⟩ → wb'.length ≤ S.wb.length + 1296000 → Q v H'
/-- the loaded chunks: their lists are new, one a grid -/
structure Lds (K : PySem.W.Frag) (H H' : Hp) (y : Lay) (li : Addr) (A : List Int → Int) (ds : List (List Int × V)) : Prop where
  at_ : ∀ e ∈ ds, e.1.length = y.cs.length ∧ KFit e.1 ∧ ∃ l, e.2 = .ref l ∧ H l = none ∧ l ≠ li ∧ H' l = some (.lst (iv (chv y.cs A e.1)))
  inj : ∀ e ∈ ds, ∀ e' ∈ ds, e.2 = e'.2 → e.1 = e'.1
  nd : (ds.map (·.1)).Nodup
theorem Lds.keep {K : PySem.W.Frag} {H H1 H2 : Hp} {y : Lay} {li : Addr} {A : List Int → Int} {ds : List (List Int × V)} (h : Lds K H H1 y li A ds) (s : ∀ (l : Addr) (xs : List V), H l = none → H1 l = some (.lst xs) → H2 l = some (.lst xs)) : Lds K H H2 y li A ds :=
  ⟨fun e he => by
    obtain ⟨a, b, l, c, d, f, g⟩ := h.at_ e he
    exact ⟨a, b, l, c, d, f, s _ _ d g⟩, h.inj, h.nd⟩
theorem assoc_of {g : List Int} {v : V} : ∀ {es : List (List Int × V)}, (es.map (·.1)).Nodup → (g, v) ∈ es → assoc g es = some v
  | [], _, h => by simp at h
  | e :: es, hn, h => by
    unfold assoc
    rw [List.find?_cons]
    rw [List.map_cons, List.nodup_cons] at hn
    rcases List.mem_cons.mp h with h | h
    · rw [← h]; simp
    · have : e.1 ≠ g := fun z => hn.1 (List.mem_map.mpr ⟨(g, v), h, z.symm⟩)
      simp only [this, decide_false]
      exact assoc_of hn.2 h
section
variable {P : Program} {w : World} {K : PySem.W.Frag} {mg : Str → Option Value} {base : Heap}
theorem sc_wslab : FnScope ["log", "layout", "root", "shape", "selection", "values", "indexes", "loaded", "index", "grid", "value"] ["log", "layout", "root", "shape", "selection", "values"] (defScope (top 103)) := ⟨rfl, rfl, rfl, by decide +kernel, rfl, by decide +kernel, by decide +kernel⟩
theorem c_wslab (T : Ty P w K mg) : C8.Cal P w K mg base 16 "write_slab" (spWslab K) [] := by
  refine cal_of T.f_write_slab (fun _ _ _ _ _ _ us hl => match us, hl with | [_, _, _, _, _, _], _ => rfl) sc_wslab (fun vs H Q E h => ?_) (fun f cdv A0 outer s H vs Q E hr h => ?_)
  · obtain ⟨L, S, z, ly, y, rv, sv, pv, va, ad, ln, A, es, Ψ, ns, sel, vals, rfl, _⟩ := h
    rfl
  · obtain ⟨L, S, z, ly, y, rv, sv, pvv, va, ad, ln, A, es, Ψ, ns, sel, vals, rfl, hL, hly, ho, hrv, hS, hΨ, hsv, h6, hdim, hsel, hfit, hva, hvl, hvin, hz, q⟩ := h
    have nd := sc_wslab.nd
    have hlc : Pos1 y.cs := cs_pos ho
    refine ⟨_, pss_cons (ps_set (i := 6) nd rfl (.inl rfl) (C8.pe_c (c_pick T.toTx) hr (by decide) rfl (pa_cons (pv 3) (pa_cons (pv 4) pa_nil))))
      (pss_cons (ps_if (pt_cmpR op_ne (pe_callB call_len (by rfl) T.n_len PySem.boot_len (pa_cons (pv 6) pa_nil)) (pe_callB call_len (by rfl) T.n_len PySem.boot_len (pa_cons (pv 5) pa_nil)) (nomark _)) (pss_one ps_never) pss_nil)
      (pss_cons (ps_expr (C8.pe_c (c_dem T) hr (by decide) rfl (pa_cons (pe_fld (pv 1) rfl) (pa_cons (pv 5) pa_nil))))
      (pss_cons (ps_set (i := 7) nd rfl (.inl rfl) pe_dnewT)
      (C8.pss_cut (ps_for PassesOwn.never rfl (pi_list (pv 6)) (pg_name (i := 8) nd rfl (.inl rfl))
        (pss_cons (ps_set (i := 9) nd rfl (.inl rfl) (C8.pe_c (c_gi T.toTx) hr (by decide) rfl (pa_cons (pe_fld (pv 1) rfl) (pa_cons (pv 8) pa_nil))))
        (pss_one (ps_if (pt_cmp (pc_dnotin (hu_of hr) (pv 9) (pv 7))) (pss_one (ps_dput (hu_of hr) (pv 7) (pv 9) (C8.pe_c (c_ldc T) hr (by decide) rfl (pa_cons (pv 0) (pa_cons (pv 1) (pa_cons (pv 2) (pa_cons (pv 9) pa_nil))))) rfl)) pss_nil))))
      (C8.pss_cut (ps_for PassesOwn.never rfl (RZ.pi_zipA (by rfl) T.n_zip (pa_cons (pv 6) (pa_cons (pv 5) pa_nil))) (pg_tup (by rfl) (pgs_cons (pg_name (i := 8) nd rfl (.inl rfl)) (pgs_cons (pg_name (i := 10) nd rfl (.inl rfl)) pgs_nil)))
        (pss_cons (ps_set (i := 9) nd rfl (.inl rfl) (C8.pe_c (c_gi T.toTx) hr (by decide) rfl (pa_cons (pe_fld (pv 1) rfl) (pa_cons (pv 8) pa_nil))))
        (pss_one (ps_asg (pv 10) (pg_sub (pe_dget (hu_of hr) (pv 7) (pv 9) (fun _ _ => rfl)) (C8.pe_c (c_rank T.toTx) hr (by decide) rfl (pa_cons (pe_fld (pv 1) rfl) (pa_cons (C8.pe_c (c_pc T.toTx) hr (by decide) rfl (pa_cons (pe_fld (pv 1) rfl) (pa_cons (pv 8) pa_nil))) pa_nil))) set_list (fun _ => rfl))))))
      (pss_cons (ps_for PassesOwn.never rfl (pi_list (pe_callB (cr_sortedT rfl (Nat.lt_of_le_of_lt (Nat.add_le_add_left (by decide : 8 ≤ 64) _) hr.units)) (by rfl) T.n_sorted (by decide +kernel) (pa_cons (pv 7) pa_nil))) (pg_name (i := 9) nd rfl (.inl rfl))
        (pss_one (ps_set (i := 2) nd rfl (.inl rfl) (C8.pe_c (c_svc T) hr (by decide) rfl (pa_cons (pv 0) (pa_cons (pv 1) (pa_cons (pv 2) (pa_cons (pv 9) (pa_cons (pe_dget (hu_of hr) (pv 7) (pv 9) (fun _ _ => rfl)) pa_nil)))))))))
      (pss_one (ps_ret (pv 2))))))))), ?_⟩
    refine ⟨_, rfl, _, rfl, sv, pvv, ns, sel, rfl, hsv, hsel, hfit, h6, fun li ps H1 hli hs1 hli1 hps hZ => ?_⟩
    have hpl : ps.length = (picks sel).length := by rw [← hps]; simp
    have hp216 := picks_len hfit h6
    refine ⟨_, rfl, _, _, rfl, .inl ⟨_, SqL.of hli1, rfl⟩, _, rfl, _, _, rfl, .inl ⟨_, SqL.of (hs1 _ _ hva), rfl⟩, rfl, _, rfl, ?_⟩
    refine iteKF (by rw [List.length_map, List.length_map, hpl, hvl]; simp) ?_
    obtain ⟨dx, ca, fa, hly0, hca0, hfa0⟩ := id hly
    refine ⟨_, rfl, ly, _, dx, _, _, rfl, hs1 _ _ hly0, T.c_Layout, T.a_Layout_kind, rfl, _, rfl, y.k, va, vals, rfl, SqL.of (hs1 _ _ hva), hvin, ?_⟩
    refine fun d hd => ?_
    have hdH : H d = none := hs1.free hd
    have hs2 := hs1.trans (same_upd0 (o := .dT []) hd)
    have hld : li ≠ d := fun e => by rw [e, hd] at hli1; cases hli1
    have hli2 : (upd H1 d (.dT [])) li = some (.lst (ps.map (·.1))) := by rw [upd_ne hld]; exact hli1
    have hd2 : (upd H1 d (.dT [])) d = some (.dT []) := upd_same
    have hZ2 : TupsZ K (upd H1 d (.dT [])) ps := hZ.keep (same_upd0 hd)
    have hstep : ∀ qq ∈ ps, qq.2.length = ns.length ∧ inb ns qq.2 = true := fun qq hq => picks_ok hfit qq.2 (by rw [← hps]; exact List.mem_map.mpr ⟨qq, hq, rfl⟩)
    refine ⟨fun σ H' => Same H H' ∧ H' li = some (.lst (ps.map (·.1))) ∧ TupsZ K H' ps ∧ (∃ ds : List (List Int × V), H' d = some (.dT (ds.map entI)) ∧ ds.length ≤ ps.length ∧ Lds K H H' y li A ds ∧ ∀ i ∈ picks sel, (assoc (zdiv y.cs i) ds).isSome = true) ∧
        ∃ x8 x9, σ = [some (.ref L.lg), some (.ref ly), some rv, some sv, some pvv, some (.ref va), some (.ref li), some (.ref d), x8, x9, none], ?_, ?_⟩
    · refine ⟨_, rfl, li, rfl, ⟨_, SqL.of hli2⟩, for_list (K := K) (a := li) (xs := ps.map Prod.fst) (fun j σ H' => Same H H' ∧ H' li = some (.lst (ps.map (·.1))) ∧ TupsZ K H' ps ∧ (∃ ds : List (List Int × V), H' d = some (.dT (ds.map entI)) ∧ ds.length ≤ j ∧ Lds K H H' y li A ds ∧ ∀ i ∈ (picks sel).take j, (assoc (zdiv y.cs i) ds).isSome = true) ∧
          ∃ x8 x9, σ = [some (.ref L.lg), some (.ref ly), some rv, some sv, some pvv, some (.ref va), some (.ref li), some (.ref d), x8, x9, none])
        ⟨hs2, hli2, hZ2, ⟨[], hd2, Nat.le_refl _, ⟨fun e he => by simp at he, fun e he => by simp at he, List.nodup_nil⟩, fun i hi => by simp at hi⟩, none, none, rfl⟩ (fun j σ H' _ h => SqL.of h.2.1) ?_ ?_⟩
      · rintro j x σ H' hx ⟨hs, hlij, hZj, ⟨ds, hdj, hdl, hds, hcov⟩, x8, x9, rfl⟩
        rw [List.getElem?_map] at hx
        obtain ⟨qq, hq, rfl⟩ := Option.map_eq_some_iff.mp hx
        have hj : j < ps.length := (List.getElem?_eq_some_iff.mp hq).1
        have hqm := List.mem_of_getElem? hq
        obtain ⟨hil, hiin⟩ := hstep qq hqm
        have hicl : y.cs.length = qq.2.length := by rw [hil, hdim]
        have hpick : (picks sel)[j]? = some qq.2 := by rw [← hps, List.getElem?_map, hq]; rfl
        refine ⟨_, rfl, ly, _, dx, _, _, rfl, hs _ _ hly0, T.c_Layout, T.a_Layout_chunk_shape, rfl, _, rfl, _, _, y.cs, qq.2, rfl, ⟨ca, rfl, Same.sqT hs hca0⟩, hZj qq hqm, hicl, hlc, by have := ho.dim; omega, fun g H2 hs4 hg => ?_⟩
        have hgl := zdiv_len hicl
        have hgf : KFit (zdiv y.cs qq.2) := ⟨by rw [hgl]; exact ho.dim, zdiv_fit ho.c1 hicl (inb_bd hil.symm hiin fun n hn => (h6.1 n hn).2)⟩
        have hgk : H2 g = some (.tup ((kI (zdiv y.cs qq.2)).map kV)) := by rw [kI_V]; exact hg
        have hd3 := hs4 _ _ hdj
        have hDG := DGet.t hd3 hgk
        rw [valV_ent] at hDG
        have hsB := hs.trans hs4
        refine ⟨_, rfl, _, rfl, d, _, rfl, hDG, _, rfl, ?_⟩
        have hcov' : ∀ ds' : List (List Int × V), (∀ g, (assoc g ds).isSome = true → (assoc g ds').isSome = true) → (assoc (zdiv y.cs qq.2) ds').isSome = true → ∀ i ∈ (picks sel).take (j + 1), (assoc (zdiv y.cs i) ds').isSome = true := fun ds' h1 h2 i hi => by
          rw [take_snoc hpick] at hi
          rcases List.mem_append.mp hi with hi | hi
          · exact h1 _ (hcov i hi)
          · rw [List.mem_singleton.mp hi]; exact h2
        cases has : assoc (zdiv y.cs qq.2) ds with
        | some v =>
          refine iteKF rfl ?_
          exact ⟨hsB, hs4 _ _ hlij, hZj.keep hs4, ⟨ds, hd3, by omega, hds.keep fun l xs _ h => hs4 _ _ h, hcov' ds (fun _ h => h) (by rw [has]; rfl)⟩, _, _, rfl⟩
        | none =>
          refine iteK rfl ?_
          refine ⟨_, rfl, _, rfl, _, rfl, _, rfl, L, S, z, ly, y, rv, .ref g, ad, ln, A, es, Ψ, zdiv y.cs qq.2, rfl, hL.keep hsB, hly.keep hsB, ho, hrv.keep hsB, hS, ⟨g, rfl, SqT.of hg⟩, hgl, fun lc H3 hlc hs5 hlc3 => ?_⟩
          have hd4 := hs5 _ _ hd3
          have hg4 := hs5 _ _ hgk
          refine ⟨_, rfl, _, rfl, d, _, rfl, DPut.t hd4 hg4 (by rw [List.length_map, sizeLine_eq]; omega), ?_⟩
          rw [putK_ent has]
          have hlcd : lc ≠ d := fun e => by rw [e, hd4] at hlc3; cases hlc3
          have hlcl : lc ≠ li := fun e => by rw [e, hs4 _ _ hlij] at hlc; cases hlc
          have hsC := hsB.trans hs5
          refine ⟨same_updD hsC hdH, by rw [upd_ne hld]; exact hs5 _ _ (hs4 _ _ hlij), sx_upd.tupsZ' (NT.dT hd4) ((hZj.keep hs4).keep hs5), ⟨ds ++ [(zdiv y.cs qq.2, .ref lc)], upd_same, by rw [List.length_append, List.length_singleton]; omega, ⟨fun e he => ?_, fun e he e' he' h => ?_, ?_⟩, hcov' _ (fun g' h => ?_) (by rw [assoc_app has]; rfl)⟩, _, _, rfl⟩
          · rcases List.mem_append.mp he with he | he
            · obtain ⟨b1, b1', l, b2, b3, b3', b4⟩ := hds.at_ e he
              have b5 := hs5 _ _ (hs4 _ _ b4)
              exact ⟨b1, b1', l, b2, b3, b3', by rw [upd_ne (fun e => by rw [e, hd4] at b5; cases b5)]; exact b5⟩
            · rw [List.mem_singleton.mp he]
              exact ⟨hgl, hgf, lc, rfl, hsB.free hlc, hlcl, by rw [upd_ne hlcd]; exact hlc3⟩
          · have old : ∀ e ∈ ds, e.2 ≠ .ref lc := fun e he z => by
              obtain ⟨b1, b1', l, b2, b3, b3', b4⟩ := hds.at_ e he
              rw [b2] at z
              have z := V.ref.inj z
              subst z
              rw [hs4 _ _ b4] at hlc
              cases hlc
            rcases List.mem_append.mp he with he | he
            · rcases List.mem_append.mp he' with he' | he'
              · exact hds.inj e he e' he' h
              · rw [List.mem_singleton.mp he'] at h
                exact absurd h (old e he)
            · rcases List.mem_append.mp he' with he' | he'
              · rw [List.mem_singleton.mp he] at h
                exact absurd h.symm (old e' he')
              · rw [List.mem_singleton.mp he, List.mem_singleton.mp he']
          · rw [List.map_append]
            refine List.nodup_append.mpr ⟨hds.nd, by simp, fun a ha b hb => ?_⟩
            rw [show b = zdiv y.cs qq.2 by simpa using hb]
            obtain ⟨e, he, rfl⟩ := List.mem_map.mp ha
            exact assoc_none has e he
          · obtain ⟨v, hv⟩ := Option.isSome_iff_exists.mp h
            unfold assoc at hv ⊢
            rw [List.find?_append]
            obtain ⟨e, h1, h2⟩ := Option.map_eq_some_iff.mp hv
            rw [h1]
            rfl
      · rintro σ H' ⟨hs, hlij, hZj, ⟨ds, hdj, hdl, hds, hcov⟩, x8, x9, rfl⟩
        rw [List.length_map] at hdl hcov
        rw [hpl, List.take_length] at hcov
        exact ⟨hs, hlij, hZj, ⟨ds, hdj, hdl, hds, hcov⟩, x8, x9, rfl⟩
    rintro σ H' ⟨hs, hlij, hZj, ⟨ds, hdj, hdl, hds, hcov⟩, x8, x9, rfl⟩
    let zp := (picks sel).zip vals
    have hzl : zp.length = ps.length := by
      show ((picks sel).zip vals).length = _
      rw [List.length_zip, hvl, Nat.min_self, hpl]
    refine ⟨fun σ H' => Same H H' ∧ H' d = some (.dT (ds.map entI)) ∧ Lds K H H' y li (writes A zp) ds ∧ ∃ x8 x9 x10, σ = [some (.ref L.lg), some (.ref ly), some rv, some sv, some pvv, some (.ref va), some (.ref li), some (.ref d), x8, x9, x10], ?_, ?_⟩
    · refine ⟨_, rfl, _, rfl, li, va, ps.map Prod.fst, iv vals, rfl, .inl ⟨SqL.of hlij, SqL.of (hs _ _ hva), RZ.for_zipL (K := K) (a := li) (b := va) (xs := ps.map Prod.fst) (ys := iv vals) (by rw [List.length_map, List.length_map, hpl, hvl])
        (fun j σ H' => Same H H' ∧ H' li = some (.lst (ps.map (·.1))) ∧ TupsZ K H' ps ∧ H' d = some (.dT (ds.map entI)) ∧ Lds K H H' y li (writes A (zp.take j)) ds ∧ ∃ x8 x9 x10, σ = [some (.ref L.lg), some (.ref ly), some rv, some sv, some pvv, some (.ref va), some (.ref li), some (.ref d), x8, x9, x10])
        ⟨hs, hlij, hZj, hdj, hds, x8, x9, none, rfl⟩ (fun j σ H' h => ⟨SqL.of h.2.1, SqL.of (h.1 _ _ hva)⟩) ?_ ?_⟩⟩
      · rintro j x yv t σ H2 hx hy ⟨hs2, hlij2, hZj2, hdj2, hds2, x8, x9, x10, rfl⟩ ht
        rw [List.getElem?_map] at hx
        obtain ⟨qq, hq, rfl⟩ := Option.map_eq_some_iff.mp hx
        obtain ⟨v, hv, rfl⟩ := iv_get hy
        have hj : j < ps.length := (List.getElem?_eq_some_iff.mp hq).1
        have hqm := List.mem_of_getElem? hq
        obtain ⟨hil, hiin⟩ := hstep qq hqm
        have hicl : y.cs.length = qq.2.length := by rw [hil, hdim]
        have hpick : (picks sel)[j]? = some qq.2 := by rw [← hps, List.getElem?_map, hq]; rfl
        have hzj : zp[j]? = some (qq.2, v) := zip_at hpick hv
        have hst := same_upd0 (o := .tup [qq.1, .int v]) ht
        have hsT := hs2.trans hst
        refine ⟨t, [qq.1, .int v], rfl, SqT.of upd_same, rfl, _, _, rfl, _, _, rfl, rfl, ?_⟩
        refine ⟨_, rfl, ly, _, dx, _, _, rfl, hsT _ _ hly0, T.c_Layout, T.a_Layout_chunk_shape, rfl, _, rfl, _, _, y.cs, qq.2, rfl, ⟨ca, rfl, Same.sqT hsT hca0⟩, (hZj2 qq hqm).keep hst, hicl, hlc, by have := ho.dim; omega, fun g H3 hs4 hg => ?_⟩
        have hgl := zdiv_len hicl
        have hgk : H3 g = some (.tup ((kI (zdiv y.cs qq.2)).map kV)) := by rw [kI_V]; exact hg
        have hs24 : Same H2 H3 := hst.trans hs4
        have hsB := hs2.trans hs24
        have hd3 := hs24 _ _ hdj2
        obtain ⟨vv, hvv⟩ := Option.isSome_iff_exists.mp (hcov qq.2 (List.mem_of_getElem? hpick))
        have hmem := assoc_some hvv
        obtain ⟨b1, b1', lc, b2, b3, b3', b4⟩ := hds2.at_ _ hmem
        have b2 : vv = .ref lc := b2
        subst b2
        have hDG := DGet.t hd3 hgk
        rw [valV_ent, hvv] at hDG
        refine ⟨_, rfl, _, rfl, _, rfl, d, _, rfl, hDG, ?_⟩
        refine ⟨_, rfl, ly, _, dx, _, _, rfl, hsB _ _ hly0, T.c_Layout, T.a_Layout_chunk_shape, rfl, _, rfl, ly, _, dx, _, _, rfl, hsB _ _ hly0, T.c_Layout, T.a_Layout_chunk_shape, rfl, _, rfl, _, _, y.cs, qq.2, rfl, ⟨ca, rfl, Same.sqT hsB hca0⟩, (hZj2 qq hqm).keep hs24, hicl, hlc, by have := ho.dim; omega, fun pc H5 hs5 hpc => ?_⟩
        refine ⟨_, _, y.cs, zmod y.cs qq.2, rfl, ⟨ca, rfl, Same.sqT (hsB.trans hs5) hca0⟩, ⟨pc, rfl, SqT.of hpc⟩, (zmod_len hicl).symm, cs_szs ho, fun H6 hs6 => ?_⟩
        have hs26 : Same H2 H6 := hs24.trans (hs5.trans hs6)
        have hsD := hs2.trans hs26
        have hlc6 := hs26 _ _ b4
        have hrkb := rank_ok y.cs (zmod y.cs qq.2) (zmod_len hicl).symm (zmod_inb ho.c1 hicl)
        have hclen : (chv y.cs (writes A (zp.take j)) (zdiv y.cs qq.2)).length = (ecount y.cs).toNat := chv_len _ _ _
        refine ⟨lc, _, rankF y.cs (zmod y.cs qq.2), (rankF y.cs (zmod y.cs qq.2)).toNat, rfl, rfl, hlc6, ?_, ?_⟩
        · unfold ixN
          rw [if_pos hrkb.1, if_pos (by rw [List.length_map, hclen]; omega)]
        · have hset : (iv (chv y.cs (writes A (zp.take j)) (zdiv y.cs qq.2))).set (rankF y.cs (zmod y.cs qq.2)).toNat (.int v) = iv (chv y.cs (writes A (zp.take (j + 1))) (zdiv y.cs qq.2)) := by
            rw [writes_snoc A hzj, ← chv_set ho.c1 hicl, ← List.map_set]
          rw [hset]
          have hlcli : li ≠ lc := Ne.symm b3'
          have hlcd : d ≠ lc := fun e => by rw [← e, hs26 _ _ hdj2] at hlc6; cases hlc6
          refine ⟨same_updD hsD b3, by rw [upd_ne hlcli]; exact hs26 _ _ hlij2, sx_upd.tupsZ' (NT.lst hlc6) (hZj2.keep hs26), by rw [upd_ne hlcd]; exact hs26 _ _ hdj2, ⟨fun e he => ?_, hds2.inj, hds2.nd⟩, _, _, _, rfl⟩
          obtain ⟨c1, c1', l, c2, c3, c3', c4⟩ := hds2.at_ e he
          refine ⟨c1, c1', l, c2, c3, c3', ?_⟩
          by_cases hl : l = lc
          · subst hl
            have : e.1 = zdiv y.cs qq.2 := hds2.inj e he _ hmem c2
            rw [upd_same, this]
          · rw [upd_ne hl, hs26 _ _ c4]
            have hne : e.1 ≠ zdiv y.cs qq.2 := fun z => by
              have := assoc_of hds2.nd he
              rw [z, hvv, c2] at this
              exact hl (V.ref.inj (Option.some.inj this)).symm
            rw [writes_snoc A hzj, chv_other ho.c1 c1 _ _ hne]
      · rintro σ H2 ⟨hs2, hlij2, hZj2, hdj2, hds2, x8, x9, x10, rfl⟩
        rw [List.length_map, ← hzl, List.take_length] at hds2
        exact ⟨hs2, hdj2, hds2, x8, x9, x10, rfl⟩
    rintro σ H2 ⟨hs2, hdj2, hds2, x8, x9, x10, rfl⟩
    have hne : ds.length ≤ 1 ∨ ∀ e ∈ ds, e.1 ≠ [] := by
      by_cases hD : y.cs.length = 0
      · refine .inl ?_
        have hn := hds2.nd
        have hall := fun e he => (hds2.at_ e he).1
        match ds, hn, hall with
        | [], _, _ => simp
        | [_], _, _ => simp
        | e :: e' :: r, hn, hall =>
          have h1 := List.eq_nil_of_length_eq_zero ((hall e (by simp)).trans hD)
          have h2 := List.eq_nil_of_length_eq_zero ((hall e' (by simp)).trans hD)
          simp [h1, h2] at hn
      · refine .inr fun e he z => hD ?_
        have := (hds2.at_ e he).1
        rw [z] at this
        exact this.symm
    refine ⟨_, rfl, d, ds, rfl, hdj2, hne, fun lo out hlo hperm hkeys => ?_⟩
    have hsL := same_upd0 (o := .lst (out.map fun o => V.ref o.2)) hlo
    have hsA := hs2.trans hsL
    have hoL : out.length = ds.length := by
      have := hperm.length_eq
      simpa using this
    have hmemK : ∀ g, g ∈ out.map (·.1) ↔ g ∈ ds.map (·.1) := fun g => hperm.mem_iff
    have hBr : ∀ i, y.k.In (writes A zp i) := writes_rng zp A hS.rng fun p hp => hvin p.2 (List.of_mem_zip hp).2
    refine ⟨lo, rfl, ⟨_, SqL.of upd_same⟩, for_list (K := K) (a := lo) (xs := out.map fun o => V.ref o.2) (fun j σ H' => ∃ (rvj : V) (adj lnj : Int) (wbj : List Int) (esj : List Row) (Ψj : Nat) (x9 : Option V), SX L.wl H H' ∧ LogR K H' L ⟨S.fb, wbj⟩ z ∧ TupI K H' rvj [adj, lnj] ∧
        Slab ⟨S.fb, wbj⟩ y adj lnj (mixK y.cs A (writes A zp) ((out.map (·.1)).take j)) esj Ψj ∧ Ψj ≤ Ψ + j ∧ Ext S ⟨S.fb, wbj⟩ ∧ wbj.length ≤ S.wb.length + 6000 * j ∧ H' lo = some (.lst (out.map fun o => V.ref o.2)) ∧ (∀ o ∈ out, H' o.2 = some (.tup (iv o.1))) ∧ H' d = some (.dT (ds.map entI)) ∧ Lds K H H' y li (writes A zp) ds ∧
        σ = [some (.ref L.lg), some (.ref ly), some rvj, some sv, some pvv, some (.ref va), some (.ref li), some (.ref d), x8, x9, x10])
      ⟨rv, ad, ln, S.wb, es, Ψ, x9, Same.sx hsA, hL.keep hsA, hrv.keep hsA, by rw [List.take_zero, mixK_nil]; exact hS, by omega, Ext.refl _, by omega, upd_same, fun o ho => hsL _ _ (hkeys o ho), hsL _ _ hdj2, hds2.keep fun l xs _ h => hsL _ _ h, rfl⟩ (fun j σ H' _ h => by
        obtain ⟨_, _, _, _, _, _, _, _, _, _, _, _, _, _, h, _⟩ := h
        exact SqL.of h) ?_ ?_⟩
    · rintro j x σ H3 hx ⟨rvj, adj, lnj, wbj, esj, Ψj, x9', sx, hLj, hrvj, hSj, hΨj, hxj, hwj, hlo3, hk3, hd3, hds3, rfl⟩
      rw [List.getElem?_map] at hx
      obtain ⟨o, ho1, rfl⟩ := Option.map_eq_some_iff.mp hx
      have hj : j < out.length := (List.getElem?_eq_some_iff.mp ho1).1
      have hom := List.mem_of_getElem? ho1
      have hkj : (out.map (·.1))[j]? = some o.1 := by rw [List.getElem?_map, ho1]; rfl
      obtain ⟨e, he, hee⟩ := List.mem_map.mp ((hmemK o.1).mp (List.mem_map.mpr ⟨o, hom, rfl⟩))
      obtain ⟨c1, c1', l, c2, c3, c3', c4⟩ := hds3.at_ e he
      have has := assoc_of hds3.nd he
      rw [hee, c2] at has
      rw [hee] at c1 c1' c4
      have hot := hk3 o hom
      have hgk : H3 o.2 = some (.tup ((kI o.1).map kV)) := by rw [kI_V]; exact hot
      have hDG := DGet.t hd3 hgk
      rw [valV_ent, has] at hDG
      refine ⟨_, rfl, _, rfl, _, rfl, _, rfl, _, rfl, _, rfl, d, _, rfl, hDG, ?_⟩
      have htk : (out.map (·.1)).take (j + 1) = (out.map (·.1)).take j ++ [o.1] := take_snoc hkj
      have hin : o.1 ∈ (out.map (·.1)).take (j + 1) := by rw [htk]; simp
      have hcv := mixK_at ho.c1 (A := A) (B := writes A zp) c1 hin
      have hjl : j < 216 := by omega
      refine ⟨L, ⟨S.fb, wbj⟩, z, ly, l, y, rvj, .ref o.2, adj, lnj, mixK y.cs A (writes A zp) ((out.map (·.1)).take j), mixK y.cs A (writes A zp) ((out.map (·.1)).take (j + 1)), esj, Ψj, o.1, rfl, hLj, sx.layR hL.hw hly, ho, hrvj, hSj, by omega, ⟨o.2, rfl, SqT.of hot⟩, c1, c1', SqL.of (by rw [hcv]; exact c4),
        fun g' hg' hne => by rw [htk]; exact mixK_step ho.c1 hg' hne, mixK_rng hS.rng hBr, ?_, fun v n ad' ln' H4 wb4 sx4 hL4 hv4 hn4 hS4 hx4 hw4 => ?_⟩
      · show S.fb.length + wbj.length + 6000 ≤ 16700000
        omega
      · have hw3 := hLj.hw
        have e1 : (⟨S.fb, wbj⟩ : Sto).wb.length = wbj.length := rfl
        have nT : ∀ {b : Addr} {xs : List V}, H3 b = some (.tup xs) → b ≠ L.wl := fun h e => by rw [e, hw3] at h; cases h
        have nD : d ≠ L.wl := fun e => by rw [e, hw3] at hd3; cases hd3
        have nlo : lo ≠ L.wl := fun e => by
          have := hs2.free hlo
          rw [e, hL.hw] at this
          cases this
        refine ⟨v, ad', ln', wb4, _, Ψj + 1, some (.ref o.2), sx.trans sx4, hL4, hv4, hS4, by omega, hxj.trans hx4, by omega, sx4 _ _ nlo hlo3, fun o' ho' => sx4 _ _ (nT (hk3 o' ho')) (hk3 o' ho'), sx4 _ _ nD hd3, hds3.keep fun l xs hl h => sx4 _ _ (fun e => by rw [e, hL.hw] at hl; cases hl) h, rfl⟩
    · rintro σ H3 ⟨rvj, adj, lnj, wbj, esj, Ψj, x9', sx, hLj, hrvj, hSj, hΨj, hxj, hwj, hlo3, hk3, hd3, hds3, rfl⟩
      have el : (out.map fun o => V.ref o.2).length = (out.map (·.1)).length := by simp
      rw [el, List.take_length, mixK_all] at hSj
      · have eo : (out.map fun o => V.ref o.2).length = out.length := List.length_map _
        rw [eo] at hΨj hwj
        exact ⟨_, rfl, q rvj adj lnj esj Ψj H3 wbj sx hLj hrvj hSj (by omega) hxj (by omega)⟩
      · intro i hi
        refine writes_out zp A i fun p hp e => hi ?_
        rw [hmemK]
        have hp1 : p.1 ∈ picks sel := (List.of_mem_zip hp).1
        rw [← e]
        obtain ⟨v, hv⟩ := Option.isSome_iff_exists.mp (hcov p.1 hp1)
        exact List.mem_map.mpr ⟨_, assoc_some hv, rfl⟩
end
end Tz
/-! Resizing. Core Lean alone. -/
namespace Tz
def cutA (ns : List Int) (fill : Int) (A : List Int → Int) : List Int → Int := fun i => if inb ns i = true then A i else fill
theorem cutA_rng {k : Kd} {ns : List Int} {fill : Int} {A : List Int → Int} (hf : k.In fill) (hA : ∀ i, k.In (A i)) : ∀ i, k.In (cutA ns fill A i) := fun i => by
  unfold cutA
  split
  · exact hA i
  · exact hf
def zip4 (cs g old new : List Int) : List (Int × Int × Int × Int) := cs.zip (g.zip (old.zip new))
/-- no index of the old shape in the chunk is outside of the new one -/
def NotStick (cs g old new : List Int) : Prop := ∀ (k : Nat) (c q o n : Int), cs[k]? = some c → g[k]? = some q → old[k]? = some o → new[k]? = some n → o ≤ n ∨ c * q + c ≤ n
theorem inb_iff : ∀ {ns i : List Int}, ns.length = i.length → (inb ns i = true ↔ ∀ (k : Nat) (n x : Int), ns[k]? = some n → i[k]? = some x → 0 ≤ x ∧ x < n)
  | [], [], _ => ⟨fun _ k n x h => by simp at h, fun _ => rfl⟩
  | [], _ :: _, h => by simp at h
  | _ :: _, [], h => by simp at h
  | n :: ns, x :: i, h => by
    have ih := inb_iff (ns := ns) (i := i) (by simpa using h)
    unfold inb at ih ⊢
    rw [List.zip_cons_cons, List.all_cons]
    simp only [Bool.and_eq_true, decide_eq_true_eq]
    constructor
    · rintro ⟨h1, h2⟩ k m z hm hz
      cases k with
      | zero =>
        cases hm; cases hz
        exact h1
      | succ k => exact ih.mp h2 k m z (by simpa using hm) (by simpa using hz)
    · intro hh
      refine ⟨hh 0 n x rfl rfl, ih.mpr fun k m z hm hz => hh (k + 1) m z (by simpa using hm) (by simpa using hz)⟩
theorem zip_get {α β γ : Type} {f : α × β → γ} {a : List α} {b : List β} {k : Nat} {x : α} {y : β} (hx : a[k]? = some x) (hy : b[k]? = some y) : ((a.zip b).map f)[k]? = some (f (x, y)) := by
  have h : (a.zip b)[k]? = some (x, y) := List.getElem?_zip_eq_some.mpr ⟨hx, hy⟩
  rw [List.getElem?_map, h]; rfl
theorem get_of_len {α : Type} {a : List α} {k : Nat} {n : Nat} (h : a.length = n) (hk : k < n) : ∃ x, a[k]? = some x := ⟨a[k]'(by omega), List.getElem?_eq_getElem _⟩
theorem notStick_in {cs old new i : List Int} (hc : ∀ n ∈ cs, 1 ≤ n) (hl : cs.length = i.length) (ho : old.length = i.length) (hn : new.length = i.length) (h : NotStick cs (zdiv cs i) old new) (hi : inb old i = true) : inb new i = true := by
  rw [inb_iff ho] at hi
  rw [inb_iff hn]
  intro k n x hk hx
  have hlt := (List.getElem?_eq_some_iff.mp hx).1
  obtain ⟨c, hck⟩ := get_of_len hl hlt
  obtain ⟨o, hok⟩ := get_of_len ho hlt
  have hq : (zdiv cs i)[k]? = some (x / c) := zip_get hck hx
  have h1 := hi k o x hok hx
  have hc1 := hc c (List.mem_of_getElem? hck)
  refine ⟨h1.1, ?_⟩
  rcases h k c (x / c) o n hck hq hok hk with h2 | h2
  · omega
  · have e := Int.mul_ediv_add_emod x c
    have e2 := Int.emod_lt_of_pos x (show 0 < c by omega)
    omega
/-- where the origin is outside, all is -/
theorem origin_out {cs new i : List Int} (hc : ∀ n ∈ cs, 1 ≤ n) (hl : cs.length = i.length) (hn : new.length = i.length) (h : inb new (zmul cs (zdiv cs i)) = false) : inb new i = false := by
  cases e : inb new i with
  | false => rfl
  | true =>
    have hzl : new.length = (zmul cs (zdiv cs i)).length := by
      unfold zmul
      rw [List.length_map, List.length_zip, zdiv_len hl, Nat.min_self, hn, hl]
    rw [inb_iff hn] at e
    have : inb new (zmul cs (zdiv cs i)) = true := by
      rw [inb_iff hzl]
      intro k n x hk hx
      have hlt : k < i.length := by rw [← hn]; exact (List.getElem?_eq_some_iff.mp hk).1
      obtain ⟨c, hck⟩ := get_of_len hl hlt
      obtain ⟨z, hz⟩ : ∃ z, i[k]? = some z := ⟨i[k], List.getElem?_eq_getElem hlt⟩
      have hq : (zdiv cs i)[k]? = some (z / c) := zip_get hck hz
      have hm : (zmul cs (zdiv cs i))[k]? = some (c * (z / c)) := zip_get hck hq
      rw [hm] at hx
      cases hx
      have h1 := e k n z hk hz
      have hc1 := hc c (List.mem_of_getElem? hck)
      have e1 := Int.mul_ediv_add_emod z c
      have e2 := Int.emod_nonneg z (show c ≠ 0 by omega)
      have e3 : 0 ≤ z / c := Int.ediv_nonneg h1.1 (by omega)
      have e4 : 0 ≤ c * (z / c) := Int.mul_nonneg (by omega) e3
      omega
    rw [h] at this
    cases this
theorem zmul_len {cs g : List Int} (h : g.length = cs.length) : (zmul cs g).length = cs.length := by unfold zmul; rw [List.length_map, List.length_zip, h, Nat.min_self]
theorem nodup_keys {es : List Row} (h : Srt es) : (es.map (·.key)).Nodup := by
  unfold Srt at h
  exact List.Pairwise.imp (fun h => kl_ne h) (List.pairwise_map.mpr h)
theorem nodup_take {l : List (List Int)} (h : l.Nodup) {j : Nat} {g : List Int} (hg : l[j]? = some g) : g ∉ l.take j := fun hm => by
  obtain ⟨i, hi⟩ := List.mem_iff_getElem?.mp hm
  rw [List.getElem?_take] at hi
  split at hi
  · rename_i hlt
    have h1 := (List.getElem?_eq_some_iff.mp hi)
    have h2 := (List.getElem?_eq_some_iff.mp hg)
    have hp := List.pairwise_iff_getElem.mp h i j h1.1 h2.1 hlt
    exact hp (by rw [h1.2, h2.2])
  · cases hi
/-- keys that stay -/
def HasKey (es : List Row) (g : List Int) : Prop := ∃ r ∈ es, r.key = g
theorem HasKey.look {es : List Row} {g : List Int} (h : HasKey es g) : ∃ r, look g es = some r := by
  obtain ⟨r, hr, rfl⟩ := h
  exact look_mem hr
theorem HasKey.ins {es : List Row} {g : List Int} {n : Row} (h : HasKey es g) (hne : g ≠ n.key) : HasKey (ins n es) g := by
  obtain ⟨r, hr, rfl⟩ := h
  refine ⟨r, ?_, rfl⟩
  unfold Tz.ins
  simp only [List.mem_append, List.mem_filter, List.mem_singleton]
  rcases kl_tri r.key n.key with z | z | z
  · exact .inl (.inl ⟨hr, z⟩)
  · exact absurd z hne
  · exact .inr ⟨hr, z⟩
theorem HasKey.del {es : List Row} {g k : List Int} (h : HasKey es g) (hne : g ≠ k) : HasKey (del k es) g := by
  obtain ⟨r, hr, rfl⟩ := h
  exact ⟨r, List.mem_filter.mpr ⟨hr, by simpa using hne⟩, rfl⟩
end Tz
namespace Tz
open PySem PySem.Spec PyProof.Rows L2
def spOri (K : PySem.W.Frag) : Sp := fun vs H Q _ => ∃ (ly : Addr) (gv : V) (y : Lay) (g : List Int), vs = [.ref ly, gv] ∧ LayR K H ly y ∧ y.Ok ∧ TupI K H gv g ∧ g.length = y.cs.length ∧ ∀ (t : Addr) H', Same H H' → H' t = some (.tup (iv (zmul y.cs g))) → Q (.ref t) H'
def spCut (K : PySem.W.Frag) : Sp := fun vs H Q _ => ∃ (ly a : Addr) (gv sv : V) (y : Lay) (g ns : List Int) (A : List Int → Int), vs = [.ref ly, gv, sv, .ref a] ∧ LayR K H ly y ∧ y.Ok ∧ TupI K H gv g ∧ g.length = y.cs.length ∧ TupI K H sv ns ∧ ns.length = y.cs.length ∧ SqL K H a (iv (chv y.cs A g)) ∧
  OutL H Q (chv y.cs (cutA ns y.fill A) g)
def spStick (K : PySem.W.Frag) : Sp := fun vs H Q _ => ∃ (ly : Addr) (gv ov nv : V) (y : Lay) (g old new : List Int), vs = [.ref ly, gv, ov, nv] ∧ LayR K H ly y ∧ y.Ok ∧ TupI K H gv g ∧ g.length = y.cs.length ∧ TupI K H ov old ∧ old.length = y.cs.length ∧ TupI K H nv new ∧ new.length = y.cs.length ∧
  (∀ H', Same H H' → Q (.bl true) H') ∧ (∀ H', Same H H' → NotStick y.cs g old new → Q (.bl false) H')
section
variable {P : Program} {w : World} {K : PySem.W.Frag} {mg : Str → Option Value} {base : Heap}
theorem sc_ori : FnScope ["layout", "grid", "size", "place"] ["layout", "grid"] (defScope (top 104)) := ⟨rfl, rfl, rfl, by decide +kernel, rfl, by decide +kernel, by decide +kernel⟩
theorem c_ori (T : Tx K mg) : C8.Cal P w K mg base 1 "origin_of" (spOri K) [] := by
  refine cal_of T.f_origin_of (fun _ _ _ _ _ _ us hl => match us, hl with | [_, _], _ => rfl) sc_ori (fun vs H Q E h => ?_) (fun f cdv A outer s H vs Q E hr h => ?_)
  · obtain ⟨ly, gv, y, g, rfl, _⟩ := h
    rfl
  · obtain ⟨ly, gv, y, g, rfl, ⟨dx, ca, fa, hly, hc, hf⟩, ho, ⟨ga, rfl, hg⟩, hgl, q⟩ := h
    have nd := sc_ori.nd
    refine ⟨_, pss_one (ps_ret (pe_callTy call_tuple_of (by rfl) T.n_tuple (by decide +kernel) (pa_cons
        (pe_lc (own := [("size", 2), ("place", 3)]) (g := gTup K 2 (gCons (gName 2) (gCons (gName 3) gNil))) (tt := tYes) rfl nd (RZ.pi_zipA (by rfl) T.n_zip (pa_cons (pe_fld (pv 0) rfl) (pa_cons (pv 1) pa_nil))) (blkOk_by (N := ["layout", "grid", "size", "place"]) (sc := defScope (top 104)) (by decide +kernel))
          (fun _ _ _ _ _ => pg_tup (by rfl) (pgs_cons (pg_name (i := 2) nd rfl (.inl rfl)) (pgs_cons (pg_name (i := 3) nd rfl (.inl rfl)) pgs_nil))) (fun _ _ _ _ _ => pts_nil)
          (fun _ _ _ _ _ => pe_op op_mul (pv 2) (pv 3))) pa_nil))), ?_⟩
    refine tcb1 ?_
    refine tlc_zip (s1 := 2) (s2 := 3) (a := ca) (b := ga) (ns := y.cs) (ps := g) (fun n p => .int (n * p)) (fun R h => ⟨_, rfl, ly, _, dx, _, _, rfl, hly, T.c_Layout, T.a_Layout_chunk_shape, rfl, _, rfl, h⟩) hc hg hgl.symm (by have := ho.dim; omega) (fun _ _ => rfl) (fun n p H' R hm hs hk => ?_) (fun D H' hs hD hd => ?_)
    · have hn := ho.cs n (List.of_mem_zip hm).1
      exact ⟨_, rfl, _, rfl, n, p, rfl, rfl, .inl ⟨by omega, by omega⟩, hk H' (Same.refl _)⟩
    · refine ⟨D, _, rfl, .inl ⟨SqL.of hd, fun t ht => ?_⟩⟩
      exact q t _ (same_updD hs (hs.free ht)) (by rw [upd_same]; unfold zmul iv; rw [List.map_map]; rfl)
theorem sc_cut : FnScope ["layout", "grid", "shape", "values", "origin", "found", "rank", "inside", "index", "first", "place"] ["layout", "grid", "shape", "values"] (defScope (top 105)) := ⟨rfl, rfl, rfl, by decide +kernel, rfl, by decide +kernel, by decide +kernel⟩
theorem c_cut (T : Tx K mg) : C8.Cal P w K mg base 2 "cut_values" (spCut K) [] := by
  refine cal_of T.f_cut_values (fun _ _ _ _ _ _ us hl => match us, hl with | [_, _, _, _], _ => rfl) sc_cut (fun vs H Q E h => ?_) (fun f cdv A0 outer s H vs Q E hr h => ?_)
  · obtain ⟨ly, a, gv, sv, y, g, ns, A, rfl, _⟩ := h
    rfl
  · obtain ⟨ly, a, gv, sv, y, g, ns, A, rfl, hly, ho, hg, hgl, hsv, hnl, ha, q⟩ := h
    have nd := sc_cut.nd
    refine ⟨_, pss_cons (ps_set (i := 4) nd rfl (.inl rfl) (C8.pe_c (c_ori T) hr (by decide) rfl (pa_cons (pv 0) (pa_cons (pv 1) pa_nil))))
      (pss_cons (ps_set (i := 5) nd rfl (.inl rfl) (pe_lst pa_nil))
      (pss_cons (ps_for PassesOwn.never rfl (pi_range1 (by rfl) T.n_range (pa_cons (pe_callB call_len (by rfl) T.n_len PySem.boot_len (pa_cons (pv 3) pa_nil)) pa_nil)) (pg_name (i := 6) nd rfl (.inl rfl))
        (pss_cons (ps_set (i := 7) nd rfl (.inl rfl) (C8.pe_c (c_ix T) hr (by decide) rfl (pa_cons (pe_fld (pv 0) rfl) (pa_cons (pv 6) pa_nil))))
        (pss_cons (ps_set (i := 8) nd rfl (.inl rfl) (pe_callTy call_tuple_of (by rfl) T.n_tuple (by decide +kernel) (pa_cons
          (pe_lc (own := [("first", 9), ("place", 10)]) (g := gTup K 2 (gCons (gName 9) (gCons (gName 10) gNil))) (tt := tYes) rfl nd (RZ.pi_zipA (by rfl) T.n_zip (pa_cons (pv 4) (pa_cons (pv 7) pa_nil))) (blkOk_by (N := ["layout", "grid", "shape", "values", "origin", "found", "rank", "inside", "index", "first", "place"]) (sc := defScope (top 105)) (by decide +kernel))
            (fun _ _ _ _ _ => pg_tup (by rfl) (pgs_cons (pg_name (i := 9) nd rfl (.inl rfl)) (pgs_cons (pg_name (i := 10) nd rfl (.inl rfl)) pgs_nil))) (fun _ _ _ _ _ => pts_nil)
            (fun _ _ _ _ _ => pe_op op_add (pv 9) (pv 10))) pa_nil)))
        (pss_one (ps_if (pt_val (C8.pe_c (c_inb T) hr (by decide) rfl (pa_cons (pv 2) (pa_cons (pv 8) pa_nil))))
          (pss_one (ps_expr (pe_bm PySem.F.plainAttrs_list PySem.F.slot_list_append PySem.F.type_list_append mt_append (pv 5) (pa_cons (pe_ix ix_list (pv 3) (pv 6) (fun _ _ => rfl)) pa_nil))))
          (pss_one (ps_expr (pe_bm PySem.F.plainAttrs_list PySem.F.slot_list_append PySem.F.type_list_append mt_append (pv 5) (pa_cons (pe_fld (pv 0) rfl) pa_nil)))))))))
      (pss_one (ps_ret (pv 5))))), ?_⟩
    have hE4 := ecount4 ho.cs ho.dim
    have hE : (chv y.cs A g).length = (ecount y.cs).toNat := chv_len _ _ _
    obtain ⟨dx, ca, fa, hly0, hca0, hfa0⟩ := id hly
    refine ⟨_, rfl, _, rfl, ly, gv, y, g, rfl, hly, ho, hg, hgl, fun oa H1 hs1 hoa => ?_⟩
    refine ⟨(by show 0 ≤ sizeLine; decide), fun l hl => ?_⟩
    have hs2 := same_upd0 (o := .lst []) hl
    have hsA := hs1.trans hs2
    have hlH : H l = none := hs1.free hl
    refine ⟨_, rfl, _, _, rfl, .inl ⟨_, same_sqL hsA ha, rfl⟩, (((ecount y.cs).toNat : Nat) : Int), by rw [List.length_map, hE], by omega, by omega, for_range (n := (ecount y.cs).toNat) (fun j σ H' => Same H H' ∧ H' l = some (.lst (iv ((chv y.cs (cutA ns y.fill A) g).take j))) ∧ SqT K H' oa (iv (zmul y.cs g)) ∧ ∃ x6 x7 x8, σ = [some (.ref ly), some gv, some sv, some (.ref a), some (.ref oa), some (.ref l), x6, x7, x8, none, none])
      ⟨hsA, upd_same, SqT.of (hs2 _ _ hoa), none, none, none, rfl⟩ ?_ ?_⟩
    · rintro j σ H' hj ⟨hs, hlj, hoj, x6, x7, x8, rfl⟩
      have hget : (allIx y.cs)[j]? = some (ixOf y.cs (j : Int)) := allIx_get hj
      refine ⟨_, rfl, ly, _, dx, _, _, rfl, hs _ _ hly0, T.c_Layout, T.a_Layout_chunk_shape, rfl, _, rfl, _, y.cs, (0 : Int) + (j : Int), rfl, ⟨ca, rfl, Same.sqT hs hca0⟩, cs_pos ho, by have := ho.dim; omega, fun xv H2 hs3 hxv => ?_⟩
      rw [Int.zero_add] at hxv
      obtain ⟨xa, rfl, hxa⟩ := hxv
      have hil := ixOf_len y.cs (j : Int)
      dsimp only [gName, tSeq, tAsg]
      refine tcb1 ?_
      refine tlc_zip (K := K) (s1 := 9) (s2 := 10) (a := oa) (b := xa) (ns := zmul y.cs g) (ps := ixOf y.cs (j : Int)) (fun n p => .int (n + p)) (fun R h => ⟨_, rfl, _, rfl, h⟩) (Same.sqT hs3 hoj) hxa (by rw [zmul_len hgl, hil]) (by rw [zmul_len hgl]; have := ho.dim; omega) (fun _ _ => rfl) (fun n p H3 R hm hs4 hk => ?_) (fun D H3 hs4 hD hd => ?_)
      · exact ⟨_, rfl, _, rfl, n, p, rfl, rfl, hk H3 (Same.refl _)⟩
      · refine ⟨D, _, rfl, .inl ⟨SqL.of hd, fun t ht => ?_⟩⟩
        have hs5 := hs3.trans (hs4.trans (same_upd0 (o := .tup (((zmul y.cs g).zip (ixOf y.cs (j : Int))).map fun p => .int (p.1 + p.2))) ht))
        have hgp : SqT K (upd H3 t (.tup (((zmul y.cs g).zip (ixOf y.cs (j : Int))).map fun p => .int (p.1 + p.2)))) t (iv (gp y.cs g (ixOf y.cs (j : Int)))) := SqT.of (by rw [upd_same]; unfold gp zadd iv; rw [List.map_map]; rfl)
        have hsB := hs.trans hs5
        have hlB := hs5 _ _ hlj
        refine ⟨_, rfl, _, rfl, sv, .ref t, ns, gp y.cs g (ixOf y.cs (j : Int)), rfl, hsv.keep hsB, ⟨t, rfl, hgp⟩, by rw [gp_len hgl hil, hnl], by rw [hnl]; have := ho.dim; omega, fun H4 hs6 => ?_⟩
        have hsC := hsB.trans hs6
        have hlC := hs6 _ _ hlB
        have hoC := Same.sqT hs6 (Same.sqT hs5 hoj)
        have hlol : ∀ o, SqT K (upd H4 l o) oa (iv (zmul y.cs g)) := fun o => sx_upd.sqT' (NT.lst hlC) hoC
        have hcv : (chv y.cs (cutA ns y.fill A) g)[j]? = some (cutA ns y.fill A (gp y.cs g (ixOf y.cs (j : Int)))) := by
          unfold chv
          rw [List.getElem?_map, hget]; rfl
        have hav : (iv (chv y.cs A g))[j]? = some (.int (A (gp y.cs g (ixOf y.cs (j : Int))))) := by
          unfold chv iv
          rw [List.getElem?_map, List.getElem?_map, hget]; rfl
        have hsz : (iv ((chv y.cs (cutA ns y.fill A) g).take j)).length < sizeLine := by rw [List.length_map, List.length_take, sizeLine_eq]; omega
        refine ⟨_, rfl, ?_⟩
        cases hb : inb ns (gp y.cs g (ixOf y.cs (j : Int))) with
        | true =>
          refine iteK rfl ?_
          refine ⟨_, rfl, .inl ⟨rfl, _, SqL.of hlC⟩, _, rfl, _, rfl, a, _, (0 : Int) + (j : Int), _, rfl, rfl, same_sqL hsC ha, by rw [Int.zero_add]; exact atI_nat hav, l, _, _, rfl, rfl, hlC, hsz, same_updD hsC hlH, ?_, hlol _, _, _, _, rfl⟩
          rw [upd_same, take_snoc hcv]
          simp [cutA, hb]
        | false =>
          refine iteKF rfl ?_
          refine ⟨_, rfl, .inl ⟨rfl, _, SqL.of hlC⟩, _, rfl, ly, _, dx, _, _, rfl, hsC _ _ hly0, T.c_Layout, T.a_Layout_fill, rfl, l, _, _, rfl, rfl, hlC, hsz, same_updD hsC hlH, ?_, hlol _, _, _, _, rfl⟩
          rw [upd_same, take_snoc hcv]
          simp [cutA, hb]
    · rintro σ H' ⟨hs, hlj, hoj, x6, x7, x8, rfl⟩
      rw [show (ecount y.cs).toNat = (chv y.cs (cutA ns y.fill A) g).length from (chv_len _ _ _).symm, List.take_length] at hlj
      exact ⟨_, rfl, q l H' hlH hs hlj⟩
theorem sc_stick : FnScope ["layout", "grid", "old", "new", "origin", "at", "end"] ["layout", "grid", "old", "new"] (defScope (top 106)) := ⟨rfl, rfl, rfl, by decide +kernel, rfl, by decide +kernel, by decide +kernel⟩
theorem c_stick (T : Tx K mg) : C8.Cal P w K mg base 2 "sticks_out" (spStick K) [] := by
  refine cal_of T.f_sticks_out (fun _ _ _ _ _ _ us hl => match us, hl with | [_, _, _, _], _ => rfl) sc_stick (fun vs H Q E h => ?_) (fun f cdv A0 outer s H vs Q E hr h => ?_)
  · obtain ⟨ly, gv, ov, nv, y, g, old, new, rfl, _⟩ := h
    rfl
  · obtain ⟨ly, gv, ov, nv, y, g, old, new, rfl, hly, ho, hg, hgl, hov, hol, hnv, hnl, q1, q2⟩ := h
    have nd := sc_stick.nd
    refine ⟨_, pss_cons (ps_set (i := 4) nd rfl (.inl rfl) (C8.pe_c (c_ori T) hr (by decide) rfl (pa_cons (pv 0) (pa_cons (pv 1) pa_nil))))
      (pss_cons (ps_for PassesOwn.never rfl (pi_range1 (by rfl) T.n_range (pa_cons (pe_callB call_len (by rfl) T.n_len PySem.boot_len (pa_cons (pv 3) pa_nil)) pa_nil)) (pg_name (i := 5) nd rfl (.inl rfl))
        (pss_cons (ps_set (i := 6) nd rfl (.inl rfl) (pe_callB (call_min2 rfl) (by rfl) T.n_min (by decide +kernel) (pa_cons (pe_ix ix_tup (pv 2) (pv 5) (fun _ _ => rfl)) (pa_cons (pe_op op_add (pe_ix ix_tup (pv 4) (pv 5) (fun _ _ => rfl)) (pe_ix ix_tup (pe_fld (pv 0) rfl) (pv 5) (fun _ _ => rfl))) pa_nil))))
        (pss_one (ps_if (pt_cmpR op_gt (pv 6) (pe_ix ix_tup (pv 3) (pv 5) (fun _ _ => rfl)) (nomark _)) (pss_one (ps_ret pe_bl)) pss_nil))))
      (pss_one (ps_ret pe_bl))), ?_⟩
    obtain ⟨dx, ca, fa, hly0, hca0, hfa0⟩ := id hly
    obtain ⟨oa, rfl, hoa⟩ := id hov
    obtain ⟨na, rfl, hna⟩ := id hnv
    refine ⟨_, rfl, _, rfl, ly, gv, y, g, rfl, hly, ho, hg, hgl, fun ra H1 hs1 hra => ?_⟩
    refine ⟨_, rfl, _, _, rfl, .inr ⟨_, Same.sqT hs1 hna, rfl⟩, (new.length : Int), by simp, by omega, by have := ho.dim; omega, for_range (n := new.length) (fun j σ H' => H' = H1 ∧ (∀ (k : Nat) (c qq o n : Int), k < j → y.cs[k]? = some c → g[k]? = some qq → old[k]? = some o → new[k]? = some n → o ≤ n ∨ c * qq + c ≤ n) ∧ ∃ x5 x6, σ = [some (.ref ly), some gv, some (.ref oa), some (.ref na), some (.ref ra), x5, x6])
      ⟨rfl, fun k c qq o n hk => by omega, none, none, rfl⟩ ?_ ?_⟩
    · rintro j σ H' hj ⟨rfl, hno, x5, x6, rfl⟩
      obtain ⟨c, hcj⟩ := get_of_len (a := y.cs) (n := new.length) (by omega) hj
      obtain ⟨qq, hqj⟩ := get_of_len (a := g) (n := new.length) (by omega) hj
      obtain ⟨o, hoj⟩ := get_of_len (a := old) (n := new.length) (by omega) hj
      obtain ⟨n, hnj⟩ := get_of_len (a := new) rfl hj
      have hmj : (zmul y.cs g)[j]? = some (c * qq) := zip_get hcj hqj
      have ivg : ∀ {l : List Int} {x : Int}, l[j]? = some x → atI (iv l) ((0 : Int) + (j : Int)) = some (.int x) := fun {l x} h => by
        rw [Int.zero_add]
        exact atI_nat (by rw [List.getElem?_map, h]; rfl)
      refine ⟨_, rfl, _, rfl, oa, _, _, _, rfl, rfl, Same.sqT hs1 hoa, ivg hoj, _, rfl, _, rfl, ra, _, _, _, rfl, rfl, SqT.of hra, ivg hmj, _, rfl, ly, _, dx, _, _, rfl, hs1 _ _ hly0, T.c_Layout, T.a_Layout_chunk_shape, rfl, _, rfl, ca, _, _, _, rfl, rfl, Same.sqT hs1 hca0, ivg hcj, c * qq, c, rfl, rfl, o, c * qq + c, rfl, ?_⟩
      refine ⟨_, rfl, _, rfl, _, rfl, na, _, _, _, rfl, rfl, Same.sqT hs1 hna, ivg hnj, _, n, rfl, rfl, _, rfl, ?_⟩
      by_cases hgt : n < (if c * qq + c < o then c * qq + c else o)
      · refine iteK (decide_eq_true hgt) ?_
        exact q1 H' hs1
      · refine iteKF (decide_eq_false hgt) ?_
        refine ⟨rfl, fun k c' qq' o' n' hk h1 h2 h3 h4 => ?_, _, _, rfl⟩
        by_cases hkj : k = j
        · subst hkj
          rw [hcj] at h1; rw [hqj] at h2; rw [hoj] at h3; rw [hnj] at h4
          cases h1; cases h2; cases h3; cases h4
          split at hgt
          · exact .inr (by omega)
          · exact .inl (by omega)
        · exact hno k c' qq' o' n' (by omega) h1 h2 h3 h4
    · rintro σ H' ⟨rfl, hno, x5, x6, rfl⟩
      exact q2 H' hs1 fun k c qq o n h1 h2 h3 h4 => hno k c qq o n (List.getElem?_eq_some_iff.mp h4).1 h1 h2 h3 h4
end
end Tz
namespace Tz
open PySem PySem.Spec PyProof.Rows L2
/-- nothing stands outside of the shape -/
def Outs (A : List Int → Int) (ns : List Int) (fill : Int) : Prop := ∀ i, i.length = ns.length → inb ns i = false → A i = fill
def spRsz (K : PySem.W.Frag) : Sp := fun vs H Q _ => ∃ (L : LA) (S : Sto) (z : Int) (ly : Addr) (y : Lay) (rv ov nv : V) (ad ln : Int) (A : List Int → Int) (es : List Row) (Ψ : Nat) (old new : List Int), vs = [.ref L.lg, .ref ly, rv, ov, nv] ∧ LogR K H L S z ∧ LayR K H ly y ∧ y.Ok ∧ TupI K H rv [ad, ln] ∧ Slab S y ad ln A es Ψ ∧ Ψ + 216 ≤ 5000 ∧
  TupI K H ov old ∧ old.length = y.cs.length ∧ TupI K H nv new ∧ new.length = y.cs.length ∧ Outs A old y.fill ∧ S.fb.length + S.wb.length + 1296000 ≤ 16700000 ∧
  ∀ v ad' ln' es' Ψ' H' wb', SX L.wl H H' → LogR K H' L ⟨S.fb, wb'⟩ z → TupI K H' v [ad', ln'] → Slab ⟨S.fb, wb'⟩ y ad' ln' (cutA new y.fill A) es' Ψ' → Ψ' ≤ Ψ + 216 → Ext S ⟨S.fb, wb'⟩ → wb'.length ≤ S.wb.length + 1296000 → Q v H'
section
variable {P : Program} {w : World} {K : PySem.W.Frag} {mg : Str → Option Value} {base : Heap}
theorem sc_rsz : FnScope ["log", "layout", "root", "old", "new", "rows", "grid", "pointer", "values"] ["log", "layout", "root", "old", "new"] (defScope (top 107)) := ⟨rfl, rfl, rfl, by decide +kernel, rfl, by decide +kernel, by decide +kernel⟩
theorem c_rsz (T : Te P w K mg) : C8.Cal P w K mg base 16 "resize_slabs" (spRsz K) [] := by
  refine cal_of T.f_resize_slabs (fun _ _ _ _ _ _ us hl => match us, hl with | [_, _, _, _, _], _ => rfl) sc_rsz (fun vs H Q E h => ?_) (fun f cdv A0 outer s H vs Q E hr h => ?_)
  · obtain ⟨L, S, z, ly, y, rv, ov, nv, ad, ln, A, es, Ψ, old, new, rfl, _⟩ := h
    rfl
  · obtain ⟨L, S, z, ly, y, rv, ov, nv, ad, ln, A, es, Ψ, old, new, rfl, hL, hly, ho, hrv, hS, hΨ, hov, hol, hnv, hnl, hout, hz, q⟩ := h
    have nd := sc_rsz.nd
    obtain ⟨fdE, t0, dsE, ht0, hvE, hbE, GE⟩ := x_ent (base := base) T
    have kpE : PySem.W.keepIn K (.ref (He.ga K "entries")) = true := by
      obtain ⟨_, _, _, F, _⟩ := T.ent
      exact F.kp
    refine ⟨_, pss_cons (ps_set (i := 5) nd rfl (.inl rfl) (pe_listG (E := C8.E0) (pgen_call GE (hr.mono (by decide)) rfl T.ent.1 kpE hbE hvE (pa_cons (pv 0) (pa_cons (pv 2) pa_nil))) passL (fun _ _ _ h => h.elim) (hr.mono (by decide)) (by rfl) T.n_list (by decide +kernel)))
      (pss_cons (ps_for PassesOwn.never rfl (pi_list (pv 5)) (pg_tup (by rfl) (pgs_cons (pg_name (i := 6) nd rfl (.inl rfl)) (pgs_cons (pg_name (i := 7) nd rfl (.inl rfl)) pgs_nil)))
        (pss_cons (ps_if (pt_not (pt_val (C8.pe_c (c_stick T.toTx) hr (by decide) rfl (pa_cons (pv 1) (pa_cons (pv 6) (pa_cons (pv 3) (pa_cons (pv 4) pa_nil))))))) (pss_one ps_continue) pss_nil)
        (pss_one (ps_if (pt_val (C8.pe_c (c_inb T.toTx) hr (by decide) rfl (pa_cons (pv 4) (pa_cons (C8.pe_c (c_ori T.toTx) hr (by decide) rfl (pa_cons (pv 1) (pa_cons (pv 6) pa_nil))) pa_nil))))
          (pss_cons (ps_set (i := 8) nd rfl (.inl rfl) (C8.pe_c (c_ldc T.toTy) hr (by decide) rfl (pa_cons (pv 0) (pa_cons (pv 1) (pa_cons (pv 2) (pa_cons (pv 6) pa_nil))))))
            (pss_one (ps_set (i := 2) nd rfl (.inl rfl) (C8.pe_c (c_svc T.toTy) hr (by decide) rfl (pa_cons (pv 0) (pa_cons (pv 1) (pa_cons (pv 2) (pa_cons (pv 6) (pa_cons (C8.pe_c (c_cut T.toTx) hr (by decide) rfl (pa_cons (pv 1) (pa_cons (pv 6) (pa_cons (pv 4) (pa_cons (pv 8) pa_nil))))) pa_nil)))))))))
          (pss_one (ps_set (i := 2) nd rfl (.inl rfl) (C8.pe_c (c_rem T.toTy) hr (by decide) rfl (pa_cons (pv 0) (pa_cons (pv 2) (pa_cons (pv 6) pa_nil))))))))))
      (pss_one (ps_ret (pv 2)))), ?_⟩
    have hcount := hS.count ho
    refine ⟨_, rfl, _, rfl, L, S, z, rv, .ref t0, ad, ln, es, Ψ, rfl, hL, hrv, hS.tree, by omega, ⟨t0, rfl, ht0 H⟩, by omega, fun ys H1 hs1 hys lo hlo => ?_⟩
    have hs2 := same_upd0 (o := .lst ys) hlo
    have hsA := hs1.trans hs2
    have hysA := hys.keep hs2
    let keys := es.map (·.key)
    have hnd : keys.Nodup := nodup_keys hS.tree.srt
    have hkl : keys.length = es.length := List.length_map _
    have hyl : ys.length = es.length := hys.1
    let A' := cutA new y.fill A
    have hAr : ∀ i, y.k.In (A' i) := cutA_rng ho.fill hS.rng
    refine ⟨_, rfl, lo, rfl, ⟨_, SqL.of upd_same⟩, for_list (K := K) (a := lo) (xs := ys) (fun j σ H' => ∃ (rvj : V) (adj lnj : Int) (wbj : List Int) (esj : List Row) (Ψj : Nat) (x6 x7 x8 : Option V), SX L.wl H H' ∧ LogR K H' L ⟨S.fb, wbj⟩ z ∧ TupI K H' rvj [adj, lnj] ∧
        Slab ⟨S.fb, wbj⟩ y adj lnj (mixK y.cs A A' (keys.take j)) esj Ψj ∧ Ψj ≤ Ψ + j ∧ Ext S ⟨S.fb, wbj⟩ ∧ wbj.length ≤ S.wb.length + 6000 * j ∧ H' lo = some (.lst ys) ∧ RowsV K H' ys es ∧ (∀ r ∈ es, r.key ∉ keys.take j → HasKey esj r.key) ∧
        σ = [some (.ref L.lg), some (.ref ly), some rvj, some ov, some nv, some (.ref lo), x6, x7, x8])
      ⟨rv, ad, ln, S.wb, es, Ψ, none, none, none, Same.sx hsA, hL.keep hsA, hrv.keep hsA, by rw [List.take_zero, mixK_nil]; exact hS, by omega, Ext.refl _, by omega, upd_same, hysA, fun r hr _ => ⟨r, hr, rfl⟩, rfl⟩ (fun j σ H' _ h => by
        obtain ⟨_, _, _, _, _, _, _, _, _, _, _, _, _, _, _, _, h, _⟩ := h
        exact SqL.of h) ?_ ?_⟩
    · rintro j x σ H3 hx ⟨rvj, adj, lnj, wbj, esj, Ψj, x6, x7, x8, sx, hLj, hrvj, hSj, hΨj, hxj, hwj, hlo3, hU3, hhas, rfl⟩
      obtain ⟨r, hr1, t3, kr, pr, rfl, ht3, hkr, hpr⟩ := hU3.get hx
      have hj : j < es.length := (List.getElem?_eq_some_iff.mp hr1).1
      have hrm := List.mem_of_getElem? hr1
      have hkj : keys[j]? = some r.key := by
        show (es.map (·.key))[j]? = _
        rw [List.getElem?_map, hr1]; rfl
      have hgl := hS.keys r hrm
      have hgf := (hS.tree.fit r hrm).1
      have hlyj := sx.layR hL.hw hly
      have hovj := sx.tupI hL.hw hov
      have hnvj := sx.tupI hL.hw hnv
      have htk : keys.take (j + 1) = keys.take j ++ [r.key] := take_snoc hkj
      have hnin : r.key ∉ keys.take j := nodup_take hnd hkj
      have hin : r.key ∈ keys.take (j + 1) := by rw [htk]; simp
      have hothers : ∀ g', g'.length = y.cs.length → g' ≠ r.key → chv y.cs (mixK y.cs A A' (keys.take (j + 1))) g' = chv y.cs (mixK y.cs A A' (keys.take j)) g' := fun g' hg' hne => by
        rw [htk]; exact mixK_step ho.c1 hg' hne
      have hatA' : chv y.cs (mixK y.cs A A' (keys.take (j + 1))) r.key = chv y.cs A' r.key := mixK_at ho.c1 hgl hin
      have hatA : chv y.cs (mixK y.cs A A' (keys.take j)) r.key = chv y.cs A r.key := chv_congr ho.c1 hgl fun i _ e => by
        unfold mixK
        rw [if_neg (by rw [e]; exact hnin)]
      have hmr : ∀ js, ∀ i, y.k.In (mixK y.cs A A' js i) := fun js => mixK_rng hS.rng hAr
      have hw3 := hLj.hw
      have hhas' : ∀ r' ∈ es, r'.key ∉ keys.take (j + 1) → r'.key ≠ r.key ∧ HasKey esj r'.key := fun r' hr' hn => by
        rw [htk] at hn
        exact ⟨fun e => hn (List.mem_append_right _ (by rw [e]; simp)), hhas r' hr' fun h => hn (List.mem_append_left _ h)⟩
      have nlo : lo ≠ L.wl := fun e => by
        have := hs1.free hlo
        rw [e, hL.hw] at this
        cases this
      refine ⟨t3, [kr, pr], rfl, ht3, rfl, _, _, rfl, _, _, rfl, rfl, ?_⟩
      refine ⟨_, rfl, _, rfl, _, rfl, _, rfl, ly, kr, ov, nv, y, r.key, old, new, rfl, hlyj, ho, hkr, hgl, hovj, hol, hnvj, hnl, fun H4 hs4 => ?_, fun H4 hs4 hns => ?_⟩
      · -- it sticks out, or so the test says
        refine ⟨_, rfl, ?_⟩
        refine iteKF rfl ?_
        have sx4 := sx.thenSame hs4
        have hL4 := hLj.keep hs4
        refine ⟨_, rfl, _, rfl, _, rfl, ly, kr, y, r.key, rfl, hlyj.keep hs4, ho, hkr.keep hs4, hgl, fun oa H5 hs5 hoa => ?_⟩
        have hs45 := hs4.trans hs5
        refine ⟨nv, .ref oa, new, zmul y.cs r.key, rfl, hnvj.keep hs45, ⟨oa, rfl, SqT.of hoa⟩, by rw [zmul_len hgl, hnl], by rw [hnl]; have := ho.dim; omega, fun H6 hs6 => ?_⟩
        have hsB := hs45.trans hs6
        refine ⟨_, rfl, ?_⟩
        cases hb : inb new (zmul y.cs r.key) with
        | true =>
          refine iteK rfl ?_
          refine ⟨_, rfl, _, rfl, _, rfl, _, rfl, L, ⟨S.fb, wbj⟩, z, ly, y, rvj, kr, adj, lnj, mixK y.cs A A' (keys.take j), esj, Ψj, r.key, rfl, hLj.keep hsB, hlyj.keep hsB, ho, hrvj.keep hsB, hSj, hkr.keep hsB, hgl, fun lc H7 hlc hs7 hlc7 => ?_⟩
          have hsC := hsB.trans hs7
          refine ⟨_, rfl, _, rfl, _, rfl, _, rfl, _, rfl, _, rfl, _, rfl, _, rfl, ly, lc, kr, nv, y, r.key, new, mixK y.cs A A' (keys.take j), rfl, hlyj.keep hsC, ho, hkr.keep hsC, hgl, hnvj.keep hsC, hnl, SqL.of hlc7, fun lc2 H8 hlc2 hs8 hlc8 => ?_⟩
          have hsD := hsC.trans hs8
          have hcv : chv y.cs (cutA new y.fill (mixK y.cs A A' (keys.take j))) r.key = chv y.cs (mixK y.cs A A' (keys.take (j + 1))) r.key := by
            rw [hatA']
            refine chv_congr ho.c1 hgl fun i _ e => ?_
            show cutA new y.fill _ i = cutA new y.fill A i
            unfold cutA mixK
            rw [if_neg (show ¬ zdiv y.cs i ∈ keys.take j by rw [e]; exact hnin)]
          refine ⟨L, ⟨S.fb, wbj⟩, z, ly, lc2, y, rvj, kr, adj, lnj, mixK y.cs A A' (keys.take j), mixK y.cs A A' (keys.take (j + 1)), esj, Ψj, r.key, rfl, hLj.keep hsD, hlyj.keep hsD, ho, hrvj.keep hsD, hSj, by omega, hkr.keep hsD, hgl, hgf, SqL.of (by rw [← hcv]; exact hlc8), hothers, hmr _, ?_, fun v n ad' ln' H9 wb9 sx9 hL9 hv9 hn9 hS9 hx9 hw9 => ?_⟩
          · show S.fb.length + wbj.length + 6000 ≤ 16700000
            omega
          · have e1 : (⟨S.fb, wbj⟩ : Sto).wb.length = wbj.length := rfl
            have hwD := (hLj.keep hsD).hw
            refine ⟨v, ad', ln', wb9, _, Ψj + 1, _, _, _, (sx.thenSame hsD).trans sx9, hL9, hv9, hS9, by omega, hxj.trans hx9, by omega, sx9 _ _ nlo (hsD _ _ hlo3), sx9.rowsV hwD (hU3.keep hsD), fun r' hr' hn => ?_, rfl⟩
            obtain ⟨h1, h2⟩ := hhas' r' hr' hn
            exact h2.ins (by rw [hn9]; exact h1)
        | false =>
          refine iteKF rfl ?_
          have hz3 : chv y.cs A' r.key = List.replicate (ecount y.cs).toNat y.fill := by
            have e1 : chv y.cs A' r.key = chv y.cs (fun _ => y.fill) r.key := chv_congr ho.c1 hgl fun i hi e => by
              show cutA new y.fill A i = y.fill
              unfold cutA
              have := origin_out ho.c1 (new := new) hi.symm (by rw [hnl, hi]) (by rw [e]; exact hb)
              rw [this]
              simp
            rw [e1]
            exact chv_const fun p hp => rfl
          refine ⟨_, rfl, _, rfl, _, rfl, L, ⟨S.fb, wbj⟩, z, rvj, kr, adj, lnj, r.key, esj, Ψj, rfl, hLj.keep hsB, hrvj.keep hsB, hSj.tree, by omega, hkr.keep hsB, (hhas r hrm hnin).look, ?_, fun v ad' ln' H9 wb9 sx9 hL9 hv9 hT9 hx9 hw9 => ?_⟩
          · show S.fb.length + wbj.length + 1500 ≤ 16700000
            omega
          · have e1 : (⟨S.fb, wbj⟩ : Sto).wb.length = wbj.length := rfl
            have hwD := (hLj.keep hsB).hw
            refine ⟨v, ad', ln', wb9, _, Ψj, _, _, _, (sx.thenSame hsB).trans sx9, hL9, hv9, hSj.rem hx9 hgl (by rw [hatA']; exact hz3) hothers (hmr _) hT9, by omega, hxj.trans hx9, by omega, sx9 _ _ nlo (hsB _ _ hlo3), sx9.rowsV hwD (hU3.keep hsB), fun r' hr' hn => ?_, rfl⟩
            obtain ⟨h1, h2⟩ := hhas' r' hr' hn
            exact h2.del h1
      · -- nothing to be done
        refine ⟨_, rfl, ?_⟩
        refine iteK rfl ?_
        have hsame : ∀ g', g'.length = y.cs.length → chv y.cs (mixK y.cs A A' (keys.take j)) g' = chv y.cs (mixK y.cs A A' (keys.take (j + 1))) g' := fun g' hg' => by
          by_cases hne : g' = r.key
          · rw [hne, hatA, hatA']
            refine chv_congr ho.c1 hgl fun i hi e => ?_
            show A i = cutA new y.fill A i
            unfold cutA
            split
            · rfl
            · rename_i hni
              refine hout i (by rw [hi, hol]) ?_
              cases hio : inb old i with
              | false => rfl
              | true =>
                exact absurd (notStick_in ho.c1 hi.symm (by rw [hol, hi]) (by rw [hnl, hi]) (by rw [e]; exact hns) hio) hni
          · exact (hothers g' hg' hne).symm
        refine ⟨rvj, adj, lnj, wbj, esj, Ψj, _, _, _, sx.thenSame hs4, hLj.keep hs4, hrvj.keep hs4, hSj.congr hsame (hmr _), by omega, hxj, by omega, hs4 _ _ hlo3, hU3.keep hs4, fun r' hr' hn => (hhas' r' hr' hn).2, rfl⟩
    · rintro σ H3 ⟨rvj, adj, lnj, wbj, esj, Ψj, x6, x7, x8, sx, hLj, hrvj, hSj, hΨj, hxj, hwj, hlo3, hU3, hhas, rfl⟩
      rw [hyl] at hΨj hwj
      rw [hyl, ← hkl, List.take_length] at hSj
      have hfin : Slab ⟨S.fb, wbj⟩ y adj lnj (cutA new y.fill A) esj Ψj := hSj.congr (fun g hg => by
        by_cases hm : g ∈ keys
        · exact mixK_at ho.c1 hg hm
        · -- a grid without a chunk has the fill value
          have e1 : chv y.cs (mixK y.cs A A' keys) g = chv y.cs A g := chv_congr ho.c1 hg fun i _ e => by
            unfold mixK
            rw [if_neg (by rw [e]; exact hm)]
          have hf := hS.rest g hg (look_none_of fun r hr e => hm (List.mem_map.mpr ⟨r, hr, e⟩))
          rw [e1, hf]
          symm
          refine chv_const fun p hp => ?_
          show cutA new y.fill A _ = y.fill
          unfold cutA
          split
          · have hmem : A (gp y.cs g p) ∈ chv y.cs A g := List.mem_map.mpr ⟨p, hp, rfl⟩
            rw [hf] at hmem
            exact (List.mem_replicate.mp hmem).2
          · rfl) hAr
      exact ⟨_, rfl, q rvj adj lnj esj Ψj H3 wbj sx hLj hrvj hfin (by omega) hxj (by omega)⟩
end
end Tz
namespace Tz
open PySem PySem.Spec PyProof.Rows L2
theorem NT.ins {H : Hp} {w C d : Addr} {fs : List (Str × V)} (h : H w = some (.ins C d fs)) : NT H w := ⟨fun xs e => (by rw [h] at e; cases e), fun o u e => (by rw [h] at e; cases e)⟩
theorem SX.tupI' {w : Addr} {H H' : Hp} (s : SX w H H') (hw : NT H w) {K : PySem.W.Frag} {v : V} {ns : List Int} (h : TupI K H v ns) : TupI K H' v ns := by
  obtain ⟨a, e, h⟩ := h
  exact ⟨a, e, s.sqT' hw h⟩
theorem pos_of_count (ns : List Int) : Sz6 ns → 0 < ecount ns → Pos1 ns := by
  intro h6 hp
  have key : ∀ ns : List Int, (∀ n ∈ ns, 0 ≤ n) → 0 < ecount ns → ∀ n ∈ ns, 1 ≤ n := by
    intro ns
    induction ns using snoc_ind with
    | h0 => intro _ _ n hn; simp at hn
    | h1 ns m ih =>
      intro h0 hp n hn
      rw [ecount_snoc] at hp
      have hm : 0 ≤ m := h0 m (by simp)
      have hE := ecount_nonneg (ns := ns) fun n hn => h0 n (List.mem_append_left _ hn)
      have hm1 : m ≠ 0 := fun z => by rw [z, Int.mul_zero] at hp; omega
      have hE1 : ecount ns ≠ 0 := fun z => by rw [z, Int.zero_mul] at hp; omega
      rcases List.mem_append.mp hn with hn | hn
      · exact ih (fun n hn => h0 n (List.mem_append_left _ hn)) (by omega) n hn
      · rw [List.mem_singleton.mp hn]; omega
  intro n hn
  have := h6.1 n hn
  exact ⟨key ns h6.nn hp n hn, by omega⟩
/-- a plain array with the values of A -/
def PlaR (K : PySem.W.Frag) (H : Hp) (pa dx c : Addr) (ns : List Int) (fill : Int) (A : List Int → Int) : Prop := ∃ sv, H pa = some (.ins (He.ga K "PlainArray") dx [("shape", sv), ("fill", .int fill), ("cells", .ref c)]) ∧ TupI K H sv ns ∧ H c = some (.lst (iv ((allIx ns).map A)))
theorem PlaR.keep {K : PySem.W.Frag} {H H' : Hp} {pa dx c : Addr} {ns : List Int} {fill : Int} {A : List Int → Int} (h : PlaR K H pa dx c ns fill A) (s : Same H H') : PlaR K H' pa dx c ns fill A := by
  obtain ⟨sv, h1, h2, h3⟩ := h
  exact ⟨sv, s _ _ h1, h2.keep s, s _ _ h3⟩
def spPinit (K : PySem.W.Frag) : Sp := fun vs H Q _ => ∃ (a dx : Addr) (sv : V) (ns : List Int) (fill : Int), vs = [.ref a, sv, .int fill] ∧ H a = some (.ins (He.ga K "PlainArray") dx []) ∧ TupI K H sv ns ∧ Sz6 ns ∧ ∀ (c : Addr) H', SX a H H' → H c = none → PlaR K H' a dx c ns fill (fun _ => fill) → Q .non H'
def spPall (K : PySem.W.Frag) : Sp := fun vs H Q _ => ∃ (a dx c : Addr) (ns : List Int) (fill : Int) (A : List Int → Int), vs = [.ref a] ∧ PlaR K H a dx c ns fill A ∧ OutL H Q ((allIx ns).map A)
def spPread (K : PySem.W.Frag) : Sp := fun vs H Q _ => ∃ (a dx c : Addr) (ns : List Int) (fill : Int) (A : List Int → Int) (pv : V) (sel : Sel), vs = [.ref a, pv] ∧ PlaR K H a dx c ns fill A ∧ Sz6 ns ∧ SelR K H pv sel ∧ SelFits ns sel ∧ OutL H Q ((picks sel).map A)
def spPwrite (K : PySem.W.Frag) : Sp := fun vs H Q _ => ∃ (a dx c : Addr) (ns : List Int) (fill : Int) (A : List Int → Int) (pv : V) (sel : Sel) (va : Addr) (vals : List Int), vs = [.ref a, pv, .ref va] ∧ PlaR K H a dx c ns fill A ∧ Sz6 ns ∧ SelR K H pv sel ∧ SelFits ns sel ∧ H va = some (.lst (iv vals)) ∧ va ≠ c ∧ vals.length = (picks sel).length ∧
  ∀ H', SX c H H' → PlaR K H' a dx c ns fill (writes A ((picks sel).zip vals)) → Q .non H'
def spPresize (K : PySem.W.Frag) : Sp := fun vs H Q _ => ∃ (a dx c : Addr) (ns new : List Int) (fill : Int) (A : List Int → Int) (nv : V), vs = [.ref a, nv] ∧ PlaR K H a dx c ns fill A ∧ Sz6 ns ∧ TupI K H nv new ∧ Sz6 new ∧ new.length = ns.length ∧ Outs A ns fill ∧
  ∀ c' H', SX a H H' → H c' = none → PlaR K H' a dx c' new fill (cutA new fill A) → Q .non H'
section
variable {P : Program} {w : World} {K : PySem.W.Frag} {mg : Str → Option Value} {base : Heap}
theorem sc_pinit : FnScope ["self", "shape", "fill"] ["self", "shape", "fill"] (defScope (inClass (top 122) 0)) := ⟨rfl, rfl, rfl, by decide +kernel, rfl, by decide +kernel, by decide +kernel⟩
theorem m_pinit (T : Tx K mg) : C8.Mak P w K mg base 2 "PlainArray" (He.ga K "PlainArray") (spPinit K) [] := by
  refine mak_of T.f_PlainArray_init T.g_PlainArray (fun _ _ _ _ _ _ us hl => match us, hl with | [_, _, _], _ => rfl) sc_pinit (fun vs H Q E h => ?_) (fun f cdv A0 outer s H vs Q E hr h => ?_)
  · obtain ⟨a, dx, sv, ns, fill, rfl, _⟩ := h
    rfl
  · obtain ⟨a, dx, sv, ns, fill, rfl, ha, hsv, h6, q⟩ := h
    refine ⟨_, pss_cons (ps_if (pt_not (pt_val (C8.pe_c (c_shape T) hr (by decide) rfl (pa_cons (pv 1) pa_nil)))) (pss_one ps_never) pss_nil)
      (pss_cons (ps_if (pt_cmpR op_gt (C8.pe_c (c_ecount T) hr (by decide) rfl (pa_cons (pv 1) pa_nil)) (pe_gi (by rfl) T.i_MOST_PICKED) (nomark _)) (pss_one ps_never) pss_nil)
      (pss_cons (ps_fld (pv 0) (pv 1) rfl) (pss_cons (ps_fld (pv 0) (pv 2) rfl) (pss_one (ps_fld (pv 0) (pe_op op_rep (pe_lst (pa_cons (pv 2) pa_nil)) (C8.pe_c (c_ecount T) hr (by decide) rfl (pa_cons (pv 1) pa_nil))) rfl))))), ?_⟩
    have hE := ecount6 h6
    refine ⟨_, rfl, sv, ns, rfl, hsv, h6.szs, by have := h6.2; omega, fun H1 hs1 => ?_⟩
    refine ⟨_, rfl, ?_⟩
    refine iteKF rfl ?_
    refine ⟨_, rfl, sv, ns, rfl, hsv.keep hs1, h6.szs, _, _, rfl, rfl, _, rfl, ?_⟩
    refine iteKF (by simp; omega) ?_
    have ha1 := hs1 _ _ ha
    refine ⟨_, rfl, _, rfl, a, _, dx, _, rfl, ha1, T.c_PlainArray, T.a_PlainArray_shape, (by show 0 < 1000; decide), ?_⟩
    refine ⟨_, rfl, _, rfl, a, _, dx, _, rfl, upd_same, T.c_PlainArray, T.a_PlainArray_fill, (by show 1 < 1000; decide), ?_⟩
    have sx2 : SX a H (upd (upd H1 a (.ins (He.ga K "PlainArray") dx [("shape", sv)])) a (.ins (He.ga K "PlainArray") dx [("shape", sv), ("fill", .int fill)])) := (same_sx hs1 sx_upd).trans sx_upd
    refine ⟨_, rfl, (by show 1 ≤ sizeLine; decide), fun l hl => ?_⟩
    have sx3 := sx2.app (o := .lst [.int fill]) hl
    refine ⟨_, rfl, sv, ns, rfl, (sx3.tupI' (NT.ins ha) hsv), h6.szs, ?_⟩
    have hla : l ≠ a := fun e => by rw [e, upd_same] at hl; cases hl
    refine ⟨l, ecount ns, [.int fill], rfl, rfl, upd_same, by omega, by omega, by rw [sizeLine_eq]; simp only [List.length_singleton]; omega, fun c hc => ?_⟩
    have sx4 := sx3.app (o := .lst (List.replicate (ecount ns).toNat [V.int fill]).flatten) hc
    have hca : c ≠ a := fun e => by rw [e, upd_ne (Ne.symm hla), upd_same] at hc; cases hc
    refine ⟨_, rfl, a, _, dx, _, rfl, by rw [upd_ne (Ne.symm hca), upd_ne (Ne.symm hla), upd_same], T.c_PlainArray, T.a_PlainArray_cells, (by show 2 < 1000; decide), ?_⟩
    have sx5 := sx4.trans (sx_upd (w := a) (o := .ins (He.ga K "PlainArray") dx [("shape", sv), ("fill", .int fill), ("cells", .ref c)]))
    refine q c _ sx5 (sx3.free hca hc) ⟨sv, upd_same, sx5.tupI' (NT.ins ha) hsv, ?_⟩
    rw [upd_ne hca, upd_same, flat_repl, ← allIx_len]
    simp [List.map_const']
theorem sc_pall : FnScope ["self"] ["self"] (defScope (inClass (top 122) 1)) := ⟨rfl, rfl, rfl, by decide +kernel, rfl, by decide +kernel, by decide +kernel⟩
theorem m_pall (T : Tx K mg) : C8.Met P w K mg base 1 (He.ga K "PlainArray") "all_values" (spPall K) [] := by
  refine met_of T.f_PlainArray_all_values T.c_PlainArray (fun _ _ _ _ _ _ us hl => match us, hl with | [_], _ => rfl) sc_pall (fun vs H Q E h => ?_) (fun f cdv A0 outer s H vs Q E hr h => ?_)
  · obtain ⟨a, dx, c, ns, fill, A, rfl, _⟩ := h
    rfl
  · obtain ⟨a, dx, c, ns, fill, A, rfl, ⟨sv, h1, h2, h3⟩, q⟩ := h
    refine ⟨_, pss_one (ps_ret (pe_callTy call_list_of (by rfl) T.n_list (by decide +kernel) (pa_cons (pe_fld (pv 0) rfl) pa_nil))), ?_⟩
    exact ⟨_, rfl, a, _, dx, _, _, rfl, h1, T.c_PlainArray, T.a_PlainArray_cells, rfl, c, _, rfl, .inl (SqL.of h3), fun l hl => q l _ hl (same_upd0 hl) upd_same⟩
theorem sc_pread : FnScope ["self", "selection", "index"] ["self", "selection"] (defScope (inClass (top 122) 2)) := ⟨rfl, rfl, rfl, by decide +kernel, rfl, by decide +kernel, by decide +kernel⟩
theorem m_pread (T : Tx K mg) : C8.Met P w K mg base 4 (He.ga K "PlainArray") "read" (spPread K) [] := by
  refine met_of T.f_PlainArray_read T.c_PlainArray (fun _ _ _ _ _ _ us hl => match us, hl with | [_, _], _ => rfl) sc_pread (fun vs H Q E h => ?_) (fun f cdv A0 outer s H vs Q E hr h => ?_)
  · obtain ⟨a, dx, c, ns, fill, A, pv, sel, rfl, _⟩ := h
    rfl
  · obtain ⟨a, dx, c, ns, fill, A, pvv, sel, rfl, ⟨sv, h1, h2, h3⟩, h6, hsel, hfit, q⟩ := h
    have nd := sc_pread.nd
    refine ⟨_, pss_one (ps_ret (pe_lc (own := [("index", 2)]) (g := gName 2) (tt := tYes) (te := tOp (rIxL K) (tFld K (tVar 0) "cells") (tCall (spRank K) [] C8.E0 (tCons (tFld K (tVar 0) "shape") (tCons (tVar 2) tNil)))) rfl nd
        (pi_list (C8.pe_c (c_pick T) hr (by decide) rfl (pa_cons (pe_fld (pv 0) rfl) (pa_cons (pv 1) pa_nil)))) (blkOk_by (N := ["self", "selection", "index"]) (sc := defScope (inClass (top 122) 2)) (by decide +kernel))
        (fun _ _ _ _ _ => pg_name (i := 2) nd rfl (.inl rfl)) (fun _ _ _ _ _ => pts_nil)
        (fun _ _ _ _ _ => pe_ix ix_list (pe_fld (pv 0) rfl) (C8.pe_c (c_rank T) hr (by decide) rfl (pa_cons (pe_fld (pv 0) rfl) (pa_cons (pv 2) pa_nil))) (fun _ _ => rfl)))), ?_⟩
    refine ⟨_, rfl, a, _, dx, _, _, rfl, h1, T.c_PlainArray, T.a_PlainArray_shape, rfl, _, rfl, sv, pvv, ns, sel, rfl, h2, hsel, hfit, h6, fun l ps H1 hl hs1 hl1 hps hZ => ?_⟩
    have hp216 := picks_len hfit h6
    have hpl : ps.length = (picks sel).length := by rw [← hps]; simp
    have main : tLc (iList K (tC (.ref l))) (gName 2) tYes (tOp (rIxL K) (tFld K (tVar 0) "cells") (tCall (spRank K) [] C8.E0 (tCons (tFld K (tVar 0) "shape") (tCons (tVar 2) tNil)))) [2] (start ["self", "selection", "index"] [.ref a, pvv]) H1 Q := by
      refine tlc_list (K := K) (a := l) (s1 := 2) (xs := ps) (·.1) (fun _ => true) (fun x => .int (A x.2)) (fun R h => h) (SqL.of hl1) (by omega) (fun _ => rfl) (fun x H' R hx hs hk2 => hk2 H' (Same.refl _)) (fun x H' R hx _ hs hk2 => ?_) (fun D H2 hs2 hD hd2 => ?_)
      · have hsB := hs1.trans hs
        obtain ⟨hil, hiin⟩ := picks_ok hfit x.2 (by rw [← hps]; exact List.mem_map.mpr ⟨x, hx, rfl⟩)
        have hrk := rank_ok ns x.2 hil.symm hiin
        refine ⟨_, rfl, a, _, dx, _, _, rfl, hsB _ _ h1, T.c_PlainArray, T.a_PlainArray_cells, rfl, _, rfl, a, _, dx, _, _, rfl, hsB _ _ h1, T.c_PlainArray, T.a_PlainArray_shape, rfl, _, rfl, sv, x.1, ns, x.2, rfl, h2.keep hsB, (hZ x hx).keep hs, hil.symm, h6.szs, fun H3 hs3 => ?_⟩
        refine ⟨c, _, rankF ns x.2, .int (A x.2), rfl, rfl, SqL.of (hs3 _ _ (hsB _ _ h3)), ?_, hk2 H3 hs3⟩
        rw [show rankF ns x.2 = ((rankF ns x.2).toNat : Int) by omega]
        refine atI_nat ?_
        rw [List.getElem?_map, List.getElem?_map, allIx_at hil.symm hiin]
        rfl
      · refine q D H2 (hs1.free hD) (hs1.trans hs2) ?_
        have e : (ps.filter fun _ => true) = ps := List.filter_eq_self.mpr fun _ _ => rfl
        rw [hd2, ← hps, e]
        show some (HO.lst _) = some (HO.lst (((ps.map (·.2)).map A).map V.int))
        rw [List.map_map, List.map_map]
        rfl
    exact main
theorem sc_pwr : FnScope ["self", "selection", "values", "indexes", "index", "value"] ["self", "selection", "values"] (defScope (inClass (top 122) 3)) := ⟨rfl, rfl, rfl, by decide +kernel, rfl, by decide +kernel, by decide +kernel⟩
theorem m_pwr (T : Tx K mg) : C8.Met P w K mg base 4 (He.ga K "PlainArray") "write" (spPwrite K) [] := by
  refine met_of T.f_PlainArray_write T.c_PlainArray (fun _ _ _ _ _ _ us hl => match us, hl with | [_, _, _], _ => rfl) sc_pwr (fun vs H Q E h => ?_) (fun f cdv A0 outer s H vs Q E hr h => ?_)
  · obtain ⟨a, dx, c, ns, fill, A, pv, sel, va, vals, rfl, _⟩ := h
    rfl
  · obtain ⟨a, dx, c, ns, fill, A, pvv, sel, va, vals, rfl, ⟨sv, h1, h2, h3⟩, h6, hsel, hfit, hva, hvc, hvl, q⟩ := h
    have nd := sc_pwr.nd
    refine ⟨_, pss_cons (ps_set (i := 3) nd rfl (.inl rfl) (C8.pe_c (c_pick T) hr (by decide) rfl (pa_cons (pe_fld (pv 0) rfl) (pa_cons (pv 1) pa_nil))))
      (pss_cons (ps_if (pt_cmpR op_ne (pe_callB call_len (by rfl) T.n_len PySem.boot_len (pa_cons (pv 3) pa_nil)) (pe_callB call_len (by rfl) T.n_len PySem.boot_len (pa_cons (pv 2) pa_nil)) (nomark _)) (pss_one ps_never) pss_nil)
      (pss_one (ps_for PassesOwn.never rfl (RZ.pi_zipA (by rfl) T.n_zip (pa_cons (pv 3) (pa_cons (pv 2) pa_nil))) (pg_tup (by rfl) (pgs_cons (pg_name (i := 4) nd rfl (.inl rfl)) (pgs_cons (pg_name (i := 5) nd rfl (.inl rfl)) pgs_nil)))
        (pss_one (ps_asg (pv 5) (pg_sub (pe_fld (pv 0) rfl) (C8.pe_c (c_rank T) hr (by decide) rfl (pa_cons (pe_fld (pv 0) rfl) (pa_cons (pv 4) pa_nil))) set_list (fun _ => rfl))))))), ?_⟩
    refine ⟨_, rfl, a, _, dx, _, _, rfl, h1, T.c_PlainArray, T.a_PlainArray_shape, rfl, _, rfl, sv, pvv, ns, sel, rfl, h2, hsel, hfit, h6, fun l ps H1 hl hs1 hl1 hps hZ => ?_⟩
    have hp216 := picks_len hfit h6
    have hpl : ps.length = (picks sel).length := by rw [← hps]; simp
    refine ⟨_, rfl, _, _, rfl, .inl ⟨_, SqL.of hl1, rfl⟩, _, rfl, _, _, rfl, .inl ⟨_, SqL.of (hs1 _ _ hva), rfl⟩, rfl, _, rfl, ?_⟩
    refine iteKF (by rw [List.length_map, List.length_map, hpl, hvl]; simp) ?_
    have hlc : l ≠ c := fun e => by rw [e, h3] at hl; cases hl
    let zp := (picks sel).zip vals
    have hzl : zp.length = ps.length := by
      show ((picks sel).zip vals).length = _
      rw [List.length_zip, hvl, Nat.min_self, hpl]
    have hac : a ≠ c := ne_ins h1 h3
    refine ⟨_, rfl, _, rfl, l, va, ps.map Prod.fst, iv vals, rfl, .inl ⟨SqL.of hl1, SqL.of (hs1 _ _ hva), RZ.for_zipL (K := K) (a := l) (b := va) (xs := ps.map Prod.fst) (ys := iv vals) (by rw [List.length_map, List.length_map, hpl, hvl])
      (fun j σ H' => SX c H H' ∧ H' l = some (.lst (ps.map (·.1))) ∧ TupsZ K H' ps ∧ H' c = some (.lst (iv ((allIx ns).map (writes A (zp.take j))))) ∧ ∃ x4 x5, σ = [some (.ref a), some pvv, some (.ref va), some (.ref l), x4, x5])
      ⟨Same.sx hs1, hl1, hZ, hs1 _ _ h3, none, none, rfl⟩ (fun j σ H' h => ⟨SqL.of h.2.1, SqL.of (h.1 _ _ hvc hva)⟩) ?_ ?_⟩⟩
    · rintro j x yv t σ H2 hx hy ⟨sx, hl2, hZ2, hc2, x4, x5, rfl⟩ ht
      rw [List.getElem?_map] at hx
      obtain ⟨qq, hq, rfl⟩ := Option.map_eq_some_iff.mp hx
      obtain ⟨v, hv, rfl⟩ := iv_get hy
      have hqm := List.mem_of_getElem? hq
      have hpick : (picks sel)[j]? = some qq.2 := by rw [← hps, List.getElem?_map, hq]; rfl
      obtain ⟨hil, hiin⟩ := picks_ok hfit qq.2 (List.mem_of_getElem? hpick)
      have hrk := rank_ok ns qq.2 hil.symm hiin
      have hzj : zp[j]? = some (qq.2, v) := zip_at hpick hv
      have hst := same_upd0 (o := .tup [qq.1, .int v]) ht
      refine ⟨t, [qq.1, .int v], rfl, SqT.of upd_same, rfl, _, _, rfl, _, _, rfl, rfl, ?_⟩
      have sxT := sx.thenSame hst
      refine ⟨_, rfl, _, rfl, a, _, dx, _, _, rfl, sxT _ _ hac h1, T.c_PlainArray, T.a_PlainArray_cells, rfl, _, rfl, a, _, dx, _, _, rfl, sxT _ _ hac h1, T.c_PlainArray, T.a_PlainArray_shape, rfl, _, rfl, sv, qq.1, ns, qq.2, rfl, sxT.tupI h3 h2, (hZ2 qq hqm).keep hst, hil.symm, h6.szs, fun H3 hs3 => ?_⟩
      have hs23 := hst.trans hs3
      have hc3 := hs23 _ _ hc2
      refine ⟨c, _, rankF ns qq.2, (rankF ns qq.2).toNat, rfl, rfl, hc3, ?_, ?_⟩
      · unfold ixN
        rw [if_pos hrk.1, if_pos (by rw [List.length_map, List.length_map, allIx_len]; omega)]
      · refine ⟨(sx.thenSame hs23).trans sx_upd, by rw [upd_ne hlc]; exact hs23 _ _ hl2, sx_upd.tupsZ' (NT.lst hc3) (hZ2.keep hs23), ?_, _, _, rfl⟩
        rw [upd_same, writes_snoc A hzj, ← List.map_set]
        rw [map_set h6.nn hil.symm hiin (writes A (zp.take j)) (updI (writes A (zp.take j)) qq.2 v) v (by unfold updI; rw [if_pos rfl]) (fun k _ hne => by unfold updI; rw [if_neg hne])]
    · rintro σ H2 ⟨sx, hl2, hZ2, hc2, x4, x5, rfl⟩
      rw [List.length_map, ← hzl, List.take_length] at hc2
      exact q H2 sx ⟨sv, sx _ _ hac h1, sx.tupI h3 h2, hc2⟩
theorem gsc_ixs : GScope ["shape", "rank"] ["shape"] (defScope (top 66)) := ⟨rfl, rfl, rfl, by decide +kernel, rfl, by decide +kernel, by decide +kernel⟩
theorem sc_prs : FnScope ["self", "shape", "cells", "index"] ["self", "shape"] (defScope (inClass (top 122) 4)) := ⟨rfl, rfl, rfl, by decide +kernel, rfl, by decide +kernel, by decide +kernel⟩
theorem m_prs (T : Tx K mg) : C8.Met P w K mg base 5 (He.ga K "PlainArray") "resize" (spPresize K) [] := by
  refine met_of T.f_PlainArray_resize T.c_PlainArray (fun _ _ _ _ _ _ us hl => match us, hl with | [_, _], _ => rfl) sc_prs (fun vs H Q E h => ?_) (fun f cdv A0 outer s H vs Q E hr h => ?_)
  · obtain ⟨a, dx, c, ns, new, fill, A, nv, rfl, _⟩ := h
    rfl
  · obtain ⟨a, dx, c, ns, new, fill, A, nv, rfl, ⟨sv, h1, h2, h3⟩, h6, hnv, hn6, hnl, hout, q⟩ := h
    have nd := sc_prs.nd
    obtain ⟨hmI, fdI, FI⟩ := T.f_indexes_in
    refine ⟨_, pss_cons (ps_if (PW.pt (pw_or (pt_not (pt_val (C8.pe_c (c_shape T) hr (by decide) rfl (pa_cons (pv 1) pa_nil)))) (pw_or1 (pt_cmpR op_ne (pe_callB call_len (by rfl) T.n_len PySem.boot_len (pa_cons (pv 1) pa_nil)) (pe_callB call_len (by rfl) T.n_len PySem.boot_len (pa_cons (pe_fld (pv 0) rfl) pa_nil)) (nomark _))))) (pss_one ps_never) pss_nil)
      (pss_cons (ps_if (pt_cmpR op_gt (C8.pe_c (c_ecount T) hr (by decide) rfl (pa_cons (pv 1) pa_nil)) (pe_gi (by rfl) T.i_MOST_PICKED) (nomark _)) (pss_one ps_never) pss_nil)
      (pss_cons (ps_set (i := 2) nd rfl (.inl rfl) (pe_lst pa_nil))
      (pss_cons (ps_forG (k := 1) (OK := fun ns => Sz6 ns) (cnt := fun ns => (ecount ns).toNat) (it := fun ns i => ixOf ns (i : Int)) (fun _ _ h => h) (hr.mono (by decide)) FI gsc_ixs (fun _ _ _ _ _ _ _ => rfl) rfl rfl (fun _ => rfl) (fun _ _ => rfl) hmI rfl (by decide) rfl (pa_cons (pv 1) pa_nil) (pg_name (i := 3) nd rfl (.inl rfl))
          (pss_one (ps_if (pt_val (C8.pe_c (c_inb T) hr (by decide) rfl (pa_cons (pe_fld (pv 0) rfl) (pa_cons (pv 3) pa_nil))))
            (pss_one (ps_expr (pe_bm PySem.F.plainAttrs_list PySem.F.slot_list_append PySem.F.type_list_append mt_append (pv 2) (pa_cons (pe_ix ix_list (pe_fld (pv 0) rfl) (C8.pe_c (c_rank T) hr (by decide) rfl (pa_cons (pe_fld (pv 0) rfl) (pa_cons (pv 3) pa_nil))) (fun _ _ => rfl)) pa_nil))))
            (pss_one (ps_expr (pe_bm PySem.F.plainAttrs_list PySem.F.slot_list_append PySem.F.type_list_append mt_append (pv 2) (pa_cons (pe_fld (pv 0) rfl) pa_nil))))))
          (fun _ => rfl) (fun _ _ _ => rfl)
          (fun cd A s0 s H pn hrG => pi_range1 (by rfl) T.n_range (pa_cons (C8.pe_c (c_ecount T) hrG (by decide) rfl (pa_cons (pv 0) pa_nil)) pa_nil))
          (fun ns sh H R ok hsh hR => ?_)
          (fun cd A s0 s H pn hrG => C8.pe_c (c_ix T) hrG (by decide) rfl (pa_cons (pv 0) (pa_cons (pv 1) pa_nil)))
          (fun ns sh i H Q ok hi hsh hQ => ?_))
      (pss_cons (ps_fld (pv 0) (pv 1) rfl) (pss_one (ps_fld (pv 0) (pv 2) rfl)))))), ?_⟩
    · have hE := ecount6 ok
      exact ⟨_, rfl, _, ns, rfl, ⟨sh, rfl, hsh⟩, ok.szs, ecount ns, rfl, by omega, by omega, hR H (Same.refl H)⟩
    · have hE := ecount6 ok
      exact ⟨_, rfl, _, rfl, _, ns, (i : Int), rfl, ⟨sh, rfl, hsh⟩, pos_of_count ns ok (by omega), by have := ok.2; omega, fun x H' hs hx => hQ x H' hs hx⟩
    · obtain ⟨na, rfl, hna⟩ := id hnv
      obtain ⟨sa, rfl, hsa⟩ := id h2
      refine ⟨_, rfl, _, new, rfl, hnv, hn6.szs, by have := hn6.2; omega, fun H1 hs1 => ?_⟩
      refine ⟨_, rfl, ?_⟩
      refine iteKF rfl ?_
      refine ⟨_, rfl, _, _, rfl, .inr ⟨_, Same.sqT hs1 hna, rfl⟩, _, rfl, a, _, dx, _, _, rfl, hs1 _ _ h1, T.c_PlainArray, T.a_PlainArray_shape, rfl, _, _, rfl, .inr ⟨_, Same.sqT hs1 hsa, rfl⟩, rfl, _, rfl, ?_⟩
      refine iteKF (by simp [hnl]) ?_
      have hE := ecount6 hn6
      refine ⟨_, rfl, _, new, rfl, hnv.keep hs1, hn6.szs, _, _, rfl, rfl, _, rfl, ?_⟩
      refine iteKF (by simp; omega) ?_
      refine ⟨(by show 0 ≤ sizeLine; decide), fun l hl => ?_⟩
      have hs2 := hs1.trans (same_upd0 (o := .lst []) hl)
      have hlH : H l = none := hs1.free hl
      have hAl : ((allIx new).map (cutA new fill A)).length = (ecount new).toNat := by rw [List.length_map, allIx_len]
      refine ⟨_, rfl, na, new, rfl, Same.sqT hs2 hna, hn6, fun i σ H' => Same H H' ∧ H' l = some (.lst (iv (((allIx new).map (cutA new fill A)).take i))) ∧ ∃ x3, σ = [some (.ref a), some (.ref na), some (.ref l), x3],
        ⟨hs2, upd_same, none, rfl⟩, fun i σ H' h => Same.sqT h.1 hna, ?_, ?_⟩
      · rintro i x σ H2 H3 hi ⟨hs, hl2, x3, rfl⟩ hs3 hx
        have hi : i < (ecount new).toNat := hi
        have hx : TupI K H3 x (ixOf new (i : Int)) := hx
        have hsB := hs.trans hs3
        have hl3 := hs3 _ _ hl2
        have hil := ixOf_len new (i : Int)
        have hok := ixOf_ok new (i : Int) hn6.nn (by omega) (by omega)
        have hget : ((allIx new).map (cutA new fill A))[i]? = some (cutA new fill A (ixOf new (i : Int))) := by rw [List.getElem?_map, allIx_get hi]; rfl
        have hcut : cutA new fill A (ixOf new (i : Int)) = A (ixOf new (i : Int)) := by unfold cutA; rw [if_pos hok.1]
        have hsz : (iv (((allIx new).map (cutA new fill A)).take i)).length < sizeLine := by rw [List.length_map, List.length_take, sizeLine_eq]; omega
        refine ⟨_, rfl, a, _, dx, _, _, rfl, hsB _ _ h1, T.c_PlainArray, T.a_PlainArray_shape, rfl, _, rfl, .ref sa, x, ns, ixOf new (i : Int), rfl, h2.keep hsB, hx, by rw [hil, hnl], by have := h6.2; omega, fun H4 hs4 => ?_⟩
        have hsC := hsB.trans hs4
        have hl4 := hs4 _ _ hl3
        refine ⟨_, rfl, ?_⟩
        cases hb : inb ns (ixOf new (i : Int)) with
        | true =>
          refine iteK rfl ?_
          have hrk := rank_ok ns (ixOf new (i : Int)) (by rw [hil, hnl]) hb
          refine ⟨_, rfl, .inl ⟨rfl, _, SqL.of hl4⟩, _, rfl, a, _, dx, _, _, rfl, hsC _ _ h1, T.c_PlainArray, T.a_PlainArray_cells, rfl, _, rfl, a, _, dx, _, _, rfl, hsC _ _ h1, T.c_PlainArray, T.a_PlainArray_shape, rfl, _, rfl, .ref sa, x, ns, ixOf new (i : Int), rfl, h2.keep hsC, hx.keep hs4, by rw [hil, hnl], h6.szs, fun H5 hs5 => ?_⟩
          have hsD := hsC.trans hs5
          refine ⟨c, _, rankF ns (ixOf new (i : Int)), .int (A (ixOf new (i : Int))), rfl, rfl, SqL.of (hsD _ _ h3), ?_, l, _, _, rfl, rfl, hs5 _ _ hl4, hsz, same_updD hsD hlH, ?_, _, rfl⟩
          · rw [show rankF ns (ixOf new (i : Int)) = ((rankF ns (ixOf new (i : Int))).toNat : Int) by omega]
            refine atI_nat ?_
            rw [List.getElem?_map, List.getElem?_map, allIx_at (by rw [hil, hnl]) hb]
            rfl
          · rw [upd_same, take_snoc hget, hcut]
            simp
        | false =>
          refine iteKF rfl ?_
          have hfill : A (ixOf new (i : Int)) = fill := hout _ (by rw [hil, hnl]) hb
          refine ⟨_, rfl, .inl ⟨rfl, _, SqL.of hl4⟩, _, rfl, a, _, dx, _, _, rfl, hsC _ _ h1, T.c_PlainArray, T.a_PlainArray_fill, rfl, l, _, _, rfl, rfl, hl4, hsz, same_updD hsC hlH, ?_, _, rfl⟩
          rw [upd_same, take_snoc hget, hcut, hfill]
          simp
      · rintro σ H2 H3 ⟨hs, hl2, x3, rfl⟩ hs3
        have hsB := hs.trans hs3
        have hl3 : H3 l = some (.lst (iv (((allIx new).map (cutA new fill A)).take (ecount new).toNat))) := hs3 _ _ hl2
        rw [← hAl, List.take_length] at hl3
        refine ⟨_, rfl, _, rfl, a, _, dx, _, rfl, hsB _ _ h1, T.c_PlainArray, T.a_PlainArray_shape, (by show 3 < 1000; decide), ?_⟩
        refine ⟨_, rfl, _, rfl, a, _, dx, _, rfl, upd_same, T.c_PlainArray, T.a_PlainArray_cells, (by show 3 < 1000; decide), ?_⟩
        have hla : l ≠ a := fun e => by rw [e, h1] at hlH; cases hlH
        have sxF : SX a H (upd (upd H3 a (.ins (He.ga K "PlainArray") dx [("shape", .ref na), ("fill", .int fill), ("cells", .ref c)])) a (.ins (He.ga K "PlainArray") dx [("shape", .ref na), ("fill", .int fill), ("cells", .ref l)])) := (same_sx hsB sx_upd).trans sx_upd
        refine q l _ sxF hlH ⟨.ref na, upd_same, sxF.tupI' (NT.ins h1) hnv, ?_⟩
        rw [upd_ne hla, upd_ne hla]
        exact hl3
end
end Tz
namespace Tz
open PySem PySem.Spec PyProof.Rows L2
def spDinit (K : PySem.W.Frag) : Sp := fun vs H Q _ => ∃ (a dx l : Addr) (xs : List V), vs = [.ref a, .ref l] ∧ H a = some (.ins (He.ga K "Disk") dx []) ∧ SqL K H l xs ∧ ∀ c H', SX a H H' → H c = none → H' a = some (.ins (He.ga K "Disk") dx [("cells", .ref c)]) → H' c = some (.lst xs) → Q .non H'
def spLinit (K : PySem.W.Frag) : Sp := fun vs H Q _ => ∃ (a dx dk d2 cl : Addr), vs = [.ref a, .ref dk] ∧ H a = some (.ins (He.ga K "Log") dx []) ∧ H dk = some (.ins (He.ga K "Disk") d2 [("cells", .ref cl)]) ∧ a ≠ dk ∧ H cl = some (.lst []) ∧ ∀ wl H', SX a H H' → H wl = none → LogR K H' ⟨a, dk, cl, wl, dx, d2⟩ ⟨[], []⟩ (-1) → Q .non H'
def spLyinit (K : PySem.W.Frag) : Sp := fun vs H Q _ => ∃ (a dx ct ft : Addr) (y : Lay), vs = [.ref a, .str y.k.name, .ref ct, .int y.fill, .ref ft] ∧ H a = some (.ins (He.ga K "Layout") dx []) ∧ SqT K H ct (iv y.cs) ∧ SqT K H ft (fnames y.fs) ∧ ∀ H', SX a H H' → LayR K H' a y → Q .non H'
def spWdig (K : PySem.W.Frag) : Sp := fun vs H Q _ => ∃ n : Int, vs = [.int n] ∧ ∀ ds : List Int, ds.length = 8 → OutL H Q ds
def spMseal (K : PySem.W.Frag) : Sp := fun vs H Q _ => ∃ (n ad ln : Int) (rv : V), vs = [.int n, rv] ∧ TupI K H rv [ad, ln] ∧ ∀ ds : List Int, ds.length = 28 → OutL H Q ds
def spSeal (K : PySem.W.Frag) : Sp := fun vs H Q _ => ∃ (L : LA) (S : Sto) (z : Int) (rv : V) (ad ln : Int), vs = [.ref L.lg, rv] ∧ LogR K H L S z ∧ TupI K H rv [ad, ln] ∧ S.fb.length + S.wb.length + 56 ≤ 16700000 ∧
  ∀ wl' x H', (∀ b o, b ≠ L.lg → b ≠ L.cl → H b = some o → H' b = some o) → H wl' = none → LogR K H' { L with wl := wl' } ⟨S.fb ++ S.wb ++ x, []⟩ (z + 1) → x.length = 56 → Q .non H'
section
variable {P : Program} {w : World} {K : PySem.W.Frag} {mg : Str → Option Value} {base : Heap}
theorem sc_dinit : FnScope ["self", "values"] ["self", "values"] (defScope (inClass (top 109) 0)) := ⟨rfl, rfl, rfl, by decide +kernel, rfl, by decide +kernel, by decide +kernel⟩
theorem m_dinit (T : Tx K mg) : C8.Mak P w K mg base 1 "Disk" (He.ga K "Disk") (spDinit K) [] := by
  refine mak_of T.f_Disk_init T.g_Disk (fun _ _ _ _ _ _ us hl => match us, hl with | [_, _], _ => rfl) sc_dinit (fun vs H Q E h => ?_) (fun f cdv A0 outer s H vs Q E hr h => ?_)
  · obtain ⟨a, dx, l, xs, rfl, _⟩ := h
    rfl
  · obtain ⟨a, dx, l, xs, rfl, ha, hl, q⟩ := h
    refine ⟨_, pss_one (ps_fld (pv 0) (pe_callTy call_list_of (by rfl) T.n_list (by decide +kernel) (pa_cons (pv 1) pa_nil)) rfl), ?_⟩
    refine ⟨_, rfl, l, _, rfl, .inl hl, fun c hc => ?_⟩
    have hca : c ≠ a := fun e => by rw [e, ha] at hc; cases hc
    refine ⟨_, rfl, a, _, dx, _, rfl, by rw [upd_ne (Ne.symm hca)]; exact ha, T.c_Disk, T.a_Disk_cells, (by show 0 < 1000; decide), ?_⟩
    exact q c _ (same_sx (same_upd0 hc) sx_upd) hc upd_same (by rw [upd_ne hca, upd_same])
theorem sc_linit : FnScope ["self", "disk"] ["self", "disk"] (defScope (inClass (top 120) 0)) := ⟨rfl, rfl, rfl, by decide +kernel, rfl, by decide +kernel, by decide +kernel⟩
theorem m_linit (T : Tx K mg) : C8.Mak P w K mg base 3 "Log" (He.ga K "Log") (spLinit K) [] := by
  refine mak_of T.f_Log_init T.g_Log (fun _ _ _ _ _ _ us hl => match us, hl with | [_, _], _ => rfl) sc_linit (fun vs H Q E h => ?_) (fun f cdv A0 outer s H vs Q E hr h => ?_)
  · obtain ⟨a, dx, dk, d2, cl, rfl, _⟩ := h
    rfl
  · obtain ⟨a, dx, dk, d2, cl, rfl, ha, hdk, hne, hcl, q⟩ := h
    refine ⟨_, pss_cons (ps_fld (pv 0) (pv 1) rfl) (pss_cons (ps_fld (pv 0) (pe_lst pa_nil) rfl) (pss_cons (ps_fld (pv 0) (pe_un un_neg pe_int) rfl)
      (pss_one (ps_if (pt_cmpR op_ge (pe_callB (cr_dlen T hr (by decide)) (by rfl) T.n_len PySem.boot_len (pa_cons (pv 1) pa_nil)) (pe_gi (by rfl) T.i_SEAL_LENGTH) (nomark _)) (pss_one ps_never) pss_nil)))), ?_⟩
    refine ⟨_, rfl, _, rfl, a, _, dx, _, rfl, ha, T.c_Log, T.a_Log_disk, (by show 0 < 1000; decide), ?_⟩
    refine ⟨(by show 0 ≤ sizeLine; decide), fun wl hwl => ?_⟩
    have hwa : wl ≠ a := fun e => by rw [e, upd_same] at hwl; cases hwl
    have hwlH : H wl = none := by rw [upd_ne hwa] at hwl; exact hwl
    refine ⟨_, rfl, a, _, dx, _, rfl, by rw [upd_ne (Ne.symm hwa), upd_same], T.c_Log, T.a_Log_waiting, (by show 1 < 1000; decide), ?_⟩
    refine ⟨1, rfl, _, rfl, a, _, dx, _, rfl, upd_same, T.c_Log, T.a_Log_sealed, (by show 2 < 1000; decide), ?_⟩
    have sx1 : SX a H (upd H a (.ins (He.ga K "Log") dx [("disk", .ref dk)])) := sx_upd
    have sx2 := (sx1.app (o := .lst []) hwl).trans (sx_upd (o := .ins (He.ga K "Log") dx [("disk", .ref dk), ("waiting", .ref wl)]))
    have sx3 := sx2.trans (sx_upd (o := .ins (He.ga K "Log") dx [("disk", .ref dk), ("waiting", .ref wl), ("sealed", .int (-1))]))
    have hcla : cl ≠ a := fun e => by rw [e, ha] at hcl; cases hcl
    have hclw : cl ≠ wl := fun e => by rw [e, hwlH] at hcl; cases hcl
    refine ⟨_, rfl, dk, d2, cl, [], rfl, sx3 _ _ (Ne.symm hne) hdk, sx3 _ _ hcla hcl, by rw [sizeLine_eq]; simp, _, _, rfl, rfl, _, rfl, ?_⟩
    refine iteKF (by simp) ?_
    exact q wl _ sx3 hwlH ⟨upd_same, sx3 _ _ (Ne.symm hne) hdk, sx3 _ _ hcla hcl, by rw [upd_ne hwa, upd_ne hwa, upd_same]; rfl, hclw, by show 0 + 0 ≤ 16700000; decide⟩
theorem sc_lyinit : FnScope ["self", "kind", "chunk_shape", "fill", "filters"] ["self", "kind", "chunk_shape", "fill", "filters"] (defScope (inClass (top 98) 0)) := ⟨rfl, rfl, rfl, by decide +kernel, rfl, by decide +kernel, by decide +kernel⟩
theorem m_lyinit (T : Tx K mg) : C8.Mak P w K mg base 1 "Layout" (He.ga K "Layout") (spLyinit K) [] := by
  refine mak_of T.f_Layout_init T.g_Layout (fun _ _ _ _ _ _ us hl => match us, hl with | [_, _, _, _, _], _ => rfl) sc_lyinit (fun vs H Q E h => ?_) (fun f cdv A0 outer s H vs Q E hr h => ?_)
  · obtain ⟨a, dx, ct, ft, y, rfl, _⟩ := h
    rfl
  · obtain ⟨a, dx, ct, ft, y, rfl, ha, hct, hft, q⟩ := h
    refine ⟨_, pss_cons (ps_fld (pv 0) (pv 1) rfl) (pss_cons (ps_fld (pv 0) (pe_callTy call_tuple_of (by rfl) T.n_tuple (by decide +kernel) (pa_cons (pv 2) pa_nil)) rfl) (pss_cons (ps_fld (pv 0) (pv 3) rfl) (pss_one (ps_fld (pv 0) (pe_callTy call_tuple_of (by rfl) T.n_tuple (by decide +kernel) (pa_cons (pv 4) pa_nil)) rfl)))), ?_⟩
    have nt := NT.ins ha
    have sx1 : SX a H (upd H a (.ins (He.ga K "Layout") dx [("kind", .str y.k.name)])) := sx_upd
    have sx2 := sx1.trans (sx_upd (o := .ins (He.ga K "Layout") dx [("kind", .str y.k.name), ("chunk_shape", .ref ct)]))
    have sx3 := sx2.trans (sx_upd (o := .ins (He.ga K "Layout") dx [("kind", .str y.k.name), ("chunk_shape", .ref ct), ("fill", .int y.fill)]))
    have sx4 := sx3.trans (sx_upd (o := .ins (He.ga K "Layout") dx [("kind", .str y.k.name), ("chunk_shape", .ref ct), ("fill", .int y.fill), ("filters", .ref ft)]))
    refine ⟨_, rfl, _, rfl, a, _, dx, _, rfl, ha, T.c_Layout, T.a_Layout_kind, (by show 0 < 1000; decide), ?_⟩
    refine ⟨_, rfl, ct, _, rfl, .inr ⟨sx1.sqT' nt hct, _, rfl, a, _, dx, _, rfl, upd_same, T.c_Layout, T.a_Layout_chunk_shape, (by show 1 < 1000; decide), ?_⟩⟩
    refine ⟨_, rfl, _, rfl, a, _, dx, _, rfl, upd_same, T.c_Layout, T.a_Layout_fill, (by show 2 < 1000; decide), ?_⟩
    refine ⟨_, rfl, ft, _, rfl, .inr ⟨sx3.sqT' nt hft, _, rfl, a, _, dx, _, rfl, upd_same, T.c_Layout, T.a_Layout_filters, (by show 3 < 1000; decide), ?_⟩⟩
    exact q _ sx4 ⟨dx, ct, ft, upd_same, sx4.sqT' nt hct, sx4.sqT' nt hft⟩
theorem sc_wdig : FnScope ["number", "digits", "_"] ["number"] (defScope (top 115)) := ⟨rfl, rfl, rfl, by decide +kernel, rfl, by decide +kernel, by decide +kernel⟩
theorem c_wdig (T : Tx K mg) : C8.Cal P w K mg base 1 "write_digits" (spWdig K) [] := by
  refine cal_of T.f_write_digits (fun _ _ _ _ _ _ us hl => match us, hl with | [_], _ => rfl) sc_wdig (fun vs H Q E h => ?_) (fun f cdv A0 outer s H vs Q E hr h => ?_)
  · obtain ⟨n, rfl, _⟩ := h
    rfl
  · obtain ⟨n, rfl, q⟩ := h
    have nd := sc_wdig.nd
    refine ⟨_, pss_cons (ps_set (i := 1) nd rfl (.inl rfl) (pe_lst pa_nil))
      (pss_cons (ps_for PassesOwn.never rfl (pi_range1 (by rfl) T.n_range (pa_cons (pe_gi (by rfl) T.i_DIGITS) pa_nil)) (pg_name (i := 2) nd rfl (.inl rfl))
        (pss_cons (ps_expr (pe_bm PySem.F.plainAttrs_list PySem.F.slot_list_append PySem.F.type_list_append mt_append (pv 1) (pa_cons (pe_op op_modN (pv 0) pe_int) pa_nil)))
          (pss_one (ps_set (i := 0) nd rfl (.inl rfl) (pe_op op_fdivN (pv 0) pe_int)))))
      (pss_one (ps_ret (pe_revL (pv 1))))), ?_⟩
    refine ⟨(by show 0 ≤ sizeLine; decide), fun l hl => ?_⟩
    refine ⟨8, rfl, by decide, by decide, for_range (n := 8) (fun j σ H' => Same H H' ∧ ∃ (ds : List Int) (m : Int) (x : Option V), ds.length = j ∧ H' l = some (.lst (iv ds)) ∧ σ = [some (.int m), some (.ref l), x]) ⟨same_upd0 hl, [], n, none, rfl, upd_same, rfl⟩ ?_ ?_⟩
    · rintro j σ H' hj ⟨hs, ds, m, x, hd, hl2, rfl⟩
      refine ⟨_, rfl, .inl ⟨rfl, _, SqL.of hl2⟩, _, rfl, m, 250, rfl, rfl, (show (250 : Int) ≠ 0 by decide), l, _, _, rfl, rfl, hl2, by rw [List.length_map, sizeLine_eq]; omega, ?_⟩
      refine ⟨_, rfl, m, 250, rfl, rfl, ⟨by decide, by decide⟩, same_updD hs hl, ds ++ [m.fmod 250], _, _, by rw [List.length_append, hd]; rfl, ?_, rfl⟩
      rw [upd_same]
      simp
    · rintro σ H' ⟨hs, ds, m, x, hd, hl2, rfl⟩
      refine ⟨_, rfl, l, _, rfl, SqL.of hl2, fun p hp => ?_⟩
      refine q ds.reverse (by rw [List.length_reverse, hd]) p _ (hs.free hp) (same_updD hs (hs.free hp)) ?_
      rw [upd_same]; simp
theorem sc_mseal : FnScope ["batch", "root", "values"] ["batch", "root"] (defScope (top 117)) := ⟨rfl, rfl, rfl, by decide +kernel, rfl, by decide +kernel, by decide +kernel⟩
theorem c_mseal (T : Tx K mg) : C8.Cal P w K mg base 2 "make_seal" (spMseal K) [] := by
  refine cal_of T.f_make_seal (fun _ _ _ _ _ _ us hl => match us, hl with | [_, _], _ => rfl) sc_mseal (fun vs H Q E h => ?_) (fun f cdv A0 outer s H vs Q E hr h => ?_)
  · obtain ⟨n, ad, ln, rv, rfl, _⟩ := h
    rfl
  · obtain ⟨n, ad, ln, rv, rfl, ⟨ra, rfl, hra⟩, q⟩ := h
    have nd := sc_mseal.nd
    refine ⟨_, pss_cons (ps_set (i := 2) nd rfl (.inl rfl) (pe_op op_cat (pe_op op_cat (C8.pe_c (c_wdig T) hr (by decide) rfl (pa_cons (pv 0) pa_nil)) (C8.pe_c (c_wdig T) hr (by decide) rfl (pa_cons (pe_ix ix_tup (pv 1) pe_int (fun _ _ => rfl)) pa_nil))) (C8.pe_c (c_wdig T) hr (by decide) rfl (pa_cons (pe_ix ix_tup (pv 1) pe_int (fun _ _ => rfl)) pa_nil))))
      (pss_one (ps_ret (pe_op op_cat (pe_op op_cat (pe_op op_cat (pe_lst (pa_cons (pe_gi (by rfl) T.i_FIRST) pa_nil)) (pv 2)) (C8.pe_c (c_chk T) hr (by decide) rfl (pa_cons (pv 2) pa_nil))) (pe_lst (pa_cons (pe_gi (by rfl) T.i_LAST) pa_nil))))), ?_⟩
    refine ⟨_, rfl, n, rfl, fun d1 e1 l1 H1 hl1 hs1 hL1 => ?_⟩
    refine ⟨_, rfl, ra, _, 0, .int ad, rfl, rfl, Same.sqT hs1 hra, atI_nat (j := 0) rfl, ad, rfl, fun d2 e2 l2 H2 hl2 hs2 hL2 => ?_⟩
    refine ⟨l1, l2, _, _, rfl, rfl, hs2 _ _ hL1, hL2, by rw [List.length_map, List.length_map, e1, e2, sizeLine_eq]; omega, fun p1 hp1 => ?_⟩
    have hsA := hs1.trans hs2
    have hs3 := same_upd0 (o := .lst (iv d1 ++ iv d2)) hp1
    have hsB := hsA.trans hs3
    refine ⟨_, rfl, ra, _, 1, .int ln, rfl, rfl, Same.sqT hsB hra, atI_nat (j := 1) rfl, ln, rfl, fun d3 e3 l3 H3 hl3 hs4 hL3 => ?_⟩
    refine ⟨p1, l3, _, _, rfl, rfl, hs4 _ _ upd_same, hL3, by rw [List.length_append, List.length_map, List.length_map, List.length_map, e1, e2, e3, sizeLine_eq]; omega, fun p2 hp2 => ?_⟩
    have hsC := hsB.trans hs4
    have hs5 := same_upd0 (o := .lst (iv d1 ++ iv d2 ++ iv d3)) hp2
    have hsD := hsC.trans hs5
    refine ⟨(by show 1 ≤ sizeLine; decide), fun f1 hf1 => ?_⟩
    have hs6 := same_upd0 (o := .lst [.int 255]) hf1
    refine ⟨_, rfl, f1, p2, _, _, rfl, rfl, upd_same, hs6 _ _ upd_same, by rw [List.length_append, List.length_append, List.length_map, List.length_map, List.length_map, e1, e2, e3, sizeLine_eq]; simp only [List.length_singleton]; omega, fun p3 hp3 => ?_⟩
    have hs7 := hs6.trans (same_upd0 (o := .lst ([.int 255] ++ (iv d1 ++ iv d2 ++ iv d3))) hp3)
    have hp2v : (upd (upd (upd H3 p2 (.lst (iv d1 ++ iv d2 ++ iv d3))) f1 (.lst [.int 255])) p3 (.lst ([.int 255] ++ (iv d1 ++ iv d2 ++ iv d3)))) p2 = some (.lst (iv (d1 ++ d2 ++ d3))) := by
      rw [hs7 _ _ upd_same]; simp
    refine ⟨_, rfl, p2, d1 ++ d2 ++ d3, rfl, SqL.of hp2v, fun c H4 hc hs8 hC => ?_⟩
    refine ⟨p3, c, _, iv (chk (d1 ++ d2 ++ d3)), rfl, rfl, hs8 _ _ upd_same, hC, by rw [List.length_append, List.length_append, List.length_append, List.length_map, List.length_map, List.length_map, List.length_map, e1, e2, e3, chk_len, sizeLine_eq]; simp only [List.length_singleton]; omega, fun p4 hp4 => ?_⟩
    have hs9 := hs8.trans (same_upd0 (o := .lst ([.int 255] ++ (iv d1 ++ iv d2 ++ iv d3) ++ iv (chk (d1 ++ d2 ++ d3)))) hp4)
    refine ⟨(by show 1 ≤ sizeLine; decide), fun f2 hf2 => ?_⟩
    have hsa := same_upd0 (o := .lst [.int 254]) hf2
    refine ⟨p4, f2, _, _, rfl, rfl, hsa _ _ upd_same, upd_same, by rw [List.length_append, List.length_append, List.length_append, List.length_append, List.length_map, List.length_map, List.length_map, List.length_map, e1, e2, e3, chk_len, sizeLine_eq]; simp only [List.length_singleton]; omega, fun p5 hp5 => ?_⟩
    have hsE := ((hsD.trans hs7).trans hs9).trans hsa
    refine q ([255] ++ (d1 ++ d2 ++ d3) ++ chk (d1 ++ d2 ++ d3) ++ [254]) (by simp [e1, e2, e3, chk_len]) p5 _ (hsE.free hp5) (same_updD hsE (hsE.free hp5)) ?_
    rw [upd_same]
    simp
theorem sc_seal : FnScope ["self", "root", "seal", "value"] ["self", "root"] (defScope (inClass (top 120) 5)) := ⟨rfl, rfl, rfl, by decide +kernel, rfl, by decide +kernel, by decide +kernel⟩
theorem m_seal (T : Tx K mg) : C8.Met P w K mg base 3 (He.ga K "Log") "seal" (spSeal K) [] := by
  refine met_of T.f_Log_seal T.c_Log (fun _ _ _ _ _ _ us hl => match us, hl with | [_, _], _ => rfl) sc_seal (fun vs H Q E h => ?_) (fun f cdv A0 outer s H vs Q E hr h => ?_)
  · obtain ⟨L, S, z, rv, ad, ln, rfl, _⟩ := h
    rfl
  · obtain ⟨L, S, z, rv, ad, ln, rfl, hL, hrv, hz, q⟩ := h
    have nd := sc_seal.nd
    refine ⟨_, pss_cons (ps_set (i := 2) nd rfl (.inl rfl) (C8.pe_c (c_mseal T) hr (by decide) rfl (pa_cons (pe_op op_add (pe_fld (pv 0) rfl) pe_int) (pa_cons (pv 1) pa_nil))))
      (pss_cons (ps_for PassesOwn.never rfl (pi_list (pe_op op_cat (pe_op op_cat (pe_fld (pv 0) rfl) (pv 2)) (pv 2))) (pg_name (i := 3) nd rfl (.inl rfl))
        (pss_one (ps_expr (C8.pe_mt (m_dapp T) hr (by decide) (pe_fld (pv 0) rfl) (pa_cons (pe_lst (pa_cons (pv 3) pa_nil)) pa_nil)))))
      (pss_cons (ps_fldaug (pv 0) pe_int in_add) (pss_one (ps_fld (pv 0) (pe_lst pa_nil) rfl)))), ?_⟩
    refine ⟨_, rfl, L.lg, _, L.d1, _, _, rfl, hL.hl, T.c_Log, T.a_Log_sealed, rfl, z, 1, rfl, rfl, _, rfl, z + 1, ad, ln, rv, rfl, hrv, fun ds hds sl H1 hsl hs1 hsl1 => ?_⟩
    have hL1 := hL.keep hs1
    have hwz : (iv S.wb).length ≤ 16700000 := by rw [List.length_map]; have := hL.hz; omega
    refine ⟨_, rfl, L.lg, _, L.d1, _, _, rfl, hL1.hl, T.c_Log, T.a_Log_waiting, rfl, _, rfl, L.wl, sl, _, _, rfl, rfl, hL1.hw, hsl1, by rw [List.length_map, List.length_map, hds, sizeLine_eq]; have := hL.hz; omega, fun p1 hp1 => ?_⟩
    have hs2 := same_upd0 (o := .lst (iv S.wb ++ iv ds)) hp1
    refine ⟨_, rfl, p1, sl, _, _, rfl, rfl, upd_same, hs2 _ _ hsl1, by rw [List.length_append, List.length_map, List.length_map, hds, sizeLine_eq]; have := hL.hz; omega, fun p2 hp2 => ?_⟩
    have hs3 := hs2.trans (same_upd0 (o := .lst (iv S.wb ++ iv ds ++ iv ds)) hp2)
    have hsA := hs1.trans hs3
    have hLA := hL.keep hsA
    have hp2c : p2 ≠ L.cl := fun e => by have := hLA.hc; rw [← e, upd_same] at this; have := hs2 _ _ (hL1.hc); rw [← e, hp2] at this; cases this
    have evv : iv S.wb ++ iv ds ++ iv ds = iv (S.wb ++ ds ++ ds) := by simp
    rw [evv]
    have hdk := hL.hd
    have hnl : L.lg ≠ L.cl := ne_ins hL.hl hL.hc
    have hnd : L.dk ≠ L.cl := ne_ins hL.hd hL.hc
    refine ⟨p2, rfl, ⟨_, SqL.of upd_same⟩, for_list (K := K) (a := p2) (xs := iv (S.wb ++ ds ++ ds)) (fun j σ H' => SX L.cl H H' ∧ H' p2 = some (.lst (iv (S.wb ++ ds ++ ds))) ∧ H' L.cl = some (.lst (iv (S.fb ++ (S.wb ++ ds ++ ds).take j))) ∧ ∃ x3, σ = [some (.ref L.lg), some rv, some (.ref sl), x3])
      ⟨by rw [← evv]; exact Same.sx hsA, upd_same, by rw [← evv, hLA.hc]; simp, none, rfl⟩ (fun j σ H' _ h => SqL.of h.2.1) ?_ ?_⟩
    · rintro j x σ H2 hx ⟨sx, hp22, hc2, x3, rfl⟩
      obtain ⟨v, hv, rfl⟩ := iv_get hx
      have hd2 := sx _ _ hnd hL.hd
      refine ⟨_, rfl, L.lg, _, L.d1, _, _, rfl, sx _ _ hnl hL.hl, T.c_Log, T.a_Log_disk, rfl, L.dk, L.d2, _, rfl, hd2, rfl, _, rfl, (by show 1 ≤ sizeLine; decide), fun l hl => ?_⟩
      have hs4 := same_upd0 (o := .lst [.int v]) hl
      refine ⟨L.dk, L.d2, L.cl, l, iv (S.fb ++ (S.wb ++ ds ++ ds).take j), [.int v], rfl, hs4 _ _ hd2, hs4 _ _ hc2, SqL.of upd_same, ?_, fun H3 sx3 hc3 => ?_⟩
      · rw [List.length_map, List.length_append, List.length_take, List.length_append, List.length_append, hds, sizeLine_eq]
        simp only [List.length_singleton]
        omega
      · refine ⟨(sx.thenSame hs4).trans sx3, sx3 _ _ hp2c (hs4 _ _ hp22), ?_, _, rfl⟩
        rw [hc3, take_snoc hv]
        simp
    · rintro σ H2 ⟨sx, hp22, hc2, x3, rfl⟩
      rw [List.length_map, List.take_length] at hc2
      have hl2 := sx _ _ hnl hL.hl
      refine ⟨_, rfl, L.lg, _, L.d1, _, _, rfl, hl2, T.c_Log, T.a_Log_sealed, rfl, z, 1, rfl, rfl, L.d1, _, hl2, (by show 3 < 1000; decide), ?_⟩
      refine ⟨(by show 0 ≤ sizeLine; decide), fun wl' hwl' => ?_⟩
      have hwg : wl' ≠ L.lg := fun e => by rw [e, upd_same] at hwl'; cases hwl'
      have hwl2 : H2 wl' = none := by rw [upd_ne hwg] at hwl'; exact hwl'
      have hwc : wl' ≠ L.cl := fun e => by rw [e, hc2] at hwl2; cases hwl2
      refine ⟨_, rfl, L.lg, _, L.d1, _, rfl, by rw [upd_ne (Ne.symm hwg), upd_same], T.c_Log, T.a_Log_waiting, (by show 3 < 1000; decide), ?_⟩
      have hdg : L.dk ≠ L.lg := fun e => by
        have := hL.hd
        rw [e, hL.hl] at this
        have := (HO.ins.inj (Option.some.inj this)).2.2
        simp at this
      have hdw : L.dk ≠ wl' := fun e => by
        have := sx _ _ hnd hL.hd
        rw [e, hwl2] at this
        cases this
      refine q wl' (ds ++ ds) _ (fun b o h1 h2 h => ?_) (sx.free hwc hwl2) ⟨upd_same, ?_, ?_, ?_, Ne.symm hwc, ?_⟩ (by rw [List.length_append, hds])
      · have := sx _ _ h2 h
        have hbw : b ≠ wl' := fun e => by rw [e, hwl2] at this; cases this
        rw [upd_ne h1, upd_ne hbw, upd_ne h1]
        exact this
      · show upd _ _ _ L.dk = _
        rw [upd_ne hdg, upd_ne hdw, upd_ne hdg]
        exact sx _ _ hnd hL.hd
      · show upd _ _ _ L.cl = _
        rw [upd_ne (Ne.symm hnl), upd_ne (Ne.symm hwc), upd_ne (Ne.symm hnl), hc2]
        simp
      · show upd _ _ _ wl' = _
        rw [upd_ne hwg, upd_same]
        rfl
      · show (S.fb ++ S.wb ++ (ds ++ ds)).length + 0 ≤ 16700000
        rw [List.length_append, List.length_append, List.length_append, hds]
        omega
end
end Tz
namespace Tz
open PySem PySem.Spec PyProof.Rows L2
/-- draws -/
def Drs (ds : List Int) : Prop := ∀ d ∈ ds, 0 ≤ d ∧ d < 4096
theorem Drs.snoc {ds : List Int} {d : Int} (h : Drs ds) (hd : 0 ≤ d ∧ d < 4096) : Drs (ds ++ [d]) := fun x hx => by
  rcases List.mem_append.mp hx with hx | hx
  · exact h x hx
  · rw [List.mem_singleton.mp hx]; exact hd
theorem Drs.app {ds es : List Int} (h : Drs ds) (g : Drs es) : Drs (ds ++ es) := fun x hx => (List.mem_append.mp hx).elim (h x) (g x)
theorem fmod_bd (x : Int) {m : Int} (h : 0 < m) : 0 ≤ x.fmod m ∧ x.fmod m < m := by
  rw [Int.fmod_eq_emod_of_nonneg _ (Int.le_of_lt h)]
  exact ⟨Int.emod_nonneg _ (Int.ne_of_gt h), Int.emod_lt_of_pos _ h⟩
theorem bd31 {x m : Int} (h : 0 ≤ x ∧ x < m) (hm : m ≤ 2147483648) : -(2 ^ 64) < x ∧ x < 2 ^ 64 := ⟨by omega, by omega⟩
/-- two tests joined by and -/
theorem and2 {t u : TT} {σ : L2.St} {H : Hp} {Q : Bool → Hp → Prop} (b1 b2 : Bool) (h1 : ∀ R : Bool → Hp → Prop, R b1 H → t σ H R) (h2 : b1 = true → ∀ R : Bool → Hp → Prop, R b2 H → u σ H R) (h : Q (b1 && b2) H) : tAnd t u σ H Q := by
  refine h1 _ ?_
  cases b1 with
  | true =>
    refine iteK rfl ?_
    exact h2 rfl _ h
  | false =>
    refine iteKF rfl ?_
    exact h
theorem ite2K {b : Bool} {A B : Prop} (h1 : b = true → A) (h2 : b = false → B) : if b = true then A else B := by
  cases b with
  | true => rw [if_pos rfl]; exact h1 rfl
  | false => rw [if_neg Bool.false_ne_true]; exact h2 rfl
def spCellT (K : PySem.W.Frag) : Sp := fun vs H Q _ => ∃ (a : Addr) (xs : List Int) (k : Nat), vs = [.ref a, .int k] ∧ SqL K H a (iv xs) ∧ ∀ x : Int, Q (.int x) H
def spDraws (K : PySem.W.Frag) : Sp := fun vs H Q _ => ∃ (c : Int), vs = [.int c, .int 16] ∧ ∀ ds : List Int, ds.length = 16 → Drs ds → OutL H Q ds
def spIsInt (K : PySem.W.Frag) : Sp := fun vs H Q _ => ∃ x : Int, vs = [.int x] ∧ Q (.bl true) H
def spIsNum (K : PySem.W.Frag) : Sp := fun vs H Q _ => ∃ x : Int, vs = [.int x, .int x] ∧ Q (.bl true) H
def spKdI (K : PySem.W.Frag) (f : Kd → Int) : Sp := fun vs H Q _ => ∃ k : Kd, vs = [.str k.name] ∧ ∀ H', Same H H' → Q (.int (f k)) H'
def spVal (K : PySem.W.Frag) : Sp := fun vs H Q _ => ∃ (k : Kd) (d : Int), vs = [.str k.name, .int d] ∧ 0 ≤ d ∧ d ≤ 100000 ∧ ∀ v H', Same H H' → k.In v → Q (.int v) H'
def spKind (K : PySem.W.Frag) : Sp := fun vs H Q _ => ∃ d : Int, vs = [.int d] ∧ ∀ (k : Kd) H', Same H H' → Q (.str k.name) H'
def spChain (K : PySem.W.Frag) : Sp := fun vs H Q _ => ∃ d : Int, vs = [.int d] ∧ 0 ≤ d ∧ d < 4096 ∧ ∀ (t : Addr) (fs : List Flt) H', Same H H' → fs.length ≤ 3 → SqT K H' t (fnames fs) → Q (.ref t) H'
section
variable {P : Program} {w : World} {K : PySem.W.Frag} {mg : Str → Option Value} {base : Heap}
theorem sc_cell : FnScope ["_law_script", "_law_k"] ["_law_script", "_law_k"] (defScope (top 124)) := ⟨rfl, rfl, rfl, by decide +kernel, rfl, by decide +kernel, by decide +kernel⟩
theorem c_cell (T : Tx K mg) : C8.Cal P w K mg base 1 "_law_cell" (spCellT K) [] := by
  refine cal_of T.f_law_cell (fun _ _ _ _ _ _ us hl => match us, hl with | [_, _], _ => rfl) sc_cell (fun vs H Q E h => ?_) (fun f cdv A0 outer s H vs Q E hr h => ?_)
  · obtain ⟨a, xs, k, rfl, _⟩ := h
    rfl
  · obtain ⟨a, xs, k, rfl, ha, q⟩ := h
    refine ⟨_, pss_cons (ps_if (pt_cmpR op_lt (pv 1) (pe_callB call_len (by rfl) T.n_len PySem.boot_len (pa_cons (pv 0) pa_nil)) (nomark _)) (pss_one (ps_ret (pe_ix ix_list (pv 0) (pv 1) (fun _ _ => rfl)))) pss_nil) (pss_one (ps_ret pe_int)), ?_⟩
    refine ⟨_, rfl, _, rfl, _, _, rfl, .inl ⟨_, ha, rfl⟩, (k : Int), _, rfl, rfl, _, rfl, ?_⟩
    refine iteB (fun hb => ?_) fun hb => q 0
    have hk : k < xs.length := by simpa using hb
    refine ⟨_, rfl, _, rfl, a, _, _, .int xs[k], rfl, rfl, ha, atI_nat (by rw [List.getElem?_map, List.getElem?_eq_getElem hk]; rfl), q _⟩
theorem sc_draws : FnScope ["_law_cell_here", "_law_count", "_law_rows", "_law_left", "_law_k", "_law_mixed"] ["_law_cell_here", "_law_count"] (defScope (top 125)) := ⟨rfl, rfl, rfl, by decide +kernel, rfl, by decide +kernel, by decide +kernel⟩
theorem c_draws (T : Tx K mg) : C8.Cal P w K mg base 1 "_law_draws" (spDraws K) [] := by
  refine cal_of T.f_law_draws (fun _ _ _ _ _ _ us hl => match us, hl with | [_, _], _ => rfl) sc_draws (fun vs H Q E h => ?_) (fun f cdv A0 outer s H vs Q E hr h => ?_)
  · obtain ⟨c, rfl, _⟩ := h
    rfl
  · obtain ⟨c, rfl, q⟩ := h
    have nd := sc_draws.nd
    refine ⟨_, pss_cons (ps_set (i := 2) nd rfl (.inl rfl) (pe_lst pa_nil)) (pss_cons (ps_set (i := 3) nd rfl (.inl rfl) (pv 0))
      (pss_cons (ps_for PassesOwn.never rfl (pi_range1 (by rfl) T.n_range (pa_cons (pv 1) pa_nil)) (pg_name (i := 4) nd rfl (.inl rfl))
        (pss_one (ps_if (PW.pt (pw_and (pt_cmpR op_ge (pv 0) (pe_op op_pow pe_int pe_int) (nomark _)) (pw_and1 (pt_cmpR op_gt (pv 3) pe_int (nomark _)))))
          (pss_cons (ps_expr (pe_bm PySem.F.plainAttrs_list PySem.F.slot_list_append PySem.F.type_list_append mt_append (pv 2) (pa_cons (pe_op op_modN (pe_callTy call_int1 (by rfl) T.n_int (by decide +kernel) (pa_cons (pv 3) pa_nil)) pe_int) pa_nil)))
            (pss_one (ps_set (i := 3) nd rfl (.inl rfl) (pe_op op_fdivN (pv 3) pe_int))))
          (pss_cons (ps_set (i := 5) nd rfl (.inl rfl) (pe_op op_modN (pe_callTy call_int1 (by rfl) T.n_int (by decide +kernel) (pa_cons (pe_op op_add (pe_op op_mul (pv 0) pe_int) (pe_op op_mul (pe_op op_add (pv 4) pe_int) pe_int)) pa_nil)) pe_int))
          (pss_cons (ps_set (i := 5) nd rfl (.inl rfl) (pe_op op_modN (pe_callTy call_int1 (by rfl) T.n_int (by decide +kernel) (pa_cons (pe_op op_add (pe_op op_add (pe_op op_mul (pv 5) (pv 5)) (pe_op op_mul (pv 5) pe_int)) (pe_op op_mul (pv 4) pe_int)) pa_nil)) pe_int))
          (pss_cons (ps_set (i := 5) nd rfl (.inl rfl) (pe_op op_modN (pe_callTy call_int1 (by rfl) T.n_int (by decide +kernel) (pa_cons (pe_op op_add (pe_op op_add (pe_op op_mul (pv 5) (pv 5)) (pv 0)) (pe_op op_mul pe_int (pv 4))) pa_nil)) pe_int))
          (pss_one (ps_expr (pe_bm PySem.F.plainAttrs_list PySem.F.slot_list_append PySem.F.type_list_append mt_append (pv 2) (pa_cons (pe_op op_modN (pe_op op_fdivN (pv 5) pe_int) pe_int) pa_nil))))))))))
      (pss_one (ps_ret (pv 2))))), ?_⟩
    refine ⟨(by show 0 ≤ sizeLine; decide), fun l hl => ?_⟩
    refine ⟨_, rfl, ?_⟩
    refine ⟨_, rfl, 16, rfl, by decide, by decide, for_range (n := 16) (fun j σ H' => Same H H' ∧ ∃ (ds : List Int) (lf : Int) (x4 x5 : Option V), ds.length = j ∧ Drs ds ∧ H' l = some (.lst (iv ds)) ∧ σ = [some (.int c), some (.int 16), some (.ref l), some (.int lf), x4, x5])
      ⟨same_upd0 hl, [], c, none, none, rfl, fun _ h => (by simp at h), upd_same, rfl⟩ ?_ ?_⟩
    · rintro j σ H' hj ⟨hs, ds, lf, x4, x5, hd, hD, hl2, rfl⟩
      have hsz : (iv ds).length < sizeLine := by rw [List.length_map, sizeLine_eq]; omega
      have fin : ∀ d : Int, 0 ≤ d ∧ d < 4096 → Same H (upd H' l (.lst (iv ds ++ [.int d]))) ∧ (ds ++ [d]).length = j + 1 ∧ Drs (ds ++ [d]) ∧ (upd H' l (.lst (iv ds ++ [.int d]))) l = some (.lst (iv (ds ++ [d]))) := fun d hd2 =>
        ⟨same_updD hs hl, by rw [List.length_append, hd]; rfl, hD.snoc hd2, by rw [upd_same]; simp⟩
      refine and2 (decide ((10 : Int) ^ (18 : Int).toNat ≤ c)) (decide (0 < lf)) (fun R h => ⟨_, rfl, 10, 18, rfl, rfl, ⟨by decide, by decide, by decide⟩, c, _, rfl, rfl, _, rfl, h⟩) (fun _ R h => ⟨_, rfl, lf, 0, rfl, rfl, _, rfl, h⟩) ?_
      refine ite2K (fun _ => ?_) fun _ => ?_
      · obtain ⟨f1, f2, f3, f4⟩ := fin (lf.fmod 4096) (fmod_bd lf (by decide))
        refine ⟨_, rfl, .inl ⟨rfl, _, SqL.of hl2⟩, _, rfl, .inl ⟨lf, rfl, lf, 4096, rfl, rfl, (show (4096 : Int) ≠ 0 by decide), l, _, _, rfl, rfl, hl2, hsz, ?_⟩⟩
        exact ⟨_, rfl, lf, 4096, rfl, rfl, ⟨by decide, by decide⟩, f1, _, _, _, _, f2, f3, f4, rfl⟩
      · have mm : ∀ (x m : Int), 0 < m → m ≤ 2147483648 → -(2 ^ 64) < x.fmod m ∧ x.fmod m < 2 ^ 64 := fun x m h1 h2 => bd31 (fmod_bd x h1) h2
        refine ⟨_, rfl, c, 48271, rfl, rfl, .inr ⟨by decide, by decide⟩, _, rfl, _, 1, rfl, rfl, _, 69621, rfl, rfl, .inr ⟨by decide, by decide⟩, _, _, rfl, rfl, .inl ⟨_, rfl, _, 2147483647, rfl, rfl, (show (2147483647 : Int) ≠ 0 by decide), ?_⟩⟩
        refine ⟨_, rfl, _, rfl, _, _, rfl, rfl, .inl (mm _ _ (by decide) (by decide)), _, rfl, _, 16807, rfl, rfl, .inr ⟨by decide, by decide⟩, _, _, rfl, rfl, _, rfl, _, 7919, rfl, rfl, .inr ⟨by decide, by decide⟩, _, _, rfl, rfl, .inl ⟨_, rfl, _, 2147483629, rfl, rfl, (show (2147483629 : Int) ≠ 0 by decide), ?_⟩⟩
        refine ⟨_, rfl, _, rfl, _, _, rfl, rfl, .inl (mm _ _ (by decide) (by decide)), _, rfl, _, c, rfl, rfl, _, rfl, 13, _, rfl, rfl, .inl ⟨by decide, by decide⟩, _, _, rfl, rfl, .inl ⟨_, rfl, _, 2147483587, rfl, rfl, (show (2147483587 : Int) ≠ 0 by decide), ?_⟩⟩
        refine ⟨_, rfl, .inl ⟨rfl, _, SqL.of hl2⟩, _, rfl, _, 7, rfl, rfl, ⟨by decide, by decide⟩, _, 4096, rfl, rfl, (show (4096 : Int) ≠ 0 by decide), l, _, _, rfl, rfl, hl2, hsz, ?_⟩
        obtain ⟨f1, f2, f3, f4⟩ := fin ((((((((c * 48271 + ((0 : Int) + (j : Int) + 1) * 69621).fmod 2147483647) * ((c * 48271 + ((0 : Int) + (j : Int) + 1) * 69621).fmod 2147483647) + ((c * 48271 + ((0 : Int) + (j : Int) + 1) * 69621).fmod 2147483647) * 16807 + ((0 : Int) + (j : Int)) * 7919).fmod 2147483629) * ((((c * 48271 + ((0 : Int) + (j : Int) + 1) * 69621).fmod 2147483647) * ((c * 48271 + ((0 : Int) + (j : Int) + 1) * 69621).fmod 2147483647) + ((c * 48271 + ((0 : Int) + (j : Int) + 1) * 69621).fmod 2147483647) * 16807 + ((0 : Int) + (j : Int)) * 7919).fmod 2147483629) + c + 13 * ((0 : Int) + (j : Int))).fmod 2147483587).fdiv 7).fmod 4096) (fmod_bd _ (by decide))
        exact ⟨f1, _, _, _, _, f2, f3, f4, rfl⟩
    · rintro σ H' ⟨hs, ds, lf, x4, x5, hd, hD, hl2, rfl⟩
      exact ⟨_, rfl, q ds hd hD l H' hl hs hl2⟩
theorem sc_isint : FnScope ["_law_x"] ["_law_x"] (defScope (top 126)) := ⟨rfl, rfl, rfl, by decide +kernel, rfl, by decide +kernel, by decide +kernel⟩
theorem c_isint (T : Tx K mg) : C8.Cal P w K mg base 1 "_law_is_int" (spIsInt K) [] := by
  refine cal_of T.f_law_is_int (fun _ _ _ _ _ _ us hl => match us, hl with | [_], _ => rfl) sc_isint (fun vs H Q E h => ?_) (fun f cdv A0 outer s H vs Q E hr h => ?_)
  · obtain ⟨x, rfl, _⟩ := h
    rfl
  · obtain ⟨x, rfl, q⟩ := h
    refine ⟨_, pss_one (ps_ret (pe_and (pe_callB call_isi (by rfl) T.n_isinstance (by decide +kernel) (pa_cons (pv 0) (pa_cons (pe_bltn (by rfl) T.n_int (v := .ty "int") (by decide +kernel) rfl) pa_nil)))
      (pe_one (pe_not (pe_callB call_isi (by rfl) T.n_isinstance (by decide +kernel) (pa_cons (pv 0) (pa_cons (pe_bltn (by rfl) T.n_bool (v := .ty "bool") (by decide +kernel) rfl) pa_nil))))))), ?_⟩
    refine ⟨_, rfl, _, _, _, _, true, rfl, .ty "int", .base (.int x), kit_ty (by decide +kernel), _, rfl, ?_⟩
    refine iteK rfl ?_
    exact ⟨_, rfl, _, _, _, _, false, rfl, .ty "bool", .base (.int x), kit_ty (by decide +kernel), _, rfl, q⟩
theorem sc_isnum : FnScope ["_law_x", "_law_due"] ["_law_x", "_law_due"] (defScope (top 127)) := ⟨rfl, rfl, rfl, by decide +kernel, rfl, by decide +kernel, by decide +kernel⟩
theorem c_isnum (T : Tx K mg) : C8.Cal P w K mg base 2 "_law_is_number" (spIsNum K) [] := by
  refine cal_of T.f_law_is_number (fun _ _ _ _ _ _ us hl => match us, hl with | [_, _], _ => rfl) sc_isnum (fun vs H Q E h => ?_) (fun f cdv A0 outer s H vs Q E hr h => ?_)
  · obtain ⟨x, rfl, _⟩ := h
    rfl
  · obtain ⟨x, rfl, q⟩ := h
    refine ⟨_, pss_one (ps_ret (pe_and (C8.pe_c (c_isint T) hr (by decide) rfl (pa_cons (pv 0) pa_nil)) (pe_one (pe_cmpR op_eq (pv 0) (pv 1) (nomark _))))), ?_⟩
    refine ⟨_, rfl, x, rfl, _, rfl, ?_⟩
    refine iteK rfl ?_
    refine ⟨_, rfl, _, rfl, rfl, ?_⟩
    rw [decide_eq_true rfl]
    exact q
end
end Tz
namespace Tz
open PySem PySem.Spec PyProof.Rows L2
section
variable {P : Program} {w : World} {K : PySem.W.Frag} {mg : Str → Option Value} {base : Heap}
theorem sc_low2 : FnScope ["_law_kind_here"] ["_law_kind_here"] (defScope (top 128)) := ⟨rfl, rfl, rfl, by decide +kernel, rfl, by decide +kernel, by decide +kernel⟩
theorem c_llow (T : Tx K mg) : C8.Cal P w K mg base 1 "_law_low" (spKdI K Kd.least) [] := by
  refine cal_of T.f_law_low (fun _ _ _ _ _ _ us hl => match us, hl with | [_], _ => rfl) sc_low2 (fun vs H Q E h => ?_) (fun f cdv A0 outer s H vs Q E hr h => ?_)
  · obtain ⟨k, rfl, _⟩ := h
    rfl
  · obtain ⟨k, rfl, q⟩ := h
    refine ⟨_, pss_one (ps_ret (pe_dget (hu_of hr) (pe_disp (pps_cons pe_str (pe_un un_neg pe_int) (pps_cons pe_str (pe_un un_neg pe_int) (pps_cons pe_str (pe_un un_neg pe_int) (pps_cons pe_str pe_int (pps_cons pe_str pe_int (pps_cons pe_str pe_int pps_nil)))))) rfl rfl (by decide) (by decide)) (pv 0) (fun _ _ => rfl))), ?_⟩
    refine fun p hp => ⟨128, rfl, 32768, rfl, 2147483648, rfl, upd_same, [(.inr "i1", .int (-128)), (.inr "i2", .int (-32768)), (.inr "i4", .int (-2147483648)), (.inr "u1", .int 0), (.inr "u2", .int 0), (.inr "u4", .int 0)], rfl, by decide, ?_⟩
    refine ⟨_, rfl, p, .int k.least, rfl, ?_, q _ ?_⟩
    · have h := DGet.k (k := .inr k.name) (H := upd (upd H p (.dK [])) p (.dK (mergeK [] [(.inr "i1", .int (-128)), (.inr "i2", .int (-32768)), (.inr "i4", .int (-2147483648)), (.inr "u1", .int 0), (.inr "u2", .int 0), (.inr "u4", .int 0)]))) (a := p) upd_same
      have e : valV (mergeK [] [((.inr "i1" : L2.Key), V.int (-128)), (.inr "i2", .int (-32768)), (.inr "i4", .int (-2147483648)), (.inr "u1", .int 0), (.inr "u2", .int 0), (.inr "u4", .int 0)]) (.inr k.name) = some (.int k.least) := by
        cases k <;> rfl
      rw [e] at h
      exact h
    · exact same_updD (same_upd0 hp) hp
theorem sc_high2 : FnScope ["_law_kind_here"] ["_law_kind_here"] (defScope (top 129)) := ⟨rfl, rfl, rfl, by decide +kernel, rfl, by decide +kernel, by decide +kernel⟩
theorem c_lhigh (T : Tx K mg) : C8.Cal P w K mg base 1 "_law_high" (spKdI K Kd.greatest) [] := by
  refine cal_of T.f_law_high (fun _ _ _ _ _ _ us hl => match us, hl with | [_], _ => rfl) sc_high2 (fun vs H Q E h => ?_) (fun f cdv A0 outer s H vs Q E hr h => ?_)
  · obtain ⟨k, rfl, _⟩ := h
    rfl
  · obtain ⟨k, rfl, q⟩ := h
    refine ⟨_, pss_one (ps_ret (pe_dget (hu_of hr) (pe_disp (pps_cons pe_str pe_int (pps_cons pe_str pe_int (pps_cons pe_str pe_int (pps_cons pe_str pe_int (pps_cons pe_str pe_int (pps_cons pe_str pe_int pps_nil)))))) rfl rfl (by decide) (by decide)) (pv 0) (fun _ _ => rfl))), ?_⟩
    refine fun p hp => ⟨upd_same, [(.inr "i1", .int 127), (.inr "i2", .int 32767), (.inr "i4", .int 2147483647), (.inr "u1", .int 255), (.inr "u2", .int 65535), (.inr "u4", .int 4294967295)], rfl, by decide, ?_⟩
    refine ⟨_, rfl, p, .int k.greatest, rfl, ?_, q _ ?_⟩
    · have h := DGet.k (k := .inr k.name) (H := upd (upd H p (.dK [])) p (.dK (mergeK [] [(.inr "i1", .int 127), (.inr "i2", .int 32767), (.inr "i4", .int 2147483647), (.inr "u1", .int 255), (.inr "u2", .int 65535), (.inr "u4", .int 4294967295)]))) (a := p) upd_same
      have e : valV (mergeK [] [((.inr "i1" : L2.Key), V.int 127), (.inr "i2", .int 32767), (.inr "i4", .int 2147483647), (.inr "u1", .int 255), (.inr "u2", .int 65535), (.inr "u4", .int 4294967295)]) (.inr k.name) = some (.int k.greatest) := by
        cases k <;> rfl
      rw [e] at h
      exact h
    · exact same_updD (same_upd0 hp) hp
theorem sc_lval : FnScope ["_law_kind_here", "_law_draw", "_law_low_here", "_law_high_here", "_law_way"] ["_law_kind_here", "_law_draw"] (defScope (top 130)) := ⟨rfl, rfl, rfl, by decide +kernel, rfl, by decide +kernel, by decide +kernel⟩
theorem c_lval (T : Tx K mg) : C8.Cal P w K mg base 2 "_law_value" (spVal K) [] := by
  refine cal_of T.f_law_value (fun _ _ _ _ _ _ us hl => match us, hl with | [_, _], _ => rfl) sc_lval (fun vs H Q E h => ?_) (fun f cdv A0 outer s H vs Q E hr h => ?_)
  · obtain ⟨k, d, rfl, _⟩ := h
    rfl
  · obtain ⟨k, d, rfl, hd0, hd1, q⟩ := h
    have nd := sc_lval.nd
    refine ⟨_, pss_cons (ps_set (i := 2) nd rfl (.inl rfl) (C8.pe_c (c_llow T) hr (by decide) rfl (pa_cons (pv 0) pa_nil)))
      (pss_cons (ps_set (i := 3) nd rfl (.inl rfl) (C8.pe_c (c_lhigh T) hr (by decide) rfl (pa_cons (pv 0) pa_nil)))
      (pss_cons (ps_set (i := 4) nd rfl (.inl rfl) (pe_op op_modN (pv 1) pe_int))
      (pss_cons (ps_if (pt_cmpR op_eq (pv 4) pe_int (nomark _)) (pss_one (ps_ret (pv 2))) pss_nil)
      (pss_cons (ps_if (pt_cmpR op_eq (pv 4) pe_int (nomark _)) (pss_one (ps_ret (pv 3))) pss_nil)
      (pss_cons (ps_if (pt_cmpR op_eq (pv 4) pe_int (nomark _)) (pss_one (ps_ret (pe_callB (call_max2 rfl) (by rfl) T.n_max (by decide +kernel) (pa_cons (pv 2) (pa_cons (pe_callB (call_min2 rfl) (by rfl) T.n_min (by decide +kernel) (pa_cons (pv 3) (pa_cons (pe_op op_sub (pe_op op_modN (pe_op op_fdivN (pv 1) pe_int) pe_int) pe_int) pa_nil))) pa_nil))))) pss_nil)
      (pss_one (ps_ret (pe_op op_add (pv 2) (pe_op op_modN (pe_callTy call_int1 (by rfl) T.n_int (by decide +kernel) (pa_cons (pe_op op_add (pe_op op_mul (pe_op op_mul (pv 1) (pv 1)) pe_int) (pe_op op_mul (pv 1) pe_int)) pa_nil))
        (pe_op op_add (pe_op op_sub (pv 3) (pv 2)) pe_int)))))))))), ?_⟩
    have hsp : 0 < k.span ∧ k.span ≤ 4294967296 := by cases k <;> decide
    have hlg : k.greatest = k.least + k.span - 1 := rfl
    have hIn : k.In k.least ∧ k.In k.greatest := ⟨⟨Int.le_refl _, by omega⟩, ⟨by omega, Int.le_refl _⟩⟩
    refine ⟨_, rfl, k, rfl, fun H1 hs1 => ?_⟩
    refine ⟨_, rfl, k, rfl, fun H2 hs2 => ?_⟩
    have hs := hs1.trans hs2
    refine ⟨_, rfl, d, 6, rfl, rfl, (show (6 : Int) ≠ 0 by decide), ?_⟩
    refine ⟨_, rfl, rfl, _, rfl, ?_⟩
    refine ite2K (fun _ => ⟨_, rfl, q _ H2 hs hIn.1⟩) fun _ => ?_
    refine ⟨_, rfl, rfl, _, rfl, ?_⟩
    refine ite2K (fun _ => ⟨_, rfl, q _ H2 hs hIn.2⟩) fun _ => ?_
    refine ⟨_, rfl, rfl, _, rfl, ?_⟩
    refine ite2K (fun _ => ?_) fun _ => ?_
    · refine ⟨_, rfl, _, rfl, _, rfl, d, 6, rfl, rfl, ⟨by decide, by decide⟩, _, 5, rfl, rfl, (show (5 : Int) ≠ 0 by decide), _, 2, rfl, rfl, k.greatest, ((d.fdiv 6).fmod 5 - 2), rfl, k.least, _, rfl, q _ H2 hs ?_⟩
      unfold Kd.In
      constructor <;> (split <;> split <;> omega)
    · refine ⟨_, rfl, _, rfl, _, rfl, d, d, rfl, rfl, .inl ⟨by omega, by omega⟩, d * d, 7919, rfl, rfl, .inr ⟨by decide, by decide⟩, _, rfl, d, 31, rfl, rfl, .inr ⟨by decide, by decide⟩, _, _, rfl, rfl, .inl ⟨_, rfl, _, rfl, _, rfl, k.greatest, k.least, rfl, rfl, k.greatest - k.least, 1, rfl, rfl, _, k.greatest - k.least + 1, rfl, rfl, ?_, k.least, _, rfl, rfl, q _ H2 hs ?_⟩⟩
      · show k.greatest - k.least + 1 ≠ 0
        omega
      · have := fmod_bd (d * d * 7919 + d * 31) (m := k.greatest - k.least + 1) (by omega)
        unfold Kd.In
        omega
theorem sc_lkind : FnScope ["_law_draw"] ["_law_draw"] (defScope (top 131)) := ⟨rfl, rfl, rfl, by decide +kernel, rfl, by decide +kernel, by decide +kernel⟩
theorem c_lkind (T : Tx K mg) : C8.Cal P w K mg base 1 "_law_kind" (spKind K) [] := by
  refine cal_of T.f_law_kind (fun _ _ _ _ _ _ us hl => match us, hl with | [_], _ => rfl) sc_lkind (fun vs H Q E h => ?_) (fun f cdv A0 outer s H vs Q E hr h => ?_)
  · obtain ⟨d, rfl, _⟩ := h
    rfl
  · obtain ⟨d, rfl, q⟩ := h
    refine ⟨_, pss_one (ps_ret (pe_ix ix_list (pe_lst (pa_cons pe_str (pa_cons pe_str (pa_cons pe_str (pa_cons pe_str (pa_cons pe_str (pa_cons pe_str pa_nil))))))) (pe_op op_modN (pv 0) pe_int) (fun _ _ => rfl))), ?_⟩
    have hb := fmod_bd d (m := 6) (by decide)
    have hk : ∃ k : Kd, ([V.str "i1", .str "i2", .str "i4", .str "u1", .str "u2", .str "u4"])[(d.fmod 6).toNat]? = some (.str k.name) := by
      have : (d.fmod 6).toNat = 0 ∨ (d.fmod 6).toNat = 1 ∨ (d.fmod 6).toNat = 2 ∨ (d.fmod 6).toNat = 3 ∨ (d.fmod 6).toNat = 4 ∨ (d.fmod 6).toNat = 5 := by omega
      rcases this with h | h | h | h | h | h <;> rw [h]
      · exact ⟨.i1, rfl⟩
      · exact ⟨.i2, rfl⟩
      · exact ⟨.i4, rfl⟩
      · exact ⟨.u1, rfl⟩
      · exact ⟨.u2, rfl⟩
      · exact ⟨.u4, rfl⟩
    obtain ⟨k, hk⟩ := hk
    refine ⟨(by show 6 ≤ sizeLine; decide), fun l hl => ?_⟩
    refine ⟨_, rfl, d, 6, rfl, rfl, (show (6 : Int) ≠ 0 by decide), l, _, d.fmod 6, .str k.name, rfl, rfl, SqL.of upd_same, ?_, q k _ (same_upd0 hl)⟩
    rw [show d.fmod 6 = ((d.fmod 6).toNat : Int) by omega]
    exact atI_nat hk
theorem sc_lchain : FnScope ["_law_draw", "_law_found", "_law_k"] ["_law_draw"] (defScope (top 132)) := ⟨rfl, rfl, rfl, by decide +kernel, rfl, by decide +kernel, by decide +kernel⟩
theorem c_lchain (T : Tx K mg) : C8.Cal P w K mg base 1 "_law_chain" (spChain K) [] := by
  refine cal_of T.f_law_chain (fun _ _ _ _ _ _ us hl => match us, hl with | [_], _ => rfl) sc_lchain (fun vs H Q E h => ?_) (fun f cdv A0 outer s H vs Q E hr h => ?_)
  · obtain ⟨d, rfl, _⟩ := h
    rfl
  · obtain ⟨d, rfl, hd0, hd1, q⟩ := h
    have nd := sc_lchain.nd
    refine ⟨_, pss_cons (ps_set (i := 1) nd rfl (.inl rfl) (pe_lst pa_nil))
      (pss_cons (ps_for PassesOwn.never rfl (pi_range1 (by rfl) T.n_range (pa_cons (pe_op op_modN (pv 0) pe_int) pa_nil)) (pg_name (i := 2) nd rfl (.inl rfl))
        (pss_one (ps_expr (pe_bm PySem.F.plainAttrs_list PySem.F.slot_list_append PySem.F.type_list_append mt_append (pv 1) (pa_cons
          (pe_ix ix_list (pe_lst (pa_cons pe_str (pa_cons pe_str (pa_cons pe_str (pa_cons pe_str pa_nil))))) (pe_op op_modN (pe_op op_fdivN (pv 0) (pe_op op_mul pe_int (pe_op op_add (pv 2) pe_int))) pe_int) (fun _ _ => rfl)) pa_nil)))))
      (pss_one (ps_ret (pe_callTy call_tuple_of (by rfl) T.n_tuple (by decide +kernel) (pa_cons (pv 1) pa_nil))))), ?_⟩
    have hb := fmod_bd d (m := 4) (by decide)
    refine ⟨(by show 0 ≤ sizeLine; decide), fun l hl => ?_⟩
    refine ⟨_, rfl, d, 4, rfl, rfl, (show (4 : Int) ≠ 0 by decide), d.fmod 4, rfl, by omega, by omega, for_range (n := (d.fmod 4).toNat) (fun j σ H' => Same H H' ∧ ∃ (fs : List Flt) (x : Option V), fs.length = j ∧ H' l = some (.lst (fnames fs)) ∧ σ = [some (.int d), some (.ref l), x])
      ⟨same_upd0 hl, [], none, rfl, upd_same, rfl⟩ ?_ ?_⟩
    · rintro j σ H' hj ⟨hs, fs, x, hf, hl2, rfl⟩
      refine ⟨_, rfl, .inl ⟨rfl, _, SqL.of hl2⟩, (by show 4 ≤ sizeLine; decide), fun m hm => ?_⟩
      have hlm : l ≠ m := fun e => by rw [← e, hl2] at hm; cases hm
      have hs2 := same_upd0 (o := .lst [V.str "delta", .str "planes", .str "runs", .str "zeros"]) hm
      let e := (d.fdiv (4 * ((0 : Int) + (j : Int) + 1))).fmod 4
      have he : 0 ≤ e ∧ e < 4 := fmod_bd _ (by decide)
      have hk : ∃ k : Flt, ([V.str "delta", .str "planes", .str "runs", .str "zeros"])[e.toNat]? = some (.str k.name) := by
        have : e.toNat = 0 ∨ e.toNat = 1 ∨ e.toNat = 2 ∨ e.toNat = 3 := by omega
        rcases this with h | h | h | h <;> rw [h]
        · exact ⟨.delta, rfl⟩
        · exact ⟨.planes, rfl⟩
        · exact ⟨.runs, rfl⟩
        · exact ⟨.zeros, rfl⟩
      obtain ⟨fl, hk⟩ := hk
      refine ⟨_, rfl, _, rfl, _, 1, rfl, rfl, 4, _, rfl, rfl, .inl ⟨by decide, by decide⟩, d, _, rfl, rfl, ⟨by omega, by omega⟩, _, 4, rfl, rfl, (show (4 : Int) ≠ 0 by decide), m, _, e, .str fl.name, rfl, rfl, SqL.of upd_same, ?_, ?_⟩
      · rw [show e = (e.toNat : Int) by omega]
        exact atI_nat hk
      · refine ⟨l, fnames fs, _, rfl, rfl, by rw [upd_ne hlm]; exact hl2, by rw [List.length_map, sizeLine_eq]; omega, same_updD (hs.trans hs2) hl, fs ++ [fl], _, by rw [List.length_append, hf]; rfl, ?_, rfl⟩
        rw [upd_same]
        simp
    · rintro σ H' ⟨hs, fs, x, hf, hl2, rfl⟩
      refine ⟨_, rfl, l, _, rfl, .inl ⟨SqL.of hl2, fun t ht => ?_⟩⟩
      exact q t fs _ (same_updD hs (hs.free ht)) (by omega) (SqT.of upd_same)
end
end Tz
namespace Tz
open PySem PySem.Spec PyProof.Rows L2
abbrev rAddI : R2 := rI0 fun i j => V.int (i + j)
abbrev rModI : R2 := rI (fun _ j => j ≠ 0) fun i j => V.int (i.fmod j)
def DrsR (K : PySem.W.Frag) (H : Hp) (v : V) : Prop := ∃ (a : Addr) (ds : List Int), v = .ref a ∧ SqL K H a (iv ds) ∧ Drs ds ∧ ds.length = 64
theorem DrsR.keep {K : PySem.W.Frag} {H H' : Hp} {v : V} (h : DrsR K H v) (s : Same H H') : DrsR K H' v := by
  obtain ⟨a, ds, h1, h2, h3, h4⟩ := h
  exact ⟨a, ds, h1, same_sqL s h2, h3, h4⟩
theorem drs_at {ds : List Int} (h : Drs ds) (hl : ds.length = 64) {i : Nat} (hi : i < 64) : ∃ d, (iv ds)[i]? = some (.int d) ∧ 0 ≤ d ∧ d < 4096 := by
  have hg : ds[i]? = some ds[i] := List.getElem?_eq_getElem (by omega)
  have := h ds[i] (List.getElem_mem _)
  exact ⟨ds[i], by rw [List.getElem?_map, hg]; rfl, this.1, this.2⟩
def spShp (K : PySem.W.Frag) : Sp := fun vs H Q _ => ∃ v : V, vs = [v, .int 1, .int 6] ∧ DrsR K H v ∧ ∀ (t : Addr) (ns : List Int) H', Same H H' → Sz6 ns → H' t = some (.tup (iv ns)) → Q (.ref t) H'
def spChs (K : PySem.W.Frag) : Sp := fun vs H Q _ => ∃ (v : V) (n : Nat), vs = [v, .int 6, .int n] ∧ n ≤ 3 ∧ DrsR K H v ∧ ∀ (t : Addr) (cs : List Int) H', Same H H' → cs.length = n → (∀ c ∈ cs, 1 ≤ c ∧ c ≤ 4) → H' t = some (.tup (iv cs)) → Q (.ref t) H'
def spWhole (K : PySem.W.Frag) : Sp := fun vs H Q _ => ∃ (v : V) (ns : List Int), vs = [v] ∧ TupI K H v ns ∧ ns.length ≤ 3 ∧ ∀ v' H', Same H H' → SelR K H' v' (.box (whole ns)) → Q v' H'
def spSame (K : PySem.W.Frag) : Sp := fun vs H Q _ => ∃ (a b : Addr) (xs : List Int), vs = [.ref a, .ref b] ∧ H a = some (.lst (iv xs)) ∧ H b = some (.lst (iv xs)) ∧ xs.length ≤ 1000 ∧ Q (.bl true) H
def spStream (K : PySem.W.Frag) : Sp := fun vs H Q _ => ∃ (a : Addr) (xs : List Int), vs = [.ref a, .int 64] ∧ SqL K H a (iv xs) ∧ ∀ (p : Addr) (es : List Int) H', Same H H' → H' p = some (.lst (iv es)) → Drs es → es.length = 64 → Q (.ref p) H'
section
variable {P : Program} {w : World} {K : PySem.W.Frag} {mg : Str → Option Value} {base : Heap}
theorem sc_lshape : FnScope ["_law_draws_here", "_law_at", "_law_most", "_law_k"] ["_law_draws_here", "_law_at", "_law_most"] (defScope (top 133)) := ⟨rfl, rfl, rfl, by decide +kernel, rfl, by decide +kernel, by decide +kernel⟩
theorem c_lshape (T : Tx K mg) : C8.Cal P w K mg base 1 "_law_shape" (spShp K) [] := by
  refine cal_of T.f_law_shape (fun _ _ _ _ _ _ us hl => match us, hl with | [_, _, _], _ => rfl) sc_lshape (fun vs H Q E h => ?_) (fun f cdv A0 outer s H vs Q E hr h => ?_)
  · obtain ⟨v, rfl, _⟩ := h
    rfl
  · obtain ⟨v, rfl, ⟨a, ds, rfl, ha, hD, hl⟩, q⟩ := h
    have nd := sc_lshape.nd
    refine ⟨_, pss_one (ps_ret (pe_callTy call_tuple_of (by rfl) T.n_tuple (by decide +kernel) (pa_cons
      (pe_lc (own := [("_law_k", 3)]) (g := gName 3) (tt := tYes) (te := tOp rModI (tOp (rIxL K) (tVar 0) (tOp rAddI (tOp rAddI (tVar 1) (tC (.int 1))) (tVar 3))) (tOp rAddI (tVar 2) (tC (.int 1)))) rfl nd
        (pi_range1 (by rfl) T.n_range (pa_cons (pe_ix ix_list (pe_lst (pa_cons pe_int (pa_cons pe_int (pa_cons pe_int (pa_cons pe_int (pa_cons pe_int (pa_cons pe_int pa_nil))))))) (pe_op op_modN (pe_ix ix_list (pv 0) (pv 1) (fun _ _ => rfl)) pe_int) (fun _ _ => rfl)) pa_nil))
        (blkOk_by (N := ["_law_draws_here", "_law_at", "_law_most", "_law_k"]) (sc := defScope (top 133)) (by decide +kernel))
        (fun _ _ _ _ _ => pg_name (i := 3) nd rfl (.inl rfl)) (fun _ _ _ _ _ => pts_nil)
        (fun _ _ _ _ _ => pe_op op_modN (pe_ix ix_list (pv 0) (pe_op op_add (pe_op op_add (pv 1) pe_int) (pv 3)) (fun _ _ => rfl)) (pe_op op_add (pv 2) pe_int))) pa_nil))), ?_⟩
    refine tcb1 ?_
    refine ⟨(by show 6 ≤ sizeLine; decide), fun l0 hl0 => ?_⟩
    have hs1 := same_upd0 (o := .lst [V.int 1, .int 2, .int 1, .int 2, .int 0, .int 3]) hl0
    obtain ⟨d1, hd1, _, _⟩ := drs_at hD hl (i := 1) (by decide)
    have hb := fmod_bd d1 (m := 6) (by decide)
    have hn : ∃ n : Nat, n ≤ 3 ∧ ([V.int 1, .int 2, .int 1, .int 2, .int 0, .int 3])[(d1.fmod 6).toNat]? = some (.int n) := by
      have : (d1.fmod 6).toNat = 0 ∨ (d1.fmod 6).toNat = 1 ∨ (d1.fmod 6).toNat = 2 ∨ (d1.fmod 6).toNat = 3 ∨ (d1.fmod 6).toNat = 4 ∨ (d1.fmod 6).toNat = 5 := by omega
      rcases this with h | h | h | h | h | h <;> rw [h]
      · exact ⟨1, by decide, rfl⟩
      · exact ⟨2, by decide, rfl⟩
      · exact ⟨1, by decide, rfl⟩
      · exact ⟨2, by decide, rfl⟩
      · exact ⟨0, by decide, rfl⟩
      · exact ⟨3, by decide, rfl⟩
    obtain ⟨n, hn3, hn⟩ := hn
    have hget : ∀ i : Nat, ∃ d : Int, i < n → (iv ds)[1 + 1 + i]? = some (.int d) ∧ 0 ≤ d ∧ d < 4096 := fun i => by
      by_cases hi : i < n
      · obtain ⟨d, h1, h2, h3⟩ := drs_at hD hl (i := 1 + 1 + i) (by omega)
        exact ⟨d, fun _ => ⟨h1, h2, h3⟩⟩
      · exact ⟨0, fun h => absurd h hi⟩
    refine ⟨_, rfl, _, rfl, a, _, 1, .int d1, rfl, rfl, same_sqL hs1 ha, atI_nat (j := 1) hd1, d1, 6, rfl, rfl, (show (6 : Int) ≠ 0 by decide), l0, _, d1.fmod 6, .int n, rfl, rfl, SqL.of upd_same, by rw [show d1.fmod 6 = ((d1.fmod 6).toNat : Int) by omega]; exact atI_nat hn, (n : Int), rfl, by omega, by omega, ?_⟩
    let F : Nat → Int := fun i => (Classical.choose (hget i)).fmod 7
    let σ0 := start ["_law_draws_here", "_law_at", "_law_most", "_law_k"] [.ref a, .int 1, .int 6]
    have main : ∀ (R : V → Hp → Prop), (∀ D H', Same (upd H l0 (.lst [V.int 1, .int 2, .int 1, .int 2, .int 0, .int 3])) H' → (upd H l0 (.lst [V.int 1, .int 2, .int 1, .int 2, .int 0, .int 3])) D = none → H' D = some (.lst ((List.range n).map fun i => V.int (F i))) → R (.ref D) H') →
        tLc (fun σ H R => R (Itr 0 n) H) (gName 3) tYes (tOp rModI (tOp (rIxL K) (tVar 0) (tOp rAddI (tOp rAddI (tVar 1) (tC (.int 1))) (tVar 3))) (tOp rAddI (tVar 2) (tC (.int 1)))) [3] σ0 (upd H l0 (.lst [V.int 1, .int 2, .int 1, .int 2, .int 0, .int 3])) R := fun R hR => by
      refine tlc_range (K := K) (s1 := 3) (n := n) (lo := 0) (fun i => .int (F i)) (fun R h => h) (by omega) (fun _ => rfl) (fun i H' R hi hs hk => ?_) hR
      have hc := Classical.choose_spec (hget i) hi
      refine ⟨_, rfl, _, rfl, 1, 1, rfl, rfl, _, rfl, _, _, rfl, rfl, a, _, 1 + 1 + ((0 : Int) + (i : Int)), _, rfl, rfl, same_sqL (hs1.trans hs) ha, ?_, _, rfl, 6, 1, rfl, rfl, _, 7, rfl, rfl, (show (7 : Int) ≠ 0 by decide), hk H' (Same.refl _)⟩
      rw [show (1 : Int) + 1 + ((0 : Int) + (i : Int)) = ((1 + 1 + i : Nat) : Int) by push_cast; omega]
      exact atI_nat hc.1
    refine main (fun x H1 => ∃ p ys, [x] = [V.ref p] ∧ ((SqL K H1 p ys ∧ ∀ l, H1 l = none → Q (.ref l) (upd H1 l (.tup ys))) ∨ (SqT K H1 p ys ∧ Q (.ref p) H1))) ?_
    intro D H' hs hD2 hd
    refine ⟨D, _, rfl, .inl ⟨SqL.of hd, fun t ht => ?_⟩⟩
    refine q t ((List.range n).map F) _ (same_updD (hs1.trans hs) ((hs1.trans hs).free ht)) ⟨fun m hm => ?_, by simpa using hn3⟩ (by rw [upd_same]; unfold iv; rw [List.map_map]; rfl)
    obtain ⟨i, hi, rfl⟩ := List.mem_map.mp hm
    have := fmod_bd (Classical.choose (hget i)) (m := 7) (by decide)
    show 0 ≤ (Classical.choose (hget i)).fmod 7 ∧ (Classical.choose (hget i)).fmod 7 ≤ 6
    omega
theorem sc_lchs : FnScope ["_law_draws_here", "_law_at", "_law_dimensions", "_law_k"] ["_law_draws_here", "_law_at", "_law_dimensions"] (defScope (top 140)) := ⟨rfl, rfl, rfl, by decide +kernel, rfl, by decide +kernel, by decide +kernel⟩
theorem c_lchs (T : Tx K mg) : C8.Cal P w K mg base 1 "_law_chunk_shape" (spChs K) [] := by
  refine cal_of T.f_law_chunk_shape (fun _ _ _ _ _ _ us hl => match us, hl with | [_, _, _], _ => rfl) sc_lchs (fun vs H Q E h => ?_) (fun f cdv A0 outer s H vs Q E hr h => ?_)
  · obtain ⟨v, n, rfl, _⟩ := h
    rfl
  · obtain ⟨v, n, rfl, hn3, ⟨a, ds, rfl, ha, hD, hl⟩, q⟩ := h
    have nd := sc_lchs.nd
    refine ⟨_, pss_one (ps_ret (pe_callTy call_tuple_of (by rfl) T.n_tuple (by decide +kernel) (pa_cons
      (pe_lc (own := [("_law_k", 3)]) (g := gName 3) (tt := tYes) (te := tOp rAddI (tC (.int 1)) (tOp rModI (tOp (rIxL K) (tVar 0) (tOp rModI (tOp rAddI (tVar 1) (tVar 3)) (tCB (fun xs H Q => ∃ x n, xs = [x] ∧ LenV K x H n ∧ Q (.int (n : Int)) H) (tCons (tVar 0) tNil)))) (tC (.int 4)))) rfl nd
        (pi_range1 (by rfl) T.n_range (pa_cons (pv 2) pa_nil))
        (blkOk_by (N := ["_law_draws_here", "_law_at", "_law_dimensions", "_law_k"]) (sc := defScope (top 140)) (by decide +kernel))
        (fun _ _ _ _ _ => pg_name (i := 3) nd rfl (.inl rfl)) (fun _ _ _ _ _ => pts_nil)
        (fun _ _ _ _ _ => pe_op op_add pe_int (pe_op op_modN (pe_ix ix_list (pv 0) (pe_op op_modN (pe_op op_add (pv 1) (pv 3)) (pe_callB call_len (by rfl) T.n_len PySem.boot_len (pa_cons (pv 0) pa_nil))) (fun _ _ => rfl)) pe_int))) pa_nil))), ?_⟩
    refine tcb1 ?_
    have hget : ∀ i : Nat, ∃ d : Int, i < n → (iv ds)[6 + i]? = some (.int d) := fun i => by
      by_cases hi : i < n
      · obtain ⟨d, h1, h2, h3⟩ := drs_at hD hl (i := 6 + i) (by omega)
        exact ⟨d, fun _ => h1⟩
      · exact ⟨0, fun h => absurd h hi⟩
    let F : Nat → Int := fun i => 1 + (Classical.choose (hget i)).fmod 4
    refine tlc_range (K := K) (s1 := 3) (n := n) (lo := 0) (fun i => .int (F i)) (fun R h => ⟨_, rfl, (n : Int), rfl, by omega, by omega, h⟩) (by omega) (fun _ => rfl) (fun i H' R hi hs hk => ?_) (fun D H' hs hD2 hd => ?_)
    · have hc := Classical.choose_spec (hget i) hi
      have e64 : ((iv ds).length : Int) = 64 := by rw [List.length_map, hl]; rfl
      refine ⟨_, rfl, _, rfl, _, rfl, 6, (0 : Int) + (i : Int), rfl, rfl, _, rfl, _, _, rfl, .inl ⟨_, same_sqL hs ha, rfl⟩, _, _, rfl, rfl, ?_, a, _, (6 + ((0 : Int) + (i : Int))).fmod ((iv ds).length : Int), _, rfl, rfl, same_sqL hs ha, ?_, _, 4, rfl, rfl, (show (4 : Int) ≠ 0 by decide), 1, _, rfl, rfl, hk H' (Same.refl _)⟩
      · show ((iv ds).length : Int) ≠ 0
        omega
      · rw [e64, Int.fmod_eq_emod_of_nonneg _ (by decide), Int.emod_eq_of_lt (by omega) (by omega), show (6 : Int) + ((0 : Int) + (i : Int)) = ((6 + i : Nat) : Int) by push_cast; omega]
        exact atI_nat hc
    · refine ⟨D, _, rfl, .inl ⟨SqL.of hd, fun t ht => ?_⟩⟩
      refine q t ((List.range n).map F) _ (same_updD hs (hs.free ht)) (by simp) (fun m hm => ?_) (by rw [upd_same]; unfold iv; rw [List.map_map]; rfl)
      obtain ⟨i, hi, rfl⟩ := List.mem_map.mp hm
      have := fmod_bd (Classical.choose (hget i)) (m := 4) (by decide)
      show 1 ≤ 1 + (Classical.choose (hget i)).fmod 4 ∧ 1 + (Classical.choose (hget i)).fmod 4 ≤ 4
      omega
theorem sc_lwhole : FnScope ["_law_shape_here", "_law_size"] ["_law_shape_here"] (defScope (top 137)) := ⟨rfl, rfl, rfl, by decide +kernel, rfl, by decide +kernel, by decide +kernel⟩
/-- ranges from tuples that are made one by one -/
theorem tlc_rg {K : PySem.W.Frag} {a : Addr} {ns : List Int} {s1 : Nat} {σ : L2.St} {H : Hp} {Q : VK} {tl : TE} {te : TE} (htl : ∀ R : VK, R (.ref a) H → tl σ H R) (ha : SqT K H a (iv ns)) (hz : ns.length ≤ 1000)
    (hw : ∀ x, wipe ((wipe σ [s1]).set s1 x) [s1] = wipe σ [s1])
    (turn : ∀ n H' (R : VK), Same H H' → (∀ t H4, Same H' H4 → H4 t = some (.tup [.int 0, .int 1, .int n]) → R (.ref t) H4) → te ((wipe σ [s1]).set s1 (some (.int n))) H' R)
    (k : ∀ D ps H', Same H H' → H D = none → H' D = some (.lst (ps.map (·.1))) → ps.map (·.2) = (whole ns).map rgL → TupsZ K H' ps → Q (.ref D) H') :
    tLc (iTup K tl) (gName s1) tYes te [s1] σ H Q := by
  refine htl _ ⟨a, rfl, ⟨_, ha⟩, fun D hD => ?_⟩
  refine lc_tup (K := K) (xs := iv ns) (fun i H' => Same H H' ∧ ∃ ps : List (V × List Int), H' D = some (.lst (ps.map (·.1))) ∧ ps.map (·.2) = (whole (ns.take i)).map rgL ∧ TupsZ K H' ps) ⟨same_upd0 hD, [], upd_same, rfl, fun q hq => by simp at hq⟩ (fun i H' _ h => Same.sqT h.1 ha) ?_ ?_
  · rintro i y H' hy ⟨hs, ps, hd, hp, hZ⟩
    obtain ⟨n, hn, rfl⟩ := iv_get hy
    refine ⟨hw _, ?_⟩
    show te _ _ _
    refine turn n H' _ hs fun t H4 h4 ht => ?_
    have hd4 := h4 D _ hd
    have hl := congrArg List.length hp
    have hi : i < ns.length := (List.getElem?_eq_some_iff.mp hn).1
    simp only [List.length_map, whole, List.length_take] at hl
    have hDt : t ≠ D := fun e => by rw [e, hd4] at ht; cases ht
    refine ⟨_, hd4, by rw [List.length_map, sizeLine_eq]; omega, same_updD (hs.trans h4) hD, ps ++ [(.ref t, [0, 1, n])], by rw [upd_same, List.map_append]; rfl, ?_, ?_⟩
    · rw [List.map_append, hp, take_snoc hn]
      unfold whole
      rw [List.map_append, List.map_append]
      rfl
    · refine TupsZ.app (sx_upd.tupsZ' (NT.lst hd4) (hZ.keep h4)) fun q hq => ?_
      rw [List.mem_singleton.mp hq]
      exact ⟨t, rfl, SqT.of (by rw [upd_ne hDt]; exact ht)⟩
  · rintro H' ⟨hs, ps, hd, hp, hZ⟩
    rw [List.length_map, List.take_length] at hp
    exact k D ps H' hs hD hd hp hZ
theorem c_lwhole (T : Tx K mg) : C8.Cal P w K mg base 1 "_law_whole" (spWhole K) [] := by
  refine cal_of T.f_law_whole (fun _ _ _ _ _ _ us hl => match us, hl with | [_], _ => rfl) sc_lwhole (fun vs H Q E h => ?_) (fun f cdv A0 outer s H vs Q E hr h => ?_)
  · obtain ⟨v, ns, rfl, _⟩ := h
    rfl
  · obtain ⟨v, ns, rfl, ⟨a, rfl, ha⟩, hn, q⟩ := h
    have nd := sc_lwhole.nd
    refine ⟨_, pss_one (ps_ret (pe_tup (pa_cons pe_str (pa_cons (pe_callTy call_tuple_of (by rfl) T.n_tuple (by decide +kernel) (pa_cons
      (pe_lc (own := [("_law_size", 1)]) (g := gName 1) (tt := tYes) rfl nd (pi_tup (pv 0)) (blkOk_by (N := ["_law_shape_here", "_law_size"]) (sc := defScope (top 137)) (by decide +kernel))
        (fun _ _ _ _ _ => pg_name (i := 1) nd rfl (.inl rfl)) (fun _ _ _ _ _ => pts_nil) (fun _ _ _ _ _ => pe_tup (pa_cons pe_int (pa_cons pe_int (pa_cons (pv 1) pa_nil))))) pa_nil)) pa_nil)))), ?_⟩
    dsimp only [tRet, tTup, tCons, tC]
    refine tcb1 ?_
    refine tlc_rg (K := K) (s1 := 1) (a := a) (ns := ns) (fun R h => ⟨_, rfl, h⟩) ha (by omega) (fun _ => rfl) (fun n H' R hs hk => ?_) (fun D ps H' hs hD hd hp hZ => ?_)
    · refine ⟨_, rfl, (by show 3 ≤ sizeLine; decide), fun t ht => ?_⟩
      exact hk t _ (same_upd0 ht) upd_same
    · refine ⟨D, _, rfl, .inl ⟨SqL.of hd, fun t ht => ?_⟩⟩
      have hs2 := same_upd0 (o := .tup (ps.map (·.1))) ht
      refine ⟨(by show 2 ≤ sizeLine; decide), fun t2 ht2 => ?_⟩
      have hs3 := same_upd0 (o := .tup [.str "box", .ref t]) ht2
      exact q (.ref t2) _ (hs.trans (hs2.trans hs3)) ⟨t2, t, ps, rfl, SqT.of upd_same, SqT.of (hs3 _ _ upd_same), hp, (hZ.keep hs2).keep hs3⟩
theorem sc_lsame : FnScope ["_law_x", "_law_due", "_law_k"] ["_law_x", "_law_due"] (defScope (top 138)) := ⟨rfl, rfl, rfl, by decide +kernel, rfl, by decide +kernel, by decide +kernel⟩
theorem c_lsame (T : Tx K mg) : C8.Cal P w K mg base 3 "_law_same_ints" (spSame K) [] := by
  refine cal_of T.f_law_same_ints (fun _ _ _ _ _ _ us hl => match us, hl with | [_, _], _ => rfl) sc_lsame (fun vs H Q E h => ?_) (fun f cdv A0 outer s H vs Q E hr h => ?_)
  · obtain ⟨a, b, xs, rfl, _⟩ := h
    rfl
  · obtain ⟨a, b, xs, rfl, ha, hb, hz, q⟩ := h
    have nd := sc_lsame.nd
    refine ⟨_, pss_cons (ps_if (PW.pt (pw_or (pt_not (pt_val (pe_callB call_isi (by rfl) T.n_isinstance (by decide +kernel) (pa_cons (pv 0) (pa_cons (pe_bltn (by rfl) T.n_list (v := .ty "list") (by decide +kernel) rfl) pa_nil)))))
        (pw_or1 (pt_cmpR op_ne (pe_callB call_len (by rfl) T.n_len PySem.boot_len (pa_cons (pv 0) pa_nil)) (pe_callB call_len (by rfl) T.n_len PySem.boot_len (pa_cons (pv 1) pa_nil)) (nomark _))))) (pss_one (ps_ret pe_bl)) pss_nil)
      (pss_cons (ps_for PassesOwn.never rfl (pi_range1 (by rfl) T.n_range (pa_cons (pe_callB call_len (by rfl) T.n_len PySem.boot_len (pa_cons (pv 1) pa_nil)) pa_nil)) (pg_name (i := 2) nd rfl (.inl rfl))
        (pss_one (ps_if (pt_not (pt_val (C8.pe_c (c_isnum T) hr (by decide) rfl (pa_cons (pe_ix ix_list (pv 0) (pv 2) (fun _ _ => rfl)) (pa_cons (pe_ix ix_list (pv 1) (pv 2) (fun _ _ => rfl)) pa_nil))))) (pss_one (ps_ret pe_bl)) pss_nil)))
      (pss_one (ps_ret pe_bl))), ?_⟩
    refine ⟨_, rfl, _, _, _, _, true, rfl, .ty "list", .base (.lst ha), kit_ty (by decide +kernel), _, rfl, ?_⟩
    refine iteKF rfl ?_
    refine ⟨_, rfl, _, _, rfl, .inl ⟨_, SqL.of ha, rfl⟩, _, rfl, _, _, rfl, .inl ⟨_, SqL.of hb, rfl⟩, rfl, _, rfl, ?_⟩
    refine iteKF (by simp) ?_
    refine ⟨_, rfl, _, _, rfl, .inl ⟨_, SqL.of hb, rfl⟩, (xs.length : Int), by simp, by omega, by omega, for_range (n := xs.length) (fun j σ H' => H' = H ∧ ∃ x, σ = [some (.ref a), some (.ref b), x]) ⟨rfl, none, rfl⟩ ?_ ?_⟩
    · rintro j σ H' hj ⟨rfl, x, rfl⟩
      have hg : (iv xs)[j]? = some (.int xs[j]) := by rw [List.getElem?_map, List.getElem?_eq_getElem hj]; rfl
      refine ⟨_, rfl, _, rfl, a, _, (0 : Int) + (j : Int), _, rfl, rfl, SqL.of ha, by rw [Int.zero_add]; exact atI_nat hg, _, rfl, _, rfl, b, _, (0 : Int) + (j : Int), _, rfl, rfl, SqL.of hb, by rw [Int.zero_add]; exact atI_nat hg, xs[j], rfl, _, rfl, ?_⟩
      exact iteKF rfl ⟨rfl, _, rfl⟩
    · rintro σ H' ⟨rfl, x, rfl⟩
      exact q
theorem sc_lstream : FnScope ["_law_script", "_law_count", "_law_rows", "_law_k"] ["_law_script", "_law_count"] (defScope (top 139)) := ⟨rfl, rfl, rfl, by decide +kernel, rfl, by decide +kernel, by decide +kernel⟩
theorem c_lstream (T : Tx K mg) : C8.Cal P w K mg base 2 "_law_stream" (spStream K) [] := by
  refine cal_of T.f_law_stream (fun _ _ _ _ _ _ us hl => match us, hl with | [_, _], _ => rfl) sc_lstream (fun vs H Q E h => ?_) (fun f cdv A0 outer s H vs Q E hr h => ?_)
  · obtain ⟨a, xs, rfl, _⟩ := h
    rfl
  · obtain ⟨a, xs, rfl, ha, q⟩ := h
    have nd := sc_lstream.nd
    refine ⟨_, pss_cons (ps_set (i := 2) nd rfl (.inl rfl) (pe_lst pa_nil))
      (pss_cons (ps_for PassesOwn.never rfl (pi_range1 (by rfl) T.n_range (pa_cons (pe_op op_add pe_int (pe_op op_fdivN (pv 1) pe_int)) pa_nil)) (pg_name (i := 3) nd rfl (.inl rfl))
        (pss_one (ps_set (i := 2) nd rfl (.inl rfl) (pe_op op_cat (pv 2) (C8.pe_c (c_draws T) hr (by decide) rfl (pa_cons (pe_op op_add (C8.pe_c (c_cell T) hr (by decide) rfl (pa_cons (pv 0) (pa_cons (pv 3) pa_nil))) (pe_op op_mul pe_int (pv 3))) (pa_cons pe_int pa_nil)))))))
      (pss_one (ps_ret (pe_slice sl_list (pv 2) po_none (po_some (pv 1)))))), ?_⟩
    refine ⟨(by show 0 ≤ sizeLine; decide), fun l hl => ?_⟩
    refine ⟨_, rfl, 64, 16, rfl, rfl, ⟨by decide, by decide⟩, 1, _, rfl, rfl, 5, rfl, by decide, by decide, for_range (n := 5) (fun j σ H' => Same H H' ∧ ∃ (l : Addr) (ds : List Int) (x : Option V), ds.length = 16 * j ∧ Drs ds ∧ H' l = some (.lst (iv ds)) ∧ σ = [some (.ref a), some (.int 64), some (.ref l), x])
      ⟨same_upd0 hl, l, [], none, rfl, fun _ h => (by simp at h), upd_same, rfl⟩ ?_ ?_⟩
    · rintro j σ H' hj ⟨hs, l1, ds, x, hd, hD, hl1, rfl⟩
      refine ⟨_, rfl, _, rfl, _, rfl, a, xs, j, by simp, same_sqL hs ha, fun c => ?_⟩
      refine ⟨_, rfl, 7, _, rfl, rfl, .inl ⟨by decide, by decide⟩, c, _, rfl, rfl, _, rfl, fun es he hE l2 H2 hl2 hs2 hL2 => ?_⟩
      refine ⟨l1, l2, _, _, rfl, rfl, hs2 _ _ hl1, hL2, by rw [List.length_map, List.length_map, hd, he, sizeLine_eq]; omega, fun p hp => ?_⟩
      refine ⟨(hs.trans hs2).trans (same_upd0 hp), p, ds ++ es, _, by rw [List.length_append, hd, he]; omega, hD.app hE, by rw [upd_same]; simp, rfl⟩
    · rintro σ H' ⟨hs, l1, ds, x, hd, hD, hl1, rfl⟩
      refine ⟨_, rfl, _, rfl, 64, rfl, l1, _, rfl, SqL.of hl1, fun p hp => ?_⟩
      have e : cutV (iv ds) none (some 64) = (iv ds).take 64 := cut_to (iv ds) (k := 64) (by rw [List.length_map]; omega)
      rw [e]
      exact q p (ds.take 64) _ (hs.trans (same_upd0 hp)) (by rw [upd_same]; simp) (fun d h => hD d (List.mem_of_mem_take h)) (by rw [List.length_take]; omega)
end
end Tz
namespace Tz
open PySem PySem.Spec PyProof.Rows L2
def spLAll (K : PySem.W.Frag) : Sp := fun vs H Q _ => ∃ (v : V) (ns : List Int), vs = [v] ∧ TupI K H v ns ∧ Sz6 ns ∧ OutTups K H Q (boxIx (whole ns))
def spLPicks (K : PySem.W.Frag) : Sp := fun vs H Q _ => ∃ (v : V) (ns : List Int) (sel : Sel), vs = [v] ∧ SelR K H v sel ∧ SelFits ns sel ∧ Sz6 ns ∧ OutTups K H Q (picks sel)
theorem catA_one {K : PySem.W.Frag} {H : Hp} {tx p1 : Addr} {x : List Int} {n : Int} {R : VK} (hx : SqT K H tx (iv x)) (hp : H p1 = some (.tup [.int n])) (hl : x.length ≤ 1000) (k : ∀ v H', Same H H' → TupI K H' v (x ++ [n]) → R v H') : rCatA K (.ref tx) (.ref p1) H R := by
  refine ⟨tx, p1, iv x, [.int n], rfl, rfl, hx, SqT.of hp, ?_, fun h0 => ?_, fun _ h => (by cases h), fun hne _ p2 hp2 => ?_⟩
  · rw [List.length_map, sizeLine_eq]
    simp only [List.length_singleton]
    omega
  · have e0 : x = [] := by simpa using h0
    subst e0
    exact k (.ref p1) _ (Same.refl _) ⟨p1, rfl, SqT.of hp⟩
  · refine k (.ref p2) _ (same_upd0 hp2) ⟨p2, rfl, SqT.of ?_⟩
    rw [upd_same]; try simp
theorem boxIx_ln : ∀ rs : List Rg, ∀ i ∈ boxIx rs, i.length = rs.length := fun rs => by
  induction rs using snoc_ind with
  | h0 => intro i hi; simp [boxIx] at hi; subst hi; rfl
  | h1 rs r ih =>
    intro i hi
    rw [boxIx_snoc] at hi
    obtain ⟨j, hj, hi⟩ := List.mem_flatMap.mp hi
    obtain ⟨k, hk, rfl⟩ := List.mem_map.mp hi
    simp [ih j hj]
theorem boxIx36 {rs : List Rg} (h : rs.length ≤ 2) (hc : ∀ r ∈ rs, r.ct ≤ 6) : (boxIx rs).length ≤ 36 := by
  have h6 := boxIx_len6 rs hc
  have : 6 ^ rs.length ≤ 36 := by
    have : rs.length = 0 ∨ rs.length = 1 ∨ rs.length = 2 := by omega
    rcases this with h | h | h <;> rw [h] <;> decide
  omega
abbrev stepR (r : Rg) (i : List Int) (k : Nat) : List Int := i ++ [r.st + r.sp * (k : Int)]
abbrev growR (r : Rg) (xs : List (List Int)) : List (List Int) := xs.flatMap fun i => (List.range r.ct.toNat).map (stepR r i)
theorem growR_len (r : Rg) (xs : List (List Int)) : (growR r xs).length = xs.length * r.ct.toNat := by
  show (List.flatMap _ xs).length = _
  rw [List.length_flatMap]
  exact sum_const xs _ fun x _ => by simp
theorem whole_ct {ns : List Int} (h : Sz6 ns) : ∀ r ∈ whole ns, 0 ≤ r.ct ∧ r.ct ≤ 6 := fun r hr => by
  obtain ⟨n, hn, rfl⟩ := List.mem_map.mp hr
  exact h.1 n hn
section
variable {P : Program} {w : World} {K : PySem.W.Frag} {mg : Str → Option Value} {base : Heap}
theorem sc_lall : FnScope ["_law_shape_here", "_law_found", "_law_size", "_law_more", "_law_index", "_law_place"] ["_law_shape_here"] (defScope (top 134)) := ⟨rfl, rfl, rfl, by decide +kernel, rfl, by decide +kernel, by decide +kernel⟩
theorem c_lall (T : Tx K mg) : C8.Cal P w K mg base 1 "_law_all" (spLAll K) [] := by
  refine cal_of T.f_law_all (fun _ _ _ _ _ _ us hl => match us, hl with | [_], _ => rfl) sc_lall (fun vs H Q E h => ?_) (fun f cdv A0 outer s H vs Q E hr h => ?_)
  · obtain ⟨v, ns, rfl, _⟩ := h
    rfl
  · obtain ⟨v, ns, rfl, ⟨a, rfl, ha⟩, h6, q⟩ := h
    have nd := sc_lall.nd
    have hr3 := h6.2
    have hct := whole_ct h6
    refine ⟨_, pss_cons (ps_set (i := 1) nd rfl (.inl rfl) (pe_lst (pa_cons (pe_tup pa_nil) pa_nil)))
      (pss_cons (ps_for PassesOwn.never rfl (pi_tup (pv 0)) (pg_name (i := 2) nd rfl (.inl rfl))
        (pss_cons (ps_set (i := 3) nd rfl (.inl rfl) (pe_lst pa_nil))
        (pss_cons (ps_for PassesOwn.never rfl (pi_list (pv 1)) (pg_name (i := 4) nd rfl (.inl rfl))
          (pss_one (ps_for PassesOwn.never rfl (pi_range1 (by rfl) T.n_range (pa_cons (pv 2) pa_nil)) (pg_name (i := 5) nd rfl (.inl rfl))
            (pss_one (ps_expr (pe_bm PySem.F.plainAttrs_list PySem.F.slot_list_append PySem.F.type_list_append mt_append (pv 3) (pa_cons (pe_op op_catA (pv 4) (pe_tup (pa_cons (pv 5) pa_nil))) pa_nil)))))))
        (pss_one (ps_set (i := 1) nd rfl (.inl rfl) (pv 3))))))
      (pss_one (ps_ret (pv 1)))), ?_⟩
    refine ⟨(by show 0 ≤ sizeLine; decide), fun t0 ht0 => ⟨(by show 1 ≤ sizeLine; decide), fun l0 hl0 => ?_⟩⟩
    have hs1 := same_upd0 (o := .tup []) ht0
    have hs2 := same_upd0 (o := .lst [.ref t0]) hl0
    refine ⟨_, rfl, a, rfl, ⟨_, Same.sqT (hs1.trans hs2) ha⟩, for_tup (K := K) (a := a) (xs := iv ns) (fun i σ H' => Same H H' ∧ ∃ (l : Addr) (pp : List (V × List Int)) (x2 x3 x4 x5 : Option V), H l = none ∧ H' l = some (.lst (pp.map (·.1))) ∧ pp.map (·.2) = boxIx ((whole ns).take i) ∧ TupsZ K H' pp ∧ σ = [some (.ref a), some (.ref l), x2, x3, x4, x5])
      ⟨hs1.trans hs2, l0, [(.ref t0, [])], none, none, none, none, hs1.free hl0, upd_same, rfl, fun y hy => ?_, rfl⟩ (fun i σ H' _ h => Same.sqT h.1 ha) ?_ ?_⟩
    · rw [List.mem_singleton.mp hy]
      exact ⟨t0, rfl, SqT.of (hs2 _ _ upd_same)⟩
    · rintro i x σ H' hx ⟨hs, l, pp, x2, x3, x4, x5, hlH, hl, hG, hZ, rfl⟩
      obtain ⟨n, hn, rfl⟩ := iv_get hx
      let r : Rg := ⟨0, 1, n⟩
      have hr1 : (whole ns)[i]? = some r := by unfold whole; rw [List.getElem?_map, hn]; rfl
      have hc := hct r (List.mem_of_getElem? hr1)
      have hw3 : (whole ns).length ≤ 3 := by unfold whole; rw [List.length_map]; exact hr3
      show tSeq _ _ _ _ _
      refine ⟨(by show 0 ≤ sizeLine; decide), fun m hm => ?_⟩
      have hsm := same_upd0 (o := .lst []) hm
      have hml : m ≠ l := fun e => by rw [e, hl] at hm; cases hm
      have hlen2 : ((whole ns).take i).length ≤ 2 := by
        rw [List.length_take]
        have := (List.getElem?_eq_some_iff.mp hr1).1
        omega
      have hp36 : pp.length ≤ 36 := by
        have e := congrArg List.length hG
        rw [List.length_map] at e
        rw [e]
        exact boxIx36 hlen2 fun r hr => (hct r (List.mem_of_mem_take hr)).2
      have hpl3 : ∀ x ∈ pp, x.2.length ≤ 3 := fun x hx => by
        have : x.2 ∈ pp.map (·.2) := List.mem_map.mpr ⟨x, hx, rfl⟩
        rw [hG] at this
        have := boxIx_ln _ _ this
        omega
      have hmH : H m = none := hs.free hm
      refine ⟨_, rfl, l, rfl, ⟨_, SqL.of (hsm _ _ hl)⟩, for_list (K := K) (a := l) (xs := pp.map Prod.fst) (fun j σ H4 => Same H H4 ∧ H4 l = some (.lst (pp.map (·.1))) ∧ TupsZ K H4 pp ∧ ∃ (acc : List (V × List Int)) (y1 y2 : Option V), H4 m = some (.lst (acc.map (·.1))) ∧ acc.map (·.2) = growR r ((pp.take j).map (·.2)) ∧ TupsZ K H4 acc ∧ σ = [some (.ref a), some (.ref l), some (.int n), some (.ref m), y1, y2])
        ⟨hs.trans hsm, hsm _ _ hl, hZ.keep hsm, [], _, _, upd_same, rfl, fun y hy => (by simp at hy), rfl⟩ (fun j σ H4 _ h => SqL.of h.2.1) ?_ ?_⟩
      · rintro j x σ H4 hx ⟨hs4, hl4, hZ4, acc, y1, y2, hm4, hG4, hA4, rfl⟩
        rw [List.getElem?_map] at hx
        obtain ⟨qx, hqx, rfl⟩ := Option.map_eq_some_iff.mp hx
        have hjl : j < pp.length := (List.getElem?_eq_some_iff.mp hqx).1
        have hqm := List.mem_of_getElem? hqx
        have hbase : (growR r ((pp.take j).map (·.2))).length = j * r.ct.toNat := by
          rw [growR_len, List.length_map, List.length_take, Nat.min_eq_left (by omega)]
        have hb1 : j * r.ct.toNat ≤ 36 * 6 := Nat.mul_le_mul (by omega) (by omega)
        refine ⟨_, rfl, r.ct, rfl, by omega, by omega, for_range (n := r.ct.toNat) (fun k σ H5 => Same H H5 ∧ H5 l = some (.lst (pp.map (·.1))) ∧ TupsZ K H5 pp ∧ ∃ (acc : List (V × List Int)) (y2 : Option V), H5 m = some (.lst (acc.map (·.1))) ∧ acc.map (·.2) = growR r ((pp.take j).map (·.2)) ++ (List.range k).map (stepR r qx.2) ∧ TupsZ K H5 acc ∧ σ = [some (.ref a), some (.ref l), some (.int n), some (.ref m), some qx.1, y2])
          ⟨hs4, hl4, hZ4, acc, _, hm4, by simpa using hG4, hA4, rfl⟩ ?_ ?_⟩
        · rintro k σ H5 hk ⟨hs5, hl5, hZ5, acc, y2, hm5, hG5, hA5, rfl⟩
          obtain ⟨tx, e4, htx⟩ := hZ5 qx hqm
          have hal : acc.length ≤ 1000 := by
            have e := congrArg List.length hG5
            rw [List.length_map, List.length_append, hbase, List.length_map, List.length_range] at e
            omega
          rw [e4]
          refine ⟨_, rfl, .inl ⟨rfl, _, SqL.of hm5⟩, _, rfl, _, rfl, (by show 1 ≤ sizeLine; decide), fun p1 hp1 => ?_⟩
          have hsp := same_upd0 (o := .tup [.int ((0 : Int) + (k : Int))]) hp1
          refine catA_one (n := r.st + r.sp * (k : Int)) (Same.sqT hsp htx) (by rw [upd_same]; show some (HO.tup [V.int (0 + (k : Int))]) = some (HO.tup [V.int (0 + 1 * (k : Int))]); rw [Int.one_mul]) (by have := hpl3 qx hqm; omega) fun v H6 hs6 hv => ?_
          have hs7 := hsp.trans hs6
          refine ⟨m, _, _, rfl, rfl, hs7 _ _ hm5, by rw [List.length_map, sizeLine_eq]; omega, ?_⟩
          have sx := sx_upd (w := m) (H := H6) (o := .lst (acc.map (·.1) ++ [v]))
          refine ⟨same_updD (hs5.trans hs7) hmH, by rw [upd_ne hml.symm]; exact hs7 _ _ hl5, sx.tupsZ (hs7 _ _ hm5) (hZ5.keep hs7), acc ++ [(v, stepR r qx.2 k)], _, by rw [upd_same, List.map_append]; rfl, ?_, ?_, rfl⟩
          · rw [List.map_append, hG5, List.range_succ, List.map_append, List.append_assoc]; rfl
          · refine TupsZ.app (sx.tupsZ (hs7 _ _ hm5) (hA5.keep hs7)) fun q hq => ?_
            rw [List.mem_singleton.mp hq]
            exact sx.tupI (hs7 _ _ hm5) hv
        · rintro σ H5 ⟨hs5, hl5, hZ5, acc, y2, hm5, hG5, hA5, rfl⟩
          refine ⟨hs5, hl5, hZ5, acc, _, _, hm5, ?_, hA5, rfl⟩
          rw [hG5, take_snoc hqx, List.map_append]
          show _ = List.flatMap _ (_ ++ _)
          rw [List.flatMap_append]
          simp [growR]
      · rintro σ H4 ⟨hs4, hl4, hZ4, acc, y1, y2, hm4, hG4, hA4, rfl⟩
        rw [List.length_map, List.take_length] at hG4
        refine ⟨_, rfl, hs4, m, acc, _, _, _, _, hmH, hm4, ?_, hA4, rfl⟩
        rw [hG4, hG, take_snoc hr1, boxIx_snoc]
        rfl
    · rintro σ H' ⟨hs, l, pp, x2, x3, x4, x5, hlH, hl, hG, hZ, rfl⟩
      have e : (iv ns).length = (whole ns).length := by unfold whole; rw [List.length_map, List.length_map]
      rw [e, List.take_length] at hG
      exact ⟨_, rfl, q l pp H' hlH hs hl hG hZ⟩
theorem sc_lpicks : FnScope ["_law_selection_here", "_law_found", "_law_start", "_law_step", "_law_count", "_law_more", "_law_index", "_law_k"] ["_law_selection_here"] (defScope (top 135)) := ⟨rfl, rfl, rfl, by decide +kernel, rfl, by decide +kernel, by decide +kernel⟩
theorem c_lpicks (T : Tx K mg) : C8.Cal P w K mg base 1 "_law_picks" (spLPicks K) [] := by
  refine cal_of T.f_law_picks (fun _ _ _ _ _ _ us hl => match us, hl with | [_], _ => rfl) sc_lpicks (fun vs H Q E h => ?_) (fun f cdv A0 outer s H vs Q E hr h => ?_)
  · obtain ⟨v, ns, sel, rfl, _⟩ := h
    rfl
  · obtain ⟨v, ns, sel, rfl, hsel, hfit, h6, q⟩ := h
    have nd := sc_lpicks.nd
    refine ⟨_, pss_cons (ps_if (pt_cmpR op_eq (pe_ix ix_tup (pv 0) pe_int (fun _ _ => rfl)) pe_str (nomark _)) (pss_one (ps_ret (pe_callTy call_list_of (by rfl) T.n_list (by decide +kernel) (pa_cons (pe_ix ix_tup (pv 0) pe_int (fun _ _ => rfl)) pa_nil)))) pss_nil)
      (pss_cons (ps_set (i := 1) nd rfl (.inl rfl) (pe_lst (pa_cons (pe_tup pa_nil) pa_nil)))
      (pss_cons (ps_for PassesOwn.never rfl (pi_tup (pe_ix ix_tup (pv 0) pe_int (fun _ _ => rfl))) (pg_tup (by rfl) (pgs_cons (pg_name (i := 2) nd rfl (.inl rfl)) (pgs_cons (pg_name (i := 3) nd rfl (.inl rfl)) (pgs_cons (pg_name (i := 4) nd rfl (.inl rfl)) pgs_nil))))
        (pss_cons (ps_set (i := 5) nd rfl (.inl rfl) (pe_lst pa_nil))
        (pss_cons (ps_for PassesOwn.never rfl (pi_list (pv 1)) (pg_name (i := 6) nd rfl (.inl rfl))
          (pss_one (ps_for PassesOwn.never rfl (pi_range1 (by rfl) T.n_range (pa_cons (pv 4) pa_nil)) (pg_name (i := 7) nd rfl (.inl rfl))
            (pss_one (ps_expr (pe_bm PySem.F.plainAttrs_list PySem.F.slot_list_append PySem.F.type_list_append mt_append (pv 5) (pa_cons (pe_op op_catA (pv 6) (pe_tup (pa_cons (pe_op op_add (pv 2) (pe_op op_mul (pv 3) (pv 7))) pa_nil))) pa_nil)))))))
        (pss_one (ps_set (i := 1) nd rfl (.inl rfl) (pv 5))))))
      (pss_one (ps_ret (pv 1))))), ?_⟩
    cases sel with
    | pts ixs =>
      obtain ⟨t, p, ps, rfl, ht, hp, hps, hz⟩ := hsel
      refine ⟨_, rfl, t, _, 0, .str "points", rfl, rfl, ht, atI_nat (j := 0) rfl, rfl, _, rfl, ?_⟩
      refine iteK (by decide) ?_
      refine ⟨_, rfl, t, _, 1, .ref p, rfl, rfl, ht, atI_nat (j := 1) rfl, p, _, rfl, .inr hp, fun l hl => ?_⟩
      have hs2 := same_upd0 (o := .lst (ps.map (·.1))) hl
      exact q l ps _ hl hs2 upd_same hps (hz.keep hs2)
    | box rs =>
    obtain ⟨t, a, ps, rfl, ht, ha, hps, hz⟩ := hsel
    have hct := hfit.cts h6
    have hw3 : rs.length ≤ 3 := by rw [← hfit.1]; exact h6.2
    have hpl : ps.length = rs.length := ps_len hps
    refine ⟨_, rfl, t, _, 0, .str "box", rfl, rfl, ht, atI_nat (j := 0) rfl, rfl, _, rfl, ?_⟩
    refine iteKF (by decide) ?_
    refine ⟨(by show 0 ≤ sizeLine; decide), fun t0 ht0 => ⟨(by show 1 ≤ sizeLine; decide), fun l0 hl0 => ?_⟩⟩
    have hs1 := same_upd0 (o := .tup []) ht0
    have hs2 := same_upd0 (o := .lst [.ref t0]) hl0
    refine ⟨_, rfl, t, _, 1, .ref a, rfl, rfl, Same.sqT (hs1.trans hs2) ht, atI_nat (j := 1) rfl, a, rfl, ⟨_, Same.sqT (hs1.trans hs2) ha⟩, for_tup (K := K) (a := a) (xs := ps.map Prod.fst) (fun i σ H' => Same H H' ∧ ∃ (l : Addr) (pp : List (V × List Int)) (x2 x3 x4 x5 x6 x7 : Option V), H l = none ∧ H' l = some (.lst (pp.map (·.1))) ∧ pp.map (·.2) = boxIx (rs.take i) ∧ TupsZ K H' pp ∧ σ = [some (.ref t), some (.ref l), x2, x3, x4, x5, x6, x7])
      ⟨hs1.trans hs2, l0, [(.ref t0, [])], none, none, none, none, none, none, hs1.free hl0, upd_same, rfl, fun y hy => ?_, rfl⟩ (fun i σ H' _ h => Same.sqT h.1 ha) ?_ ?_⟩
    · rw [List.mem_singleton.mp hy]
      exact ⟨t0, rfl, SqT.of (hs2 _ _ upd_same)⟩
    · rintro i x σ H' hx ⟨hs, l, pp, x2, x3, x4, x5, x6, x7, hlH, hl, hG, hZ, rfl⟩
      rw [List.getElem?_map] at hx
      obtain ⟨qq, hq, rfl⟩ := Option.map_eq_some_iff.mp hx
      obtain ⟨r, hr1, e2⟩ := ps_get hps hq
      obtain ⟨ta, e3, hta⟩ := (hz qq (List.mem_of_getElem? hq)).keep hs
      rw [e2] at hta
      have hc := hct r (List.mem_of_getElem? hr1)
      refine ⟨ta, [.int r.st, .int r.sp, .int r.ct], e3, hta, rfl, _, _, rfl, _, _, rfl, _, _, rfl, rfl, ?_⟩
      refine ⟨(by show 0 ≤ sizeLine; decide), fun m hm => ?_⟩
      have hsm := same_upd0 (o := .lst []) hm
      have hml : m ≠ l := fun e => by rw [e, hl] at hm; cases hm
      have hlen2 : (rs.take i).length ≤ 2 := by
        rw [List.length_take]
        have := (List.getElem?_eq_some_iff.mp hr1).1
        omega
      have hp36 : pp.length ≤ 36 := by
        have e := congrArg List.length hG
        rw [List.length_map] at e
        rw [e]
        exact boxIx36 hlen2 fun r hr => (hct r (List.mem_of_mem_take hr)).2
      have hpl3 : ∀ x ∈ pp, x.2.length ≤ 3 := fun x hx => by
        have : x.2 ∈ pp.map (·.2) := List.mem_map.mpr ⟨x, hx, rfl⟩
        rw [hG] at this
        have := boxIx_ln _ _ this
        omega
      have hmH : H m = none := hs.free hm
      refine ⟨_, rfl, l, rfl, ⟨_, SqL.of (hsm _ _ hl)⟩, for_list (K := K) (a := l) (xs := pp.map Prod.fst) (fun j σ H4 => Same H H4 ∧ H4 l = some (.lst (pp.map (·.1))) ∧ TupsZ K H4 pp ∧ ∃ (acc : List (V × List Int)) (y1 y2 : Option V), H4 m = some (.lst (acc.map (·.1))) ∧ acc.map (·.2) = growR r ((pp.take j).map (·.2)) ∧ TupsZ K H4 acc ∧ σ = [some (.ref t), some (.ref l), some (.int r.st), some (.int r.sp), some (.int r.ct), some (.ref m), y1, y2])
        ⟨hs.trans hsm, hsm _ _ hl, hZ.keep hsm, [], _, _, upd_same, rfl, fun y hy => (by simp at hy), rfl⟩ (fun j σ H4 _ h => SqL.of h.2.1) ?_ ?_⟩
      · rintro j x σ H4 hx ⟨hs4, hl4, hZ4, acc, y1, y2, hm4, hG4, hA4, rfl⟩
        rw [List.getElem?_map] at hx
        obtain ⟨qx, hqx, rfl⟩ := Option.map_eq_some_iff.mp hx
        have hjl : j < pp.length := (List.getElem?_eq_some_iff.mp hqx).1
        have hqm := List.mem_of_getElem? hqx
        have hbase : (growR r ((pp.take j).map (·.2))).length = j * r.ct.toNat := by
          rw [growR_len, List.length_map, List.length_take, Nat.min_eq_left (by omega)]
        have hb1 : j * r.ct.toNat ≤ 36 * 6 := Nat.mul_le_mul (by omega) (by omega)
        refine ⟨_, rfl, r.ct, rfl, by omega, by omega, for_range (n := r.ct.toNat) (fun k σ H5 => Same H H5 ∧ H5 l = some (.lst (pp.map (·.1))) ∧ TupsZ K H5 pp ∧ ∃ (acc : List (V × List Int)) (y2 : Option V), H5 m = some (.lst (acc.map (·.1))) ∧ acc.map (·.2) = growR r ((pp.take j).map (·.2)) ++ (List.range k).map (stepR r qx.2) ∧ TupsZ K H5 acc ∧ σ = [some (.ref t), some (.ref l), some (.int r.st), some (.int r.sp), some (.int r.ct), some (.ref m), some qx.1, y2])
          ⟨hs4, hl4, hZ4, acc, _, hm4, by simpa using hG4, hA4, rfl⟩ ?_ ?_⟩
        · rintro k σ H5 hk ⟨hs5, hl5, hZ5, acc, y2, hm5, hG5, hA5, rfl⟩
          obtain ⟨tx, e4, htx⟩ := hZ5 qx hqm
          have hal : acc.length ≤ 1000 := by
            have e := congrArg List.length hG5
            rw [List.length_map, List.length_append, hbase, List.length_map, List.length_range] at e
            omega
          rw [e4]
          refine ⟨_, rfl, .inl ⟨rfl, _, SqL.of hm5⟩, _, rfl, _, rfl, _, rfl, _, rfl, r.sp, (0 : Int) + (k : Int), rfl, rfl, .inr ⟨by omega, by omega⟩, r.st, _, rfl, rfl, (by show 1 ≤ sizeLine; decide), fun p1 hp1 => ?_⟩
          have hsp := same_upd0 (o := .tup [.int (r.st + r.sp * ((0 : Int) + (k : Int)))]) hp1
          refine catA_one (n := r.st + r.sp * (k : Int)) (Same.sqT hsp htx) (by rw [upd_same, Int.zero_add]) (by have := hpl3 qx hqm; omega) fun v H6 hs6 hv => ?_
          have hs7 := hsp.trans hs6
          refine ⟨m, _, _, rfl, rfl, hs7 _ _ hm5, by rw [List.length_map, sizeLine_eq]; omega, ?_⟩
          have sx := sx_upd (w := m) (H := H6) (o := .lst (acc.map (·.1) ++ [v]))
          refine ⟨same_updD (hs5.trans hs7) hmH, by rw [upd_ne hml.symm]; exact hs7 _ _ hl5, sx.tupsZ (hs7 _ _ hm5) (hZ5.keep hs7), acc ++ [(v, stepR r qx.2 k)], _, by rw [upd_same, List.map_append]; rfl, ?_, ?_, rfl⟩
          · rw [List.map_append, hG5, List.range_succ, List.map_append, List.append_assoc]; rfl
          · refine TupsZ.app (sx.tupsZ (hs7 _ _ hm5) (hA5.keep hs7)) fun q hq => ?_
            rw [List.mem_singleton.mp hq]
            exact sx.tupI (hs7 _ _ hm5) hv
        · rintro σ H5 ⟨hs5, hl5, hZ5, acc, y2, hm5, hG5, hA5, rfl⟩
          refine ⟨hs5, hl5, hZ5, acc, _, _, hm5, ?_, hA5, rfl⟩
          rw [hG5, take_snoc hqx, List.map_append]
          show _ = List.flatMap _ (_ ++ _)
          rw [List.flatMap_append]
          simp [growR]
      · rintro σ H4 ⟨hs4, hl4, hZ4, acc, y1, y2, hm4, hG4, hA4, rfl⟩
        rw [List.length_map, List.take_length] at hG4
        refine ⟨_, rfl, hs4, m, acc, _, _, _, _, _, _, hmH, hm4, ?_, hA4, rfl⟩
        rw [hG4, hG, take_snoc hr1, boxIx_snoc]
        rfl
    · rintro σ H' ⟨hs, l, pp, x2, x3, x4, x5, x6, x7, hlH, hl, hG, hZ, rfl⟩
      rw [List.length_map, hpl, List.take_length] at hG
      exact ⟨_, rfl, q l pp H' hlH hs hl hG hZ⟩
end
end Tz
namespace Tz
open PySem PySem.Spec PyProof.Rows L2
def spLSel (K : PySem.W.Frag) : Sp := fun vs H Q _ => ∃ (v sv : V) (at' : Nat) (ns : List Int), vs = [v, .int at', sv] ∧ at' ≤ 50 ∧ DrsR K H v ∧ TupI K H sv ns ∧ Sz6 ns ∧ ∀ (sel : Sel) (v' : V) (H' : Hp), Same H H' → SelFits ns sel → SelR K H' v' sel → Q v' H'
theorem rg_fit {n d : Int} (hn : 0 ≤ n) (sp st rm ct : Int) (h1 : sp = 1 + d.fmod 3 * (d.fdiv 3).fmod 2) (h2 : st = (d.fdiv 6).fmod (n + 1)) (h3 : rm = (n - st + sp - 1).fdiv sp) (h4 : ct = (d.fdiv 36).fmod (rm + 1)) : 1 ≤ sp ∧ sp ≤ 3 ∧ 0 ≤ rm ∧ (⟨st, sp, ct⟩ : Rg).Fits n := by
  have a1 := fmod_bd d (m := 3) (by decide)
  have a2 := fmod_bd (d.fdiv 3) (m := 2) (by decide)
  have hsp : 1 ≤ sp ∧ sp ≤ 3 := by
    have : (d.fdiv 3).fmod 2 = 0 ∨ (d.fdiv 3).fmod 2 = 1 := by omega
    rcases this with h | h <;> rw [h] at h1 <;> omega
  have hst := fmod_bd (d.fdiv 6) (m := n + 1) (by omega)
  rw [← h2] at hst
  have h3' : rm = (n - st + sp - 1) / sp := by rw [h3, Int.fdiv_eq_ediv_of_nonneg _ (by omega)]
  have hrm : 0 ≤ rm := by rw [h3']; exact Int.ediv_nonneg (by omega) (by omega)
  have hct := fmod_bd (d.fdiv 36) (m := rm + 1) (by omega)
  rw [← h4] at hct
  have hm : sp * rm ≤ n - st + sp - 1 := by rw [h3']; exact Int.mul_ediv_self_le (by omega)
  have hm2 : sp * ct ≤ sp * rm := Int.mul_le_mul_of_nonneg_left (by omega) (by omega)
  refine ⟨hsp.1, hsp.2, hrm, hst.1, hsp.1, hct.1, .inr ?_⟩
  show st + sp * (ct - 1) < n
  rw [Int.mul_sub, Int.mul_one]
  omega
section
variable {P : Program} {w : World} {K : PySem.W.Frag} {mg : Str → Option Value} {base : Heap}
theorem sc_lsel : FnScope ["_law_draws_here", "_law_at", "_law_shape_here", "_law_many", "_law_size", "_law_indexes", "_law_k", "_law_ranges", "_law_draw", "_law_step", "_law_start", "_law_room"] ["_law_draws_here", "_law_at", "_law_shape_here"] (defScope (top 136)) := ⟨rfl, rfl, rfl, by decide +kernel, rfl, by decide +kernel, by decide +kernel⟩
theorem c_lsel (T : Tx K mg) : C8.Cal P w K mg base 2 "_law_selection" (spLSel K) [] := by
  refine cal_of T.f_law_selection (fun _ _ _ _ _ _ us hl => match us, hl with | [_, _, _], _ => rfl) sc_lsel (fun vs H Q E h => ?_) (fun f cdv A0 outer s H vs Q E hr h => ?_)
  · obtain ⟨v, sv, at', ns, rfl, _⟩ := h
    rfl
  · obtain ⟨v, sv, at', ns, rfl, hat, ⟨a, ds, rfl, ha, hD, hl⟩, ⟨sa, rfl, hsa⟩, h6, q⟩ := h
    have nd := sc_lsel.nd
    refine ⟨_, pss_cons (ps_set (i := 3) nd rfl (.inr rfl) pe_int)
      (pss_cons (ps_for PassesOwn.never rfl (pi_tup (pv 2)) (pg_name (i := 4) nd rfl (.inl rfl)) (pss_one (ps_set (i := 3) nd rfl (.inr rfl) (pe_op op_mul (pv 3) (pv 4)))))
      (pss_cons (ps_if (PW.pt (pw_and (pt_cmpR op_eq (pe_op op_modN (pe_ix ix_list (pv 0) (pv 1) (fun _ _ => rfl)) pe_int) pe_int (nomark _)) (pw_and1 (pt_cmpR op_gt (pv 3) pe_int (nomark _)))))
        (pss_cons (ps_set (i := 5) nd rfl (.inr rfl) (C8.pe_c (c_lall T) hr (by decide) rfl (pa_cons (pv 2) pa_nil)))
        (pss_one (ps_ret (pe_tup (pa_cons pe_str (pa_cons (pe_callTy call_tuple_of (by rfl) T.n_tuple (by decide +kernel) (pa_cons
          (pe_lc (own := [("_law_k", 6)]) (g := gName 6) (tt := tYes) (te := tOp (rIxL K) (tVar 5) (tOp rModI (tOp (rIxL K) (tVar 0) (tOp rAddI (tOp rAddI (tVar 1) (tC (.int 1))) (tVar 6))) (tVar 3))) rfl nd
            (pi_range1 (by rfl) T.n_range (pa_cons (pe_op op_modN (pe_op op_fdivN (pe_ix ix_list (pv 0) (pv 1) (fun _ _ => rfl)) pe_int) pe_int) pa_nil))
            (blkOk_by (N := ["_law_draws_here", "_law_at", "_law_shape_here", "_law_many", "_law_size", "_law_indexes", "_law_k", "_law_ranges", "_law_draw", "_law_step", "_law_start", "_law_room"]) (sc := defScope (top 136)) (by decide +kernel))
            (fun _ _ _ _ _ => pg_name (i := 6) nd rfl (.inl rfl)) (fun _ _ _ _ _ => pts_nil)
            (fun _ _ _ _ _ => pe_ix ix_list (pv 5) (pe_op op_modN (pe_ix ix_list (pv 0) (pe_op op_add (pe_op op_add (pv 1) pe_int) (pv 6)) (fun _ _ => rfl)) (pv 3)) (fun _ _ => rfl))) pa_nil)) pa_nil)))))) pss_nil)
      (pss_cons (ps_set (i := 7) nd rfl (.inl rfl) (pe_lst pa_nil))
      (pss_cons (ps_for PassesOwn.never rfl (pi_range1 (by rfl) T.n_range (pa_cons (pe_callB call_len (by rfl) T.n_len PySem.boot_len (pa_cons (pv 2) pa_nil)) pa_nil)) (pg_name (i := 6) nd rfl (.inl rfl))
        (pss_cons (ps_set (i := 8) nd rfl (.inl rfl) (pe_ix ix_list (pv 0) (pe_op op_add (pe_op op_add (pv 1) pe_int) (pv 6)) (fun _ _ => rfl)))
        (pss_cons (ps_set (i := 9) nd rfl (.inl rfl) (pe_op op_add pe_int (pe_op op_mul (pe_op op_modN (pv 8) pe_int) (pe_op op_modN (pe_op op_fdivN (pv 8) pe_int) pe_int))))
        (pss_cons (ps_set (i := 10) nd rfl (.inl rfl) (pe_op op_modN (pe_op op_fdivN (pv 8) pe_int) (pe_op op_add (pe_ix ix_tup (pv 2) (pv 6) (fun _ _ => rfl)) pe_int)))
        (pss_cons (ps_set (i := 11) nd rfl (.inl rfl) (pe_op op_fdivN (pe_op op_sub (pe_op op_add (pe_op op_sub (pe_ix ix_tup (pv 2) (pv 6) (fun _ _ => rfl)) (pv 10)) (pv 9)) pe_int) (pv 9)))
        (pss_one (ps_expr (pe_bm PySem.F.plainAttrs_list PySem.F.slot_list_append PySem.F.type_list_append mt_append (pv 7) (pa_cons (pe_tup (pa_cons (pv 10) (pa_cons (pv 9) (pa_cons (pe_op op_modN (pe_op op_fdivN (pv 8) pe_int) (pe_op op_add (pv 11) pe_int)) pa_nil)))) pa_nil)))))))))
      (pss_cons (ps_if (pt_cmpR op_eq (pe_op op_modN (pe_ix ix_list (pv 0) (pv 1) (fun _ _ => rfl)) pe_int) pe_int (nomark _))
        (pss_one (ps_setLc (i := 7) (own := [("_law_size", 4)]) (g := gName 4) (tt := tYes) rfl nd rfl rfl (sw_true rfl rfl rfl (by decide +kernel)) (pi_tup (pv 2))
            (blkOk_by (N := ["_law_draws_here", "_law_at", "_law_shape_here", "_law_many", "_law_size", "_law_indexes", "_law_k", "_law_ranges", "_law_draw", "_law_step", "_law_start", "_law_room"]) (sc := defScope (top 136)) (by decide +kernel))
            (fun _ _ _ _ _ => pg_name (i := 4) nd rfl (.inl rfl)) (fun _ _ _ _ _ => pts_nil) (fun _ _ _ _ _ => pe_tup (pa_cons pe_int (pa_cons pe_int (pa_cons (pv 4) pa_nil)))))) pss_nil)
      (pss_one (ps_ret (pe_tup (pa_cons pe_str (pa_cons (pe_callTy call_tuple_of (by rfl) T.n_tuple (by decide +kernel) (pa_cons (pv 7) pa_nil)) pa_nil))))))))))
      , ?_⟩
    have hE := ecount6 h6
    have h64 : (iv ds).length = 64 := by rw [List.length_map, hl]
    obtain ⟨da, hda, da0, da1⟩ := drs_at hD hl (i := at') (by omega)
    refine ⟨_, rfl, sa, rfl, ⟨_, hsa⟩, for_tup (K := K) (a := sa) (xs := iv ns) (fun i σ H' => H' = H ∧ ∃ z, σ = [some (.ref a), some (.int at'), some (.ref sa), some (.int ((ns.take i).foldl (fun c n => c * n) 1)), z, none, none, none, none, none, none, none])
      ⟨rfl, none, rfl⟩ (fun i σ H' _ ⟨e, _⟩ => by rw [e]; exact hsa) ?_ ?_⟩
    · rintro i x σ H' hx ⟨rfl, z, rfl⟩
      obtain ⟨n, hn, rfl⟩ := iv_get hx
      have hn6 := h6.1 n (List.mem_of_getElem? hn)
      refine ⟨_, rfl, _, rfl, _, _, rfl, rfl, .inr ⟨by omega, by omega⟩, rfl, some (.int n), ?_⟩
      rw [foldl_snoc hn]
      rfl
    rintro σ H' ⟨e, z, rfl⟩
    obtain rfl : H = H' := e.symm
    rw [List.length_map, List.take_length]
    have hb := fmod_bd da (m := 4) (by decide)
    dsimp only [tSeq, tIfS]
    refine and2 (decide (V.int (da.fmod 4) = .int 1)) (decide (0 < ecount ns)) (fun R h => ⟨_, rfl, _, rfl, a, _, (at' : Int), _, rfl, rfl, ha, atI_nat hda, da, 4, rfl, rfl, (show (4 : Int) ≠ 0 by decide), rfl, _, rfl, h⟩) (fun _ R h => ⟨_, rfl, ecount ns, 0, rfl, rfl, _, rfl, h⟩) ?_
    refine ite2K (fun hif => ?_) fun _ => ?_
    · have hpos : 0 < ecount ns := by
        rw [Bool.and_eq_true] at hif
        exact of_decide_eq_true hif.2
      refine ⟨_, rfl, .ref sa, ns, rfl, ⟨sa, rfl, hsa⟩, h6, fun l ps H1 hlH hs1 hl1 hps hZ => ?_⟩
      rw [box_whole ns h6.nn] at hps
      have hpl : ps.length = (ecount ns).toNat := by
        have e := congrArg List.length hps
        rw [List.length_map, allIx_len] at e
        exact e
      have hm5 := fmod_bd (da.fdiv 4) (m := 5) (by decide)
      let n : Nat := ((da.fdiv 4).fmod 5).toNat
      have hget : ∀ i : Nat, ∃ (d : Int) (qq : V × List Int), i < n → (iv ds)[at' + 1 + i]? = some (.int d) ∧ ps[(d.fmod (ecount ns)).toNat]? = some qq := fun i => by
        by_cases hi : i < n
        · obtain ⟨d, g1, _, _⟩ := drs_at hD hl (i := at' + 1 + i) (by omega)
          have hm := fmod_bd d hpos
          have hlt : (d.fmod (ecount ns)).toNat < ps.length := by omega
          exact ⟨d, ps[(d.fmod (ecount ns)).toNat], fun _ => ⟨g1, List.getElem?_eq_getElem hlt⟩⟩
        · exact ⟨0, (.non, []), fun h => absurd h hi⟩
      let dd : Nat → Int := fun i => Classical.choose (hget i)
      have hget2 : ∀ i, ∃ qq : V × List Int, i < n → (iv ds)[at' + 1 + i]? = some (.int (dd i)) ∧ ps[((dd i).fmod (ecount ns)).toNat]? = some qq := fun i => Classical.choose_spec (hget i)
      let qf : Nat → V × List Int := fun i => Classical.choose (hget2 i)
      have hqf : ∀ i, i < n → (iv ds)[at' + 1 + i]? = some (.int (dd i)) ∧ ps[((dd i).fmod (ecount ns)).toNat]? = some (qf i) := fun i => Classical.choose_spec (hget2 i)
      dsimp only [gName, tSeq, tAsg, tRet, tTup, tCons, tC]
      refine tcb1 ?_
      refine tlc_range (K := K) (s1 := 6) (n := n) (lo := 0) (fun i => (qf i).1) (fun R h => ⟨_, rfl, _, rfl, a, _, (at' : Int), _, rfl, rfl, same_sqL hs1 ha, atI_nat hda, da, 4, rfl, rfl, ⟨by decide, by decide⟩, da.fdiv 4, 5, rfl, rfl, (show (5 : Int) ≠ 0 by decide), (da.fdiv 4).fmod 5, rfl, by omega, by omega, h⟩) (by omega) (fun _ => rfl) (fun i H2 R hi hs2 hk => ?_) (fun D H2 hs2 hD2 hd => ?_)
      · have hc := hqf i hi
        have hbd := fmod_bd (dd i) hpos
        refine ⟨_, rfl, _, rfl, _, rfl, (at' : Int), 1, rfl, rfl, _, rfl, _, _, rfl, rfl, a, _, (at' : Int) + 1 + ((0 : Int) + (i : Int)), _, rfl, rfl, same_sqL (hs1.trans hs2) ha, ?_, _, rfl, dd i, ecount ns, rfl, rfl, (show ecount ns ≠ 0 by omega), l, _, (dd i).fmod (ecount ns), (qf i).1, rfl, rfl, SqL.of (hs2 _ _ hl1), ?_, hk H2 (Same.refl _)⟩
        · rw [show (at' : Int) + 1 + ((0 : Int) + (i : Int)) = ((at' + 1 + i : Nat) : Int) by push_cast; omega]
          exact atI_nat hc.1
        · rw [show (dd i).fmod (ecount ns) = (((dd i).fmod (ecount ns)).toNat : Int) by omega]
          exact atI_nat (by rw [List.getElem?_map, hc.2]; rfl)
      · refine ⟨D, _, rfl, .inl ⟨SqL.of hd, fun t ht => ?_⟩⟩
        have hs3 := same_upd0 (o := .tup ((List.range n).map fun i => (qf i).1)) ht
        refine ⟨(by show 2 ≤ sizeLine; decide), fun t2 ht2 => ?_⟩
        have hs4 := same_upd0 (o := .tup [.str "points", .ref t]) ht2
        refine q (.pts ((List.range n).map fun i => (qf i).2)) (.ref t2) _ (hs1.trans (hs2.trans (hs3.trans hs4))) ⟨fun x hx => ?_, by rw [List.length_map, List.length_range]; omega⟩ ⟨t2, t, (List.range n).map qf, rfl, SqT.of upd_same, SqT.of (by rw [hs4 _ _ upd_same, List.map_map]; rfl), by rw [List.map_map]; rfl, fun y hy => ?_⟩
        · obtain ⟨i, hi, rfl⟩ := List.mem_map.mp hx
          have hc := (hqf i (List.mem_range.mp hi)).2
          have hmem : (qf i).2 ∈ ps.map (·.2) := List.mem_map.mpr ⟨qf i, List.mem_of_getElem? hc, rfl⟩
          rw [hps] at hmem
          exact allIx_mem h6.nn hmem
        · obtain ⟨i, hi, rfl⟩ := List.mem_map.mp hy
          have hc := (hqf i (List.mem_range.mp hi)).2
          exact ((hZ.keep hs2).keep (hs3.trans hs4)) _ (List.mem_of_getElem? hc)
    · refine ⟨(by show 0 ≤ sizeLine; decide), fun l hlH => ?_⟩
      have hs0 := same_upd0 (o := .lst []) hlH
      refine ⟨_, rfl, _, _, rfl, .inr ⟨_, Same.sqT hs0 hsa, rfl⟩, (ns.length : Int), by simp, by omega, by have := h6.2; omega, for_range (n := ns.length) (fun j σ H' => Same H H' ∧ ∃ (ps : List (V × List Int)) (rs : List Rg) (x6 x8 x9 x10 x11 : Option V), H' l = some (.lst (ps.map (·.1))) ∧ ps.map (·.2) = rs.map rgL ∧ rs.length = j ∧ (∀ (k : Nat) (n : Int) (r : Rg), ns[k]? = some n → rs[k]? = some r → r.Fits n) ∧ TupsZ K H' ps ∧ σ = [some (.ref a), some (.int at'), some (.ref sa), some (.int (ecount ns)), z, none, x6, some (.ref l), x8, x9, x10, x11])
        ⟨hs0, [], [], none, none, none, none, none, upd_same, rfl, rfl, fun k n r _ h => (by simp at h), fun y hy => (by simp at hy), rfl⟩ ?_ ?_⟩
      · rintro j σ H' hj ⟨hs, ps, rs, x6, x8, x9, x10, x11, hl1, hps, hrl, hf, hZ, rfl⟩
        obtain ⟨d, hd, d0, d1⟩ := drs_at hD hl (i := at' + 1 + j) (by have := h6.2; omega)
        obtain ⟨n, hnj⟩ := get_of_len (a := ns) rfl hj
        have hn6 := h6.1 n (List.mem_of_getElem? hnj)
        have hnI : atI (iv ns) ((0 : Int) + (j : Int)) = some (.int n) := by
          rw [Int.zero_add]
          exact atI_nat (by rw [List.getElem?_map, hnj]; rfl)
        have hfit := rg_fit hn6.1 _ _ _ _ (d := d) rfl rfl rfl rfl
        obtain ⟨g1, g2, g3, g4⟩ := hfit
        let rg0 : Rg := ⟨(d.fdiv 6).fmod (n + 1), 1 + d.fmod 3 * (d.fdiv 3).fmod 2, (d.fdiv 36).fmod ((n - (d.fdiv 6).fmod (n + 1) + (1 + d.fmod 3 * (d.fdiv 3).fmod 2) - 1).fdiv (1 + d.fmod 3 * (d.fdiv 3).fmod 2) + 1)⟩
        have hct := g4.ct hn6.1
        have m3 := fmod_bd d (m := 3) (by decide)
        refine ⟨_, rfl, _, rfl, (at' : Int), 1, rfl, rfl, _, rfl, _, _, rfl, rfl, a, _, (at' : Int) + 1 + ((0 : Int) + (j : Int)), .int d, rfl, rfl, same_sqL hs ha, ?_, ?_⟩
        · rw [show (at' : Int) + 1 + ((0 : Int) + (j : Int)) = ((at' + 1 + j : Nat) : Int) by push_cast; omega]
          exact atI_nat hd
        refine ⟨_, rfl, d, 3, rfl, rfl, (show (3 : Int) ≠ 0 by decide), _, rfl, d, 3, rfl, rfl, ⟨by decide, by decide⟩, d.fdiv 3, 2, rfl, rfl, (show (2 : Int) ≠ 0 by decide), d.fmod 3, (d.fdiv 3).fmod 2, rfl, rfl, .inl ⟨by omega, by omega⟩, 1, _, rfl, rfl, ?_⟩
        refine ⟨_, rfl, d, 6, rfl, rfl, ⟨by decide, by decide⟩, _, rfl, _, rfl, sa, _, _, _, rfl, rfl, Same.sqT hs hsa, hnI, n, 1, rfl, rfl, d.fdiv 6, n + 1, rfl, rfl, (show n + 1 ≠ 0 by omega), ?_⟩
        refine ⟨_, rfl, _, rfl, sa, _, _, _, rfl, rfl, Same.sqT hs hsa, hnI, _, rfl, n, _, rfl, rfl, _, rfl, _, _, rfl, rfl, _, 1, rfl, rfl, _, rfl, _, _, rfl, rfl, ⟨by omega, by omega⟩, ?_⟩
        refine ⟨_, rfl, .inl ⟨rfl, _, SqL.of hl1⟩, _, rfl, _, rfl, _, rfl, d, 36, rfl, rfl, ⟨by decide, by decide⟩, _, rfl, _, 1, rfl, rfl, _, _, rfl, rfl, ?_, (by show 3 ≤ sizeLine; decide), fun t ht => ?_⟩
        · show (_ : Int) + 1 ≠ 0
          omega
        have hs2 := same_upd0 (o := .tup (iv (rgL rg0))) ht
        have hpl : ps.length = rs.length := ps_len hps
        refine ⟨l, _, _, rfl, rfl, hs2 _ _ hl1, by rw [List.length_map, sizeLine_eq]; have := h6.2; omega, ?_⟩
        have sx := sx_upd (w := l) (H := upd H' t (.tup (iv (rgL rg0)))) (o := .lst (ps.map (·.1) ++ [.ref t]))
        refine ⟨same_updD (hs.trans hs2) hlH, ps ++ [(.ref t, rgL rg0)], rs ++ [rg0], _, _, _, _, _, by rw [upd_same, List.map_append]; rfl, by rw [List.map_append, List.map_append, hps]; rfl, by rw [List.length_append, hrl]; rfl, fun k n' r h1 h2 => ?_, ?_, rfl⟩
        · rcases Nat.lt_trichotomy k rs.length with hk | hk | hk
          · rw [List.getElem?_append_left hk] at h2
            exact hf k n' r h1 h2
          · subst hk
            rw [hrl, hnj] at h1
            cases h1
            simp at h2
            rw [← h2]
            exact g4
          · rw [List.getElem?_eq_none (by simp; omega)] at h2
            cases h2
        · refine TupsZ.app (sx.tupsZ (hs2 _ _ hl1) (hZ.keep hs2)) fun q hq => ?_
          rw [List.mem_singleton.mp hq]
          exact sx.tupI (hs2 _ _ hl1) ⟨t, rfl, SqT.of upd_same⟩
      · rintro σ H' ⟨hs, ps, rs, x6, x8, x9, x10, x11, hl1, hps, hrl, hf, hZ, rfl⟩
        refine ⟨_, rfl, _, rfl, a, _, (at' : Int), _, rfl, rfl, same_sqL hs ha, atI_nat hda, da, 4, rfl, rfl, (show (4 : Int) ≠ 0 by decide), rfl, _, rfl, ?_⟩
        refine ite2K (fun _ => ?_) fun _ => ?_
        · dsimp only [gName, tSeq, tAsg]
          refine tlc_rg (K := K) (s1 := 4) (a := sa) (ns := ns) (fun R h => ⟨_, rfl, h⟩) (Same.sqT hs hsa) (by have := h6.2; omega) (fun _ => rfl) (fun n H2 R hs2 hk => ?_) (fun D ps2 H2 hs2 hD2 hd2 hp2 hZ2 => ?_)
          · refine ⟨_, rfl, (by show 3 ≤ sizeLine; decide), fun t ht => ?_⟩
            exact hk t _ (same_upd0 ht) upd_same
          · refine ⟨_, rfl, D, _, rfl, .inl ⟨SqL.of hd2, fun t ht => ?_⟩⟩
            have hs3 := same_upd0 (o := .tup (ps2.map (·.1))) ht
            refine ⟨(by show 2 ≤ sizeLine; decide), fun t2 ht2 => ?_⟩
            have hs4 := same_upd0 (o := .tup [.str "box", .ref t]) ht2
            exact q (.box (whole ns)) (.ref t2) _ ((hs.trans hs2).trans (hs3.trans hs4)) (whole_fits h6) ⟨t2, t, ps2, rfl, SqT.of upd_same, SqT.of (hs4 _ _ upd_same), hp2, (hZ2.keep hs3).keep hs4⟩
        · refine ⟨_, rfl, l, _, rfl, .inl ⟨SqL.of hl1, fun t ht => ?_⟩⟩
          have hs3 := same_upd0 (o := .tup (ps.map (·.1))) ht
          refine ⟨(by show 2 ≤ sizeLine; decide), fun t2 ht2 => ?_⟩
          have hs4 := same_upd0 (o := .tup [.str "box", .ref t]) ht2
          exact q (.box rs) (.ref t2) _ (hs.trans (hs3.trans hs4)) ⟨hrl.symm, hf⟩ ⟨t2, t, ps, rfl, SqT.of upd_same, SqT.of (hs4 _ _ upd_same), hps, (hZ.keep hs3).keep hs4⟩
end
end Tz
namespace Tz
open PySem PySem.Spec PyProof.Rows L2
def spWorld (K : PySem.W.Frag) : Sp := fun vs H Q _ => ∃ v : V, vs = [v] ∧ DrsR K H v ∧ ∀ (t sh ly : Addr) (y : Lay) (ns : List Int) H', SX ly H H' → H ly = none → H' t = some (.tup [.str y.k.name, .ref sh, .ref ly]) → LayR K H' ly y → y.Ok → SqT K H' sh (iv ns) → Sz6 ns → ns.length = y.cs.length → Q (.ref t) H'
section
variable {P : Program} {w : World} {K : PySem.W.Frag} {mg : Str → Option Value} {base : Heap}
theorem sc_lworld : FnScope ["_law_draws_here", "_law_kind_here", "_law_shape_here", "_law_chunk"] ["_law_draws_here"] (defScope (top 141)) := ⟨rfl, rfl, rfl, by decide +kernel, rfl, by decide +kernel, by decide +kernel⟩
theorem c_lworld (T : Tx K mg) : C8.Cal P w K mg base 4 "_law_world" (spWorld K) [] := by
  refine cal_of T.f_law_world (fun _ _ _ _ _ _ us hl => match us, hl with | [_], _ => rfl) sc_lworld (fun vs H Q E h => ?_) (fun f cdv A0 outer s H vs Q E hr h => ?_)
  · obtain ⟨v, rfl, _⟩ := h
    rfl
  · obtain ⟨v, rfl, hv, q⟩ := h
    obtain ⟨a, ds, rfl, ha, hD, hl⟩ := id hv
    have nd := sc_lworld.nd
    refine ⟨_, pss_cons (ps_set (i := 1) nd rfl (.inl rfl) (C8.pe_c (c_lkind T) hr (by decide) rfl (pa_cons (pe_ix ix_list (pv 0) pe_int (fun _ _ => rfl)) pa_nil)))
      (pss_cons (ps_set (i := 2) nd rfl (.inl rfl) (C8.pe_c (c_lshape T) hr (by decide) rfl (pa_cons (pv 0) (pa_cons pe_int (pa_cons pe_int pa_nil)))))
      (pss_cons (ps_set (i := 3) nd rfl (.inl rfl) (C8.pe_c (c_lchs T) hr (by decide) rfl (pa_cons (pv 0) (pa_cons pe_int (pa_cons (pe_callB call_len (by rfl) T.n_len PySem.boot_len (pa_cons (pv 2) pa_nil)) pa_nil)))))
      (pss_one (ps_ret (pe_tup (pa_cons (pv 1) (pa_cons (pv 2) (pa_cons (C8.pe_mk (m_lyinit T) hr (by decide) rfl (pa_cons (pv 1) (pa_cons (pv 3) (pa_cons (C8.pe_c (c_lval T) hr (by decide) rfl (pa_cons (pv 1) (pa_cons (pe_ix ix_list (pv 0) pe_int (fun _ _ => rfl)) pa_nil))) (pa_cons (C8.pe_c (c_lchain T) hr (by decide) rfl (pa_cons (pe_ix ix_list (pv 0) pe_int (fun _ _ => rfl)) pa_nil)) pa_nil))))) pa_nil)))))))), ?_⟩
    obtain ⟨d0, e0, _, _⟩ := drs_at hD hl (i := 0) (by decide)
    obtain ⟨d9, e9, p9, r9⟩ := drs_at hD hl (i := 9) (by decide)
    obtain ⟨d10, e10, p10, r10⟩ := drs_at hD hl (i := 10) (by decide)
    refine ⟨_, rfl, a, _, 0, _, rfl, rfl, ha, atI_nat (j := 0) e0, d0, rfl, fun k H1 hs1 => ?_⟩
    refine ⟨_, rfl, .ref a, rfl, hv.keep hs1, fun sh ns H2 hs2 h6 hsh => ?_⟩
    have hsA := hs1.trans hs2
    refine ⟨_, rfl, _, rfl, _, _, rfl, .inr ⟨_, SqT.of hsh, rfl⟩, .ref a, ns.length, by simp, h6.2, hv.keep hsA, fun ct cs H3 hs3 hcl hcs hct => ?_⟩
    have hsB := hsA.trans hs3
    refine ⟨_, rfl, _, rfl, _, rfl, _, rfl, _, rfl, _, rfl, a, _, 9, _, rfl, rfl, same_sqL hsB ha, atI_nat (j := 9) e9, k, d9, rfl, p9, by omega, fun fv H4 hs4 hfv => ?_⟩
    have hsC := hsB.trans hs4
    refine ⟨_, rfl, a, _, 10, _, rfl, rfl, same_sqL hsC ha, atI_nat (j := 10) e10, d10, rfl, p10, r10, fun ft fs H5 hs5 hfs hft => ?_⟩
    have hsD := hsC.trans hs5
    intro ly dx hly hdx hne
    let y : Lay := ⟨k, cs, fv, fs⟩
    have hup : Same H5 (upd (upd H5 dx (.own ly)) ly (.ins (He.ga K "Layout") dx [])) := same_upd (same_upd0 hdx) (by rw [upd_ne (Ne.symm hne)]; exact hly)
    have hct5 : H5 ct = some (.tup (iv cs)) := (hs4.trans hs5) _ _ hct
    have hsh5 : H5 sh = some (.tup (iv ns)) := (hs3.trans (hs4.trans hs5)) _ _ hsh
    refine ⟨ly, dx, ct, ft, y, rfl, upd_same, SqT.of (hup _ _ hct5), Same.sqT hup hft, fun H6 sx6 hly6 => ⟨rfl, ?_⟩⟩
    have nt : NT (upd (upd H5 dx (.own ly)) ly (.ins (He.ga K "Layout") dx [])) ly := NT.ins upd_same
    refine ⟨(by show 3 ≤ sizeLine; decide), fun t ht => ?_⟩
    have hs7 := same_upd0 (o := .tup [.str k.name, .ref sh, .ref ly]) ht
    refine q t sh ly y ns _ ((Same.sx (hsD.trans hup)).trans (sx6.thenSame hs7)) (hsD.free hly) upd_same (hly6.keep hs7) ⟨hcs, by show cs.length ≤ 3; have := h6.2; omega, hfs, hfv⟩ (Same.sqT hs7 (sx6.sqT' nt (SqT.of (hup _ _ hsh5)))) h6 hcl.symm
/-- how the law's things stand: the slabs hold A, the plain array B -/
structure LawR (K : PySem.W.Frag) (H : Hp) (L : LA) (S : Sto) (z : Int) (da : Addr) (ds : List Int) (ly : Addr) (y : Lay) (rv : V) (ad ln : Int) (pa dx c : Addr) (ns : List Int) (A : List Int → Int) (es : List Row) (Ψ : Nat) (B : List Int → Int) : Prop where
  hL : LogR K H L S z
  hly : LayR K H ly y
  hrv : TupI K H rv [ad, ln]
  hS : Slab S y ad ln A es Ψ
  hP : PlaR K H pa dx c ns y.fill B
  hd : H da = some (.lst (iv ds))
  n1 : da ≠ L.cl
  n2 : da ≠ L.wl
  n3 : da ≠ c
  n4 : c ≠ L.cl
  n5 : c ≠ L.wl
variable {H H' : Hp} {L : LA} {S : Sto} {z : Int} {da : Addr} {ds : List Int} {ly : Addr} {y : Lay} {rv : V} {ad ln : Int} {pa dx c : Addr} {ns : List Int} {A : List Int → Int} {es : List Row} {Ψ : Nat} {B : List Int → Int}
theorem LawR.keep (h : LawR K H L S z da ds ly y rv ad ln pa dx c ns A es Ψ B) (s : Same H H') : LawR K H' L S z da ds ly y rv ad ln pa dx c ns A es Ψ B :=
  ⟨h.hL.keep s, h.hly.keep s, h.hrv.keep s, h.hS, h.hP.keep s, s _ _ h.hd, h.n1, h.n2, h.n3, h.n4, h.n5⟩
theorem LawR.drs (h : LawR K H L S z da ds ly y rv ad ln pa dx c ns A es Ψ B) (hD : Drs ds) (hl : ds.length = 64) : DrsR K H (.ref da) := ⟨da, ds, rfl, SqL.of h.hd, hD, hl⟩
theorem SX.layR' {w : Addr} (s : SX w H H') (hw : NT H w) (hne : ly ≠ w) (h : LayR K H ly y) : LayR K H' ly y := by
  obtain ⟨dx, c, f, h1, h2, h3⟩ := h
  exact ⟨dx, c, f, s _ _ hne h1, s.sqT' hw h2, s.sqT' hw h3⟩
theorem SX.plaR' {w : Addr} {fill : Int} (s : SX w H H') (hw : NT H w) (n1 : pa ≠ w) (n2 : c ≠ w) (h : PlaR K H pa dx c ns fill B) : PlaR K H' pa dx c ns fill B := by
  obtain ⟨sv, h1, h2, h3⟩ := h
  exact ⟨sv, s _ _ n1 h1, s.tupI' hw h2, s _ _ n2 h3⟩
theorem LawR.pa_lst (h : LawR K H L S z da ds ly y rv ad ln pa dx c ns A es Ψ B) {b : Addr} {l : List V} (hb : H b = some (.lst l)) : pa ≠ b := by
  obtain ⟨sv, h1, _⟩ := h.hP
  exact ne_ins h1 hb
theorem LawR.ly_lst (h : LawR K H L S z da ds ly y rv ad ln pa dx c ns A es Ψ B) {b : Addr} {l : List V} (hb : H b = some (.lst l)) : ly ≠ b := by
  obtain ⟨_, _, _, h1, _⟩ := h.hly
  exact ne_ins h1 hb
theorem LawR.hc (h : LawR K H L S z da ds ly y rv ad ln pa dx c ns A es Ψ B) : ∃ l, H c = some (.lst l) := by
  obtain ⟨sv, _, _, h3⟩ := h.hP
  exact ⟨_, h3⟩
/-- the log and the root have moved on -/
theorem LawR.wr (h : LawR K H L S z da ds ly y rv ad ln pa dx c ns A es Ψ B) (s : SX L.wl H H') {S' : Sto} {rv' : V} {ad' ln' : Int} {A' : List Int → Int} {es' : List Row} {Ψ' : Nat} (hL' : LogR K H' L S' z) (hrv' : TupI K H' rv' [ad', ln']) (hS' : Slab S' y ad' ln' A' es' Ψ') :
    LawR K H' L S' z da ds ly y rv' ad' ln' pa dx c ns A' es' Ψ' B :=
  have nt := NT.lst h.hL.hw
  ⟨hL', s.layR' nt (h.ly_lst h.hL.hw) h.hly, hrv', hS', s.plaR' nt (h.pa_lst h.hL.hw) h.n5 h.hP, s _ _ h.n2 h.hd, h.n1, h.n2, h.n3, h.n4, h.n5⟩
/-- the plain array's cells have changed -/
theorem LawR.pw (h : LawR K H L S z da ds ly y rv ad ln pa dx c ns A es Ψ B) (s : SX c H H') {B' : List Int → Int} (hP' : PlaR K H' pa dx c ns y.fill B') : LawR K H' L S z da ds ly y rv ad ln pa dx c ns A es Ψ B' := by
  obtain ⟨l, hc⟩ := h.hc
  have nt := NT.lst hc
  exact ⟨⟨s _ _ (ne_ins h.hL.hl hc) h.hL.hl, s _ _ (ne_ins h.hL.hd hc) h.hL.hd, s _ _ (Ne.symm h.n4) h.hL.hc, s _ _ (Ne.symm h.n5) h.hL.hw, h.hL.ne, h.hL.hz⟩,
    s.layR' nt (h.ly_lst hc) h.hly, s.tupI' nt h.hrv, h.hS, hP', s _ _ h.n3 h.hd, h.n1, h.n2, h.n3, h.n4, h.n5⟩
theorem lst_ne {b x : Addr} {C d : Addr} {fs : List (Str × V)} {l : List V} (hb : H b = some (.lst l)) (hx : H x = some (.ins C d fs)) : b ≠ x := fun e => by rw [e, hx] at hb; cases hb
/-- the plain array has a new shape -/
theorem LawR.pr (h : LawR K H L S z da ds ly y rv ad ln pa dx c ns A es Ψ B) (s : SX pa H H') {c' : Addr} (hc' : H c' = none) {ns' : List Int} {B' : List Int → Int} (hP' : PlaR K H' pa dx c' ns' y.fill B') : LawR K H' L S z da ds ly y rv ad ln pa dx c' ns' A es Ψ B' := by
  obtain ⟨sv, hpa, _, _⟩ := h.hP
  obtain ⟨ldx, lc, lf, hly1, hly2, hly3⟩ := h.hly
  have nt := NT.ins hpa
  have fr : ∀ {b : Addr} {o : HO}, H b = some o → b ≠ c' := fun hb e => by rw [e, hc'] at hb; cases hb
  have e1 : L.lg ≠ pa := fun e => by
    have := h.hL.hl
    rw [e, hpa] at this
    simp at this
  have e2 : L.dk ≠ pa := fun e => by
    have := h.hL.hd
    rw [e, hpa] at this
    simp at this
  have e3 : ly ≠ pa := fun e => by
    rw [e, hpa] at hly1
    simp at hly1
  exact ⟨⟨s _ _ e1 h.hL.hl, s _ _ e2 h.hL.hd, s _ _ (lst_ne h.hL.hc hpa) h.hL.hc, s _ _ (lst_ne h.hL.hw hpa) h.hL.hw, h.hL.ne, h.hL.hz⟩,
    s.layR' nt e3 h.hly, s.tupI' nt h.hrv, h.hS, hP', s _ _ (lst_ne h.hd hpa) h.hd, h.n1, h.n2, fr h.hd, Ne.symm (fr h.hL.hc), Ne.symm (fr h.hL.hw)⟩
theorem two_sx {a b : Addr} (s : ∀ x o, x ≠ a → x ≠ b → H x = some o → H' x = some o) : ∃ H1, SX a H H1 ∧ H1 b = H b ∧ SX b H1 H' := by
  refine ⟨fun x => if x = b then H x else H' x, fun x o hx he => ?_, by simp, fun x o hx he => ?_⟩
  · show (if x = b then H x else H' x) = some o
    by_cases h : x = b
    · rw [if_pos h]; exact he
    · rw [if_neg h]; exact s x o hx h he
  · have he : (if x = b then H x else H' x) = some o := he
    rw [if_neg hx] at he
    exact he
/-- the log is sealed -/
theorem LawR.seal (h : LawR K H L S z da ds ly y rv ad ln pa dx c ns A es Ψ B) (s : ∀ b o, b ≠ L.lg → b ≠ L.cl → H b = some o → H' b = some o) {wl' : Addr} (hwl : H wl' = none) {x : List Int} (hL' : LogR K H' { L with wl := wl' } ⟨S.fb ++ S.wb ++ x, []⟩ (z + 1)) :
    LawR K H' { L with wl := wl' } ⟨S.fb ++ S.wb ++ x, []⟩ (z + 1) da ds ly y rv ad ln pa dx c ns A es Ψ B := by
  obtain ⟨H1, s1, hb, s2⟩ := two_sx s
  have fr : ∀ {b : Addr} {o : HO}, H b = some o → b ≠ wl' := fun hb e => by rw [e, hwl] at hb; cases hb
  have nt1 := NT.ins h.hL.hl
  have nt2 : NT H1 L.cl := NT.lst (hb.trans h.hL.hc)
  obtain ⟨sv, hpa, hsv, hpc⟩ := id h.hP
  obtain ⟨ldx, lc, lf, hly1, hly2, hly3⟩ := id h.hly
  have e1 : pa ≠ L.lg := fun e => by
    rw [e, h.hL.hl] at hpa
    simp at hpa
  have e3 : ly ≠ L.lg := fun e => by
    rw [e, h.hL.hl] at hly1
    simp at hly1
  have hly' : LayR K H1 ly y := s1.layR' nt1 e3 h.hly
  have hP1 := s1.plaR' nt1 e1 (lst_ne hpc h.hL.hl) h.hP
  exact ⟨hL', s2.layR' nt2 (h.ly_lst h.hL.hc) hly', s2.tupI' nt2 (s1.tupI' nt1 h.hrv), h.hS.ext (by rcases S with ⟨fb, wb⟩; exact Ext.seal fb wb x), s2.plaR' nt2 (h.pa_lst h.hL.hc) h.n4 hP1,
    s2 _ _ h.n1 (s1 _ _ (lst_ne h.hd h.hL.hl) h.hd), h.n1, fr h.hd, h.n3, h.n4, fr hpc⟩
end
end Tz
namespace Tz
open PySem PySem.Spec PyProof.Rows L2
abbrev rMulI : R2 := rI CMul fun i j => V.int (i * j)
theorem same_fresh {x : Addr} {H H1 H2 : Hp} (a : Same H H1) (b : SX x H1 H2) (hx : H x = none) : Same H H2 := fun c o e => b c o (fun h => by rw [h, hx] at e; cases e) (a _ _ e)
theorem ne_fresh {H : Hp} {a b : Addr} {o : HO} (h : H a = some o) (n : H b = none) : a ≠ b := fun e => by rw [e, n] at h; cases h
theorem slab0 {y : Lay} (ho : y.Ok) : Slab ⟨[], []⟩ y 0 0 (fun _ => y.fill) [] 0 :=
  ⟨.inl ⟨rfl, rfl, rfl⟩, fun r h => (by simp at h), fun r h => (by simp at h), fun g _ _ => chv_const fun _ _ => rfl, fun _ => ho.fill⟩
theorem Outs.cut {A : List Int → Int} {new : List Int} {fill : Int} : Outs (cutA new fill A) new fill := fun i _ hi => by
  unfold cutA
  rw [hi]
  rfl
theorem Outs.wr {A : List Int → Int} {ns : List Int} {fill : Int} {sel : Sel} {vals : List Int} (h : Outs A ns fill) (hf : SelFits ns sel) : Outs (writes A ((picks sel).zip vals)) ns fill := fun i hl hi => by
  rw [writes_out _ _ _ fun p hp => ?_]
  · exact h i hl hi
  · intro e
    have := (picks_ok hf p.1 (List.of_mem_zip hp).1).2
    rw [e, hi] at this
    cases this
theorem tlc_move {wi : L2.TI} {g : TG} {tt : TT} {te : TE} {vs : List Nat} {σ : L2.St} {H : Hp} {Q : VK} (J : It) (hw : ∀ R : It → Hp → Prop, (∀ H1, Same H H1 → R J H1) → wi σ H R) (h : ∀ H1, Same H H1 → tLc (fun _ H R => R J H) g tt te vs σ H1 Q) : tLc wi g tt te vs σ H Q := hw _ h
/-- [f(i) for i in range(n)], ints of a kind -/
theorem tlc_rangeV {K : PySem.W.Frag} {n : Nat} {lo : Int} {s1 : Nat} {σ : L2.St} {H : Hp} {Q : VK} {wi : L2.TI} {te : TE} (kd : Int → Prop) (hwi : ∀ R : It → Hp → Prop, R (Itr lo n) H → wi σ H R) (hz : n ≤ 100000)
    (hw : ∀ x, wipe ((wipe σ [s1]).set s1 x) [s1] = wipe σ [s1])
    (turn : ∀ i H' (R : VK), i < n → Same H H' → (∀ v H4, Same H' H4 → kd v → R (.int v) H4) → te ((wipe σ [s1]).set s1 (some (.int (lo + i)))) H' R)
    (k : ∀ D vals H', Same H H' → H D = none → H' D = some (.lst (iv vals)) → vals.length = n → (∀ v ∈ vals, kd v) → Q (.ref D) H') :
    tLc wi (gName s1) tYes te [s1] σ H Q := by
  refine hwi _ fun D hD => ?_
  refine lc_range (lo := lo) (n := n) (fun i H' => Same H H' ∧ ∃ vals : List Int, H' D = some (.lst (iv vals)) ∧ vals.length = i ∧ ∀ v ∈ vals, kd v) ⟨same_upd0 hD, [], upd_same, rfl, fun v hv => by simp at hv⟩ ?_ ?_
  · rintro i H' hi ⟨hs, vals, hd, hl, hk⟩
    refine ⟨hw _, ?_⟩
    show te _ _ _
    refine turn i H' _ hi hs fun v H4 h4 hv => ?_
    refine ⟨_, h4 D _ hd, ?_, same_updD (hs.trans h4) hD, vals ++ [v], ?_, ?_, fun u hu => ?_⟩
    · rw [List.length_map, hl, sizeLine_eq]; omega
    · rw [upd_same]; simp
    · rw [List.length_append, hl]; rfl
    · rcases List.mem_append.mp hu with h | h
      · exact hk u h
      · rw [List.mem_singleton.mp h]; exact hv
  · rintro H' ⟨hs, vals, hd, hl, hk⟩
    exact k D vals H' hs hD hd hl hk
theorem tupI_seal {K : PySem.W.Frag} {H H' : Hp} {L : LA} {S : Sto} {z : Int} {sv : V} {ns : List Int} (hL : LogR K H L S z) (s : ∀ b o, b ≠ L.lg → b ≠ L.cl → H b = some o → H' b = some o) (h : TupI K H sv ns) : TupI K H' sv ns := by
  obtain ⟨H1, s1, hb, s2⟩ := two_sx s
  exact s2.tupI' (NT.lst (hb.trans hL.hc)) (s1.tupI' (NT.ins hL.hl) h)
/-- the state of the law's loop -/
def LawI (K : PySem.W.Frag) (a0 : V) (da : Addr) (ds : List Int) (ly : Addr) (y : Lay) (pa dx : Addr) (x8 : Option V) (bP bz : Nat) (σ : L2.St) (H : Hp) : Prop :=
  ∃ (L : LA) (S : Sto) (z : Int) (rv : V) (ad ln : Int) (c : Addr) (ns : List Int) (A : List Int → Int) (es : List Row) (Ψ : Nat) (sv : V) (x9 x10 x11 : Option V),
    LawR K H L S z da ds ly y rv ad ln pa dx c ns A es Ψ A ∧ TupI K H sv ns ∧ Sz6 ns ∧ ns.length = y.cs.length ∧ Outs A ns y.fill ∧ Ψ ≤ bP ∧ S.fb.length + S.wb.length ≤ bz ∧
    σ = [some a0, some (.ref da), some (.str y.k.name), some sv, some (.ref ly), some (.ref L.lg), some rv, some (.ref pa), x8, x9, x10, x11, none]
def spLaw (K : PySem.W.Frag) : Sp := fun vs H Q _ => ∃ (a : Addr) (xs : List Int), vs = [.ref a] ∧ SqL K H a (iv xs) ∧ ∀ H', Q (.bl true) H'
abbrev lawN : List Str := ["_law_script", "_law_draws_here", "_law_kind_here", "_law_shape_here", "_law_layout", "_law_log", "_law_root", "_law_array", "_law_k", "_law_other", "_law_selection_here", "_law_values", "_law_j"]
section
variable {P : Program} {w : World} {K : PySem.W.Frag} {mg : Str → Option Value} {base : Heap}
theorem sc_law : FnScope ["_law_script", "_law_draws_here", "_law_kind_here", "_law_shape_here", "_law_layout", "_law_log", "_law_root", "_law_array", "_law_k", "_law_other", "_law_selection_here", "_law_values", "_law_j"] ["_law_script"] (defScope (top 142)) := ⟨rfl, rfl, rfl, by decide +kernel, rfl, by decide +kernel, by decide +kernel⟩
/-- THE RULE for a def with its function record given -/
theorem fnok_of {x q : Str} {st : Stmt} {N ps : List Str} {k : Nat} {sp : Sp} {f : Addr} {fd : FuncData} (F : FunD K x q (defArgs st) (defBody st) (defScope st) [] [] f fd) (S : FnScope N ps (defScope st)) (len : ∀ vs H Q E, sp vs H Q E → vs.length = ps.length)
    (body : ∀ (f : Addr) (cdv : Value) (A : Around) (outer : List Env) (s : Shared) (H : Hp) (vs : List V) (Q : VK) (E : XK), Room k (A.deeper (envOfC q (defScope st) s.heap.objs.size f cdv)) → sp vs H Q E →
      ∃ t, PSs (cxOf CX0 P w K mg base N q (defScope st) f cdv A outer s H E).nox (defBody st) t ∧ t { nx := fun _ H' => Q .non H', rt := Q } (start N vs) H) : FnOk P w K mg base CX0 (k + 1) f fd ps sp := by
  refine FunD.ok F S len fun cdv A outer s H vs Q E hr hsp => ?_
  obtain ⟨t, h1, h2⟩ := body _ cdv A outer s H vs Q E hr hsp
  exact ⟨t, PSs.nox h1, h2⟩
theorem law_ok (T : Te P w K mg) {fL : Addr} {fdL : FuncData} (FL : FunD K "law" "law" (defArgs (top 142)) (defBody (top 142)) (defScope (top 142)) [] [] fL fdL) : FnOk P w K mg base CX0 20 fL fdL ["_law_script"] (spLaw K) := by
  refine fnok_of FL sc_law (fun vs H Q E h => ?_) (fun f cdv A0 outer s H vs Q E hr h => ?_)
  · obtain ⟨a, xs, rfl, _⟩ := h
    rfl
  · obtain ⟨a, xs, rfl, ha, q⟩ := h
    have nd := sc_law.nd
    refine ⟨_, pss_cons (ps_set (i := 1) nd rfl (.inr rfl) (C8.pe_c (c_lstream T.toTx) hr (by decide) rfl (pa_cons (pv 0) (pa_cons pe_int pa_nil))))
      (pss_cons (ps_asg (C8.pe_c (c_lworld T.toTx) hr (by decide) rfl (pa_cons (pv 1) pa_nil)) (pg_tup (by rfl) (pgs_cons (pg_name (i := 2) nd rfl (.inr rfl)) (pgs_cons (pg_name (i := 3) nd rfl (.inl rfl)) (pgs_cons (pg_name (i := 4) nd rfl (.inl rfl)) pgs_nil)))))
      (pss_cons (ps_set (i := 5) nd rfl (.inl rfl) (C8.pe_mk (m_linit T.toTx) hr (by decide) rfl (pa_cons (C8.pe_mk (m_dinit T.toTx) hr (by decide) rfl (pa_cons (pe_lst pa_nil) pa_nil)) pa_nil)))
      (pss_cons (ps_set (i := 6) nd rfl (.inl rfl) (pe_tup (pa_cons pe_int (pa_cons pe_int pa_nil))))
      (pss_cons (ps_set (i := 7) nd rfl (.inl rfl) (C8.pe_mk (m_pinit T.toTx) hr (by decide) rfl (pa_cons (pv 3) (pa_cons (pe_fld (pv 4) rfl) pa_nil))))
      (C8.pss_cut (ps_for PassesOwn.never rfl (pi_range1 (by rfl) T.n_range (pa_cons (pe_op op_add pe_int (pe_op op_modN (pe_ix ix_list (pv 1) pe_int (fun _ _ => rfl)) pe_int)) pa_nil)) (pg_name (i := 8) nd rfl (.inr rfl))
        (C8.pss_cut (ps_if (pt_cmpR op_eq (pe_op op_modN (pe_ix ix_list (pv 1) (pe_op op_add pe_int (pv 8)) (fun _ _ => rfl)) pe_int) pe_int (nomark _))
            (pss_cons (ps_set (i := 9) nd rfl (.inl rfl) (pe_callTy call_tuple_of (by rfl) T.n_tuple (by decide +kernel) (pa_cons
              (pe_lc (own := [("_law_j", 12)]) (g := gName 12) (tt := tYes) (te := tOp rModI (tOp (rIxL K) (tVar 1) (tOp rAddI (tOp rAddI (tC (.int 20)) (tOp rMulI (tC (.int 3)) (tVar 8))) (tVar 12))) (tC (.int 7))) rfl nd
                (pi_range1 (by rfl) T.n_range (pa_cons (pe_callB call_len (by rfl) T.n_len PySem.boot_len (pa_cons (pv 3) pa_nil)) pa_nil))
                (blkOk_by (N := lawN) (sc := defScope (top 142)) (by decide +kernel))
                (fun _ _ _ _ _ => pg_name (i := 12) nd rfl (.inl rfl)) (fun _ _ _ _ _ => pts_nil)
                (fun _ _ _ _ _ => pe_op op_modN (pe_ix ix_list (pv 1) (pe_op op_add (pe_op op_add pe_int (pe_op op_mul pe_int (pv 8))) (pv 12)) (fun _ _ => rfl)) pe_int)) pa_nil)))
            (pss_cons (ps_set (i := 6) nd rfl (.inl rfl) (C8.pe_c (c_rsz T) hr (by decide) rfl (pa_cons (pv 5) (pa_cons (pv 4) (pa_cons (pv 6) (pa_cons (pv 3) (pa_cons (pv 9) pa_nil)))))))
            (pss_cons (ps_expr (C8.pe_mt (m_prs T.toTx) hr (by decide) (pv 7) (pa_cons (pv 9) pa_nil)))
            (pss_one (ps_set (i := 3) nd rfl (.inl rfl) (pv 9))))))
            (pss_cons (ps_set (i := 10) nd rfl (.inl rfl) (C8.pe_c (c_lsel T.toTx) hr (by decide) rfl (pa_cons (pv 1) (pa_cons (pe_op op_add pe_int (pe_op op_mul pe_int (pv 8))) (pa_cons (pv 3) pa_nil)))))
            (pss_cons (ps_setLc (i := 11) (own := [("_law_j", 12)]) (g := gName 12) (tt := tYes) (te := tCall (spVal K) [] C8.E0 (tCons (tVar 2) (tCons (tOp rAddI (tOp (rIxL K) (tVar 1) (tOp rModI (tOp rAddI (tVar 8) (tVar 12)) (tC (.int 64)))) (tOp rMulI (tC (.int 3)) (tVar 12))) tNil))) rfl nd rfl rfl (sw_true rfl rfl rfl (by decide +kernel))
                (pi_range1 (by rfl) T.n_range (pa_cons (pe_callB call_len (by rfl) T.n_len PySem.boot_len (pa_cons (C8.pe_c (c_lpicks T.toTx) hr (by decide) rfl (pa_cons (pv 10) pa_nil)) pa_nil)) pa_nil))
                (blkOk_by (N := lawN) (sc := defScope (top 142)) (by decide +kernel))
                (fun _ _ _ _ _ => pg_name (i := 12) nd rfl (.inl rfl)) (fun _ _ _ _ _ => pts_nil)
                (fun _ _ _ _ _ => C8.pe_c (c_lval T.toTx) hr (by decide) rfl (pa_cons (pv 2) (pa_cons (pe_op op_add (pe_ix ix_list (pv 1) (pe_op op_modN (pe_op op_add (pv 8) (pv 12)) pe_int) (fun _ _ => rfl)) (pe_op op_mul pe_int (pv 12))) pa_nil))))
            (pss_cons (ps_set (i := 6) nd rfl (.inl rfl) (C8.pe_c (c_wslab T.toTy) hr (by decide) rfl (pa_cons (pv 5) (pa_cons (pv 4) (pa_cons (pv 6) (pa_cons (pv 3) (pa_cons (pv 10) (pa_cons (pe_callTy call_list_of (by rfl) T.n_list (by decide +kernel) (pa_cons (pv 11) pa_nil)) pa_nil))))))))
            (pss_one (ps_expr (C8.pe_mt (m_pwr T.toTx) hr (by decide) (pv 7) (pa_cons (pv 10) (pa_cons (pv 11) pa_nil)))))))))
        (C8.pss_cut (ps_if (pt_cmpR op_eq (pe_op op_modN (pe_ix ix_list (pv 1) (pe_op op_add pe_int (pv 8)) (fun _ _ => rfl)) pe_int) pe_int (nomark _))
            (pss_one (ps_expr (C8.pe_mt (m_seal T.toTx) hr (by decide) (pv 5) (pa_cons (pv 6) pa_nil)))) pss_nil)
        (pss_one (ps_if (pt_not (pt_val (C8.pe_c (c_lsame T.toTx) hr (by decide) rfl (pa_cons (C8.pe_c (c_rslab T.toTy) hr (by decide) rfl (pa_cons (pv 5) (pa_cons (pv 4) (pa_cons (pv 6) (pa_cons (pv 3) (pa_cons (C8.pe_c (c_lwhole T.toTx) hr (by decide) rfl (pa_cons (pv 3) pa_nil)) pa_nil)))))) (pa_cons (C8.pe_mt0 (m_pall T.toTx) hr (by decide) (pv 7)) pa_nil))))) (pss_one (ps_ret pe_bl)) pss_nil)))))
      (pss_cons (ps_set (i := 10) nd rfl (.inl rfl) (C8.pe_c (c_lsel T.toTx) hr (by decide) rfl (pa_cons (pv 1) (pa_cons pe_int (pa_cons (pv 3) pa_nil)))))
      (pss_one (ps_ret (C8.pe_c (c_lsame T.toTx) hr (by decide) rfl (pa_cons (C8.pe_c (c_rslab T.toTy) hr (by decide) rfl (pa_cons (pv 5) (pa_cons (pv 4) (pa_cons (pv 6) (pa_cons (pv 3) (pa_cons (pv 10) pa_nil)))))) (pa_cons (C8.pe_mt (m_pread T.toTx) hr (by decide) (pv 7) (pa_cons (pv 10) pa_nil)) pa_nil)))))))))))
      , ?_⟩
    refine ⟨_, rfl, a, xs, rfl, ha, fun da ds H1 hs1 hda hD hl => ?_⟩
    have hget : ∀ i : Nat, i < 64 → ∃ d, (iv ds)[i]? = some (.int d) ∧ 0 ≤ d ∧ d < 4096 := fun i hi => drs_at hD hl hi
    refine ⟨_, rfl, .ref da, rfl, ⟨da, ds, rfl, SqL.of hda, hD, hl⟩, fun t sh ly y ns H2 sx2 hlyn ht hly ho hsh h6 hdim => ?_⟩
    have hs2 : Same H1 H2 := same_fresh (Same.refl _) sx2 hlyn
    have hda2 := hs2 _ _ hda
    refine ⟨t, _, rfl, SqT.of ht, rfl, _, _, rfl, _, _, rfl, _, _, rfl, rfl, ?_⟩
    refine ⟨(by show 0 ≤ sizeLine; decide), fun l0 hl0 => ?_⟩
    have hs3 := same_upd0 (o := .lst []) hl0
    intro dk d2 hdk hd2 hne
    have hs4 : Same (upd H2 l0 (.lst [])) (upd (upd (upd H2 l0 (.lst [])) d2 (.own dk)) dk (.ins (He.ga K "Disk") d2 [])) := same_upd (same_upd0 hd2) (by rw [upd_ne (Ne.symm hne)]; exact hdk)
    refine ⟨dk, d2, l0, [], rfl, upd_same, SqL.of (hs4 _ _ upd_same), fun cl H5 sx5 hcln hdk5 hcl5 => ⟨rfl, ?_⟩⟩
    have hs5 : Same H2 H5 := hs3.trans (same_fresh hs4 sx5 hdk)
    have hclH : H2 cl = none := (hs3.trans hs4).free hcln
    intro lg d1 hlg hd1 hne1
    have hs6 : Same H5 (upd (upd H5 d1 (.own lg)) lg (.ins (He.ga K "Log") d1 [])) := same_upd (same_upd0 hd1) (by rw [upd_ne (Ne.symm hne1)]; exact hlg)
    refine ⟨lg, d1, dk, d2, cl, rfl, upd_same, hs6 _ _ hdk5, Ne.symm (ne_fresh hdk5 hlg), hs6 _ _ hcl5, fun wl H7 sx7 hwln hL7 => ⟨rfl, ?_⟩⟩
    have hs7 : Same H5 H7 := same_fresh hs6 sx7 hlg
    have hs27 : Same H2 H7 := hs5.trans hs7
    have hda7 := hs27 _ _ hda2
    have n1 : da ≠ cl := ne_fresh hda2 hclH
    have n2 : da ≠ wl := ne_fresh (hs6 _ _ (hs5 _ _ hda2)) hwln
    refine ⟨(by show 2 ≤ sizeLine; decide), fun r0 hr0 => ?_⟩
    have hs8 := same_upd0 (o := .tup [.int 0, .int 0]) hr0
    have hly8 := (hly.keep hs27).keep hs8
    obtain ⟨ldx, lca, lfa, hly0, _, _⟩ := id hly8
    refine ⟨_, rfl, _, rfl, ly, _, ldx, _, _, rfl, hly0, T.c_Layout, T.a_Layout_fill, rfl, ?_⟩
    intro pa dx hpa hdx hne2
    have hs9 : Same (upd H7 r0 (.tup [.int 0, .int 0])) (upd (upd (upd H7 r0 (.tup [.int 0, .int 0])) dx (.own pa)) pa (.ins (He.ga K "PlainArray") dx [])) := same_upd (same_upd0 hdx) (by rw [upd_ne (Ne.symm hne2)]; exact hpa)
    have hshT : TupI K H7 (.ref sh) ns := ⟨sh, rfl, Same.sqT hs27 hsh⟩
    refine ⟨pa, dx, .ref sh, ns, y.fill, rfl, upd_same, (hshT.keep hs8).keep hs9, h6, fun c H10 sx10 hcn hP => ⟨rfl, ?_⟩⟩
    have hs10 : Same (upd H7 r0 (.tup [.int 0, .int 0])) H10 := same_fresh hs9 sx10 hpa
    have hsX := hs8.trans hs10
    have hL10 : LogR K H10 ⟨lg, dk, cl, wl, d1, d2⟩ ⟨[], []⟩ (-1) := hL7.keep hsX
    have hLa := (hL7.keep hs8).keep hs9
    have hlaw : LawR K H10 ⟨lg, dk, cl, wl, d1, d2⟩ ⟨[], []⟩ (-1) da ds ly y (.ref r0) 0 0 pa dx c ns (fun _ => y.fill) [] 0 (fun _ => y.fill) :=
      ⟨hL10, hly8.keep hs10, ⟨r0, rfl, SqT.of (hs10 _ _ upd_same)⟩, slab0 ho, hP, hsX _ _ hda7, n1, n2, ne_fresh (hs9 _ _ (hs8 _ _ hda7)) hcn, Ne.symm (ne_fresh hLa.hc hcn), Ne.symm (ne_fresh hLa.hw hcn)⟩
    obtain ⟨d11, e11, p11, r11⟩ := hget 11 (by decide)
    have hb11 := fmod_bd d11 (m := 8) (by decide)
    refine ⟨fun σ H' => ∃ x8, LawI K (.ref a) da ds ly y pa dx x8 1728 10368448 σ H', ?_, ?_⟩
    · refine ⟨_, rfl, da, _, 11, _, rfl, rfl, SqL.of (hsX _ _ hda7), atI_nat (j := 11) e11, d11, 8, rfl, rfl, (show (8 : Int) ≠ 0 by decide), 1, _, rfl, rfl, 1 + d11.fmod 8, rfl, by omega, by omega, for_range (n := (1 + d11.fmod 8).toNat) (fun j σ H' => ∃ x8, LawI K (.ref a) da ds ly y pa dx x8 (216 * j) (1296056 * j) σ H')
        ⟨none, _, _, _, _, _, _, _, _, _, _, _, .ref sh, none, none, none, hlaw, (hshT.keep hs8).keep hs10, h6, hdim, fun _ _ _ => rfl, Nat.le_refl _, Nat.le_refl _, rfl⟩ ?_ ?_⟩
      · rintro j σ H' hj ⟨x8, L, S, z, rv, ad, ln, c, ns, A, es, Ψ, sv, x9, x10, x11, hW, hsv, h6, hdim, hout, hΨ, hz, rfl⟩
        have hj7 : j ≤ 7 := by omega
        obtain ⟨d1, e1, p1, r1⟩ := hget (12 + j) (by omega)
        have hslots : ∀ {Ha : Hp} {La : LA} {Sa : Sto} {za : Int} {rva : V} {ada lna : Int} {ca : Addr} {nsa : List Int} {Aa Ba : List Int → Int} {esa : List Row} {Ψa : Nat}, LawR K Ha La Sa za da ds ly y rva ada lna pa dx ca nsa Aa esa Ψa Ba → DrsR K Ha (.ref da) := fun h => h.drs hD hl
        refine ⟨LawI K (.ref a) da ds ly y pa dx (some (.int ((0 : Int) + (j : Int)))) (216 * (j + 1)) (1296056 * j + 1296000), ?_, ?_⟩
        · refine ⟨_, rfl, _, rfl, 12, _, rfl, rfl, da, _, 12 + ((0 : Int) + (j : Int)), .int d1, rfl, rfl, SqL.of hW.hd, ?_, d1, 3, rfl, rfl, (show (3 : Int) ≠ 0 by decide), rfl, _, rfl, ?_⟩
          · rw [show 12 + ((0 : Int) + (j : Int)) = ((12 + j : Nat) : Int) by push_cast; omega]
            exact atI_nat e1
          refine ite2K (fun _ => ?_) fun _ => ?_
          · have hgd : ∀ i : Nat, ∃ d : Int, i < ns.length → (iv ds)[20 + 3 * j + i]? = some (.int d) := fun i => by
              by_cases hi : i < ns.length
              · obtain ⟨d, h1, _, _⟩ := hget (20 + 3 * j + i) (by have := h6.2; omega)
                exact ⟨d, fun _ => h1⟩
              · exact ⟨0, fun h => absurd h hi⟩
            let F : Nat → Int := fun i => (Classical.choose (hgd i)).fmod 7
            let new : List Int := (List.range ns.length).map F
            have hnl : new.length = ns.length := by simp [new]
            have h6n : Sz6 new := ⟨fun m hm => by
              obtain ⟨i, _, rfl⟩ := List.mem_map.mp hm
              have := fmod_bd (Classical.choose (hgd i)) (m := 7) (by decide)
              show 0 ≤ (Classical.choose (hgd i)).fmod 7 ∧ (Classical.choose (hgd i)).fmod 7 ≤ 6
              omega, by rw [hnl]; exact h6.2⟩
            obtain ⟨sa, rfl, hsa⟩ := id hsv
            dsimp only [gName, tSeq, tAsg]
            refine tcb1 ?_
            refine tlc_range (K := K) (s1 := 12) (n := ns.length) (lo := 0) (fun i => .int (F i)) (fun R h => ⟨_, rfl, _, _, rfl, .inr ⟨_, hsa, rfl⟩, (ns.length : Int), by simp, by omega, by have := h6.2; omega, h⟩) (by have := h6.2; omega) (fun _ => rfl) (fun i H3 R hi hs hk => ?_) (fun D H3 hs hD2 hd => ?_)
            · refine ⟨_, rfl, _, rfl, 3, _, rfl, rfl, .inl ⟨by decide, by decide⟩, 20, _, rfl, rfl, _, rfl, _, _, rfl, rfl, da, _, 20 + 3 * ((0 : Int) + (j : Int)) + ((0 : Int) + (i : Int)), _, rfl, rfl, SqL.of (hs _ _ hW.hd), ?_, _, 7, rfl, rfl, (show (7 : Int) ≠ 0 by decide), hk H3 (Same.refl _)⟩
              rw [show 20 + 3 * ((0 : Int) + (j : Int)) + ((0 : Int) + (i : Int)) = ((20 + 3 * j + i : Nat) : Int) by push_cast; omega]
              exact atI_nat (Classical.choose_spec (hgd i) hi)
            · refine ⟨D, _, rfl, .inl ⟨SqL.of hd, fun t ht => ?_⟩⟩
              have hs2 := hs.trans (same_upd0 (o := .tup ((List.range ns.length).map fun i => .int (F i))) ht)
              have htn : TupI K (upd H3 t (.tup ((List.range ns.length).map fun i => .int (F i)))) (.ref t) new := ⟨t, rfl, SqT.of (by rw [upd_same]; unfold iv; rw [List.map_map]; rfl)⟩
              have hW2 := hW.keep hs2
              refine ⟨_, rfl, _, rfl, _, rfl, _, rfl, _, rfl, L, S, z, ly, y, rv, .ref sa, .ref t, ad, ln, A, es, Ψ, ns, new, rfl, hW2.hL, hW2.hly, ho, hW2.hrv, hW2.hS, by omega, hsv.keep hs2, hdim, htn, by rw [hnl, hdim], hout, by omega, fun v ad' ln' es' Ψ' H4 wb' sx4 hL4 hrv4 hS4 hΨ4 hx4 hw4 => ?_⟩
              have hW4 := hW2.wr sx4 hL4 hrv4 hS4
              have htn4 := sx4.tupI hW2.hL.hw htn
              obtain ⟨svp, hpa4, hsvp4, hpc4⟩ := id hW4.hP
              refine ⟨_, rfl, pa, dx, _, rfl, hpa4, rfl, _, rfl, pa, dx, c, ns, new, y.fill, A, .ref t, rfl, hW4.hP, h6, htn4, h6n, hnl, hout, fun c' H5 sx5 hc5 hP5 => ?_⟩
              have hW5 := hW4.pr sx5 hc5 hP5
              refine ⟨_, rfl, ?_⟩
              exact ⟨L, ⟨S.fb, wb'⟩, z, v, ad', ln', c', new, cutA new y.fill A, es', Ψ', .ref t, _, _, _, hW5, sx5.tupI' (NT.ins hpa4) htn4, h6n, by omega, Outs.cut, by omega, by show S.fb.length + wb'.length ≤ _; omega, rfl⟩
          · refine ⟨_, rfl, _, rfl, 4, _, rfl, rfl, .inl ⟨by decide, by decide⟩, 20, _, rfl, rfl, _, rfl, .ref da, sv, 20 + 4 * j, ns, by show [V.ref da, V.int (20 + 4 * ((0 : Int) + (j : Int))), sv] = _; rw [show 20 + 4 * ((0 : Int) + (j : Int)) = ((20 + 4 * j : Nat) : Int) by push_cast; omega], by omega, hslots hW, hsv, h6, fun sel pv' H3 hs3 hfit hsel => ?_⟩
            have hW3 := hW.keep hs3
            have hpl := picks_len hfit h6
            dsimp only [gName, tSeq, tAsg]
            refine tlc_move (Itr 0 (picks sel).length) (fun R hR => ⟨_, rfl, pv', ns, sel, rfl, hsel, hfit, h6, fun l ps H4 hl4 hs4 hL4 hps hZ => ⟨_, _, rfl, .inl ⟨_, SqL.of hL4, rfl⟩, (((picks sel).length : Nat) : Int), by rw [List.length_map, ← hps, List.length_map], by omega, by omega, hR H4 hs4⟩⟩) fun H4 hs4 => ?_
            have hW4 := hW3.keep hs4
            refine tlc_rangeV (K := K) (s1 := 12) (n := (picks sel).length) (lo := 0) y.k.In (fun R h => h) (by omega) (fun _ => rfl) (fun i H5 R hi hs5 hk => ?_) (fun D vals H5 hs5 hDn hd hvl hvk => ?_)
            · have hm64 := fmod_bd ((0 : Int) + (j : Int) + ((0 : Int) + (i : Int))) (m := 64) (by decide)
              obtain ⟨d, g1, g2, g3⟩ := hget (((0 : Int) + (j : Int) + ((0 : Int) + (i : Int))).fmod 64).toNat (by omega)
              refine ⟨_, rfl, _, rfl, _, rfl, _, rfl, _, _, rfl, rfl, _, 64, rfl, rfl, (show (64 : Int) ≠ 0 by decide), da, _, ((0 : Int) + (j : Int) + ((0 : Int) + (i : Int))).fmod 64, .int d, rfl, rfl, SqL.of (hs5 _ _ hW4.hd), ?_, _, rfl, 3, _, rfl, rfl, .inl ⟨by decide, by decide⟩, d, _, rfl, rfl, y.k, _, rfl, by omega, by omega, fun v H6 hs6 hv => hk v H6 hs6 hv⟩
              rw [show ((0 : Int) + (j : Int) + ((0 : Int) + (i : Int))).fmod 64 = ((((0 : Int) + (j : Int) + ((0 : Int) + (i : Int))).fmod 64).toNat : Int) by omega]
              exact atI_nat g1
            · have hW5 := hW4.keep hs5
              have hs35 := hs4.trans hs5
              refine ⟨_, rfl, _, rfl, _, rfl, _, rfl, _, rfl, _, rfl, D, _, rfl, .inl (SqL.of hd), fun va hva => ?_⟩
              have hs6 := same_upd0 (o := .lst (iv vals)) hva
              have hW6 := hW5.keep hs6
              have hs36 := hs35.trans hs6
              refine ⟨L, S, z, ly, y, rv, sv, pv', va, ad, ln, A, es, Ψ, ns, sel, vals, rfl, hW6.hL, hW6.hly, ho, hW6.hrv, hW6.hS, by omega, hsv.keep (hs3.trans hs36), h6, hdim, hsel.keep hs36, hfit, upd_same, hvl, hvk, by omega, fun v ad' ln' es' Ψ' H7 wb' sx7 hL7 hrv7 hS7 hΨ7 hx7 hw7 => ?_⟩
              have hW7 := hW6.wr sx7 hL7 hrv7 hS7
              obtain ⟨svp, hpa7, _, hpc7⟩ := id hW7.hP
              obtain ⟨lc, hlc⟩ := hW4.hc
              have hDw : D ≠ L.wl := Ne.symm (ne_fresh hW4.hL.hw hDn)
              have hDc : D ≠ c := Ne.symm (ne_fresh hlc hDn)
              have hD7 : H7 D = some (.lst (iv vals)) := sx7 _ _ hDw (hs6 _ _ hd)
              refine ⟨_, rfl, pa, dx, _, rfl, hpa7, rfl, _, rfl, _, rfl, pa, dx, c, ns, y.fill, A, pv', sel, D, vals, rfl, hW7.hP, h6, sx7.selR hW6.hL.hw (hsel.keep hs36), hfit, hD7, hDc, hvl, fun H8 sx8 hP8 => ?_⟩
              have hW8 := hW7.pw sx8 hP8
              exact ⟨L, ⟨S.fb, wb'⟩, z, v, ad', ln', c, ns, writes A ((picks sel).zip vals), es', Ψ', sv, _, _, _, hW8, sx8.tupI' (NT.lst hpc7) (sx7.tupI hW6.hL.hw (hsv.keep (hs3.trans hs36))), h6, hdim, hout.wr hfit, by omega, by show S.fb.length + wb'.length ≤ _; omega, rfl⟩
        · rintro σ3 H3 ⟨L, S, z, rv, ad, ln, c, ns, A, es, Ψ, sv, x9, x10, x11, hW, hsv, h6, hdim, hout, hΨ, hz, rfl⟩
          obtain ⟨d2, e2, p2, r2⟩ := hget (52 + j) (by omega)
          refine ⟨LawI K (.ref a) da ds ly y pa dx (some (.int ((0 : Int) + (j : Int)))) (216 * (j + 1)) (1296056 * (j + 1)), ?_, ?_⟩
          · refine ⟨_, rfl, _, rfl, 52, _, rfl, rfl, da, _, 52 + ((0 : Int) + (j : Int)), .int d2, rfl, rfl, SqL.of hW.hd, ?_, d2, 4, rfl, rfl, (show (4 : Int) ≠ 0 by decide), rfl, _, rfl, ?_⟩
            · rw [show 52 + ((0 : Int) + (j : Int)) = ((52 + j : Nat) : Int) by push_cast; omega]
              exact atI_nat e2
            refine ite2K (fun _ => ?_) fun _ => ?_
            · refine ⟨_, rfl, L.lg, L.d1, _, rfl, hW.hL.hl, rfl, _, rfl, L, S, z, rv, ad, ln, rfl, hW.hL, hW.hrv, by omega, fun wl' x H4 fr hwl hL4 hx => ?_⟩
              have hW4 := hW.seal fr hwl hL4
              exact ⟨{ L with wl := wl' }, ⟨S.fb ++ S.wb ++ x, []⟩, z + 1, rv, ad, ln, c, ns, A, es, Ψ, sv, x9, x10, x11, hW4, tupI_seal hW.hL fr hsv, h6, hdim, hout, hΨ, by show (S.fb ++ S.wb ++ x).length + 0 ≤ _; rw [List.length_append, List.length_append, hx]; omega, rfl⟩
            · exact ⟨L, S, z, rv, ad, ln, c, ns, A, es, Ψ, sv, x9, x10, x11, hW, hsv, h6, hdim, hout, hΨ, by omega, rfl⟩
          · rintro σ4 H4 ⟨L, S, z, rv, ad, ln, c, ns, A, es, Ψ, sv, x9, x10, x11, hW, hsv, h6, hdim, hout, hΨ, hz, rfl⟩
            refine ⟨_, rfl, _, rfl, _, rfl, _, rfl, _, rfl, sv, ns, rfl, hsv, h6.2, fun pv' H5 hs5 hsel => ?_⟩
            have hW5 := hW.keep hs5
            refine ⟨L, S, z, ly, y, rv, sv, pv', ad, ln, A, es, Ψ, ns, .box (whole ns), rfl, hW5.hL, hW5.hly, ho, hW5.hrv, hW5.hS, hsv.keep hs5, h6, hdim, hsel, whole_fits h6, fun l1 H6 hl1 hs6 hL1 => ?_⟩
            have hW6 := hW5.keep hs6
            obtain ⟨svp, hpa6, _, _⟩ := id hW6.hP
            have ew : picks (.box (whole ns)) = allIx ns := box_whole ns h6.nn
            rw [ew] at hL1
            have hE := ecount6 h6
            refine ⟨_, rfl, pa, dx, _, rfl, hpa6, rfl, pa, dx, c, ns, y.fill, A, rfl, hW6.hP, fun l2 H7 hl2 hs7 hL2 => ?_⟩
            refine ⟨l1, l2, (allIx ns).map A, rfl, hs7 _ _ hL1, hL2, by rw [List.length_map, allIx_len]; omega, ?_⟩
            refine ⟨_, rfl, ?_⟩
            refine iteKF rfl ?_
            have hW7 := hW6.keep hs7
            exact ⟨_, L, S, z, rv, ad, ln, c, ns, A, es, Ψ, sv, x9, x10, x11, hW7, hsv.keep (hs5.trans (hs6.trans hs7)), h6, hdim, hout, hΨ, hz, rfl⟩
      · rintro σ H' ⟨x8, L, S, z, rv, ad, ln, c, ns, A, es, Ψ, sv, x9, x10, x11, hW, hsv, h6, hdim, hout, hΨ, hz, rfl⟩
        exact ⟨x8, L, S, z, rv, ad, ln, c, ns, A, es, Ψ, sv, x9, x10, x11, hW, hsv, h6, hdim, hout, by omega, by omega, rfl⟩
    · rintro σ H' ⟨x8, L, S, z, rv, ad, ln, c, ns, A, es, Ψ, sv, x9, x10, x11, hW, hsv, h6, hdim, hout, hΨ, hz, rfl⟩
      refine ⟨_, rfl, _, rfl, .ref da, sv, 40, ns, rfl, by decide, hW.drs hD hl, hsv, h6, fun sel pv' H3 hs3 hfit hsel => ?_⟩
      have hW3 := hW.keep hs3
      refine ⟨_, rfl, _, rfl, _, rfl, _, rfl, _, rfl, L, S, z, ly, y, rv, sv, pv', ad, ln, A, es, Ψ, ns, sel, rfl, hW3.hL, hW3.hly, ho, hW3.hrv, hW3.hS, hsv.keep hs3, h6, hdim, hsel, hfit, fun l1 H4 hl1 hs4 hL1 => ?_⟩
      have hW4 := hW3.keep hs4
      obtain ⟨svp, hpa4, _, _⟩ := id hW4.hP
      refine ⟨_, rfl, pa, dx, _, rfl, hpa4, rfl, _, rfl, pa, dx, c, ns, y.fill, A, pv', sel, rfl, hW4.hP, h6, hsel.keep hs4, hfit, fun l2 H5 hl2 hs5 hL2 => ?_⟩
      have := picks_len hfit h6
      exact ⟨l1, l2, (picks sel).map A, rfl, hs5 _ _ hL1, hL2, by rw [List.length_map]; omega, q H5⟩
end
end Tz
namespace TzH
open PySem PySem.Spec PyProof.Rows L2 Tz
section
variable {P : Program} {w : World} {K : PySem.W.Frag} {mg : Str → Option Value}
theorem tx_of {h : Heap} (X : K.In h) (G : h.Ns mainGlobals mg) (c : He.SaysD fa fn K) : Tx K mg where
  n_len := He.free_ok X G (He.SaysD.fact c 100 (f := .free "len") rfl)
  n_range := He.free_ok X G (He.SaysD.fact c 101 (f := .free "range") rfl)
  n_list := He.free_ok X G (He.SaysD.fact c 102 (f := .free "list") rfl)
  n_tuple := He.free_ok X G (He.SaysD.fact c 103 (f := .free "tuple") rfl)
  n_min := He.free_ok X G (He.SaysD.fact c 104 (f := .free "min") rfl)
  n_max := He.free_ok X G (He.SaysD.fact c 105 (f := .free "max") rfl)
  n_sum := He.free_ok X G (He.SaysD.fact c 106 (f := .free "sum") rfl)
  n_all := He.free_ok X G (He.SaysD.fact c 107 (f := .free "all") rfl)
  n_any := He.free_ok X G (He.SaysD.fact c 108 (f := .free "any") rfl)
  n_zip := He.free_ok X G (He.SaysD.fact c 109 (f := .free "zip") rfl)
  n_sorted := He.free_ok X G (He.SaysD.fact c 110 (f := .free "sorted") rfl)
  n_isinstance := He.free_ok X G (He.SaysD.fact c 111 (f := .free "isinstance") rfl)
  n_int := He.free_ok X G (He.SaysD.fact c 112 (f := .free "int") rfl)
  n_bool := He.free_ok X G (He.SaysD.fact c 113 (f := .free "bool") rfl)
  n_super := He.free_ok X G (He.SaysD.fact c 114 (f := .free "super") rfl)
  i_LONGEST_RUN := He.int_ok X G (He.SaysD.fact c 115 (f := .int "LONGEST_RUN" 255) rfl)
  i_MOST_ZEROS := He.int_ok X G (He.SaysD.fact c 116 (f := .int "MOST_ZEROS" 65535) rfl)
  i_BASE := He.int_ok X G (He.SaysD.fact c 117 (f := .int "BASE" 125) rfl)
  i_HIGHEST := He.int_ok X G (He.SaysD.fact c 118 (f := .int "HIGHEST" 249) rfl)
  i_LEAF := He.int_ok X G (He.SaysD.fact c 119 (f := .int "LEAF" 1) rfl)
  i_INNER := He.int_ok X G (He.SaysD.fact c 120 (f := .int "INNER" 2) rfl)
  i_CHUNK := He.int_ok X G (He.SaysD.fact c 121 (f := .int "CHUNK" 3) rfl)
  i_MOST_DIMENSIONS := He.int_ok X G (He.SaysD.fact c 122 (f := .int "MOST_DIMENSIONS" 4) rfl)
  i_LARGEST_SIZE := He.int_ok X G (He.SaysD.fact c 123 (f := .int "LARGEST_SIZE" 1000000000) rfl)
  i_MOST_ENTRIES := He.int_ok X G (He.SaysD.fact c 124 (f := .int "MOST_ENTRIES" 8) rfl)
  i_FIRST_HALF := He.int_ok X G (He.SaysD.fact c 125 (f := .int "FIRST_HALF" 5) rfl)
  i_MOST_PICKED := He.int_ok X G (He.SaysD.fact c 126 (f := .int "MOST_PICKED" 100000) rfl)
  i_SEAL_LENGTH := He.int_ok X G (He.SaysD.fact c 127 (f := .int "SEAL_LENGTH" 28) rfl)
  i_FIRST := He.int_ok X G (He.SaysD.fact c 128 (f := .int "FIRST" 255) rfl)
  i_LAST := He.int_ok X G (He.SaysD.fact c 129 (f := .int "LAST" 254) rfl)
  i_DIGITS := He.int_ok X G (He.SaysD.fact c 130 (f := .int "DIGITS" 8) rfl)
  g_Layout := He.glo_ok X G (He.SaysD.fact c 92 (f := .glo "Layout") rfl)
  g_Disk := He.glo_ok X G (He.SaysD.fact c 93 (f := .glo "Disk") rfl)
  g_Log := He.glo_ok X G (He.SaysD.fact c 94 (f := .glo "Log") rfl)
  g_PlainArray := He.glo_ok X G (He.SaysD.fact c 95 (f := .glo "PlainArray") rfl)
  g_Damaged := He.glo_ok X G (He.SaysD.fact c 96 (f := .glo "Damaged") rfl)
  g_NOTHING := He.glo_ok X G (He.SaysD.fact c 97 (f := .glo "NOTHING") rfl)
  g_WIDTHS := He.glo_ok X G (He.SaysD.fact c 98 (f := .glo "WIDTHS") rfl)
  g_SPANS := He.glo_ok X G (He.SaysD.fact c 99 (f := .glo "SPANS") rfl)
  c_Layout := He.cls_ok (He.SaysD.fact c 131 (f := .cls "Layout") rfl)
  a_Layout_kind := He.noat_ok (He.SaysD.fact c 133 (f := .noat "Layout" "kind") rfl)
  a_Layout_chunk_shape := He.noat_ok (He.SaysD.fact c 134 (f := .noat "Layout" "chunk_shape") rfl)
  a_Layout_fill := He.noat_ok (He.SaysD.fact c 135 (f := .noat "Layout" "fill") rfl)
  a_Layout_filters := He.noat_ok (He.SaysD.fact c 136 (f := .noat "Layout" "filters") rfl)
  c_Disk := He.cls_ok (He.SaysD.fact c 137 (f := .cls "Disk") rfl)
  a_Disk_cells := He.noat_ok (He.SaysD.fact c 139 (f := .noat "Disk" "cells") rfl)
  c_Log := He.cls_ok (He.SaysD.fact c 140 (f := .cls "Log") rfl)
  a_Log_disk := He.noat_ok (He.SaysD.fact c 142 (f := .noat "Log" "disk") rfl)
  a_Log_waiting := He.noat_ok (He.SaysD.fact c 143 (f := .noat "Log" "waiting") rfl)
  a_Log_sealed := He.noat_ok (He.SaysD.fact c 144 (f := .noat "Log" "sealed") rfl)
  c_PlainArray := He.cls_ok (He.SaysD.fact c 145 (f := .cls "PlainArray") rfl)
  a_PlainArray_shape := He.noat_ok (He.SaysD.fact c 147 (f := .noat "PlainArray" "shape") rfl)
  a_PlainArray_fill := He.noat_ok (He.SaysD.fact c 148 (f := .noat "PlainArray" "fill") rfl)
  a_PlainArray_cells := He.noat_ok (He.SaysD.fact c 149 (f := .noat "PlainArray" "cells") rfl)
  f_to_differences := ⟨He.glo_ok X G (He.SaysD.fact c 0 (f := .glo "to_differences") rfl), He.SaysD.def_ c 0 (d := d_to_differences) rfl⟩
  f_from_differences := ⟨He.glo_ok X G (He.SaysD.fact c 1 (f := .glo "from_differences") rfl), He.SaysD.def_ c 1 (d := d_from_differences) rfl⟩
  f_to_planes := ⟨He.glo_ok X G (He.SaysD.fact c 2 (f := .glo "to_planes") rfl), He.SaysD.def_ c 2 (d := d_to_planes) rfl⟩
  f_from_planes := ⟨He.glo_ok X G (He.SaysD.fact c 3 (f := .glo "from_planes") rfl), He.SaysD.def_ c 3 (d := d_from_planes) rfl⟩
  f_to_runs := ⟨He.glo_ok X G (He.SaysD.fact c 4 (f := .glo "to_runs") rfl), He.SaysD.def_ c 4 (d := d_to_runs) rfl⟩
  f_from_runs := ⟨He.glo_ok X G (He.SaysD.fact c 5 (f := .glo "from_runs") rfl), He.SaysD.def_ c 5 (d := d_from_runs) rfl⟩
  f_to_short := ⟨He.glo_ok X G (He.SaysD.fact c 6 (f := .glo "to_short") rfl), He.SaysD.def_ c 6 (d := d_to_short) rfl⟩
  f_from_short := ⟨He.glo_ok X G (He.SaysD.fact c 7 (f := .glo "from_short") rfl), He.SaysD.def_ c 7 (d := d_from_short) rfl⟩
  f_apply_filter := ⟨He.glo_ok X G (He.SaysD.fact c 8 (f := .glo "apply_filter") rfl), He.SaysD.def_ c 8 (d := d_apply_filter) rfl⟩
  f_undo_filter := ⟨He.glo_ok X G (He.SaysD.fact c 9 (f := .glo "undo_filter") rfl), He.SaysD.def_ c 9 (d := d_undo_filter) rfl⟩
  f_apply_chain := ⟨He.glo_ok X G (He.SaysD.fact c 10 (f := .glo "apply_chain") rfl), He.SaysD.def_ c 10 (d := d_apply_chain) rfl⟩
  f_undo_chain := ⟨He.glo_ok X G (He.SaysD.fact c 11 (f := .glo "undo_chain") rfl), He.SaysD.def_ c 11 (d := d_undo_chain) rfl⟩
  f_width := ⟨He.glo_ok X G (He.SaysD.fact c 12 (f := .glo "width") rfl), He.SaysD.def_ c 12 (d := d_width) rfl⟩
  f_span := ⟨He.glo_ok X G (He.SaysD.fact c 13 (f := .glo "span") rfl), He.SaysD.def_ c 13 (d := d_span) rfl⟩
  f_least := ⟨He.glo_ok X G (He.SaysD.fact c 14 (f := .glo "least") rfl), He.SaysD.def_ c 14 (d := d_least) rfl⟩
  f_greatest := ⟨He.glo_ok X G (He.SaysD.fact c 15 (f := .glo "greatest") rfl), He.SaysD.def_ c 15 (d := d_greatest) rfl⟩
  f_in_range := ⟨He.glo_ok X G (He.SaysD.fact c 16 (f := .glo "in_range") rfl), He.SaysD.def_ c 16 (d := d_in_range) rfl⟩
  f_demand_range := ⟨He.glo_ok X G (He.SaysD.fact c 17 (f := .glo "demand_range") rfl), He.SaysD.def_ c 17 (d := d_demand_range) rfl⟩
  f_store_values := ⟨He.glo_ok X G (He.SaysD.fact c 18 (f := .glo "store_values") rfl), He.SaysD.def_ c 18 (d := d_store_values) rfl⟩
  f_load_values := ⟨He.glo_ok X G (He.SaysD.fact c 19 (f := .glo "load_values") rfl), He.SaysD.def_ c 19 (d := d_load_values) rfl⟩
  f_write_number := ⟨He.glo_ok X G (He.SaysD.fact c 20 (f := .glo "write_number") rfl), He.SaysD.def_ c 20 (d := d_write_number) rfl⟩
  f_write_integer := ⟨He.glo_ok X G (He.SaysD.fact c 21 (f := .glo "write_integer") rfl), He.SaysD.def_ c 21 (d := d_write_integer) rfl⟩
  f_write_integers := ⟨He.glo_ok X G (He.SaysD.fact c 22 (f := .glo "write_integers") rfl), He.SaysD.def_ c 22 (d := d_write_integers) rfl⟩
  f_write_bytes := ⟨He.glo_ok X G (He.SaysD.fact c 23 (f := .glo "write_bytes") rfl), He.SaysD.def_ c 23 (d := d_write_bytes) rfl⟩
  f_byte_at := ⟨He.glo_ok X G (He.SaysD.fact c 24 (f := .glo "byte_at") rfl), He.SaysD.def_ c 24 (d := d_byte_at) rfl⟩
  f_read_number := ⟨He.glo_ok X G (He.SaysD.fact c 25 (f := .glo "read_number") rfl), He.SaysD.def_ c 25 (d := d_read_number) rfl⟩
  f_read_integer := ⟨He.glo_ok X G (He.SaysD.fact c 26 (f := .glo "read_integer") rfl), He.SaysD.def_ c 26 (d := d_read_integer) rfl⟩
  f_read_count := ⟨He.glo_ok X G (He.SaysD.fact c 27 (f := .glo "read_count") rfl), He.SaysD.def_ c 27 (d := d_read_count) rfl⟩
  f_read_integers := ⟨He.glo_ok X G (He.SaysD.fact c 28 (f := .glo "read_integers") rfl), He.SaysD.def_ c 28 (d := d_read_integers) rfl⟩
  f_read_bytes := ⟨He.glo_ok X G (He.SaysD.fact c 29 (f := .glo "read_bytes") rfl), He.SaysD.def_ c 29 (d := d_read_bytes) rfl⟩
  f_check_of := ⟨He.glo_ok X G (He.SaysD.fact c 30 (f := .glo "check_of") rfl), He.SaysD.def_ c 30 (d := d_check_of) rfl⟩
  f_make_record := ⟨He.glo_ok X G (He.SaysD.fact c 31 (f := .glo "make_record") rfl), He.SaysD.def_ c 31 (d := d_make_record) rfl⟩
  f_content_of := ⟨He.glo_ok X G (He.SaysD.fact c 32 (f := .glo "content_of") rfl), He.SaysD.def_ c 32 (d := d_content_of) rfl⟩
  f_read_record := ⟨He.glo_ok X G (He.SaysD.fact c 33 (f := .glo "read_record") rfl), He.SaysD.def_ c 33 (d := d_read_record) rfl⟩
  f_is_shape := ⟨He.glo_ok X G (He.SaysD.fact c 34 (f := .glo "is_shape") rfl), He.SaysD.def_ c 34 (d := d_is_shape) rfl⟩
  f_element_count := ⟨He.glo_ok X G (He.SaysD.fact c 35 (f := .glo "element_count") rfl), He.SaysD.def_ c 35 (d := d_element_count) rfl⟩
  f_rank_of := ⟨He.glo_ok X G (He.SaysD.fact c 36 (f := .glo "rank_of") rfl), He.SaysD.def_ c 36 (d := d_rank_of) rfl⟩
  f_index_of := ⟨He.glo_ok X G (He.SaysD.fact c 37 (f := .glo "index_of") rfl), He.SaysD.def_ c 37 (d := d_index_of) rfl⟩
  f_is_index := ⟨He.glo_ok X G (He.SaysD.fact c 38 (f := .glo "is_index") rfl), He.SaysD.def_ c 38 (d := d_is_index) rfl⟩
  f_indexes_in := ⟨He.glo_ok X G (He.SaysD.fact c 39 (f := .glo "indexes_in") rfl), He.SaysD.def_ c 39 (d := d_indexes_in) rfl⟩
  f_write_node := ⟨He.glo_ok X G (He.SaysD.fact c 40 (f := .glo "write_node") rfl), He.SaysD.def_ c 40 (d := d_write_node) rfl⟩
  f_read_node := ⟨He.glo_ok X G (He.SaysD.fact c 41 (f := .glo "read_node") rfl), He.SaysD.def_ c 41 (d := d_read_node) rfl⟩
  f_load_node := ⟨He.glo_ok X G (He.SaysD.fact c 42 (f := .glo "load_node") rfl), He.SaysD.def_ c 42 (d := d_load_node) rfl⟩
  f_child_at := ⟨He.glo_ok X G (He.SaysD.fact c 43 (f := .glo "child_at") rfl), He.SaysD.def_ c 43 (d := d_child_at) rfl⟩
  f_find := ⟨He.glo_ok X G (He.SaysD.fact c 44 (f := .glo "find") rfl), He.SaysD.def_ c 44 (d := d_find) rfl⟩
  f_save_rows := ⟨He.glo_ok X G (He.SaysD.fact c 45 (f := .glo "save_rows") rfl), He.SaysD.def_ c 45 (d := d_save_rows) rfl⟩
  f_put_into := ⟨He.glo_ok X G (He.SaysD.fact c 46 (f := .glo "put_into") rfl), He.SaysD.def_ c 46 (d := d_put_into) rfl⟩
  f_put_below := ⟨He.glo_ok X G (He.SaysD.fact c 47 (f := .glo "put_below") rfl), He.SaysD.def_ c 47 (d := d_put_below) rfl⟩
  f_put := ⟨He.glo_ok X G (He.SaysD.fact c 48 (f := .glo "put") rfl), He.SaysD.def_ c 48 (d := d_put) rfl⟩
  f_remove_below := ⟨He.glo_ok X G (He.SaysD.fact c 49 (f := .glo "remove_below") rfl), He.SaysD.def_ c 49 (d := d_remove_below) rfl⟩
  f_lowered := ⟨He.glo_ok X G (He.SaysD.fact c 50 (f := .glo "lowered") rfl), He.SaysD.def_ c 50 (d := d_lowered) rfl⟩
  f_remove := ⟨He.glo_ok X G (He.SaysD.fact c 51 (f := .glo "remove") rfl), He.SaysD.def_ c 51 (d := d_remove) rfl⟩
  f_reaches := ⟨He.glo_ok X G (He.SaysD.fact c 52 (f := .glo "reaches") rfl), He.SaysD.def_ c 52 (d := d_reaches) rfl⟩
  f_encode_chunk := ⟨He.glo_ok X G (He.SaysD.fact c 54 (f := .glo "encode_chunk") rfl), He.SaysD.def_ c 54 (d := d_encode_chunk) rfl⟩
  f_decode_chunk := ⟨He.glo_ok X G (He.SaysD.fact c 55 (f := .glo "decode_chunk") rfl), He.SaysD.def_ c 55 (d := d_decode_chunk) rfl⟩
  f_load_chunk := ⟨He.glo_ok X G (He.SaysD.fact c 56 (f := .glo "load_chunk") rfl), He.SaysD.def_ c 56 (d := d_load_chunk) rfl⟩
  f_save_chunk := ⟨He.glo_ok X G (He.SaysD.fact c 57 (f := .glo "save_chunk") rfl), He.SaysD.def_ c 57 (d := d_save_chunk) rfl⟩
  f_selection_size := ⟨He.glo_ok X G (He.SaysD.fact c 58 (f := .glo "selection_size") rfl), He.SaysD.def_ c 58 (d := d_selection_size) rfl⟩
  f_fits_range := ⟨He.glo_ok X G (He.SaysD.fact c 59 (f := .glo "fits_range") rfl), He.SaysD.def_ c 59 (d := d_fits_range) rfl⟩
  f_fits := ⟨He.glo_ok X G (He.SaysD.fact c 60 (f := .glo "fits") rfl), He.SaysD.def_ c 60 (d := d_fits) rfl⟩
  f_box_indexes := ⟨He.glo_ok X G (He.SaysD.fact c 61 (f := .glo "box_indexes") rfl), He.SaysD.def_ c 61 (d := d_box_indexes) rfl⟩
  f_picked := ⟨He.glo_ok X G (He.SaysD.fact c 62 (f := .glo "picked") rfl), He.SaysD.def_ c 62 (d := d_picked) rfl⟩
  f_Layout_init := ⟨He.mkr_ok (He.SaysD.fact c 132 (f := .mkr "Layout") rfl), He.SaysD.def_ c 63 (d := d_Layout_init) rfl⟩
  f_grid_index := ⟨He.glo_ok X G (He.SaysD.fact c 63 (f := .glo "grid_index") rfl), He.SaysD.def_ c 64 (d := d_grid_index) rfl⟩
  f_place_in_chunk := ⟨He.glo_ok X G (He.SaysD.fact c 64 (f := .glo "place_in_chunk") rfl), He.SaysD.def_ c 65 (d := d_place_in_chunk) rfl⟩
  f_read_slab := ⟨He.glo_ok X G (He.SaysD.fact c 65 (f := .glo "read_slab") rfl), He.SaysD.def_ c 66 (d := d_read_slab) rfl⟩
  f_write_slab := ⟨He.glo_ok X G (He.SaysD.fact c 66 (f := .glo "write_slab") rfl), He.SaysD.def_ c 67 (d := d_write_slab) rfl⟩
  f_origin_of := ⟨He.glo_ok X G (He.SaysD.fact c 67 (f := .glo "origin_of") rfl), He.SaysD.def_ c 68 (d := d_origin_of) rfl⟩
  f_cut_values := ⟨He.glo_ok X G (He.SaysD.fact c 68 (f := .glo "cut_values") rfl), He.SaysD.def_ c 69 (d := d_cut_values) rfl⟩
  f_sticks_out := ⟨He.glo_ok X G (He.SaysD.fact c 69 (f := .glo "sticks_out") rfl), He.SaysD.def_ c 70 (d := d_sticks_out) rfl⟩
  f_resize_slabs := ⟨He.glo_ok X G (He.SaysD.fact c 70 (f := .glo "resize_slabs") rfl), He.SaysD.def_ c 71 (d := d_resize_slabs) rfl⟩
  f_Disk_init := ⟨He.mkr_ok (He.SaysD.fact c 138 (f := .mkr "Disk") rfl), He.SaysD.def_ c 72 (d := d_Disk_init) rfl⟩
  f_Disk_len := ⟨He.meth_ok (He.SaysD.fact c 152 (f := .meth "Disk" "__len__") rfl), He.SaysD.def_ c 73 (d := d_Disk_len) rfl⟩
  f_Disk_part := ⟨He.meth_ok (He.SaysD.fact c 150 (f := .meth "Disk" "part") rfl), He.SaysD.def_ c 74 (d := d_Disk_part) rfl⟩
  f_Disk_append := ⟨He.meth_ok (He.SaysD.fact c 151 (f := .meth "Disk" "append") rfl), He.SaysD.def_ c 75 (d := d_Disk_append) rfl⟩
  f_write_digits := ⟨He.glo_ok X G (He.SaysD.fact c 71 (f := .glo "write_digits") rfl), He.SaysD.def_ c 76 (d := d_write_digits) rfl⟩
  f_make_seal := ⟨He.glo_ok X G (He.SaysD.fact c 72 (f := .glo "make_seal") rfl), He.SaysD.def_ c 77 (d := d_make_seal) rfl⟩
  f_Log_init := ⟨He.mkr_ok (He.SaysD.fact c 141 (f := .mkr "Log") rfl), He.SaysD.def_ c 78 (d := d_Log_init) rfl⟩
  f_Log_put := ⟨He.meth_ok (He.SaysD.fact c 153 (f := .meth "Log" "put") rfl), He.SaysD.def_ c 79 (d := d_Log_put) rfl⟩
  f_Log_fetch := ⟨He.meth_ok (He.SaysD.fact c 154 (f := .meth "Log" "fetch") rfl), He.SaysD.def_ c 80 (d := d_Log_fetch) rfl⟩
  f_Log_seal := ⟨He.meth_ok (He.SaysD.fact c 155 (f := .meth "Log" "seal") rfl), He.SaysD.def_ c 81 (d := d_Log_seal) rfl⟩
  f_PlainArray_init := ⟨He.mkr_ok (He.SaysD.fact c 146 (f := .mkr "PlainArray") rfl), He.SaysD.def_ c 82 (d := d_PlainArray_init) rfl⟩
  f_PlainArray_all_values := ⟨He.meth_ok (He.SaysD.fact c 156 (f := .meth "PlainArray" "all_values") rfl), He.SaysD.def_ c 83 (d := d_PlainArray_all_values) rfl⟩
  f_PlainArray_read := ⟨He.meth_ok (He.SaysD.fact c 157 (f := .meth "PlainArray" "read") rfl), He.SaysD.def_ c 84 (d := d_PlainArray_read) rfl⟩
  f_PlainArray_write := ⟨He.meth_ok (He.SaysD.fact c 158 (f := .meth "PlainArray" "write") rfl), He.SaysD.def_ c 85 (d := d_PlainArray_write) rfl⟩
  f_PlainArray_resize := ⟨He.meth_ok (He.SaysD.fact c 159 (f := .meth "PlainArray" "resize") rfl), He.SaysD.def_ c 86 (d := d_PlainArray_resize) rfl⟩
  f_law_cell := ⟨He.glo_ok X G (He.SaysD.fact c 73 (f := .glo "_law_cell") rfl), He.SaysD.def_ c 87 (d := d_law_cell) rfl⟩
  f_law_draws := ⟨He.glo_ok X G (He.SaysD.fact c 74 (f := .glo "_law_draws") rfl), He.SaysD.def_ c 88 (d := d_law_draws) rfl⟩
  f_law_is_int := ⟨He.glo_ok X G (He.SaysD.fact c 75 (f := .glo "_law_is_int") rfl), He.SaysD.def_ c 89 (d := d_law_is_int) rfl⟩
  f_law_is_number := ⟨He.glo_ok X G (He.SaysD.fact c 76 (f := .glo "_law_is_number") rfl), He.SaysD.def_ c 90 (d := d_law_is_number) rfl⟩
  f_law_low := ⟨He.glo_ok X G (He.SaysD.fact c 77 (f := .glo "_law_low") rfl), He.SaysD.def_ c 91 (d := d_law_low) rfl⟩
  f_law_high := ⟨He.glo_ok X G (He.SaysD.fact c 78 (f := .glo "_law_high") rfl), He.SaysD.def_ c 92 (d := d_law_high) rfl⟩
  f_law_value := ⟨He.glo_ok X G (He.SaysD.fact c 79 (f := .glo "_law_value") rfl), He.SaysD.def_ c 93 (d := d_law_value) rfl⟩
  f_law_kind := ⟨He.glo_ok X G (He.SaysD.fact c 80 (f := .glo "_law_kind") rfl), He.SaysD.def_ c 94 (d := d_law_kind) rfl⟩
  f_law_chain := ⟨He.glo_ok X G (He.SaysD.fact c 81 (f := .glo "_law_chain") rfl), He.SaysD.def_ c 95 (d := d_law_chain) rfl⟩
  f_law_shape := ⟨He.glo_ok X G (He.SaysD.fact c 82 (f := .glo "_law_shape") rfl), He.SaysD.def_ c 96 (d := d_law_shape) rfl⟩
  f_law_all := ⟨He.glo_ok X G (He.SaysD.fact c 83 (f := .glo "_law_all") rfl), He.SaysD.def_ c 97 (d := d_law_all) rfl⟩
  f_law_picks := ⟨He.glo_ok X G (He.SaysD.fact c 84 (f := .glo "_law_picks") rfl), He.SaysD.def_ c 98 (d := d_law_picks) rfl⟩
  f_law_selection := ⟨He.glo_ok X G (He.SaysD.fact c 85 (f := .glo "_law_selection") rfl), He.SaysD.def_ c 99 (d := d_law_selection) rfl⟩
  f_law_whole := ⟨He.glo_ok X G (He.SaysD.fact c 86 (f := .glo "_law_whole") rfl), He.SaysD.def_ c 100 (d := d_law_whole) rfl⟩
  f_law_same_ints := ⟨He.glo_ok X G (He.SaysD.fact c 87 (f := .glo "_law_same_ints") rfl), He.SaysD.def_ c 101 (d := d_law_same_ints) rfl⟩
  f_law_stream := ⟨He.glo_ok X G (He.SaysD.fact c 88 (f := .glo "_law_stream") rfl), He.SaysD.def_ c 102 (d := d_law_stream) rfl⟩
  f_law_chunk_shape := ⟨He.glo_ok X G (He.SaysD.fact c 89 (f := .glo "_law_chunk_shape") rfl), He.SaysD.def_ c 103 (d := d_law_chunk_shape) rfl⟩
  f_law_world := ⟨He.glo_ok X G (He.SaysD.fact c 90 (f := .glo "_law_world") rfl), He.SaysD.def_ c 104 (d := d_law_world) rfl⟩
  f_law := ⟨He.glo_ok X G (He.SaysD.fact c 91 (f := .glo "law") rfl), He.SaysD.def_ c 105 (d := d_law) rfl⟩
theorem refs_of : ∀ l : List Value, PySem.W.excTail He.veBase l = true → PySem.HandSPX.refsVE l = true := fun l => by
  induction l with
  | nil => intro e; cases e
  | cons x r ih =>
    intro e
    rcases PySem.W.excTail_cases _ e with ⟨c, r', h, e'⟩ | h
    · cases h
      exact ih e'
    · rw [h]; rfl
theorem dam_cls {C : Addr} (h1 : PySem.W.excInitIn K C He.veBase "ValueError.__new__" = true) (h2 : PySem.W.hasDictIn K C = true) : ∃ nm q N bs bm sn sub ab col dd k0 k1 k2 k3 k5, K.lookup C = some (excClassObj nm q C N bs bm true sn sub ab col dd k0 k1 k2 k3 k5 "ValueError.__new__") ∧ PySem.HandSPX.refsVE bm = true := by
  unfold PySem.W.excInitIn at h1
  split at h1
  · rename_i dd cd sl ho
    split at h1
    · rename_i C' bm k0 k1 k2 k3 n k5 hm hs
      simp only [Bool.and_eq_true, beq_iff_eq, Bool.not_eq_true'] at h1
      obtain ⟨⟨⟨rfl, rfl⟩, hdel⟩, ht⟩ := h1
      have h3 : cd.hasDict = true := by
        unfold PySem.W.hasDictIn PySem.W.clsIn at h2
        rw [ho] at h2
        exact h2
      obtain ⟨nm, bs, mro, ns, qn, hd, sn, sub, ab, col, del⟩ := cd
      dsimp only at hm hdel h3
      subst hm hdel h3
      have hsl : sl = #[k0, k1, k2, k3, some (.builtin "ValueError.__new__"), k5] := by
        obtain ⟨l⟩ := sl
        simp only at hs
        rw [hs]
      subst hsl
      exact ⟨nm, qn, ns, bs, bm, sn, sub, ab, col, dd, k0, k1, k2, k3, k5, ho, refs_of _ ht⟩
    · cases h1
  · cases h1
theorem dam_fn (hP : P.main.file = "/claim/cut.py") (h1 : damObs K = damVal) (h2 : damB K = true) : (∃ oc od dV kV doc pm an ct osl cda ccl cdd vs ccs file tf, K.lookup (He.ma K (He.ga K "Damaged") "__init__") = some ⟨oc, od, .func (PySem.W.ksFn "__init__" "Damaged.__init__" (defArgs sDamI) (defBody sDamI) (defScope sDamI) dV kV doc pm an (.ref cda) ct 167), osl⟩ ∧ dV = .none ∧
    PySem.W.codeIn K (.ref cda) "Damaged.__init__" = true ∧ K.lookup cda = some ⟨ccl, cdd, .fields vs, ccs⟩ ∧ vs[2]? = some (.str file tf) ∧ ((P.main.file : Str) == file) = true) ∧ ∃ cl cld csl, K.lookup 167 = some ⟨cl, cld, .cell (some (.ref (He.ga K "Damaged"))), csl⟩ := by
  unfold damObs at h1
  obtain ⟨b1, b2⟩ := He.ba h2
  constructor
  · cases q : K.lookup (He.ma K (He.ga K "Damaged") "__init__") with
    | none =>
      rw [q] at h1
      cases h1
    | some o =>
      obtain ⟨oc, od, dt, osl⟩ := o
      rw [q] at h1 b1
      cases dt with
      | func fd =>
        obtain ⟨n1, n2, n3, n4, n5, n6, n7, n8, n9, n10, n11, n12, n13, n14, n15⟩ := fd
        have e2 : (some (n1, n2, n3, n4, n5, n6, n7, n8, n15) : FnC) = damVal := h1
        unfold damVal at e2
        simp only [Option.some.injEq, Prod.mk.injEq] at e2
        obtain ⟨g1, g2, g3, g4, g5, g6, g7, g8, g9⟩ := e2
        subst g1 g2 g3 g4 g5 g6 g7 g8 g9
        dsimp only at b1
        obtain ⟨c1, c2⟩ := He.ba b1
        split at c2
        · rename_i cda
          split at c2
          · rename_i ccl cdd vs ccs hl
            split at c2
            · rename_i file tf _ _ _ _ _ _ _ _ _ _ _ _ _ _ _ _ hv
              have hf := of_decide_eq_true c2
              have hv2 : vs[2]? = some (.str file tf) := by rw [← Array.getElem?_toList, hv]; rfl
              exact ⟨oc, od, .none, n9, n10, n11, n12, n14, osl, cda, ccl, cdd, vs, ccs, file, tf, rfl, rfl, c1, hl, hv2, by rw [hP, hf]; decide⟩
            · cases c2
          · cases c2
        · cases c2
      | _ => cases h1
  · split at b2
    · rename_i cl cld d csl hl
      have hd := of_decide_eq_true b2
      subst hd
      exact ⟨cl, cld, csl, hl⟩
    · cases b2
theorem spa_ok (h : spaB K = true) (k : Kd) : KDi K (He.ga K "SPANS") k.w (.int k.span) := by
  unfold spaB at h
  split at h
  · rename_i c es n sl hl
    obtain ⟨a1, a2⟩ := He.ba h
    obtain ⟨a3, a4⟩ := He.ba a2
    obtain ⟨a5, a6⟩ := He.ba a4
    have e1 : c = "dict" := of_decide_eq_true a1
    have e2 : sl = #[] := Array.isEmpty_iff.mp a3
    subst e1 e2
    have hf : ∀ q ∈ [((1 : Int), (256 : Int)), (2, 65536), (4, 4294967296)], ∃ u, findBy Value.isInt es q.1 = some u ∧ RelV (.int q.2) u := fun q hq => by
      have h2 := List.all_eq_true.mp a6 q hq
      cases e : findBy Value.isInt es q.1 with
      | none => rw [e] at h2; cases h2
      | some u => rw [e] at h2; exact ⟨u, rfl, He.relB_ok h2⟩
    have hk : ∀ e ∈ es.toList, ∃ j t, e.key = .int j t ∧ e.hash = hashInt j := fun e he => by
      have h2 := List.all_eq_true.mp a5 e he
      split at h2
      · rename_i j t hkey
        exact ⟨j, t, hkey, of_decide_eq_true h2⟩
      · cases h2
    have go : ∀ q ∈ [((1 : Int), (256 : Int)), (2, 65536), (4, 4294967296)], KDi K (He.ga K "SPANS") q.1 (.int q.2) := fun q hq => by
      obtain ⟨u, hu, ru⟩ := hf q hq
      exact ⟨es, n, u, hl, hk, hu, ru⟩
    cases k
    · exact go (1, 256) (by simp)
    · exact go (2, 65536) (by simp)
    · exact go (4, 4294967296) (by simp)
    · exact go (1, 256) (by simp)
    · exact go (2, 65536) (by simp)
    · exact go (4, 4294967296) (by simp)
  · cases h
theorem wid_ok (h1 : He.dicW K (He.ga K "WIDTHS") = some (He.keysIn w.params wKeys)) (h2 : He.valsB K (He.ga K "WIDTHS") wTab = true) (k : Kd) : KDct K w (He.ga K "WIDTHS") k.name (.int k.w) := by
  obtain ⟨es, n, hl, hk, _⟩ := He.dicW_ok h1
  have go : ∀ q ∈ wTab, KDct K w (He.ga K "WIDTHS") q.1 (q.2.v K) := fun q hq => by
    obtain ⟨u, hu, ru⟩ := He.valsB_ok h2 hq
    exact ⟨es, n, u, hl, hk, hu, ru⟩
  cases k
  · exact go ("i1", .int 1) (by simp [wTab])
  · exact go ("i2", .int 2) (by simp [wTab])
  · exact go ("i4", .int 4) (by simp [wTab])
  · exact go ("u1", .int 1) (by simp [wTab])
  · exact go ("u2", .int 2) (by simp [wTab])
  · exact go ("u4", .int 4) (by simp [wTab])
theorem emp_ok (h : empB K = true) (H : Hp) : SqT K H 551 [] := by
  unfold empB at h
  split at h
  · rename_i c cd its n sl hl
    obtain ⟨h1, h2⟩ := He.ba h
    have e1 := of_decide_eq_true h1
    have e2 : its = #[] := Array.isEmpty_iff.mp h2
    subst e1 e2
    exact .inr ⟨_, #[], n, hl, rfl, rfl, by decide, .nil⟩
  · cases h
theorem te_of {h : Heap} (X : K.In h) (G : h.Ns mainGlobals mg) (hP : P.main.file = "/claim/cut.py") (hT : (P.main.scope.names.lookup ("super" : Str)).isSome = false) (c : SaysX w.params K) : Te P w K mg := by
  have c1 : He.SaysD fa fn K := congrArg (fun z : AlX => z.1) c
  have c2 : xtra K = true := congrArg (fun z : AlX => z.2.1) c
  have c3 : damObs K = damVal := congrArg (fun z : AlX => z.2.2.1) c
  have c4 : He.dicW K (He.ga K "WIDTHS") = some (He.keysIn w.params wKeys) := congrArg (fun z : AlX => z.2.2.2) c
  obtain ⟨x1, c2⟩ := He.ba c2
  obtain ⟨x2, c2⟩ := He.ba c2
  obtain ⟨x3, c2⟩ := He.ba c2
  obtain ⟨x4, c2⟩ := He.ba c2
  obtain ⟨x5, x6⟩ := He.ba c2
  have T := tx_of X G c1
  obtain ⟨hfn, hcell⟩ := dam_fn hP c3 x2
  have kp : PySem.W.keepIn K (.ref (He.ma K (He.ga K "Damaged") "__init__")) = true := by
    obtain ⟨oc, od, dV, kV, doc, pm, an, ct, osl, cda, ccl, cdd, vs, ccs, file, tf, hl, _⟩ := hfn
    unfold PySem.W.keepIn
    dsimp only
    rw [hl]
  obtain ⟨x3, y15⟩ := He.ba x3
  obtain ⟨x3, y14⟩ := He.ba x3
  obtain ⟨x3, y13⟩ := He.ba x3
  obtain ⟨x3, y12⟩ := He.ba x3
  obtain ⟨x3, y11⟩ := He.ba x3
  obtain ⟨x3, y10⟩ := He.ba x3
  obtain ⟨x3, y9⟩ := He.ba x3
  obtain ⟨x3, y8⟩ := He.ba x3
  obtain ⟨x3, y7⟩ := He.ba x3
  obtain ⟨x3, y6⟩ := He.ba x3
  obtain ⟨x3, y5⟩ := He.ba x3
  obtain ⟨x3, y4⟩ := He.ba x3
  obtain ⟨x3, y3⟩ := He.ba x3
  obtain ⟨y1, y2⟩ := He.ba x3
  obtain ⟨fdE, hE⟩ := He.SaysD.def_ c1 53 (d := d_entries) rfl
  exact { T with
    wid := wid_ok c4 x6
    spa := spa_ok x4
    nothing := fun H => He.tupB_ok x1 H
    dam := ⟨167, ⟨hfn, hcell, of_decide_eq_true y15, T.n_super, ⟨dam_cls y1 y2, He.eqO_ok y3, of_decide_eq_true y4, of_decide_eq_true y6, y7⟩, He.eqO_ok y11, He.eqO_ok y12, He.eqO_ok y13, He.eqO_ok y14, of_decide_eq_true y5, He.eqO_ok y9, of_decide_eq_true y10, kp, hT, T.g_Damaged⟩⟩
    exm := of_decide_eq_true y8
    ent := ⟨He.glo_ok X G (He.SaysD.fact c1 53 (f := .glo "entries") rfl), fdE, 551, hE, emp_ok x5⟩ }
end
end TzH
namespace TzH
open PySem PySem.Spec PyProof.Rows L2 Tz
theorem facts {P : Program} {w : World} {K : PySem.W.Frag} {h : Heap} {mg : Str → Option Value} {f : Addr} (X : K.In h) (G : h.Ns mainGlobals mg) (hP : P.main.file = "/claim/cut.py") (hT : (P.main.scope.names.lookup ("super" : Str)).isSome = false) (hfa : mg ("law" : Str) = some (.ref f)) (c : SaysX w.params K) :
    ∃ fd : FuncData, (∀ (s : Shared) (v : Value), BindsTo s fd ⟨[v], []⟩ [("_law_script", v)]) ∧ ∀ base : Heap, K.In base → base.Ns mainGlobals mg → FnOk P w K mg base CX0 20 f fd ["_law_script"] (spLaw K) := by
  have T : Te P w K mg := te_of X G hP hT c
  obtain ⟨hg, fd, F⟩ := T.f_law
  have e := hfa.symm.trans hg
  cases e
  have b := FunD.bindsA (ps := ["_law_script"]) F fun _ _ _ _ _ _ us hl => match us, hl with | [_], _ => rfl
  exact ⟨fd, fun s v => b s [v] rfl, fun base _ _ => law_ok T F⟩
end TzH
open PySem PySem.W PySem.Calls PyProof.Rows
theorem PySem.Challenge.cw_tessera_k51_whole_slabs_are_plain_arrays_holds : PySem.Challenge.rw_tessera_k51_whole_slabs_are_plain_arrays.Holds := by
  w_on; o_law
  refine HandSHeadRun.head_any (r := OpenLaw.row PySem.Challenge.rw_tessera_k51_whole_slabs_are_plain_arrays) (q := view (OpenLaw.row PySem.Challenge.rw_tessera_k51_whole_slabs_are_plain_arrays).prog [142]) (H := TzH.hk) (ob := TzH.ob) (M := 8000) (loose := TzH.names) (d := HandSHeadRun.topDef (OpenLaw.row PySem.Challenge.rw_tessera_k51_whole_slabs_are_plain_arrays).prog 142) (kwd := []) TzH.ob_eq
    (by kernel_rfl) (fun s => by kernel_rfl) TzH.run (by kernel_rfl) (by kernel_rfl) (by kernel_rfl) (by rfl) (by first | assumption | decide +kernel) (by decide +kernel) ⟨rfl, rfl, rfl, rfl, rfl, by decide +kernel⟩ ?hw ?hc
  case hw => w_witness2
  case hc =>
    refine L2.walk_ofE (l := PySem.Challenge.rw_tessera_k51_whole_slabs_are_plain_arrays) (n := 63) (k := 20) (x := "_law_script") (CX := L2.CX0) rfl (by decide) (by kernel_rfl) ⟨rfl, by decide, by decide⟩ ?F (fun _ _ _ _ z => z)
    intro w mg fa h Y G hmg0
    obtain ⟨K, KX, c⟩ := Y
    have hmg : mg ("law" : PySem.Str) = some (.ref fa) := by
      have e : (HandSHeadRun.topDef (OpenLaw.row PySem.Challenge.rw_tessera_k51_whole_slabs_are_plain_arrays).prog 142).name = ("law" : PySem.Str) := by kernel_rfl
      rw [← e]
      exact hmg0
    obtain ⟨fd, hb, hF⟩ := TzH.facts (P := (PySem.Challenge.rw_tessera_k51_whole_slabs_are_plain_arrays).prog) (w := w) KX G (by kernel_rfl) (by kernel_rfl) hmg c
    exact ⟨K, fd, Tz.spLaw K, KX, hb, fun H a ns hl _ hS => ⟨a, ns, rfl, hS, fun _ => rfl⟩, hF⟩
