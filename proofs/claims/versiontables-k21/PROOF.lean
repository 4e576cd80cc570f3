import PyProof.Rows.All
import Wide.All
import OpenK.AllK
import Wide.FinOn
import KE.KStateDown
import HandS.ForMost
import HandS.Defaults
import HandS.Head0
import HandS.Head1
import HandS.Head2
import HandS.HeadEnd
import HandS.HeadHook1
import HandS.HeadHook2
import HandS.HeadHook4
import HandS.Evl
import HandS.IsInst
import HandS.Zip
import HandS.Wide
import HandS.EndBits
import HandS.Conv
import HandS.Strs
import HandS.StrMore
import HandS.Style
import KE.SortData
import KE.SortKeyHeap
import KE.GoesNew
import KE.KDictZip
import HandS.TupAny
import HandS.ReCall
import HandS.WordsDict
import HandS.Lambda
import HandS.EndTab
import HandS.Nested
import HandS.SortKw
import HandS.Keys
import HandS.Exc
import KE.LtData
import HandS.ReplaceLit
import PyProof.StrOps2
import KE.DataEq
import HandS.HeadWalk
import PySem.Challenge.RW_versiontables_k21_whole_state_address
-- VtBase
set_option Elab.async false
set_option linter.all false
set_option maxRecDepth 100000
set_option maxHeartbeats 4000000
namespace Vt
open PySem PySem.Spec PyProof.Rows L2
abbrev pwV : Program := PySem.Challenge.pw_versiontables_k21_whole_state_address
def topS (i : Nat) : Stmt := pwV.main.body.getD i (.Pass ⟨0, 0, 0, 0⟩)
/-- the defs of the text, where they stand -/
abbrev s_encode : Stmt := topS 13
abbrev s_char_at : Stmt := topS 14
abbrev s_read_digits : Stmt := topS 15
abbrev s_read_integer : Stmt := topS 16
abbrev s_read_text : Stmt := topS 17
abbrev s_read_item : Stmt := topS 18
abbrev s_decode_prefix : Stmt := topS 19
abbrev s_decode : Stmt := topS 20
abbrev s_base_kind : Stmt := topS 22
abbrev s_accepts : Stmt := topS 23
abbrev s_digest : Stmt := topS 24
abbrev s_column_names : Stmt := topS 26
abbrev s_fits : Stmt := topS 27
abbrev s_split_row : Stmt := topS 28
abbrev s_join_row : Stmt := topS 29
abbrev s_ends_chunk : Stmt := topS 32
abbrev s_write_chunk : Stmt := topS 33
abbrev s_write_level : Stmt := topS 34
abbrev s_build : Stmt := topS 35
abbrev s_read : Stmt := topS 36
abbrev s_write_rows : Stmt := topS 38
abbrev s_read_rows : Stmt := topS 39
abbrev s_write_state : Stmt := topS 41
abbrev s_read_state : Stmt := topS 42
abbrev s_other_tables : Stmt := topS 43
abbrev s_set_table : Stmt := topS 44
abbrev s_remove_table : Stmt := topS 45
abbrev s_plain_tables : Stmt := topS 46
abbrev s_Book_init : Stmt := inClass (topS 48) 0
abbrev s_Book_address : Stmt := inClass (topS 48) 1
abbrev s_Chunks_init : Stmt := inClass (topS 50) 0
abbrev s_Chunks_put : Stmt := inClass (topS 50) 1
abbrev s_Chunks_get : Stmt := inClass (topS 50) 2
abbrev s_law_cell : Stmt := topS 52
abbrev s_law_thing : Stmt := topS 53
abbrev s_law_draws : Stmt := topS 54
abbrev s_law_char : Stmt := topS 55
abbrev s_law_text : Stmt := topS 56
abbrev s_law_integer : Stmt := topS 57
abbrev s_law_value : Stmt := topS 58
abbrev s_law_name : Stmt := topS 59
abbrev s_law_names : Stmt := topS 60
abbrev s_law_columns : Stmt := topS 61
abbrev s_law_drawn_key : Stmt := topS 62
abbrev s_law_form : Stmt := topS 63
abbrev s_law_row : Stmt := topS 64
abbrev s_law_key_of : Stmt := topS 65
abbrev s_law_table_rows : Stmt := topS 66
abbrev s_law_same : Stmt := topS 67
abbrev s_law_table : Stmt := topS 68
abbrev s_law_tables : Stmt := topS 69
abbrev s_law_wide : Stmt := topS 70
abbrev s_law_is_plain : Stmt := topS 71
abbrev s_law_at_once : Stmt := topS 72
abbrev s_law_step_by_step : Stmt := topS 73
abbrev s_law_mostly_at_once : Stmt := topS 74
abbrev s_law_other_form : Stmt := topS 75
abbrev s_law_with_change : Stmt := topS 76
abbrev s_law : Stmt := topS 77
def dk (at_ : Str × Option Str) (name qual : Str) (st : Stmt) : He.DefD := ⟨at_, name, qual, defArgs st, defBody st, defScope st, [], []⟩
def d_encode : He.DefD := dk ("encode", none) "encode" "encode" s_encode
def d_char_at : He.DefD := dk ("char_at", none) "char_at" "char_at" s_char_at
def d_read_digits : He.DefD := dk ("read_digits", none) "read_digits" "read_digits" s_read_digits
def d_read_integer : He.DefD := dk ("read_integer", none) "read_integer" "read_integer" s_read_integer
def d_read_text : He.DefD := dk ("read_text", none) "read_text" "read_text" s_read_text
def d_read_item : He.DefD := dk ("read_item", none) "read_item" "read_item" s_read_item
def d_decode_prefix : He.DefD := dk ("decode_prefix", none) "decode_prefix" "decode_prefix" s_decode_prefix
def d_decode : He.DefD := dk ("decode", none) "decode" "decode" s_decode
def d_base_kind : He.DefD := dk ("base_kind", none) "base_kind" "base_kind" s_base_kind
def d_accepts : He.DefD := dk ("accepts", none) "accepts" "accepts" s_accepts
def d_digest : He.DefD := dk ("digest", none) "digest" "digest" s_digest
def d_column_names : He.DefD := dk ("column_names", none) "column_names" "column_names" s_column_names
def d_fits : He.DefD := dk ("fits", none) "fits" "fits" s_fits
def d_split_row : He.DefD := dk ("split_row", none) "split_row" "split_row" s_split_row
def d_join_row : He.DefD := dk ("join_row", none) "join_row" "join_row" s_join_row
def d_ends_chunk : He.DefD := dk ("ends_chunk", none) "ends_chunk" "ends_chunk" s_ends_chunk
def d_write_chunk : He.DefD := dk ("write_chunk", none) "write_chunk" "write_chunk" s_write_chunk
def d_write_level : He.DefD := dk ("write_level", none) "write_level" "write_level" s_write_level
def d_build : He.DefD := dk ("build", none) "build" "build" s_build
def d_read : He.DefD := dk ("read", none) "read" "read" s_read
def d_write_rows : He.DefD := dk ("write_rows", none) "write_rows" "write_rows" s_write_rows
def d_read_rows : He.DefD := dk ("read_rows", none) "read_rows" "read_rows" s_read_rows
def d_write_state : He.DefD := dk ("write_state", none) "write_state" "write_state" s_write_state
def d_read_state : He.DefD := dk ("read_state", none) "read_state" "read_state" s_read_state
def d_other_tables : He.DefD := dk ("other_tables", none) "other_tables" "other_tables" s_other_tables
def d_set_table : He.DefD := dk ("set_table", none) "set_table" "set_table" s_set_table
def d_remove_table : He.DefD := dk ("remove_table", none) "remove_table" "remove_table" s_remove_table
def d_plain_tables : He.DefD := dk ("plain_tables", none) "plain_tables" "plain_tables" s_plain_tables
def d_Book_init : He.DefD := dk ("Book", some "__init__") "__init__" "Book.__init__" s_Book_init
def d_Book_address : He.DefD := dk ("Book", some "address") "address" "Book.address" s_Book_address
def d_Chunks_init : He.DefD := dk ("Chunks", some "__init__") "__init__" "Chunks.__init__" s_Chunks_init
def d_Chunks_put : He.DefD := dk ("Chunks", some "put") "put" "Chunks.put" s_Chunks_put
def d_Chunks_get : He.DefD := dk ("Chunks", some "get") "get" "Chunks.get" s_Chunks_get
def d_law_cell : He.DefD := dk ("_law_cell", none) "_law_cell" "_law_cell" s_law_cell
def d_law_thing : He.DefD := dk ("_law_thing", none) "_law_thing" "_law_thing" s_law_thing
def d_law_draws : He.DefD := dk ("_law_draws", none) "_law_draws" "_law_draws" s_law_draws
def d_law_char : He.DefD := dk ("_law_char", none) "_law_char" "_law_char" s_law_char
def d_law_text : He.DefD := dk ("_law_text", none) "_law_text" "_law_text" s_law_text
def d_law_integer : He.DefD := dk ("_law_integer", none) "_law_integer" "_law_integer" s_law_integer
def d_law_value : He.DefD := dk ("_law_value", none) "_law_value" "_law_value" s_law_value
def d_law_name : He.DefD := dk ("_law_name", none) "_law_name" "_law_name" s_law_name
def d_law_names : He.DefD := dk ("_law_names", none) "_law_names" "_law_names" s_law_names
def d_law_columns : He.DefD := dk ("_law_columns", none) "_law_columns" "_law_columns" s_law_columns
def d_law_drawn_key : He.DefD := dk ("_law_drawn_key", none) "_law_drawn_key" "_law_drawn_key" s_law_drawn_key
def d_law_form : He.DefD := dk ("_law_form", none) "_law_form" "_law_form" s_law_form
def d_law_row : He.DefD := dk ("_law_row", none) "_law_row" "_law_row" s_law_row
def d_law_key_of : He.DefD := dk ("_law_key_of", none) "_law_key_of" "_law_key_of" s_law_key_of
def d_law_table_rows : He.DefD := dk ("_law_table_rows", none) "_law_table_rows" "_law_table_rows" s_law_table_rows
def d_law_same : He.DefD := dk ("_law_same", none) "_law_same" "_law_same" s_law_same
def d_law_table : He.DefD := dk ("_law_table", none) "_law_table" "_law_table" s_law_table
def d_law_tables : He.DefD := dk ("_law_tables", none) "_law_tables" "_law_tables" s_law_tables
def d_law_wide : He.DefD := dk ("_law_wide", none) "_law_wide" "_law_wide" s_law_wide
def d_law_is_plain : He.DefD := dk ("_law_is_plain", none) "_law_is_plain" "_law_is_plain" s_law_is_plain
def d_law_at_once : He.DefD := dk ("_law_at_once", none) "_law_at_once" "_law_at_once" s_law_at_once
def d_law_step_by_step : He.DefD := dk ("_law_step_by_step", none) "_law_step_by_step" "_law_step_by_step" s_law_step_by_step
def d_law_mostly_at_once : He.DefD := dk ("_law_mostly_at_once", none) "_law_mostly_at_once" "_law_mostly_at_once" s_law_mostly_at_once
def d_law_other_form : He.DefD := dk ("_law_other_form", none) "_law_other_form" "_law_other_form" s_law_other_form
def d_law_with_change : He.DefD := dk ("_law_with_change", none) "_law_with_change" "_law_with_change" s_law_with_change
def d_law : He.DefD := dk ("law", none) "law" "law" s_law
def fnA : List He.DefD := [d_encode, d_char_at, d_read_digits, d_read_integer, d_read_text, d_read_item, d_decode_prefix, d_decode, d_base_kind, d_accepts, d_digest, d_column_names, d_fits, d_split_row, d_join_row, d_ends_chunk, d_write_chunk, d_write_level, d_build, d_read, d_write_rows, d_read_rows, d_write_state, d_read_state, d_other_tables, d_set_table, d_remove_table, d_plain_tables, d_Book_init, d_Book_address]
def fnB : List He.DefD := [d_Chunks_init, d_Chunks_put, d_Chunks_get, d_law_cell, d_law_thing, d_law_draws, d_law_char, d_law_text, d_law_integer, d_law_value, d_law_name, d_law_names, d_law_columns, d_law_drawn_key, d_law_form, d_law_row, d_law_key_of, d_law_table_rows, d_law_same, d_law_table, d_law_tables, d_law_wide, d_law_is_plain, d_law_at_once, d_law_step_by_step, d_law_mostly_at_once, d_law_other_form, d_law_with_change, d_law]
def fnV : List He.DefD := fnA ++ fnB
def faG1 : List He.Fa := [.glo "encode", .glo "char_at", .glo "read_digits", .glo "read_integer", .glo "read_text", .glo "read_item", .glo "decode_prefix", .glo "decode", .glo "base_kind", .glo "accepts", .glo "digest", .glo "column_names", .glo "fits", .glo "split_row", .glo "join_row", .glo "ends_chunk", .glo "write_chunk", .glo "write_level", .glo "build", .glo "read", .glo "write_rows", .glo "read_rows", .glo "write_state", .glo "read_state", .glo "other_tables", .glo "set_table", .glo "remove_table", .glo "plain_tables", .glo "Book", .glo "Chunks", .glo "_law_cell", .glo "_law_thing", .glo "_law_draws", .glo "_law_char", .glo "_law_text"]
def faG2 : List He.Fa := [.glo "_law_integer", .glo "_law_value", .glo "_law_name", .glo "_law_names", .glo "_law_columns", .glo "_law_drawn_key", .glo "_law_form", .glo "_law_row", .glo "_law_key_of", .glo "_law_table_rows", .glo "_law_same", .glo "_law_table", .glo "_law_tables", .glo "_law_wide", .glo "_law_is_plain", .glo "_law_at_once", .glo "_law_step_by_step", .glo "_law_mostly_at_once", .glo "_law_other_form", .glo "_law_with_change", .glo "law"]
def faF : List He.Fa := [.free "len", .free "isinstance", .free "int", .free "str", .free "tuple", .free "list", .free "dict", .free "sorted", .free "range", .free "zip", .free "ord", .free "sum", .free "bool"]
def faC : List He.Fa := [.str "DIGITS" "0123456789", .int "MOST_DIGITS" 60, .int "MOST_SIZE_DIGITS" 6, .int "MOST_LEVELS" 12, .int "MOST_ENTRIES" 8,
  .cls "Book", .cls "Chunks", .noat "Book" "numbers", .noat "Chunks" "book", .noat "Chunks" "reads", .noat "Chunks" "texts", .meth "Book" "address", .meth "Chunks" "put", .meth "Chunks" "get", .mkr "Book", .mkr "Chunks"]
def faV : List He.Fa := faG1 ++ (faG2 ++ (faF ++ faC))
def looseA : List Str := [("_wall" : Str), ("__name__" : Str), ("VersionError" : Str), ("InvalidText" : Str), ("TornText" : Str), ("InvalidRow" : Str), ("DuplicateKey" : Str), ("MissingChunk" : Str), ("DIGITS" : Str), ("MOST_DIGITS" : Str), ("MOST_SIZE_DIGITS" : Str), ("MOST_LEVELS" : Str), ("encode" : Str), ("char_at" : Str), ("read_digits" : Str), ("read_integer" : Str), ("read_text" : Str), ("read_item" : Str), ("decode_prefix" : Str), ("decode" : Str), ("base_kind" : Str), ("accepts" : Str), ("digest" : Str), ("column_names" : Str), ("fits" : Str)]
def looseB : List Str := [("split_row" : Str), ("join_row" : Str), ("MOST_ENTRIES" : Str), ("ends_chunk" : Str), ("write_chunk" : Str), ("write_level" : Str), ("build" : Str), ("read" : Str), ("write_rows" : Str), ("read_rows" : Str), ("write_state" : Str), ("read_state" : Str), ("other_tables" : Str), ("set_table" : Str), ("remove_table" : Str), ("plain_tables" : Str), ("Book" : Str), ("Chunks" : Str), ("_law_cell" : Str), ("_law_thing" : Str), ("_law_draws" : Str), ("_law_char" : Str), ("_law_text" : Str), ("_law_integer" : Str), ("_law_value" : Str)]
def looseC : List Str := [("_law_name" : Str), ("_law_names" : Str), ("_law_columns" : Str), ("_law_drawn_key" : Str), ("_law_form" : Str), ("_law_row" : Str), ("_law_key_of" : Str), ("_law_table_rows" : Str), ("_law_same" : Str), ("_law_table" : Str), ("_law_tables" : Str), ("_law_wide" : Str), ("_law_is_plain" : Str), ("_law_at_once" : Str), ("_law_step_by_step" : Str), ("_law_mostly_at_once" : Str), ("_law_other_form" : Str), ("_law_with_change" : Str)]
def looseV : List Str := looseA ++ (looseB ++ looseC)
structure Tx (K : PySem.W.Frag) (mg : Str → Option Value) : Prop where
  says : He.SaysD faV fnV K
  gl : ∀ x : Str, (He.Fa.glo x).ok K = true → mg x = some (.ref (He.ga K x))
  fr : ∀ x : Str, (He.Fa.free x).ok K = true → mg x = none
  it : ∀ (x : Str) (i : Int), (He.Fa.int x i).ok K = true → ∃ t, mg x = some (.int i t)
  sr : ∀ (x z : Str), (He.Fa.str x z).ok K = true → ∃ t, mg x = some (.str z t)
theorem tx_of {K : PySem.W.Frag} {h : Heap} {mg : Str → Option Value} (X : K.In h) (G : h.Ns mainGlobals mg) (c : He.SaysD faV fnV K) : Tx K mg :=
  ⟨c, fun _ q => He.glo_ok X G q, fun _ q => He.free_ok X G q, fun _ _ q => He.int_ok X G q, fun _ _ q => He.str_ok X G q⟩
structure FnAt (K : PySem.W.Frag) (mg : Str → Option Value) (x : Str) (st : Stmt) : Prop where
  ex : ∃ f fd, FunD K x x (defArgs st) (defBody st) (defScope st) [] [] f fd ∧ mg x = some (.ref f)
structure MtAt (K : PySem.W.Frag) (C x qual : Str) (st : Stmt) : Prop where
  ex : ∃ fd, FunD K x qual (defArgs st) (defBody st) (defScope st) [] [] (He.fAd K (C, some x)) fd
section
variable {K : PySem.W.Frag} {mg : Str → Option Value}
theorem Tx.m_len (T : Tx K mg) : mg "len" = none := T.fr _ (T.says.fact 56 (f := .free "len") rfl)
theorem Tx.m_isinstance (T : Tx K mg) : mg "isinstance" = none := T.fr _ (T.says.fact 57 (f := .free "isinstance") rfl)
theorem Tx.m_int (T : Tx K mg) : mg "int" = none := T.fr _ (T.says.fact 58 (f := .free "int") rfl)
theorem Tx.m_str (T : Tx K mg) : mg "str" = none := T.fr _ (T.says.fact 59 (f := .free "str") rfl)
theorem Tx.m_tuple (T : Tx K mg) : mg "tuple" = none := T.fr _ (T.says.fact 60 (f := .free "tuple") rfl)
theorem Tx.m_list (T : Tx K mg) : mg "list" = none := T.fr _ (T.says.fact 61 (f := .free "list") rfl)
theorem Tx.m_dict (T : Tx K mg) : mg "dict" = none := T.fr _ (T.says.fact 62 (f := .free "dict") rfl)
theorem Tx.m_sorted (T : Tx K mg) : mg "sorted" = none := T.fr _ (T.says.fact 63 (f := .free "sorted") rfl)
theorem Tx.m_range (T : Tx K mg) : mg "range" = none := T.fr _ (T.says.fact 64 (f := .free "range") rfl)
theorem Tx.m_zip (T : Tx K mg) : mg "zip" = none := T.fr _ (T.says.fact 65 (f := .free "zip") rfl)
theorem Tx.m_ord (T : Tx K mg) : mg "ord" = none := T.fr _ (T.says.fact 66 (f := .free "ord") rfl)
theorem Tx.m_sum (T : Tx K mg) : mg "sum" = none := T.fr _ (T.says.fact 67 (f := .free "sum") rfl)
theorem Tx.m_bool (T : Tx K mg) : mg "bool" = none := T.fr _ (T.says.fact 68 (f := .free "bool") rfl)
theorem Tx.k_DIGITS (T : Tx K mg) : ∃ t, mg "DIGITS" = some (.str "0123456789" t) := T.sr _ _ (T.says.fact 69 (f := .str "DIGITS" "0123456789") rfl)
theorem Tx.k_MOST_DIGITS (T : Tx K mg) : ∃ t, mg "MOST_DIGITS" = some (.int 60 t) := T.it _ _ (T.says.fact 70 (f := .int "MOST_DIGITS" 60) rfl)
theorem Tx.k_MOST_SIZE_DIGITS (T : Tx K mg) : ∃ t, mg "MOST_SIZE_DIGITS" = some (.int 6 t) := T.it _ _ (T.says.fact 71 (f := .int "MOST_SIZE_DIGITS" 6) rfl)
theorem Tx.k_MOST_LEVELS (T : Tx K mg) : ∃ t, mg "MOST_LEVELS" = some (.int 12 t) := T.it _ _ (T.says.fact 72 (f := .int "MOST_LEVELS" 12) rfl)
theorem Tx.k_MOST_ENTRIES (T : Tx K mg) : ∃ t, mg "MOST_ENTRIES" = some (.int 8 t) := T.it _ _ (T.says.fact 73 (f := .int "MOST_ENTRIES" 8) rfl)
theorem Tx.cl_Book (T : Tx K mg) : Cls K (He.ga K "Book") := He.cls_ok (T.says.fact 74 (f := .cls "Book") rfl)
theorem Tx.cl_Chunks (T : Tx K mg) : Cls K (He.ga K "Chunks") := He.cls_ok (T.says.fact 75 (f := .cls "Chunks") rfl)
theorem Tx.na_numbers (T : Tx K mg) : NoAttr K (He.ga K "Book") "numbers" := He.noat_ok (T.says.fact 76 (f := .noat "Book" "numbers") rfl)
theorem Tx.na_book (T : Tx K mg) : NoAttr K (He.ga K "Chunks") "book" := He.noat_ok (T.says.fact 77 (f := .noat "Chunks" "book") rfl)
theorem Tx.na_reads (T : Tx K mg) : NoAttr K (He.ga K "Chunks") "reads" := He.noat_ok (T.says.fact 78 (f := .noat "Chunks" "reads") rfl)
theorem Tx.na_texts (T : Tx K mg) : NoAttr K (He.ga K "Chunks") "texts" := He.noat_ok (T.says.fact 79 (f := .noat "Chunks" "texts") rfl)
theorem Tx.mt_address (T : Tx K mg) : Meth K (He.ga K "Book") "address" (He.fAd K ("Book", some "address")) := He.meth_ok (T.says.fact 80 (f := .meth "Book" "address") rfl)
theorem Tx.mt_put (T : Tx K mg) : Meth K (He.ga K "Chunks") "put" (He.fAd K ("Chunks", some "put")) := He.meth_ok (T.says.fact 81 (f := .meth "Chunks" "put") rfl)
theorem Tx.mt_get (T : Tx K mg) : Meth K (He.ga K "Chunks") "get" (He.fAd K ("Chunks", some "get")) := He.meth_ok (T.says.fact 82 (f := .meth "Chunks" "get") rfl)
theorem Tx.mk_Book (T : Tx K mg) : Mk K (He.ga K "Book") (He.fAd K ("Book", some "__init__")) := He.mkr_ok (T.says.fact 83 (f := .mkr "Book") rfl)
theorem Tx.mk_Chunks (T : Tx K mg) : Mk K (He.ga K "Chunks") (He.fAd K ("Chunks", some "__init__")) := He.mkr_ok (T.says.fact 84 (f := .mkr "Chunks") rfl)
theorem Tx.g_Book (T : Tx K mg) : mg "Book" = some (.ref (He.ga K "Book")) := T.gl _ (T.says.fact 28 (f := .glo "Book") rfl)
theorem Tx.g_Chunks (T : Tx K mg) : mg "Chunks" = some (.ref (He.ga K "Chunks")) := T.gl _ (T.says.fact 29 (f := .glo "Chunks") rfl)
theorem Tx.at_encode (T : Tx K mg) : FnAt K mg "encode" s_encode := let ⟨fd, F⟩ := T.says.def_ 0 (d := d_encode) rfl; ⟨⟨_, fd, F, T.gl _ (T.says.fact 0 (f := .glo "encode") rfl)⟩⟩
theorem Tx.at_char_at (T : Tx K mg) : FnAt K mg "char_at" s_char_at := let ⟨fd, F⟩ := T.says.def_ 1 (d := d_char_at) rfl; ⟨⟨_, fd, F, T.gl _ (T.says.fact 1 (f := .glo "char_at") rfl)⟩⟩
theorem Tx.at_read_digits (T : Tx K mg) : FnAt K mg "read_digits" s_read_digits := let ⟨fd, F⟩ := T.says.def_ 2 (d := d_read_digits) rfl; ⟨⟨_, fd, F, T.gl _ (T.says.fact 2 (f := .glo "read_digits") rfl)⟩⟩
theorem Tx.at_read_integer (T : Tx K mg) : FnAt K mg "read_integer" s_read_integer := let ⟨fd, F⟩ := T.says.def_ 3 (d := d_read_integer) rfl; ⟨⟨_, fd, F, T.gl _ (T.says.fact 3 (f := .glo "read_integer") rfl)⟩⟩
theorem Tx.at_read_text (T : Tx K mg) : FnAt K mg "read_text" s_read_text := let ⟨fd, F⟩ := T.says.def_ 4 (d := d_read_text) rfl; ⟨⟨_, fd, F, T.gl _ (T.says.fact 4 (f := .glo "read_text") rfl)⟩⟩
theorem Tx.at_read_item (T : Tx K mg) : FnAt K mg "read_item" s_read_item := let ⟨fd, F⟩ := T.says.def_ 5 (d := d_read_item) rfl; ⟨⟨_, fd, F, T.gl _ (T.says.fact 5 (f := .glo "read_item") rfl)⟩⟩
theorem Tx.at_decode_prefix (T : Tx K mg) : FnAt K mg "decode_prefix" s_decode_prefix := let ⟨fd, F⟩ := T.says.def_ 6 (d := d_decode_prefix) rfl; ⟨⟨_, fd, F, T.gl _ (T.says.fact 6 (f := .glo "decode_prefix") rfl)⟩⟩
theorem Tx.at_decode (T : Tx K mg) : FnAt K mg "decode" s_decode := let ⟨fd, F⟩ := T.says.def_ 7 (d := d_decode) rfl; ⟨⟨_, fd, F, T.gl _ (T.says.fact 7 (f := .glo "decode") rfl)⟩⟩
theorem Tx.at_base_kind (T : Tx K mg) : FnAt K mg "base_kind" s_base_kind := let ⟨fd, F⟩ := T.says.def_ 8 (d := d_base_kind) rfl; ⟨⟨_, fd, F, T.gl _ (T.says.fact 8 (f := .glo "base_kind") rfl)⟩⟩
theorem Tx.at_accepts (T : Tx K mg) : FnAt K mg "accepts" s_accepts := let ⟨fd, F⟩ := T.says.def_ 9 (d := d_accepts) rfl; ⟨⟨_, fd, F, T.gl _ (T.says.fact 9 (f := .glo "accepts") rfl)⟩⟩
theorem Tx.at_digest (T : Tx K mg) : FnAt K mg "digest" s_digest := let ⟨fd, F⟩ := T.says.def_ 10 (d := d_digest) rfl; ⟨⟨_, fd, F, T.gl _ (T.says.fact 10 (f := .glo "digest") rfl)⟩⟩
theorem Tx.at_column_names (T : Tx K mg) : FnAt K mg "column_names" s_column_names := let ⟨fd, F⟩ := T.says.def_ 11 (d := d_column_names) rfl; ⟨⟨_, fd, F, T.gl _ (T.says.fact 11 (f := .glo "column_names") rfl)⟩⟩
theorem Tx.at_fits (T : Tx K mg) : FnAt K mg "fits" s_fits := let ⟨fd, F⟩ := T.says.def_ 12 (d := d_fits) rfl; ⟨⟨_, fd, F, T.gl _ (T.says.fact 12 (f := .glo "fits") rfl)⟩⟩
theorem Tx.at_split_row (T : Tx K mg) : FnAt K mg "split_row" s_split_row := let ⟨fd, F⟩ := T.says.def_ 13 (d := d_split_row) rfl; ⟨⟨_, fd, F, T.gl _ (T.says.fact 13 (f := .glo "split_row") rfl)⟩⟩
theorem Tx.at_join_row (T : Tx K mg) : FnAt K mg "join_row" s_join_row := let ⟨fd, F⟩ := T.says.def_ 14 (d := d_join_row) rfl; ⟨⟨_, fd, F, T.gl _ (T.says.fact 14 (f := .glo "join_row") rfl)⟩⟩
theorem Tx.at_ends_chunk (T : Tx K mg) : FnAt K mg "ends_chunk" s_ends_chunk := let ⟨fd, F⟩ := T.says.def_ 15 (d := d_ends_chunk) rfl; ⟨⟨_, fd, F, T.gl _ (T.says.fact 15 (f := .glo "ends_chunk") rfl)⟩⟩
theorem Tx.at_write_chunk (T : Tx K mg) : FnAt K mg "write_chunk" s_write_chunk := let ⟨fd, F⟩ := T.says.def_ 16 (d := d_write_chunk) rfl; ⟨⟨_, fd, F, T.gl _ (T.says.fact 16 (f := .glo "write_chunk") rfl)⟩⟩
theorem Tx.at_write_level (T : Tx K mg) : FnAt K mg "write_level" s_write_level := let ⟨fd, F⟩ := T.says.def_ 17 (d := d_write_level) rfl; ⟨⟨_, fd, F, T.gl _ (T.says.fact 17 (f := .glo "write_level") rfl)⟩⟩
theorem Tx.at_build (T : Tx K mg) : FnAt K mg "build" s_build := let ⟨fd, F⟩ := T.says.def_ 18 (d := d_build) rfl; ⟨⟨_, fd, F, T.gl _ (T.says.fact 18 (f := .glo "build") rfl)⟩⟩
theorem Tx.at_read (T : Tx K mg) : FnAt K mg "read" s_read := let ⟨fd, F⟩ := T.says.def_ 19 (d := d_read) rfl; ⟨⟨_, fd, F, T.gl _ (T.says.fact 19 (f := .glo "read") rfl)⟩⟩
theorem Tx.at_write_rows (T : Tx K mg) : FnAt K mg "write_rows" s_write_rows := let ⟨fd, F⟩ := T.says.def_ 20 (d := d_write_rows) rfl; ⟨⟨_, fd, F, T.gl _ (T.says.fact 20 (f := .glo "write_rows") rfl)⟩⟩
theorem Tx.at_read_rows (T : Tx K mg) : FnAt K mg "read_rows" s_read_rows := let ⟨fd, F⟩ := T.says.def_ 21 (d := d_read_rows) rfl; ⟨⟨_, fd, F, T.gl _ (T.says.fact 21 (f := .glo "read_rows") rfl)⟩⟩
theorem Tx.at_write_state (T : Tx K mg) : FnAt K mg "write_state" s_write_state := let ⟨fd, F⟩ := T.says.def_ 22 (d := d_write_state) rfl; ⟨⟨_, fd, F, T.gl _ (T.says.fact 22 (f := .glo "write_state") rfl)⟩⟩
theorem Tx.at_read_state (T : Tx K mg) : FnAt K mg "read_state" s_read_state := let ⟨fd, F⟩ := T.says.def_ 23 (d := d_read_state) rfl; ⟨⟨_, fd, F, T.gl _ (T.says.fact 23 (f := .glo "read_state") rfl)⟩⟩
theorem Tx.at_other_tables (T : Tx K mg) : FnAt K mg "other_tables" s_other_tables := let ⟨fd, F⟩ := T.says.def_ 24 (d := d_other_tables) rfl; ⟨⟨_, fd, F, T.gl _ (T.says.fact 24 (f := .glo "other_tables") rfl)⟩⟩
theorem Tx.at_set_table (T : Tx K mg) : FnAt K mg "set_table" s_set_table := let ⟨fd, F⟩ := T.says.def_ 25 (d := d_set_table) rfl; ⟨⟨_, fd, F, T.gl _ (T.says.fact 25 (f := .glo "set_table") rfl)⟩⟩
theorem Tx.at_remove_table (T : Tx K mg) : FnAt K mg "remove_table" s_remove_table := let ⟨fd, F⟩ := T.says.def_ 26 (d := d_remove_table) rfl; ⟨⟨_, fd, F, T.gl _ (T.says.fact 26 (f := .glo "remove_table") rfl)⟩⟩
theorem Tx.at_plain_tables (T : Tx K mg) : FnAt K mg "plain_tables" s_plain_tables := let ⟨fd, F⟩ := T.says.def_ 27 (d := d_plain_tables) rfl; ⟨⟨_, fd, F, T.gl _ (T.says.fact 27 (f := .glo "plain_tables") rfl)⟩⟩
theorem Tx.at_Book_init (T : Tx K mg) : MtAt K "Book" "__init__" "Book.__init__" s_Book_init := let ⟨fd, F⟩ := T.says.def_ 28 (d := d_Book_init) rfl; ⟨⟨fd, F⟩⟩
theorem Tx.at_Book_address (T : Tx K mg) : MtAt K "Book" "address" "Book.address" s_Book_address := let ⟨fd, F⟩ := T.says.def_ 29 (d := d_Book_address) rfl; ⟨⟨fd, F⟩⟩
theorem Tx.at_Chunks_init (T : Tx K mg) : MtAt K "Chunks" "__init__" "Chunks.__init__" s_Chunks_init := let ⟨fd, F⟩ := T.says.def_ 30 (d := d_Chunks_init) rfl; ⟨⟨fd, F⟩⟩
theorem Tx.at_Chunks_put (T : Tx K mg) : MtAt K "Chunks" "put" "Chunks.put" s_Chunks_put := let ⟨fd, F⟩ := T.says.def_ 31 (d := d_Chunks_put) rfl; ⟨⟨fd, F⟩⟩
theorem Tx.at_Chunks_get (T : Tx K mg) : MtAt K "Chunks" "get" "Chunks.get" s_Chunks_get := let ⟨fd, F⟩ := T.says.def_ 32 (d := d_Chunks_get) rfl; ⟨⟨fd, F⟩⟩
theorem Tx.at_law_cell (T : Tx K mg) : FnAt K mg "_law_cell" s_law_cell := let ⟨fd, F⟩ := T.says.def_ 33 (d := d_law_cell) rfl; ⟨⟨_, fd, F, T.gl _ (T.says.fact 30 (f := .glo "_law_cell") rfl)⟩⟩
theorem Tx.at_law_thing (T : Tx K mg) : FnAt K mg "_law_thing" s_law_thing := let ⟨fd, F⟩ := T.says.def_ 34 (d := d_law_thing) rfl; ⟨⟨_, fd, F, T.gl _ (T.says.fact 31 (f := .glo "_law_thing") rfl)⟩⟩
theorem Tx.at_law_draws (T : Tx K mg) : FnAt K mg "_law_draws" s_law_draws := let ⟨fd, F⟩ := T.says.def_ 35 (d := d_law_draws) rfl; ⟨⟨_, fd, F, T.gl _ (T.says.fact 32 (f := .glo "_law_draws") rfl)⟩⟩
theorem Tx.at_law_char (T : Tx K mg) : FnAt K mg "_law_char" s_law_char := let ⟨fd, F⟩ := T.says.def_ 36 (d := d_law_char) rfl; ⟨⟨_, fd, F, T.gl _ (T.says.fact 33 (f := .glo "_law_char") rfl)⟩⟩
theorem Tx.at_law_text (T : Tx K mg) : FnAt K mg "_law_text" s_law_text := let ⟨fd, F⟩ := T.says.def_ 37 (d := d_law_text) rfl; ⟨⟨_, fd, F, T.gl _ (T.says.fact 34 (f := .glo "_law_text") rfl)⟩⟩
theorem Tx.at_law_integer (T : Tx K mg) : FnAt K mg "_law_integer" s_law_integer := let ⟨fd, F⟩ := T.says.def_ 38 (d := d_law_integer) rfl; ⟨⟨_, fd, F, T.gl _ (T.says.fact 35 (f := .glo "_law_integer") rfl)⟩⟩
theorem Tx.at_law_value (T : Tx K mg) : FnAt K mg "_law_value" s_law_value := let ⟨fd, F⟩ := T.says.def_ 39 (d := d_law_value) rfl; ⟨⟨_, fd, F, T.gl _ (T.says.fact 36 (f := .glo "_law_value") rfl)⟩⟩
theorem Tx.at_law_name (T : Tx K mg) : FnAt K mg "_law_name" s_law_name := let ⟨fd, F⟩ := T.says.def_ 40 (d := d_law_name) rfl; ⟨⟨_, fd, F, T.gl _ (T.says.fact 37 (f := .glo "_law_name") rfl)⟩⟩
theorem Tx.at_law_names (T : Tx K mg) : FnAt K mg "_law_names" s_law_names := let ⟨fd, F⟩ := T.says.def_ 41 (d := d_law_names) rfl; ⟨⟨_, fd, F, T.gl _ (T.says.fact 38 (f := .glo "_law_names") rfl)⟩⟩
theorem Tx.at_law_columns (T : Tx K mg) : FnAt K mg "_law_columns" s_law_columns := let ⟨fd, F⟩ := T.says.def_ 42 (d := d_law_columns) rfl; ⟨⟨_, fd, F, T.gl _ (T.says.fact 39 (f := .glo "_law_columns") rfl)⟩⟩
theorem Tx.at_law_drawn_key (T : Tx K mg) : FnAt K mg "_law_drawn_key" s_law_drawn_key := let ⟨fd, F⟩ := T.says.def_ 43 (d := d_law_drawn_key) rfl; ⟨⟨_, fd, F, T.gl _ (T.says.fact 40 (f := .glo "_law_drawn_key") rfl)⟩⟩
theorem Tx.at_law_form (T : Tx K mg) : FnAt K mg "_law_form" s_law_form := let ⟨fd, F⟩ := T.says.def_ 44 (d := d_law_form) rfl; ⟨⟨_, fd, F, T.gl _ (T.says.fact 41 (f := .glo "_law_form") rfl)⟩⟩
theorem Tx.at_law_row (T : Tx K mg) : FnAt K mg "_law_row" s_law_row := let ⟨fd, F⟩ := T.says.def_ 45 (d := d_law_row) rfl; ⟨⟨_, fd, F, T.gl _ (T.says.fact 42 (f := .glo "_law_row") rfl)⟩⟩
theorem Tx.at_law_key_of (T : Tx K mg) : FnAt K mg "_law_key_of" s_law_key_of := let ⟨fd, F⟩ := T.says.def_ 46 (d := d_law_key_of) rfl; ⟨⟨_, fd, F, T.gl _ (T.says.fact 43 (f := .glo "_law_key_of") rfl)⟩⟩
theorem Tx.at_law_table_rows (T : Tx K mg) : FnAt K mg "_law_table_rows" s_law_table_rows := let ⟨fd, F⟩ := T.says.def_ 47 (d := d_law_table_rows) rfl; ⟨⟨_, fd, F, T.gl _ (T.says.fact 44 (f := .glo "_law_table_rows") rfl)⟩⟩
theorem Tx.at_law_same (T : Tx K mg) : FnAt K mg "_law_same" s_law_same := let ⟨fd, F⟩ := T.says.def_ 48 (d := d_law_same) rfl; ⟨⟨_, fd, F, T.gl _ (T.says.fact 45 (f := .glo "_law_same") rfl)⟩⟩
theorem Tx.at_law_table (T : Tx K mg) : FnAt K mg "_law_table" s_law_table := let ⟨fd, F⟩ := T.says.def_ 49 (d := d_law_table) rfl; ⟨⟨_, fd, F, T.gl _ (T.says.fact 46 (f := .glo "_law_table") rfl)⟩⟩
theorem Tx.at_law_tables (T : Tx K mg) : FnAt K mg "_law_tables" s_law_tables := let ⟨fd, F⟩ := T.says.def_ 50 (d := d_law_tables) rfl; ⟨⟨_, fd, F, T.gl _ (T.says.fact 47 (f := .glo "_law_tables") rfl)⟩⟩
theorem Tx.at_law_wide (T : Tx K mg) : FnAt K mg "_law_wide" s_law_wide := let ⟨fd, F⟩ := T.says.def_ 51 (d := d_law_wide) rfl; ⟨⟨_, fd, F, T.gl _ (T.says.fact 48 (f := .glo "_law_wide") rfl)⟩⟩
theorem Tx.at_law_is_plain (T : Tx K mg) : FnAt K mg "_law_is_plain" s_law_is_plain := let ⟨fd, F⟩ := T.says.def_ 52 (d := d_law_is_plain) rfl; ⟨⟨_, fd, F, T.gl _ (T.says.fact 49 (f := .glo "_law_is_plain") rfl)⟩⟩
theorem Tx.at_law_at_once (T : Tx K mg) : FnAt K mg "_law_at_once" s_law_at_once := let ⟨fd, F⟩ := T.says.def_ 53 (d := d_law_at_once) rfl; ⟨⟨_, fd, F, T.gl _ (T.says.fact 50 (f := .glo "_law_at_once") rfl)⟩⟩
theorem Tx.at_law_step_by_step (T : Tx K mg) : FnAt K mg "_law_step_by_step" s_law_step_by_step := let ⟨fd, F⟩ := T.says.def_ 54 (d := d_law_step_by_step) rfl; ⟨⟨_, fd, F, T.gl _ (T.says.fact 51 (f := .glo "_law_step_by_step") rfl)⟩⟩
theorem Tx.at_law_mostly_at_once (T : Tx K mg) : FnAt K mg "_law_mostly_at_once" s_law_mostly_at_once := let ⟨fd, F⟩ := T.says.def_ 55 (d := d_law_mostly_at_once) rfl; ⟨⟨_, fd, F, T.gl _ (T.says.fact 52 (f := .glo "_law_mostly_at_once") rfl)⟩⟩
theorem Tx.at_law_other_form (T : Tx K mg) : FnAt K mg "_law_other_form" s_law_other_form := let ⟨fd, F⟩ := T.says.def_ 56 (d := d_law_other_form) rfl; ⟨⟨_, fd, F, T.gl _ (T.says.fact 53 (f := .glo "_law_other_form") rfl)⟩⟩
theorem Tx.at_law_with_change (T : Tx K mg) : FnAt K mg "_law_with_change" s_law_with_change := let ⟨fd, F⟩ := T.says.def_ 57 (d := d_law_with_change) rfl; ⟨⟨_, fd, F, T.gl _ (T.says.fact 54 (f := .glo "_law_with_change") rfl)⟩⟩
theorem Tx.at_law (T : Tx K mg) : FnAt K mg "law" s_law := let ⟨fd, F⟩ := T.says.def_ 58 (d := d_law) rfl; ⟨⟨_, fd, F, T.gl _ (T.says.fact 55 (f := .glo "law") rfl)⟩⟩
end
end Vt
-- VtTf
set_option Elab.async false
set_option linter.all false
set_option maxRecDepth 100000
set_option maxHeartbeats 4000000
namespace Vt
open PySem PySem.Spec PyProof.Rows L2
/-- the defs that make lambdas -/
def tfV : List He.Defn := [("write_state", none), ("_law_form", none), ("_law_tables", none), ("_law_with_change", none)]
/-- the tables of the defs that make lambdas are different objects -/
def exV (K : PySem.W.Frag) : Bool := decide (tfV.map fun p => (He.cT K p).2).Nodup
end Vt
-- VtHead
set_option Elab.async false
set_option linter.all false
set_option maxRecDepth 100000
set_option maxHeartbeats 0
namespace Vt
open PySem PySem.Spec PyProof.Rows L2
abbrev RV : PySem.W.OpenRow := PySem.W.OpenLaw.row PySem.Challenge.rw_versiontables_k21_whole_state_address
abbrev hkV : PySem.W.Hook := He.hookX 4 faV fnV [] tfV exV
def obV (s : PySem.W.SharedT) : He.AlX := He.obsX 4 faV fnV [] tfV exV (HandSHeadRun.getT s)
theorem obV_eq (s : PySem.W.SharedT) : obV s = hkV.obs s.abs := He.obsX_eq (HandSHeadRun.getT_eq s)
theorem runV (w : World) : HandSHeadRun.RunEq RV (PySem.W.view RV.prog [77]) hkV obV 6000 looseV w := by
  intro os
  kernel_rfl
end Vt
-- VtTop
set_option Elab.async false
set_option linter.all false
set_option maxRecDepth 100000
set_option maxHeartbeats 0
namespace Vt
abbrev WalkV : Prop := PySem.W.WalkO (PySem.W.view RV.prog [77]) looseV (PySem.W.XL (PySem.W.view RV.prog [77]) []) hkV.says RV.toRowW (HandSHeadRun.topDef RV.prog 77) [] fun f vs => PySem.call f vs
end Vt
section
open PySem PySem.W PySem.Calls PyProof.Rows
/-- the head, the witness: what is left is the law's own walk -/
theorem Vt.holds_of (call : Vt.WalkV) : PySem.Challenge.rw_versiontables_k21_whole_state_address.Holds := by
  w_on; o_law
  refine HandSHeadRun.head_any (r := OpenLaw.row PySem.Challenge.rw_versiontables_k21_whole_state_address) (q := view (OpenLaw.row PySem.Challenge.rw_versiontables_k21_whole_state_address).prog [77]) (H := Vt.hkV) (ob := Vt.obV) (M := 6000) (loose := Vt.looseV) (d := HandSHeadRun.topDef (OpenLaw.row PySem.Challenge.rw_versiontables_k21_whole_state_address).prog 77) (kwd := []) Vt.obV_eq
    (by kernel_rfl) (fun s => by kernel_rfl) Vt.runV (by kernel_rfl) (by kernel_rfl) (by kernel_rfl) (by rfl) (by first | assumption | decide +kernel) (by decide +kernel) ⟨rfl, rfl, rfl, rfl, rfl, by decide +kernel⟩ ?hw ?hc
  case hw => w_witness2
  case hc => exact call
end
-- VtTool
set_option Elab.async false
set_option linter.all false
set_option maxRecDepth 100000
set_option maxHeartbeats 4000000
namespace Vt
open PySem PySem.Spec PyProof.Rows L2
/-! ### heaps that go on -/
/-- the tuples stay -/
def TEx (H H' : Hp) : Prop := ∀ a xs, H a = some (.tup xs) → H' a = some (.tup xs)
theorem TEx.refl (H : Hp) : TEx H H := fun _ _ h => h
theorem TEx.trans {H H1 H2 : Hp} (a : TEx H H1) (b : TEx H1 H2) : TEx H H2 := fun x o h => b x o (a x o h)
theorem TEx.of {H H' : Hp} (e : Same H H') : TEx H H' := fun a xs h => e a _ h
/-- an object that is no tuple is written -/
theorem TEx.upd {H : Hp} {p : Addr} {o u : HO} (h : H p = some u) (hn : ∀ xs, u ≠ .tup xs) : TEx H (upd H p o) := fun a xs e => by
  rw [upd_ne (ne_of e h (fun z => hn xs z.symm))]
  exact e
theorem TEx.new {H : Hp} {p : Addr} {o : HO} (h : H p = none) : TEx H (L2.upd H p o) := fun a xs e => by
  rw [upd_ne (ne_of_none e h)]
  exact e
theorem same_new {H : Hp} {p : Addr} {o : HO} (h : H p = none) : Same H (upd H p o) := fun b u e => by
  rw [upd_ne (ne_of_none e h)]
  exact e
/-- what was unknown at H may change -/
theorem same_mut {H H' : Hp} {p : Addr} {o : HO} (e : Same H H') (h : H p = none) : Same H (upd H' p o) := fun b u q => by
  rw [upd_ne (ne_of_none q h)]
  exact e b u q
/-- all but the addresses of S stay -/
def ExB (S : List Addr) (H H' : Hp) : Prop := ∀ a o, a ∉ S → H a = some o → H' a = some o
theorem ExB.refl (S : List Addr) (H : Hp) : ExB S H H := fun _ _ _ h => h
theorem ExB.trans {S : List Addr} {H H1 H2 : Hp} (a : ExB S H H1) (b : ExB S H1 H2) : ExB S H H2 := fun x o n h => b x o n (a x o n h)
theorem ExB.of {S : List Addr} {H H' : Hp} (e : Same H H') : ExB S H H' := fun a o _ h => e a o h
theorem ExB.upd {S : List Addr} {H : Hp} {p : Addr} {o : HO} (h : p ∈ S) : ExB S H (L2.upd H p o) := fun a u n e => by
  have n2 : a ≠ p := fun z => n (by rw [z]; exact h)
  rw [upd_ne n2]
  exact e
theorem ExB.mono {S S' : List Addr} {H H' : Hp} (e : ExB S H H') (h : ∀ a ∈ S, a ∈ S') : ExB S' H H' := fun a o n q => e a o (fun z => n (h a z)) q
theorem ExB.tex {S : List Addr} {H H' : Hp} (e : ExB S H H') (h : ∀ a ∈ S, ∀ xs, H a ≠ some (.tup xs)) : TEx H H' := fun a xs q => e a _ (fun z => h a z xs q) q
/-! ### data of tuples -/
mutual
inductive Tp (H : Hp) : V → PyData → Prop
  | non : Tp H .non .none
  | bl (b : Bool) : Tp H (.bl b) (.bool b)
  | int (i : Int) : Tp H (.int i) (.int i)
  | str (x : Str) : Tp H (.str x) (.str x)
  | tup {a : Addr} {xs : List V} {ds : List PyData} : H a = some (.tup xs) → TpAll H xs ds → Tp H (.ref a) (.tuple ds)
inductive TpAll (H : Hp) : List V → List PyData → Prop
  | nil : TpAll H [] []
  | cons {v : V} {vs : List V} {d : PyData} {ds : List PyData} : Tp H v d → TpAll H vs ds → TpAll H (v :: vs) (d :: ds)
end
mutual
theorem Tp.up {H H' : Hp} (e : TEx H H') : ∀ (d : PyData) (v : V), Tp H v d → Tp H' v d
  | .none, _, h => by cases h; exact .non
  | .bool b, _, h => by cases h; exact .bl b
  | .int i, _, h => by cases h; exact .int i
  | .str x, _, h => by cases h; exact .str x
  | .list _, _, h => by cases h
  | .dict _, _, h => by cases h
  | .tuple ds, _, h => by
    cases h with
    | tup h1 h2 => exact .tup (e _ _ h1) (TpAll.up e ds _ h2)
theorem TpAll.up {H H' : Hp} (e : TEx H H') : ∀ (ds : List PyData) (vs : List V), TpAll H vs ds → TpAll H' vs ds
  | [], _, h => by cases h; exact .nil
  | d :: ds, _, h => by
    cases h with
    | cons h1 h2 => exact .cons (Tp.up e d _ h1) (TpAll.up e ds _ h2)
end
theorem Tp.mono {H H' : Hp} {v : V} {d : PyData} (e : TEx H H') (h : Tp H v d) : Tp H' v d := Tp.up e d v h
theorem TpAll.mono {H H' : Hp} {vs : List V} {ds : List PyData} (e : TEx H H') (h : TpAll H vs ds) : TpAll H' vs ds := TpAll.up e ds vs h
mutual
theorem Tp.toDp {K : PySem.W.Frag} {H : Hp} : ∀ (d : PyData) (v : V), Tp H v d → Dp K H v d
  | .none, _, h => by cases h; exact .non
  | .bool b, _, h => by cases h; exact .bl b
  | .int i, _, h => by cases h; exact .int i
  | .str x, _, h => by cases h; exact .str x
  | .list _, _, h => by cases h
  | .dict _, _, h => by cases h
  | .tuple ds, _, h => by
    cases h with
    | tup h1 h2 => exact .tup (SqT.of h1) (TpAll.toDp ds _ h2)
theorem TpAll.toDp {K : PySem.W.Frag} {H : Hp} : ∀ (ds : List PyData) (vs : List V), TpAll H vs ds → DpAll K H vs ds
  | [], _, h => by cases h; exact .nil
  | d :: ds, _, h => by
    cases h with
    | cons h1 h2 => exact .cons (Tp.toDp d _ h1) (TpAll.toDp ds _ h2)
end
theorem Tp.dp {K : PySem.W.Frag} {H : Hp} {v : V} {d : PyData} (h : Tp H v d) : Dp K H v d := Tp.toDp d v h
theorem Tp.inv {H : Hp} {v : V} {ds : List PyData} (h : Tp H v (.tuple ds)) : ∃ a xs, v = .ref a ∧ H a = some (.tup xs) ∧ TpAll H xs ds := by
  cases h with
  | tup h1 h2 => exact ⟨_, _, rfl, h1, h2⟩
theorem Tp.inv_int {H : Hp} {v : V} {i : Int} (h : Tp H v (.int i)) : v = .int i := by cases h; rfl
theorem Tp.inv_str {H : Hp} {v : V} {x : Str} (h : Tp H v (.str x)) : v = .str x := by cases h; rfl
theorem Tp.inv_non {H : Hp} {v : V} (h : Tp H v .none) : v = .non := by cases h; rfl
theorem TpAll.inv {H : Hp} {vs : List V} {d : PyData} {ds : List PyData} (h : TpAll H vs (d :: ds)) : ∃ v r, vs = v :: r ∧ Tp H v d ∧ TpAll H r ds := by
  cases h with
  | cons h1 h2 => exact ⟨_, _, rfl, h1, h2⟩
theorem TpAll.inv_nil {H : Hp} {vs : List V} (h : TpAll H vs []) : vs = [] := by cases h; rfl
theorem TpAll.length {H : Hp} : ∀ {ds : List PyData} {vs : List V}, TpAll H vs ds → vs.length = ds.length
  | [], _, h => by cases h; rfl
  | d :: ds, _, h => by
    cases h with
    | cons h1 h2 => exact congrArg Nat.succ (TpAll.length h2)
theorem TpAll.get {H : Hp} : ∀ {ds : List PyData} {vs : List V}, TpAll H vs ds → ∀ {i : Nat} {d : PyData}, ds[i]? = some d → ∃ v, vs[i]? = some v ∧ Tp H v d
  | [], _, _, i, d, e => by simp at e
  | d0 :: ds, _, h, i, d, e => by
    cases h with
    | cons h1 h2 =>
      cases i with
      | zero => simp at e; subst e; exact ⟨_, rfl, h1⟩
      | succ i => exact TpAll.get h2 (i := i) (by simpa using e)
theorem TpAll.get' {H : Hp} : ∀ {ds : List PyData} {vs : List V}, TpAll H vs ds → ∀ {i : Nat} {v : V}, vs[i]? = some v → ∃ d, ds[i]? = some d ∧ Tp H v d
  | [], _, h, i, v, e => by cases h; simp at e
  | d0 :: ds, _, h, i, v, e => by
    cases h with
    | cons h1 h2 =>
      cases i with
      | zero => simp at e; subst e; exact ⟨_, rfl, h1⟩
      | succ i => exact TpAll.get' h2 (i := i) (by simpa using e)
theorem TpAll.append {H : Hp} : ∀ {ds es : List PyData} {vs ws : List V}, TpAll H vs ds → TpAll H ws es → TpAll H (vs ++ ws) (ds ++ es)
  | [], _, _, _, h, k => by cases h; exact k
  | _ :: ds, _, _, _, h, k => by
    cases h with
    | cons h1 h2 => exact .cons h1 (TpAll.append h2 k)
theorem TpAll.one {H : Hp} {v : V} {d : PyData} (h : Tp H v d) : TpAll H [v] [d] := .cons h .nil
theorem TpAll.of_get {H : Hp} : ∀ {ds : List PyData} {vs : List V}, vs.length = ds.length → (∀ (i : Nat) (v : V) (d : PyData), vs[i]? = some v → ds[i]? = some d → Tp H v d) → TpAll H vs ds
  | [], [], _, _ => .nil
  | [], _ :: _, h, _ => by simp at h
  | _ :: _, [], h, _ => by simp at h
  | d :: ds, v :: vs, h, k => .cons (k 0 v d rfl rfl) (TpAll.of_get (by simpa using h) fun i v' d' e e' => k (i + 1) v' d' (by simpa using e) (by simpa using e'))
theorem TpAll.take {H : Hp} : ∀ {ds : List PyData} {vs : List V} (n : Nat), TpAll H vs ds → TpAll H (vs.take n) (ds.take n)
  | _, _, 0, _ => by simpa using TpAll.nil
  | [], _, n + 1, h => by cases h; exact .nil
  | _ :: _, _, n + 1, h => by
    cases h with
    | cons h1 h2 => exact .cons h1 (TpAll.take n h2)
theorem TpAll.drop {H : Hp} : ∀ {ds : List PyData} {vs : List V} (n : Nat), TpAll H vs ds → TpAll H (vs.drop n) (ds.drop n)
  | _, _, 0, h => h
  | [], _, n + 1, h => by cases h; exact .nil
  | _ :: _, _, n + 1, h => by
    cases h with
    | cons h1 h2 => exact TpAll.drop n h2
theorem TpAll.reverse {H : Hp} : ∀ {ds : List PyData} {vs : List V}, TpAll H vs ds → TpAll H vs.reverse ds.reverse
  | [], _, h => by cases h; exact .nil
  | _ :: _, _, h => by
    cases h with
    | cons h1 h2 => rw [List.reverse_cons, List.reverse_cons]; exact TpAll.append (TpAll.reverse h2) (TpAll.one h1)
theorem TpAll.strs {H : Hp} : ∀ {xs : List Str} {vs : List V}, TpAll H vs (xs.map PyData.str) → vs = xs.map V.str
  | [], _, h => by cases h; rfl
  | _ :: _, _, h => by
    cases h with
    | cons h1 h2 => cases h1; rw [TpAll.strs h2]; rfl
theorem TpAll.of_strs {H : Hp} : ∀ (xs : List Str), TpAll H (xs.map V.str) (xs.map PyData.str)
  | [] => .nil
  | x :: r => .cons (.str x) (TpAll.of_strs r)
/-! ### a def, called -/
section
variable (P : Program) (w : World) (K : PySem.W.Frag) (mg : Str → Option Value) (base : Heap)
structure Cal (k : Nat) (x : Str) (ps : List Str) (sp : Sp) : Prop where
  ex : ∃ f fd, FnOk P w K mg base CX0 k f fd ps sp ∧ mg x = some (.ref f) ∧ PySem.W.keepIn K (.ref f) = true ∧ Binds K fd ps []
end
theorem Cal.mono {P : Program} {w : World} {K : PySem.W.Frag} {mg : Str → Option Value} {base : Heap} {j k : Nat} {x : Str} {ps : List Str} {sp : Sp} (C : Cal P w K mg base j x ps sp) (h : j ≤ k) : Cal P w K mg base k x ps sp :=
  let ⟨f, fd, F, r⟩ := C.ex
  ⟨⟨f, fd, F.mono h, r⟩⟩
theorem pe_cal {X : Cx} {k : Nat} {x : Str} {ps : List Str} {sp : Sp} {p pos : Pos} {e : Expr} {es : List Expr} {t : TA} (C : Cal X.prog X.w X.K X.mg X.base k x ps sp) (hr : Room k X.A) (hg : Gl X x) (ha : PA X (e :: es) t)
    (hdb : (x == ("__debug__" : Str)) = false := by decide) (he : starEach (e :: es) X.env = (false, eval e X.env) :: starEach es X.env := by rfl) (hpl : (backTo pos (starEach es X.env)).any (·.1) = false := by rfl) :
    PE X (.Call (.Name x p) (e :: es) [] pos) (tCall sp [] E0 t) := by
  obtain ⟨f, fd, F, hm, hk, hb⟩ := C.ex
  exact pe_call F hr hg hm hk hb .nil pass0 ha hdb he hpl
/-- the text's def st, of the name x, as the head leaves it -/
abbrev FnP (K : PySem.W.Frag) (x : Str) (st : Stmt) (f : Addr) (fd : FuncData) : Prop := FunD K x x (defArgs st) (defBody st) (defScope st) [] [] f fd
/-- how its parameters bind: h is «fun _ _ _ _ _ _ us hl => match us, hl with | [_], _ => rfl» -/
def BindH (x : Str) (st : Stmt) (ps : List Str) : Prop := ∀ (kV doc pm : Value) (an : Option Addr) (cdv ct : Value) (us : List Value), us.length = ps.length → bindArgs (PySem.W.fnOf x x (defArgs st) (defBody st) (defScope st) .none kV doc pm an cdv ct) ⟨us, []⟩ = pure (ps.zip us)
section
variable {P : Program} {w : World} {K : PySem.W.Frag} {mg : Str → Option Value} {base : Heap}
abbrev cxV (P : Program) (w : World) (K : PySem.W.Frag) (mg : Str → Option Value) (base : Heap) (N : List Str) (x : Str) (st : Stmt) (f : Addr) (cdv : Value) (A : Around) (outer : List Env) (s : Shared) (H : Hp) (E : XK) : Cx :=
  (cxOf CX0 P w K mg base N x (defScope st) f cdv A outer s H E).nox
/-- THE RULE for a def -/
theorem cal_of {x : Str} {st : Stmt} {N ps : List Str} {k : Nat} {sp : Sp} (F : FnAt K mg x st) (S : FnScope N ps (defScope st)) (hb : BindH x st ps) (len : ∀ vs H Q E, sp vs H Q E → vs.length = ps.length)
    (body : ∀ (f : Addr) (cdv : Value) (A : Around) (outer : List Env) (s : Shared) (H0 : Hp) (E : XK), Room k (A.deeper (envOfC x (defScope st) s.heap.objs.size f cdv)) →
      ∃ t, PSs (cxV P w K mg base N x st f cdv A outer s H0 E) (defBody st) t ∧ ∀ (vs : List V) (H : Hp) (Q : VK), sp vs H Q E → t { nx := fun _ H' => Q .non H', rt := Q } (start N vs) H) : Cal P w K mg base (k + 1) x ps sp := by
  obtain ⟨f, fd, G, hm⟩ := F.ex
  refine ⟨⟨f, fd, ?_, hm, G.kp, G.bindsN hb⟩⟩
  refine G.ok S len fun cdv A outer s H vs Q E hr h => ?_
  obtain ⟨t, d, q⟩ := body f cdv A outer s H E hr
  exact ⟨t, PSs.nox d, q vs H Q h⟩
end
/-! ### methods -/
def BindM (x qual : Str) (st : Stmt) (ps : List Str) : Prop := ∀ (kV doc pm : Value) (an : Option Addr) (cdv ct : Value) (us : List Value), us.length = ps.length → bindArgs (PySem.W.fnOf x qual (defArgs st) (defBody st) (defScope st) .none kV doc pm an cdv ct) ⟨us, []⟩ = pure (ps.zip us)
section
variable (P : Program) (w : World) (K : PySem.W.Frag) (mg : Str → Option Value) (base : Heap)
structure CalM (k : Nat) (C : Addr) (m : Str) (ps : List Str) (sp : Sp) : Prop where
  ex : ∃ f fd, FnOk P w K mg base CX0 k f fd ps sp ∧ Meth K C m f ∧ Binds K fd ps []
  cl : Cls K C
structure CalI (k : Nat) (x : Str) (C : Addr) (ps : List Str) (sp : Sp) : Prop where
  ex : ∃ f fd, FnOk P w K mg base CX0 k f fd ps sp ∧ Mk K C f ∧ Binds K fd ps []
  gl : mg x = some (.ref C)
end
theorem pe_calm {X : Cx} {k : Nat} {C : Addr} {m : Str} {ps : List Str} {sp : Sp} {apos pos : Pos} {o e : Expr} {es : List Expr} {ta : TE} {t : TA} {pl : Sem Bool} (c : CalM X.prog X.w X.K X.mg X.base k C m ps sp) (he : PE X o ta) (hr : Room k X.A) (ha : PA X (e :: es) t)
    (hst : starEach (e :: es) X.env = (false, eval e X.env) :: starEach es X.env := by rfl) (hpl : (backTo pos (starEach es X.env)).any (·.1) = false := by rfl)
    (ht : eval (.Call (.Attribute o m apos) (e :: es) [] pos) X.env = (do
      let ov ← eval o X.env
      standAt apos.atName
      let (f, first) ← holding [ov] (getMethod ov m pl)
      callWith pos f first (backTo pos (starEach (e :: es) X.env)) (backToKw pos (keywordEach [] X.env))) := by rfl) :
    PE X (.Call (.Attribute o m apos) (e :: es) [] pos) (tMeth C m sp [] E0 ta t) := by
  obtain ⟨f, fd, F, hm, hb⟩ := c.ex
  exact pe_meth he c.cl hm F hr hb .nil pass0 ha hst hpl ht
theorem pe_cali {X : Cx} {k : Nat} {x : Str} {C : Addr} {ps : List Str} {sp : Sp} {p pos : Pos} {e : Expr} {es : List Expr} {t : TA} (c : CalI X.prog X.w X.K X.mg X.base k x C ps sp) (hr : Room (k + 1) X.A) (hg : Gl X x) (ha : PA X (e :: es) t)
    (hdb : (x == ("__debug__" : Str)) = false := by decide) (he : starEach (e :: es) X.env = (false, eval e X.env) :: starEach es X.env := by rfl) (hpl : (backTo pos (starEach es X.env)).any (·.1) = false := by rfl) :
    PE X (.Call (.Name x p) (e :: es) [] pos) (tMake C sp [] E0 t) := by
  obtain ⟨f, fd, F, hm, hb⟩ := c.ex
  exact pe_make hm F hr hg c.gl hb .nil pass0 ha hdb he hpl
theorem pe_cali0 {X : Cx} {k : Nat} {x : Str} {C : Addr} {ps : List Str} {sp : Sp} {p pos : Pos} (c : CalI X.prog X.w X.K X.mg X.base k x C ps sp) (hr : Room (k + 1) X.A) (hg : Gl X x)
    (hdb : (x == ("__debug__" : Str)) = false := by decide) : PE X (.Call (.Name x p) [] [] pos) (tMake C sp [] E0 tNil) := by
  obtain ⟨f, fd, F, hm, hb⟩ := c.ex
  exact pe_make0 hm F hr hg c.gl hb .nil pass0 hdb
section
variable {P : Program} {w : World} {K : PySem.W.Frag} {mg : Str → Option Value} {base : Heap}
abbrev cxM (P : Program) (w : World) (K : PySem.W.Frag) (mg : Str → Option Value) (base : Heap) (N : List Str) (qual : Str) (st : Stmt) (f : Addr) (cdv : Value) (A : Around) (outer : List Env) (s : Shared) (H : Hp) (E : XK) : Cx :=
  (cxOf CX0 P w K mg base N qual (defScope st) f cdv A outer s H E).nox
/-- a method's body -/
theorem fn_m {C x qual : Str} {st : Stmt} {N ps : List Str} {k : Nat} {sp : Sp} (F : MtAt K C x qual st) (S : FnScope N ps (defScope st)) (hb : BindM x qual st ps) (len : ∀ vs H Q E, sp vs H Q E → vs.length = ps.length)
    (body : ∀ (f : Addr) (cdv : Value) (A : Around) (outer : List Env) (s : Shared) (H0 : Hp) (E : XK), Room k (A.deeper (envOfC qual (defScope st) s.heap.objs.size f cdv)) →
      ∃ t, PSs (cxM P w K mg base N qual st f cdv A outer s H0 E) (defBody st) t ∧ ∀ (vs : List V) (H : Hp) (Q : VK), sp vs H Q E → t { nx := fun _ H' => Q .non H', rt := Q } (start N vs) H) :
    ∃ fd, FnOk P w K mg base CX0 (k + 1) (He.fAd K (C, some x)) fd ps sp ∧ Binds K fd ps [] := by
  obtain ⟨fd, G⟩ := F.ex
  refine ⟨fd, ?_, G.bindsN hb⟩
  refine G.ok S len fun cdv A outer s H vs Q E hr h => ?_
  obtain ⟨t, d, q⟩ := body _ cdv A outer s H E hr
  exact ⟨t, PSs.nox d, q vs H Q h⟩
end
/-! ### small rules -/
theorem pe_gstr {X : Cx} {x z : Str} {pos : Pos} (hg : Gl X x) (hm : ∃ t, X.mg x = some (.str z t)) (hd : (x == ("__debug__" : Str)) = false := by decide) : PE X (.Name x pos) (tC (.str z)) := by
  obtain ⟨t, h⟩ := hm
  exact pe_glob hg h ⟨_, rfl⟩ hd
theorem pe_gint {X : Cx} {x : Str} {z : Int} {pos : Pos} (hg : Gl X x) (hm : ∃ t, X.mg x = some (.int z t)) (hd : (x == ("__debug__" : Str)) = false := by decide) : PE X (.Name x pos) (tC (.int z)) := by
  obtain ⟨t, h⟩ := hm
  exact pe_glob hg h ⟨_, rfl⟩ hd
/-- * of two factors of together less than a hundred million bits -/
def CMulX (i j : Int) : Prop := i.natAbs.log2 + j.natAbs.log2 < 100000000
theorem CMulX.ok {i j : Int} (h : CMulX i j) : IntMulOk i j := by
  have bits_le : ∀ x : Int, Builtin.Int.intBits x ≤ x.natAbs.log2 + 1 := by
    intro x
    unfold Builtin.Int.intBits
    split <;> omega
  have hi := bits_le i
  have hj := bits_le j
  have line : bitsLine = 134217728 := by decide
  unfold CMulX at h
  intro hz
  simp only [Bool.and_eq_true] at hz
  have big := hz.2
  unfold Builtin.Int.intTooBig at big
  have big' := of_decide_eq_true big
  rw [line] at big'
  omega
theorem op_mulX {X : Cx} : OpR X (binaryOp .Mult) (rI CMulX fun i j => .int (i * j)) := opI fun _ _ _ _ _ _ _ hc q => mul_int q (CMulX.ok hc)
/-! ### readings, one step each -/
section
variable {σ : L2.St} {H : Hp} {Q : VK} {D : Ends} {K : PySem.W.Frag}
theorem r_var {i : Nat} {v : V} (h : σ[i]? = some (some v)) (q : Q v H) : tVar i σ H Q := ⟨v, h, q⟩
theorem r_c {v : V} (q : Q v H) : tC v σ H Q := q
theorem r_op {r : R2} {ta tb : TE} (q : ta σ H fun x H1 => tb σ H1 fun y H2 => r x y H2 Q) : tOp r ta tb σ H Q := q
theorem r_un {r : V → Hp → VK → Prop} {ta : TE} (q : ta σ H fun x H1 => r x H1 Q) : tUn r ta σ H Q := q
theorem r_I0 {g : Int → Int → V} {i j : Int} (q : Q (g i j) H) : rI0 g (.int i) (.int j) H Q := ⟨i, j, rfl, rfl, q⟩
theorem r_I {C : Int → Int → Prop} {g : Int → Int → V} {i j : Int} (c : C i j) (q : Q (g i j) H) : rI C g (.int i) (.int j) H Q := ⟨i, j, rfl, rfl, c, q⟩
theorem r_U {g : Int → V} {i : Int} (q : Q (g i) H) : rU g (.int i) H Q := ⟨i, rfl, q⟩
theorem r_eq {x y : V} (h : scal x y = true) (q : Q (.bl (decide (x = y))) H) : rEq x y H Q := ⟨h, q⟩
theorem r_ne {x y : V} (h : scal x y = true) (q : Q (.bl (!decide (x = y))) H) : rNe x y H Q := ⟨h, q⟩
theorem r_seq {n : L2.St → Hp → Prop} {r : VK} {b c : L2.St → Hp → Prop} {t u : TS} (q : t ⟨u ⟨n, r, b, c⟩, r, b, c⟩ σ H) : tSeq t u ⟨n, r, b, c⟩ σ H := q
theorem r_sasg {te : TE} {i : Nat} {u : TS} (q : te σ H fun x H1 => u D (σ.set i (some x)) H1) : tSeq (tAsg te (gName i)) u D σ H := q
theorem r_asg {n : L2.St → Hp → Prop} {r : VK} {b c : L2.St → Hp → Prop} {te : TE} {i : Nat} (q : te σ H fun x H1 => n (σ.set i (some x)) H1) : tAsg te (gName i) ⟨n, r, b, c⟩ σ H := q
theorem r_sdrop {te : TE} {u : TS} (q : te σ H fun _ H1 => u D σ H1) : tSeq (tDrop te) u D σ H := q
theorem r_drop {n : L2.St → Hp → Prop} {r : VK} {b c : L2.St → Hp → Prop} {te : TE} (q : te σ H fun _ H1 => n σ H1) : tDrop te ⟨n, r, b, c⟩ σ H := q
theorem r_ret {n : L2.St → Hp → Prop} {r : VK} {b c : L2.St → Hp → Prop} {te : TE} (q : te σ H r) : tRet te ⟨n, r, b, c⟩ σ H := q
theorem r_if {k : TT} {t u : TS} (q : k σ H fun b H1 => if b = true then t D σ H1 else u D σ H1) : tIfS k t u D σ H := q
theorem r_sif {n : L2.St → Hp → Prop} {r : VK} {b c : L2.St → Hp → Prop} {k : TT} {t u z : TS} (q : k σ H fun e H1 => if e = true then t ⟨z ⟨n, r, b, c⟩, r, b, c⟩ σ H1 else u ⟨z ⟨n, r, b, c⟩, r, b, c⟩ σ H1) : tSeq (tIfS k t u) z ⟨n, r, b, c⟩ σ H := q
theorem r_swhen {n : L2.St → Hp → Prop} {r : VK} {b c : L2.St → Hp → Prop} {k : TT} {t z : TS} (q : k σ H fun e H1 => if e = true then t ⟨z ⟨n, r, b, c⟩, r, b, c⟩ σ H1 else z ⟨n, r, b, c⟩ σ H1) : tSeq (tIfS k t tNext) z ⟨n, r, b, c⟩ σ H := q
theorem r_next {n : L2.St → Hp → Prop} {r : VK} {b c : L2.St → Hp → Prop} (q : n σ H) : tNext ⟨n, r, b, c⟩ σ H := q
theorem r_tst {t : TE} {Q : Bool → Hp → Prop} (q : t σ H fun x H' => ∃ k, x = .bl k ∧ Q k H') : tTest t σ H Q := q
theorem r_tB {t : TE} {Q : Bool → Hp → Prop} (q : t σ H fun x H' => ∃ k, x = .bl k ∧ Q k H') : tB t σ H Q := q
theorem r_and {t u : TT} {Q : Bool → Hp → Prop} (q : t σ H fun c H1 => if c = true then u σ H1 Q else Q false H1) : tAnd t u σ H Q := q
theorem r_or {t u : TT} {Q : Bool → Hp → Prop} (q : t σ H fun c H1 => if c = true then Q true H1 else u σ H1 Q) : tOr t u σ H Q := q
theorem r_not {t : TT} {Q : Bool → Hp → Prop} (q : t σ H fun c H1 => Q (!c) H1) : tNot t σ H Q := q
theorem r_bl {k : Bool} {Q : Bool → Hp → Prop} (q : Q k H) : ∃ k', V.bl k = .bl k' ∧ Q k' H := ⟨k, rfl, q⟩
theorem r_nil {Q : List V → Hp → Prop} (q : Q [] H) : tNil σ H Q := q
theorem r_cons {ta : TE} {tr : TA} {Q : List V → Hp → Prop} (q : ta σ H fun x H1 => tr σ H1 fun xs H2 => Q (x :: xs) H2) : tCons ta tr σ H Q := q
theorem r_call {sp : Sp} {t : TA} (q : t σ H fun vs H1 => sp vs H1 Q E0) : tCall sp [] E0 t σ H Q := by
  show t σ H fun vs H1 => sp (vs ++ []) H1 Q E0
  simp only [List.append_nil]
  exact q
def NewT (xs : List V) (H : Hp) (Q : VK) : Prop := xs.length ≤ sizeLine ∧ ∀ p, H p = none → Q (.ref p) (upd H p (.tup xs))
def NewL (xs : List V) (H : Hp) (Q : VK) : Prop := xs.length ≤ sizeLine ∧ ∀ p, H p = none → Q (.ref p) (upd H p (.lst xs))
theorem r_tup {t : TA} (q : t σ H fun xs H1 => NewT xs H1 Q) : tTup t σ H Q := q
theorem r_lst {t : TA} (q : t σ H fun xs H1 => NewL xs H1 Q) : tLst t σ H Q := q
theorem r_newT {xs : List V} (hl : xs.length ≤ 100000) (q : ∀ p H2, H p = none → Same H H2 → H2 p = some (.tup xs) → Q (.ref p) H2) : NewT xs H Q :=
  ⟨Nat.le_trans hl (by decide), fun p hp => q p _ hp (same_new hp) upd_same⟩
theorem r_newL {xs : List V} (hl : xs.length ≤ 100000) (q : ∀ p H2, H p = none → Same H H2 → H2 p = some (.lst xs) → Q (.ref p) H2) : NewL xs H Q :=
  ⟨Nat.le_trans hl (by decide), fun p hp => q p _ hp (same_new hp) upd_same⟩
/-- a new tuple of data -/
theorem r_newD {xs : List V} {ds : List PyData} (h : TpAll H xs ds) (hl : ds.length ≤ 100000) (q : ∀ p H2, Same H H2 → Tp H2 (.ref p) (.tuple ds) → Q (.ref p) H2) : NewT xs H Q :=
  r_newT (by rw [h.length]; exact hl) fun p H2 _ e hp => q p H2 e (.tup hp (h.mono (TEx.of e)))
/-! built-ins -/
theorem r_cb {r : List V → Hp → VK → Prop} {t : TA} (q : t σ H fun vs H1 => r vs H1 Q) : tCB r t σ H Q := q
def rLn (K : PySem.W.Frag) : List V → Hp → VK → Prop := fun xs H Q => ∃ p ys, xs = [.ref p] ∧ (SqL K H p ys ∨ SqT K H p ys) ∧ Q (.int ys.length) H
theorem cr_ln {X : Cx} : CallR X (.builtin "len") (rLn X.K) := call_len_seq
theorem r_lnT {p : Addr} {ys : List V} (h : H p = some (.tup ys)) (q : Q (.int ys.length) H) : rLn K [.ref p] H Q := ⟨p, ys, rfl, .inr (SqT.of h), q⟩
theorem r_lnL {p : Addr} {ys : List V} (h : H p = some (.lst ys)) (q : Q (.int ys.length) H) : rLn K [.ref p] H Q := ⟨p, ys, rfl, .inl (SqL.of h), q⟩
theorem r_lnK {p : Addr} {ys : List V} (h : SqL K H p ys) (q : Q (.int ys.length) H) : rLn K [.ref p] H Q := ⟨p, ys, rfl, .inl h, q⟩
def rLnS : List V → Hp → VK → Prop := fun xs H Q => ∃ z, xs = [.str z] ∧ z.length ≤ sizeLine ∧ Q (.int z.length) H
theorem cr_lnS {X : Cx} : CallR X (.builtin "len") rLnS := call_len_str
theorem r_lnS {z : Str} (h : z.length ≤ sizeLine) (q : Q (.int z.length) H) : rLnS [.str z] H Q := ⟨z, rfl, h, q⟩
def rInt1 : List V → Hp → VK → Prop := fun xs H Q => (∃ i, xs = [.int i] ∧ Q (.int i) H) ∨ ∃ k, xs = [.bl k] ∧ Q (.int (if k then 1 else 0)) H
theorem cr_int1 {X : Cx} : CallR X (.type "int") rInt1 := call_int1
theorem r_int1 {i : Int} (q : Q (.int i) H) : rInt1 [.int i] H Q := .inl ⟨i, rfl, q⟩
def rStr1 : List V → Hp → VK → Prop := fun xs H Q => ∃ i : Int, xs = [.int i] ∧ i.natAbs.log2 < 1920 ∧ Q (.str (toString i)) H
theorem cr_str1 {X : Cx} : CallR X (.type "str") rStr1 := call_str_int
theorem r_str1 {i : Int} (h : i.natAbs.log2 < 1920) (q : Q (.str (toString i)) H) : rStr1 [.int i] H Q := ⟨i, rfl, h, q⟩
def rIntS : List V → Hp → VK → Prop := fun xs H Q => ∃ a n, xs = [.str a] ∧ PySem.intText? a = some n ∧ a.length ≤ 640 ∧ Q (.int n) H
theorem cr_intS {X : Cx} : CallR X (.type "int") rIntS := call_int_str
theorem r_intS {a : Str} {n : Int} (h : PySem.intText? a = some n) (hl : a.length ≤ 640) (q : Q (.int n) H) : rIntS [.str a] H Q := ⟨a, n, rfl, h, hl, q⟩
def rTupOf (K : PySem.W.Frag) : List V → Hp → VK → Prop := fun xs H Q => ∃ p ys, xs = [.ref p] ∧ ((SqL K H p ys ∧ ∀ l, H l = none → Q (.ref l) (upd H l (.tup ys))) ∨ (SqT K H p ys ∧ Q (.ref p) H))
theorem cr_tupOf {X : Cx} : CallR X (.type "tuple") (rTupOf X.K) := call_tuple_of
theorem r_tupL {p : Addr} {ys : List V} (h : H p = some (.lst ys)) (q : ∀ l H2, H l = none → Same H H2 → H2 l = some (.tup ys) → Q (.ref l) H2) : rTupOf K [.ref p] H Q :=
  ⟨p, ys, rfl, .inl ⟨SqL.of h, fun l hl => q l _ hl (same_new hl) upd_same⟩⟩
theorem r_tupD {p : Addr} {ys : List V} {ds : List PyData} (h : H p = some (.lst ys)) (hd : TpAll H ys ds) (q : ∀ l H2, Same H H2 → Tp H2 (.ref l) (.tuple ds) → Q (.ref l) H2) : rTupOf K [.ref p] H Q :=
  r_tupL h fun l H2 _ e hl => q l H2 e (.tup hl (hd.mono (TEx.of e)))
def rLstOf (K : PySem.W.Frag) : List V → Hp → VK → Prop := fun xs H Q => ∃ p ys, xs = [.ref p] ∧ (SqL K H p ys ∨ SqT K H p ys) ∧ ∀ l, H l = none → Q (.ref l) (upd H l (.lst ys))
theorem cr_lstOf {X : Cx} : CallR X (.type "list") (rLstOf X.K) := call_list_of
theorem r_lstL {p : Addr} {ys : List V} (h : H p = some (.lst ys)) (q : ∀ l H2, H l = none → Same H H2 → H2 l = some (.lst ys) → Q (.ref l) H2) : rLstOf K [.ref p] H Q :=
  ⟨p, ys, rfl, .inl (SqL.of h), fun l hl => q l _ hl (same_new hl) upd_same⟩
theorem r_lstT {p : Addr} {ys : List V} (h : H p = some (.tup ys)) (q : ∀ l H2, H l = none → Same H H2 → H2 l = some (.lst ys) → Q (.ref l) H2) : rLstOf K [.ref p] H Q :=
  ⟨p, ys, rfl, .inr (SqT.of h), fun l hl => q l _ hl (same_new hl) upd_same⟩
def rOrd1 : List V → Hp → VK → Prop := fun xs H Q => ∃ x : Str, xs = [.str x] ∧ x.length = 1 ∧ Q (.int (x.cps.getD 0 0 : Nat)) H
theorem cr_ord {X : Cx} : CallR X (.builtin "ord") rOrd1 := call_ord
theorem r_ord {c : Nat} (q : Q (.int c) H) : rOrd1 [.str ⟨#[c]⟩] H Q := ⟨_, rfl, rfl, q⟩
def tyN : PyData → String
  | .none => "NoneType"
  | .bool _ => "bool"
  | .int _ => "int"
  | .str _ => "str"
  | _ => "tuple"
theorem Tp.tyOf {v : V} {d : PyData} (h : Tp H v d) : TyOf K H v (.type (tyN d)) := by
  cases h with
  | non => exact .non
  | bl b => exact .bl b
  | int i => exact .int i
  | str x => exact .str x
  | tup h1 h2 => exact .tup h1
theorem r_isi {v : V} {d : PyData} {T : String} {b : Bool} (h : Tp H v d) (hk : kitB (tyN d) T = some b) (q : Q (.bl b) H) : rIsi K [v, .ty T] H Q := ⟨_, _, _, _, b, rfl, .ty T, .base h.tyOf, kit_ty hk, q⟩
theorem r_isiL {p : Addr} {xs : List V} {T : String} {b : Bool} (h : H p = some (.lst xs)) (hk : kitB "list" T = some b) (q : Q (.bl b) H) : rIsi K [.ref p, .ty T] H Q := ⟨_, _, _, _, b, rfl, .ty T, .base (.lst h), kit_ty hk, q⟩
theorem r_isiT {p : Addr} {xs : List V} {T : String} {b : Bool} (h : H p = some (.tup xs)) (hk : kitB "tuple" T = some b) (q : Q (.bl b) H) : rIsi K [.ref p, .ty T] H Q := ⟨_, _, _, _, b, rfl, .ty T, .base (.tup h), kit_ty hk, q⟩
/-! subscripts -/
theorem r_ixT {p : Addr} {xs : List V} {i : Int} {v : V} (h : H p = some (.tup xs)) (e : atI xs i = some v) (q : Q v H) : rIxT K (.ref p) (.int i) H Q := ⟨p, xs, i, v, rfl, rfl, SqT.of h, e, q⟩
theorem r_ixL {p : Addr} {xs : List V} {i : Int} {v : V} (h : H p = some (.lst xs)) (e : atI xs i = some v) (q : Q v H) : rIxL K (.ref p) (.int i) H Q := ⟨p, xs, i, v, rfl, rfl, SqL.of h, e, q⟩
theorem r_ixK {p : Addr} {xs : List V} {i : Int} {v : V} (h : SqL K H p xs) (e : atI xs i = some v) (q : Q v H) : rIxL K (.ref p) (.int i) H Q := ⟨p, xs, i, v, rfl, rfl, h, e, q⟩
theorem r_ixS {z : Str} {i : Int} {c : Nat} (h : z.length ≤ sizeLine) (e : atI z.cps.toList i = some c) (q : Q (.str ⟨#[c]⟩) H) : rIxS (.str z) (.int i) H Q := ⟨z, i, c, rfl, rfl, h, e, q⟩
/-! slices -/
theorem r_sl {r : V → Option Int → Option Int → Hp → VK → Prop} {te : TE} {tl th : TO} (q : te σ H fun x H1 => tl σ H1 fun l H2 => th σ H2 fun u H3 => r x l u H3 Q) : tSl r te tl th σ H Q := q
theorem r_nop {Q : Option Int → Hp → Prop} (q : Q none H) : tNoPart σ H Q := q
theorem r_part {te : TE} {Q : Option Int → Hp → Prop} (q : te σ H fun x H1 => ∃ i, x = .int i ∧ Q (some i) H1) : tPart te σ H Q := q
theorem r_pi {i : Int} {Q : Option Int → Hp → Prop} (q : Q (some i) H) : ∃ j, V.int i = .int j ∧ Q (some j) H := ⟨i, rfl, q⟩
theorem r_slL {p : Addr} {xs : List V} {lo hi : Option Int} (h : H p = some (.lst xs)) (q : ∀ l H2, H l = none → Same H H2 → H2 l = some (.lst (cutV xs lo hi)) → Q (.ref l) H2) : rSlL K (.ref p) lo hi H Q :=
  ⟨p, xs, rfl, SqL.of h, fun l hl => q l _ hl (same_new hl) upd_same⟩
theorem r_slS {z : Str} {lo hi : Option Int} (h : z.length ≤ sizeLine) (q : Q (.str (cutS z lo hi)) H) : rSlS (.str z) lo hi H Q := ⟨z, rfl, h, q⟩
/-! lists' methods -/
def TyQ (K : PySem.W.Frag) (T : String) (x : V) (H : Hp) (p : Prop) : Prop := tyV K T x H ∧ p
theorem r_bm {T : String} {r : V → List V → Hp → VK → Prop} {to : TE} {t : TA} (q : to σ H fun x H1 => TyQ K T x H1 (t σ H1 fun xs H2 => r x xs H2 Q)) : tBM K T r to t σ H Q := q
theorem r_tyL {p : Addr} {xs : List V} {q : Prop} (h : H p = some (.lst xs)) (k : q) : TyQ K "list" (.ref p) H q := ⟨.inl ⟨rfl, _, SqL.of h⟩, k⟩
theorem r_app {l : Addr} {xs : List V} {y : V} (h : H l = some (.lst xs)) (hz : xs.length < 100000) (q : ∀ H2, H2 = upd H l (.lst (xs ++ [y])) → Q .non H2) : rAppend (.ref l) [y] H Q :=
  ⟨l, xs, y, rfl, rfl, h, Nat.lt_of_lt_of_le hz (by decide), q _ rfl⟩
theorem r_ext {l b : Addr} {xs ys : List V} (h : H l = some (.lst xs)) (h' : H b = some (.lst ys)) (hz : xs.length + ys.length ≤ 100000) (q : ∀ H2, H2 = upd H l (.lst (xs ++ ys)) → Q .non H2) : rExtend (.ref l) [.ref b] H Q :=
  ⟨l, b, xs, ys, rfl, rfl, h, h', Nat.le_trans hz (by decide), q _ rfl⟩
/-! fields -/
def FldQ (K : PySem.W.Frag) (f : Str) (x : V) (H : Hp) (Q : VK) : Prop := ∃ a C dx fs v, x = .ref a ∧ H a = some (.ins C dx fs) ∧ Cls K C ∧ NoAttr K C f ∧ fs.lookup f = some v ∧ Q v H
theorem r_fld {ta : TE} {f : Str} (q : ta σ H fun x H1 => FldQ K f x H1 Q) : tFld K ta f σ H Q := q
theorem r_fldq {a C dx : Addr} {fs : List (Str × V)} {v : V} {f : Str} (h : H a = some (.ins C dx fs)) (c : Cls K C) (n : NoAttr K C f) (l : fs.lookup f = some v) (q : Q v H) : FldQ K f (.ref a) H Q := ⟨a, C, dx, fs, v, rfl, h, c, n, l, q⟩
end
section
variable {σ : L2.St} {H : Hp} {Q : VK} {D : Ends} {K : PySem.W.Frag}
def BlQ (x : V) (P : Bool → Prop) : Prop := ∃ k, x = .bl k ∧ P k
def IntQ (x : V) (P : Int → Prop) : Prop := ∃ i, x = .int i ∧ P i
theorem r_blq {k : Bool} {P : Bool → Prop} (q : P k) : BlQ (.bl k) P := ⟨k, rfl, q⟩
theorem r_intq {i : Int} {P : Int → Prop} (q : P i) : IntQ (.int i) P := ⟨i, rfl, q⟩
theorem r_tstq {t : TE} {Q : Bool → Hp → Prop} (q : t σ H fun x H' => BlQ x fun k => Q k H') : tTest t σ H Q := q
theorem r_tBq {t : TE} {Q : Bool → Hp → Prop} (q : t σ H fun x H' => BlQ x fun k => Q k H') : tB t σ H Q := q
theorem r_partq {te : TE} {Q : Option Int → Hp → Prop} (q : te σ H fun x H1 => IntQ x fun i => Q (some i) H1) : tPart te σ H Q := q
theorem r_andV {ta tb : TE} (q : ta σ H fun x H1 => BlQ x fun c => if c = true then tb σ H1 Q else Q (.bl false) H1) : tAndV ta tb σ H Q := q
theorem r_orV {ta tb : TE} (q : ta σ H fun x H1 => BlQ x fun c => if c = true then Q (.bl true) H1 else tb σ H1 Q) : tOrV ta tb σ H Q := q
theorem r_notV {ta : TE} (q : ta σ H fun x H1 => BlQ x fun c => Q (.bl (!c)) H1) : tNotV ta σ H Q := q
/-- is None -/
def rIsN (x y : V) (H : Hp) (Q : VK) : Prop := y = .non ∧ Q (.bl (decide (x = .non))) H
theorem op_isNq {X : Cx} : OpR X (compareOp .Is) rIsN := op_isN
theorem r_isN {x : V} (q : Q (.bl (decide (x = .non))) H) : rIsN x .non H Q := ⟨rfl, q⟩
theorem r_isNd {v : V} {d : PyData} {b : Bool} (h : Tp H v d) (e : (match d with | .none => true | _ => false) = b) (q : Q (.bl b) H) : rIsN v .non H Q := by
  refine ⟨rfl, ?_⟩
  have z : decide (v = V.non) = b := by
    rw [← e]
    cases h <;> rfl
  rw [z]
  exact q
theorem r_iteT {A B : Prop} (h : A) : if true = true then A else B := iteT h
theorem r_iteF {A B : Prop} (h : B) : if false = true then A else B := iteF h
/-- a test, both ways -/
theorem r_ite {b : Bool} {A B : Prop} (h1 : b = true → A) (h2 : b = false → B) : if b = true then A else B := by
  cases b with
  | true => exact iteT (h1 rfl)
  | false => exact iteF (h2 rfl)
end
end Vt
-- VtEnc
set_option Elab.async false
set_option linter.all false
set_option maxRecDepth 100000
set_option maxHeartbeats 4000000
namespace Vt
open PySem PySem.Spec PyProof.Rows L2
/-! ### written items -/
theorem str_ext {x y : Str} (h : TL.tl x = TL.tl y) : x = y := by
  rw [← TL.mk_tl x, ← TL.mk_tl y, h]
/-- the signs of an int -/
def intL (i : Int) : List Nat := if i < 0 then 45 :: TL.numL i.natAbs else TL.numL i.natAbs
theorem tl_int (i : Int) : TL.tl (Str.ofString (toString i)) = intL i := by
  unfold intL
  cases i with
  | ofNat n =>
    rw [if_neg (by show ¬ ((n : Int) < 0); omega)]
    exact TL.tl_num n
  | negSucc n =>
    rw [if_pos (by show Int.negSucc n < 0; exact Int.negSucc_lt_zero n)]
    have e1 : (toString (Int.negSucc n) : String) = "-" ++ toString (n + 1) := rfl
    have e2 := TL.tl_num (n + 1)
    have e3 : (toString ((n + 1 : Nat) : Int) : String) = toString (n + 1) := rfl
    rw [e3] at e2
    rw [e1]
    show (Str.ofString ("-" ++ toString (n + 1))).cps.toList = 45 :: TL.numL (n + 1)
    rw [← e2]
    show (Str.ofString ("-" ++ toString (n + 1))).cps.toList = 45 :: (Str.ofString (toString (n + 1))).cps.toList
    rw [Str.ofString_eq_toList, Str.ofString_eq_toList]
    simp [String.toList_append]
mutual
def encL : PyData → List Nat
  | .none => [110]
  | .int i => 105 :: (intL i ++ [59])
  | .str s => 116 :: (TL.numL s.length ++ (58 :: TL.tl s))
  | .tuple ds => 40 :: (encLs ds ++ [41])
  | _ => []
def encLs : List PyData → List Nat
  | [] => []
  | d :: r => encL d ++ encLs r
end
theorem encL_none : encL .none = [110] := by rw [encL]
theorem encL_int (i : Int) : encL (.int i) = 105 :: (intL i ++ [59]) := by rw [encL]
theorem encL_str (s : Str) : encL (.str s) = 116 :: (TL.numL s.length ++ (58 :: TL.tl s)) := by rw [encL]
theorem encL_tup (ds : List PyData) : encL (.tuple ds) = 40 :: (encLs ds ++ [41]) := by rw [encL]
theorem encLs_nil : encLs [] = [] := by rw [encLs]
theorem encLs_cons (d : PyData) (r : List PyData) : encLs (d :: r) = encL d ++ encLs r := by rw [encLs]
theorem encLs_append : ∀ a b : List PyData, encLs (a ++ b) = encLs a ++ encLs b
  | [], b => by rw [encLs_nil]; rfl
  | d :: r, b => by rw [List.cons_append, encLs_cons, encLs_cons, encLs_append r b, List.append_assoc]
def encS (d : PyData) : Str := ⟨(encL d).toArray⟩
theorem tl_encS (d : PyData) : TL.tl (encS d) = encL d := rfl
theorem encS_len (d : PyData) : (encS d).length = (encL d).length := by rw [TL.len_tl, tl_encS]
/-! what may be written: the shapes, the sizes of ints, no text is too long -/
mutual
def encOk : PyData → Bool
  | .none => true
  | .int i => decide (i.natAbs < 10 ^ 60)
  | .str s => decide (s.length < 1000)
  | .tuple ds => decide (ds.length < 1000) && encOks ds
  | _ => false
def encOks : List PyData → Bool
  | [] => true
  | d :: r => encOk d && encOks r
end
theorem encOks_cons (d : PyData) (r : List PyData) : encOks (d :: r) = (encOk d && encOks r) := by rw [encOks]
theorem encOks_all : ∀ ds : List PyData, encOks ds = true ↔ ∀ d ∈ ds, encOk d = true
  | [] => by simp [encOks]
  | d :: r => by rw [encOks_cons, Bool.and_eq_true, encOks_all r]; simp
theorem encOk_tup (ds : List PyData) : encOk (.tuple ds) = (decide (ds.length < 1000) && encOks ds) := by rw [encOk]
/-! nested how deep -/
mutual
def dep : PyData → Nat
  | .tuple ds => deps ds + 1
  | _ => 0
def deps : List PyData → Nat
  | [] => 0
  | d :: r => max (dep d) (deps r)
end
theorem dep_int (i : Int) : dep (.int i) = 0 := by rw [dep]; simp
theorem dep_str (x : Str) : dep (.str x) = 0 := by rw [dep]; simp
theorem dep_none : dep .none = 0 := by rw [dep]; simp
theorem deps_nil : deps [] = 0 := by rw [deps]
theorem encOk_int {i : Int} (h : i.natAbs < 10 ^ 60) : encOk (.int i) = true := by rw [encOk]; exact decide_eq_true h
theorem encOk_str {x : Str} (h : x.length < 1000) : encOk (.str x) = true := by rw [encOk]; exact decide_eq_true h
theorem encOk_none : encOk .none = true := by rw [encOk]
theorem encOks_nil : encOks [] = true := by rw [encOks]
theorem dep_tup (ds : List PyData) : dep (.tuple ds) = deps ds + 1 := by rw [dep]
theorem deps_cons (d : PyData) (r : List PyData) : deps (d :: r) = max (dep d) (deps r) := by rw [deps]
theorem deps_le : ∀ {ds : List PyData} {n : Nat}, deps ds ≤ n ↔ ∀ d ∈ ds, dep d ≤ n
  | [], n => by simp [deps]
  | d :: r, n => by
    rw [deps_cons, Nat.max_le, deps_le (ds := r)]
    simp
theorem encLs_le {ds : List PyData} {d : PyData} (h : d ∈ ds) : (encL d).length ≤ (encLs ds).length := by
  induction ds with
  | nil => cases h
  | cons a r ih =>
    rw [encLs_cons, List.length_append]
    rcases List.mem_cons.mp h with e | e
    · subst e; omega
    · have := ih e; omega
theorem encL_pos (d : PyData) (h : encOk d = true) : 0 < (encL d).length := by
  cases d with
  | none => rw [encL_none]; exact Nat.one_pos
  | int i => rw [encL_int]; exact Nat.succ_pos _
  | str s => rw [encL_str]; exact Nat.succ_pos _
  | tuple ds => rw [encL_tup]; exact Nat.succ_pos _
  | bool b => unfold encOk at h; cases h
  | list xs => unfold encOk at h; cases h
  | dict xs => unfold encOk at h; cases h
theorem encLs_count {ds : List PyData} (h : encOks ds = true) : ds.length ≤ (encLs ds).length := by
  induction ds with
  | nil => exact Nat.zero_le _
  | cons a r ih =>
    rw [encOks_cons, Bool.and_eq_true] at h
    have h1 := encL_pos a h.1
    have h2 := ih h.2
    rw [encLs_cons, List.length_append, List.length_cons]
    omega
/-- the join of written parts -/
theorem join_enc (ds : List PyData) : Txt.join (⟨#[]⟩ : Str) (ds.map encS) = ⟨(encLs ds).toArray⟩ := by
  apply str_ext
  rw [TL.join_eq, TL.tl_join]
  show TL.joinL [] ((ds.map encS).map TL.tl) = encLs ds
  rw [List.map_map]
  have e : (TL.tl ∘ encS) = encL := rfl
  rw [e]
  induction ds with
  | nil => rw [encLs_nil]; rfl
  | cons a r ih =>
    rw [encLs_cons, List.map_cons]
    cases r with
    | nil => rw [encLs_nil, List.append_nil]; rfl
    | cons b r =>
      rw [← ih, List.map_cons]
      rfl
theorem sum_enc (ds : List PyData) : ((ds.map encS).map (·.length)).sum = (encLs ds).length := by
  induction ds with
  | nil => rw [encLs_nil]; rfl
  | cons a r ih =>
    rw [encLs_cons, List.length_append, List.map_cons, List.map_cons, List.sum_cons, ih, encS_len]
end Vt
-- VtComp
set_option Elab.async false
set_option linter.all false
set_option maxRecDepth 100000
set_option maxHeartbeats 4000000
namespace Vt
open PySem PySem.Spec PyProof.Rows L2
/-! ### comprehensions -/
theorem pd_mono {α β : Type} {F G : α → β → Prop} : ∀ {l : List α} {m : List β}, Paired F l m → (∀ a b, F a b → G a b) → Paired G l m
  | _, _, .nil, _ => .nil
  | _, _, .cons r t, f => .cons (f _ _ r) (pd_mono t f)
theorem pd_snoc {α β : Type} {F : α → β → Prop} : ∀ {l : List α} {m : List β} {a : α} {b : β}, Paired F l m → F a b → Paired F (l ++ [a]) (m ++ [b])
  | _, _, _, _, .nil, h => .cons h .nil
  | _, _, _, _, .cons r t, h => .cons r (pd_snoc t h)
theorem pd_len {α β : Type} {F : α → β → Prop} : ∀ {l : List α} {m : List β}, Paired F l m → l.length = m.length
  | _, _, .nil => rfl
  | _, _, .cons r t => congrArg Nat.succ (pd_len t)
theorem pd_get {α β : Type} {F : α → β → Prop} : ∀ {l : List α} {m : List β}, Paired F l m → ∀ {i : Nat} {b : β}, m[i]? = some b → ∃ a, l[i]? = some a ∧ F a b
  | _, _, .nil, i, b, h => by simp at h
  | _, _, .cons r t, 0, b, h => by simp at h; subst h; exact ⟨_, rfl, r⟩
  | _, _, .cons r t, i + 1, b, h => pd_get t (i := i) (by simpa using h)
theorem pd_get' {α β : Type} {F : α → β → Prop} : ∀ {l : List α} {m : List β}, Paired F l m → ∀ {i : Nat} {a : α}, l[i]? = some a → ∃ b, m[i]? = some b ∧ F a b
  | _, _, .nil, i, b, h => by simp at h
  | _, _, .cons r t, 0, b, h => by simp at h; subst h; exact ⟨_, rfl, r⟩
  | _, _, .cons r t, i + 1, b, h => pd_get' t (i := i) (by simpa using h)
/-- what a comprehension has made behind i turns: the heap goes on from H, the list at L holds what was kept -/
def CI (H : Hp) (L : Addr) (keep : Nat → Bool) (R : Nat → V → Hp → Prop) (i : Nat) (Hc : Hp) : Prop :=
  H L = none ∧ Same H Hc ∧ ∃ ys, Hc L = some (.lst ys) ∧ Paired (fun k y => R k y Hc) ((List.range i).filter keep) ys
theorem ci_zero {H : Hp} {L : Addr} {keep : Nat → Bool} {R : Nat → V → Hp → Prop} (h : H L = none) : CI H L keep R 0 (upd H L (.lst [])) := ⟨h, same_new h, [], upd_same, .nil⟩
theorem range_yes {keep : Nat → Bool} {i : Nat} (h : keep i = true) : (List.range (i + 1)).filter keep = (List.range i).filter keep ++ [i] := by
  rw [List.range_succ, List.filter_append, List.filter_cons, if_pos h]
  rfl
theorem range_no {keep : Nat → Bool} {i : Nat} (h : keep i = false) : (List.range (i + 1)).filter keep = (List.range i).filter keep := by
  rw [List.range_succ, List.filter_append, List.filter_cons, if_neg (by rw [h]; decide)]
  exact List.append_nil _
theorem ci_yes {H H3 H4 : Hp} {L : Addr} {keep : Nat → Bool} {R : Nat → V → Hp → Prop} {i : Nat} {y : V} (hi : i < 50000) (hR : ∀ k y H H', TEx H H' → R k y H → R k y H') (p : CI H L keep R i H3) (e : Same H3 H4) (hk : keep i = true) (hy : R i y H4) :
    ∃ acc, H4 L = some (.lst acc) ∧ acc.length < sizeLine ∧ CI H L keep R (i + 1) (upd H4 L (.lst (acc ++ [y]))) := by
  obtain ⟨p1, p2, ys, p3, p4⟩ := p
  have e4 := e L _ p3
  have hl := pd_len p4
  have h2 := List.length_filter_le keep (List.range i)
  rw [List.length_range] at h2
  refine ⟨ys, e4, Nat.lt_of_lt_of_le (show ys.length < 100000 by omega) (by decide), p1, same_mut (p2.trans e) p1, _, upd_same, ?_⟩
  have te : TEx H4 (upd H4 L (.lst (ys ++ [y]))) := TEx.upd e4 fun xs z => by cases z
  rw [range_yes hk]
  exact pd_snoc (pd_mono p4 fun k z q => hR k z _ _ te (hR k z _ _ (TEx.of e) q)) (hR i y _ _ te hy)
theorem ci_no {H H3 H4 : Hp} {L : Addr} {keep : Nat → Bool} {R : Nat → V → Hp → Prop} {i : Nat} (hR : ∀ k y H H', TEx H H' → R k y H → R k y H') (p : CI H L keep R i H3) (e : Same H3 H4) (hk : keep i = false) : CI H L keep R (i + 1) H4 := by
  obtain ⟨p1, p2, ys, p3, p4⟩ := p
  refine ⟨p1, p2.trans e, ys, e L _ p3, ?_⟩
  rw [range_no hk]
  exact pd_mono p4 fun k z q => hR k z _ _ (TEx.of e) q
/-- one turn, as the reading asks it: what the block's target, test and element make of the item -/
def LcStep (H : Hp) (g : TG) (tt : TT) (te : TE) (vs : List Nat) (σ : L2.St) (keep : Nat → Bool) (R : Nat → V → Hp → Prop) (i : Nat) (x : V) : Prop :=
  ∀ (H3 : Hp) (Qs : VK) (Qn : Hp → Prop), Same H H3 → (∀ y H4, Same H3 H4 → keep i = true → R i y H4 → Qs y H4) → (∀ H4, Same H3 H4 → keep i = false → Qn H4) →
    g x (wipe σ vs) H3 fun σ2 H4 => wipe σ2 vs = wipe σ vs ∧ tt σ2 H4 fun b H5 => if b = true then te σ2 H5 Qs else Qn H5
section
variable {σ : L2.St} {H : Hp} {Q : VK} {K : PySem.W.Frag} {g : TG} {tt : TT} {te : TE} {vs : List Nat}
/-- over a tuple: what is asked once the tuple is known -/
def LcT (K : PySem.W.Frag) (g : TG) (tt : TT) (te : TE) (vs : List Nat) (x : V) (σ : L2.St) (H : Hp) (Q : VK) : Prop := tLc (iTup K (tC x)) g tt te vs σ H Q
theorem r_lct {tl : TE} (q : tl σ H fun x H1 => LcT K g tt te vs x σ H1 Q) : tLc (iTup K tl) g tt te vs σ H Q := q
theorem r_lcTq {a : Addr} {xs : List V} (h : ∀ H', Same H H' → SqT K H' a xs) (hz : xs.length ≤ 50000) (keep : Nat → Bool) (R : Nat → V → Hp → Prop) (hR : ∀ k y H H', TEx H H' → R k y H → R k y H')
    (step : ∀ i x, xs[i]? = some x → LcStep H g tt te vs σ keep R i x)
    (q : ∀ L ys H', H L = none → Same H H' → H' L = some (.lst ys) → Paired (fun k y => R k y H') ((List.range xs.length).filter keep) ys → Q (.ref L) H') : LcT K g tt te vs (.ref a) σ H Q := by
  refine ⟨a, rfl, ⟨xs, h H (Same.refl H)⟩, fun L hL => lc_tup (xs := xs) (CI H L keep R) (ci_zero hL) (fun i H' _ p => h H' p.2.1) (fun i x H3 hx p => ?_) (fun H' p => q L _ H' p.1 p.2.1 p.2.2.choose_spec.1 p.2.2.choose_spec.2)⟩
  have hi := (List.getElem?_eq_some_iff.mp hx).1
  exact step i x hx H3 _ _ p.2.1 (fun y H4 e hk hy => ci_yes (by omega) hR p e hk hy) (fun H4 e hk => ci_no hR p e hk)
theorem r_lcT {a : Addr} {xs : List V} (h : H a = some (.tup xs)) (hz : xs.length ≤ 50000) (keep : Nat → Bool) (R : Nat → V → Hp → Prop) (hR : ∀ k y H H', TEx H H' → R k y H → R k y H')
    (step : ∀ i x, xs[i]? = some x → LcStep H g tt te vs σ keep R i x)
    (q : ∀ L ys H', H L = none → Same H H' → H' L = some (.lst ys) → Paired (fun k y => R k y H') ((List.range xs.length).filter keep) ys → Q (.ref L) H') : LcT K g tt te vs (.ref a) σ H Q :=
  r_lcTq (fun _ e => SqT.of (e _ _ h)) hz keep R hR step q
/-- over a list -/
def LcL (K : PySem.W.Frag) (g : TG) (tt : TT) (te : TE) (vs : List Nat) (x : V) (σ : L2.St) (H : Hp) (Q : VK) : Prop := tLc (iList K (tC x)) g tt te vs σ H Q
theorem r_lcl {tl : TE} (q : tl σ H fun x H1 => LcL K g tt te vs x σ H1 Q) : tLc (iList K tl) g tt te vs σ H Q := q
theorem r_lcL {a : Addr} {xs : List V} (h : H a = some (.lst xs)) (hz : xs.length ≤ 50000) (keep : Nat → Bool) (R : Nat → V → Hp → Prop) (hR : ∀ k y H H', TEx H H' → R k y H → R k y H')
    (step : ∀ i x, xs[i]? = some x → LcStep H g tt te vs σ keep R i x)
    (q : ∀ L ys H', H L = none → Same H H' → H' L = some (.lst ys) → Paired (fun k y => R k y H') ((List.range xs.length).filter keep) ys → Q (.ref L) H') : LcL K g tt te vs (.ref a) σ H Q := by
  refine ⟨a, rfl, ⟨xs, SqL.of h⟩, fun L hL => lc_list (xs := xs) (CI H L keep R) (ci_zero hL) (fun i H' _ p => SqL.of (p.2.1 a _ h)) (fun i x H3 hx p => ?_) (fun H' p => q L _ H' p.1 p.2.1 p.2.2.choose_spec.1 p.2.2.choose_spec.2)⟩
  have hi := (List.getElem?_eq_some_iff.mp hx).1
  exact step i x hx H3 _ _ p.2.1 (fun y H4 e hk hy => ci_yes (by omega) hR p e hk hy) (fun H4 e hk => ci_no hR p e hk)
/-- over range(n) -/
def LcR (g : TG) (tt : TT) (te : TE) (vs : List Nat) (xs : List V) (σ : L2.St) (H : Hp) (Q : VK) : Prop := ∃ j : Int, xs = [.int j] ∧ -(2 ^ 62) ≤ j ∧ j < 2 ^ 62 ∧ tLc (fun _ H R => R (Itr 0 j.toNat) H) g tt te vs σ H Q
theorem r_lcr {ta : TA} (q : ta σ H fun x H1 => LcR g tt te vs x σ H1 Q) : tLc (iRng1 ta) g tt te vs σ H Q := q
theorem r_lcR {n : Nat} (hz : n ≤ 50000) (keep : Nat → Bool) (R : Nat → V → Hp → Prop) (hR : ∀ k y H H', TEx H H' → R k y H → R k y H')
    (step : ∀ i, i < n → LcStep H g tt te vs σ keep R i (.int i))
    (q : ∀ L ys H', H L = none → Same H H' → H' L = some (.lst ys) → Paired (fun k y => R k y H') ((List.range n).filter keep) ys → Q (.ref L) H') : LcR g tt te vs [.int (n : Int)] σ H Q := by
  refine ⟨n, rfl, by omega, by omega, fun L hL => ?_⟩
  show ∃ W, _
  rw [Int.toNat_natCast]
  refine lc_range (lo := 0) (n := n) (CI H L keep R) (ci_zero hL) (fun i H3 hi p => ?_) (fun H' p => q L _ H' p.1 p.2.1 p.2.2.choose_spec.1 p.2.2.choose_spec.2)
  have e0 : (0 : Int) + (i : Int) = (i : Int) := Int.zero_add _
  rw [e0]
  exact step i hi H3 _ _ p.2.1 (fun y H4 e hk hy => ci_yes (by omega) hR p e hk hy) (fun H4 e hk => ci_no hR p e hk)
end
/-- the turns of a comprehension without a test, over one name -/
theorem lc_one {H : Hp} {te : TE} {vs : List Nat} {σ : L2.St} {j : Nat} {R : Nat → V → Hp → Prop} {i : Nat} {x : V} (hw : wipe ((wipe σ vs).set j (some x)) vs = wipe σ vs)
    (h : ∀ (H3 : Hp) (Qs : VK), Same H H3 → (∀ y H4, Same H3 H4 → R i y H4 → Qs y H4) → te ((wipe σ vs).set j (some x)) H3 Qs) : LcStep H (gName j) tYes te vs σ (fun _ => true) R i x := fun H3 Qs Qn e q _ => by
  refine ⟨hw, ?_⟩
  show if true = true then te _ H3 Qs else Qn H3
  rw [if_pos rfl]
  exact h H3 Qs e fun y H4 e4 r => q y H4 e4 rfl r
/-- .. with a test -/
theorem lc_test {H : Hp} {tt : TT} {te : TE} {vs : List Nat} {σ : L2.St} {j : Nat} {keep : Nat → Bool} {R : Nat → V → Hp → Prop} {i : Nat} {x : V} (hw : wipe ((wipe σ vs).set j (some x)) vs = wipe σ vs)
    (h : ∀ (H3 : Hp) (Qs : VK) (Qn : Hp → Prop), Same H H3 → (∀ y H4, Same H3 H4 → keep i = true → R i y H4 → Qs y H4) → (∀ H4, Same H3 H4 → keep i = false → Qn H4) → tt ((wipe σ vs).set j (some x)) H3 fun b H5 => if b = true then te ((wipe σ vs).set j (some x)) H5 Qs else Qn H5) :
    LcStep H (gName j) tt te vs σ keep R i x := fun H3 Qs Qn e q q' => ⟨hw, h H3 Qs Qn e q q'⟩
theorem filter_all (n : Nat) : (List.range n).filter (fun _ => true) = List.range n := List.filter_eq_self.mpr fun _ _ => rfl
/-- all were kept, and each is told -/
theorem pd_all {n : Nat} {ys : List V} {f : Nat → V} (h : Paired (fun k y => y = f k) ((List.range n).filter fun _ => true) ys) : ys = (List.range n).map f := by
  rw [filter_all] at h
  generalize List.range n = l at h
  induction l generalizing ys with
  | nil => cases h; rfl
  | cons a r ih => cases h with
    | cons e t => rw [e, ih t]; rfl
end Vt
-- VtLoop
set_option Elab.async false
set_option linter.all false
set_option maxRecDepth 100000
set_option maxHeartbeats 4000000
namespace Vt
open PySem PySem.Spec PyProof.Rows L2
/-! ### loops -/
section
variable {σ : L2.St} {H : Hp} {K : PySem.W.Frag} {g : TG} {tb u : TS} {n : L2.St → Hp → Prop} {r : VK} {b c : L2.St → Hp → Prop}
def ForT (K : PySem.W.Frag) (g : TG) (tb : TS) (x : V) : TS := tFor (iTup K (tC x)) g tb
def ForL (K : PySem.W.Frag) (g : TG) (tb : TS) (x : V) : TS := tFor (iList K (tC x)) g tb
def ForS (g : TG) (tb : TS) (x : V) : TS := tFor (iStr (tC x)) g tb
def ForR (g : TG) (tb : TS) (xs : List V) : TS := tFor (iRng1 fun _ H Q => Q xs H) g tb
def ForZ (K : PySem.W.Frag) (g : TG) (tb : TS) (xs : List V) : TS := tFor (RZ.iZipA K fun _ H Q => Q xs H) g tb
theorem r_sfort {tl : TE} (q : tl σ H fun x H1 => ForT K g tb x ⟨u ⟨n, r, b, c⟩, r, b, c⟩ σ H1) : tSeq (tFor (iTup K tl) g tb) u ⟨n, r, b, c⟩ σ H := q
theorem r_sforl {tl : TE} (q : tl σ H fun x H1 => ForL K g tb x ⟨u ⟨n, r, b, c⟩, r, b, c⟩ σ H1) : tSeq (tFor (iList K tl) g tb) u ⟨n, r, b, c⟩ σ H := q
theorem r_sfors {tl : TE} (q : tl σ H fun x H1 => ForS g tb x ⟨u ⟨n, r, b, c⟩, r, b, c⟩ σ H1) : tSeq (tFor (iStr tl) g tb) u ⟨n, r, b, c⟩ σ H := q
theorem r_sforr {ta : TA} (q : ta σ H fun x H1 => ForR g tb x ⟨u ⟨n, r, b, c⟩, r, b, c⟩ σ H1) : tSeq (tFor (iRng1 ta) g tb) u ⟨n, r, b, c⟩ σ H := q
theorem r_sforz {ta : TA} (q : ta σ H fun x H1 => ForZ K g tb x ⟨u ⟨n, r, b, c⟩, r, b, c⟩ σ H1) : tSeq (tFor (RZ.iZipA K ta) g tb) u ⟨n, r, b, c⟩ σ H := q
theorem r_fort {tl : TE} (q : tl σ H fun x H1 => ForT K g tb x ⟨n, r, b, c⟩ σ H1) : tFor (iTup K tl) g tb ⟨n, r, b, c⟩ σ H := q
theorem r_forl {tl : TE} (q : tl σ H fun x H1 => ForL K g tb x ⟨n, r, b, c⟩ σ H1) : tFor (iList K tl) g tb ⟨n, r, b, c⟩ σ H := q
theorem r_forr {ta : TA} (q : ta σ H fun x H1 => ForR g tb x ⟨n, r, b, c⟩ σ H1) : tFor (iRng1 ta) g tb ⟨n, r, b, c⟩ σ H := q
theorem r_forT {a : Addr} {xs : List V} (Pv : Nat → L2.St → Hp → Prop) (h0 : Pv 0 σ H) (hl : ∀ i σ' H', Pv i σ' H' → H' a = some (.tup xs))
    (hs : ∀ i x σ' H', xs[i]? = some x → Pv i σ' H' → g x σ' H' fun σ2 H2 => tb ⟨Pv (i + 1), r, n, Pv (i + 1)⟩ σ2 H2) (hd : ∀ σ' H', Pv xs.length σ' H' → n σ' H') : ForT K g tb (.ref a) ⟨n, r, b, c⟩ σ H :=
  ⟨a, rfl, ⟨xs, SqT.of (hl 0 σ H h0)⟩, for_tup (K := K) (a := a) (xs := xs) (D := ⟨n, r, b, c⟩) Pv h0 (fun i σ' H' _ p => SqT.of (hl i σ' H' p)) hs hd⟩
theorem r_forL {a : Addr} {xs : List V} (Pv : Nat → L2.St → Hp → Prop) (h0 : Pv 0 σ H) (hl : ∀ i σ' H', Pv i σ' H' → SqL K H' a xs)
    (hs : ∀ i x σ' H', xs[i]? = some x → Pv i σ' H' → g x σ' H' fun σ2 H2 => tb ⟨Pv (i + 1), r, n, Pv (i + 1)⟩ σ2 H2) (hd : ∀ σ' H', Pv xs.length σ' H' → n σ' H') : ForL K g tb (.ref a) ⟨n, r, b, c⟩ σ H :=
  ⟨a, rfl, ⟨xs, hl 0 σ H h0⟩, for_list (K := K) (a := a) (xs := xs) (D := ⟨n, r, b, c⟩) Pv h0 (fun i σ' H' _ p => hl i σ' H' p) hs hd⟩
theorem r_forR {N : Nat} (hN : N ≤ 100000) (Pv : Nat → L2.St → Hp → Prop) (h0 : Pv 0 σ H)
    (hs : ∀ (i : Nat) σ' H', i < N → Pv i σ' H' → g (.int i) σ' H' fun σ2 H2 => tb ⟨Pv (i + 1), r, n, Pv (i + 1)⟩ σ2 H2) (hd : ∀ σ' H', Pv N σ' H' → n σ' H') : ForR g tb [.int (N : Int)] ⟨n, r, b, c⟩ σ H := by
  refine ⟨N, rfl, by omega, by omega, ?_⟩
  rw [Int.toNat_natCast]
  refine for_range (lo := 0) (n := N) (D := ⟨n, r, b, c⟩) Pv h0 (fun i σ' H' hi p => ?_) hd
  have e0 : (0 : Int) + (i : Int) = (i : Int) := Int.zero_add _
  rw [e0]
  exact hs i σ' H' hi p
theorem r_forS {z : Str} (Pv : Nat → L2.St → Hp → Prop) (h0 : Pv 0 σ H)
    (hs : ∀ (i ch : Nat) σ' H', (TL.tl z)[i]? = some ch → Pv i σ' H' → g (.str ⟨#[ch]⟩) σ' H' fun σ2 H2 => tb ⟨Pv (i + 1), r, n, Pv (i + 1)⟩ σ2 H2) (hd : ∀ σ' H', Pv (TL.tl z).length σ' H' → n σ' H') : ForS g tb (.str z) ⟨n, r, b, c⟩ σ H := by
  refine ⟨z, rfl, fun i m σ H => m = (TL.tl z).length - i ∧ i ≤ (TL.tl z).length ∧ Pv i σ H, ⟨(TL.tl z).length, rfl, Nat.zero_le _, h0⟩, ?_⟩
  rintro i m σ' H' ⟨rfl, hi, p⟩
  have hsz : z.cps.size = (TL.tl z).length := by simp [TL.tl]
  by_cases hlt : i < (TL.tl z).length
  · refine .inr ⟨show i < z.cps.size by omega, Pv (i + 1), fun σ2 H2 p' => ⟨(TL.tl z).length - (i + 1), by omega, rfl, hlt, p'⟩, fun v H2 y => ?_⟩
    obtain ⟨rfl, ch, hc, rfl⟩ := y
    exact hs i ch σ' H2 (by rw [← hc]; simp [TL.tl]) p
  · have e : i = (TL.tl z).length := by omega
    subst e
    exact .inl ⟨show z.cps.size ≤ _ by omega, hd σ' H' p⟩
theorem r_forZ {p q : Addr} {xs ys : List V} (hl : xs.length = ys.length) (Pv : Nat → L2.St → Hp → Prop) (h0 : Pv 0 σ H) (hq : ∀ i σ' H', Pv i σ' H' → H' p = some (.tup xs) ∧ H' q = some (.tup ys))
    (hs : ∀ (i : Nat) (x y : V) (T : Addr) σ' H' H2, xs[i]? = some x → ys[i]? = some y → Pv i σ' H' → Same H' H2 → H2 T = some (.tup [x, y]) → g (.ref T) σ' H2 fun σ2 H3 => tb ⟨Pv (i + 1), r, n, Pv (i + 1)⟩ σ2 H3) (hd : ∀ σ' H', Pv xs.length σ' H' → n σ' H') :
    ForZ K g tb [.ref p, .ref q] ⟨n, r, b, c⟩ σ H :=
  ⟨p, q, xs, ys, rfl, .inr ⟨SqT.of (hq 0 σ H h0).1, SqT.of (hq 0 σ H h0).2, RZ.for_zipT (K := K) (D := ⟨n, r, b, c⟩) hl Pv h0 (fun i σ' H' z => ⟨SqT.of (hq i σ' H' z).1, SqT.of (hq i σ' H' z).2⟩)
    (fun i x y T σ' H' hx hy z hT => hs i x y T σ' H' _ hx hy z (same_new hT) upd_same) hd⟩⟩
theorem r_gname {i : Nat} {v : V} {Q : L2.St → Hp → Prop} (q : Q (σ.set i (some v)) H) : gName i v σ H Q := q
theorem r_no {b : Bool} {A B : Prop} (h : b = false) (q : B) : if b = true then A else B := by rw [h]; exact iteF q
theorem r_yes {b : Bool} {A B : Prop} (h : b = true) (q : A) : if b = true then A else B := by rw [h]; exact iteT q
theorem dnat {a b : Nat} : ((a + b : Nat) : Int) = (a : Int) + (b : Int) := Int.natCast_add a b
/-- a pair taken apart into two names -/
theorem r_gpair {i j : Nat} {T : Addr} {x y : V} {Q : L2.St → Hp → Prop} (h : H T = some (.tup [x, y])) (q : Q ((σ.set i (some x)).set j (some y)) H) : gTup K 2 (gCons (gName i) (gCons (gName j) gNil)) (.ref T) σ H Q :=
  ⟨T, [x, y], rfl, SqT.of h, rfl, x, [y], rfl, y, [], rfl, rfl, q⟩
theorem r_gthree {i j k : Nat} {T : Addr} {x y z : V} {Q : L2.St → Hp → Prop} (h : H T = some (.tup [x, y, z])) (q : Q (((σ.set i (some x)).set j (some y)).set k (some z)) H) : gTup K 3 (gCons (gName i) (gCons (gName j) (gCons (gName k) gNil))) (.ref T) σ H Q :=
  ⟨T, [x, y, z], rfl, SqT.of h, rfl, x, [y, z], rfl, y, [z], rfl, z, [], rfl, rfl, q⟩
theorem r_g5 {i j k l m : Nat} {T : Addr} {x y z v w : V} {Q : L2.St → Hp → Prop} (h : H T = some (.tup [x, y, z, v, w])) (q : Q (((((σ.set i (some x)).set j (some y)).set k (some z)).set l (some v)).set m (some w)) H) :
    gTup K 5 (gCons (gName i) (gCons (gName j) (gCons (gName k) (gCons (gName l) (gCons (gName m) gNil))))) (.ref T) σ H Q :=
  ⟨T, [x, y, z, v, w], rfl, SqT.of h, rfl, x, [y, z, v, w], rfl, y, [z, v, w], rfl, z, [v, w], rfl, v, [w], rfl, w, [], rfl, rfl, q⟩
/-- target = value, a tuple of names -/
theorem r_sasgt {te : TE} {m : Nat} {gs : TGs} (q : te σ H fun x H1 => gTup K m gs x σ H1 fun σ2 H2 => u ⟨n, r, b, c⟩ σ2 H2) : tSeq (tAsg te (gTup K m gs)) u ⟨n, r, b, c⟩ σ H := q
theorem r_asgt {te : TE} {m : Nat} {gs : TGs} (q : te σ H fun x H1 => gTup K m gs x σ H1 n) : tAsg te (gTup K m gs) ⟨n, r, b, c⟩ σ H := q
/-- name += e -/
theorem r_saug {i : Nat} {v : V} {te : TE} {ti : TIp} (h : σ[i]? = some (some v)) (q : te σ H fun y H1 => ti v y H1 fun z H2 => u ⟨n, r, b, c⟩ (σ.set i (some z)) H2) : tSeq (tAug i te ti) u ⟨n, r, b, c⟩ σ H := ⟨v, h, q⟩
theorem r_aug {i : Nat} {v : V} {te : TE} {ti : TIp} (h : σ[i]? = some (some v)) (q : te σ H fun y H1 => ti v y H1 fun z H2 => n (σ.set i (some z)) H2) : tAug i te ti ⟨n, r, b, c⟩ σ H := ⟨v, h, q⟩
theorem r_ip {f : Int → Int → Int} {x y : Int} {Q : VK} (q : Q (.int (f x y)) H) : ipI f (.int x) (.int y) H Q := ⟨x, y, rfl, rfl, q⟩
/-- while -/
theorem r_wq {Pn : L2.St → Hp → Prop} (q : tb ⟨Pn, r, b, Pn⟩ σ H) : ∃ N : L2.St → Hp → Prop, (∀ σ' H', N σ' H' → Pn σ' H') ∧ tb ⟨N, r, b, N⟩ σ H := ⟨_, fun _ _ h => h, q⟩
theorem r_swhile {k : TT} (W : Nat → L2.St → Hp → Prop) (m0 : Nat) (h0 : W m0 σ H) (hs : ∀ m σ' H', W m σ' H' → k σ' H' fun e H1 => if e = true then ∃ N : L2.St → Hp → Prop, (∀ σ' H', N σ' H' → ∃ m', m' < m ∧ W m' σ' H') ∧ tb ⟨N, r, u ⟨n, r, b, c⟩, N⟩ σ' H1 else u ⟨n, r, b, c⟩ σ' H1) :
    tSeq (tWhile k tb) u ⟨n, r, b, c⟩ σ H := ⟨W, ⟨m0, h0⟩, hs⟩
end
end Vt
-- VtAt
set_option Elab.async false
set_option linter.all false
set_option maxRecDepth 100000
set_option maxHeartbeats 4000000
namespace Vt
open PySem PySem.Spec PyProof.Rows L2
/-! ### a text from a place on -/
/-- from the place i on the text t goes l, then anything -/
def At (t : Str) (i : Nat) (l : List Nat) : Prop := ∃ post, (TL.tl t).drop i = l ++ post
theorem At.get {t : Str} {i : Nat} {l : List Nat} (h : At t i l) {k c : Nat} (e : l[k]? = some c) : (TL.tl t)[i + k]? = some c := by
  obtain ⟨post, h⟩ := h
  rw [← List.getElem?_drop, h, List.getElem?_append_left (List.getElem?_eq_some_iff.mp e).1]
  exact e
theorem At.tail {t : Str} {i c : Nat} {l : List Nat} (h : At t i (c :: l)) : At t (i + 1) l := by
  obtain ⟨post, h⟩ := h
  refine ⟨post, ?_⟩
  have e : (TL.tl t).drop (i + 1) = ((TL.tl t).drop i).drop 1 := by rw [List.drop_drop]
  rw [e, h]
  rfl
theorem At.left {t : Str} {i : Nat} {a b : List Nat} (h : At t i (a ++ b)) : At t i a := by
  obtain ⟨post, h⟩ := h
  exact ⟨b ++ post, by rw [h, List.append_assoc]⟩
theorem At.right {t : Str} {i : Nat} {a b : List Nat} (h : At t i (a ++ b)) : At t (i + a.length) b := by
  obtain ⟨post, h⟩ := h
  refine ⟨post, ?_⟩
  rw [← List.drop_drop, h, List.append_assoc, List.drop_left]
theorem At.le {t : Str} {i : Nat} {l : List Nat} (h : At t i l) (hi : i ≤ t.length) : i + l.length ≤ t.length := by
  obtain ⟨post, h⟩ := h
  have e := congrArg List.length h
  rw [List.length_drop, List.length_append, ← TL.len_tl] at e
  omega
theorem At.lt {t : Str} {i c : Nat} {l : List Nat} (h : At t i (c :: l)) : i < t.length := by
  have e := h.get (k := 0) rfl
  have := (List.getElem?_eq_some_iff.mp e).1
  rw [← TL.len_tl] at this
  exact this
theorem At.cut {t : Str} {i : Nat} {l : List Nat} (h : At t i l) (hi : i ≤ t.length) : cutS t (some (i : Int)) (some ((i + l.length : Nat) : Int)) = ⟨l.toArray⟩ := by
  have hle := h.le hi
  unfold cutS
  rw [HT.sIx_nat, HT.sIx_nat, Nat.min_eq_left hi, Nat.min_eq_left hle]
  obtain ⟨post, h⟩ := h
  have e : (t.cps.toList.drop i) = l ++ post := h
  rw [e, Nat.add_sub_cancel_left, List.take_left]
/-! ### digits -/
theorem numL_head {n c : Nat} {l : List Nat} (h : TL.numL n = c :: l) (hl : l ≠ [] ∨ 0 < n) : c ≠ 48 := by
  induction n using Nat.strongRecOn generalizing c l with
  | _ n ih =>
    by_cases hn : n < 10
    · rw [TL.numL_lt hn] at h
      injection h with h1 h2
      rcases hl with z | z
      · exact (z h2.symm).elim
      · omega
    · rw [TL.numL_step (by omega)] at h
      cases e : TL.numL (n / 10) with
      | nil => exact (TL.numL_ne _ e).elim
      | cons a r =>
        rw [e] at h
        injection h with h1 h2
        rw [← h1]
        exact ih (n / 10) (by omega) e (.inr (by omega))
theorem numL_at0 {n c : Nat} (h : (TL.numL n)[0]? = some c) (hl : 1 < (TL.numL n).length ∨ 0 < n) : c ≠ 48 := by
  cases hn : TL.numL n with
  | nil => exact (TL.numL_ne n hn).elim
  | cons a r =>
    rw [hn] at h
    have e : a = c := Option.some.inj h
    rw [← e]
    refine numL_head hn (hl.imp (fun z => ?_) id)
    intro er
    rw [hn, er] at z
    simp at z
theorem numL_range {n c : Nat} (h : c ∈ TL.numL n) : 48 ≤ c ∧ c ≤ 57 := TL.numL_digits n c h
theorem in_digits {c : Nat} (h : 48 ≤ c ∧ c ≤ 57) : c ∈ (Str.ofString "0123456789").cps.toList := by
  have e : (Str.ofString "0123456789").cps.toList = [48, 49, 50, 51, 52, 53, 54, 55, 56, 57] := by decide +kernel
  rw [e]
  simp only [List.mem_cons, List.not_mem_nil, or_false]
  omega
theorem int_numL {n : Nat} (h : (TL.numL n).length ≤ 60) : PySem.intText? (⟨(TL.numL n).toArray⟩ : Str) = some (n : Int) := by
  have e := TL.int_num (n := n) (by omega)
  have e2 : Str.ofString (toString ((n : Nat) : Int)) = (⟨(TL.numL n).toArray⟩ : Str) := by
    apply str_ext
    rw [TL.tl_num]
  rw [e2] at e
  exact e
theorem numL_60 {n : Nat} (h : n < 10 ^ 60) : (TL.numL n).length ≤ 60 := TL.numL_len (by decide) h
theorem numL_3 {n : Nat} (h : n < 1000) : (TL.numL n).length ≤ 3 := TL.numL_len (k := 3) (by decide) (by omega)
/-! ### the first sign of an item -/
theorem encL_head (d : PyData) (h : encOk d = true) : ∃ c r, encL d = c :: r ∧ c ≠ 41 := by
  cases d with
  | none => exact ⟨110, [], encL_none, by decide⟩
  | int i => exact ⟨105, _, encL_int i, by decide⟩
  | str s => exact ⟨116, _, encL_str s, by decide⟩
  | tuple ds => exact ⟨40, _, encL_tup ds, by decide⟩
  | bool b => unfold encOk at h; cases h
  | list xs => unfold encOk at h; cases h
  | dict xs => unfold encOk at h; cases h
/-! ### digests -/
def digL (l : List Nat) : Int := l.foldl (fun (r : Int) (c : Nat) => (r * 31 + (c : Int)) % 1000003) 7
theorem digL_snoc (l : List Nat) (c : Nat) : digL (l ++ [c]) = (digL l * 31 + (c : Int)) % 1000003 := by
  unfold digL
  rw [List.foldl_append]
  rfl
theorem dig_bd : ∀ (l : List Nat) (r : Int), 0 ≤ r ∧ r < 1000003 → 0 ≤ l.foldl (fun (r : Int) (c : Nat) => (r * 31 + (c : Int)) % 1000003) r ∧ l.foldl (fun (r : Int) (c : Nat) => (r * 31 + (c : Int)) % 1000003) r < 1000003
  | [], _, h => h
  | c :: l, r, _ => dig_bd l _ (by show 0 ≤ (r * 31 + (c : Int)) % 1000003 ∧ (r * 31 + (c : Int)) % 1000003 < 1000003; omega)
theorem digL_bd (l : List Nat) : 0 ≤ digL l ∧ digL l < 1000003 := dig_bd l 7 (by omega)
/-- does a chunk end behind its entry number n -/
def endsB (lv : Nat) (key : PyData) (n : Nat) : Bool :=
  if n = 8 then true else if 0 < lv ∧ n = 1 then false else decide (digL (encL (.tuple [.int lv, key])) % 4 = 0)
end Vt
-- VtZip
set_option Elab.async false
set_option linter.all false
set_option maxRecDepth 100000
set_option maxHeartbeats 4000000
namespace Vt
open PySem PySem.Spec PyProof.Rows L2
/-! ### a zip whose tuple is still held, over any two iterators -/
section
variable {prog : Program} {w : World} {A : Around} {E : Value → Shared → Prop} {s : Shared} {z TI TO T i1 i2 : Addr} {fp1 fp2 : List Addr} {n1 n2 i : Nat} {P1 P2 : Nat → Value → Prop} {St1 St2 : Nat → Heap → Prop} {f : Bool} {oT : Obj}
theorem held_item {Q : Option Value → Shared → Prop} (S : ZipSep2 z TI TO i1 i2 fp1 fp2) (D1 : Draws prog w A.in1 i1 fp1 n1 P1 St1) (D2 : Draws prog w A.in1 i2 fp2 n2 P2 St2)
    (hz : IsZipHeld s.heap z TI TO T f) (hT : s.heap.get? T = some oT) (hTI : IsTupOf2 s.heap TI (.ref i1) (.ref i2)) (st1 : St1 i s.heap) (st2 : St2 i s.heap) (l1 : i < n1) (l2 : i < n2)
    (hQ : ∀ x y h' tk, P1 i x → P2 i y → IsZipHeld h' z TI TO T true → St1 (i + 1) h' → St2 (i + 1) h' → IsTupOf2 h' s.heap.objs.size x y →
      (∀ c o, c ≠ z → c ≠ i1 → c ≠ i2 → s.heap.get? c = some o → h'.get? c = some o) → Q (some (.ref s.heap.objs.size)) { s with heap := h', toks := tk }) : wpAny (model prog w) A (pyNext (.ref z)) Q E s := by
  obtain ⟨hp, gl, d, t0, os⟩ := s
  have hTy : (⟨hp, gl, d, t0, os⟩ : Shared).TypeIs (.ref z) "zip" := ⟨_, hz, rfl⟩
  unfold pyNext
  refine wpAny_bind (wpAny_attempt (wpAny_callSpecial?_slot (name := Str.ofString "__next__") hTy F.slot_zip_next (wpAny_call_entry F.slot_zip_next hTy F.entry_zip_next ?_ (F.args_zip_next_1 _))))
  show wpAny _ _ (field (.ref z) 2 >>= _) _ _ _
  refine wpAny_bind (wpAny_field hz rfl (x := .bool false) rfl ?_)
  show wpAny _ _ (field (.ref z) 3 >>= _) _ _ _
  refine wpAny_bind (wpAny_field hz rfl (x := .ref TI) rfl (wpAny_bind (wpAny_seqItems hTI rfl ?_)))
  show wpAny _ _ (Builtin.SmallTypes.ownedTupleIsFree (.ref z) >>= _) _ _ _
  refine wpAny_bind (wpAny_tupleHeld_zip hz hT fun h1 hz1 hs1 => ?_)
  replace hs1 : Heap.SameBut z hp h1 := hs1
  simp only [Bool.false_eq_true, if_false]
  refine wpAny_bind ?_
  rw [← Array.forIn_toList]
  simp only [List.forIn_cons, List.forIn_nil]
  refine wpAny_bind (wpAny_bind (wpAny_holding ?_))
  show wpAny _ _ (Builtin.SmallTypes.nextOf (.ref i1) >>= _) _ _ ⟨h1, gl, d, t0, os⟩
  refine wpAny_bind (D1.item i _ _ _ l1 (D1.over st1 hs1 S.zf1) fun x h2 t2 px sx e2 => wpAny_pure (wpAny_pure ?_))
  replace e2 : Heap.SameBut i1 h1 h2 := e2
  refine wpAny_bind (wpAny_bind (wpAny_holding ?_))
  show wpAny _ _ (Builtin.SmallTypes.nextOf (.ref i2) >>= _) _ _ ⟨h2, gl, d, t2, os⟩
  refine wpAny_bind (D2.item i _ _ _ l2 (D2.over (D2.over st2 hs1 S.zf2) e2 S.sep1_2) fun y h3 t3 py sy e3 => wpAny_pure (wpAny_pure (wpAny_pure ?_)))
  replace e3 : Heap.SameBut i2 h2 h3 := e3
  show wpAny _ _ (newTuple [x, y] >>= _) _ _ ⟨h3, gl, d, t3, os⟩
  refine wpAny_bind (wpAny_newTuple (wpAny_pure ⟨_, rfl, wpAny_pure ?_⟩))
  have sz : h3.objs.size = hp.objs.size := by rw [e3.1, e2.1, hs1.1]
  have zz : IsZipHeld h3 z TI TO T true := e3.extBut _ _ S.zi2 (e2.extBut _ _ S.zi1 hz1)
  have kk : ∀ c o, c ≠ z → c ≠ i1 → c ≠ i2 → hp.get? c = some o → h3.get? c = some o := fun c o a b c' e => e3.extBut _ _ c' (e2.extBut _ _ b (hs1.extBut _ _ a e))
  have up : ∀ c o, h3.get? c = some o → (h3.push { cls := .type "tuple", data := .seq #[x, y] }).get? c = some o := fun c o e => Heap.get?_push_of_some _ e
  have np : IsTupOf2 (h3.push { cls := .type "tuple", data := .seq #[x, y] }) h3.objs.size x y := Heap.get?_push_size _ rfl
  have fin := hQ x y (h3.push { cls := .type "tuple", data := .seq #[x, y] }) t3 px py (up _ _ zz) (D1.frame _ _ _ (D1.over sx e3 S.sep2_1) fun b _ o e => up b o e) (D2.frame _ _ _ sy fun b _ o e => up b o e) (by rw [← show h3.objs.size = hp.objs.size from sz]; exact np)
    fun c o a b c' e => up c o (kk c o a b c' e)
  show Q (some (.ref h3.objs.size)) _
  rw [sz]
  exact fin
theorem held_end {Q : Option Value → Shared → Prop} (S : ZipSep2 z TI TO i1 i2 fp1 fp2) (D1 : Draws prog w A.in1 i1 fp1 n1 P1 St1) (D2 : Draws prog w A.in1 i2 fp2 n2 P2 St2)
    (hz : IsZipHeld s.heap z TI TO T f) (hT : s.heap.get? T = some oT) (hTI : IsTupOf2 s.heap TI (.ref i1) (.ref i2)) (st1 : St1 i s.heap) (st2 : St2 i s.heap) (l1 : i ≤ n1) (l2 : i ≤ n2) (hend : i = n1 ∨ i = n2)
    (hQ : ∀ h' tk, (∀ c o, c ≠ z → c ≠ i1 → c ≠ i2 → s.heap.get? c = some o → h'.get? c = some o) → Q none { s with heap := h', toks := tk }) : wpAny (model prog w) A (pyNext (.ref z)) Q E s := by
  obtain ⟨hp, gl, d, t0, os⟩ := s
  have hTy : (⟨hp, gl, d, t0, os⟩ : Shared).TypeIs (.ref z) "zip" := ⟨_, hz, rfl⟩
  unfold pyNext
  have out : ∀ (h' : Heap) (tk : Tok) (e : Addr), (∀ c o, c ≠ z → c ≠ i1 → c ≠ i2 → hp.get? c = some o → h'.get? c = some o) → (∃ o, h'.get? e = some o ∧ o.cls = .type "StopIteration") →
      wpAny (model prog w) A (do let b ← isInstance (.ref e) (.type "StopIteration"); if b then pure (none : Option Value) else throw (.ref e)) Q E ⟨h', gl, d, tk, os⟩ := fun h' tk e hk ⟨o, ho, hc⟩ =>
    wpAny_bind (wpAny_isInstance (T := "StopIteration") (b := true) ⟨o, ho, hc⟩ isSubtype_stop (wpAny_pure (hQ h' tk hk)))
  refine wpAny_bind (wpAny_attempt (wpAny_callSpecial?_slot (name := Str.ofString "__next__") hTy F.slot_zip_next (wpAny_call_entry F.slot_zip_next hTy F.entry_zip_next ?_ (F.args_zip_next_1 _))))
  show wpAny _ _ (field (.ref z) 2 >>= _) _ _ _
  refine wpAny_bind (wpAny_field hz rfl (x := .bool false) rfl ?_)
  show wpAny _ _ (field (.ref z) 3 >>= _) _ _ _
  refine wpAny_bind (wpAny_field hz rfl (x := .ref TI) rfl (wpAny_bind (wpAny_seqItems hTI rfl ?_)))
  show wpAny _ _ (Builtin.SmallTypes.ownedTupleIsFree (.ref z) >>= _) _ _ _
  refine wpAny_bind (wpAny_tupleHeld_zip hz hT fun h1 hz1 hs1 => ?_)
  replace hs1 : Heap.SameBut z hp h1 := hs1
  simp only [Bool.false_eq_true, if_false]
  refine wpAny_bind ?_
  rw [← Array.forIn_toList]
  simp only [List.forIn_cons, List.forIn_nil]
  refine wpAny_bind (wpAny_bind (wpAny_holding ?_))
  show wpAny _ _ (Builtin.SmallTypes.nextOf (.ref i1) >>= _) _ _ ⟨h1, gl, d, t0, os⟩
  by_cases q1 : i = n1
  · rw [q1] at st1
    refine wpAny_bind (D1.done _ _ _ (D1.over st1 hs1 S.zf1) fun h2 e e2 he => out h2 t0 e (fun c o a b _ x => e2 _ _ b (hs1.extBut _ _ a x)) he)
  · refine wpAny_bind (D1.item i _ _ _ (by omega) (D1.over st1 hs1 S.zf1) fun x h2 t2 px sx e2 => wpAny_pure (wpAny_pure ?_))
    replace e2 : Heap.SameBut i1 h1 h2 := e2
    refine wpAny_bind (wpAny_bind (wpAny_holding ?_))
    show wpAny _ _ (Builtin.SmallTypes.nextOf (.ref i2) >>= _) _ _ ⟨h2, gl, d, t2, os⟩
    have q2 : i = n2 := hend.resolve_left q1
    rw [q2] at st2
    refine wpAny_bind (D2.done _ _ _ (D2.over (D2.over st2 hs1 S.zf2) e2 S.sep1_2) fun h3 e e3 he => out h3 t2 e (fun c o a b c' x => e3 _ _ c' (e2.extBut _ _ b (hs1.extBut _ _ a x))) he)
end
/-- zip(v1, v2) as dict's argument -/
theorem zipArg {prog : Program} {w : World} {z TI TO i1 i2 : Addr} {fp1 fp2 : List Addr} {n1 n2 : Nat} {P1 P2 : Nat → Value → Prop} {St1 St2 : Nat → Heap → Prop} (S : ZipSep2 z TI TO i1 i2 fp1 fp2)
    (D1 : ∀ A : Around, A.handled = none → Draws prog w A i1 fp1 n1 P1 St1) (D2 : ∀ A : Around, A.handled = none → Draws prog w A i2 fp2 n2 P2 St2)
    (v1 : ∀ i h, St1 i h → ∀ b ∈ fp1, ∃ o, h.get? b = some o) (v2 : ∀ i h, St2 i h → ∀ b ∈ fp2, ∃ o, h.get? b = some o) :
    PairArg prog w "zip" z (z :: TI :: TO :: (fp1 ++ fp2)) [z, TO, i1, i2] (min n1 n2) (fun i k v => P1 i k ∧ P2 i v)
      (fun h => IsZip h z TI TO .none ∧ IsTupOf2 h TI (.ref i1) (.ref i2) ∧ (∃ a b, IsTupOf2 h TO a b) ∧ St1 0 h ∧ St2 0 h) where
  type := fun s ok => ⟨_, ok.1, rfl⟩
  notDict := by decide
  keep := fun h h' ⟨q1, q2, ⟨a, b, q3⟩, q4, q5⟩ hk => ⟨hk _ _ q1, hk _ _ q2, ⟨a, b, hk _ _ q3⟩, (D1 {} rfl).frame _ _ _ q4 fun b _ o e => hk b o e, (D2 {} rfl).frame _ _ _ q5 fun b _ o e => hk b o e⟩
  there := fun h ⟨q1, q2, ⟨a, c, q3⟩, q4, q5⟩ b hb => by
    rcases List.mem_cons.mp hb with e | hb
    · subst e; exact ⟨_, q1⟩
    rcases List.mem_cons.mp hb with e | hb
    · subst e; exact ⟨_, q2⟩
    rcases List.mem_cons.mp hb with e | hb
    · subst e; exact ⟨_, q3⟩
    rcases List.mem_append.mp hb with hb | hb
    · exact v1 _ _ q4 b hb
    · exact v2 _ _ q5 b hb
  sub := fun b hb => by
    have e : b = z ∨ b = TO ∨ b = i1 ∨ b = i2 := by simpa using hb
    rcases e with e | e | e | e <;> subst e
    · simp
    · simp
    · simp [S.mem1]
    · simp [S.mem2]
  noKeys := fun A s Q E hA ok h => getAttrOr_miss_zip ok.1 rfl rfl rfl zip_no_keys (by decide +kernel) hA h
  iter := fun A s d Q E hA ⟨q1, q2, ⟨a, b, q3⟩, q4, q5⟩ hd hdf h => by
    have dz : d ≠ z := fun e => hdf (by simp [e])
    have dTI : d ≠ TI := fun e => hdf (by simp [e])
    have dTO : d ≠ TO := fun e => hdf (by simp [e])
    have d1 : d ∉ fp1 := fun e => hdf (by simp [e])
    have d2 : d ∉ fp2 := fun e => hdf (by simp [e])
    have di1 : d ≠ i1 := fun e => d1 (e ▸ S.mem1)
    have di2 : d ≠ i2 := fun e => d2 (e ▸ S.mem2)
    refine wpAny_pyIter_zip q1 (h z [z, TO, i1, i2] (fun i h => IsTupOf2 h TI (.ref i1) (.ref i2) ∧ St1 i h ∧ St2 i h ∧
      ((IsZip h z TI TO .none ∧ ∃ a b, IsTupOf2 h TO a b) ∨ ∃ T f oT, IsZipHeld h z TI TO T f ∧ h.get? T = some oT ∧ T ≠ z ∧ T ≠ i1 ∧ T ≠ i2 ∧ T ≠ d)) s.heap s.toks ?_ ⟨q2, q4, q5, .inl ⟨q1, a, b, q3⟩⟩ (fun _ _ e => e) fun b hb => .inl hb)
    refine ⟨fun hm => ?_, fun i h1 h2 ⟨c1, c2, c3, c4⟩ hk => ⟨hk _ _ (Ne.symm dTI) c1, (D1 {} rfl).frame _ _ _ c2 fun b hb o e => hk b o (fun x => d1 (x ▸ hb)) e, (D2 {} rfl).frame _ _ _ c3 fun b hb o e => hk b o (fun x => d2 (x ▸ hb)) e, ?_⟩, fun i s1 Q1 E1 hi ⟨c1, c2, c3, c4⟩ hds hQ => ?_, fun s1 Q1 E1 ⟨c1, c2, c3, c4⟩ hQ => ?_⟩
    · have e : d = z ∨ d = TO ∨ d = i1 ∨ d = i2 := by simpa using hm
      rcases e with e | e | e | e
      · exact dz e
      · exact dTO e
      · exact di1 e
      · exact di2 e
    · rcases c4 with ⟨c, a, b, c'⟩ | ⟨T, f, oT, c, c', r1, r2, r3, r4⟩
      · exact .inl ⟨hk _ _ (Ne.symm dz) c, a, b, hk _ _ (Ne.symm dTO) c'⟩
      · exact .inr ⟨T, f, oT, hk _ _ (Ne.symm dz) c, hk _ _ r4 c', r1, r2, r3, r4⟩
    · have hi1 : i < n1 := by omega
      have hi2 : i < n2 := by omega
      have lt : ∀ {c o}, s1.heap.get? c = some o → s1.heap.objs.size ≠ c := fun e => Nat.ne_of_gt (Heap.lt_size e)
      have m1 : s1.heap.objs.size ≠ i1 := let ⟨_, e⟩ := (D1 {} rfl).live _ _ c2; lt e
      have m2 : s1.heap.objs.size ≠ i2 := let ⟨_, e⟩ := (D2 {} rfl).live _ _ c3; lt e
      rcases c4 with ⟨c, a, b, c'⟩ | ⟨T, f, oT, c, c', r1, r2, r3, r4⟩
      · refine wpAny_pyNext_zipD2_item S (D1 A.in1 hA) (D2 A.in1 hA) c c1 c' c2 c3 hi1 hi2 fun x y h' tk px py b1 b2 b3 b4 b5 b6 hk => ?_
        exact hQ s1.heap.objs.size x y h' tk ⟨px, py⟩ (.inl ⟨_, b5, rfl, _, rfl⟩) ⟨hk _ _ S.TIz S.TITO S.TIi1 S.TIi2 c1, b3, b4, .inr ⟨s1.heap.objs.size, false, _, b1, b5, lt c, m1, m2, Nat.ne_of_gt hds⟩⟩
          fun c o hc e => hk c o (fun x => hc (by simp [x])) (fun x => hc (by simp [x])) (fun x => hc (by simp [x])) (fun x => hc (by simp [x])) e
      · refine held_item S (D1 A.in1 hA) (D2 A.in1 hA) c c' c1 c2 c3 hi1 hi2 fun x y h' tk px py b1 b3 b4 b5 hk => ?_
        exact hQ s1.heap.objs.size x y h' tk ⟨px, py⟩ (.inl ⟨_, b5, rfl, _, rfl⟩) ⟨hk _ _ S.TIz S.TIi1 S.TIi2 c1, b3, b4, .inr ⟨T, true, oT, b1, hk _ _ r1 r2 r3 c', r1, r2, r3, r4⟩⟩
          fun c o hc e => hk c o (fun x => hc (by simp [x])) (fun x => hc (by simp [x])) (fun x => hc (by simp [x])) e
    · have le1 : min n1 n2 ≤ n1 := Nat.min_le_left _ _
      have le2 : min n1 n2 ≤ n2 := Nat.min_le_right _ _
      have he : min n1 n2 = n1 ∨ min n1 n2 = n2 := by omega
      rcases c4 with ⟨c, a, b, c'⟩ | ⟨T, f, oT, c, c', r1, r2, r3, r4⟩
      · exact wpAny_pyNext_zipD2_end S (D1 A.in1 hA) (D2 A.in1 hA) c c1 c' c2 c3 le1 le2 he fun h' tk hk => hQ h' tk fun c o hc e => hk c o (fun x => hc (by simp [x])) (fun x => hc (by simp [x])) (fun x => hc (by simp [x])) (fun x => hc (by simp [x])) e
      · exact held_end S (D1 A.in1 hA) (D2 A.in1 hA) c c' c1 c2 c3 le1 le2 he fun h' tk hk => hQ h' tk fun c o hc e => hk c o (fun x => hc (by simp [x])) (fun x => hc (by simp [x])) (fun x => hc (by simp [x])) e
theorem drawsT {prog : Program} {w : World} (it l : Addr) (hne : l ≠ it) (xs : Array Value) : ∀ A : Around, A.handled = none → Draws prog w A it [it, l] xs.size (fun i v => xs[i]? = some v) (fun i h => h.IsTupleIter it l i ∧ h.IsTuple l xs) := fun _ hA => Draws.tuple hA it l hne xs
theorem liveT {it l : Addr} {xs : Array Value} : ∀ (i : Nat) (h : Heap), (h.IsTupleIter it l i ∧ h.IsTuple l xs) → ∀ b ∈ [it, l], ∃ o, h.get? b = some o := fun i h ⟨⟨o, ho, _⟩, ⟨o2, ho2, _⟩⟩ b hb => by
  have e : b = it ∨ b = l := by simpa using hb
  rcases e with e | e <;> subst e
  · exact ⟨o, ho⟩
  · exact ⟨o2, ho2⟩
theorem kv_zip : ∀ {ks : List Key} {vs : List V} {us ws : List Value}, Vals (ks.map kV) us → Vals vs ws → ∃ kvs : List (Key × Value), KV (ks.zip vs) kvs ∧ kvs.length = min us.length ws.length ∧ ∀ (i : Nat) (k v : Value), us[i]? = some k → ws[i]? = some v → ∃ c : Key, kvs[i]? = some (c, v) ∧ RelV (kV c) k
  | [], _, _, _, .nil, _ => ⟨[], .nil, by simp, fun i k v h => by simp at h⟩
  | _ :: _, [], _, _, _, .nil => ⟨[], .nil, by simp, fun i k v _ h => by simp at h⟩
  | c :: ks, x :: vs, _, _, .cons (b := u) r rs, .cons (b := w') q qs => by
    obtain ⟨kvs, h1, h2, h3⟩ := kv_zip rs qs
    refine ⟨(c, w') :: kvs, .cons ⟨rfl, q⟩ h1, by simp [h2], fun i k v hk hv => ?_⟩
    cases i with
    | zero =>
      simp at hk hv
      subst hk hv
      exact ⟨c, rfl, r⟩
    | succ i => exact h3 i k v (by simpa using hk) (by simpa using hv)
/-- dict(zip(v1, v2)) of two tuples, the first of ints and texts -/
def tDictZip (K : PySem.W.Frag) (ta : TA) : TE := fun σ H Q => ta σ H fun vs H1 => ∃ (a b : Addr) (ks : List Key) (ys : List V), vs = [.ref a, .ref b] ∧ SqT K H1 a (ks.map kV) ∧ SqT K H1 b ys ∧ ∀ p, H1 p = none → Q (.ref p) (upd H1 p (.dK (mergeK [] (ks.zip ys))))
theorem pe_dictZip {X : Cx} {e e2 : Expr} {ta : TA} {p p2 q pos : Pos} (hg : Gl X "dict") (hm : X.mg "dict" = none) (hg2 : Gl X "zip") (hm2 : X.mg "zip" = none) (ha : PA X [e, e2] ta) (hc : X.calm = true := by rfl)
    (hs : starEach [e, e2] X.env = (false, eval e X.env) :: starEach [e2] X.env := by rfl) (hpl : (backTo q (starEach [e2] X.env)).any (·.1) = false := by rfl)
    (na : starEach [.Call (.Name "zip" p2) [e, e2] [] q] X.env = (false, eval (.Call (.Name "zip" p2) [e, e2] [] q) X.env) :: starEach [] X.env := by rfl) :
    PE X (.Call (.Name "dict" p) [.Call (.Name "zip" p2) [e, e2] [] q] [] pos) (tDictZip X.K ta) := by
  refine ⟨fun pins s σ H Q I h => ?_⟩
  refine Call_ (ld_blt I hg hm PyProof.Rows.boot_dict (PyProof.Rows.callWith_type1 (PyProof.Rows.args_cons ?_ na) na rfl))
  refine Call_ (ld_blt I hg2 hm2 PyProof.Rows.boot_zip (PyProof.Rows.callWith_type1 (thn (ha.run q pins s σ H _ I h) fun us s1 ⟨vs, H1, I1, r1, q1⟩ => ?_) hs hpl))
  obtain ⟨a, b, ks, ys, ex, h1, h2, q1⟩ := q1
  subst ex
  cases r1 with
  | cons r rr =>
    cases rr with
    | cons r' rr =>
      cases rr
      cases r
      cases r'
      obtain ⟨us, rv, p1, z1⟩ := I1.tuple h1
      obtain ⟨ws, rv2, p2, z2⟩ := I1.tuple h2
      have t1 : s1.heap.IsTuple a us.toArray := p1
      have t2 : s1.heap.IsTuple b ws.toArray := p2
      have la : a < s1.heap.objs.size := let ⟨_, e, _⟩ := t1; Heap.lt_size e
      have lb : b < s1.heap.objs.size := let ⟨_, e, _⟩ := t2; Heap.lt_size e
      refine zip_begins2 (begins_tuple a us.toArray) (begins_tuple b ws.toArray) t1 t2 fun h' hz hTI hTO g1 g2 hsz hk => PyProof.Rows.args_nil ?_
      have S : ZipSep2 (s1.heap.objs.size + 4) (s1.heap.objs.size + 2) (s1.heap.objs.size + 3) s1.heap.objs.size (s1.heap.objs.size + 1) [s1.heap.objs.size, a] [s1.heap.objs.size + 1, b] :=
        zip_sep2 (fp1 := [a]) (fp2 := [b]) (fun c hc => by rw [List.mem_singleton.mp hc]; exact la) (fun c hc => by rw [List.mem_singleton.mp hc]; exact lb)
      obtain ⟨kvs, hkv, hlen, hat⟩ := kv_zip rv rv2
      have I2 : Inv X pins σ H1 { s1 with heap := h' } := I1.kept (t' := s1.toks) hk
      have lz : kvs.length ≤ sizeLine := by
        rw [hlen]
        have := rv.length
        omega
      refine PySem.call_dict_pairs (s := { s1 with heap := h' }) (knd := mixKind X.prog X.w) (kvs := kvs) (zipArg S (drawsT _ _ (Nat.ne_of_lt la) _) (drawsT _ _ (Nat.ne_of_lt (Nat.lt_succ_of_lt lb)) _) liveT liveT) (I1.ok.hd hc) ⟨hz, hTI, ⟨_, _, hTO⟩, ⟨⟨_, g1, rfl, rfl⟩, t1.at fun o e => hk _ o e⟩, ⟨_, g2, rfl, rfl⟩, t2.at fun o e => hk _ o e⟩ ⟨by simpa using hlen, fun i k v hkv' => ?_⟩ (by simpa [← hlen] using lz) fun h'' tk hd hk2 => ?_
      · obtain ⟨c, e, rc⟩ := hat i k v (by simpa using hkv'.1) (by simpa using hkv'.2)
        exact ⟨c, e, kV_is rc⟩
      · have wr : ∀ c o, s1.heap.get? c = some o → h''.get? c = some o := fun c o e => hk2 c o (fun hm => by
          have e' : c = s1.heap.objs.size + 4 ∨ c = s1.heap.objs.size + 3 ∨ c = s1.heap.objs.size ∨ c = s1.heap.objs.size + 1 := by simpa using hm
          exact (show ∀ m n : Nat, m < n → (m = n + 4 ∨ m = n + 3 ∨ m = n ∨ m = n + 1) → False from fun m n h e => by omega) c s1.heap.objs.size (Heap.lt_size e) e') (hk _ _ e)
        have hmk : (mergeK [] (ks.zip ys)).length ≤ sizeLine := by
          refine Nat.le_trans (length_mergeK _ []) ?_
          rw [List.length_nil, Nat.zero_add, hkv.length]
          exact lz
        have hle : s1.heap.objs.size ≤ h'.objs.size := by omega
        have hms : (h'.objs.size == sysModules) = false := beq_eq_false_iff_ne.mpr (Nat.ne_of_gt (Nat.lt_of_lt_of_le I1.big hle))
        exact ⟨.ref h'.objs.size, upd H1 h'.objs.size (.dK (mergeK [] (ks.zip ys))), I1.laid (t' := tk) wr hle (show ObjOk X.prog X.w _ _ _ (.dK (mergeK [] (ks.zip ys))) from ⟨hmk, hms, merged [] kvs, KV.merge hkv .nil, hd⟩), rfl, q1 _ (I1.hok.fresh hle)⟩
/-! ### zip of a list and a tuple -/
/-- what stands at a and b at each turn, in new pairs -/
def ItzM (K : PySem.W.Frag) (a b : Addr) : It :=
  ⟨fun i H => ∃ (xs ys : List V) (x y : V), SqL K H a xs ∧ SqT K H b ys ∧ xs[i]? = some x ∧ ys[i]? = some y,
    fun i H v H' => ∃ T x y, v = .ref T ∧ H T = none ∧ H' = upd H T (.tup [x, y]) ∧ (∀ xs, SqL K H a xs → xs[i]? = some x) ∧ ∀ ys, SqT K H b ys → ys[i]? = some y,
    fun i H => ∃ xs ys : List V, SqL K H a xs ∧ SqT K H b ys ∧ i = xs.length ∧ i = ys.length⟩
theorem turn_zipM {P : Program} {w : World} {K : PySem.W.Frag} {elts : List Expr} {kk : Nat} {tpos : Pos} {a b z TI TO i1 i2 : Addr} (S : ZipSep2 z TI TO i1 i2 [i1, a] [i2, b]) (ai : a ≠ i1) (bi : b ≠ i2) :
    Turn P w K (.Tuple elts kk tpos) (ItzM K a b) [z, TI, TO, i1, i2] z (fun i h => IsZip h z TI TO .none ∧ IsTupOf2 h TI (.ref i1) (.ref i2) ∧ (∃ x y, IsTupOf2 h TO x y) ∧ h.IsListIter i1 a i ∧ h.IsTupleIter i2 b i) where
  mem := by simp
  obj := fun i h ⟨c1, c2, ⟨x, y, c3⟩, ⟨o1, e1, _, d1⟩, o2, e2, _, d2⟩ c hc => by
    have e' : c = z ∨ c = TI ∨ c = TO ∨ c = i1 ∨ c = i2 := by simpa using hc
    rcases e' with q | q | q | q | q <;> rw [q]
    · exact ⟨_, c1, fun v q => nomatch q⟩
    · exact ⟨_, c2, fun v q => nomatch q⟩
    · exact ⟨_, c3, fun v q => nomatch q⟩
    · exact ⟨o1, e1, fun v q => by rw [d1] at q; cases q⟩
    · exact ⟨o2, e2, fun v q => by rw [d2] at q; cases q⟩
  keep := fun i h h' ⟨c1, c2, ⟨x, y, c3⟩, c4, c5⟩ k => ⟨k z (by simp) _ c1, k TI (by simp) _ c2, ⟨x, y, k TO (by simp) _ c3⟩, c4.at fun o q => k i1 (by simp) o q, c5.at fun o q => k i2 (by simp) o q⟩
  item := by
    intro X hP hw hK hc i pins s σ H E I hf st ⟨xs, ys, x, y, qx, qy, hx, hy⟩
    subst hP hw hK
    obtain ⟨c1, c2, ⟨x0, y0, c3⟩, c4, c5⟩ := st
    obtain ⟨us, rv, p1, z1⟩ := I.list qx
    obtain ⟨ws, rv2, p2, z2⟩ := I.tuple qy
    obtain ⟨u, hu, ru⟩ := rv.get hx
    obtain ⟨w', hw', rw'⟩ := rv2.get hy
    have hh := I.ok.hd hc
    have lt1 : i < us.length := (List.getElem?_eq_some_iff.mp hu).1
    have lt2 : i < ws.length := (List.getElem?_eq_some_iff.mp hw').1
    have G := GoesN.zip2 (prog := X.prog) (w := X.w) (A := X.A) (elts := elts) (x1 := kk) (pos := tpos) S (Draws.list (A := X.A.in1) hh i1 a ai us.toArray) (Draws.tuple (A := X.A.in1) hh i2 b bi ws.toArray)
    refine wpAny_mono (G.goes i s (fun v s2 => ∃ x H', Inv X pins σ H' s2 ∧ RelV x v ∧ (ItzM X.K a b).yld i H x H' ∧ (IsZip s2.heap z TI TO .none ∧ IsTupOf2 s2.heap TI (.ref i1) (.ref i2) ∧ (∃ x y, IsTupOf2 s2.heap TO x y) ∧ s2.heap.IsListIter i1 a (i + 1) ∧ s2.heap.IsTupleIter i2 b (i + 1)) ∧ ∀ b ∈ [z, TI, TO, i1, i2], H' b = none) E (by simp; omega) ⟨c1, c2, ⟨_, _, c3⟩, ⟨c4, p1.isList⟩, c5, p2⟩ fun v h' tk ⟨T, x', y', ev, hT, ex, ey, tT⟩ ⟨g1, g2, g3, ⟨g4, _⟩, g5, _⟩ hk htk => ?_) (fun r s1 q => q) fun _ _ q => q
    subst ev
    have ex' : x' = u := by
      have e2 : us[i]? = some x' := by simpa using ex
      rw [hu] at e2
      exact (Option.some.inj e2).symm
    have ey' : y' = w' := by
      have e2 : ws[i]? = some y' := by simpa using ey
      rw [hw'] at e2
      exact (Option.some.inj e2).symm
    subst ex' ey'
    obtain ⟨oT, hoT, hcT, nT, hdT⟩ := tT
    have new : ObjOk X.prog X.w (upd H T (.tup [x, y])) h' T (.tup [x, y]) := ⟨by show 2 ≤ sizeLine; decide, [x', y'], .cons ru (.cons rw' .nil), ⟨oT, hoT, hcT, nT, hdT⟩⟩
    have I1 : Inv X pins σ (upd H T (.tup [x, y])) { s with heap := h', toks := tk } :=
      I.turnedNew (t' := tk) (ch := [z, TI, TO, i1, i2]) (fun c o hb q => hk c o (fun hm => hb (by
        have e' : c = z ∨ c = TO ∨ c = i1 ∨ c = i2 := by simpa using hm
        rcases e' with e' | e' | e' | e' <;> simp [e'])) q) hf hT new
    refine ⟨.ref T, _, I1, rfl, ⟨T, x, y, rfl, I.hok.fresh hT, rfl, fun l hl => by rw [I.list_inj hl qx]; exact hx, fun l hl => by rw [I.tuple_inj hl qy]; exact hy⟩, ⟨g1, g2, g3, g4, g5⟩, fun c hcm => ?_⟩
    have hlt : c < s.heap.objs.size := by
      have e' : c = z ∨ c = TI ∨ c = TO ∨ c = i1 ∨ c = i2 := by simpa using hcm
      rcases e' with q | q | q | q | q <;> rw [q]
      · exact Heap.lt_size c1
      · exact Heap.lt_size c2
      · exact Heap.lt_size c3
      · exact let ⟨_, e, _⟩ := c4; Heap.lt_size e
      · exact let ⟨_, e, _⟩ := c5; Heap.lt_size e
    have hcT : c ≠ T := Nat.ne_of_lt (Nat.lt_of_lt_of_le hlt hT)
    rw [upd_ne hcT]
    exact (hf c hcm).1
  done := by
    intro X hP hw hK hc i pins s σ H E I hf st ⟨xs, ys, qx, qy, h1, h2⟩
    subst hP hw hK
    obtain ⟨c1, c2, ⟨x0, y0, c3⟩, c4, c5⟩ := st
    obtain ⟨us, rv, p1, z1⟩ := I.list qx
    obtain ⟨ws, rv2, p2, z2⟩ := I.tuple qy
    have hh := I.ok.hd hc
    have l1 := rv.length
    have l2 := rv2.length
    have G := GoesN.zip2 (prog := X.prog) (w := X.w) (A := X.A) (elts := elts) (x1 := kk) (pos := tpos) S (Draws.list (A := X.A.in1) hh i1 a ai us.toArray) (Draws.tuple (A := X.A.in1) hh i2 b bi ws.toArray)
    have em : min us.toArray.size ws.toArray.size = i := by simp; omega
    rw [em] at G
    exact G.stops s _ E ⟨c1, c2, ⟨_, _, c3⟩, ⟨c4, p1.isList⟩, c5, p2⟩ fun h' tk hk htk => I.turnedL (t' := tk) (ch := [z, TI, TO, i1, i2]) (fun c o hb q => hk c o (fun hm => hb (by
        have e' : c = z ∨ c = TO ∨ c = i1 ∨ c = i2 := by simpa using hm
        rcases e' with e' | e' | e' | e' <;> simp [e'])) q) hf
  self := fun A i s Q E st h => wpAny_pyIter_zip st.1 h
def iZipM (K : PySem.W.Frag) (ta : TA) : TI := fun σ H R => ta σ H fun vs H1 => ∃ a b xs ys, vs = [.ref a, .ref b] ∧ SqL K H1 a xs ∧ SqT K H1 b ys ∧ R (ItzM K a b) H1
theorem pi_zipM {X : Cx} {e e2 : Expr} {ta : TA} {p pos tpos : Pos} {elts : List Expr} {kk : Nat} (hg : Gl X "zip") (hm : X.mg "zip" = none) (ha : PA X [e, e2] ta)
    (hs : starEach [e, e2] X.env = (false, eval e X.env) :: starEach [e2] X.env := by rfl) (hpl : (backTo pos (starEach [e2] X.env)).any (·.1) = false := by rfl) : PI X (.Tuple elts kk tpos) (.Call (.Name "zip" p) [e, e2] [] pos) (iZipM X.K ta) := by
  refine ⟨fun pins s σ H R I h => Call_ (ld_blt I hg hm PyProof.Rows.boot_zip (PyProof.Rows.callWith_type1 (thn (ha.run pos pins s σ H _ I h) fun us s1 ⟨vs, H1, I1, r1, q1⟩ => ?_) hs hpl))⟩
  obtain ⟨a, b, xs, ys, rfl, qx, qy, q⟩ := q1
  cases r1 with
  | cons r rr =>
    cases rr with
    | cons r' rr =>
      cases rr
      cases r
      cases r'
      obtain ⟨us, rv, p1, _⟩ := I1.list qx
      obtain ⟨ws, rv2, p2, _⟩ := I1.tuple qy
      have t2 : s1.heap.IsTuple b ws.toArray := p2
      have la : a < s1.heap.objs.size := p1.lt
      have lb : b < s1.heap.objs.size := let ⟨_, e, _⟩ := t2; Heap.lt_size e
      refine zip_begins2 (begins_list a us.toArray) (begins_tuple b ws.toArray) p1.isList t2 fun h' hz hTI hTO g1 g2 hsz hk => wpAny_pyIter_zip hz ?_
      have S : ZipSep2 (s1.heap.objs.size + 4) (s1.heap.objs.size + 2) (s1.heap.objs.size + 3) s1.heap.objs.size (s1.heap.objs.size + 1) [s1.heap.objs.size, a] [s1.heap.objs.size + 1, b] :=
        zip_sep2 (fp1 := [a]) (fp2 := [b]) (fun c hc => by rw [List.mem_singleton.mp hc]; exact la) (fun c hc => by rw [List.mem_singleton.mp hc]; exact lb)
      have I2 : Inv X pins σ H1 { s1 with heap := h' } := I1.kept (t' := s1.toks) hk
      refine ⟨s1.heap.objs.size + 4, [s1.heap.objs.size + 4, s1.heap.objs.size + 2, s1.heap.objs.size + 3, s1.heap.objs.size, s1.heap.objs.size + 1], _, _, H1, rfl, I2, turn_zipM S (Nat.ne_of_lt la) (Nat.ne_of_lt (Nat.lt_succ_of_lt lb)), ⟨hz, hTI, ⟨_, _, hTO⟩, ⟨_, g1, rfl, rfl⟩, ⟨_, g2, rfl, rfl⟩⟩, fun c hcm => ?_, q⟩
      have e' : c = s1.heap.objs.size + 4 ∨ c = s1.heap.objs.size + 2 ∨ c = s1.heap.objs.size + 3 ∨ c = s1.heap.objs.size ∨ c = s1.heap.objs.size + 1 := by simpa using hcm
      have hle : s1.heap.objs.size ≤ c := (show ∀ m n : Nat, (m = n + 4 ∨ m = n + 2 ∨ m = n + 3 ∨ m = n ∨ m = n + 1) → n ≤ m from fun m n e => by omega) c s1.heap.objs.size e'
      exact I1.fpOk hle (I1.hok.fresh hle)
section
variable {σ : L2.St} {H : Hp} {Q : VK} {K : PySem.W.Frag} {g : TG} {tt : TT} {te : TE} {vs : List Nat}
/-- a comprehension over zip of two tuples -/
def LcZ (K : PySem.W.Frag) (g : TG) (tt : TT) (te : TE) (vs : List Nat) (xs : List V) (σ : L2.St) (H : Hp) (Q : VK) : Prop := tLc (RZ.iZipA K fun _ H R => R xs H) g tt te vs σ H Q
theorem r_lcz {ta : TA} (q : ta σ H fun xs H1 => LcZ K g tt te vs xs σ H1 Q) : tLc (RZ.iZipA K ta) g tt te vs σ H Q := q
theorem r_lcZ {a b : Addr} {xs ys : List V} (ha : ∀ H', Same H H' → SqT K H' a xs) (hb : ∀ H', Same H H' → SqT K H' b ys) (hl : xs.length = ys.length) (hz : xs.length ≤ 50000) (keep : Nat → Bool) (R : Nat → V → Hp → Prop) (hR : ∀ k y H H', TEx H H' → R k y H → R k y H')
    (step : ∀ i x y T H2, xs[i]? = some x → ys[i]? = some y → Same H H2 → H2 T = some (.tup [x, y]) → LcStep H2 g tt te vs σ keep R i (.ref T))
    (q : ∀ L zs H', H L = none → Same H H' → H' L = some (.lst zs) → Paired (fun k y => R k y H') ((List.range xs.length).filter keep) zs → Q (.ref L) H') : LcZ K g tt te vs [.ref a, .ref b] σ H Q := by
  refine ⟨a, b, xs, ys, rfl, .inr ⟨ha H (Same.refl H), hb H (Same.refl H), fun L hL => ?_⟩⟩
  refine ⟨fun i m Hc => m = xs.length - i ∧ i ≤ xs.length ∧ CI H L keep R i Hc, ⟨xs.length, rfl, Nat.zero_le _, ci_zero hL⟩, ?_⟩
  rintro i m Hc ⟨rfl, hi, p⟩
  have qa : SqT K Hc a xs := ha Hc p.2.1
  have qb : SqT K Hc b ys := hb Hc p.2.1
  by_cases hlt : i < xs.length
  · have hx : xs[i]? = some xs[i] := List.getElem?_eq_getElem hlt
    have hlt2 : i < ys.length := by omega
    have hy : ys[i]? = some ys[i] := List.getElem?_eq_getElem hlt2
    refine .inr ⟨⟨xs, ys, _, _, qa, qb, hx, hy⟩, CI H L keep R (i + 1), fun H' p' => ⟨xs.length - (i + 1), by omega, rfl, hlt, p'⟩, fun v H' y => ?_⟩
    obtain ⟨T, x', y', rfl, hT, rfl, f1, f2⟩ := y
    have s2 : Same Hc (upd Hc T (.tup [x', y'])) := same_new hT
    exact step i x' y' T _ (f1 xs qa) (f2 ys qb) (p.2.1.trans s2) upd_same _ _ _ (Same.refl _) (fun z H4 e hk hy => ci_yes (by omega) hR p (s2.trans e) hk hy) (fun H4 e hk => ci_no hR p (s2.trans e) hk)
  · have e : i = xs.length := by omega
    subst e
    exact .inl ⟨⟨xs, ys, qa, qb, .inl (Nat.le_refl _)⟩, q L _ Hc p.1 p.2.1 p.2.2.choose_spec.1 p.2.2.choose_spec.2⟩
end
/-- the turns of a comprehension with a test, over two names -/
theorem lc_pair {K : PySem.W.Frag} {H : Hp} {tt : TT} {te : TE} {vs : List Nat} {σ : L2.St} {j k : Nat} {keep : Nat → Bool} {R : Nat → V → Hp → Prop} {i : Nat} {T : Addr} {x y : V} (hT : H T = some (.tup [x, y])) (hw : wipe (((wipe σ vs).set j (some x)).set k (some y)) vs = wipe σ vs)
    (h : ∀ (H3 : Hp) (Qs : VK) (Qn : Hp → Prop), Same H H3 → (∀ y H4, Same H3 H4 → keep i = true → R i y H4 → Qs y H4) → (∀ H4, Same H3 H4 → keep i = false → Qn H4) → tt (((wipe σ vs).set j (some x)).set k (some y)) H3 fun b H5 => if b = true then te (((wipe σ vs).set j (some x)).set k (some y)) H5 Qs else Qn H5) :
    LcStep H (gTup K 2 (gCons (gName j) (gCons (gName k) gNil))) tt te vs σ keep R i (.ref T) := fun H3 Qs Qn e q q' => r_gpair (e T _ hT) ⟨hw, h H3 Qs Qn e q q'⟩
/-! for over zip of a list and a tuple -/
section
variable {σ : L2.St} {H : Hp} {K : PySem.W.Frag} {g : TG} {tb u : TS} {n : L2.St → Hp → Prop} {r : VK} {b c : L2.St → Hp → Prop}
def ForM (K : PySem.W.Frag) (g : TG) (tb : TS) (xs : List V) : TS := tFor (iZipM K fun _ H Q => Q xs H) g tb
theorem r_sform {ta : TA} (q : ta σ H fun x H1 => ForM K g tb x ⟨u ⟨n, r, b, c⟩, r, b, c⟩ σ H1) : tSeq (tFor (iZipM K ta) g tb) u ⟨n, r, b, c⟩ σ H := q
theorem r_form {ta : TA} (q : ta σ H fun x H1 => ForM K g tb x ⟨n, r, b, c⟩ σ H1) : tFor (iZipM K ta) g tb ⟨n, r, b, c⟩ σ H := q
theorem r_forM {p q : Addr} {xs ys : List V} (hl : xs.length = ys.length) (Pv : Nat → L2.St → Hp → Prop) (h0 : Pv 0 σ H) (hq : ∀ i σ' H', Pv i σ' H' → H' p = some (.lst xs) ∧ H' q = some (.tup ys))
    (hs : ∀ (i : Nat) (x y : V) (T : Addr) σ' H' H2, xs[i]? = some x → ys[i]? = some y → Pv i σ' H' → Same H' H2 → H2 T = some (.tup [x, y]) → g (.ref T) σ' H2 fun σ2 H3 => tb ⟨Pv (i + 1), r, n, Pv (i + 1)⟩ σ2 H3) (hd : ∀ σ' H', Pv xs.length σ' H' → n σ' H') :
    ForM K g tb [.ref p, .ref q] ⟨n, r, b, c⟩ σ H := by
  refine ⟨p, q, xs, ys, rfl, SqL.of (hq 0 σ H h0).1, SqT.of (hq 0 σ H h0).2, fun i m σ' H' => m = xs.length - i ∧ i ≤ xs.length ∧ Pv i σ' H', ⟨xs.length, rfl, Nat.zero_le _, h0⟩, ?_⟩
  rintro i m σ' H' ⟨rfl, hi, z⟩
  have qa : SqL K H' p xs := SqL.of (hq i σ' H' z).1
  have qb : SqT K H' q ys := SqT.of (hq i σ' H' z).2
  by_cases hlt : i < xs.length
  · have hx : xs[i]? = some xs[i] := List.getElem?_eq_getElem hlt
    have hlt2 : i < ys.length := by omega
    have hy : ys[i]? = some ys[i] := List.getElem?_eq_getElem hlt2
    refine .inr ⟨⟨xs, ys, _, _, qa, qb, hx, hy⟩, Pv (i + 1), fun σ2 H2 p' => ⟨xs.length - (i + 1), by omega, rfl, hlt, p'⟩, fun v H2 y => ?_⟩
    obtain ⟨T, x', y', rfl, hT, rfl, f1, f2⟩ := y
    exact hs i x' y' T σ' H' _ (f1 xs qa) (f2 ys qb) z (same_new hT) upd_same
  · have e : i = xs.length := by omega
    subst e
    exact .inl ⟨⟨xs, ys, qa, qb, rfl, hl⟩, hd σ' H' z⟩
end
end Vt
-- VtRule
set_option Elab.async false
set_option linter.all false
set_option maxRecDepth 100000
set_option maxHeartbeats 4000000
namespace Vt
open PySem PySem.Spec PyProof.Rows L2
section
variable {σ : L2.St} {H : Hp} {Q : VK} {D : Ends} {K : PySem.W.Frag}
/-! ### dicts -/
def DGetQ (x y : V) (H : Hp) (Q : VK) : Prop := ∃ a v, x = .ref a ∧ DGet H a y (some v) ∧ Q v H
theorem r_dget {td ty : TE} (q : td σ H fun x H1 => ty σ H1 fun y H2 => DGetQ x y H2 Q) : tDGet td ty σ H Q := q
theorem r_dgetK {a : Addr} {kvs : List (Key × V)} {y : V} {k : Key} {v : V} (h : H a = some (.dK kvs)) (hy : y = kV k) (e : valV kvs k = some v) (q : Q v H) : DGetQ (.ref a) y H Q := ⟨a, v, rfl, by rw [hy, ← e]; exact DGet.k h, q⟩
theorem r_dgetT {a b : Addr} {kvs : List (List Key × V)} {k : List Key} {v : V} (h : H a = some (.dT kvs)) (hb : H b = some (.tup (k.map kV))) (e : valV kvs k = some v) (q : Q v H) : DGetQ (.ref a) (.ref b) H Q := ⟨a, v, rfl, by rw [← e]; exact DGet.t h hb, q⟩
def DInQ (neg : Bool) (x y : V) (H : Hp) (Q : VK) : Prop := ∃ a o, x = .ref a ∧ DGet H a y o ∧ Q (.bl (if neg then !o.isSome else o.isSome)) H
theorem r_din {td ty : TE} (q : ty σ H fun y H1 => td σ H1 fun x H2 => DInQ false x y H2 Q) : tDIn ty td σ H Q := q
theorem r_dnotin {td ty : TE} (q : ty σ H fun y H1 => td σ H1 fun x H2 => DInQ true x y H2 Q) : tDNotIn ty td σ H Q := q
theorem r_dinK {neg : Bool} {a : Addr} {kvs : List (Key × V)} {y : V} {k : Key} (h : H a = some (.dK kvs)) (hy : y = kV k) (q : Q (.bl (if neg then !(valV kvs k).isSome else (valV kvs k).isSome)) H) : DInQ neg (.ref a) y H Q := ⟨a, _, rfl, by rw [hy]; exact DGet.k h, q⟩
theorem r_dinT {neg : Bool} {a b : Addr} {kvs : List (List Key × V)} {k : List Key} (h : H a = some (.dT kvs)) (hb : H b = some (.tup (k.map kV))) (q : Q (.bl (if neg then !(valV kvs k).isSome else (valV kvs k).isSome)) H) : DInQ neg (.ref a) (.ref b) H Q := ⟨a, _, rfl, DGet.t h hb, q⟩
def DPutQ (x y v : V) (H : Hp) (N : Hp → Prop) : Prop := ∃ a H4, x = .ref a ∧ DPut H a y v H4 ∧ N H4
theorem r_dput {n : L2.St → Hp → Prop} {r : VK} {b c : L2.St → Hp → Prop} {td ty tv : TE} (q : tv σ H fun v H1 => td σ H1 fun x H2 => ty σ H2 fun y H3 => DPutQ x y v H3 (n σ)) : sDPut td ty tv ⟨n, r, b, c⟩ σ H := q
theorem r_sdput {n : L2.St → Hp → Prop} {r : VK} {b c : L2.St → Hp → Prop} {u : TS} {td ty tv : TE} (q : tv σ H fun v H1 => td σ H1 fun x H2 => ty σ H2 fun y H3 => DPutQ x y v H3 (u ⟨n, r, b, c⟩ σ)) : tSeq (sDPut td ty tv) u ⟨n, r, b, c⟩ σ H := q
theorem r_dputK {a : Addr} {kvs : List (Key × V)} {y : V} {k : Key} {v : V} {N : Hp → Prop} (h : H a = some (.dK kvs)) (hy : y = kV k) (hz : kvs.length < 1000000) (q : ∀ H4, H4 = upd H a (.dK (putK kvs k v)) → N H4) : DPutQ (.ref a) y v H N :=
  ⟨a, _, rfl, by rw [hy]; exact DPut.k h (Nat.lt_of_lt_of_le hz (by decide)), q _ rfl⟩
theorem r_dputT {a b : Addr} {kvs : List (List Key × V)} {k : List Key} {v : V} {N : Hp → Prop} (h : H a = some (.dT kvs)) (hb : H b = some (.tup (k.map kV))) (hz : kvs.length < 1000000) (q : ∀ H4, H4 = upd H a (.dT (putK kvs k v)) → N H4) : DPutQ (.ref a) (.ref b) v H N :=
  ⟨a, _, rfl, DPut.t h hb (Nat.lt_of_lt_of_le hz (by decide)), q _ rfl⟩
theorem r_dnewK (q : ∀ p H2, H p = none → Same H H2 → H2 p = some (.dK []) → Q (.ref p) H2) : tDNewK σ H Q := fun p hp => q p _ hp (same_new hp) upd_same
theorem r_dnewT (q : ∀ p H2, H p = none → Same H H2 → H2 p = some (.dT []) → Q (.ref p) H2) : tDNewT σ H Q := fun p hp => q p _ hp (same_new hp) upd_same
def DzQ (K : PySem.W.Frag) (xs : List V) (σ : L2.St) (H : Hp) (Q : VK) : Prop := tDictZip K (fun _ H Q => Q xs H) σ H Q
theorem r_dzip {ta : TA} (q : ta σ H fun xs H1 => DzQ K xs σ H1 Q) : tDictZip K ta σ H Q := q
theorem r_dictZip {a b : Addr} {ks : List Key} {xs ys : List V} (ha : H a = some (.tup xs)) (hx : xs = ks.map kV) (hb : H b = some (.tup ys)) (q : ∀ p H2, H p = none → Same H H2 → H2 p = some (.dK (mergeK [] (ks.zip ys))) → Q (.ref p) H2) : DzQ K [.ref a, .ref b] σ H Q :=
  ⟨a, b, ks, ys, rfl, SqT.of (by rw [← hx]; exact ha), SqT.of hb, fun p hp => q p _ hp (same_new hp) upd_same⟩
def rLdT : List V → Hp → VK → Prop := fun xs H Q => ∃ d kvs, xs = [V.ref d] ∧ Rd H d (.dT kvs) ∧ ∀ p bs, H p = none → IsKeys H kvs bs → Q (.ref p) (upd H p (.lst (bs.map V.ref)))
theorem cr_ldT {X : Cx} (hc : X.calm = true) : CallR X (.type "list") rLdT := call_list_dT hc
theorem r_list_dT {a : Addr} {kvs : List (List Key × V)} (h : H a = some (.dT kvs)) (q : ∀ l bs H2, H l = none → Same H H2 → IsKeys H kvs bs → H2 l = some (.lst (bs.map V.ref)) → Q (.ref l) H2) : rLdT [.ref a] H Q :=
  ⟨a, kvs, rfl, .inl h, fun p bs hp hk => q p bs _ hp (same_new hp) hk upd_same⟩
/-! ### in a tuple or list of texts -/
theorem inV_strs (z : Str) : ∀ ks : List Str, inV (.str z) (ks.map V.str) = decide (z ∈ ks)
  | [] => by simp [inV]
  | k :: r => by
    have ih := inV_strs z r
    unfold inV at ih ⊢
    rw [List.map_cons, List.any_cons, ih]
    have e : eqV (V.str k) (V.str z) = decide (k = z) := rfl
    rw [e]
    by_cases h : k = z
    · subst h; simp
    · have h2 : ¬ z = k := fun q => h q.symm
      simp [h, h2]
theorem flat_strs (ks : List Str) : (ks.map V.str).all flatV = true := by
  rw [List.all_map]
  exact List.all_eq_true.mpr fun _ _ => rfl
theorem r_inT {neg : Bool} {p : Addr} {xs : List V} {z : Str} {ks : List Str} (h : H p = some (.tup xs)) (hx : xs = ks.map V.str) (q : Q (.bl (if neg then !decide (z ∈ ks) else decide (z ∈ ks))) H) : rIn K neg (.str z) (.ref p) H Q :=
  ⟨p, xs, rfl, .inr (SqT.of h), rfl, by rw [hx]; exact flat_strs ks, by rw [hx, inV_strs]; exact q⟩
theorem r_inL {neg : Bool} {p : Addr} {xs : List V} {z : Str} {ks : List Str} (h : H p = some (.lst xs)) (hx : xs = ks.map V.str) (q : Q (.bl (if neg then !decide (z ∈ ks) else decide (z ∈ ks))) H) : rIn K neg (.str z) (.ref p) H Q :=
  ⟨p, xs, rfl, .inl (SqL.of h), rfl, by rw [hx]; exact flat_strs ks, by rw [hx, inV_strs]; exact q⟩
/-! tuple.index -/
/-- a tuple whose object is known to have no dict -/
def FzT (H : Hp) (l : Addr) (ys : List V) : Prop := ∃ o : Obj, H l = some (.frz o (.tup ys)) ∧ o.cls = .type "tuple" ∧ o.dict = none
theorem FzT.same {H H' : Hp} {l : Addr} {ys : List V} (h : FzT H l ys) (e : Same H H') : FzT H' l ys := let ⟨o, q, r⟩ := h; ⟨o, e _ _ q, r⟩
theorem FzT.sq {K : PySem.W.Frag} {H : Hp} {l : Addr} {ys : List V} (h : FzT H l ys) : SqT K H l ys := let ⟨o, q, _⟩ := h; .inl (.inr ⟨o, q⟩)
def tyTup (x : V) (H : Hp) : Prop := ∃ p xs, x = .ref p ∧ FzT H p xs
theorem tyTup_ok {X : Cx} : TyOk X "tuple" tyTup := fun pins s σ H x v I r ⟨p, xs, e, o, h, hc, hd⟩ => by
  subst e
  cases r
  obtain ⟨ho, _⟩ := I.hok p _ h
  exact ⟨⟨o, ho, hc⟩, fun a e => by cases e; exact ⟨o, ho, hd⟩⟩
/-- tuple(xs) of a list: the object is told -/
def rTupFz (K : PySem.W.Frag) : List V → Hp → VK → Prop := fun xs H Q => ∃ p ys, xs = [.ref p] ∧ SqL K H p ys ∧ ∀ l H2, H l = none → Same H H2 → FzT H2 l ys → Q (.ref l) H2
theorem cr_tupFz {X : Cx} : CallR X (.type "tuple") (rTupFz X.K) := by
  intro pins s σ H xs us Q I r h
  obtain ⟨p, ys, rfl, hq, q⟩ := h
  obtain ⟨u, rfl, rx⟩ := vals1 r
  cases rx
  obtain ⟨its, r', pl, hz⟩ := I.list hq
  have hlen := r'.length
  refine call_tuple_list pl.isList (fun h' kp => ?_) (by simp only [List.size_toArray]; omega)
  have I1 : Inv X pins σ H { s with heap := h' } := I.kept (t' := s.toks) kp
  have hf := I1.hok.fresh (Nat.le_refl _)
  have ob : ObjOk X.prog X.w (upd H h'.objs.size (.frz { cls := .type "tuple", data := .seq its.toArray } (.tup ys))) (h'.push { cls := .type "tuple", data := .seq its.toArray }) h'.objs.size (.frz { cls := .type "tuple", data := .seq its.toArray } (.tup ys)) :=
    ⟨Heap.get?_push_size _ rfl, hz, its, r', IsTup.new _ _⟩
  exact ⟨.ref h'.objs.size, _, I1.laid (t' := s.toks) (fun b o e => Heap.get?_push_of_some _ e) (Nat.le_refl _) ob, rfl, q _ _ hf (same_new hf) ⟨_, upd_same, rfl, rfl⟩⟩
theorem r_tupFz {p : Addr} {ys : List V} (h : H p = some (.lst ys)) (q : ∀ l H2, H l = none → Same H H2 → FzT H2 l ys → Q (.ref l) H2) : rTupFz K [.ref p] H Q := ⟨p, ys, rfl, SqL.of h, q⟩
def TyTQ (x : V) (H : Hp) (p : Prop) : Prop := tyTup x H ∧ p
theorem r_mg {r : V → List V → Hp → VK → Prop} {to : TE} {t : TA} (q : to σ H fun x H1 => TyTQ x H1 (t σ H1 fun xs H2 => r x xs H2 Q)) : tMG tyTup r to t σ H Q := q
theorem r_tyT {p : Addr} {xs : List V} {q : Prop} (h : FzT H p xs) (k : q) : TyTQ (.ref p) H q := ⟨⟨p, xs, rfl, h⟩, k⟩
def rIdx (K : PySem.W.Frag) : V → List V → Hp → VK → Prop := fun x xs H Q => ∃ p, ∃ ys : List Str, ∃ z j, x = .ref p ∧ xs = [.str z] ∧ SqT K H p (ys.map V.str) ∧ ys[j]? = some z ∧ (∀ m, m < j → ys[m]? ≠ some z) ∧ Q (.int (j : Nat)) H
theorem mt_idx {X : Cx} : MtR X "tuple.index" (rIdx X.K) := mt_tup_index
theorem r_idx {p : Addr} {xs : List V} {ys : List Str} {z : Str} {j : Nat} (h : SqT K H p xs) (hx : xs = ys.map V.str) (e : ys[j]? = some z) (f : ∀ m, m < j → ys[m]? ≠ some z) (q : Q (.int (j : Nat)) H) : rIdx K (.ref p) [.str z] H Q :=
  ⟨p, ys, z, j, rfl, rfl, by rw [← hx]; exact h, e, f, q⟩
/-! xs[::-1] -/
def RevQ (K : PySem.W.Frag) (x : V) (σ : L2.St) (H : Hp) (Q : VK) : Prop := tRevL K (tC x) σ H Q
theorem r_rev {te : TE} (q : te σ H fun x H1 => RevQ K x σ H1 Q) : tRevL K te σ H Q := q
theorem r_revL {a : Addr} {xs : List V} (h : H a = some (.lst xs)) (q : ∀ p H2, H p = none → Same H H2 → H2 p = some (.lst xs.reverse) → Q (.ref p) H2) : RevQ K (.ref a) σ H Q :=
  ⟨a, xs, rfl, SqL.of h, fun p hp => q p _ hp (same_new hp) upd_same⟩
end
/-! ### rules told for a named K (a block's own K is the def's) -/
section
variable {X : Cx} {K : PySem.W.Frag}
theorem ix_tupK (h : X.K = K) : IxR X (rIxT K) := h ▸ ix_tup
theorem ix_listK (h : X.K = K) : IxR X (rIxL K) := h ▸ ix_list
theorem sl_listK (h : X.K = K) : SlR X (rSlL K) := h ▸ sl_list
theorem sl_tupAK (h : X.K = K) : SlR X (rSlA K) := h ▸ sl_tupA
theorem op_inK (h : X.K = K) : OpR X (compareOp .In) (rIn K false) := h ▸ op_in_seq
theorem op_notInK (h : X.K = K) : OpR X (compareOp .NotIn) (rIn K true) := h ▸ op_notIn_seq
theorem mt_idxK (h : X.K = K) : MtR X "tuple.index" (rIdx K) := h ▸ mt_idx
theorem cr_lnK (h : X.K = K) : CallR X (.builtin "len") (rLn K) := h ▸ cr_ln
theorem cr_tupOfK (h : X.K = K) : CallR X (.type "tuple") (rTupOf K) := h ▸ cr_tupOf
theorem cr_lstOfK (h : X.K = K) : CallR X (.type "list") (rLstOf K) := h ▸ cr_lstOf
theorem cr_tupFzK (h : X.K = K) : CallR X (.type "tuple") (rTupFz K) := h ▸ cr_tupFz
theorem call_isiV (h : X.K = K) : CallR X (.builtin "isinstance") (rIsi K) := h ▸ call_isi
theorem op_catAK (h : X.K = K) : OpR X (binaryOp .Add) (rCatA K) := h ▸ op_catA
theorem pe_revLK {e : Expr} {te : TE} {k : Nat} {p1 p2 p3 pos : Pos} (h : X.K = K) (he : PE X e te) : PE X (.Subscript e (.Slice none none (some (.UnaryOp .USub (.Constant (.int 1) k p1) p2)) p3) pos) (tRevL K te) := h ▸ pe_revL he
end
theorem cr_sumK {X : Cx} {K : PySem.W.Frag} (h : X.K = K) (hc : X.calm = true) : CallR X (.builtin "sum") (rSum K) := h ▸ cr_sum hc
theorem r_sum {K : PySem.W.Frag} {H : Hp} {Q : VK} {a : Addr} {xs : List V} {ns : List Int} (h : H a = some (.lst xs)) (e : xs = ns.map V.int) (q : Q (.int ns.sum) H) : rSum K [.ref a] H Q := ⟨a, ns, rfl, SqL.of (by rw [← e]; exact h), q⟩
/-- truth of a list -/
theorem r_truL {K : PySem.W.Frag} {H : Hp} {a : Addr} {xs : List V} {N : Bool → Prop} (h : H a = some (.lst xs)) (q : N (!xs.isEmpty)) : ∃ k, TruV K (.ref a) H k ∧ N k := ⟨_, .inl ⟨xs, SqL.of h, rfl⟩, q⟩
theorem pg_tupK {X : Cx} {K : PySem.W.Frag} {es : List Expr} {k : Nat} {pos : Pos} {t : TGs} {n : Nat} (h : X.K = K) (hc : X.calm = true) (g : PGs X es t) (hn : (assignEach es X.env).length = n := by rfl) (hst : (assignEach es X.env).findIdx? (·.1) = none := by rfl) : PG X (.Tuple es k pos) (gTup K n t) := h ▸ pg_tup hc g hn hst
/-! ### look-up in dicts -/
section
variable {κ : Type} [DecidableEq κ]
def mrg (kvs more : List (κ × V)) : List (κ × V) := more.foldl (fun acc kv => putK acc kv.1 kv.2) kvs
theorem mrg_not : ∀ (more kvs : List (κ × V)) (k : κ), (∀ p ∈ more, p.1 ≠ k) → valV (mrg kvs more) k = valV kvs k
  | [], _, _, _ => rfl
  | p :: r, kvs, k, h => by
    show valV (mrg (putK kvs p.1 p.2) r) k = valV kvs k
    rw [mrg_not r _ k fun q hq => h q (List.mem_cons_of_mem _ hq), valV_put, if_neg (fun e => h p (List.mem_cons_self ..) e.symm)]
theorem mrg_at : ∀ (more kvs : List (κ × V)) (k : κ) (v : V), (more.map (·.1)).Nodup → (k, v) ∈ more → valV (mrg kvs more) k = some v
  | [], _, _, _, _, h => by cases h
  | p :: r, kvs, k, v, nd, h => by
    obtain ⟨n1, n2⟩ := List.nodup_cons.mp nd
    rcases List.mem_cons.mp h with e | h
    · subst e
      show valV (mrg (putK kvs k v) r) k = some v
      rw [mrg_not r _ k fun q hq e => n1 (by rw [← e]; exact List.mem_map.mpr ⟨q, hq, rfl⟩), valV_put, if_pos rfl]
    · exact mrg_at r _ k v n2 h
end
theorem mergeK_mrg (a b : List (Key × V)) : mergeK a b = mrg a b := rfl
/-- told item by item -/
theorem pd_tp {H : Hp} {f : Nat → PyData} : ∀ {l : List Nat} {ys : List V}, Paired (fun k y => Tp H y (f k)) l ys → TpAll H ys (l.map f)
  | _, _, .nil => .nil
  | _, _, .cons r t => .cons r (pd_tp t)
theorem range_map {α : Type} (xs : List α) (d : α) : (List.range xs.length).map (fun i => xs.getD i d) = xs := by
  apply List.ext_getElem
  · simp
  · intro i h1 h2
    simp [List.getD_eq_getElem?_getD, h2]
end Vt
-- VtStore
set_option Elab.async false
set_option linter.all false
set_option maxRecDepth 100000
set_option maxHeartbeats 4000000
namespace Vt
open PySem PySem.Spec PyProof.Rows L2
/-! ### fields, methods, instances -/
section
variable {σ : L2.St} {H : Hp} {Q : VK} {K : PySem.W.Frag} {n : L2.St → Hp → Prop} {r : VK} {b c : L2.St → Hp → Prop} {u : TS}
def FSetQ (K : PySem.W.Frag) (f : Str) (x y : V) (H : Hp) (N : Hp → Prop) : Prop := ∃ a C dx fs, x = .ref a ∧ H a = some (.ins C dx fs) ∧ Cls K C ∧ NoAttr K C f ∧ fs.length < 1000 ∧ N (upd H a (.ins C dx (putF f y fs)))
theorem r_sfset {ta tv : TE} {f : Str} (q : tv σ H fun y H1 => ta σ H1 fun x H2 => FSetQ K f x y H2 (u ⟨n, r, b, c⟩ σ)) : tSeq (sFld K ta tv f) u ⟨n, r, b, c⟩ σ H := q
theorem r_fset {ta tv : TE} {f : Str} (q : tv σ H fun y H1 => ta σ H1 fun x H2 => FSetQ K f x y H2 (n σ)) : sFld K ta tv f ⟨n, r, b, c⟩ σ H := q
theorem r_fsetq {a C dx : Addr} {fs : List (Str × V)} {f : Str} {y : V} {N : Hp → Prop} (h : H a = some (.ins C dx fs)) (c : Cls K C) (na : NoAttr K C f) (hl : fs.length < 1000) (q : ∀ H2, H2 = upd H a (.ins C dx (putF f y fs)) → N H2) : FSetQ K f (.ref a) y H N := ⟨a, C, dx, fs, rfl, h, c, na, hl, q _ rfl⟩
def FAugQ (K : PySem.W.Frag) (f : Str) (x : V) (H : Hp) (σ : L2.St) (tv : TE) (N : Hp → Prop) : Prop := ∃ a C dx fs v, x = .ref a ∧ H a = some (.ins C dx fs) ∧ Cls K C ∧ NoAttr K C f ∧ fs.lookup f = some v ∧
  tv σ H fun y H2 => rAdd v y H2 fun z H3 => ∃ dx' fs', H3 a = some (.ins C dx' fs') ∧ fs'.length < 1000 ∧ N (upd H3 a (.ins C dx' (putF f z fs')))
theorem r_sfaug {ta tv : TE} {f : Str} (q : ta σ H fun x H1 => FAugQ K f x H1 σ tv (u ⟨n, r, b, c⟩ σ)) : tSeq (sFldAug K ta tv rAdd f) u ⟨n, r, b, c⟩ σ H := q
theorem r_faugq {a C dx : Addr} {fs : List (Str × V)} {f : Str} {i j : Int} {N : Hp → Prop} (h : H a = some (.ins C dx fs)) (c : Cls K C) (na : NoAttr K C f) (l : fs.lookup f = some (.int i)) (hl : fs.length < 1000) (q : ∀ H2, H2 = upd H a (.ins C dx (putF f (.int (i + j)) fs)) → N H2) : FAugQ K f (.ref a) H σ (tC (.int j)) N :=
  ⟨a, C, dx, fs, _, rfl, h, c, na, l, i, j, rfl, rfl, dx, fs, h, hl, q _ rfl⟩
def MethQ (C : Addr) (m : Str) (x : V) (H : Hp) (p : Prop) : Prop := ∃ a dx fs, x = .ref a ∧ H a = some (.ins C dx fs) ∧ fs.lookup m = none ∧ p
theorem r_meth {C : Addr} {m : Str} {sp : Sp} {ta : TE} {t : TA} (q : ta σ H fun x H1 => MethQ C m x H1 (t σ H1 fun vs H2 => sp (x :: vs) H2 Q E0)) : tMeth C m sp [] E0 ta t σ H Q := by
  show ta σ H fun x H1 => ∃ a dx fs, x = .ref a ∧ H1 a = some (.ins C dx fs) ∧ fs.lookup m = none ∧ t σ H1 fun vs H2 => sp (x :: (vs ++ [])) H2 Q E0
  simp only [List.append_nil]
  exact q
theorem r_methq {C a dx : Addr} {m : Str} {fs : List (Str × V)} {p : Prop} (h : H a = some (.ins C dx fs)) (l : fs.lookup m = none) (q : p) : MethQ C m (.ref a) H p := ⟨a, dx, fs, rfl, h, l, q⟩
def MakeQ (C : Addr) (sp : Sp) (vs : List V) (H : Hp) (Q : VK) : Prop := ∀ x dx, H x = none → H dx = none → dx ≠ x → sp (.ref x :: vs) (upd (upd H dx (.own x)) x (.ins C dx [])) (fun v H2 => v = .non ∧ Q (.ref x) H2) E0
theorem r_make {C : Addr} {sp : Sp} {t : TA} (q : t σ H fun vs H1 => MakeQ C sp vs H1 Q) : tMake C sp [] E0 t σ H Q := by
  show t σ H fun vs H1 => ∀ x dx, H1 x = none → H1 dx = none → dx ≠ x → sp (.ref x :: (vs ++ [])) (upd (upd H1 dx (.own x)) x (.ins C dx [])) (fun v H2 => v = .non ∧ Q (.ref x) H2) E0
  simp only [List.append_nil]
  exact q
def rLnD : List V → Hp → VK → Prop := fun xs H Q => ∃ a kvs, xs = [V.ref a] ∧ H a = some (.dK kvs) ∧ Q (.int kvs.length) H
theorem cr_lnD {X : Cx} : CallR X (.builtin "len") rLnD := call_lenD
theorem r_lnD {a : Addr} {kvs : List (Key × V)} (h : H a = some (.dK kvs)) (q : Q (.int kvs.length) H) : rLnD [.ref a] H Q := ⟨a, kvs, rfl, h, q⟩
end
/-! ### tables of code objects -/
def lamN (p : He.Defn) : Str := p.1 ++ ".<locals>." ++ "<lambda>"
def tbV (K : PySem.W.Frag) : List (Addr × Str) := tfV.map fun p => ((He.cT K p).2, lamN p)
abbrev Tb (K : PySem.W.Frag) (H : Hp) : Prop := LamX.Tabs (tbV K) H
/-- data: lists, dicts, instances -/
def dataO : HO → Prop
  | .lst _ => True
  | .dK _ => True
  | .dT _ => True
  | .ins .. => True
  | _ => False
theorem Tb.upd {K : PySem.W.Frag} {H : Hp} (t : Tb K H) {a : Addr} {u o : HO} (h : H a = some u) (hu : dataO u) : Tb K (L2.upd H a o) := fun p hp => by
  obtain ⟨ps, h1, h2, h3⟩ := t p hp
  refine ⟨ps, by rw [upd_ne (ne_of h1 h (by rintro rfl; exact hu))]; exact h1, h2, fun pos cv hc => ?_⟩
  obtain ⟨c, e1, e2⟩ := h3 pos cv hc
  exact ⟨c, e1, by rw [upd_ne (ne_of e2 h (by rintro rfl; exact hu))]; exact e2⟩
theorem Tb.new {K : PySem.W.Frag} {H : Hp} (t : Tb K H) {a : Addr} {o : HO} (h : H a = none) : Tb K (L2.upd H a o) := t.ext fun b u e => by rw [upd_ne (ne_of_none e h)]; exact e
/-- all stays but what stands at S, and tables -/
def ExS (S : List Addr) (H H' : Hp) : Prop := ∀ a o, a ∉ S → (∀ ps, o ≠ .tbl ps) → H a = some o → H' a = some o
theorem ExB.s {S : List Addr} {H H' : Hp} (e : ExB S H H') : ExS S H H' := fun a o n _ h => e a o n h
theorem ExS.refl (S : List Addr) (H : Hp) : ExS S H H := fun _ _ _ _ h => h
theorem ExS.trans {S : List Addr} {H H1 H2 : Hp} (a : ExS S H H1) (b : ExS S H1 H2) : ExS S H H2 := fun x o n m h => b x o n m (a x o n m h)
/-- nothing stands at a, or a table -/
def Nt (H : Hp) (a : Addr) : Prop := ∀ o, H a = some o → ∃ ps, o = .tbl ps
theorem Nt.none {H : Hp} {a : Addr} (h : H a = none) : Nt H a := fun o e => by rw [h] at e; cases e
theorem Nt.ne {H : Hp} {a b : Addr} {o : HO} (h : Nt H a) (e : H b = some o) (n : ∀ ps, o ≠ .tbl ps) : b ≠ a := fun z => by
  rw [z] at e
  obtain ⟨ps, q⟩ := h _ e
  exact n ps q
/-- nothing gets untracked -/
def Nw (H H' : Hp) : Prop := ∀ a, Nt H' a → Nt H a
theorem Nw.ext {H H' : Hp} (e : LamX.ExtN H H') : Nw H H' := fun a h o q => by
  by_cases z : ∃ ps, o = .tbl ps
  · exact z
  · exact h o (e a o q fun ps w => z ⟨ps, w⟩)
theorem Nw.of {H H' : Hp} (e : Same H H') : Nw H H' := Nw.ext (LamX.ExtN.of e)
theorem Nw.upd {H : Hp} {a : Addr} {o : HO} (n : ∀ ps, o ≠ .tbl ps) : Nw H (L2.upd H a o) := fun b h => by
  by_cases e : b = a
  · subst e
    obtain ⟨ps, q⟩ := h o upd_same
    exact (n ps q).elim
  · intro u hu
    exact h u (by rw [upd_ne e]; exact hu)
theorem Nw.trans {H H1 H2 : Hp} (a : Nw H H1) (b : Nw H1 H2) : Nw H H2 := fun x h => a x (b x h)
/-! ### the book and one store -/
/-- the book's numbers -/
def BkR (bk : List Str) (a : Int) (x : Str) : Prop := ∃ i : Nat, a = (i : Int) + 1 ∧ bk[i]? = some x
theorem BkR.fun1 {bk : List Str} {a : Int} {x y : Str} (h : BkR bk a x) (k : BkR bk a y) : x = y := by
  obtain ⟨i, e1, h⟩ := h
  obtain ⟨j, e2, k⟩ := k
  have : i = j := by omega
  subst this
  rw [h] at k
  exact Option.some.inj k
theorem BkR.inj {bk : List Str} (nd : bk.Nodup) {a b : Int} {x : Str} (h : BkR bk a x) (k : BkR bk b x) : a = b := by
  obtain ⟨i, e1, h⟩ := h
  obtain ⟨j, e2, k⟩ := k
  obtain ⟨h1, h2⟩ := List.getElem?_eq_some_iff.mp h
  obtain ⟨k1, k2⟩ := List.getElem?_eq_some_iff.mp k
  have : i = j := (List.getElem_inj nd).mp (h2.trans k2.symm)
  omega
theorem BkR.mono {bk bk' : List Str} (e : bk <+: bk') {a : Int} {x : Str} (h : BkR bk a x) : BkR bk' a x := by
  obtain ⟨i, e1, h⟩ := h
  obtain ⟨r, rfl⟩ := e
  have hi := (List.getElem?_eq_some_iff.mp h).1
  exact ⟨i, e1, by rw [List.getElem?_append_left hi]; exact h⟩
abbrev cB (K : PySem.W.Frag) : Addr := He.ga K "Book"
abbrev cC (K : PySem.W.Frag) : Addr := He.ga K "Chunks"
abbrev Pr : Type := Int → Str → Prop
structure Sg (K : PySem.W.Frag) (H : Hp) (b n c t : Addr) (bk : List Str) (P : Pr) (N : Nat) : Prop where
  bi : ∃ dx, H b = some (.ins (cB K) dx [("numbers", .ref n)])
  bd : ∃ kvs, H n = some (.dK kvs) ∧ kvs.length = bk.length ∧ (∀ (i : Nat) (x : Str), bk[i]? = some x → valV kvs (Sum.inr x) = some (.int ((i : Int) + 1))) ∧ ∀ x, x ∉ bk → valV kvs (Sum.inr x) = none
  nd : bk.Nodup
  ci : ∃ dx i, H c = some (.ins (cC K) dx [("book", .ref b), ("reads", .int i), ("texts", .ref t)])
  cd : ∃ kvs, H t = some (.dK kvs) ∧ kvs.length ≤ N ∧ ∀ a x, P a x → valV kvs (Sum.inl a) = some (.str x)
  sub : ∀ a x, P a x → BkR bk a x
  bN : bk.length ≤ N
  nt : n ≠ t
  bc : b ≠ c
  tb : Tb K H
/-- what a writer leaves -/
structure Wr (H H' : Hp) (n c t : Addr) (bk bk' : List Str) (P P' : Pr) : Prop where
  ex : ExS [c, n, t] H H'
  bk : bk <+: bk'
  P : ∀ a x, P a x → P' a x
  nw : Nw H H'
theorem Wr.refl (H : Hp) (n c t : Addr) (bk : List Str) (P : Pr) : Wr H H n c t bk bk P P := ⟨ExS.refl _ H, List.prefix_refl _, fun _ _ h => h, fun _ h => h⟩
theorem Wr.of {H H' : Hp} {n c t : Addr} {bk : List Str} {P : Pr} (e : Same H H') : Wr H H' n c t bk bk P P := ⟨(ExB.of e).s, List.prefix_refl _, fun _ _ h => h, Nw.of e⟩
theorem Wr.trans {H H1 H2 : Hp} {n c t : Addr} {bk bk1 bk2 : List Str} {P P1 P2 : Pr} (a : Wr H H1 n c t bk bk1 P P1) (b : Wr H1 H2 n c t bk1 bk2 P1 P2) : Wr H H2 n c t bk bk2 P P2 := ⟨a.ex.trans b.ex, a.bk.trans b.bk, fun x y h => b.P x y (a.P x y h), a.nw.trans b.nw⟩
theorem Sg.same {K : PySem.W.Frag} {H H' : Hp} {b n c t : Addr} {bk : List Str} {P : Pr} {N : Nat} (g : Sg K H b n c t bk P N) (e : Same H H') : Sg K H' b n c t bk P N :=
  ⟨let ⟨dx, h⟩ := g.bi; ⟨dx, e _ _ h⟩, let ⟨k, h, r⟩ := g.bd; ⟨k, e _ _ h, r⟩, g.nd, let ⟨dx, i, h⟩ := g.ci; ⟨dx, i, e _ _ h⟩, let ⟨k, h, r⟩ := g.cd; ⟨k, e _ _ h, r⟩, g.sub, g.bN, g.nt, g.bc, g.tb.ext e⟩
theorem Sg.up {K : PySem.W.Frag} {H : Hp} {b n c t : Addr} {bk : List Str} {P : Pr} {N M : Nat} (g : Sg K H b n c t bk P N) (h : N ≤ M) : Sg K H b n c t bk P M :=
  ⟨g.bi, g.bd, g.nd, g.ci, let ⟨k, a, l, r⟩ := g.cd; ⟨k, a, Nat.le_trans l h, r⟩, g.sub, Nat.le_trans g.bN h, g.nt, g.bc, g.tb⟩
/-- plain things: no instances, no dicts -/
def plainO : HO → Prop
  | .ins .. => False
  | .dK _ => False
  | .tbl _ => False
  | _ => True
theorem Sg.keep {K : PySem.W.Frag} {H H' : Hp} {b n c t : Addr} {bk : List Str} {P : Pr} {N : Nat} (g : Sg K H b n c t bk P N) (e : ExS [c, n, t] H H') {a : Addr} {o : HO} (h : H a = some o) (hp : plainO o) : H' a = some o := by
  obtain ⟨dx, i, hc⟩ := g.ci
  obtain ⟨k1, hn, _⟩ := g.bd
  obtain ⟨k2, ht, _⟩ := g.cd
  refine e a o (fun m => ?_) (by rintro ps rfl; exact hp) h
  have m : a = c ∨ a = n ∨ a = t := by simpa using m
  rcases m with m | m | m
  · rw [m, hc] at h; cases h; exact hp
  · rw [m, hn] at h; cases h; exact hp
  · rw [m, ht] at h; cases h; exact hp
theorem Sg.tex {K : PySem.W.Frag} {H H' : Hp} {b n c t : Addr} {bk bk' : List Str} {P P' : Pr} {N : Nat} (g : Sg K H b n c t bk P N) (e : Wr H H' n c t bk bk' P P') : TEx H H' := fun a xs h => g.keep e.ex h trivial
theorem Sg.lst {K : PySem.W.Frag} {H H' : Hp} {b n c t : Addr} {bk bk' : List Str} {P P' : Pr} {N : Nat} (g : Sg K H b n c t bk P N) (e : Wr H H' n c t bk bk' P P') {a : Addr} {xs : List V} (h : H a = some (.lst xs)) : H' a = some (.lst xs) := g.keep e.ex h trivial
/-- the other store, behind a writer -/
theorem Sg.other {K : PySem.W.Frag} {H H' : Hp} {b n c t c2 t2 : Addr} {bk bk' : List Str} {P P' P2 : Pr} {N N' : Nat} (g2 : Sg K H b n c2 t2 bk P2 N) (g : Sg K H' b n c t bk' P' N') (e : Wr H H' n c t bk bk' P P') (h1 : c2 ≠ c) (h2 : t2 ≠ t) (hN : N ≤ N') (htc : t ≠ c2) (htc2 : c ≠ t2) : Sg K H' b n c2 t2 bk' P2 N' := by
  obtain ⟨dx, i, hc⟩ := g2.ci
  obtain ⟨k, ht, l, r⟩ := g2.cd
  have nc : c2 ≠ n := by
    obtain ⟨k1, hn, _⟩ := g2.bd
    exact ne_of hc hn (by intro z; cases z)
  refine ⟨g.bi, g.bd, g.nd, ⟨dx, i, e.ex _ _ (fun m => ?_) (by intro ps z; cases z) hc⟩, ⟨k, e.ex _ _ (fun m => ?_) (by intro ps z; cases z) ht, Nat.le_trans l hN, r⟩, fun a x h => (g2.sub a x h).mono e.bk, g.bN, g2.nt, g2.bc, g.tb⟩
  · have m : c2 = c ∨ c2 = n ∨ c2 = t := by simpa using m
    rcases m with m | m | m
    · exact h1 m
    · exact nc m
    · exact htc m.symm
  · have m : t2 = c ∨ t2 = n ∨ t2 = t := by simpa using m
    rcases m with m | m | m
    · exact htc2 m.symm
    · exact g2.nt m.symm
    · exact h2 m
/-- a list changes -/
theorem Sg.mutL {K : PySem.W.Frag} {H : Hp} {b n c t : Addr} {bk : List Str} {P : Pr} {N : Nat} (g : Sg K H b n c t bk P N) {G : Addr} {xs : List V} {o : HO} (hG : H G = some (.lst xs)) : Sg K (upd H G o) b n c t bk P N := by
  have ko : ∀ {a : Addr} {u : HO}, H a = some u → ¬ plainO u → upd H G o a = some u := fun {a u} h hp => by
    rw [upd_ne (fun e => by rw [e, hG] at h; cases h; exact hp trivial)]
    exact h
  exact ⟨let ⟨dx, h⟩ := g.bi; ⟨dx, ko h id⟩, let ⟨k, h, r⟩ := g.bd; ⟨k, ko h id, r⟩, g.nd, let ⟨dx, i, h⟩ := g.ci; ⟨dx, i, ko h id⟩, let ⟨k, h, r⟩ := g.cd; ⟨k, ko h id, r⟩, g.sub, g.bN, g.nt, g.bc, g.tb.upd hG trivial⟩
theorem Wr.mutL {H H' : Hp} {n c t : Addr} {bk bk' : List Str} {P P' : Pr} (w : Wr H H' n c t bk bk' P P') {G : Addr} {xs : List V} (hG : Nt H G) : Wr H (upd H' G (.lst xs)) n c t bk bk' P P' := ⟨fun a u hn hm h => by
  rw [upd_ne (hG.ne h hm)]
  exact w.ex a u hn hm h, w.bk, w.P, w.nw.trans (Nw.upd fun ps z => by cases z)⟩
end Vt
-- VtSort
set_option Elab.async false
set_option linter.all false
set_option maxRecDepth 100000
set_option maxHeartbeats 4000000
namespace Vt
open PySem PySem.Spec PyProof.Rows L2 LamX NdefX
/-! ### what a sort gives -/
/-- the one sorted list -/
theorem sort_eq {lt : PyData → PyData → Bool} : ∀ {es fs : List PyData}, es.Perm fs → es.Pairwise (fun a b => lt b a = false) → fs.Pairwise (fun a b => lt a b = true) → es = fs
  | es, [], p, _, _ => List.perm_nil.mp p
  | [], a :: r, p, _, _ => by cases (List.nil_perm.mp p)
  | b :: es, a :: r, p, h1, h2 => by
    obtain ⟨h3, h4⟩ := List.pairwise_cons.mp h1
    obtain ⟨h5, h6⟩ := List.pairwise_cons.mp h2
    have e : b = a := by
      rcases List.mem_cons.mp (p.subset (List.mem_cons_self ..)) with e | hb
      · exact e
      · rcases List.mem_cons.mp (p.symm.subset (List.mem_cons_self ..)) with e | ha
        · exact e.symm
        · have t1 := h5 b hb
          rw [h3 a ha] at t1
          cases t1
    subst e
    rw [sort_eq ((List.perm_cons b).mp p) h4 h6]
abbrev dLt : PyData → PyData → Bool := PySem.W.dataLt
def Srtd (ds : List PyData) : Prop := ds.Pairwise (fun a b => dLt b a = false)
def SrtS (ds : List PyData) : Prop := ds.Pairwise (fun a b => dLt a b = true)
theorem sorted_pw {β : Type} (k : β → PyData) (l : List β) : ((l.mergeSort (PySem.W.dataLe false k)).map k).Pairwise (fun a b => dLt b a = false) := by
  rw [List.pairwise_map]
  refine (PySem.W.sort_pairwise (PySem.W.sortLe_total (PyProof.Rows.listOrd PyProof.Rows.itemOrd) false fun b => PySem.W.keyToks (k b)) l).imp fun {a b} h => ?_
  have h2 : (!dLt (k b) (k a)) = true := h
  simpa using h2
theorem each_zip : ∀ {vs : List V} {us : List Value} {ds : List PyData}, Vals vs us → vs.length = ds.length → PySem.W.EachIs (fun (u : Value) (b : V × PyData) => RelV b.1 u) us (vs.zip ds)
  | [], _, [], .nil, _ => .nil
  | [], _, _ :: _, .nil, h => by simp at h
  | _ :: _, _, [], .cons _ _, h => by simp at h
  | _ :: _, _, _ :: _, .cons r t, h => .cons r (each_zip t (by simpa using h))
theorem vals_each : ∀ {out : List Value} {ps : List (V × PyData)}, PySem.W.EachIs (fun (u : Value) (b : V × PyData) => RelV b.1 u) out ps → Vals (ps.map (·.1)) out
  | _, _, .nil => .nil
  | _, _, .cons r t => .cons r (vals_each t)
theorem zip_snd {α β : Type} : ∀ {l : List α} {m : List β}, l.length = m.length → (l.zip m).map (·.2) = m
  | [], [], _ => rfl
  | [], _ :: _, h => by simp at h
  | _ :: _, [], h => by simp at h
  | _ :: _, _ :: _, h => congrArg _ (zip_snd (by simpa using h))
theorem zip_fst {α β : Type} : ∀ {l : List α} {m : List β}, l.length = m.length → (l.zip m).map (·.1) = l
  | [], [], _ => rfl
  | [], _ :: _, h => by simp at h
  | _ :: _, [], h => by simp at h
  | _ :: _, _ :: _, h => congrArg _ (zip_fst (by simpa using h))
/-! ### sorted(xs) -/
def rSrt : List V → Hp → VK → Prop := fun xs H Q => ∃ (p : Addr) (vs : List V) (ds : List PyData), xs = [.ref p] ∧ H p = some (.lst vs) ∧ TpAll H vs ds ∧ PySem.W.AllAlike ds ∧ PySem.W.Sortable ds ∧ (∀ d ∈ ds, d.depth ≤ 60) ∧
  ∀ (l : Addr) (ps : List (V × PyData)) (H2 : Hp), H l = none → Same H H2 → ps.Perm (vs.zip ds) → Srtd (ps.map (·.2)) → H2 l = some (.lst (ps.map (·.1))) → Q (.ref l) H2
theorem cr_srt {X : Cx} (hu : X.A.units + 64 < cLine) : CallR X (.builtin "sorted") rSrt := by
  intro pins s σ H xs us Q I r h
  obtain ⟨p, vs, ds, rfl, hq, hd, hal, hk, hdp, q⟩ := h
  obtain ⟨u, rfl, rx⟩ := vals1 r
  cases rx
  obtain ⟨its, rv, pl, hz⟩ := I.list (SqL.of hq)
  have hl : vs.length = ds.length := hd.length
  have e2 : (vs.zip ds).map (·.2) = ds := zip_snd hl
  have hzl : (vs.zip ds).length = vs.length := by rw [List.length_zip, hl, Nat.min_self]
  have er : PySem.W.EachIs (fun (u : Value) (b : V × PyData) => ∃ as, PySem.Reads s.heap u b.2 as) its (vs.zip ds) := by
    have : ∀ {vs : List V} {us : List Value} {ds : List PyData}, Vals vs us → TpAll H vs ds → PySem.W.EachIs (fun (u : Value) (b : V × PyData) => ∃ as, PySem.Reads s.heap u b.2 as) us (vs.zip ds) := by
      intro vs
      induction vs with
      | nil => intro us ds r t; cases r; exact .nil
      | cons v vs ih =>
        intro us ds r t
        cases r with
        | cons a b =>
          cases t with
          | cons t1 t2 => exact .cons (Dp.reads I _ _ _ t1.dp a) (ih b t2)
    exact this rv hd
  refine PySem.W.sorted_data (vs := its) (bs := vs.zip ds) (enc := fun b => b.2) (R := fun u b => RelV b.1 u) pl.isList (each_zip rv hl) er (by rw [e2]; exact hal) (by rw [e2]; exact hk) (by rw [hzl]; exact hz) (fun b hb => ?_) fun out ho eo => ?_
  · have hm : b.2 ∈ ds := by rw [← e2]; exact List.mem_map.mpr ⟨b, hb, rfl⟩
    have := hdp _ hm
    omega
  · obtain ⟨ep, he'⟩ := PyProof.Rows.sortedAll_at s.heap its out.toArray
    have pm : ((vs.zip ds).mergeSort (PySem.W.dataLe false fun b => b.2)).Perm (vs.zip ds) := List.mergeSort_perm _ _
    have hlen : (((vs.zip ds).mergeSort (PySem.W.dataLe false fun b => b.2)).map (·.1)).length ≤ sizeLine := by
      rw [List.length_map, pm.length_eq, hzl]
      exact hz
    have hf := I.hok.fresh (Nat.le_succ s.heap.objs.size)
    exact ⟨.ref _, upd H (s.heap.objs.size + 1) (.lst (((vs.zip ds).mergeSort (PySem.W.dataLe false fun b => b.2)).map (·.1))), I.laid (t' := s.toks) (fun _ _ => PyProof.Rows.sortedAll_old) (Nat.le_succ _) ⟨hlen, out, ep, vals_each eo, he'⟩, rfl,
      q _ _ _ hf (same_new hf) pm (sorted_pw _ _) upd_same⟩
theorem r_srt {H : Hp} {Q : VK} {p : Addr} {vs : List V} {ds : List PyData} (h : H p = some (.lst vs)) (hd : TpAll H vs ds) (hal : PySem.W.AllAlike ds) (hk : PySem.W.Sortable ds) (hdp : ∀ d ∈ ds, d.depth ≤ 60)
    (q : ∀ (l : Addr) (zs : List V) (es : List PyData) (H2 : Hp), H l = none → Same H H2 → es.Perm ds → Srtd es → H2 l = some (.lst zs) → TpAll H2 zs es → Q (.ref l) H2) : rSrt [.ref p] H Q := by
  refine ⟨p, vs, ds, rfl, h, hd, hal, hk, hdp, fun l ps H2 hl e pm sr hl2 => q l _ _ H2 hl e ?_ sr hl2 ?_⟩
  · have := pm.map (·.2)
    rw [zip_snd hd.length] at this
    exact this
  · have all : ∀ b ∈ ps, Tp H b.1 b.2 := fun b hb => by
      have hb := pm.subset hb
      obtain ⟨i, hi⟩ := List.mem_iff_getElem?.mp hb
      rw [List.getElem?_zip_eq_some] at hi
      obtain ⟨d, hd', ht⟩ := hd.get' hi.1
      rw [hi.2] at hd'
      cases hd'
      exact ht
    clear pm sr hl2
    induction ps with
    | nil => exact .nil
    | cons b r ih => exact .cons ((all b (List.mem_cons_self ..)).mono (TEx.of e)) (ih fun c hc => all c (List.mem_cons_of_mem _ hc))
/-! ### heaps that go on but for tables -/
structure Gr (K : PySem.W.Frag) (H H' : Hp) : Prop where
  ext : ExtN H H'
  tb : Tb K H → Tb K H'
theorem Gr.refl (K : PySem.W.Frag) (H : Hp) : Gr K H H := ⟨ExtN.refl H, id⟩
theorem Gr.of {K : PySem.W.Frag} {H H' : Hp} (e : Same H H') : Gr K H H' := ⟨ExtN.of e, fun t => t.ext e⟩
theorem Gr.trans {K : PySem.W.Frag} {H H1 H2 : Hp} (a : Gr K H H1) (b : Gr K H1 H2) : Gr K H H2 := ⟨a.ext.trans b.ext, fun t => b.tb (a.tb t)⟩
theorem Gr.nw {K : PySem.W.Frag} {H H' : Hp} (g : Gr K H H') : Nw H H' := Nw.ext g.ext
theorem Gr.tex {K : PySem.W.Frag} {H H' : Hp} (g : Gr K H H') : TEx H H' := fun a xs h => g.ext a _ h fun ps z => by cases z
theorem Gr.lst {K : PySem.W.Frag} {H H' : Hp} (g : Gr K H H') {a : Addr} {xs : List V} (h : H a = some (.lst xs)) : H' a = some (.lst xs) := g.ext a _ h fun ps z => by cases z
/-- what was unknown at H may change -/
theorem Gr.mut {K : PySem.W.Frag} {H H' : Hp} (g : Gr K H H') {a : Addr} {u o : HO} (h : Nt H a) (h' : H' a = some u) (hu : dataO u) : Gr K H (upd H' a o) :=
  ⟨fun b x e n => by rw [upd_ne (h.ne e n)]; exact g.ext b x e n, fun t => (g.tb t).upd h' hu⟩
theorem Gr.fresh {K : PySem.W.Frag} {H H' : Hp} (g : Gr K H H') {a : Addr} (h : H' a = none) : Nt H a := g.nw a (Nt.none h)
/-! ### a lambda of parameters, called -/
section
variable {CX : CXT} {P : Program} {w : World} {K : PySem.W.Frag} {mg : Str → Option Value} {base : Heap} {N ps fr : List Str} {F : NF} {f : Addr} {A : Around} {outer : List Env} {s : Shared} {H : Hp} {E : XK} {us : List Value} {vs : List V} {ws : List (Option V)} {k : Nat} {params : Arguments} {body : Expr} {pm ctv : Value} {Q : VK}
theorem lam_run (S : NScope N ps fr F.scope) (hb : ∀ us : List Value, us.length = ps.length → bindArgs (PySem.W.kla_fn "<lambda>" F.qual params body F.scope F.cl pm (.ref F.c) ctv) ⟨us, []⟩ = pure (ps.zip us)) (hr : Room (k + 1) A) (e0 : Env0 P w K mg base A outer s H)
    (ho : s.heap.get? f = some (PySem.W.kla_obj "<lambda>" F.qual params body F.scope F.cl pm F.c ctv)) (hc : H F.c = some (CodeO F.c F.qual)) (C : CellsAt F.cl fr ws s.heap H) (r : Vals vs us) (hl : vs.length = ps.length)
    (hbody : Room k (A.deeper (envF F f s.heap.objs.size)) → ∃ t, PE (ncx CX P w K mg base N F f A outer s H E) body t ∧ t (startF N vs ws) H Q) : codeAny (model P w) A (.call (.ref f) ⟨us, []⟩) (CR CX outer P w H s Q E) s := by
  have lim : s.heap.NoLimit := e0.mod.nolimit.keeps fun b o e => (e0.bs b o e).1
  refine PySem.W.kla_callFunE hr.depth ho rfl S.co S.gen rfl (codeO_at e0.hok hc) ?_
  rw [hb us (by rw [← r.length]; exact hl)]
  refine wpAny_pure (wpAny_newFunctionEnv S.nocell (fun ⟨n, _⟩ hy => S.par n (List.of_mem_zip hy).1) (fun h₁ hns hsb => ⟨lim.fresh _ hsb, ?_⟩) S.kind)
  show codeAny _ _ (.expr body (envF F f s.heap.objs.size)) _ _
  have kp : ∀ b o, s.heap.get? b = some o → h₁.get? b = some o := fun b o e => hsb.extBut b o (Nat.ne_of_lt (Heap.lt_size e)) (Heap.get?_push_of_some _ e)
  obtain ⟨t, ht, hq⟩ := hbody (hr.deeper _)
  have I : Inv (ncx CX P w K mg base N F f A outer s H E) [] (startF N vs ws) H { s with heap := h₁, toks := s.toks + (ps.zip us).length } := inv_startN S hr.hd e0 hl r C hns kp
  refine PySem.W.kla_codeExpr (wpAny_mono (ht.run [] _ (startF N vs ws) H _ I hq) (fun v s' hs => ?_) fun e s' hs => hs)
  obtain ⟨x, H', J, rv, q⟩ := hs
  exact ⟨x, H', J.os, J.bare, J.base, J.hok, rv, q⟩
end
/-! ### sorted(xs, key=a lambda of one parameter) -/
section
variable {X : Cx} {pins : List (Addr × Obj)} {σ : L2.St} {H : Hp} {s : Shared} {h' : Heap}
/-- a record of ours is tracked from now on, others of ours have turned -/
theorem inv_track {t' : Nat} {ch : List Addr} {a : Addr} {ob : HO} (I : L2.Inv X pins σ H s) (ha : a ∈ ch) (hf : ∀ b ∈ ch, FpOk X pins H b) (k : ∀ b o, b ∉ ch → s.heap.get? b = some o → h'.get? b = some o) (new : ObjOk X.prog X.w (upd H a ob) h' a ob) :
    L2.Inv X pins σ (upd H a ob) { s with heap := h', toks := t' } := by
  have hn : H a = none := (hf a ha).1
  have nit : ∀ b u, H b = some u → b ∉ ch := fun b u e z => by
    rw [(hf b z).1] at e
    cases e
  refine I.step (g' := s.gens) (d' := s.drawn) (ch := ch) (fun b hb => ⟨(hf b hb).2.2.2.1, (hf b hb).2.1, (hf b hb).2.2.2.2.1, (hf b hb).2.2.2.2.2⟩) (fun b o _ _ hc e _ => k b o hc e) (fun b o _ _ hc e _ => ⟨o.slots, k b o hc e⟩) (fun b o hb e n => ?_) (fun b o hc e => ⟨o, k b o hc e⟩)
    (fun b xs e => by rw [upd_ne (ne_of_none e hn)]; exact e) (fun b o u e => by rw [upd_ne (ne_of_none e hn)]; exact e) (fun b ps e => ⟨#[], by rw [upd_ne (ne_of_none e hn), e]; simp⟩) (fun m ⟨o, es, ep, ho, r⟩ => ⟨o, es, ep, k _ o (fun z => (hf _ z).2.1 rfl) ho, r⟩) (fun b u e => ?_) I.bare
  · rw [upd_ne (fun z => hb (by rw [z]; exact ha))]
    exact n
  · by_cases hb : b = a
    · subst hb
      rw [upd_same] at e
      cases e
      exact new
    · rw [upd_ne hb] at e
      refine (I.hok b u e).stay (fun c v hc q => k c v ?_ q) (fun c q => by rw [upd_ne (ne_of_none q hn)]; exact q) fun c xs q => by rw [upd_ne (ne_of_none q hn)]; exact q
      rcases hc with z | z
      · rw [z]; exact nit b u e
      · exact nit c _ z
end
/-- what a turn of the key is asked: from any heap that goes on from H, the item v gives a key that reads as k -/
def KeyT (K : PySem.W.Frag) (te : TE) (N : List Str) (ws : List (Option V)) (H : Hp) (v : V) (k : PyData) : Prop := ∀ (H3 : Hp) (Qs : VK), Gr K H H3 → (∀ y H4, Gr K H3 H4 → Tp H4 y k → Qs y H4) → te (startF N [v] ws) H3 Qs
def SrtLQ (K : PySem.W.Frag) (te : TE) (N : List Str) (js : List Nat) (x : V) (σ : L2.St) (H : Hp) (Q : VK) : Prop := Tb K H ∧ ∃ (p : Addr) (vs : List V) (ks : List PyData), x = .ref p ∧ H p = some (.lst vs) ∧ vs.length = ks.length ∧ PySem.W.AllAlike ks ∧ PySem.W.Sortable ks ∧ (∀ d ∈ ks, d.depth ≤ 50) ∧
  (∀ (i : Nat) (v : V) (k : PyData), vs[i]? = some v → ks[i]? = some k → KeyT K te N (js.map (slotAt σ)) H v k) ∧
  ∀ (l : Addr) (ps : List (V × PyData)) (H' : Hp), Gr K H H' → Nt H l → ps.Perm (vs.zip ks) → Srtd (ps.map (·.2)) → H' l = some (.lst (ps.map (·.1))) → Q (.ref l) H'
def tSrtL (K : PySem.W.Frag) (te : TE) (N : List Str) (js : List Nat) (tl : TE) : TE := fun σ H Q => tl σ H fun x H1 => SrtLQ K te N js x σ H1 Q
theorem pe_srtL {X : Cx} {K : PySem.W.Frag} {c P : Addr} {N fr : List Str} {js : List Nat} {x : Str} {params : Arguments} {body e : Expr} {scope : Scope} {lpos p kpos pos : Pos} {te tl : TE} {k : Nat} (hK : X.K = K) (hcalm : X.calm = true) (hg : Gl X "sorted") (hm : X.mg "sorted" = none) (he : PE X e tl) (hr : Room (k + 4) X.A)
    (TB : TabB X.base X.mg c P) (hcode : X.env.code = .ref c) (hmT : (P, X.env.qual ++ "<lambda>") ∈ tbV K) (hu : ∀ p ∈ tbV K, p.1 = P → p.2 = X.env.qual ++ "<lambda>") (hfree : ∀ y ∈ scope.names, y.2 = .free → X.env.scope.names.lookup y.1 = some .cell ∨ X.env.scope.names.lookup y.1 = some .free)
    (S : NScope N [x] fr scope) (hfr : ∀ y ∈ fr, (y, NameKind.free) ∈ scope.names) (hjs : js.map (fun j => X.N[j]?) = fr.map some) (hdef : defaultsOf params X.env = ([], []))
    (hbind : ∀ (q : Str) (cl : List (Str × Addr)) (pm cv ctv : Value) (us : List Value), us.length = 1 → bindArgs (PySem.W.kla_fn "<lambda>" q params body scope cl pm cv ctv) ⟨us, []⟩ = pure ([x].zip us))
    (hbody : ∀ (q : Str) (cl : List (Str × Addr)) (c' f : Addr) (A : Around) (outer : List Env) (s : Shared) (H : Hp) (E : XK), Room k (A.deeper (envF ⟨"<lambda>", q, params, [], scope, cl, c'⟩ f s.heap.objs.size)) → PE (ncx CX0 X.prog X.w X.K X.mg X.base N ⟨"<lambda>", q, params, [], scope, cl, c'⟩ f A outer s H E) body te)
    (hst : starEach [e] X.env = (false, eval e X.env) :: starEach [] X.env := by rfl) (hs : backTo pos (starEach [e] X.env) = (false, eval e X.env) :: backTo pos (starEach [] X.env) := by rfl) (hpl : (backTo pos (starEach [e] X.env)).any (·.1) = false := by rfl)
    (hall : (backToKw pos (keywordEach [⟨some "key", .Lambda params body scope lpos, kpos⟩] X.env)).all (·.1.isSome) = true := by rfl) (hnone : (backToKw pos (keywordEach [⟨some "key", .Lambda params body scope lpos, kpos⟩] X.env)).any (·.1.isNone) = false := by rfl)
    (hks : (backToKw pos (keywordEach [⟨some "key", .Lambda params body scope lpos, kpos⟩] X.env)).filterMap (·.1) = [Str.ofString "key"] := by rfl) :
    PE X (.Call (.Name "sorted" p) [e] [⟨some "key", .Lambda params body scope lpos, kpos⟩] pos) (tSrtL K te N js tl) := by
  subst hK
  refine ⟨fun pins s σ H Q I h => ?_⟩
  refine wpAny_Call_Name_kw (ld_blt I hg hm PyProof.Rows.boot_sorted ?_)
  have ha : PA X [e] (tCons tl tNil) := pa_cons he pa_nil hst
  refine PyProof.Rows.callWith_kw (thn (ha.run pos pins s σ H (fun xs H1 => match xs with | [x] => SrtLQ X.K te N js x σ H1 Q | _ => False) I h) fun us s1 ⟨xs, H1, I1, r1, q1⟩ => ?_) hs hpl hall hnone
  obtain ⟨v, rfl⟩ : ∃ v, xs = [v] := by
    match xs, q1 with
    | [v], _ => exact ⟨v, rfl⟩
  obtain ⟨hTb, p1, vs, ks, rfl, hp, hlen, hal, hsk, hdp, hturn, hfin⟩ := (show SrtLQ X.K te N js v σ H1 Q from q1)
  obtain ⟨u, rfl, ru⟩ := vals1 r1
  cases ru
  have hfree' : ∀ y ∈ scope.names, y.2 = .free → ∃ c, X.env.cells.lookup y.1 = some c := fun y hy z => (hfree y hy z).elim (fun z => I1.ok.has _ (.inl z)) fun z => I1.ok.has _ (.inr z)
  show wpAny _ _ (evalAll ((do let v ← eval (.Lambda params body scope lpos) X.env; standAt pos; pure v) :: [])) _ _ s1
  refine wpAny_evalAll_cons (wpAny_bind (lam_make2 I1 TB hcode hmT hu hTb hdef hfree' fun f c' pm ctv H2 s2 I2 eN T2 hf hfn hfr2 hco => wpAny_bind (wpAny_standAt (wpAny_pure (wpAny_evalAll_nil ?_)))))
  rw [hks]
  -- the lambda's object
  have caps : Caps X (cloFrom X.env.cells scope.names []) fr js := Caps.made I1.ok hfree hfr hjs
  have hfL : f ≠ X.env.locals := fun z => by
    obtain ⟨m, ⟨o, es, ep, ho, hd, _⟩, _⟩ := I2.loc
    rw [← z, hf] at ho
    cases ho
    cases hd
  have hffs : f ∉ X.fs := fun z => hfr2 (by
    rcases I2.ok.stk with q | ⟨q, _⟩
    · rw [q]; exact z
    · rw [q]
      show f ∈ frs (X.env :: X.outer)
      unfold frs
      rw [List.filterMap_cons]
      split
      · exact z
      · exact List.mem_cons_of_mem _ z)
  have g12 : Gr X.K H1 H2 := ⟨eN, fun _ => T2⟩
  have hp2 := g12.lst hp
  obtain ⟨its, rv, pl, hz⟩ := I2.list (SqL.of hp2)
  have hvl := rv.length
  refine PySem.W.sorted_of_sort pl.isList (by omega) (PyProof.Rows.ksk_s1 _ _) (fun _ => PyProof.Rows.ksk_l1 _ _) fun E' => ?_
  show wpAny _ _ (PyProof.Rows.ksk_tree (s2.heap.objs.size + 1) (.ref f) false) _ _ _
  have fobj := hf
  have zo := PySem.W.copyHeap_at s2.heap its
  have hcpsz : (PySem.W.copyHeap s2.heap its).objs.size = s2.heap.objs.size + 2 := by
    unfold PySem.W.copyHeap
    rw [size_push', Heap.size_update, size_push']
  have alt : s2.heap.objs.size + 1 < (PySem.W.copyHeap s2.heap its).objs.size := by rw [hcpsz]; exact Nat.lt_succ_self _
  obtain ⟨e1, zo1⟩ : ∃ e1, ((PySem.W.copyHeap s2.heap its).update (s2.heap.objs.size + 1) (Obj.mapSeq fun _ => (#[] : Array Value))).get? (s2.heap.objs.size + 1) = some (seqObj "list" #[] e1) := ⟨_, get?_update_seq zo fun _ => #[]⟩
  have hkS : (((PySem.W.copyHeap s2.heap its).update (s2.heap.objs.size + 1) (Obj.mapSeq fun _ => (#[] : Array Value))).push (seqObj "tuple" its.toArray 0)).objs.size = s2.heap.objs.size + 3 := by rw [size_push', Heap.size_update, hcpsz]
  unfold PyProof.Rows.ksk_tree
  refine wpAny_bind (listItems_at zo rfl (wpAny_bind (listUpdate_at zo rfl (wpAny_bind (seqEpoch_at zo1 rfl (wpAny_bind (wpAny_newTuple (wpAny_bind (wpAny_newList (wpAny_holding ?_) (Nat.zero_le _))) (by show its.length ≤ _; omega))))) (by rw [List.size_toArray]; omega) (Nat.zero_le _))))
  -- where it stands now
  have hgeA : s2.heap.objs.size ≤ s2.heap.objs.size + 1 := Nat.le_succ _
  generalize hkSe : (((PySem.W.copyHeap s2.heap its).update (s2.heap.objs.size + 1) (Obj.mapSeq fun _ => (#[] : Array Value))).push (seqObj "tuple" its.toArray 0)).objs.size = kS at hkS ⊢
  generalize haE : s2.heap.objs.size + 1 = a at *
  have hka : kS ≠ a := by rw [hkS, ← haE]; exact Nat.ne_of_gt (Nat.lt_succ_of_lt (Nat.lt_succ_self _))
  have hkSge : s2.heap.objs.size ≤ kS := by rw [hkS]; exact Nat.le_add_right _ _
  generalize hRe : (((PySem.W.copyHeap s2.heap its).update a (Obj.mapSeq fun _ => (#[] : Array Value))).push (seqObj "tuple" its.toArray 0)).push (seqObj "list" #[] 0) = hR at *
  have old : ∀ b o, s2.heap.get? b = some o → hR.get? b = some o := fun b o q => by
    rw [← hRe]
    exact PySem.W.sortingHeap_old (vs := its) (show b ≠ a by rw [← haE]; exact Nat.ne_of_lt (Nat.lt_succ_of_lt (Heap.lt_size q))) (PySem.W.copyHeap_old q)
  have nk : hR.get? kS = some (seqObj "list" #[] 0) := by rw [← hRe, ← hkSe]; exact Heap.get?_push_size _ rfl
  have na : hR.get? a = some (seqObj "list" #[] e1) := by rw [← hRe]; exact Heap.get?_push_of_some _ (Heap.get?_push_of_some _ zo1)
  have fpA : FpOk X pins H2 a := I2.fpOk hgeA (I2.hok.fresh hgeA)
  have fpK : FpOk X pins H2 kS := I2.fpOk hkSge (I2.hok.fresh hkSge)
  have fA : f ≠ a := by rw [← haE]; exact Nat.ne_of_lt (Nat.lt_succ_of_lt (Heap.lt_size hf))
  have fK : f ≠ kS := Nat.ne_of_lt (Nat.lt_of_lt_of_le (Heap.lt_size hf) hkSge)
  have IR : L2.Inv X pins σ H2 { s2 with heap := hR } := I2.kept (t' := s2.toks) old
  have pinIt : ∀ (H' : Hp) (s' : Shared) (kA : Array Value) (ek : Nat) (I' : L2.Inv X pins σ H' s'), s'.heap.get? a = some (seqObj "list" #[] e1) → s'.heap.get? kS = some (seqObj "list" kA ek) → s'.heap.get? f = some (PySem.W.kla_obj "<lambda>" (X.env.qual ++ "<lambda>") params body scope (cloFrom X.env.cells scope.names []) pm c' ctv) →
      H' a = none → H' kS = none → H' f = none → L2.Inv X ((a, seqObj "list" #[] e1) :: (kS, seqObj "list" kA ek) :: (f, PySem.W.kla_obj "<lambda>" (X.env.qual ++ "<lambda>") params body scope (cloFrom X.env.cells scope.names []) pm c' ctv) :: pins) σ H' s' := fun H' s' kA ek I' g1 g2 g3 n1 n2 n3 =>
    I'.pins_of fun q hq => by
      rcases List.mem_cons.mp hq with rfl | hq
      · exact ⟨g1, n1, fpA.2.1, fpA.2.2.1, fun v z => nomatch z⟩
      rcases List.mem_cons.mp hq with rfl | hq
      · exact ⟨g2, n2, fpK.2.1, fpK.2.2.1, fun v z => nomatch z⟩
      rcases List.mem_cons.mp hq with rfl | hq
      · exact ⟨g3, n3, hfL, hffs, fun v z => nomatch z⟩
      · exact I'.pin q (List.mem_append_right _ hq)
  unfold PyProof.Rows.ksk_rest
  refine wpAny_bind (wpAny_rule ?_)
  rw [List.forIn_toArray]
  refine wpAny_bind (PyProof.Rows.ksk_fold (fun i s' => ∃ (H' : Hp) (kA : Array Value) (ek : Nat), L2.Inv X ((a, seqObj "list" #[] e1) :: (kS, seqObj "list" kA ek) :: (f, PySem.W.kla_obj "<lambda>" (X.env.qual ++ "<lambda>") params body scope (cloFrom X.env.cells scope.names []) pm c' ctv) :: pins) σ H' s' ∧ Gr X.K H2 H' ∧
      PySem.W.EachIs (fun v k => ∃ kv, RelV kv v ∧ Tp H' kv k) kA.toList (ks.take i)) its 0 _ ⟨H2, #[], 0, pinIt H2 _ #[] 0 IR na nk (old _ _ hf) fpA.1 fpK.1 hfn, Gr.refl _ _, by rw [List.take_zero]; exact .nil⟩ ?step ?done)
  case step =>
    rintro j xv s' hx ⟨H', kA, ek, J, gr, hk⟩
    simp only [Nat.zero_add] at hk ⊢
    have hj : j < its.length := (List.getElem?_eq_some_iff.mp hx).1
    have hjk : j < ks.length := by omega
    have hkj : ks[j]? = some ks[j] := List.getElem?_eq_getElem hjk
    have hvj : vs[j]? = some (vs[j]'(by omega)) := List.getElem?_eq_getElem _
    obtain ⟨u', hu', ru'⟩ := rv.get hvj
    rw [hx] at hu'
    cases hu'
    have hz1 : kA.size ≤ its.length := by
      have h1 := hk.length
      rw [Array.length_toList, List.length_take] at h1
      omega
    have pa := J.pin (a, _) (List.mem_append_right _ (List.mem_cons_self ..))
    have pk := J.pin (kS, _) (List.mem_append_right _ (List.mem_cons_of_mem _ (List.mem_cons_self ..)))
    have pf := J.pin (f, _) (List.mem_append_right _ (List.mem_cons_of_mem _ (List.mem_cons_of_mem _ (List.mem_cons_self ..))))
    refine wpAny_bind (wpAny_attempt (wpAny_mono (Q := fun v s'' => ∃ y H'', L2.Inv X ((a, seqObj "list" #[] e1) :: (kS, seqObj "list" kA ek) :: (f, PySem.W.kla_obj "<lambda>" (X.env.qual ++ "<lambda>") params body scope (cloFrom X.env.cells scope.names []) pm c' ctv) :: pins) σ H'' s'' ∧ RelV y v ∧ Gr X.K H' H'' ∧ Tp H'' y ks[j]) (E := fun _ _ => False) ?call (fun v s'' he => ?_) fun _ _ hF => hF.elim))
    case call =>
      have hco' : H' c' = some (CodeO c' (X.env.qual ++ "<lambda>")) := gr.ext _ _ hco fun ps z => codeO_ne ps z
      refine wpAny_call (codeAny_mono (lam_run (CX := CX0) (E := E0) (F := ⟨"<lambda>", X.env.qual ++ "<lambda>", params, [], scope, cloFrom X.env.cells scope.names [], c'⟩) (N := N) (ps := [x]) (fr := fr) (vs := [vs[j]'(by omega)]) (ws := js.map (slotAt σ)) (k := k) (params := params) (body := body) (pm := pm) (ctv := ctv) (Q := fun y H'' => Gr X.K H' H'' ∧ Tp H'' y ks[j]) S (fun us hus => hbind _ _ _ _ _ us hus)
        (hr.mono (by omega) : Room (k + 3) X.A).in1.in1 J.env0.in1.in1 pf.1 hco' (cells_of J caps) (.cons ru' .nil) rfl fun hr' => ⟨te, hbody _ _ _ _ _ _ _ _ _ hr', hturn j _ _ hvj hkj H' _ (g12.trans gr) fun y H4 g4 t4 => ⟨g4, t4⟩⟩) fun r s'' hq => ?_)
      cases r with
      | error e => exact (show False from hq).elim
      | ok fl =>
        cases fl with
        | ret u =>
          obtain ⟨y, H'', J2, ry, q1, q2⟩ := J.after hq
          exact ⟨y, H'', J2, ry, q1, q2⟩
        | next => exact False.elim hq
        | brk => exact False.elim hq
        | cont => exact False.elim hq
    obtain ⟨y, H'', J2, ry, gr2, ty⟩ := he
    have pa2 := J2.pin (a, _) (List.mem_append_right _ (List.mem_cons_self ..))
    have pk2 := J2.pin (kS, _) (List.mem_append_right _ (List.mem_cons_of_mem _ (List.mem_cons_self ..)))
    have pf2 := J2.pin (f, _) (List.mem_append_right _ (List.mem_cons_of_mem _ (List.mem_cons_of_mem _ (List.mem_cons_self ..))))
    have s1 := Heap.SameBut.update s''.heap kS (Obj.mapSeq (·.push v))
    obtain ⟨c2, hc2⟩ : ∃ c2, (s''.heap.update kS (Obj.mapSeq (·.push v))).get? kS = some (seqObj "list" (kA.push v) c2) := ⟨_, get?_update_seq pk2.1 (·.push v)⟩
    have ek2 : ks.take (j + 1) = ks.take j ++ [ks[j]] := by rw [List.take_add_one, hkj]; rfl
    have ea : (kA.push v).toList = kA.toList ++ [v] := by simp
    refine wpAny_bind (listUpdate_at pk2.1 rfl (wpAny_pure ⟨rfl, H'', kA.push v, c2, ?_, gr.trans gr2, ?_⟩) (Nat.le_trans hz1 (by omega)) (Nat.le_trans (Nat.le_of_eq (Array.size_push ..)) (Nat.succ_le_succ (Nat.le_trans hz1 (by omega)))))
    · have J3 : L2.Inv X pins σ H'' s'' := J2.pins_of fun q hq => J2.pin q (List.mem_append_right _ (List.mem_cons_of_mem _ (List.mem_cons_of_mem _ (List.mem_cons_of_mem _ hq))))
      have fpK2 : FpOk X pins H'' kS := ⟨pk2.2.1, fpK.2⟩
      have J4 : L2.Inv X pins σ H'' { s'' with heap := s''.heap.update kS (Obj.mapSeq (·.push v)) } := J3.turnedL (t' := s''.toks) (ch := [kS]) (fun b o hb e => (s1.2 b (fun z => hb (by simp [z]))).trans e) fun b hb => by rw [List.mem_singleton.mp hb]; exact fpK2
      exact pinIt H'' _ (kA.push v) c2 J4 ((s1.2 a hka.symm).trans pa2.1) hc2 ((s1.2 f fK).trans pf2.1) pa2.2.1 pk2.2.1 pf2.2.1
    · rw [ea, ek2]
      exact PySem.W.each_snoc (R := fun v k => ∃ kv, RelV kv v ∧ Tp H'' kv k) ⟨y, ry, ty⟩ (hk.mono fun v k ⟨kv, r, t⟩ => ⟨kv, r, t.mono gr2.tex⟩)
  case done =>
    rintro s' ⟨H', kA, ek, J, gr, hk⟩
    rw [Nat.zero_add, List.take_of_length_le (by omega)] at hk
    have pa := J.pin (a, _) (List.mem_append_right _ (List.mem_cons_self ..))
    have pk := J.pin (kS, _) (List.mem_append_right _ (List.mem_cons_of_mem _ (List.mem_cons_self ..)))
    have hsz : kA.size = its.length := by
      have h1 := hk.length
      rw [Array.length_toList] at h1
      omega
    have hk' : PySem.W.EachIs (fun v k => ∃ as, PySem.Reads s'.heap v k as) kA.toList ks := hk.mono fun v k ⟨kv, r, t⟩ => Dp.reads J _ _ _ t.dp r
    have JP : L2.Inv X pins σ H' s' := J.pins_of fun q hq => J.pin q (List.mem_append_right _ (List.mem_cons_of_mem _ (List.mem_cons_of_mem _ (List.mem_cons_of_mem _ hq))))
    have hun : ∀ d, d ∈ ks → X.A.in1.in1.units + d.depth < cLine := fun d hd => by
      have h1 := hdp d hd
      have h2 := hr.units
      show X.A.units + 1 + 1 + d.depth < cLine
      omega
    have hzi : its.length ≤ sizeLine := by omega
    refine wpAny_bind (listItems_at pk.1 rfl (PySem.W.keyH_end (κ := PySem.W.dataKind s'.heap ks) (h₁ := PySem.W.hideAll s'.heap [kS]) (s := s') (fun b o _ e => PySem.W.of_hideAll [kS] e) (PySem.W.hideAll_none [kS] (by simp)) pk.1 pa.1 hka (PySem.W.SortsAt.data hk' hal hsk hun) hsz hzi fun h3 tk3 cc k3 n3 => ⟨rfl, ?_⟩))
    have e2 : (vs.zip ks).map (·.2) = ks := zip_snd hlen
    have hzl : (vs.zip ks).length = vs.length := by rw [List.length_zip, hlen, Nat.min_self]
    have ko : PySem.W.KeyedOut false ((vs.zip ks).map fun b => b.2) its (PySem.W.sortVals (PySem.W.dataKind s'.heap ks) false kA.toList its) := by
      rw [e2]
      exact ⟨s'.heap, kA.toList, hal, rfl, hk'⟩
    have eo := PySem.W.keyedOut_each (fun b : V × PyData => b.2) ko (each_zip rv hlen)
    have pm2 : ((vs.zip ks).mergeSort (PySem.W.dataLe false fun b => b.2)).Perm (vs.zip ks) := List.mergeSort_perm _ _
    have hlen2 : (((vs.zip ks).mergeSort (PySem.W.dataLe false fun b => b.2)).map (·.1)).length ≤ sizeLine := by
      rw [List.length_map, pm2.length_eq, hzl]
      omega
    have kp3 : ∀ b o, b ∉ [a, kS] → s'.heap.get? b = some o → h3.get? b = some o := fun b o hb e => k3 b o (fun z => hb (by simp [z])) (PySem.W.hideAll_get [kS] e fun z => hb (by rw [List.mem_singleton.mp z]; simp))
    have fps : ∀ b ∈ [a, kS], FpOk X pins H' b := fun b hb => by
      have hb : b = a ∨ b = kS := by simpa using hb
      rcases hb with hb | hb <;> subst hb
      · exact ⟨pa.2.1, fpA.2⟩
      · exact ⟨pk.2.1, fpK.2⟩
    have fin := inv_track (t' := tk3) (ch := [a, kS]) (a := a) (ob := .lst (((vs.zip ks).mergeSort (PySem.W.dataLe false fun b => b.2)).map (·.1))) JP (by simp) fps kp3 ⟨hlen2, _, cc, vals_each eo, n3⟩
    refine ⟨.ref a, _, fin, rfl, hfin a _ _ ?_ ?_ pm2 (sorted_pw _ _) upd_same⟩
    · have gr2 := g12.trans gr
      refine ⟨fun b o e n => ?_, fun t => (gr2.tb t).new pa.2.1⟩
      have e3 := gr2.ext b o e n
      rw [upd_ne (ne_of_none e3 pa.2.1)]
      exact e3
    · exact (g12.trans gr).fresh pa.2.1
end Vt
-- VtD1
set_option Elab.async false
set_option linter.all false
set_option maxRecDepth 100000
set_option maxHeartbeats 4000000
namespace Vt
open PySem PySem.Spec PyProof.Rows L2
local macro_rules | `(tactic| walk_at "rd") => `(tactic| (repeat (first
  | with_reducible refine r_sasg ?_ | with_reducible refine r_sfset ?_ | with_reducible refine r_sfaug ?_ | with_reducible refine r_sdput ?_ | with_reducible refine r_sdrop ?_ | with_reducible refine r_swhen ?_ | with_reducible refine r_sif ?_ | with_reducible refine r_asg ?_ | with_reducible refine r_drop ?_
  | with_reducible refine r_ret ?_ | with_reducible refine r_if ?_ | with_reducible refine r_next ?_
  | with_reducible refine r_c ?_ | with_reducible refine r_var (by with_unfolding_all exact rfl) ?_ | with_reducible refine r_op ?_ | with_reducible refine r_un ?_ | with_reducible refine r_I0 ?_ | ((with_reducible refine r_I ?_ ?_); · first | (show (0 : Int) < _; decide) | exact div_ok (by decide) (by decide)) | with_reducible refine r_U ?_
  | with_reducible refine r_eq (by with_unfolding_all exact rfl) ?_ | with_reducible refine r_ne (by with_unfolding_all exact rfl) ?_
  | with_reducible refine r_tstq ?_ | with_reducible refine r_tBq ?_ | with_reducible refine r_blq ?_ | with_reducible refine r_intq ?_ | with_reducible refine r_and ?_ | with_reducible refine r_or ?_ | with_reducible refine r_not ?_
  | with_reducible refine r_andV ?_ | with_reducible refine r_orV ?_ | with_reducible refine r_notV ?_
  | with_reducible refine r_nil ?_ | with_reducible refine r_cons ?_ | with_reducible refine r_call ?_ | with_reducible refine r_tup ?_ | with_reducible refine r_lst ?_ | with_reducible refine r_cb ?_ | with_reducible refine r_int1 ?_ | with_reducible refine r_ord ?_
  | with_reducible refine r_sl ?_ | with_reducible refine r_nop ?_ | with_reducible refine r_partq ?_ | with_reducible refine r_bm ?_ | with_reducible refine r_fld ?_
  | with_reducible refine r_lct ?_ | with_reducible refine r_lcl ?_ | with_reducible refine r_lcr ?_ | with_reducible refine r_sfort ?_ | with_reducible refine r_sforl ?_ | with_reducible refine r_sfors ?_ | with_reducible refine r_sforr ?_ | with_reducible refine r_sforz ?_
  | with_reducible refine r_fort ?_ | with_reducible refine r_forl ?_ | with_reducible refine r_forr ?_ | with_reducible refine r_sasgt ?_ | with_reducible refine r_asgt ?_ | with_reducible refine r_saug (by with_unfolding_all exact rfl) ?_ | with_reducible refine r_aug (by with_unfolding_all exact rfl) ?_ | with_reducible refine r_ip ?_ | with_reducible refine r_gname ?_ | with_reducible refine r_seq ?_
  | with_reducible refine r_dget ?_ | with_reducible refine r_din ?_ | with_reducible refine r_dnotin ?_ | with_reducible refine r_sdput ?_ | with_reducible refine r_dput ?_ | with_reducible refine r_mg ?_ | with_reducible refine r_rev ?_ | with_reducible refine r_dzip ?_
  | with_reducible refine r_lcz ?_ | with_reducible refine r_form ?_
  | with_reducible refine r_sfset ?_ | with_reducible refine r_fset ?_ | with_reducible refine r_sfaug ?_ | with_reducible refine r_meth ?_ | with_reducible refine r_make ?_
  | with_reducible refine r_srtl ?_ | with_reducible refine r_m1q ?_ | with_reducible refine r_strq ?_
  | with_reducible refine r_iteT ?_ | with_reducible refine r_iteF ?_)))
local macro_rules | `(tactic| walk_at "rs") => `(tactic| (repeat (first
  | with_reducible refine r_sasg ?_ | with_reducible refine r_sfset ?_ | with_reducible refine r_sfaug ?_ | with_reducible refine r_sdput ?_ | with_reducible refine r_sdrop ?_ | with_reducible refine r_asg ?_ | with_reducible refine r_drop ?_
  | with_reducible refine r_ret ?_ | with_reducible refine r_next ?_
  | with_reducible refine r_c ?_ | with_reducible refine r_var (by with_unfolding_all exact rfl) ?_ | with_reducible refine r_op ?_ | with_reducible refine r_un ?_ | with_reducible refine r_I0 ?_ | ((with_reducible refine r_I ?_ ?_); · first | (show (0 : Int) < _; decide) | exact div_ok (by decide) (by decide)) | with_reducible refine r_U ?_
  | with_reducible refine r_eq (by with_unfolding_all exact rfl) ?_ | with_reducible refine r_ne (by with_unfolding_all exact rfl) ?_
  | with_reducible refine r_tstq ?_ | with_reducible refine r_tBq ?_ | with_reducible refine r_blq ?_ | with_reducible refine r_intq ?_ | with_reducible refine r_and ?_ | with_reducible refine r_or ?_ | with_reducible refine r_not ?_
  | with_reducible refine r_andV ?_ | with_reducible refine r_orV ?_ | with_reducible refine r_notV ?_
  | with_reducible refine r_nil ?_ | with_reducible refine r_cons ?_ | with_reducible refine r_call ?_ | with_reducible refine r_tup ?_ | with_reducible refine r_lst ?_ | with_reducible refine r_cb ?_ | with_reducible refine r_int1 ?_ | with_reducible refine r_ord ?_
  | with_reducible refine r_sl ?_ | with_reducible refine r_nop ?_ | with_reducible refine r_partq ?_ | with_reducible refine r_bm ?_ | with_reducible refine r_fld ?_
  | with_reducible refine r_lct ?_ | with_reducible refine r_lcl ?_ | with_reducible refine r_lcr ?_ | with_reducible refine r_sfort ?_ | with_reducible refine r_sforl ?_ | with_reducible refine r_sfors ?_ | with_reducible refine r_sforr ?_ | with_reducible refine r_sforz ?_
  | with_reducible refine r_fort ?_ | with_reducible refine r_forl ?_ | with_reducible refine r_forr ?_ | with_reducible refine r_sasgt ?_ | with_reducible refine r_asgt ?_ | with_reducible refine r_saug (by with_unfolding_all exact rfl) ?_ | with_reducible refine r_aug (by with_unfolding_all exact rfl) ?_ | with_reducible refine r_ip ?_ | with_reducible refine r_gname ?_ | with_reducible refine r_seq ?_
  | with_reducible refine r_dget ?_ | with_reducible refine r_din ?_ | with_reducible refine r_dnotin ?_ | with_reducible refine r_sdput ?_ | with_reducible refine r_dput ?_ | with_reducible refine r_mg ?_ | with_reducible refine r_rev ?_ | with_reducible refine r_dzip ?_
  | with_reducible refine r_lcz ?_ | with_reducible refine r_form ?_
  | with_reducible refine r_sfset ?_ | with_reducible refine r_fset ?_ | with_reducible refine r_sfaug ?_ | with_reducible refine r_meth ?_ | with_reducible refine r_make ?_
  | with_reducible refine r_srtl ?_ | with_reducible refine r_m1q ?_ | with_reducible refine r_strq ?_
  | with_reducible refine r_iteT ?_ | with_reducible refine r_iteF ?_)))
local macro_rules | `(tactic| walk_at "tex") => `(tactic| (first
  | assumption | exact TEx.refl _ | exact TEx.of (by assumption) | ((refine TEx.trans ?_ (TEx.of (by assumption))); walk_at "tex") | ((refine TEx.trans ?_ (by assumption)); walk_at "tex")))
local macro_rules | `(tactic| walk_at "same") => `(tactic| (first
  | assumption | exact Same.refl _ | ((refine Same.trans ?_ (by assumption)); walk_at "same")))
local macro_rules | `(tactic| walk_at "tp") => `(tactic| (first
  | assumption | exact Tp.int _ | exact Tp.str _ | exact Tp.non | exact TpAll.nil | ((refine TpAll.cons ?_ ?_) <;> walk_at "tp") | ((refine Tp.mono ?_ (by assumption)); walk_at "tex") | ((refine TpAll.mono ?_ (by assumption)); walk_at "tex")))
local macro_rules | `(tactic| walk_at "hp") => `(tactic| (first
  | assumption | ((refine (TEx.trans ?_ (TEx.refl _)) _ _ (by assumption)); walk_at "tex")))
section
variable {P : Program} {w : World} {K : PySem.W.Frag} {mg : Str → Option Value} {base : Heap}
/-! ### base_kind -/
abbrev n_base_kind : List Str := ["kind"]
theorem sc_base_kind : FnScope n_base_kind ["kind"] (defScope s_base_kind) := ⟨rfl, rfl, rfl, by decide +kernel, rfl, by decide +kernel, by decide +kernel⟩
theorem bd_base_kind : BindH "base_kind" s_base_kind ["kind"] := fun _ _ _ _ _ _ us hl => match us, hl with | [_], _ => rfl
def baseK (k : Str) : Str := if k = "int" ∨ k = "int?" then "int" else "text"
def spBaseKind : Sp := fun vs H Q _ => ∃ k : Str, vs = [.str k] ∧ Q (.str (baseK k)) H
theorem cal_base_kind (T : Tx K mg) : Cal P w K mg base 1 "base_kind" ["kind"] spBaseKind := by
  refine cal_of T.at_base_kind sc_base_kind bd_base_kind (fun vs H Q E h => ?_) fun f cdv A outer s H0 E hr => ⟨_, (pss_cons (ps_if (PW.pt (pw_or (pt_cmpR op_eq (pv 0) pe_str (nomark _)) (pw_or1 (pt_cmpR op_eq (pv 0) pe_str (nomark _)))))
      (pss_one (ps_ret pe_str))
      pss_nil)
      (pss_one (ps_ret pe_str))), fun vs H Q h => ?_⟩
  · obtain ⟨k, rfl, _⟩ := h
    rfl
  · obtain ⟨k, rfl, q⟩ := h
    unfold baseK at q
    walk_at "rd"
    refine r_ite (fun e => ?_) (fun e => ?_)
    · have e1 : k = "int" := V.str.inj (of_decide_eq_true e)
      rw [if_pos (Or.inl e1)] at q
      walk_at "rd"
      exact q
    · have e1 : ¬ k = "int" := fun z => of_decide_eq_false e (congrArg V.str z)
      walk_at "rd"
      refine r_ite (fun e => ?_) (fun e => ?_)
      · have e2 : k = "int?" := V.str.inj (of_decide_eq_true e)
        rw [if_pos (Or.inr e2)] at q
        walk_at "rd"
        exact q
      · have e2 : ¬ k = "int?" := fun z => of_decide_eq_false e (congrArg V.str z)
        rw [if_neg (by intro z; exact z.elim e1 e2)] at q
        walk_at "rd"
        exact q
/-! ### accepts -/
abbrev n_accepts : List Str := ["kind", "value"]
theorem sc_accepts : FnScope n_accepts ["kind", "value"] (defScope s_accepts) := ⟨rfl, rfl, rfl, by decide +kernel, rfl, by decide +kernel, by decide +kernel⟩
theorem bd_accepts : BindH "accepts" s_accepts ["kind", "value"] := fun _ _ _ _ _ _ us hl => match us, hl with | [_, _], _ => rfl
def acc (k : Str) : PyData → Bool
  | .none => decide (k = "int?") || decide (k = "text?")
  | .int _ => decide (baseK k = "int")
  | .str _ => decide (baseK k = "text")
  | _ => false
theorem dec_str' {a b : Str} : decide (V.str a = V.str b) = decide (a = b) := by
  by_cases h : a = b
  · subst h; simp
  · have : ¬ V.str a = V.str b := fun z => h (V.str.inj z)
    simp [h]
def spAccepts : Sp := fun vs H Q _ => ∃ (k : Str) (v : V) (d : PyData), vs = [.str k, v] ∧ Tp H v d ∧ (d = .none ∨ (∃ i, d = .int i) ∨ ∃ s, d = .str s) ∧ Q (.bl (acc k d)) H
theorem cal_accepts (T : Tx K mg) : Cal P w K mg base 2 "accepts" ["kind", "value"] spAccepts := by
  have c_base_kind := cal_base_kind (P := P) (w := w) (base := base) T
  refine cal_of T.at_accepts sc_accepts bd_accepts (fun vs H Q E h => ?_) fun f cdv A outer s H0 E hr => ⟨_, (pss_cons (ps_if (pt_cmpR op_isNq (pv 1) pe_non (nomark _))
      (pss_one (ps_ret (pe_or (pe_cmpR op_eq (pv 0) pe_str (nomark _)) (pe_one (pe_cmpR op_eq (pv 0) pe_str (nomark _))))))
      pss_nil)
      (pss_cons (ps_if (pt_val (pe_callB (call_isiV (K := K) rfl) (by rfl) T.m_isinstance (by decide +kernel) (pa_cons (pv 1) (pa_cons (pe_bltn (v := .ty "int") (by rfl) T.m_int boot_int rfl) pa_nil))))
      (pss_one (ps_ret (pe_cmpR op_eq (pe_cal c_base_kind (hr.mono (by omega)) (by rfl) (pa_cons (pv 0) pa_nil)) pe_str (nomark _))))
      pss_nil)
      (pss_one (ps_ret (pe_cmpR op_eq (pe_cal c_base_kind (hr.mono (by omega)) (by rfl) (pa_cons (pv 0) pa_nil)) pe_str (nomark _)))))), fun vs H Q h => ?_⟩
  · obtain ⟨k, v, d, rfl, _⟩ := h
    rfl
  · obtain ⟨k, v, d, rfl, hd, hc, q⟩ := h
    walk_at "rd"
    rcases hc with rfl | ⟨i, rfl⟩ | ⟨x, rfl⟩
    · refine r_isNd hd rfl ?_
      walk_at "rd"
      have q : Q (.bl (decide (k = "int?") || decide (k = "text?"))) H := q
      refine r_ite (fun e => ?_) (fun e => ?_)
      · rw [dec_str'] at e
        rw [e] at q
        exact q
      · rw [dec_str'] at e
        rw [e] at q
        walk_at "rd"
        rw [dec_str']
        exact q
    · refine r_isNd hd rfl ?_
      walk_at "rd"
      refine r_isi hd (b := true) (by show kitB "int" "int" = some true; decide +kernel) ?_
      walk_at "rd"
      refine ⟨_, rfl, ?_⟩
      walk_at "rd"
      rw [dec_str']
      exact q
    · refine r_isNd hd rfl ?_
      walk_at "rd"
      refine r_isi hd (b := false) (by show kitB "str" "int" = some false; decide +kernel) ?_
      walk_at "rd"
      refine ⟨_, rfl, ?_⟩
      walk_at "rd"
      rw [dec_str']
      exact q
end
end Vt
-- VtForm
set_option Elab.async false
set_option linter.all false
set_option maxRecDepth 100000
set_option maxHeartbeats 4000000
namespace Vt
open PySem PySem.Spec PyProof.Rows L2
/-! ### forms and rows, told apart from any heap -/
structure Col where
  name : Str
  kind : Str
  df : PyData
  un : Int
  link : Str
structure Fm where
  cols : List Col
  keys : List Str
def Col.d (c : Col) : PyData := .tuple [.str c.name, .str c.kind, c.df, .int c.un, .str c.link]
def Fm.d (f : Fm) : PyData := .tuple [.tuple (f.cols.map Col.d), .tuple (f.keys.map PyData.str)]
def Fm.names (f : Fm) : List Str := f.cols.map (·.name)
/-- what a cell holds -/
def Sc (d : PyData) : Prop := d = .none ∨ (∃ i : Int, d = .int i ∧ i.natAbs < 10 ^ 60) ∨ ∃ s : Str, d = .str s ∧ s.length ≤ 60
theorem Sc.kind {d : PyData} (h : Sc d) : d = .none ∨ (∃ i, d = .int i) ∨ ∃ s, d = .str s := h.imp id (Or.imp (fun ⟨i, e, _⟩ => ⟨i, e⟩) fun ⟨s, e, _⟩ => ⟨s, e⟩)
def Kd (k : Str) : Prop := k = "int" ∨ k = "int?" ∨ k = "text" ∨ k = "text?"
structure Fm.Ok (f : Fm) : Prop where
  n1 : 1 ≤ f.cols.length
  n12 : f.cols.length ≤ 12
  nd : f.names.Nodup
  nm : ∀ c ∈ f.cols, c.name.length ≤ 60
  kd : ∀ c ∈ f.cols, Kd c.kind
  df : ∀ c ∈ f.cols, Sc c.df
  un : ∀ c ∈ f.cols, c.un = 0 ∨ c.un = 1
  lk : ∀ c ∈ f.cols, c.link.length ≤ 60
  k1 : 1 ≤ f.keys.length
  k2 : f.keys.length ≤ 2
  knd : f.keys.Nodup
  kin : ∀ k ∈ f.keys, ∃ c ∈ f.cols, c.name = k ∧ (c.kind = "int" ∨ c.kind = "text")
/-- the row fits the form -/
structure Fit (f : Fm) (row : List PyData) : Prop where
  len : row.length = f.cols.length
  ok : ∀ (i : Nat) (c : Col) (d : PyData), f.cols[i]? = some c → row[i]? = some d → acc c.kind d = true ∧ Sc d
theorem Fit.sc {f : Fm} {row : List PyData} (h : Fit f row) {d : PyData} (m : d ∈ row) : Sc d := by
  obtain ⟨i, hi⟩ := List.mem_iff_getElem?.mp m
  have hl := (List.getElem?_eq_some_iff.mp hi).1
  rw [h.len] at hl
  exact (h.ok i _ d (List.getElem?_eq_getElem hl) hi).2
/-- the place of a name -/
def ix (ns : List Str) (k : Str) : Nat := ns.findIdx fun n => decide (n = k)
theorem ix_at {ns : List Str} {k : Str} (h : k ∈ ns) : ns[ix ns k]? = some k := by
  have e : ix ns k < ns.length := List.findIdx_lt_length_of_exists ⟨k, h, decide_eq_true rfl⟩
  rw [List.getElem?_eq_getElem e]
  have := List.findIdx_getElem (xs := ns) (p := fun n => decide (n = k)) (w := e)
  exact congrArg some (of_decide_eq_true this)
theorem ix_first {ns : List Str} {k : Str} {m : Nat} (h : m < ix ns k) : ns[m]? ≠ some k := fun e => by
  have := List.not_of_lt_findIdx (p := fun n => decide (n = k)) h
  rw [List.getElem?_eq_some_iff] at e
  obtain ⟨h1, h2⟩ := e
  rw [h2] at this
  simp at this
theorem ix_nodup {ns : List Str} (nd : ns.Nodup) {i : Nat} {k : Str} (h : ns[i]? = some k) : ix ns k = i := by
  have hk : k ∈ ns := List.mem_iff_getElem?.mpr ⟨i, h⟩
  have h2 := ix_at hk
  rw [List.getElem?_eq_some_iff] at h h2
  obtain ⟨a, b⟩ := h
  obtain ⟨c, d⟩ := h2
  exact (List.getElem_inj nd).mp (d.trans b.symm)
/-- the key and the rest of a row -/
def keyL (f : Fm) (row : List PyData) : List PyData := f.keys.map fun k => row.getD (ix f.names k) .none
def restI (f : Fm) : List Nat := (List.range f.names.length).filter fun i => decide (f.names.getD i ⟨#[]⟩ ∉ f.keys)
def restL (f : Fm) (row : List PyData) : List PyData := (restI f).map fun i => row.getD i .none
theorem names_len (f : Fm) : f.names.length = f.cols.length := List.length_map ..
theorem Fm.Ok.kmem {f : Fm} (h : f.Ok) {k : Str} (hk : k ∈ f.keys) : k ∈ f.names := let ⟨c, hc, e, _⟩ := h.kin k hk; List.mem_map.mpr ⟨c, hc, e⟩
theorem getD_some {α : Type} {xs : List α} {i : Nat} {x d : α} (h : xs[i]? = some x) : xs.getD i d = x := by rw [List.getD_eq_getElem?_getD, h]; rfl
theorem Tp.form {H : Hp} {v : V} {f : Fm} (h : Tp H v f.d) : ∃ a c k, v = .ref a ∧ H a = some (.tup [.ref c, .ref k]) ∧ (∃ xs, H c = some (.tup xs) ∧ TpAll H xs (f.cols.map Col.d)) ∧ H k = some (.tup (f.keys.map V.str)) := by
  obtain ⟨a, xs, e, ha, hx⟩ := h.inv
  obtain ⟨x1, r1, e1, t1, u1⟩ := hx.inv
  obtain ⟨x2, r2, e2, t2, u2⟩ := u1.inv
  have e3 := u2.inv_nil
  subst e1 e2 e3
  obtain ⟨c, xs, ec, hc, hxs⟩ := t1.inv
  obtain ⟨k, ys, ek, hk, hys⟩ := t2.inv
  subst ec ek
  have := hys.strs
  subst this
  exact ⟨a, c, k, e, ha, ⟨xs, hc, hxs⟩, hk⟩
theorem Tp.col {H : Hp} {v : V} {c : Col} (h : Tp H v c.d) : ∃ a x, v = .ref a ∧ H a = some (.tup [.str c.name, .str c.kind, x, .int c.un, .str c.link]) ∧ Tp H x c.df := by
  obtain ⟨a, xs, e, ha, hx⟩ := h.inv
  obtain ⟨x1, r1, e1, t1, u1⟩ := hx.inv
  obtain ⟨x2, r2, e2, t2, u2⟩ := u1.inv
  obtain ⟨x3, r3, e3, t3, u3⟩ := u2.inv
  obtain ⟨x4, r4, e4, t4, u4⟩ := u3.inv
  obtain ⟨x5, r5, e5, t5, u5⟩ := u4.inv
  have e6 := u5.inv_nil
  subst e1 e2 e3 e4 e5 e6
  obtain rfl := t1.inv_str
  obtain rfl := t2.inv_str
  obtain rfl := t4.inv_int
  obtain rfl := t5.inv_str
  exact ⟨a, x3, e, ha, t3⟩
end Vt
-- VtLam
set_option Elab.async false
set_option linter.all false
set_option maxRecDepth 100000
set_option maxHeartbeats 4000000
namespace Vt
open PySem PySem.Spec PyProof.Rows L2 LamX NdefX
/-! ### readings of sorted with a key -/
theorem r_srtl {K : PySem.W.Frag} {te tl : TE} {N : List Str} {js : List Nat} {σ : L2.St} {H : Hp} {Q : VK} (q : tl σ H fun x H1 => SrtLQ K te N js x σ H1 Q) : tSrtL K te N js tl σ H Q := q
theorem r_srtL {K : PySem.W.Frag} {te : TE} {N : List Str} {js : List Nat} {σ : L2.St} {H : Hp} {Q : VK} {p : Addr} {vs : List V} {ds : List PyData} (kf : PyData → PyData) (tb : Tb K H) (h : H p = some (.lst vs)) (hd : TpAll H vs ds) (hal : PySem.W.AllAlike (ds.map kf)) (hk : PySem.W.Sortable (ds.map kf)) (hdp : ∀ d ∈ ds, (kf d).depth ≤ 50)
    (ht : ∀ (i : Nat) (v : V) (d : PyData), ds[i]? = some d → Tp H v d → KeyT K te N (js.map (slotAt σ)) H v (kf d))
    (q : ∀ (l : Addr) (zs : List V) (es : List PyData) (H' : Hp), Gr K H H' → Nt H l → es.Perm ds → Srtd (es.map kf) → H' l = some (.lst zs) → TpAll H' zs es → Q (.ref l) H') : SrtLQ K te N js (.ref p) σ H Q := by
  have hl := hd.length
  refine ⟨tb, p, vs, ds.map kf, rfl, h, by rw [List.length_map]; exact hl, hal, hk, fun d hd' => ?_, fun i v k hv hk' => ?_, fun l ps H' g nl pm sr hl' => ?_⟩
  · obtain ⟨e, he, rfl⟩ := List.mem_map.mp hd'
    exact hdp e he
  · obtain ⟨d, hd', htp⟩ := hd.get' hv
    rw [List.getElem?_map, hd'] at hk'
    have e : kf d = k := Option.some.inj hk'
    rw [← e]
    exact ht i v d hd' htp
  · have e1 : (vs.zip ds).map (fun b : V × PyData => (b.1, kf b.2)) = vs.zip (ds.map kf) := by
      rw [List.zip_map_right]
      rfl
    obtain ⟨ps', pm', e'⟩ := L2.perm_lift (fun b : V × PyData => (b.1, kf b.2)) pm (vs.zip ds) e1
    have ez : ps.map (·.1) = ps'.map (·.1) := by rw [← e', List.map_map]; rfl
    have ek : ps.map (·.2) = (ps'.map (·.2)).map kf := by rw [← e', List.map_map, List.map_map]; rfl
    rw [ez] at hl'
    rw [ek] at sr
    refine q l _ (ps'.map (·.2)) H' g nl ?_ sr hl' ?_
    · have := pm'.map (·.2)
      rw [zip_snd hl] at this
      exact this
    · have all : ∀ b ∈ ps', Tp H b.1 b.2 := fun b hb => by
        have hb := pm'.subset hb
        obtain ⟨i, hi⟩ := List.mem_iff_getElem?.mp hb
        rw [List.getElem?_zip_eq_some] at hi
        obtain ⟨d, hd', ht⟩ := hd.get' hi.1
        rw [hi.2] at hd'
        cases hd'
        exact ht
      clear pm' e' ez ek sr hl' pm
      induction ps' with
      | nil => exact .nil
      | cons b r ih => exact .cons ((all b (List.mem_cons_self ..)).mono g.tex) (ih fun c hc => all c (List.mem_cons_of_mem _ hc))
theorem sort_eqK {kf : PyData → PyData} {es fs : List PyData} (p : es.Perm fs) (h1 : Srtd (es.map kf)) (h2 : SrtS (fs.map kf)) : es = fs := by
  unfold Srtd at h1
  unfold SrtS at h2
  rw [List.pairwise_map] at h1 h2
  exact sort_eq (lt := fun a b => dLt (kf a) (kf b)) p h1 h2
/-! ### the defs that make lambdas -/
structure Tl (K : PySem.W.Frag) (mg : Str → Option Value) (base : Heap) : Prop where
  tb : ∀ p ∈ tfV, TabB base mg (He.cT K p).1 (He.cT K p).2
  nd : (tfV.map fun p => (He.cT K p).2).Nodup
theorem Tl.hu {K : PySem.W.Frag} {mg : Str → Option Value} {base : Heap} (T : Tl K mg base) {p : He.Defn} (hp : p ∈ tfV) : ∀ q ∈ tbV K, q.1 = (He.cT K p).2 → q.2 = lamN p := fun q hq e => by
  obtain ⟨p', hp', rfl⟩ := List.mem_map.mp hq
  have e : (He.cT K p').2 = (He.cT K p).2 := e
  have : p' = p := by
    have nd := T.nd
    obtain ⟨i, hi⟩ := List.mem_iff_getElem?.mp hp
    obtain ⟨j, hj⟩ := List.mem_iff_getElem?.mp hp'
    obtain ⟨hi1, hi2⟩ := List.getElem?_eq_some_iff.mp hi
    obtain ⟨hj1, hj2⟩ := List.getElem?_eq_some_iff.mp hj
    have := (List.getElem_inj (h₀ := by rw [List.length_map]; exact hj1) (h₁ := by rw [List.length_map]; exact hi1) nd).mp (by rw [List.getElem_map, List.getElem_map, hi2, hj2]; exact e)
    subst this
    exact hj2.symm.trans hi2
  rw [this]
theorem tt_mem {K : PySem.W.Frag} {p : He.Defn} (hp : p ∈ tfV) : ((He.cT K p).2, lamN p) ∈ tbV K := List.mem_map.mpr ⟨p, hp, rfl⟩
structure FnC (K : PySem.W.Frag) (mg : Str → Option Value) (x : Str) (st : Stmt) : Prop where
  ex : ∃ fd, FunD K x x (defArgs st) (defBody st) (defScope st) [] [] (He.fAd K (x, none)) fd ∧ mg x = some (.ref (He.fAd K (x, none)))
section
variable {P : Program} {w : World} {K : PySem.W.Frag} {mg : Str → Option Value} {base : Heap}
theorem cal_ofC {x : Str} {st : Stmt} {N ps : List Str} {k : Nat} {sp : Sp} (F : FnC K mg x st) (S : FnScope N ps (defScope st)) (hb : BindH x st ps) (len : ∀ vs H Q E, sp vs H Q E → vs.length = ps.length)
    (body : ∀ (f : Addr) (A : Around) (outer : List Env) (s : Shared) (H0 : Hp) (E : XK), Room k (A.deeper (envOfC x (defScope st) s.heap.objs.size f (.ref (He.cT K (x, none)).1))) →
      ∃ t, PSs (cxV P w K mg base N x st f (.ref (He.cT K (x, none)).1) A outer s H0 E) (defBody st) t ∧ ∀ (vs : List V) (H : Hp) (Q : VK), sp vs H Q E → t { nx := fun _ H' => Q .non H', rt := Q } (start N vs) H) : Cal P w K mg base (k + 1) x ps sp := by
  obtain ⟨fd, G, hm⟩ := F.ex
  refine ⟨⟨_, fd, ?_, hm, G.kp, G.bindsN hb⟩⟩
  obtain ⟨oc, od, dV, kV, doc, pm, an, cdv, ct, osl, rfl, lk, hcd, _, _⟩ := G.ex
  obtain ⟨c, rfl⟩ := He.codeIn_ref hcd
  have ec : (He.cT K (x, none)).1 = c := He.codeOf_eq lk rfl
  rw [ec] at body
  refine L2.fn_of lk hcd S len fun A outer s H vs Q E hr h => ?_
  obtain ⟨t, d, q⟩ := body _ A outer s H E hr
  exact ⟨t, PSs.nox d, q vs H Q h⟩
end
/-! ### the store's group goes on -/
theorem Sg.gr {K : PySem.W.Frag} {H H' : Hp} {b n c t : Addr} {bk : List Str} {P : Pr} {N : Nat} (g : Sg K H b n c t bk P N) (e : Gr K H H') : Sg K H' b n c t bk P N :=
  ⟨let ⟨dx, h⟩ := g.bi; ⟨dx, e.ext _ _ h fun ps z => (by cases z)⟩, let ⟨k, h, r⟩ := g.bd; ⟨k, e.ext _ _ h fun ps z => (by cases z), r⟩, g.nd, let ⟨dx, i, h⟩ := g.ci; ⟨dx, i, e.ext _ _ h fun ps z => (by cases z)⟩, let ⟨k, h, r⟩ := g.cd; ⟨k, e.ext _ _ h fun ps z => (by cases z), r⟩, g.sub, g.bN, g.nt, g.bc, e.tb g.tb⟩
theorem Wr.gr {K : PySem.W.Frag} {H H' : Hp} {n c t : Addr} {bk : List Str} {P : Pr} (e : Gr K H H') : Wr H H' n c t bk bk P P := ⟨fun a o _ m h => e.ext a o h m, List.prefix_refl _, fun _ _ h => h, e.nw⟩
section
variable {K : PySem.W.Frag} {mg : Str → Option Value}
theorem tm_write_state : (("write_state", none) : He.Defn) ∈ tfV := List.Mem.head _
theorem Tx.ac_write_state (T : Tx K mg) : FnC K mg "write_state" s_write_state := let ⟨fd, F⟩ := T.says.def_ 22 (d := d_write_state) rfl; ⟨⟨fd, F, T.gl _ (T.says.fact 22 (f := .glo "write_state") rfl)⟩⟩
theorem tm_law_form : (("_law_form", none) : He.Defn) ∈ tfV := List.Mem.tail _ (List.Mem.head _)
theorem Tx.ac_law_form (T : Tx K mg) : FnC K mg "_law_form" s_law_form := let ⟨fd, F⟩ := T.says.def_ 44 (d := d_law_form) rfl; ⟨⟨fd, F, T.gl _ (T.says.fact 41 (f := .glo "_law_form") rfl)⟩⟩
theorem tm_law_tables : (("_law_tables", none) : He.Defn) ∈ tfV := List.Mem.tail _ (List.Mem.tail _ (List.Mem.head _))
theorem Tx.ac_law_tables (T : Tx K mg) : FnC K mg "_law_tables" s_law_tables := let ⟨fd, F⟩ := T.says.def_ 50 (d := d_law_tables) rfl; ⟨⟨fd, F, T.gl _ (T.says.fact 47 (f := .glo "_law_tables") rfl)⟩⟩
theorem tm_law_with_change : (("_law_with_change", none) : He.Defn) ∈ tfV := List.Mem.tail _ (List.Mem.tail _ (List.Mem.tail _ (List.Mem.head _)))
theorem Tx.ac_law_with_change (T : Tx K mg) : FnC K mg "_law_with_change" s_law_with_change := let ⟨fd, F⟩ := T.says.def_ 57 (d := d_law_with_change) rfl; ⟨⟨fd, F, T.gl _ (T.says.fact 54 (f := .glo "_law_with_change") rfl)⟩⟩
end
/-! ### comprehensions whose turns change the heap -/
/-- one turn: acc stands in the list at L -/
def GStep (g : TG) (tt : TT) (te : TE) (vs : List Nat) (σ : L2.St) (L : Addr) (Pv : Nat → List V → Hp → Prop) (i : Nat) (acc : List V) (x : V) (Hc : Hp) : Prop :=
  ∀ (Qs : VK) (Qn : Hp → Prop), (∀ y H6, H6 L = some (.lst acc) → Pv (i + 1) (acc ++ [y]) (upd H6 L (.lst (acc ++ [y]))) → Qs y H6) → (∀ H5, H5 L = some (.lst acc) → Pv (i + 1) acc H5 → Qn H5) →
    g x (wipe σ vs) Hc fun σ2 H4 => wipe σ2 vs = wipe σ vs ∧ tt σ2 H4 fun b H5 => if b = true then te σ2 H5 Qs else Qn H5
section
variable {σ : L2.St} {H : Hp} {Q : VK} {K : PySem.W.Frag} {g : TG} {tt : TT} {te : TE} {vs : List Nat}
theorem r_lcLg {a : Addr} {xs : List V} (Pv : Addr → Nat → List V → Hp → Prop) (hx0 : H a = some (.lst xs)) (hz : xs.length ≤ 50000) (h0 : ∀ L H', H L = none → Same H H' → H' L = some (.lst []) → Pv L 0 [] H') (hl : ∀ L i acc Hc, H L = none → Pv L i acc Hc → Hc a = some (.lst xs))
    (hs : ∀ L i x acc Hc, H L = none → xs[i]? = some x → Pv L i acc Hc → Hc L = some (.lst acc) → GStep g tt te vs σ L (Pv L) i acc x Hc) (hd : ∀ L acc Hc, H L = none → Pv L xs.length acc Hc → Hc L = some (.lst acc) → Q (.ref L) Hc) : LcL K g tt te vs (.ref a) σ H Q := by
  refine ⟨a, rfl, ⟨xs, SqL.of hx0⟩, fun L hL => lc_list (xs := xs) (fun i Hc => ∃ acc, Hc L = some (.lst acc) ∧ acc.length ≤ i ∧ Pv L i acc Hc) ⟨[], upd_same, Nat.le_refl _, h0 L _ hL (same_new hL) upd_same⟩ (fun i Hc _ ⟨acc, _, _, p⟩ => SqL.of (hl L i acc Hc hL p)) (fun i x Hc hx ⟨acc, h1, h2, p⟩ => ?_) (fun Hc ⟨acc, h1, h2, p⟩ => hd L acc Hc hL p h1)⟩
  have hi := (List.getElem?_eq_some_iff.mp hx).1
  exact hs L i x acc Hc hL hx p h1 _ _ (fun y H6 h6 p6 => ⟨acc, h6, Nat.lt_of_lt_of_le (show acc.length < 100000 by omega) (by decide), acc ++ [y], upd_same, by rw [List.length_append]; show acc.length + 1 ≤ i + 1; omega, p6⟩) fun H5 h5 p5 => ⟨acc, h5, by omega, p5⟩
theorem r_lcRg {n : Nat} (Pv : Addr → Nat → List V → Hp → Prop) (hz : n ≤ 50000) (h0 : ∀ L H', H L = none → Same H H' → H' L = some (.lst []) → Pv L 0 [] H')
    (hs : ∀ L i acc Hc, H L = none → i < n → Pv L i acc Hc → Hc L = some (.lst acc) → GStep g tt te vs σ L (Pv L) i acc (.int (i : Int)) Hc) (hd : ∀ L acc Hc, H L = none → Pv L n acc Hc → Hc L = some (.lst acc) → Q (.ref L) Hc) : LcR g tt te vs [.int (n : Int)] σ H Q := by
  refine ⟨n, rfl, by omega, by omega, fun L hL => ?_⟩
  show ∃ W, _
  rw [Int.toNat_natCast]
  refine lc_range (lo := 0) (n := n) (fun i Hc => ∃ acc, Hc L = some (.lst acc) ∧ acc.length ≤ i ∧ Pv L i acc Hc) ⟨[], upd_same, Nat.le_refl _, h0 L _ hL (same_new hL) upd_same⟩ (fun i Hc hi ⟨acc, h1, h2, p⟩ => ?_) (fun Hc ⟨acc, h1, h2, p⟩ => hd L acc Hc hL p h1)
  have e0 : (0 : Int) + (i : Int) = (i : Int) := Int.zero_add _
  rw [e0]
  exact hs L i acc Hc hL hi p h1 _ _ (fun y H6 h6 p6 => ⟨acc, h6, Nat.lt_of_lt_of_le (show acc.length < 100000 by omega) (by decide), acc ++ [y], upd_same, by rw [List.length_append]; show acc.length + 1 ≤ i + 1; omega, p6⟩) fun H5 h5 p5 => ⟨acc, h5, by omega, p5⟩
end
theorem g_one {te : TE} {vs : List Nat} {σ : L2.St} {j : Nat} {L : Addr} {Pv : Nat → List V → Hp → Prop} {i : Nat} {acc : List V} {x : V} {Hc : Hp} (hw : wipe ((wipe σ vs).set j (some x)) vs = wipe σ vs)
    (h : ∀ Qs : VK, (∀ y H6, H6 L = some (.lst acc) → Pv (i + 1) (acc ++ [y]) (upd H6 L (.lst (acc ++ [y]))) → Qs y H6) → te ((wipe σ vs).set j (some x)) Hc Qs) : GStep (gName j) tYes te vs σ L Pv i acc x Hc := fun Qs Qn q _ => by
  refine ⟨hw, ?_⟩
  show if true = true then te _ Hc Qs else Qn Hc
  rw [if_pos rfl]
  exact h Qs q
theorem g_three {K : PySem.W.Frag} {te : TE} {vs : List Nat} {σ : L2.St} {j k m : Nat} {L T : Addr} {Pv : Nat → List V → Hp → Prop} {i : Nat} {acc : List V} {x y z : V} {Hc : Hp} (hT : Hc T = some (.tup [x, y, z])) (hw : wipe ((((wipe σ vs).set j (some x)).set k (some y)).set m (some z)) vs = wipe σ vs)
    (h : ∀ Qs : VK, (∀ y H6, H6 L = some (.lst acc) → Pv (i + 1) (acc ++ [y]) (upd H6 L (.lst (acc ++ [y]))) → Qs y H6) → te ((((wipe σ vs).set j (some x)).set k (some y)).set m (some z)) Hc Qs) :
    GStep (gTup K 3 (gCons (gName j) (gCons (gName k) (gCons (gName m) gNil)))) tYes te vs σ L Pv i acc (.ref T) Hc := fun Qs Qn q _ => by
  refine r_gthree hT ⟨hw, ?_⟩
  show if true = true then te _ Hc Qs else Qn Hc
  rw [if_pos rfl]
  exact h Qs q
end Vt
-- VtD2
set_option Elab.async false
set_option linter.all false
set_option maxRecDepth 100000
set_option maxHeartbeats 4000000
namespace Vt
open PySem PySem.Spec PyProof.Rows L2
local macro_rules | `(tactic| walk_at "rd") => `(tactic| (repeat (first
  | with_reducible refine r_sasg ?_ | with_reducible refine r_sfset ?_ | with_reducible refine r_sfaug ?_ | with_reducible refine r_sdput ?_ | with_reducible refine r_sdrop ?_ | with_reducible refine r_swhen ?_ | with_reducible refine r_sif ?_ | with_reducible refine r_asg ?_ | with_reducible refine r_drop ?_
  | with_reducible refine r_ret ?_ | with_reducible refine r_if ?_ | with_reducible refine r_next ?_
  | with_reducible refine r_c ?_ | with_reducible refine r_var (by with_unfolding_all exact rfl) ?_ | with_reducible refine r_op ?_ | with_reducible refine r_un ?_ | with_reducible refine r_I0 ?_ | ((with_reducible refine r_I ?_ ?_); · first | (show (0 : Int) < _; decide) | exact div_ok (by decide) (by decide)) | with_reducible refine r_U ?_
  | with_reducible refine r_eq (by with_unfolding_all exact rfl) ?_ | with_reducible refine r_ne (by with_unfolding_all exact rfl) ?_
  | with_reducible refine r_tstq ?_ | with_reducible refine r_tBq ?_ | with_reducible refine r_blq ?_ | with_reducible refine r_intq ?_ | with_reducible refine r_and ?_ | with_reducible refine r_or ?_ | with_reducible refine r_not ?_
  | with_reducible refine r_andV ?_ | with_reducible refine r_orV ?_ | with_reducible refine r_notV ?_
  | with_reducible refine r_nil ?_ | with_reducible refine r_cons ?_ | with_reducible refine r_call ?_ | with_reducible refine r_tup ?_ | with_reducible refine r_lst ?_ | with_reducible refine r_cb ?_ | with_reducible refine r_int1 ?_ | with_reducible refine r_ord ?_
  | with_reducible refine r_sl ?_ | with_reducible refine r_nop ?_ | with_reducible refine r_partq ?_ | with_reducible refine r_bm ?_ | with_reducible refine r_fld ?_
  | with_reducible refine r_lct ?_ | with_reducible refine r_lcl ?_ | with_reducible refine r_lcr ?_ | with_reducible refine r_sfort ?_ | with_reducible refine r_sforl ?_ | with_reducible refine r_sfors ?_ | with_reducible refine r_sforr ?_ | with_reducible refine r_sforz ?_
  | with_reducible refine r_fort ?_ | with_reducible refine r_forl ?_ | with_reducible refine r_forr ?_ | with_reducible refine r_sasgt ?_ | with_reducible refine r_asgt ?_ | with_reducible refine r_saug (by with_unfolding_all exact rfl) ?_ | with_reducible refine r_aug (by with_unfolding_all exact rfl) ?_ | with_reducible refine r_ip ?_ | with_reducible refine r_gname ?_ | with_reducible refine r_seq ?_
  | with_reducible refine r_dget ?_ | with_reducible refine r_din ?_ | with_reducible refine r_dnotin ?_ | with_reducible refine r_sdput ?_ | with_reducible refine r_dput ?_ | with_reducible refine r_mg ?_ | with_reducible refine r_rev ?_ | with_reducible refine r_dzip ?_
  | with_reducible refine r_lcz ?_ | with_reducible refine r_form ?_
  | with_reducible refine r_sfset ?_ | with_reducible refine r_fset ?_ | with_reducible refine r_sfaug ?_ | with_reducible refine r_meth ?_ | with_reducible refine r_make ?_
  | with_reducible refine r_srtl ?_ | with_reducible refine r_m1q ?_ | with_reducible refine r_strq ?_
  | with_reducible refine r_iteT ?_ | with_reducible refine r_iteF ?_)))
local macro_rules | `(tactic| walk_at "rs") => `(tactic| (repeat (first
  | with_reducible refine r_sasg ?_ | with_reducible refine r_sfset ?_ | with_reducible refine r_sfaug ?_ | with_reducible refine r_sdput ?_ | with_reducible refine r_sdrop ?_ | with_reducible refine r_asg ?_ | with_reducible refine r_drop ?_
  | with_reducible refine r_ret ?_ | with_reducible refine r_next ?_
  | with_reducible refine r_c ?_ | with_reducible refine r_var (by with_unfolding_all exact rfl) ?_ | with_reducible refine r_op ?_ | with_reducible refine r_un ?_ | with_reducible refine r_I0 ?_ | ((with_reducible refine r_I ?_ ?_); · first | (show (0 : Int) < _; decide) | exact div_ok (by decide) (by decide)) | with_reducible refine r_U ?_
  | with_reducible refine r_eq (by with_unfolding_all exact rfl) ?_ | with_reducible refine r_ne (by with_unfolding_all exact rfl) ?_
  | with_reducible refine r_tstq ?_ | with_reducible refine r_tBq ?_ | with_reducible refine r_blq ?_ | with_reducible refine r_intq ?_ | with_reducible refine r_and ?_ | with_reducible refine r_or ?_ | with_reducible refine r_not ?_
  | with_reducible refine r_andV ?_ | with_reducible refine r_orV ?_ | with_reducible refine r_notV ?_
  | with_reducible refine r_nil ?_ | with_reducible refine r_cons ?_ | with_reducible refine r_call ?_ | with_reducible refine r_tup ?_ | with_reducible refine r_lst ?_ | with_reducible refine r_cb ?_ | with_reducible refine r_int1 ?_ | with_reducible refine r_ord ?_
  | with_reducible refine r_sl ?_ | with_reducible refine r_nop ?_ | with_reducible refine r_partq ?_ | with_reducible refine r_bm ?_ | with_reducible refine r_fld ?_
  | with_reducible refine r_lct ?_ | with_reducible refine r_lcl ?_ | with_reducible refine r_lcr ?_ | with_reducible refine r_sfort ?_ | with_reducible refine r_sforl ?_ | with_reducible refine r_sfors ?_ | with_reducible refine r_sforr ?_ | with_reducible refine r_sforz ?_
  | with_reducible refine r_fort ?_ | with_reducible refine r_forl ?_ | with_reducible refine r_forr ?_ | with_reducible refine r_sasgt ?_ | with_reducible refine r_asgt ?_ | with_reducible refine r_saug (by with_unfolding_all exact rfl) ?_ | with_reducible refine r_aug (by with_unfolding_all exact rfl) ?_ | with_reducible refine r_ip ?_ | with_reducible refine r_gname ?_ | with_reducible refine r_seq ?_
  | with_reducible refine r_dget ?_ | with_reducible refine r_din ?_ | with_reducible refine r_dnotin ?_ | with_reducible refine r_sdput ?_ | with_reducible refine r_dput ?_ | with_reducible refine r_mg ?_ | with_reducible refine r_rev ?_ | with_reducible refine r_dzip ?_
  | with_reducible refine r_lcz ?_ | with_reducible refine r_form ?_
  | with_reducible refine r_sfset ?_ | with_reducible refine r_fset ?_ | with_reducible refine r_sfaug ?_ | with_reducible refine r_meth ?_ | with_reducible refine r_make ?_
  | with_reducible refine r_srtl ?_ | with_reducible refine r_m1q ?_ | with_reducible refine r_strq ?_
  | with_reducible refine r_iteT ?_ | with_reducible refine r_iteF ?_)))
local macro_rules | `(tactic| walk_at "tex") => `(tactic| (first
  | assumption | exact TEx.refl _ | exact TEx.of (by assumption) | ((refine TEx.trans ?_ (TEx.of (by assumption))); walk_at "tex") | ((refine TEx.trans ?_ (by assumption)); walk_at "tex")))
local macro_rules | `(tactic| walk_at "same") => `(tactic| (first
  | assumption | exact Same.refl _ | ((refine Same.trans ?_ (by assumption)); walk_at "same")))
local macro_rules | `(tactic| walk_at "tp") => `(tactic| (first
  | assumption | exact Tp.int _ | exact Tp.str _ | exact Tp.non | exact TpAll.nil | ((refine TpAll.cons ?_ ?_) <;> walk_at "tp") | ((refine Tp.mono ?_ (by assumption)); walk_at "tex") | ((refine TpAll.mono ?_ (by assumption)); walk_at "tex")))
local macro_rules | `(tactic| walk_at "hp") => `(tactic| (first
  | assumption | ((refine (TEx.trans ?_ (TEx.refl _)) _ _ (by assumption)); walk_at "tex")))
section
variable {P : Program} {w : World} {K : PySem.W.Frag} {mg : Str → Option Value} {base : Heap}
/-! ### encode -/
abbrev n_encode : List Str := ["item", "part"]
theorem sc_encode : FnScope n_encode ["item"] (defScope s_encode) := ⟨rfl, rfl, rfl, by decide +kernel, rfl, by decide +kernel, by decide +kernel⟩
theorem bd_encode : BindH "encode" s_encode ["item"] := fun _ _ _ _ _ _ us hl => match us, hl with | [_], _ => rfl
/-- encode: the written item -/
def spEnc (n : Nat) : Sp := fun vs H Q _ => ∃ (v : V) (d : PyData), vs = [v] ∧ Tp H v d ∧ dep d < n ∧ encOk d = true ∧ (encL d).length ≤ 16000000 ∧ ∀ H', Same H H' → Q (.str (encS d)) H'
theorem cal_never {x : Str} {st : Stmt} {N ps : List Str} {k : Nat} {sp : Sp} (F : FnAt K mg x st) (S : FnScope N ps (defScope st)) (hb : BindH x st ps) (h : ∀ vs H Q E, ¬ sp vs H Q E) : Cal P w K mg base (k + 1) x ps sp :=
  cal_of F S hb (fun vs H Q E z => (h vs H Q E z).elim) fun f cdv A outer s H0 E hr => ⟨_, pss_never, fun vs H Q z => (h vs H Q E z).elim⟩
theorem log2_small {i : Int} (h : i.natAbs < 10 ^ 60) : i.natAbs.log2 < 1920 :=
  PySem.Flt.log2_lt_of (by decide) (Nat.lt_trans h (by decide))
theorem join_len (x : Str) (h : x = (⟨#[]⟩ : Str)) : x.length = 0 := by rw [h]; rfl
def rJoin (K : PySem.W.Frag) : V → List V → Hp → VK → Prop := fun x xs H Q => ∃ a p, ∃ ys : List Str, x = .str a ∧ xs = [.ref p] ∧ (SqL K H p (ys.map V.str) ∨ SqT K H p (ys.map V.str)) ∧ (ys.map (·.length)).sum + ys.length * a.length ≤ 16777216 ∧ Q (.str (Txt.join a ys)) H
theorem r_m1 {σ : L2.St} {H : Hp} {Q : VK} {r : V → List V → Hp → VK → Prop} {to te : TE} (q : to σ H fun x H1 => (∃ a, x = .str a) ∧ te σ H1 fun y H2 => r x [y] H2 Q) : tM1 r to te σ H Q := q
theorem cal_encode (T : Tx K mg) : ∀ n : Nat, Cal P w K mg base (n + 1) "encode" ["item"] (spEnc n) := by
  intro n
  induction n with
  | zero => exact cal_never T.at_encode sc_encode bd_encode fun vs H Q E ⟨v, d, _, _, h, _⟩ => by omega
  | succ n ih =>
    have c_encode := ih
    refine cal_of T.at_encode sc_encode bd_encode (fun vs H Q E h => ?_) fun f cdv A outer s H0 E hr => ⟨_, (pss_cons (ps_if (pt_cmpR op_isNq (pv 0) pe_non (nomark _))
      (pss_one (ps_ret pe_str))
      pss_nil)
      (pss_cons (ps_if (pt_val (pe_callB (call_isiV (K := K) rfl) (by rfl) T.m_isinstance (by decide +kernel) (pa_cons (pv 0) (pa_cons (pe_bltn (v := .ty "int") (by rfl) T.m_int boot_int rfl) pa_nil))))
      (pss_one (ps_ret (pe_op op_add_str (pe_op op_add_str pe_str (pe_callTy cr_str1 (by rfl) T.m_str (by decide +kernel) (pa_cons (pv 0) pa_nil))) pe_str)))
      pss_nil)
      (pss_cons (ps_if (pt_val (pe_callB (call_isiV (K := K) rfl) (by rfl) T.m_isinstance (by decide +kernel) (pa_cons (pv 0) (pa_cons (pe_bltn (v := .ty "str") (by rfl) T.m_str boot_str rfl) pa_nil))))
      (pss_one (ps_ret (pe_op op_add_str (pe_op op_add_str (pe_op op_add_str pe_str (pe_callTy cr_str1 (by rfl) T.m_str (by decide +kernel) (pa_cons (pe_callB cr_lnS (by rfl) T.m_len PySem.boot_len (pa_cons (pv 0) pa_nil)) pa_nil))) pe_str) (pv 0))))
      pss_nil)
      (pss_one (ps_ret (pe_op op_add_str (pe_op op_add_str pe_str (pe_join pe_str (pe_lc (own := [("part", 1)]) rfl sc_encode.nd (pi_tup (pv 0)) (blkOk_by (own := [("part", 1)]) (N := n_encode) (sc := defScope s_encode) (by decide +kernel)) (fun _ _ _ _ _ => (pg_name (i := 1) sc_encode.nd rfl (Or.inl rfl))) (fun _ _ _ _ _ => pts_nil) (fun _ _ _ _ _ => (pe_cal c_encode (hr.mono (by omega)) (by rfl) (pa_cons (pv 1) pa_nil)))))) pe_str)))))), fun vs H Q h => ?_⟩
    · obtain ⟨v, d, rfl, _⟩ := h
      rfl
    · obtain ⟨v, d, rfl, hd, hn, hok, hl, q⟩ := h
      walk_at "rd"
      cases d with
      | none =>
        refine r_isNd hd rfl ?_
        walk_at "rd"
        exact q H (Same.refl H)
      | bool b => cases hok
      | list b => cases hok
      | dict b => cases hok
      | int i =>
        obtain rfl := hd.inv_int
        refine r_isNd hd rfl ?_
        walk_at "rd"
        refine r_isi hd (b := true) (by show kitB "int" "int" = some true; decide +kernel) ?_
        walk_at "rd"
        have hi : i.natAbs < 10 ^ 60 := by
          unfold encOk at hok
          exact of_decide_eq_true hok
        refine r_str1 (log2_small hi) ?_
        walk_at "rd"
        rw [encL_int] at hl
        have hL : (Str.ofString (toString i)).length = (intL i).length := by rw [TL.len_tl, tl_int]
        rw [List.length_cons, List.length_append, List.length_cons, List.length_nil] at hl
        refine ⟨_, _, rfl, rfl, ?_, ?_⟩
        · rw [hL]
          exact Nat.le_trans (show 1 + (intL i).length ≤ 16000000 by omega) (by decide)
        refine ⟨_, _, rfl, rfl, ?_, ?_⟩
        · have e : ((Str.ofString "i") ++ (Str.ofString (toString i))).length = 1 + (intL i).length := by
            rw [TL.len_tl, TL.tl_append, List.length_append, tl_int]
            rfl
          rw [e]
          exact Nat.le_trans (show 1 + (intL i).length + 1 ≤ 16000000 by omega) (by decide)
        have e : (Str.ofString "i" ++ Str.ofString (toString i) ++ Str.ofString ";" : Str) = encS (.int i) := by
          apply str_ext
          rw [TL.tl_append, TL.tl_append, tl_int, tl_encS, encL_int]
          rfl
        show Q (.str _) H
        rw [e]
        exact q H (Same.refl H)
      | str x =>
        obtain rfl := hd.inv_str
        refine r_isNd hd rfl ?_
        walk_at "rd"
        refine r_isi hd (b := false) (by show kitB "str" "int" = some false; decide +kernel) ?_
        walk_at "rd"
        refine r_isi hd (b := true) (by show kitB "str" "str" = some true; decide +kernel) ?_
        walk_at "rd"
        have hx : x.length < 1000 := by
          unfold encOk at hok
          exact of_decide_eq_true hok
        refine r_lnS (Nat.le_trans (Nat.le_of_lt hx) (by decide)) ?_
        walk_at "rd"
        refine r_str1 (log2_small (by show x.length < 10 ^ 60; omega)) ?_
        walk_at "rd"
        rw [encL_str] at hl
        have hL : (Str.ofString (toString (x.length : Int))).length = (TL.numL x.length).length := by rw [TL.len_tl, TL.tl_num]
        have hx2 : (TL.tl x).length = x.length := (TL.len_tl x).symm
        rw [List.length_cons, List.length_append, List.length_cons] at hl
        refine ⟨_, _, rfl, rfl, ?_, ?_⟩
        · rw [hL]
          exact Nat.le_trans (show 1 + (TL.numL x.length).length ≤ 16000000 by omega) (by decide)
        refine ⟨_, _, rfl, rfl, ?_, ?_⟩
        · have e : ((Str.ofString "t") ++ (Str.ofString (toString (x.length : Int)))).length = 1 + (TL.numL x.length).length := by
            rw [TL.len_tl, TL.tl_append, List.length_append, TL.tl_num]
            rfl
          rw [e]
          exact Nat.le_trans (show 1 + (TL.numL x.length).length + 1 ≤ 16000000 by omega) (by decide)
        walk_at "rd"
        refine ⟨_, _, rfl, rfl, ?_, ?_⟩
        · have e : ((Str.ofString "t") ++ (Str.ofString (toString (x.length : Int))) ++ Str.ofString ":").length = 1 + (TL.numL x.length).length + 1 := by
            rw [TL.len_tl, TL.tl_append, List.length_append, TL.tl_append, List.length_append, TL.tl_num]
            rfl
          rw [e]
          exact Nat.le_trans (show 1 + (TL.numL x.length).length + 1 + x.length ≤ 16000000 by omega) (by decide)
        have e : (Str.ofString "t" ++ Str.ofString (toString (x.length : Int)) ++ Str.ofString ":" ++ x : Str) = encS (.str x) := by
          apply str_ext
          rw [TL.tl_append, TL.tl_append, TL.tl_append, TL.tl_num, tl_encS, encL_str]
          show [116] ++ TL.numL x.length ++ [58] ++ TL.tl x = 116 :: (TL.numL x.length ++ (58 :: TL.tl x))
          simp
        rw [e]
        exact q H (Same.refl H)
      | tuple ds =>
        refine r_isNd hd rfl ?_
        walk_at "rd"
        refine r_isi hd (b := false) (by show kitB "tuple" "int" = some false; decide +kernel) ?_
        walk_at "rd"
        refine r_isi hd (b := false) (by show kitB "tuple" "str" = some false; decide +kernel) ?_
        walk_at "rd"
        obtain ⟨a, xs, rfl, ha, hx⟩ := hd.inv
        rw [encL_tup, List.length_cons, List.length_append, List.length_cons, List.length_nil] at hl
        rw [encOk_tup, Bool.and_eq_true] at hok
        obtain ⟨hdl, hok⟩ := hok
        have hdl := of_decide_eq_true hdl
        rw [dep_tup] at hn
        have hlen := encLs_count hok
        have hxl := hx.length
        refine r_m1 ?_
        walk_at "rd"
        refine ⟨⟨_, rfl⟩, r_lct ?_⟩
        walk_at "rd"
        refine r_lcT ha (by omega) (fun _ => true) (fun i y _ => y = .str (encS (ds.getD i .none))) (fun _ _ _ _ _ e => e) (fun i x hi => lc_one rfl fun H3 Qs e3 qs => ?_) fun L ys H1 hL e1 hl1 hp => ?_
        · walk_at "rd"
          obtain ⟨d, hdi, hdx⟩ := hx.get' hi
          have hmem := List.mem_of_getElem? hdi
          have e2 : ds.getD i .none = d := by rw [List.getD_eq_getElem?_getD, hdi]; rfl
          refine ⟨x, d, rfl, hdx.mono (TEx.of e3), ?_, ?_, ?_, fun H4 e4 => qs _ H4 e4 (by rw [e2])⟩
          · exact Nat.lt_of_le_of_lt (deps_le.mp (Nat.le_refl _) d hmem) (by omega)
          · exact (encOks_all ds).mp hok d hmem
          · have := encLs_le hmem
            omega
        · have hys := pd_all hp
          have hys2 : ys = (ds.map encS).map V.str := by
            rw [hys, hxl, List.map_map]
            apply List.ext_getElem
            · simp
            · intro i h1 h2
              simp at h1
              simp [List.getD_eq_getElem?_getD, h1]
          rw [hys2] at hl1
          refine ⟨⟨#[]⟩, L, ds.map encS, rfl, rfl, .inl (SqL.of hl1), ?_, ?_⟩
          · rw [sum_enc, join_len _ rfl]
            omega
          rw [join_enc]
          walk_at "rd"
          refine ⟨_, _, rfl, rfl, ?_, ?_⟩
          · show 1 + (encLs ds).length ≤ _
            exact Nat.le_trans (show 1 + (encLs ds).length ≤ 16000000 by omega) (by decide)
          walk_at "rd"
          refine ⟨_, _, rfl, rfl, ?_, ?_⟩
          · have e : (Str.ofString "(" ++ (⟨(encLs ds).toArray⟩ : Str)).length = 1 + (encLs ds).length := by
              rw [TL.len_tl, TL.tl_append, List.length_append]
              rfl
            rw [e]
            exact Nat.le_trans (show 1 + (encLs ds).length + 1 ≤ 16000000 by omega) (by decide)
          have e : (Str.ofString "(" ++ (⟨(encLs ds).toArray⟩ : Str) ++ Str.ofString ")" : Str) = encS (.tuple ds) := by
            apply str_ext
            rw [TL.tl_append, TL.tl_append, tl_encS, encL_tup]
            show [40] ++ encLs ds ++ [41] = _
            simp
          rw [e]
          exact q H1 e1
end
end Vt
-- VtNum
set_option Elab.async false
set_option linter.all false
set_option maxRecDepth 100000
set_option maxHeartbeats 4000000
namespace Vt
open PySem PySem.Spec PyProof.Rows L2
/-! ### numbers -/
/-- not too big to count with -/
def Bg (z : Int) : Prop := z.natAbs.log2 < 2000000
theorem pe_ten {X : Cx} {e : Expr} {k n : Int} (h : (10 : Int) ^ k.toNat = n) (c : CPow 10 k) (he : PE X e (tOp (rI CPow fun i j => .int (i ^ j.toNat)) (tC (.int 10)) (tC (.int k)))) : PE X e (tC (.int n)) :=
  ⟨fun pins s σ H Q I q => he.run pins s σ H Q I ⟨10, k, rfl, rfl, c, by show Q (.int ((10 : Int) ^ k.toNat)) H; rw [h]; exact q⟩⟩
theorem log2_le {n m k : Nat} (h : n ≤ m) (hk : m < 2 ^ k) (h0 : 0 < k) : n.log2 < k := PySem.Flt.log2_lt_of h0 (Nat.lt_of_le_of_lt h hk)
theorem bg_small {z : Int} (h : z.natAbs < 2 ^ 250) : Bg z := Nat.lt_of_lt_of_le (PySem.Flt.log2_lt_of (by decide) h) (by decide)
theorem mul_bg {z c : Int} (h : Bg z) (hc : c.natAbs < 2 ^ 250) : CMulX z c := by
  have := PySem.Flt.log2_lt_of (k := 250) (by decide) hc
  unfold Bg at h
  unfold CMulX
  omega
theorem div_ok {z c : Int} (h : 0 < c) (hc : c.natAbs < 2 ^ 250) : CDivW z c := ⟨h, by
  have := PySem.Flt.log2_lt_of (k := 250) (by decide) hc
  omega⟩
theorem bits_bg {z : Int} (h : Builtin.Int.intBits z ≤ 1048576) : Bg z := by
  unfold Bg
  unfold Builtin.Int.intBits at h
  split at h
  · rename_i e
    have : z.natAbs = 0 := by simp_all
    rw [this]
    decide
  · omega
theorem i250 {z : Int} (h : z.natAbs < 10 ^ 70) : z.natAbs < 2 ^ 250 := Nat.lt_trans h (by decide)
def Num (z : Int) : Prop := 0 ≤ z ∧ z < 10 ^ 64
theorem Num.bg {z : Int} (h : Num z) : Bg z := bg_small (i250 (by obtain ⟨a, b⟩ := h; omega))
/-! ### text methods -/
def StrQ (x : V) (p : Prop) : Prop := (∃ a, x = .str a) ∧ p
theorem r_strq {a : Str} {p : Prop} (q : p) : StrQ (.str a) p := ⟨⟨a, rfl⟩, q⟩
theorem r_m1q {σ : L2.St} {H : Hp} {Q : VK} {r : V → List V → Hp → VK → Prop} {to te : TE} (q : to σ H fun x H1 => StrQ x (te σ H1 fun y H2 => r x [y] H2 Q)) : tM1 r to te σ H Q := q
theorem join0_len (ys : List Str) : (Txt.join (⟨#[]⟩ : Str) ys).length = (ys.map (·.length)).sum := by
  rw [TL.len_tl, TL.join_eq, TL.tl_join]
  show (TL.joinL [] (ys.map TL.tl)).length = _
  induction ys with
  | nil => rfl
  | cons a r ih =>
    rw [List.map_cons, List.map_cons, List.sum_cons, TL.len_tl a]
    cases r with
    | nil =>
      show (TL.tl a).length = (TL.tl a).length + 0
      rfl
    | cons b r =>
      rw [← ih]
      show (TL.tl a ++ ([] ++ TL.joinL [] ((b :: r).map TL.tl))).length = _
      rw [List.length_append]
      rfl
theorem r_join0 {K : PySem.W.Frag} {H : Hp} {Q : VK} {p : Addr} {ys : List Str} (h : H p = some (.lst (ys.map V.str))) (hs : (ys.map (·.length)).sum ≤ 100000) (q : ∀ s : Str, s.length = (ys.map (·.length)).sum → Q (.str s) H) : rJoin K (.str ⟨#[]⟩) [.ref p] H Q :=
  ⟨⟨#[]⟩, p, ys, rfl, rfl, .inl (SqL.of h), by rw [join_len _ rfl]; omega, q _ (join0_len ys)⟩
theorem r_adds {x y : Str} {H : Hp} {Q : VK} (h : x.length + y.length ≤ 1000000) (q : Q (.str (x ++ y)) H) : (fun a b H Q => ∃ x y, a = V.str x ∧ b = V.str y ∧ x.length + y.length ≤ sizeLine ∧ Q (.str (x ++ y)) H : R2) (.str x) (.str y) H Q := ⟨x, y, rfl, rfl, Nat.le_trans h (by decide), q⟩
/-- single signs -/
theorem ones_of {ys : List V} (h : ∀ y ∈ ys, ∃ c : Nat, y = V.str ⟨#[c]⟩) : ∃ ss : List Str, ys = ss.map V.str ∧ (ss.map (·.length)).sum = ys.length ∧ ss.length = ys.length := by
  induction ys with
  | nil => exact ⟨[], rfl, rfl, rfl⟩
  | cons y r ih =>
    obtain ⟨c, rfl⟩ := h y (List.mem_cons_self ..)
    obtain ⟨ss, e1, e2, e3⟩ := ih fun z hz => h z (List.mem_cons_of_mem _ hz)
    refine ⟨⟨#[c]⟩ :: ss, by rw [e1]; rfl, ?_, by rw [List.length_cons, e3]; rfl⟩
    rw [List.map_cons, List.sum_cons, e2, List.length_cons]
    show 1 + r.length = r.length + 1
    omega
/-! ### ways that join -/
section
variable {σ : L2.St} {H : Hp} {n : L2.St → Hp → Prop} {r : VK} {b c : L2.St → Hp → Prop} {k : TT} {t z : TS}
theorem r_join (I : L2.St → Hp → Prop) (h1 : ∀ Z : L2.St → Hp → Prop, (∀ σ' H', I σ' H' → Z σ' H') → k σ H fun e H1 => if e = true then t ⟨Z, r, b, c⟩ σ H1 else Z σ H1) (h2 : ∀ σ' H', I σ' H' → z ⟨n, r, b, c⟩ σ' H') : tSeq (tIfS k t tNext) z ⟨n, r, b, c⟩ σ H := h1 _ h2
end
theorem nd_len {α : Type} [DecidableEq α] : ∀ {l m : List α}, l.Nodup → (∀ x ∈ l, x ∈ m) → l.length ≤ m.length
  | [], _, _, _ => Nat.zero_le _
  | a :: r, m, nd, h => by
    obtain ⟨n1, n2⟩ := List.nodup_cons.mp nd
    have ha := h a (List.mem_cons_self ..)
    have ih := nd_len (l := r) (m := m.erase a) n2 fun x hx => (List.mem_erase_of_ne (by intro e; exact n1 (by rw [← e]; exact hx))).mpr (h x (List.mem_cons_of_mem _ hx))
    rw [List.length_erase_of_mem ha] at ih
    have := List.length_pos_of_mem ha
    rw [List.length_cons]
    omega
def lettersS : Str := "abcdefghijklmnopqrstuvwxyz"
theorem letter_at {j : Nat} (h : j < 26) : atI lettersS.cps.toList ((j : Nat) : Int) = some (97 + j) := by
  refine atI_nat ?_
  have : ∀ i : Fin 26, lettersS.cps.toList[i.val]? = some (97 + i.val) := by decide +kernel
  exact this ⟨j, h⟩
theorem letters_len : lettersS.length ≤ sizeLine := Nat.le_trans (show lettersS.length ≤ 26 by decide +kernel) (by decide)
def twoL (j : Nat) : Str := (⟨#[97 + j / 26]⟩ : Str) ++ (⟨#[97 + j % 26]⟩ : Str)
theorem tl_twoL (j : Nat) : TL.tl (twoL j) = [97 + j / 26, 97 + j % 26] := by
  unfold twoL
  rw [TL.tl_append]
  rfl
theorem twoL_inj {i j : Nat} (h : twoL i = twoL j) : i = j := by
  have e := congrArg TL.tl h
  rw [tl_twoL, tl_twoL] at e
  injection e with e1 e2
  injection e2 with e2 _
  omega
theorem twoL_len (j : Nat) : (twoL j).length = 2 := by rw [TL.len_tl, tl_twoL]; rfl
/-- a new name must be found among a hundred -/
theorem names_full {nms : List Str} (hl : nms.length < 100) (h : ∀ j, j < 100 → twoL j ∈ nms) : False := by
  have nd : ((List.range 100).map twoL).Nodup := List.Pairwise.map twoL (fun a b n e => n (twoL_inj e)) List.nodup_range
  have := nd_len nd fun x hx => by
    obtain ⟨j, hj, rfl⟩ := List.mem_map.mp hx
    exact h j (List.mem_range.mp hj)
  rw [List.length_map, List.length_range] at this
  omega
end Vt
-- VtG1
set_option Elab.async false
set_option linter.all false
set_option maxRecDepth 100000
set_option maxHeartbeats 4000000
namespace Vt
open PySem PySem.Spec PyProof.Rows L2
local macro_rules | `(tactic| walk_at "rd") => `(tactic| (repeat (first
  | with_reducible refine r_sasg ?_ | with_reducible refine r_sfset ?_ | with_reducible refine r_sfaug ?_ | with_reducible refine r_sdput ?_ | with_reducible refine r_sdrop ?_ | with_reducible refine r_swhen ?_ | with_reducible refine r_sif ?_ | with_reducible refine r_asg ?_ | with_reducible refine r_drop ?_
  | with_reducible refine r_ret ?_ | with_reducible refine r_if ?_ | with_reducible refine r_next ?_
  | with_reducible refine r_c ?_ | with_reducible refine r_var (by with_unfolding_all exact rfl) ?_ | with_reducible refine r_op ?_ | with_reducible refine r_un ?_ | with_reducible refine r_I0 ?_ | ((with_reducible refine r_I ?_ ?_); · first | (show (0 : Int) < _; decide) | exact div_ok (by decide) (by decide)) | with_reducible refine r_U ?_
  | with_reducible refine r_eq (by with_unfolding_all exact rfl) ?_ | with_reducible refine r_ne (by with_unfolding_all exact rfl) ?_
  | with_reducible refine r_tstq ?_ | with_reducible refine r_tBq ?_ | with_reducible refine r_blq ?_ | with_reducible refine r_intq ?_ | with_reducible refine r_and ?_ | with_reducible refine r_or ?_ | with_reducible refine r_not ?_
  | with_reducible refine r_andV ?_ | with_reducible refine r_orV ?_ | with_reducible refine r_notV ?_
  | with_reducible refine r_nil ?_ | with_reducible refine r_cons ?_ | with_reducible refine r_call ?_ | with_reducible refine r_tup ?_ | with_reducible refine r_lst ?_ | with_reducible refine r_cb ?_ | with_reducible refine r_int1 ?_ | with_reducible refine r_ord ?_
  | with_reducible refine r_sl ?_ | with_reducible refine r_nop ?_ | with_reducible refine r_partq ?_ | with_reducible refine r_bm ?_ | with_reducible refine r_fld ?_
  | with_reducible refine r_lct ?_ | with_reducible refine r_lcl ?_ | with_reducible refine r_lcr ?_ | with_reducible refine r_sfort ?_ | with_reducible refine r_sforl ?_ | with_reducible refine r_sfors ?_ | with_reducible refine r_sforr ?_ | with_reducible refine r_sforz ?_
  | with_reducible refine r_fort ?_ | with_reducible refine r_forl ?_ | with_reducible refine r_forr ?_ | with_reducible refine r_sasgt ?_ | with_reducible refine r_asgt ?_ | with_reducible refine r_saug (by with_unfolding_all exact rfl) ?_ | with_reducible refine r_aug (by with_unfolding_all exact rfl) ?_ | with_reducible refine r_ip ?_ | with_reducible refine r_gname ?_ | with_reducible refine r_seq ?_
  | with_reducible refine r_dget ?_ | with_reducible refine r_din ?_ | with_reducible refine r_dnotin ?_ | with_reducible refine r_sdput ?_ | with_reducible refine r_dput ?_ | with_reducible refine r_mg ?_ | with_reducible refine r_rev ?_ | with_reducible refine r_dzip ?_
  | with_reducible refine r_lcz ?_ | with_reducible refine r_form ?_
  | with_reducible refine r_sfset ?_ | with_reducible refine r_fset ?_ | with_reducible refine r_sfaug ?_ | with_reducible refine r_meth ?_ | with_reducible refine r_make ?_
  | with_reducible refine r_srtl ?_ | with_reducible refine r_m1q ?_ | with_reducible refine r_strq ?_
  | with_reducible refine r_iteT ?_ | with_reducible refine r_iteF ?_)))
local macro_rules | `(tactic| walk_at "rs") => `(tactic| (repeat (first
  | with_reducible refine r_sasg ?_ | with_reducible refine r_sfset ?_ | with_reducible refine r_sfaug ?_ | with_reducible refine r_sdput ?_ | with_reducible refine r_sdrop ?_ | with_reducible refine r_asg ?_ | with_reducible refine r_drop ?_
  | with_reducible refine r_ret ?_ | with_reducible refine r_next ?_
  | with_reducible refine r_c ?_ | with_reducible refine r_var (by with_unfolding_all exact rfl) ?_ | with_reducible refine r_op ?_ | with_reducible refine r_un ?_ | with_reducible refine r_I0 ?_ | ((with_reducible refine r_I ?_ ?_); · first | (show (0 : Int) < _; decide) | exact div_ok (by decide) (by decide)) | with_reducible refine r_U ?_
  | with_reducible refine r_eq (by with_unfolding_all exact rfl) ?_ | with_reducible refine r_ne (by with_unfolding_all exact rfl) ?_
  | with_reducible refine r_tstq ?_ | with_reducible refine r_tBq ?_ | with_reducible refine r_blq ?_ | with_reducible refine r_intq ?_ | with_reducible refine r_and ?_ | with_reducible refine r_or ?_ | with_reducible refine r_not ?_
  | with_reducible refine r_andV ?_ | with_reducible refine r_orV ?_ | with_reducible refine r_notV ?_
  | with_reducible refine r_nil ?_ | with_reducible refine r_cons ?_ | with_reducible refine r_call ?_ | with_reducible refine r_tup ?_ | with_reducible refine r_lst ?_ | with_reducible refine r_cb ?_ | with_reducible refine r_int1 ?_ | with_reducible refine r_ord ?_
  | with_reducible refine r_sl ?_ | with_reducible refine r_nop ?_ | with_reducible refine r_partq ?_ | with_reducible refine r_bm ?_ | with_reducible refine r_fld ?_
  | with_reducible refine r_lct ?_ | with_reducible refine r_lcl ?_ | with_reducible refine r_lcr ?_ | with_reducible refine r_sfort ?_ | with_reducible refine r_sforl ?_ | with_reducible refine r_sfors ?_ | with_reducible refine r_sforr ?_ | with_reducible refine r_sforz ?_
  | with_reducible refine r_fort ?_ | with_reducible refine r_forl ?_ | with_reducible refine r_forr ?_ | with_reducible refine r_sasgt ?_ | with_reducible refine r_asgt ?_ | with_reducible refine r_saug (by with_unfolding_all exact rfl) ?_ | with_reducible refine r_aug (by with_unfolding_all exact rfl) ?_ | with_reducible refine r_ip ?_ | with_reducible refine r_gname ?_ | with_reducible refine r_seq ?_
  | with_reducible refine r_dget ?_ | with_reducible refine r_din ?_ | with_reducible refine r_dnotin ?_ | with_reducible refine r_sdput ?_ | with_reducible refine r_dput ?_ | with_reducible refine r_mg ?_ | with_reducible refine r_rev ?_ | with_reducible refine r_dzip ?_
  | with_reducible refine r_lcz ?_ | with_reducible refine r_form ?_
  | with_reducible refine r_sfset ?_ | with_reducible refine r_fset ?_ | with_reducible refine r_sfaug ?_ | with_reducible refine r_meth ?_ | with_reducible refine r_make ?_
  | with_reducible refine r_srtl ?_ | with_reducible refine r_m1q ?_ | with_reducible refine r_strq ?_
  | with_reducible refine r_iteT ?_ | with_reducible refine r_iteF ?_)))
local macro_rules | `(tactic| walk_at "tex") => `(tactic| (first
  | assumption | exact TEx.refl _ | exact TEx.of (by assumption) | ((refine TEx.trans ?_ (TEx.of (by assumption))); walk_at "tex") | ((refine TEx.trans ?_ (by assumption)); walk_at "tex")))
local macro_rules | `(tactic| walk_at "same") => `(tactic| (first
  | assumption | exact Same.refl _ | ((refine Same.trans ?_ (by assumption)); walk_at "same")))
local macro_rules | `(tactic| walk_at "tp") => `(tactic| (first
  | assumption | exact Tp.int _ | exact Tp.str _ | exact Tp.non | exact TpAll.nil | ((refine TpAll.cons ?_ ?_) <;> walk_at "tp") | ((refine Tp.mono ?_ (by assumption)); walk_at "tex") | ((refine TpAll.mono ?_ (by assumption)); walk_at "tex")))
local macro_rules | `(tactic| walk_at "hp") => `(tactic| (first
  | assumption | ((refine (TEx.trans ?_ (TEx.refl _)) _ _ (by assumption)); walk_at "tex")))
theorem bl_lt {a b : Int} : (decide (a < b) = true) = (a < b) := by simp
section
variable {P : Program} {w : World} {K : PySem.W.Frag} {mg : Str → Option Value} {base : Heap}
/-- the script at a -/
def Scr (K : PySem.W.Frag) (H : Hp) (a : Addr) : Prop := ∃ ns : List Int, SqL K H a (ns.map V.int) ∧ ∀ z ∈ ns, Bg z
/-! ### _law_cell -/
abbrev n_law_cell : List Str := ["_law_script", "_law_k"]
theorem sc_law_cell : FnScope n_law_cell ["_law_script", "_law_k"] (defScope s_law_cell) := ⟨rfl, rfl, rfl, by decide +kernel, rfl, by decide +kernel, by decide +kernel⟩
theorem bd_law_cell : BindH "_law_cell" s_law_cell ["_law_script", "_law_k"] := fun _ _ _ _ _ _ us hl => match us, hl with | [_, _], _ => rfl
def spCell (K : PySem.W.Frag) : Sp := fun vs H Q _ => ∃ (a : Addr) (k : Nat), vs = [.ref a, .int k] ∧ Scr K H a ∧ ∀ z, Bg z → Q (.int z) H
theorem cal_law_cell (T : Tx K mg) : Cal P w K mg base 1 "_law_cell" ["_law_script", "_law_k"] (spCell K) := by
  refine cal_of T.at_law_cell sc_law_cell bd_law_cell (fun vs H Q E h => ?_) fun f cdv A outer s H0 E hr => ⟨_, (pss_cons (ps_if (pt_cmpR op_lt (pv 1) (pe_callB (cr_lnK (K := K) rfl) (by rfl) T.m_len PySem.boot_len (pa_cons (pv 0) pa_nil)) (nomark _))
      (pss_one (ps_ret (pe_ix (ix_listK (K := K) rfl) (pv 0) (pv 1) (fun _ _ => rfl))))
      pss_nil)
      (pss_one (ps_ret pe_int))), fun vs H Q h => ?_⟩
  · obtain ⟨a, k, rfl, _⟩ := h
    rfl
  · obtain ⟨a, k, rfl, ⟨ns, hs, hb⟩, q⟩ := h
    walk_at "rd"
    refine r_lnK hs ?_
    walk_at "rd"
    rw [List.length_map]
    by_cases hk : k < ns.length
    · have hn : ns[k]? = some ns[k] := List.getElem?_eq_getElem hk
      refine r_yes (decide_eq_true (by omega)) ?_
      walk_at "rd"
      refine r_ixK hs (v := .int ns[k]) (atI_nat (by rw [List.getElem?_map, hn]; rfl)) ?_
      exact q _ (hb _ (List.getElem_mem hk))
    · refine r_no (decide_eq_false (by omega)) ?_
      walk_at "rd"
      exact q 0 (bg_small (by decide))
/-! ### _law_thing -/
abbrev n_law_thing : List Str := ["_law_script", "_law_k"]
theorem sc_law_thing : FnScope n_law_thing ["_law_script", "_law_k"] (defScope s_law_thing) := ⟨rfl, rfl, rfl, by decide +kernel, rfl, by decide +kernel, by decide +kernel⟩
theorem bd_law_thing : BindH "_law_thing" s_law_thing ["_law_script", "_law_k"] := fun _ _ _ _ _ _ us hl => match us, hl with | [_, _], _ => rfl
def spThing (K : PySem.W.Frag) : Sp := fun vs H Q _ => ∃ (a : Addr) (k : Nat), vs = [.ref a, .int k] ∧ k < 100000 ∧ Scr K H a ∧ ∀ z, Bg z → Q (.int z) H
theorem cal_law_thing (T : Tx K mg) : Cal P w K mg base 1 "_law_thing" ["_law_script", "_law_k"] (spThing K) := by
  refine cal_of T.at_law_thing sc_law_thing bd_law_thing (fun vs H Q E h => ?_) fun f cdv A outer s H0 E hr => ⟨_, (pss_cons (ps_if (pt_cmpR op_lt (pv 1) (pe_callB (cr_lnK (K := K) rfl) (by rfl) T.m_len PySem.boot_len (pa_cons (pv 0) pa_nil)) (nomark _))
      (pss_one (ps_ret (pe_ix (ix_listK (K := K) rfl) (pv 0) (pv 1) (fun _ _ => rfl))))
      pss_nil)
      (pss_cons (ps_if (pt_cmpR op_eq (pe_callB (cr_lnK (K := K) rfl) (by rfl) T.m_len PySem.boot_len (pa_cons (pv 0) pa_nil)) pe_int (nomark _))
      (pss_one (ps_ret (pv 1)))
      pss_nil)
      (pss_one (ps_ret (pe_op op_mod (pe_callTy cr_int1 (by rfl) T.m_int (by decide +kernel) (pa_cons (pe_op op_add (pe_op op_mulX (pe_ix (ix_listK (K := K) rfl) (pv 0) (pe_op op_mod (pe_callTy cr_int1 (by rfl) T.m_int (by decide +kernel) (pa_cons (pv 1) pa_nil)) (pe_callB (cr_lnK (K := K) rfl) (by rfl) T.m_len PySem.boot_len (pa_cons (pv 0) pa_nil))) (fun _ _ => rfl)) pe_int) (pe_op op_mulX (pv 1) pe_int)) pa_nil)) pe_int))))), fun vs H Q h => ?_⟩
  · obtain ⟨a, k, rfl, _⟩ := h
    rfl
  · obtain ⟨a, k, rfl, hk2, ⟨ns, hs, hb⟩, q⟩ := h
    walk_at "rd"
    refine r_lnK hs ?_
    walk_at "rd"
    rw [List.length_map]
    by_cases hk : k < ns.length
    · have hn : ns[k]? = some ns[k] := List.getElem?_eq_getElem hk
      refine r_yes (decide_eq_true (by omega)) ?_
      walk_at "rd"
      refine r_ixK hs (v := .int ns[k]) (atI_nat (by rw [List.getElem?_map, hn]; rfl)) ?_
      exact q _ (hb _ (List.getElem_mem hk))
    · refine r_no (decide_eq_false (by omega)) ?_
      walk_at "rd"
      refine r_lnK hs ?_
      walk_at "rd"
      rw [List.length_map]
      by_cases h0 : ns.length = 0
      · refine r_yes (decide_eq_true (by rw [h0]; rfl)) ?_
        walk_at "rd"
        exact q k (bg_small (i250 (by omega)))
      · refine r_no (decide_eq_false fun z => h0 (by have := V.int.inj z; omega)) ?_
        walk_at "rd"
        refine r_lnK hs ?_
        walk_at "rd"
        rw [List.length_map]
        refine r_I (show (0 : Int) < _ by omega) ?_
        have hlt : (k : Int) % (ns.length : Int) = ((k % ns.length : Nat) : Int) := by simp
        have hkn : k % ns.length < ns.length := Nat.mod_lt _ (by omega)
        have hn : ns[k % ns.length]? = some ns[k % ns.length] := List.getElem?_eq_getElem hkn
        rw [hlt]
        refine r_ixK hs (v := .int ns[k % ns.length]) (atI_nat (by rw [List.getElem?_map, hn]; rfl)) ?_
        walk_at "rd"
        refine r_I (mul_bg (hb _ (List.getElem_mem hkn)) (by decide)) ?_
        walk_at "rd"
        refine r_I (mul_bg (z := (k : Int)) (bg_small (i250 (by omega))) (by decide)) ?_
        walk_at "rd"
        refine q _ (bg_small (i250 ?_))
        have h1 := Int.emod_nonneg (ns[k % ns.length] * 48271 + (k : Int) * 69621) (show (2147483647 : Int) ≠ 0 by decide)
        have h2 := Int.emod_lt_of_pos (ns[k % ns.length] * 48271 + (k : Int) * 69621) (show (0 : Int) < 2147483647 by decide)
        omega
/-! ### _law_draws -/
abbrev n_law_draws : List Str := ["_law_cell_here", "_law_salt", "_law_count", "_law_base", "_law_rest", "_law_numbers", "_law_k", "_law_mixed"]
theorem sc_law_draws : FnScope n_law_draws ["_law_cell_here", "_law_salt", "_law_count", "_law_base"] (defScope s_law_draws) := ⟨rfl, rfl, rfl, by decide +kernel, rfl, by decide +kernel, by decide +kernel⟩
theorem bd_law_draws : BindH "_law_draws" s_law_draws ["_law_cell_here", "_law_salt", "_law_count", "_law_base"] := fun _ _ _ _ _ _ us hl => match us, hl with | [_, _, _, _], _ => rfl
def spDraws : Sp := fun vs H Q _ => ∃ (c : Int) (salt count : Nat) (bs : Int), vs = [.int c, .int salt, .int count, .int bs] ∧ Bg c ∧ salt ≤ 1000 ∧ count ≤ 100 ∧ 0 < bs ∧ bs ≤ 10 ^ 64 ∧
  ∀ (l : Addr) (H' : Hp) (ns : List Int), Same H H' → ns.length = count → (∀ z ∈ ns, Num z) → H' l = some (.lst (ns.map V.int)) → H l = none → Q (.ref l) H'
theorem cal_law_draws (T : Tx K mg) : Cal P w K mg base 1 "_law_draws" ["_law_cell_here", "_law_salt", "_law_count", "_law_base"] spDraws := by
  refine cal_of T.at_law_draws sc_law_draws bd_law_draws (fun vs H Q E h => ?_) fun f cdv A outer s H0 E hr => ⟨_, (pss_cons (ps_set (i := 4) sc_law_draws.nd rfl (Or.inl rfl) pe_int)
      (pss_cons (ps_if (pt_cmpR op_ge (pv 0) (pe_ten (n := 1000000000000000000) (by decide) ⟨by decide, by decide, by decide⟩ (pe_op op_pow pe_int pe_int)) (nomark _))
      (pss_one (ps_set (i := 4) sc_law_draws.nd rfl (Or.inl rfl) (pv 0)))
      pss_nil)
      (pss_cons (ps_set (i := 5) sc_law_draws.nd rfl (Or.inl rfl) (pe_lst pa_nil))
      (pss_cons (ps_for PassesOwn.never rfl (pi_range1 (by rfl) T.m_range (pa_cons (pv 2) pa_nil)) (pg_name (i := 6) sc_law_draws.nd rfl (Or.inl rfl))
      (pss_one (ps_if (pt_cmpR op_gt (pv 4) pe_int (nomark _))
        (pss_cons (ps_expr (pe_bm PySem.F.plainAttrs_list PySem.F.slot_list_append PySem.F.type_list_append mt_append (pv 5) (pa_cons (pe_op op_mod (pe_callTy cr_int1 (by rfl) T.m_int (by decide +kernel) (pa_cons (pv 4) pa_nil)) (pv 3)) pa_nil)))
          (pss_one (ps_set (i := 4) sc_law_draws.nd rfl (Or.inl rfl) (pe_op op_fdivW (pv 4) (pv 3)))))
        (pss_cons (ps_set (i := 7) sc_law_draws.nd rfl (Or.inl rfl) (pe_op op_mod (pe_callTy cr_int1 (by rfl) T.m_int (by decide +kernel) (pa_cons (pe_op op_add (pe_op op_mulX (pv 0) pe_int) (pe_op op_mulX (pe_op op_add (pe_op op_mulX (pv 1) pe_int) (pv 6)) pe_int)) pa_nil)) pe_int))
          (pss_cons (ps_set (i := 7) sc_law_draws.nd rfl (Or.inl rfl) (pe_op op_mod (pe_callTy cr_int1 (by rfl) T.m_int (by decide +kernel) (pa_cons (pe_op op_add (pe_op op_mulX (pe_op op_fdivW (pv 7) pe_int) (pe_op op_add (pe_op op_mod (pe_callTy cr_int1 (by rfl) T.m_int (by decide +kernel) (pa_cons (pv 7) pa_nil)) pe_int) pe_int)) (pv 6)) pa_nil)) pe_int))
          (pss_one (ps_expr (pe_bm PySem.F.plainAttrs_list PySem.F.slot_list_append PySem.F.type_list_append mt_append (pv 5) (pa_cons (pe_op op_fdivW (pv 7) pe_int) pa_nil)))))))))
      (pss_one (ps_ret (pv 5))))))), fun vs H Q h => ?_⟩
  · obtain ⟨c, salt, count, bs, rfl, _⟩ := h
    rfl
  · obtain ⟨c, salt, count, bs, rfl, hc, hs, hcn, hb0, hb1, q⟩ := h
    walk_at "rd"
    refine r_ite (fun _ => ?_) (fun _ => ?_)
    all_goals
      walk_at "rd"
      refine r_newL (Nat.zero_le _) fun L H1 hL e1 hL1 => ?_
      walk_at "rd"
      refine r_forR (by omega) (fun i σ' H' => ∃ (ns : List Int) (rest : Int) (z1 z2 : Option V), Same H H' ∧ ns.length = i ∧ (∀ z ∈ ns, Num z) ∧ H' L = some (.lst (ns.map V.int)) ∧ σ' = [some (.int c), some (.int salt), some (.int count), some (.int bs), some (.int rest), some (.ref L), z1, z2]) ⟨[], _, none, none, e1, rfl, fun z h => (by cases h), hL1, rfl⟩ ?_ ?_
      · rintro i σ' H' hi ⟨ns, rest, z1, z2, e, hn, hnum, hl, rfl⟩
        have hln : (ns.map V.int).length = i := by rw [List.length_map]; exact hn
        have put : ∀ (x : Int) (H2 : Hp), Num x → H2 = upd H' L (.lst (ns.map V.int ++ [V.int x])) → ∃ ns' : List Int, Same H H2 ∧ ns'.length = i + 1 ∧ (∀ z ∈ ns', Num z) ∧ H2 L = some (.lst (ns'.map V.int)) := fun x H2 hx e2 => by
          subst e2
          refine ⟨ns ++ [x], same_mut e hL, by rw [List.length_append, hn]; rfl, fun z hz => ?_, by rw [upd_same, List.map_append]; rfl⟩
          rcases List.mem_append.mp hz with hz | hz
          · exact hnum z hz
          · rw [List.mem_singleton.mp hz]; exact hx
        walk_at "rd"
        refine r_ite (fun _ => ?_) (fun _ => ?_)
        · walk_at "rd"
          refine r_tyL hl ?_
          walk_at "rd"
          refine r_I (show (0 : Int) < bs from hb0) ?_
          walk_at "rd"
          refine r_app hl (by omega) fun H2 e2 => ?_
          have h1 := Int.emod_nonneg rest (show bs ≠ 0 by omega)
          have h2 := Int.emod_lt_of_pos rest hb0
          obtain ⟨ns', a1, a2, a3, a4⟩ := put (rest % bs) H2 ⟨h1, by omega⟩ e2
          walk_at "rd"
          refine r_I (div_ok hb0 (i250 (by omega))) ?_
          walk_at "rd"
          exact ⟨ns', _, _, z2, a1, a2, a3, a4, rfl⟩
        · walk_at "rd"
          refine r_I (mul_bg hc (by decide)) ?_
          walk_at "rd"
          refine r_I (mul_bg (z := (salt : Int)) (bg_small (i250 (by omega))) (by decide)) ?_
          walk_at "rd"
          refine r_I (mul_bg (z := (salt : Int) * 97 + (i : Int)) (bg_small (i250 (by omega))) (by decide)) ?_
          walk_at "rd"
          generalize hm : (c * 48271 + ((salt : Int) * 97 + (i : Int)) * 69621) % 2147483647 = m
          have m1 : 0 ≤ m := by rw [← hm]; exact Int.emod_nonneg _ (by decide)
          have m2 : m < 2147483647 := by rw [← hm]; exact Int.emod_lt_of_pos _ (by decide)
          refine r_I (mul_bg (z := m / 8) (bg_small (i250 (by omega))) (show (m % 50021 + 16807).natAbs < 2 ^ 250 from i250 (by omega))) ?_
          walk_at "rd"
          generalize hm2 : (m / 8 * (m % 50021 + 16807) + (i : Int)) % 998244353 = m'
          have m3 : 0 ≤ m' := by rw [← hm2]; exact Int.emod_nonneg _ (by decide)
          have m4 : m' < 998244353 := by rw [← hm2]; exact Int.emod_lt_of_pos _ (by decide)
          refine r_tyL hl ?_
          walk_at "rd"
          refine r_app hl (by omega) fun H2 e2 => ?_
          obtain ⟨ns', a1, a2, a3, a4⟩ := put (m' / 11) H2 ⟨by omega, by omega⟩ e2
          walk_at "rd"
          exact ⟨ns', _, _, _, a1, a2, a3, a4, rfl⟩
      · rintro σ' H' ⟨ns, rest, z1, z2, e, hn, hnum, hl, rfl⟩
        walk_at "rd"
        exact q L H' ns e hn hnum hl hL
end
end Vt
-- VtG2
set_option Elab.async false
set_option linter.all false
set_option maxRecDepth 100000
set_option maxHeartbeats 4000000
namespace Vt
open PySem PySem.Spec PyProof.Rows L2
local macro_rules | `(tactic| walk_at "rd") => `(tactic| (repeat (first
  | with_reducible refine r_sasg ?_ | with_reducible refine r_sfset ?_ | with_reducible refine r_sfaug ?_ | with_reducible refine r_sdput ?_ | with_reducible refine r_sdrop ?_ | with_reducible refine r_swhen ?_ | with_reducible refine r_sif ?_ | with_reducible refine r_asg ?_ | with_reducible refine r_drop ?_
  | with_reducible refine r_ret ?_ | with_reducible refine r_if ?_ | with_reducible refine r_next ?_
  | with_reducible refine r_c ?_ | with_reducible refine r_var (by with_unfolding_all exact rfl) ?_ | with_reducible refine r_op ?_ | with_reducible refine r_un ?_ | with_reducible refine r_I0 ?_ | ((with_reducible refine r_I ?_ ?_); · first | (show (0 : Int) < _; decide) | exact div_ok (by decide) (by decide)) | with_reducible refine r_U ?_
  | with_reducible refine r_eq (by with_unfolding_all exact rfl) ?_ | with_reducible refine r_ne (by with_unfolding_all exact rfl) ?_
  | with_reducible refine r_tstq ?_ | with_reducible refine r_tBq ?_ | with_reducible refine r_blq ?_ | with_reducible refine r_intq ?_ | with_reducible refine r_and ?_ | with_reducible refine r_or ?_ | with_reducible refine r_not ?_
  | with_reducible refine r_andV ?_ | with_reducible refine r_orV ?_ | with_reducible refine r_notV ?_
  | with_reducible refine r_nil ?_ | with_reducible refine r_cons ?_ | with_reducible refine r_call ?_ | with_reducible refine r_tup ?_ | with_reducible refine r_lst ?_ | with_reducible refine r_cb ?_ | with_reducible refine r_int1 ?_ | with_reducible refine r_ord ?_
  | with_reducible refine r_sl ?_ | with_reducible refine r_nop ?_ | with_reducible refine r_partq ?_ | with_reducible refine r_bm ?_ | with_reducible refine r_fld ?_
  | with_reducible refine r_lct ?_ | with_reducible refine r_lcl ?_ | with_reducible refine r_lcr ?_ | with_reducible refine r_sfort ?_ | with_reducible refine r_sforl ?_ | with_reducible refine r_sfors ?_ | with_reducible refine r_sforr ?_ | with_reducible refine r_sforz ?_
  | with_reducible refine r_fort ?_ | with_reducible refine r_forl ?_ | with_reducible refine r_forr ?_ | with_reducible refine r_sasgt ?_ | with_reducible refine r_asgt ?_ | with_reducible refine r_saug (by with_unfolding_all exact rfl) ?_ | with_reducible refine r_aug (by with_unfolding_all exact rfl) ?_ | with_reducible refine r_ip ?_ | with_reducible refine r_gname ?_ | with_reducible refine r_seq ?_
  | with_reducible refine r_dget ?_ | with_reducible refine r_din ?_ | with_reducible refine r_dnotin ?_ | with_reducible refine r_sdput ?_ | with_reducible refine r_dput ?_ | with_reducible refine r_mg ?_ | with_reducible refine r_rev ?_ | with_reducible refine r_dzip ?_
  | with_reducible refine r_lcz ?_ | with_reducible refine r_form ?_
  | with_reducible refine r_sfset ?_ | with_reducible refine r_fset ?_ | with_reducible refine r_sfaug ?_ | with_reducible refine r_meth ?_ | with_reducible refine r_make ?_
  | with_reducible refine r_srtl ?_ | with_reducible refine r_m1q ?_ | with_reducible refine r_strq ?_
  | with_reducible refine r_iteT ?_ | with_reducible refine r_iteF ?_)))
local macro_rules | `(tactic| walk_at "rs") => `(tactic| (repeat (first
  | with_reducible refine r_sasg ?_ | with_reducible refine r_sfset ?_ | with_reducible refine r_sfaug ?_ | with_reducible refine r_sdput ?_ | with_reducible refine r_sdrop ?_ | with_reducible refine r_asg ?_ | with_reducible refine r_drop ?_
  | with_reducible refine r_ret ?_ | with_reducible refine r_next ?_
  | with_reducible refine r_c ?_ | with_reducible refine r_var (by with_unfolding_all exact rfl) ?_ | with_reducible refine r_op ?_ | with_reducible refine r_un ?_ | with_reducible refine r_I0 ?_ | ((with_reducible refine r_I ?_ ?_); · first | (show (0 : Int) < _; decide) | exact div_ok (by decide) (by decide)) | with_reducible refine r_U ?_
  | with_reducible refine r_eq (by with_unfolding_all exact rfl) ?_ | with_reducible refine r_ne (by with_unfolding_all exact rfl) ?_
  | with_reducible refine r_tstq ?_ | with_reducible refine r_tBq ?_ | with_reducible refine r_blq ?_ | with_reducible refine r_intq ?_ | with_reducible refine r_and ?_ | with_reducible refine r_or ?_ | with_reducible refine r_not ?_
  | with_reducible refine r_andV ?_ | with_reducible refine r_orV ?_ | with_reducible refine r_notV ?_
  | with_reducible refine r_nil ?_ | with_reducible refine r_cons ?_ | with_reducible refine r_call ?_ | with_reducible refine r_tup ?_ | with_reducible refine r_lst ?_ | with_reducible refine r_cb ?_ | with_reducible refine r_int1 ?_ | with_reducible refine r_ord ?_
  | with_reducible refine r_sl ?_ | with_reducible refine r_nop ?_ | with_reducible refine r_partq ?_ | with_reducible refine r_bm ?_ | with_reducible refine r_fld ?_
  | with_reducible refine r_lct ?_ | with_reducible refine r_lcl ?_ | with_reducible refine r_lcr ?_ | with_reducible refine r_sfort ?_ | with_reducible refine r_sforl ?_ | with_reducible refine r_sfors ?_ | with_reducible refine r_sforr ?_ | with_reducible refine r_sforz ?_
  | with_reducible refine r_fort ?_ | with_reducible refine r_forl ?_ | with_reducible refine r_forr ?_ | with_reducible refine r_sasgt ?_ | with_reducible refine r_asgt ?_ | with_reducible refine r_saug (by with_unfolding_all exact rfl) ?_ | with_reducible refine r_aug (by with_unfolding_all exact rfl) ?_ | with_reducible refine r_ip ?_ | with_reducible refine r_gname ?_ | with_reducible refine r_seq ?_
  | with_reducible refine r_dget ?_ | with_reducible refine r_din ?_ | with_reducible refine r_dnotin ?_ | with_reducible refine r_sdput ?_ | with_reducible refine r_dput ?_ | with_reducible refine r_mg ?_ | with_reducible refine r_rev ?_ | with_reducible refine r_dzip ?_
  | with_reducible refine r_lcz ?_ | with_reducible refine r_form ?_
  | with_reducible refine r_sfset ?_ | with_reducible refine r_fset ?_ | with_reducible refine r_sfaug ?_ | with_reducible refine r_meth ?_ | with_reducible refine r_make ?_
  | with_reducible refine r_srtl ?_ | with_reducible refine r_m1q ?_ | with_reducible refine r_strq ?_
  | with_reducible refine r_iteT ?_ | with_reducible refine r_iteF ?_)))
local macro_rules | `(tactic| walk_at "tex") => `(tactic| (first
  | assumption | exact TEx.refl _ | exact TEx.of (by assumption) | ((refine TEx.trans ?_ (TEx.of (by assumption))); walk_at "tex") | ((refine TEx.trans ?_ (by assumption)); walk_at "tex")))
local macro_rules | `(tactic| walk_at "same") => `(tactic| (first
  | assumption | exact Same.refl _ | ((refine Same.trans ?_ (by assumption)); walk_at "same")))
local macro_rules | `(tactic| walk_at "tp") => `(tactic| (first
  | assumption | exact Tp.int _ | exact Tp.str _ | exact Tp.non | exact TpAll.nil | ((refine TpAll.cons ?_ ?_) <;> walk_at "tp") | ((refine Tp.mono ?_ (by assumption)); walk_at "tex") | ((refine TpAll.mono ?_ (by assumption)); walk_at "tex")))
local macro_rules | `(tactic| walk_at "hp") => `(tactic| (first
  | assumption | ((refine (TEx.trans ?_ (TEx.refl _)) _ _ (by assumption)); walk_at "tex")))
section
variable {P : Program} {w : World} {K : PySem.W.Frag} {mg : Str → Option Value} {base : Heap}
/-! ### _law_char -/
abbrev n_law_char : List Str := ["_law_number", "_law_chars"]
theorem sc_law_char : FnScope n_law_char ["_law_number"] (defScope s_law_char) := ⟨rfl, rfl, rfl, by decide +kernel, rfl, by decide +kernel, by decide +kernel⟩
theorem bd_law_char : BindH "_law_char" s_law_char ["_law_number"] := fun _ _ _ _ _ _ us hl => match us, hl with | [_], _ => rfl
def spChar : Sp := fun vs H Q _ => ∃ n : Int, vs = [.int n] ∧ 0 ≤ n ∧ ∀ c : Nat, Q (.str ⟨#[c]⟩) H
theorem cal_law_char (T : Tx K mg) : Cal P w K mg base 1 "_law_char" ["_law_number"] spChar := by
  refine cal_of T.at_law_char sc_law_char bd_law_char (fun vs H Q E h => ?_) fun f cdv A outer s H0 E hr => ⟨_, (pss_cons (ps_set (i := 1) sc_law_char.nd rfl (Or.inl rfl) pe_str)
      (pss_cons (ps_set (i := 1) sc_law_char.nd rfl (Or.inl rfl) (pe_op op_add_str (pv 1) pe_str))
      (pss_one (ps_ret (pe_ix ix_str (pv 1) (pe_op op_mod (pe_callTy cr_int1 (by rfl) T.m_int (by decide +kernel) (pa_cons (pv 0) pa_nil)) pe_int) (fun _ _ => rfl)))))), fun vs H Q h => ?_⟩
  · obtain ⟨n, rfl, _⟩ := h
    rfl
  · obtain ⟨n, rfl, h0, q⟩ := h
    walk_at "rd"
    refine ⟨_, _, rfl, rfl, by decide +kernel, ?_⟩
    walk_at "rd"
    have h1 := Int.emod_nonneg n (show (94 : Int) ≠ 0 by decide)
    have h2 := Int.emod_lt_of_pos n (show (0 : Int) < 94 by decide)
    generalize hz : (Str.ofString " !\"#$&'()*+,-./0123456789:;<=>?@ABCDEFGHIJKLMNOPQRSTUVWXYZ[\\]^_`" ++ Str.ofString "abcdefghijklmnopqrstuvwxyz{|}~" : Str) = z
    have hl : z.cps.toList.length = 94 := by rw [← hz]; decide +kernel
    have hll : z.length = 94 := by rw [TL.len_tl]; exact hl
    have e : (n % 94) = (((n % 94).toNat : Nat) : Int) := by omega
    rw [e]
    have hi : (n % 94).toNat < z.cps.toList.length := by rw [hl]; omega
    exact r_ixS (by rw [hll]; decide) (atI_nat (List.getElem?_eq_getElem hi)) (q _)
/-! ### _law_text -/
abbrev n_law_text : List Str := ["_law_cell_here", "_law_choice", "_law_rest", "_law_length", "_law_number"]
theorem sc_law_text : FnScope n_law_text ["_law_cell_here"] (defScope s_law_text) := ⟨rfl, rfl, rfl, by decide +kernel, rfl, by decide +kernel, by decide +kernel⟩
theorem bd_law_text : BindH "_law_text" s_law_text ["_law_cell_here"] := fun _ _ _ _ _ _ us hl => match us, hl with | [_], _ => rfl
def spText : Sp := fun vs H Q _ => ∃ n : Int, vs = [.int n] ∧ Num n ∧ ∀ (s : Str) (H' : Hp), Same H H' → s.length ≤ 60 → Q (.str s) H'
theorem pick8 {x : Int} {r : Int} (h : 0 ≤ x ∧ x < 8) (hr : 0 ≤ r ∧ r < 61) : ∃ z : Nat, atI [V.int 0, V.int 1, V.int 2, V.int 3, V.int 4, V.int 6, V.int r, V.int 60] x = some (V.int z) ∧ z ≤ 60 := by
  have : x = 0 ∨ x = 1 ∨ x = 2 ∨ x = 3 ∨ x = 4 ∨ x = 5 ∨ x = 6 ∨ x = 7 := by omega
  rcases this with e | e | e | e | e | e | e | e <;> subst e
  · exact ⟨0, rfl, by decide⟩
  · exact ⟨1, rfl, by decide⟩
  · exact ⟨2, rfl, by decide⟩
  · exact ⟨3, rfl, by decide⟩
  · exact ⟨4, rfl, by decide⟩
  · exact ⟨6, rfl, by decide⟩
  · refine ⟨r.toNat, ?_, by omega⟩
    rw [show ((r.toNat : Nat) : Int) = r by omega]
    rfl
  · exact ⟨60, rfl, by decide⟩
theorem cal_law_text (T : Tx K mg) : Cal P w K mg base 2 "_law_text" ["_law_cell_here"] spText := by
  have c_law_char := cal_law_char (P := P) (w := w) (base := base) T
  have c_law_draws := cal_law_draws (P := P) (w := w) (base := base) T
  refine cal_of T.at_law_text sc_law_text bd_law_text (fun vs H Q E h => ?_) fun f cdv A outer s H0 E hr => ⟨_, (pss_cons (ps_set (i := 1) sc_law_text.nd rfl (Or.inl rfl) (pe_op op_mod (pe_callTy cr_int1 (by rfl) T.m_int (by decide +kernel) (pa_cons (pv 0) pa_nil)) pe_int))
      (pss_cons (ps_set (i := 2) sc_law_text.nd rfl (Or.inl rfl) (pe_op op_fdivW (pv 0) pe_int))
      (pss_cons (ps_set (i := 3) sc_law_text.nd rfl (Or.inl rfl) (pe_ix (ix_listK (K := K) rfl) (pe_lst (pa_cons pe_int (pa_cons pe_int (pa_cons pe_int (pa_cons pe_int (pa_cons pe_int (pa_cons pe_int (pa_cons (pe_op op_mod (pe_callTy cr_int1 (by rfl) T.m_int (by decide +kernel) (pa_cons (pv 2) pa_nil)) pe_int) (pa_cons pe_int pa_nil))))))))) (pv 1) (fun _ _ => rfl)))
      (pss_one (ps_ret (pe_join pe_str (pe_lc (own := [("_law_number", 4)]) rfl sc_law_text.nd (pi_list (pe_cal c_law_draws (hr.mono (by omega)) (by rfl) (pa_cons (pv 2) (pa_cons (pv 1) (pa_cons (pv 3) (pa_cons pe_int pa_nil)))))) (blkOk_by (own := [("_law_number", 4)]) (N := n_law_text) (sc := defScope s_law_text) (by decide +kernel)) (fun _ _ _ _ _ => (pg_name (i := 4) sc_law_text.nd rfl (Or.inl rfl))) (fun _ _ _ _ _ => pts_nil) (fun _ _ _ _ _ => (pe_cal c_law_char (hr.mono (by omega)) (by rfl) (pa_cons (pv 4) pa_nil)))))))))), fun vs H Q h => ?_⟩
  · obtain ⟨n, rfl, _⟩ := h
    rfl
  · obtain ⟨n, rfl, hn, q⟩ := h
    obtain ⟨n0, n1⟩ := hn
    walk_at "rd"
    refine r_newL (Nat.le_of_ble_eq_true rfl) fun p1 H1 hp1 e1 hl1 => ?_
    obtain ⟨z, hz, hz2⟩ := pick8 (x := n % 8) (r := n / 8 % 61) ⟨Int.emod_nonneg _ (by decide), Int.emod_lt_of_pos _ (by decide)⟩ ⟨Int.emod_nonneg _ (by decide), Int.emod_lt_of_pos _ (by decide)⟩
    walk_at "rd"
    refine r_ixL hl1 hz ?_
    walk_at "rd"
    have h8 : (n % 8) = (((n % 8).toNat : Nat) : Int) := by omega
    refine ⟨n / 8, (n % 8).toNat, z, 94, by rw [← h8], bg_small (i250 (by omega)), by omega, by omega, by decide, by decide, fun l H2 ns e2 hns hnum hl2 _ => ?_⟩
    walk_at "rd"
    have hnl : (ns.map V.int).length = z := by rw [List.length_map]; exact hns
    refine r_lcL hl2 (by omega) (fun _ => true) (fun i y _ => ∃ c : Nat, y = V.str ⟨#[c]⟩) (fun _ _ _ _ _ h => h) (fun i x hx => lc_one rfl fun H3 Qs e3 qs => ?_) fun L ys H3 hL e3 hl3 hp => ?_
    · rw [List.getElem?_map] at hx
      cases hni : ns[i]? with
      | none => rw [hni] at hx; cases hx
      | some m =>
        rw [hni] at hx
        cases hx
        walk_at "rd"
        exact ⟨m, rfl, (hnum m (List.mem_iff_getElem?.mpr ⟨i, hni⟩)).1, fun c => qs _ H3 (Same.refl _) ⟨c, rfl⟩⟩
    · have hyl := pd_len hp
      rw [filter_all, List.length_range, hnl] at hyl
      obtain ⟨ss, e4, e5, e6⟩ := ones_of (ys := ys) fun y hy => by
        obtain ⟨i, hi⟩ := List.mem_iff_getElem?.mp hy
        obtain ⟨a, _, h⟩ := pd_get hp hi
        exact h
      rw [e4] at hl3
      walk_at "rd"
      exact r_join0 hl3 (by omega) fun st hst => q st H3 (e1.trans (e2.trans e3)) (by omega)
/-! ### _law_integer -/
abbrev n_law_integer : List Str := ["_law_cell_here", "_law_choice", "_law_rest"]
theorem sc_law_integer : FnScope n_law_integer ["_law_cell_here"] (defScope s_law_integer) := ⟨rfl, rfl, rfl, by decide +kernel, rfl, by decide +kernel, by decide +kernel⟩
theorem bd_law_integer : BindH "_law_integer" s_law_integer ["_law_cell_here"] := fun _ _ _ _ _ _ us hl => match us, hl with | [_], _ => rfl
def spInteger : Sp := fun vs H Q _ => ∃ n : Int, vs = [.int n] ∧ Num n ∧ ∀ z : Int, z.natAbs < 10 ^ 60 → Q (.int z) H
theorem cal_law_integer (T : Tx K mg) : Cal P w K mg base 1 "_law_integer" ["_law_cell_here"] spInteger := by
  refine cal_of T.at_law_integer sc_law_integer bd_law_integer (fun vs H Q E h => ?_) fun f cdv A outer s H0 E hr => ⟨_, (pss_cons (ps_set (i := 1) sc_law_integer.nd rfl (Or.inl rfl) (pe_op op_mod (pe_callTy cr_int1 (by rfl) T.m_int (by decide +kernel) (pa_cons (pv 0) pa_nil)) pe_int))
      (pss_cons (ps_set (i := 2) sc_law_integer.nd rfl (Or.inl rfl) (pe_op op_fdivW (pv 0) pe_int))
      (pss_cons (ps_if (pt_cmpR op_eq (pv 1) pe_int (nomark _))
      (pss_one (ps_ret pe_int))
      pss_nil)
      (pss_cons (ps_if (pt_cmpR op_eq (pv 1) pe_int (nomark _))
      (pss_one (ps_ret (pe_op op_add pe_int (pe_op op_mod (pe_callTy cr_int1 (by rfl) T.m_int (by decide +kernel) (pa_cons (pv 2) pa_nil)) pe_int))))
      pss_nil)
      (pss_cons (ps_if (pt_cmpR op_eq (pv 1) pe_int (nomark _))
      (pss_one (ps_ret (pe_op op_sub (pe_un un_neg pe_int) (pe_op op_mod (pe_callTy cr_int1 (by rfl) T.m_int (by decide +kernel) (pa_cons (pv 2) pa_nil)) pe_int))))
      pss_nil)
      (pss_cons (ps_if (pt_cmpR op_eq (pv 1) pe_int (nomark _))
      (pss_one (ps_ret (pe_op op_sub (pe_op op_sub (pe_ten (n := 1000000000000000000000000000000000000000000000000000000000000) (by decide) ⟨by decide, by decide, by decide⟩ (pe_op op_pow pe_int pe_int)) pe_int) (pe_op op_mod (pe_callTy cr_int1 (by rfl) T.m_int (by decide +kernel) (pa_cons (pv 2) pa_nil)) pe_int))))
      pss_nil)
      (pss_cons (ps_if (pt_cmpR op_eq (pv 1) pe_int (nomark _))
      (pss_one (ps_ret (pe_op op_add (pe_op op_sub pe_int (pe_ten (n := 1000000000000000000000000000000000000000000000000000000000000) (by decide) ⟨by decide, by decide, by decide⟩ (pe_op op_pow pe_int pe_int))) (pe_op op_mod (pe_callTy cr_int1 (by rfl) T.m_int (by decide +kernel) (pa_cons (pv 2) pa_nil)) pe_int))))
      pss_nil)
      (pss_cons (ps_if (pt_cmpR op_eq (pv 1) pe_int (nomark _))
      (pss_one (ps_ret (pe_op op_mod (pe_callTy cr_int1 (by rfl) T.m_int (by decide +kernel) (pa_cons (pe_op op_add (pe_op op_mulX (pv 2) (pe_ten (n := 10000000000000000000000000000000000000000000000000000) (by decide) ⟨by decide, by decide, by decide⟩ (pe_op op_pow pe_int pe_int))) (pv 2)) pa_nil)) (pe_ten (n := 1000000000000000000000000000000000000000000000000000000000000) (by decide) ⟨by decide, by decide, by decide⟩ (pe_op op_pow pe_int pe_int)))))
      pss_nil)
      (pss_cons (ps_if (pt_cmpR op_eq (pv 1) pe_int (nomark _))
      (pss_one (ps_ret (pe_un un_neg (pe_op op_mod (pe_callTy cr_int1 (by rfl) T.m_int (by decide +kernel) (pa_cons (pv 2) pa_nil)) (pe_ten (n := 1000000000000000000000000000000000000000000000000000000000000) (by decide) ⟨by decide, by decide, by decide⟩ (pe_op op_pow pe_int pe_int))))))
      pss_nil)
      (pss_one (ps_ret (pe_op op_sub (pe_op op_mod (pe_callTy cr_int1 (by rfl) T.m_int (by decide +kernel) (pa_cons (pv 2) pa_nil)) pe_int) pe_int)))))))))))), fun vs H Q h => ?_⟩
  · obtain ⟨n, rfl, _⟩ := h
    rfl
  · obtain ⟨n, rfl, ⟨n0, n1⟩, q⟩ := h
    walk_at "rd"
    have m1 : ∀ c : Int, 0 < c → 0 ≤ n / 8 % c ∧ n / 8 % c < c := fun c hc => ⟨Int.emod_nonneg _ (by omega), Int.emod_lt_of_pos _ hc⟩
    have a12 := m1 12 (by decide)
    have a3 := m1 3 (by decide)
    have a60 := m1 (10 ^ 60) (by decide)
    have a2001 := m1 2001 (by decide)
    refine r_ite (fun _ => ?_) (fun _ => ?_)
    · walk_at "rd"
      exact q 0 (by decide)
    walk_at "rd"
    refine r_ite (fun _ => ?_) (fun _ => ?_)
    · walk_at "rd"
      exact q _ (by omega)
    walk_at "rd"
    refine r_ite (fun _ => ?_) (fun _ => ?_)
    · walk_at "rd"
      exact q _ (by omega)
    walk_at "rd"
    refine r_ite (fun _ => ?_) (fun _ => ?_)
    · walk_at "rd"
      exact q _ (by omega)
    walk_at "rd"
    refine r_ite (fun _ => ?_) (fun _ => ?_)
    · walk_at "rd"
      exact q _ (by omega)
    walk_at "rd"
    refine r_ite (fun _ => ?_) (fun _ => ?_)
    · walk_at "rd"
      refine r_I (mul_bg (z := n / 8) (bg_small (i250 (by omega))) (by decide)) ?_
      walk_at "rd"
      have b1 := Int.emod_nonneg (n / 8 * 10000000000000000000000000000000000000000000000000000 + n / 8) (show (1000000000000000000000000000000000000000000000000000000000000 : Int) ≠ 0 by decide)
      have b2 := Int.emod_lt_of_pos (n / 8 * 10000000000000000000000000000000000000000000000000000 + n / 8) (show (0 : Int) < 1000000000000000000000000000000000000000000000000000000000000 by decide)
      exact q _ (by omega)
    walk_at "rd"
    refine r_ite (fun _ => ?_) (fun _ => ?_)
    · walk_at "rd"
      exact q _ (by omega)
    walk_at "rd"
    exact q _ (by omega)
end
end Vt
-- VtG3
set_option Elab.async false
set_option linter.all false
set_option maxRecDepth 100000
set_option maxHeartbeats 4000000
namespace Vt
open PySem PySem.Spec PyProof.Rows L2
local macro_rules | `(tactic| walk_at "rd") => `(tactic| (repeat (first
  | with_reducible refine r_sasg ?_ | with_reducible refine r_sfset ?_ | with_reducible refine r_sfaug ?_ | with_reducible refine r_sdput ?_ | with_reducible refine r_sdrop ?_ | with_reducible refine r_swhen ?_ | with_reducible refine r_sif ?_ | with_reducible refine r_asg ?_ | with_reducible refine r_drop ?_
  | with_reducible refine r_ret ?_ | with_reducible refine r_if ?_ | with_reducible refine r_next ?_
  | with_reducible refine r_c ?_ | with_reducible refine r_var (by with_unfolding_all exact rfl) ?_ | with_reducible refine r_op ?_ | with_reducible refine r_un ?_ | with_reducible refine r_I0 ?_ | ((with_reducible refine r_I ?_ ?_); · first | (show (0 : Int) < _; decide) | exact div_ok (by decide) (by decide)) | with_reducible refine r_U ?_
  | with_reducible refine r_eq (by with_unfolding_all exact rfl) ?_ | with_reducible refine r_ne (by with_unfolding_all exact rfl) ?_
  | with_reducible refine r_tstq ?_ | with_reducible refine r_tBq ?_ | with_reducible refine r_blq ?_ | with_reducible refine r_intq ?_ | with_reducible refine r_and ?_ | with_reducible refine r_or ?_ | with_reducible refine r_not ?_
  | with_reducible refine r_andV ?_ | with_reducible refine r_orV ?_ | with_reducible refine r_notV ?_
  | with_reducible refine r_nil ?_ | with_reducible refine r_cons ?_ | with_reducible refine r_call ?_ | with_reducible refine r_tup ?_ | with_reducible refine r_lst ?_ | with_reducible refine r_cb ?_ | with_reducible refine r_int1 ?_ | with_reducible refine r_ord ?_
  | with_reducible refine r_sl ?_ | with_reducible refine r_nop ?_ | with_reducible refine r_partq ?_ | with_reducible refine r_bm ?_ | with_reducible refine r_fld ?_
  | with_reducible refine r_lct ?_ | with_reducible refine r_lcl ?_ | with_reducible refine r_lcr ?_ | with_reducible refine r_sfort ?_ | with_reducible refine r_sforl ?_ | with_reducible refine r_sfors ?_ | with_reducible refine r_sforr ?_ | with_reducible refine r_sforz ?_
  | with_reducible refine r_fort ?_ | with_reducible refine r_forl ?_ | with_reducible refine r_forr ?_ | with_reducible refine r_sasgt ?_ | with_reducible refine r_asgt ?_ | with_reducible refine r_saug (by with_unfolding_all exact rfl) ?_ | with_reducible refine r_aug (by with_unfolding_all exact rfl) ?_ | with_reducible refine r_ip ?_ | with_reducible refine r_gname ?_ | with_reducible refine r_seq ?_
  | with_reducible refine r_dget ?_ | with_reducible refine r_din ?_ | with_reducible refine r_dnotin ?_ | with_reducible refine r_sdput ?_ | with_reducible refine r_dput ?_ | with_reducible refine r_mg ?_ | with_reducible refine r_rev ?_ | with_reducible refine r_dzip ?_
  | with_reducible refine r_lcz ?_ | with_reducible refine r_form ?_
  | with_reducible refine r_sfset ?_ | with_reducible refine r_fset ?_ | with_reducible refine r_sfaug ?_ | with_reducible refine r_meth ?_ | with_reducible refine r_make ?_
  | with_reducible refine r_srtl ?_ | with_reducible refine r_m1q ?_ | with_reducible refine r_strq ?_
  | with_reducible refine r_iteT ?_ | with_reducible refine r_iteF ?_)))
local macro_rules | `(tactic| walk_at "rs") => `(tactic| (repeat (first
  | with_reducible refine r_sasg ?_ | with_reducible refine r_sfset ?_ | with_reducible refine r_sfaug ?_ | with_reducible refine r_sdput ?_ | with_reducible refine r_sdrop ?_ | with_reducible refine r_asg ?_ | with_reducible refine r_drop ?_
  | with_reducible refine r_ret ?_ | with_reducible refine r_next ?_
  | with_reducible refine r_c ?_ | with_reducible refine r_var (by with_unfolding_all exact rfl) ?_ | with_reducible refine r_op ?_ | with_reducible refine r_un ?_ | with_reducible refine r_I0 ?_ | ((with_reducible refine r_I ?_ ?_); · first | (show (0 : Int) < _; decide) | exact div_ok (by decide) (by decide)) | with_reducible refine r_U ?_
  | with_reducible refine r_eq (by with_unfolding_all exact rfl) ?_ | with_reducible refine r_ne (by with_unfolding_all exact rfl) ?_
  | with_reducible refine r_tstq ?_ | with_reducible refine r_tBq ?_ | with_reducible refine r_blq ?_ | with_reducible refine r_intq ?_ | with_reducible refine r_and ?_ | with_reducible refine r_or ?_ | with_reducible refine r_not ?_
  | with_reducible refine r_andV ?_ | with_reducible refine r_orV ?_ | with_reducible refine r_notV ?_
  | with_reducible refine r_nil ?_ | with_reducible refine r_cons ?_ | with_reducible refine r_call ?_ | with_reducible refine r_tup ?_ | with_reducible refine r_lst ?_ | with_reducible refine r_cb ?_ | with_reducible refine r_int1 ?_ | with_reducible refine r_ord ?_
  | with_reducible refine r_sl ?_ | with_reducible refine r_nop ?_ | with_reducible refine r_partq ?_ | with_reducible refine r_bm ?_ | with_reducible refine r_fld ?_
  | with_reducible refine r_lct ?_ | with_reducible refine r_lcl ?_ | with_reducible refine r_lcr ?_ | with_reducible refine r_sfort ?_ | with_reducible refine r_sforl ?_ | with_reducible refine r_sfors ?_ | with_reducible refine r_sforr ?_ | with_reducible refine r_sforz ?_
  | with_reducible refine r_fort ?_ | with_reducible refine r_forl ?_ | with_reducible refine r_forr ?_ | with_reducible refine r_sasgt ?_ | with_reducible refine r_asgt ?_ | with_reducible refine r_saug (by with_unfolding_all exact rfl) ?_ | with_reducible refine r_aug (by with_unfolding_all exact rfl) ?_ | with_reducible refine r_ip ?_ | with_reducible refine r_gname ?_ | with_reducible refine r_seq ?_
  | with_reducible refine r_dget ?_ | with_reducible refine r_din ?_ | with_reducible refine r_dnotin ?_ | with_reducible refine r_sdput ?_ | with_reducible refine r_dput ?_ | with_reducible refine r_mg ?_ | with_reducible refine r_rev ?_ | with_reducible refine r_dzip ?_
  | with_reducible refine r_lcz ?_ | with_reducible refine r_form ?_
  | with_reducible refine r_sfset ?_ | with_reducible refine r_fset ?_ | with_reducible refine r_sfaug ?_ | with_reducible refine r_meth ?_ | with_reducible refine r_make ?_
  | with_reducible refine r_srtl ?_ | with_reducible refine r_m1q ?_ | with_reducible refine r_strq ?_
  | with_reducible refine r_iteT ?_ | with_reducible refine r_iteF ?_)))
local macro_rules | `(tactic| walk_at "tex") => `(tactic| (first
  | assumption | exact TEx.refl _ | exact TEx.of (by assumption) | ((refine TEx.trans ?_ (TEx.of (by assumption))); walk_at "tex") | ((refine TEx.trans ?_ (by assumption)); walk_at "tex")))
local macro_rules | `(tactic| walk_at "same") => `(tactic| (first
  | assumption | exact Same.refl _ | ((refine Same.trans ?_ (by assumption)); walk_at "same")))
local macro_rules | `(tactic| walk_at "tp") => `(tactic| (first
  | assumption | exact Tp.int _ | exact Tp.str _ | exact Tp.non | exact TpAll.nil | ((refine TpAll.cons ?_ ?_) <;> walk_at "tp") | ((refine Tp.mono ?_ (by assumption)); walk_at "tex") | ((refine TpAll.mono ?_ (by assumption)); walk_at "tex")))
local macro_rules | `(tactic| walk_at "hp") => `(tactic| (first
  | assumption | ((refine (TEx.trans ?_ (TEx.refl _)) _ _ (by assumption)); walk_at "tex")))
section
variable {P : Program} {w : World} {K : PySem.W.Frag} {mg : Str → Option Value} {base : Heap}
theorem acc_int {k : Str} (h : k = "int" ∨ k = "int?") (i : Int) : acc k (.int i) = true := by
  show decide (baseK k = ("int" : Str)) = true
  rcases h with h | h <;> subst h <;> decide +kernel
theorem acc_str {k : Str} (h : k = "text" ∨ k = "text?") (s : Str) : acc k (.str s) = true := by
  show decide (baseK k = ("text" : Str)) = true
  rcases h with h | h <;> subst h <;> decide +kernel
/-! ### _law_value -/
abbrev n_law_value : List Str := ["_law_kind", "_law_cell_here"]
theorem sc_law_value : FnScope n_law_value ["_law_kind", "_law_cell_here"] (defScope s_law_value) := ⟨rfl, rfl, rfl, by decide +kernel, rfl, by decide +kernel, by decide +kernel⟩
theorem bd_law_value : BindH "_law_value" s_law_value ["_law_kind", "_law_cell_here"] := fun _ _ _ _ _ _ us hl => match us, hl with | [_, _], _ => rfl
def spValue : Sp := fun vs H Q _ => ∃ (k : Str) (n : Int), vs = [.str k, .int n] ∧ Kd k ∧ Num n ∧ ∀ (v : V) (d : PyData) (H' : Hp), Same H H' → Tp H' v d → Sc d → acc k d = true → Q v H'
theorem cal_law_value (T : Tx K mg) : Cal P w K mg base 3 "_law_value" ["_law_kind", "_law_cell_here"] spValue := by
  have c_law_integer := cal_law_integer (P := P) (w := w) (base := base) T
  have c_law_text := cal_law_text (P := P) (w := w) (base := base) T
  refine cal_of T.at_law_value sc_law_value bd_law_value (fun vs H Q E h => ?_) fun f cdv A outer s H0 E hr => ⟨_, (pss_cons (ps_if (PW.pt (pw_and (pt_val (pe_m1 PySem.F.slot_str_endswith PySem.F.type_str_endswith mt_endswith (pv 0) pe_str)) (pw_and1 (pt_cmpR op_eq (pe_op op_mod (pe_callTy cr_int1 (by rfl) T.m_int (by decide +kernel) (pa_cons (pv 1) pa_nil)) pe_int) pe_int (nomark _)))))
      (pss_one (ps_ret pe_non))
      pss_nil)
      (pss_cons (ps_if (pt_cmpR op_eq (pe_slice sl_str (pv 0) po_none (po_some pe_int)) pe_str (nomark _))
      (pss_one (ps_ret (pe_cal c_law_integer (hr.mono (by omega)) (by rfl) (pa_cons (pe_op op_fdivW (pv 1) pe_int) pa_nil))))
      pss_nil)
      (pss_one (ps_ret (pe_cal c_law_text (hr.mono (by omega)) (by rfl) (pa_cons (pe_op op_fdivW (pv 1) pe_int) pa_nil)))))), fun vs H Q h => ?_⟩
  · obtain ⟨k, n, rfl, _⟩ := h
    rfl
  · obtain ⟨k, n, rfl, hk, hn, q⟩ := h
    have hn4 : Num (n / 4) := by obtain ⟨a, b⟩ := hn; exact ⟨by omega, by omega⟩
    have hkl : k.length ≤ sizeLine := by
      refine Nat.le_trans (show k.length ≤ 10 from ?_) (by decide)
      rcases hk with h | h | h | h <;> subst h <;> decide +kernel
    have tail : (∀ (H' : Hp) (Z : VK), (∀ v d H', Same H H' → Tp H' v d → Sc d → acc k d = true → Z v H') → Same H H' → (k = "int" ∨ k = "int?") → spInteger [.int (n / 4)] H' Z E0) ∧ (∀ (H' : Hp) (Z : VK), (∀ v d H', Same H H' → Tp H' v d → Sc d → acc k d = true → Z v H') → Same H H' → (k = "text" ∨ k = "text?") → spText [.int (n / 4)] H' Z E0) := by
      refine ⟨fun H' Z hz e hk => ⟨n / 4, rfl, hn4, fun z hz' => hz _ (.int z) H' e (.int z) (.inr (.inl ⟨z, rfl, hz'⟩)) (acc_int hk z)⟩, fun H' Z hz e hk => ⟨n / 4, rfl, hn4, fun s H2 e2 hs => hz _ (.str s) H2 (e.trans e2) (.str s) (.inr (.inr ⟨s, rfl, hs⟩)) (acc_str hk s)⟩⟩
    walk_at "rd"
    refine ⟨_, _, rfl, rfl, ?_⟩
    walk_at "rd"
    rcases hk with h | h | h | h
    · subst h
      refine r_no (by decide +kernel) (r_iteF ?_)
      walk_at "rd"
      refine r_slS hkl ?_
      walk_at "rd"
      refine r_yes (by decide +kernel) ?_
      walk_at "rd"
      exact tail.1 H Q q (Same.refl _) (.inl rfl)
    · subst h
      refine r_yes (by decide +kernel) ?_
      walk_at "rd"
      refine r_ite (fun _ => ?_) (fun _ => ?_)
      · walk_at "rd"
        exact q .non .none H (Same.refl _) .non (.inl rfl) (by decide +kernel)
      · walk_at "rd"
        refine r_slS hkl ?_
        walk_at "rd"
        refine r_yes (by decide +kernel) ?_
        walk_at "rd"
        exact tail.1 H Q q (Same.refl _) (.inr rfl)
    · subst h
      refine r_no (by decide +kernel) (r_iteF ?_)
      walk_at "rd"
      refine r_slS hkl ?_
      walk_at "rd"
      refine r_no (by decide +kernel) ?_
      walk_at "rd"
      exact tail.2 H Q q (Same.refl _) (.inl rfl)
    · subst h
      refine r_yes (by decide +kernel) ?_
      walk_at "rd"
      refine r_ite (fun _ => ?_) (fun _ => ?_)
      · walk_at "rd"
        exact q .non .none H (Same.refl _) .non (.inl rfl) (by decide +kernel)
      · walk_at "rd"
        refine r_slS hkl ?_
        walk_at "rd"
        refine r_no (by decide +kernel) ?_
        walk_at "rd"
        exact tail.2 H Q q (Same.refl _) (.inr rfl)
/-! ### _law_name -/
abbrev n_law_name : List Str := ["_law_cell_here", "_law_letters", "_law_length", "_law_number"]
theorem sc_law_name : FnScope n_law_name ["_law_cell_here"] (defScope s_law_name) := ⟨rfl, rfl, rfl, by decide +kernel, rfl, by decide +kernel, by decide +kernel⟩
theorem bd_law_name : BindH "_law_name" s_law_name ["_law_cell_here"] := fun _ _ _ _ _ _ us hl => match us, hl with | [_], _ => rfl
def spName : Sp := fun vs H Q _ => ∃ n : Int, vs = [.int n] ∧ Num n ∧ ∀ (s : Str) (H' : Hp), Same H H' → 1 ≤ s.length → s.length ≤ 12 → Q (.str s) H'
theorem pick8n {x : Int} {r : Int} (h : 0 ≤ x ∧ x < 8) (hr : 0 ≤ r ∧ r < 12) : ∃ z : Nat, atI [V.int 1, V.int 1, V.int 2, V.int 2, V.int 3, V.int 5, V.int 12, V.int (1 + r)] x = some (V.int z) ∧ 1 ≤ z ∧ z ≤ 12 := by
  have : x = 0 ∨ x = 1 ∨ x = 2 ∨ x = 3 ∨ x = 4 ∨ x = 5 ∨ x = 6 ∨ x = 7 := by omega
  rcases this with e | e | e | e | e | e | e | e <;> subst e
  · exact ⟨1, rfl, by decide, by decide⟩
  · exact ⟨1, rfl, by decide, by decide⟩
  · exact ⟨2, rfl, by decide, by decide⟩
  · exact ⟨2, rfl, by decide, by decide⟩
  · exact ⟨3, rfl, by decide, by decide⟩
  · exact ⟨5, rfl, by decide, by decide⟩
  · exact ⟨12, rfl, by decide, by decide⟩
  · refine ⟨(1 + r).toNat, ?_, by omega, by omega⟩
    rw [show (((1 + r).toNat : Nat) : Int) = 1 + r by omega]
    rfl
theorem cal_law_name (T : Tx K mg) : Cal P w K mg base 2 "_law_name" ["_law_cell_here"] spName := by
  have c_law_draws := cal_law_draws (P := P) (w := w) (base := base) T
  refine cal_of T.at_law_name sc_law_name bd_law_name (fun vs H Q E h => ?_) fun f cdv A outer s H0 E hr => ⟨_, (pss_cons (ps_set (i := 1) sc_law_name.nd rfl (Or.inr rfl) pe_str)
      (pss_cons (ps_set (i := 2) sc_law_name.nd rfl (Or.inl rfl) (pe_ix (ix_listK (K := K) rfl) (pe_lst (pa_cons pe_int (pa_cons pe_int (pa_cons pe_int (pa_cons pe_int (pa_cons pe_int (pa_cons pe_int (pa_cons pe_int (pa_cons (pe_op op_add pe_int (pe_op op_mod (pe_callTy cr_int1 (by rfl) T.m_int (by decide +kernel) (pa_cons (pe_op op_fdivW (pv 0) pe_int) pa_nil)) pe_int)) pa_nil))))))))) (pe_op op_mod (pe_callTy cr_int1 (by rfl) T.m_int (by decide +kernel) (pa_cons (pv 0) pa_nil)) pe_int) (fun _ _ => rfl)))
      (pss_one (ps_ret (pe_join pe_str (pe_lc (own := [("_law_number", 3)]) rfl sc_law_name.nd (pi_list (pe_cal c_law_draws (hr.mono (by omega)) (by rfl) (pa_cons (pe_op op_fdivW (pv 0) pe_int) (pa_cons pe_int (pa_cons (pv 2) (pa_cons pe_int pa_nil)))))) (blkOk_by (own := [("_law_number", 3)]) (N := n_law_name) (sc := defScope s_law_name) (by decide +kernel)) (fun _ _ _ _ _ => (pg_name (i := 3) sc_law_name.nd rfl (Or.inl rfl))) (fun _ _ _ _ _ => pts_nil) (fun _ _ _ _ _ => (pe_ix ix_str (pv 1) (pe_op op_mod (pe_callTy cr_int1 (by rfl) T.m_int (by decide +kernel) (pa_cons (pv 3) pa_nil)) pe_int) (fun _ _ => rfl))))))))), fun vs H Q h => ?_⟩
  · obtain ⟨n, rfl, _⟩ := h
    rfl
  · obtain ⟨n, rfl, hn, q⟩ := h
    obtain ⟨n0, n1⟩ := hn
    walk_at "rd"
    refine r_newL (Nat.le_of_ble_eq_true rfl) fun p1 H1 hp1 e1 hl1 => ?_
    obtain ⟨z, hz, hz1, hz2⟩ := pick8n (x := n % 8) (r := n / 8 % 12) ⟨Int.emod_nonneg _ (by decide), Int.emod_lt_of_pos _ (by decide)⟩ ⟨Int.emod_nonneg _ (by decide), Int.emod_lt_of_pos _ (by decide)⟩
    walk_at "rd"
    refine r_ixL hl1 hz ?_
    walk_at "rd"
    refine ⟨n / 8, 3, z, 26, rfl, bg_small (i250 (by omega)), by omega, by omega, by decide, by decide, fun l H2 ns e2 hns hnum hl2 _ => ?_⟩
    walk_at "rd"
    have hnl : (ns.map V.int).length = z := by rw [List.length_map]; exact hns
    refine r_lcL hl2 (by omega) (fun _ => true) (fun i y _ => ∃ c : Nat, y = V.str ⟨#[c]⟩) (fun _ _ _ _ _ h => h) (fun i x hx => lc_one rfl fun H3 Qs e3 qs => ?_) fun L ys H3 hL e3 hl3 hp => ?_
    · rw [List.getElem?_map] at hx
      cases hni : ns[i]? with
      | none => rw [hni] at hx; cases hx
      | some m =>
        rw [hni] at hx
        cases hx
        have hm := (hnum m (List.mem_iff_getElem?.mpr ⟨i, hni⟩)).1
        walk_at "rd"
        have h1 := Int.emod_nonneg m (show (26 : Int) ≠ 0 by decide)
        have h2 := Int.emod_lt_of_pos m (show (0 : Int) < 26 by decide)
        have e : (m % 26) = (((m % 26).toNat : Nat) : Int) := by omega
        rw [e]
        exact r_ixS letters_len (letter_at (by omega)) (qs _ H3 (Same.refl _) ⟨_, rfl⟩)
    · have hyl := pd_len hp
      rw [filter_all, List.length_range, hnl] at hyl
      obtain ⟨ss, e4, e5, e6⟩ := ones_of (ys := ys) fun y hy => by
        obtain ⟨i, hi⟩ := List.mem_iff_getElem?.mp hy
        obtain ⟨a, _, h⟩ := pd_get hp hi
        exact h
      rw [e4] at hl3
      walk_at "rd"
      exact r_join0 hl3 (by omega) fun st hst => q st H3 (e1.trans (e2.trans e3)) (by omega) (by omega)
end
end Vt
-- VtG4
set_option Elab.async false
set_option linter.all false
set_option maxRecDepth 100000
set_option maxHeartbeats 4000000
namespace Vt
open PySem PySem.Spec PyProof.Rows L2
local macro_rules | `(tactic| walk_at "rd") => `(tactic| (repeat (first
  | with_reducible refine r_sasg ?_ | with_reducible refine r_sfset ?_ | with_reducible refine r_sfaug ?_ | with_reducible refine r_sdput ?_ | with_reducible refine r_sdrop ?_ | with_reducible refine r_swhen ?_ | with_reducible refine r_sif ?_ | with_reducible refine r_asg ?_ | with_reducible refine r_drop ?_
  | with_reducible refine r_ret ?_ | with_reducible refine r_if ?_ | with_reducible refine r_next ?_
  | with_reducible refine r_c ?_ | with_reducible refine r_var (by with_unfolding_all exact rfl) ?_ | with_reducible refine r_op ?_ | with_reducible refine r_un ?_ | with_reducible refine r_I0 ?_ | ((with_reducible refine r_I ?_ ?_); · first | (show (0 : Int) < _; decide) | exact div_ok (by decide) (by decide)) | with_reducible refine r_U ?_
  | with_reducible refine r_eq (by with_unfolding_all exact rfl) ?_ | with_reducible refine r_ne (by with_unfolding_all exact rfl) ?_
  | with_reducible refine r_tstq ?_ | with_reducible refine r_tBq ?_ | with_reducible refine r_blq ?_ | with_reducible refine r_intq ?_ | with_reducible refine r_and ?_ | with_reducible refine r_or ?_ | with_reducible refine r_not ?_
  | with_reducible refine r_andV ?_ | with_reducible refine r_orV ?_ | with_reducible refine r_notV ?_
  | with_reducible refine r_nil ?_ | with_reducible refine r_cons ?_ | with_reducible refine r_call ?_ | with_reducible refine r_tup ?_ | with_reducible refine r_lst ?_ | with_reducible refine r_cb ?_ | with_reducible refine r_int1 ?_ | with_reducible refine r_ord ?_
  | with_reducible refine r_sl ?_ | with_reducible refine r_nop ?_ | with_reducible refine r_partq ?_ | with_reducible refine r_bm ?_ | with_reducible refine r_fld ?_
  | with_reducible refine r_lct ?_ | with_reducible refine r_lcl ?_ | with_reducible refine r_lcr ?_ | with_reducible refine r_sfort ?_ | with_reducible refine r_sforl ?_ | with_reducible refine r_sfors ?_ | with_reducible refine r_sforr ?_ | with_reducible refine r_sforz ?_
  | with_reducible refine r_fort ?_ | with_reducible refine r_forl ?_ | with_reducible refine r_forr ?_ | with_reducible refine r_sasgt ?_ | with_reducible refine r_asgt ?_ | with_reducible refine r_saug (by with_unfolding_all exact rfl) ?_ | with_reducible refine r_aug (by with_unfolding_all exact rfl) ?_ | with_reducible refine r_ip ?_ | with_reducible refine r_gname ?_ | with_reducible refine r_seq ?_
  | with_reducible refine r_dget ?_ | with_reducible refine r_din ?_ | with_reducible refine r_dnotin ?_ | with_reducible refine r_sdput ?_ | with_reducible refine r_dput ?_ | with_reducible refine r_mg ?_ | with_reducible refine r_rev ?_ | with_reducible refine r_dzip ?_
  | with_reducible refine r_lcz ?_ | with_reducible refine r_form ?_
  | with_reducible refine r_sfset ?_ | with_reducible refine r_fset ?_ | with_reducible refine r_sfaug ?_ | with_reducible refine r_meth ?_ | with_reducible refine r_make ?_
  | with_reducible refine r_srtl ?_ | with_reducible refine r_m1q ?_ | with_reducible refine r_strq ?_
  | with_reducible refine r_iteT ?_ | with_reducible refine r_iteF ?_)))
local macro_rules | `(tactic| walk_at "rs") => `(tactic| (repeat (first
  | with_reducible refine r_sasg ?_ | with_reducible refine r_sfset ?_ | with_reducible refine r_sfaug ?_ | with_reducible refine r_sdput ?_ | with_reducible refine r_sdrop ?_ | with_reducible refine r_asg ?_ | with_reducible refine r_drop ?_
  | with_reducible refine r_ret ?_ | with_reducible refine r_next ?_
  | with_reducible refine r_c ?_ | with_reducible refine r_var (by with_unfolding_all exact rfl) ?_ | with_reducible refine r_op ?_ | with_reducible refine r_un ?_ | with_reducible refine r_I0 ?_ | ((with_reducible refine r_I ?_ ?_); · first | (show (0 : Int) < _; decide) | exact div_ok (by decide) (by decide)) | with_reducible refine r_U ?_
  | with_reducible refine r_eq (by with_unfolding_all exact rfl) ?_ | with_reducible refine r_ne (by with_unfolding_all exact rfl) ?_
  | with_reducible refine r_tstq ?_ | with_reducible refine r_tBq ?_ | with_reducible refine r_blq ?_ | with_reducible refine r_intq ?_ | with_reducible refine r_and ?_ | with_reducible refine r_or ?_ | with_reducible refine r_not ?_
  | with_reducible refine r_andV ?_ | with_reducible refine r_orV ?_ | with_reducible refine r_notV ?_
  | with_reducible refine r_nil ?_ | with_reducible refine r_cons ?_ | with_reducible refine r_call ?_ | with_reducible refine r_tup ?_ | with_reducible refine r_lst ?_ | with_reducible refine r_cb ?_ | with_reducible refine r_int1 ?_ | with_reducible refine r_ord ?_
  | with_reducible refine r_sl ?_ | with_reducible refine r_nop ?_ | with_reducible refine r_partq ?_ | with_reducible refine r_bm ?_ | with_reducible refine r_fld ?_
  | with_reducible refine r_lct ?_ | with_reducible refine r_lcl ?_ | with_reducible refine r_lcr ?_ | with_reducible refine r_sfort ?_ | with_reducible refine r_sforl ?_ | with_reducible refine r_sfors ?_ | with_reducible refine r_sforr ?_ | with_reducible refine r_sforz ?_
  | with_reducible refine r_fort ?_ | with_reducible refine r_forl ?_ | with_reducible refine r_forr ?_ | with_reducible refine r_sasgt ?_ | with_reducible refine r_asgt ?_ | with_reducible refine r_saug (by with_unfolding_all exact rfl) ?_ | with_reducible refine r_aug (by with_unfolding_all exact rfl) ?_ | with_reducible refine r_ip ?_ | with_reducible refine r_gname ?_ | with_reducible refine r_seq ?_
  | with_reducible refine r_dget ?_ | with_reducible refine r_din ?_ | with_reducible refine r_dnotin ?_ | with_reducible refine r_sdput ?_ | with_reducible refine r_dput ?_ | with_reducible refine r_mg ?_ | with_reducible refine r_rev ?_ | with_reducible refine r_dzip ?_
  | with_reducible refine r_lcz ?_ | with_reducible refine r_form ?_
  | with_reducible refine r_sfset ?_ | with_reducible refine r_fset ?_ | with_reducible refine r_sfaug ?_ | with_reducible refine r_meth ?_ | with_reducible refine r_make ?_
  | with_reducible refine r_srtl ?_ | with_reducible refine r_m1q ?_ | with_reducible refine r_strq ?_
  | with_reducible refine r_iteT ?_ | with_reducible refine r_iteF ?_)))
local macro_rules | `(tactic| walk_at "tex") => `(tactic| (first
  | assumption | exact TEx.refl _ | exact TEx.of (by assumption) | ((refine TEx.trans ?_ (TEx.of (by assumption))); walk_at "tex") | ((refine TEx.trans ?_ (by assumption)); walk_at "tex")))
local macro_rules | `(tactic| walk_at "same") => `(tactic| (first
  | assumption | exact Same.refl _ | ((refine Same.trans ?_ (by assumption)); walk_at "same")))
local macro_rules | `(tactic| walk_at "tp") => `(tactic| (first
  | assumption | exact Tp.int _ | exact Tp.str _ | exact Tp.non | exact TpAll.nil | ((refine TpAll.cons ?_ ?_) <;> walk_at "tp") | ((refine Tp.mono ?_ (by assumption)); walk_at "tex") | ((refine TpAll.mono ?_ (by assumption)); walk_at "tex")))
local macro_rules | `(tactic| walk_at "hp") => `(tactic| (first
  | assumption | ((refine (TEx.trans ?_ (TEx.refl _)) _ _ (by assumption)); walk_at "tex")))
def NmOk (s : Str) : Prop := 1 ≤ s.length ∧ s.length ≤ 12
theorem one_len (c : Nat) : (⟨#[c]⟩ : Str).length = 1 := rfl
theorem app_len (x y : Str) : (x ++ y).length = x.length + y.length := by rw [TL.len_tl, TL.tl_append, List.length_append, ← TL.len_tl, ← TL.len_tl]
theorem cutS_len (z : Str) (lo hi : Option Int) : (cutS z lo hi).length ≤ z.length := by
  unfold cutS
  rw [TL.len_tl]
  show ((z.cps.toList.drop _).take _).toArray.toList.length ≤ _
  rw [List.toList_toArray, List.length_take, List.length_drop]
  have : z.length = z.cps.toList.length := TL.len_tl z
  omega
theorem cut_len (z : Str) {p : Nat} (h : p < z.length) : (cutS z none (some (p : Int))).length = p ∧ (cutS z (some ((p : Int) + 1)) none).length = z.length - (p + 1) := by
  have hz : z.length = z.cps.toList.length := TL.len_tl z
  constructor
  · unfold cutS
    rw [TL.len_tl]
    show ((z.cps.toList.drop _).take _).toArray.toList.length = _
    rw [List.toList_toArray, List.length_take, List.length_drop, HT.sIx_nat]
    show min (min p z.length - HT.sIx z.length 0 none) (_ - HT.sIx z.length 0 none) = p
    rw [show HT.sIx z.length 0 none = 0 from rfl, Nat.min_eq_left (Nat.le_of_lt h)]
    omega
  · unfold cutS
    rw [TL.len_tl]
    show ((z.cps.toList.drop _).take _).toArray.toList.length = _
    rw [show ((p : Int) + 1) = ((p + 1 : Nat) : Int) from rfl, List.toList_toArray, List.length_take, List.length_drop, HT.sIx_nat]
    show min (HT.sIx z.length z.length none - min (p + 1) z.length) (_ - min (p + 1) z.length) = _
    rw [show HT.sIx z.length z.length none = z.length from rfl, Nat.min_eq_left h]
    omega
section
variable {P : Program} {w : World} {K : PySem.W.Frag} {mg : Str → Option Value} {base : Heap}
/-! ### _law_names -/
abbrev n_law_names : List Str := ["_law_cells", "_law_letters", "_law_names_here", "_law_cell_here", "_law_choice", "_law_rest", "_law_name_here", "_law_place", "_law_k"]
theorem sc_law_names : FnScope n_law_names ["_law_cells"] (defScope s_law_names) := ⟨rfl, rfl, rfl, by decide +kernel, rfl, by decide +kernel, by decide +kernel⟩
theorem bd_law_names : BindH "_law_names" s_law_names ["_law_cells"] := fun _ _ _ _ _ _ us hl => match us, hl with | [_], _ => rfl
def spNames : Sp := fun vs H Q _ => ∃ (a : Addr) (cs : List Int), vs = [.ref a] ∧ H a = some (.lst (cs.map V.int)) ∧ (∀ c ∈ cs, Num c) ∧ cs.length < 100 ∧
  ∀ (l : Addr) (H' : Hp) (nms : List Str), Same H H' → nms.length = cs.length → nms.Nodup → (∀ s ∈ nms, NmOk s) → H' l = some (.lst (nms.map V.str)) → Q (.ref l) H'
theorem cal_law_names (T : Tx K mg) : Cal P w K mg base 3 "_law_names" ["_law_cells"] spNames := by
  have c_law_name := cal_law_name (P := P) (w := w) (base := base) T
  refine cal_of T.at_law_names sc_law_names bd_law_names (fun vs H Q E h => ?_) fun f cdv A outer s H0 E hr => ⟨_, (pss_cons (ps_set (i := 1) sc_law_names.nd rfl (Or.inl rfl) pe_str)
      (pss_cons (ps_set (i := 2) sc_law_names.nd rfl (Or.inl rfl) (pe_lst pa_nil))
      (pss_cons (ps_for PassesOwn.never rfl (pi_list (pv 0)) (pg_name (i := 3) sc_law_names.nd rfl (Or.inl rfl))
      (pss_cons (ps_set (i := 4) sc_law_names.nd rfl (Or.inl rfl) (pe_op op_mod (pe_callTy cr_int1 (by rfl) T.m_int (by decide +kernel) (pa_cons (pv 3) pa_nil)) pe_int))
        (pss_cons (ps_set (i := 5) sc_law_names.nd rfl (Or.inl rfl) (pe_op op_fdivW (pv 3) pe_int))
        (pss_cons (ps_set (i := 6) sc_law_names.nd rfl (Or.inl rfl) (pe_cal c_law_name (hr.mono (by omega)) (by rfl) (pa_cons (pv 5) pa_nil)))
        (pss_cons (ps_if (PW.pt (pw_and (pt_truth (pv 2) (by intro _; rfl)) (pw_and (pt_cmpR op_eq (pv 4) pe_int (nomark _)) (pw_and1 (pt_cmpR op_lt (pe_callB cr_lnS (by rfl) T.m_len PySem.boot_len (pa_cons (pe_ix (ix_listK (K := K) rfl) (pv 2) (pe_un un_neg pe_int) (fun _ _ => rfl)) pa_nil)) pe_int (nomark _))))))
        (pss_one (ps_set (i := 6) sc_law_names.nd rfl (Or.inl rfl) (pe_op op_add_str (pe_ix (ix_listK (K := K) rfl) (pv 2) (pe_un un_neg pe_int) (fun _ _ => rfl)) (pe_ix ix_str (pv 1) (pe_op op_mod (pe_callTy cr_int1 (by rfl) T.m_int (by decide +kernel) (pa_cons (pv 5) pa_nil)) pe_int) (fun _ _ => rfl)))))
        pss_nil)
        (pss_cons (ps_if (PW.pt (pw_and (pt_truth (pv 2) (by intro _; rfl)) (pw_and1 (pt_cmpR op_eq (pv 4) pe_int (nomark _)))))
        (pss_cons (ps_set (i := 7) sc_law_names.nd rfl (Or.inl rfl) (pe_op op_mod (pe_callTy cr_int1 (by rfl) T.m_int (by decide +kernel) (pa_cons (pv 5) pa_nil)) (pe_callB cr_lnS (by rfl) T.m_len PySem.boot_len (pa_cons (pe_ix (ix_listK (K := K) rfl) (pv 2) (pe_un un_neg pe_int) (fun _ _ => rfl)) pa_nil))))
          (pss_one (ps_set (i := 6) sc_law_names.nd rfl (Or.inl rfl) (pe_op op_add_str (pe_op op_add_str (pe_slice sl_str (pe_ix (ix_listK (K := K) rfl) (pv 2) (pe_un un_neg pe_int) (fun _ _ => rfl)) po_none (po_some (pv 7))) (pe_ix ix_str (pv 1) (pe_op op_mod (pe_callTy cr_int1 (by rfl) T.m_int (by decide +kernel) (pa_cons (pe_op op_fdivW (pv 5) pe_int) pa_nil)) pe_int) (fun _ _ => rfl))) (pe_slice sl_str (pe_ix (ix_listK (K := K) rfl) (pv 2) (pe_un un_neg pe_int) (fun _ _ => rfl)) (po_some (pe_op op_add (pv 7) pe_int)) po_none)))))
        pss_nil)
        (pss_cons (ps_for PassesOwn.never rfl (pi_range1 (by rfl) T.m_range (pa_cons pe_int pa_nil)) (pg_name (i := 8) sc_law_names.nd rfl (Or.inl rfl))
        (pss_one (ps_if (pt_cmpR (op_inK (K := K) rfl) (pv 6) (pv 2) (by with_unfolding_all rfl))
          (pss_one (ps_set (i := 6) sc_law_names.nd rfl (Or.inl rfl) (pe_op op_add_str (pe_ix ix_str (pv 1) (pe_op op_fdivW (pv 8) pe_int) (fun _ _ => rfl)) (pe_ix ix_str (pv 1) (pe_op op_mod (pe_callTy cr_int1 (by rfl) T.m_int (by decide +kernel) (pa_cons (pv 8) pa_nil)) pe_int) (fun _ _ => rfl)))))
          pss_nil)))
        (pss_one (ps_expr (pe_bm PySem.F.plainAttrs_list PySem.F.slot_list_append PySem.F.type_list_append mt_append (pv 2) (pa_cons (pv 6) pa_nil)))))))))))
      (pss_one (ps_ret (pv 2)))))), fun vs H Q h => ?_⟩
  · obtain ⟨a, cs, rfl, _⟩ := h
    rfl
  · obtain ⟨a, cs, rfl, ha, hnum, hlen, q⟩ := h
    walk_at "rs"
    refine r_newL (Nat.zero_le _) fun L H1 hL e1 hL1 => ?_
    walk_at "rs"
    refine r_forL (xs := cs.map V.int) (fun i σ' H' => ∃ (nms : List Str) (z3 z4 z5 z6 z7 z8 : Option V), i ≤ cs.length ∧ Same H H' ∧ nms.length = i ∧ nms.Nodup ∧ (∀ s ∈ nms, NmOk s) ∧ H' L = some (.lst (nms.map V.str)) ∧ σ' = [some (.ref a), some (.str lettersS), some (.ref L), z3, z4, z5, z6, z7, z8])
      ⟨[], none, none, none, none, none, none, Nat.zero_le _, e1, rfl, List.nodup_nil, fun s h => (by cases h), hL1, rfl⟩ (fun i σ' H' ⟨_, _, _, _, _, _, _, _, e, _⟩ => SqL.of (e _ _ ha)) ?_ ?_
    · rintro i x σ' H' hx ⟨nms, z3, z4, z5, z6, z7, z8, hi, e, hn, nd, hok, hl, rfl⟩
      rw [List.getElem?_map] at hx
      cases hci : cs[i]? with
      | none => rw [hci] at hx; cases hx
      | some c =>
        rw [hci] at hx
        cases hx
        have hc := hnum c (List.mem_iff_getElem?.mpr ⟨i, hci⟩)
        have hil := (List.getElem?_eq_some_iff.mp hci).1
        have hc4 : Num (c / 4) := by obtain ⟨p, q⟩ := hc; exact ⟨by omega, by omega⟩
        have hc0 : 0 ≤ c / 4 := hc4.1
        have mapl : (nms.map V.str).length = nms.length := List.length_map _
        walk_at "rs"
        refine ⟨c / 4, rfl, hc4, fun s0 H2 e2 s1 s2 => ?_⟩
        walk_at "rs"
        have e02 := e.trans e2
        have hl2 := e2 _ _ hl
        -- the last of the names
        have lastN : nms ≠ [] → ∃ lst, atI (nms.map V.str) (-1) = some (V.str lst) ∧ NmOk lst := fun hne => by
          refine ⟨nms.getLast hne, ?_, hok _ (List.getLast_mem hne)⟩
          have e3 := List.dropLast_concat_getLast hne
          have e4 : nms.map V.str = nms.dropLast.map V.str ++ [V.str (nms.getLast hne)] := by
            have := congrArg (List.map V.str) e3
            rw [List.map_append] at this
            exact this.symm
          rw [e4]
          exact atI_last _ _
        have emp : (!(nms.map V.str).isEmpty) = !nms.isEmpty := by cases nms <;> rfl
        refine r_join (fun σ' H' => ∃ (s : Str), NmOk s ∧ H' = H2 ∧ σ' = [some (.ref a), some (.str lettersS), some (.ref L), some (.int c), some (.int (c % 4)), some (.int (c / 4)), some (.str s), z7, z8]) (fun Z hZ => ?_) ?_
        · walk_at "rs"
          refine r_truL hl2 ?_
          rw [emp]
          by_cases hne : nms = []
          · subst hne
            refine r_no rfl (r_iteF ?_)
            exact hZ _ _ ⟨s0, ⟨s1, s2⟩, rfl, rfl⟩
          · refine r_yes (by cases nms with | nil => exact (hne rfl).elim | cons a r => rfl) ?_
            obtain ⟨lst, hlst, hlok⟩ := lastN hne
            walk_at "rs"
            refine r_ite (fun _ => ?_) (fun _ => r_iteF (hZ _ _ ⟨s0, ⟨s1, s2⟩, rfl, rfl⟩))
            walk_at "rs"
            refine r_ixL hl2 hlst ?_
            walk_at "rs"
            refine r_lnS (Nat.le_trans hlok.2 (by decide)) ?_
            walk_at "rs"
            refine r_ite (fun hb => ?_) (fun _ => hZ _ _ ⟨s0, ⟨s1, s2⟩, rfl, rfl⟩)
            have hb := of_decide_eq_true hb
            walk_at "rs"
            refine r_ixL hl2 hlst ?_
            walk_at "rs"
            have h1 := Int.emod_nonneg (c / 4) (show (26 : Int) ≠ 0 by decide)
            have h2 := Int.emod_lt_of_pos (c / 4) (show (0 : Int) < 26 by decide)
            have e5 : (c / 4 % 26) = (((c / 4 % 26).toNat : Nat) : Int) := by omega
            rw [e5]
            refine r_ixS letters_len (letter_at (by omega)) ?_
            refine ⟨_, _, rfl, rfl, Nat.le_trans (show lst.length + 1 ≤ 100 by have := hlok.2; omega) (by decide), ?_⟩
            walk_at "rs"
            refine hZ _ _ ⟨lst ++ ⟨#[97 + (c / 4 % 26).toNat]⟩, ⟨?_, ?_⟩, rfl, rfl⟩
            · rw [app_len, one_len]; omega
            · rw [app_len, one_len]; omega
        rintro σ3 H3 ⟨s, hs, rfl, rfl⟩
        walk_at "rs"
        refine r_join (fun σ' H' => ∃ (s : Str) (z7 : Option V), NmOk s ∧ H' = H3 ∧ σ' = [some (.ref a), some (.str lettersS), some (.ref L), some (.int c), some (.int (c % 4)), some (.int (c / 4)), some (.str s), z7, z8]) (fun Z hZ => ?_) ?_
        · walk_at "rs"
          refine r_truL hl2 ?_
          rw [emp]
          by_cases hne : nms = []
          · subst hne
            refine r_no rfl (r_iteF ?_)
            exact hZ _ _ ⟨s, _, hs, rfl, rfl⟩
          · refine r_yes (by cases nms with | nil => exact (hne rfl).elim | cons a r => rfl) ?_
            obtain ⟨lst, hlst, hlok⟩ := lastN hne
            walk_at "rs"
            refine r_ite (fun _ => ?_) (fun _ => hZ _ _ ⟨s, _, hs, rfl, rfl⟩)
            walk_at "rs"
            refine r_ixL hl2 hlst ?_
            walk_at "rs"
            refine r_lnS (Nat.le_trans hlok.2 (by decide)) ?_
            walk_at "rs"
            have hll : (0 : Int) < (lst.length : Int) := by have := hlok.1; omega
            refine r_I hll ?_
            walk_at "rs"
            refine r_ixL hl2 hlst ?_
            walk_at "rs"
            have p1 := Int.emod_nonneg (c / 4) (show (lst.length : Int) ≠ 0 by omega)
            have p2 := Int.emod_lt_of_pos (c / 4) hll
            have e6 : (c / 4 % (lst.length : Int)) = (((c / 4 % (lst.length : Int)).toNat : Nat) : Int) := by omega
            rw [e6]
            have hpl : (c / 4 % (lst.length : Int)).toNat < lst.length := by omega
            obtain ⟨k1, k2⟩ := cut_len lst hpl
            refine r_slS (Nat.le_trans hlok.2 (by decide)) ?_
            walk_at "rs"
            have h1 := Int.emod_nonneg (c / 4 / 12) (show (26 : Int) ≠ 0 by decide)
            have h2 := Int.emod_lt_of_pos (c / 4 / 12) (show (0 : Int) < 26 by decide)
            have e5 : (c / 4 / 12 % 26) = (((c / 4 / 12 % 26).toNat : Nat) : Int) := by omega
            rw [e5]
            refine r_ixS letters_len (letter_at (by omega)) ?_
            have hl12 := hlok.2
            refine ⟨_, _, rfl, rfl, Nat.le_trans (show (cutS lst none (some (((c / 4 % (lst.length : Int)).toNat : Nat) : Int))).length + 1 ≤ 100 by rw [k1]; omega) (by decide), ?_⟩
            walk_at "rs"
            refine r_ixL hl2 hlst ?_
            walk_at "rs"
            refine r_slS (Nat.le_trans hlok.2 (by decide)) ?_
            refine ⟨_, _, rfl, rfl, Nat.le_trans (show ((cutS lst none (some (((c / 4 % (lst.length : Int)).toNat : Nat) : Int))) ++ (⟨#[97 + (c / 4 / 12 % 26).toNat]⟩ : Str)).length + (cutS lst (some ((((c / 4 % (lst.length : Int)).toNat : Nat) : Int) + 1)) none).length ≤ 100 by rw [app_len, one_len, k1, k2]; omega) (by decide), ?_⟩
            walk_at "rs"
            refine hZ _ _ ⟨_, _, ⟨?_, ?_⟩, rfl, rfl⟩
            · rw [app_len, app_len, one_len, k1, k2]; omega
            · rw [app_len, app_len, one_len, k1, k2]; omega
        rintro σ4 H4 ⟨s4, z7', hs4, rfl, rfl⟩
        walk_at "rs"
        refine r_forR (by decide) (fun j σ' H' => ∃ (s : Str) (z8 : Option V), NmOk s ∧ H' = H4 ∧ (s ∉ nms ∨ ∀ m, m < j → twoL m ∈ nms) ∧ σ' = [some (.ref a), some (.str lettersS), some (.ref L), some (.int c), some (.int (c % 4)), some (.int (c / 4)), some (.str s), z7', z8]) ⟨s4, z8, hs4, rfl, .inr fun m h => absurd h (Nat.not_lt_zero m), rfl⟩ ?_ ?_
        · rintro j σ' H' hj ⟨s5, z8', hs5, rfl, hor, rfl⟩
          have hj : j < 100 := hj
          walk_at "rd"
          refine r_inL hl2 rfl ?_
          walk_at "rd"
          by_cases hm : s5 ∈ nms
          · refine r_yes (by simp [hm]) ?_
            walk_at "rd"
            have hj1 : ((j : Int) / 26) = ((j / 26 : Nat) : Int) := by omega
            have hj2 : ((j : Int) % 26) = ((j % 26 : Nat) : Int) := by omega
            rw [hj1]
            refine r_ixS letters_len (letter_at (by omega)) ?_
            walk_at "rd"
            rw [hj2]
            refine r_ixS letters_len (letter_at (by omega)) ?_
            refine ⟨_, _, rfl, rfl, by show 1 + 1 ≤ sizeLine; decide, ?_⟩
            walk_at "rd"
            refine ⟨twoL j, _, ⟨by rw [twoL_len]; decide, by rw [twoL_len]; decide⟩, rfl, ?_, rfl⟩
            by_cases h2 : twoL j ∈ nms
            · refine .inr fun m hm2 => ?_
              by_cases hmj : m = j
              · rw [hmj]; exact h2
              · exact hor.elim (fun z => (z hm).elim) fun z => z m (by omega)
            · exact .inl h2
          · refine r_no (by simp [hm]) ?_
            walk_at "rd"
            exact ⟨s5, _, hs5, rfl, .inl hm, rfl⟩
        · rintro σ' H' ⟨s5, z8', hs5, rfl, hor, rfl⟩
          have hnot : s5 ∉ nms := hor.elim id fun z _ => names_full (nms := nms) (by omega) z
          walk_at "rd"
          refine r_tyL hl2 ?_
          walk_at "rd"
          refine r_app hl2 (by rw [mapl]; omega) fun H6 e6 => ?_
          subst e6
          walk_at "rd"
          refine ⟨nms ++ [s5], _, _, _, _, _, _, hil, same_mut e02 hL, by rw [List.length_append, hn]; rfl, nd_snoc nd hnot, fun s hs => ?_, by rw [upd_same, List.map_append]; rfl, rfl⟩
          rcases List.mem_append.mp hs with hs | hs
          · exact hok s hs
          · rw [List.mem_singleton.mp hs]; exact hs5
    · rintro σ' H' ⟨nms, z3, z4, z5, z6, z7, z8, hi, e, hn, nd, hok, hl, rfl⟩
      walk_at "rd"
      rw [List.length_map] at hn
      exact q L H' nms e hn nd hok hl
end
end Vt
-- VtTree
set_option Elab.async false
set_option linter.all false
set_option maxRecDepth 100000
set_option maxHeartbeats 4000000
namespace Vt
open PySem PySem.Spec PyProof.Rows L2
/-! ### trees, told apart from any heap -/
def hdK : PyData → PyData
  | .tuple (k :: _) => k
  | _ => .none
def cntE : PyData → Nat
  | .tuple [_, _, .int n] => n.toNat
  | _ => 0
def chunkD (lv : Nat) (g : List PyData) : PyData := if lv = 0 then .tuple [.str "rows", .tuple g] else .tuple [.str "node", .int lv, .tuple g]
def cntG (lv : Nat) (g : List PyData) : Nat := if lv = 0 then g.length else (g.map cntE).sum
def lastK (g : List PyData) : PyData := hdK (g.getLast?.getD .none)
/-! grouping -/
def stepG (lv : Nat) (st : List (List PyData) × List PyData) (e : PyData) : List (List PyData) × List PyData :=
  if endsB lv (hdK e) (st.2.length + 1) = true then (st.1 ++ [st.2 ++ [e]], []) else (st.1, st.2 ++ [e])
def runG (lv : Nat) (es : List PyData) : List (List PyData) × List PyData := es.foldl (stepG lv) ([], [])
def grp (lv : Nat) (es : List PyData) : List (List PyData) := if (runG lv es).2 = [] then (runG lv es).1 else (runG lv es).1 ++ [(runG lv es).2]
theorem runG_snoc (lv : Nat) (es : List PyData) (e : PyData) : runG lv (es ++ [e]) = stepG lv (runG lv es) e := by
  unfold runG
  rw [List.foldl_append]
  rfl
theorem snoc_ind {α : Type} {p : List α → Prop} (h0 : p []) (hs : ∀ l a, p l → p (l ++ [a])) : ∀ l, p l := fun l => by
  rw [← List.reverse_reverse l]
  induction l.reverse with
  | nil => exact h0
  | cons a r ih => rw [List.reverse_cons]; exact hs _ _ ih
structure GInv (lv : Nat) (es : List PyData) (st : List (List PyData) × List PyData) : Prop where
  flat : st.1.flatten ++ st.2 = es
  ne : ∀ g ∈ st.1, g ≠ [] ∧ g.length ≤ 8
  cur : st.2.length < 8
  two : 0 < lv → ∀ g ∈ st.1, 2 ≤ g.length
theorem ends8 (lv : Nat) (k : PyData) : endsB lv k 8 = true := if_pos rfl
theorem ends1 {lv : Nat} (h : 0 < lv) (k : PyData) : endsB lv k 1 = false := by
  unfold endsB
  rw [if_neg (by decide), if_pos ⟨h, rfl⟩]
theorem runG_inv (lv : Nat) : ∀ es, GInv lv es (runG lv es) := snoc_ind ⟨rfl, fun g h => (by cases h), (by show 0 < 8; decide), fun _ g h => (by cases h)⟩ fun es e ih => by
  rw [runG_snoc]
  unfold stepG
  by_cases h : endsB lv (hdK e) ((runG lv es).2.length + 1) = true
  · rw [if_pos h]
    refine ⟨?_, fun g hg => ?_, by show 0 < 8; decide, fun hl g hg => ?_⟩
    · refine Eq.trans ?_ (congrArg (· ++ [e]) ih.flat)
      simp
    · rcases List.mem_append.mp hg with hg | hg
      · exact ih.ne g hg
      · rw [List.mem_singleton.mp hg]
        have := ih.cur
        exact ⟨by simp, by rw [List.length_append]; show (runG lv es).2.length + 1 ≤ 8; omega⟩
    · rcases List.mem_append.mp hg with hg | hg
      · exact ih.two hl g hg
      · rw [List.mem_singleton.mp hg, List.length_append]
        show 2 ≤ (runG lv es).2.length + 1
        by_cases h0 : (runG lv es).2.length = 0
        · rw [h0, ends1 hl] at h
          cases h
        · omega
  · rw [if_neg h]
    refine ⟨?_, ih.ne, ?_, ih.two⟩
    · show (runG lv es).1.flatten ++ ((runG lv es).2 ++ [e]) = es ++ [e]
      rw [← List.append_assoc, ih.flat]
    · show ((runG lv es).2 ++ [e]).length < 8
      rw [List.length_append]
      show (runG lv es).2.length + 1 < 8
      have := ih.cur
      by_cases h7 : (runG lv es).2.length = 7
      · rw [h7, ends8] at h
        exact (h rfl).elim
      · omega
theorem grp_flat (lv : Nat) (es : List PyData) : (grp lv es).flatten = es := by
  have g := runG_inv lv es
  unfold grp
  by_cases h : (runG lv es).2 = []
  · rw [if_pos h]
    have f := g.flat
    rw [h, List.append_nil] at f
    exact f
  · rw [if_neg h, List.flatten_append]
    simpa using g.flat
theorem grp_ne (lv : Nat) (es : List PyData) : ∀ g ∈ grp lv es, g ≠ [] ∧ g.length ≤ 8 := fun g hg => by
  have i := runG_inv lv es
  unfold grp at hg
  by_cases h : (runG lv es).2 = []
  · rw [if_pos h] at hg
    exact i.ne g hg
  · rw [if_neg h] at hg
    rcases List.mem_append.mp hg with hg | hg
    · exact i.ne g hg
    · rw [List.mem_singleton.mp hg]
      exact ⟨h, Nat.le_of_lt i.cur⟩
theorem flat_two : ∀ (l : List (List PyData)), (∀ g ∈ l, 2 ≤ g.length) → 2 * l.length ≤ l.flatten.length
  | [], _ => Nat.zero_le _
  | g :: r, h => by
    have h1 := h g (List.mem_cons_self ..)
    have h2 := flat_two r fun g hg => h g (List.mem_cons_of_mem _ hg)
    rw [List.flatten_cons, List.length_append, List.length_cons]
    omega
theorem flat_one : ∀ (l : List (List PyData)), (∀ g ∈ l, g ≠ []) → l.length ≤ l.flatten.length
  | [], _ => Nat.zero_le _
  | g :: r, h => by
    have h1 := List.length_pos_iff.mpr (h g (List.mem_cons_self ..))
    have h2 := flat_one r fun g hg => h g (List.mem_cons_of_mem _ hg)
    rw [List.flatten_cons, List.length_append, List.length_cons]
    omega
theorem grp_half {lv : Nat} (hl : 0 < lv) (es : List PyData) : 2 * (grp lv es).length ≤ es.length + 1 := by
  have i := runG_inv lv es
  have t := flat_two _ (i.two hl)
  have f := congrArg List.length i.flat
  rw [List.length_append] at f
  unfold grp
  by_cases h : (runG lv es).2 = []
  · rw [if_pos h]
    omega
  · rw [if_neg h, List.length_append]
    have := List.length_pos_iff.mpr h
    show 2 * ((runG lv es).1.length + 1) ≤ es.length + 1
    omega
theorem grp_le (lv : Nat) (es : List PyData) : (grp lv es).length ≤ es.length := by
  have := flat_one _ fun g hg => (grp_ne lv es g hg).1
  rw [grp_flat] at this
  exact this
theorem grp_pos {lv : Nat} {es : List PyData} (h : es ≠ []) : 1 ≤ (grp lv es).length := by
  cases hg : grp lv es with
  | nil =>
    have := grp_flat lv es
    rw [hg] at this
    exact (h this.symm).elim
  | cons a r => exact Nat.succ_le_succ (Nat.zero_le _)
/-! ### what may be written, and how long it is -/
structure En (m L : Nat) (d : PyData) : Prop where
  ok : encOk d = true
  dp : dep d ≤ m
  ln : (encL d).length ≤ L
theorem En.mono {m L m' L' : Nat} {d : PyData} (h : En m L d) (h1 : m ≤ m') (h2 : L ≤ L') : En m' L' d := ⟨h.ok, Nat.le_trans h.dp h1, Nat.le_trans h.ln h2⟩
theorem En.int {i : Int} (h : i.natAbs < 10 ^ 60) : En 0 70 (.int i) := ⟨encOk_int h, Nat.le_of_eq (dep_int i), by
  have := numL_60 h
  rw [encL_int, List.length_cons, List.length_append, List.length_singleton]
  unfold intL
  split
  · rw [List.length_cons]; omega
  · omega⟩
theorem En.str {s : Str} (h : s.length ≤ 60) : En 0 70 (.str s) := ⟨encOk_str (by omega), Nat.le_of_eq (dep_str s), by
  have := numL_3 (n := s.length) (by omega)
  rw [encL_str, List.length_cons, List.length_append, List.length_cons, ← TL.len_tl]
  omega⟩
theorem En.none : En 0 70 .none := ⟨encOk_none, Nat.le_of_eq dep_none, by rw [encL_none]; decide⟩
theorem Sc.en {d : PyData} (h : Sc d) : En 0 70 d := by
  rcases h with rfl | ⟨i, rfl, h⟩ | ⟨s, rfl, h⟩
  · exact En.none
  · exact En.int h
  · exact En.str h
theorem encLs_len {L : Nat} : ∀ {ds : List PyData}, (∀ d ∈ ds, (encL d).length ≤ L) → (encLs ds).length ≤ ds.length * L
  | [], _ => by rw [encLs_nil]; exact Nat.zero_le _
  | d :: r, h => by
    have h1 := h d (List.mem_cons_self ..)
    have h2 := encLs_len fun d hd => h d (List.mem_cons_of_mem _ hd)
    rw [encLs_cons, List.length_append, List.length_cons, Nat.succ_mul]
    omega
theorem En.tup {m L n : Nat} {ds : List PyData} (hn : ds.length ≤ n) (h1 : n < 1000) (h : ∀ d ∈ ds, En m L d) : En (m + 1) (n * L + 2) (.tuple ds) := by
  refine ⟨?_, ?_, ?_⟩
  · rw [encOk_tup, Bool.and_eq_true]
    exact ⟨decide_eq_true (by omega), (encOks_all ds).mpr fun d hd => (h d hd).ok⟩
  · rw [dep_tup]
    exact Nat.succ_le_succ (deps_le.mpr fun d hd => (h d hd).dp)
  · rw [encL_tup, List.length_cons, List.length_append, List.length_singleton]
    have := encLs_len fun d hd => (h d hd).ln
    have h2 : ds.length * L ≤ n * L := Nat.mul_le_mul_right _ hn
    omega
/-- an entry that may be written -/
def Eo (e : PyData) : Prop := ∃ k r, e = .tuple (.tuple k :: r) ∧ En 1 142 (.tuple k) ∧ En 2 1700 e
theorem Eo.key {e : PyData} (h : Eo e) : En 1 142 (hdK e) := let ⟨_, _, e1, h1, _⟩ := h; by rw [e1]; exact h1
theorem Eo.en {e : PyData} (h : Eo e) : En 2 1700 e := let ⟨_, _, _, _, h2⟩ := h; h2
theorem group_en {g : List PyData} (hl : g.length ≤ 8) (h : ∀ e ∈ g, Eo e) : En 3 13602 (.tuple g) := En.tup hl (by decide) fun e he => (h e he).en
theorem chunk_en {lv : Nat} {g : List PyData} (hlv : lv ≤ 20) (hl : g.length ≤ 8) (h : ∀ e ∈ g, Eo e) : En 4 40808 (chunkD lv g) := by
  have hg := group_en hl h
  unfold chunkD
  split
  · refine En.tup (L := 13602) (n := 3) (by simp) (by decide) fun d hd => ?_
    have e : d = .str "rows" ∨ d = .tuple g := by simpa using hd
    rcases e with e | e <;> subst e
    · exact (En.str (by decide +kernel)).mono (by decide) (by decide)
    · exact hg
  · refine En.tup (L := 13602) (n := 3) (by simp) (by decide) fun d hd => ?_
    have e : d = .str "node" ∨ d = .int lv ∨ d = .tuple g := by simpa using hd
    rcases e with e | e | e <;> subst e
    · exact (En.str (by decide +kernel)).mono (by decide) (by decide)
    · exact (En.int (by show (lv : Nat) < 10 ^ 60; omega)).mono (by decide) (by decide)
    · exact hg
theorem ent_eo {k : PyData} {ks : List PyData} {a : Int} {c : Nat} (hk : k = .tuple ks) (h : En 1 142 k) (ha : a.natAbs < 10 ^ 60) (hc : c < 10 ^ 60) : Eo (.tuple [k, .int a, .int c]) := by
  subst hk
  refine ⟨ks, _, rfl, h, ?_⟩
  refine (En.tup (m := 1) (L := 142) (n := 3) (by simp) (by decide) fun d hd => ?_).mono (by decide) (by decide)
  have e : d = .tuple ks ∨ d = .int a ∨ d = .int c := by simpa using hd
  rcases e with e | e | e <;> subst e
  · exact h
  · exact (En.int ha).mono (by decide) (by decide)
  · exact (En.int (by show c < 10 ^ 60; exact hc)).mono (by decide) (by decide)
theorem row_eo {ks rs : List PyData} (hk : ks.length ≤ 2) (hr : rs.length ≤ 12) (h1 : ∀ d ∈ ks, Sc d) (h2 : ∀ d ∈ rs, Sc d) : Eo (.tuple [.tuple ks, .tuple rs]) := by
  have k1 := En.tup hk (by decide) fun d hd => (h1 d hd).en
  have r1 := En.tup hr (by decide) fun d hd => (h2 d hd).en
  refine ⟨ks, _, rfl, k1, ?_⟩
  refine (En.tup (m := 1) (L := 842) (n := 2) (by simp) (by decide) fun d hd => ?_).mono (by decide) (by decide)
  have e : d = .tuple ks ∨ d = .tuple rs := by simpa using hd
  rcases e with e | e <;> subst e
  · exact k1.mono (by decide) (by decide)
  · exact r1
theorem BkR.small {bk : List Str} {a : Int} {x : Str} (h : BkR bk a x) (hl : bk.length ≤ 10000000) : a.natAbs < 10 ^ 60 := by
  obtain ⟨i, e, h⟩ := h
  have := (List.getElem?_eq_some_iff.mp h).1
  omega
/-! ### what is written at a level -/
def Ent (Pp : Pr) (lv : Nat) (g : List PyData) (e : PyData) : Prop := ∃ a : Int, e = .tuple [lastK g, .int a, .int (cntG lv g)] ∧ Pp a (encS (chunkD lv g)) ∧ En 4 40808 (chunkD lv g)
theorem Ent.mono {P1 P2 : Pr} (h : ∀ a x, P1 a x → P2 a x) {lv : Nat} {g : List PyData} {e : PyData} (k : Ent P1 lv g e) : Ent P2 lv g e := let ⟨a, e1, p, q⟩ := k; ⟨a, e1, h _ _ p, q⟩
def Lev (Pp : Pr) (lv : Nat) (es above : List PyData) : Prop := Paired (Ent Pp lv) (grp lv es) above
inductive Bld (Pp : Pr) : Nat → List PyData → Int → Prop
  | one {lv : Nat} {k : PyData} {a : Int} {c : Int} : Bld Pp lv [.tuple [k, .int a, .int c]] a
  | more {lv : Nat} {ab ab2 : List PyData} {r : Int} : 2 ≤ ab.length → Lev Pp (lv + 1) ab ab2 → Bld Pp (lv + 1) ab2 r → Bld Pp lv ab r
/-- the root r stands for the entries es -/
def Root (Pp : Pr) (es : List PyData) (r : Int) : Prop := (es = [] ∧ Pp r (encS (chunkD 0 []))) ∨ (es ≠ [] ∧ ∃ ab, Lev Pp 0 es ab ∧ Bld Pp 0 ab r)
theorem Lev.mono {P1 P2 : Pr} (h : ∀ a x, P1 a x → P2 a x) {lv : Nat} {es ab : List PyData} (l : Lev P1 lv es ab) : Lev P2 lv es ab := pd_mono l fun _ _ k => k.mono h
theorem Bld.mono {P1 P2 : Pr} (h : ∀ a x, P1 a x → P2 a x) {lv : Nat} {ab : List PyData} {r : Int} (b : Bld P1 lv ab r) : Bld P2 lv ab r := by
  induction b with
  | one => exact .one
  | more h1 h2 _ ih => exact .more h1 (h2.mono h) ih
theorem Root.mono {P1 P2 : Pr} (h : ∀ a x, P1 a x → P2 a x) {es : List PyData} {r : Int} (b : Root P1 es r) : Root P2 es r :=
  b.imp (fun ⟨e, p⟩ => ⟨e, h _ _ p⟩) fun ⟨n, ab, l, b⟩ => ⟨n, ab, l.mono h, b.mono h⟩
/-- one text has one address -/
def Inj (Pp : Pr) : Prop := ∀ a b x, Pp a x → Pp b x → a = b
theorem pd_fun {α β : Type} {F : α → β → Prop} (h : ∀ a b c, F a b → F a c → b = c) : ∀ {l : List α} {m n : List β}, Paired F l m → Paired F l n → m = n
  | _, _, _, .nil, .nil => rfl
  | _, _, _, .cons r t, .cons r2 t2 => by rw [h _ _ _ r r2, pd_fun h t t2]
theorem Lev.uniq {Pp : Pr} (I : Inj Pp) {lv : Nat} {es ab ab2 : List PyData} (l : Lev Pp lv es ab) (l2 : Lev Pp lv es ab2) : ab = ab2 :=
  pd_fun (fun g e e2 ⟨a, e1, p, _⟩ ⟨a2, e3, p2, _⟩ => by rw [e1, e3, I _ _ _ p p2]) l l2
theorem Bld.uniq {Pp : Pr} (I : Inj Pp) {lv : Nat} {ab : List PyData} {r r2 : Int} (b : Bld Pp lv ab r) (b2 : Bld Pp lv ab r2) : r = r2 := by
  induction b with
  | one => cases b2 with
    | one => rfl
    | more h => simp at h
  | more h l _ ih => cases b2 with
    | one => simp at h
    | more h' l' b' =>
      have e := l.uniq I l'
      subst e
      exact ih b'
theorem Root.uniq {Pp : Pr} (I : Inj Pp) {es : List PyData} {r r2 : Int} (b : Root Pp es r) (b2 : Root Pp es r2) : r = r2 := by
  rcases b with ⟨e, p⟩ | ⟨n, ab, l, b⟩ <;> rcases b2 with ⟨e', p'⟩ | ⟨n', ab', l', b'⟩
  · exact I _ _ _ p p'
  · exact (n' e).elim
  · exact (n e').elim
  · have e := l.uniq I l'
    subst e
    exact b.uniq I b'
/-! ### what is read -/
mutual
inductive Rd1 (Pp : Pr) : Nat → Int → List PyData → Prop
  | rows {n : Nat} {a : Int} {g : List PyData} : Pp a (encS (chunkD 0 g)) → En 4 40808 (chunkD 0 g) → Rd1 Pp n a g
  | node {n lv : Nat} {a : Int} {g es : List PyData} : 0 < lv → Pp a (encS (chunkD lv g)) → En 4 40808 (chunkD lv g) → RdA Pp n g es → Rd1 Pp (n + 1) a es
inductive RdA (Pp : Pr) : Nat → List PyData → List PyData → Prop
  | nil {n : Nat} : RdA Pp n [] []
  | cons {n : Nat} {k : PyData} {a c : Int} {g es fs : List PyData} : Rd1 Pp n a es → RdA Pp n g fs → RdA Pp n (.tuple [k, .int a, .int c] :: g) (es ++ fs)
end
theorem rda_append {Pp : Pr} {n : Nat} : ∀ {g h es fs : List PyData}, RdA Pp n g es → RdA Pp n h fs → RdA Pp n (g ++ h) (es ++ fs)
  | [], _, _, _, .nil, b => b
  | _ :: _, _, _, _, .cons a r, b => by
    rw [List.cons_append, List.append_assoc]
    exact .cons a (rda_append r b)
/-- a level that can be read makes one above that can be read -/
theorem rda_up {Pp : Pr} {n lv : Nat} (h0 : 0 < lv) : ∀ {gs : List (List PyData)} {ab es : List PyData}, Paired (Ent Pp lv) gs ab → RdA Pp n gs.flatten es → RdA Pp (n + 1) ab es
  | [], _, es, .nil, h => by
    cases h
    exact .nil
  | g :: gs, _, es, .cons ⟨a, e, p, hen⟩ t, h => by
    rw [List.flatten_cons] at h
    have split : ∀ {g h es : List PyData}, RdA Pp n (g ++ h) es → ∃ e1 e2, es = e1 ++ e2 ∧ RdA Pp n g e1 ∧ RdA Pp n h e2 := by
      intro g
      induction g with
      | nil => intro h es r; exact ⟨[], es, rfl, .nil, r⟩
      | cons x g ih =>
        intro h es r
        cases r with
        | cons a r =>
          obtain ⟨e1, e2, e3, r1, r2⟩ := ih r
          exact ⟨_ ++ e1, e2, by rw [e3, List.append_assoc], .cons a r1, r2⟩
    obtain ⟨e1, e2, e3, r1, r2⟩ := split h
    subst e e3
    exact .cons (.node h0 p hen r1) (rda_up h0 t r2)
theorem rda_0 {Pp : Pr} {n : Nat} : ∀ {gs : List (List PyData)} {ab : List PyData}, Paired (Ent Pp 0) gs ab → RdA Pp n ab gs.flatten
  | [], _, .nil => .nil
  | g :: gs, _, .cons ⟨a, e, p, hen⟩ t => by
    subst e
    rw [List.flatten_cons]
    exact .cons (.rows p hen) (rda_0 t)
theorem bld_rd {Pp : Pr} {lv : Nat} {ab : List PyData} {r : Int} (b : Bld Pp lv ab r) : ∀ {n : Nat} {es : List PyData}, RdA Pp n ab es → ∀ k : Nat, ab.length ≤ 2 ^ k → Rd1 Pp (n + k) r es := by
  induction b with
  | one =>
    intro n es h k _
    cases h with
    | cons a r =>
      cases r
      rw [List.append_nil]
      have up : ∀ {n m : Nat} {a : Int} {es : List PyData}, n ≤ m → Rd1 Pp n a es → Rd1 Pp m a es := by
        intro n
        induction n with
        | zero =>
          intro m a es _ h
          cases h with
          | rows p q => exact .rows p q
        | succ n ih =>
          intro m a es hm h
          cases h with
          | rows p q => exact .rows p q
          | node h0 p hen r =>
            obtain ⟨m', rfl⟩ : ∃ m', m = m' + 1 := ⟨m - 1, by omega⟩
            refine .node h0 p hen ?_
            clear p hen
            rename_i lv g
            revert r
            generalize hg : g = g'
            clear hg
            intro r
            have : ∀ {g es : List PyData}, RdA Pp n g es → RdA Pp m' g es := by
              intro g
              induction g with
              | nil => intro es r; cases r; exact .nil
              | cons x g ih2 =>
                intro es r
                cases r with
                | cons a r => exact .cons (ih (by omega) a) (ih2 r)
            exact this r
      exact up (Nat.le_add_right _ _) a
  | more h2 l _ ih =>
    intro n es h k hk
    cases k with
    | zero =>
      rw [Nat.pow_zero] at hk
      omega
    | succ k =>
      have hp := pd_len l
      rename_i lv ab ab2 r _
      have h3 : 2 * (grp (lv + 1) ab).length ≤ ab.length + 1 := grp_half (Nat.succ_pos lv) ab
      have z := ih (rda_up (Nat.succ_pos lv) (gs := grp (lv + 1) ab) l (by rw [grp_flat]; exact h)) k (by
        rw [← pd_len l]
        rw [Nat.pow_succ] at hk
        omega)
      rw [show n + (k + 1) = n + 1 + k by omega]
      exact z
/-- every root can be read -/
theorem Root.rd {Pp : Pr} {es : List PyData} {r : Int} (h : Root Pp es r) (k : Nat) (hk : es.length ≤ 2 ^ k) : Rd1 Pp k r es := by
  rcases h with ⟨e, p⟩ | ⟨n, ab, l, b⟩
  · subst e
    exact .rows p (chunk_en (by decide) (by decide) fun e h => by cases h)
  · have z := bld_rd b (n := 0) (rda_0 l) k (by
      rw [← pd_len l]
      exact Nat.le_trans (grp_le 0 es) hk)
    rw [grp_flat, Nat.zero_add] at z
    exact z
end Vt
-- VtD9
set_option Elab.async false
set_option linter.all false
set_option maxRecDepth 100000
set_option maxHeartbeats 4000000
namespace Vt
open PySem PySem.Spec PyProof.Rows L2
local macro_rules | `(tactic| walk_at "rd") => `(tactic| (repeat (first
  | with_reducible refine r_sasg ?_ | with_reducible refine r_sfset ?_ | with_reducible refine r_sfaug ?_ | with_reducible refine r_sdput ?_ | with_reducible refine r_sdrop ?_ | with_reducible refine r_swhen ?_ | with_reducible refine r_sif ?_ | with_reducible refine r_asg ?_ | with_reducible refine r_drop ?_
  | with_reducible refine r_ret ?_ | with_reducible refine r_if ?_ | with_reducible refine r_next ?_
  | with_reducible refine r_c ?_ | with_reducible refine r_var (by with_unfolding_all exact rfl) ?_ | with_reducible refine r_op ?_ | with_reducible refine r_un ?_ | with_reducible refine r_I0 ?_ | ((with_reducible refine r_I ?_ ?_); · first | (show (0 : Int) < _; decide) | exact div_ok (by decide) (by decide)) | with_reducible refine r_U ?_
  | with_reducible refine r_eq (by with_unfolding_all exact rfl) ?_ | with_reducible refine r_ne (by with_unfolding_all exact rfl) ?_
  | with_reducible refine r_tstq ?_ | with_reducible refine r_tBq ?_ | with_reducible refine r_blq ?_ | with_reducible refine r_intq ?_ | with_reducible refine r_and ?_ | with_reducible refine r_or ?_ | with_reducible refine r_not ?_
  | with_reducible refine r_andV ?_ | with_reducible refine r_orV ?_ | with_reducible refine r_notV ?_
  | with_reducible refine r_nil ?_ | with_reducible refine r_cons ?_ | with_reducible refine r_call ?_ | with_reducible refine r_tup ?_ | with_reducible refine r_lst ?_ | with_reducible refine r_cb ?_ | with_reducible refine r_int1 ?_ | with_reducible refine r_ord ?_
  | with_reducible refine r_sl ?_ | with_reducible refine r_nop ?_ | with_reducible refine r_partq ?_ | with_reducible refine r_bm ?_ | with_reducible refine r_fld ?_
  | with_reducible refine r_lct ?_ | with_reducible refine r_lcl ?_ | with_reducible refine r_lcr ?_ | with_reducible refine r_sfort ?_ | with_reducible refine r_sforl ?_ | with_reducible refine r_sfors ?_ | with_reducible refine r_sforr ?_ | with_reducible refine r_sforz ?_
  | with_reducible refine r_fort ?_ | with_reducible refine r_forl ?_ | with_reducible refine r_forr ?_ | with_reducible refine r_sasgt ?_ | with_reducible refine r_asgt ?_ | with_reducible refine r_saug (by with_unfolding_all exact rfl) ?_ | with_reducible refine r_aug (by with_unfolding_all exact rfl) ?_ | with_reducible refine r_ip ?_ | with_reducible refine r_gname ?_ | with_reducible refine r_seq ?_
  | with_reducible refine r_dget ?_ | with_reducible refine r_din ?_ | with_reducible refine r_dnotin ?_ | with_reducible refine r_sdput ?_ | with_reducible refine r_dput ?_ | with_reducible refine r_mg ?_ | with_reducible refine r_rev ?_ | with_reducible refine r_dzip ?_
  | with_reducible refine r_lcz ?_ | with_reducible refine r_form ?_
  | with_reducible refine r_sfset ?_ | with_reducible refine r_fset ?_ | with_reducible refine r_sfaug ?_ | with_reducible refine r_meth ?_ | with_reducible refine r_make ?_
  | with_reducible refine r_srtl ?_ | with_reducible refine r_m1q ?_ | with_reducible refine r_strq ?_
  | with_reducible refine r_iteT ?_ | with_reducible refine r_iteF ?_)))
local macro_rules | `(tactic| walk_at "rs") => `(tactic| (repeat (first
  | with_reducible refine r_sasg ?_ | with_reducible refine r_sfset ?_ | with_reducible refine r_sfaug ?_ | with_reducible refine r_sdput ?_ | with_reducible refine r_sdrop ?_ | with_reducible refine r_asg ?_ | with_reducible refine r_drop ?_
  | with_reducible refine r_ret ?_ | with_reducible refine r_next ?_
  | with_reducible refine r_c ?_ | with_reducible refine r_var (by with_unfolding_all exact rfl) ?_ | with_reducible refine r_op ?_ | with_reducible refine r_un ?_ | with_reducible refine r_I0 ?_ | ((with_reducible refine r_I ?_ ?_); · first | (show (0 : Int) < _; decide) | exact div_ok (by decide) (by decide)) | with_reducible refine r_U ?_
  | with_reducible refine r_eq (by with_unfolding_all exact rfl) ?_ | with_reducible refine r_ne (by with_unfolding_all exact rfl) ?_
  | with_reducible refine r_tstq ?_ | with_reducible refine r_tBq ?_ | with_reducible refine r_blq ?_ | with_reducible refine r_intq ?_ | with_reducible refine r_and ?_ | with_reducible refine r_or ?_ | with_reducible refine r_not ?_
  | with_reducible refine r_andV ?_ | with_reducible refine r_orV ?_ | with_reducible refine r_notV ?_
  | with_reducible refine r_nil ?_ | with_reducible refine r_cons ?_ | with_reducible refine r_call ?_ | with_reducible refine r_tup ?_ | with_reducible refine r_lst ?_ | with_reducible refine r_cb ?_ | with_reducible refine r_int1 ?_ | with_reducible refine r_ord ?_
  | with_reducible refine r_sl ?_ | with_reducible refine r_nop ?_ | with_reducible refine r_partq ?_ | with_reducible refine r_bm ?_ | with_reducible refine r_fld ?_
  | with_reducible refine r_lct ?_ | with_reducible refine r_lcl ?_ | with_reducible refine r_lcr ?_ | with_reducible refine r_sfort ?_ | with_reducible refine r_sforl ?_ | with_reducible refine r_sfors ?_ | with_reducible refine r_sforr ?_ | with_reducible refine r_sforz ?_
  | with_reducible refine r_fort ?_ | with_reducible refine r_forl ?_ | with_reducible refine r_forr ?_ | with_reducible refine r_sasgt ?_ | with_reducible refine r_asgt ?_ | with_reducible refine r_saug (by with_unfolding_all exact rfl) ?_ | with_reducible refine r_aug (by with_unfolding_all exact rfl) ?_ | with_reducible refine r_ip ?_ | with_reducible refine r_gname ?_ | with_reducible refine r_seq ?_
  | with_reducible refine r_dget ?_ | with_reducible refine r_din ?_ | with_reducible refine r_dnotin ?_ | with_reducible refine r_sdput ?_ | with_reducible refine r_dput ?_ | with_reducible refine r_mg ?_ | with_reducible refine r_rev ?_ | with_reducible refine r_dzip ?_
  | with_reducible refine r_lcz ?_ | with_reducible refine r_form ?_
  | with_reducible refine r_sfset ?_ | with_reducible refine r_fset ?_ | with_reducible refine r_sfaug ?_ | with_reducible refine r_meth ?_ | with_reducible refine r_make ?_
  | with_reducible refine r_srtl ?_ | with_reducible refine r_m1q ?_ | with_reducible refine r_strq ?_
  | with_reducible refine r_iteT ?_ | with_reducible refine r_iteF ?_)))
local macro_rules | `(tactic| walk_at "tex") => `(tactic| (first
  | assumption | exact TEx.refl _ | exact TEx.of (by assumption) | ((refine TEx.trans ?_ (TEx.of (by assumption))); walk_at "tex") | ((refine TEx.trans ?_ (by assumption)); walk_at "tex")))
local macro_rules | `(tactic| walk_at "same") => `(tactic| (first
  | assumption | exact Same.refl _ | ((refine Same.trans ?_ (by assumption)); walk_at "same")))
local macro_rules | `(tactic| walk_at "tp") => `(tactic| (first
  | assumption | exact Tp.int _ | exact Tp.str _ | exact Tp.non | exact TpAll.nil | ((refine TpAll.cons ?_ ?_) <;> walk_at "tp") | ((refine Tp.mono ?_ (by assumption)); walk_at "tex") | ((refine TpAll.mono ?_ (by assumption)); walk_at "tex")))
local macro_rules | `(tactic| walk_at "hp") => `(tactic| (first
  | assumption | ((refine (TEx.trans ?_ (TEx.refl _)) _ _ (by assumption)); walk_at "tex")))
section
variable {P : Program} {w : World} {K : PySem.W.Frag} {mg : Str → Option Value} {base : Heap}
/-! ### Book.__init__ -/
abbrev n_Book_init : List Str := ["self"]
theorem sc_Book_init : FnScope n_Book_init ["self"] (defScope s_Book_init) := ⟨rfl, rfl, rfl, by decide +kernel, rfl, by decide +kernel, by decide +kernel⟩
theorem bd_Book_init : BindM "__init__" "Book.__init__" s_Book_init ["self"] := fun _ _ _ _ _ _ us hl => match us, hl with | [_], _ => rfl
def spBookInit (K : PySem.W.Frag) : Sp := fun vs H Q _ => ∃ b dx, vs = [.ref b] ∧ H b = some (.ins (cB K) dx []) ∧ ∀ n H', n ≠ b → H n = none → ExB [b] H H' → H' b = some (.ins (cB K) dx [("numbers", .ref n)]) → H' n = some (.dK []) → Q .non H'
theorem cal_Book_init (T : Tx K mg) : CalI P w K mg base 1 "Book" (cB K) ["self"] (spBookInit K) := by
  refine ⟨?_, T.g_Book⟩
  have F := fn_m (P := P) (w := w) (mg := mg) (base := base) (N := n_Book_init) (k := 0) (sp := spBookInit K) (T.at_Book_init) sc_Book_init bd_Book_init (fun vs H Q E h => ?_) fun f cdv A outer s H0 E hr => ⟨_, (pss_one (ps_fld (pv 0) pe_dnewK rfl)), fun vs H Q h => ?_⟩
  · obtain ⟨fd, F, B⟩ := F
    exact ⟨_, fd, F, T.mk_Book, B⟩
  · obtain ⟨b, dx, rfl, _⟩ := h
    rfl
  · obtain ⟨b, dx, rfl, hb, q⟩ := h
    walk_at "rd"
    refine r_dnewK fun n H1 hn e1 hn1 => ?_
    walk_at "rd"
    refine r_fsetq (e1 _ _ hb) T.cl_Book T.na_numbers (by decide) fun H2 e2 => ?_
    subst e2
    have hne : n ≠ b := fun e => by rw [e, hb] at hn; cases hn
    exact q n _ hne hn ((ExB.of e1).trans (ExB.upd (List.mem_singleton.mpr rfl))) upd_same (by rw [upd_ne hne]; exact hn1)
/-! ### Book.address -/
abbrev n_Book_address : List Str := ["self", "text"]
theorem sc_Book_address : FnScope n_Book_address ["self", "text"] (defScope s_Book_address) := ⟨rfl, rfl, rfl, by decide +kernel, rfl, by decide +kernel, by decide +kernel⟩
theorem bd_Book_address : BindM "address" "Book.address" s_Book_address ["self", "text"] := fun _ _ _ _ _ _ us hl => match us, hl with | [_, _], _ => rfl
def spAddress (K : PySem.W.Frag) : Sp := fun vs H Q _ => ∃ (b n c t : Addr) (bk : List Str) (Pp : Pr) (N : Nat) (x : Str), vs = [.ref b, .str x] ∧ Sg K H b n c t bk Pp N ∧ N < 900000 ∧
  ∀ (a : Int) (H' : Hp) (bk' : List Str), Sg K H' b n c t bk' Pp (N + 1) → Wr H H' n c t bk bk' Pp Pp → BkR bk' a x → Q (.int a) H'
theorem cal_address (T : Tx K mg) : CalM P w K mg base 1 (cB K) "address" ["self", "text"] (spAddress K) := by
  refine ⟨?_, T.cl_Book⟩
  have F := fn_m (P := P) (w := w) (mg := mg) (base := base) (N := n_Book_address) (k := 0) (sp := spAddress K) (T.at_Book_address) sc_Book_address bd_Book_address (fun vs H Q E h => ?_) fun f cdv A outer s H0 E hr => ⟨_, (pss_cons (ps_if (pt_cmp (pc_dnotin (hu_of hr) (pv 1) (pe_fld (pv 0) rfl)))
      (pss_one (ps_dput (hu_of hr) (pe_fld (pv 0) rfl) (pv 1) (pe_op op_add (pe_callB cr_lnD (by rfl) T.m_len PySem.boot_len (pa_cons (pe_fld (pv 0) rfl) pa_nil)) pe_int) rfl))
      pss_nil)
      (pss_one (ps_ret (pe_dget (hu_of hr) (pe_fld (pv 0) rfl) (pv 1) (fun _ _ => rfl))))), fun vs H Q h => ?_⟩
  · obtain ⟨fd, F, B⟩ := F
    exact ⟨_, fd, F, T.mt_address, B⟩
  · obtain ⟨b, n, c, t, bk, Pp, N, x, rfl, _⟩ := h
    rfl
  · obtain ⟨b, n, c, t, bk, Pp, N, x, rfl, g, hN, q⟩ := h
    obtain ⟨dx, hb⟩ := g.bi
    obtain ⟨kvs, hn, hl, hin, hout⟩ := g.bd
    walk_at "rd"
    refine r_fldq hb T.cl_Book T.na_numbers rfl ?_
    refine r_dinK (k := Sum.inr x) hn rfl ?_
    walk_at "rd"
    by_cases hx : x ∈ bk
    · obtain ⟨i, hi⟩ := List.mem_iff_getElem?.mp hx
      have hv := hin i x hi
      refine r_no (by rw [hv]; rfl) ?_
      walk_at "rd"
      refine r_fldq hb T.cl_Book T.na_numbers rfl ?_
      walk_at "rd"
      refine r_dgetK (k := Sum.inr x) hn rfl hv ?_
      exact q _ H bk (g.up (Nat.le_succ N)) (Wr.refl _ _ _ _ _ _) ⟨i, rfl, hi⟩
    · have hv := hout x hx
      refine r_yes (by rw [hv]; rfl) ?_
      walk_at "rd"
      refine r_fldq hb T.cl_Book T.na_numbers rfl ?_
      walk_at "rd"
      refine r_lnD hn ?_
      walk_at "rd"
      refine r_fldq hb T.cl_Book T.na_numbers rfl ?_
      walk_at "rd"
      have hbN := g.bN
      refine r_dputK (k := Sum.inr x) hn rfl (by omega) fun H1 e1 => ?_
      subst e1
      have hv2 : valV (putK kvs (Sum.inr x) (.int ((kvs.length : Int) + 1))) (Sum.inr x) = some (.int ((kvs.length : Int) + 1)) := by rw [valV_put, if_pos rfl]
      have nb : b ≠ n := ne_of hb hn (by intro z; cases z)
      walk_at "rd"
      refine r_fldq (by rw [upd_ne nb]; exact hb) T.cl_Book T.na_numbers rfl ?_
      walk_at "rd"
      refine r_dgetK (k := Sum.inr x) upd_same rfl hv2 ?_
      obtain ⟨dc, i, hc⟩ := g.ci
      obtain ⟨k2, ht, hl2, hP⟩ := g.cd
      have nc : c ≠ n := ne_of hc hn (by intro z; cases z)
      refine q _ _ (bk ++ [x]) ⟨⟨dx, by rw [upd_ne nb]; exact hb⟩, ⟨_, upd_same, ?_, ?_, ?_⟩, ?_, ⟨dc, i, by rw [upd_ne nc]; exact hc⟩, ⟨k2, by rw [upd_ne g.nt.symm]; exact ht, Nat.le_succ_of_le hl2, hP⟩, fun a y h => (g.sub a y h).mono (List.prefix_append _ _), by rw [List.length_append]; show bk.length + 1 ≤ N + 1; omega, g.nt, g.bc, g.tb.upd hn trivial⟩ ⟨(ExB.upd (by simp)).s, List.prefix_append _ _, fun _ _ h => h, Nw.upd fun ps z => (by cases z)⟩ ⟨bk.length, by rw [hl], by rw [List.getElem?_append_right (Nat.le_refl _), Nat.sub_self]; rfl⟩
      · rw [putK_new _ hv, List.length_append, List.length_append, hl]
        rfl
      · intro j y hj
        rw [valV_put]
        by_cases hjb : j < bk.length
        · rw [List.getElem?_append_left hjb] at hj
          rw [if_neg]
          · exact hin j y hj
          · intro e
            exact hx (by rw [← Sum.inr.inj e]; exact List.mem_iff_getElem?.mpr ⟨j, hj⟩)
        · rw [List.getElem?_append_right (by omega)] at hj
          have hj0 : j - bk.length = 0 := by
            have := (List.getElem?_eq_some_iff.mp hj).1
            rw [List.length_singleton] at this
            omega
          rw [hj0] at hj
          have ey : y = x := (Option.some.inj hj).symm
          subst ey
          rw [if_pos rfl, hl, show j = bk.length by omega]
      · intro y hy
        rw [valV_put, if_neg]
        · exact hout y fun m => hy (List.mem_append_left _ m)
        · intro e
          exact hy (by rw [Sum.inr.inj e]; simp)
      · exact nd_snoc g.nd hx
/-! ### Chunks.__init__ -/
abbrev n_Chunks_init : List Str := ["self", "book"]
theorem sc_Chunks_init : FnScope n_Chunks_init ["self", "book"] (defScope s_Chunks_init) := ⟨rfl, rfl, rfl, by decide +kernel, rfl, by decide +kernel, by decide +kernel⟩
theorem bd_Chunks_init : BindM "__init__" "Chunks.__init__" s_Chunks_init ["self", "book"] := fun _ _ _ _ _ _ us hl => match us, hl with | [_, _], _ => rfl
def spChunksInit (K : PySem.W.Frag) : Sp := fun vs H Q _ => ∃ (c b dx : Addr), vs = [.ref c, .ref b] ∧ c ≠ b ∧ H c = some (.ins (cC K) dx []) ∧ ∀ t H', t ≠ c → H t = none → ExB [c] H H' → H' c = some (.ins (cC K) dx [("book", .ref b), ("reads", .int 0), ("texts", .ref t)]) → H' t = some (.dK []) → Q .non H'
theorem cal_Chunks_init (T : Tx K mg) : CalI P w K mg base 1 "Chunks" (cC K) ["self", "book"] (spChunksInit K) := by
  refine ⟨?_, T.g_Chunks⟩
  have F := fn_m (P := P) (w := w) (mg := mg) (base := base) (N := n_Chunks_init) (k := 0) (sp := spChunksInit K) (T.at_Chunks_init) sc_Chunks_init bd_Chunks_init (fun vs H Q E h => ?_) fun f cdv A outer s H0 E hr => ⟨_, (pss_cons (ps_fld (pv 0) (pv 1) rfl)
      (pss_cons (ps_fld (pv 0) pe_int rfl)
      (pss_one (ps_fld (pv 0) pe_dnewK rfl)))), fun vs H Q h => ?_⟩
  · obtain ⟨fd, F, B⟩ := F
    exact ⟨_, fd, F, T.mk_Chunks, B⟩
  · obtain ⟨c, b, dx, rfl, _⟩ := h
    rfl
  · obtain ⟨c, b, dx, rfl, hcb, hc, q⟩ := h
    walk_at "rd"
    refine r_fsetq hc T.cl_Chunks T.na_book (Nat.le_of_ble_eq_true rfl) fun H1 e1 => ?_
    walk_at "rd"
    subst e1
    refine r_fsetq upd_same T.cl_Chunks T.na_reads (Nat.le_of_ble_eq_true rfl) fun H2 e2 => ?_
    subst e2
    rw [upd_upd]
    walk_at "rd"
    refine r_dnewK fun t H3 ht e3 ht3 => ?_
    walk_at "rd"
    refine r_fsetq (e3 _ _ upd_same) T.cl_Chunks T.na_texts (Nat.le_of_ble_eq_true rfl) fun H4 e4 => ?_
    subst e4
    have htc : t ≠ c := fun e => by rw [e, upd_same] at ht; cases ht
    rw [upd_ne htc] at ht
    exact q t _ htc ht (((ExB.upd (List.mem_singleton.mpr rfl)).trans (ExB.of e3)).trans (ExB.upd (List.mem_singleton.mpr rfl))) upd_same (by rw [upd_ne htc]; exact ht3)
/-! ### Chunks.put -/
abbrev n_Chunks_put : List Str := ["self", "text", "address"]
theorem sc_Chunks_put : FnScope n_Chunks_put ["self", "text"] (defScope s_Chunks_put) := ⟨rfl, rfl, rfl, by decide +kernel, rfl, by decide +kernel, by decide +kernel⟩
theorem bd_Chunks_put : BindM "put" "Chunks.put" s_Chunks_put ["self", "text"] := fun _ _ _ _ _ _ us hl => match us, hl with | [_, _], _ => rfl
def spPut (K : PySem.W.Frag) : Sp := fun vs H Q _ => ∃ (b n c t : Addr) (bk : List Str) (Pp : Pr) (N : Nat) (x : Str), vs = [.ref c, .str x] ∧ Sg K H b n c t bk Pp N ∧ N < 900000 ∧
  ∀ (a : Int) (H' : Hp) (bk' : List Str) (P' : Pr), Sg K H' b n c t bk' P' (N + 2) → Wr H H' n c t bk bk' Pp P' → P' a x → Q (.int a) H'
theorem cal_put (T : Tx K mg) : CalM P w K mg base 2 (cC K) "put" ["self", "text"] (spPut K) := by
  have c_address := cal_address (P := P) (w := w) (base := base) T
  refine ⟨?_, T.cl_Chunks⟩
  have F := fn_m (P := P) (w := w) (mg := mg) (base := base) (N := n_Chunks_put) (k := 1) (sp := spPut K) (T.at_Chunks_put) sc_Chunks_put bd_Chunks_put (fun vs H Q E h => ?_) fun f cdv A outer s H0 E hr => ⟨_, (pss_cons (ps_set (i := 2) sc_Chunks_put.nd rfl (Or.inl rfl) (pe_calm c_address (pe_fld (pv 0) rfl) (hr.mono (by omega)) (pa_cons (pv 1) pa_nil)))
      (pss_cons (ps_dput (hu_of hr) (pe_fld (pv 0) rfl) (pv 2) (pv 1) rfl)
      (pss_one (ps_ret (pv 2))))), fun vs H Q h => ?_⟩
  · obtain ⟨fd, F, B⟩ := F
    exact ⟨_, fd, F, T.mt_put, B⟩
  · obtain ⟨b, n, c, t, bk, Pp, N, x, rfl, _⟩ := h
    rfl
  · obtain ⟨b, n, c, t, bk, Pp, N, x, rfl, g, hN, q⟩ := h
    obtain ⟨dx, hb⟩ := g.bi
    obtain ⟨dc, i, hc⟩ := g.ci
    walk_at "rd"
    refine r_fldq hc T.cl_Chunks T.na_book rfl ?_
    refine r_methq hb rfl ?_
    walk_at "rd"
    refine ⟨b, n, c, t, bk, Pp, N, x, rfl, g, hN, fun a H1 bk1 g1 w1 hR => ?_⟩
    obtain ⟨dc1, i1, hc1⟩ := g1.ci
    obtain ⟨k1, ht1, hl1, hP1⟩ := g1.cd
    walk_at "rd"
    refine r_fldq hc1 T.cl_Chunks T.na_texts rfl ?_
    walk_at "rd"
    refine r_dputK (k := Sum.inl a) ht1 rfl (by omega) fun H2 e2 => ?_
    subst e2
    walk_at "rd"
    obtain ⟨dx1, hb1⟩ := g1.bi
    obtain ⟨kn, hn1, r1⟩ := g1.bd
    have nb : b ≠ t := ne_of hb1 ht1 (by intro z; cases z)
    have nc : c ≠ t := ne_of hc1 ht1 (by intro z; cases z)
    refine q a _ bk1 (fun a' y => Pp a' y ∨ (a' = a ∧ y = x)) ⟨⟨dx1, by rw [upd_ne nb]; exact hb1⟩, ⟨kn, by rw [upd_ne g1.nt]; exact hn1, r1⟩, g1.nd, ⟨dc1, i1, by rw [upd_ne nc]; exact hc1⟩, ⟨_, upd_same, ?_, ?_⟩, ?_, Nat.le_succ_of_le g1.bN, g1.nt, g1.bc, g1.tb.upd ht1 trivial⟩ (w1.trans ⟨(ExB.upd (by simp)).s, List.prefix_refl _, fun _ _ h => .inl h, Nw.upd fun ps z => (by cases z)⟩) (.inr ⟨rfl, rfl⟩)
    · have := length_putK k1 (Sum.inl a) (.str x)
      omega
    · intro a' y h
      rw [valV_put]
      by_cases e : (Sum.inl a' : Key) = Sum.inl a
      · rw [if_pos e]
        have e := Sum.inl.inj e
        subst e
        rcases h with h | ⟨_, h⟩
        · rw [hR.fun1 (g1.sub _ _ h)]
        · rw [h]
      · rw [if_neg e]
        rcases h with h | ⟨h, _⟩
        · exact hP1 a' y h
        · exact (e (by rw [h])).elim
    · intro a' y h
      rcases h with h | ⟨h1, h2⟩
      · exact g1.sub _ _ h
      · rw [h1, h2]; exact hR
/-! ### Chunks.get -/
abbrev n_Chunks_get : List Str := ["self", "address"]
theorem sc_Chunks_get : FnScope n_Chunks_get ["self", "address"] (defScope s_Chunks_get) := ⟨rfl, rfl, rfl, by decide +kernel, rfl, by decide +kernel, by decide +kernel⟩
theorem bd_Chunks_get : BindM "get" "Chunks.get" s_Chunks_get ["self", "address"] := fun _ _ _ _ _ _ us hl => match us, hl with | [_, _], _ => rfl
def spGet (K : PySem.W.Frag) : Sp := fun vs H Q _ => ∃ (b n c t : Addr) (bk : List Str) (Pp : Pr) (N : Nat) (a : Int) (x : Str), vs = [.ref c, .int a] ∧ Sg K H b n c t bk Pp N ∧ Pp a x ∧
  ∀ (H' : Hp), Sg K H' b n c t bk Pp N → Wr H H' n c t bk bk Pp Pp → Q (.str x) H'
theorem cal_get (T : Tx K mg) : CalM P w K mg base 1 (cC K) "get" ["self", "address"] (spGet K) := by
  refine ⟨?_, T.cl_Chunks⟩
  have F := fn_m (P := P) (w := w) (mg := mg) (base := base) (N := n_Chunks_get) (k := 0) (sp := spGet K) (T.at_Chunks_get) sc_Chunks_get bd_Chunks_get (fun vs H Q E h => ?_) fun f cdv A outer s H0 E hr => ⟨_, (pss_cons (ps_fldaug (pv 0) pe_int in_add)
      (pss_cons (ps_if (pt_cmp (pc_dnotin (hu_of hr) (pv 1) (pe_fld (pv 0) rfl)))
      pss_never
      pss_nil)
      (pss_one (ps_ret (pe_dget (hu_of hr) (pe_fld (pv 0) rfl) (pv 1) (fun _ _ => rfl)))))), fun vs H Q h => ?_⟩
  · obtain ⟨fd, F, B⟩ := F
    exact ⟨_, fd, F, T.mt_get, B⟩
  · obtain ⟨b, n, c, t, bk, Pp, N, a, x, rfl, _⟩ := h
    rfl
  · obtain ⟨b, n, c, t, bk, Pp, N, a, x, rfl, g, hp, q⟩ := h
    obtain ⟨dx, hb⟩ := g.bi
    obtain ⟨kn, hn, r1⟩ := g.bd
    obtain ⟨dc, i, hc⟩ := g.ci
    obtain ⟨kt, ht, hl, hP⟩ := g.cd
    walk_at "rd"
    refine r_faugq hc T.cl_Chunks T.na_reads rfl (Nat.le_of_ble_eq_true rfl) fun H1 e1 => ?_
    subst e1
    have nt : t ≠ c := ne_of ht hc (by intro z; cases z)
    have nn : n ≠ c := ne_of hn hc (by intro z; cases z)
    walk_at "rd"
    refine r_fldq upd_same T.cl_Chunks T.na_texts rfl ?_
    refine r_dinK (k := Sum.inl a) (by rw [upd_ne nt]; exact ht) rfl ?_
    walk_at "rd"
    have hv := hP a x hp
    refine r_no (by rw [hv]; rfl) ?_
    walk_at "rd"
    refine r_fldq upd_same T.cl_Chunks T.na_texts rfl ?_
    walk_at "rd"
    refine r_dgetK (k := Sum.inl a) (by rw [upd_ne nt]; exact ht) rfl hv ?_
    exact q _ ⟨⟨dx, by rw [upd_ne g.bc]; exact hb⟩, ⟨kn, by rw [upd_ne nn]; exact hn, r1⟩, g.nd, ⟨dc, i + 1, upd_same⟩, ⟨kt, by rw [upd_ne nt]; exact ht, hl, hP⟩, g.sub, g.bN, g.nt, g.bc, g.tb.upd hc trivial⟩ ⟨(ExB.upd (by simp)).s, List.prefix_refl _, fun _ _ h => h, Nw.upd fun ps z => (by cases z)⟩
end
end Vt
-- VtD3
set_option Elab.async false
set_option linter.all false
set_option maxRecDepth 100000
set_option maxHeartbeats 4000000
namespace Vt
open PySem PySem.Spec PyProof.Rows L2
local macro_rules | `(tactic| walk_at "rd") => `(tactic| (repeat (first
  | with_reducible refine r_sasg ?_ | with_reducible refine r_sfset ?_ | with_reducible refine r_sfaug ?_ | with_reducible refine r_sdput ?_ | with_reducible refine r_sdrop ?_ | with_reducible refine r_swhen ?_ | with_reducible refine r_sif ?_ | with_reducible refine r_asg ?_ | with_reducible refine r_drop ?_
  | with_reducible refine r_ret ?_ | with_reducible refine r_if ?_ | with_reducible refine r_next ?_
  | with_reducible refine r_c ?_ | with_reducible refine r_var (by with_unfolding_all exact rfl) ?_ | with_reducible refine r_op ?_ | with_reducible refine r_un ?_ | with_reducible refine r_I0 ?_ | ((with_reducible refine r_I ?_ ?_); · first | (show (0 : Int) < _; decide) | exact div_ok (by decide) (by decide)) | with_reducible refine r_U ?_
  | with_reducible refine r_eq (by with_unfolding_all exact rfl) ?_ | with_reducible refine r_ne (by with_unfolding_all exact rfl) ?_
  | with_reducible refine r_tstq ?_ | with_reducible refine r_tBq ?_ | with_reducible refine r_blq ?_ | with_reducible refine r_intq ?_ | with_reducible refine r_and ?_ | with_reducible refine r_or ?_ | with_reducible refine r_not ?_
  | with_reducible refine r_andV ?_ | with_reducible refine r_orV ?_ | with_reducible refine r_notV ?_
  | with_reducible refine r_nil ?_ | with_reducible refine r_cons ?_ | with_reducible refine r_call ?_ | with_reducible refine r_tup ?_ | with_reducible refine r_lst ?_ | with_reducible refine r_cb ?_ | with_reducible refine r_int1 ?_ | with_reducible refine r_ord ?_
  | with_reducible refine r_sl ?_ | with_reducible refine r_nop ?_ | with_reducible refine r_partq ?_ | with_reducible refine r_bm ?_ | with_reducible refine r_fld ?_
  | with_reducible refine r_lct ?_ | with_reducible refine r_lcl ?_ | with_reducible refine r_lcr ?_ | with_reducible refine r_sfort ?_ | with_reducible refine r_sforl ?_ | with_reducible refine r_sfors ?_ | with_reducible refine r_sforr ?_ | with_reducible refine r_sforz ?_
  | with_reducible refine r_fort ?_ | with_reducible refine r_forl ?_ | with_reducible refine r_forr ?_ | with_reducible refine r_sasgt ?_ | with_reducible refine r_asgt ?_ | with_reducible refine r_saug (by with_unfolding_all exact rfl) ?_ | with_reducible refine r_aug (by with_unfolding_all exact rfl) ?_ | with_reducible refine r_ip ?_ | with_reducible refine r_gname ?_ | with_reducible refine r_seq ?_
  | with_reducible refine r_dget ?_ | with_reducible refine r_din ?_ | with_reducible refine r_dnotin ?_ | with_reducible refine r_sdput ?_ | with_reducible refine r_dput ?_ | with_reducible refine r_mg ?_ | with_reducible refine r_rev ?_ | with_reducible refine r_dzip ?_
  | with_reducible refine r_lcz ?_ | with_reducible refine r_form ?_
  | with_reducible refine r_sfset ?_ | with_reducible refine r_fset ?_ | with_reducible refine r_sfaug ?_ | with_reducible refine r_meth ?_ | with_reducible refine r_make ?_
  | with_reducible refine r_srtl ?_ | with_reducible refine r_m1q ?_ | with_reducible refine r_strq ?_
  | with_reducible refine r_iteT ?_ | with_reducible refine r_iteF ?_)))
local macro_rules | `(tactic| walk_at "rs") => `(tactic| (repeat (first
  | with_reducible refine r_sasg ?_ | with_reducible refine r_sfset ?_ | with_reducible refine r_sfaug ?_ | with_reducible refine r_sdput ?_ | with_reducible refine r_sdrop ?_ | with_reducible refine r_asg ?_ | with_reducible refine r_drop ?_
  | with_reducible refine r_ret ?_ | with_reducible refine r_next ?_
  | with_reducible refine r_c ?_ | with_reducible refine r_var (by with_unfolding_all exact rfl) ?_ | with_reducible refine r_op ?_ | with_reducible refine r_un ?_ | with_reducible refine r_I0 ?_ | ((with_reducible refine r_I ?_ ?_); · first | (show (0 : Int) < _; decide) | exact div_ok (by decide) (by decide)) | with_reducible refine r_U ?_
  | with_reducible refine r_eq (by with_unfolding_all exact rfl) ?_ | with_reducible refine r_ne (by with_unfolding_all exact rfl) ?_
  | with_reducible refine r_tstq ?_ | with_reducible refine r_tBq ?_ | with_reducible refine r_blq ?_ | with_reducible refine r_intq ?_ | with_reducible refine r_and ?_ | with_reducible refine r_or ?_ | with_reducible refine r_not ?_
  | with_reducible refine r_andV ?_ | with_reducible refine r_orV ?_ | with_reducible refine r_notV ?_
  | with_reducible refine r_nil ?_ | with_reducible refine r_cons ?_ | with_reducible refine r_call ?_ | with_reducible refine r_tup ?_ | with_reducible refine r_lst ?_ | with_reducible refine r_cb ?_ | with_reducible refine r_int1 ?_ | with_reducible refine r_ord ?_
  | with_reducible refine r_sl ?_ | with_reducible refine r_nop ?_ | with_reducible refine r_partq ?_ | with_reducible refine r_bm ?_ | with_reducible refine r_fld ?_
  | with_reducible refine r_lct ?_ | with_reducible refine r_lcl ?_ | with_reducible refine r_lcr ?_ | with_reducible refine r_sfort ?_ | with_reducible refine r_sforl ?_ | with_reducible refine r_sfors ?_ | with_reducible refine r_sforr ?_ | with_reducible refine r_sforz ?_
  | with_reducible refine r_fort ?_ | with_reducible refine r_forl ?_ | with_reducible refine r_forr ?_ | with_reducible refine r_sasgt ?_ | with_reducible refine r_asgt ?_ | with_reducible refine r_saug (by with_unfolding_all exact rfl) ?_ | with_reducible refine r_aug (by with_unfolding_all exact rfl) ?_ | with_reducible refine r_ip ?_ | with_reducible refine r_gname ?_ | with_reducible refine r_seq ?_
  | with_reducible refine r_dget ?_ | with_reducible refine r_din ?_ | with_reducible refine r_dnotin ?_ | with_reducible refine r_sdput ?_ | with_reducible refine r_dput ?_ | with_reducible refine r_mg ?_ | with_reducible refine r_rev ?_ | with_reducible refine r_dzip ?_
  | with_reducible refine r_lcz ?_ | with_reducible refine r_form ?_
  | with_reducible refine r_sfset ?_ | with_reducible refine r_fset ?_ | with_reducible refine r_sfaug ?_ | with_reducible refine r_meth ?_ | with_reducible refine r_make ?_
  | with_reducible refine r_srtl ?_ | with_reducible refine r_m1q ?_ | with_reducible refine r_strq ?_
  | with_reducible refine r_iteT ?_ | with_reducible refine r_iteF ?_)))
local macro_rules | `(tactic| walk_at "tex") => `(tactic| (first
  | assumption | exact TEx.refl _ | exact TEx.of (by assumption) | ((refine TEx.trans ?_ (TEx.of (by assumption))); walk_at "tex") | ((refine TEx.trans ?_ (by assumption)); walk_at "tex")))
local macro_rules | `(tactic| walk_at "same") => `(tactic| (first
  | assumption | exact Same.refl _ | ((refine Same.trans ?_ (by assumption)); walk_at "same")))
local macro_rules | `(tactic| walk_at "tp") => `(tactic| (first
  | assumption | exact Tp.int _ | exact Tp.str _ | exact Tp.non | exact TpAll.nil | ((refine TpAll.cons ?_ ?_) <;> walk_at "tp") | ((refine Tp.mono ?_ (by assumption)); walk_at "tex") | ((refine TpAll.mono ?_ (by assumption)); walk_at "tex")))
local macro_rules | `(tactic| walk_at "hp") => `(tactic| (first
  | assumption | ((refine (TEx.trans ?_ (TEx.refl _)) _ _ (by assumption)); walk_at "tex")))
section
variable {P : Program} {w : World} {K : PySem.W.Frag} {mg : Str → Option Value} {base : Heap}
/-! ### digest -/
abbrev n_digest : List Str := ["text", "result", "char"]
theorem sc_digest : FnScope n_digest ["text"] (defScope s_digest) := ⟨rfl, rfl, rfl, by decide +kernel, rfl, by decide +kernel, by decide +kernel⟩
theorem bd_digest : BindH "digest" s_digest ["text"] := fun _ _ _ _ _ _ us hl => match us, hl with | [_], _ => rfl
def spDigest : Sp := fun vs H Q _ => ∃ t : Str, vs = [.str t] ∧ Q (.int (digL (TL.tl t))) H
theorem cal_digest (T : Tx K mg) : Cal P w K mg base 1 "digest" ["text"] spDigest := by
  refine cal_of T.at_digest sc_digest bd_digest (fun vs H Q E h => ?_) fun f cdv A outer s H0 E hr => ⟨_, (pss_cons (ps_set (i := 1) sc_digest.nd rfl (Or.inl rfl) pe_int)
      (pss_cons (ps_for PassesOwn.never rfl (pi_str (pv 0)) (pg_name (i := 2) sc_digest.nd rfl (Or.inl rfl))
      (pss_one (ps_set (i := 1) sc_digest.nd rfl (Or.inl rfl) (pe_op op_mod (pe_op op_add (pe_op op_mulX (pv 1) pe_int) (pe_callB cr_ord (by rfl) T.m_ord (by decide +kernel) (pa_cons (pv 2) pa_nil))) pe_int))))
      (pss_one (ps_ret (pv 1))))), fun vs H Q h => ?_⟩
  · obtain ⟨k, rfl, _⟩ := h
    rfl
  · obtain ⟨t, rfl, q⟩ := h
    walk_at "rd"
    refine r_forS (fun i σ' H' => H' = H ∧ ∃ ch, σ' = [some (.str t), some (.int (digL ((TL.tl t).take i))), ch]) ⟨rfl, none, rfl⟩ ?_ ?_
    · rintro i ch σ' H' hi ⟨rfl, c0, rfl⟩
      walk_at "rd"
      have hb := digL_bd ((TL.tl t).take i)
      refine r_I (show CMulX _ _ from ?_) ?_
      · have h1 : (digL ((TL.tl t).take i)).natAbs.log2 < 100 := PySem.Flt.log2_lt_of (by decide) (Nat.lt_trans (show (digL ((TL.tl t).take i)).natAbs < 1000003 by omega) (by decide))
        have h2 : (31 : Int).natAbs.log2 < 100 := by decide
        unfold CMulX
        omega
      walk_at "rd"
      refine ⟨rfl, some (.str ⟨#[ch]⟩), ?_⟩
      rw [List.take_add_one, hi]
      show _ = [some (V.str t), some (V.int (digL ((TL.tl t).take i ++ [ch]))), some (V.str ⟨#[ch]⟩)]
      rw [digL_snoc]
      rfl
    · rintro σ' H' ⟨rfl, c0, rfl⟩
      walk_at "rd"
      rw [List.take_length]
      exact q
/-! ### ends_chunk -/
abbrev n_ends_chunk : List Str := ["level", "key", "count"]
theorem sc_ends_chunk : FnScope n_ends_chunk ["level", "key", "count"] (defScope s_ends_chunk) := ⟨rfl, rfl, rfl, by decide +kernel, rfl, by decide +kernel, by decide +kernel⟩
theorem bd_ends_chunk : BindH "ends_chunk" s_ends_chunk ["level", "key", "count"] := fun _ _ _ _ _ _ us hl => match us, hl with | [_, _, _], _ => rfl
def spEnds : Sp := fun vs H Q _ => ∃ (lv n : Nat) (v : V) (d : PyData), vs = [.int lv, v, .int n] ∧ Tp H v d ∧ dep d ≤ 3 ∧ encOk d = true ∧ (encL d).length ≤ 1000000 ∧ lv < 1000 ∧ ∀ H', Same H H' → Q (.bl (endsB lv d n)) H'
theorem intL_small {n : Nat} (h : n < 1000) : (intL (n : Int)).length ≤ 3 := by
  unfold intL
  rw [if_neg (by omega), Int.natAbs_natCast]
  exact numL_3 h
theorem cal_ends_chunk (T : Tx K mg) : Cal P w K mg base 8 "ends_chunk" ["level", "key", "count"] spEnds := by
  have c_digest := cal_digest (P := P) (w := w) (base := base) T
  have c_encode := cal_encode (P := P) (w := w) (base := base) T 5
  refine cal_of T.at_ends_chunk sc_ends_chunk bd_ends_chunk (fun vs H Q E h => ?_) fun f cdv A outer s H0 E hr => ⟨_, (pss_cons (ps_if (pt_cmpR op_eq (pv 2) (pe_gint (by rfl) T.k_MOST_ENTRIES) (nomark _))
      (pss_one (ps_ret pe_bl))
      pss_nil)
      (pss_cons (ps_if (PW.pt (pw_and (pt_cmpR op_gt (pv 0) pe_int (nomark _)) (pw_and1 (pt_cmpR op_eq (pv 2) pe_int (nomark _)))))
      (pss_one (ps_ret pe_bl))
      pss_nil)
      (pss_one (ps_ret (pe_cmpR op_eq (pe_op op_mod (pe_cal c_digest (hr.mono (by omega)) (by rfl) (pa_cons (pe_cal c_encode (hr.mono (by omega)) (by rfl) (pa_cons (pe_tup (pa_cons (pv 0) (pa_cons (pv 1) pa_nil))) pa_nil)) pa_nil)) pe_int) pe_int (nomark _)))))), fun vs H Q h => ?_⟩
  · obtain ⟨lv, n, v, d, rfl, _⟩ := h
    rfl
  · obtain ⟨lv, n, v, d, rfl, hd, hdep, hok, hl, hlv, q⟩ := h
    walk_at "rd"
    refine r_ite (fun e => ?_) (fun e => ?_)
    · walk_at "rd"
      have e1 : (n : Int) = 8 := V.int.inj (of_decide_eq_true e)
      have q := q H (Same.refl H)
      unfold endsB at q
      rw [if_pos (by omega)] at q
      exact q
    · have e1 : ¬ (n : Int) = 8 := fun z => of_decide_eq_false e (congrArg V.int z)
      walk_at "rd"
      have fin : (0 < lv ∧ n = 1) → Q (.bl false) H := fun z => by
        have q := q H (Same.refl H)
        unfold endsB at q
        rw [if_neg (by omega), if_pos z] at q
        exact q
      have fin2 : ¬ (0 < lv ∧ n = 1) → tRet (tOp rEq (tOp (rI (fun _ j => 0 < j) fun i j => .int (i % j)) (tCall spDigest [] E0 (tCons (tCall (spEnc 5) [] E0 (tCons (tTup (tCons (tVar 0) (tCons (tVar 1) tNil))) tNil)) tNil)) (tC (.int 4))) (tC (.int 0))) { nx := fun _ H' => Q .non H', rt := Q } (L2.start n_ends_chunk [.int lv, v, .int n]) H := fun z => by
        walk_at "rd"
        refine r_newD (TpAll.cons (Tp.int _) (TpAll.cons hd TpAll.nil)) (Nat.le_of_ble_eq_true rfl) fun p H2 e2 hp => ?_
        walk_at "rd"
        refine ⟨_, _, rfl, hp, ?_, ?_, ?_, fun H3 e3 => ?_⟩
        · rw [dep_tup, deps_cons, deps_cons, dep_int, deps_nil]
          omega
        · rw [encOk_tup, encOks_cons, encOks_cons, hok]
          rw [encOk_int (by rw [Int.natAbs_natCast]; omega), encOks_nil]
          rfl
        · rw [encL_tup, encLs_cons, encLs_cons, encLs_nil, encL_int]
          have := intL_small hlv
          simp only [List.length_cons, List.length_append, List.length_nil]
          omega
        walk_at "rd"
        refine ⟨_, rfl, ?_⟩
        walk_at "rd"
        have q := q H3 (e2.trans e3)
        unfold endsB at q
        rw [if_neg (by omega), if_neg z] at q
        have dd : ∀ a b : Int, decide (V.int a = V.int b) = decide (a = b) := fun a b => by simp
        rw [dd, tl_encS]
        exact q
      refine r_ite (fun e2 => ?_) (fun e2 => ?_)
      · walk_at "rd"
        have h2 : (0 : Int) < lv := of_decide_eq_true e2
        refine r_ite (fun e3 => ?_) (fun e3 => ?_)
        · walk_at "rd"
          have h3 : (n : Int) = 1 := V.int.inj (of_decide_eq_true e3)
          exact fin (by omega)
        · have h3 : ¬ (n : Int) = 1 := fun z => of_decide_eq_false e3 (congrArg V.int z)
          exact fin2 (by omega)
      · have h2 : ¬ (0 : Int) < lv := of_decide_eq_false e2
        refine iteF ?_
        exact fin2 (by omega)
end
end Vt
-- VtD4
set_option Elab.async false
set_option linter.all false
set_option maxRecDepth 100000
set_option maxHeartbeats 4000000
namespace Vt
open PySem PySem.Spec PyProof.Rows L2
local macro_rules | `(tactic| walk_at "rd") => `(tactic| (repeat (first
  | with_reducible refine r_sasg ?_ | with_reducible refine r_sfset ?_ | with_reducible refine r_sfaug ?_ | with_reducible refine r_sdput ?_ | with_reducible refine r_sdrop ?_ | with_reducible refine r_swhen ?_ | with_reducible refine r_sif ?_ | with_reducible refine r_asg ?_ | with_reducible refine r_drop ?_
  | with_reducible refine r_ret ?_ | with_reducible refine r_if ?_ | with_reducible refine r_next ?_
  | with_reducible refine r_c ?_ | with_reducible refine r_var (by with_unfolding_all exact rfl) ?_ | with_reducible refine r_op ?_ | with_reducible refine r_un ?_ | with_reducible refine r_I0 ?_ | ((with_reducible refine r_I ?_ ?_); · first | (show (0 : Int) < _; decide) | exact div_ok (by decide) (by decide)) | with_reducible refine r_U ?_
  | with_reducible refine r_eq (by with_unfolding_all exact rfl) ?_ | with_reducible refine r_ne (by with_unfolding_all exact rfl) ?_
  | with_reducible refine r_tstq ?_ | with_reducible refine r_tBq ?_ | with_reducible refine r_blq ?_ | with_reducible refine r_intq ?_ | with_reducible refine r_and ?_ | with_reducible refine r_or ?_ | with_reducible refine r_not ?_
  | with_reducible refine r_andV ?_ | with_reducible refine r_orV ?_ | with_reducible refine r_notV ?_
  | with_reducible refine r_nil ?_ | with_reducible refine r_cons ?_ | with_reducible refine r_call ?_ | with_reducible refine r_tup ?_ | with_reducible refine r_lst ?_ | with_reducible refine r_cb ?_ | with_reducible refine r_int1 ?_ | with_reducible refine r_ord ?_
  | with_reducible refine r_sl ?_ | with_reducible refine r_nop ?_ | with_reducible refine r_partq ?_ | with_reducible refine r_bm ?_ | with_reducible refine r_fld ?_
  | with_reducible refine r_lct ?_ | with_reducible refine r_lcl ?_ | with_reducible refine r_lcr ?_ | with_reducible refine r_sfort ?_ | with_reducible refine r_sforl ?_ | with_reducible refine r_sfors ?_ | with_reducible refine r_sforr ?_ | with_reducible refine r_sforz ?_
  | with_reducible refine r_fort ?_ | with_reducible refine r_forl ?_ | with_reducible refine r_forr ?_ | with_reducible refine r_sasgt ?_ | with_reducible refine r_asgt ?_ | with_reducible refine r_saug (by with_unfolding_all exact rfl) ?_ | with_reducible refine r_aug (by with_unfolding_all exact rfl) ?_ | with_reducible refine r_ip ?_ | with_reducible refine r_gname ?_ | with_reducible refine r_seq ?_
  | with_reducible refine r_dget ?_ | with_reducible refine r_din ?_ | with_reducible refine r_dnotin ?_ | with_reducible refine r_sdput ?_ | with_reducible refine r_dput ?_ | with_reducible refine r_mg ?_ | with_reducible refine r_rev ?_ | with_reducible refine r_dzip ?_
  | with_reducible refine r_lcz ?_ | with_reducible refine r_form ?_
  | with_reducible refine r_sfset ?_ | with_reducible refine r_fset ?_ | with_reducible refine r_sfaug ?_ | with_reducible refine r_meth ?_ | with_reducible refine r_make ?_
  | with_reducible refine r_srtl ?_ | with_reducible refine r_m1q ?_ | with_reducible refine r_strq ?_
  | with_reducible refine r_iteT ?_ | with_reducible refine r_iteF ?_)))
local macro_rules | `(tactic| walk_at "rs") => `(tactic| (repeat (first
  | with_reducible refine r_sasg ?_ | with_reducible refine r_sfset ?_ | with_reducible refine r_sfaug ?_ | with_reducible refine r_sdput ?_ | with_reducible refine r_sdrop ?_ | with_reducible refine r_asg ?_ | with_reducible refine r_drop ?_
  | with_reducible refine r_ret ?_ | with_reducible refine r_next ?_
  | with_reducible refine r_c ?_ | with_reducible refine r_var (by with_unfolding_all exact rfl) ?_ | with_reducible refine r_op ?_ | with_reducible refine r_un ?_ | with_reducible refine r_I0 ?_ | ((with_reducible refine r_I ?_ ?_); · first | (show (0 : Int) < _; decide) | exact div_ok (by decide) (by decide)) | with_reducible refine r_U ?_
  | with_reducible refine r_eq (by with_unfolding_all exact rfl) ?_ | with_reducible refine r_ne (by with_unfolding_all exact rfl) ?_
  | with_reducible refine r_tstq ?_ | with_reducible refine r_tBq ?_ | with_reducible refine r_blq ?_ | with_reducible refine r_intq ?_ | with_reducible refine r_and ?_ | with_reducible refine r_or ?_ | with_reducible refine r_not ?_
  | with_reducible refine r_andV ?_ | with_reducible refine r_orV ?_ | with_reducible refine r_notV ?_
  | with_reducible refine r_nil ?_ | with_reducible refine r_cons ?_ | with_reducible refine r_call ?_ | with_reducible refine r_tup ?_ | with_reducible refine r_lst ?_ | with_reducible refine r_cb ?_ | with_reducible refine r_int1 ?_ | with_reducible refine r_ord ?_
  | with_reducible refine r_sl ?_ | with_reducible refine r_nop ?_ | with_reducible refine r_partq ?_ | with_reducible refine r_bm ?_ | with_reducible refine r_fld ?_
  | with_reducible refine r_lct ?_ | with_reducible refine r_lcl ?_ | with_reducible refine r_lcr ?_ | with_reducible refine r_sfort ?_ | with_reducible refine r_sforl ?_ | with_reducible refine r_sfors ?_ | with_reducible refine r_sforr ?_ | with_reducible refine r_sforz ?_
  | with_reducible refine r_fort ?_ | with_reducible refine r_forl ?_ | with_reducible refine r_forr ?_ | with_reducible refine r_sasgt ?_ | with_reducible refine r_asgt ?_ | with_reducible refine r_saug (by with_unfolding_all exact rfl) ?_ | with_reducible refine r_aug (by with_unfolding_all exact rfl) ?_ | with_reducible refine r_ip ?_ | with_reducible refine r_gname ?_ | with_reducible refine r_seq ?_
  | with_reducible refine r_dget ?_ | with_reducible refine r_din ?_ | with_reducible refine r_dnotin ?_ | with_reducible refine r_sdput ?_ | with_reducible refine r_dput ?_ | with_reducible refine r_mg ?_ | with_reducible refine r_rev ?_ | with_reducible refine r_dzip ?_
  | with_reducible refine r_lcz ?_ | with_reducible refine r_form ?_
  | with_reducible refine r_sfset ?_ | with_reducible refine r_fset ?_ | with_reducible refine r_sfaug ?_ | with_reducible refine r_meth ?_ | with_reducible refine r_make ?_
  | with_reducible refine r_srtl ?_ | with_reducible refine r_m1q ?_ | with_reducible refine r_strq ?_
  | with_reducible refine r_iteT ?_ | with_reducible refine r_iteF ?_)))
local macro_rules | `(tactic| walk_at "tex") => `(tactic| (first
  | assumption | exact TEx.refl _ | exact TEx.of (by assumption) | ((refine TEx.trans ?_ (TEx.of (by assumption))); walk_at "tex") | ((refine TEx.trans ?_ (by assumption)); walk_at "tex")))
local macro_rules | `(tactic| walk_at "same") => `(tactic| (first
  | assumption | exact Same.refl _ | ((refine Same.trans ?_ (by assumption)); walk_at "same")))
local macro_rules | `(tactic| walk_at "tp") => `(tactic| (first
  | assumption | exact Tp.int _ | exact Tp.str _ | exact Tp.non | exact TpAll.nil | ((refine TpAll.cons ?_ ?_) <;> walk_at "tp") | ((refine Tp.mono ?_ (by assumption)); walk_at "tex") | ((refine TpAll.mono ?_ (by assumption)); walk_at "tex")))
local macro_rules | `(tactic| walk_at "hp") => `(tactic| (first
  | assumption | ((refine (TEx.trans ?_ (TEx.refl _)) _ _ (by assumption)); walk_at "tex")))
section
variable {P : Program} {w : World} {K : PySem.W.Frag} {mg : Str → Option Value} {base : Heap}
/-! ### char_at -/
abbrev n_char_at : List Str := ["text", "index"]
theorem sc_char_at : FnScope n_char_at ["text", "index"] (defScope s_char_at) := ⟨rfl, rfl, rfl, by decide +kernel, rfl, by decide +kernel, by decide +kernel⟩
theorem bd_char_at : BindH "char_at" s_char_at ["text", "index"] := fun _ _ _ _ _ _ us hl => match us, hl with | [_, _], _ => rfl
def spCharAt : Sp := fun vs H Q _ => ∃ (t : Str) (i c : Nat), vs = [.str t, .int i] ∧ (TL.tl t)[i]? = some c ∧ t.length ≤ 16000000 ∧ Q (.str ⟨#[c]⟩) H
theorem line16 {n : Nat} (h : n ≤ 16000000) : n ≤ sizeLine := Nat.le_trans h (by decide)
theorem cal_char_at (T : Tx K mg) : Cal P w K mg base 1 "char_at" ["text", "index"] spCharAt := by
  refine cal_of T.at_char_at sc_char_at bd_char_at (fun vs H Q E h => ?_) fun f cdv A outer s H0 E hr => ⟨_, (pss_cons (ps_if (pt_cmpR op_ge (pv 1) (pe_callB cr_lnS (by rfl) T.m_len PySem.boot_len (pa_cons (pv 0) pa_nil)) (nomark _))
      pss_never
      pss_nil)
      (pss_one (ps_ret (pe_ix ix_str (pv 0) (pv 1) (fun _ _ => rfl))))), fun vs H Q h => ?_⟩
  · obtain ⟨t, i, c, rfl, _⟩ := h
    rfl
  · obtain ⟨t, i, c, rfl, hc, hl, q⟩ := h
    have hi := (List.getElem?_eq_some_iff.mp hc).1
    rw [← TL.len_tl] at hi
    walk_at "rd"
    refine r_lnS (line16 hl) ?_
    walk_at "rd"
    refine r_no (decide_eq_false (by omega)) ?_
    walk_at "rd"
    exact r_ixS (line16 hl) (atI_nat hc) q
/-! ### read_digits -/
abbrev n_read_digits : List Str := ["text", "index", "most", "end", "first"]
theorem sc_read_digits : FnScope n_read_digits ["text", "index", "most", "end"] (defScope s_read_digits) := ⟨rfl, rfl, rfl, by decide +kernel, rfl, by decide +kernel, by decide +kernel⟩
theorem bd_read_digits : BindH "read_digits" s_read_digits ["text", "index", "most", "end"] := fun _ _ _ _ _ _ us hl => match us, hl with | [_, _, _, _], _ => rfl
def spDigs : Sp := fun vs H Q _ => ∃ (t : Str) (i n m e : Nat), vs = [.str t, .int i, .int m, .str ⟨#[e]⟩] ∧ At t i (TL.numL n ++ [e]) ∧ (e < 48 ∨ 57 < e) ∧ (TL.numL n).length ≤ m ∧ t.length ≤ 16000000 ∧
  ∀ p H', Same H H' → H' p = some (.tup [.str ⟨(TL.numL n).toArray⟩, .int ((i + (TL.numL n).length + 1 : Nat) : Int)]) → Q (.ref p) H'
theorem dec_sign {a b : Nat} : decide (V.str ⟨#[a]⟩ = V.str ⟨#[b]⟩) = decide (a = b) := by
  by_cases h : a = b
  · subst h; simp
  · simp [h]
theorem cal_read_digits (T : Tx K mg) : Cal P w K mg base 2 "read_digits" ["text", "index", "most", "end"] spDigs := by
  have c_char_at := cal_char_at (P := P) (w := w) (base := base) T
  refine cal_of T.at_read_digits sc_read_digits bd_read_digits (fun vs H Q E h => ?_) fun f cdv A outer s H0 E hr => ⟨_, (pss_cons (ps_set (i := 4) sc_read_digits.nd rfl (Or.inl rfl) (pv 1))
      (pss_cons (ps_while PassesOwn.never (pt_cmpR op_ne (pe_cal c_char_at (hr.mono (by omega)) (by rfl) (pa_cons (pv 0) (pa_cons (pv 1) pa_nil))) (pv 3) (nomark _))
      (pss_cons (ps_if (PW.pt (pw_or (pt_cmpR op_notIn_sign (pe_ix ix_str (pv 0) (pv 1) (fun _ _ => rfl)) (pe_gstr (by rfl) T.k_DIGITS) (by rfl)) (pw_or (pt_cmpR op_eq (pe_op op_sub (pv 1) (pv 4)) (pv 2) (nomark _)) (pw_or1 (PW.pt (pw_and (pt_cmpR op_gt (pv 1) (pv 4) (nomark _)) (pw_and1 (pt_cmpR op_eq (pe_ix ix_str (pv 0) (pv 4) (fun _ _ => rfl)) pe_str (nomark _)))))))))
        pss_never
        pss_nil)
        (pss_one (ps_aug (i := 1) sc_read_digits.nd rfl (Or.inl rfl) pe_int ip_add))))
      (pss_cons (ps_if (pt_cmpR op_eq (pv 1) (pv 4) (nomark _))
      pss_never
      pss_nil)
      (pss_one (ps_ret (pe_tup (pa_cons (pe_slice sl_str (pv 0) (po_some (pv 4)) (po_some (pv 1))) (pa_cons (pe_op op_add (pv 1) pe_int) pa_nil)))))))), fun vs H Q h => ?_⟩
  · obtain ⟨t, i, n, m, e, rfl, _⟩ := h
    rfl
  · obtain ⟨t, i, n, m, e, rfl, hat, he, hm, hl, q⟩ := h
    have hit : i ≤ t.length := by
      cases hn : TL.numL n with
      | nil => exact (TL.numL_ne n hn).elim
      | cons a r =>
        rw [hn] at hat
        exact Nat.le_of_lt hat.lt
    walk_at "rd"
    refine r_swhile (fun m' σ' H' => H' = H ∧ ∃ k, k ≤ (TL.numL n).length ∧ m' = (TL.numL n).length - k ∧ σ' = [some (.str t), some (.int ((i + k : Nat) : Int)), some (.int m), some (.str ⟨#[e]⟩), some (.int i)]) (TL.numL n).length ⟨rfl, 0, Nat.zero_le _, rfl, rfl⟩ ?_
    rintro m' σ' H' ⟨rfl, k, hk, rfl, rfl⟩
    walk_at "rd"
    by_cases hlt : k < (TL.numL n).length
    · have hc : (TL.numL n)[k]? = some (TL.numL n)[k] := List.getElem?_eq_getElem hlt
      have hr := numL_range (List.mem_of_getElem? hc)
      have hat1 := hat.left.get hc
      refine ⟨t, i + k, _, rfl, hat1, hl, ?_⟩
      walk_at "rd"
      have ne : ¬ (TL.numL n)[k] = e := by omega
      refine r_yes (by rw [dec_sign, decide_eq_false ne]; rfl) (r_wq ?_)
      walk_at "rd"
      refine r_ixS (line16 hl) (atI_nat hat1) ?_
      walk_at "rd"
      refine ⟨_, _, rfl, rfl, ?_⟩
      walk_at "rd"
      refine r_no (by rw [decide_eq_true (in_digits hr)]; rfl) ?_
      walk_at "rd"
      have ne2 : ¬ ((i + k : Nat) : Int) - (i : Int) = (m : Int) := by omega
      refine r_no (decide_eq_false fun z => ne2 (V.int.inj z)) ?_
      walk_at "rd"
      by_cases hk0 : k = 0
      · refine r_no (decide_eq_false (by omega)) ?_
        walk_at "rd"
        exact ⟨_, by omega, rfl, k + 1, hlt, rfl, rfl⟩
      · refine r_yes (decide_eq_true (by omega)) ?_
        walk_at "rd"
        have h0 : (TL.numL n)[0]? = some (TL.numL n)[0] := List.getElem?_eq_getElem (by omega)
        refine r_ixS (line16 hl) (atI_nat (j := i) (hat.left.get (k := 0) h0)) ?_
        walk_at "rd"
        have ne3 : ¬ (TL.numL n)[0] = 48 := numL_at0 h0 (.inl (by omega))
        refine r_no (by rw [show (Str.ofString "0" : Str) = ⟨#[48]⟩ by decide +kernel, dec_sign, decide_eq_false ne3]) ?_
        walk_at "rd"
        exact ⟨_, by omega, rfl, k + 1, hlt, rfl, rfl⟩
    · have hk2 : k = (TL.numL n).length := by omega
      subst hk2
      have hat1 := hat.right.get (k := 0) (c := e) rfl
      refine ⟨t, i + (TL.numL n).length, e, rfl, hat1, hl, ?_⟩
      walk_at "rd"
      refine r_no (by rw [decide_eq_true rfl]; rfl) ?_
      have h0 : 0 < (TL.numL n).length := List.length_pos_iff.mpr (TL.numL_ne n)
      walk_at "rd"
      have ne : ¬ ((i + (TL.numL n).length : Nat) : Int) = (i : Int) := by omega
      refine r_no (decide_eq_false fun z => ne (V.int.inj z)) ?_
      walk_at "rd"
      refine r_slS (line16 hl) ?_
      walk_at "rd"
      rw [hat.left.cut hit]
      exact r_newT (Nat.le_of_ble_eq_true rfl) fun p H2 _ e2 hp => q p H2 e2 hp
end
end Vt
-- VtD5
set_option Elab.async false
set_option linter.all false
set_option maxRecDepth 100000
set_option maxHeartbeats 4000000
namespace Vt
open PySem PySem.Spec PyProof.Rows L2
local macro_rules | `(tactic| walk_at "rd") => `(tactic| (repeat (first
  | with_reducible refine r_sasg ?_ | with_reducible refine r_sfset ?_ | with_reducible refine r_sfaug ?_ | with_reducible refine r_sdput ?_ | with_reducible refine r_sdrop ?_ | with_reducible refine r_swhen ?_ | with_reducible refine r_sif ?_ | with_reducible refine r_asg ?_ | with_reducible refine r_drop ?_
  | with_reducible refine r_ret ?_ | with_reducible refine r_if ?_ | with_reducible refine r_next ?_
  | with_reducible refine r_c ?_ | with_reducible refine r_var (by with_unfolding_all exact rfl) ?_ | with_reducible refine r_op ?_ | with_reducible refine r_un ?_ | with_reducible refine r_I0 ?_ | ((with_reducible refine r_I ?_ ?_); · first | (show (0 : Int) < _; decide) | exact div_ok (by decide) (by decide)) | with_reducible refine r_U ?_
  | with_reducible refine r_eq (by with_unfolding_all exact rfl) ?_ | with_reducible refine r_ne (by with_unfolding_all exact rfl) ?_
  | with_reducible refine r_tstq ?_ | with_reducible refine r_tBq ?_ | with_reducible refine r_blq ?_ | with_reducible refine r_intq ?_ | with_reducible refine r_and ?_ | with_reducible refine r_or ?_ | with_reducible refine r_not ?_
  | with_reducible refine r_andV ?_ | with_reducible refine r_orV ?_ | with_reducible refine r_notV ?_
  | with_reducible refine r_nil ?_ | with_reducible refine r_cons ?_ | with_reducible refine r_call ?_ | with_reducible refine r_tup ?_ | with_reducible refine r_lst ?_ | with_reducible refine r_cb ?_ | with_reducible refine r_int1 ?_ | with_reducible refine r_ord ?_
  | with_reducible refine r_sl ?_ | with_reducible refine r_nop ?_ | with_reducible refine r_partq ?_ | with_reducible refine r_bm ?_ | with_reducible refine r_fld ?_
  | with_reducible refine r_lct ?_ | with_reducible refine r_lcl ?_ | with_reducible refine r_lcr ?_ | with_reducible refine r_sfort ?_ | with_reducible refine r_sforl ?_ | with_reducible refine r_sfors ?_ | with_reducible refine r_sforr ?_ | with_reducible refine r_sforz ?_
  | with_reducible refine r_fort ?_ | with_reducible refine r_forl ?_ | with_reducible refine r_forr ?_ | with_reducible refine r_sasgt ?_ | with_reducible refine r_asgt ?_ | with_reducible refine r_saug (by with_unfolding_all exact rfl) ?_ | with_reducible refine r_aug (by with_unfolding_all exact rfl) ?_ | with_reducible refine r_ip ?_ | with_reducible refine r_gname ?_ | with_reducible refine r_seq ?_
  | with_reducible refine r_dget ?_ | with_reducible refine r_din ?_ | with_reducible refine r_dnotin ?_ | with_reducible refine r_sdput ?_ | with_reducible refine r_dput ?_ | with_reducible refine r_mg ?_ | with_reducible refine r_rev ?_ | with_reducible refine r_dzip ?_
  | with_reducible refine r_lcz ?_ | with_reducible refine r_form ?_
  | with_reducible refine r_sfset ?_ | with_reducible refine r_fset ?_ | with_reducible refine r_sfaug ?_ | with_reducible refine r_meth ?_ | with_reducible refine r_make ?_
  | with_reducible refine r_srtl ?_ | with_reducible refine r_m1q ?_ | with_reducible refine r_strq ?_
  | with_reducible refine r_iteT ?_ | with_reducible refine r_iteF ?_)))
local macro_rules | `(tactic| walk_at "rs") => `(tactic| (repeat (first
  | with_reducible refine r_sasg ?_ | with_reducible refine r_sfset ?_ | with_reducible refine r_sfaug ?_ | with_reducible refine r_sdput ?_ | with_reducible refine r_sdrop ?_ | with_reducible refine r_asg ?_ | with_reducible refine r_drop ?_
  | with_reducible refine r_ret ?_ | with_reducible refine r_next ?_
  | with_reducible refine r_c ?_ | with_reducible refine r_var (by with_unfolding_all exact rfl) ?_ | with_reducible refine r_op ?_ | with_reducible refine r_un ?_ | with_reducible refine r_I0 ?_ | ((with_reducible refine r_I ?_ ?_); · first | (show (0 : Int) < _; decide) | exact div_ok (by decide) (by decide)) | with_reducible refine r_U ?_
  | with_reducible refine r_eq (by with_unfolding_all exact rfl) ?_ | with_reducible refine r_ne (by with_unfolding_all exact rfl) ?_
  | with_reducible refine r_tstq ?_ | with_reducible refine r_tBq ?_ | with_reducible refine r_blq ?_ | with_reducible refine r_intq ?_ | with_reducible refine r_and ?_ | with_reducible refine r_or ?_ | with_reducible refine r_not ?_
  | with_reducible refine r_andV ?_ | with_reducible refine r_orV ?_ | with_reducible refine r_notV ?_
  | with_reducible refine r_nil ?_ | with_reducible refine r_cons ?_ | with_reducible refine r_call ?_ | with_reducible refine r_tup ?_ | with_reducible refine r_lst ?_ | with_reducible refine r_cb ?_ | with_reducible refine r_int1 ?_ | with_reducible refine r_ord ?_
  | with_reducible refine r_sl ?_ | with_reducible refine r_nop ?_ | with_reducible refine r_partq ?_ | with_reducible refine r_bm ?_ | with_reducible refine r_fld ?_
  | with_reducible refine r_lct ?_ | with_reducible refine r_lcl ?_ | with_reducible refine r_lcr ?_ | with_reducible refine r_sfort ?_ | with_reducible refine r_sforl ?_ | with_reducible refine r_sfors ?_ | with_reducible refine r_sforr ?_ | with_reducible refine r_sforz ?_
  | with_reducible refine r_fort ?_ | with_reducible refine r_forl ?_ | with_reducible refine r_forr ?_ | with_reducible refine r_sasgt ?_ | with_reducible refine r_asgt ?_ | with_reducible refine r_saug (by with_unfolding_all exact rfl) ?_ | with_reducible refine r_aug (by with_unfolding_all exact rfl) ?_ | with_reducible refine r_ip ?_ | with_reducible refine r_gname ?_ | with_reducible refine r_seq ?_
  | with_reducible refine r_dget ?_ | with_reducible refine r_din ?_ | with_reducible refine r_dnotin ?_ | with_reducible refine r_sdput ?_ | with_reducible refine r_dput ?_ | with_reducible refine r_mg ?_ | with_reducible refine r_rev ?_ | with_reducible refine r_dzip ?_
  | with_reducible refine r_lcz ?_ | with_reducible refine r_form ?_
  | with_reducible refine r_sfset ?_ | with_reducible refine r_fset ?_ | with_reducible refine r_sfaug ?_ | with_reducible refine r_meth ?_ | with_reducible refine r_make ?_
  | with_reducible refine r_srtl ?_ | with_reducible refine r_m1q ?_ | with_reducible refine r_strq ?_
  | with_reducible refine r_iteT ?_ | with_reducible refine r_iteF ?_)))
local macro_rules | `(tactic| walk_at "tex") => `(tactic| (first
  | assumption | exact TEx.refl _ | exact TEx.of (by assumption) | ((refine TEx.trans ?_ (TEx.of (by assumption))); walk_at "tex") | ((refine TEx.trans ?_ (by assumption)); walk_at "tex")))
local macro_rules | `(tactic| walk_at "same") => `(tactic| (first
  | assumption | exact Same.refl _ | ((refine Same.trans ?_ (by assumption)); walk_at "same")))
local macro_rules | `(tactic| walk_at "tp") => `(tactic| (first
  | assumption | exact Tp.int _ | exact Tp.str _ | exact Tp.non | exact TpAll.nil | ((refine TpAll.cons ?_ ?_) <;> walk_at "tp") | ((refine Tp.mono ?_ (by assumption)); walk_at "tex") | ((refine TpAll.mono ?_ (by assumption)); walk_at "tex")))
local macro_rules | `(tactic| walk_at "hp") => `(tactic| (first
  | assumption | ((refine (TEx.trans ?_ (TEx.refl _)) _ _ (by assumption)); walk_at "tex")))
theorem e45 : (Str.ofString "-" : Str) = ⟨#[45]⟩ := by decide +kernel
theorem e48 : (Str.ofString "0" : Str) = ⟨#[48]⟩ := by decide +kernel
theorem e59 : (Str.ofString ";" : Str) = ⟨#[59]⟩ := by decide +kernel
theorem e58 : (Str.ofString ":" : Str) = ⟨#[58]⟩ := by decide +kernel
theorem e110 : (Str.ofString "n" : Str) = ⟨#[110]⟩ := by decide +kernel
theorem e105 : (Str.ofString "i" : Str) = ⟨#[105]⟩ := by decide +kernel
theorem e116 : (Str.ofString "t" : Str) = ⟨#[116]⟩ := by decide +kernel
theorem e40 : (Str.ofString "(" : Str) = ⟨#[40]⟩ := by decide +kernel
theorem e41 : (Str.ofString ")" : Str) = ⟨#[41]⟩ := by decide +kernel
section
variable {P : Program} {w : World} {K : PySem.W.Frag} {mg : Str → Option Value} {base : Heap}
/-! ### read_integer -/
abbrev n_read_integer : List Str := ["text", "index", "negative", "digits"]
theorem sc_read_integer : FnScope n_read_integer ["text", "index"] (defScope s_read_integer) := ⟨rfl, rfl, rfl, by decide +kernel, rfl, by decide +kernel, by decide +kernel⟩
theorem bd_read_integer : BindH "read_integer" s_read_integer ["text", "index"] := fun _ _ _ _ _ _ us hl => match us, hl with | [_, _], _ => rfl
def spReadInt : Sp := fun vs H Q _ => ∃ (t : Str) (i : Nat) (z : Int), vs = [.str t, .int i] ∧ At t i (intL z ++ [59]) ∧ z.natAbs < 10 ^ 60 ∧ t.length ≤ 16000000 ∧
  ∀ p H', Same H H' → H' p = some (.tup [.int z, .int ((i + (intL z).length + 1 : Nat) : Int)]) → Q (.ref p) H'
theorem cal_read_integer (T : Tx K mg) : Cal P w K mg base 3 "read_integer" ["text", "index"] spReadInt := by
  have c_char_at := cal_char_at (P := P) (w := w) (base := base) T
  have c_read_digits := cal_read_digits (P := P) (w := w) (base := base) T
  refine cal_of T.at_read_integer sc_read_integer bd_read_integer (fun vs H Q E h => ?_) fun f cdv A outer s H0 E hr => ⟨_, (pss_cons (ps_set (i := 2) sc_read_integer.nd rfl (Or.inl rfl) (pe_cmpR op_eq (pe_cal c_char_at (hr.mono (by omega)) (by rfl) (pa_cons (pv 0) (pa_cons (pv 1) pa_nil))) pe_str (nomark _)))
      (pss_cons (ps_if (pt_val (pv 2))
      (pss_cons (ps_aug (i := 1) sc_read_integer.nd rfl (Or.inl rfl) pe_int ip_add)
        (pss_one (ps_if (pt_cmpR op_eq (pe_cal c_char_at (hr.mono (by omega)) (by rfl) (pa_cons (pv 0) (pa_cons (pv 1) pa_nil))) pe_str (nomark _))
        pss_never
        pss_nil)))
      pss_nil)
      (pss_cons (ps_asg (pe_cal c_read_digits (hr.mono (by omega)) (by rfl) (pa_cons (pv 0) (pa_cons (pv 1) (pa_cons (pe_gint (by rfl) T.k_MOST_DIGITS) (pa_cons pe_str pa_nil))))) (pg_tupK (K := K) (n := 2) rfl rfl (pgs_cons (pg_name (i := 3) sc_read_integer.nd rfl (Or.inl rfl)) (pgs_cons (pg_name (i := 1) sc_read_integer.nd rfl (Or.inl rfl)) pgs_nil))))
      (pss_cons (ps_if (pt_val (pv 2))
      (pss_one (ps_ret (pe_tup (pa_cons (pe_un un_neg (pe_callTy cr_intS (by rfl) T.m_int (by decide +kernel) (pa_cons (pv 3) pa_nil))) (pa_cons (pv 1) pa_nil)))))
      pss_nil)
      (pss_one (ps_ret (pe_tup (pa_cons (pe_callTy cr_intS (by rfl) T.m_int (by decide +kernel) (pa_cons (pv 3) pa_nil)) (pa_cons (pv 1) pa_nil))))))))), fun vs H Q h => ?_⟩
  · obtain ⟨t, i, z, rfl, _⟩ := h
    rfl
  · obtain ⟨t, i, z, rfl, hat, hz, hl, q⟩ := h
    have h60 := numL_60 hz
    walk_at "rd"
    have h0 : (TL.numL z.natAbs)[0]? = some ((TL.numL z.natAbs)[0]'(List.length_pos_iff.mpr (TL.numL_ne _))) := List.getElem?_eq_getElem _
    by_cases hneg : z < 0
    · have ei : intL z = 45 :: TL.numL z.natAbs := if_pos hneg
      rw [ei] at hat q
      refine ⟨t, i, 45, rfl, hat.get (k := 0) rfl, hl, ?_⟩
      walk_at "rd"
      rw [e45, dec_sign, decide_eq_true rfl]
      walk_at "rd"
      have hat1 : At t (i + 1) (TL.numL z.natAbs ++ [59]) := hat.tail
      refine ⟨t, i + 1, _, rfl, hat1.left.get (k := 0) h0, hl, ?_⟩
      walk_at "rd"
      refine r_no (by rw [e48, dec_sign]; exact decide_eq_false (numL_at0 h0 (.inr (by omega)))) ?_
      walk_at "rd"
      refine ⟨t, i + 1, z.natAbs, 60, 59, by rw [e59]; rfl, hat1, .inr (by decide), h60, hl, fun p H2 e2 hp => r_gpair hp ?_⟩
      walk_at "rd"
      refine r_intS (int_numL h60) (by show (TL.numL z.natAbs).length ≤ 640; omega) ?_
      walk_at "rd"
      refine r_newT (Nat.le_of_ble_eq_true rfl) fun p2 H3 _ e3 hp3 => q p2 H3 (e2.trans e3) ?_
      rw [hp3]
      have e1 : -((z.natAbs : Nat) : Int) = z := by omega
      rw [e1]
      have e2 : i + 1 + (TL.numL z.natAbs).length + 1 = i + (45 :: TL.numL z.natAbs).length + 1 := by rw [List.length_cons]; omega
      rw [e2]
    · have ei : intL z = TL.numL z.natAbs := if_neg hneg
      rw [ei] at hat q
      refine ⟨t, i, _, rfl, hat.left.get (k := 0) h0, hl, ?_⟩
      walk_at "rd"
      have hr0 := numL_range (List.mem_of_getElem? h0)
      rw [e45, dec_sign, decide_eq_false (show ¬ _ = 45 by omega)]
      walk_at "rd"
      refine ⟨t, i, z.natAbs, 60, 59, by rw [e59]; rfl, hat, .inr (by decide), h60, hl, fun p H2 e2 hp => r_gpair hp ?_⟩
      walk_at "rd"
      refine r_intS (int_numL h60) (by show (TL.numL z.natAbs).length ≤ 640; omega) ?_
      walk_at "rd"
      refine r_newT (Nat.le_of_ble_eq_true rfl) fun p2 H3 _ e3 hp3 => q p2 H3 (e2.trans e3) ?_
      rw [hp3]
      have e1 : ((z.natAbs : Nat) : Int) = z := by omega
      rw [e1]
/-! ### read_text -/
abbrev n_read_text : List Str := ["text", "index", "digits", "end"]
theorem sc_read_text : FnScope n_read_text ["text", "index"] (defScope s_read_text) := ⟨rfl, rfl, rfl, by decide +kernel, rfl, by decide +kernel, by decide +kernel⟩
theorem bd_read_text : BindH "read_text" s_read_text ["text", "index"] := fun _ _ _ _ _ _ us hl => match us, hl with | [_, _], _ => rfl
def spReadText : Sp := fun vs H Q _ => ∃ (t : Str) (i : Nat) (x : Str), vs = [.str t, .int i] ∧ At t i (TL.numL x.length ++ (58 :: TL.tl x)) ∧ x.length < 1000 ∧ t.length ≤ 16000000 ∧
  ∀ p H', Same H H' → H' p = some (.tup [.str x, .int ((i + (TL.numL x.length).length + 1 + x.length : Nat) : Int)]) → Q (.ref p) H'
theorem cal_read_text (T : Tx K mg) : Cal P w K mg base 3 "read_text" ["text", "index"] spReadText := by
  have c_read_digits := cal_read_digits (P := P) (w := w) (base := base) T
  refine cal_of T.at_read_text sc_read_text bd_read_text (fun vs H Q E h => ?_) fun f cdv A outer s H0 E hr => ⟨_, (pss_cons (ps_asg (pe_cal c_read_digits (hr.mono (by omega)) (by rfl) (pa_cons (pv 0) (pa_cons (pv 1) (pa_cons (pe_gint (by rfl) T.k_MOST_SIZE_DIGITS) (pa_cons pe_str pa_nil))))) (pg_tupK (K := K) (n := 2) rfl rfl (pgs_cons (pg_name (i := 2) sc_read_text.nd rfl (Or.inl rfl)) (pgs_cons (pg_name (i := 1) sc_read_text.nd rfl (Or.inl rfl)) pgs_nil))))
      (pss_cons (ps_set (i := 3) sc_read_text.nd rfl (Or.inl rfl) (pe_op op_add (pv 1) (pe_callTy cr_intS (by rfl) T.m_int (by decide +kernel) (pa_cons (pv 2) pa_nil))))
      (pss_cons (ps_if (pt_cmpR op_gt (pv 3) (pe_callB cr_lnS (by rfl) T.m_len PySem.boot_len (pa_cons (pv 0) pa_nil)) (nomark _))
      pss_never
      pss_nil)
      (pss_one (ps_ret (pe_tup (pa_cons (pe_slice sl_str (pv 0) (po_some (pv 1)) (po_some (pv 3))) (pa_cons (pv 3) pa_nil)))))))), fun vs H Q h => ?_⟩
  · obtain ⟨t, i, z, rfl, _⟩ := h
    rfl
  · obtain ⟨t, i, x, rfl, hat, hx, hl, q⟩ := h
    have h3 := numL_3 hx
    have hat2 : At t i ((TL.numL x.length ++ [58]) ++ TL.tl x) := by
      rw [List.append_assoc]
      exact hat
    have hat3 := hat2.right
    rw [List.length_append, List.length_singleton] at hat3
    have hit : i ≤ t.length := by
      cases hn : TL.numL x.length with
      | nil => exact (TL.numL_ne _ hn).elim
      | cons a r =>
        rw [hn] at hat
        exact Nat.le_of_lt hat.lt
    have hit2 := hat2.left.le hit
    rw [List.length_append, List.length_singleton] at hit2
    have hit3 := hat3.le hit2
    rw [← TL.len_tl] at hit3
    walk_at "rd"
    refine ⟨t, i, x.length, 6, 58, by rw [e58]; rfl, hat2.left, .inr (by decide), by omega, hl, fun p H2 e2 hp => r_gpair hp ?_⟩
    walk_at "rd"
    refine r_intS (int_numL (by omega)) (by show (TL.numL x.length).length ≤ 640; omega) ?_
    walk_at "rd"
    refine r_lnS (line16 hl) ?_
    walk_at "rd"
    refine r_no (decide_eq_false (by omega)) ?_
    walk_at "rd"
    refine r_slS (line16 hl) ?_
    walk_at "rd"
    have ec : cutS t (some ((i + (TL.numL x.length).length + 1 : Nat) : Int)) (some (((i + (TL.numL x.length).length + 1 : Nat) : Int) + (x.length : Int))) = x := by
      have z := hat3.cut hit2
      rw [← TL.len_tl] at z
      rw [show ((i + (TL.numL x.length).length + 1 : Nat) : Int) + (x.length : Int) = ((i + ((TL.numL x.length).length + 1) + x.length : Nat) : Int) by omega]
      rw [show i + (TL.numL x.length).length + 1 = i + ((TL.numL x.length).length + 1) by omega, z]
    rw [ec]
    refine r_newT (Nat.le_of_ble_eq_true rfl) fun p2 H3 _ e3 hp3 => q p2 H3 (e2.trans e3) ?_
    rw [hp3]
    rfl
end
end Vt
-- VtD6
set_option Elab.async false
set_option linter.all false
set_option maxRecDepth 100000
set_option maxHeartbeats 4000000
namespace Vt
open PySem PySem.Spec PyProof.Rows L2
local macro_rules | `(tactic| walk_at "rd") => `(tactic| (repeat (first
  | with_reducible refine r_sasg ?_ | with_reducible refine r_sfset ?_ | with_reducible refine r_sfaug ?_ | with_reducible refine r_sdput ?_ | with_reducible refine r_sdrop ?_ | with_reducible refine r_swhen ?_ | with_reducible refine r_sif ?_ | with_reducible refine r_asg ?_ | with_reducible refine r_drop ?_
  | with_reducible refine r_ret ?_ | with_reducible refine r_if ?_ | with_reducible refine r_next ?_
  | with_reducible refine r_c ?_ | with_reducible refine r_var (by with_unfolding_all exact rfl) ?_ | with_reducible refine r_op ?_ | with_reducible refine r_un ?_ | with_reducible refine r_I0 ?_ | ((with_reducible refine r_I ?_ ?_); · first | (show (0 : Int) < _; decide) | exact div_ok (by decide) (by decide)) | with_reducible refine r_U ?_
  | with_reducible refine r_eq (by with_unfolding_all exact rfl) ?_ | with_reducible refine r_ne (by with_unfolding_all exact rfl) ?_
  | with_reducible refine r_tstq ?_ | with_reducible refine r_tBq ?_ | with_reducible refine r_blq ?_ | with_reducible refine r_intq ?_ | with_reducible refine r_and ?_ | with_reducible refine r_or ?_ | with_reducible refine r_not ?_
  | with_reducible refine r_andV ?_ | with_reducible refine r_orV ?_ | with_reducible refine r_notV ?_
  | with_reducible refine r_nil ?_ | with_reducible refine r_cons ?_ | with_reducible refine r_call ?_ | with_reducible refine r_tup ?_ | with_reducible refine r_lst ?_ | with_reducible refine r_cb ?_ | with_reducible refine r_int1 ?_ | with_reducible refine r_ord ?_
  | with_reducible refine r_sl ?_ | with_reducible refine r_nop ?_ | with_reducible refine r_partq ?_ | with_reducible refine r_bm ?_ | with_reducible refine r_fld ?_
  | with_reducible refine r_lct ?_ | with_reducible refine r_lcl ?_ | with_reducible refine r_lcr ?_ | with_reducible refine r_sfort ?_ | with_reducible refine r_sforl ?_ | with_reducible refine r_sfors ?_ | with_reducible refine r_sforr ?_ | with_reducible refine r_sforz ?_
  | with_reducible refine r_fort ?_ | with_reducible refine r_forl ?_ | with_reducible refine r_forr ?_ | with_reducible refine r_sasgt ?_ | with_reducible refine r_asgt ?_ | with_reducible refine r_saug (by with_unfolding_all exact rfl) ?_ | with_reducible refine r_aug (by with_unfolding_all exact rfl) ?_ | with_reducible refine r_ip ?_ | with_reducible refine r_gname ?_ | with_reducible refine r_seq ?_
  | with_reducible refine r_dget ?_ | with_reducible refine r_din ?_ | with_reducible refine r_dnotin ?_ | with_reducible refine r_sdput ?_ | with_reducible refine r_dput ?_ | with_reducible refine r_mg ?_ | with_reducible refine r_rev ?_ | with_reducible refine r_dzip ?_
  | with_reducible refine r_lcz ?_ | with_reducible refine r_form ?_
  | with_reducible refine r_sfset ?_ | with_reducible refine r_fset ?_ | with_reducible refine r_sfaug ?_ | with_reducible refine r_meth ?_ | with_reducible refine r_make ?_
  | with_reducible refine r_srtl ?_ | with_reducible refine r_m1q ?_ | with_reducible refine r_strq ?_
  | with_reducible refine r_iteT ?_ | with_reducible refine r_iteF ?_)))
local macro_rules | `(tactic| walk_at "rs") => `(tactic| (repeat (first
  | with_reducible refine r_sasg ?_ | with_reducible refine r_sfset ?_ | with_reducible refine r_sfaug ?_ | with_reducible refine r_sdput ?_ | with_reducible refine r_sdrop ?_ | with_reducible refine r_asg ?_ | with_reducible refine r_drop ?_
  | with_reducible refine r_ret ?_ | with_reducible refine r_next ?_
  | with_reducible refine r_c ?_ | with_reducible refine r_var (by with_unfolding_all exact rfl) ?_ | with_reducible refine r_op ?_ | with_reducible refine r_un ?_ | with_reducible refine r_I0 ?_ | ((with_reducible refine r_I ?_ ?_); · first | (show (0 : Int) < _; decide) | exact div_ok (by decide) (by decide)) | with_reducible refine r_U ?_
  | with_reducible refine r_eq (by with_unfolding_all exact rfl) ?_ | with_reducible refine r_ne (by with_unfolding_all exact rfl) ?_
  | with_reducible refine r_tstq ?_ | with_reducible refine r_tBq ?_ | with_reducible refine r_blq ?_ | with_reducible refine r_intq ?_ | with_reducible refine r_and ?_ | with_reducible refine r_or ?_ | with_reducible refine r_not ?_
  | with_reducible refine r_andV ?_ | with_reducible refine r_orV ?_ | with_reducible refine r_notV ?_
  | with_reducible refine r_nil ?_ | with_reducible refine r_cons ?_ | with_reducible refine r_call ?_ | with_reducible refine r_tup ?_ | with_reducible refine r_lst ?_ | with_reducible refine r_cb ?_ | with_reducible refine r_int1 ?_ | with_reducible refine r_ord ?_
  | with_reducible refine r_sl ?_ | with_reducible refine r_nop ?_ | with_reducible refine r_partq ?_ | with_reducible refine r_bm ?_ | with_reducible refine r_fld ?_
  | with_reducible refine r_lct ?_ | with_reducible refine r_lcl ?_ | with_reducible refine r_lcr ?_ | with_reducible refine r_sfort ?_ | with_reducible refine r_sforl ?_ | with_reducible refine r_sfors ?_ | with_reducible refine r_sforr ?_ | with_reducible refine r_sforz ?_
  | with_reducible refine r_fort ?_ | with_reducible refine r_forl ?_ | with_reducible refine r_forr ?_ | with_reducible refine r_sasgt ?_ | with_reducible refine r_asgt ?_ | with_reducible refine r_saug (by with_unfolding_all exact rfl) ?_ | with_reducible refine r_aug (by with_unfolding_all exact rfl) ?_ | with_reducible refine r_ip ?_ | with_reducible refine r_gname ?_ | with_reducible refine r_seq ?_
  | with_reducible refine r_dget ?_ | with_reducible refine r_din ?_ | with_reducible refine r_dnotin ?_ | with_reducible refine r_sdput ?_ | with_reducible refine r_dput ?_ | with_reducible refine r_mg ?_ | with_reducible refine r_rev ?_ | with_reducible refine r_dzip ?_
  | with_reducible refine r_lcz ?_ | with_reducible refine r_form ?_
  | with_reducible refine r_sfset ?_ | with_reducible refine r_fset ?_ | with_reducible refine r_sfaug ?_ | with_reducible refine r_meth ?_ | with_reducible refine r_make ?_
  | with_reducible refine r_srtl ?_ | with_reducible refine r_m1q ?_ | with_reducible refine r_strq ?_
  | with_reducible refine r_iteT ?_ | with_reducible refine r_iteF ?_)))
local macro_rules | `(tactic| walk_at "tex") => `(tactic| (first
  | assumption | exact TEx.refl _ | exact TEx.of (by assumption) | ((refine TEx.trans ?_ (TEx.of (by assumption))); walk_at "tex") | ((refine TEx.trans ?_ (by assumption)); walk_at "tex")))
local macro_rules | `(tactic| walk_at "same") => `(tactic| (first
  | assumption | exact Same.refl _ | ((refine Same.trans ?_ (by assumption)); walk_at "same")))
local macro_rules | `(tactic| walk_at "tp") => `(tactic| (first
  | assumption | exact Tp.int _ | exact Tp.str _ | exact Tp.non | exact TpAll.nil | ((refine TpAll.cons ?_ ?_) <;> walk_at "tp") | ((refine Tp.mono ?_ (by assumption)); walk_at "tex") | ((refine TpAll.mono ?_ (by assumption)); walk_at "tex")))
local macro_rules | `(tactic| walk_at "hp") => `(tactic| (first
  | assumption | ((refine (TEx.trans ?_ (TEx.refl _)) _ _ (by assumption)); walk_at "tex")))
section
variable {P : Program} {w : World} {K : PySem.W.Frag} {mg : Str → Option Value} {base : Heap}
/-! ### read_item -/
abbrev n_read_item : List Str := ["text", "index", "level", "char", "items", "item"]
theorem sc_read_item : FnScope n_read_item ["text", "index", "level"] (defScope s_read_item) := ⟨rfl, rfl, rfl, by decide +kernel, rfl, by decide +kernel, by decide +kernel⟩
theorem bd_read_item : BindH "read_item" s_read_item ["text", "index", "level"] := fun _ _ _ _ _ _ us hl => match us, hl with | [_, _, _], _ => rfl
/-- an item of the data d, nested less than n deep, from the place i on -/
def spItem (n : Nat) : Sp := fun vs H Q _ => ∃ (t : Str) (i lv : Nat) (d : PyData), vs = [.str t, .int i, .int lv] ∧ At t i (encL d) ∧ dep d < n ∧ encOk d = true ∧ lv + n ≤ 13 ∧ t.length ≤ 16000000 ∧
  ∀ v p H', Same H H' → Tp H' v d → H' p = some (.tup [v, .int ((i + (encL d).length : Nat) : Int)]) → Q (.ref p) H'
theorem cal_read_item (T : Tx K mg) : ∀ n : Nat, Cal P w K mg base (n + 4) "read_item" ["text", "index", "level"] (spItem n) := by
  have c_char_at := cal_char_at (P := P) (w := w) (base := base) T
  have c_read_integer := cal_read_integer (P := P) (w := w) (base := base) T
  have c_read_text := cal_read_text (P := P) (w := w) (base := base) T
  intro n
  induction n with
  | zero => exact cal_never T.at_read_item sc_read_item bd_read_item fun vs H Q E ⟨t, i, lv, d, _, _, h, _⟩ => by omega
  | succ n ih =>
    have c_read_item := ih
    refine cal_of T.at_read_item sc_read_item bd_read_item (fun vs H Q E h => ?_) fun f cdv A outer s H0 E hr => ⟨_, (pss_cons (ps_set (i := 3) sc_read_item.nd rfl (Or.inl rfl) (pe_cal c_char_at (hr.mono (by omega)) (by rfl) (pa_cons (pv 0) (pa_cons (pv 1) pa_nil))))
      (pss_cons (ps_if (pt_cmpR op_eq (pv 3) pe_str (nomark _))
      (pss_one (ps_ret (pe_tup (pa_cons pe_non (pa_cons (pe_op op_add (pv 1) pe_int) pa_nil)))))
      pss_nil)
      (pss_cons (ps_if (pt_cmpR op_eq (pv 3) pe_str (nomark _))
      (pss_one (ps_ret (pe_cal c_read_integer (hr.mono (by omega)) (by rfl) (pa_cons (pv 0) (pa_cons (pe_op op_add (pv 1) pe_int) pa_nil)))))
      pss_nil)
      (pss_cons (ps_if (pt_cmpR op_eq (pv 3) pe_str (nomark _))
      (pss_one (ps_ret (pe_cal c_read_text (hr.mono (by omega)) (by rfl) (pa_cons (pv 0) (pa_cons (pe_op op_add (pv 1) pe_int) pa_nil)))))
      pss_nil)
      (pss_cons (ps_if (PW.pt (pw_or (pt_cmpR op_ne (pv 3) pe_str (nomark _)) (pw_or1 (pt_cmpR op_eq (pv 2) (pe_gint (by rfl) T.k_MOST_LEVELS) (nomark _)))))
      pss_never
      pss_nil)
      (pss_cons (ps_aug (i := 1) sc_read_item.nd rfl (Or.inl rfl) pe_int ip_add)
      (pss_cons (ps_set (i := 4) sc_read_item.nd rfl (Or.inl rfl) (pe_lst pa_nil))
      (pss_cons (ps_while PassesOwn.never (pt_cmpR op_ne (pe_cal c_char_at (hr.mono (by omega)) (by rfl) (pa_cons (pv 0) (pa_cons (pv 1) pa_nil))) pe_str (nomark _))
      (pss_cons (ps_asg (pe_cal c_read_item (hr.mono (by omega)) (by rfl) (pa_cons (pv 0) (pa_cons (pv 1) (pa_cons (pe_op op_add (pv 2) pe_int) pa_nil)))) (pg_tupK (K := K) (n := 2) rfl rfl (pgs_cons (pg_name (i := 5) sc_read_item.nd rfl (Or.inl rfl)) (pgs_cons (pg_name (i := 1) sc_read_item.nd rfl (Or.inl rfl)) pgs_nil))))
        (pss_one (ps_expr (pe_bm PySem.F.plainAttrs_list PySem.F.slot_list_append PySem.F.type_list_append mt_append (pv 4) (pa_cons (pv 5) pa_nil))))))
      (pss_one (ps_ret (pe_tup (pa_cons (pe_callTy (cr_tupOfK (K := K) rfl) (by rfl) T.m_tuple (by decide +kernel) (pa_cons (pv 4) pa_nil)) (pa_cons (pe_op op_add (pv 1) pe_int) pa_nil))))))))))))), fun vs H Q h => ?_⟩
    · obtain ⟨t, i, lv, d, rfl, _⟩ := h
      rfl
    · obtain ⟨t, i, lv, d, rfl, hat, hn, hok, hlv, hl, q⟩ := h
      walk_at "rd"
      cases d with
      | bool b => cases hok
      | list b => cases hok
      | dict b => cases hok
      | none =>
        rw [encL_none] at hat q
        refine ⟨t, i, _, rfl, hat.get (k := 0) rfl, hl, ?_⟩
        walk_at "rd"
        rw [e110, dec_sign]
        refine r_yes rfl ?_
        walk_at "rd"
        exact r_newT (Nat.le_of_ble_eq_true rfl) fun p2 H3 _ e3 hp3 => q .non p2 H3 e3 .non hp3
      | int z =>
        rw [encL_int] at hat q
        refine ⟨t, i, _, rfl, hat.get (k := 0) rfl, hl, ?_⟩
        walk_at "rd"
        rw [e110, dec_sign]
        refine r_no rfl ?_
        walk_at "rd"
        rw [e105, dec_sign]
        refine r_yes rfl ?_
        walk_at "rd"
        unfold encOk at hok
        refine ⟨t, i + 1, z, rfl, hat.tail, of_decide_eq_true hok, hl, fun p H2 e2 hp => q (.int z) p H2 e2 (.int z) ?_⟩
        rw [hp, List.length_cons, List.length_append, List.length_singleton, show i + 1 + (intL z).length + 1 = i + ((intL z).length + 1 + 1) by omega]
      | str x =>
        rw [encL_str] at hat q
        refine ⟨t, i, _, rfl, hat.get (k := 0) rfl, hl, ?_⟩
        walk_at "rd"
        rw [e110, dec_sign]
        refine r_no rfl ?_
        walk_at "rd"
        rw [e105, dec_sign]
        refine r_no rfl ?_
        walk_at "rd"
        rw [e116, dec_sign]
        refine r_yes rfl ?_
        walk_at "rd"
        unfold encOk at hok
        refine ⟨t, i + 1, x, rfl, hat.tail, of_decide_eq_true hok, hl, fun p H2 e2 hp => q (.str x) p H2 e2 (.str x) ?_⟩
        rw [hp, List.length_cons, List.length_append, List.length_cons, ← TL.len_tl, show i + 1 + (TL.numL x.length).length + 1 + x.length = i + ((TL.numL x.length).length + (x.length + 1) + 1) by omega]
      | tuple ds =>
        rw [encL_tup] at hat q
        rw [encOk_tup, Bool.and_eq_true] at hok
        obtain ⟨hdl, hok⟩ := hok
        have hdl := of_decide_eq_true hdl
        rw [dep_tup] at hn
        refine ⟨t, i, _, rfl, hat.get (k := 0) rfl, hl, ?_⟩
        walk_at "rd"
        rw [e110, dec_sign]
        refine r_no rfl ?_
        walk_at "rd"
        rw [e105, dec_sign]
        refine r_no rfl ?_
        walk_at "rd"
        rw [e116, dec_sign]
        refine r_no rfl ?_
        walk_at "rd"
        rw [e40, dec_sign]
        refine r_no rfl ?_
        walk_at "rd"
        have ne : ¬ (lv : Int) = 12 := by omega
        refine r_no (decide_eq_false fun z => ne (V.int.inj z)) ?_
        walk_at "rd"
        refine r_newL (Nat.zero_le _) fun L H1 hL e1 hl1 => ?_
        refine r_swhile (fun m' σ' H' => ∃ k vs it, k ≤ ds.length ∧ m' = ds.length - k ∧ Same H H' ∧ H' L = some (.lst vs) ∧ TpAll H' vs (ds.take k) ∧
          σ' = [some (.str t), some (.int ((i + 1 + (encLs (ds.take k)).length : Nat) : Int)), some (.int lv), some (.str ⟨#[40]⟩), some (.ref L), it]) ds.length ⟨0, [], none, Nat.zero_le _, rfl, e1, hl1, .nil, rfl⟩ ?_
        rintro m' σ' H' ⟨k, vs, it, hk, rfl, eH, hLv, hvs, rfl⟩
        walk_at "rd"
        have hat1 : At t (i + 1 + (encLs (ds.take k)).length) (encLs (ds.drop k) ++ [41]) := by
          refine At.right (a := encLs (ds.take k)) ?_
          rw [← List.append_assoc, ← encLs_append, List.take_append_drop]
          exact hat.tail
        have hvl := hvs.length
        rw [List.length_take, Nat.min_eq_left hk] at hvl
        by_cases hlt : k < ds.length
        · have hd : ds.drop k = ds[k] :: ds.drop (k + 1) := List.drop_eq_getElem_cons hlt
          have hmem : ds[k] ∈ ds := List.getElem_mem hlt
          have hok1 := (encOks_all ds).mp hok _ hmem
          rw [hd, encLs_cons, List.append_assoc] at hat1
          obtain ⟨c, r, ec, hc⟩ := encL_head ds[k] hok1
          have hat2 := hat1.left
          rw [ec] at hat2
          refine ⟨t, _, c, rfl, hat2.get (k := 0) rfl, hl, ?_⟩
          walk_at "rd"
          rw [e41, dec_sign]
          refine r_yes (by rw [decide_eq_false hc]; rfl) (r_wq ?_)
          walk_at "rd"
          refine ⟨t, _, lv + 1, ds[k], rfl, hat1.left, ?_, hok1, by omega, hl, fun v p H2 e2 hv hp => r_gpair hp ?_⟩
          · exact Nat.lt_of_le_of_lt (deps_le.mp (Nat.le_refl _) _ hmem) (by omega)
          walk_at "rd"
          have hL2 := e2 L _ hLv
          refine r_tyL hL2 ?_
          walk_at "rd"
          refine r_app hL2 (by omega) fun H3 e3 => ?_
          subst e3
          have te : TEx H2 (upd H2 L (.lst (vs ++ [v]))) := TEx.upd hL2 fun xs z => by cases z
          have etk : ds.take (k + 1) = ds.take k ++ [ds[k]] := by rw [List.take_add_one, List.getElem?_eq_getElem hlt]; rfl
          refine ⟨ds.length - (k + 1), by omega, k + 1, vs ++ [v], some v, hlt, rfl, same_mut (eH.trans e2) hL, upd_same, ?_, ?_⟩
          · rw [etk]
            exact TpAll.append ((hvs.mono (TEx.of e2)).mono te) (TpAll.one (hv.mono te))
          · rw [etk, encLs_append, encLs_cons, encLs_nil, List.append_nil, List.length_append]
            show [some (V.str t), some (V.int ((i + 1 + (encLs (ds.take k)).length + (encL ds[k]).length : Nat) : Int)), some (V.int lv), some (V.str ⟨#[40]⟩), some (V.ref L), some v] = _
            rw [Nat.add_assoc (i + 1)]
        · have hk2 : k = ds.length := by omega
          subst hk2
          rw [List.drop_length, encLs_nil] at hat1
          rw [List.take_length] at hvs hat1
          refine ⟨t, _, 41, by rw [List.take_length]; rfl, hat1.get (k := 0) rfl, hl, ?_⟩
          walk_at "rd"
          rw [e41, dec_sign]
          refine r_no rfl ?_
          walk_at "rd"
          refine r_tupD hLv hvs fun l H2 e2 hp => ?_
          walk_at "rd"
          refine r_newT (Nat.le_of_ble_eq_true rfl) fun p2 H3 _ e3 hp3 => q (.ref l) p2 H3 ((eH.trans e2).trans e3) (hp.mono (TEx.of e3)) ?_
          rw [hp3, List.take_length, List.length_cons, List.length_append, List.length_singleton]
          show some (HO.tup [V.ref l, V.int ((i + 1 + (encLs ds).length + 1 : Nat) : Int)]) = _
          rw [show i + 1 + (encLs ds).length + 1 = i + ((encLs ds).length + 1 + 1) by omega]
/-! ### decode_prefix -/
abbrev n_decode_prefix : List Str := ["text", "index"]
theorem sc_decode_prefix : FnScope n_decode_prefix ["text", "index"] (defScope s_decode_prefix) := ⟨rfl, rfl, rfl, by decide +kernel, rfl, by decide +kernel, by decide +kernel⟩
theorem bd_decode_prefix : BindH "decode_prefix" s_decode_prefix ["text", "index"] := fun _ _ _ _ _ _ us hl => match us, hl with | [_, _], _ => rfl
def spPrefix : Sp := fun vs H Q _ => ∃ (t : Str) (d : PyData), vs = [.str t, .int 0] ∧ At t 0 (encL d) ∧ dep d < 10 ∧ encOk d = true ∧ t.length ≤ 16000000 ∧
  ∀ v p H', Same H H' → Tp H' v d → H' p = some (.tup [v, .int ((encL d).length : Nat)]) → Q (.ref p) H'
theorem cal_decode_prefix (T : Tx K mg) : Cal P w K mg base 15 "decode_prefix" ["text", "index"] spPrefix := by
  have c_read_item := cal_read_item (P := P) (w := w) (base := base) T 10
  refine cal_of T.at_decode_prefix sc_decode_prefix bd_decode_prefix (fun vs H Q E h => ?_) fun f cdv A outer s H0 E hr => ⟨_, (pss_one (ps_ret (pe_cal c_read_item (hr.mono (by omega)) (by rfl) (pa_cons (pv 0) (pa_cons (pv 1) (pa_cons pe_int pa_nil)))))), fun vs H Q h => ?_⟩
  · obtain ⟨t, d, rfl, _⟩ := h
    rfl
  · obtain ⟨t, d, rfl, hat, hd, hok, hl, q⟩ := h
    walk_at "rd"
    refine ⟨t, 0, 0, d, rfl, hat, hd, hok, by decide, hl, fun v p H' e hv hp => q v p H' e hv ?_⟩
    rw [hp, Nat.zero_add]
/-! ### decode -/
abbrev n_decode : List Str := ["text", "item", "index"]
theorem sc_decode : FnScope n_decode ["text"] (defScope s_decode) := ⟨rfl, rfl, rfl, by decide +kernel, rfl, by decide +kernel, by decide +kernel⟩
theorem bd_decode : BindH "decode" s_decode ["text"] := fun _ _ _ _ _ _ us hl => match us, hl with | [_], _ => rfl
def spDec : Sp := fun vs H Q _ => ∃ d : PyData, vs = [.str (encS d)] ∧ dep d < 10 ∧ encOk d = true ∧ (encL d).length ≤ 16000000 ∧ ∀ v H', Same H H' → Tp H' v d → Q v H'
theorem cal_decode (T : Tx K mg) : Cal P w K mg base 16 "decode" ["text"] spDec := by
  have c_decode_prefix := cal_decode_prefix (P := P) (w := w) (base := base) T
  refine cal_of T.at_decode sc_decode bd_decode (fun vs H Q E h => ?_) fun f cdv A outer s H0 E hr => ⟨_, (pss_cons (ps_try_thru0 (pss_one (ps_asg (pe_cal c_decode_prefix (hr.mono (by omega)) (by rfl) (pa_cons (pv 0) (pa_cons pe_int pa_nil))) (pg_tupK (K := K) (n := 2) rfl rfl (pgs_cons (pg_name (i := 1) sc_decode.nd rfl (Or.inl rfl)) (pgs_cons (pg_name (i := 2) sc_decode.nd rfl (Or.inl rfl)) pgs_nil))))))
      (pss_cons (ps_if (pt_cmpR op_lt (pv 2) (pe_callB cr_lnS (by rfl) T.m_len PySem.boot_len (pa_cons (pv 0) pa_nil)) (nomark _))
      pss_never
      pss_nil)
      (pss_one (ps_ret (pv 1))))), fun vs H Q h => ?_⟩
  · obtain ⟨d, rfl, _⟩ := h
    rfl
  · obtain ⟨d, rfl, hd, hok, hl, q⟩ := h
    walk_at "rd"
    refine ⟨encS d, d, rfl, ⟨[], by rw [tl_encS, List.append_nil]; rfl⟩, hd, hok, by rw [encS_len]; exact hl, fun v p H' e hv hp => r_gpair hp ?_⟩
    walk_at "rd"
    refine r_lnS (line16 (by rw [encS_len]; exact hl)) ?_
    walk_at "rd"
    refine r_no (decide_eq_false (by rw [encS_len]; omega)) ?_
    walk_at "rd"
    exact q v H' e hv
end
end Vt
-- VtD10
set_option Elab.async false
set_option linter.all false
set_option maxRecDepth 100000
set_option maxHeartbeats 4000000
namespace Vt
open PySem PySem.Spec PyProof.Rows L2
local macro_rules | `(tactic| walk_at "rd") => `(tactic| (repeat (first
  | with_reducible refine r_sasg ?_ | with_reducible refine r_sfset ?_ | with_reducible refine r_sfaug ?_ | with_reducible refine r_sdput ?_ | with_reducible refine r_sdrop ?_ | with_reducible refine r_swhen ?_ | with_reducible refine r_sif ?_ | with_reducible refine r_asg ?_ | with_reducible refine r_drop ?_
  | with_reducible refine r_ret ?_ | with_reducible refine r_if ?_ | with_reducible refine r_next ?_
  | with_reducible refine r_c ?_ | with_reducible refine r_var (by with_unfolding_all exact rfl) ?_ | with_reducible refine r_op ?_ | with_reducible refine r_un ?_ | with_reducible refine r_I0 ?_ | ((with_reducible refine r_I ?_ ?_); · first | (show (0 : Int) < _; decide) | exact div_ok (by decide) (by decide)) | with_reducible refine r_U ?_
  | with_reducible refine r_eq (by with_unfolding_all exact rfl) ?_ | with_reducible refine r_ne (by with_unfolding_all exact rfl) ?_
  | with_reducible refine r_tstq ?_ | with_reducible refine r_tBq ?_ | with_reducible refine r_blq ?_ | with_reducible refine r_intq ?_ | with_reducible refine r_and ?_ | with_reducible refine r_or ?_ | with_reducible refine r_not ?_
  | with_reducible refine r_andV ?_ | with_reducible refine r_orV ?_ | with_reducible refine r_notV ?_
  | with_reducible refine r_nil ?_ | with_reducible refine r_cons ?_ | with_reducible refine r_call ?_ | with_reducible refine r_tup ?_ | with_reducible refine r_lst ?_ | with_reducible refine r_cb ?_ | with_reducible refine r_int1 ?_ | with_reducible refine r_ord ?_
  | with_reducible refine r_sl ?_ | with_reducible refine r_nop ?_ | with_reducible refine r_partq ?_ | with_reducible refine r_bm ?_ | with_reducible refine r_fld ?_
  | with_reducible refine r_lct ?_ | with_reducible refine r_lcl ?_ | with_reducible refine r_lcr ?_ | with_reducible refine r_sfort ?_ | with_reducible refine r_sforl ?_ | with_reducible refine r_sfors ?_ | with_reducible refine r_sforr ?_ | with_reducible refine r_sforz ?_
  | with_reducible refine r_fort ?_ | with_reducible refine r_forl ?_ | with_reducible refine r_forr ?_ | with_reducible refine r_sasgt ?_ | with_reducible refine r_asgt ?_ | with_reducible refine r_saug (by with_unfolding_all exact rfl) ?_ | with_reducible refine r_aug (by with_unfolding_all exact rfl) ?_ | with_reducible refine r_ip ?_ | with_reducible refine r_gname ?_ | with_reducible refine r_seq ?_
  | with_reducible refine r_dget ?_ | with_reducible refine r_din ?_ | with_reducible refine r_dnotin ?_ | with_reducible refine r_sdput ?_ | with_reducible refine r_dput ?_ | with_reducible refine r_mg ?_ | with_reducible refine r_rev ?_ | with_reducible refine r_dzip ?_
  | with_reducible refine r_lcz ?_ | with_reducible refine r_form ?_
  | with_reducible refine r_sfset ?_ | with_reducible refine r_fset ?_ | with_reducible refine r_sfaug ?_ | with_reducible refine r_meth ?_ | with_reducible refine r_make ?_
  | with_reducible refine r_srtl ?_ | with_reducible refine r_m1q ?_ | with_reducible refine r_strq ?_
  | with_reducible refine r_iteT ?_ | with_reducible refine r_iteF ?_)))
local macro_rules | `(tactic| walk_at "rs") => `(tactic| (repeat (first
  | with_reducible refine r_sasg ?_ | with_reducible refine r_sfset ?_ | with_reducible refine r_sfaug ?_ | with_reducible refine r_sdput ?_ | with_reducible refine r_sdrop ?_ | with_reducible refine r_asg ?_ | with_reducible refine r_drop ?_
  | with_reducible refine r_ret ?_ | with_reducible refine r_next ?_
  | with_reducible refine r_c ?_ | with_reducible refine r_var (by with_unfolding_all exact rfl) ?_ | with_reducible refine r_op ?_ | with_reducible refine r_un ?_ | with_reducible refine r_I0 ?_ | ((with_reducible refine r_I ?_ ?_); · first | (show (0 : Int) < _; decide) | exact div_ok (by decide) (by decide)) | with_reducible refine r_U ?_
  | with_reducible refine r_eq (by with_unfolding_all exact rfl) ?_ | with_reducible refine r_ne (by with_unfolding_all exact rfl) ?_
  | with_reducible refine r_tstq ?_ | with_reducible refine r_tBq ?_ | with_reducible refine r_blq ?_ | with_reducible refine r_intq ?_ | with_reducible refine r_and ?_ | with_reducible refine r_or ?_ | with_reducible refine r_not ?_
  | with_reducible refine r_andV ?_ | with_reducible refine r_orV ?_ | with_reducible refine r_notV ?_
  | with_reducible refine r_nil ?_ | with_reducible refine r_cons ?_ | with_reducible refine r_call ?_ | with_reducible refine r_tup ?_ | with_reducible refine r_lst ?_ | with_reducible refine r_cb ?_ | with_reducible refine r_int1 ?_ | with_reducible refine r_ord ?_
  | with_reducible refine r_sl ?_ | with_reducible refine r_nop ?_ | with_reducible refine r_partq ?_ | with_reducible refine r_bm ?_ | with_reducible refine r_fld ?_
  | with_reducible refine r_lct ?_ | with_reducible refine r_lcl ?_ | with_reducible refine r_lcr ?_ | with_reducible refine r_sfort ?_ | with_reducible refine r_sforl ?_ | with_reducible refine r_sfors ?_ | with_reducible refine r_sforr ?_ | with_reducible refine r_sforz ?_
  | with_reducible refine r_fort ?_ | with_reducible refine r_forl ?_ | with_reducible refine r_forr ?_ | with_reducible refine r_sasgt ?_ | with_reducible refine r_asgt ?_ | with_reducible refine r_saug (by with_unfolding_all exact rfl) ?_ | with_reducible refine r_aug (by with_unfolding_all exact rfl) ?_ | with_reducible refine r_ip ?_ | with_reducible refine r_gname ?_ | with_reducible refine r_seq ?_
  | with_reducible refine r_dget ?_ | with_reducible refine r_din ?_ | with_reducible refine r_dnotin ?_ | with_reducible refine r_sdput ?_ | with_reducible refine r_dput ?_ | with_reducible refine r_mg ?_ | with_reducible refine r_rev ?_ | with_reducible refine r_dzip ?_
  | with_reducible refine r_lcz ?_ | with_reducible refine r_form ?_
  | with_reducible refine r_sfset ?_ | with_reducible refine r_fset ?_ | with_reducible refine r_sfaug ?_ | with_reducible refine r_meth ?_ | with_reducible refine r_make ?_
  | with_reducible refine r_srtl ?_ | with_reducible refine r_m1q ?_ | with_reducible refine r_strq ?_
  | with_reducible refine r_iteT ?_ | with_reducible refine r_iteF ?_)))
local macro_rules | `(tactic| walk_at "tex") => `(tactic| (first
  | assumption | exact TEx.refl _ | exact TEx.of (by assumption) | ((refine TEx.trans ?_ (TEx.of (by assumption))); walk_at "tex") | ((refine TEx.trans ?_ (by assumption)); walk_at "tex")))
local macro_rules | `(tactic| walk_at "same") => `(tactic| (first
  | assumption | exact Same.refl _ | ((refine Same.trans ?_ (by assumption)); walk_at "same")))
local macro_rules | `(tactic| walk_at "tp") => `(tactic| (first
  | assumption | exact Tp.int _ | exact Tp.str _ | exact Tp.non | exact TpAll.nil | ((refine TpAll.cons ?_ ?_) <;> walk_at "tp") | ((refine Tp.mono ?_ (by assumption)); walk_at "tex") | ((refine TpAll.mono ?_ (by assumption)); walk_at "tex")))
local macro_rules | `(tactic| walk_at "hp") => `(tactic| (first
  | assumption | ((refine (TEx.trans ?_ (TEx.refl _)) _ _ (by assumption)); walk_at "tex")))
/-- an entry's shape at a level -/
def Sh (lv : Nat) (e : PyData) : Prop := lv = 0 ∨ ∃ k a, ∃ c : Nat, e = .tuple [k, .int a, .int c] ∧ c ≤ 8 ^ lv
theorem cntE_le {lv : Nat} {e : PyData} (h0 : lv ≠ 0) (h : Sh lv e) : cntE e ≤ 8 ^ lv := by
  rcases h with h | ⟨k, a, c, rfl, h⟩
  · exact (h0 h).elim
  · show (c : Int).toNat ≤ 8 ^ lv
    rw [Int.toNat_natCast]
    exact h
theorem sum_le {m : Nat} : ∀ {l : List Nat}, (∀ x ∈ l, x ≤ m) → l.sum ≤ l.length * m
  | [], _ => by simp
  | x :: r, h => by
    have h1 := h x (List.mem_cons_self ..)
    have h2 := sum_le fun y hy => h y (List.mem_cons_of_mem _ hy)
    rw [List.sum_cons, List.length_cons, Nat.succ_mul]
    omega
theorem cntG_le {lv : Nat} {g : List PyData} (hl : g.length ≤ 8) (h : ∀ e ∈ g, Sh lv e) : cntG lv g ≤ 8 ^ (lv + 1) := by
  unfold cntG
  split
  · rename_i e
    subst e
    simpa using hl
  · rename_i e
    have := sum_le (m := 8 ^ lv) (l := g.map cntE) fun x hx => by
      obtain ⟨y, hy, rfl⟩ := List.mem_map.mp hx
      exact cntE_le e (h y hy)
    rw [List.length_map] at this
    rw [Nat.pow_succ, Nat.mul_comm]
    exact Nat.le_trans this (Nat.mul_le_mul_right _ hl)
theorem TpAll.last {H : Hp} {gv : List V} {g : List PyData} (h : TpAll H gv g) (hne : g ≠ []) : ∃ v e, atI gv (-1) = some v ∧ g.getLast? = some e ∧ Tp H v e ∧ e ∈ g := by
  have hl := h.length
  have hp := List.length_pos_iff.mpr hne
  have hg : g.getLast? = some (g.getLast hne) := List.getLast?_eq_some_getLast hne
  have hgi : g[g.length - 1]? = some (g.getLast hne) := by rw [← List.getLast?_eq_getElem?]; exact hg
  obtain ⟨v, hv, ht⟩ := h.get hgi
  have hgv : gv ≠ [] := by
    intro e
    rw [e] at hl
    simp at hl
    omega
  have e1 : gv.getLast hgv = v := by
    have := List.getLast?_eq_getElem? (l := gv)
    rw [List.getLast?_eq_some_getLast hgv, hl, hv] at this
    exact Option.some.inj this
  refine ⟨v, g.getLast hne, ?_, hg, ht, List.getLast_mem hne⟩
  rw [← List.dropLast_concat_getLast hgv, e1]
  exact atI_last _ _
section
variable {P : Program} {w : World} {K : PySem.W.Frag} {mg : Str → Option Value} {base : Heap}
/-! ### write_chunk -/
abbrev n_write_chunk : List Str := ["chunks", "level", "group", "address", "key", "below", "count"]
theorem sc_write_chunk : FnScope n_write_chunk ["chunks", "level", "group"] (defScope s_write_chunk) := ⟨rfl, rfl, rfl, by decide +kernel, rfl, by decide +kernel, by decide +kernel⟩
theorem bd_write_chunk : BindH "write_chunk" s_write_chunk ["chunks", "level", "group"] := fun _ _ _ _ _ _ us hl => match us, hl with | [_, _, _], _ => rfl
def spWriteChunk (K : PySem.W.Frag) : Sp := fun vs H Q _ => ∃ (b n c t : Addr) (bk : List Str) (Pp : Pr) (N lv : Nat) (L : Addr) (gv : List V) (g : List PyData), vs = [.ref c, .int lv, .ref L] ∧ Sg K H b n c t bk Pp N ∧ N < 800000 ∧ lv ≤ 10 ∧
  H L = some (.lst gv) ∧ TpAll H gv g ∧ g ≠ [] ∧ g.length ≤ 8 ∧ (∀ e ∈ g, Eo e) ∧ (∀ e ∈ g, Sh lv e) ∧
  ∀ (v : V) (e : PyData) (H' : Hp) (bk' : List Str) (P' : Pr), Sg K H' b n c t bk' P' (N + 2) → Wr H H' n c t bk bk' Pp P' → Ent P' lv g e → Eo e → Sh (lv + 1) e → Tp H' v e → Q v H'
theorem cal_write_chunk (T : Tx K mg) : Cal P w K mg base 8 "write_chunk" ["chunks", "level", "group"] (spWriteChunk K) := by
  have c_encode := cal_encode (P := P) (w := w) (base := base) T 5
  have c_put := cal_put (P := P) (w := w) (mg := mg) (base := base) T
  have hput := c_put
  refine cal_of T.at_write_chunk sc_write_chunk bd_write_chunk (fun vs H Q E h => ?_) fun f cdv A outer s H0 E hr => ⟨_, (pss_cons (ps_if (pt_cmpR op_eq (pv 1) pe_int (nomark _))
      (pss_cons (ps_set (i := 3) sc_write_chunk.nd rfl (Or.inl rfl) (pe_calm c_put (pv 0) (hr.mono (by omega)) (pa_cons (pe_cal c_encode (hr.mono (by omega)) (by rfl) (pa_cons (pe_tup (pa_cons pe_str (pa_cons (pe_callTy (cr_tupOfK (K := K) rfl) (by rfl) T.m_tuple (by decide +kernel) (pa_cons (pv 2) pa_nil)) pa_nil))) pa_nil)) pa_nil)))
        (pss_one (ps_ret (pe_tup (pa_cons (pe_ix (ix_tupK (K := K) rfl) (pe_ix (ix_listK (K := K) rfl) (pv 2) (pe_un un_neg pe_int) (fun _ _ => rfl)) pe_int (fun _ _ => rfl)) (pa_cons (pv 3) (pa_cons (pe_callB (cr_lnK (K := K) rfl) (by rfl) T.m_len PySem.boot_len (pa_cons (pv 2) pa_nil)) pa_nil)))))))
      pss_nil)
      (pss_cons (ps_set (i := 3) sc_write_chunk.nd rfl (Or.inl rfl) (pe_calm c_put (pv 0) (hr.mono (by omega)) (pa_cons (pe_cal c_encode (hr.mono (by omega)) (by rfl) (pa_cons (pe_tup (pa_cons pe_str (pa_cons (pv 1) (pa_cons (pe_callTy (cr_tupOfK (K := K) rfl) (by rfl) T.m_tuple (by decide +kernel) (pa_cons (pv 2) pa_nil)) pa_nil)))) pa_nil)) pa_nil)))
      (pss_one (ps_ret (pe_tup (pa_cons (pe_ix (ix_tupK (K := K) rfl) (pe_ix (ix_listK (K := K) rfl) (pv 2) (pe_un un_neg pe_int) (fun _ _ => rfl)) pe_int (fun _ _ => rfl)) (pa_cons (pv 3) (pa_cons (pe_callB (cr_sumK (K := K) rfl rfl) (by rfl) T.m_sum (by decide +kernel) (pa_cons (pe_lc (own := [("key", 4), ("below", 5), ("count", 6)]) rfl sc_write_chunk.nd (pi_list (pv 2)) (blkOk_by (own := [("key", 4), ("below", 5), ("count", 6)]) (N := n_write_chunk) (sc := defScope s_write_chunk) (by decide +kernel)) (fun _ _ _ _ _ => (pg_tupK (K := K) (n := 3) rfl rfl (pgs_cons (pg_name (i := 4) sc_write_chunk.nd rfl (Or.inl rfl)) (pgs_cons (pg_name (i := 5) sc_write_chunk.nd rfl (Or.inl rfl)) (pgs_cons (pg_name (i := 6) sc_write_chunk.nd rfl (Or.inl rfl)) pgs_nil))))) (fun _ _ _ _ _ => pts_nil) (fun _ _ _ _ _ => (pv 6))) pa_nil)) pa_nil)))))))), fun vs H Q h => ?_⟩
  · obtain ⟨b, n, c, t, bk, Pp, N, lv, L, gv, g, rfl, _⟩ := h
    rfl
  · obtain ⟨b, n, c, t, bk, Pp, N, lv, L, gv, g, rfl, sg, hN, hlv, hL, hg, hne, hl, heo, hsh, q⟩ := h
    obtain ⟨dc, i, hc⟩ := sg.ci
    obtain ⟨lastv, le, hlast, hgl, htl, hml⟩ := hg.last hne
    obtain ⟨ks, rs, rfl, hk1, _⟩ := heo le hml
    obtain ⟨la, lxs, rfl, hla, hlx⟩ := htl.inv
    obtain ⟨kv, krest, rfl, hkv, _⟩ := hlx.inv
    have elast : lastK g = .tuple ks := by unfold lastK; rw [hgl]; rfl
    have hcle := cntG_le hl hsh
    have h860 : 8 ^ (lv + 1) < 10 ^ 60 := Nat.lt_of_le_of_lt (Nat.pow_le_pow_right (by decide) (show lv + 1 ≤ 11 by omega)) (by decide)
    have hch := chunk_en (lv := lv) (by omega) hl heo
    have fin : ∀ (a : Int) (cnt : Int) (v : V) (H' : Hp) (bk' : List Str) (P' : Pr), Sg K H' b n c t bk' P' (N + 2) → Wr H H' n c t bk bk' Pp P' → P' a (encS (chunkD lv g)) → cnt = cntG lv g → (∃ p, v = .ref p ∧ H' p = some (.tup [kv, .int a, .int cnt])) → Q v H' := by
      rintro a cnt v H' bk' P' sg' wr hP rfl ⟨p, rfl, hp⟩
      have hsm := BkR.small (sg'.sub _ _ hP) (Nat.le_trans sg'.bN (by omega))
      refine q (.ref p) (.tuple [.tuple ks, .int a, .int (cntG lv g)]) H' bk' P' sg' wr ⟨a, by rw [elast], hP, hch⟩ (ent_eo rfl hk1 hsm (by omega)) (.inr ⟨_, a, cntG lv g, rfl, hcle⟩) (.tup hp (.cons (hkv.mono (sg.tex wr)) (.cons (.int _) (.cons (.int _) .nil))))
    walk_at "rd"
    by_cases h0 : lv = 0
    · subst h0
      refine r_yes (by rfl) ?_
      walk_at "rd"
      refine r_methq hc rfl ?_
      walk_at "rd"
      refine r_tupD hL hg fun l1 H1 e1 t1 => ?_
      walk_at "rd"
      refine r_newD (ds := [.str "rows", .tuple g]) (.cons (.str _) (.cons t1 .nil)) (Nat.le_of_ble_eq_true rfl) fun p2 H2 e2 t2 => ?_
      have ech : chunkD 0 g = .tuple [.str "rows", .tuple g] := rfl
      refine ⟨.ref p2, chunkD 0 g, rfl, t2, Nat.lt_succ_of_le hch.dp, hch.ok, Nat.le_trans hch.ln (by decide), fun H3 e3 => ?_⟩
      walk_at "rd"
      have e13 := e1.trans (e2.trans e3)
      refine ⟨b, n, c, t, bk, Pp, N, _, rfl, sg.same e13, by omega, fun a H4 bk4 P4 sg4 wr4 hP4 => ?_⟩
      have wr := (Wr.of (n := n) (c := c) (t := t) (bk := bk) (P := Pp) e13).trans wr4
      walk_at "rd"
      refine r_ixL (sg.lst wr hL) hlast ?_
      walk_at "rd"
      refine r_ixT (sg.tex wr _ _ hla) (atI_nat (j := 0) rfl) ?_
      walk_at "rd"
      refine r_lnL (sg.lst wr hL) ?_
      walk_at "rd"
      refine r_newT (Nat.le_of_ble_eq_true rfl) fun p5 H5 _ e5 hp5 => ?_
      exact fin a _ _ H5 bk4 P4 (sg4.same e5) (wr.trans (Wr.of e5)) hP4 (by rw [hg.length]; rfl) ⟨p5, rfl, hp5⟩
    · have ne : ¬ (lv : Int) = 0 := by omega
      refine r_no (decide_eq_false fun z => ne (V.int.inj z)) ?_
      walk_at "rd"
      refine r_methq hc rfl ?_
      walk_at "rd"
      refine r_tupD hL hg fun l1 H1 e1 t1 => ?_
      walk_at "rd"
      refine r_newD (ds := [.str "node", .int lv, .tuple g]) (.cons (.str _) (.cons (.int _) (.cons t1 .nil))) (Nat.le_of_ble_eq_true rfl) fun p2 H2 e2 t2 => ?_
      have ech : chunkD lv g = .tuple [.str "node", .int lv, .tuple g] := if_neg h0
      rw [← ech] at t2
      refine ⟨.ref p2, chunkD lv g, rfl, t2, Nat.lt_succ_of_le hch.dp, hch.ok, Nat.le_trans hch.ln (by decide), fun H3 e3 => ?_⟩
      walk_at "rd"
      have e13 := e1.trans (e2.trans e3)
      refine ⟨b, n, c, t, bk, Pp, N, _, rfl, sg.same e13, by omega, fun a H4 bk4 P4 sg4 wr4 hP4 => ?_⟩
      have wr := (Wr.of (n := n) (c := c) (t := t) (bk := bk) (P := Pp) e13).trans wr4
      have hg4 := hg.mono (sg.tex wr)
      walk_at "rd"
      refine r_ixL (sg.lst wr hL) hlast ?_
      walk_at "rd"
      refine r_ixT (sg.tex wr _ _ hla) (atI_nat (j := 0) rfl) ?_
      walk_at "rd"
      refine r_lcL (sg.lst wr hL) (by rw [hg.length]; omega) (fun _ => true) (fun i y _ => y = V.int ((cntE (g.getD i .none) : Nat) : Int)) (fun _ _ _ _ _ h => h) (fun i x hx => ?_) fun L2 ys H5 hL2 e5 hl5 hp5 => ?_
      · obtain ⟨d, hd, htd⟩ := hg4.get' hx
        rcases hsh d (List.mem_iff_getElem?.mpr ⟨i, hd⟩) with z | ⟨k, a', cc, rfl, _⟩
        · exact (h0 z).elim
        obtain ⟨xa, xxs, rfl, hxa, hxx⟩ := htd.inv
        obtain ⟨x1, r1, rfl, _, hx2⟩ := hxx.inv
        obtain ⟨x2, r2, rfl, _, hx3⟩ := hx2.inv
        obtain ⟨x3, r3, rfl, ht3, hx4⟩ := hx3.inv
        obtain rfl := hx4.inv_nil
        obtain rfl := ht3.inv_int
        intro H6 Qs Qn e6 qs qn
        refine r_gthree (e6 _ _ hxa) ⟨rfl, ?_⟩
        show if true = true then tVar _ _ H6 Qs else Qn H6
        refine iteT ?_
        walk_at "rd"
        refine qs _ H6 (Same.refl _) rfl ?_
        show V.int (cc : Int) = V.int ((cntE (g.getD i PyData.none) : Nat) : Int)
        rw [getD_some hd]
        rfl
      · have ey := pd_all hp5
        have e2' : ys = ((g.map cntE).map (Int.ofNat)).map V.int := by
          have z := congrArg (List.map fun e => V.int ((cntE e : Nat) : Int)) (range_map g PyData.none)
          rw [List.map_map] at z
          rw [ey, hg.length, List.map_map, List.map_map]
          exact z
        walk_at "rd"
        refine r_sum hl5 e2' ?_
        walk_at "rd"
        refine r_newT (Nat.le_of_ble_eq_true rfl) fun p5 H6 _ e6 hp6 => ?_
        have es : ∀ l : List Nat, (l.map Int.ofNat).sum = ((l.sum : Nat) : Int) := by
          intro l
          induction l with
          | nil => rfl
          | cons x r ih => rw [List.map_cons, List.sum_cons, List.sum_cons, ih, Int.natCast_add]; rfl
        refine fin a _ _ H6 bk4 P4 (sg4.same (e5.trans e6)) (wr.trans (Wr.of (e5.trans e6))) hP4 ?_ ⟨p5, rfl, hp6⟩
        rw [es]
        unfold cntG
        rw [if_neg h0]
end
end Vt
-- VtD11
set_option Elab.async false
set_option linter.all false
set_option maxRecDepth 100000
set_option maxHeartbeats 4000000
namespace Vt
open PySem PySem.Spec PyProof.Rows L2
local macro_rules | `(tactic| walk_at "rd") => `(tactic| (repeat (first
  | with_reducible refine r_sasg ?_ | with_reducible refine r_sfset ?_ | with_reducible refine r_sfaug ?_ | with_reducible refine r_sdput ?_ | with_reducible refine r_sdrop ?_ | with_reducible refine r_swhen ?_ | with_reducible refine r_sif ?_ | with_reducible refine r_asg ?_ | with_reducible refine r_drop ?_
  | with_reducible refine r_ret ?_ | with_reducible refine r_if ?_ | with_reducible refine r_next ?_
  | with_reducible refine r_c ?_ | with_reducible refine r_var (by with_unfolding_all exact rfl) ?_ | with_reducible refine r_op ?_ | with_reducible refine r_un ?_ | with_reducible refine r_I0 ?_ | ((with_reducible refine r_I ?_ ?_); · first | (show (0 : Int) < _; decide) | exact div_ok (by decide) (by decide)) | with_reducible refine r_U ?_
  | with_reducible refine r_eq (by with_unfolding_all exact rfl) ?_ | with_reducible refine r_ne (by with_unfolding_all exact rfl) ?_
  | with_reducible refine r_tstq ?_ | with_reducible refine r_tBq ?_ | with_reducible refine r_blq ?_ | with_reducible refine r_intq ?_ | with_reducible refine r_and ?_ | with_reducible refine r_or ?_ | with_reducible refine r_not ?_
  | with_reducible refine r_andV ?_ | with_reducible refine r_orV ?_ | with_reducible refine r_notV ?_
  | with_reducible refine r_nil ?_ | with_reducible refine r_cons ?_ | with_reducible refine r_call ?_ | with_reducible refine r_tup ?_ | with_reducible refine r_lst ?_ | with_reducible refine r_cb ?_ | with_reducible refine r_int1 ?_ | with_reducible refine r_ord ?_
  | with_reducible refine r_sl ?_ | with_reducible refine r_nop ?_ | with_reducible refine r_partq ?_ | with_reducible refine r_bm ?_ | with_reducible refine r_fld ?_
  | with_reducible refine r_lct ?_ | with_reducible refine r_lcl ?_ | with_reducible refine r_lcr ?_ | with_reducible refine r_sfort ?_ | with_reducible refine r_sforl ?_ | with_reducible refine r_sfors ?_ | with_reducible refine r_sforr ?_ | with_reducible refine r_sforz ?_
  | with_reducible refine r_fort ?_ | with_reducible refine r_forl ?_ | with_reducible refine r_forr ?_ | with_reducible refine r_sasgt ?_ | with_reducible refine r_asgt ?_ | with_reducible refine r_saug (by with_unfolding_all exact rfl) ?_ | with_reducible refine r_aug (by with_unfolding_all exact rfl) ?_ | with_reducible refine r_ip ?_ | with_reducible refine r_gname ?_ | with_reducible refine r_seq ?_
  | with_reducible refine r_dget ?_ | with_reducible refine r_din ?_ | with_reducible refine r_dnotin ?_ | with_reducible refine r_sdput ?_ | with_reducible refine r_dput ?_ | with_reducible refine r_mg ?_ | with_reducible refine r_rev ?_ | with_reducible refine r_dzip ?_
  | with_reducible refine r_lcz ?_ | with_reducible refine r_form ?_
  | with_reducible refine r_sfset ?_ | with_reducible refine r_fset ?_ | with_reducible refine r_sfaug ?_ | with_reducible refine r_meth ?_ | with_reducible refine r_make ?_
  | with_reducible refine r_srtl ?_ | with_reducible refine r_m1q ?_ | with_reducible refine r_strq ?_
  | with_reducible refine r_iteT ?_ | with_reducible refine r_iteF ?_)))
local macro_rules | `(tactic| walk_at "rs") => `(tactic| (repeat (first
  | with_reducible refine r_sasg ?_ | with_reducible refine r_sfset ?_ | with_reducible refine r_sfaug ?_ | with_reducible refine r_sdput ?_ | with_reducible refine r_sdrop ?_ | with_reducible refine r_asg ?_ | with_reducible refine r_drop ?_
  | with_reducible refine r_ret ?_ | with_reducible refine r_next ?_
  | with_reducible refine r_c ?_ | with_reducible refine r_var (by with_unfolding_all exact rfl) ?_ | with_reducible refine r_op ?_ | with_reducible refine r_un ?_ | with_reducible refine r_I0 ?_ | ((with_reducible refine r_I ?_ ?_); · first | (show (0 : Int) < _; decide) | exact div_ok (by decide) (by decide)) | with_reducible refine r_U ?_
  | with_reducible refine r_eq (by with_unfolding_all exact rfl) ?_ | with_reducible refine r_ne (by with_unfolding_all exact rfl) ?_
  | with_reducible refine r_tstq ?_ | with_reducible refine r_tBq ?_ | with_reducible refine r_blq ?_ | with_reducible refine r_intq ?_ | with_reducible refine r_and ?_ | with_reducible refine r_or ?_ | with_reducible refine r_not ?_
  | with_reducible refine r_andV ?_ | with_reducible refine r_orV ?_ | with_reducible refine r_notV ?_
  | with_reducible refine r_nil ?_ | with_reducible refine r_cons ?_ | with_reducible refine r_call ?_ | with_reducible refine r_tup ?_ | with_reducible refine r_lst ?_ | with_reducible refine r_cb ?_ | with_reducible refine r_int1 ?_ | with_reducible refine r_ord ?_
  | with_reducible refine r_sl ?_ | with_reducible refine r_nop ?_ | with_reducible refine r_partq ?_ | with_reducible refine r_bm ?_ | with_reducible refine r_fld ?_
  | with_reducible refine r_lct ?_ | with_reducible refine r_lcl ?_ | with_reducible refine r_lcr ?_ | with_reducible refine r_sfort ?_ | with_reducible refine r_sforl ?_ | with_reducible refine r_sfors ?_ | with_reducible refine r_sforr ?_ | with_reducible refine r_sforz ?_
  | with_reducible refine r_fort ?_ | with_reducible refine r_forl ?_ | with_reducible refine r_forr ?_ | with_reducible refine r_sasgt ?_ | with_reducible refine r_asgt ?_ | with_reducible refine r_saug (by with_unfolding_all exact rfl) ?_ | with_reducible refine r_aug (by with_unfolding_all exact rfl) ?_ | with_reducible refine r_ip ?_ | with_reducible refine r_gname ?_ | with_reducible refine r_seq ?_
  | with_reducible refine r_dget ?_ | with_reducible refine r_din ?_ | with_reducible refine r_dnotin ?_ | with_reducible refine r_sdput ?_ | with_reducible refine r_dput ?_ | with_reducible refine r_mg ?_ | with_reducible refine r_rev ?_ | with_reducible refine r_dzip ?_
  | with_reducible refine r_lcz ?_ | with_reducible refine r_form ?_
  | with_reducible refine r_sfset ?_ | with_reducible refine r_fset ?_ | with_reducible refine r_sfaug ?_ | with_reducible refine r_meth ?_ | with_reducible refine r_make ?_
  | with_reducible refine r_srtl ?_ | with_reducible refine r_m1q ?_ | with_reducible refine r_strq ?_
  | with_reducible refine r_iteT ?_ | with_reducible refine r_iteF ?_)))
local macro_rules | `(tactic| walk_at "tex") => `(tactic| (first
  | assumption | exact TEx.refl _ | exact TEx.of (by assumption) | ((refine TEx.trans ?_ (TEx.of (by assumption))); walk_at "tex") | ((refine TEx.trans ?_ (by assumption)); walk_at "tex")))
local macro_rules | `(tactic| walk_at "same") => `(tactic| (first
  | assumption | exact Same.refl _ | ((refine Same.trans ?_ (by assumption)); walk_at "same")))
local macro_rules | `(tactic| walk_at "tp") => `(tactic| (first
  | assumption | exact Tp.int _ | exact Tp.str _ | exact Tp.non | exact TpAll.nil | ((refine TpAll.cons ?_ ?_) <;> walk_at "tp") | ((refine Tp.mono ?_ (by assumption)); walk_at "tex") | ((refine TpAll.mono ?_ (by assumption)); walk_at "tex")))
local macro_rules | `(tactic| walk_at "hp") => `(tactic| (first
  | assumption | ((refine (TEx.trans ?_ (TEx.refl _)) _ _ (by assumption)); walk_at "tex")))
theorem pd_mem {α β : Type} {F : α → β → Prop} : ∀ {l : List α} {m : List β}, Paired F l m → ∀ {b : β}, b ∈ m → ∃ a ∈ l, F a b
  | _, _, .nil, _, h => by cases h
  | _, _, .cons r t, b, h => by
    rcases List.mem_cons.mp h with e | h
    · subst e; exact ⟨_, List.mem_cons_self .., r⟩
    · obtain ⟨a, ha, q⟩ := pd_mem t h
      exact ⟨a, List.mem_cons_of_mem _ ha, q⟩
section
variable {P : Program} {w : World} {K : PySem.W.Frag} {mg : Str → Option Value} {base : Heap}
/-! ### write_level -/
abbrev n_write_level : List Str := ["chunks", "level", "entries", "above", "group", "entry"]
theorem sc_write_level : FnScope n_write_level ["chunks", "level", "entries"] (defScope s_write_level) := ⟨rfl, rfl, rfl, by decide +kernel, rfl, by decide +kernel, by decide +kernel⟩
theorem bd_write_level : BindH "write_level" s_write_level ["chunks", "level", "entries"] := fun _ _ _ _ _ _ us hl => match us, hl with | [_, _, _], _ => rfl
def spWriteLevel (K : PySem.W.Frag) : Sp := fun vs H Q _ => ∃ (b n c t : Addr) (bk : List Str) (Pp : Pr) (N lv : Nat) (L : Addr) (ev : List V) (es : List PyData), vs = [.ref c, .int lv, .ref L] ∧ Sg K H b n c t bk Pp N ∧ N + 2 * es.length < 800000 ∧ lv ≤ 10 ∧
  H L = some (.lst ev) ∧ TpAll H ev es ∧ es.length ≤ 1000 ∧ (∀ e ∈ es, Eo e) ∧ (∀ e ∈ es, Sh lv e) ∧
  ∀ (l : Addr) (av : List V) (ab : List PyData) (H' : Hp) (bk' : List Str) (P' : Pr), Sg K H' b n c t bk' P' (N + 2 * es.length) → Wr H H' n c t bk bk' Pp P' → Lev P' lv es ab → (∀ e ∈ ab, Eo e) → (∀ e ∈ ab, Sh (lv + 1) e) → H' l = some (.lst av) → TpAll H' av ab → Q (.ref l) H'
theorem cal_write_level (T : Tx K mg) : Cal P w K mg base 9 "write_level" ["chunks", "level", "entries"] (spWriteLevel K) := by
  have c_ends_chunk := cal_ends_chunk (P := P) (w := w) (base := base) T
  have c_write_chunk := cal_write_chunk (P := P) (w := w) (base := base) T
  refine cal_of T.at_write_level sc_write_level bd_write_level (fun vs H Q E h => ?_) fun f cdv A outer s H0 E hr => ⟨_, (pss_cons (ps_set (i := 3) sc_write_level.nd rfl (Or.inl rfl) (pe_lst pa_nil))
      (pss_cons (ps_set (i := 4) sc_write_level.nd rfl (Or.inl rfl) (pe_lst pa_nil))
      (pss_cons (ps_for PassesOwn.never rfl (pi_list (pv 2)) (pg_name (i := 5) sc_write_level.nd rfl (Or.inl rfl))
      (pss_cons (ps_expr (pe_bm PySem.F.plainAttrs_list PySem.F.slot_list_append PySem.F.type_list_append mt_append (pv 4) (pa_cons (pv 5) pa_nil)))
        (pss_one (ps_if (pt_val (pe_cal c_ends_chunk (hr.mono (by omega)) (by rfl) (pa_cons (pv 1) (pa_cons (pe_ix (ix_tupK (K := K) rfl) (pv 5) pe_int (fun _ _ => rfl)) (pa_cons (pe_callB (cr_lnK (K := K) rfl) (by rfl) T.m_len PySem.boot_len (pa_cons (pv 4) pa_nil)) pa_nil)))))
        (pss_cons (ps_expr (pe_bm PySem.F.plainAttrs_list PySem.F.slot_list_append PySem.F.type_list_append mt_append (pv 3) (pa_cons (pe_cal c_write_chunk (hr.mono (by omega)) (by rfl) (pa_cons (pv 0) (pa_cons (pv 1) (pa_cons (pv 4) pa_nil)))) pa_nil)))
          (pss_one (ps_set (i := 4) sc_write_level.nd rfl (Or.inl rfl) (pe_lst pa_nil))))
        pss_nil))))
      (pss_cons (ps_if (pt_truth (pv 4) (by intro _; rfl))
      (pss_one (ps_expr (pe_bm PySem.F.plainAttrs_list PySem.F.slot_list_append PySem.F.type_list_append mt_append (pv 3) (pa_cons (pe_cal c_write_chunk (hr.mono (by omega)) (by rfl) (pa_cons (pv 0) (pa_cons (pv 1) (pa_cons (pv 4) pa_nil)))) pa_nil))))
      pss_nil)
      (pss_one (ps_ret (pv 3))))))), fun vs H Q h => ?_⟩
  · obtain ⟨b, n, c, t, bk, Pp, N, lv, L, ev, es, rfl, _⟩ := h
    rfl
  · obtain ⟨b, n, c, t, bk, Pp, N, lv, L, ev, es, rfl, sg, hN, hlv, hL, hes, hl, heo, hsh, q⟩ := h
    have hel := hes.length
    walk_at "rd"
    refine r_newL (Nat.zero_le _) fun A0 H1 hA0 e1 hA1 => ?_
    walk_at "rd"
    refine r_newL (Nat.zero_le _) fun G0 H2 hG0 e2 hG2 => ?_
    have hAG : A0 ≠ G0 := fun e => by rw [← e, hA1] at hG0; cases hG0
    walk_at "rd"
    have e12 := e1.trans e2
    refine r_forL (xs := ev) (fun i σ' H' => ∃ (G : Addr) (bk' : List Str) (P' : Pr) (av gv : List V) (ab : List PyData) (z : Option V), i ≤ es.length ∧ Sg K H' b n c t bk' P' (N + 2 * (runG lv (es.take i)).1.length) ∧ Wr H H' n c t bk bk' Pp P' ∧
        Paired (Ent P' lv) (runG lv (es.take i)).1 ab ∧ (∀ e ∈ ab, Eo e) ∧ (∀ e ∈ ab, Sh (lv + 1) e) ∧ H' A0 = some (.lst av) ∧ TpAll H' av ab ∧ H' G = some (.lst gv) ∧ TpAll H' gv (runG lv (es.take i)).2 ∧ A0 ≠ G ∧ Nt H A0 ∧ Nt H G ∧
        σ' = [some (.ref c), some (.int lv), some (.ref L), some (.ref A0), some (.ref G), z]) ?_ ?_ ?_ ?_
    · refine ⟨G0, bk, Pp, [], [], [], none, Nat.zero_le _, sg.same e12, Wr.of e12, .nil, fun e h => (by cases h), fun e h => (by cases h), e2 _ _ hA1, .nil, hG2, .nil, hAG, Nt.none hA0, (Nw.of e1) _ (Nt.none hG0), rfl⟩
    · rintro i σ' H' ⟨G, bk', P', av, gv, ab, z, hi, sg', wr, _⟩
      exact SqL.of (sg.lst wr hL)
    · rintro i x σ' H' hx ⟨G, bk', P', av, gv, ab, z, hi, sg', wr, hab, hao, hash, hA, hav, hG, hgv, hne, hA0', hG0', rfl⟩
      obtain ⟨e, he, hte0⟩ := hes.get' hx
      have hte := hte0.mono (sg.tex wr)
      have hil := (List.getElem?_eq_some_iff.mp he).1
      have hem := List.mem_iff_getElem?.mpr ⟨i, he⟩
      have inv := runG_inv lv (es.take i)
      have hgl := hgv.length
      have etk : es.take (i + 1) = es.take i ++ [e] := by rw [List.take_add_one, he]; rfl
      have hdl : (runG lv (es.take i)).1.length ≤ i := by
        have h1 := flat_one _ fun g hg => (inv.ne g hg).1
        have h2 := congrArg List.length inv.flat
        rw [List.length_append, List.length_take] at h2
        omega
      walk_at "rd"
      refine r_tyL hG ?_
      walk_at "rd"
      refine r_app hG (by have := inv.cur; omega) fun H3 e3 => ?_
      subst e3
      have tG : TEx H' (upd H' G (.lst (gv ++ [x]))) := TEx.upd hG fun xs z => by cases z
      have sG := sg'.mutL (o := .lst (gv ++ [x])) hG
      have wG := wr.mutL (xs := gv ++ [x]) hG0'
      have hA3 : upd H' G (.lst (gv ++ [x])) A0 = some (.lst av) := by rw [upd_ne hne]; exact hA
      have hav3 := hav.mono tG
      have hgv3 : TpAll (upd H' G (.lst (gv ++ [x]))) (gv ++ [x]) ((runG lv (es.take i)).2 ++ [e]) := TpAll.append (hgv.mono tG) (TpAll.one (hte.mono tG))
      obtain ⟨ks, rs, rfl, hk1, _⟩ := heo e hem
      obtain ⟨la, lxs, rfl, hla, hlx⟩ := hte.inv
      obtain ⟨kv, krest, rfl, hkv, _⟩ := hlx.inv
      walk_at "rd"
      refine r_ixT (tG _ _ hla) (atI_nat (j := 0) rfl) ?_
      walk_at "rd"
      refine r_lnL upd_same ?_
      walk_at "rd"
      refine ⟨lv, (runG lv (es.take i)).2.length + 1, kv, .tuple ks, by rw [List.length_append, hgl]; rfl, hkv.mono tG, Nat.le_trans hk1.dp (by decide), hk1.ok, Nat.le_trans hk1.ln (by decide), by omega, fun H4 e4 => ?_⟩
      walk_at "rd"
      have sG4 := sG.same e4
      have wG4 := wG.trans (Wr.of e4)
      have tG4 := TEx.of e4
      have hstep : runG lv (es.take (i + 1)) = if endsB lv (.tuple ks) ((runG lv (es.take i)).2.length + 1) = true then ((runG lv (es.take i)).1 ++ [(runG lv (es.take i)).2 ++ [.tuple (.tuple ks :: rs)]], []) else ((runG lv (es.take i)).1, (runG lv (es.take i)).2 ++ [.tuple (.tuple ks :: rs)]) := by
        rw [etk, runG_snoc]
        rfl
      have gsub : ∀ e' ∈ (runG lv (es.take i)).2 ++ [PyData.tuple (PyData.tuple ks :: rs)], e' ∈ es := by
        intro e' h
        rcases List.mem_append.mp h with h | h
        · refine List.mem_of_mem_take (i := i) ?_
          rw [← inv.flat]
          exact List.mem_append_right _ h
        · rw [List.mem_singleton.mp h]
          exact hem
      refine r_ite (fun hb => ?_) (fun hb => ?_)
      · walk_at "rd"
        refine r_tyL (e4 _ _ hA3) ?_
        walk_at "rd"
        refine ⟨b, n, c, t, bk', P', _, lv, G, gv ++ [V.ref la], _, rfl, sG4, by omega, hlv, e4 _ _ upd_same, hgv3.mono tG4, by simp, by rw [List.length_append]; show (runG lv (es.take i)).2.length + 1 ≤ 8; have := inv.cur; omega, fun e' h => heo e' (gsub e' h), fun e' h => hsh e' (gsub e' h), fun v en H5 bk5 P5 sg5 wr5 hent heo5 hsh5 htp5 => ?_⟩
        have hA5 := sG4.lst wr5 (e4 _ _ hA3)
        walk_at "rd"
        refine r_app hA5 (by rw [hav.length, ← pd_len hab]; omega) fun H6 e6 => ?_
        subst e6
        have tA : TEx H5 (upd H5 A0 (.lst (av ++ [v]))) := TEx.upd hA5 fun xs z => by cases z
        have wr05 := wG4.trans wr5
        have sA := sg5.mutL (o := .lst (av ++ [v])) hA5
        have wA := wr05.mutL (xs := av ++ [v]) hA0'
        walk_at "rd"
        refine r_newL (Nat.zero_le _) fun G2 H7 hG2n e7 hG7 => ?_
        walk_at "rd"
        have hG2A : A0 ≠ G2 := fun e => by rw [← e, upd_same] at hG2n; cases hG2n
        have hG2H : Nt H G2 := wA.nw _ (Nt.none hG2n)
        have hst : runG lv (es.take (i + 1)) = ((runG lv (es.take i)).1 ++ [(runG lv (es.take i)).2 ++ [.tuple (.tuple ks :: rs)]], []) := by rw [hstep, if_pos hb]
        refine ⟨G2, bk5, P5, av ++ [v], [], ab ++ [en], some (.ref la), hil, ?_, wA.trans (Wr.of e7), ?_, ?_, ?_, e7 _ _ upd_same, ?_, hG7, ?_, hG2A, hA0', hG2H, rfl⟩
        · rw [hst]
          have s7 := sA.same e7
          refine s7.up ?_
          show _ ≤ N + 2 * ((runG lv (es.take i)).1 ++ [_]).length
          rw [List.length_append]
          show _ ≤ N + 2 * ((runG lv (es.take i)).1.length + 1)
          omega
        · rw [hst]
          exact pd_snoc (pd_mono hab fun g e k => k.mono wr5.P) hent
        · intro e' h
          rcases List.mem_append.mp h with h | h
          · exact hao e' h
          · rw [List.mem_singleton.mp h]; exact heo5
        · intro e' h
          rcases List.mem_append.mp h with h | h
          · exact hash e' h
          · rw [List.mem_singleton.mp h]; exact hsh5
        · exact TpAll.append (((hav3.mono tG4).mono (sG4.tex wr5)).mono (tA.trans (TEx.of e7))) (TpAll.one (htp5.mono (tA.trans (TEx.of e7))))
        · rw [hst]
          exact .nil
      · walk_at "rd"
        have hst : runG lv (es.take (i + 1)) = ((runG lv (es.take i)).1, (runG lv (es.take i)).2 ++ [.tuple (.tuple ks :: rs)]) := by rw [hstep, if_neg (by rw [hb]; decide)]
        refine ⟨G, bk', P', av, gv ++ [V.ref la], ab, some (.ref la), hil, ?_, wG4, ?_, hao, hash, e4 _ _ hA3, hav3.mono tG4, ?_, ?_, hne, hA0', hG0', rfl⟩
        · rw [hst]
          exact sG4
        · rw [hst]
          exact hab
        · exact e4 _ _ upd_same
        · rw [hst]
          exact hgv3.mono tG4
    · rintro σ' H' ⟨G, bk', P', av, gv, ab, z, hi, sg', wr, hab, hao, hash, hA, hav, hG, hgv, hne, hA0', hG0', rfl⟩
      rw [hel, List.take_length] at sg' hab hgv
      have inv := runG_inv lv es
      have hdl : (grp lv es).length ≤ es.length := grp_le lv es
      walk_at "rd"
      refine r_truL hG ?_
      by_cases hz : (runG lv es).2 = []
      · rw [hz] at hgv
        obtain rfl := hgv.inv_nil
        have hgrp : grp lv es = (runG lv es).1 := if_pos hz
        rw [hgrp] at hdl
        refine r_no rfl ?_
        walk_at "rd"
        refine q A0 av ab H' bk' P' (sg'.up (by omega)) wr ?_ hao hash hA hav
        unfold Lev
        rw [hgrp]
        exact hab
      · have hgrp : grp lv es = (runG lv es).1 ++ [(runG lv es).2] := if_neg hz
        rw [hgrp, List.length_append] at hdl
        have hdl : (runG lv es).1.length + 1 ≤ es.length := hdl
        refine r_yes (by
          have := hgv.length
          cases gv with
          | nil => exact (hz (List.length_eq_zero_iff.mp this.symm)).elim
          | cons a r => rfl) ?_
        walk_at "rd"
        refine r_tyL hA ?_
        walk_at "rd"
        have gsub : ∀ e' ∈ (runG lv es).2, e' ∈ es := fun e' h => by
          rw [← inv.flat]
          exact List.mem_append_right _ h
        refine ⟨b, n, c, t, bk', P', _, lv, G, gv, _, rfl, sg', by omega, hlv, hG, hgv, hz, Nat.le_of_lt inv.cur, fun e' h => heo e' (gsub e' h), fun e' h => hsh e' (gsub e' h), fun v en H5 bk5 P5 sg5 wr5 hent heo5 hsh5 htp5 => ?_⟩
        have hA5 := sg'.lst wr5 hA
        walk_at "rd"
        refine r_app hA5 (by rw [hav.length, ← pd_len hab]; omega) fun H6 e6 => ?_
        subst e6
        have tA : TEx H5 (upd H5 A0 (.lst (av ++ [v]))) := TEx.upd hA5 fun xs z => by cases z
        have wr05 := wr.trans wr5
        have sA := sg5.mutL (o := .lst (av ++ [v])) hA5
        have wA := wr05.mutL (xs := av ++ [v]) hA0'
        walk_at "rd"
        refine q A0 _ (ab ++ [en]) _ bk5 P5 (sA.up (by omega)) wA ?_ ?_ ?_ upd_same ?_
        · unfold Lev
          rw [hgrp]
          exact pd_snoc (pd_mono hab fun g e k => k.mono wr5.P) hent
        · intro e' h
          rcases List.mem_append.mp h with h | h
          · exact hao e' h
          · rw [List.mem_singleton.mp h]; exact heo5
        · intro e' h
          rcases List.mem_append.mp h with h | h
          · exact hash e' h
          · rw [List.mem_singleton.mp h]; exact hsh5
        · exact TpAll.append ((hav.mono (sg'.tex wr5)).mono tA) (TpAll.one (htp5.mono tA))
end
end Vt
-- VtD12
set_option Elab.async false
set_option linter.all false
set_option maxRecDepth 100000
set_option maxHeartbeats 4000000
namespace Vt
open PySem PySem.Spec PyProof.Rows L2
local macro_rules | `(tactic| walk_at "rd") => `(tactic| (repeat (first
  | with_reducible refine r_sasg ?_ | with_reducible refine r_sfset ?_ | with_reducible refine r_sfaug ?_ | with_reducible refine r_sdput ?_ | with_reducible refine r_sdrop ?_ | with_reducible refine r_swhen ?_ | with_reducible refine r_sif ?_ | with_reducible refine r_asg ?_ | with_reducible refine r_drop ?_
  | with_reducible refine r_ret ?_ | with_reducible refine r_if ?_ | with_reducible refine r_next ?_
  | with_reducible refine r_c ?_ | with_reducible refine r_var (by with_unfolding_all exact rfl) ?_ | with_reducible refine r_op ?_ | with_reducible refine r_un ?_ | with_reducible refine r_I0 ?_ | ((with_reducible refine r_I ?_ ?_); · first | (show (0 : Int) < _; decide) | exact div_ok (by decide) (by decide)) | with_reducible refine r_U ?_
  | with_reducible refine r_eq (by with_unfolding_all exact rfl) ?_ | with_reducible refine r_ne (by with_unfolding_all exact rfl) ?_
  | with_reducible refine r_tstq ?_ | with_reducible refine r_tBq ?_ | with_reducible refine r_blq ?_ | with_reducible refine r_intq ?_ | with_reducible refine r_and ?_ | with_reducible refine r_or ?_ | with_reducible refine r_not ?_
  | with_reducible refine r_andV ?_ | with_reducible refine r_orV ?_ | with_reducible refine r_notV ?_
  | with_reducible refine r_nil ?_ | with_reducible refine r_cons ?_ | with_reducible refine r_call ?_ | with_reducible refine r_tup ?_ | with_reducible refine r_lst ?_ | with_reducible refine r_cb ?_ | with_reducible refine r_int1 ?_ | with_reducible refine r_ord ?_
  | with_reducible refine r_sl ?_ | with_reducible refine r_nop ?_ | with_reducible refine r_partq ?_ | with_reducible refine r_bm ?_ | with_reducible refine r_fld ?_
  | with_reducible refine r_lct ?_ | with_reducible refine r_lcl ?_ | with_reducible refine r_lcr ?_ | with_reducible refine r_sfort ?_ | with_reducible refine r_sforl ?_ | with_reducible refine r_sfors ?_ | with_reducible refine r_sforr ?_ | with_reducible refine r_sforz ?_
  | with_reducible refine r_fort ?_ | with_reducible refine r_forl ?_ | with_reducible refine r_forr ?_ | with_reducible refine r_sasgt ?_ | with_reducible refine r_asgt ?_ | with_reducible refine r_saug (by with_unfolding_all exact rfl) ?_ | with_reducible refine r_aug (by with_unfolding_all exact rfl) ?_ | with_reducible refine r_ip ?_ | with_reducible refine r_gname ?_ | with_reducible refine r_seq ?_
  | with_reducible refine r_dget ?_ | with_reducible refine r_din ?_ | with_reducible refine r_dnotin ?_ | with_reducible refine r_sdput ?_ | with_reducible refine r_dput ?_ | with_reducible refine r_mg ?_ | with_reducible refine r_rev ?_ | with_reducible refine r_dzip ?_
  | with_reducible refine r_lcz ?_ | with_reducible refine r_form ?_
  | with_reducible refine r_sfset ?_ | with_reducible refine r_fset ?_ | with_reducible refine r_sfaug ?_ | with_reducible refine r_meth ?_ | with_reducible refine r_make ?_
  | with_reducible refine r_srtl ?_ | with_reducible refine r_m1q ?_ | with_reducible refine r_strq ?_
  | with_reducible refine r_iteT ?_ | with_reducible refine r_iteF ?_)))
local macro_rules | `(tactic| walk_at "rs") => `(tactic| (repeat (first
  | with_reducible refine r_sasg ?_ | with_reducible refine r_sfset ?_ | with_reducible refine r_sfaug ?_ | with_reducible refine r_sdput ?_ | with_reducible refine r_sdrop ?_ | with_reducible refine r_asg ?_ | with_reducible refine r_drop ?_
  | with_reducible refine r_ret ?_ | with_reducible refine r_next ?_
  | with_reducible refine r_c ?_ | with_reducible refine r_var (by with_unfolding_all exact rfl) ?_ | with_reducible refine r_op ?_ | with_reducible refine r_un ?_ | with_reducible refine r_I0 ?_ | ((with_reducible refine r_I ?_ ?_); · first | (show (0 : Int) < _; decide) | exact div_ok (by decide) (by decide)) | with_reducible refine r_U ?_
  | with_reducible refine r_eq (by with_unfolding_all exact rfl) ?_ | with_reducible refine r_ne (by with_unfolding_all exact rfl) ?_
  | with_reducible refine r_tstq ?_ | with_reducible refine r_tBq ?_ | with_reducible refine r_blq ?_ | with_reducible refine r_intq ?_ | with_reducible refine r_and ?_ | with_reducible refine r_or ?_ | with_reducible refine r_not ?_
  | with_reducible refine r_andV ?_ | with_reducible refine r_orV ?_ | with_reducible refine r_notV ?_
  | with_reducible refine r_nil ?_ | with_reducible refine r_cons ?_ | with_reducible refine r_call ?_ | with_reducible refine r_tup ?_ | with_reducible refine r_lst ?_ | with_reducible refine r_cb ?_ | with_reducible refine r_int1 ?_ | with_reducible refine r_ord ?_
  | with_reducible refine r_sl ?_ | with_reducible refine r_nop ?_ | with_reducible refine r_partq ?_ | with_reducible refine r_bm ?_ | with_reducible refine r_fld ?_
  | with_reducible refine r_lct ?_ | with_reducible refine r_lcl ?_ | with_reducible refine r_lcr ?_ | with_reducible refine r_sfort ?_ | with_reducible refine r_sforl ?_ | with_reducible refine r_sfors ?_ | with_reducible refine r_sforr ?_ | with_reducible refine r_sforz ?_
  | with_reducible refine r_fort ?_ | with_reducible refine r_forl ?_ | with_reducible refine r_forr ?_ | with_reducible refine r_sasgt ?_ | with_reducible refine r_asgt ?_ | with_reducible refine r_saug (by with_unfolding_all exact rfl) ?_ | with_reducible refine r_aug (by with_unfolding_all exact rfl) ?_ | with_reducible refine r_ip ?_ | with_reducible refine r_gname ?_ | with_reducible refine r_seq ?_
  | with_reducible refine r_dget ?_ | with_reducible refine r_din ?_ | with_reducible refine r_dnotin ?_ | with_reducible refine r_sdput ?_ | with_reducible refine r_dput ?_ | with_reducible refine r_mg ?_ | with_reducible refine r_rev ?_ | with_reducible refine r_dzip ?_
  | with_reducible refine r_lcz ?_ | with_reducible refine r_form ?_
  | with_reducible refine r_sfset ?_ | with_reducible refine r_fset ?_ | with_reducible refine r_sfaug ?_ | with_reducible refine r_meth ?_ | with_reducible refine r_make ?_
  | with_reducible refine r_srtl ?_ | with_reducible refine r_m1q ?_ | with_reducible refine r_strq ?_
  | with_reducible refine r_iteT ?_ | with_reducible refine r_iteF ?_)))
local macro_rules | `(tactic| walk_at "tex") => `(tactic| (first
  | assumption | exact TEx.refl _ | exact TEx.of (by assumption) | ((refine TEx.trans ?_ (TEx.of (by assumption))); walk_at "tex") | ((refine TEx.trans ?_ (by assumption)); walk_at "tex")))
local macro_rules | `(tactic| walk_at "same") => `(tactic| (first
  | assumption | exact Same.refl _ | ((refine Same.trans ?_ (by assumption)); walk_at "same")))
local macro_rules | `(tactic| walk_at "tp") => `(tactic| (first
  | assumption | exact Tp.int _ | exact Tp.str _ | exact Tp.non | exact TpAll.nil | ((refine TpAll.cons ?_ ?_) <;> walk_at "tp") | ((refine Tp.mono ?_ (by assumption)); walk_at "tex") | ((refine TpAll.mono ?_ (by assumption)); walk_at "tex")))
local macro_rules | `(tactic| walk_at "hp") => `(tactic| (first
  | assumption | ((refine (TEx.trans ?_ (TEx.refl _)) _ _ (by assumption)); walk_at "tex")))
section
variable {P : Program} {w : World} {K : PySem.W.Frag} {mg : Str → Option Value} {base : Heap}
/-! ### build -/
abbrev n_build : List Str := ["chunks", "entries", "level", "above"]
theorem sc_build : FnScope n_build ["chunks", "entries"] (defScope s_build) := ⟨rfl, rfl, rfl, by decide +kernel, rfl, by decide +kernel, by decide +kernel⟩
theorem bd_build : BindH "build" s_build ["chunks", "entries"] := fun _ _ _ _ _ _ us hl => match us, hl with | [_, _], _ => rfl
def spBuild (K : PySem.W.Frag) : Sp := fun vs H Q _ => ∃ (b n c t : Addr) (bk : List Str) (Pp : Pr) (N : Nat) (L : Addr) (ev : List V) (es : List PyData), vs = [.ref c, .ref L] ∧ Sg K H b n c t bk Pp N ∧ N < 700000 ∧
  H L = some (.lst ev) ∧ TpAll H ev es ∧ es.length ≤ 64 ∧ (∀ e ∈ es, Eo e) ∧
  ∀ (a : Int) (H' : Hp) (bk' : List Str) (P' : Pr), Sg K H' b n c t bk' P' (N + 1000) → Wr H H' n c t bk bk' Pp P' → Root P' es a → a.natAbs < 10 ^ 60 → Q (.int a) H'
theorem cal_build (T : Tx K mg) : Cal P w K mg base 10 "build" ["chunks", "entries"] (spBuild K) := by
  have c_encode := cal_encode (P := P) (w := w) (base := base) T 5
  have c_put := cal_put (P := P) (w := w) (mg := mg) (base := base) T
  have c_write_level := cal_write_level (P := P) (w := w) (base := base) T
  refine cal_of T.at_build sc_build bd_build (fun vs H Q E h => ?_) fun f cdv A outer s H0 E hr => ⟨_, (pss_cons (ps_if (pt_not (pt_truth (pv 1) (by intro _; rfl)))
      (pss_one (ps_ret (pe_calm c_put (pv 0) (hr.mono (by omega)) (pa_cons (pe_cal c_encode (hr.mono (by omega)) (by rfl) (pa_cons (pe_tup (pa_cons pe_str (pa_cons (pe_tup pa_nil) pa_nil))) pa_nil)) pa_nil))))
      pss_nil)
      (pss_cons (ps_set (i := 2) sc_build.nd rfl (Or.inl rfl) pe_int)
      (pss_cons (ps_set (i := 3) sc_build.nd rfl (Or.inl rfl) (pe_cal c_write_level (hr.mono (by omega)) (by rfl) (pa_cons (pv 0) (pa_cons (pv 2) (pa_cons (pv 1) pa_nil)))))
      (pss_cons (ps_while PassesOwn.never (pt_cmpR op_gt (pe_callB (cr_lnK (K := K) rfl) (by rfl) T.m_len PySem.boot_len (pa_cons (pv 3) pa_nil)) pe_int (nomark _))
      (pss_cons (ps_aug (i := 2) sc_build.nd rfl (Or.inl rfl) pe_int ip_add)
        (pss_one (ps_set (i := 3) sc_build.nd rfl (Or.inl rfl) (pe_cal c_write_level (hr.mono (by omega)) (by rfl) (pa_cons (pv 0) (pa_cons (pv 2) (pa_cons (pv 3) pa_nil))))))))
      (pss_one (ps_ret (pe_ix (ix_tupK (K := K) rfl) (pe_ix (ix_listK (K := K) rfl) (pv 3) pe_int (fun _ _ => rfl)) pe_int (fun _ _ => rfl)))))))), fun vs H Q h => ?_⟩
  · obtain ⟨b, n, c, t, bk, Pp, N, L, ev, es, rfl, _⟩ := h
    rfl
  · obtain ⟨b, n, c, t, bk, Pp, N, L, ev, es, rfl, sg, hN, hL, hes, hl, heo, q⟩ := h
    obtain ⟨dc, i, hc⟩ := sg.ci
    have hel := hes.length
    walk_at "rd"
    refine r_truL hL ?_
    by_cases h0 : es = []
    · subst h0
      obtain rfl := hes.inv_nil
      refine r_yes rfl ?_
      walk_at "rd"
      refine r_methq hc rfl ?_
      walk_at "rd"
      refine r_newD (ds := []) .nil (Nat.zero_le _) fun p1 H1 e1 t1 => ?_
      walk_at "rd"
      refine r_newD (ds := [.str "rows", .tuple []]) (.cons (.str _) (.cons t1 .nil)) (Nat.le_of_ble_eq_true rfl) fun p2 H2 e2 t2 => ?_
      have hch := chunk_en (lv := 0) (g := []) (by decide) (by decide) fun e h => (by cases h)
      refine ⟨.ref p2, chunkD 0 [], rfl, t2, Nat.lt_succ_of_le hch.dp, hch.ok, Nat.le_trans hch.ln (by decide), fun H3 e3 => ?_⟩
      walk_at "rd"
      have e13 := e1.trans (e2.trans e3)
      refine ⟨b, n, c, t, bk, Pp, N, _, rfl, sg.same e13, by omega, fun a H4 bk4 P4 sg4 wr4 hP4 => ?_⟩
      exact q a H4 bk4 P4 (sg4.up (by omega)) ((Wr.of e13).trans wr4) (.inl ⟨rfl, hP4⟩) (BkR.small (sg4.sub _ _ hP4) (Nat.le_trans sg4.bN (by omega)))
    · have hpos := List.length_pos_iff.mpr h0
      refine r_no (by
        cases ev with
        | nil => rw [List.length_nil] at hel; omega
        | cons a r => rfl) ?_
      walk_at "rd"
      refine ⟨b, n, c, t, bk, Pp, N, 0, L, ev, es, rfl, sg, by omega, by decide, hL, hes, by omega, heo, fun e h => .inl rfl, fun l av ab H1 bk1 P1 sg1 wr1 hlev heo1 hsh1 hl1 hav => ?_⟩
      walk_at "rd"
      have hab0 : 1 ≤ ab.length := by rw [← pd_len hlev]; exact grp_pos h0
      have hab1 : ab.length ≤ es.length := by rw [← pd_len hlev]; exact grp_le 0 es
      refine r_swhile (fun m σ' H' => ∃ (lv k N' : Nat) (l : Addr) (av : List V) (ab : List PyData) (bk' : List Str) (P' : Pr), m = ab.length ∧ lv + k ≤ 6 ∧ 1 ≤ ab.length ∧ ab.length ≤ 2 ^ k ∧ Sg K H' b n c t bk' P' N' ∧ N' + 8 * ab.length ≤ N + 10 * es.length ∧ Wr H H' n c t bk bk' Pp P' ∧
        (∀ (P2 : Pr) r, (∀ a x, P' a x → P2 a x) → Bld P2 lv ab r → Root P2 es r) ∧ (∀ e ∈ ab, Eo e) ∧ (∀ e ∈ ab, Sh (lv + 1) e) ∧ H' l = some (.lst av) ∧ TpAll H' av ab ∧
        σ' = [some (.ref c), some (.ref L), some (.int lv), some (.ref l)]) ab.length ⟨0, 6, N + 2 * es.length, l, av, ab, bk1, P1, rfl, by decide, hab0, by show ab.length ≤ 64; omega, sg1, by omega, wr1, fun P2 r hP hb => .inr ⟨h0, ab, hlev.mono hP, hb⟩, heo1, hsh1, hl1, hav, rfl⟩ ?_
      rintro m σ' H' ⟨lv, k, N', l, av, ab, bk', P', rfl, hlk, hab0, habk, sg', hN', wr', hroot, heo', hsh', hl', hav', rfl⟩
      have havl := hav'.length
      walk_at "rd"
      refine r_lnL hl' ?_
      walk_at "rd"
      by_cases h1 : 1 < ab.length
      · refine r_yes (decide_eq_true (by omega)) (r_wq ?_)
        walk_at "rd"
        have hk1 : k ≠ 0 := fun e => by rw [e] at habk; simp at habk; omega
        obtain ⟨k, rfl⟩ : ∃ k', k = k' + 1 := ⟨k - 1, by omega⟩
        have h64 : 2 ^ (k + 1) ≤ 2 ^ 6 := Nat.pow_le_pow_right (by decide) (by omega)
        have h64 : 2 ^ (k + 1) ≤ 64 := h64
        refine ⟨b, n, c, t, bk', P', N', lv + 1, l, av, ab, rfl, sg', by omega, by omega, hl', hav', by omega, heo', hsh', fun l2 av2 ab2 H2 bk2 P2 sg2 wr2 hlev2 heo2 hsh2 hl2 hav2 => ?_⟩
        walk_at "rd"
        have hh : 2 * (grp (lv + 1) ab).length ≤ ab.length + 1 := grp_half (Nat.succ_pos lv) ab
        rw [pd_len hlev2] at hh
        have hp2 : 1 ≤ ab2.length := by
          rw [← pd_len hlev2]
          exact grp_pos (by intro e; rw [e] at hab0; simp at hab0)
        rw [Nat.pow_succ] at habk
        refine ⟨ab2.length, by omega, lv + 1, k, N' + 2 * ab.length, l2, av2, ab2, bk2, P2, rfl, by omega, hp2, by omega, sg2, by omega, wr'.trans wr2, fun P3 r hP hb => hroot P3 r (fun a x h => hP _ _ (wr2.P _ _ h)) (.more h1 (hlev2.mono hP) hb), heo2, hsh2, hl2, hav2, rfl⟩
      · refine r_no (decide_eq_false (by omega)) ?_
        walk_at "rd"
        obtain ⟨e, rfl⟩ : ∃ e, ab = [e] := List.length_eq_one_iff.mp (by omega)
        obtain ⟨v, r, rfl, hv, hr0⟩ := hav'.inv
        obtain rfl := hr0.inv_nil
        rcases hsh' e (List.mem_singleton.mpr rfl) with z | ⟨ky, a, cc, rfl, _⟩
        · exact (Nat.succ_ne_zero _ z).elim
        obtain ⟨xa, xxs, rfl, hxa, hxx⟩ := hv.inv
        obtain ⟨x1, r1, rfl, _, hx2⟩ := hxx.inv
        obtain ⟨x2, r2, rfl, ht2, hx3⟩ := hx2.inv
        obtain rfl := ht2.inv_int
        refine r_ixL hl' rfl ?_
        walk_at "rd"
        refine r_ixT hxa (atI_nat (j := 1) rfl) ?_
        have heo1 := (heo' _ (List.mem_singleton.mpr rfl)).en.ok
        rw [encOk_tup, Bool.and_eq_true, encOks_cons, Bool.and_eq_true, encOks_cons, Bool.and_eq_true] at heo1
        have hsm := heo1.2.2.1
        unfold encOk at hsm
        exact q a H' bk' P' (sg'.up (by omega)) wr' (hroot P' a (fun _ _ h => h) .one) (of_decide_eq_true hsm)
/-! ### read -/
abbrev n_read : List Str := ["chunks", "root", "item", "entries", "key", "address", "count"]
theorem sc_read : FnScope n_read ["chunks", "root"] (defScope s_read) := ⟨rfl, rfl, rfl, by decide +kernel, rfl, by decide +kernel, by decide +kernel⟩
theorem bd_read : BindH "read" s_read ["chunks", "root"] := fun _ _ _ _ _ _ us hl => match us, hl with | [_, _], _ => rfl
def spRead (K : PySem.W.Frag) (m : Nat) : Sp := fun vs H Q _ => ∃ (b n c t : Addr) (bk : List Str) (Pp : Pr) (N : Nat) (r : Int) (es : List PyData), vs = [.ref c, .int r] ∧ Sg K H b n c t bk Pp N ∧ Rd1 Pp m r es ∧ es.length ≤ 1000 ∧
  ∀ (l : Addr) (ev : List V) (H' : Hp), Sg K H' b n c t bk Pp N → Wr H H' n c t bk bk Pp Pp → H' l = some (.lst ev) → TpAll H' ev es → Q (.ref l) H'
theorem cal_read (T : Tx K mg) : ∀ m : Nat, Cal P w K mg base (m + 17) "read" ["chunks", "root"] (spRead K m) := by
  have c_decode := cal_decode (P := P) (w := w) (base := base) T
  have c_get := cal_get (P := P) (w := w) (mg := mg) (base := base) T
  have main : ∀ (m : Nat) (c_read : Cal P w K mg base (m + 16) "read" ["chunks", "root"] (fun vs H Q E => m ≠ 0 ∧ spRead K (m - 1) vs H Q E)), Cal P w K mg base (m + 17) "read" ["chunks", "root"] (spRead K m) := by
    intro m c_read
    refine cal_of T.at_read sc_read bd_read (fun vs H Q E h => ?_) fun f cdv A outer s H0 E hr => ⟨_, (pss_cons (ps_set (i := 2) sc_read.nd rfl (Or.inl rfl) (pe_cal c_decode (hr.mono (by omega)) (by rfl) (pa_cons (pe_calm c_get (pv 0) (hr.mono (by omega)) (pa_cons (pv 1) pa_nil)) pa_nil)))
      (pss_cons (ps_if (pt_cmpR op_eq (pe_ix (ix_tupK (K := K) rfl) (pv 2) pe_int (fun _ _ => rfl)) pe_str (nomark _))
      (pss_one (ps_ret (pe_callTy (cr_lstOfK (K := K) rfl) (by rfl) T.m_list (by decide +kernel) (pa_cons (pe_ix (ix_tupK (K := K) rfl) (pv 2) pe_int (fun _ _ => rfl)) pa_nil))))
      pss_nil)
      (pss_cons (ps_set (i := 3) sc_read.nd rfl (Or.inl rfl) (pe_lst pa_nil))
      (pss_cons (ps_for PassesOwn.never rfl (pi_tup (pe_ix (ix_tupK (K := K) rfl) (pv 2) pe_int (fun _ _ => rfl))) (pg_tupK (K := K) (n := 3) rfl rfl (pgs_cons (pg_name (i := 4) sc_read.nd rfl (Or.inl rfl)) (pgs_cons (pg_name (i := 5) sc_read.nd rfl (Or.inl rfl)) (pgs_cons (pg_name (i := 6) sc_read.nd rfl (Or.inl rfl)) pgs_nil))))
      (pss_one (ps_expr (pe_bm PySem.F.plainAttrs_list PySem.F.slot_list_extend PySem.F.type_list_extend mt_extend (pv 3) (pa_cons (pe_cal c_read (hr.mono (by omega)) (by rfl) (pa_cons (pv 0) (pa_cons (pv 5) pa_nil))) pa_nil)))))
      (pss_one (ps_ret (pv 3))))))), fun vs H Q h => ?_⟩
    · obtain ⟨b, n, c, t, bk, Pp, N, r, es, rfl, _⟩ := h
      rfl
    · obtain ⟨b, n, c, t, bk, Pp, N, r, es, rfl, sg, hrd, hl, q⟩ := h
      obtain ⟨dc, i, hc⟩ := sg.ci
      have go : ∃ lv g, Pp r (encS (chunkD lv g)) ∧ En 4 40808 (chunkD lv g) ∧ ((lv = 0 ∧ g = es) ∨ (0 < lv ∧ m ≠ 0 ∧ RdA Pp (m - 1) g es)) := by
        cases hrd with
        | rows h1 h2 => exact ⟨0, es, h1, h2, .inl ⟨rfl, rfl⟩⟩
        | node h0 h1 h2 h3 => exact ⟨_, _, h1, h2, .inr ⟨h0, Nat.succ_ne_zero _, h3⟩⟩
      obtain ⟨lv, g, hp, hen, hcase⟩ := go
      walk_at "rd"
      refine r_methq hc rfl ?_
      walk_at "rd"
      refine ⟨b, n, c, t, bk, Pp, N, r, _, rfl, sg, hp, fun H1 sg1 wr1 => ?_⟩
      walk_at "rd"
      refine ⟨chunkD lv g, rfl, Nat.lt_of_le_of_lt hen.dp (by decide), hen.ok, Nat.le_trans hen.ln (by decide), fun v H2 e2 hv => ?_⟩
      walk_at "rd"
      have sg2 := sg1.same e2
      have wr2 := wr1.trans (Wr.of e2)
      rcases hcase with ⟨rfl, rfl⟩ | ⟨h0, hm, hrda⟩
      · have hv : Tp H2 v (.tuple [.str "rows", .tuple g]) := hv
        obtain ⟨va, vx, rfl, hva, hvx⟩ := hv.inv
        obtain ⟨x1, r1, rfl, ht1, hx2⟩ := hvx.inv
        obtain ⟨x2, r2, rfl, ht2, hx3⟩ := hx2.inv
        obtain rfl := ht1.inv_str
        obtain ⟨ga, gx, rfl, hga, hgx⟩ := ht2.inv
        refine r_ixT hva (atI_nat (j := 0) rfl) ?_
        walk_at "rd"
        refine r_yes (by rfl) ?_
        walk_at "rd"
        refine r_ixT hva (atI_nat (j := 1) rfl) ?_
        walk_at "rd"
        refine r_lstT hga fun l H3 hl3 e3 hl' => ?_
        exact q l gx H3 (sg2.same e3) (wr2.trans (Wr.of e3)) hl' (hgx.mono (TEx.of e3))
      · have ech : chunkD lv g = .tuple [.str "node", .int lv, .tuple g] := if_neg (by omega)
        rw [ech] at hv
        obtain ⟨va, vx, rfl, hva, hvx⟩ := hv.inv
        obtain ⟨x1, r1, rfl, ht1, hx2⟩ := hvx.inv
        obtain ⟨x2, r2, rfl, ht2, hx3⟩ := hx2.inv
        obtain ⟨x3, r3, rfl, ht3, hx4⟩ := hx3.inv
        obtain rfl := ht1.inv_str
        obtain ⟨ga, gx, rfl, hga, hgx⟩ := ht3.inv
        refine r_ixT hva (atI_nat (j := 0) rfl) ?_
        walk_at "rd"
        refine r_no (by rfl) ?_
        walk_at "rd"
        refine r_newL (Nat.zero_le _) fun L H3 hL e3 hL3 => ?_
        walk_at "rd"
        refine r_ixT (e3 _ _ hva) (atI_nat (j := 2) rfl) ?_
        have hLH : Nt H L := wr2.nw _ (Nt.none hL)
        refine r_forT (xs := gx) (fun i σ' H' => ∃ (e1 e2 : List PyData) (lv1 : List V) (z1 z2 z3 : Option V), es = e1 ++ e2 ∧ RdA Pp (m - 1) (g.take i) e1 ∧ RdA Pp (m - 1) (g.drop i) e2 ∧ Sg K H' b n c t bk Pp N ∧ Wr H H' n c t bk bk Pp Pp ∧ TEx H3 H' ∧ H' L = some (.lst lv1) ∧ TpAll H' lv1 e1 ∧
          σ' = [some (.ref c), some (.int r), some (.ref va), some (.ref L), z1, z2, z3]) ?_ ?_ ?_ ?_
        · exact ⟨[], es, [], none, none, none, rfl, .nil, hrda, sg2.same e3, wr2.trans (Wr.of e3), TEx.refl _, hL3, .nil, rfl⟩
        · rintro i σ' H' ⟨_, _, _, _, _, _, _, _, _, _, _, tx, _⟩
          exact tx _ _ (e3 _ _ hga)
        · rintro i x σ' H' hx ⟨e1, e2, lv1, z1, z2, z3, hes, h1, h2, sg', wr', tx, hL', hlv, rfl⟩
          obtain ⟨e, he, hte⟩ := hgx.get' hx
          have hil := (List.getElem?_eq_some_iff.mp he).1
          have hdr : g.drop i = e :: g.drop (i + 1) := by
            rw [List.drop_eq_getElem_cons hil]
            rw [List.getElem?_eq_getElem hil] at he
            rw [Option.some.inj he]
          rw [hdr] at h2
          cases h2 with
          | cons ha hr2 =>
            rename_i k a cc ea fs
            have hte' := (hte.mono (TEx.of e3)).mono tx
            obtain ⟨xa, xxs, rfl, hxa, hxx⟩ := hte'.inv
            obtain ⟨y1, s1, rfl, _, hy2⟩ := hxx.inv
            obtain ⟨y2, s2, rfl, hu2, hy3⟩ := hy2.inv
            obtain ⟨y3, s3, rfl, hu3, hy4⟩ := hy3.inv
            obtain rfl := hy4.inv_nil
            obtain rfl := hu2.inv_int
            refine r_gthree hxa ?_
            walk_at "rd"
            refine r_tyL hL' ?_
            walk_at "rd"
            have hea : ea.length ≤ 1000 := by
              have := congrArg List.length hes
              rw [List.length_append, List.length_append] at this
              omega
            refine ⟨hm, b, n, c, t, bk, Pp, N, a, ea, rfl, sg', ha, hea, fun l ev H4 sg4 wr4 hl4 hev => ?_⟩
            walk_at "rd"
            have hL4 := sg'.lst wr4 hL'
            have hlen : lv1.length + ev.length ≤ 100000 := by
              rw [hlv.length, hev.length]
              have := congrArg List.length hes
              rw [List.length_append, List.length_append] at this
              omega
            refine r_ext hL4 hl4 hlen fun H5 e5 => ?_
            subst e5
            have t5 : TEx H4 (upd H4 L (.lst (lv1 ++ ev))) := TEx.upd hL4 fun xs z => by cases z
            refine ⟨e1 ++ ea, fs, lv1 ++ ev, _, _, _, by rw [hes, List.append_assoc], ?_, hr2, sg4.mutL hL4, (wr'.trans wr4).mutL hLH, (tx.trans (sg'.tex wr4)).trans t5, upd_same, TpAll.append (hlv.mono ((sg'.tex wr4).trans t5)) (hev.mono t5), rfl⟩
            have etk : g.take (i + 1) = g.take i ++ [.tuple [k, .int a, .int cc]] := by rw [List.take_add_one, he]; rfl
            rw [etk]
            have one := RdA.cons (k := k) (c := cc) ha (RdA.nil (Pp := Pp) (n := m - 1))
            rw [List.append_nil] at one
            exact rda_append h1 one
        · rintro σ' H' ⟨e1, e2, lv1, z1, z2, z3, hes, h1, h2, sg', wr', tx, hL', hlv, rfl⟩
          rw [hgx.length, List.drop_length] at h2
          cases h2
          rw [List.append_nil] at hes
          subst hes
          walk_at "rd"
          exact q L lv1 H' sg' wr' hL' hlv
  intro m
  induction m with
  | zero => exact main 0 (cal_never T.at_read sc_read bd_read fun vs H Q E h => h.1 rfl)
  | succ m ih =>
    refine main (m + 1) ?_
    obtain ⟨f, fd, F, r⟩ := ih.ex
    exact ⟨f, fd, F.imp fun vs H Q E h => h.2, r⟩
end
end Vt
-- VtD13
set_option Elab.async false
set_option linter.all false
set_option maxRecDepth 100000
set_option maxHeartbeats 4000000
namespace Vt
open PySem PySem.Spec PyProof.Rows L2 LamX NdefX
local macro_rules | `(tactic| walk_at "rd") => `(tactic| (repeat (first
  | with_reducible refine r_sasg ?_ | with_reducible refine r_sfset ?_ | with_reducible refine r_sfaug ?_ | with_reducible refine r_sdput ?_ | with_reducible refine r_sdrop ?_ | with_reducible refine r_swhen ?_ | with_reducible refine r_sif ?_ | with_reducible refine r_asg ?_ | with_reducible refine r_drop ?_
  | with_reducible refine r_ret ?_ | with_reducible refine r_if ?_ | with_reducible refine r_next ?_
  | with_reducible refine r_c ?_ | with_reducible refine r_var (by with_unfolding_all exact rfl) ?_ | with_reducible refine r_op ?_ | with_reducible refine r_un ?_ | with_reducible refine r_I0 ?_ | ((with_reducible refine r_I ?_ ?_); · first | (show (0 : Int) < _; decide) | exact div_ok (by decide) (by decide)) | with_reducible refine r_U ?_
  | with_reducible refine r_eq (by with_unfolding_all exact rfl) ?_ | with_reducible refine r_ne (by with_unfolding_all exact rfl) ?_
  | with_reducible refine r_tstq ?_ | with_reducible refine r_tBq ?_ | with_reducible refine r_blq ?_ | with_reducible refine r_intq ?_ | with_reducible refine r_and ?_ | with_reducible refine r_or ?_ | with_reducible refine r_not ?_
  | with_reducible refine r_andV ?_ | with_reducible refine r_orV ?_ | with_reducible refine r_notV ?_
  | with_reducible refine r_nil ?_ | with_reducible refine r_cons ?_ | with_reducible refine r_call ?_ | with_reducible refine r_tup ?_ | with_reducible refine r_lst ?_ | with_reducible refine r_cb ?_ | with_reducible refine r_int1 ?_ | with_reducible refine r_ord ?_
  | with_reducible refine r_sl ?_ | with_reducible refine r_nop ?_ | with_reducible refine r_partq ?_ | with_reducible refine r_bm ?_ | with_reducible refine r_fld ?_
  | with_reducible refine r_lct ?_ | with_reducible refine r_lcl ?_ | with_reducible refine r_lcr ?_ | with_reducible refine r_sfort ?_ | with_reducible refine r_sforl ?_ | with_reducible refine r_sfors ?_ | with_reducible refine r_sforr ?_ | with_reducible refine r_sforz ?_
  | with_reducible refine r_fort ?_ | with_reducible refine r_forl ?_ | with_reducible refine r_forr ?_ | with_reducible refine r_sasgt ?_ | with_reducible refine r_asgt ?_ | with_reducible refine r_saug (by with_unfolding_all exact rfl) ?_ | with_reducible refine r_aug (by with_unfolding_all exact rfl) ?_ | with_reducible refine r_ip ?_ | with_reducible refine r_gname ?_ | with_reducible refine r_seq ?_
  | with_reducible refine r_dget ?_ | with_reducible refine r_din ?_ | with_reducible refine r_dnotin ?_ | with_reducible refine r_sdput ?_ | with_reducible refine r_dput ?_ | with_reducible refine r_mg ?_ | with_reducible refine r_rev ?_ | with_reducible refine r_dzip ?_
  | with_reducible refine r_lcz ?_ | with_reducible refine r_form ?_
  | with_reducible refine r_sfset ?_ | with_reducible refine r_fset ?_ | with_reducible refine r_sfaug ?_ | with_reducible refine r_meth ?_ | with_reducible refine r_make ?_
  | with_reducible refine r_srtl ?_ | with_reducible refine r_m1q ?_ | with_reducible refine r_strq ?_
  | with_reducible refine r_iteT ?_ | with_reducible refine r_iteF ?_)))
local macro_rules | `(tactic| walk_at "rs") => `(tactic| (repeat (first
  | with_reducible refine r_sasg ?_ | with_reducible refine r_sfset ?_ | with_reducible refine r_sfaug ?_ | with_reducible refine r_sdput ?_ | with_reducible refine r_sdrop ?_ | with_reducible refine r_asg ?_ | with_reducible refine r_drop ?_
  | with_reducible refine r_ret ?_ | with_reducible refine r_next ?_
  | with_reducible refine r_c ?_ | with_reducible refine r_var (by with_unfolding_all exact rfl) ?_ | with_reducible refine r_op ?_ | with_reducible refine r_un ?_ | with_reducible refine r_I0 ?_ | ((with_reducible refine r_I ?_ ?_); · first | (show (0 : Int) < _; decide) | exact div_ok (by decide) (by decide)) | with_reducible refine r_U ?_
  | with_reducible refine r_eq (by with_unfolding_all exact rfl) ?_ | with_reducible refine r_ne (by with_unfolding_all exact rfl) ?_
  | with_reducible refine r_tstq ?_ | with_reducible refine r_tBq ?_ | with_reducible refine r_blq ?_ | with_reducible refine r_intq ?_ | with_reducible refine r_and ?_ | with_reducible refine r_or ?_ | with_reducible refine r_not ?_
  | with_reducible refine r_andV ?_ | with_reducible refine r_orV ?_ | with_reducible refine r_notV ?_
  | with_reducible refine r_nil ?_ | with_reducible refine r_cons ?_ | with_reducible refine r_call ?_ | with_reducible refine r_tup ?_ | with_reducible refine r_lst ?_ | with_reducible refine r_cb ?_ | with_reducible refine r_int1 ?_ | with_reducible refine r_ord ?_
  | with_reducible refine r_sl ?_ | with_reducible refine r_nop ?_ | with_reducible refine r_partq ?_ | with_reducible refine r_bm ?_ | with_reducible refine r_fld ?_
  | with_reducible refine r_lct ?_ | with_reducible refine r_lcl ?_ | with_reducible refine r_lcr ?_ | with_reducible refine r_sfort ?_ | with_reducible refine r_sforl ?_ | with_reducible refine r_sfors ?_ | with_reducible refine r_sforr ?_ | with_reducible refine r_sforz ?_
  | with_reducible refine r_fort ?_ | with_reducible refine r_forl ?_ | with_reducible refine r_forr ?_ | with_reducible refine r_sasgt ?_ | with_reducible refine r_asgt ?_ | with_reducible refine r_saug (by with_unfolding_all exact rfl) ?_ | with_reducible refine r_aug (by with_unfolding_all exact rfl) ?_ | with_reducible refine r_ip ?_ | with_reducible refine r_gname ?_ | with_reducible refine r_seq ?_
  | with_reducible refine r_dget ?_ | with_reducible refine r_din ?_ | with_reducible refine r_dnotin ?_ | with_reducible refine r_sdput ?_ | with_reducible refine r_dput ?_ | with_reducible refine r_mg ?_ | with_reducible refine r_rev ?_ | with_reducible refine r_dzip ?_
  | with_reducible refine r_lcz ?_ | with_reducible refine r_form ?_
  | with_reducible refine r_sfset ?_ | with_reducible refine r_fset ?_ | with_reducible refine r_sfaug ?_ | with_reducible refine r_meth ?_ | with_reducible refine r_make ?_
  | with_reducible refine r_srtl ?_ | with_reducible refine r_m1q ?_ | with_reducible refine r_strq ?_
  | with_reducible refine r_iteT ?_ | with_reducible refine r_iteF ?_)))
local macro_rules | `(tactic| walk_at "tex") => `(tactic| (first
  | assumption | exact TEx.refl _ | exact TEx.of (by assumption) | ((refine TEx.trans ?_ (TEx.of (by assumption))); walk_at "tex") | ((refine TEx.trans ?_ (by assumption)); walk_at "tex")))
local macro_rules | `(tactic| walk_at "same") => `(tactic| (first
  | assumption | exact Same.refl _ | ((refine Same.trans ?_ (by assumption)); walk_at "same")))
local macro_rules | `(tactic| walk_at "tp") => `(tactic| (first
  | assumption | exact Tp.int _ | exact Tp.str _ | exact Tp.non | exact TpAll.nil | ((refine TpAll.cons ?_ ?_) <;> walk_at "tp") | ((refine Tp.mono ?_ (by assumption)); walk_at "tex") | ((refine TpAll.mono ?_ (by assumption)); walk_at "tex")))
local macro_rules | `(tactic| walk_at "hp") => `(tactic| (first
  | assumption | ((refine (TEx.trans ?_ (TEx.refl _)) _ _ (by assumption)); walk_at "tex")))
section
variable {P : Program} {w : World} {K : PySem.W.Frag} {mg : Str → Option Value} {base : Heap}
/-- a state's table -/
structure Tr where
  name : Str
  fm : Fm
  root : Int
def Tr.d (t : Tr) : PyData := .tuple [.str t.name, t.fm.d, .int t.root]
def stD (ts : List Tr) : PyData := .tuple [.str "state", .tuple (ts.map Tr.d)]
structure Tr.Ok (t : Tr) : Prop where
  nm : t.name.length ≤ 60
  fm : t.fm.Ok
  rt : t.root.natAbs < 10 ^ 60
/-- the names rise -/
def NmS (ts : List Tr) : Prop := SrtS (ts.map fun t => .str t.name)
theorem Fm.en {f : Fm} (h : f.Ok) : En 3 10000 f.d := by
  have hc : ∀ c ∈ f.cols, En 1 352 c.d := fun c hc => by
    refine (En.tup (m := 0) (L := 70) (n := 5) (by simp) (by decide) fun d hd => ?_).mono (by decide) (by decide)
    have e : d = .str c.name ∨ d = .str c.kind ∨ d = c.df ∨ d = .int c.un ∨ d = .str c.link := by simpa using hd
    rcases e with e | e | e | e | e <;> subst e
    · exact En.str (h.nm c hc)
    · refine En.str ?_
      rcases h.kd c hc with e | e | e | e <;> rw [e] <;> decide +kernel
    · exact (h.df c hc).en
    · exact En.int (by rcases h.un c hc with e | e <;> rw [e] <;> decide)
    · exact En.str (h.lk c hc)
  have h1 := En.tup (m := 1) (L := 352) (n := 12) (ds := f.cols.map Col.d) (by rw [List.length_map]; exact h.n12) (by decide) fun d hd => by
    obtain ⟨c, hc', rfl⟩ := List.mem_map.mp hd
    exact hc c hc'
  have h2 := En.tup (m := 0) (L := 70) (n := 2) (ds := f.keys.map PyData.str) (by rw [List.length_map]; exact h.k2) (by decide) fun d hd => by
    obtain ⟨k, hk, rfl⟩ := List.mem_map.mp hd
    obtain ⟨c, hc', e, _⟩ := h.kin k hk
    rw [← e]
    exact En.str (h.nm c hc')
  refine (En.tup (m := 2) (L := 4226) (n := 2) (by simp) (by decide) fun d hd => ?_).mono (by decide) (by decide)
  have e : d = .tuple (f.cols.map Col.d) ∨ d = .tuple (f.keys.map PyData.str) := by simpa using hd
  rcases e with e | e <;> subst e
  · exact h1
  · exact h2.mono (by decide) (by decide)
theorem Tr.Ok.en {t : Tr} (h : t.Ok) : En 4 30002 t.d := by
  refine (En.tup (m := 3) (L := 10000) (n := 3) (by simp) (by decide) fun d hd => ?_)
  have e : d = .str t.name ∨ d = t.fm.d ∨ d = .int t.root := by simpa using hd
  rcases e with e | e | e <;> subst e
  · exact (En.str h.nm).mono (by decide) (by decide)
  · exact Fm.en h.fm
  · exact (En.int h.rt).mono (by decide) (by decide)
theorem st_en {ts : List Tr} (hl : ts.length ≤ 120) (h : ∀ t ∈ ts, t.Ok) : En 6 7300000 (stD ts) := by
  have h1 := En.tup (m := 4) (L := 30002) (n := 120) (ds := ts.map Tr.d) (by rw [List.length_map]; exact hl) (by decide) fun d hd => by
    obtain ⟨t, ht, rfl⟩ := List.mem_map.mp hd
    exact (h t ht).en
  refine (En.tup (m := 5) (L := 3600242) (n := 2) (by simp) (by decide) fun d hd => ?_).mono (by decide) (by decide)
  have e : d = .str "state" ∨ d = .tuple (ts.map Tr.d) := by simpa using hd
  rcases e with e | e <;> subst e
  · exact (En.str (by decide +kernel)).mono (by decide) (by decide)
  · exact h1
theorem alike_strs (xs : List Str) : PySem.W.AllAlike (xs.map PyData.str) := fun d hd d' hd' => by
  obtain ⟨x, _, rfl⟩ := List.mem_map.mp hd
  obtain ⟨y, _, rfl⟩ := List.mem_map.mp hd'
  rfl
theorem srt_strs (xs : List Str) : PySem.W.Sortable (xs.map PyData.str) := .inr fun d hd => by
  obtain ⟨x, _, rfl⟩ := List.mem_map.mp hd
  exact ⟨(by intro z; cases z), (by intro ys z; cases z)⟩
theorem tr_hd (ts : List Tr) : (ts.map Tr.d).map hdK = (ts.map (·.name)).map PyData.str := by
  rw [List.map_map, List.map_map]
  rfl
/-! ### write_state -/
abbrev n_write_state : List Str := ["chunks", "tables"]
theorem sc_write_state : FnScope n_write_state ["chunks", "tables"] (defScope s_write_state) := ⟨rfl, rfl, rfl, by decide +kernel, rfl, by decide +kernel, by decide +kernel⟩
theorem bd_write_state : BindH "write_state" s_write_state ["chunks", "tables"] := fun _ _ _ _ _ _ us hl => match us, hl with | [_, _], _ => rfl
def spWriteState (K : PySem.W.Frag) : Sp := fun vs H Q _ => ∃ (b n c t : Addr) (bk : List Str) (Pp : Pr) (N : Nat) (L : Addr) (tv : List V) (ts ss : List Tr), vs = [.ref c, .ref L] ∧ Sg K H b n c t bk Pp N ∧ N < 800000 ∧
  H L = some (.lst tv) ∧ TpAll H tv (ts.map Tr.d) ∧ ss.Perm ts ∧ NmS ss ∧ ts.length ≤ 120 ∧ (∀ t ∈ ts, t.Ok) ∧
  ∀ (a : Int) (H' : Hp) (bk' : List Str) (P' : Pr), Sg K H' b n c t bk' P' (N + 2) → Wr H H' n c t bk bk' Pp P' → P' a (encS (stD ss)) → Q (.int a) H'
theorem cal_write_state (T : Tx K mg) (L : Tl K mg base) : Cal P w K mg base 10 "write_state" ["chunks", "tables"] (spWriteState K) := by
  have c_encode := cal_encode (P := P) (w := w) (base := base) T 7
  have c_put := cal_put (P := P) (w := w) (mg := mg) (base := base) T
  refine cal_ofC T.ac_write_state sc_write_state bd_write_state (fun vs H Q E h => ?_) fun f A outer s H0 E hr => ⟨_, (pss_one (ps_ret (pe_calm c_put (pv 0) (hr.mono (by omega)) (pa_cons (pe_cal c_encode (hr.mono (by omega)) (by rfl) (pa_cons (pe_tup (pa_cons pe_str (pa_cons (pe_callTy (cr_tupOfK (K := K) rfl) (by rfl) T.m_tuple (by decide +kernel) (pa_cons (pe_srtL (K := K) (N := ["table"]) (fr := []) (js := []) (x := "table") (k := 0) rfl rfl (by rfl) T.m_sorted (pv 1) (hr.mono (by omega)) (L.tb _ tm_write_state) rfl (tt_mem tm_write_state) (L.hu tm_write_state) (ndef_free (sc := defScope s_write_state) (fr := []) (by decide +kernel)) (nscope_by (by decide +kernel)) (ndef_fr (sc := defScope s_write_state) (by decide +kernel)) rfl rfl (fun _ _ _ _ _ us hl => match us, hl with | [_], _ => rfl) (fun q cl c' f A outer s H E hr' => (pe_ix (ix_tupK (K := K) rfl) (pv 0) pe_int (fun _ _ => rfl)))) pa_nil)) pa_nil))) pa_nil)) pa_nil)))), fun vs H Q h => ?_⟩
  · obtain ⟨b, n, c, t, bk, Pp, N, L, tv, ts, ss, rfl, _⟩ := h
    rfl
  · obtain ⟨b, n, c, t, bk, Pp, N, L, tv, ts, ss, rfl, sg, hN, hL, htv, hpm, hnm, hlen, hok, q⟩ := h
    obtain ⟨dc, i, hc⟩ := sg.ci
    have hpd : (ss.map Tr.d).Perm (ts.map Tr.d) := hpm.map _
    walk_at "rd"
    refine r_methq hc rfl ?_
    walk_at "rd"
    refine r_srtL hdK sg.tb hL htv (by rw [tr_hd]; exact alike_strs _) (by rw [tr_hd]; exact srt_strs _) (fun d hd => ?_) (fun i v d hd htp H3 Qs g3 qs => ?_) fun l zs es H1 g1 nl pm sr hl1 hz1 => ?_
    · obtain ⟨t', _, rfl⟩ := List.mem_map.mp hd
      show (PyData.str t'.name).depth ≤ 50
      unfold PyData.depth
      exact Nat.zero_le _
    · obtain ⟨t', ht', rfl⟩ : ∃ t', t' ∈ ts ∧ Tr.d t' = d := by
        obtain ⟨t', h1, h2⟩ := List.mem_map.mp (List.mem_iff_getElem?.mpr ⟨i, hd⟩)
        exact ⟨t', h1, h2⟩
      obtain ⟨va, vx, rfl, hva, hvx⟩ := htp.inv
      obtain ⟨x1, r1, rfl, ht1, _⟩ := hvx.inv
      obtain rfl := ht1.inv_str
      walk_at "rd"
      exact r_ixT (g3.tex _ _ hva) (atI_nat (j := 0) rfl) (qs _ H3 (Gr.refl _ _) (.str _))
    · have ees : es = ss.map Tr.d := by
        refine sort_eqK (kf := hdK) (pm.trans hpd.symm) sr ?_
        rw [tr_hd, List.map_map]
        exact hnm
      subst ees
      walk_at "rd"
      refine r_tupD hl1 hz1 fun l2 H2 e2 t2 => ?_
      walk_at "rd"
      refine r_newD (ds := [.str "state", .tuple (ss.map Tr.d)]) (.cons (.str _) (.cons t2 .nil)) (Nat.le_of_ble_eq_true rfl) fun p3 H3 e3 t3 => ?_
      walk_at "rd"
      have hen := st_en (ts := ss) (by rw [hpm.length_eq]; exact hlen) fun t ht => hok t (hpm.subset ht)
      refine ⟨.ref p3, stD ss, rfl, t3, Nat.lt_succ_of_le hen.dp, hen.ok, Nat.le_trans hen.ln (by decide), fun H4 e4 => ?_⟩
      walk_at "rd"
      have g4 := g1.trans (Gr.of (e2.trans (e3.trans e4)))
      refine ⟨b, n, c, t, bk, Pp, N, _, rfl, sg.gr g4, by omega, fun a H5 bk5 P5 sg5 wr5 hP5 => ?_⟩
      exact q a H5 bk5 P5 sg5 ((Wr.gr g4).trans wr5) hP5
end
end Vt
-- VtState
set_option Elab.async false
set_option linter.all false
set_option maxRecDepth 100000
set_option maxHeartbeats 4000000
namespace Vt
open PySem PySem.Spec PyProof.Rows L2
/-! ### sorted and all different is rising -/
theorem srtS_of {ds : List PyData} (inj : ∀ a ∈ ds, ∀ b ∈ ds, PySem.W.keyToks a = PySem.W.keyToks b → a = b) (nd : ds.Nodup) (h : Srtd ds) : SrtS ds := by
  induction ds with
  | nil => exact List.Pairwise.nil
  | cons a r ih =>
    obtain ⟨h1, h2⟩ := List.pairwise_cons.mp h
    obtain ⟨n1, n2⟩ := List.nodup_cons.mp nd
    refine List.pairwise_cons.mpr ⟨fun b hb => ?_, ih (fun x hx y hy => inj x (List.mem_cons_of_mem _ hx) y (List.mem_cons_of_mem _ hy)) n2 h2⟩
    cases e : dLt a b with
    | true => rfl
    | false =>
      have t := PyProof.Rows.lex_total (O := PyProof.Rows.itemOrd) _ _ e (h1 b hb)
      exact (n1 (by rw [inj a (List.mem_cons_self ..) b (List.mem_cons_of_mem _ hb) t]; exact hb)).elim
theorem dlt_irr (a : PyData) : dLt a a = false := PyProof.Rows.lex_irrefl (O := PyProof.Rows.itemOrd) _
theorem srtS_nd {ds : List PyData} (h : SrtS ds) : ds.Nodup := by
  refine h.imp fun {a b} e z => ?_
  subst z
  rw [dlt_irr] at e
  cases e
theorem toks_str {x y : Str} (h : PySem.W.keyToks (.str x) = PySem.W.keyToks (.str y)) : x = y := by
  rw [PySem.W.keyToks, PySem.W.keyToks] at h
  injection h with h _
  injection h with h
  exact PySem.W.str_of_cps h
/-- distinct names have a rising order -/
theorem nm_exists (ts : List Tr) (nd : (ts.map (·.name)).Nodup) : ∃ ss, ss.Perm ts ∧ NmS ss := by
  let ss := ts.mergeSort (PySem.W.dataLe false fun t : Tr => .str t.name)
  have pm : ss.Perm ts := List.mergeSort_perm _ _
  refine ⟨ss, pm, srtS_of (fun a ha b hb e => ?_) ?_ (sorted_pw _ _)⟩
  · obtain ⟨x, _, rfl⟩ := List.mem_map.mp ha
    obtain ⟨y, _, rfl⟩ := List.mem_map.mp hb
    rw [toks_str e]
  · have n2 : (ss.map (·.name)).Nodup := (pm.map (·.name)).nodup_iff.mpr nd
    have := List.Pairwise.map (S := fun a b => a ≠ b) PyData.str (fun x y n e => n (PyData.str.inj e)) n2
    rw [List.map_map] at this
    exact this
theorem nm_nd {ts : List Tr} (h : NmS ts) : (ts.map (·.name)).Nodup := by
  have := srtS_nd h
  unfold List.Nodup at this ⊢
  rw [List.pairwise_map] at this ⊢
  exact this.imp fun {a b} n e => n (congrArg PyData.str e)
/-- two rising lists of the same things are one -/
theorem nm_eq {ts ss : List Tr} (p : ss.Perm ts) (h1 : NmS ss) (h2 : NmS ts) : ss = ts := by
  unfold NmS SrtS at h1 h2
  rw [List.pairwise_map] at h1 h2
  have : ∀ {es fs : List Tr}, es.Perm fs → es.Pairwise (fun a b => dLt (.str a.name) (.str b.name) = true) → fs.Pairwise (fun a b => dLt (.str a.name) (.str b.name) = true) → es = fs := by
    intro es
    induction es with
    | nil => intro fs p _ _; exact (List.nil_perm.mp p).symm
    | cons b es ih =>
      intro fs p h1 h2
      cases fs with
      | nil => cases (List.perm_nil.mp p)
      | cons a r =>
        obtain ⟨h3, h4⟩ := List.pairwise_cons.mp h1
        obtain ⟨h5, h6⟩ := List.pairwise_cons.mp h2
        have e : b = a := by
          rcases List.mem_cons.mp (p.subset (List.mem_cons_self ..)) with e | hb
          · exact e
          · rcases List.mem_cons.mp (p.symm.subset (List.mem_cons_self ..)) with e | ha
            · exact e.symm
            · have t1 := h5 b hb
              have t2 := h3 a ha
              have := PyProof.Rows.lex_trans (O := PyProof.Rows.itemOrd) _ _ _ t1 t2
              rw [PyProof.Rows.lex_irrefl] at this
              cases this
        subst e
        rw [ih ((List.perm_cons b).mp p) h4 h6]
  exact this p h1 h2
/-- without the name -/
def remT (ts : List Tr) (n : Str) : List Tr := ts.filter fun u => !decide (u.name = n)
theorem remT_nm {ts : List Tr} {n : Str} (h : NmS ts) : NmS (remT ts n) := by
  unfold NmS SrtS remT at *
  rw [List.pairwise_map] at h ⊢
  exact h.filter _
theorem remT_mem {ts : List Tr} {n : Str} {t : Tr} : t ∈ remT ts n ↔ t ∈ ts ∧ t.name ≠ n := by
  unfold remT
  rw [List.mem_filter]
  simp
theorem remT_len (ts : List Tr) (n : Str) : (remT ts n).length ≤ ts.length := List.length_filter_le _ _
/-- kept by place, kept by value -/
theorem range_filter {α : Type} (xs : List α) (d : α) (p : α → Bool) : ((List.range xs.length).filter fun i => p (xs.getD i d)).map (fun i => xs.getD i d) = xs.filter p := by
  have h := congrArg (List.filter p) (range_map xs d)
  rw [List.filter_map] at h
  exact h
end Vt
-- VtKey
set_option Elab.async false
set_option linter.all false
set_option maxRecDepth 100000
set_option maxHeartbeats 4000000
namespace Vt
open PySem PySem.Spec PyProof.Rows L2
/-! ### keys of rows -/
def keyT (f : Fm) (r : List PyData) : PyData := .tuple (keyL f r)
def entT (f : Fm) (r : List PyData) : PyData := .tuple [keyT f r, .tuple (restL f r)]
def kD : Key → PyData
  | .inl i => .int i
  | .inr x => .str x
def kOf : PyData → Key
  | .int i => .inl i
  | .str x => .inr x
  | _ => .inl 0
theorem kD_inj {a b : Key} (h : kD a = kD b) : a = b := by
  cases a <;> cases b <;> simp [kD] at h <;> rw [h]
theorem kDs_inj : ∀ {a b : List Key}, a.map kD = b.map kD → a = b
  | [], [], _ => rfl
  | [], _ :: _, h => by simp at h
  | _ :: _, [], h => by simp at h
  | x :: a, y :: b, h => by
    rw [List.map_cons, List.map_cons] at h
    injection h with h1 h2
    rw [kD_inj h1, kDs_inj h2]
theorem tp_kk {H : Hp} : ∀ {kk : List Key} {vs : List V}, TpAll H vs (kk.map kD) → vs = kk.map kV
  | [], _, h => by cases h; rfl
  | k :: r, _, h => by
    cases h with
    | cons h1 h2 =>
      rw [tp_kk h2, List.map_cons]
      cases k with
      | inl i => cases h1; rfl
      | inr x => cases h1; rfl
/-- a cell of a key column: an int, or a text -/
theorem key_cell {f : Fm} (ok : f.Ok) {row : List PyData} (ft : Fit f row) {k : Str} (hk : k ∈ f.keys) : ∃ c, c ∈ f.cols ∧ c.name = k ∧ ((c.kind = "int" ∧ ∃ i, row.getD (ix f.names k) .none = .int i ∧ i.natAbs < 10 ^ 60) ∨ (c.kind = "text" ∧ ∃ s, row.getD (ix f.names k) .none = .str s ∧ s.length ≤ 60)) := by
  obtain ⟨c, hc, e, hkind⟩ := ok.kin k hk
  have hix := ix_at (ok.kmem hk)
  obtain ⟨j, hj⟩ := List.mem_iff_getElem?.mp hc
  have hjn : f.names[j]? = some k := by
    show (f.cols.map (·.name))[j]? = _
    rw [List.getElem?_map, hj]
    exact congrArg some e
  have ej := ix_nodup ok.nd hjn
  have hjl := (List.getElem?_eq_some_iff.mp hj).1
  have hrow : row[j]? = some (row[j]'(by rw [ft.len]; exact hjl)) := List.getElem?_eq_getElem _
  obtain ⟨ha, hs⟩ := ft.ok j c _ hj hrow
  rw [ej, getD_some hrow]
  refine ⟨c, hc, e, ?_⟩
  rcases hs with hs | ⟨i, hs, hl⟩ | ⟨s, hs, hl⟩
  · rw [hs] at ha
    rcases hkind with h | h <;> rw [h] at ha <;> exact absurd ha (by decide +kernel)
  · rcases hkind with h | h
    · exact .inl ⟨h, i, hs, hl⟩
    · rw [hs, h] at ha
      exact absurd (show decide (baseK "text" = ("int" : Str)) = true from ha) (by decide +kernel)
  · rcases hkind with h | h
    · rw [hs, h] at ha
      exact absurd (show decide (baseK "int" = ("text" : Str)) = true from ha) (by decide +kernel)
    · exact .inr ⟨h, s, hs, hl⟩
theorem key_kk {f : Fm} (ok : f.Ok) {row : List PyData} (ft : Fit f row) : keyL f row = ((keyL f row).map kOf).map kD := by
  unfold keyL
  rw [List.map_map, List.map_map]
  refine List.map_congr_left fun k hk => ?_
  obtain ⟨c, _, _, ⟨_, i, e, _⟩ | ⟨_, s, e, _⟩⟩ := key_cell ok ft hk
  · show row.getD (ix f.names k) .none = kD (kOf (row.getD (ix f.names k) .none))
    rw [e]
    rfl
  · show row.getD (ix f.names k) .none = kD (kOf (row.getD (ix f.names k) .none))
    rw [e]
    rfl
theorem key_sc {f : Fm} (ok : f.Ok) {row : List PyData} (ft : Fit f row) : ∀ d ∈ keyL f row, Sc d := fun d hd => by
  obtain ⟨k, hk, rfl⟩ := List.mem_map.mp hd
  obtain ⟨c, _, _, ⟨_, i, e, h⟩ | ⟨_, s, e, h⟩⟩ := key_cell ok ft hk
  · rw [e]; exact .inr (.inl ⟨i, rfl, h⟩)
  · rw [e]; exact .inr (.inr ⟨s, rfl, h⟩)
theorem rest_sc {f : Fm} {row : List PyData} (ft : Fit f row) : ∀ d ∈ restL f row, Sc d := fun d hd => by
  obtain ⟨i, hi, rfl⟩ := List.mem_map.mp hd
  rw [List.getD_eq_getElem?_getD]
  cases e : row[i]? with
  | none => exact .inl rfl
  | some d => exact ft.sc (List.mem_iff_getElem?.mpr ⟨i, e⟩)
theorem rest_len {f : Fm} (row : List PyData) : (restL f row).length ≤ f.cols.length := by
  unfold restL restI
  rw [List.length_map, ← names_len]
  have := List.length_filter_le (fun i => decide (f.names.getD i ⟨#[]⟩ ∉ f.keys)) (List.range f.names.length)
  rw [List.length_range] at this
  exact this
theorem ent_ok {f : Fm} (ok : f.Ok) {row : List PyData} (ft : Fit f row) : Eo (entT f row) := row_eo (by show (f.keys.map _).length ≤ 2; rw [List.length_map]; exact ok.k2) (Nat.le_trans (rest_len row) ok.n12) (key_sc ok ft) (rest_sc ft)
theorem alikeAll_map {g h : Str → PyData} : ∀ {ks : List Str}, (∀ k ∈ ks, PySem.W.alike (g k) (h k) = true) → PySem.W.alikeAll (ks.map g) (ks.map h) = true
  | [], _ => by rw [List.map_nil, PySem.W.alikeAll]
  | k :: r, e => by
    rw [List.map_cons, List.map_cons, PySem.W.alikeAll, e k (List.mem_cons_self ..), alikeAll_map fun x hx => e x (List.mem_cons_of_mem _ hx)]
    rfl
theorem key_alike {f : Fm} (ok : f.Ok) {r1 r2 : List PyData} (f1 : Fit f r1) (f2 : Fit f r2) : PySem.W.alike (keyT f r1) (keyT f r2) = true := by
  unfold keyT keyL
  rw [PySem.W.alike]
  refine alikeAll_map fun k hk => ?_
  obtain ⟨c, hc, e1, h1⟩ := key_cell ok f1 hk
  obtain ⟨c2, hc2, e2, h2⟩ := key_cell ok f2 hk
  have ec : c = c2 := by
    obtain ⟨i, hi⟩ := List.mem_iff_getElem?.mp hc
    obtain ⟨j, hj⟩ := List.mem_iff_getElem?.mp hc2
    have hin : f.names[i]? = some k := by show (f.cols.map (·.name))[i]? = _; rw [List.getElem?_map, hi]; exact congrArg some e1
    have hjn : f.names[j]? = some k := by show (f.cols.map (·.name))[j]? = _; rw [List.getElem?_map, hj]; exact congrArg some e2
    have := (ix_nodup ok.nd hin).symm.trans (ix_nodup ok.nd hjn)
    rw [this, hj] at hi
    exact (Option.some.inj hi).symm
  subst ec
  rcases h1 with ⟨g1, i, a1, _⟩ | ⟨g1, s, a1, _⟩ <;> rcases h2 with ⟨g2, j, a2, _⟩ | ⟨g2, t, a2, _⟩
  · rw [a1, a2]; rfl
  · rw [g1] at g2; exact absurd g2 (by decide +kernel)
  · rw [g1] at g2; exact absurd g2 (by decide +kernel)
  · rw [a1, a2]; rfl
theorem keys_alike {f : Fm} (ok : f.Ok) {rs : List (List PyData)} (h : ∀ r ∈ rs, Fit f r) : PySem.W.AllAlike (rs.map (keyT f)) := fun d hd d' hd' => by
  obtain ⟨r1, h1, rfl⟩ := List.mem_map.mp hd
  obtain ⟨r2, h2, rfl⟩ := List.mem_map.mp hd'
  exact key_alike ok (h r1 h1) (h r2 h2)
theorem keys_sort {f : Fm} (ok : f.Ok) (rs : List (List PyData)) : PySem.W.Sortable (rs.map (keyT f)) := .inl fun d hd => by
  obtain ⟨r, _, rfl⟩ := List.mem_map.mp hd
  unfold keyT keyL
  have := ok.k1
  cases e : f.keys with
  | nil => rw [e] at this; simp at this
  | cons k r => exact ⟨_, _, rfl⟩
theorem depth_sc {d : PyData} (h : Sc d) : d.depth = 0 := by
  rcases h with rfl | ⟨i, rfl, _⟩ | ⟨s, rfl, _⟩ <;> rw [PyData.depth] <;> intros <;> simp_all
theorem depthAll_sc : ∀ {ds : List PyData}, (∀ d ∈ ds, Sc d) → PyData.depthAll ds = 0
  | [], _ => by rw [PyData.depthAll]
  | d :: r, h => by rw [PyData.depthAll, depth_sc (h d (List.mem_cons_self ..)), depthAll_sc fun x hx => h x (List.mem_cons_of_mem _ hx)]; rfl
theorem keys_depth {f : Fm} (ok : f.Ok) {r : List PyData} (h : Fit f r) : (keyT f r).depth ≤ 50 := by
  unfold keyT
  rw [PyData.depth, depthAll_sc (key_sc ok h)]
  decide
theorem toks_kk : ∀ {a b : List Key}, PySem.W.keyToksAll (a.map kD) = PySem.W.keyToksAll (b.map kD) → a = b
  | [], [], _ => rfl
  | [], y :: b, h => by
    rw [List.map_nil, List.map_cons, PySem.W.keyToksAll, PySem.W.keyToksAll] at h
    injection h with h _
    injection h with h
    exact absurd h (by decide)
  | x :: a, [], h => by
    rw [List.map_nil, List.map_cons, PySem.W.keyToksAll, PySem.W.keyToksAll] at h
    injection h with h _
    injection h with h
    exact absurd h (by decide)
  | x :: a, y :: b, h => by
    rw [List.map_cons, List.map_cons, PySem.W.keyToksAll, PySem.W.keyToksAll] at h
    injection h with _ h
    cases x with
    | inl i =>
      cases y with
      | inl j =>
        simp only [kD, PySem.W.keyToks, List.cons_append, List.nil_append] at h
        injection h with h1 h2
        injection h1 with h1
        rw [h1, toks_kk h2]
      | inr t =>
        simp only [kD, PySem.W.keyToks, List.cons_append, List.nil_append] at h
        injection h with h1 h2
        cases h1
    | inr s =>
      cases y with
      | inl j =>
        simp only [kD, PySem.W.keyToks, List.cons_append, List.nil_append] at h
        injection h with h1 h2
        cases h1
      | inr t =>
        simp only [kD, PySem.W.keyToks, List.cons_append, List.nil_append] at h
        injection h with h1 h2
        injection h1 with h1
        rw [PySem.W.str_of_cps h1, toks_kk h2]
/-- sorted distinct keys rise -/
theorem keys_rise {f : Fm} (ok : f.Ok) {rs : List (List PyData)} (h : ∀ r ∈ rs, Fit f r) (nd : (rs.map (keyT f)).Nodup) (sr : Srtd (rs.map (keyT f))) : SrtS (rs.map (keyT f)) := by
  refine srtS_of (fun a ha b hb e => ?_) nd sr
  obtain ⟨r1, h1, rfl⟩ := List.mem_map.mp ha
  obtain ⟨r2, h2, rfl⟩ := List.mem_map.mp hb
  unfold keyT at e ⊢
  rw [key_kk ok (h r1 h1), key_kk ok (h r2 h2), PySem.W.keyToks, PySem.W.keyToks] at e
  rw [key_kk ok (h r1 h1), key_kk ok (h r2 h2), toks_kk e]
theorem valV_mem {κ : Type} [DecidableEq κ] : ∀ {kvs : List (κ × V)} {k : κ} {v : V}, (kvs.map (·.1)).Nodup → (k, v) ∈ kvs → valV kvs k = some v
  | [], _, _, _, h => by cases h
  | p :: r, k, v, nd, h => by
    obtain ⟨n1, n2⟩ := List.nodup_cons.mp nd
    rcases List.mem_cons.mp h with e | h
    · subst e
      exact valV_pos rfl
    · rw [valV_neg fun e => n1 (by show p.1 ∈ _; rw [e]; exact List.mem_map.mpr ⟨(k, v), h, rfl⟩)]
      exact valV_mem n2 h
end Vt
-- VtTab
set_option Elab.async false
set_option linter.all false
set_option maxRecDepth 100000
set_option maxHeartbeats 4000000
namespace Vt
open PySem PySem.Spec PyProof.Rows L2
/-! ### whole tables -/
structure Tab where
  name : Str
  fm : Fm
  rows : List (List PyData)
structure Tab.Ok (t : Tab) : Prop where
  n1 : 1 ≤ t.name.length
  n12 : t.name.length ≤ 12
  fm : t.fm.Ok
  fit : ∀ r ∈ t.rows, Fit t.fm r
  len : t.rows.length ≤ 64
  srt : SrtS (t.rows.map (keyT t.fm))
/-- the table's tuple stands at v, its list of rows at l -/
def TabA (H : Hp) (v : V) (t : Tab) (l : Addr) : Prop := ∃ p f rv, v = .ref p ∧ H p = some (.tup [.str t.name, f, .ref l]) ∧ Tp H f t.fm.d ∧ H l = some (.lst rv) ∧ TpAll H rv (t.rows.map PyData.tuple)
theorem TabA.mono {H H' : Hp} {v : V} {t : Tab} {l : Addr} (h : TabA H v t l) (e : TEx H H') (k : ∀ xs, H l = some (.lst xs) → H' l = some (.lst xs)) : TabA H' v t l := by
  obtain ⟨p, f, rv, e1, h1, h2, h3, h4⟩ := h
  exact ⟨p, f, rv, e1, e _ _ h1, h2.mono e, k _ h3, h4.mono e⟩
theorem TabA.same {H H' : Hp} {v : V} {t : Tab} {l : Addr} (h : TabA H v t l) (e : Same H H') : TabA H' v t l := h.mono (TEx.of e) fun xs z => e _ _ z
theorem TabA.gr {K : PySem.W.Frag} {H H' : Hp} {v : V} {t : Tab} {l : Addr} (h : TabA H v t l) (e : Gr K H H') : TabA H' v t l := h.mono e.tex fun xs z => e.lst z
theorem TabA.wr {K : PySem.W.Frag} {H H' : Hp} {v : V} {t : Tab} {l b n c s : Addr} {bk bk' : List Str} {P P' : Pr} {N : Nat} (h : TabA H v t l) (g : Sg K H b n c s bk P N) (e : Wr H H' n c s bk bk' P P') : TabA H' v t l := h.mono (g.tex e) fun xs z => g.lst e z
theorem TabA.upd {H : Hp} {v : V} {t : Tab} {l L : Addr} {xs ys : List V} (h : TabA H v t l) (hL : H L = some (.lst xs)) (n : l ≠ L) : TabA (L2.upd H L (.lst ys)) v t l := h.mono (TEx.upd hL fun zs z => by cases z) fun zs z => by rw [upd_ne n]; exact z
/-- each in its place, none of them keeping its rows at L -/
abbrev TabsX (H : Hp) (L : Addr) (vs : List V) (ts : List Tab) : Prop := Paired (fun v t => ∃ l, l ≠ L ∧ TabA H v t l) vs ts
abbrev TabsV (H : Hp) (vs : List V) (ts : List Tab) : Prop := Paired (fun v t => ∃ l, TabA H v t l) vs ts
theorem TabsX.v {H : Hp} {L : Addr} {vs : List V} {ts : List Tab} (h : TabsX H L vs ts) : TabsV H vs ts := pd_mono h fun _ _ ⟨l, _, k⟩ => ⟨l, k⟩
theorem TabsV.same {H H' : Hp} {vs : List V} {ts : List Tab} (h : TabsV H vs ts) (e : Same H H') : TabsV H' vs ts := pd_mono h fun _ _ ⟨l, k⟩ => ⟨l, k.same e⟩
theorem TabsV.gr {K : PySem.W.Frag} {H H' : Hp} {vs : List V} {ts : List Tab} (h : TabsV H vs ts) (e : Gr K H H') : TabsV H' vs ts := pd_mono h fun _ _ ⟨l, k⟩ => ⟨l, k.gr e⟩
theorem TabsV.wr {K : PySem.W.Frag} {H H' : Hp} {vs : List V} {ts : List Tab} {b n c s : Addr} {bk bk' : List Str} {P P' : Pr} {N : Nat} (h : TabsV H vs ts) (g : Sg K H b n c s bk P N) (e : Wr H H' n c s bk bk' P P') : TabsV H' vs ts := pd_mono h fun _ _ ⟨l, k⟩ => ⟨l, k.wr g e⟩
theorem TabsX.same {H H' : Hp} {L : Addr} {vs : List V} {ts : List Tab} (h : TabsX H L vs ts) (e : Same H H') : TabsX H' L vs ts := pd_mono h fun _ _ ⟨l, n, k⟩ => ⟨l, n, k.same e⟩
theorem TabsX.gr {K : PySem.W.Frag} {H H' : Hp} {L : Addr} {vs : List V} {ts : List Tab} (h : TabsX H L vs ts) (e : Gr K H H') : TabsX H' L vs ts := pd_mono h fun _ _ ⟨l, n, k⟩ => ⟨l, n, k.gr e⟩
theorem TabsX.wr {K : PySem.W.Frag} {H H' : Hp} {L : Addr} {vs : List V} {ts : List Tab} {b n c s : Addr} {bk bk' : List Str} {P P' : Pr} {N : Nat} (h : TabsX H L vs ts) (g : Sg K H b n c s bk P N) (e : Wr H H' n c s bk bk' P P') : TabsX H' L vs ts := pd_mono h fun _ _ ⟨l, n, k⟩ => ⟨l, n, k.wr g e⟩
theorem TabsX.upd {H : Hp} {L : Addr} {xs ys vs : List V} {ts : List Tab} (h : TabsX H L vs ts) (hL : H L = some (.lst xs)) : TabsX (L2.upd H L (.lst ys)) L vs ts := pd_mono h fun _ _ ⟨l, n, k⟩ => ⟨l, n, k.upd hL n⟩
/-- a state's tables belong to the tables -/
def TrOf (Pp : Pr) (t : Tab) (r : Tr) : Prop := r.name = t.name ∧ r.fm = t.fm ∧ Root Pp (t.rows.map (entT t.fm)) r.root ∧ r.root.natAbs < 10 ^ 60
theorem TrOf.mono {P P' : Pr} (e : ∀ a x, P a x → P' a x) {t : Tab} {r : Tr} (h : TrOf P t r) : TrOf P' t r := ⟨h.1, h.2.1, h.2.2.1.mono e, h.2.2.2⟩
theorem TrOf.ok {P : Pr} {t : Tab} {r : Tr} (h : TrOf P t r) (k : t.Ok) : r.Ok := ⟨by rw [h.1]; have := k.n12; omega, by rw [h.2.1]; exact k.fm, h.2.2.2⟩
/-- the state at a holds the tables -/
def StOf (Pp : Pr) (a : Int) (ts : List Tab) : Prop := ∃ rs, Paired (TrOf Pp) ts rs ∧ Pp a (encS (stD rs))
end Vt
-- VtG5
set_option Elab.async false
set_option linter.all false
set_option maxRecDepth 100000
set_option maxHeartbeats 4000000
namespace Vt
open PySem PySem.Spec PyProof.Rows L2
local macro_rules | `(tactic| walk_at "rd") => `(tactic| (repeat (first
  | with_reducible refine r_sasg ?_ | with_reducible refine r_sfset ?_ | with_reducible refine r_sfaug ?_ | with_reducible refine r_sdput ?_ | with_reducible refine r_sdrop ?_ | with_reducible refine r_swhen ?_ | with_reducible refine r_sif ?_ | with_reducible refine r_asg ?_ | with_reducible refine r_drop ?_
  | with_reducible refine r_ret ?_ | with_reducible refine r_if ?_ | with_reducible refine r_next ?_
  | with_reducible refine r_c ?_ | with_reducible refine r_var (by with_unfolding_all exact rfl) ?_ | with_reducible refine r_op ?_ | with_reducible refine r_un ?_ | with_reducible refine r_I0 ?_ | ((with_reducible refine r_I ?_ ?_); · first | (show (0 : Int) < _; decide) | exact div_ok (by decide) (by decide)) | with_reducible refine r_U ?_
  | with_reducible refine r_eq (by with_unfolding_all exact rfl) ?_ | with_reducible refine r_ne (by with_unfolding_all exact rfl) ?_
  | with_reducible refine r_tstq ?_ | with_reducible refine r_tBq ?_ | with_reducible refine r_blq ?_ | with_reducible refine r_intq ?_ | with_reducible refine r_and ?_ | with_reducible refine r_or ?_ | with_reducible refine r_not ?_
  | with_reducible refine r_andV ?_ | with_reducible refine r_orV ?_ | with_reducible refine r_notV ?_
  | with_reducible refine r_nil ?_ | with_reducible refine r_cons ?_ | with_reducible refine r_call ?_ | with_reducible refine r_tup ?_ | with_reducible refine r_lst ?_ | with_reducible refine r_cb ?_ | with_reducible refine r_int1 ?_ | with_reducible refine r_ord ?_
  | with_reducible refine r_sl ?_ | with_reducible refine r_nop ?_ | with_reducible refine r_partq ?_ | with_reducible refine r_bm ?_ | with_reducible refine r_fld ?_
  | with_reducible refine r_lct ?_ | with_reducible refine r_lcl ?_ | with_reducible refine r_lcr ?_ | with_reducible refine r_sfort ?_ | with_reducible refine r_sforl ?_ | with_reducible refine r_sfors ?_ | with_reducible refine r_sforr ?_ | with_reducible refine r_sforz ?_
  | with_reducible refine r_fort ?_ | with_reducible refine r_forl ?_ | with_reducible refine r_forr ?_ | with_reducible refine r_sasgt ?_ | with_reducible refine r_asgt ?_ | with_reducible refine r_saug (by with_unfolding_all exact rfl) ?_ | with_reducible refine r_aug (by with_unfolding_all exact rfl) ?_ | with_reducible refine r_ip ?_ | with_reducible refine r_gname ?_ | with_reducible refine r_seq ?_
  | with_reducible refine r_dget ?_ | with_reducible refine r_din ?_ | with_reducible refine r_dnotin ?_ | with_reducible refine r_sdput ?_ | with_reducible refine r_dput ?_ | with_reducible refine r_mg ?_ | with_reducible refine r_rev ?_ | with_reducible refine r_dzip ?_
  | with_reducible refine r_lcz ?_ | with_reducible refine r_form ?_
  | with_reducible refine r_sfset ?_ | with_reducible refine r_fset ?_ | with_reducible refine r_sfaug ?_ | with_reducible refine r_meth ?_ | with_reducible refine r_make ?_
  | with_reducible refine r_srtl ?_ | with_reducible refine r_m1q ?_ | with_reducible refine r_strq ?_
  | with_reducible refine r_iteT ?_ | with_reducible refine r_iteF ?_)))
local macro_rules | `(tactic| walk_at "rs") => `(tactic| (repeat (first
  | with_reducible refine r_sasg ?_ | with_reducible refine r_sfset ?_ | with_reducible refine r_sfaug ?_ | with_reducible refine r_sdput ?_ | with_reducible refine r_sdrop ?_ | with_reducible refine r_asg ?_ | with_reducible refine r_drop ?_
  | with_reducible refine r_ret ?_ | with_reducible refine r_next ?_
  | with_reducible refine r_c ?_ | with_reducible refine r_var (by with_unfolding_all exact rfl) ?_ | with_reducible refine r_op ?_ | with_reducible refine r_un ?_ | with_reducible refine r_I0 ?_ | ((with_reducible refine r_I ?_ ?_); · first | (show (0 : Int) < _; decide) | exact div_ok (by decide) (by decide)) | with_reducible refine r_U ?_
  | with_reducible refine r_eq (by with_unfolding_all exact rfl) ?_ | with_reducible refine r_ne (by with_unfolding_all exact rfl) ?_
  | with_reducible refine r_tstq ?_ | with_reducible refine r_tBq ?_ | with_reducible refine r_blq ?_ | with_reducible refine r_intq ?_ | with_reducible refine r_and ?_ | with_reducible refine r_or ?_ | with_reducible refine r_not ?_
  | with_reducible refine r_andV ?_ | with_reducible refine r_orV ?_ | with_reducible refine r_notV ?_
  | with_reducible refine r_nil ?_ | with_reducible refine r_cons ?_ | with_reducible refine r_call ?_ | with_reducible refine r_tup ?_ | with_reducible refine r_lst ?_ | with_reducible refine r_cb ?_ | with_reducible refine r_int1 ?_ | with_reducible refine r_ord ?_
  | with_reducible refine r_sl ?_ | with_reducible refine r_nop ?_ | with_reducible refine r_partq ?_ | with_reducible refine r_bm ?_ | with_reducible refine r_fld ?_
  | with_reducible refine r_lct ?_ | with_reducible refine r_lcl ?_ | with_reducible refine r_lcr ?_ | with_reducible refine r_sfort ?_ | with_reducible refine r_sforl ?_ | with_reducible refine r_sfors ?_ | with_reducible refine r_sforr ?_ | with_reducible refine r_sforz ?_
  | with_reducible refine r_fort ?_ | with_reducible refine r_forl ?_ | with_reducible refine r_forr ?_ | with_reducible refine r_sasgt ?_ | with_reducible refine r_asgt ?_ | with_reducible refine r_saug (by with_unfolding_all exact rfl) ?_ | with_reducible refine r_aug (by with_unfolding_all exact rfl) ?_ | with_reducible refine r_ip ?_ | with_reducible refine r_gname ?_ | with_reducible refine r_seq ?_
  | with_reducible refine r_dget ?_ | with_reducible refine r_din ?_ | with_reducible refine r_dnotin ?_ | with_reducible refine r_sdput ?_ | with_reducible refine r_dput ?_ | with_reducible refine r_mg ?_ | with_reducible refine r_rev ?_ | with_reducible refine r_dzip ?_
  | with_reducible refine r_lcz ?_ | with_reducible refine r_form ?_
  | with_reducible refine r_sfset ?_ | with_reducible refine r_fset ?_ | with_reducible refine r_sfaug ?_ | with_reducible refine r_meth ?_ | with_reducible refine r_make ?_
  | with_reducible refine r_srtl ?_ | with_reducible refine r_m1q ?_ | with_reducible refine r_strq ?_
  | with_reducible refine r_iteT ?_ | with_reducible refine r_iteF ?_)))
local macro_rules | `(tactic| walk_at "tex") => `(tactic| (first
  | assumption | exact TEx.refl _ | exact TEx.of (by assumption) | ((refine TEx.trans ?_ (TEx.of (by assumption))); walk_at "tex") | ((refine TEx.trans ?_ (by assumption)); walk_at "tex")))
local macro_rules | `(tactic| walk_at "same") => `(tactic| (first
  | assumption | exact Same.refl _ | ((refine Same.trans ?_ (by assumption)); walk_at "same")))
local macro_rules | `(tactic| walk_at "tp") => `(tactic| (first
  | assumption | exact Tp.int _ | exact Tp.str _ | exact Tp.non | exact TpAll.nil | ((refine TpAll.cons ?_ ?_) <;> walk_at "tp") | ((refine Tp.mono ?_ (by assumption)); walk_at "tex") | ((refine TpAll.mono ?_ (by assumption)); walk_at "tex")))
local macro_rules | `(tactic| walk_at "hp") => `(tactic| (first
  | assumption | ((refine (TEx.trans ?_ (TEx.refl _)) _ _ (by assumption)); walk_at "tex")))
/-- some data for each, with what is known of it -/
theorem pd_tpx {H : Hp} {G : Nat → PyData → Prop} : ∀ {l : List Nat} {ys : List V}, Paired (fun k y => ∃ d, Tp H y d ∧ G k d) l ys → ∃ ds, TpAll H ys ds ∧ Paired G l ds
  | _, _, .nil => ⟨[], .nil, .nil⟩
  | _, _, .cons ⟨d, h, g⟩ t => let ⟨ds, a, b⟩ := pd_tpx t; ⟨d :: ds, .cons h a, .cons g b⟩
section
variable {P : Program} {w : World} {K : PySem.W.Frag} {mg : Str → Option Value} {base : Heap}
/-! ### _law_row -/
abbrev n_law_row : List Str := ["_law_form_here", "_law_cell_here", "_law_parts", "_law_k"]
theorem sc_law_row : FnScope n_law_row ["_law_form_here", "_law_cell_here"] (defScope s_law_row) := ⟨rfl, rfl, rfl, by decide +kernel, rfl, by decide +kernel, by decide +kernel⟩
theorem bd_law_row : BindH "_law_row" s_law_row ["_law_form_here", "_law_cell_here"] := fun _ _ _ _ _ _ us hl => match us, hl with | [_, _], _ => rfl
def spRow : Sp := fun vs H Q _ => ∃ (fv : V) (n : Int) (fm : Fm), vs = [fv, .int n] ∧ Tp H fv fm.d ∧ fm.Ok ∧ Bg n ∧ ∀ (v : V) (row : List PyData) (H' : Hp), Same H H' → Tp H' v (.tuple row) → Fit fm row → Q v H'
theorem cal_law_row (T : Tx K mg) : Cal P w K mg base 4 "_law_row" ["_law_form_here", "_law_cell_here"] spRow := by
  have c_law_draws := cal_law_draws (P := P) (w := w) (base := base) T
  have c_law_value := cal_law_value (P := P) (w := w) (base := base) T
  refine cal_of T.at_law_row sc_law_row bd_law_row (fun vs H Q E h => ?_) fun f cdv A outer s H0 E hr => ⟨_, (pss_cons (ps_set (i := 2) sc_law_row.nd rfl (Or.inr rfl) (pe_cal c_law_draws (hr.mono (by omega)) (by rfl) (pa_cons (pv 1) (pa_cons pe_int (pa_cons (pe_callB (cr_lnK (K := K) rfl) (by rfl) T.m_len PySem.boot_len (pa_cons (pe_ix (ix_tupK (K := K) rfl) (pv 0) pe_int (fun _ _ => rfl)) pa_nil)) (pa_cons (pe_ten (n := 10000000000000000000000000000000000000000000000000000000000000000) (by decide) ⟨by decide, by decide, by decide⟩ (pe_op op_pow pe_int pe_int)) pa_nil))))))
      (pss_one (ps_ret (pe_callTy (cr_tupOfK (K := K) rfl) (by rfl) T.m_tuple (by decide +kernel) (pa_cons (pe_lc (own := [("_law_k", 3)]) rfl sc_law_row.nd (pi_range1 (by rfl) T.m_range (pa_cons (pe_callB (cr_lnK (K := K) rfl) (by rfl) T.m_len PySem.boot_len (pa_cons (pe_ix (ix_tupK (K := K) rfl) (pv 0) pe_int (fun _ _ => rfl)) pa_nil)) pa_nil)) (blkOk_by (own := [("_law_k", 3)]) (N := n_law_row) (sc := defScope s_law_row) (by decide +kernel)) (fun _ _ _ _ _ => (pg_name (i := 3) sc_law_row.nd rfl (Or.inl rfl))) (fun _ _ _ _ _ => pts_nil) (fun _ _ _ _ _ => (pe_cal c_law_value (hr.mono (by omega)) (by rfl) (pa_cons (pe_ix (ix_tupK (K := K) rfl) (pe_ix (ix_tupK (K := K) rfl) (pe_ix (ix_tupK (K := K) rfl) (pv 0) pe_int (fun _ _ => rfl)) (pv 3) (fun _ _ => rfl)) pe_int (fun _ _ => rfl)) (pa_cons (pe_ix (ix_listK (K := K) rfl) (pv 2) (pv 3) (fun _ _ => rfl)) pa_nil))))) pa_nil))))), fun vs H Q h => ?_⟩
  · obtain ⟨fv, n, fm, rfl, _⟩ := h
    rfl
  · obtain ⟨fv, n, fm, rfl, hfv, hok, hn, q⟩ := h
    obtain ⟨a, c, k, rfl, ha, ⟨cv, hc, hcv⟩, hk⟩ := hfv.form
    have hcl := hcv.length
    rw [List.length_map] at hcl
    have hn12 := hok.n12
    walk_at "rd"
    refine r_ixT ha (atI_nat (j := 0) rfl) ?_
    walk_at "rd"
    refine r_lnT hc ?_
    walk_at "rd"
    rw [hcl]
    refine ⟨n, 7, fm.cols.length, 10 ^ 64, rfl, hn, by decide, by omega, by decide, by decide, fun l H1 ns e1 hns hnum hl1 _ => ?_⟩
    walk_at "rd"
    refine r_ixT (e1 _ _ ha) (atI_nat (j := 0) rfl) ?_
    walk_at "rd"
    refine r_lnT (e1 _ _ hc) ?_
    walk_at "rd"
    rw [hcl]
    refine r_lcR (n := fm.cols.length) (by omega) (fun _ => true) (fun i y H => ∃ d, Tp H y d ∧ ∀ cc, fm.cols[i]? = some cc → acc cc.kind d = true ∧ Sc d) (fun k y H H' e ⟨d, h, g⟩ => ⟨d, h.mono e, g⟩) (fun i hi => lc_one rfl fun H2 Qs e2 qs => ?_) fun L ys H2 hL e2 hl2 hp2 => ?_
    · have hci : fm.cols[i]? = some fm.cols[i] := List.getElem?_eq_getElem hi
      have hni : ns[i]? = some ns[i] := List.getElem?_eq_getElem (by omega)
      obtain ⟨x, hx, htx⟩ := hcv.get (i := i) (d := fm.cols[i].d) (by rw [List.getElem?_map, hci]; rfl)
      obtain ⟨pc, df, rfl, hpc, hdf⟩ := htx.col
      walk_at "rd"
      refine r_ixT (e2 _ _ (e1 _ _ ha)) (atI_nat (j := 0) rfl) ?_
      walk_at "rd"
      refine r_ixT (e2 _ _ (e1 _ _ hc)) (atI_nat hx) ?_
      walk_at "rd"
      refine r_ixT (e2 _ _ (e1 _ _ hpc)) (atI_nat (j := 1) rfl) ?_
      walk_at "rd"
      refine r_ixL (e2 _ _ hl1) (atI_nat (j := i) (by rw [List.getElem?_map, hni]; rfl)) ?_
      walk_at "rd"
      refine ⟨_, _, rfl, hok.kd _ (List.getElem_mem hi), hnum _ (List.getElem_mem _), fun v d H3 e3 hv hd hacc => qs v H3 e3 ⟨d, hv, fun cc hcc => ?_⟩⟩
      rw [hci] at hcc
      cases hcc
      exact ⟨hacc, hd⟩
    · rw [filter_all] at hp2
      obtain ⟨ds, hds, hg⟩ := pd_tpx hp2
      have hdl := pd_len hg
      rw [List.length_range] at hdl
      walk_at "rd"
      refine r_tupD hl2 hds fun l3 H3 e3 t3 => q _ ds H3 (e1.trans (e2.trans e3)) t3 ⟨hdl.symm, fun i cc d hcc hd => ?_⟩
      obtain ⟨j, hj, hgj⟩ := pd_get hg hd
      have : j = i := by
        obtain ⟨z1, z2⟩ := List.getElem?_eq_some_iff.mp hj
        rw [List.getElem_range] at z2
        exact z2.symm
      subst this
      exact hgj cc hcc
/-! ### _law_key_of -/
abbrev n_law_key_of : List Str := ["_law_form_here", "_law_row_here", "_law_key", "_law_name_here", "_law_k"]
theorem sc_law_key_of : FnScope n_law_key_of ["_law_form_here", "_law_row_here"] (defScope s_law_key_of) := ⟨rfl, rfl, rfl, by decide +kernel, rfl, by decide +kernel, by decide +kernel⟩
theorem bd_law_key_of : BindH "_law_key_of" s_law_key_of ["_law_form_here", "_law_row_here"] := fun _ _ _ _ _ _ us hl => match us, hl with | [_, _], _ => rfl
def spKeyOf : Sp := fun vs H Q _ => ∃ (fv rv : V) (fm : Fm) (row : List PyData), vs = [fv, rv] ∧ Tp H fv fm.d ∧ fm.Ok ∧ Tp H rv (.tuple row) ∧ Fit fm row ∧ ∀ (v : V) (H' : Hp), Same H H' → Tp H' v (keyT fm row) → Q v H'
theorem cal_law_key_of (T : Tx K mg) : Cal P w K mg base 1 "_law_key_of" ["_law_form_here", "_law_row_here"] spKeyOf := by
  refine cal_of T.at_law_key_of sc_law_key_of bd_law_key_of (fun vs H Q E h => ?_) fun f cdv A outer s H0 E hr => ⟨_, (pss_cons (ps_set (i := 2) sc_law_key_of.nd rfl (Or.inl rfl) (pe_lst pa_nil))
      (pss_cons (ps_for PassesOwn.never rfl (pi_tup (pe_ix (ix_tupK (K := K) rfl) (pv 0) pe_int (fun _ _ => rfl))) (pg_name (i := 3) sc_law_key_of.nd rfl (Or.inl rfl))
      (pss_one (ps_for PassesOwn.never rfl (pi_range1 (by rfl) T.m_range (pa_cons (pe_callB (cr_lnK (K := K) rfl) (by rfl) T.m_len PySem.boot_len (pa_cons (pv 1) pa_nil)) pa_nil)) (pg_name (i := 4) sc_law_key_of.nd rfl (Or.inl rfl))
        (pss_one (ps_if (pt_cmpR op_eq (pe_ix (ix_tupK (K := K) rfl) (pe_ix (ix_tupK (K := K) rfl) (pe_ix (ix_tupK (K := K) rfl) (pv 0) pe_int (fun _ _ => rfl)) (pv 4) (fun _ _ => rfl)) pe_int (fun _ _ => rfl)) (pv 3) (nomark _))
          (pss_one (ps_expr (pe_bm PySem.F.plainAttrs_list PySem.F.slot_list_append PySem.F.type_list_append mt_append (pv 2) (pa_cons (pe_ix (ix_tupK (K := K) rfl) (pv 1) (pv 4) (fun _ _ => rfl)) pa_nil))))
          pss_nil)))))
      (pss_one (ps_ret (pe_callTy (cr_tupOfK (K := K) rfl) (by rfl) T.m_tuple (by decide +kernel) (pa_cons (pv 2) pa_nil)))))), fun vs H Q h => ?_⟩
  · obtain ⟨fv, rv, fm, row, rfl, _⟩ := h
    rfl
  · obtain ⟨fv, rv, fm, row, rfl, hfv, hok, hrv, hfit, q⟩ := h
    obtain ⟨a, c, k, rfl, ha, ⟨cv, hc, hcv⟩, hk⟩ := hfv.form
    obtain ⟨p, rvs, rfl, hp, hrvs⟩ := hrv.inv
    have hcl := hcv.length
    rw [List.length_map] at hcl
    have hrl := hrvs.length
    have hfl := hfit.len
    have hn12 := hok.n12
    have hk2 := hok.k2
    walk_at "rd"
    refine r_newL (Nat.zero_le _) fun L H1 hL e1 hL1 => ?_
    walk_at "rd"
    refine r_ixT (e1 _ _ ha) (atI_nat (j := 1) rfl) ?_
    walk_at "rd"
    refine r_forT (xs := fm.keys.map V.str) (fun i σ' H' => ∃ (acc : List V) (z1 z2 : Option V), i ≤ fm.keys.length ∧ Same H H' ∧ H' L = some (.lst acc) ∧ TpAll H' acc ((fm.keys.take i).map fun k => row.getD (ix fm.names k) .none) ∧ σ' = [some (.ref a), some (.ref p), some (.ref L), z1, z2])
      ⟨[], none, none, Nat.zero_le _, e1, hL1, .nil, rfl⟩ (fun i σ' H' ⟨_, _, _, _, e, _⟩ => e _ _ hk) ?_ ?_
    · rintro i x σ' H' hx ⟨ac, z1, z2, hi, e, hl, hac, rfl⟩
      rw [List.getElem?_map] at hx
      cases hki : fm.keys[i]? with
      | none => rw [hki] at hx; cases hx
      | some kk =>
        rw [hki] at hx
        cases hx
        have hil := (List.getElem?_eq_some_iff.mp hki).1
        have hkm := hok.kmem (List.mem_iff_getElem?.mpr ⟨i, hki⟩)
        have hix := ix_at hkm
        have hixl := (List.getElem?_eq_some_iff.mp hix).1
        rw [names_len] at hixl
        have hacl := hac.length
        rw [List.length_map, List.length_take] at hacl
        have etk : (fm.keys.take (i + 1)).map (fun k => row.getD (ix fm.names k) .none) = (fm.keys.take i).map (fun k => row.getD (ix fm.names k) .none) ++ [row.getD (ix fm.names kk) .none] := by
          rw [List.take_add_one, hki, List.map_append]
          rfl
        walk_at "rd"
        refine r_lnT (e _ _ hp) ?_
        walk_at "rd"
        rw [hrl]
        refine r_forR (N := row.length) (by omega) (fun j σ' H' => ∃ (ac : List V) (z2 : Option V), Same H H' ∧ H' L = some (.lst ac) ∧ TpAll H' ac ((fm.keys.take (if ix fm.names kk < j then i + 1 else i)).map fun k => row.getD (ix fm.names k) .none) ∧ σ' = [some (.ref a), some (.ref p), some (.ref L), some (.str kk), z2])
          ⟨ac, z2, e, hl, by rw [if_neg (Nat.not_lt_zero _)]; exact hac, rfl⟩ ?_ ?_
        · rintro j σ' H' hj ⟨ac, z2, e, hl, hac, rfl⟩
          have hcj : fm.cols[j]? = some fm.cols[j] := List.getElem?_eq_getElem (by omega)
          have hnj : fm.names[j]? = some fm.cols[j].name := by
            show (fm.cols.map (·.name))[j]? = _
            rw [List.getElem?_map, hcj]
            rfl
          obtain ⟨x, hx, htx⟩ := hcv.get (i := j) (d := fm.cols[j].d) (by rw [List.getElem?_map, hcj]; rfl)
          obtain ⟨pc, df, rfl, hpc, hdf⟩ := htx.col
          walk_at "rd"
          refine r_ixT (e _ _ ha) (atI_nat (j := 0) rfl) ?_
          walk_at "rd"
          refine r_ixT (e _ _ hc) (atI_nat hx) ?_
          walk_at "rd"
          refine r_ixT (e _ _ hpc) (atI_nat (j := 0) rfl) ?_
          walk_at "rd"
          by_cases hm : ix fm.names kk = j
          · have hnk : fm.cols[j].name = kk := by
              rw [hm] at hix
              exact Option.some.inj (hnj.symm.trans hix)
            refine r_yes (by rw [hnk]; simp) ?_
            walk_at "rd"
            refine r_tyL hl ?_
            have hrj : row[j]? = some row[j] := List.getElem?_eq_getElem hj
            obtain ⟨y, hy, hty⟩ := hrvs.get hrj
            walk_at "rd"
            refine r_ixT (e _ _ hp) (atI_nat hy) ?_
            walk_at "rd"
            rw [if_neg (by omega)] at hac
            have hal := hac.length
            rw [List.length_map, List.length_take] at hal
            refine r_app hl (by omega) fun H6 e6 => ?_
            subst e6
            have te : TEx H' (upd H' L (.lst (ac ++ [y]))) := TEx.upd hl fun xs z => by cases z
            walk_at "rd"
            refine ⟨ac ++ [y], _, same_mut e hL, upd_same, ?_, rfl⟩
            rw [if_pos (by omega), etk]
            refine (hac.mono te).append (TpAll.one ?_)
            rw [hm, getD_some hrj]
            exact (hty.mono (TEx.of e)).mono te
          · have hnk : fm.cols[j].name ≠ kk := fun z => hm (by rw [z] at hnj; exact ix_nodup hok.nd hnj)
            refine r_no (by simp [hnk]) ?_
            walk_at "rd"
            refine ⟨ac, _, e, hl, ?_, rfl⟩
            by_cases h2 : ix fm.names kk < j
            · rw [if_pos h2] at hac
              rw [if_pos (by omega)]
              exact hac
            · rw [if_neg h2] at hac
              rw [if_neg (by omega)]
              exact hac
        · rintro σ' H' ⟨ac, z2, e, hl, hac, rfl⟩
          rw [if_pos (by omega)] at hac
          walk_at "rd"
          exact ⟨ac, _, _, hil, e, hl, hac, rfl⟩
    · rintro σ' H' ⟨ac, z1, z2, hi, e, hl, hac, rfl⟩
      rw [List.length_map, List.take_length] at hac
      walk_at "rd"
      exact r_tupD hl hac fun l3 H3 e3 t3 => q _ H3 (e.trans e3) t3
end
end Vt
-- VtG6
set_option Elab.async false
set_option linter.all false
set_option maxRecDepth 100000
set_option maxHeartbeats 4000000
namespace Vt
open PySem PySem.Spec PyProof.Rows L2
local macro_rules | `(tactic| walk_at "rd") => `(tactic| (repeat (first
  | with_reducible refine r_sasg ?_ | with_reducible refine r_sfset ?_ | with_reducible refine r_sfaug ?_ | with_reducible refine r_sdput ?_ | with_reducible refine r_sdrop ?_ | with_reducible refine r_swhen ?_ | with_reducible refine r_sif ?_ | with_reducible refine r_asg ?_ | with_reducible refine r_drop ?_
  | with_reducible refine r_ret ?_ | with_reducible refine r_if ?_ | with_reducible refine r_next ?_
  | with_reducible refine r_c ?_ | with_reducible refine r_var (by with_unfolding_all exact rfl) ?_ | with_reducible refine r_op ?_ | with_reducible refine r_un ?_ | with_reducible refine r_I0 ?_ | ((with_reducible refine r_I ?_ ?_); · first | (show (0 : Int) < _; decide) | exact div_ok (by decide) (by decide)) | with_reducible refine r_U ?_
  | with_reducible refine r_eq (by with_unfolding_all exact rfl) ?_ | with_reducible refine r_ne (by with_unfolding_all exact rfl) ?_
  | with_reducible refine r_tstq ?_ | with_reducible refine r_tBq ?_ | with_reducible refine r_blq ?_ | with_reducible refine r_intq ?_ | with_reducible refine r_and ?_ | with_reducible refine r_or ?_ | with_reducible refine r_not ?_
  | with_reducible refine r_andV ?_ | with_reducible refine r_orV ?_ | with_reducible refine r_notV ?_
  | with_reducible refine r_nil ?_ | with_reducible refine r_cons ?_ | with_reducible refine r_call ?_ | with_reducible refine r_tup ?_ | with_reducible refine r_lst ?_ | with_reducible refine r_cb ?_ | with_reducible refine r_int1 ?_ | with_reducible refine r_ord ?_
  | with_reducible refine r_sl ?_ | with_reducible refine r_nop ?_ | with_reducible refine r_partq ?_ | with_reducible refine r_bm ?_ | with_reducible refine r_fld ?_
  | with_reducible refine r_lct ?_ | with_reducible refine r_lcl ?_ | with_reducible refine r_lcr ?_ | with_reducible refine r_sfort ?_ | with_reducible refine r_sforl ?_ | with_reducible refine r_sfors ?_ | with_reducible refine r_sforr ?_ | with_reducible refine r_sforz ?_
  | with_reducible refine r_fort ?_ | with_reducible refine r_forl ?_ | with_reducible refine r_forr ?_ | with_reducible refine r_sasgt ?_ | with_reducible refine r_asgt ?_ | with_reducible refine r_saug (by with_unfolding_all exact rfl) ?_ | with_reducible refine r_aug (by with_unfolding_all exact rfl) ?_ | with_reducible refine r_ip ?_ | with_reducible refine r_gname ?_ | with_reducible refine r_seq ?_
  | with_reducible refine r_dget ?_ | with_reducible refine r_din ?_ | with_reducible refine r_dnotin ?_ | with_reducible refine r_sdput ?_ | with_reducible refine r_dput ?_ | with_reducible refine r_mg ?_ | with_reducible refine r_rev ?_ | with_reducible refine r_dzip ?_
  | with_reducible refine r_lcz ?_ | with_reducible refine r_form ?_
  | with_reducible refine r_sfset ?_ | with_reducible refine r_fset ?_ | with_reducible refine r_sfaug ?_ | with_reducible refine r_meth ?_ | with_reducible refine r_make ?_
  | with_reducible refine r_srtl ?_ | with_reducible refine r_m1q ?_ | with_reducible refine r_strq ?_
  | with_reducible refine r_iteT ?_ | with_reducible refine r_iteF ?_)))
local macro_rules | `(tactic| walk_at "rs") => `(tactic| (repeat (first
  | with_reducible refine r_sasg ?_ | with_reducible refine r_sfset ?_ | with_reducible refine r_sfaug ?_ | with_reducible refine r_sdput ?_ | with_reducible refine r_sdrop ?_ | with_reducible refine r_asg ?_ | with_reducible refine r_drop ?_
  | with_reducible refine r_ret ?_ | with_reducible refine r_next ?_
  | with_reducible refine r_c ?_ | with_reducible refine r_var (by with_unfolding_all exact rfl) ?_ | with_reducible refine r_op ?_ | with_reducible refine r_un ?_ | with_reducible refine r_I0 ?_ | ((with_reducible refine r_I ?_ ?_); · first | (show (0 : Int) < _; decide) | exact div_ok (by decide) (by decide)) | with_reducible refine r_U ?_
  | with_reducible refine r_eq (by with_unfolding_all exact rfl) ?_ | with_reducible refine r_ne (by with_unfolding_all exact rfl) ?_
  | with_reducible refine r_tstq ?_ | with_reducible refine r_tBq ?_ | with_reducible refine r_blq ?_ | with_reducible refine r_intq ?_ | with_reducible refine r_and ?_ | with_reducible refine r_or ?_ | with_reducible refine r_not ?_
  | with_reducible refine r_andV ?_ | with_reducible refine r_orV ?_ | with_reducible refine r_notV ?_
  | with_reducible refine r_nil ?_ | with_reducible refine r_cons ?_ | with_reducible refine r_call ?_ | with_reducible refine r_tup ?_ | with_reducible refine r_lst ?_ | with_reducible refine r_cb ?_ | with_reducible refine r_int1 ?_ | with_reducible refine r_ord ?_
  | with_reducible refine r_sl ?_ | with_reducible refine r_nop ?_ | with_reducible refine r_partq ?_ | with_reducible refine r_bm ?_ | with_reducible refine r_fld ?_
  | with_reducible refine r_lct ?_ | with_reducible refine r_lcl ?_ | with_reducible refine r_lcr ?_ | with_reducible refine r_sfort ?_ | with_reducible refine r_sforl ?_ | with_reducible refine r_sfors ?_ | with_reducible refine r_sforr ?_ | with_reducible refine r_sforz ?_
  | with_reducible refine r_fort ?_ | with_reducible refine r_forl ?_ | with_reducible refine r_forr ?_ | with_reducible refine r_sasgt ?_ | with_reducible refine r_asgt ?_ | with_reducible refine r_saug (by with_unfolding_all exact rfl) ?_ | with_reducible refine r_aug (by with_unfolding_all exact rfl) ?_ | with_reducible refine r_ip ?_ | with_reducible refine r_gname ?_ | with_reducible refine r_seq ?_
  | with_reducible refine r_dget ?_ | with_reducible refine r_din ?_ | with_reducible refine r_dnotin ?_ | with_reducible refine r_sdput ?_ | with_reducible refine r_dput ?_ | with_reducible refine r_mg ?_ | with_reducible refine r_rev ?_ | with_reducible refine r_dzip ?_
  | with_reducible refine r_lcz ?_ | with_reducible refine r_form ?_
  | with_reducible refine r_sfset ?_ | with_reducible refine r_fset ?_ | with_reducible refine r_sfaug ?_ | with_reducible refine r_meth ?_ | with_reducible refine r_make ?_
  | with_reducible refine r_srtl ?_ | with_reducible refine r_m1q ?_ | with_reducible refine r_strq ?_
  | with_reducible refine r_iteT ?_ | with_reducible refine r_iteF ?_)))
local macro_rules | `(tactic| walk_at "tex") => `(tactic| (first
  | assumption | exact TEx.refl _ | exact TEx.of (by assumption) | ((refine TEx.trans ?_ (TEx.of (by assumption))); walk_at "tex") | ((refine TEx.trans ?_ (by assumption)); walk_at "tex")))
local macro_rules | `(tactic| walk_at "same") => `(tactic| (first
  | assumption | exact Same.refl _ | ((refine Same.trans ?_ (by assumption)); walk_at "same")))
local macro_rules | `(tactic| walk_at "tp") => `(tactic| (first
  | assumption | exact Tp.int _ | exact Tp.str _ | exact Tp.non | exact TpAll.nil | ((refine TpAll.cons ?_ ?_) <;> walk_at "tp") | ((refine Tp.mono ?_ (by assumption)); walk_at "tex") | ((refine TpAll.mono ?_ (by assumption)); walk_at "tex")))
local macro_rules | `(tactic| walk_at "hp") => `(tactic| (first
  | assumption | ((refine (TEx.trans ?_ (TEx.refl _)) _ _ (by assumption)); walk_at "tex")))
/-! ### a dict of rows by their keys -/
def RwD (fm : Fm) (H : Hp) (r : List PyData) (kv : List Key × V) : Prop := keyL fm r = kv.1.map kD ∧ Tp H kv.2 (.tuple r) ∧ Fit fm r
structure RowsD (fm : Fm) (H : Hp) (kvs : List (List Key × V)) : Prop where
  nd : (kvs.map (·.1)).Nodup
  all : ∀ kv ∈ kvs, ∃ r, RwD fm H r kv
theorem RwD.mono {fm : Fm} {H H' : Hp} {r : List PyData} {kv : List Key × V} (h : RwD fm H r kv) (e : TEx H H') : RwD fm H' r kv := ⟨h.1, h.2.1.mono e, h.2.2⟩
theorem RowsD.mono {fm : Fm} {H H' : Hp} {kvs : List (List Key × V)} (h : RowsD fm H kvs) (e : TEx H H') : RowsD fm H' kvs := ⟨h.nd, fun kv hk => let ⟨r, z⟩ := h.all kv hk; ⟨r, z.mono e⟩⟩
theorem putK_mem {κ : Type} [DecidableEq κ] {kvs : List (κ × V)} {k : κ} {v : V} {p : κ × V} (h : p ∈ putK kvs k v) : p ∈ kvs ∨ p = (k, v) := by
  unfold putK at h
  split at h
  · obtain ⟨q, hq, e⟩ := List.mem_map.mp h
    by_cases z : q.1 = k
    · rw [if_pos z, z] at e
      exact .inr e.symm
    · rw [if_neg z] at e
      exact .inl (e ▸ hq)
  · rcases List.mem_append.mp h with h | h
    · exact .inl h
    · exact .inr (List.mem_singleton.mp h)
theorem putK_keys {κ : Type} [DecidableEq κ] (kvs : List (κ × V)) (k : κ) (v : V) : (putK kvs k v).map (·.1) = if k ∈ kvs.map (·.1) then kvs.map (·.1) else kvs.map (·.1) ++ [k] := by
  have any : (kvs.any fun kv => decide (kv.1 = k)) = decide (k ∈ kvs.map (·.1)) := by
    rw [Bool.eq_iff_iff, List.any_eq_true, decide_eq_true_iff, List.mem_map]
    exact ⟨fun ⟨x, a, b⟩ => ⟨x, a, of_decide_eq_true b⟩, fun ⟨x, a, b⟩ => ⟨x, a, decide_eq_true b⟩⟩
  unfold putK
  rw [any]
  by_cases h : k ∈ kvs.map (·.1)
  · rw [if_pos (decide_eq_true h), if_pos h, List.map_map]
    refine List.map_congr_left fun q _ => ?_
    show (if q.1 = k then (q.1, v) else q).1 = q.1
    split <;> rfl
  · rw [if_neg (fun z => h (of_decide_eq_true z)), if_neg h, List.map_append]
    rfl
theorem RowsD.put {fm : Fm} {H : Hp} {kvs : List (List Key × V)} (h : RowsD fm H kvs) {k : List Key} {v : V} {r : List PyData} (hr : RwD fm H r (k, v)) : RowsD fm H (putK kvs k v) ∧ (putK kvs k v).length ≤ kvs.length + 1 := by
  have ek := putK_keys kvs k v
  refine ⟨⟨?_, fun kv hkv => ?_⟩, ?_⟩
  · rw [ek]
    by_cases z : k ∈ kvs.map (·.1)
    · rw [if_pos z]; exact h.nd
    · rw [if_neg z]
      exact nd_snoc h.nd z
  · rcases putK_mem hkv with z | z
    · exact h.all kv z
    · rw [z]; exact ⟨r, hr⟩
  · have := congrArg List.length ek
    rw [List.length_map] at this
    rw [this]
    split
    · rw [List.length_map]; omega
    · rw [List.length_append, List.length_map]; exact Nat.le_refl _
theorem pd_choose {α β : Type} {R : α → β → Prop} : ∀ {m : List β}, (∀ b ∈ m, ∃ a, R a b) → ∃ l, Paired R l m
  | [], _ => ⟨[], .nil⟩
  | b :: m, h => by
    obtain ⟨a, ha⟩ := h b (List.mem_cons_self ..)
    obtain ⟨l, hl⟩ := pd_choose (m := m) fun c hc => h c (List.mem_cons_of_mem _ hc)
    exact ⟨a :: l, .cons ha hl⟩
theorem kk_tp {H : Hp} : ∀ kk : List Key, TpAll H (kk.map kV) (kk.map kD)
  | [] => .nil
  | .inl i :: r => .cons (.int i) (kk_tp r)
  | .inr x :: r => .cons (.str x) (kk_tp r)
theorem rw_keys {fm : Fm} {H H3 : Hp} (e3 : Same H H3) : ∀ {rs : List (List PyData)} {kvs : List (List Key × V)} {bs : List Addr}, Paired (RwD fm H) rs kvs → IsKeys H kvs bs → TpAll H3 (bs.map V.ref) (rs.map (keyT fm))
  | [], _, _, .nil, .nil => .nil
  | _ :: _, _, _, .cons a1 t1, .cons a2 t2 => by
    refine .cons ?_ (rw_keys e3 t1 t2)
    unfold keyT
    rw [a1.1]
    exact .tup (e3 _ _ a2) (kk_tp _)
theorem rw_nd {fm : Fm} {H : Hp} {rs : List (List PyData)} {kvs : List (List Key × V)} (h : Paired (RwD fm H) rs kvs) (nd : (kvs.map (·.1)).Nodup) : (rs.map (keyT fm)).Nodup := by
  have : ∀ {rs : List (List PyData)} {kvs : List (List Key × V)}, Paired (RwD fm H) rs kvs → (kvs.map (·.1)).map (fun kk => PyData.tuple (kk.map kD)) = rs.map (keyT fm) := by
    intro rs
    induction rs with
    | nil => intro kvs h1; cases h1; rfl
    | cons r rs ih =>
      intro kvs h1
      cases h1 with
      | cons a1 t1 =>
        rw [List.map_cons, List.map_cons, List.map_cons, ih t1]
        unfold keyT
        rw [a1.1]
  rw [← this h]
  unfold List.Nodup at nd ⊢
  rw [List.pairwise_map]
  exact nd.imp fun {a b} n e => n (kDs_inj (PyData.tuple.inj e))
/-- the rows in the order of their keys -/
def sortR (fm : Fm) (rs : List (List PyData)) : List (List PyData) := rs.mergeSort (PySem.W.dataLe false (keyT fm))
theorem sortR_perm (fm : Fm) (rs : List (List PyData)) : (sortR fm rs).Perm rs := List.mergeSort_perm _ _
theorem sortR_srt {fm : Fm} (ok : fm.Ok) {rs : List (List PyData)} (hf : ∀ r ∈ rs, Fit fm r) (nd : (rs.map (keyT fm)).Nodup) : SrtS ((sortR fm rs).map (keyT fm)) :=
  keys_rise ok (fun r hr => hf r ((sortR_perm fm rs).subset hr)) (((sortR_perm fm rs).map (keyT fm)).nodup_iff.mpr nd) (sorted_pw _ _)
section
variable {P : Program} {w : World} {K : PySem.W.Frag} {mg : Str → Option Value} {base : Heap}
/-! ### _law_table_rows -/
abbrev n_law_table_rows : List Str := ["_law_form_here", "_law_cells", "_law_rows", "_law_cell_here", "_law_row_here", "_law_key"]
theorem sc_law_table_rows : FnScope n_law_table_rows ["_law_form_here", "_law_cells"] (defScope s_law_table_rows) := ⟨rfl, rfl, rfl, by decide +kernel, rfl, by decide +kernel, by decide +kernel⟩
theorem bd_law_table_rows : BindH "_law_table_rows" s_law_table_rows ["_law_form_here", "_law_cells"] := fun _ _ _ _ _ _ us hl => match us, hl with | [_, _], _ => rfl
def spTabRows : Sp := fun vs H Q _ => ∃ (fv : V) (a : Addr) (cs : List Int) (fm : Fm), vs = [fv, .ref a] ∧ Tp H fv fm.d ∧ fm.Ok ∧ H a = some (.lst (cs.map V.int)) ∧ (∀ c ∈ cs, Bg c) ∧ cs.length ≤ 64 ∧
  ∀ (l : Addr) (rv : List V) (rs : List (List PyData)) (H' : Hp), Same H H' → H l = none → H' l = some (.lst rv) → TpAll H' rv (rs.map PyData.tuple) → (∀ r ∈ rs, Fit fm r) → SrtS (rs.map (keyT fm)) → rs.length ≤ cs.length → Q (.ref l) H'
theorem cal_law_table_rows (T : Tx K mg) : Cal P w K mg base 5 "_law_table_rows" ["_law_form_here", "_law_cells"] spTabRows := by
  have c_law_row := cal_law_row (P := P) (w := w) (base := base) T
  have c_law_key_of := cal_law_key_of (P := P) (w := w) (base := base) T
  refine cal_of T.at_law_table_rows sc_law_table_rows bd_law_table_rows (fun vs H Q E h => ?_) fun f cdv A outer s H0 E hr => ⟨_, (pss_cons (ps_set (i := 2) sc_law_table_rows.nd rfl (Or.inr rfl) pe_dnewT)
      (pss_cons (ps_for PassesOwn.never rfl (pi_list (pv 1)) (pg_name (i := 3) sc_law_table_rows.nd rfl (Or.inl rfl))
      (pss_cons (ps_set (i := 4) sc_law_table_rows.nd rfl (Or.inl rfl) (pe_cal c_law_row (hr.mono (by omega)) (by rfl) (pa_cons (pv 0) (pa_cons (pv 3) pa_nil))))
        (pss_one (ps_dput (hu_of hr) (pv 2) (pe_cal c_law_key_of (hr.mono (by omega)) (by rfl) (pa_cons (pv 0) (pa_cons (pv 4) pa_nil))) (pv 4) rfl))))
      (pss_one (ps_ret (pe_lc (own := [("_law_key", 5)]) rfl sc_law_table_rows.nd (pi_list (pe_callB (cr_srt hr.units) (by rfl) T.m_sorted (by decide +kernel) (pa_cons (pe_callTy (cr_ldT rfl) (by rfl) T.m_list (by decide +kernel) (pa_cons (pv 2) pa_nil)) pa_nil))) (blkOk_by (own := [("_law_key", 5)]) (N := n_law_table_rows) (sc := defScope s_law_table_rows) (by decide +kernel)) (fun _ _ _ _ _ => (pg_name (i := 5) sc_law_table_rows.nd rfl (Or.inl rfl))) (fun _ _ _ _ _ => pts_nil) (fun _ _ _ _ _ => (pe_dget (hu_of hr) (pv 2) (pv 5) (fun _ _ => rfl)))))))), fun vs H Q h => ?_⟩
  · obtain ⟨fv, a, cs, fm, rfl, _⟩ := h
    rfl
  · obtain ⟨fv, a, cs, fm, rfl, hfv, hok, ha, hbg, hcl, q⟩ := h
    walk_at "rd"
    refine r_dnewT fun D H1 hD e1 hD1 => ?_
    walk_at "rd"
    refine r_forL (xs := cs.map V.int) (fun i σ' H' => ∃ (kvs : List (List Key × V)) (z1 z2 z3 : Option V), i ≤ cs.length ∧ Same H H' ∧ H' D = some (.dT kvs) ∧ RowsD fm H' kvs ∧ kvs.length ≤ i ∧ σ' = [some fv, some (.ref a), some (.ref D), z1, z2, z3])
      ⟨[], none, none, none, Nat.zero_le _, e1, hD1, ⟨List.nodup_nil, fun _ h => (by cases h)⟩, Nat.le_refl _, rfl⟩ (fun i σ' H' ⟨_, _, _, _, _, e, _⟩ => SqL.of (e _ _ ha)) ?_ ?_
    · rintro i x σ' H' hx ⟨kvs, z1, z2, z3, hi, e, hDk, hR, hkl, rfl⟩
      rw [List.getElem?_map] at hx
      cases hci : cs[i]? with
      | none => rw [hci] at hx; cases hx
      | some c =>
        rw [hci] at hx
        cases hx
        have hil := (List.getElem?_eq_some_iff.mp hci).1
        walk_at "rd"
        refine ⟨fv, c, fm, rfl, hfv.mono (TEx.of e), hok, hbg c (List.mem_iff_getElem?.mpr ⟨i, hci⟩), fun v row H2 e2 hv hfit => ?_⟩
        walk_at "rd"
        refine ⟨fv, v, fm, row, rfl, hfv.mono (TEx.of (e.trans e2)), hok, hv, hfit, fun kv H3 e3 hkv => ?_⟩
        have hkk := key_kk hok hfit
        obtain ⟨ka, kx, rfl, hka, hkt⟩ := hkv.inv
        rw [hkk] at hkt
        rw [tp_kk hkt] at hka
        walk_at "rd"
        refine r_dputT (e3 _ _ (e2 _ _ hDk)) hka (by omega) fun H4 e4 => ?_
        subst e4
        have tD : TEx H3 (upd H3 D (.dT (putK kvs ((keyL fm row).map kOf) v))) := TEx.upd (e3 _ _ (e2 _ _ hDk)) fun xs z => by cases z
        obtain ⟨p1, p2⟩ := (hR.mono ((TEx.of (e2.trans e3)).trans tD)).put (k := (keyL fm row).map kOf) (v := v) (r := row) ⟨hkk, (hv.mono (TEx.of e3)).mono tD, hfit⟩
        exact ⟨_, _, _, _, hil, same_mut (e.trans (e2.trans e3)) hD, upd_same, p1, by omega, rfl⟩
    · rintro σ' H' ⟨kvs, z1, z2, z3, hi, e, hDk, hR, hkl, rfl⟩
      rw [List.length_map] at hkl
      obtain ⟨rs, hpd⟩ := pd_choose hR.all
      have hrl := pd_len hpd
      have ndR := rw_nd hpd hR.nd
      have hfit : ∀ r ∈ rs, Fit fm r := fun r hr' => by
        obtain ⟨i, hi⟩ := List.mem_iff_getElem?.mp hr'
        obtain ⟨kv, _, h⟩ := pd_get' hpd hi
        exact h.2.2
      have hpm := sortR_perm fm rs
      have hss := sortR_srt hok hfit ndR
      have hsl : (sortR fm rs).length = rs.length := hpm.length_eq
      walk_at "rd"
      refine r_list_dT hDk fun l2 bs H3 hl2 e3 hks hbs => ?_
      walk_at "rd"
      refine r_srt hbs (rw_keys e3 hpd hks) (keys_alike hok hfit) (keys_sort hok rs) (fun d hd => ?_) fun l4 zs es H4 hl4 e4 pm sr hl4' hzs => ?_
      · obtain ⟨r, hr', rfl⟩ := List.mem_map.mp hd
        exact Nat.le_trans (keys_depth hok (hfit r hr')) (by decide)
      have ees : es = (sortR fm rs).map (keyT fm) := sort_eq (pm.trans (hpm.map (keyT fm)).symm) sr hss
      subst ees
      have hzl := hzs.length
      rw [List.length_map] at hzl
      have hD4 := e4 _ _ (e3 _ _ hDk)
      refine r_lcL hl4' (by omega) (fun _ => true) (fun i y H => Tp H y (.tuple ((sortR fm rs).getD i []))) (fun k y H H' e h => h.mono e) (fun i x hx => lc_one rfl fun H5 Qs e5 qs => ?_) fun L6 ys H6 hL6 e6 hl6 hp6 => ?_
      · obtain ⟨d, hd, htp⟩ := hzs.get' hx
        rw [List.getElem?_map] at hd
        cases hsi : (sortR fm rs)[i]? with
        | none => rw [hsi] at hd; cases hd
        | some r =>
          rw [hsi] at hd
          cases hd
          have hrm : r ∈ rs := hpm.subset (List.mem_iff_getElem?.mpr ⟨i, hsi⟩)
          obtain ⟨j, hj⟩ := List.mem_iff_getElem?.mp hrm
          obtain ⟨kv, hkv, hk1, hk2, _⟩ := pd_get' hpd hj
          obtain ⟨xa, xv, rfl, hxa, hxt⟩ := htp.inv
          rw [hk1] at hxt
          rw [tp_kk hxt] at hxa
          have hval : valV kvs kv.1 = some kv.2 := valV_mem hR.nd (List.mem_iff_getElem?.mpr ⟨j, hkv⟩)
          walk_at "rd"
          refine r_dgetT (e5 _ _ hD4) (e5 _ _ hxa) hval ?_
          refine qs _ H5 (Same.refl _) ?_
          rw [getD_some hsi]
          exact hk2.mono (TEx.of (e3.trans (e4.trans e5)))
      · rw [filter_all] at hp6
        have hp7 := pd_tp hp6
        have er := congrArg (List.map PyData.tuple) (range_map (sortR fm rs) [])
        rw [List.map_map] at er
        have er : (List.range (sortR fm rs).length).map (fun i => PyData.tuple ((sortR fm rs).getD i [])) = (sortR fm rs).map PyData.tuple := er
        rw [hzl, er] at hp7
        have es6 := e.trans (e3.trans (e4.trans e6))
        have hHL : H L6 = none := by
          cases z : H L6 with
          | none => rfl
          | some o => rw [e4 _ _ (e3 _ _ (e _ _ z))] at hL6; cases hL6
        exact q L6 ys _ H6 es6 hHL hl6 hp7 (fun r hr' => hfit r (hpm.subset hr')) hss (by omega)
end
end Vt
-- VtG7
set_option Elab.async false
set_option linter.all false
set_option maxRecDepth 100000
set_option maxHeartbeats 4000000
namespace Vt
open PySem PySem.Spec PyProof.Rows L2
local macro_rules | `(tactic| walk_at "rd") => `(tactic| (repeat (first
  | with_reducible refine r_sasg ?_ | with_reducible refine r_sfset ?_ | with_reducible refine r_sfaug ?_ | with_reducible refine r_sdput ?_ | with_reducible refine r_sdrop ?_ | with_reducible refine r_swhen ?_ | with_reducible refine r_sif ?_ | with_reducible refine r_asg ?_ | with_reducible refine r_drop ?_
  | with_reducible refine r_ret ?_ | with_reducible refine r_if ?_ | with_reducible refine r_next ?_
  | with_reducible refine r_c ?_ | with_reducible refine r_var (by with_unfolding_all exact rfl) ?_ | with_reducible refine r_op ?_ | with_reducible refine r_un ?_ | with_reducible refine r_I0 ?_ | ((with_reducible refine r_I ?_ ?_); · first | (show (0 : Int) < _; decide) | exact div_ok (by decide) (by decide)) | with_reducible refine r_U ?_
  | with_reducible refine r_eq (by with_unfolding_all exact rfl) ?_ | with_reducible refine r_ne (by with_unfolding_all exact rfl) ?_
  | with_reducible refine r_tstq ?_ | with_reducible refine r_tBq ?_ | with_reducible refine r_blq ?_ | with_reducible refine r_intq ?_ | with_reducible refine r_and ?_ | with_reducible refine r_or ?_ | with_reducible refine r_not ?_
  | with_reducible refine r_andV ?_ | with_reducible refine r_orV ?_ | with_reducible refine r_notV ?_
  | with_reducible refine r_nil ?_ | with_reducible refine r_cons ?_ | with_reducible refine r_call ?_ | with_reducible refine r_tup ?_ | with_reducible refine r_lst ?_ | with_reducible refine r_cb ?_ | with_reducible refine r_int1 ?_ | with_reducible refine r_ord ?_
  | with_reducible refine r_sl ?_ | with_reducible refine r_nop ?_ | with_reducible refine r_partq ?_ | with_reducible refine r_bm ?_ | with_reducible refine r_fld ?_
  | with_reducible refine r_lct ?_ | with_reducible refine r_lcl ?_ | with_reducible refine r_lcr ?_ | with_reducible refine r_sfort ?_ | with_reducible refine r_sforl ?_ | with_reducible refine r_sfors ?_ | with_reducible refine r_sforr ?_ | with_reducible refine r_sforz ?_
  | with_reducible refine r_fort ?_ | with_reducible refine r_forl ?_ | with_reducible refine r_forr ?_ | with_reducible refine r_sasgt ?_ | with_reducible refine r_asgt ?_ | with_reducible refine r_saug (by with_unfolding_all exact rfl) ?_ | with_reducible refine r_aug (by with_unfolding_all exact rfl) ?_ | with_reducible refine r_ip ?_ | with_reducible refine r_gname ?_ | with_reducible refine r_seq ?_
  | with_reducible refine r_dget ?_ | with_reducible refine r_din ?_ | with_reducible refine r_dnotin ?_ | with_reducible refine r_sdput ?_ | with_reducible refine r_dput ?_ | with_reducible refine r_mg ?_ | with_reducible refine r_rev ?_ | with_reducible refine r_dzip ?_
  | with_reducible refine r_lcz ?_ | with_reducible refine r_form ?_
  | with_reducible refine r_sfset ?_ | with_reducible refine r_fset ?_ | with_reducible refine r_sfaug ?_ | with_reducible refine r_meth ?_ | with_reducible refine r_make ?_
  | with_reducible refine r_srtl ?_ | with_reducible refine r_m1q ?_ | with_reducible refine r_strq ?_
  | with_reducible refine r_iteT ?_ | with_reducible refine r_iteF ?_)))
local macro_rules | `(tactic| walk_at "rs") => `(tactic| (repeat (first
  | with_reducible refine r_sasg ?_ | with_reducible refine r_sfset ?_ | with_reducible refine r_sfaug ?_ | with_reducible refine r_sdput ?_ | with_reducible refine r_sdrop ?_ | with_reducible refine r_asg ?_ | with_reducible refine r_drop ?_
  | with_reducible refine r_ret ?_ | with_reducible refine r_next ?_
  | with_reducible refine r_c ?_ | with_reducible refine r_var (by with_unfolding_all exact rfl) ?_ | with_reducible refine r_op ?_ | with_reducible refine r_un ?_ | with_reducible refine r_I0 ?_ | ((with_reducible refine r_I ?_ ?_); · first | (show (0 : Int) < _; decide) | exact div_ok (by decide) (by decide)) | with_reducible refine r_U ?_
  | with_reducible refine r_eq (by with_unfolding_all exact rfl) ?_ | with_reducible refine r_ne (by with_unfolding_all exact rfl) ?_
  | with_reducible refine r_tstq ?_ | with_reducible refine r_tBq ?_ | with_reducible refine r_blq ?_ | with_reducible refine r_intq ?_ | with_reducible refine r_and ?_ | with_reducible refine r_or ?_ | with_reducible refine r_not ?_
  | with_reducible refine r_andV ?_ | with_reducible refine r_orV ?_ | with_reducible refine r_notV ?_
  | with_reducible refine r_nil ?_ | with_reducible refine r_cons ?_ | with_reducible refine r_call ?_ | with_reducible refine r_tup ?_ | with_reducible refine r_lst ?_ | with_reducible refine r_cb ?_ | with_reducible refine r_int1 ?_ | with_reducible refine r_ord ?_
  | with_reducible refine r_sl ?_ | with_reducible refine r_nop ?_ | with_reducible refine r_partq ?_ | with_reducible refine r_bm ?_ | with_reducible refine r_fld ?_
  | with_reducible refine r_lct ?_ | with_reducible refine r_lcl ?_ | with_reducible refine r_lcr ?_ | with_reducible refine r_sfort ?_ | with_reducible refine r_sforl ?_ | with_reducible refine r_sfors ?_ | with_reducible refine r_sforr ?_ | with_reducible refine r_sforz ?_
  | with_reducible refine r_fort ?_ | with_reducible refine r_forl ?_ | with_reducible refine r_forr ?_ | with_reducible refine r_sasgt ?_ | with_reducible refine r_asgt ?_ | with_reducible refine r_saug (by with_unfolding_all exact rfl) ?_ | with_reducible refine r_aug (by with_unfolding_all exact rfl) ?_ | with_reducible refine r_ip ?_ | with_reducible refine r_gname ?_ | with_reducible refine r_seq ?_
  | with_reducible refine r_dget ?_ | with_reducible refine r_din ?_ | with_reducible refine r_dnotin ?_ | with_reducible refine r_sdput ?_ | with_reducible refine r_dput ?_ | with_reducible refine r_mg ?_ | with_reducible refine r_rev ?_ | with_reducible refine r_dzip ?_
  | with_reducible refine r_lcz ?_ | with_reducible refine r_form ?_
  | with_reducible refine r_sfset ?_ | with_reducible refine r_fset ?_ | with_reducible refine r_sfaug ?_ | with_reducible refine r_meth ?_ | with_reducible refine r_make ?_
  | with_reducible refine r_srtl ?_ | with_reducible refine r_m1q ?_ | with_reducible refine r_strq ?_
  | with_reducible refine r_iteT ?_ | with_reducible refine r_iteF ?_)))
local macro_rules | `(tactic| walk_at "tex") => `(tactic| (first
  | assumption | exact TEx.refl _ | exact TEx.of (by assumption) | ((refine TEx.trans ?_ (TEx.of (by assumption))); walk_at "tex") | ((refine TEx.trans ?_ (by assumption)); walk_at "tex")))
local macro_rules | `(tactic| walk_at "same") => `(tactic| (first
  | assumption | exact Same.refl _ | ((refine Same.trans ?_ (by assumption)); walk_at "same")))
local macro_rules | `(tactic| walk_at "tp") => `(tactic| (first
  | assumption | exact Tp.int _ | exact Tp.str _ | exact Tp.non | exact TpAll.nil | ((refine TpAll.cons ?_ ?_) <;> walk_at "tp") | ((refine Tp.mono ?_ (by assumption)); walk_at "tex") | ((refine TpAll.mono ?_ (by assumption)); walk_at "tex")))
local macro_rules | `(tactic| walk_at "hp") => `(tactic| (first
  | assumption | ((refine (TEx.trans ?_ (TEx.refl _)) _ _ (by assumption)); walk_at "tex")))
structure Col.Ok (c : Col) : Prop where
  nm : NmOk c.name
  kd : Kd c.kind
  df : Sc c.df
  ac : acc c.kind c.df = true
  un : c.un = 0 ∨ c.un = 1
  lk : c.link.length ≤ 12
/-- a list of drawn numbers -/
def PartV (H : Hp) (v : V) (l : Addr) (ns : List Int) : Prop := v = .ref l ∧ H l = some (.lst (ns.map V.int)) ∧ ns.length = 5 ∧ ∀ z ∈ ns, Num z
theorem PartV.at {H : Hp} {v : V} {l : Addr} {ns : List Int} (h : PartV H v l ns) (j : Nat) (hj : j < 5) : ∃ z : Int, (ns.map V.int)[j]? = some (V.int z) ∧ Num z := by
  obtain ⟨_, _, hn, hz⟩ := h
  have : ns[j]? = some ns[j] := List.getElem?_eq_getElem (by omega)
  exact ⟨ns[j], by rw [List.getElem?_map, this]; rfl, hz _ (List.getElem_mem _)⟩
theorem pick4k {x : Int} (h : 0 ≤ x ∧ x < 4) : ∃ k, atI [V.str "int", V.str "int?", V.str "text", V.str "text?"] x = some (V.str k) ∧ Kd k := by
  have : x = 0 ∨ x = 1 ∨ x = 2 ∨ x = 3 := by omega
  rcases this with e | e | e | e <;> subst e
  · exact ⟨_, rfl, .inl rfl⟩
  · exact ⟨_, rfl, .inr (.inl rfl)⟩
  · exact ⟨_, rfl, .inr (.inr (.inl rfl))⟩
  · exact ⟨_, rfl, .inr (.inr (.inr rfl))⟩
theorem ints_of {ys : List V} (h : ∀ y ∈ ys, ∃ z : Int, y = .int z ∧ Num z) : ∃ cs : List Int, ys = cs.map V.int ∧ ∀ c ∈ cs, Num c := by
  induction ys with
  | nil => exact ⟨[], rfl, fun _ h => by cases h⟩
  | cons y r ih =>
    obtain ⟨z, e, hz⟩ := h y (List.mem_cons_self ..)
    obtain ⟨cs, e2, h2⟩ := ih fun y hy => h y (List.mem_cons_of_mem _ hy)
    refine ⟨z :: cs, by rw [e, e2]; rfl, fun c hc => ?_⟩
    rcases List.mem_cons.mp hc with e | hc
    · rw [e]; exact hz
    · exact h2 c hc
section
variable {P : Program} {w : World} {K : PySem.W.Frag} {mg : Str → Option Value} {base : Heap}
/-! ### _law_columns -/
abbrev n_law_columns : List Str := ["_law_cells", "_law_cell_here", "_law_parts", "_law_part", "_law_names_here", "_law_columns_here", "_law_k", "_law_kind", "_law_link"]
theorem sc_law_columns : FnScope n_law_columns ["_law_cells"] (defScope s_law_columns) := ⟨rfl, rfl, rfl, by decide +kernel, rfl, by decide +kernel, by decide +kernel⟩
theorem bd_law_columns : BindH "_law_columns" s_law_columns ["_law_cells"] := fun _ _ _ _ _ _ us hl => match us, hl with | [_], _ => rfl
def spCols : Sp := fun vs H Q _ => ∃ (a : Addr) (cs : List Int), vs = [.ref a] ∧ H a = some (.lst (cs.map V.int)) ∧ (∀ c ∈ cs, Bg c) ∧ cs.length ≤ 12 ∧
  ∀ (l : Addr) (cv : List V) (cols : List Col) (H' : Hp), Same H H' → H l = none → H' l = some (.lst cv) → TpAll H' cv (cols.map Col.d) → cols.length = cs.length → (cols.map (·.name)).Nodup → (∀ c ∈ cols, c.Ok) → Q (.ref l) H'
theorem cal_law_columns (T : Tx K mg) : Cal P w K mg base 4 "_law_columns" ["_law_cells"] spCols := by
  have c_law_draws := cal_law_draws (P := P) (w := w) (base := base) T
  have c_law_names := cal_law_names (P := P) (w := w) (base := base) T
  have c_law_name := cal_law_name (P := P) (w := w) (base := base) T
  have c_law_value := cal_law_value (P := P) (w := w) (base := base) T
  refine cal_of T.at_law_columns sc_law_columns bd_law_columns (fun vs H Q E h => ?_) fun f cdv A outer s H0 E hr => ⟨_, (pss_cons (ps_setLc (i := 2) (own := [("_law_cell_here", 1)]) rfl sc_law_columns.nd rfl rfl (sw_true rfl rfl rfl (by decide +kernel)) (pi_list (pv 0)) (blkOk_by (own := [("_law_cell_here", 1)]) (N := n_law_columns) (sc := defScope s_law_columns) (by decide +kernel)) (fun _ _ _ _ _ => (pg_name (i := 1) sc_law_columns.nd rfl (Or.inl rfl))) (fun _ _ _ _ _ => pts_nil) (fun _ _ _ _ _ => (pe_cal c_law_draws (hr.mono (by omega)) (by rfl) (pa_cons (pv 1) (pa_cons pe_int (pa_cons pe_int (pa_cons (pe_ten (n := 10000000000000000000000000000000000000000000000000000000000000000) (by decide) ⟨by decide, by decide, by decide⟩ (pe_op op_pow pe_int pe_int)) pa_nil)))))))
      (pss_cons (ps_set (i := 4) sc_law_columns.nd rfl (Or.inl rfl) (pe_cal c_law_names (hr.mono (by omega)) (by rfl) (pa_cons (pe_lc (own := [("_law_part", 3)]) rfl sc_law_columns.nd (pi_list (pv 2)) (blkOk_by (own := [("_law_part", 3)]) (N := n_law_columns) (sc := defScope s_law_columns) (by decide +kernel)) (fun _ _ _ _ _ => (pg_name (i := 3) sc_law_columns.nd rfl (Or.inl rfl))) (fun _ _ _ _ _ => pts_nil) (fun _ _ _ _ _ => (pe_ix (ix_listK (K := K) rfl) (pv 3) pe_int (fun _ _ => rfl)))) pa_nil)))
      (pss_cons (ps_set (i := 5) sc_law_columns.nd rfl (Or.inl rfl) (pe_lst pa_nil))
      (pss_cons (ps_for PassesOwn.never rfl (pi_range1 (by rfl) T.m_range (pa_cons (pe_callB (cr_lnK (K := K) rfl) (by rfl) T.m_len PySem.boot_len (pa_cons (pv 2) pa_nil)) pa_nil)) (pg_name (i := 6) sc_law_columns.nd rfl (Or.inl rfl))
      (pss_cons (ps_set (i := 7) sc_law_columns.nd rfl (Or.inl rfl) (pe_ix (ix_listK (K := K) rfl) (pe_lst (pa_cons pe_str (pa_cons pe_str (pa_cons pe_str (pa_cons pe_str pa_nil))))) (pe_op op_mod (pe_callTy cr_int1 (by rfl) T.m_int (by decide +kernel) (pa_cons (pe_ix (ix_listK (K := K) rfl) (pe_ix (ix_listK (K := K) rfl) (pv 2) (pv 6) (fun _ _ => rfl)) pe_int (fun _ _ => rfl)) pa_nil)) pe_int) (fun _ _ => rfl)))
        (pss_cons (ps_set (i := 8) sc_law_columns.nd rfl (Or.inl rfl) pe_str)
        (pss_cons (ps_if (pt_cmpR op_eq (pe_op op_mod (pe_callTy cr_int1 (by rfl) T.m_int (by decide +kernel) (pa_cons (pe_ix (ix_listK (K := K) rfl) (pe_ix (ix_listK (K := K) rfl) (pv 2) (pv 6) (fun _ _ => rfl)) pe_int (fun _ _ => rfl)) pa_nil)) pe_int) pe_int (nomark _))
        (pss_one (ps_set (i := 8) sc_law_columns.nd rfl (Or.inl rfl) (pe_cal c_law_name (hr.mono (by omega)) (by rfl) (pa_cons (pe_op op_fdivW (pe_ix (ix_listK (K := K) rfl) (pe_ix (ix_listK (K := K) rfl) (pv 2) (pv 6) (fun _ _ => rfl)) pe_int (fun _ _ => rfl)) pe_int) pa_nil))))
        pss_nil)
        (pss_one (ps_expr (pe_bm PySem.F.plainAttrs_list PySem.F.slot_list_append PySem.F.type_list_append mt_append (pv 5) (pa_cons (pe_tup (pa_cons (pe_ix (ix_listK (K := K) rfl) (pv 4) (pv 6) (fun _ _ => rfl)) (pa_cons (pv 7) (pa_cons (pe_cal c_law_value (hr.mono (by omega)) (by rfl) (pa_cons (pv 7) (pa_cons (pe_ix (ix_listK (K := K) rfl) (pe_ix (ix_listK (K := K) rfl) (pv 2) (pv 6) (fun _ _ => rfl)) pe_int (fun _ _ => rfl)) pa_nil))) (pa_cons (pe_op op_mod (pe_callTy cr_int1 (by rfl) T.m_int (by decide +kernel) (pa_cons (pe_ix (ix_listK (K := K) rfl) (pe_ix (ix_listK (K := K) rfl) (pv 2) (pv 6) (fun _ _ => rfl)) pe_int (fun _ _ => rfl)) pa_nil)) pe_int) (pa_cons (pv 8) pa_nil)))))) pa_nil))))))))
      (pss_one (ps_ret (pv 5))))))), fun vs H Q h => ?_⟩
  · obtain ⟨a, cs, rfl, _⟩ := h
    rfl
  · obtain ⟨a, cs, rfl, ha, hbg, hcl, q⟩ := h
    walk_at "rd"
    refine r_lcLg (fun L i acc Hc => Same H Hc ∧ Hc L = some (.lst acc) ∧ acc.length = i ∧ ∀ y ∈ acc, ∃ l ns, l ≠ L ∧ PartV Hc y l ns) ha (by rw [List.length_map]; omega) (fun L H' hL e hl' => ⟨e, hl', rfl, fun _ h => (by cases h)⟩) (fun L i acc Hc hL p => p.1 _ _ ha) (fun L i x ac Hc hL hx ⟨e, hLc, hal, hall⟩ _ => ?_) fun L ac H1 hL ⟨e1, hl1, hal, hall⟩ _ => ?_
    · rw [List.getElem?_map] at hx
      cases hci : cs[i]? with
      | none => rw [hci] at hx; cases hx
      | some c =>
        rw [hci] at hx
        cases hx
        refine g_one rfl fun Qs qs => ?_
        walk_at "rd"
        refine ⟨c, 5, 5, 10 ^ 64, rfl, hbg c (List.mem_iff_getElem?.mpr ⟨i, hci⟩), by decide, by decide, by decide, by decide, fun l H2 ns e2 hns hnum hl2 hln => ?_⟩
        have hL2 := e2 _ _ hLc
        have nL : l ≠ L := fun z => by subst z; rw [hLc] at hln; cases hln
        refine qs _ H2 hL2 ⟨same_mut (e.trans e2) hL, upd_same, by rw [List.length_append, hal]; rfl, fun y hy => ?_⟩
        rcases List.mem_append.mp hy with hy | hy
        · obtain ⟨l', ns', n', rfl, p1, p2⟩ := hall y hy
          exact ⟨l', ns', n', rfl, by rw [upd_ne n']; exact e2 _ _ p1, p2⟩
        · rw [List.mem_singleton.mp hy]
          exact ⟨l, ns, nL, rfl, by rw [upd_ne nL]; exact hl2, hns, hnum⟩
    · rw [List.length_map] at hal
      have part : ∀ {i : Nat} {y : V}, ac[i]? = some y → ∀ {H' : Hp}, Same H1 H' → ∃ l ns, PartV H' y l ns := fun hy H' e => by
        obtain ⟨l, ns, _, p1, p2, p3⟩ := hall _ (List.mem_iff_getElem?.mpr ⟨_, hy⟩)
        exact ⟨l, ns, p1, e _ _ p2, p3⟩
      walk_at "rd"
      refine r_lcL hl1 (by omega) (fun _ => true) (fun i y _ => ∃ z : Int, y = V.int z ∧ Num z) (fun _ _ _ _ _ h => h) (fun i x hx => lc_one rfl fun H3 Qs e3 qs => ?_) fun L2 ys H2 hL2 e2 hl2 hp2 => ?_
      · obtain ⟨l, ns, pv⟩ := part hx e3
        obtain ⟨z, hz, hnz⟩ := pv.at 0 (by decide)
        obtain ⟨rfl, hl, _, _⟩ := pv
        walk_at "rd"
        exact r_ixL hl (atI_nat hz) (qs _ H3 (Same.refl _) ⟨z, rfl, hnz⟩)
      · have hyl := pd_len hp2
        rw [filter_all, List.length_range, hal] at hyl
        obtain ⟨ks, eks, hks⟩ := ints_of (ys := ys) fun y hy => by
          obtain ⟨i, hi⟩ := List.mem_iff_getElem?.mp hy
          obtain ⟨a, _, h⟩ := pd_get hp2 hi
          exact h
        rw [eks] at hl2
        rw [eks, List.length_map] at hyl
        walk_at "rd"
        refine ⟨L2, ks, rfl, hl2, hks, by omega, fun LN H3 nms e3 hnl hnd hnok hl3 => ?_⟩
        walk_at "rd"
        refine r_newL (Nat.zero_le _) fun R H4 hR e4 hR4 => ?_
        walk_at "rd"
        have e14 := e2.trans (e3.trans e4)
        refine r_lnL (e14 _ _ hl1) ?_
        walk_at "rd"
        rw [hal]
        refine r_forR (N := cs.length) (by omega) (fun i σ' H' => ∃ (cv : List V) (cols : List Col) (z6 z7 z8 : Option V), Same H4 (upd H' R (.lst [])) ∧ H' R = some (.lst cv) ∧ TpAll H' cv (cols.map Col.d) ∧ cols.length = i ∧ cols.map (·.name) = nms.take i ∧ (∀ c ∈ cols, c.Ok) ∧
          (∀ b o, b ≠ R → H4 b = some o → H' b = some o) ∧ σ' = [some (.ref a), none, some (.ref L), none, some (.ref LN), some (.ref R), z6, z7, z8]) ⟨[], [], none, none, none, fun b o z => by
            by_cases e : b = R
            · subst e; rw [upd_same]; rw [hR4] at z; exact z
            · rw [upd_ne e]; exact z, hR4, .nil, rfl, rfl, fun _ h => (by cases h), fun b o _ z => z, rfl⟩ ?_ ?_
        · rintro i σ' H' hi ⟨cv, cols, z6, z7, z8, _, hRl, htv, hcn, hnm, hok, kp, rfl⟩
          have keepL : ∀ {b : Addr} {xs : List V}, H3 b = some (.lst xs) → H' b = some (.lst xs) := fun {b xs} z => by
            refine kp b _ (fun e => ?_) (e4 _ _ z)
            subst e
            rw [z] at hR
            cases hR
          have hyi : ac[i]? = some ac[i] := List.getElem?_eq_getElem (by omega)
          obtain ⟨l, ns, pv⟩ := part hyi (e2.trans e3)
          obtain ⟨t1, ht1, hn1⟩ := pv.at 1 (by decide)
          obtain ⟨t2, ht2, hn2⟩ := pv.at 2 (by decide)
          obtain ⟨t3, ht3, hn3⟩ := pv.at 3 (by decide)
          obtain ⟨t4, ht4, hn4⟩ := pv.at 4 (by decide)
          obtain ⟨ey, hpl, _, _⟩ := pv
          rw [ey] at hyi
          have hl1' := keepL (e3 _ _ (e2 _ _ hl1))
          have hpl' := keepL hpl
          have hni : nms[i]? = some nms[i] := List.getElem?_eq_getElem (by omega)
          have hLN := keepL hl3
          walk_at "rs"
          refine r_newL (Nat.le_of_ble_eq_true rfl) fun kl H5 hkl e5 hkl5 => ?_
          walk_at "rs"
          refine r_ixL (e5 _ _ hl1') (atI_nat hyi) ?_
          walk_at "rs"
          refine r_ixL (e5 _ _ hpl') (atI_nat ht1) ?_
          walk_at "rs"
          obtain ⟨kk, hkk, hkd⟩ := pick4k (x := t1 % 4) ⟨Int.emod_nonneg _ (by decide), Int.emod_lt_of_pos _ (by decide)⟩
          refine r_ixL hkl5 hkk ?_
          walk_at "rs"
          refine r_join (fun σ' H'' => ∃ s : Str, s.length ≤ 12 ∧ Same H5 H'' ∧ σ' = [some (.ref a), none, some (.ref L), none, some (.ref LN), some (.ref R), some (.int (i : Int)), some (.str kk), some (.str s)]) (fun Z hZ => ?_) ?_
          · walk_at "rs"
            refine r_ixL (e5 _ _ hl1') (atI_nat hyi) ?_
            walk_at "rs"
            refine r_ixL (e5 _ _ hpl') (atI_nat ht4) ?_
            walk_at "rs"
            refine r_ite (fun _ => ?_) (fun _ => hZ _ _ ⟨_, by decide +kernel, Same.refl _, rfl⟩)
            walk_at "rs"
            refine r_ixL (e5 _ _ hl1') (atI_nat hyi) ?_
            walk_at "rs"
            refine r_ixL (e5 _ _ hpl') (atI_nat ht4) ?_
            walk_at "rs"
            refine ⟨t4 / 3, rfl, ⟨by obtain ⟨p, q⟩ := hn4; omega, by obtain ⟨p, q⟩ := hn4; omega⟩, fun s H6 e6 s1 s2 => ?_⟩
            walk_at "rs"
            exact hZ _ _ ⟨s, s2, e6, rfl⟩
          rintro σ6 H6 ⟨lk, hlk, e6, rfl⟩
          have e56 := e5.trans e6
          walk_at "rs"
          refine r_tyL (e56 _ _ hRl) ?_
          walk_at "rs"
          refine r_ixL (e56 _ _ hLN) (atI_nat (j := i) (by rw [List.getElem?_map, hni]; rfl)) ?_
          walk_at "rs"
          refine r_ixL (e56 _ _ hl1') (atI_nat hyi) ?_
          walk_at "rs"
          refine r_ixL (e56 _ _ hpl') (atI_nat ht2) ?_
          walk_at "rs"
          refine ⟨kk, t2, rfl, hkd, hn2, fun v d H7 e7 hv hd hacc => ?_⟩
          have e57 := e56.trans e7
          walk_at "rs"
          refine r_ixL (e57 _ _ hl1') (atI_nat hyi) ?_
          walk_at "rs"
          refine r_ixL (e57 _ _ hpl') (atI_nat ht3) ?_
          walk_at "rs"
          have hu : t3 % 2 = 0 ∨ t3 % 2 = 1 := Int.emod_two_eq t3
          refine r_newD (ds := [.str nms[i], .str kk, d, .int (t3 % 2), .str lk]) (.cons (.str _) (.cons (.str _) (.cons hv (.cons (.int _) (.cons (.str _) .nil))))) (Nat.le_of_ble_eq_true rfl) fun p H8 e8 t8 => ?_
          have e58 := e57.trans e8
          have hcvl := htv.length
          rw [List.length_map] at hcvl
          walk_at "rs"
          refine r_app (e58 _ _ hRl) (by omega) fun H9 e9 => ?_
          subst e9
          have te : TEx H8 (upd H8 R (.lst (cv ++ [.ref p]))) := TEx.upd (e58 _ _ hRl) fun xs z => by cases z
          walk_at "rs"
          have kp9 : ∀ b o, b ≠ R → H4 b = some o → upd H8 R (.lst (cv ++ [.ref p])) b = some o := fun b o hb z => by
            rw [upd_ne hb]
            exact e58 _ _ (kp b o hb z)
          refine ⟨cv ++ [.ref p], cols ++ [⟨nms[i], kk, d, t3 % 2, lk⟩], _, _, _, fun b o z => ?_, upd_same, ?_, by rw [List.length_append, hcn]; rfl, ?_, fun c hc => ?_, kp9, rfl⟩
          · by_cases e : b = R
            · subst e; rw [upd_same]; rw [hR4] at z; exact z
            · rw [upd_ne e]; exact kp9 b o e z
          · rw [List.map_append]
            exact (htv.mono ((TEx.of e58).trans te)).append (TpAll.one (t8.mono te))
          · rw [List.map_append, hnm, List.take_add_one, hni]
            rfl
          · rcases List.mem_append.mp hc with hc | hc
            · exact hok c hc
            · rw [List.mem_singleton.mp hc]
              exact ⟨hnok _ (List.getElem_mem _), hkd, hd, hacc, hu, hlk⟩
        · rintro σ' H' ⟨cv, cols, z6, z7, z8, _, hRl, htv, hcn, hnm, hok, kp, rfl⟩
          have e13 := e1.trans (e2.trans e3)
          have hHR : H R = none := by
            cases z : H R with
            | none => rfl
            | some o => rw [e13 _ _ z] at hR; cases hR
          walk_at "rs"
          refine q R cv cols H' (fun b o z => kp b o (fun e => ?_) (e4 _ _ (e13 _ _ z))) hHR hRl htv hcn ?_ hok
          · subst e; rw [z] at hHR; cases hHR
          · rw [hnm]
            exact hnd.sublist (List.take_sublist _ _)
end
end Vt
-- VtRepl
set_option Elab.async false
set_option linter.all false
set_option maxRecDepth 100000
set_option maxHeartbeats 4000000
namespace Vt
open PySem PySem.Spec PyProof.Rows L2
section
variable {X : Cx} {rest : List Stmt} {u : TS}
/-- name = a % b: behind it a token is out -/
theorem pss_mod {i : Nat} {x : Str} {a b : Expr} {ta tb : TE} {bpos pos' pos : Pos} (hN : X.N.Nodup) (hi : X.N[i]? = some x) (hx : Loc X.env.scope x) (ha : PE X a ta) (hb : PE X b tb) (h2 : PSsT X rest u)
    (hs : swapsWith (.BinOp a .Mod b bpos) (some (.Name x pos')) pos.line X.env = pure false := by rfl) (hf : X.fn x = true ∨ X.env.scope.names.lookup x = some .local := by first | exact .inl rfl | exact .inr rfl | assumption) :
    PSs X (.Assign [.Name x pos'] (.BinOp a .Mod b bpos) pos :: rest) (tSeq (tAsg (tOp (rI (fun _ j => 0 < j) fun i j => .int (i % j)) ta tb) (gName i)) u) := by
  refine ⟨fun pins s σ H D I h => ?_⟩
  refine wpAny_execs_cons (wpAny_Assign_Name (wpAny_BinOp (thn (ha.run pins s σ H _ I h) fun v s1 ⟨x1, H1, I1, r1, q1⟩ => thn (hb.run pins s1 σ H1 _ I1 q1) fun v2 s2 ⟨y1, H2, I2, r2, q2⟩ => ?_)) hs)
  obtain ⟨m, j, rfl, rfl, hc, q⟩ := q2
  obtain ⟨t, rfl⟩ := r1
  obtain ⟨t', rfl⟩ := r2
  have hc : (0 : Int) < j := hc
  refine mod_int' (by omega) ?_
  rw [Int.fmod_eq_emod_of_nonneg m (by omega)]
  refine wpAny_mono (PySem.wpAny_toks (store_ok (v := V.int (m % j)) (u := Value.int (m % j) s2.toks) (Q := fun _ s3 => Inv X pins (σ.set i (some (V.int (m % j)))) H2 s3) (I2.tok (s2.toks + 1)) hN hi hx ⟨s2.toks, rfl⟩ (fun _ I3 => I3) hf)) (fun _ s3 q' => ?_) fun _ _ z => z.2
  have hk : s2.toks + 1 ≤ s3.toks := q'.1
  exact h2 pins s3 _ H2 D (by omega) q'.2 q
theorem pet_tup {es : List Expr} {ta : TA} {x1 : Nat} {pos : Pos} (h : PAT X es ta) : PET X (.Tuple es x1 pos) (tTup ta) := by
  intro pins s σ H Q h0 I hq
  refine wpAny_Tuple_spliced (thn (h pos pins s σ H _ h0 I hq) fun us s1 ⟨xs, H1, I1, r, z, q⟩ => ⟨by rw [← r.length]; exact z, ?_⟩)
  have hf : H1 s1.heap.objs.size = none := I1.hok.fresh (Nat.le_refl _)
  refine ⟨.ref s1.heap.objs.size, upd H1 s1.heap.objs.size (.tup xs), I1.laid (t' := s1.toks) (fun b u e => Heap.get?_push_of_some _ e) (Nat.le_refl _) ?_, rfl, q _ hf⟩
  exact ⟨z, us, r, ⟨_, Heap.get?_push_size _ rfl, rfl, _, rfl⟩⟩
theorem pst_asg {tg e : Expr} {te : TE} {g : TG} {pos : Pos} (he : PET X e te) (hg : PG X tg g) (hs : swapsWithSole [tg] e pos.line X.env = pure false := by rfl) (hw : swappedStores [tg] e X.env = pure none := by rfl)
    (h1 : (assignEach [tg] X.env).map (·.2) = [assign tg X.env] := by rfl) : PST X (.Assign [tg] e pos) (tAsg te g) := by
  intro pins s σ H D h0 I h
  refine wpAny_Assign_stores (thn (he pins s σ H _ h0 I h) fun v s1 ⟨x, H1, I1, r1, q1⟩ => ?_) hs hw
  rw [h1]
  exact thn (hg.run pins s1 σ H1 x v _ I1 r1 q1) fun _ s2 q => q
end
/-! readings -/
section
variable {σ : L2.St} {H : Hp} {Q : VK} {n : L2.St → Hp → Prop} {r : VK} {b c : L2.St → Hp → Prop} {u : TS}
def SetLQ (v o i : V) (H : Hp) (N : Hp → Prop) : Prop := rSetL o i v H N
theorem r_setl {te ta tb : TE} (q : te σ H fun v H1 => ta σ H1 fun o H2 => tb σ H2 fun i H3 => SetLQ v o i H3 (u ⟨n, r, b, c⟩ σ)) : tSeq (tAsg te (gSub ta tb rSetL)) u ⟨n, r, b, c⟩ σ H := q
theorem r_setL {l : Addr} {xs : List V} {v : V} {j : Nat} {N : Hp → Prop} (hl : H l = some (.lst xs)) (hj : j < xs.length) (q : ∀ H2, H2 = upd H l (.lst (xs.set j v)) → N H2) : SetLQ v (.ref l) (.int (j : Int)) H N :=
  ⟨l, xs, (j : Int), j, rfl, rfl, hl, (by unfold ixN; rw [if_pos (by omega), if_pos (by omega)]; simp), q _ rfl⟩
theorem r_repl {to : TE} {y z : Str} (q : to σ H fun v H1 => ∃ x, v = .str x ∧ x.length + (x.length + 1) * z.length ≤ 16777216 ∧ Q (.str (Txt.replace x y z)) H1) : CwR.tReplC to y z σ H Q := q
end
end Vt
-- VtG8
set_option Elab.async false
set_option linter.all false
set_option maxRecDepth 100000
set_option maxHeartbeats 4000000
namespace Vt
open PySem PySem.Spec PyProof.Rows L2
local macro_rules | `(tactic| walk_at "rd") => `(tactic| (repeat (first
  | with_reducible refine r_sasg ?_ | with_reducible refine r_sfset ?_ | with_reducible refine r_sfaug ?_ | with_reducible refine r_sdput ?_ | with_reducible refine r_sdrop ?_ | with_reducible refine r_swhen ?_ | with_reducible refine r_sif ?_ | with_reducible refine r_asg ?_ | with_reducible refine r_drop ?_
  | with_reducible refine r_ret ?_ | with_reducible refine r_if ?_ | with_reducible refine r_next ?_
  | with_reducible refine r_c ?_ | with_reducible refine r_var (by with_unfolding_all exact rfl) ?_ | with_reducible refine r_op ?_ | with_reducible refine r_un ?_ | with_reducible refine r_I0 ?_ | ((with_reducible refine r_I ?_ ?_); · first | (show (0 : Int) < _; decide) | exact div_ok (by decide) (by decide)) | with_reducible refine r_U ?_
  | with_reducible refine r_eq (by with_unfolding_all exact rfl) ?_ | with_reducible refine r_ne (by with_unfolding_all exact rfl) ?_
  | with_reducible refine r_tstq ?_ | with_reducible refine r_tBq ?_ | with_reducible refine r_blq ?_ | with_reducible refine r_intq ?_ | with_reducible refine r_and ?_ | with_reducible refine r_or ?_ | with_reducible refine r_not ?_
  | with_reducible refine r_andV ?_ | with_reducible refine r_orV ?_ | with_reducible refine r_notV ?_
  | with_reducible refine r_nil ?_ | with_reducible refine r_cons ?_ | with_reducible refine r_call ?_ | with_reducible refine r_tup ?_ | with_reducible refine r_lst ?_ | with_reducible refine r_cb ?_ | with_reducible refine r_int1 ?_ | with_reducible refine r_ord ?_
  | with_reducible refine r_sl ?_ | with_reducible refine r_nop ?_ | with_reducible refine r_partq ?_ | with_reducible refine r_bm ?_ | with_reducible refine r_fld ?_
  | with_reducible refine r_lct ?_ | with_reducible refine r_lcl ?_ | with_reducible refine r_lcr ?_ | with_reducible refine r_sfort ?_ | with_reducible refine r_sforl ?_ | with_reducible refine r_sfors ?_ | with_reducible refine r_sforr ?_ | with_reducible refine r_sforz ?_
  | with_reducible refine r_fort ?_ | with_reducible refine r_forl ?_ | with_reducible refine r_forr ?_ | with_reducible refine r_sasgt ?_ | with_reducible refine r_asgt ?_ | with_reducible refine r_saug (by with_unfolding_all exact rfl) ?_ | with_reducible refine r_aug (by with_unfolding_all exact rfl) ?_ | with_reducible refine r_ip ?_ | with_reducible refine r_gname ?_ | with_reducible refine r_seq ?_
  | with_reducible refine r_dget ?_ | with_reducible refine r_din ?_ | with_reducible refine r_dnotin ?_ | with_reducible refine r_sdput ?_ | with_reducible refine r_dput ?_ | with_reducible refine r_mg ?_ | with_reducible refine r_rev ?_ | with_reducible refine r_dzip ?_
  | with_reducible refine r_lcz ?_ | with_reducible refine r_form ?_
  | with_reducible refine r_sfset ?_ | with_reducible refine r_fset ?_ | with_reducible refine r_sfaug ?_ | with_reducible refine r_meth ?_ | with_reducible refine r_make ?_
  | with_reducible refine r_srtl ?_ | with_reducible refine r_m1q ?_ | with_reducible refine r_strq ?_
  | with_reducible refine r_iteT ?_ | with_reducible refine r_iteF ?_)))
local macro_rules | `(tactic| walk_at "rs") => `(tactic| (repeat (first
  | with_reducible refine r_sasg ?_ | with_reducible refine r_sfset ?_ | with_reducible refine r_sfaug ?_ | with_reducible refine r_sdput ?_ | with_reducible refine r_sdrop ?_ | with_reducible refine r_asg ?_ | with_reducible refine r_drop ?_
  | with_reducible refine r_ret ?_ | with_reducible refine r_next ?_
  | with_reducible refine r_c ?_ | with_reducible refine r_var (by with_unfolding_all exact rfl) ?_ | with_reducible refine r_op ?_ | with_reducible refine r_un ?_ | with_reducible refine r_I0 ?_ | ((with_reducible refine r_I ?_ ?_); · first | (show (0 : Int) < _; decide) | exact div_ok (by decide) (by decide)) | with_reducible refine r_U ?_
  | with_reducible refine r_eq (by with_unfolding_all exact rfl) ?_ | with_reducible refine r_ne (by with_unfolding_all exact rfl) ?_
  | with_reducible refine r_tstq ?_ | with_reducible refine r_tBq ?_ | with_reducible refine r_blq ?_ | with_reducible refine r_intq ?_ | with_reducible refine r_and ?_ | with_reducible refine r_or ?_ | with_reducible refine r_not ?_
  | with_reducible refine r_andV ?_ | with_reducible refine r_orV ?_ | with_reducible refine r_notV ?_
  | with_reducible refine r_nil ?_ | with_reducible refine r_cons ?_ | with_reducible refine r_call ?_ | with_reducible refine r_tup ?_ | with_reducible refine r_lst ?_ | with_reducible refine r_cb ?_ | with_reducible refine r_int1 ?_ | with_reducible refine r_ord ?_
  | with_reducible refine r_sl ?_ | with_reducible refine r_nop ?_ | with_reducible refine r_partq ?_ | with_reducible refine r_bm ?_ | with_reducible refine r_fld ?_
  | with_reducible refine r_lct ?_ | with_reducible refine r_lcl ?_ | with_reducible refine r_lcr ?_ | with_reducible refine r_sfort ?_ | with_reducible refine r_sforl ?_ | with_reducible refine r_sfors ?_ | with_reducible refine r_sforr ?_ | with_reducible refine r_sforz ?_
  | with_reducible refine r_fort ?_ | with_reducible refine r_forl ?_ | with_reducible refine r_forr ?_ | with_reducible refine r_sasgt ?_ | with_reducible refine r_asgt ?_ | with_reducible refine r_saug (by with_unfolding_all exact rfl) ?_ | with_reducible refine r_aug (by with_unfolding_all exact rfl) ?_ | with_reducible refine r_ip ?_ | with_reducible refine r_gname ?_ | with_reducible refine r_seq ?_
  | with_reducible refine r_dget ?_ | with_reducible refine r_din ?_ | with_reducible refine r_dnotin ?_ | with_reducible refine r_sdput ?_ | with_reducible refine r_dput ?_ | with_reducible refine r_mg ?_ | with_reducible refine r_rev ?_ | with_reducible refine r_dzip ?_
  | with_reducible refine r_lcz ?_ | with_reducible refine r_form ?_
  | with_reducible refine r_sfset ?_ | with_reducible refine r_fset ?_ | with_reducible refine r_sfaug ?_ | with_reducible refine r_meth ?_ | with_reducible refine r_make ?_
  | with_reducible refine r_srtl ?_ | with_reducible refine r_m1q ?_ | with_reducible refine r_strq ?_
  | with_reducible refine r_iteT ?_ | with_reducible refine r_iteF ?_)))
local macro_rules | `(tactic| walk_at "tex") => `(tactic| (first
  | assumption | exact TEx.refl _ | exact TEx.of (by assumption) | ((refine TEx.trans ?_ (TEx.of (by assumption))); walk_at "tex") | ((refine TEx.trans ?_ (by assumption)); walk_at "tex")))
local macro_rules | `(tactic| walk_at "same") => `(tactic| (first
  | assumption | exact Same.refl _ | ((refine Same.trans ?_ (by assumption)); walk_at "same")))
local macro_rules | `(tactic| walk_at "tp") => `(tactic| (first
  | assumption | exact Tp.int _ | exact Tp.str _ | exact Tp.non | exact TpAll.nil | ((refine TpAll.cons ?_ ?_) <;> walk_at "tp") | ((refine Tp.mono ?_ (by assumption)); walk_at "tex") | ((refine TpAll.mono ?_ (by assumption)); walk_at "tex")))
local macro_rules | `(tactic| walk_at "hp") => `(tactic| (first
  | assumption | ((refine (TEx.trans ?_ (TEx.refl _)) _ _ (by assumption)); walk_at "tex")))
theorem set_get {α : Type} {xs : List α} {i j : Nat} {x y : α} (h : (xs.set j x)[i]? = some y) : (i = j ∧ y = x) ∨ xs[i]? = some y := by
  by_cases e : i = j
  · subst e
    have hl : i < xs.length := by
      have := (List.getElem?_eq_some_iff.mp h).1
      rwa [List.length_set] at this
    rw [List.getElem?_set_self hl] at h
    exact .inl ⟨rfl, (Option.some.inj h).symm⟩
  · rw [List.getElem?_set_ne (fun z => e z.symm)] at h
    exact .inr h
theorem TpAll.set {H : Hp} : ∀ {ds : List PyData} {vs : List V} {v : V} {d : PyData} (j : Nat), TpAll H vs ds → Tp H v d → TpAll H (vs.set j v) (ds.set j d)
  | [], [], _, _, _, .nil, _ => .nil
  | _ :: _, _ :: _, _, _, 0, .cons a t, h => .cons h t
  | _ :: _, _ :: _, _, _, j + 1, .cons a t, h => .cons a (TpAll.set j t h)
/-- a kind that bears no question mark -/
def Hard (k : Str) : Prop := k = "int" ∨ k = "text"
def hardB (k : Str) : Bool := decide (k = "int") || decide (k = "text")
theorem hard_iff {k : Str} : hardB k = true ↔ Hard k := by
  unfold hardB Hard
  simp
theorem strs_ofP {G : Str → Prop} {ys : List V} (h : ∀ y ∈ ys, ∃ z : Str, y = .str z ∧ G z) : ∃ cs : List Str, ys = cs.map V.str ∧ ∀ c ∈ cs, G c := by
  induction ys with
  | nil => exact ⟨[], rfl, fun _ h => by cases h⟩
  | cons y r ih =>
    obtain ⟨z, e, hz⟩ := h y (List.mem_cons_self ..)
    obtain ⟨cs, e2, h2⟩ := ih fun y hy => h y (List.mem_cons_of_mem _ hy)
    refine ⟨z :: cs, by rw [e, e2]; rfl, fun c hc => ?_⟩
    rcases List.mem_cons.mp hc with e | hc
    · rw [e]; exact hz
    · exact h2 c hc
section
variable {P : Program} {w : World} {K : PySem.W.Frag} {mg : Str → Option Value} {base : Heap}
/-! ### _law_drawn_key -/
abbrev n_law_drawn_key : List Str := ["_law_columns_here", "_law_cell_here", "_law_place", "_law_name_here", "_law_kind", "_law_default", "_law_unique", "_law_link", "_law_key", "_law_column", "_law_others"]
theorem sc_law_drawn_key : FnScope n_law_drawn_key ["_law_columns_here", "_law_cell_here"] (defScope s_law_drawn_key) := ⟨rfl, rfl, rfl, by decide +kernel, rfl, by decide +kernel, by decide +kernel⟩
theorem bd_law_drawn_key : BindH "_law_drawn_key" s_law_drawn_key ["_law_columns_here", "_law_cell_here"] := fun _ _ _ _ _ _ us hl => match us, hl with | [_, _], _ => rfl
def spDrawn : Sp := fun vs H Q _ => ∃ (l : Addr) (cv : List V) (cols : List Col) (n : Int), vs = [.ref l, .int n] ∧ H l = some (.lst cv) ∧ TpAll H cv (cols.map Col.d) ∧ (∀ c ∈ cols, c.Ok) ∧ (cols.map (·.name)).Nodup ∧ 1 ≤ cols.length ∧ cols.length ≤ 12 ∧ Num n ∧
  ∀ (k : Addr) (cv' : List V) (cols' : List Col) (keys : List Str) (H' : Hp), ExB [l] H H' → H' l = some (.lst cv') → TpAll H' cv' (cols'.map Col.d) → cols'.map (·.name) = cols.map (·.name) → (∀ c ∈ cols', c.Ok) →
    H' k = some (.lst (keys.map V.str)) → 1 ≤ keys.length → keys.length ≤ 2 → keys.Nodup → (∀ k ∈ keys, ∃ c ∈ cols', c.name = k ∧ Hard c.kind) → Q (.ref k) H'
theorem cal_law_drawn_key (T : Tx K mg) : Cal P w K mg base 4 "_law_drawn_key" ["_law_columns_here", "_law_cell_here"] spDrawn := by
  have c_law_value := cal_law_value (P := P) (w := w) (base := base) T
  refine cal_of T.at_law_drawn_key sc_law_drawn_key bd_law_drawn_key (fun vs H Q E h => ?_) fun f cdv A outer s H0 E hr => ⟨_, (pss_mod (i := 2) sc_law_drawn_key.nd rfl (Or.inl rfl) (pe_callTy cr_int1 (by rfl) T.m_int (by decide +kernel) (pa_cons (pv 1) pa_nil)) (pe_callB (cr_lnK (K := K) rfl) (by rfl) T.m_len PySem.boot_len (pa_cons (pv 0) pa_nil)) (psst_cons (PST.of (ps_asg (pe_ix (ix_listK (K := K) rfl) (pv 0) (pv 2) (fun _ _ => rfl)) (pg_tupK (K := K) (n := 5) rfl rfl (pgs_cons (pg_name (i := 3) sc_law_drawn_key.nd rfl (Or.inr rfl)) (pgs_cons (pg_name (i := 4) sc_law_drawn_key.nd rfl (Or.inl rfl)) (pgs_cons (pg_name (i := 5) sc_law_drawn_key.nd rfl (Or.inl rfl)) (pgs_cons (pg_name (i := 6) sc_law_drawn_key.nd rfl (Or.inl rfl)) (pgs_cons (pg_name (i := 7) sc_law_drawn_key.nd rfl (Or.inl rfl)) pgs_nil)))))))) (psst_cons (PST.of (ps_if (pt_cmpR op_isNq (pv 5) pe_non (nomark _))
      (pss_one (ps_set (i := 5) sc_law_drawn_key.nd rfl (Or.inl rfl) (pe_cal c_law_value (hr.mono (by omega)) (by rfl) (pa_cons (pe_slice sl_str (pv 4) po_none (po_some (pe_un un_neg pe_int))) (pa_cons (pe_op op_fdivW (pv 1) pe_int) pa_nil)))))
      pss_nil)) (psst_cons (pst_asg (pet_tup (pat_cons (CwR.PET.of (pv 3)) (pat_cons (CwR.pet_replC (pv 4)) (pat_cons (CwR.PET.of (pv 5)) (pat_cons (CwR.PET.of (pv 6)) (pat_cons (CwR.PET.of (pv 7)) pat_nil)))))) (pg_sub (pv 0) (pv 2) set_list)) (PSsT.of (pss_cons (ps_set (i := 8) sc_law_drawn_key.nd rfl (Or.inl rfl) (pe_lst (pa_cons (pv 3) pa_nil)))
      (pss_cons (ps_setLc (i := 10) (own := [("_law_column", 9)]) rfl sc_law_drawn_key.nd rfl rfl (sw_true rfl rfl rfl (by decide +kernel)) (pi_list (pv 0)) (blkOk_by (own := [("_law_column", 9)]) (N := n_law_drawn_key) (sc := defScope s_law_drawn_key) (by decide +kernel)) (fun _ _ _ _ _ => (pg_name (i := 9) sc_law_drawn_key.nd rfl (Or.inl rfl))) (fun _ _ _ _ _ => (pts_one (PW.pt (pw_and (pt_cmpR op_ne (pe_ix (ix_tupK (K := K) rfl) (pv 9) pe_int (fun _ _ => rfl)) (pv 3) (nomark _)) (pw_and1 (pt_not (pt_val (pe_m1 PySem.F.slot_str_endswith PySem.F.type_str_endswith mt_endswith (pe_ix (ix_tupK (K := K) rfl) (pv 9) pe_int (fun _ _ => rfl)) pe_str)))))))) (fun _ _ _ _ _ => (pe_ix (ix_tupK (K := K) rfl) (pv 9) pe_int (fun _ _ => rfl))))
      (pss_cons (ps_if (PW.pt (pw_and (pt_truth (pv 10) (by intro _; rfl)) (pw_and1 (pt_cmpR op_eq (pe_op op_mod (pe_callTy cr_int1 (by rfl) T.m_int (by decide +kernel) (pa_cons (pe_op op_fdivW (pv 1) pe_int) pa_nil)) pe_int) pe_int (nomark _)))))
      (pss_one (ps_expr (pe_bm PySem.F.plainAttrs_list PySem.F.slot_list_append PySem.F.type_list_append mt_append (pv 8) (pa_cons (pe_ix (ix_listK (K := K) rfl) (pv 10) (pe_op op_mod (pe_callTy cr_int1 (by rfl) T.m_int (by decide +kernel) (pa_cons (pe_op op_fdivW (pv 1) pe_int) pa_nil)) (pe_callB (cr_lnK (K := K) rfl) (by rfl) T.m_len PySem.boot_len (pa_cons (pv 10) pa_nil))) (fun _ _ => rfl)) pa_nil))))
      pss_nil)
      (pss_one (ps_ret (pv 8))))))))))), fun vs H Q h => ?_⟩
  · obtain ⟨l, cv, cols, n, rfl, _⟩ := h
    rfl
  · obtain ⟨l, cv, cols, n, rfl, hl, hcv, hok, hnd, h1, h12, hn, q⟩ := h
    have hcl := hcv.length
    rw [List.length_map] at hcl
    have hn12 : Num (n / 12) := by obtain ⟨a, b⟩ := hn; exact ⟨by omega, by omega⟩
    walk_at "rs"
    refine r_lnL hl ?_
    walk_at "rs"
    rw [hcl]
    have hpos : (0 : Int) < (cols.length : Int) := by omega
    refine r_I hpos ?_
    walk_at "rs"
    have p1 := Int.emod_nonneg n (show (cols.length : Int) ≠ 0 by omega)
    have p2 := Int.emod_lt_of_pos n hpos
    generalize hj : (n % (cols.length : Int)).toNat = j
    have ej : n % (cols.length : Int) = (j : Int) := by omega
    rw [ej]
    have hjl : j < cols.length := by omega
    have hcj : cols[j]? = some cols[j] := List.getElem?_eq_getElem hjl
    obtain ⟨x, hx, htx⟩ := hcv.get (i := j) (d := cols[j].d) (by rw [List.getElem?_map, hcj]; rfl)
    obtain ⟨pc, df, rfl, hpc, hdf⟩ := htx.col
    have cok := hok _ (List.getElem_mem hjl)
    generalize hcc : cols[j] = cc at *
    walk_at "rs"
    refine r_ixL hl (atI_nat hx) ?_
    refine r_g5 hpc ?_
    walk_at "rs"
    refine r_join (fun σ' H' => ∃ (v : V) (d : PyData), Same H H' ∧ Tp H' v d ∧ Sc d ∧ d ≠ .none ∧ acc cc.kind d = true ∧ σ' = [some (.ref l), some (.int n), some (.int (j : Int)), some (.str cc.name), some (.str cc.kind), some v, some (.int cc.un), some (.str cc.link), none, none, none]) (fun Z hZ => ?_) ?_
    · walk_at "rs"
      rcases cok.df with e | ⟨i, e, hi⟩ | ⟨t, e, ht⟩
      · rw [e] at hdf
        have ac := cok.ac
        rw [e] at ac
        obtain rfl := hdf.inv_non
        refine r_isNd hdf (b := true) rfl ?_
        refine ⟨_, rfl, r_yes rfl ?_⟩
        walk_at "rs"
        have hkl : cc.kind.length ≤ sizeLine := by
          refine Nat.le_trans (show cc.kind.length ≤ 10 from ?_) (by decide)
          rcases cok.kd with h | h | h | h <;> rw [h] <;> decide +kernel
        refine r_slS hkl ?_
        walk_at "rs"
        have hk : Kd (cutS cc.kind none (some (-1))) ∧ ∀ d, acc (cutS cc.kind none (some (-1))) d = true → acc cc.kind d = true ∧ d ≠ .none := by
          rcases cok.kd with h | h | h | h
          · rw [h] at ac; exact absurd ac (by decide +kernel)
          · rw [h]
            have e1 : cutS "int?" none (some (-1)) = "int" := by decide +kernel
            rw [e1]
            refine ⟨.inl rfl, fun d hd => ?_⟩
            cases d with
            | int i => exact ⟨acc_int (.inr rfl) i, by intro z; cases z⟩
            | none => exact absurd hd (by decide +kernel)
            | _ => exact (by first | (cases hd) | (exact absurd hd (by simp [acc])))
          · rw [h] at ac; exact absurd ac (by decide +kernel)
          · rw [h]
            have e1 : cutS "text?" none (some (-1)) = "text" := by decide +kernel
            rw [e1]
            refine ⟨.inr (.inr (.inl rfl)), fun d hd => ?_⟩
            cases d with
            | str i => exact ⟨acc_str (.inr rfl) i, by intro z; cases z⟩
            | none => exact absurd hd (by decide +kernel)
            | _ => exact (by first | (cases hd) | (exact absurd hd (by simp [acc])))
        refine ⟨_, n / 12, rfl, hk.1, hn12, fun v d H' e' hv hd hacc => ?_⟩
        walk_at "rs"
        exact hZ _ _ ⟨v, d, e', hv, hd, (hk.2 d hacc).2, (hk.2 d hacc).1, rfl⟩
      · have hdf2 := hdf
        rw [e] at hdf2
        refine r_isNd hdf2 (b := false) rfl ?_
        refine ⟨_, rfl, r_no rfl ?_⟩
        exact hZ _ _ ⟨df, _, Same.refl _, hdf, cok.df, (by rw [e]; intro z; cases z), cok.ac, rfl⟩
      · have hdf2 := hdf
        rw [e] at hdf2
        refine r_isNd hdf2 (b := false) rfl ?_
        refine ⟨_, rfl, r_no rfl ?_⟩
        exact hZ _ _ ⟨df, _, Same.refl _, hdf, cok.df, (by rw [e]; intro z; cases z), cok.ac, rfl⟩
    rintro σ1 H1 ⟨v, d, e1, hv, hsc, hne, hac, rfl⟩
    have hkl : cc.kind.length ≤ 10 := by rcases cok.kd with h | h | h | h <;> rw [h] <;> decide +kernel
    have hk2 : Hard (Txt.replace cc.kind "?" "") ∧ acc (Txt.replace cc.kind "?" "") d = true := by
      have e0 : Txt.replace "int" "?" "" = "int" := by decide +kernel
      have e1 : Txt.replace "int?" "?" "" = "int" := by decide +kernel
      have e2 : Txt.replace "text" "?" "" = "text" := by decide +kernel
      have e3 : Txt.replace "text?" "?" "" = "text" := by decide +kernel
      have b0 : baseK "int?" = ("int" : Str) := by decide +kernel
      have b1 : baseK "text?" = ("text" : Str) := by decide +kernel
      rcases cok.kd with h | h | h | h
      · rw [h] at hac ⊢
        rw [e0]
        exact ⟨.inl rfl, hac⟩
      · rw [h] at hac ⊢
        rw [e1]
        refine ⟨.inl rfl, ?_⟩
        cases d with
        | none => exact (hne rfl).elim
        | int i => exact acc_int (.inl rfl) i
        | str t => exact absurd hac (by show ¬ decide (baseK "int?" = "text") = true; rw [b0]; decide +kernel)
        | _ => exact absurd hac (by simp [acc])
      · rw [h] at hac ⊢
        rw [e2]
        exact ⟨.inr rfl, hac⟩
      · rw [h] at hac ⊢
        rw [e3]
        refine ⟨.inr rfl, ?_⟩
        cases d with
        | none => exact (hne rfl).elim
        | int i => exact absurd hac (by show ¬ decide (baseK "text?" = "int") = true; rw [b1]; decide +kernel)
        | str t => exact acc_str (.inl rfl) t
        | _ => exact absurd hac (by simp [acc])
    refine r_setl ?_
    walk_at "rs"
    refine r_repl ?_
    walk_at "rs"
    refine ⟨_, rfl, Nat.le_trans (show _ ≤ 10 + 11 * 0 from Nat.add_le_add hkl (Nat.le_of_eq (Nat.mul_zero _))) (by decide), ?_⟩
    walk_at "rs"
    generalize Txt.replace cc.kind "?" "" = k' at hk2 ⊢
    obtain ⟨hard, hac'⟩ := hk2
    refine r_newD (ds := [.str cc.name, .str k', d, .int cc.un, .str cc.link]) (.cons (.str _) (.cons (.str _) (.cons hv (.cons (.int _) (.cons (.str _) .nil))))) (Nat.le_of_ble_eq_true rfl) fun p H2 e2 t2 => ?_
    walk_at "rs"
    have e12 := e1.trans e2
    refine r_setL (e12 _ _ hl) (by omega) fun H3 e3 => ?_
    have te : TEx H2 H3 := by subst e3; exact TEx.upd (e12 _ _ hl) fun xs z => by cases z
    have x3 : ExB [l] H H3 := fun a o ha z => by
      subst e3
      rw [upd_ne (by simpa using ha)]
      exact e12 _ _ z
    have hl3 : H3 l = some (.lst (cv.set j (.ref p))) := by subst e3; exact upd_same
    clear e3
    generalize hcc' : (⟨cc.name, k', d, cc.un, cc.link⟩ : Col) = c' at *
    have ec'd : c'.d = .tuple [.str cc.name, .str k', d, .int cc.un, .str cc.link] := by rw [← hcc']; rfl
    have ec'n : c'.name = cc.name := by rw [← hcc']
    have ec'k : c'.kind = k' := by rw [← hcc']
    have ok' : c'.Ok := by
      rw [← hcc']
      exact ⟨cok.nm, hard.elim (fun h => .inl h) (fun h => .inr (.inr (.inl h))), hsc, hac', cok.un, cok.lk⟩
    have cv3 : TpAll H3 (cv.set j (.ref p)) ((cols.set j c').map Col.d) := by
      rw [List.map_set, ec'd]
      exact ((hcv.mono (TEx.of e12)).mono te).set j (t2.mono te)
    have hnm : (cols.set j c').map (·.name) = cols.map (·.name) := by
      rw [List.map_set, ec'n]
      apply List.ext_getElem?
      intro i
      by_cases e : j = i
      · subst e
        rw [List.getElem?_set_self (by rw [List.length_map]; exact hjl), List.getElem?_map, hcj]
        rfl
      · rw [List.getElem?_set_ne e]
    have hok' : ∀ c ∈ cols.set j c', c.Ok := fun c hc => by
      rcases List.mem_or_eq_of_mem_set hc with h | h
      · exact hok c h
      · rw [h]; exact ok'
    have hlen' : (cols.set j c').length = cols.length := List.length_set ..
    have hin : c' ∈ cols.set j c' := List.mem_iff_getElem?.mpr ⟨j, List.getElem?_set_self hjl⟩
    generalize hcols : cols.set j c' = cols' at *
    generalize hcvs : cv.set j (.ref p) = cv' at *
    have hcl' := cv3.length
    rw [List.length_map] at hcl'
    walk_at "rs"
    refine r_newL (Nat.le_of_ble_eq_true rfl) fun kl H4 hkl e4 hk4 => ?_
    walk_at "rs"
    refine r_lcL (e4 _ _ hl3) (by omega) (fun i => match cols'[i]? with | some c => !decide (c.name = cc.name) && hardB c.kind | none => false) (fun i y _ => ∃ c ∈ cols', y = V.str c.name ∧ c.name ≠ cc.name ∧ Hard c.kind) (fun _ _ _ _ _ h => h) (fun i x hx => lc_test rfl fun H5 Qs Qn e5 qs qn => ?_) fun L6 ys H6 hL6 e6 hl6 hp6 => ?_
    · obtain ⟨dd, hd, htp⟩ := cv3.get' hx
      rw [List.getElem?_map] at hd
      cases hci : cols'[i]? with
      | none => rw [hci] at hd; cases hd
      | some c =>
        rw [hci] at hd
        cases hd
        rw [hci] at qs qn
        have hcm : c ∈ cols' := List.mem_iff_getElem?.mpr ⟨i, hci⟩
        obtain ⟨pc2, df2, rfl, hpc2, hdf2⟩ := htp.col
        have hpc5 := e5 _ _ (e4 _ _ hpc2)
        walk_at "rd"
        refine r_ixT hpc5 (atI_nat (j := 0) rfl) ?_
        walk_at "rd"
        by_cases hnm2 : c.name = cc.name
        · refine r_no (by rw [dec_str']; simp [hnm2]) (r_iteF ?_)
          exact qn H5 (Same.refl _) (by simp [hnm2])
        · refine r_yes (by rw [dec_str']; simp [hnm2]) ?_
          walk_at "rd"
          refine r_ixT hpc5 (atI_nat (j := 1) rfl) ?_
          walk_at "rd"
          refine ⟨_, _, rfl, rfl, ?_⟩
          walk_at "rd"
          have good : hardB c.kind = true → _ := fun hh => qs (.str c.name) H5 (Same.refl _) (by simp [hnm2, hh]) ⟨c, hcm, rfl, hnm2, hard_iff.mp hh⟩
          have bad : hardB c.kind = false → _ := fun hh => qn H5 (Same.refl _) (by simp [hh])
          rcases (hok' c hcm).kd with h | h | h | h
          · refine r_yes (by rw [h]; decide +kernel) ?_
            walk_at "rd"
            refine r_ixT hpc5 (atI_nat (j := 0) rfl) ?_
            exact good (by rw [h]; decide +kernel)
          · refine r_no (by rw [h]; decide +kernel) ?_
            exact bad (by rw [h]; decide +kernel)
          · refine r_yes (by rw [h]; decide +kernel) ?_
            walk_at "rd"
            refine r_ixT hpc5 (atI_nat (j := 0) rfl) ?_
            exact good (by rw [h]; decide +kernel)
          · refine r_no (by rw [h]; decide +kernel) ?_
            exact bad (by rw [h]; decide +kernel)
    · have hyl := pd_len hp6
      have hyl2 := List.length_filter_le (fun i => match cols'[i]? with | some c => !decide (c.name = cc.name) && hardB c.kind | none => false) (List.range cv'.length)
      rw [List.length_range] at hyl2
      obtain ⟨ss, ess, hss⟩ := strs_ofP (G := fun s => ∃ c ∈ cols', c.name = s ∧ s ≠ cc.name ∧ Hard c.kind) (ys := ys) fun y hy => by
        obtain ⟨i, hi⟩ := List.mem_iff_getElem?.mp hy
        obtain ⟨_, _, c, hc, e, a, b⟩ := pd_get hp6 hi
        exact ⟨c.name, e, c, hc, rfl, a, b⟩
      rw [ess] at hl6 hyl
      have hssl : ss.length ≤ 12 := by
        rw [List.length_map] at hyl
        omega
      have hkL : H kl = none := by
        cases z : H kl with
        | none => rfl
        | some o =>
          exfalso
          by_cases e : kl = l
          · subst e; rw [hl3] at hkl; cases hkl
          · rw [x3 kl o (by simpa using e) z] at hkl; cases hkl
      have x6 : ExB [l] H H6 := x3.trans (ExB.of (e4.trans e6))
      have hl66 := e6 _ _ (e4 _ _ hl3)
      have hk6 := e6 _ _ hk4
      have cv6 := cv3.mono (TEx.of (e4.trans e6))
      have fin1 : Q (.ref kl) H6 := q kl cv' cols' [cc.name] H6 x6 hl66 cv6 hnm hok' hk6 (Nat.le_refl 1) (Nat.le_succ 1) (List.nodup_cons.mpr ⟨List.not_mem_nil, List.nodup_nil⟩) fun k hk => by
        rw [List.mem_singleton.mp hk]
        exact ⟨c', hin, ec'n, by rw [ec'k]; exact hard⟩
      walk_at "rd"
      refine r_truL hl6 ?_
      by_cases hne2 : ss = []
      · rw [hne2] at hl6 ⊢
        refine r_no rfl (r_iteF ?_)
        walk_at "rd"
        exact fin1
      · have hsp : 0 < ss.length := by cases ss with | nil => exact (hne2 rfl).elim | cons a r => exact Nat.succ_pos _
        refine r_yes (by cases ss with | nil => exact (hne2 rfl).elim | cons a r => rfl) ?_
        walk_at "rd"
        refine r_ite (fun _ => ?_) (fun _ => by walk_at "rd"; exact fin1)
        walk_at "rd"
        refine r_tyL hk6 ?_
        walk_at "rd"
        refine r_lnL hl6 ?_
        walk_at "rd"
        rw [List.length_map]
        have hsp2 : (0 : Int) < (ss.length : Int) := by omega
        refine r_I hsp2 ?_
        walk_at "rd"
        have p3 := Int.emod_nonneg (n / 24) (show (ss.length : Int) ≠ 0 by omega)
        have p4 := Int.emod_lt_of_pos (n / 24) hsp2
        generalize hm : (n / 24 % (ss.length : Int)).toNat = m
        have em : n / 24 % (ss.length : Int) = (m : Int) := by omega
        rw [em]
        have hml : m < ss.length := by omega
        have hsm : ss[m]? = some ss[m] := List.getElem?_eq_getElem hml
        obtain ⟨c2, hc2, hn2, hd2, hh2⟩ := hss _ (List.getElem_mem hml)
        refine r_ixL hl6 (atI_nat (j := m) (by rw [List.getElem?_map, hsm]; rfl)) ?_
        walk_at "rd"
        refine r_app hk6 (Nat.le_of_ble_eq_true rfl) fun H7 e7 => ?_
        have te7 : TEx H6 H7 := by subst e7; exact TEx.upd hk6 fun xs z => by cases z
        have x7 : ExB [l] H H7 := fun a o ha z => by
          subst e7
          rw [upd_ne (fun e => by subst e; rw [z] at hkL; cases hkL)]
          exact x6 a o ha z
        have hl7 : H7 l = some (.lst cv') := by
          subst e7
          rw [upd_ne (fun e => by subst e; rw [hl3] at hkl; cases hkl)]
          exact hl66
        walk_at "rd"
        refine q kl cv' cols' [cc.name, ss[m]] H7 x7 hl7 (cv6.mono te7) hnm hok' (by subst e7; exact upd_same) (Nat.le_succ 1) (Nat.le_refl 2) ?_ fun k hk => ?_
        · refine List.nodup_cons.mpr ⟨fun z => hd2 (List.mem_singleton.mp z).symm, List.nodup_cons.mpr ⟨List.not_mem_nil, List.nodup_nil⟩⟩
        · have hk : k = cc.name ∨ k = ss[m] := by simpa using hk
          rcases hk with hk | hk <;> rw [hk]
          · exact ⟨c', hin, ec'n, by rw [ec'k]; exact hard⟩
          · exact ⟨c2, hc2, hn2, hh2⟩
end
end Vt
-- VtG9
set_option Elab.async false
set_option linter.all false
set_option maxRecDepth 100000
set_option maxHeartbeats 4000000
namespace Vt
open PySem PySem.Spec PyProof.Rows L2 LamX NdefX
local macro_rules | `(tactic| walk_at "rd") => `(tactic| (repeat (first
  | with_reducible refine r_sasg ?_ | with_reducible refine r_sfset ?_ | with_reducible refine r_sfaug ?_ | with_reducible refine r_sdput ?_ | with_reducible refine r_sdrop ?_ | with_reducible refine r_swhen ?_ | with_reducible refine r_sif ?_ | with_reducible refine r_asg ?_ | with_reducible refine r_drop ?_
  | with_reducible refine r_ret ?_ | with_reducible refine r_if ?_ | with_reducible refine r_next ?_
  | with_reducible refine r_c ?_ | with_reducible refine r_var (by with_unfolding_all exact rfl) ?_ | with_reducible refine r_op ?_ | with_reducible refine r_un ?_ | with_reducible refine r_I0 ?_ | ((with_reducible refine r_I ?_ ?_); · first | (show (0 : Int) < _; decide) | exact div_ok (by decide) (by decide)) | with_reducible refine r_U ?_
  | with_reducible refine r_eq (by with_unfolding_all exact rfl) ?_ | with_reducible refine r_ne (by with_unfolding_all exact rfl) ?_
  | with_reducible refine r_tstq ?_ | with_reducible refine r_tBq ?_ | with_reducible refine r_blq ?_ | with_reducible refine r_intq ?_ | with_reducible refine r_and ?_ | with_reducible refine r_or ?_ | with_reducible refine r_not ?_
  | with_reducible refine r_andV ?_ | with_reducible refine r_orV ?_ | with_reducible refine r_notV ?_
  | with_reducible refine r_nil ?_ | with_reducible refine r_cons ?_ | with_reducible refine r_call ?_ | with_reducible refine r_tup ?_ | with_reducible refine r_lst ?_ | with_reducible refine r_cb ?_ | with_reducible refine r_int1 ?_ | with_reducible refine r_ord ?_
  | with_reducible refine r_sl ?_ | with_reducible refine r_nop ?_ | with_reducible refine r_partq ?_ | with_reducible refine r_bm ?_ | with_reducible refine r_fld ?_
  | with_reducible refine r_lct ?_ | with_reducible refine r_lcl ?_ | with_reducible refine r_lcr ?_ | with_reducible refine r_sfort ?_ | with_reducible refine r_sforl ?_ | with_reducible refine r_sfors ?_ | with_reducible refine r_sforr ?_ | with_reducible refine r_sforz ?_
  | with_reducible refine r_fort ?_ | with_reducible refine r_forl ?_ | with_reducible refine r_forr ?_ | with_reducible refine r_sasgt ?_ | with_reducible refine r_asgt ?_ | with_reducible refine r_saug (by with_unfolding_all exact rfl) ?_ | with_reducible refine r_aug (by with_unfolding_all exact rfl) ?_ | with_reducible refine r_ip ?_ | with_reducible refine r_gname ?_ | with_reducible refine r_seq ?_
  | with_reducible refine r_dget ?_ | with_reducible refine r_din ?_ | with_reducible refine r_dnotin ?_ | with_reducible refine r_sdput ?_ | with_reducible refine r_dput ?_ | with_reducible refine r_mg ?_ | with_reducible refine r_rev ?_ | with_reducible refine r_dzip ?_
  | with_reducible refine r_lcz ?_ | with_reducible refine r_form ?_
  | with_reducible refine r_sfset ?_ | with_reducible refine r_fset ?_ | with_reducible refine r_sfaug ?_ | with_reducible refine r_meth ?_ | with_reducible refine r_make ?_
  | with_reducible refine r_srtl ?_ | with_reducible refine r_m1q ?_ | with_reducible refine r_strq ?_
  | with_reducible refine r_iteT ?_ | with_reducible refine r_iteF ?_)))
local macro_rules | `(tactic| walk_at "rs") => `(tactic| (repeat (first
  | with_reducible refine r_sasg ?_ | with_reducible refine r_sfset ?_ | with_reducible refine r_sfaug ?_ | with_reducible refine r_sdput ?_ | with_reducible refine r_sdrop ?_ | with_reducible refine r_asg ?_ | with_reducible refine r_drop ?_
  | with_reducible refine r_ret ?_ | with_reducible refine r_next ?_
  | with_reducible refine r_c ?_ | with_reducible refine r_var (by with_unfolding_all exact rfl) ?_ | with_reducible refine r_op ?_ | with_reducible refine r_un ?_ | with_reducible refine r_I0 ?_ | ((with_reducible refine r_I ?_ ?_); · first | (show (0 : Int) < _; decide) | exact div_ok (by decide) (by decide)) | with_reducible refine r_U ?_
  | with_reducible refine r_eq (by with_unfolding_all exact rfl) ?_ | with_reducible refine r_ne (by with_unfolding_all exact rfl) ?_
  | with_reducible refine r_tstq ?_ | with_reducible refine r_tBq ?_ | with_reducible refine r_blq ?_ | with_reducible refine r_intq ?_ | with_reducible refine r_and ?_ | with_reducible refine r_or ?_ | with_reducible refine r_not ?_
  | with_reducible refine r_andV ?_ | with_reducible refine r_orV ?_ | with_reducible refine r_notV ?_
  | with_reducible refine r_nil ?_ | with_reducible refine r_cons ?_ | with_reducible refine r_call ?_ | with_reducible refine r_tup ?_ | with_reducible refine r_lst ?_ | with_reducible refine r_cb ?_ | with_reducible refine r_int1 ?_ | with_reducible refine r_ord ?_
  | with_reducible refine r_sl ?_ | with_reducible refine r_nop ?_ | with_reducible refine r_partq ?_ | with_reducible refine r_bm ?_ | with_reducible refine r_fld ?_
  | with_reducible refine r_lct ?_ | with_reducible refine r_lcl ?_ | with_reducible refine r_lcr ?_ | with_reducible refine r_sfort ?_ | with_reducible refine r_sforl ?_ | with_reducible refine r_sfors ?_ | with_reducible refine r_sforr ?_ | with_reducible refine r_sforz ?_
  | with_reducible refine r_fort ?_ | with_reducible refine r_forl ?_ | with_reducible refine r_forr ?_ | with_reducible refine r_sasgt ?_ | with_reducible refine r_asgt ?_ | with_reducible refine r_saug (by with_unfolding_all exact rfl) ?_ | with_reducible refine r_aug (by with_unfolding_all exact rfl) ?_ | with_reducible refine r_ip ?_ | with_reducible refine r_gname ?_ | with_reducible refine r_seq ?_
  | with_reducible refine r_dget ?_ | with_reducible refine r_din ?_ | with_reducible refine r_dnotin ?_ | with_reducible refine r_sdput ?_ | with_reducible refine r_dput ?_ | with_reducible refine r_mg ?_ | with_reducible refine r_rev ?_ | with_reducible refine r_dzip ?_
  | with_reducible refine r_lcz ?_ | with_reducible refine r_form ?_
  | with_reducible refine r_sfset ?_ | with_reducible refine r_fset ?_ | with_reducible refine r_sfaug ?_ | with_reducible refine r_meth ?_ | with_reducible refine r_make ?_
  | with_reducible refine r_srtl ?_ | with_reducible refine r_m1q ?_ | with_reducible refine r_strq ?_
  | with_reducible refine r_iteT ?_ | with_reducible refine r_iteF ?_)))
local macro_rules | `(tactic| walk_at "tex") => `(tactic| (first
  | assumption | exact TEx.refl _ | exact TEx.of (by assumption) | ((refine TEx.trans ?_ (TEx.of (by assumption))); walk_at "tex") | ((refine TEx.trans ?_ (by assumption)); walk_at "tex")))
local macro_rules | `(tactic| walk_at "same") => `(tactic| (first
  | assumption | exact Same.refl _ | ((refine Same.trans ?_ (by assumption)); walk_at "same")))
local macro_rules | `(tactic| walk_at "tp") => `(tactic| (first
  | assumption | exact Tp.int _ | exact Tp.str _ | exact Tp.non | exact TpAll.nil | ((refine TpAll.cons ?_ ?_) <;> walk_at "tp") | ((refine Tp.mono ?_ (by assumption)); walk_at "tex") | ((refine TpAll.mono ?_ (by assumption)); walk_at "tex")))
local macro_rules | `(tactic| walk_at "hp") => `(tactic| (first
  | assumption | ((refine (TEx.trans ?_ (TEx.refl _)) _ _ (by assumption)); walk_at "tex")))
theorem perm_map {α β : Type} {f : α → β} {es m : List β} (h : es.Perm m) : ∀ {cs : List α}, m = cs.map f → ∃ ds : List α, ds.Perm cs ∧ es = ds.map f := by
  induction h with
  | nil =>
    intro cs e
    cases cs with
    | nil => exact ⟨[], List.Perm.nil, rfl⟩
    | cons c cs => cases e
  | cons x p ih =>
    intro cs e
    cases cs with
    | nil => cases e
    | cons c cs =>
      injection e with e1 e2
      obtain ⟨ds, d1, d2⟩ := ih e2
      exact ⟨c :: ds, d1.cons c, by rw [List.map_cons, ← d2, e1]⟩
  | swap x y l =>
    intro cs e
    cases cs with
    | nil => cases e
    | cons c cs =>
      cases cs with
      | nil => cases e
      | cons c2 cs =>
        injection e with e1 e2
        injection e2 with e2 e3
        exact ⟨c2 :: c :: cs, List.Perm.swap c c2 cs, by rw [List.map_cons, List.map_cons, e1, e2, e3]⟩
  | trans p q ih1 ih2 =>
    intro cs e
    obtain ⟨ds, d1, d2⟩ := ih2 e
    obtain ⟨fs, f1, f2⟩ := ih1 d2
    exact ⟨fs, f1.trans d1, f2⟩
theorem col_hd (ts : List Col) : (ts.map Col.d).map hdK = (ts.map (·.name)).map PyData.str := by
  rw [List.map_map, List.map_map]
  rfl
section
variable {P : Program} {w : World} {K : PySem.W.Frag} {mg : Str → Option Value} {base : Heap}
/-! ### _law_form -/
abbrev n_law_form : List Str := ["_law_columns_here", "_law_key"]
theorem sc_law_form : FnScope n_law_form ["_law_columns_here", "_law_key"] (defScope s_law_form) := ⟨rfl, rfl, rfl, by decide +kernel, rfl, by decide +kernel, by decide +kernel⟩
theorem bd_law_form : BindH "_law_form" s_law_form ["_law_columns_here", "_law_key"] := fun _ _ _ _ _ _ us hl => match us, hl with | [_, _], _ => rfl
/-- what a drawn list of columns and a key must be -/
structure ColsK (cols : List Col) (keys : List Str) : Prop where
  ok : ∀ c ∈ cols, c.Ok
  nd : (cols.map (·.name)).Nodup
  n1 : 1 ≤ cols.length
  n12 : cols.length ≤ 12
  k1 : 1 ≤ keys.length
  k2 : keys.length ≤ 2
  knd : keys.Nodup
  kin : ∀ k ∈ keys, ∃ c ∈ cols, c.name = k ∧ Hard c.kind
theorem ColsK.perm {cols cs : List Col} {keys : List Str} (h : ColsK cols keys) (p : cs.Perm cols) : ColsK cs keys :=
  ⟨fun c hc => h.ok c (p.subset hc), ((p.map (·.name)).nodup_iff).mpr h.nd, by rw [p.length_eq]; exact h.n1, by rw [p.length_eq]; exact h.n12, h.k1, h.k2, h.knd, fun k hk => let ⟨c, hc, r⟩ := h.kin k hk; ⟨c, p.symm.subset hc, r⟩⟩
theorem ColsK.fm {cols : List Col} {keys : List Str} (h : ColsK cols keys) : Fm.Ok ⟨cols, keys⟩ :=
  ⟨h.n1, h.n12, h.nd, fun c hc => Nat.le_trans (h.ok c hc).nm.2 (by decide), fun c hc => (h.ok c hc).kd, fun c hc => (h.ok c hc).df, fun c hc => (h.ok c hc).un, fun c hc => Nat.le_trans (h.ok c hc).lk (by decide), h.k1, h.k2, h.knd, h.kin⟩
def spForm (K : PySem.W.Frag) : Sp := fun vs H Q _ => ∃ (l k : Addr) (cv : List V) (cols : List Col) (keys : List Str), vs = [.ref l, .ref k] ∧ Tb K H ∧ H l = some (.lst cv) ∧ TpAll H cv (cols.map Col.d) ∧ H k = some (.lst (keys.map V.str)) ∧ ColsK cols keys ∧
  ∀ (v : V) (fm : Fm) (H' : Hp), Gr K H H' → Tp H' v fm.d → fm.Ok → ColsK fm.cols fm.keys → Q v H'
theorem cal_law_form (T : Tx K mg) (L : Tl K mg base) : Cal P w K mg base 5 "_law_form" ["_law_columns_here", "_law_key"] (spForm K) := by
  refine cal_ofC T.ac_law_form sc_law_form bd_law_form (fun vs H Q E h => ?_) fun f A outer s H0 E hr => ⟨_, (pss_one (ps_ret (pe_tup (pa_cons (pe_callTy (cr_tupOfK (K := K) rfl) (by rfl) T.m_tuple (by decide +kernel) (pa_cons (pe_srtL (K := K) (N := ["_law_column"]) (fr := []) (js := []) (x := "_law_column") (k := 0) rfl rfl (by rfl) T.m_sorted (pv 0) (hr.mono (by omega)) (L.tb _ tm_law_form) rfl (tt_mem tm_law_form) (L.hu tm_law_form) (ndef_free (sc := defScope s_law_form) (fr := []) (by decide +kernel)) (nscope_by (by decide +kernel)) (ndef_fr (sc := defScope s_law_form) (by decide +kernel)) rfl rfl (fun _ _ _ _ _ us hl => match us, hl with | [_], _ => rfl) (fun q cl c' f A outer s H E hr' => (pe_ix (ix_tupK (K := K) rfl) (pv 0) pe_int (fun _ _ => rfl)))) pa_nil)) (pa_cons (pe_callTy (cr_tupOfK (K := K) rfl) (by rfl) T.m_tuple (by decide +kernel) (pa_cons (pv 1) pa_nil)) pa_nil))))), fun vs H Q h => ?_⟩
  · obtain ⟨l, k, cv, cols, keys, rfl, _⟩ := h
    rfl
  · obtain ⟨l, k, cv, cols, keys, rfl, tb, hl, hcv, hk, ck, q⟩ := h
    walk_at "rd"
    refine r_srtL hdK tb hl hcv (by rw [col_hd]; exact alike_strs _) (by rw [col_hd]; exact srt_strs _) (fun d hd => ?_) (fun i v d hd htp H3 Qs g3 qs => ?_) fun l1 zs es H1 g1 nl pm sr hl1 hz1 => ?_
    · obtain ⟨t', _, rfl⟩ := List.mem_map.mp hd
      show (PyData.str t'.name).depth ≤ 50
      unfold PyData.depth
      exact Nat.zero_le _
    · obtain ⟨t', ht', rfl⟩ : ∃ t', t' ∈ cols ∧ Col.d t' = d := by
        obtain ⟨t', h1, h2⟩ := List.mem_map.mp (List.mem_iff_getElem?.mpr ⟨i, hd⟩)
        exact ⟨t', h1, h2⟩
      obtain ⟨va, df, rfl, hva, _⟩ := htp.col
      walk_at "rd"
      exact r_ixT (g3.tex _ _ hva) (atI_nat (j := 0) rfl) (qs _ H3 (Gr.refl _ _) (.str _))
    · obtain ⟨cs, pcs, ecs⟩ := perm_map pm rfl
      rw [ecs] at hz1
      walk_at "rd"
      refine r_tupD hl1 hz1 fun l2 H2 e2 t2 => ?_
      walk_at "rd"
      refine r_tupD (e2 _ _ (g1.lst hk)) (TpAll.of_strs keys) fun l3 H3 e3 t3 => ?_
      walk_at "rd"
      have ck2 := ck.perm pcs
      refine r_newD (ds := [.tuple (cs.map Col.d), .tuple (keys.map PyData.str)]) (.cons (t2.mono (TEx.of e3)) (.cons t3 .nil)) (Nat.le_of_ble_eq_true rfl) fun p H4 e4 t4 => ?_
      walk_at "rd"
      exact q _ ⟨cs, keys⟩ H4 (g1.trans (Gr.of (e2.trans (e3.trans e4)))) t4 ck2.fm ck2
end
end Vt
-- VtG10
set_option Elab.async false
set_option linter.all false
set_option maxRecDepth 100000
set_option maxHeartbeats 4000000
namespace Vt
open PySem PySem.Spec PyProof.Rows L2 LamX NdefX
local macro_rules | `(tactic| walk_at "rd") => `(tactic| (repeat (first
  | with_reducible refine r_sasg ?_ | with_reducible refine r_sfset ?_ | with_reducible refine r_sfaug ?_ | with_reducible refine r_sdput ?_ | with_reducible refine r_sdrop ?_ | with_reducible refine r_swhen ?_ | with_reducible refine r_sif ?_ | with_reducible refine r_asg ?_ | with_reducible refine r_drop ?_
  | with_reducible refine r_ret ?_ | with_reducible refine r_if ?_ | with_reducible refine r_next ?_
  | with_reducible refine r_c ?_ | with_reducible refine r_var (by with_unfolding_all exact rfl) ?_ | with_reducible refine r_op ?_ | with_reducible refine r_un ?_ | with_reducible refine r_I0 ?_ | ((with_reducible refine r_I ?_ ?_); · first | (show (0 : Int) < _; decide) | exact div_ok (by decide) (by decide)) | with_reducible refine r_U ?_
  | with_reducible refine r_eq (by with_unfolding_all exact rfl) ?_ | with_reducible refine r_ne (by with_unfolding_all exact rfl) ?_
  | with_reducible refine r_tstq ?_ | with_reducible refine r_tBq ?_ | with_reducible refine r_blq ?_ | with_reducible refine r_intq ?_ | with_reducible refine r_and ?_ | with_reducible refine r_or ?_ | with_reducible refine r_not ?_
  | with_reducible refine r_andV ?_ | with_reducible refine r_orV ?_ | with_reducible refine r_notV ?_
  | with_reducible refine r_nil ?_ | with_reducible refine r_cons ?_ | with_reducible refine r_call ?_ | with_reducible refine r_tup ?_ | with_reducible refine r_lst ?_ | with_reducible refine r_cb ?_ | with_reducible refine r_int1 ?_ | with_reducible refine r_ord ?_
  | with_reducible refine r_sl ?_ | with_reducible refine r_nop ?_ | with_reducible refine r_partq ?_ | with_reducible refine r_bm ?_ | with_reducible refine r_fld ?_
  | with_reducible refine r_lct ?_ | with_reducible refine r_lcl ?_ | with_reducible refine r_lcr ?_ | with_reducible refine r_sfort ?_ | with_reducible refine r_sforl ?_ | with_reducible refine r_sfors ?_ | with_reducible refine r_sforr ?_ | with_reducible refine r_sforz ?_
  | with_reducible refine r_fort ?_ | with_reducible refine r_forl ?_ | with_reducible refine r_forr ?_ | with_reducible refine r_sasgt ?_ | with_reducible refine r_asgt ?_ | with_reducible refine r_saug (by with_unfolding_all exact rfl) ?_ | with_reducible refine r_aug (by with_unfolding_all exact rfl) ?_ | with_reducible refine r_ip ?_ | with_reducible refine r_gname ?_ | with_reducible refine r_seq ?_
  | with_reducible refine r_dget ?_ | with_reducible refine r_din ?_ | with_reducible refine r_dnotin ?_ | with_reducible refine r_sdput ?_ | with_reducible refine r_dput ?_ | with_reducible refine r_mg ?_ | with_reducible refine r_rev ?_ | with_reducible refine r_dzip ?_
  | with_reducible refine r_lcz ?_ | with_reducible refine r_form ?_
  | with_reducible refine r_sfset ?_ | with_reducible refine r_fset ?_ | with_reducible refine r_sfaug ?_ | with_reducible refine r_meth ?_ | with_reducible refine r_make ?_
  | with_reducible refine r_srtl ?_ | with_reducible refine r_m1q ?_ | with_reducible refine r_strq ?_
  | with_reducible refine r_iteT ?_ | with_reducible refine r_iteF ?_)))
local macro_rules | `(tactic| walk_at "rs") => `(tactic| (repeat (first
  | with_reducible refine r_sasg ?_ | with_reducible refine r_sfset ?_ | with_reducible refine r_sfaug ?_ | with_reducible refine r_sdput ?_ | with_reducible refine r_sdrop ?_ | with_reducible refine r_asg ?_ | with_reducible refine r_drop ?_
  | with_reducible refine r_ret ?_ | with_reducible refine r_next ?_
  | with_reducible refine r_c ?_ | with_reducible refine r_var (by with_unfolding_all exact rfl) ?_ | with_reducible refine r_op ?_ | with_reducible refine r_un ?_ | with_reducible refine r_I0 ?_ | ((with_reducible refine r_I ?_ ?_); · first | (show (0 : Int) < _; decide) | exact div_ok (by decide) (by decide)) | with_reducible refine r_U ?_
  | with_reducible refine r_eq (by with_unfolding_all exact rfl) ?_ | with_reducible refine r_ne (by with_unfolding_all exact rfl) ?_
  | with_reducible refine r_tstq ?_ | with_reducible refine r_tBq ?_ | with_reducible refine r_blq ?_ | with_reducible refine r_intq ?_ | with_reducible refine r_and ?_ | with_reducible refine r_or ?_ | with_reducible refine r_not ?_
  | with_reducible refine r_andV ?_ | with_reducible refine r_orV ?_ | with_reducible refine r_notV ?_
  | with_reducible refine r_nil ?_ | with_reducible refine r_cons ?_ | with_reducible refine r_call ?_ | with_reducible refine r_tup ?_ | with_reducible refine r_lst ?_ | with_reducible refine r_cb ?_ | with_reducible refine r_int1 ?_ | with_reducible refine r_ord ?_
  | with_reducible refine r_sl ?_ | with_reducible refine r_nop ?_ | with_reducible refine r_partq ?_ | with_reducible refine r_bm ?_ | with_reducible refine r_fld ?_
  | with_reducible refine r_lct ?_ | with_reducible refine r_lcl ?_ | with_reducible refine r_lcr ?_ | with_reducible refine r_sfort ?_ | with_reducible refine r_sforl ?_ | with_reducible refine r_sfors ?_ | with_reducible refine r_sforr ?_ | with_reducible refine r_sforz ?_
  | with_reducible refine r_fort ?_ | with_reducible refine r_forl ?_ | with_reducible refine r_forr ?_ | with_reducible refine r_sasgt ?_ | with_reducible refine r_asgt ?_ | with_reducible refine r_saug (by with_unfolding_all exact rfl) ?_ | with_reducible refine r_aug (by with_unfolding_all exact rfl) ?_ | with_reducible refine r_ip ?_ | with_reducible refine r_gname ?_ | with_reducible refine r_seq ?_
  | with_reducible refine r_dget ?_ | with_reducible refine r_din ?_ | with_reducible refine r_dnotin ?_ | with_reducible refine r_sdput ?_ | with_reducible refine r_dput ?_ | with_reducible refine r_mg ?_ | with_reducible refine r_rev ?_ | with_reducible refine r_dzip ?_
  | with_reducible refine r_lcz ?_ | with_reducible refine r_form ?_
  | with_reducible refine r_sfset ?_ | with_reducible refine r_fset ?_ | with_reducible refine r_sfaug ?_ | with_reducible refine r_meth ?_ | with_reducible refine r_make ?_
  | with_reducible refine r_srtl ?_ | with_reducible refine r_m1q ?_ | with_reducible refine r_strq ?_
  | with_reducible refine r_iteT ?_ | with_reducible refine r_iteF ?_)))
local macro_rules | `(tactic| walk_at "tex") => `(tactic| (first
  | assumption | exact TEx.refl _ | exact TEx.of (by assumption) | ((refine TEx.trans ?_ (TEx.of (by assumption))); walk_at "tex") | ((refine TEx.trans ?_ (by assumption)); walk_at "tex")))
local macro_rules | `(tactic| walk_at "same") => `(tactic| (first
  | assumption | exact Same.refl _ | ((refine Same.trans ?_ (by assumption)); walk_at "same")))
local macro_rules | `(tactic| walk_at "tp") => `(tactic| (first
  | assumption | exact Tp.int _ | exact Tp.str _ | exact Tp.non | exact TpAll.nil | ((refine TpAll.cons ?_ ?_) <;> walk_at "tp") | ((refine Tp.mono ?_ (by assumption)); walk_at "tex") | ((refine TpAll.mono ?_ (by assumption)); walk_at "tex")))
local macro_rules | `(tactic| walk_at "hp") => `(tactic| (first
  | assumption | ((refine (TEx.trans ?_ (TEx.refl _)) _ _ (by assumption)); walk_at "tex")))
theorem Tb.exb {K : PySem.W.Frag} {H H' : Hp} (t : Tb K H) {l : Addr} {xs : List V} (hl : H l = some (.lst xs)) (e : ExB [l] H H') : Tb K H' := fun p hp => by
  obtain ⟨ps, h1, h2, h3⟩ := t p hp
  refine ⟨ps, e _ _ (by simpa using fun z => ne_of h1 hl (by intro z; cases z) z) h1, h2, fun pos cv hc => ?_⟩
  obtain ⟨c, e1, e2⟩ := h3 pos cv hc
  exact ⟨c, e1, e _ _ (by simpa using fun z => ne_of e2 hl (by intro z; cases z) z) e2⟩
theorem Gr.exb {K : PySem.W.Frag} {H H1 H2 : Hp} (g : Gr K H H1) {l : Addr} {xs : List V} (n : Nt H l) (hl : H1 l = some (.lst xs)) (e : ExB [l] H1 H2) : Gr K H H2 :=
  ⟨fun b o h m => e b o (by simpa using n.ne h m) (g.ext b o h m), fun t => (g.tb t).exb hl e⟩
theorem SqL.gr {K : PySem.W.Frag} {H H' : Hp} {a : Addr} {xs : List V} (h : SqL K H a xs) (g : Gr K H H') : SqL K H' a xs := by
  rcases h with (h | ⟨o, h⟩) | h
  · exact .inl (.inl (g.ext _ _ h fun ps z => by cases z))
  · exact .inl (.inr ⟨o, g.ext _ _ h fun ps z => by cases z⟩)
  · exact .inr h
theorem Scr.gr {K : PySem.W.Frag} {H H' : Hp} {a : Addr} (h : Scr K H a) (g : Gr K H H') : Scr K H' a := let ⟨ns, x, y⟩ := h; ⟨ns, Vt.SqL.gr x g, y⟩
theorem ints_ofP {G : Int → Prop} {ys : List V} (h : ∀ y ∈ ys, ∃ z : Int, y = .int z ∧ G z) : ∃ cs : List Int, ys = cs.map V.int ∧ ∀ c ∈ cs, G c := by
  induction ys with
  | nil => exact ⟨[], rfl, fun _ h => by cases h⟩
  | cons y r ih =>
    obtain ⟨z, e, hz⟩ := h y (List.mem_cons_self ..)
    obtain ⟨cs, e2, h2⟩ := ih fun y hy => h y (List.mem_cons_of_mem _ hy)
    refine ⟨z :: cs, by rw [e, e2]; rfl, fun c hc => ?_⟩
    rcases List.mem_cons.mp hc with e | hc
    · rw [e]; exact hz
    · exact h2 c hc
theorem num_at {ns : List Int} (hz : ∀ z ∈ ns, Num z) {j : Nat} (hj : j < ns.length) : ∃ z : Int, (ns.map V.int)[j]? = some (V.int z) ∧ Num z := by
  have : ns[j]? = some ns[j] := List.getElem?_eq_getElem hj
  exact ⟨ns[j], by rw [List.getElem?_map, this]; rfl, hz _ (List.getElem_mem _)⟩
theorem pick8b {x : Int} (h : 0 ≤ x ∧ x < 8) : ∃ z : Nat, atI [V.int 4, V.int 9, V.int 9, V.int 9, V.int 9, V.int 9, V.int 9, V.int 41] x = some (V.int z) ∧ 1 ≤ z ∧ z ≤ 41 := by
  have : x = 0 ∨ x = 1 ∨ x = 2 ∨ x = 3 ∨ x = 4 ∨ x = 5 ∨ x = 6 ∨ x = 7 := by omega
  rcases this with e | e | e | e | e | e | e | e <;> subst e
  · exact ⟨4, rfl, by decide, by decide⟩
  · exact ⟨9, rfl, by decide, by decide⟩
  · exact ⟨9, rfl, by decide, by decide⟩
  · exact ⟨9, rfl, by decide, by decide⟩
  · exact ⟨9, rfl, by decide, by decide⟩
  · exact ⟨9, rfl, by decide, by decide⟩
  · exact ⟨9, rfl, by decide, by decide⟩
  · exact ⟨41, rfl, by decide, by decide⟩
section
variable {P : Program} {w : World} {K : PySem.W.Frag} {mg : Str → Option Value} {base : Heap}
/-! ### _law_table -/
abbrev n_law_table : List Str := ["_law_script", "_law_name_here", "_law_first", "_law_numbers", "_law_count", "_law_k", "_law_columns_here", "_law_form_here", "_law_bounds", "_law_many"]
theorem sc_law_table : FnScope n_law_table ["_law_script", "_law_name_here", "_law_first"] (defScope s_law_table) := ⟨rfl, rfl, rfl, by decide +kernel, rfl, by decide +kernel, by decide +kernel⟩
theorem bd_law_table : BindH "_law_table" s_law_table ["_law_script", "_law_name_here", "_law_first"] := fun _ _ _ _ _ _ us hl => match us, hl with | [_, _, _], _ => rfl
def spTable (K : PySem.W.Frag) : Sp := fun vs H Q _ => ∃ (a : Addr) (nm : Str) (k : Nat), vs = [.ref a, .str nm, .int k] ∧ Scr K H a ∧ NmOk nm ∧ k ≤ 1000 ∧ Tb K H ∧
  ∀ (v : V) (t : Tab) (l : Addr) (H' : Hp), Gr K H H' → TabA H' v t l → Nt H l → t.Ok → t.name = nm → ColsK t.fm.cols t.fm.keys → Q v H'
theorem cal_law_table (T : Tx K mg) (L : Tl K mg base) : Cal P w K mg base 6 "_law_table" ["_law_script", "_law_name_here", "_law_first"] (spTable K) := by
  have c_law_draws := cal_law_draws (P := P) (w := w) (base := base) T
  have c_law_thing := cal_law_thing (P := P) (w := w) (base := base) T
  have c_law_columns := cal_law_columns (P := P) (w := w) (base := base) T
  have c_law_drawn_key := cal_law_drawn_key (P := P) (w := w) (base := base) T
  have c_law_form := cal_law_form (P := P) (w := w) (base := base) T L
  have c_law_table_rows := cal_law_table_rows (P := P) (w := w) (base := base) T
  refine cal_of T.at_law_table sc_law_table bd_law_table (fun vs H Q E h => ?_) fun f cdv A outer s H0 E hr => ⟨_, (pss_cons (ps_set (i := 3) sc_law_table.nd rfl (Or.inl rfl) (pe_cal c_law_draws (hr.mono (by omega)) (by rfl) (pa_cons (pe_cal c_law_thing (hr.mono (by omega)) (by rfl) (pa_cons (pv 0) (pa_cons (pv 2) pa_nil))) (pa_cons pe_int (pa_cons pe_int (pa_cons (pe_ten (n := 1000000000000) (by decide) ⟨by decide, by decide, by decide⟩ (pe_op op_pow pe_int pe_int)) pa_nil))))))
      (pss_cons (ps_set (i := 4) sc_law_table.nd rfl (Or.inl rfl) (pe_op op_add pe_int (pe_op op_mod (pe_callTy cr_int1 (by rfl) T.m_int (by decide +kernel) (pa_cons (pe_ix (ix_listK (K := K) rfl) (pv 3) pe_int (fun _ _ => rfl)) pa_nil)) pe_int)))
      (pss_cons (ps_if (pt_cmpR op_eq (pe_op op_mod (pe_callTy cr_int1 (by rfl) T.m_int (by decide +kernel) (pa_cons (pe_ix (ix_listK (K := K) rfl) (pv 3) pe_int (fun _ _ => rfl)) pa_nil)) pe_int) pe_int (nomark _))
      (pss_one (ps_set (i := 4) sc_law_table.nd rfl (Or.inl rfl) pe_int))
      pss_nil)
      (pss_cons (ps_set (i := 6) sc_law_table.nd rfl (Or.inl rfl) (pe_cal c_law_columns (hr.mono (by omega)) (by rfl) (pa_cons (pe_lc (own := [("_law_k", 5)]) rfl sc_law_table.nd (pi_range1 (by rfl) T.m_range (pa_cons (pv 4) pa_nil)) (blkOk_by (own := [("_law_k", 5)]) (N := n_law_table) (sc := defScope s_law_table) (by decide +kernel)) (fun _ _ _ _ _ => (pg_name (i := 5) sc_law_table.nd rfl (Or.inl rfl))) (fun _ _ _ _ _ => pts_nil) (fun _ _ _ _ _ => (pe_cal c_law_thing (hr.mono (by omega)) (by rfl) (pa_cons (pv 0) (pa_cons (pe_op op_add (pe_op op_add (pv 2) pe_int) (pv 5)) pa_nil))))) pa_nil)))
      (pss_cons (ps_set (i := 7) sc_law_table.nd rfl (Or.inl rfl) (pe_cal c_law_form (hr.mono (by omega)) (by rfl) (pa_cons (pv 6) (pa_cons (pe_cal c_law_drawn_key (hr.mono (by omega)) (by rfl) (pa_cons (pv 6) (pa_cons (pe_ix (ix_listK (K := K) rfl) (pv 3) pe_int (fun _ _ => rfl)) pa_nil))) pa_nil))))
      (pss_cons (ps_set (i := 8) sc_law_table.nd rfl (Or.inl rfl) (pe_lst (pa_cons pe_int (pa_cons pe_int (pa_cons pe_int (pa_cons pe_int (pa_cons pe_int (pa_cons pe_int (pa_cons pe_int (pa_cons pe_int pa_nil))))))))))
      (pss_cons (ps_set (i := 9) sc_law_table.nd rfl (Or.inl rfl) (pe_op op_mod (pe_callTy cr_int1 (by rfl) T.m_int (by decide +kernel) (pa_cons (pe_ix (ix_listK (K := K) rfl) (pv 3) pe_int (fun _ _ => rfl)) pa_nil)) (pe_ix (ix_listK (K := K) rfl) (pv 8) (pe_op op_mod (pe_callTy cr_int1 (by rfl) T.m_int (by decide +kernel) (pa_cons (pe_ix (ix_listK (K := K) rfl) (pv 3) pe_int (fun _ _ => rfl)) pa_nil)) pe_int) (fun _ _ => rfl))))
      (pss_one (ps_ret (pe_tup (pa_cons (pv 1) (pa_cons (pv 7) (pa_cons (pe_cal c_law_table_rows (hr.mono (by omega)) (by rfl) (pa_cons (pv 7) (pa_cons (pe_lc (own := [("_law_k", 5)]) rfl sc_law_table.nd (pi_range1 (by rfl) T.m_range (pa_cons (pv 9) pa_nil)) (blkOk_by (own := [("_law_k", 5)]) (N := n_law_table) (sc := defScope s_law_table) (by decide +kernel)) (fun _ _ _ _ _ => (pg_name (i := 5) sc_law_table.nd rfl (Or.inl rfl))) (fun _ _ _ _ _ => pts_nil) (fun _ _ _ _ _ => (pe_cal c_law_thing (hr.mono (by omega)) (by rfl) (pa_cons (pv 0) (pa_cons (pe_op op_add (pe_op op_add (pv 2) pe_int) (pv 5)) pa_nil))))) pa_nil))) pa_nil))))))))))))), fun vs H Q h => ?_⟩
  · obtain ⟨a, nm, k, rfl, _⟩ := h
    rfl
  · obtain ⟨a, nm, k, rfl, hs, hnm, hk, tb, q⟩ := h
    walk_at "rs"
    refine ⟨a, k, rfl, by omega, hs, fun z0 hz0 => ?_⟩
    walk_at "rs"
    refine ⟨z0, 19, 6, 10 ^ 12, rfl, hz0, by decide, by decide, by decide, by decide, fun l1 H1 ns e1 hns hnum hl1 _ => ?_⟩
    obtain ⟨t0, ht0, hn0⟩ := num_at hnum (j := 0) (by omega)
    obtain ⟨t1, ht1, hn1⟩ := num_at hnum (j := 1) (by omega)
    obtain ⟨t2, ht2, hn2⟩ := num_at hnum (j := 2) (by omega)
    obtain ⟨t3, ht3, hn3⟩ := num_at hnum (j := 3) (by omega)
    obtain ⟨t4, ht4, hn4⟩ := num_at hnum (j := 4) (by omega)
    walk_at "rs"
    refine r_ixL hl1 (atI_nat ht0) ?_
    walk_at "rs"
    refine r_join (fun σ' H' => ∃ c : Nat, 1 ≤ c ∧ c ≤ 12 ∧ H' = H1 ∧ σ' = [some (.ref a), some (.str nm), some (.int (k : Int)), some (.ref l1), some (.int (c : Int)), none, none, none, none, none]) (fun Z hZ => ?_) ?_
    · walk_at "rs"
      refine r_ixL hl1 (atI_nat ht1) ?_
      walk_at "rs"
      refine r_ite (fun _ => ?_) (fun _ => ?_)
      · walk_at "rs"
        exact hZ _ _ ⟨12, by decide, by decide, rfl, rfl⟩
      · have h1 := Int.emod_nonneg t0 (show (4 : Int) ≠ 0 by decide)
        have h2 := Int.emod_lt_of_pos t0 (show (0 : Int) < 4 by decide)
        have e : (1 + t0 % 4) = (((1 + t0 % 4).toNat : Nat) : Int) := by omega
        rw [e]
        exact hZ _ _ ⟨(1 + t0 % 4).toNat, by omega, by omega, rfl, rfl⟩
    rintro σ1 H1' ⟨cn, hc1, hc12, rfl, rfl⟩
    walk_at "rs"
    refine r_lcR (n := cn) (by omega) (fun _ => true) (fun i y _ => ∃ z : Int, y = V.int z ∧ Bg z) (fun _ _ _ _ _ h => h) (fun i hi => lc_one rfl fun H3 Qs e3 qs => ?_) fun L2 ys H2 hL2 e2 hl2 hp2 => ?_
    · walk_at "rs"
      refine ⟨a, k + 1 + i, by rw [Int.natCast_add, Int.natCast_add]; rfl, by omega, hs.gr (Gr.of (e1.trans e3)), fun z hz => ?_⟩
      exact qs _ H3 (Same.refl _) ⟨z, rfl, hz⟩
    have hyl := pd_len hp2
    rw [filter_all, List.length_range] at hyl
    obtain ⟨cs, ecs, hcs⟩ := ints_ofP (G := Bg) (ys := ys) fun y hy => by
      obtain ⟨i, hi⟩ := List.mem_iff_getElem?.mp hy
      obtain ⟨_, _, h⟩ := pd_get hp2 hi
      exact h
    rw [ecs] at hl2 hyl
    rw [List.length_map] at hyl
    walk_at "rs"
    refine ⟨L2, cs, rfl, hl2, hcs, by omega, fun lc cv cols H3 e3 hlc hl3 hcv hcl hnd hok => ?_⟩
    walk_at "rs"
    have e13 := e1.trans (e2.trans e3)
    refine r_ixL ((e2.trans e3) _ _ hl1) (atI_nat ht2) ?_
    walk_at "rs"
    refine ⟨lc, cv, cols, t2, rfl, hl3, hcv, hok, hnd, by omega, by omega, hn2, fun kl cv' cols' keys H4 x4 hl4 hcv4 hnm4 hok4 hk4 k1 k2 knd kin => ?_⟩
    walk_at "rs"
    have nlc : Nt H lc := by
      refine Nw.of (e1.trans e2) lc (Nt.none hlc)
    have g4 : Gr K H H4 := (Gr.of e13).exb nlc hl3 x4
    have hlen4 : cols'.length = cols.length := by
      have := congrArg List.length hnm4
      rwa [List.length_map, List.length_map] at this
    refine ⟨lc, kl, cv', cols', keys, rfl, g4.tb tb, hl4, hcv4, hk4, ⟨hok4, by rw [hnm4]; exact hnd, by omega, by omega, k1, k2, knd, kin⟩, fun fv fm H5 g5 hfv hfm hck => ?_⟩
    have g45 := g4.trans g5
    walk_at "rs"
    refine r_newL (Nat.le_of_ble_eq_true rfl) fun bl H6 hbl e6 hb6 => ?_
    walk_at "rs"
    have hl14 : H4 l1 = some (.lst (ns.map V.int)) := x4 _ _ (by
      simp only [List.mem_singleton]
      rintro rfl
      have := (e2 _ _ hl1)
      rw [this] at hlc
      cases hlc) ((e2.trans e3) _ _ hl1)
    have hl16 := e6 _ _ (g5.lst hl14)
    refine r_ixL hl16 (atI_nat ht3) ?_
    walk_at "rs"
    refine r_ixL hl16 (atI_nat ht4) ?_
    walk_at "rs"
    obtain ⟨bz, hbz, hb1, hb2⟩ := pick8b (x := t4 % 8) ⟨Int.emod_nonneg _ (by decide), Int.emod_lt_of_pos _ (by decide)⟩
    refine r_ixL hb6 hbz ?_
    walk_at "rs"
    have hbp : (0 : Int) < (bz : Int) := by omega
    refine r_I hbp ?_
    walk_at "rs"
    have p3 := Int.emod_nonneg t3 (show (bz : Int) ≠ 0 by omega)
    have p4 := Int.emod_lt_of_pos t3 hbp
    generalize hm : (t3 % (bz : Int)).toNat = m
    have em : t3 % (bz : Int) = (m : Int) := by omega
    rw [em]
    have hg6 := g45.trans (Gr.of e6)
    refine r_lcR (n := m) (by omega) (fun _ => true) (fun i y _ => ∃ z : Int, y = V.int z ∧ Bg z) (fun _ _ _ _ _ h => h) (fun i hi => lc_one rfl fun H7 Qs e7 qs => ?_) fun L7 ys7 H7 hL7 e7 hl7 hp7 => ?_
    · walk_at "rs"
      refine ⟨a, k + 5 + i, by rw [Int.natCast_add, Int.natCast_add]; rfl, by omega, hs.gr (hg6.trans (Gr.of e7)), fun z hz => ?_⟩
      exact qs _ H7 (Same.refl _) ⟨z, rfl, hz⟩
    have hyl7 := pd_len hp7
    rw [filter_all, List.length_range] at hyl7
    obtain ⟨cs7, ecs7, hcs7⟩ := ints_ofP (G := Bg) (ys := ys7) fun y hy => by
      obtain ⟨i, hi⟩ := List.mem_iff_getElem?.mp hy
      obtain ⟨_, _, h⟩ := pd_get hp7 hi
      exact h
    rw [ecs7] at hl7 hyl7
    rw [List.length_map] at hyl7
    walk_at "rs"
    refine ⟨fv, L7, cs7, fm, rfl, hfv.mono (TEx.of (e6.trans e7)), hfm, hl7, hcs7, by omega, fun lr rv rs H8 e8 hlr hl8 hrv hfit hsrt hrl => ?_⟩
    walk_at "rs"
    refine r_newT (Nat.le_of_ble_eq_true rfl) fun p H9 hp e9 hp9 => ?_
    walk_at "rs"
    have e79 := e7.trans (e8.trans e9)
    refine q (.ref p) ⟨nm, fm, rs⟩ lr H9 (hg6.trans (Gr.of e79)) ⟨p, fv, rv, rfl, hp9, hfv.mono (TEx.of (e6.trans e79)), e9 _ _ hl8, hrv.mono (TEx.of e9)⟩ ((hg6.trans (Gr.of e7)).fresh hlr) ⟨hnm.1, hnm.2, hfm, hfit, by show rs.length ≤ 64; omega, hsrt⟩ rfl hck
end
end Vt
-- VtG11
set_option Elab.async false
set_option linter.all false
set_option maxRecDepth 100000
set_option maxHeartbeats 4000000
namespace Vt
open PySem PySem.Spec PyProof.Rows L2 LamX NdefX
local macro_rules | `(tactic| walk_at "rd") => `(tactic| (repeat (first
  | with_reducible refine r_sasg ?_ | with_reducible refine r_sfset ?_ | with_reducible refine r_sfaug ?_ | with_reducible refine r_sdput ?_ | with_reducible refine r_sdrop ?_ | with_reducible refine r_swhen ?_ | with_reducible refine r_sif ?_ | with_reducible refine r_asg ?_ | with_reducible refine r_drop ?_
  | with_reducible refine r_ret ?_ | with_reducible refine r_if ?_ | with_reducible refine r_next ?_
  | with_reducible refine r_c ?_ | with_reducible refine r_var (by with_unfolding_all exact rfl) ?_ | with_reducible refine r_op ?_ | with_reducible refine r_un ?_ | with_reducible refine r_I0 ?_ | ((with_reducible refine r_I ?_ ?_); · first | (show (0 : Int) < _; decide) | exact div_ok (by decide) (by decide)) | with_reducible refine r_U ?_
  | with_reducible refine r_eq (by with_unfolding_all exact rfl) ?_ | with_reducible refine r_ne (by with_unfolding_all exact rfl) ?_
  | with_reducible refine r_tstq ?_ | with_reducible refine r_tBq ?_ | with_reducible refine r_blq ?_ | with_reducible refine r_intq ?_ | with_reducible refine r_and ?_ | with_reducible refine r_or ?_ | with_reducible refine r_not ?_
  | with_reducible refine r_andV ?_ | with_reducible refine r_orV ?_ | with_reducible refine r_notV ?_
  | with_reducible refine r_nil ?_ | with_reducible refine r_cons ?_ | with_reducible refine r_call ?_ | with_reducible refine r_tup ?_ | with_reducible refine r_lst ?_ | with_reducible refine r_cb ?_ | with_reducible refine r_int1 ?_ | with_reducible refine r_ord ?_
  | with_reducible refine r_sl ?_ | with_reducible refine r_nop ?_ | with_reducible refine r_partq ?_ | with_reducible refine r_bm ?_ | with_reducible refine r_fld ?_
  | with_reducible refine r_lct ?_ | with_reducible refine r_lcl ?_ | with_reducible refine r_lcr ?_ | with_reducible refine r_sfort ?_ | with_reducible refine r_sforl ?_ | with_reducible refine r_sfors ?_ | with_reducible refine r_sforr ?_ | with_reducible refine r_sforz ?_
  | with_reducible refine r_fort ?_ | with_reducible refine r_forl ?_ | with_reducible refine r_forr ?_ | with_reducible refine r_sasgt ?_ | with_reducible refine r_asgt ?_ | with_reducible refine r_saug (by with_unfolding_all exact rfl) ?_ | with_reducible refine r_aug (by with_unfolding_all exact rfl) ?_ | with_reducible refine r_ip ?_ | with_reducible refine r_gname ?_ | with_reducible refine r_seq ?_
  | with_reducible refine r_dget ?_ | with_reducible refine r_din ?_ | with_reducible refine r_dnotin ?_ | with_reducible refine r_sdput ?_ | with_reducible refine r_dput ?_ | with_reducible refine r_mg ?_ | with_reducible refine r_rev ?_ | with_reducible refine r_dzip ?_
  | with_reducible refine r_lcz ?_ | with_reducible refine r_form ?_
  | with_reducible refine r_sfset ?_ | with_reducible refine r_fset ?_ | with_reducible refine r_sfaug ?_ | with_reducible refine r_meth ?_ | with_reducible refine r_make ?_
  | with_reducible refine r_srtl ?_ | with_reducible refine r_m1q ?_ | with_reducible refine r_strq ?_
  | with_reducible refine r_iteT ?_ | with_reducible refine r_iteF ?_)))
local macro_rules | `(tactic| walk_at "rs") => `(tactic| (repeat (first
  | with_reducible refine r_sasg ?_ | with_reducible refine r_sfset ?_ | with_reducible refine r_sfaug ?_ | with_reducible refine r_sdput ?_ | with_reducible refine r_sdrop ?_ | with_reducible refine r_asg ?_ | with_reducible refine r_drop ?_
  | with_reducible refine r_ret ?_ | with_reducible refine r_next ?_
  | with_reducible refine r_c ?_ | with_reducible refine r_var (by with_unfolding_all exact rfl) ?_ | with_reducible refine r_op ?_ | with_reducible refine r_un ?_ | with_reducible refine r_I0 ?_ | ((with_reducible refine r_I ?_ ?_); · first | (show (0 : Int) < _; decide) | exact div_ok (by decide) (by decide)) | with_reducible refine r_U ?_
  | with_reducible refine r_eq (by with_unfolding_all exact rfl) ?_ | with_reducible refine r_ne (by with_unfolding_all exact rfl) ?_
  | with_reducible refine r_tstq ?_ | with_reducible refine r_tBq ?_ | with_reducible refine r_blq ?_ | with_reducible refine r_intq ?_ | with_reducible refine r_and ?_ | with_reducible refine r_or ?_ | with_reducible refine r_not ?_
  | with_reducible refine r_andV ?_ | with_reducible refine r_orV ?_ | with_reducible refine r_notV ?_
  | with_reducible refine r_nil ?_ | with_reducible refine r_cons ?_ | with_reducible refine r_call ?_ | with_reducible refine r_tup ?_ | with_reducible refine r_lst ?_ | with_reducible refine r_cb ?_ | with_reducible refine r_int1 ?_ | with_reducible refine r_ord ?_
  | with_reducible refine r_sl ?_ | with_reducible refine r_nop ?_ | with_reducible refine r_partq ?_ | with_reducible refine r_bm ?_ | with_reducible refine r_fld ?_
  | with_reducible refine r_lct ?_ | with_reducible refine r_lcl ?_ | with_reducible refine r_lcr ?_ | with_reducible refine r_sfort ?_ | with_reducible refine r_sforl ?_ | with_reducible refine r_sfors ?_ | with_reducible refine r_sforr ?_ | with_reducible refine r_sforz ?_
  | with_reducible refine r_fort ?_ | with_reducible refine r_forl ?_ | with_reducible refine r_forr ?_ | with_reducible refine r_sasgt ?_ | with_reducible refine r_asgt ?_ | with_reducible refine r_saug (by with_unfolding_all exact rfl) ?_ | with_reducible refine r_aug (by with_unfolding_all exact rfl) ?_ | with_reducible refine r_ip ?_ | with_reducible refine r_gname ?_ | with_reducible refine r_seq ?_
  | with_reducible refine r_dget ?_ | with_reducible refine r_din ?_ | with_reducible refine r_dnotin ?_ | with_reducible refine r_sdput ?_ | with_reducible refine r_dput ?_ | with_reducible refine r_mg ?_ | with_reducible refine r_rev ?_ | with_reducible refine r_dzip ?_
  | with_reducible refine r_lcz ?_ | with_reducible refine r_form ?_
  | with_reducible refine r_sfset ?_ | with_reducible refine r_fset ?_ | with_reducible refine r_sfaug ?_ | with_reducible refine r_meth ?_ | with_reducible refine r_make ?_
  | with_reducible refine r_srtl ?_ | with_reducible refine r_m1q ?_ | with_reducible refine r_strq ?_
  | with_reducible refine r_iteT ?_ | with_reducible refine r_iteF ?_)))
local macro_rules | `(tactic| walk_at "tex") => `(tactic| (first
  | assumption | exact TEx.refl _ | exact TEx.of (by assumption) | ((refine TEx.trans ?_ (TEx.of (by assumption))); walk_at "tex") | ((refine TEx.trans ?_ (by assumption)); walk_at "tex")))
local macro_rules | `(tactic| walk_at "same") => `(tactic| (first
  | assumption | exact Same.refl _ | ((refine Same.trans ?_ (by assumption)); walk_at "same")))
local macro_rules | `(tactic| walk_at "tp") => `(tactic| (first
  | assumption | exact Tp.int _ | exact Tp.str _ | exact Tp.non | exact TpAll.nil | ((refine TpAll.cons ?_ ?_) <;> walk_at "tp") | ((refine Tp.mono ?_ (by assumption)); walk_at "tex") | ((refine TpAll.mono ?_ (by assumption)); walk_at "tex")))
local macro_rules | `(tactic| walk_at "hp") => `(tactic| (first
  | assumption | ((refine (TEx.trans ?_ (TEx.refl _)) _ _ (by assumption)); walk_at "tex")))
theorem pd_zip {α β : Type} {F : α → β → Prop} : ∀ {l : List α} {m : List β}, Paired F l m → ∀ b ∈ l.zip m, F b.1 b.2
  | _, _, .nil, b, h => by simp at h
  | _, _, .cons r t, b, h => by
    rw [List.zip_cons_cons] at h
    rcases List.mem_cons.mp h with e | h
    · rw [e]; exact r
    · exact pd_zip t b h
theorem zip_pd {α β : Type} {F : α → β → Prop} : ∀ {ps : List (α × β)}, (∀ b ∈ ps, F b.1 b.2) → Paired F (ps.map (·.1)) (ps.map (·.2))
  | [], _ => .nil
  | b :: r, h => .cons (h b (List.mem_cons_self ..)) (zip_pd fun c hc => h c (List.mem_cons_of_mem _ hc))
/-- sorted with a key, the items told by any relation -/
theorem r_srtG {β : Type} {K : PySem.W.Frag} {te : TE} {N : List Str} {js : List Nat} {σ : L2.St} {H : Hp} {Q : VK} {p : Addr} {vs : List V} {bs : List β} (F : V → β → Prop) (kf : β → PyData) (tb : Tb K H) (h : H p = some (.lst vs)) (hd : Paired F vs bs) (hal : PySem.W.AllAlike (bs.map kf)) (hk : PySem.W.Sortable (bs.map kf)) (hdp : ∀ d ∈ bs, (kf d).depth ≤ 50)
    (ht : ∀ (v : V) (d : β), d ∈ bs → F v d → KeyT K te N (js.map (slotAt σ)) H v (kf d))
    (q : ∀ (l : Addr) (zs : List V) (es : List β) (H' : Hp), Gr K H H' → Nt H l → es.Perm bs → Srtd (es.map kf) → H' l = some (.lst zs) → Paired F zs es → Q (.ref l) H') : SrtLQ K te N js (.ref p) σ H Q := by
  have hl := pd_len hd
  refine ⟨tb, p, vs, bs.map kf, rfl, h, by rw [List.length_map]; exact hl, hal, hk, fun d hd' => ?_, fun i v k hv hk' => ?_, fun l ps H' g nl pm sr hl' => ?_⟩
  · obtain ⟨e, he, rfl⟩ := List.mem_map.mp hd'
    exact hdp e he
  · obtain ⟨d, hd', htp⟩ := pd_get' hd hv
    rw [List.getElem?_map, hd'] at hk'
    have e : kf d = k := Option.some.inj hk'
    rw [← e]
    exact ht v d (List.mem_iff_getElem?.mpr ⟨i, hd'⟩) htp
  · have e1 : (vs.zip bs).map (fun b : V × β => (b.1, kf b.2)) = vs.zip (bs.map kf) := by
      rw [List.zip_map_right]
      rfl
    obtain ⟨ps', pm', e'⟩ := L2.perm_lift (fun b : V × β => (b.1, kf b.2)) pm (vs.zip bs) e1
    have ez : ps.map (·.1) = ps'.map (·.1) := by rw [← e', List.map_map]; rfl
    have ek : ps.map (·.2) = (ps'.map (·.2)).map kf := by rw [← e', List.map_map, List.map_map]; rfl
    rw [ez] at hl'
    rw [ek] at sr
    refine q l _ (ps'.map (·.2)) H' g nl ?_ sr hl' (zip_pd fun b hb => pd_zip hd b (pm'.subset hb))
    have := pm'.map (·.2)
    rw [zip_snd hl] at this
    exact this
/-- the names of tables rise -/
def NmT (ts : List Tab) : Prop := SrtS (ts.map fun t => .str t.name)
theorem nmT_of {ts : List Tab} (nd : (ts.map (·.name)).Nodup) (h : Srtd (ts.map fun t => .str t.name)) : NmT ts := by
  refine srtS_of (fun a ha b hb e => ?_) ?_ h
  · obtain ⟨x, _, rfl⟩ := List.mem_map.mp ha
    obtain ⟨y, _, rfl⟩ := List.mem_map.mp hb
    rw [toks_str e]
  · have := List.Pairwise.map (S := fun a b => a ≠ b) PyData.str (fun x y n e => n (PyData.str.inj e)) nd
    rw [List.map_map] at this
    exact this
theorem tab_alike (ts : List Tab) : PySem.W.AllAlike (ts.map fun t => .str t.name) := by
  have : (ts.map fun t => PyData.str t.name) = (ts.map (·.name)).map PyData.str := by rw [List.map_map]; rfl
  rw [this]
  exact alike_strs _
theorem tab_sort (ts : List Tab) : PySem.W.Sortable (ts.map fun t => .str t.name) := by
  have : (ts.map fun t => PyData.str t.name) = (ts.map (·.name)).map PyData.str := by rw [List.map_map]; rfl
  rw [this]
  exact srt_strs _
/-- a table of the law's own making -/
structure Tab.Good (t : Tab) : Prop where
  ok : t.Ok
  ck : ColsK t.fm.cols t.fm.keys
section
variable {P : Program} {w : World} {K : PySem.W.Frag} {mg : Str → Option Value} {base : Heap}
/-! ### _law_tables -/
abbrev n_law_tables : List Str := ["_law_script", "_law_count", "_law_first", "_law_k", "_law_names_here", "_law_tables_here"]
theorem sc_law_tables : FnScope n_law_tables ["_law_script", "_law_count", "_law_first"] (defScope s_law_tables) := ⟨rfl, rfl, rfl, by decide +kernel, rfl, by decide +kernel, by decide +kernel⟩
theorem bd_law_tables : BindH "_law_tables" s_law_tables ["_law_script", "_law_count", "_law_first"] := fun _ _ _ _ _ _ us hl => match us, hl with | [_, _, _], _ => rfl
def spTables (K : PySem.W.Frag) : Sp := fun vs H Q _ => ∃ (a : Addr) (n k : Nat), vs = [.ref a, .int n, .int k] ∧ Scr K H a ∧ n ≤ 10 ∧ k ≤ 100 ∧ Tb K H ∧
  ∀ (l : Addr) (tv : List V) (ts : List Tab) (H' : Hp), Gr K H H' → H' l = some (.lst tv) → TabsV H' tv ts → ts.length = n → NmT ts → (∀ t ∈ ts, t.Good) → Q (.ref l) H'
theorem cal_law_tables (T : Tx K mg) (L : Tl K mg base) : Cal P w K mg base 7 "_law_tables" ["_law_script", "_law_count", "_law_first"] (spTables K) := by
  have c_law_draws := cal_law_draws (P := P) (w := w) (base := base) T
  have c_law_thing := cal_law_thing (P := P) (w := w) (base := base) T
  have c_law_names := cal_law_names (P := P) (w := w) (base := base) T
  have c_law_table := cal_law_table (P := P) (w := w) (base := base) T L
  refine cal_ofC T.ac_law_tables sc_law_tables bd_law_tables (fun vs H Q E h => ?_) fun f A outer s H0 E hr => ⟨_, (pss_cons (ps_set (i := 4) sc_law_tables.nd rfl (Or.inr rfl) (pe_cal c_law_names (hr.mono (by omega)) (by rfl) (pa_cons (pe_lc (own := [("_law_k", 3)]) rfl sc_law_tables.nd (pi_range1 (by rfl) T.m_range (pa_cons (pv 1) pa_nil)) (blkOk_by (own := [("_law_k", 3)]) (N := n_law_tables) (sc := defScope s_law_tables) (by decide +kernel)) (fun _ _ _ _ _ => (pg_name (i := 3) sc_law_tables.nd rfl (Or.inl rfl))) (fun _ _ _ _ _ => pts_nil) (fun _ _ _ _ _ => (pe_ix (ix_listK (K := K) rfl) (pe_cal c_law_draws (hr.mono (by omega)) (by rfl) (pa_cons (pe_cal c_law_thing (hr.mono (by omega)) (by rfl) (pa_cons (pv 0) (pa_cons (pe_op op_add (pv 2) (pe_op op_mulX pe_int (pv 3))) pa_nil))) (pa_cons pe_int (pa_cons pe_int (pa_cons (pe_ten (n := 1000000000000) (by decide) ⟨by decide, by decide, by decide⟩ (pe_op op_pow pe_int pe_int)) pa_nil))))) pe_int (fun _ _ => rfl)))) pa_nil)))
      (pss_cons (ps_setLc (i := 5) (own := [("_law_k", 3)]) rfl sc_law_tables.nd rfl rfl (sw_true rfl rfl rfl (by decide +kernel)) (pi_range1 (by rfl) T.m_range (pa_cons (pv 1) pa_nil)) (blkOk_by (own := [("_law_k", 3)]) (N := n_law_tables) (sc := defScope s_law_tables) (by decide +kernel)) (fun _ _ _ _ _ => (pg_name (i := 3) sc_law_tables.nd rfl (Or.inl rfl))) (fun _ _ _ _ _ => pts_nil) (fun _ _ _ _ _ => (pe_cal c_law_table (hr.mono (by omega)) (by rfl) (pa_cons (pv 0) (pa_cons (pe_ix (ix_listK (K := K) rfl) (pv 4) (pv 3) (fun _ _ => rfl)) (pa_cons (pe_op op_add (pv 2) (pe_op op_mulX pe_int (pv 3))) pa_nil))))))
      (pss_one (ps_ret (pe_srtL (K := K) (N := ["_law_table_here"]) (fr := []) (js := []) (x := "_law_table_here") (k := 0) rfl rfl (by rfl) T.m_sorted (pv 5) (hr.mono (by omega)) (L.tb _ tm_law_tables) rfl (tt_mem tm_law_tables) (L.hu tm_law_tables) (ndef_free (sc := defScope s_law_tables) (fr := []) (by decide +kernel)) (nscope_by (by decide +kernel)) (ndef_fr (sc := defScope s_law_tables) (by decide +kernel)) rfl rfl (fun _ _ _ _ _ us hl => match us, hl with | [_], _ => rfl) (fun q cl c' f A outer s H E hr' => (pe_ix (ix_tupK (K := K) rfl) (pv 0) pe_int (fun _ _ => rfl)))))))), fun vs H Q h => ?_⟩
  · obtain ⟨a, n, k, rfl, _⟩ := h
    rfl
  · obtain ⟨a, n, k, rfl, hs, hn, hk, tb, q⟩ := h
    walk_at "rs"
    refine r_lcR (n := n) (by omega) (fun _ => true) (fun i y _ => ∃ z : Int, y = V.int z ∧ Num z) (fun _ _ _ _ _ h => h) (fun i hi => lc_one rfl fun H3 Qs e3 qs => ?_) fun L2 ys H2 hL2 e2 hl2 hp2 => ?_
    · walk_at "rs"
      refine r_I (mul_bg (z := 13) (bg_small (by decide)) (show ((i : Int)).natAbs < 2 ^ 250 from i250 (by omega))) ?_
      walk_at "rs"
      refine ⟨a, k + 13 * i, by rw [Int.natCast_add, Int.natCast_mul]; rfl, by omega, hs.gr (Gr.of e3), fun z hz => ?_⟩
      walk_at "rs"
      refine ⟨z, 19, 7, 10 ^ 12, rfl, hz, by decide, by decide, by decide, by decide, fun l1 H4 ns e4 hns hnum hl1 _ => ?_⟩
      obtain ⟨t6, ht6, hn6⟩ := num_at hnum (j := 6) (by omega)
      walk_at "rs"
      exact r_ixL hl1 (atI_nat ht6) (qs _ H4 e4 ⟨t6, rfl, hn6⟩)
    have hyl := pd_len hp2
    rw [filter_all, List.length_range] at hyl
    obtain ⟨cs, ecs, hcs⟩ := ints_ofP (G := Num) (ys := ys) fun y hy => by
      obtain ⟨i, hi⟩ := List.mem_iff_getElem?.mp hy
      obtain ⟨_, _, h⟩ := pd_get hp2 hi
      exact h
    rw [ecs] at hl2 hyl
    rw [List.length_map] at hyl
    walk_at "rs"
    refine ⟨L2, cs, rfl, hl2, hcs, by omega, fun LN H3 nms e3 hnl hnd hnok hl3 => ?_⟩
    walk_at "rs"
    refine r_lcRg (n := n) (fun L i acc Hc => Gr K H3 Hc ∧ Hc L = some (.lst acc) ∧ ∃ ts, TabsX Hc L acc ts ∧ ts.map (·.name) = nms.take i ∧ ∀ t ∈ ts, t.Good) (by omega) (fun L H' hL e hl' => ⟨Gr.of e, hl', [], .nil, rfl, fun _ h => (by cases h)⟩) (fun L i ac Hc hL hi ⟨g, hLc, ts, hpx, hnm, hgood⟩ _ => ?_) fun L ac Hc hL ⟨g, hLc, ts, hpx, hnm, hgood⟩ _ => ?_
    · have hni : nms[i]? = some nms[i] := List.getElem?_eq_getElem (by omega)
      refine g_one rfl fun Qs qs => ?_
      walk_at "rs"
      refine r_ixL (g.lst hl3) (atI_nat (j := i) (by rw [List.getElem?_map, hni]; rfl)) ?_
      walk_at "rs"
      refine r_I (mul_bg (z := 13) (bg_small (by decide)) (show ((i : Int)).natAbs < 2 ^ 250 from i250 (by omega))) ?_
      walk_at "rs"
      have gH := (Gr.of (e2.trans e3)).trans g
      refine ⟨a, nms[i], k + 13 * i, by rw [Int.natCast_add, Int.natCast_mul]; rfl, hs.gr gH, hnok _ (List.getElem_mem _), by omega, gH.tb tb, fun v t l H5 g5 hta nl htok htn hck => ?_⟩
      have hL5 := g5.lst hLc
      have nL : l ≠ L := fun e => by
        subst e
        obtain ⟨ps, z⟩ := nl _ hLc
        cases z
      refine qs _ H5 hL5 ⟨(g.trans g5).mut (Nt.none hL) hL5 trivial, upd_same, ts ++ [t], ?_, ?_, fun t' ht' => ?_⟩
      · exact pd_snoc ((hpx.gr g5).upd hL5) ⟨l, nL, hta.upd hL5 nL⟩
      · rw [List.map_append, hnm, List.take_add_one, hni, List.map_singleton, htn]
        rfl
      · rcases List.mem_append.mp ht' with h | h
        · exact hgood t' h
        · rw [List.mem_singleton.mp h]; exact ⟨htok, hck⟩
    · have gH := (Gr.of (e2.trans e3)).trans g
      have hnm2 : ts.map (·.name) = nms := by
        rw [hnm]
        exact List.take_of_length_le (by omega)
      walk_at "rs"
      refine r_srtG (fun v t => ∃ l, TabA Hc v t l) (fun t : Tab => PyData.str t.name) (gH.tb tb) hLc hpx.v (tab_alike ts) (tab_sort ts) (fun t _ => ?_) (fun v t ht hF H3 Qs g3 qs => ?_) fun l zs es H5 g5 nl pm sr hl5 hz5 => ?_
      · show (PyData.str t.name).depth ≤ 50
        unfold PyData.depth
        exact Nat.zero_le _
      · obtain ⟨l, p, f', rv, rfl, hp, _⟩ := hF
        walk_at "rs"
        exact r_ixT (g3.tex _ _ hp) (atI_nat (j := 0) rfl) (qs _ H3 (Gr.refl _ _) (.str _))
      · refine q l zs es H5 (gH.trans g5) hl5 (TabsV.gr hz5 g5) ?_ (nmT_of ?_ sr) fun t ht => hgood t (pm.subset ht)
        · rw [pm.length_eq]
          have := congrArg List.length hnm2
          rw [List.length_map] at this
          omega
        · exact ((pm.map (·.name)).nodup_iff).mpr (by rw [hnm2]; exact hnd)
end
end Vt
-- VtG12
set_option Elab.async false
set_option linter.all false
set_option maxRecDepth 100000
set_option maxHeartbeats 4000000
namespace Vt
open PySem PySem.Spec PyProof.Rows L2 LamX NdefX
local macro_rules | `(tactic| walk_at "rd") => `(tactic| (repeat (first
  | with_reducible refine r_sasg ?_ | with_reducible refine r_sfset ?_ | with_reducible refine r_sfaug ?_ | with_reducible refine r_sdput ?_ | with_reducible refine r_sdrop ?_ | with_reducible refine r_swhen ?_ | with_reducible refine r_sif ?_ | with_reducible refine r_asg ?_ | with_reducible refine r_drop ?_
  | with_reducible refine r_ret ?_ | with_reducible refine r_if ?_ | with_reducible refine r_next ?_
  | with_reducible refine r_c ?_ | with_reducible refine r_var (by with_unfolding_all exact rfl) ?_ | with_reducible refine r_op ?_ | with_reducible refine r_un ?_ | with_reducible refine r_I0 ?_ | ((with_reducible refine r_I ?_ ?_); · first | (show (0 : Int) < _; decide) | exact div_ok (by decide) (by decide)) | with_reducible refine r_U ?_
  | with_reducible refine r_eq (by with_unfolding_all exact rfl) ?_ | with_reducible refine r_ne (by with_unfolding_all exact rfl) ?_
  | with_reducible refine r_tstq ?_ | with_reducible refine r_tBq ?_ | with_reducible refine r_blq ?_ | with_reducible refine r_intq ?_ | with_reducible refine r_and ?_ | with_reducible refine r_or ?_ | with_reducible refine r_not ?_
  | with_reducible refine r_andV ?_ | with_reducible refine r_orV ?_ | with_reducible refine r_notV ?_
  | with_reducible refine r_nil ?_ | with_reducible refine r_cons ?_ | with_reducible refine r_call ?_ | with_reducible refine r_tup ?_ | with_reducible refine r_lst ?_ | with_reducible refine r_cb ?_ | with_reducible refine r_int1 ?_ | with_reducible refine r_ord ?_
  | with_reducible refine r_sl ?_ | with_reducible refine r_nop ?_ | with_reducible refine r_partq ?_ | with_reducible refine r_bm ?_ | with_reducible refine r_fld ?_
  | with_reducible refine r_lct ?_ | with_reducible refine r_lcl ?_ | with_reducible refine r_lcr ?_ | with_reducible refine r_sfort ?_ | with_reducible refine r_sforl ?_ | with_reducible refine r_sfors ?_ | with_reducible refine r_sforr ?_ | with_reducible refine r_sforz ?_
  | with_reducible refine r_fort ?_ | with_reducible refine r_forl ?_ | with_reducible refine r_forr ?_ | with_reducible refine r_sasgt ?_ | with_reducible refine r_asgt ?_ | with_reducible refine r_saug (by with_unfolding_all exact rfl) ?_ | with_reducible refine r_aug (by with_unfolding_all exact rfl) ?_ | with_reducible refine r_ip ?_ | with_reducible refine r_gname ?_ | with_reducible refine r_seq ?_
  | with_reducible refine r_dget ?_ | with_reducible refine r_din ?_ | with_reducible refine r_dnotin ?_ | with_reducible refine r_sdput ?_ | with_reducible refine r_dput ?_ | with_reducible refine r_mg ?_ | with_reducible refine r_rev ?_ | with_reducible refine r_dzip ?_
  | with_reducible refine r_lcz ?_ | with_reducible refine r_form ?_
  | with_reducible refine r_sfset ?_ | with_reducible refine r_fset ?_ | with_reducible refine r_sfaug ?_ | with_reducible refine r_meth ?_ | with_reducible refine r_make ?_
  | with_reducible refine r_srtl ?_ | with_reducible refine r_m1q ?_ | with_reducible refine r_strq ?_
  | with_reducible refine r_iteT ?_ | with_reducible refine r_iteF ?_)))
local macro_rules | `(tactic| walk_at "rs") => `(tactic| (repeat (first
  | with_reducible refine r_sasg ?_ | with_reducible refine r_sfset ?_ | with_reducible refine r_sfaug ?_ | with_reducible refine r_sdput ?_ | with_reducible refine r_sdrop ?_ | with_reducible refine r_asg ?_ | with_reducible refine r_drop ?_
  | with_reducible refine r_ret ?_ | with_reducible refine r_next ?_
  | with_reducible refine r_c ?_ | with_reducible refine r_var (by with_unfolding_all exact rfl) ?_ | with_reducible refine r_op ?_ | with_reducible refine r_un ?_ | with_reducible refine r_I0 ?_ | ((with_reducible refine r_I ?_ ?_); · first | (show (0 : Int) < _; decide) | exact div_ok (by decide) (by decide)) | with_reducible refine r_U ?_
  | with_reducible refine r_eq (by with_unfolding_all exact rfl) ?_ | with_reducible refine r_ne (by with_unfolding_all exact rfl) ?_
  | with_reducible refine r_tstq ?_ | with_reducible refine r_tBq ?_ | with_reducible refine r_blq ?_ | with_reducible refine r_intq ?_ | with_reducible refine r_and ?_ | with_reducible refine r_or ?_ | with_reducible refine r_not ?_
  | with_reducible refine r_andV ?_ | with_reducible refine r_orV ?_ | with_reducible refine r_notV ?_
  | with_reducible refine r_nil ?_ | with_reducible refine r_cons ?_ | with_reducible refine r_call ?_ | with_reducible refine r_tup ?_ | with_reducible refine r_lst ?_ | with_reducible refine r_cb ?_ | with_reducible refine r_int1 ?_ | with_reducible refine r_ord ?_
  | with_reducible refine r_sl ?_ | with_reducible refine r_nop ?_ | with_reducible refine r_partq ?_ | with_reducible refine r_bm ?_ | with_reducible refine r_fld ?_
  | with_reducible refine r_lct ?_ | with_reducible refine r_lcl ?_ | with_reducible refine r_lcr ?_ | with_reducible refine r_sfort ?_ | with_reducible refine r_sforl ?_ | with_reducible refine r_sfors ?_ | with_reducible refine r_sforr ?_ | with_reducible refine r_sforz ?_
  | with_reducible refine r_fort ?_ | with_reducible refine r_forl ?_ | with_reducible refine r_forr ?_ | with_reducible refine r_sasgt ?_ | with_reducible refine r_asgt ?_ | with_reducible refine r_saug (by with_unfolding_all exact rfl) ?_ | with_reducible refine r_aug (by with_unfolding_all exact rfl) ?_ | with_reducible refine r_ip ?_ | with_reducible refine r_gname ?_ | with_reducible refine r_seq ?_
  | with_reducible refine r_dget ?_ | with_reducible refine r_din ?_ | with_reducible refine r_dnotin ?_ | with_reducible refine r_sdput ?_ | with_reducible refine r_dput ?_ | with_reducible refine r_mg ?_ | with_reducible refine r_rev ?_ | with_reducible refine r_dzip ?_
  | with_reducible refine r_lcz ?_ | with_reducible refine r_form ?_
  | with_reducible refine r_sfset ?_ | with_reducible refine r_fset ?_ | with_reducible refine r_sfaug ?_ | with_reducible refine r_meth ?_ | with_reducible refine r_make ?_
  | with_reducible refine r_srtl ?_ | with_reducible refine r_m1q ?_ | with_reducible refine r_strq ?_
  | with_reducible refine r_iteT ?_ | with_reducible refine r_iteF ?_)))
local macro_rules | `(tactic| walk_at "tex") => `(tactic| (first
  | assumption | exact TEx.refl _ | exact TEx.of (by assumption) | ((refine TEx.trans ?_ (TEx.of (by assumption))); walk_at "tex") | ((refine TEx.trans ?_ (by assumption)); walk_at "tex")))
local macro_rules | `(tactic| walk_at "same") => `(tactic| (first
  | assumption | exact Same.refl _ | ((refine Same.trans ?_ (by assumption)); walk_at "same")))
local macro_rules | `(tactic| walk_at "tp") => `(tactic| (first
  | assumption | exact Tp.int _ | exact Tp.str _ | exact Tp.non | exact TpAll.nil | ((refine TpAll.cons ?_ ?_) <;> walk_at "tp") | ((refine Tp.mono ?_ (by assumption)); walk_at "tex") | ((refine TpAll.mono ?_ (by assumption)); walk_at "tex")))
local macro_rules | `(tactic| walk_at "hp") => `(tactic| (first
  | assumption | ((refine (TEx.trans ?_ (TEx.refl _)) _ _ (by assumption)); walk_at "tex")))
/-- 'x' * n, n of 0, 1, 2 -/
def rRepX : R2 := fun x y H Q => ∃ j : Int, x = .str "x" ∧ y = .int j ∧ 0 ≤ j ∧ j < 3 ∧ ∀ s : Str, s.length ≤ 2 → Q (.str s) H
theorem op_repX {X : Cx} : OpR X (binaryOp .Mult) rRepX := by
  intro pins s σ H x y v u Q I rx ry h
  obtain ⟨j, rfl, rfl, h0, h3, q⟩ := h
  obtain ⟨t, rfl⟩ := rx
  obtain ⟨t', rfl⟩ := ry
  have fin : ∀ (z : Str) (tk : Tok) (n : Nat), z.length ≤ 2 → EP X pins σ Q (.str z tk) { s with toks := n } := fun z tk n hz => ⟨.str z, H, I.tok n, ⟨tk, rfl⟩, q z hz⟩
  have hj : j = 0 ∨ j = 1 ∨ j = 2 := by omega
  rcases hj with e | e | e <;> subst e
  · exact PySem.P.mul_str_none (by decide) (by decide) (fin _ _ _ (by decide))
  · refine PySem.P.mul_str (by decide) (fun _ h => absurd h (by decide)) (fun _ h => absurd h (by decide)) ?_
    rw [if_neg (by decide), if_pos (by decide)]
    exact fin _ _ s.toks (by decide)
  · refine PySem.P.mul_str (by decide) (fun _ _ => by decide +kernel) (fun _ _ => by decide +kernel) ?_
    rw [if_neg (by decide), if_neg (by decide +kernel)]
    exact ⟨by decide +kernel, fin _ _ _ (by decide +kernel)⟩
theorem r_repX {Q : VK} {H : Hp} {j : Int} (h0 : 0 ≤ j) (h3 : j < 3) (q : ∀ s : Str, s.length ≤ 2 → Q (.str s) H) : rRepX (.str "x") (.int j) H Q := ⟨j, rfl, rfl, h0, h3, q⟩
/-- the names of the wide state rise -/
theorem two_lt {j k : Nat} (h : j < k) (s t : Str) : dLt (.str (twoL j ++ s)) (.str (twoL k ++ t)) = true := by
  have e : ∀ (m : Nat) (s : Str), (twoL m ++ s).cps.toList = (97 + m / 26) :: (97 + m % 26) :: s.cps.toList := fun m s => by
    show TL.tl _ = _
    unfold twoL
    rw [TL.tl_append, TL.tl_append]
    rfl
  show PyProof.Rows.lexLt itemOrd (PySem.W.keyToks (.str _)) (PySem.W.keyToks (.str _)) = true
  rw [PySem.W.keyToks, PySem.W.keyToks, e, e]
  rw [PyProof.Rows.lex_true]
  left
  show decide (_ < _) = true
  rw [decide_eq_true_iff, List.cons_lt_cons_iff, List.cons_lt_cons_iff]
  by_cases e : j / 26 = k / 26
  · exact .inr ⟨by rw [e], .inl (by omega)⟩
  · exact .inl (by omega)
theorem two_z {j : Nat} (h : j < 200) (s : Str) : twoL j ++ s ≠ "zzzz" := fun e => by
  have e2 : TL.tl (twoL j ++ s) = TL.tl "zzzz" := by rw [e]
  unfold twoL at e2
  rw [TL.tl_append, TL.tl_append] at e2
  have e3 : (97 + j / 26) = 122 := by
    have := congrArg List.head? e2
    exact Option.some.inj this
  omega
/-! slices -/
def cutG {α : Type} (xs : List α) (lo hi : Option Int) : List α := (xs.drop (HT.sIx xs.length 0 lo)).take (HT.sIx xs.length xs.length hi - HT.sIx xs.length 0 lo)
theorem cutG_tp {H : Hp} {xs : List V} {ds : List PyData} (h : TpAll H xs ds) (lo hi : Option Int) : TpAll H (cutV xs lo hi) (cutG ds lo hi) := by
  unfold cutV cutG
  rw [h.length]
  exact (h.drop _).take _
theorem cutG_map {α β : Type} (f : α → β) (xs : List α) (lo hi : Option Int) : cutG (xs.map f) lo hi = (cutG xs lo hi).map f := by
  unfold cutG
  rw [List.length_map, List.map_take, List.map_drop]
theorem cutG_sub {α : Type} (xs : List α) (lo hi : Option Int) : (cutG xs lo hi).Sublist xs := (List.take_sublist _ _).trans (List.drop_sublist _ _)
/-- a table with some of its rows -/
theorem Tab.Good.sub {t : Tab} (g : t.Good) {nm : Str} (h : NmOk nm) {rs : List (List PyData)} (s : rs.Sublist t.rows) : Tab.Good ⟨nm, t.fm, rs⟩ :=
  ⟨⟨h.1, h.2, g.ok.fm, fun r hr => g.ok.fit r (s.subset hr), Nat.le_trans s.length_le g.ok.len, g.ok.srt.sublist (s.map _)⟩, g.ck⟩
theorem two_ok {m : Nat} {s : Str} (h : s.length ≤ 2) : NmOk (twoL m ++ s) := by
  refine ⟨?_, ?_⟩ <;> rw [app_len, twoL_len] <;> omega
section
variable {P : Program} {w : World} {K : PySem.W.Frag} {mg : Str → Option Value} {base : Heap}
/-! ### _law_wide -/
abbrev n_law_wide : List Str := ["_law_script", "_law_count", "_law_letters", "_law_models", "_law_tables_here", "_law_k", "_law_numbers", "_law_name_here", "_law_form_here"]
theorem sc_law_wide : FnScope n_law_wide ["_law_script", "_law_count"] (defScope s_law_wide) := ⟨rfl, rfl, rfl, by decide +kernel, rfl, by decide +kernel, by decide +kernel⟩
theorem bd_law_wide : BindH "_law_wide" s_law_wide ["_law_script", "_law_count"] := fun _ _ _ _ _ _ us hl => match us, hl with | [_, _], _ => rfl
def spWide (K : PySem.W.Frag) : Sp := fun vs H Q _ => ∃ (a : Addr) (n : Nat), vs = [.ref a, .int n] ∧ Scr K H a ∧ n ≤ 101 ∧ Tb K H ∧
  ∀ (l : Addr) (tv : List V) (ts : List Tab) (H' : Hp), Gr K H H' → H' l = some (.lst tv) → TabsV H' tv ts → ts.length = n → NmT ts → (∀ t ∈ ts, t.Good) → (∀ t ∈ ts, t.name ≠ "zzzz") → Q (.ref l) H'
theorem cal_law_wide (T : Tx K mg) (L : Tl K mg base) : Cal P w K mg base 7 "_law_wide" ["_law_script", "_law_count"] (spWide K) := by
  have c_law_draws := cal_law_draws (P := P) (w := w) (base := base) T
  have c_law_thing := cal_law_thing (P := P) (w := w) (base := base) T
  have c_law_table := cal_law_table (P := P) (w := w) (base := base) T L
  refine cal_of T.at_law_wide sc_law_wide bd_law_wide (fun vs H Q E h => ?_) fun f cdv A outer s H0 E hr => ⟨_, (pss_cons (ps_set (i := 2) sc_law_wide.nd rfl (Or.inl rfl) pe_str)
      (pss_cons (ps_set (i := 3) sc_law_wide.nd rfl (Or.inl rfl) (pe_lst (pa_cons (pe_cal c_law_table (hr.mono (by omega)) (by rfl) (pa_cons (pv 0) (pa_cons pe_str (pa_cons pe_int pa_nil)))) (pa_cons (pe_cal c_law_table (hr.mono (by omega)) (by rfl) (pa_cons (pv 0) (pa_cons pe_str (pa_cons pe_int pa_nil)))) pa_nil))))
      (pss_cons (ps_set (i := 4) sc_law_wide.nd rfl (Or.inl rfl) (pe_lst pa_nil))
      (pss_cons (ps_for PassesOwn.never rfl (pi_range1 (by rfl) T.m_range (pa_cons (pv 1) pa_nil)) (pg_name (i := 5) sc_law_wide.nd rfl (Or.inl rfl))
      (pss_cons (ps_set (i := 6) sc_law_wide.nd rfl (Or.inl rfl) (pe_cal c_law_draws (hr.mono (by omega)) (by rfl) (pa_cons (pe_cal c_law_thing (hr.mono (by omega)) (by rfl) (pa_cons (pv 0) (pa_cons (pe_op op_add pe_int (pv 5)) pa_nil))) (pa_cons pe_int (pa_cons pe_int (pa_cons pe_int pa_nil))))))
        (pss_cons (ps_set (i := 7) sc_law_wide.nd rfl (Or.inl rfl) (pe_op op_add_str (pe_op op_add_str (pe_ix ix_str (pv 2) (pe_op op_fdivW (pv 5) pe_int) (fun _ _ => rfl)) (pe_ix ix_str (pv 2) (pe_op op_mod (pe_callTy cr_int1 (by rfl) T.m_int (by decide +kernel) (pa_cons (pv 5) pa_nil)) pe_int) (fun _ _ => rfl))) (pe_op op_repX pe_str (pe_op op_mod (pe_callTy cr_int1 (by rfl) T.m_int (by decide +kernel) (pa_cons (pe_ix (ix_listK (K := K) rfl) (pv 6) pe_int (fun _ _ => rfl)) pa_nil)) pe_int))))
        (pss_cons (ps_set (i := 8) sc_law_wide.nd rfl (Or.inl rfl) (pe_ix (ix_tupK (K := K) rfl) (pe_ix (ix_listK (K := K) rfl) (pv 3) (pe_op op_mod (pe_callTy cr_int1 (by rfl) T.m_int (by decide +kernel) (pa_cons (pe_ix (ix_listK (K := K) rfl) (pv 6) pe_int (fun _ _ => rfl)) pa_nil)) pe_int) (fun _ _ => rfl)) pe_int (fun _ _ => rfl)))
        (pss_one (ps_expr (pe_bm PySem.F.plainAttrs_list PySem.F.slot_list_append PySem.F.type_list_append mt_append (pv 4) (pa_cons (pe_tup (pa_cons (pv 7) (pa_cons (pv 8) (pa_cons (pe_slice (sl_listK (K := K) rfl) (pe_ix (ix_tupK (K := K) rfl) (pe_ix (ix_listK (K := K) rfl) (pv 3) (pe_op op_mod (pe_callTy cr_int1 (by rfl) T.m_int (by decide +kernel) (pa_cons (pe_ix (ix_listK (K := K) rfl) (pv 6) pe_int (fun _ _ => rfl)) pa_nil)) pe_int) (fun _ _ => rfl)) pe_int (fun _ _ => rfl)) po_none (po_some (pe_op op_mod (pe_callTy cr_int1 (by rfl) T.m_int (by decide +kernel) (pa_cons (pe_ix (ix_listK (K := K) rfl) (pv 6) pe_int (fun _ _ => rfl)) pa_nil)) pe_int))) pa_nil)))) pa_nil))))))))
      (pss_one (ps_ret (pv 4))))))), fun vs H Q h => ?_⟩
  · obtain ⟨a, n, rfl, _⟩ := h
    rfl
  · obtain ⟨a, n, rfl, hs, hn, tb, q⟩ := h
    walk_at "rs"
    refine ⟨a, "a", 1, rfl, hs, ⟨by decide +kernel, by decide +kernel⟩, by decide, tb, fun v1 t1 l1 H1 g1 ta1 nl1 ok1 nm1 ck1 => ?_⟩
    walk_at "rs"
    refine ⟨a, "b", 14, rfl, hs.gr g1, ⟨by decide +kernel, by decide +kernel⟩, by decide, g1.tb tb, fun v2 t2 l2 H2 g2 ta2 nl2 ok2 nm2 ck2 => ?_⟩
    walk_at "rs"
    have ta1 := ta1.gr g2
    refine r_newL (Nat.le_of_ble_eq_true rfl) fun M H3 hM e3 hM3 => ?_
    walk_at "rs"
    refine r_newL (Nat.zero_le _) fun R H4 hR e4 hR4 => ?_
    walk_at "rs"
    have nR : Nt H3 R := Nt.none hR
    refine r_forR (N := n) (by omega) (fun i σ' H' => ∃ (tv : List V) (ts : List Tab) (z5 z6 z7 z8 : Option V), Gr K H3 H' ∧ H' R = some (.lst tv) ∧ TabsX H' R tv ts ∧ ts.length = i ∧ NmT ts ∧ (∀ t ∈ ts, t.Good ∧ ∃ m s, m < i ∧ t.name = twoL m ++ s) ∧ σ' = [some (.ref a), some (.int (n : Int)), some (.str lettersS), some (.ref M), some (.ref R), z5, z6, z7, z8])
      ⟨[], [], none, none, none, none, Gr.of e4, hR4, .nil, rfl, List.Pairwise.nil, fun _ h => (by cases h), rfl⟩ ?_ ?_
    · rintro i σ' H' hi ⟨tv, ts, z5, z6, z7, z8, g, hRl, hpx, htl, hnm, hall, rfl⟩
      have gH := (g1.trans g2).trans ((Gr.of e3).trans g)
      walk_at "rs"
      refine ⟨a, 27 + i, by rw [Int.natCast_add]; rfl, by omega, hs.gr gH, fun z hz => ?_⟩
      walk_at "rs"
      refine ⟨z, 43, 3, 1000, rfl, hz, by decide, by decide, by decide, by decide, fun ln H5 ns e5 hns hnum hl5 _ => ?_⟩
      obtain ⟨y0, hy0, hn0⟩ := num_at hnum (j := 0) (by omega)
      obtain ⟨y1, hy1, hn1⟩ := num_at hnum (j := 1) (by omega)
      obtain ⟨y2, hy2, hn2⟩ := num_at hnum (j := 2) (by omega)
      have hj1 : ((i : Int) / 26) = ((i / 26 : Nat) : Int) := by omega
      have hj2 : ((i : Int) % 26) = ((i % 26 : Nat) : Int) := by omega
      walk_at "rs"
      rw [hj1]
      refine r_ixS letters_len (letter_at (by omega)) ?_
      walk_at "rs"
      rw [hj2]
      refine r_ixS letters_len (letter_at (by omega)) ?_
      refine ⟨_, _, rfl, rfl, by show 1 + 1 ≤ sizeLine; decide, ?_⟩
      walk_at "rs"
      refine r_ixL hl5 (atI_nat hy2) ?_
      walk_at "rs"
      refine r_repX (Int.emod_nonneg _ (by decide)) (Int.emod_lt_of_pos _ (by decide)) fun sx hsx => ?_
      refine ⟨_, _, rfl, rfl, Nat.le_trans (show (twoL i).length + sx.length ≤ 100 by rw [twoL_len]; omega) (by decide), ?_⟩
      have gM : Gr K H3 H5 := g.trans (Gr.of e5)
      have hM5 := gM.lst hM3
      obtain ⟨v, t, l, hv, tat, good⟩ : ∃ v t l, atI [v1, v2] (y0 % 2) = some v ∧ TabA H5 v t l ∧ t.Good := by
        have gg : Gr K H2 H5 := (Gr.of e3).trans gM
        rcases Int.emod_two_eq y0 with e | e <;> rw [e]
        · exact ⟨v1, t1, l1, rfl, ta1.gr gg, ⟨ok1, ck1⟩⟩
        · exact ⟨v2, t2, l2, rfl, ta2.gr gg, ⟨ok2, ck2⟩⟩
      obtain ⟨p, fv, rv, rfl, hp, hfv, hl, hrv⟩ := tat
      walk_at "rs"
      refine r_ixL hl5 (atI_nat hy0) ?_
      walk_at "rs"
      refine r_ixL hM5 hv ?_
      walk_at "rs"
      refine r_ixT hp (atI_nat (j := 1) rfl) ?_
      walk_at "rs"
      have hR5 := e5 _ _ hRl
      refine r_tyL hR5 ?_
      walk_at "rs"
      refine r_ixL hl5 (atI_nat hy0) ?_
      walk_at "rs"
      refine r_ixL hM5 hv ?_
      walk_at "rs"
      refine r_ixT hp (atI_nat (j := 2) rfl) ?_
      walk_at "rs"
      refine r_ixL hl5 (atI_nat hy1) ?_
      walk_at "rs"
      refine r_slL hl fun lr H6 hlr e6 hlr6 => ?_
      walk_at "rs"
      refine r_newT (Nat.le_of_ble_eq_true rfl) fun q7 H7 hq7 e7 hq77 => ?_
      have e57 := e6.trans e7
      have htvl := pd_len hpx
      walk_at "rs"
      refine r_app (e57 _ _ hR5) (by omega) fun H8 e8 => ?_
      have hcut := cutG_tp hrv none (some (y1 % 2))
      rw [cutG_map] at hcut
      have tA : TabA H7 (.ref q7) ⟨twoL i ++ sx, t.fm, cutG t.rows none (some (y1 % 2))⟩ lr := ⟨q7, fv, _, rfl, hq77, hfv.mono (TEx.of e57), e7 _ _ hlr6, hcut.mono (TEx.of e57)⟩
      have nL : lr ≠ R := fun e => by subst e; rw [hR5] at hlr; cases hlr
      subst e8
      walk_at "rs"
      refine ⟨_, ts ++ [⟨twoL i ++ sx, t.fm, cutG t.rows none (some (y1 % 2))⟩], _, _, _, _, (gM.trans (Gr.of e57)).mut nR (e57 _ _ hR5) trivial, upd_same, ?_, by rw [List.length_append, htl]; rfl, ?_, fun t' ht' => ?_, rfl⟩
      · exact pd_snoc ((hpx.same (e5.trans e57)).upd (e57 _ _ hR5)) ⟨lr, nL, tA.upd (e57 _ _ hR5) nL⟩
      · unfold NmT SrtS at hnm ⊢
        rw [List.map_append]
        refine List.pairwise_append.mpr ⟨hnm, List.pairwise_singleton _ _, fun x hx y hy => ?_⟩
        obtain ⟨t', ht', rfl⟩ := List.mem_map.mp hx
        obtain ⟨_, m, s', hm, e⟩ := hall t' ht'
        rw [List.mem_singleton.mp hy, e]
        exact two_lt hm s' sx
      · rcases List.mem_append.mp ht' with h | h
        · obtain ⟨a1, m, s', hm, e⟩ := hall t' h
          exact ⟨a1, m, s', by omega, e⟩
        · rw [List.mem_singleton.mp h]
          exact ⟨good.sub (two_ok hsx) (cutG_sub _ _ _), i, sx, Nat.lt_succ_self i, rfl⟩
    · rintro σ' H' ⟨tv, ts, z5, z6, z7, z8, g, hRl, hpx, htl, hnm, hall, rfl⟩
      walk_at "rs"
      refine q R tv ts H' ((g1.trans g2).trans ((Gr.of e3).trans g)) hRl hpx.v htl hnm (fun t ht => (hall t ht).1) fun t ht => ?_
      obtain ⟨_, m, s', hm, e⟩ := hall t ht
      rw [e]
      exact two_z (by omega) s'
end
end Vt
-- VtTupR
set_option Elab.async false
set_option linter.all false
set_option maxRecDepth 100000
set_option maxHeartbeats 4000000
namespace Vt
open PySem PySem.Spec PyProof.Rows L2 HT
section
variable {prog : Program} {w : World} {A : Around} {E : Value → Shared → Prop} {s : Shared}
theorem adj_rev (n : Nat) : Builtin.Slice.sliceAdjust none none (-1) (n : Int) = ((n : Int) - 1, -1) := by
  unfold Builtin.Slice.sliceAdjust
  simp
theorem places_rev (n : Nat) : Builtin.Slice.slicePlaces ((n : Int) - 1) (-1) (-1) = n := by
  unfold Builtin.Slice.slicePlaces
  simp
  omega
theorem sliceApplied_rev {sl : Addr} {vs : Value} {n : Nat} {Q : Int × Int × Nat → Shared → Prop} (hs : s.heap.IsSliceOf sl .none .none vs) (ps : IsPart vs (some (-1)))
    (h : Q ((n : Int) - 1, -1, n) s) : wpAny (model prog w) A (Builtin.Slice.sliceApplied (.ref sl) (pure (n : Int))) Q E s := by
  obtain ⟨os, hos, hcs, hds⟩ := id hs
  unfold Builtin.Slice.sliceApplied Builtin.Slice.sliceFields
  refine wpAny_bind (wpAny_bind (wpAny_field hos hds (x := .none) rfl (wpAny_bind (wpAny_field hos hds (x := .none) rfl (wpAny_bind (wpAny_field hos hds (x := vs) rfl (wpAny_pure ?_)))))))
  refine wpAny_bind (slicePart_ ps ?_)
  show wpAny _ _ (if ((-1 : Int) == 0) = true then _ else _) _ _ s
  rw [if_neg (by decide)]
  refine wpAny_bind (slicePart_none (wpAny_bind (slicePart_none (wpAny_bind (wpAny_pure ?_)))))
  show wpAny _ _ (match Builtin.Slice.sliceAdjust none none (-1) (n : Int) with | (lo, hi) => pure (lo, (-1 : Int), Builtin.Slice.slicePlaces lo hi (-1))) _ _ s
  rw [adj_rev n]
  show wpAny _ _ (pure ((n : Int) - 1, (-1 : Int), Builtin.Slice.slicePlaces ((n : Int) - 1) (-1) (-1))) _ _ s
  rw [places_rev]
  exact wpAny_pure h
theorem fm_all {α β : Type} {f : α → Option β} {g : α → β} : ∀ {l : List α}, (∀ k ∈ l, f k = some (g k)) → l.filterMap f = l.map g
  | [], _ => rfl
  | a :: r, h => by
    rw [List.filterMap_cons, h a (List.mem_cons_self ..), List.map_cons, fm_all (l := r) fun k hk => h k (List.mem_cons_of_mem _ hk)]
theorem pick_rev (xs : Array Value) : ((List.range xs.size).filterMap fun (k : Nat) => xs[((xs.size : Int) - 1 + (k : Int) * (-1)).toNat]?) = xs.toList.reverse := by
  have hl : xs.toList.reverse.length = xs.size := by rw [List.length_reverse, Array.length_toList]
  have h : ∀ k ∈ List.range xs.size, xs[((xs.size : Int) - 1 + (k : Int) * (-1)).toNat]? = some (xs.toList.reverse.getD k .none) := fun k hk => by
    have hk := List.mem_range.mp hk
    have e : ((xs.size : Int) - 1 + (k : Int) * (-1)).toNat = xs.size - 1 - k := by omega
    rw [e, List.getD_eq_getElem?_getD, List.getElem?_reverse (by rw [Array.length_toList]; exact hk), Array.length_toList, Array.getElem?_toList]
    have h2 : xs.size - 1 - k < xs.size := by omega
    rw [Array.getElem?_eq_getElem h2]
    rfl
  rw [fm_all h, ← hl]
  exact range_map _ _
theorem getItem_tuple_rev {t sl : Addr} {items : Array Value} {vs : Value} {Q : Value → Shared → Prop} (ht : IsTup s.heap t items) (hs : s.heap.IsSliceOf sl .none .none vs) (ps : IsPart vs (some (-1)))
    (h : Q (.ref s.heap.objs.size) { s with heap := s.heap.push { cls := .type "tuple", data := .seq items.toList.reverse.toArray } })
    (hsz : items.size ≤ sizeLine) : wpAny (model prog w) A (getItem (.ref t) (.ref sl)) Q E s := by
  have htake : sizeOk (.seq items.toList.reverse.toArray) := by
    show items.toList.reverse.toArray.size ≤ sizeLine
    rw [List.size_toArray, List.length_reverse, Array.length_toList]
    exact hsz
  obtain ⟨os, hos, hcs, hds⟩ := id hs
  have hTs : s.TypeIs (.ref sl) "slice" := ⟨os, hos, hcs⟩
  unfold getItem
  try with_reducible refine wpAny_holding ?_
  first | refine wpAny_bind (wpAny_pure ?_) | skip
  refine wpAny_bind (wpAny_sequenceKey ht.typeIs (by decide) ?_)
  refine wpAny_bind (wpAny_callSpecial?_slot (name := Str.ofString "__getitem__") ht.typeIs PyProof.Rows.slot_tuple_getitem
    (wpAny_call_entry PyProof.Rows.slot_tuple_getitem ht.typeIs entry_tuple_getitem ?_ (args_tuple_getitem _ _)))
  show wpAny _ _ (Builtin.Tuple.tupleItemsOf (.ref t) >>= _) _ _ s
  refine wpAny_bind (tupleItemsOf_ ht ?_)
  refine wpAny_bind (wpAny_typeOf hTs ?_)
  rw [if_pos (by decide)]
  refine wpAny_bind (sliceApplied_rev hs ps ?_)
  have hno : ¬ ((((items.size : Int) - 1) == 0 && (-1 : Int) == 1 && items.size == items.size) = true) := by
    rw [show ((-1 : Int) == 1) = false from rfl, Bool.and_false, Bool.false_and]
    exact Bool.false_ne_true
  show wpAny _ _ (if (((items.size : Int) - 1) == 0 && (-1 : Int) == 1 && items.size == items.size) = true then _ else _) _ _ s
  rw [if_neg hno, pick_rev]
  first
    | exact wpAny_bind (m := Builtin.Tuple.tupleExact _) (wpAny_newObj_type (wpAny_pure ⟨_, rfl, wpAny_pure h⟩) htake)
    | exact wpAny_bind (m := Builtin.Tuple.tupleExact _) (wpAny_newObj_type (wpAny_bind (wpAny_pure (wpAny_pure ⟨_, rfl, wpAny_pure h⟩))) htake)
    | exact wpAny_bind (wpAny_bind (m := Builtin.Tuple.tupleExact _) (wpAny_newObj_type (wpAny_pure (wpAny_pure ⟨_, rfl, wpAny_pure h⟩)) htake))
    | exact wpAny_bind (wpAny_bind (m := Builtin.Tuple.tupleExact _) (wpAny_newObj_type (wpAny_pure ⟨_, rfl, wpAny_pure h⟩) htake))
end
/-- t[::-1] -/
def tRevT (K : PySem.W.Frag) (te : TE) : TE := fun σ H Q => te σ H fun x H1 => ∃ a xs, x = .ref a ∧ SqT K H1 a xs ∧ ∀ p, H1 p = none → Q (.ref p) (upd H1 p (.tup xs.reverse))
theorem pe_revT {X : Cx} {K : PySem.W.Frag} {e : Expr} {te : TE} {k : Nat} {p1 p2 p3 pos : Pos} (hK : X.K = K) (he : PE X e te) : PE X (.Subscript e (.Slice none none (some (.UnaryOp .USub (.Constant (.int 1) k p1) p2)) p3) pos) (tRevT K te) := by
  subst hK
  refine ⟨fun pins s σ H Q I h => ?_⟩
  refine Subscript_ (thn (he.run pins s σ H _ I h) fun v s1 ⟨x, H1, I1, r1, q1⟩ => ?_)
  obtain ⟨a, xs, ex, hx, q⟩ := q1
  subst ex
  cases r1
  have hst : PO X (some (.UnaryOp .USub (.Constant (.int 1) k p1) p2)) (tPart (tUn (rU fun i => .int (-i)) (tC (.int 1)))) := po_some (pe_un un_neg pe_int)
  refine wpAny_Slice (thn (po_none.run pins s1 σ H1 (fun o H2 => o = none ∧ H2 = H1) I1 ⟨rfl, rfl⟩) fun vl s2 ⟨l, H2, I2, pl, el, e2⟩ => ?_)
  subst el e2
  refine thn (po_none.run pins s2 σ H2 (fun o H3 => o = none ∧ H3 = H2) I2 ⟨rfl, rfl⟩) fun vu s3 ⟨u, H3, I3, pu, eu, e3⟩ => ?_
  subst eu e3
  refine thn (hst.run pins s3 σ H3 (fun o H4 => o = some (-1) ∧ H4 = H3) I3 ⟨1, rfl, -1, rfl, rfl, rfl⟩) fun vs s4 ⟨o, H4, I4, ps, eo, e4⟩ => ?_
  subst eo e4
  cases pl
  cases pu
  have I5 : Inv X pins σ H4 { s4 with heap := s4.heap.push { cls := .type "slice", data := .fields #[.none, .none, vs] } } := I4.kept (t' := s4.toks) fun b ob q => Heap.get?_push_of_some _ q
  obtain ⟨its, r, ht, hz⟩ := I5.tuple hx
  have hlen := r.length
  show wpAny (model X.prog X.w) X.A (subscriptTail e (.Slice none none (some (.UnaryOp .USub (.Constant (.int 1) k p1) p2)) p3) (.ref a) (.ref s4.heap.objs.size)) (EP X pins σ Q) X.xe { s4 with heap := s4.heap.push { cls := .type "slice", data := .fields #[.none, .none, vs] } }
  refine tail_any (ops := [.ref a, .ref s4.heap.objs.size]) ht.typeIs (PyProof.Rows.slot_tuple_getitem.lookup) ?_ (by with_unfolding_all rfl)
  refine getItem_tuple_rev ht (Heap.IsSliceOf.new _ .none .none vs) ps ?_ (by rw [List.size_toArray]; omega)
  refine ⟨.ref _, _, I5.laid (t' := s4.toks) (o := .tup xs.reverse) (fun b ob q => Heap.get?_push_of_some _ q) (Nat.le_refl _) ?_, rfl, q _ (I5.hok.fresh (Nat.le_refl _))⟩
  exact ⟨by rw [List.length_reverse]; exact hz, _, r.reverse, IsTup.new _ _⟩
theorem r_revT {σ : L2.St} {H : Hp} {Q : VK} {K : PySem.W.Frag} {te : TE} (q : te σ H fun x H1 => ∃ a xs, x = .ref a ∧ SqT K H1 a xs ∧ ∀ p, H1 p = none → Q (.ref p) (upd H1 p (.tup xs.reverse))) : tRevT K te σ H Q := q
end Vt
-- VtG13
set_option Elab.async false
set_option linter.all false
set_option maxRecDepth 100000
set_option maxHeartbeats 4000000
namespace Vt
open PySem PySem.Spec PyProof.Rows L2 LamX NdefX
local macro_rules | `(tactic| walk_at "rd") => `(tactic| (repeat (first
  | with_reducible refine r_sasg ?_ | with_reducible refine r_sfset ?_ | with_reducible refine r_sfaug ?_ | with_reducible refine r_sdput ?_ | with_reducible refine r_sdrop ?_ | with_reducible refine r_swhen ?_ | with_reducible refine r_sif ?_ | with_reducible refine r_asg ?_ | with_reducible refine r_drop ?_
  | with_reducible refine r_ret ?_ | with_reducible refine r_if ?_ | with_reducible refine r_next ?_
  | with_reducible refine r_c ?_ | with_reducible refine r_var (by with_unfolding_all exact rfl) ?_ | with_reducible refine r_op ?_ | with_reducible refine r_un ?_ | with_reducible refine r_I0 ?_ | ((with_reducible refine r_I ?_ ?_); · first | (show (0 : Int) < _; decide) | exact div_ok (by decide) (by decide)) | with_reducible refine r_U ?_
  | with_reducible refine r_eq (by with_unfolding_all exact rfl) ?_ | with_reducible refine r_ne (by with_unfolding_all exact rfl) ?_
  | with_reducible refine r_tstq ?_ | with_reducible refine r_tBq ?_ | with_reducible refine r_blq ?_ | with_reducible refine r_intq ?_ | with_reducible refine r_and ?_ | with_reducible refine r_or ?_ | with_reducible refine r_not ?_
  | with_reducible refine r_andV ?_ | with_reducible refine r_orV ?_ | with_reducible refine r_notV ?_
  | with_reducible refine r_nil ?_ | with_reducible refine r_cons ?_ | with_reducible refine r_call ?_ | with_reducible refine r_tup ?_ | with_reducible refine r_lst ?_ | with_reducible refine r_cb ?_ | with_reducible refine r_int1 ?_ | with_reducible refine r_ord ?_
  | with_reducible refine r_sl ?_ | with_reducible refine r_nop ?_ | with_reducible refine r_partq ?_ | with_reducible refine r_bm ?_ | with_reducible refine r_fld ?_
  | with_reducible refine r_lct ?_ | with_reducible refine r_lcl ?_ | with_reducible refine r_lcr ?_ | with_reducible refine r_sfort ?_ | with_reducible refine r_sforl ?_ | with_reducible refine r_sfors ?_ | with_reducible refine r_sforr ?_ | with_reducible refine r_sforz ?_
  | with_reducible refine r_fort ?_ | with_reducible refine r_forl ?_ | with_reducible refine r_forr ?_ | with_reducible refine r_sasgt ?_ | with_reducible refine r_asgt ?_ | with_reducible refine r_saug (by with_unfolding_all exact rfl) ?_ | with_reducible refine r_aug (by with_unfolding_all exact rfl) ?_ | with_reducible refine r_ip ?_ | with_reducible refine r_gname ?_ | with_reducible refine r_seq ?_
  | with_reducible refine r_dget ?_ | with_reducible refine r_din ?_ | with_reducible refine r_dnotin ?_ | with_reducible refine r_sdput ?_ | with_reducible refine r_dput ?_ | with_reducible refine r_mg ?_ | with_reducible refine r_rev ?_ | with_reducible refine r_dzip ?_
  | with_reducible refine r_lcz ?_ | with_reducible refine r_form ?_
  | with_reducible refine r_sfset ?_ | with_reducible refine r_fset ?_ | with_reducible refine r_sfaug ?_ | with_reducible refine r_meth ?_ | with_reducible refine r_make ?_
  | with_reducible refine r_srtl ?_ | with_reducible refine r_m1q ?_ | with_reducible refine r_strq ?_
  | with_reducible refine r_iteT ?_ | with_reducible refine r_iteF ?_)))
local macro_rules | `(tactic| walk_at "rs") => `(tactic| (repeat (first
  | with_reducible refine r_sasg ?_ | with_reducible refine r_sfset ?_ | with_reducible refine r_sfaug ?_ | with_reducible refine r_sdput ?_ | with_reducible refine r_sdrop ?_ | with_reducible refine r_asg ?_ | with_reducible refine r_drop ?_
  | with_reducible refine r_ret ?_ | with_reducible refine r_next ?_
  | with_reducible refine r_c ?_ | with_reducible refine r_var (by with_unfolding_all exact rfl) ?_ | with_reducible refine r_op ?_ | with_reducible refine r_un ?_ | with_reducible refine r_I0 ?_ | ((with_reducible refine r_I ?_ ?_); · first | (show (0 : Int) < _; decide) | exact div_ok (by decide) (by decide)) | with_reducible refine r_U ?_
  | with_reducible refine r_eq (by with_unfolding_all exact rfl) ?_ | with_reducible refine r_ne (by with_unfolding_all exact rfl) ?_
  | with_reducible refine r_tstq ?_ | with_reducible refine r_tBq ?_ | with_reducible refine r_blq ?_ | with_reducible refine r_intq ?_ | with_reducible refine r_and ?_ | with_reducible refine r_or ?_ | with_reducible refine r_not ?_
  | with_reducible refine r_andV ?_ | with_reducible refine r_orV ?_ | with_reducible refine r_notV ?_
  | with_reducible refine r_nil ?_ | with_reducible refine r_cons ?_ | with_reducible refine r_call ?_ | with_reducible refine r_tup ?_ | with_reducible refine r_lst ?_ | with_reducible refine r_cb ?_ | with_reducible refine r_int1 ?_ | with_reducible refine r_ord ?_
  | with_reducible refine r_sl ?_ | with_reducible refine r_nop ?_ | with_reducible refine r_partq ?_ | with_reducible refine r_bm ?_ | with_reducible refine r_fld ?_
  | with_reducible refine r_lct ?_ | with_reducible refine r_lcl ?_ | with_reducible refine r_lcr ?_ | with_reducible refine r_sfort ?_ | with_reducible refine r_sforl ?_ | with_reducible refine r_sfors ?_ | with_reducible refine r_sforr ?_ | with_reducible refine r_sforz ?_
  | with_reducible refine r_fort ?_ | with_reducible refine r_forl ?_ | with_reducible refine r_forr ?_ | with_reducible refine r_sasgt ?_ | with_reducible refine r_asgt ?_ | with_reducible refine r_saug (by with_unfolding_all exact rfl) ?_ | with_reducible refine r_aug (by with_unfolding_all exact rfl) ?_ | with_reducible refine r_ip ?_ | with_reducible refine r_gname ?_ | with_reducible refine r_seq ?_
  | with_reducible refine r_dget ?_ | with_reducible refine r_din ?_ | with_reducible refine r_dnotin ?_ | with_reducible refine r_sdput ?_ | with_reducible refine r_dput ?_ | with_reducible refine r_mg ?_ | with_reducible refine r_rev ?_ | with_reducible refine r_dzip ?_
  | with_reducible refine r_lcz ?_ | with_reducible refine r_form ?_
  | with_reducible refine r_sfset ?_ | with_reducible refine r_fset ?_ | with_reducible refine r_sfaug ?_ | with_reducible refine r_meth ?_ | with_reducible refine r_make ?_
  | with_reducible refine r_srtl ?_ | with_reducible refine r_m1q ?_ | with_reducible refine r_strq ?_
  | with_reducible refine r_iteT ?_ | with_reducible refine r_iteF ?_)))
local macro_rules | `(tactic| walk_at "tex") => `(tactic| (first
  | assumption | exact TEx.refl _ | exact TEx.of (by assumption) | ((refine TEx.trans ?_ (TEx.of (by assumption))); walk_at "tex") | ((refine TEx.trans ?_ (by assumption)); walk_at "tex")))
local macro_rules | `(tactic| walk_at "same") => `(tactic| (first
  | assumption | exact Same.refl _ | ((refine Same.trans ?_ (by assumption)); walk_at "same")))
local macro_rules | `(tactic| walk_at "tp") => `(tactic| (first
  | assumption | exact Tp.int _ | exact Tp.str _ | exact Tp.non | exact TpAll.nil | ((refine TpAll.cons ?_ ?_) <;> walk_at "tp") | ((refine Tp.mono ?_ (by assumption)); walk_at "tex") | ((refine TpAll.mono ?_ (by assumption)); walk_at "tex")))
local macro_rules | `(tactic| walk_at "hp") => `(tactic| (first
  | assumption | ((refine (TEx.trans ?_ (TEx.refl _)) _ _ (by assumption)); walk_at "tex")))
section
variable {σ : L2.St} {H : Hp} {Q : VK} {K : PySem.W.Frag}
theorem r_slA {p : Addr} {xs : List V} {lo hi : Option Int} (h : H p = some (.tup xs)) (q : ∀ l H2, Same H H2 → H2 l = some (.tup (cutV xs lo hi)) → Q (.ref l) H2) : rSlA K (.ref p) lo hi H Q := by
  refine ⟨p, xs, rfl, SqT.of h, fun ⟨a, b⟩ => q p H (Same.refl _) ?_, fun _ l hl => q l _ (same_new hl) upd_same⟩
  unfold cutV
  rw [a, b, List.drop_zero, Nat.sub_zero, List.take_length]
  exact h
theorem r_catA {p q0 : Addr} {xs ys : List V} (h : H p = some (.tup xs)) (h2 : H q0 = some (.tup ys)) (hl : xs.length + ys.length ≤ 100000) (q : ∀ l H2, Same H H2 → H2 l = some (.tup (xs ++ ys)) → Q (.ref l) H2) : rCatA K (.ref p) (.ref q0) H Q := by
  refine ⟨p, q0, xs, ys, rfl, rfl, SqT.of h, SqT.of h2, Nat.le_trans hl (by decide), fun e => q q0 H (Same.refl _) ?_, fun _ e => q p H (Same.refl _) ?_, fun _ _ l hl => q l _ (same_new hl) upd_same⟩
  · rw [e]; exact h2
  · rw [e, List.append_nil]; exact h
end
theorem cutG_take {α : Type} (xs : List α) (j : Nat) : cutG xs none (some (j : Int)) = xs.take j := by
  unfold cutG
  rw [HT.sIx_nat, show HT.sIx xs.length 0 none = 0 from rfl, List.drop_zero, Nat.sub_zero]
  by_cases h : j ≤ xs.length
  · rw [Nat.min_eq_left h]
  · rw [Nat.min_eq_right (by omega), List.take_length, List.take_of_length_le (by omega)]
theorem cutG_drop {α : Type} (xs : List α) (j : Nat) : cutG xs (some (j : Int)) none = xs.drop j := by
  unfold cutG
  rw [HT.sIx_nat, show HT.sIx xs.length xs.length none = xs.length from rfl]
  by_cases h : j ≤ xs.length
  · rw [Nat.min_eq_left h]
    exact List.take_of_length_le (by rw [List.length_drop]; exact Nat.le_refl _)
  · rw [Nat.min_eq_right (by omega), List.drop_length, List.drop_of_length_le (by omega)]
    exact List.take_nil
theorem cut_set {α : Type} {xs : List α} {j : Nat} {x : α} (h : j < xs.length) : xs.take j ++ [x] ++ xs.drop (j + 1) = xs.set j x := by
  rw [List.set_eq_take_append_cons_drop, if_pos h, List.append_assoc]
  rfl
section
variable {P : Program} {w : World} {K : PySem.W.Frag} {mg : Str → Option Value} {base : Heap}
/-! ### _law_other_form -/
abbrev n_law_other_form : List Str := ["_law_form_here", "_law_cell_here", "_law_numbers", "_law_place", "_law_name_here", "_law_kind", "_law_default", "_law_unique", "_law_link", "_law_column"]
theorem sc_law_other_form : FnScope n_law_other_form ["_law_form_here", "_law_cell_here"] (defScope s_law_other_form) := ⟨rfl, rfl, rfl, by decide +kernel, rfl, by decide +kernel, by decide +kernel⟩
theorem bd_law_other_form : BindH "_law_other_form" s_law_other_form ["_law_form_here", "_law_cell_here"] := fun _ _ _ _ _ _ us hl => match us, hl with | [_, _], _ => rfl
def spOtherF : Sp := fun vs H Q _ => ∃ (fv : V) (n : Int) (fm : Fm), vs = [fv, .int n] ∧ Tp H fv fm.d ∧ ColsK fm.cols fm.keys ∧ Bg n ∧
  ∀ (v : V) (fm' : Fm) (H' : Hp), Same H H' → Tp H' v fm'.d → ColsK fm'.cols fm'.keys → fm'.names = fm.names → fm'.cols.map (·.kind) = fm.cols.map (·.kind) → fm'.keys.Perm fm.keys → Q v H'
theorem cal_law_other_form (T : Tx K mg) : Cal P w K mg base 4 "_law_other_form" ["_law_form_here", "_law_cell_here"] spOtherF := by
  have c_law_draws := cal_law_draws (P := P) (w := w) (base := base) T
  have c_law_value := cal_law_value (P := P) (w := w) (base := base) T
  have c_law_name := cal_law_name (P := P) (w := w) (base := base) T
  refine cal_of T.at_law_other_form sc_law_other_form bd_law_other_form (fun vs H Q E h => ?_) fun f cdv A outer s H0 E hr => ⟨_, (pss_cons (ps_set (i := 2) sc_law_other_form.nd rfl (Or.inl rfl) (pe_cal c_law_draws (hr.mono (by omega)) (by rfl) (pa_cons (pv 1) (pa_cons pe_int (pa_cons pe_int (pa_cons (pe_ten (n := 100000000000000000000) (by decide) ⟨by decide, by decide, by decide⟩ (pe_op op_pow pe_int pe_int)) pa_nil))))))
      (pss_cons (ps_set (i := 3) sc_law_other_form.nd rfl (Or.inl rfl) (pe_op op_mod (pe_callTy cr_int1 (by rfl) T.m_int (by decide +kernel) (pa_cons (pe_ix (ix_listK (K := K) rfl) (pv 2) pe_int (fun _ _ => rfl)) pa_nil)) (pe_callB (cr_lnK (K := K) rfl) (by rfl) T.m_len PySem.boot_len (pa_cons (pe_ix (ix_tupK (K := K) rfl) (pv 0) pe_int (fun _ _ => rfl)) pa_nil))))
      (pss_cons (ps_asg (pe_ix (ix_tupK (K := K) rfl) (pe_ix (ix_tupK (K := K) rfl) (pv 0) pe_int (fun _ _ => rfl)) (pv 3) (fun _ _ => rfl)) (pg_tupK (K := K) (n := 5) rfl rfl (pgs_cons (pg_name (i := 4) sc_law_other_form.nd rfl (Or.inl rfl)) (pgs_cons (pg_name (i := 5) sc_law_other_form.nd rfl (Or.inl rfl)) (pgs_cons (pg_name (i := 6) sc_law_other_form.nd rfl (Or.inl rfl)) (pgs_cons (pg_name (i := 7) sc_law_other_form.nd rfl (Or.inl rfl)) (pgs_cons (pg_name (i := 8) sc_law_other_form.nd rfl (Or.inl rfl)) pgs_nil)))))))
      (pss_cons (ps_set (i := 9) sc_law_other_form.nd rfl (Or.inl rfl) (pe_tup (pa_cons (pv 4) (pa_cons (pv 5) (pa_cons (pe_cal c_law_value (hr.mono (by omega)) (by rfl) (pa_cons (pv 5) (pa_cons (pe_ix (ix_listK (K := K) rfl) (pv 2) pe_int (fun _ _ => rfl)) pa_nil))) (pa_cons (pv 7) (pa_cons (pv 8) pa_nil)))))))
      (pss_cons (ps_if (pt_cmpR op_eq (pe_op op_mod (pe_callTy cr_int1 (by rfl) T.m_int (by decide +kernel) (pa_cons (pe_ix (ix_listK (K := K) rfl) (pv 2) pe_int (fun _ _ => rfl)) pa_nil)) pe_int) pe_int (nomark _))
      (pss_one (ps_set (i := 9) sc_law_other_form.nd rfl (Or.inl rfl) (pe_tup (pa_cons (pv 4) (pa_cons (pv 5) (pa_cons (pv 6) (pa_cons (pe_op op_sub pe_int (pv 7)) (pa_cons (pv 8) pa_nil))))))))
      pss_nil)
      (pss_cons (ps_if (pt_cmpR op_eq (pe_op op_mod (pe_callTy cr_int1 (by rfl) T.m_int (by decide +kernel) (pa_cons (pe_ix (ix_listK (K := K) rfl) (pv 2) pe_int (fun _ _ => rfl)) pa_nil)) pe_int) pe_int (nomark _))
      (pss_one (ps_set (i := 9) sc_law_other_form.nd rfl (Or.inl rfl) (pe_tup (pa_cons (pv 4) (pa_cons (pv 5) (pa_cons (pv 6) (pa_cons (pv 7) (pa_cons (pe_cal c_law_name (hr.mono (by omega)) (by rfl) (pa_cons (pe_ix (ix_listK (K := K) rfl) (pv 2) pe_int (fun _ _ => rfl)) pa_nil)) pa_nil))))))))
      pss_nil)
      (pss_cons (ps_if (pt_cmpR op_eq (pe_op op_mod (pe_callTy cr_int1 (by rfl) T.m_int (by decide +kernel) (pa_cons (pe_ix (ix_listK (K := K) rfl) (pv 2) pe_int (fun _ _ => rfl)) pa_nil)) pe_int) pe_int (nomark _))
      (pss_one (ps_ret (pe_tup (pa_cons (pe_ix (ix_tupK (K := K) rfl) (pv 0) pe_int (fun _ _ => rfl)) (pa_cons (pe_revT (K := K) rfl (pe_ix (ix_tupK (K := K) rfl) (pv 0) pe_int (fun _ _ => rfl))) pa_nil)))))
      pss_nil)
      (pss_one (ps_ret (pe_tup (pa_cons (pe_op (op_catAK (K := K) rfl) (pe_op (op_catAK (K := K) rfl) (pe_slice (sl_tupAK (K := K) rfl) (pe_ix (ix_tupK (K := K) rfl) (pv 0) pe_int (fun _ _ => rfl)) po_none (po_some (pv 3))) (pe_tup (pa_cons (pv 9) pa_nil))) (pe_slice (sl_tupAK (K := K) rfl) (pe_ix (ix_tupK (K := K) rfl) (pv 0) pe_int (fun _ _ => rfl)) (po_some (pe_op op_add (pv 3) pe_int)) po_none)) (pa_cons (pe_ix (ix_tupK (K := K) rfl) (pv 0) pe_int (fun _ _ => rfl)) pa_nil)))))))))))), fun vs H Q h => ?_⟩
  · obtain ⟨fv, n, fm, rfl, _⟩ := h
    rfl
  · obtain ⟨fv, n, fm, rfl, hfv, ck, hn, q⟩ := h
    obtain ⟨a, c, kk, rfl, ha, ⟨cv, hc, hcv⟩, hk⟩ := hfv.form
    have hcl := hcv.length
    rw [List.length_map] at hcl
    have h1 := ck.n1
    have h12 := ck.n12
    walk_at "rs"
    refine ⟨n, 31, 3, 10 ^ 20, rfl, hn, by decide, by decide, by decide, by decide, fun l1 H1 ns e1 hns hnum hl1 _ => ?_⟩
    obtain ⟨t0, ht0, hn0⟩ := num_at hnum (j := 0) (by omega)
    obtain ⟨t1, ht1, hn1⟩ := num_at hnum (j := 1) (by omega)
    obtain ⟨t2, ht2, hn2⟩ := num_at hnum (j := 2) (by omega)
    walk_at "rs"
    refine r_ixL hl1 (atI_nat ht1) ?_
    walk_at "rs"
    refine r_ixT (e1 _ _ ha) (atI_nat (j := 0) rfl) ?_
    walk_at "rs"
    refine r_lnT (e1 _ _ hc) ?_
    walk_at "rs"
    rw [hcl]
    have hpos : (0 : Int) < (fm.cols.length : Int) := by omega
    refine r_I hpos ?_
    walk_at "rs"
    have p1 := Int.emod_nonneg t1 (show (fm.cols.length : Int) ≠ 0 by omega)
    have p2 := Int.emod_lt_of_pos t1 hpos
    generalize hj : (t1 % (fm.cols.length : Int)).toNat = j
    have ej : t1 % (fm.cols.length : Int) = (j : Int) := by omega
    rw [ej]
    have hjl : j < fm.cols.length := by omega
    have hcj : fm.cols[j]? = some fm.cols[j] := List.getElem?_eq_getElem hjl
    obtain ⟨x, hx, htx⟩ := hcv.get (i := j) (d := fm.cols[j].d) (by rw [List.getElem?_map, hcj]; rfl)
    obtain ⟨pc, df, rfl, hpc, hdf⟩ := htx.col
    have cok := ck.ok _ (List.getElem_mem hjl)
    generalize hcc : fm.cols[j] = cc at *
    refine r_ixT (e1 _ _ ha) (atI_nat (j := 0) rfl) ?_
    walk_at "rs"
    refine r_ixT (e1 _ _ hc) (atI_nat hx) ?_
    refine r_g5 (e1 _ _ hpc) ?_
    walk_at "rs"
    refine r_ixL hl1 (atI_nat ht2) ?_
    walk_at "rs"
    refine ⟨cc.kind, t2, rfl, cok.kd, hn2, fun v d H2 e2 hv hd hacc => ?_⟩
    walk_at "rs"
    refine r_newD (ds := [.str cc.name, .str cc.kind, d, .int cc.un, .str cc.link]) (.cons (.str _) (.cons (.str _) (.cons hv (.cons (.int _) (.cons (.str _) .nil))))) (Nat.le_of_ble_eq_true rfl) fun p3 H3 e3 t3 => ?_
    walk_at "rs"
    have e13 := e1.trans (e2.trans e3)
    have hl13 := (e2.trans e3) _ _ hl1
    have hdf3 := hdf.mono (TEx.of e13)
    let St : Hp → V → L2.St := fun _ z => [some (.ref a), some (.int n), some (.ref l1), some (.int (j : Int)), some (.str cc.name), some (.str cc.kind), some df, some (.int cc.un), some (.str cc.link), some z]
    refine r_join (fun σ' H' => ∃ (z : V) (c' : Col), Same H3 H' ∧ Tp H' z c'.d ∧ c'.Ok ∧ c'.name = cc.name ∧ c'.kind = cc.kind ∧ σ' = St H' z) (fun Z hZ => ?_) ?_
    · walk_at "rs"
      refine r_ixL hl13 (atI_nat ht0) ?_
      walk_at "rs"
      refine r_ite (fun _ => ?_) (fun _ => hZ _ _ ⟨.ref p3, ⟨cc.name, cc.kind, d, cc.un, cc.link⟩, Same.refl _, t3, ⟨cok.nm, cok.kd, hd, hacc, cok.un, cok.lk⟩, rfl, rfl, rfl⟩)
      walk_at "rs"
      refine r_newD (ds := [.str cc.name, .str cc.kind, cc.df, .int (1 - cc.un), .str cc.link]) (.cons (.str _) (.cons (.str _) (.cons hdf3 (.cons (.int _) (.cons (.str _) .nil))))) (Nat.le_of_ble_eq_true rfl) fun p4 H4 e4 t4 => ?_
      walk_at "rs"
      exact hZ _ _ ⟨.ref p4, ⟨cc.name, cc.kind, cc.df, 1 - cc.un, cc.link⟩, e4, t4, ⟨cok.nm, cok.kd, cok.df, cok.ac, cok.un.elim (fun h => .inr (by show 1 - cc.un = 1; omega)) (fun h => .inl (by show 1 - cc.un = 0; omega)), cok.lk⟩, rfl, rfl, rfl⟩
    rintro σ4 H4 ⟨z4, c4, e4, tz4, ok4, n4, k4, rfl⟩
    walk_at "rs"
    refine r_join (fun σ' H' => ∃ (z : V) (c' : Col), Same H4 H' ∧ Tp H' z c'.d ∧ c'.Ok ∧ c'.name = cc.name ∧ c'.kind = cc.kind ∧ σ' = St H' z) (fun Z hZ => ?_) ?_
    · walk_at "rs"
      refine r_ixL (e4 _ _ hl13) (atI_nat ht0) ?_
      walk_at "rs"
      refine r_ite (fun _ => ?_) (fun _ => hZ _ _ ⟨z4, c4, Same.refl _, tz4, ok4, n4, k4, rfl⟩)
      walk_at "rs"
      refine r_ixL (e4 _ _ hl13) (atI_nat ht2) ?_
      walk_at "rs"
      refine ⟨t2, rfl, hn2, fun lk H5 e5 s1 s2 => ?_⟩
      walk_at "rs"
      refine r_newD (ds := [.str cc.name, .str cc.kind, cc.df, .int cc.un, .str lk]) (.cons (.str _) (.cons (.str _) (.cons (hdf3.mono (TEx.of (e4.trans e5))) (.cons (.int _) (.cons (.str _) .nil))))) (Nat.le_of_ble_eq_true rfl) fun p6 H6 e6 t6 => ?_
      walk_at "rs"
      exact hZ _ _ ⟨.ref p6, ⟨cc.name, cc.kind, cc.df, cc.un, lk⟩, e5.trans e6, t6, ⟨cok.nm, cok.kd, cok.df, cok.ac, cok.un, s2⟩, rfl, rfl, rfl⟩
    rintro σ5 H5 ⟨z5, c5, e5, tz5, ok5, n5, k5, rfl⟩
    have e15 := e13.trans (e4.trans e5)
    have ha5 := e15 _ _ ha
    have hc5 := e15 _ _ hc
    have hk5 := e15 _ _ hk
    have hcv5 := hcv.mono (TEx.of e15)
    walk_at "rd"
    refine r_ixL ((e4.trans e5) _ _ hl13) (atI_nat ht0) ?_
    walk_at "rd"
    refine r_ite (fun _ => ?_) (fun _ => ?_)
    · walk_at "rd"
      refine r_ixT ha5 (atI_nat (j := 0) rfl) ?_
      walk_at "rd"
      refine r_revT ?_
      walk_at "rd"
      refine r_ixT ha5 (atI_nat (j := 1) rfl) ?_
      refine ⟨kk, _, rfl, SqT.of hk5, fun p hp => ?_⟩
      walk_at "rd"
      have e6 : Same H5 (upd H5 p (.tup (fm.keys.map V.str).reverse)) := same_new hp
      refine r_newD (ds := [.tuple (fm.cols.map Col.d), .tuple (fm.keys.reverse.map PyData.str)]) (.cons (.tup (e6 _ _ hc5) (hcv5.mono (TEx.of e6))) (.cons (.tup upd_same (by rw [← List.map_reverse]; exact TpAll.of_strs _)) .nil)) (Nat.le_of_ble_eq_true rfl) fun p7 H7 e7 t7 => ?_
      refine q _ ⟨fm.cols, fm.keys.reverse⟩ H7 (e15.trans (e6.trans e7)) t7 ?_ rfl rfl (List.reverse_perm _)
      exact ⟨ck.ok, ck.nd, ck.n1, ck.n12, by show 1 ≤ fm.keys.reverse.length; rw [List.length_reverse]; exact ck.k1, by show fm.keys.reverse.length ≤ 2; rw [List.length_reverse]; exact ck.k2, (List.reverse_perm _).nodup_iff.mpr ck.knd, fun k hk => ck.kin k (List.mem_reverse.mp hk)⟩
    · walk_at "rd"
      refine r_ixT ha5 (atI_nat (j := 0) rfl) ?_
      walk_at "rd"
      refine r_slA hc5 fun l6 H6 e6 h6 => ?_
      walk_at "rd"
      refine r_newT (Nat.le_of_ble_eq_true rfl) fun l7 H7 hl7 e7 h7 => ?_
      walk_at "rd"
      have hcu1 := cutV_length cv none (some (j : Int))
      refine r_catA (e7 _ _ h6) h7 (by show _ + 1 ≤ _; omega) fun l8 H8 e8 h8 => ?_
      walk_at "rd"
      have e58 := e6.trans (e7.trans e8)
      refine r_ixT (e58 _ _ ha5) (atI_nat (j := 0) rfl) ?_
      walk_at "rd"
      refine r_slA (e58 _ _ hc5) fun l9 H9 e9 h9 => ?_
      walk_at "rd"
      have hcu2 := cutV_length cv (some ((j : Int) + 1)) none
      refine r_catA (e9 _ _ h8) h9 (by rw [List.length_append]; show _ + 1 + _ ≤ _; omega) fun l10 H10 e10 h10 => ?_
      walk_at "rd"
      have e510 := e58.trans (e9.trans e10)
      refine r_ixT (e510 _ _ ha5) (atI_nat (j := 1) rfl) ?_
      walk_at "rd"
      have hset : TpAll H10 (cutV cv none (some (j : Int)) ++ [z5] ++ cutV cv (some ((j : Int) + 1)) none) ((fm.cols.set j c5).map Col.d) := by
        rw [← cut_set hjl, List.map_append, List.map_append, ← cutG_take, ← cutG_drop, ← cutG_map, ← cutG_map]
        have hcv10 := hcv5.mono (TEx.of e510)
        exact ((cutG_tp hcv10 none (some (j : Int))).append (TpAll.one (tz5.mono (TEx.of e510)))).append (cutG_tp hcv10 (some (((j + 1 : Nat)) : Int)) none)
      refine r_newD (ds := [.tuple ((fm.cols.set j c5).map Col.d), .tuple (fm.keys.map PyData.str)]) (.cons (.tup h10 hset) (.cons (.tup (e510 _ _ hk5) (TpAll.of_strs _)) .nil)) (Nat.le_of_ble_eq_true rfl) fun p11 H11 e11 t11 => ?_
      walk_at "rd"
      have hnm : (fm.cols.set j c5).map (·.name) = fm.cols.map (·.name) := by
        rw [List.map_set, n5]
        apply List.ext_getElem?
        intro i
        by_cases e : j = i
        · subst e
          rw [List.getElem?_set_self (by rw [List.length_map]; exact hjl), List.getElem?_map, hcj]
          rfl
        · rw [List.getElem?_set_ne e]
      have hkd : (fm.cols.set j c5).map (·.kind) = fm.cols.map (·.kind) := by
        rw [List.map_set, k5]
        apply List.ext_getElem?
        intro i
        by_cases e : j = i
        · subst e
          rw [List.getElem?_set_self (by rw [List.length_map]; exact hjl), List.getElem?_map, hcj]
          rfl
        · rw [List.getElem?_set_ne e]
      refine q _ ⟨fm.cols.set j c5, fm.keys⟩ H11 (e15.trans (e510.trans e11)) t11 ⟨fun c hc => ?_, by show ((fm.cols.set j c5).map (·.name)).Nodup; rw [hnm]; exact ck.nd, by show 1 ≤ (fm.cols.set j c5).length; rw [List.length_set]; exact ck.n1, by show (fm.cols.set j c5).length ≤ 12; rw [List.length_set]; exact ck.n12, ck.k1, ck.k2, ck.knd, fun k hk => ?_⟩ hnm hkd (List.Perm.refl _)
      · rcases List.mem_or_eq_of_mem_set hc with h | h
        · exact ck.ok c h
        · rw [h]; exact ok5
      · obtain ⟨c1, hc1, en, eh⟩ := ck.kin k hk
        obtain ⟨i, hi⟩ := List.mem_iff_getElem?.mp hc1
        by_cases e : j = i
        · subst e
          rw [hcj] at hi
          cases hi
          exact ⟨c5, List.mem_iff_getElem?.mpr ⟨j, List.getElem?_set_self hjl⟩, by rw [n5]; exact en, by rw [k5]; exact eh⟩
        · exact ⟨c1, List.mem_iff_getElem?.mpr ⟨i, by rw [List.getElem?_set_ne e]; exact hi⟩, en, eh⟩
end
end Vt
-- VtD7
set_option Elab.async false
set_option linter.all false
set_option maxRecDepth 100000
set_option maxHeartbeats 4000000
namespace Vt
open PySem PySem.Spec PyProof.Rows L2
local macro_rules | `(tactic| walk_at "rd") => `(tactic| (repeat (first
  | with_reducible refine r_sasg ?_ | with_reducible refine r_sfset ?_ | with_reducible refine r_sfaug ?_ | with_reducible refine r_sdput ?_ | with_reducible refine r_sdrop ?_ | with_reducible refine r_swhen ?_ | with_reducible refine r_sif ?_ | with_reducible refine r_asg ?_ | with_reducible refine r_drop ?_
  | with_reducible refine r_ret ?_ | with_reducible refine r_if ?_ | with_reducible refine r_next ?_
  | with_reducible refine r_c ?_ | with_reducible refine r_var (by with_unfolding_all exact rfl) ?_ | with_reducible refine r_op ?_ | with_reducible refine r_un ?_ | with_reducible refine r_I0 ?_ | ((with_reducible refine r_I ?_ ?_); · first | (show (0 : Int) < _; decide) | exact div_ok (by decide) (by decide)) | with_reducible refine r_U ?_
  | with_reducible refine r_eq (by with_unfolding_all exact rfl) ?_ | with_reducible refine r_ne (by with_unfolding_all exact rfl) ?_
  | with_reducible refine r_tstq ?_ | with_reducible refine r_tBq ?_ | with_reducible refine r_blq ?_ | with_reducible refine r_intq ?_ | with_reducible refine r_and ?_ | with_reducible refine r_or ?_ | with_reducible refine r_not ?_
  | with_reducible refine r_andV ?_ | with_reducible refine r_orV ?_ | with_reducible refine r_notV ?_
  | with_reducible refine r_nil ?_ | with_reducible refine r_cons ?_ | with_reducible refine r_call ?_ | with_reducible refine r_tup ?_ | with_reducible refine r_lst ?_ | with_reducible refine r_cb ?_ | with_reducible refine r_int1 ?_ | with_reducible refine r_ord ?_
  | with_reducible refine r_sl ?_ | with_reducible refine r_nop ?_ | with_reducible refine r_partq ?_ | with_reducible refine r_bm ?_ | with_reducible refine r_fld ?_
  | with_reducible refine r_lct ?_ | with_reducible refine r_lcl ?_ | with_reducible refine r_lcr ?_ | with_reducible refine r_sfort ?_ | with_reducible refine r_sforl ?_ | with_reducible refine r_sfors ?_ | with_reducible refine r_sforr ?_ | with_reducible refine r_sforz ?_
  | with_reducible refine r_fort ?_ | with_reducible refine r_forl ?_ | with_reducible refine r_forr ?_ | with_reducible refine r_sasgt ?_ | with_reducible refine r_asgt ?_ | with_reducible refine r_saug (by with_unfolding_all exact rfl) ?_ | with_reducible refine r_aug (by with_unfolding_all exact rfl) ?_ | with_reducible refine r_ip ?_ | with_reducible refine r_gname ?_ | with_reducible refine r_seq ?_
  | with_reducible refine r_dget ?_ | with_reducible refine r_din ?_ | with_reducible refine r_dnotin ?_ | with_reducible refine r_sdput ?_ | with_reducible refine r_dput ?_ | with_reducible refine r_mg ?_ | with_reducible refine r_rev ?_ | with_reducible refine r_dzip ?_
  | with_reducible refine r_lcz ?_ | with_reducible refine r_form ?_
  | with_reducible refine r_sfset ?_ | with_reducible refine r_fset ?_ | with_reducible refine r_sfaug ?_ | with_reducible refine r_meth ?_ | with_reducible refine r_make ?_
  | with_reducible refine r_srtl ?_ | with_reducible refine r_m1q ?_ | with_reducible refine r_strq ?_
  | with_reducible refine r_iteT ?_ | with_reducible refine r_iteF ?_)))
local macro_rules | `(tactic| walk_at "rs") => `(tactic| (repeat (first
  | with_reducible refine r_sasg ?_ | with_reducible refine r_sfset ?_ | with_reducible refine r_sfaug ?_ | with_reducible refine r_sdput ?_ | with_reducible refine r_sdrop ?_ | with_reducible refine r_asg ?_ | with_reducible refine r_drop ?_
  | with_reducible refine r_ret ?_ | with_reducible refine r_next ?_
  | with_reducible refine r_c ?_ | with_reducible refine r_var (by with_unfolding_all exact rfl) ?_ | with_reducible refine r_op ?_ | with_reducible refine r_un ?_ | with_reducible refine r_I0 ?_ | ((with_reducible refine r_I ?_ ?_); · first | (show (0 : Int) < _; decide) | exact div_ok (by decide) (by decide)) | with_reducible refine r_U ?_
  | with_reducible refine r_eq (by with_unfolding_all exact rfl) ?_ | with_reducible refine r_ne (by with_unfolding_all exact rfl) ?_
  | with_reducible refine r_tstq ?_ | with_reducible refine r_tBq ?_ | with_reducible refine r_blq ?_ | with_reducible refine r_intq ?_ | with_reducible refine r_and ?_ | with_reducible refine r_or ?_ | with_reducible refine r_not ?_
  | with_reducible refine r_andV ?_ | with_reducible refine r_orV ?_ | with_reducible refine r_notV ?_
  | with_reducible refine r_nil ?_ | with_reducible refine r_cons ?_ | with_reducible refine r_call ?_ | with_reducible refine r_tup ?_ | with_reducible refine r_lst ?_ | with_reducible refine r_cb ?_ | with_reducible refine r_int1 ?_ | with_reducible refine r_ord ?_
  | with_reducible refine r_sl ?_ | with_reducible refine r_nop ?_ | with_reducible refine r_partq ?_ | with_reducible refine r_bm ?_ | with_reducible refine r_fld ?_
  | with_reducible refine r_lct ?_ | with_reducible refine r_lcl ?_ | with_reducible refine r_lcr ?_ | with_reducible refine r_sfort ?_ | with_reducible refine r_sforl ?_ | with_reducible refine r_sfors ?_ | with_reducible refine r_sforr ?_ | with_reducible refine r_sforz ?_
  | with_reducible refine r_fort ?_ | with_reducible refine r_forl ?_ | with_reducible refine r_forr ?_ | with_reducible refine r_sasgt ?_ | with_reducible refine r_asgt ?_ | with_reducible refine r_saug (by with_unfolding_all exact rfl) ?_ | with_reducible refine r_aug (by with_unfolding_all exact rfl) ?_ | with_reducible refine r_ip ?_ | with_reducible refine r_gname ?_ | with_reducible refine r_seq ?_
  | with_reducible refine r_dget ?_ | with_reducible refine r_din ?_ | with_reducible refine r_dnotin ?_ | with_reducible refine r_sdput ?_ | with_reducible refine r_dput ?_ | with_reducible refine r_mg ?_ | with_reducible refine r_rev ?_ | with_reducible refine r_dzip ?_
  | with_reducible refine r_lcz ?_ | with_reducible refine r_form ?_
  | with_reducible refine r_sfset ?_ | with_reducible refine r_fset ?_ | with_reducible refine r_sfaug ?_ | with_reducible refine r_meth ?_ | with_reducible refine r_make ?_
  | with_reducible refine r_srtl ?_ | with_reducible refine r_m1q ?_ | with_reducible refine r_strq ?_
  | with_reducible refine r_iteT ?_ | with_reducible refine r_iteF ?_)))
local macro_rules | `(tactic| walk_at "tex") => `(tactic| (first
  | assumption | exact TEx.refl _ | exact TEx.of (by assumption) | ((refine TEx.trans ?_ (TEx.of (by assumption))); walk_at "tex") | ((refine TEx.trans ?_ (by assumption)); walk_at "tex")))
local macro_rules | `(tactic| walk_at "same") => `(tactic| (first
  | assumption | exact Same.refl _ | ((refine Same.trans ?_ (by assumption)); walk_at "same")))
local macro_rules | `(tactic| walk_at "tp") => `(tactic| (first
  | assumption | exact Tp.int _ | exact Tp.str _ | exact Tp.non | exact TpAll.nil | ((refine TpAll.cons ?_ ?_) <;> walk_at "tp") | ((refine Tp.mono ?_ (by assumption)); walk_at "tex") | ((refine TpAll.mono ?_ (by assumption)); walk_at "tex")))
local macro_rules | `(tactic| walk_at "hp") => `(tactic| (first
  | assumption | ((refine (TEx.trans ?_ (TEx.refl _)) _ _ (by assumption)); walk_at "tex")))
section
variable {P : Program} {w : World} {K : PySem.W.Frag} {mg : Str → Option Value} {base : Heap}
theorem keep_tp (f : Nat → PyData) : ∀ (k : Nat) (y : V) (H H' : Hp), TEx H H' → Tp H y (f k) → Tp H' y (f k) := fun _ _ _ _ e h => h.mono e
/-! ### column_names -/
abbrev n_column_names : List Str := ["form", "column"]
theorem sc_column_names : FnScope n_column_names ["form"] (defScope s_column_names) := ⟨rfl, rfl, rfl, by decide +kernel, rfl, by decide +kernel, by decide +kernel⟩
theorem bd_column_names : BindH "column_names" s_column_names ["form"] := fun _ _ _ _ _ _ us hl => match us, hl with | [_], _ => rfl
def spColNames : Sp := fun vs H Q _ => ∃ (v : V) (f : Fm), vs = [v] ∧ Tp H v f.d ∧ f.cols.length ≤ 12 ∧ ∀ l H', Same H H' → FzT H' l (f.names.map V.str) → Q (.ref l) H'
theorem cal_column_names (T : Tx K mg) : Cal P w K mg base 1 "column_names" ["form"] spColNames := by
  refine cal_of T.at_column_names sc_column_names bd_column_names (fun vs H Q E h => ?_) fun f cdv A outer s H0 E hr => ⟨_, (pss_one (ps_ret (pe_callTy (cr_tupFzK (K := K) rfl) (by rfl) T.m_tuple (by decide +kernel) (pa_cons (pe_lc (own := [("column", 1)]) rfl sc_column_names.nd (pi_tup (pe_ix (ix_tupK (K := K) rfl) (pv 0) pe_int (fun _ _ => rfl))) (blkOk_by (own := [("column", 1)]) (N := n_column_names) (sc := defScope s_column_names) (by decide +kernel)) (fun _ _ _ _ _ => (pg_name (i := 1) sc_column_names.nd rfl (Or.inl rfl))) (fun _ _ _ _ _ => pts_nil) (fun _ _ _ _ _ => (pe_ix (ix_tupK (K := K) rfl) (pv 1) pe_int (fun _ _ => rfl)))) pa_nil)))), fun vs H Q h => ?_⟩
  · obtain ⟨v, fm, rfl, _⟩ := h
    rfl
  · obtain ⟨v, fm, rfl, hf, h12, q⟩ := h
    obtain ⟨a, c, k, rfl, ha, ⟨xs, hc, hxs⟩, hk⟩ := hf.form
    have hxl := hxs.length
    rw [List.length_map] at hxl
    walk_at "rd"
    refine r_ixT ha rfl ?_
    refine r_lcT hc (by omega) (fun _ => true) (fun i y _ => y = V.str (fm.names.getD i ⟨#[]⟩)) (fun _ _ _ _ _ h => h) (fun i x hx => lc_one rfl fun H3 Qs e3 qs => ?_) fun L ys H1 hL e1 hl1 hp => ?_
    · obtain ⟨d, hd, htp⟩ := hxs.get' hx
      rw [List.getElem?_map] at hd
      cases hci : fm.cols[i]? with
      | none => rw [hci] at hd; cases hd
      | some col =>
        rw [hci] at hd
        cases hd
        obtain ⟨a2, x2, rfl, ha2, _⟩ := htp.col
        walk_at "rd"
        refine r_ixT (e3 _ _ ha2) rfl (qs _ H3 (Same.refl _) ?_)
        have e : fm.names[i]? = some col.name := by show (fm.cols.map (·.name))[i]? = _; rw [List.getElem?_map, hci]; rfl
        rw [getD_some e]
    have ey := pd_all hp
    have e2 : ys = fm.names.map V.str := by
      have z := congrArg (List.map V.str) (range_map fm.names ⟨#[]⟩)
      rw [List.map_map] at z
      rw [ey, hxl, ← names_len]
      exact z
    rw [e2] at hl1
    exact r_tupFz hl1 fun l H2 hl e2 hz => q l H2 (e1.trans e2) hz
/-! ### fits -/
abbrev n_fits : List Str := ["form", "row", "column", "value"]
theorem sc_fits : FnScope n_fits ["form", "row"] (defScope s_fits) := ⟨rfl, rfl, rfl, by decide +kernel, rfl, by decide +kernel, by decide +kernel⟩
theorem bd_fits : BindH "fits" s_fits ["form", "row"] := fun _ _ _ _ _ _ us hl => match us, hl with | [_, _], _ => rfl
def spFits : Sp := fun vs H Q _ => ∃ (v r : V) (f : Fm) (row : List PyData), vs = [v, r] ∧ Tp H v f.d ∧ Tp H r (.tuple row) ∧ f.cols.length ≤ 12 ∧ Fit f row ∧ ∀ H', Same H H' → Q (.bl true) H'
theorem cal_fits (T : Tx K mg) : Cal P w K mg base 3 "fits" ["form", "row"] spFits := by
  have c_accepts := cal_accepts (P := P) (w := w) (base := base) T
  refine cal_of T.at_fits sc_fits bd_fits (fun vs H Q E h => ?_) fun f cdv A outer s H0 E hr => ⟨_, (pss_cons (ps_if (pt_cmpR op_ne (pe_callB (cr_lnK (K := K) rfl) (by rfl) T.m_len PySem.boot_len (pa_cons (pv 1) pa_nil)) (pe_callB (cr_lnK (K := K) rfl) (by rfl) T.m_len PySem.boot_len (pa_cons (pe_ix (ix_tupK (K := K) rfl) (pv 0) pe_int (fun _ _ => rfl)) pa_nil)) (nomark _))
      (pss_one (ps_ret pe_bl))
      pss_nil)
      (pss_cons (ps_for PassesOwn.never rfl (RZ.pi_zipA (by rfl) T.m_zip (pa_cons (pe_ix (ix_tupK (K := K) rfl) (pv 0) pe_int (fun _ _ => rfl)) (pa_cons (pv 1) pa_nil))) (pg_tupK (K := K) (n := 2) rfl rfl (pgs_cons (pg_name (i := 2) sc_fits.nd rfl (Or.inl rfl)) (pgs_cons (pg_name (i := 3) sc_fits.nd rfl (Or.inl rfl)) pgs_nil)))
      (pss_one (ps_if (pt_not (pt_val (pe_cal c_accepts (hr.mono (by omega)) (by rfl) (pa_cons (pe_ix (ix_tupK (K := K) rfl) (pv 2) pe_int (fun _ _ => rfl)) (pa_cons (pv 3) pa_nil)))))
        (pss_one (ps_ret pe_bl))
        pss_nil)))
      (pss_one (ps_ret pe_bl)))), fun vs H Q h => ?_⟩
  · obtain ⟨v, r, fm, row, rfl, _⟩ := h
    rfl
  · obtain ⟨v, r, fm, row, rfl, hf, hr', h12, hfit, q⟩ := h
    obtain ⟨a, c, k, rfl, ha, ⟨xs, hc, hxs⟩, hk⟩ := hf.form
    obtain ⟨ra, rs, rfl, hra, hrs⟩ := hr'.inv
    have hxl := hxs.length
    rw [List.length_map] at hxl
    have hrl := hrs.length
    rw [hfit.len] at hrl
    walk_at "rd"
    refine r_lnT hra ?_
    walk_at "rd"
    refine r_ixT ha rfl ?_
    walk_at "rd"
    refine r_lnT hc ?_
    walk_at "rd"
    refine r_no (by rw [hrl, hxl]; simp) ?_
    walk_at "rd"
    refine r_ixT ha rfl ?_
    walk_at "rd"
    refine r_forZ (by omega) (fun i σ' H' => Same H H' ∧ ∃ z1 z2, σ' = [some (.ref a), some (.ref ra), z1, z2]) ⟨Same.refl H, _, _, rfl⟩ (fun i σ' H' ⟨e, _⟩ => ⟨e _ _ hc, e _ _ hra⟩) ?_ ?_
    · rintro i x y T2 σ' H' H2 hx hy ⟨e1, z1, z2, rfl⟩ e2 hT2
      obtain ⟨d, hd, htp⟩ := hxs.get' hx
      rw [List.getElem?_map] at hd
      cases hci : fm.cols[i]? with
      | none => rw [hci] at hd; cases hd
      | some col =>
        rw [hci] at hd
        cases hd
        obtain ⟨a2, x2, rfl, ha2, _⟩ := htp.col
        obtain ⟨d2, hd2, htp2⟩ := hrs.get' hy
        obtain ⟨hacc, hsc⟩ := hfit.ok i col d2 hci hd2
        have e12 := e1.trans e2
        refine r_gpair hT2 ?_
        walk_at "rd"
        refine r_ixT (e12 _ _ ha2) rfl ?_
        walk_at "rd"
        refine ⟨col.kind, y, d2, rfl, htp2.mono (TEx.of e12), hsc.kind, ?_⟩
        walk_at "rd"
        rw [hacc]
        walk_at "rd"
        exact ⟨e12, _, _, rfl⟩
    · rintro σ' H' ⟨e1, z1, z2, rfl⟩
      walk_at "rd"
      exact q H' e1
/-! ### split_row -/
abbrev n_split_row : List Str := ["form", "row", "names", "name", "key", "value", "rest"]
theorem sc_split_row : FnScope n_split_row ["form", "row"] (defScope s_split_row) := ⟨rfl, rfl, rfl, by decide +kernel, rfl, by decide +kernel, by decide +kernel⟩
theorem bd_split_row : BindH "split_row" s_split_row ["form", "row"] := fun _ _ _ _ _ _ us hl => match us, hl with | [_, _], _ => rfl
def spSplit : Sp := fun vs H Q _ => ∃ (v r : V) (f : Fm) (row : List PyData), vs = [v, r] ∧ Tp H v f.d ∧ Tp H r (.tuple row) ∧ f.Ok ∧ Fit f row ∧ ∀ p H' a b, Same H H' → H' p = some (.tup [a, b]) → Tp H' a (.tuple (keyL f row)) → Tp H' b (.tuple (restL f row)) → Q (.ref p) H'
theorem cal_split_row (T : Tx K mg) : Cal P w K mg base 2 "split_row" ["form", "row"] spSplit := by
  have c_column_names := cal_column_names (P := P) (w := w) (base := base) T
  refine cal_of T.at_split_row sc_split_row bd_split_row (fun vs H Q E h => ?_) fun f cdv A outer s H0 E hr => ⟨_, (pss_cons (ps_set (i := 2) sc_split_row.nd rfl (Or.inr rfl) (pe_cal c_column_names (hr.mono (by omega)) (by rfl) (pa_cons (pv 0) pa_nil)))
      (pss_cons (ps_set (i := 4) sc_split_row.nd rfl (Or.inl rfl) (pe_callTy (cr_tupOfK (K := K) rfl) (by rfl) T.m_tuple (by decide +kernel) (pa_cons (pe_lc (own := [("name", 3)]) rfl sc_split_row.nd (pi_tup (pe_ix (ix_tupK (K := K) rfl) (pv 0) pe_int (fun _ _ => rfl))) (blkOk_by (own := [("name", 3)]) (N := n_split_row) (sc := defScope s_split_row) (by decide +kernel)) (fun _ _ _ _ _ => (pg_name (i := 3) sc_split_row.nd rfl (Or.inl rfl))) (fun _ _ _ _ _ => pts_nil) (fun _ _ _ _ _ => (pe_ix (ix_tupK (K := K) rfl) (pv 1) (pe_mG tyTup_ok PySem.F.plainAttrs_tuple PySem.F.slot_tuple_index PySem.F.type_tuple_index (mt_idxK (K := K) rfl) (pv 2) (pa_cons (pv 3) pa_nil)) (fun _ _ => rfl)))) pa_nil)))
      (pss_cons (ps_set (i := 6) sc_split_row.nd rfl (Or.inl rfl) (pe_callTy (cr_tupOfK (K := K) rfl) (by rfl) T.m_tuple (by decide +kernel) (pa_cons (pe_lc (own := [("name", 3), ("value", 5)]) rfl sc_split_row.nd (RZ.pi_zipA (by rfl) T.m_zip (pa_cons (pv 2) (pa_cons (pv 1) pa_nil))) (blkOk_by (own := [("name", 3), ("value", 5)]) (N := n_split_row) (sc := defScope s_split_row) (by decide +kernel)) (fun _ _ _ _ _ => (pg_tupK (K := K) (n := 2) rfl rfl (pgs_cons (pg_name (i := 3) sc_split_row.nd rfl (Or.inl rfl)) (pgs_cons (pg_name (i := 5) sc_split_row.nd rfl (Or.inl rfl)) pgs_nil)))) (fun _ _ _ _ _ => (pts_one (pt_cmpR (op_notInK (K := K) rfl) (pv 3) (pe_ix (ix_tupK (K := K) rfl) (pv 0) pe_int (fun _ _ => rfl)) (by with_unfolding_all rfl)))) (fun _ _ _ _ _ => (pv 5))) pa_nil)))
      (pss_one (ps_ret (pe_tup (pa_cons (pv 4) (pa_cons (pv 6) pa_nil)))))))), fun vs H Q h => ?_⟩
  · obtain ⟨v, r, fm, row, rfl, _⟩ := h
    rfl
  · obtain ⟨v, r, fm, row, rfl, hf, hr', hok, hfit, q⟩ := h
    obtain ⟨a, c, k, rfl, ha, ⟨xs, hc, hxs⟩, hk⟩ := hf.form
    obtain ⟨ra, rs, rfl, hra, hrs⟩ := hr'.inv
    have hrl := hrs.length
    have h12 := hok.n12
    have hrl2 := hfit.len
    walk_at "rd"
    refine ⟨.ref a, fm, rfl, hf, hok.n12, fun l H1 e1 hl => ?_⟩
    walk_at "rd"
    refine r_ixT (e1 _ _ ha) rfl ?_
    refine r_lcT (e1 _ _ hk) (by rw [List.length_map]; have := hok.k2; omega) (fun _ => true) (fun i y H => Tp H y (row.getD (ix fm.names (fm.keys.getD i ⟨#[]⟩)) .none)) (keep_tp _) (fun i x hx => lc_one rfl fun H3 Qs e3 qs => ?_) fun L ys H2 hL e2 hl2 hp => ?_
    · rw [List.getElem?_map] at hx
      cases hki : fm.keys[i]? with
      | none => rw [hki] at hx; cases hx
      | some key =>
        rw [hki] at hx
        cases hx
        have hmem := hok.kmem (List.mem_iff_getElem?.mpr ⟨i, hki⟩)
        have hix := ix_at hmem
        have hlt := (List.getElem?_eq_some_iff.mp hix).1
        rw [names_len] at hlt
        have hrow : row[ix fm.names key]? = some (row[ix fm.names key]'(by omega)) := List.getElem?_eq_getElem _
        obtain ⟨y, hy, hty⟩ := hrs.get hrow
        walk_at "rd"
        refine r_tyT (hl.same e3) ?_
        walk_at "rd"
        refine r_idx (hl.same e3).sq rfl hix (fun m => ix_first) ?_
        refine r_ixT (e3 _ _ (e1 _ _ hra)) (by rw [atI_nat]; exact hy) (qs y H3 (Same.refl _) ?_)
        rw [getD_some hki, getD_some hrow]
        exact hty.mono (TEx.of (e1.trans e3))
    · rw [filter_all] at hp
      have hp2 := pd_tp hp
      have ek : (List.range (fm.keys.map V.str).length).map (fun i => row.getD (ix fm.names (fm.keys.getD i ⟨#[]⟩)) PyData.none) = keyL fm row := by
        have z := congrArg (List.map fun k => row.getD (ix fm.names k) PyData.none) (range_map fm.keys ⟨#[]⟩)
        rw [List.map_map] at z
        rw [List.length_map]
        exact z
      rw [ek] at hp2
      walk_at "rd"
      refine r_tupD hl2 hp2 fun l2 H3 e3 ht3 => ?_
      walk_at "rd"
      have e13 := e1.trans (e2.trans e3)
      refine r_lcZ (fun H' e => ((hl.same (e2.trans e3)).same e).sq) (fun H' e => SqT.of (e _ _ (e13 _ _ hra))) (by rw [List.length_map, names_len]; omega) (by rw [List.length_map, names_len]; omega) (fun i => decide (fm.names.getD i ⟨#[]⟩ ∉ fm.keys)) (fun i y H => Tp H y (row.getD i .none)) (keep_tp _) (fun i x y T2 H4 hx hy e4 hT => lc_pair hT rfl fun H5 Qs Qn e5 qs qn => ?_) fun L2 ys2 H4 hL2 e4 hl4 hp4 => ?_
      · rw [List.getElem?_map] at hx
        cases hni : fm.names[i]? with
        | none => rw [hni] at hx; cases hx
        | some nm =>
          rw [hni] at hx
          cases hx
          obtain ⟨d, hd, htd⟩ := hrs.get' hy
          have e15 := e13.trans (e4.trans e5)
          walk_at "rd"
          refine r_ixT (e15 _ _ ha) rfl ?_
          walk_at "rd"
          refine r_inT (e15 _ _ hk) rfl ?_
          walk_at "rd"
          have eg := getD_some (d := (⟨#[]⟩ : Str)) hni
          by_cases hmem : nm ∈ fm.keys
          · refine r_no (by simp [hmem]) (qn H5 (Same.refl _) ?_)
            show decide (fm.names.getD i ⟨#[]⟩ ∉ fm.keys) = false
            rw [eg]
            simp [hmem]
          · refine r_yes (by simp [hmem]) ?_
            walk_at "rd"
            refine qs y H5 (Same.refl _) ?_ ?_
            · show decide (fm.names.getD i ⟨#[]⟩ ∉ fm.keys) = true
              rw [eg]
              simp [hmem]
            · rw [getD_some hd]
              exact htd.mono (TEx.of e15)
      · have hp5 := pd_tp hp4
        rw [List.length_map] at hp5
        walk_at "rd"
        refine r_tupD hl4 hp5 fun l5 H5 e5 ht5 => ?_
        walk_at "rd"
        refine r_newT (Nat.le_of_ble_eq_true rfl) fun p H6 _ e6 hp6 => q p H6 _ _ (e13.trans (e4.trans (e5.trans e6))) hp6 (ht3.mono (TEx.of (e4.trans (e5.trans e6)))) (ht5.mono (TEx.of e6))
end
end Vt
-- VtD8
set_option Elab.async false
set_option linter.all false
set_option maxRecDepth 100000
set_option maxHeartbeats 4000000
namespace Vt
open PySem PySem.Spec PyProof.Rows L2
local macro_rules | `(tactic| walk_at "rd") => `(tactic| (repeat (first
  | with_reducible refine r_sasg ?_ | with_reducible refine r_sfset ?_ | with_reducible refine r_sfaug ?_ | with_reducible refine r_sdput ?_ | with_reducible refine r_sdrop ?_ | with_reducible refine r_swhen ?_ | with_reducible refine r_sif ?_ | with_reducible refine r_asg ?_ | with_reducible refine r_drop ?_
  | with_reducible refine r_ret ?_ | with_reducible refine r_if ?_ | with_reducible refine r_next ?_
  | with_reducible refine r_c ?_ | with_reducible refine r_var (by with_unfolding_all exact rfl) ?_ | with_reducible refine r_op ?_ | with_reducible refine r_un ?_ | with_reducible refine r_I0 ?_ | ((with_reducible refine r_I ?_ ?_); · first | (show (0 : Int) < _; decide) | exact div_ok (by decide) (by decide)) | with_reducible refine r_U ?_
  | with_reducible refine r_eq (by with_unfolding_all exact rfl) ?_ | with_reducible refine r_ne (by with_unfolding_all exact rfl) ?_
  | with_reducible refine r_tstq ?_ | with_reducible refine r_tBq ?_ | with_reducible refine r_blq ?_ | with_reducible refine r_intq ?_ | with_reducible refine r_and ?_ | with_reducible refine r_or ?_ | with_reducible refine r_not ?_
  | with_reducible refine r_andV ?_ | with_reducible refine r_orV ?_ | with_reducible refine r_notV ?_
  | with_reducible refine r_nil ?_ | with_reducible refine r_cons ?_ | with_reducible refine r_call ?_ | with_reducible refine r_tup ?_ | with_reducible refine r_lst ?_ | with_reducible refine r_cb ?_ | with_reducible refine r_int1 ?_ | with_reducible refine r_ord ?_
  | with_reducible refine r_sl ?_ | with_reducible refine r_nop ?_ | with_reducible refine r_partq ?_ | with_reducible refine r_bm ?_ | with_reducible refine r_fld ?_
  | with_reducible refine r_lct ?_ | with_reducible refine r_lcl ?_ | with_reducible refine r_lcr ?_ | with_reducible refine r_sfort ?_ | with_reducible refine r_sforl ?_ | with_reducible refine r_sfors ?_ | with_reducible refine r_sforr ?_ | with_reducible refine r_sforz ?_
  | with_reducible refine r_fort ?_ | with_reducible refine r_forl ?_ | with_reducible refine r_forr ?_ | with_reducible refine r_sasgt ?_ | with_reducible refine r_asgt ?_ | with_reducible refine r_saug (by with_unfolding_all exact rfl) ?_ | with_reducible refine r_aug (by with_unfolding_all exact rfl) ?_ | with_reducible refine r_ip ?_ | with_reducible refine r_gname ?_ | with_reducible refine r_seq ?_
  | with_reducible refine r_dget ?_ | with_reducible refine r_din ?_ | with_reducible refine r_dnotin ?_ | with_reducible refine r_sdput ?_ | with_reducible refine r_dput ?_ | with_reducible refine r_mg ?_ | with_reducible refine r_rev ?_ | with_reducible refine r_dzip ?_
  | with_reducible refine r_lcz ?_ | with_reducible refine r_form ?_
  | with_reducible refine r_sfset ?_ | with_reducible refine r_fset ?_ | with_reducible refine r_sfaug ?_ | with_reducible refine r_meth ?_ | with_reducible refine r_make ?_
  | with_reducible refine r_srtl ?_ | with_reducible refine r_m1q ?_ | with_reducible refine r_strq ?_
  | with_reducible refine r_iteT ?_ | with_reducible refine r_iteF ?_)))
local macro_rules | `(tactic| walk_at "rs") => `(tactic| (repeat (first
  | with_reducible refine r_sasg ?_ | with_reducible refine r_sfset ?_ | with_reducible refine r_sfaug ?_ | with_reducible refine r_sdput ?_ | with_reducible refine r_sdrop ?_ | with_reducible refine r_asg ?_ | with_reducible refine r_drop ?_
  | with_reducible refine r_ret ?_ | with_reducible refine r_next ?_
  | with_reducible refine r_c ?_ | with_reducible refine r_var (by with_unfolding_all exact rfl) ?_ | with_reducible refine r_op ?_ | with_reducible refine r_un ?_ | with_reducible refine r_I0 ?_ | ((with_reducible refine r_I ?_ ?_); · first | (show (0 : Int) < _; decide) | exact div_ok (by decide) (by decide)) | with_reducible refine r_U ?_
  | with_reducible refine r_eq (by with_unfolding_all exact rfl) ?_ | with_reducible refine r_ne (by with_unfolding_all exact rfl) ?_
  | with_reducible refine r_tstq ?_ | with_reducible refine r_tBq ?_ | with_reducible refine r_blq ?_ | with_reducible refine r_intq ?_ | with_reducible refine r_and ?_ | with_reducible refine r_or ?_ | with_reducible refine r_not ?_
  | with_reducible refine r_andV ?_ | with_reducible refine r_orV ?_ | with_reducible refine r_notV ?_
  | with_reducible refine r_nil ?_ | with_reducible refine r_cons ?_ | with_reducible refine r_call ?_ | with_reducible refine r_tup ?_ | with_reducible refine r_lst ?_ | with_reducible refine r_cb ?_ | with_reducible refine r_int1 ?_ | with_reducible refine r_ord ?_
  | with_reducible refine r_sl ?_ | with_reducible refine r_nop ?_ | with_reducible refine r_partq ?_ | with_reducible refine r_bm ?_ | with_reducible refine r_fld ?_
  | with_reducible refine r_lct ?_ | with_reducible refine r_lcl ?_ | with_reducible refine r_lcr ?_ | with_reducible refine r_sfort ?_ | with_reducible refine r_sforl ?_ | with_reducible refine r_sfors ?_ | with_reducible refine r_sforr ?_ | with_reducible refine r_sforz ?_
  | with_reducible refine r_fort ?_ | with_reducible refine r_forl ?_ | with_reducible refine r_forr ?_ | with_reducible refine r_sasgt ?_ | with_reducible refine r_asgt ?_ | with_reducible refine r_saug (by with_unfolding_all exact rfl) ?_ | with_reducible refine r_aug (by with_unfolding_all exact rfl) ?_ | with_reducible refine r_ip ?_ | with_reducible refine r_gname ?_ | with_reducible refine r_seq ?_
  | with_reducible refine r_dget ?_ | with_reducible refine r_din ?_ | with_reducible refine r_dnotin ?_ | with_reducible refine r_sdput ?_ | with_reducible refine r_dput ?_ | with_reducible refine r_mg ?_ | with_reducible refine r_rev ?_ | with_reducible refine r_dzip ?_
  | with_reducible refine r_lcz ?_ | with_reducible refine r_form ?_
  | with_reducible refine r_sfset ?_ | with_reducible refine r_fset ?_ | with_reducible refine r_sfaug ?_ | with_reducible refine r_meth ?_ | with_reducible refine r_make ?_
  | with_reducible refine r_srtl ?_ | with_reducible refine r_m1q ?_ | with_reducible refine r_strq ?_
  | with_reducible refine r_iteT ?_ | with_reducible refine r_iteF ?_)))
local macro_rules | `(tactic| walk_at "tex") => `(tactic| (first
  | assumption | exact TEx.refl _ | exact TEx.of (by assumption) | ((refine TEx.trans ?_ (TEx.of (by assumption))); walk_at "tex") | ((refine TEx.trans ?_ (by assumption)); walk_at "tex")))
local macro_rules | `(tactic| walk_at "same") => `(tactic| (first
  | assumption | exact Same.refl _ | ((refine Same.trans ?_ (by assumption)); walk_at "same")))
local macro_rules | `(tactic| walk_at "tp") => `(tactic| (first
  | assumption | exact Tp.int _ | exact Tp.str _ | exact Tp.non | exact TpAll.nil | ((refine TpAll.cons ?_ ?_) <;> walk_at "tp") | ((refine Tp.mono ?_ (by assumption)); walk_at "tex") | ((refine TpAll.mono ?_ (by assumption)); walk_at "tex")))
local macro_rules | `(tactic| walk_at "hp") => `(tactic| (first
  | assumption | ((refine (TEx.trans ?_ (TEx.refl _)) _ _ (by assumption)); walk_at "tex")))
/-- indices of what is kept, in order, are told by the filter -/
theorem filt_get {α : Type} {p : α → Bool} {l : List α} {i : Nat} {x : α} (h : (l.filter p)[i]? = some x) : p x = true ∧ x ∈ l := by
  have m := List.mem_iff_getElem?.mpr ⟨i, h⟩
  exact ⟨(List.mem_filter.mp m).2, (List.mem_filter.mp m).1⟩
theorem upd_id {H : Hp} {a : Addr} {o : HO} (h : H a = some o) : upd H a o = H := by
  funext b
  unfold upd
  by_cases e : b = a
  · rw [if_pos e, e, h]
  · rw [if_neg e]
section
variable {P : Program} {w : World} {K : PySem.W.Frag} {mg : Str → Option Value} {base : Heap}
/-! ### join_row -/
abbrev n_join_row : List Str := ["form", "key", "rest", "names", "values", "name", "others", "value"]
theorem sc_join_row : FnScope n_join_row ["form", "key", "rest"] (defScope s_join_row) := ⟨rfl, rfl, rfl, by decide +kernel, rfl, by decide +kernel, by decide +kernel⟩
theorem bd_join_row : BindH "join_row" s_join_row ["form", "key", "rest"] := fun _ _ _ _ _ _ us hl => match us, hl with | [_, _, _], _ => rfl
def spJoin : Sp := fun vs H Q _ => ∃ (v a b : V) (f : Fm) (row : List PyData), vs = [v, a, b] ∧ Tp H v f.d ∧ Tp H a (.tuple (keyL f row)) ∧ Tp H b (.tuple (restL f row)) ∧ f.Ok ∧ Fit f row ∧ ∀ p H', Same H H' → Tp H' p (.tuple row) → Q p H'
theorem cal_join_row (T : Tx K mg) : Cal P w K mg base 2 "join_row" ["form", "key", "rest"] spJoin := by
  have c_column_names := cal_column_names (P := P) (w := w) (base := base) T
  refine cal_of T.at_join_row sc_join_row bd_join_row (fun vs H Q E h => ?_) fun f cdv A outer s H0 E hr => ⟨_, (pss_cons (ps_set (i := 3) sc_join_row.nd rfl (Or.inl rfl) (pe_cal c_column_names (hr.mono (by omega)) (by rfl) (pa_cons (pv 0) pa_nil)))
      (pss_cons (ps_set (i := 4) sc_join_row.nd rfl (Or.inr rfl) (pe_dictZip (by rfl) T.m_dict (by rfl) T.m_zip (pa_cons (pe_ix (ix_tupK (K := K) rfl) (pv 0) pe_int (fun _ _ => rfl)) (pa_cons (pv 1) pa_nil))))
      (pss_cons (ps_setLc (i := 6) (own := [("name", 5)]) rfl sc_join_row.nd rfl rfl (sw_true rfl rfl rfl (by decide +kernel)) (pi_tup (pv 3)) (blkOk_by (own := [("name", 5)]) (N := n_join_row) (sc := defScope s_join_row) (by decide +kernel)) (fun _ _ _ _ _ => (pg_name (i := 5) sc_join_row.nd rfl (Or.inl rfl))) (fun _ _ _ _ _ => (pts_one (pt_cmpR (op_notInK (K := K) rfl) (pv 5) (pe_ix (ix_tupK (K := K) rfl) (pv 0) pe_int (fun _ _ => rfl)) (by with_unfolding_all rfl)))) (fun _ _ _ _ _ => (pv 5)))
      (pss_cons (ps_for PassesOwn.never rfl (pi_zipM (by rfl) T.m_zip (pa_cons (pv 6) (pa_cons (pv 2) pa_nil))) (pg_tupK (K := K) (n := 2) rfl rfl (pgs_cons (pg_name (i := 5) sc_join_row.nd rfl (Or.inl rfl)) (pgs_cons (pg_name (i := 7) sc_join_row.nd rfl (Or.inl rfl)) pgs_nil)))
      (pss_one (ps_dput (hu_of hr) (pv 4) (pv 5) (pv 7) rfl)))
      (pss_one (ps_ret (pe_callTy (cr_tupOfK (K := K) rfl) (by rfl) T.m_tuple (by decide +kernel) (pa_cons (pe_lc (own := [("name", 5)]) rfl sc_join_row.nd (pi_tup (pv 3)) (blkOk_by (own := [("name", 5)]) (N := n_join_row) (sc := defScope s_join_row) (by decide +kernel)) (fun _ _ _ _ _ => (pg_name (i := 5) sc_join_row.nd rfl (Or.inl rfl))) (fun _ _ _ _ _ => pts_nil) (fun _ _ _ _ _ => (pe_dget (hu_of hr) (pv 4) (pv 5) (fun _ _ => rfl)))) pa_nil)))))))), fun vs H Q h => ?_⟩
  · obtain ⟨v, a, b, fm, row, rfl, _⟩ := h
    rfl
  · obtain ⟨v, kv, rv, fm, row, rfl, hf, hkv, hrv, hok, hfit, q⟩ := h
    obtain ⟨a, c, k, rfl, ha, ⟨xs, hc, hxs⟩, hk⟩ := hf.form
    obtain ⟨ka, ks, rfl, hka, hks⟩ := hkv.inv
    obtain ⟨ra, rs, rfl, hra, hrs⟩ := hrv.inv
    have h12 := hok.n12
    have hk2 := hok.k2
    have nl := names_len fm
    have rowl := hfit.len
    have ksl := hks.length
    have rsl := hrs.length
    rw [show (keyL fm row).length = fm.keys.length from List.length_map _] at ksl
    rw [show (restL fm row).length = (restI fm).length from List.length_map _] at rsl
    have ril : (restI fm).length ≤ fm.names.length := by
      have := List.length_filter_le (fun i => decide (fm.names.getD i ⟨#[]⟩ ∉ fm.keys)) (List.range fm.names.length)
      rw [List.length_range] at this
      exact this
    have hnm : ∀ i ∈ restI fm, fm.names[i]? = some (fm.names.getD i ⟨#[]⟩) ∧ fm.names.getD i ⟨#[]⟩ ∉ fm.keys := fun i hi => by
      obtain ⟨h1, h2⟩ := List.mem_filter.mp hi
      have hl := List.mem_range.mp h1
      have e := List.getElem?_eq_getElem hl
      exact ⟨by rw [e, getD_some e], of_decide_eq_true h2⟩
    walk_at "rd"
    refine ⟨.ref a, fm, rfl, hf, hok.n12, fun l H1 e1 hl => ?_⟩
    walk_at "rd"
    refine r_ixT (e1 _ _ ha) rfl ?_
    walk_at "rd"
    refine r_dictZip (ks := fm.keys.map Sum.inr) (e1 _ _ hk) (by rw [List.map_map]; rfl) (e1 _ _ hka) fun D H2 hD e2 hD2 => ?_
    walk_at "rd"
    have e12 := e1.trans e2
    refine r_lcTq (fun H' e => ((hl.same e2).same e).sq) (by rw [List.length_map, nl]; omega) (fun i => decide (fm.names.getD i ⟨#[]⟩ ∉ fm.keys)) (fun i y _ => y = V.str (fm.names.getD i ⟨#[]⟩)) (fun _ _ _ _ _ h => h) (fun i x hx => lc_test rfl fun H3 Qs Qn e3 qs qn => ?_) fun L ys H3 hL e3 hl3 hp => ?_
    · rw [List.getElem?_map] at hx
      cases hni : fm.names[i]? with
      | none => rw [hni] at hx; cases hx
      | some nm =>
        rw [hni] at hx
        cases hx
        have eg := getD_some (d := (⟨#[]⟩ : Str)) hni
        walk_at "rd"
        refine r_ixT (e3 _ _ (e12 _ _ ha)) rfl ?_
        walk_at "rd"
        refine r_inT (e3 _ _ (e12 _ _ hk)) rfl ?_
        walk_at "rd"
        by_cases hmem : nm ∈ fm.keys
        · refine r_no (by simp [hmem]) (qn H3 (Same.refl _) ?_)
          show decide (fm.names.getD i ⟨#[]⟩ ∉ fm.keys) = false
          rw [eg]
          simp [hmem]
        · refine r_yes (by simp [hmem]) ?_
          walk_at "rd"
          refine qs _ H3 (Same.refl _) ?_ (by rw [eg])
          show decide (fm.names.getD i ⟨#[]⟩ ∉ fm.keys) = true
          rw [eg]
          simp [hmem]
    · have ey : ys = (restI fm).map fun i => V.str (fm.names.getD i ⟨#[]⟩) := by
        rw [List.length_map] at hp
        unfold restI
        generalize (List.range fm.names.length).filter _ = l at hp ⊢
        clear hl3
        induction l generalizing ys with
        | nil => cases hp; rfl
        | cons x r ih => cases hp with
          | cons e t => rw [e, ih _ t]; rfl
      have yl : ys.length = rs.length := by rw [ey, List.length_map, rsl]
      have e13 := e12.trans e3
      have hD3 := e3 _ _ hD2
      walk_at "rd"
      refine r_forM yl (fun i σ' H' => ∃ (kvs : List (Key × V)) (H0' : Hp) (z1 z2 : Option V), Same H3 H0' ∧ H' = upd H0' D (.dK kvs) ∧ H0' D = some (.dK (mergeK [] ((fm.keys.map Sum.inr).zip ks))) ∧ kvs.length ≤ 2 + i ∧
        (∀ (m : Nat) (k : Str) (v : V), fm.keys[m]? = some k → ks[m]? = some v → valV kvs (Sum.inr k) = some v) ∧ (∀ (m j : Nat) (v : V), m < i → (restI fm)[m]? = some j → rs[m]? = some v → valV kvs (Sum.inr (fm.names.getD j ⟨#[]⟩)) = some v) ∧
        σ' = [some (.ref a), some (.ref ka), some (.ref ra), some (.ref l), some (.ref D), z1, some (.ref L), z2]) ⟨_, H3, none, none, Same.refl _, (upd_id hD3).symm, hD3, ?_, ?_, fun m j v h => absurd h (Nat.not_lt_zero m), rfl⟩ ?_ ?_ ?_
      · refine Nat.le_trans (length_mergeK _ []) ?_
        rw [List.length_nil, List.length_zip, List.length_map]
        omega
      · intro m key v hm hv
        rw [mergeK_mrg]
        refine mrg_at _ _ _ _ ?_ ?_
        · rw [List.map_fst_zip (by rw [List.length_map]; omega)]
          exact List.Pairwise.map Sum.inr (fun x y n e => n (Sum.inr.inj e)) hok.knd
        · refine List.mem_iff_getElem?.mpr ⟨m, ?_⟩
          rw [List.getElem?_zip_eq_some]
          exact ⟨by rw [List.getElem?_map, hm]; rfl, hv⟩
      · rintro i σ' H' ⟨kvs, H0', z1, z2, e0, rfl, hD0, hlen, hk1, hr1, rfl⟩
        refine ⟨?_, ?_⟩
        · rw [upd_ne (ne_of (e0 _ _ hl3) hD0 (by intro z; cases z))]
          exact e0 _ _ hl3
        · have t := e0 _ _ (e13 _ _ hra)
          rw [upd_ne (ne_of t hD0 (by intro z; cases z))]
          exact t
      · rintro i x y T2 σ' H' H2' hx hy ⟨kvs, H0', z1, z2, e0, rfl, hD0, hlen, hk1, hr1, rfl⟩ e4 hT
        have hil := (List.getElem?_eq_some_iff.mp hy).1
        rw [ey, List.getElem?_map] at hx
        cases hri : (restI fm)[i]? with
        | none => rw [hri] at hx; cases hx
        | some j =>
          rw [hri] at hx
          cases hx
          obtain ⟨hj1, hj2⟩ := hnm j (List.mem_iff_getElem?.mpr ⟨i, hri⟩)
          refine r_gpair hT ?_
          walk_at "rd"
          refine r_dputK (k := Sum.inr (fm.names.getD j ⟨#[]⟩)) (e4 _ _ upd_same) rfl (by omega) fun H4 eH4 => ?_
          refine ⟨putK kvs (Sum.inr (fm.names.getD j ⟨#[]⟩)) y, fun b => if b = D then some (.dK (mergeK [] ((fm.keys.map Sum.inr).zip ks))) else H4 b, some (V.str (fm.names.getD j ⟨#[]⟩)), some y, ?_, ?_, ?_, ?_, ?_, ?_, rfl⟩
          · intro b o hb
            by_cases hbD : b = D
            · refine (if_pos hbD).trans ?_
              rw [← hb, hbD, hD3]
            · refine (if_neg hbD).trans ?_
              rw [eH4, upd_ne hbD]
              exact e4 _ _ (by rw [upd_ne hbD]; exact e0 _ _ hb)
          · subst eH4
            funext b
            unfold upd
            by_cases hbD : b = D
            · simp [hbD]
            · simp [hbD]
          · show (if D = D then _ else _) = _
            rw [if_pos rfl]
          · have := length_putK kvs (Sum.inr (fm.names.getD j ⟨#[]⟩)) y
            omega
          · intro m key v hm hv
            rw [valV_put, if_neg]
            · exact hk1 m key v hm hv
            · intro e
              exact hj2 (by rw [← Sum.inr.inj e]; exact List.mem_iff_getElem?.mpr ⟨m, hm⟩)
          · intro m j' v hm hj' hv
            by_cases hmi : m = i
            · subst hmi
              rw [hri] at hj'
              rw [hy] at hv
              cases hj'
              cases hv
              rw [valV_put, if_pos rfl]
            · rw [valV_put, if_neg]
              · exact hr1 m j' v (by omega) hj' hv
              · intro e
                have e := Sum.inr.inj e
                obtain ⟨hj3, _⟩ := hnm j' (List.mem_iff_getElem?.mpr ⟨m, hj'⟩)
                have ejj : j' = j := by
                  have t1 := ix_nodup hok.nd hj3
                  have t2 := ix_nodup hok.nd hj1
                  rw [e] at t1
                  exact t1.symm.trans t2
                subst ejj
                have nd : (restI fm).Nodup := List.Pairwise.filter _ List.nodup_range
                have z1 := (List.getElem?_eq_some_iff.mp hj')
                have z2 := (List.getElem?_eq_some_iff.mp hri)
                obtain ⟨p1, q1⟩ := z1
                obtain ⟨p2, q2⟩ := z2
                exact hmi ((List.getElem_inj nd).mp (q1.trans q2.symm))
      · rintro σ' H' ⟨kvs, H0', z1, z2, e0, rfl, hD0, hlen, hk1, hr1, rfl⟩
        have eU : ∀ b o, b ≠ D → H3 b = some o → upd H0' D (.dK kvs) b = some o := fun b o hb h => by rw [upd_ne hb]; exact e0 _ _ h
        have fzD : ∀ {b ys}, FzT H3 b ys → FzT (upd H0' D (.dK kvs)) b ys := fun {b ys} ⟨o, h, r⟩ => ⟨o, eU _ _ (ne_of h hD3 (by intro z; cases z)) h, r⟩
        have hl5 := fzD (hl.same (e2.trans e3))
        have tx : TEx H (upd H0' D (.dK kvs)) := fun b ys h => eU _ _ (ne_of (e13 _ _ h) hD3 (by intro z; cases z)) (e13 _ _ h)
        walk_at "rd"
        refine r_lcTq (fun H' e => (hl5.same e).sq) (by rw [List.length_map, nl]; omega) (fun _ => true) (fun i y H => Tp H y (row.getD i .none)) (keep_tp _) (fun i x hx => lc_one rfl fun H4 Qs e4 qs => ?_) fun L2 ys2 H4 hL2 e4 hl4 hp4 => ?_
        · rw [List.getElem?_map] at hx
          cases hni : fm.names[i]? with
          | none => rw [hni] at hx; cases hx
          | some nm =>
            rw [hni] at hx
            cases hx
            have eg := getD_some (d := (⟨#[]⟩ : Str)) hni
            have hlt := (List.getElem?_eq_some_iff.mp hni).1
            have fin : ∃ v, valV kvs (Sum.inr nm) = some v ∧ Tp H v (row.getD i .none) := by
              by_cases hmem : nm ∈ fm.keys
              · obtain ⟨m, hm⟩ := List.mem_iff_getElem?.mp hmem
                have hml := (List.getElem?_eq_some_iff.mp hm).1
                have hkm : (keyL fm row)[m]? = some (row.getD i .none) := by
                  show (fm.keys.map _)[m]? = _
                  rw [List.getElem?_map, hm]
                  show some (row.getD (ix fm.names nm) .none) = _
                  rw [ix_nodup hok.nd hni]
                obtain ⟨v, hv, hvt⟩ := hks.get hkm
                exact ⟨v, hk1 m nm v hm hv, hvt⟩
              · have hin : i ∈ restI fm := List.mem_filter.mpr ⟨List.mem_range.mpr hlt, by rw [eg]; exact decide_eq_true hmem⟩
                obtain ⟨m, hm⟩ := List.mem_iff_getElem?.mp hin
                have hml := (List.getElem?_eq_some_iff.mp hm).1
                have hrm : (restL fm row)[m]? = some (row.getD i .none) := by
                  show ((restI fm).map _)[m]? = _
                  rw [List.getElem?_map, hm]
                  rfl
                obtain ⟨v, hv, hvt⟩ := hrs.get hrm
                have := hr1 m i v (by omega) hm hv
                rw [eg] at this
                exact ⟨v, this, hvt⟩
            obtain ⟨v, hv, hvt⟩ := fin
            walk_at "rd"
            refine r_dgetK (k := Sum.inr nm) (e4 _ _ upd_same) rfl hv (qs v H4 (Same.refl _) ?_)
            exact hvt.mono (tx.trans (TEx.of e4))
        · rw [filter_all] at hp4
          have hp5 := pd_tp hp4
          rw [List.length_map, nl, ← rowl, range_map] at hp5
          walk_at "rd"
          refine r_tupD hl4 hp5 fun l5 H5 e5 ht5 => ?_
          walk_at "rd"
          have sHD : Same H (upd H0' D (.dK kvs)) := same_mut (e13.trans e0) (by
            cases hz : H D with
            | none => rfl
            | some o => rw [e1 _ _ hz] at hD; cases hD)
          exact q _ H5 (sHD.trans (e4.trans e5)) ht5
end
end Vt
-- VtD14
set_option Elab.async false
set_option linter.all false
set_option maxRecDepth 100000
set_option maxHeartbeats 4000000
namespace Vt
open PySem PySem.Spec PyProof.Rows L2 LamX NdefX
local macro_rules | `(tactic| walk_at "rd") => `(tactic| (repeat (first
  | with_reducible refine r_sasg ?_ | with_reducible refine r_sfset ?_ | with_reducible refine r_sfaug ?_ | with_reducible refine r_sdput ?_ | with_reducible refine r_sdrop ?_ | with_reducible refine r_swhen ?_ | with_reducible refine r_sif ?_ | with_reducible refine r_asg ?_ | with_reducible refine r_drop ?_
  | with_reducible refine r_ret ?_ | with_reducible refine r_if ?_ | with_reducible refine r_next ?_
  | with_reducible refine r_c ?_ | with_reducible refine r_var (by with_unfolding_all exact rfl) ?_ | with_reducible refine r_op ?_ | with_reducible refine r_un ?_ | with_reducible refine r_I0 ?_ | ((with_reducible refine r_I ?_ ?_); · first | (show (0 : Int) < _; decide) | exact div_ok (by decide) (by decide)) | with_reducible refine r_U ?_
  | with_reducible refine r_eq (by with_unfolding_all exact rfl) ?_ | with_reducible refine r_ne (by with_unfolding_all exact rfl) ?_
  | with_reducible refine r_tstq ?_ | with_reducible refine r_tBq ?_ | with_reducible refine r_blq ?_ | with_reducible refine r_intq ?_ | with_reducible refine r_and ?_ | with_reducible refine r_or ?_ | with_reducible refine r_not ?_
  | with_reducible refine r_andV ?_ | with_reducible refine r_orV ?_ | with_reducible refine r_notV ?_
  | with_reducible refine r_nil ?_ | with_reducible refine r_cons ?_ | with_reducible refine r_call ?_ | with_reducible refine r_tup ?_ | with_reducible refine r_lst ?_ | with_reducible refine r_cb ?_ | with_reducible refine r_int1 ?_ | with_reducible refine r_ord ?_
  | with_reducible refine r_sl ?_ | with_reducible refine r_nop ?_ | with_reducible refine r_partq ?_ | with_reducible refine r_bm ?_ | with_reducible refine r_fld ?_
  | with_reducible refine r_lct ?_ | with_reducible refine r_lcl ?_ | with_reducible refine r_lcr ?_ | with_reducible refine r_sfort ?_ | with_reducible refine r_sforl ?_ | with_reducible refine r_sfors ?_ | with_reducible refine r_sforr ?_ | with_reducible refine r_sforz ?_
  | with_reducible refine r_fort ?_ | with_reducible refine r_forl ?_ | with_reducible refine r_forr ?_ | with_reducible refine r_sasgt ?_ | with_reducible refine r_asgt ?_ | with_reducible refine r_saug (by with_unfolding_all exact rfl) ?_ | with_reducible refine r_aug (by with_unfolding_all exact rfl) ?_ | with_reducible refine r_ip ?_ | with_reducible refine r_gname ?_ | with_reducible refine r_seq ?_
  | with_reducible refine r_dget ?_ | with_reducible refine r_din ?_ | with_reducible refine r_dnotin ?_ | with_reducible refine r_sdput ?_ | with_reducible refine r_dput ?_ | with_reducible refine r_mg ?_ | with_reducible refine r_rev ?_ | with_reducible refine r_dzip ?_
  | with_reducible refine r_lcz ?_ | with_reducible refine r_form ?_
  | with_reducible refine r_sfset ?_ | with_reducible refine r_fset ?_ | with_reducible refine r_sfaug ?_ | with_reducible refine r_meth ?_ | with_reducible refine r_make ?_
  | with_reducible refine r_srtl ?_ | with_reducible refine r_m1q ?_ | with_reducible refine r_strq ?_
  | with_reducible refine r_iteT ?_ | with_reducible refine r_iteF ?_)))
local macro_rules | `(tactic| walk_at "rs") => `(tactic| (repeat (first
  | with_reducible refine r_sasg ?_ | with_reducible refine r_sfset ?_ | with_reducible refine r_sfaug ?_ | with_reducible refine r_sdput ?_ | with_reducible refine r_sdrop ?_ | with_reducible refine r_asg ?_ | with_reducible refine r_drop ?_
  | with_reducible refine r_ret ?_ | with_reducible refine r_next ?_
  | with_reducible refine r_c ?_ | with_reducible refine r_var (by with_unfolding_all exact rfl) ?_ | with_reducible refine r_op ?_ | with_reducible refine r_un ?_ | with_reducible refine r_I0 ?_ | ((with_reducible refine r_I ?_ ?_); · first | (show (0 : Int) < _; decide) | exact div_ok (by decide) (by decide)) | with_reducible refine r_U ?_
  | with_reducible refine r_eq (by with_unfolding_all exact rfl) ?_ | with_reducible refine r_ne (by with_unfolding_all exact rfl) ?_
  | with_reducible refine r_tstq ?_ | with_reducible refine r_tBq ?_ | with_reducible refine r_blq ?_ | with_reducible refine r_intq ?_ | with_reducible refine r_and ?_ | with_reducible refine r_or ?_ | with_reducible refine r_not ?_
  | with_reducible refine r_andV ?_ | with_reducible refine r_orV ?_ | with_reducible refine r_notV ?_
  | with_reducible refine r_nil ?_ | with_reducible refine r_cons ?_ | with_reducible refine r_call ?_ | with_reducible refine r_tup ?_ | with_reducible refine r_lst ?_ | with_reducible refine r_cb ?_ | with_reducible refine r_int1 ?_ | with_reducible refine r_ord ?_
  | with_reducible refine r_sl ?_ | with_reducible refine r_nop ?_ | with_reducible refine r_partq ?_ | with_reducible refine r_bm ?_ | with_reducible refine r_fld ?_
  | with_reducible refine r_lct ?_ | with_reducible refine r_lcl ?_ | with_reducible refine r_lcr ?_ | with_reducible refine r_sfort ?_ | with_reducible refine r_sforl ?_ | with_reducible refine r_sfors ?_ | with_reducible refine r_sforr ?_ | with_reducible refine r_sforz ?_
  | with_reducible refine r_fort ?_ | with_reducible refine r_forl ?_ | with_reducible refine r_forr ?_ | with_reducible refine r_sasgt ?_ | with_reducible refine r_asgt ?_ | with_reducible refine r_saug (by with_unfolding_all exact rfl) ?_ | with_reducible refine r_aug (by with_unfolding_all exact rfl) ?_ | with_reducible refine r_ip ?_ | with_reducible refine r_gname ?_ | with_reducible refine r_seq ?_
  | with_reducible refine r_dget ?_ | with_reducible refine r_din ?_ | with_reducible refine r_dnotin ?_ | with_reducible refine r_sdput ?_ | with_reducible refine r_dput ?_ | with_reducible refine r_mg ?_ | with_reducible refine r_rev ?_ | with_reducible refine r_dzip ?_
  | with_reducible refine r_lcz ?_ | with_reducible refine r_form ?_
  | with_reducible refine r_sfset ?_ | with_reducible refine r_fset ?_ | with_reducible refine r_sfaug ?_ | with_reducible refine r_meth ?_ | with_reducible refine r_make ?_
  | with_reducible refine r_srtl ?_ | with_reducible refine r_m1q ?_ | with_reducible refine r_strq ?_
  | with_reducible refine r_iteT ?_ | with_reducible refine r_iteF ?_)))
local macro_rules | `(tactic| walk_at "tex") => `(tactic| (first
  | assumption | exact TEx.refl _ | exact TEx.of (by assumption) | ((refine TEx.trans ?_ (TEx.of (by assumption))); walk_at "tex") | ((refine TEx.trans ?_ (by assumption)); walk_at "tex")))
local macro_rules | `(tactic| walk_at "same") => `(tactic| (first
  | assumption | exact Same.refl _ | ((refine Same.trans ?_ (by assumption)); walk_at "same")))
local macro_rules | `(tactic| walk_at "tp") => `(tactic| (first
  | assumption | exact Tp.int _ | exact Tp.str _ | exact Tp.non | exact TpAll.nil | ((refine TpAll.cons ?_ ?_) <;> walk_at "tp") | ((refine Tp.mono ?_ (by assumption)); walk_at "tex") | ((refine TpAll.mono ?_ (by assumption)); walk_at "tex")))
local macro_rules | `(tactic| walk_at "hp") => `(tactic| (first
  | assumption | ((refine (TEx.trans ?_ (TEx.refl _)) _ _ (by assumption)); walk_at "tex")))
theorem r_cat {H : Hp} {Q : VK} {l b : Addr} {xs zs : List V} (h1 : H l = some (.lst xs)) (h2 : H b = some (.lst zs)) (hz : xs.length + zs.length ≤ 100000) (q : ∀ p H2, H p = none → Same H H2 → H2 p = some (.lst (xs ++ zs)) → Q (.ref p) H2) : rCat (.ref l) (.ref b) H Q :=
  ⟨l, b, xs, zs, rfl, rfl, h1, h2, Nat.le_trans hz (by decide), fun p hp => q p _ hp (same_new hp) upd_same⟩
section
variable {P : Program} {w : World} {K : PySem.W.Frag} {mg : Str → Option Value} {base : Heap}
/-! ### read_state -/
abbrev n_read_state : List Str := ["chunks", "state"]
theorem sc_read_state : FnScope n_read_state ["chunks", "state"] (defScope s_read_state) := ⟨rfl, rfl, rfl, by decide +kernel, rfl, by decide +kernel, by decide +kernel⟩
theorem bd_read_state : BindH "read_state" s_read_state ["chunks", "state"] := fun _ _ _ _ _ _ us hl => match us, hl with | [_, _], _ => rfl
def spReadState (K : PySem.W.Frag) : Sp := fun vs H Q _ => ∃ (b n c t : Addr) (bk : List Str) (Pp : Pr) (N : Nat) (a : Int) (ts : List Tr), vs = [.ref c, .int a] ∧ Sg K H b n c t bk Pp N ∧ Pp a (encS (stD ts)) ∧ ts.length ≤ 120 ∧ (∀ t ∈ ts, t.Ok) ∧
  ∀ (l : Addr) (tv : List V) (H' : Hp), Sg K H' b n c t bk Pp N → Wr H H' n c t bk bk Pp Pp → H' l = some (.lst tv) → TpAll H' tv (ts.map Tr.d) → Q (.ref l) H'
theorem cal_read_state (T : Tx K mg) : Cal P w K mg base 17 "read_state" ["chunks", "state"] (spReadState K) := by
  have c_decode := cal_decode (P := P) (w := w) (base := base) T
  have c_get := cal_get (P := P) (w := w) (mg := mg) (base := base) T
  refine cal_of T.at_read_state sc_read_state bd_read_state (fun vs H Q E h => ?_) fun f cdv A outer s H0 E hr => ⟨_, (pss_one (ps_ret (pe_callTy (cr_lstOfK (K := K) rfl) (by rfl) T.m_list (by decide +kernel) (pa_cons (pe_ix (ix_tupK (K := K) rfl) (pe_cal c_decode (hr.mono (by omega)) (by rfl) (pa_cons (pe_calm c_get (pv 0) (hr.mono (by omega)) (pa_cons (pv 1) pa_nil)) pa_nil)) pe_int (fun _ _ => rfl)) pa_nil)))), fun vs H Q h => ?_⟩
  · obtain ⟨b, n, c, t, bk, Pp, N, a, ts, rfl, _⟩ := h
    rfl
  · obtain ⟨b, n, c, t, bk, Pp, N, a, ts, rfl, sg, hp, hlen, hok, q⟩ := h
    obtain ⟨dc, i, hc⟩ := sg.ci
    have hen := st_en hlen hok
    walk_at "rd"
    refine r_methq hc rfl ?_
    walk_at "rd"
    refine ⟨b, n, c, t, bk, Pp, N, a, _, rfl, sg, hp, fun H1 sg1 wr1 => ?_⟩
    walk_at "rd"
    refine ⟨stD ts, rfl, Nat.lt_of_le_of_lt hen.dp (by decide), hen.ok, Nat.le_trans hen.ln (by decide), fun v H2 e2 hv => ?_⟩
    have hv : Tp H2 v (.tuple [.str "state", .tuple (ts.map Tr.d)]) := hv
    obtain ⟨va, vx, rfl, hva, hvx⟩ := hv.inv
    obtain ⟨x1, r1, rfl, _, hx2⟩ := hvx.inv
    obtain ⟨x2, r2, rfl, ht2, _⟩ := hx2.inv
    obtain ⟨ga, gx, rfl, hga, hgx⟩ := ht2.inv
    walk_at "rd"
    refine r_ixT hva (atI_nat (j := 1) rfl) ?_
    walk_at "rd"
    exact r_lstT hga fun l H3 hl3 e3 hl' => q l gx H3 ((sg1.same e2).same e3) ((wr1.trans (Wr.of e2)).trans (Wr.of e3)) hl' (hgx.mono (TEx.of e3))
/-! ### other_tables -/
abbrev n_other_tables : List Str := ["chunks", "state", "name", "table"]
theorem sc_other_tables : FnScope n_other_tables ["chunks", "state", "name"] (defScope s_other_tables) := ⟨rfl, rfl, rfl, by decide +kernel, rfl, by decide +kernel, by decide +kernel⟩
theorem bd_other_tables : BindH "other_tables" s_other_tables ["chunks", "state", "name"] := fun _ _ _ _ _ _ us hl => match us, hl with | [_, _, _], _ => rfl
def spOther (K : PySem.W.Frag) : Sp := fun vs H Q _ => ∃ (b n c t : Addr) (bk : List Str) (Pp : Pr) (N : Nat) (a : Int) (ts : List Tr) (nm : Str), vs = [.ref c, .int a, .str nm] ∧ Sg K H b n c t bk Pp N ∧ Pp a (encS (stD ts)) ∧ ts.length ≤ 120 ∧ (∀ t ∈ ts, t.Ok) ∧
  ∀ (l : Addr) (tv : List V) (H' : Hp), Sg K H' b n c t bk Pp N → Wr H H' n c t bk bk Pp Pp → H' l = some (.lst tv) → TpAll H' tv ((remT ts nm).map Tr.d) → Q (.ref l) H'
theorem cal_other_tables (T : Tx K mg) : Cal P w K mg base 18 "other_tables" ["chunks", "state", "name"] (spOther K) := by
  have c_read_state := cal_read_state (P := P) (w := w) (base := base) T
  refine cal_of T.at_other_tables sc_other_tables bd_other_tables (fun vs H Q E h => ?_) fun f cdv A outer s H0 E hr => ⟨_, (pss_one (ps_ret (pe_lc (own := [("table", 3)]) rfl sc_other_tables.nd (pi_list (pe_cal c_read_state (hr.mono (by omega)) (by rfl) (pa_cons (pv 0) (pa_cons (pv 1) pa_nil)))) (blkOk_by (own := [("table", 3)]) (N := n_other_tables) (sc := defScope s_other_tables) (by decide +kernel)) (fun _ _ _ _ _ => (pg_name (i := 3) sc_other_tables.nd rfl (Or.inl rfl))) (fun _ _ _ _ _ => (pts_one (pt_cmpR op_ne (pe_ix (ix_tupK (K := K) rfl) (pv 3) pe_int (fun _ _ => rfl)) (pv 2) (nomark _)))) (fun _ _ _ _ _ => (pv 3))))), fun vs H Q h => ?_⟩
  · obtain ⟨b, n, c, t, bk, Pp, N, a, ts, nm, rfl, _⟩ := h
    rfl
  · obtain ⟨b, n, c, t, bk, Pp, N, a, ts, nm, rfl, sg, hp, hlen, hok, q⟩ := h
    walk_at "rd"
    refine ⟨b, n, c, t, bk, Pp, N, a, ts, rfl, sg, hp, hlen, hok, fun l tv H1 sg1 wr1 hl1 htv => ?_⟩
    have htl := htv.length
    rw [List.length_map] at htl
    let d0 : Tr := ⟨⟨#[]⟩, ⟨[], []⟩, 0⟩
    refine r_lcL hl1 (by omega) (fun i => !decide ((ts.getD i d0).name = nm)) (fun i y H => Tp H y (ts.getD i d0).d) (keep_tp _) (fun i x hx => lc_test rfl fun H3 Qs Qn e3 qs qn => ?_) fun L ys H2 hL e2 hl2 hp2 => ?_
    · obtain ⟨d, hd, htp⟩ := htv.get' hx
      rw [List.getElem?_map] at hd
      cases hti : ts[i]? with
      | none => rw [hti] at hd; cases hd
      | some tr =>
        rw [hti] at hd
        cases hd
        have eg := getD_some (d := d0) hti
        have htp : Tp H1 x (.tuple [.str tr.name, tr.fm.d, .int tr.root]) := htp
        obtain ⟨va, vx, rfl, hva, hvx⟩ := htp.inv
        obtain ⟨x1, r1, rfl, ht1, _⟩ := hvx.inv
        obtain rfl := ht1.inv_str
        walk_at "rd"
        refine r_ixT (e3 _ _ hva) (atI_nat (j := 0) rfl) ?_
        walk_at "rd"
        rw [dec_str']
        by_cases h : tr.name = nm
        · refine r_no (by simp [h]) (qn H3 (Same.refl _) ?_)
          show (!decide ((ts.getD i d0).name = nm)) = false
          rw [eg]
          simp [h]
        · refine r_yes (by simp [h]) ?_
          walk_at "rd"
          refine qs _ H3 (Same.refl _) ?_ ?_
          · show (!decide ((ts.getD i d0).name = nm)) = true
            rw [eg]
            simp [h]
          · rw [eg]
            exact htp.mono (TEx.of e3)
    · have hp3 := pd_tp hp2
      rw [htl] at hp3
      have er := congrArg (List.map Tr.d) (range_filter ts d0 fun u => !decide (u.name = nm))
      rw [List.map_map] at er
      have er : ((List.range ts.length).filter fun i => !decide ((ts.getD i d0).name = nm)).map (fun i => (ts.getD i d0).d) = (remT ts nm).map Tr.d := er
      rw [er] at hp3
      walk_at "rd"
      exact q L ys H2 (sg1.same e2) (wr1.trans (Wr.of e2)) hl2 hp3
/-! ### remove_table -/
abbrev n_remove_table : List Str := ["chunks", "state", "name"]
theorem sc_remove_table : FnScope n_remove_table ["chunks", "state", "name"] (defScope s_remove_table) := ⟨rfl, rfl, rfl, by decide +kernel, rfl, by decide +kernel, by decide +kernel⟩
theorem bd_remove_table : BindH "remove_table" s_remove_table ["chunks", "state", "name"] := fun _ _ _ _ _ _ us hl => match us, hl with | [_, _, _], _ => rfl
def spRemove (K : PySem.W.Frag) : Sp := fun vs H Q _ => ∃ (b n c t : Addr) (bk : List Str) (Pp : Pr) (N : Nat) (a : Int) (ts : List Tr) (nm : Str), vs = [.ref c, .int a, .str nm] ∧ Sg K H b n c t bk Pp N ∧ N < 800000 ∧ Pp a (encS (stD ts)) ∧ NmS ts ∧ ts.length ≤ 120 ∧ (∀ t ∈ ts, t.Ok) ∧
  ∀ (a' : Int) (H' : Hp) (bk' : List Str) (P' : Pr), Sg K H' b n c t bk' P' (N + 2) → Wr H H' n c t bk bk' Pp P' → P' a' (encS (stD (remT ts nm))) → Q (.int a') H'
theorem cal_remove_table (T : Tx K mg) (L : Tl K mg base) : Cal P w K mg base 19 "remove_table" ["chunks", "state", "name"] (spRemove K) := by
  have c_other_tables := cal_other_tables (P := P) (w := w) (base := base) T
  have c_write_state := cal_write_state (P := P) (w := w) (base := base) T L
  refine cal_of T.at_remove_table sc_remove_table bd_remove_table (fun vs H Q E h => ?_) fun f cdv A outer s H0 E hr => ⟨_, (pss_one (ps_ret (pe_cal c_write_state (hr.mono (by omega)) (by rfl) (pa_cons (pv 0) (pa_cons (pe_cal c_other_tables (hr.mono (by omega)) (by rfl) (pa_cons (pv 0) (pa_cons (pv 1) (pa_cons (pv 2) pa_nil)))) pa_nil))))), fun vs H Q h => ?_⟩
  · obtain ⟨b, n, c, t, bk, Pp, N, a, ts, nm, rfl, _⟩ := h
    rfl
  · obtain ⟨b, n, c, t, bk, Pp, N, a, ts, nm, rfl, sg, hN, hp, hnm, hlen, hok, q⟩ := h
    walk_at "rd"
    refine ⟨b, n, c, t, bk, Pp, N, a, ts, nm, rfl, sg, hp, hlen, hok, fun l tv H1 sg1 wr1 hl1 htv => ?_⟩
    walk_at "rd"
    have hl2 := remT_len ts nm
    exact ⟨b, n, c, t, bk, Pp, N, l, tv, remT ts nm, remT ts nm, rfl, sg1, hN, hl1, htv, List.Perm.refl _, remT_nm hnm, by omega, fun t ht => hok t (remT_mem.mp ht).1, fun a' H' bk' P' sg2 wr2 hP2 => q a' H' bk' P' sg2 (wr1.trans wr2) hP2⟩
/-! ### set_table -/
abbrev n_set_table : List Str := ["chunks", "state", "name", "form", "root"]
theorem sc_set_table : FnScope n_set_table ["chunks", "state", "name", "form", "root"] (defScope s_set_table) := ⟨rfl, rfl, rfl, by decide +kernel, rfl, by decide +kernel, by decide +kernel⟩
theorem bd_set_table : BindH "set_table" s_set_table ["chunks", "state", "name", "form", "root"] := fun _ _ _ _ _ _ us hl => match us, hl with | [_, _, _, _, _], _ => rfl
def spSet (K : PySem.W.Frag) : Sp := fun vs H Q _ => ∃ (b n c t : Addr) (bk : List Str) (Pp : Pr) (N : Nat) (a : Int) (ts ss : List Tr) (tr : Tr) (fv : V), vs = [.ref c, .int a, .str tr.name, fv, .int tr.root] ∧ Sg K H b n c t bk Pp N ∧ N < 800000 ∧ Pp a (encS (stD ts)) ∧ ts.length ≤ 119 ∧ (∀ t ∈ ts, t.Ok) ∧ tr.Ok ∧ Tp H fv tr.fm.d ∧
  ss.Perm (remT ts tr.name ++ [tr]) ∧ NmS ss ∧
  ∀ (a' : Int) (H' : Hp) (bk' : List Str) (P' : Pr), Sg K H' b n c t bk' P' (N + 2) → Wr H H' n c t bk bk' Pp P' → P' a' (encS (stD ss)) → Q (.int a') H'
theorem cal_set_table (T : Tx K mg) (L : Tl K mg base) : Cal P w K mg base 19 "set_table" ["chunks", "state", "name", "form", "root"] (spSet K) := by
  have c_other_tables := cal_other_tables (P := P) (w := w) (base := base) T
  have c_write_state := cal_write_state (P := P) (w := w) (base := base) T L
  refine cal_of T.at_set_table sc_set_table bd_set_table (fun vs H Q E h => ?_) fun f cdv A outer s H0 E hr => ⟨_, (pss_one (ps_ret (pe_cal c_write_state (hr.mono (by omega)) (by rfl) (pa_cons (pv 0) (pa_cons (pe_op op_cat (pe_cal c_other_tables (hr.mono (by omega)) (by rfl) (pa_cons (pv 0) (pa_cons (pv 1) (pa_cons (pv 2) pa_nil)))) (pe_lst (pa_cons (pe_tup (pa_cons (pv 2) (pa_cons (pv 3) (pa_cons (pv 4) pa_nil)))) pa_nil))) pa_nil))))), fun vs H Q h => ?_⟩
  · obtain ⟨b, n, c, t, bk, Pp, N, a, ts, ss, tr, fv, rfl, _⟩ := h
    rfl
  · obtain ⟨b, n, c, t, bk, Pp, N, a, ts, ss, tr, fv, rfl, sg, hN, hp, hlen, hok, hto, hfv, hpm, hnm, q⟩ := h
    walk_at "rd"
    refine ⟨b, n, c, t, bk, Pp, N, a, ts, tr.name, rfl, sg, hp, by omega, hok, fun l tv H1 sg1 wr1 hl1 htv => ?_⟩
    walk_at "rd"
    have hl2 := remT_len ts tr.name
    have htl := htv.length
    rw [List.length_map] at htl
    refine r_newD (ds := [.str tr.name, tr.fm.d, .int tr.root]) (.cons (.str _) (.cons (hfv.mono (sg.tex wr1)) (.cons (.int _) .nil))) (Nat.le_of_ble_eq_true rfl) fun p2 H2 e2 t2 => ?_
    walk_at "rd"
    refine r_newL (Nat.le_of_ble_eq_true rfl) fun p3 H3 hp3 e3 hl3 => ?_
    have e13 := e2.trans e3
    refine r_cat (e13 _ _ hl1) hl3 (by rw [htl]; show (remT ts tr.name).length + 1 ≤ 100000; omega) fun p4 H4 hp4 e4 hl4 => ?_
    walk_at "rd"
    have e14 := e13.trans e4
    have hall : TpAll H4 (tv ++ [V.ref p2]) ((remT ts tr.name ++ [tr]).map Tr.d) := by
      rw [List.map_append]
      exact TpAll.append (htv.mono (TEx.of e14)) (TpAll.one ((show Tp H2 (.ref p2) tr.d from t2).mono (TEx.of (e3.trans e4))))
    refine ⟨b, n, c, t, bk, Pp, N, p4, _, remT ts tr.name ++ [tr], ss, rfl, sg1.same e14, hN, hl4, hall, hpm, hnm, ?_, ?_, fun a' H' bk' P' sg2 wr2 hP2 => q a' H' bk' P' sg2 ((wr1.trans (Wr.of e14)).trans wr2) hP2⟩
    · rw [List.length_append]
      show (remT ts tr.name).length + 1 ≤ 120
      omega
    · intro t ht
      rcases List.mem_append.mp ht with ht | ht
      · exact hok t (remT_mem.mp ht).1
      · rw [List.mem_singleton.mp ht]
        exact hto
end
end Vt
-- VtD15
set_option Elab.async false
set_option linter.all false
set_option maxRecDepth 100000
set_option maxHeartbeats 4000000
namespace Vt
open PySem PySem.Spec PyProof.Rows L2 LamX NdefX
local macro_rules | `(tactic| walk_at "rd") => `(tactic| (repeat (first
  | with_reducible refine r_sasg ?_ | with_reducible refine r_sfset ?_ | with_reducible refine r_sfaug ?_ | with_reducible refine r_sdput ?_ | with_reducible refine r_sdrop ?_ | with_reducible refine r_swhen ?_ | with_reducible refine r_sif ?_ | with_reducible refine r_asg ?_ | with_reducible refine r_drop ?_
  | with_reducible refine r_ret ?_ | with_reducible refine r_if ?_ | with_reducible refine r_next ?_
  | with_reducible refine r_c ?_ | with_reducible refine r_var (by with_unfolding_all exact rfl) ?_ | with_reducible refine r_op ?_ | with_reducible refine r_un ?_ | with_reducible refine r_I0 ?_ | ((with_reducible refine r_I ?_ ?_); · first | (show (0 : Int) < _; decide) | exact div_ok (by decide) (by decide)) | with_reducible refine r_U ?_
  | with_reducible refine r_eq (by with_unfolding_all exact rfl) ?_ | with_reducible refine r_ne (by with_unfolding_all exact rfl) ?_
  | with_reducible refine r_tstq ?_ | with_reducible refine r_tBq ?_ | with_reducible refine r_blq ?_ | with_reducible refine r_intq ?_ | with_reducible refine r_and ?_ | with_reducible refine r_or ?_ | with_reducible refine r_not ?_
  | with_reducible refine r_andV ?_ | with_reducible refine r_orV ?_ | with_reducible refine r_notV ?_
  | with_reducible refine r_nil ?_ | with_reducible refine r_cons ?_ | with_reducible refine r_call ?_ | with_reducible refine r_tup ?_ | with_reducible refine r_lst ?_ | with_reducible refine r_cb ?_ | with_reducible refine r_int1 ?_ | with_reducible refine r_ord ?_
  | with_reducible refine r_sl ?_ | with_reducible refine r_nop ?_ | with_reducible refine r_partq ?_ | with_reducible refine r_bm ?_ | with_reducible refine r_fld ?_
  | with_reducible refine r_lct ?_ | with_reducible refine r_lcl ?_ | with_reducible refine r_lcr ?_ | with_reducible refine r_sfort ?_ | with_reducible refine r_sforl ?_ | with_reducible refine r_sfors ?_ | with_reducible refine r_sforr ?_ | with_reducible refine r_sforz ?_
  | with_reducible refine r_fort ?_ | with_reducible refine r_forl ?_ | with_reducible refine r_forr ?_ | with_reducible refine r_sasgt ?_ | with_reducible refine r_asgt ?_ | with_reducible refine r_saug (by with_unfolding_all exact rfl) ?_ | with_reducible refine r_aug (by with_unfolding_all exact rfl) ?_ | with_reducible refine r_ip ?_ | with_reducible refine r_gname ?_ | with_reducible refine r_seq ?_
  | with_reducible refine r_dget ?_ | with_reducible refine r_din ?_ | with_reducible refine r_dnotin ?_ | with_reducible refine r_sdput ?_ | with_reducible refine r_dput ?_ | with_reducible refine r_mg ?_ | with_reducible refine r_rev ?_ | with_reducible refine r_dzip ?_
  | with_reducible refine r_lcz ?_ | with_reducible refine r_form ?_
  | with_reducible refine r_sfset ?_ | with_reducible refine r_fset ?_ | with_reducible refine r_sfaug ?_ | with_reducible refine r_meth ?_ | with_reducible refine r_make ?_
  | with_reducible refine r_srtl ?_ | with_reducible refine r_m1q ?_ | with_reducible refine r_strq ?_
  | with_reducible refine r_iteT ?_ | with_reducible refine r_iteF ?_)))
local macro_rules | `(tactic| walk_at "rs") => `(tactic| (repeat (first
  | with_reducible refine r_sasg ?_ | with_reducible refine r_sfset ?_ | with_reducible refine r_sfaug ?_ | with_reducible refine r_sdput ?_ | with_reducible refine r_sdrop ?_ | with_reducible refine r_asg ?_ | with_reducible refine r_drop ?_
  | with_reducible refine r_ret ?_ | with_reducible refine r_next ?_
  | with_reducible refine r_c ?_ | with_reducible refine r_var (by with_unfolding_all exact rfl) ?_ | with_reducible refine r_op ?_ | with_reducible refine r_un ?_ | with_reducible refine r_I0 ?_ | ((with_reducible refine r_I ?_ ?_); · first | (show (0 : Int) < _; decide) | exact div_ok (by decide) (by decide)) | with_reducible refine r_U ?_
  | with_reducible refine r_eq (by with_unfolding_all exact rfl) ?_ | with_reducible refine r_ne (by with_unfolding_all exact rfl) ?_
  | with_reducible refine r_tstq ?_ | with_reducible refine r_tBq ?_ | with_reducible refine r_blq ?_ | with_reducible refine r_intq ?_ | with_reducible refine r_and ?_ | with_reducible refine r_or ?_ | with_reducible refine r_not ?_
  | with_reducible refine r_andV ?_ | with_reducible refine r_orV ?_ | with_reducible refine r_notV ?_
  | with_reducible refine r_nil ?_ | with_reducible refine r_cons ?_ | with_reducible refine r_call ?_ | with_reducible refine r_tup ?_ | with_reducible refine r_lst ?_ | with_reducible refine r_cb ?_ | with_reducible refine r_int1 ?_ | with_reducible refine r_ord ?_
  | with_reducible refine r_sl ?_ | with_reducible refine r_nop ?_ | with_reducible refine r_partq ?_ | with_reducible refine r_bm ?_ | with_reducible refine r_fld ?_
  | with_reducible refine r_lct ?_ | with_reducible refine r_lcl ?_ | with_reducible refine r_lcr ?_ | with_reducible refine r_sfort ?_ | with_reducible refine r_sforl ?_ | with_reducible refine r_sfors ?_ | with_reducible refine r_sforr ?_ | with_reducible refine r_sforz ?_
  | with_reducible refine r_fort ?_ | with_reducible refine r_forl ?_ | with_reducible refine r_forr ?_ | with_reducible refine r_sasgt ?_ | with_reducible refine r_asgt ?_ | with_reducible refine r_saug (by with_unfolding_all exact rfl) ?_ | with_reducible refine r_aug (by with_unfolding_all exact rfl) ?_ | with_reducible refine r_ip ?_ | with_reducible refine r_gname ?_ | with_reducible refine r_seq ?_
  | with_reducible refine r_dget ?_ | with_reducible refine r_din ?_ | with_reducible refine r_dnotin ?_ | with_reducible refine r_sdput ?_ | with_reducible refine r_dput ?_ | with_reducible refine r_mg ?_ | with_reducible refine r_rev ?_ | with_reducible refine r_dzip ?_
  | with_reducible refine r_lcz ?_ | with_reducible refine r_form ?_
  | with_reducible refine r_sfset ?_ | with_reducible refine r_fset ?_ | with_reducible refine r_sfaug ?_ | with_reducible refine r_meth ?_ | with_reducible refine r_make ?_
  | with_reducible refine r_srtl ?_ | with_reducible refine r_m1q ?_ | with_reducible refine r_strq ?_
  | with_reducible refine r_iteT ?_ | with_reducible refine r_iteF ?_)))
local macro_rules | `(tactic| walk_at "tex") => `(tactic| (first
  | assumption | exact TEx.refl _ | exact TEx.of (by assumption) | ((refine TEx.trans ?_ (TEx.of (by assumption))); walk_at "tex") | ((refine TEx.trans ?_ (by assumption)); walk_at "tex")))
local macro_rules | `(tactic| walk_at "same") => `(tactic| (first
  | assumption | exact Same.refl _ | ((refine Same.trans ?_ (by assumption)); walk_at "same")))
local macro_rules | `(tactic| walk_at "tp") => `(tactic| (first
  | assumption | exact Tp.int _ | exact Tp.str _ | exact Tp.non | exact TpAll.nil | ((refine TpAll.cons ?_ ?_) <;> walk_at "tp") | ((refine Tp.mono ?_ (by assumption)); walk_at "tex") | ((refine TpAll.mono ?_ (by assumption)); walk_at "tex")))
local macro_rules | `(tactic| walk_at "hp") => `(tactic| (first
  | assumption | ((refine (TEx.trans ?_ (TEx.refl _)) _ _ (by assumption)); walk_at "tex")))
theorem pd_map {α β γ : Type} {F : γ → β → Prop} {f : α → γ} : ∀ {l : List α} {m : List β}, Paired (fun a b => F (f a) b) l m → Paired F (l.map f) m
  | _, _, .nil => .nil
  | _, _, .cons r t => .cons r (pd_map t)
theorem pd_take {α β : Type} {F : α → β → Prop} {l : List α} {m : List β} (h : Paired F l m) : l.length = m.length := pd_len h
section
variable {P : Program} {w : World} {K : PySem.W.Frag} {mg : Str → Option Value} {base : Heap}
/-! ### write_rows -/
abbrev n_write_rows : List Str := ["chunks", "form", "rows", "row", "rests", "key", "rest"]
theorem sc_write_rows : FnScope n_write_rows ["chunks", "form", "rows"] (defScope s_write_rows) := ⟨rfl, rfl, rfl, by decide +kernel, rfl, by decide +kernel, by decide +kernel⟩
theorem bd_write_rows : BindH "write_rows" s_write_rows ["chunks", "form", "rows"] := fun _ _ _ _ _ _ us hl => match us, hl with | [_, _, _], _ => rfl
def spWriteRows (K : PySem.W.Frag) : Sp := fun vs H Q _ => ∃ (b n c t : Addr) (bk : List Str) (Pp : Pr) (N : Nat) (L : Addr) (fv : V) (rv : List V) (fm : Fm) (rs ss : List (List PyData)), vs = [.ref c, fv, .ref L] ∧ Sg K H b n c t bk Pp N ∧ N < 700000 ∧ Tp H fv fm.d ∧ fm.Ok ∧
  H L = some (.lst rv) ∧ TpAll H rv (rs.map PyData.tuple) ∧ (∀ r ∈ rs, Fit fm r) ∧ rs.length ≤ 64 ∧ ss.Perm rs ∧ SrtS (ss.map (keyT fm)) ∧
  ∀ (a : Int) (H' : Hp) (bk' : List Str) (P' : Pr), Sg K H' b n c t bk' P' (N + 1000) → Wr H H' n c t bk bk' Pp P' → Root P' (ss.map (entT fm)) a → a.natAbs < 10 ^ 60 → Q (.int a) H'
theorem cal_write_rows (T : Tx K mg) : Cal P w K mg base 11 "write_rows" ["chunks", "form", "rows"] (spWriteRows K) := by
  have c_fits := cal_fits (P := P) (w := w) (base := base) T
  have c_split_row := cal_split_row (P := P) (w := w) (base := base) T
  have c_build := cal_build (P := P) (w := w) (base := base) T
  refine cal_of T.at_write_rows sc_write_rows bd_write_rows (fun vs H Q E h => ?_) fun f cdv A outer s H0 E hr => ⟨_, (pss_cons (ps_for PassesOwn.never rfl (pi_list (pv 2)) (pg_name (i := 3) sc_write_rows.nd rfl (Or.inl rfl))
      (pss_one (ps_if (pt_not (pt_val (pe_cal c_fits (hr.mono (by omega)) (by rfl) (pa_cons (pv 1) (pa_cons (pv 3) pa_nil)))))
        pss_never
        pss_nil)))
      (pss_cons (ps_set (i := 4) sc_write_rows.nd rfl (Or.inr rfl) pe_dnewT)
      (pss_cons (ps_for PassesOwn.never rfl (pi_list (pv 2)) (pg_name (i := 3) sc_write_rows.nd rfl (Or.inl rfl))
      (pss_cons (ps_asg (pe_cal c_split_row (hr.mono (by omega)) (by rfl) (pa_cons (pv 1) (pa_cons (pv 3) pa_nil))) (pg_tupK (K := K) (n := 2) rfl rfl (pgs_cons (pg_name (i := 5) sc_write_rows.nd rfl (Or.inl rfl)) (pgs_cons (pg_name (i := 6) sc_write_rows.nd rfl (Or.inl rfl)) pgs_nil))))
        (pss_cons (ps_if (pt_cmp (pc_din (hu_of hr) (pv 5) (pv 4)))
        pss_never
        pss_nil)
        (pss_one (ps_dput (hu_of hr) (pv 4) (pv 5) (pv 6) rfl)))))
      (pss_one (ps_ret (pe_cal c_build (hr.mono (by omega)) (by rfl) (pa_cons (pv 0) (pa_cons (pe_lc (own := [("key", 5)]) rfl sc_write_rows.nd (pi_list (pe_callB (cr_srt hr.units) (by rfl) T.m_sorted (by decide +kernel) (pa_cons (pe_callTy (cr_ldT rfl) (by rfl) T.m_list (by decide +kernel) (pa_cons (pv 4) pa_nil)) pa_nil))) (blkOk_by (own := [("key", 5)]) (N := n_write_rows) (sc := defScope s_write_rows) (by decide +kernel)) (fun _ _ _ _ _ => (pg_name (i := 5) sc_write_rows.nd rfl (Or.inl rfl))) (fun _ _ _ _ _ => pts_nil) (fun _ _ _ _ _ => (pe_tup (pa_cons (pv 5) (pa_cons (pe_dget (hu_of hr) (pv 4) (pv 5) (fun _ _ => rfl)) pa_nil))))) pa_nil)))))))), fun vs H Q h => ?_⟩
  · obtain ⟨b, n, c, t, bk, Pp, N, L, fv, rv, fm, rs, ss, rfl, _⟩ := h
    rfl
  · obtain ⟨b, n, c, t, bk, Pp, N, L, fv, rv, fm, rs, ss, rfl, sg, hN, hfv, hok, hL, hrv, hfit, hlen, hpm, hss, q⟩ := h
    have hrl := hrv.length
    rw [List.length_map] at hrl
    have ndS := srtS_nd hss
    have ndR : (rs.map (keyT fm)).Nodup := (hpm.map (keyT fm)).nodup_iff.mp ndS
    walk_at "rd"
    refine r_forL (xs := rv) (fun i σ' H' => Same H H' ∧ ∃ z, σ' = [some (.ref c), some fv, some (.ref L), z, none, none, none]) ⟨Same.refl _, none, rfl⟩ (fun i σ' H' ⟨e, _⟩ => SqL.of (e _ _ hL)) ?_ ?_
    · rintro i x σ' H' hx ⟨e, z, rfl⟩
      obtain ⟨d, hd, htp⟩ := hrv.get' hx
      rw [List.getElem?_map] at hd
      cases hri : rs[i]? with
      | none => rw [hri] at hd; cases hd
      | some r =>
        rw [hri] at hd
        cases hd
        walk_at "rd"
        refine ⟨fv, x, fm, r, rfl, hfv.mono (TEx.of e), htp.mono (TEx.of e), hok.n12, hfit r (List.mem_iff_getElem?.mpr ⟨i, hri⟩), fun H2 e2 => ?_⟩
        walk_at "rd"
        exact ⟨e.trans e2, _, rfl⟩
    rintro σ' H1 ⟨e1, z, rfl⟩
    walk_at "rd"
    refine r_dnewT fun D H2 hD e2 hD2 => ?_
    walk_at "rd"
    have e12 := e1.trans e2
    have hDH : H D = none := by
      cases z : H D with
      | none => rfl
      | some o => rw [e1 _ _ z] at hD; cases hD
    refine r_forL (xs := rv) (fun i σ' H' => ∃ (kvs : List (List Key × V)) (z1 z2 z3 : Option V), i ≤ rs.length ∧ Gr K H H' ∧ H' D = some (.dT kvs) ∧ Paired (fun r kv => keyL fm r = kv.1.map kD ∧ Tp H' kv.2 (.tuple (restL fm r))) (rs.take i) kvs ∧
      σ' = [some (.ref c), some fv, some (.ref L), z1, some (.ref D), z2, z3]) ⟨[], z, none, none, Nat.zero_le _, Gr.of e12, hD2, .nil, rfl⟩ (fun i σ' H' ⟨_, _, _, _, _, g, _⟩ => SqL.of (g.lst hL)) ?_ ?_
    · rintro i x σ' H' hx ⟨kvs, z1, z2, z3, hi, g, hDk, hpd, rfl⟩
      obtain ⟨d, hd, htp⟩ := hrv.get' hx
      rw [List.getElem?_map] at hd
      cases hri : rs[i]? with
      | none => rw [hri] at hd; cases hd
      | some r =>
        rw [hri] at hd
        cases hd
        have hrm := List.mem_iff_getElem?.mpr ⟨i, hri⟩
        have hil := (List.getElem?_eq_some_iff.mp hri).1
        walk_at "rd"
        refine ⟨fv, x, fm, r, rfl, hfv.mono g.tex, htp.mono g.tex, hok, hfit r hrm, fun p H3 a b' e3 hp ha hb => r_gpair hp ?_⟩
        walk_at "rd"
        have hkk := key_kk hok (hfit r hrm)
        obtain ⟨ka, kvv, rfl, hka, hkt⟩ := ha.inv
        rw [hkk] at hkt
        have ekv := tp_kk hkt
        rw [ekv] at hka
        have hD3 := e3 _ _ hDk
        have hnone : valV kvs ((keyL fm r).map kOf) = none := by
          cases hv : valV kvs ((keyL fm r).map kOf) with
          | none => rfl
          | some v =>
            exfalso
            obtain ⟨kv, hkv, ekey⟩ := List.mem_map.mp (valV_in hv)
            obtain ⟨j, hj⟩ := List.mem_iff_getElem?.mp hkv
            obtain ⟨r', hr', hk', _⟩ := pd_get hpd hj
            have hjl : j < i := by
              have := (List.getElem?_eq_some_iff.mp hr').1
              rw [List.length_take] at this
              omega
            have hr'' : rs[j]? = some r' := by rw [List.getElem?_take_of_lt hjl] at hr'; exact hr'
            have ek : keyT fm r' = keyT fm r := by
              unfold keyT
              rw [hk', ekey, ← hkk]
            have h1 : (rs.map (keyT fm))[j]? = some (keyT fm r) := by rw [List.getElem?_map, hr'']; exact congrArg some ek
            have h2 : (rs.map (keyT fm))[i]? = some (keyT fm r) := by rw [List.getElem?_map, hri]; rfl
            obtain ⟨a1, b1⟩ := List.getElem?_eq_some_iff.mp h1
            obtain ⟨a2, b2⟩ := List.getElem?_eq_some_iff.mp h2
            have := (List.getElem_inj ndR).mp (b1.trans b2.symm)
            omega
        refine r_dinT hD3 hka ?_
        walk_at "rd"
        refine r_no (by rw [hnone]; rfl) ?_
        walk_at "rd"
        have hkl := pd_len hpd
        rw [List.length_take] at hkl
        refine r_dputT hD3 hka (by omega) fun H4 e4 => ?_
        subst e4
        have tD : TEx H3 (upd H3 D (.dT (putK kvs ((keyL fm r).map kOf) b'))) := TEx.upd hD3 fun xs z => by cases z
        refine ⟨putK kvs ((keyL fm r).map kOf) b', _, _, _, hil, (g.trans (Gr.of e3)).mut (Nt.none hDH) hD3 trivial, upd_same, ?_, rfl⟩
        rw [putK_new _ hnone] at tD ⊢
        have etk : rs.take (i + 1) = rs.take i ++ [r] := by rw [List.take_add_one, hri]; rfl
        rw [etk]
        exact pd_snoc (pd_mono hpd fun r kv ⟨h1, h2⟩ => ⟨h1, h2.mono ((TEx.of e3).trans tD)⟩) ⟨hkk, hb.mono tD⟩
    · rintro σ' H' ⟨kvs, z1, z2, z3, hi, g, hDk, hpd, rfl⟩
      rw [hrl, List.take_length] at hpd
      walk_at "rd"
      refine r_list_dT hDk fun l2 bs H3 hl2 e3 hks hbs => ?_
      have hkeys : TpAll H3 (bs.map V.ref) (rs.map (keyT fm)) := by
        have : ∀ {rs : List (List PyData)} {kvs : List (List Key × V)} {bs : List Addr}, Paired (fun r kv => keyL fm r = kv.1.map kD ∧ Tp H' kv.2 (.tuple (restL fm r))) rs kvs → IsKeys H' kvs bs → TpAll H3 (bs.map V.ref) (rs.map (keyT fm)) := by
          intro rs
          induction rs with
          | nil => intro kvs bs h1 h2; cases h1; cases h2; exact .nil
          | cons r rs ih =>
            intro kvs bs h1 h2
            cases h1 with
            | cons a1 t1 =>
              cases h2 with
              | cons a2 t2 =>
                refine .cons ?_ (ih t1 t2)
                unfold keyT
                rw [a1.1]
                have kvs_tp : ∀ kk : List Key, TpAll H3 (kk.map kV) (kk.map kD) := by
                  intro kk
                  induction kk with
                  | nil => exact .nil
                  | cons k r ih => cases k with
                    | inl i => exact .cons (.int i) ih
                    | inr x => exact .cons (.str x) ih
                exact .tup (e3 _ _ a2) (kvs_tp _)
        exact this hpd hks
      walk_at "rd"
      refine r_srt hbs hkeys (keys_alike hok hfit) (keys_sort hok rs) (fun d hd => ?_) fun l4 zs es H4 hl4 e4 pm sr hl4' hzs => ?_
      · obtain ⟨r, hr', rfl⟩ := List.mem_map.mp hd
        exact Nat.le_trans (keys_depth hok (hfit r hr')) (by decide)
      have ees : es = ss.map (keyT fm) := sort_eq (pm.trans (hpm.map (keyT fm)).symm) sr hss
      subst ees
      have hzl := hzs.length
      rw [List.length_map] at hzl
      have hsl : ss.length = rs.length := hpm.length_eq
      have hD4 := e4 _ _ (e3 _ _ hDk)
      have knd : (kvs.map (·.1)).Nodup := by
        have : ∀ {rs : List (List PyData)} {kvs : List (List Key × V)}, Paired (fun r kv => keyL fm r = kv.1.map kD ∧ Tp H' kv.2 (.tuple (restL fm r))) rs kvs → (kvs.map (·.1)).map (fun kk => PyData.tuple (kk.map kD)) = rs.map (keyT fm) := by
          intro rs
          induction rs with
          | nil => intro kvs h1; cases h1; rfl
          | cons r rs ih =>
            intro kvs h1
            cases h1 with
            | cons a1 t1 =>
              rw [List.map_cons, List.map_cons, List.map_cons, ih t1]
              unfold keyT
              rw [a1.1]
        rw [← this hpd] at ndR
        unfold List.Nodup at ndR ⊢
        rw [List.pairwise_map] at ndR
        exact ndR.imp fun {a b} n e => n (by rw [e])
      refine r_lcL hl4' (by omega) (fun _ => true) (fun i y H => Tp H y (entT fm (ss.getD i []))) (fun k y H H' e h => h.mono e) (fun i x hx => lc_one rfl fun H5 Qs e5 qs => ?_) fun L6 ys H6 hL6 e6 hl6 hp6 => ?_
      · obtain ⟨d, hd, htp⟩ := hzs.get' hx
        rw [List.getElem?_map] at hd
        cases hsi : ss[i]? with
        | none => rw [hsi] at hd; cases hd
        | some r =>
          rw [hsi] at hd
          cases hd
          have hrm : r ∈ rs := hpm.subset (List.mem_iff_getElem?.mpr ⟨i, hsi⟩)
          obtain ⟨j, hj⟩ := List.mem_iff_getElem?.mp hrm
          obtain ⟨kv, hkv, hk1, hk2⟩ := pd_get' hpd hj
          obtain ⟨xa, xv, rfl, hxa, hxt⟩ := htp.inv
          rw [hk1] at hxt
          rw [tp_kk hxt] at hxa
          have hval : valV kvs kv.1 = some kv.2 := valV_mem knd (List.mem_iff_getElem?.mpr ⟨j, hkv⟩)
          walk_at "rd"
          refine r_dgetT (e5 _ _ hD4) (e5 _ _ hxa) hval ?_
          walk_at "rd"
          have ht1 : Tp H5 kv.2 (.tuple (restL fm r)) := hk2.mono (TEx.of (e3.trans (e4.trans e5)))
          refine r_newD (ds := [keyT fm r, .tuple (restL fm r)]) (.cons (htp.mono (TEx.of e5)) (.cons ht1 .nil)) (Nat.le_of_ble_eq_true rfl) fun p7 H7 e7 t7 => qs _ H7 e7 ?_
          rw [getD_some hsi]
          exact t7
      · rw [filter_all] at hp6
        have hp7 := pd_tp hp6
        have er := congrArg (List.map (entT fm)) (range_map ss [])
        rw [List.map_map] at er
        have er : (List.range ss.length).map (fun i => entT fm (ss.getD i [])) = ss.map (entT fm) := er
        rw [hzl, er] at hp7
        walk_at "rd"
        have g6 := g.trans (Gr.of (e3.trans (e4.trans e6)))
        refine ⟨b, n, c, t, bk, Pp, N, L6, ys, _, rfl, sg.gr g6, hN, hl6, hp7, by rw [List.length_map]; omega, fun e he => ?_, fun a H8 bk8 P8 sg8 wr8 hroot ha => ?_⟩
        · obtain ⟨r, hr', rfl⟩ := List.mem_map.mp he
          exact ent_ok hok (hfit r (hpm.subset hr'))
        · exact q a H8 bk8 P8 sg8 ((Wr.gr g6).trans wr8) hroot ha
/-! ### read_rows -/
abbrev n_read_rows : List Str := ["chunks", "form", "root", "key", "rest"]
theorem sc_read_rows : FnScope n_read_rows ["chunks", "form", "root"] (defScope s_read_rows) := ⟨rfl, rfl, rfl, by decide +kernel, rfl, by decide +kernel, by decide +kernel⟩
theorem bd_read_rows : BindH "read_rows" s_read_rows ["chunks", "form", "root"] := fun _ _ _ _ _ _ us hl => match us, hl with | [_, _, _], _ => rfl
def spReadRows (K : PySem.W.Frag) : Sp := fun vs H Q _ => ∃ (b n c t : Addr) (bk : List Str) (Pp : Pr) (N : Nat) (r : Int) (fv : V) (fm : Fm) (ss : List (List PyData)), vs = [.ref c, fv, .int r] ∧ Sg K H b n c t bk Pp N ∧ Tp H fv fm.d ∧ fm.Ok ∧ Root Pp (ss.map (entT fm)) r ∧ (∀ x ∈ ss, Fit fm x) ∧ ss.length ≤ 64 ∧
  ∀ (l : Addr) (rv : List V) (H' : Hp), Sg K H' b n c t bk Pp N → Wr H H' n c t bk bk Pp Pp → Nt H l → H' l = some (.lst rv) → TpAll H' rv (ss.map PyData.tuple) → Q (.ref l) H'
theorem cal_read_rows (T : Tx K mg) : Cal P w K mg base 24 "read_rows" ["chunks", "form", "root"] (spReadRows K) := by
  have c_read := cal_read (P := P) (w := w) (base := base) T 6
  have c_join_row := cal_join_row (P := P) (w := w) (base := base) T
  refine cal_of T.at_read_rows sc_read_rows bd_read_rows (fun vs H Q E h => ?_) fun f cdv A outer s H0 E hr => ⟨_, (pss_one (ps_ret (pe_lc (own := [("key", 3), ("rest", 4)]) rfl sc_read_rows.nd (pi_list (pe_cal c_read (hr.mono (by omega)) (by rfl) (pa_cons (pv 0) (pa_cons (pv 2) pa_nil)))) (blkOk_by (own := [("key", 3), ("rest", 4)]) (N := n_read_rows) (sc := defScope s_read_rows) (by decide +kernel)) (fun _ _ _ _ _ => (pg_tupK (K := K) (n := 2) rfl rfl (pgs_cons (pg_name (i := 3) sc_read_rows.nd rfl (Or.inl rfl)) (pgs_cons (pg_name (i := 4) sc_read_rows.nd rfl (Or.inl rfl)) pgs_nil)))) (fun _ _ _ _ _ => pts_nil) (fun _ _ _ _ _ => (pe_cal c_join_row (hr.mono (by omega)) (by rfl) (pa_cons (pv 1) (pa_cons (pv 3) (pa_cons (pv 4) pa_nil)))))))), fun vs H Q h => ?_⟩
  · obtain ⟨b, n, c, t, bk, Pp, N, r, fv, fm, ss, rfl, _⟩ := h
    rfl
  · obtain ⟨b, n, c, t, bk, Pp, N, r, fv, fm, ss, rfl, sg, hfv, hok, hroot, hfit, hlen, q⟩ := h
    walk_at "rd"
    refine ⟨b, n, c, t, bk, Pp, N, r, ss.map (entT fm), rfl, sg, hroot.rd 6 (by rw [List.length_map]; exact hlen), by rw [List.length_map]; omega, fun l ev H1 sg1 wr1 hl1 hev => ?_⟩
    have hel := hev.length
    rw [List.length_map] at hel
    walk_at "rd"
    refine r_lcL hl1 (by omega) (fun _ => true) (fun i y H => Tp H y (.tuple (ss.getD i []))) (fun k y H H' e h => h.mono e) (fun i x hx => ?_) fun L2 ys H2 hL2 e2 hl2 hp2 => ?_
    · obtain ⟨d, hd, htp⟩ := hev.get' hx
      rw [List.getElem?_map] at hd
      cases hsi : ss[i]? with
      | none => rw [hsi] at hd; cases hd
      | some r' =>
        rw [hsi] at hd
        cases hd
        have htp : Tp H1 x (.tuple [keyT fm r', .tuple (restL fm r')]) := htp
        obtain ⟨va, vx, rfl, hva, hvx⟩ := htp.inv
        obtain ⟨x1, r1, rfl, ht1, hx2⟩ := hvx.inv
        obtain ⟨x2, r2, rfl, ht2, hx3⟩ := hx2.inv
        obtain rfl := hx3.inv_nil
        refine lc_pair hva rfl fun H3 Qs Qn e3 qs qn => ?_
        show if true = true then _ else Qn H3
        refine r_iteT ?_
        walk_at "rd"
        have txa := (sg.tex wr1).trans (TEx.of e3)
        refine ⟨fv, x1, x2, fm, r', rfl, hfv.mono txa, ht1.mono (TEx.of e3), ht2.mono (TEx.of e3), hok, hfit r' (List.mem_iff_getElem?.mpr ⟨i, hsi⟩), fun p H4 e4 hp => qs p H4 e4 rfl ?_⟩
        rw [getD_some hsi]
        exact hp
    · rw [filter_all] at hp2
      have hp3 := pd_tp hp2
      have er := congrArg (List.map PyData.tuple) (range_map ss [])
      rw [List.map_map] at er
      have er : (List.range ss.length).map (fun i => PyData.tuple (ss.getD i [])) = ss.map PyData.tuple := er
      rw [hel, er] at hp3
      exact q L2 ys H2 (sg1.same e2) (wr1.trans (Wr.of e2)) (wr1.nw _ (Nt.none hL2)) hl2 hp3
end
end Vt
-- VtD16
set_option Elab.async false
set_option linter.all false
set_option maxRecDepth 100000
set_option maxHeartbeats 4000000
namespace Vt
open PySem PySem.Spec PyProof.Rows L2 LamX NdefX
local macro_rules | `(tactic| walk_at "rd") => `(tactic| (repeat (first
  | with_reducible refine r_sasg ?_ | with_reducible refine r_sfset ?_ | with_reducible refine r_sfaug ?_ | with_reducible refine r_sdput ?_ | with_reducible refine r_sdrop ?_ | with_reducible refine r_swhen ?_ | with_reducible refine r_sif ?_ | with_reducible refine r_asg ?_ | with_reducible refine r_drop ?_
  | with_reducible refine r_ret ?_ | with_reducible refine r_if ?_ | with_reducible refine r_next ?_
  | with_reducible refine r_c ?_ | with_reducible refine r_var (by with_unfolding_all exact rfl) ?_ | with_reducible refine r_op ?_ | with_reducible refine r_un ?_ | with_reducible refine r_I0 ?_ | ((with_reducible refine r_I ?_ ?_); · first | (show (0 : Int) < _; decide) | exact div_ok (by decide) (by decide)) | with_reducible refine r_U ?_
  | with_reducible refine r_eq (by with_unfolding_all exact rfl) ?_ | with_reducible refine r_ne (by with_unfolding_all exact rfl) ?_
  | with_reducible refine r_tstq ?_ | with_reducible refine r_tBq ?_ | with_reducible refine r_blq ?_ | with_reducible refine r_intq ?_ | with_reducible refine r_and ?_ | with_reducible refine r_or ?_ | with_reducible refine r_not ?_
  | with_reducible refine r_andV ?_ | with_reducible refine r_orV ?_ | with_reducible refine r_notV ?_
  | with_reducible refine r_nil ?_ | with_reducible refine r_cons ?_ | with_reducible refine r_call ?_ | with_reducible refine r_tup ?_ | with_reducible refine r_lst ?_ | with_reducible refine r_cb ?_ | with_reducible refine r_int1 ?_ | with_reducible refine r_ord ?_
  | with_reducible refine r_sl ?_ | with_reducible refine r_nop ?_ | with_reducible refine r_partq ?_ | with_reducible refine r_bm ?_ | with_reducible refine r_fld ?_
  | with_reducible refine r_lct ?_ | with_reducible refine r_lcl ?_ | with_reducible refine r_lcr ?_ | with_reducible refine r_sfort ?_ | with_reducible refine r_sforl ?_ | with_reducible refine r_sfors ?_ | with_reducible refine r_sforr ?_ | with_reducible refine r_sforz ?_
  | with_reducible refine r_fort ?_ | with_reducible refine r_forl ?_ | with_reducible refine r_forr ?_ | with_reducible refine r_sasgt ?_ | with_reducible refine r_asgt ?_ | with_reducible refine r_saug (by with_unfolding_all exact rfl) ?_ | with_reducible refine r_aug (by with_unfolding_all exact rfl) ?_ | with_reducible refine r_ip ?_ | with_reducible refine r_gname ?_ | with_reducible refine r_seq ?_
  | with_reducible refine r_dget ?_ | with_reducible refine r_din ?_ | with_reducible refine r_dnotin ?_ | with_reducible refine r_sdput ?_ | with_reducible refine r_dput ?_ | with_reducible refine r_mg ?_ | with_reducible refine r_rev ?_ | with_reducible refine r_dzip ?_
  | with_reducible refine r_lcz ?_ | with_reducible refine r_form ?_
  | with_reducible refine r_sfset ?_ | with_reducible refine r_fset ?_ | with_reducible refine r_sfaug ?_ | with_reducible refine r_meth ?_ | with_reducible refine r_make ?_
  | with_reducible refine r_srtl ?_ | with_reducible refine r_m1q ?_ | with_reducible refine r_strq ?_
  | with_reducible refine r_iteT ?_ | with_reducible refine r_iteF ?_)))
local macro_rules | `(tactic| walk_at "rs") => `(tactic| (repeat (first
  | with_reducible refine r_sasg ?_ | with_reducible refine r_sfset ?_ | with_reducible refine r_sfaug ?_ | with_reducible refine r_sdput ?_ | with_reducible refine r_sdrop ?_ | with_reducible refine r_asg ?_ | with_reducible refine r_drop ?_
  | with_reducible refine r_ret ?_ | with_reducible refine r_next ?_
  | with_reducible refine r_c ?_ | with_reducible refine r_var (by with_unfolding_all exact rfl) ?_ | with_reducible refine r_op ?_ | with_reducible refine r_un ?_ | with_reducible refine r_I0 ?_ | ((with_reducible refine r_I ?_ ?_); · first | (show (0 : Int) < _; decide) | exact div_ok (by decide) (by decide)) | with_reducible refine r_U ?_
  | with_reducible refine r_eq (by with_unfolding_all exact rfl) ?_ | with_reducible refine r_ne (by with_unfolding_all exact rfl) ?_
  | with_reducible refine r_tstq ?_ | with_reducible refine r_tBq ?_ | with_reducible refine r_blq ?_ | with_reducible refine r_intq ?_ | with_reducible refine r_and ?_ | with_reducible refine r_or ?_ | with_reducible refine r_not ?_
  | with_reducible refine r_andV ?_ | with_reducible refine r_orV ?_ | with_reducible refine r_notV ?_
  | with_reducible refine r_nil ?_ | with_reducible refine r_cons ?_ | with_reducible refine r_call ?_ | with_reducible refine r_tup ?_ | with_reducible refine r_lst ?_ | with_reducible refine r_cb ?_ | with_reducible refine r_int1 ?_ | with_reducible refine r_ord ?_
  | with_reducible refine r_sl ?_ | with_reducible refine r_nop ?_ | with_reducible refine r_partq ?_ | with_reducible refine r_bm ?_ | with_reducible refine r_fld ?_
  | with_reducible refine r_lct ?_ | with_reducible refine r_lcl ?_ | with_reducible refine r_lcr ?_ | with_reducible refine r_sfort ?_ | with_reducible refine r_sforl ?_ | with_reducible refine r_sfors ?_ | with_reducible refine r_sforr ?_ | with_reducible refine r_sforz ?_
  | with_reducible refine r_fort ?_ | with_reducible refine r_forl ?_ | with_reducible refine r_forr ?_ | with_reducible refine r_sasgt ?_ | with_reducible refine r_asgt ?_ | with_reducible refine r_saug (by with_unfolding_all exact rfl) ?_ | with_reducible refine r_aug (by with_unfolding_all exact rfl) ?_ | with_reducible refine r_ip ?_ | with_reducible refine r_gname ?_ | with_reducible refine r_seq ?_
  | with_reducible refine r_dget ?_ | with_reducible refine r_din ?_ | with_reducible refine r_dnotin ?_ | with_reducible refine r_sdput ?_ | with_reducible refine r_dput ?_ | with_reducible refine r_mg ?_ | with_reducible refine r_rev ?_ | with_reducible refine r_dzip ?_
  | with_reducible refine r_lcz ?_ | with_reducible refine r_form ?_
  | with_reducible refine r_sfset ?_ | with_reducible refine r_fset ?_ | with_reducible refine r_sfaug ?_ | with_reducible refine r_meth ?_ | with_reducible refine r_make ?_
  | with_reducible refine r_srtl ?_ | with_reducible refine r_m1q ?_ | with_reducible refine r_strq ?_
  | with_reducible refine r_iteT ?_ | with_reducible refine r_iteF ?_)))
local macro_rules | `(tactic| walk_at "tex") => `(tactic| (first
  | assumption | exact TEx.refl _ | exact TEx.of (by assumption) | ((refine TEx.trans ?_ (TEx.of (by assumption))); walk_at "tex") | ((refine TEx.trans ?_ (by assumption)); walk_at "tex")))
local macro_rules | `(tactic| walk_at "same") => `(tactic| (first
  | assumption | exact Same.refl _ | ((refine Same.trans ?_ (by assumption)); walk_at "same")))
local macro_rules | `(tactic| walk_at "tp") => `(tactic| (first
  | assumption | exact Tp.int _ | exact Tp.str _ | exact Tp.non | exact TpAll.nil | ((refine TpAll.cons ?_ ?_) <;> walk_at "tp") | ((refine Tp.mono ?_ (by assumption)); walk_at "tex") | ((refine TpAll.mono ?_ (by assumption)); walk_at "tex")))
local macro_rules | `(tactic| walk_at "hp") => `(tactic| (first
  | assumption | ((refine (TEx.trans ?_ (TEx.refl _)) _ _ (by assumption)); walk_at "tex")))
section
variable {P : Program} {w : World} {K : PySem.W.Frag} {mg : Str → Option Value} {base : Heap}
/-! ### plain_tables -/
abbrev n_plain_tables : List Str := ["chunks", "state", "name", "form", "root"]
theorem sc_plain_tables : FnScope n_plain_tables ["chunks", "state"] (defScope s_plain_tables) := ⟨rfl, rfl, rfl, by decide +kernel, rfl, by decide +kernel, by decide +kernel⟩
theorem bd_plain_tables : BindH "plain_tables" s_plain_tables ["chunks", "state"] := fun _ _ _ _ _ _ us hl => match us, hl with | [_, _], _ => rfl
def spPlain (K : PySem.W.Frag) : Sp := fun vs H Q _ => ∃ (b n c t : Addr) (bk : List Str) (Pp : Pr) (N : Nat) (a : Int) (ts : List Tab), vs = [.ref c, .int a] ∧ Sg K H b n c t bk Pp N ∧ StOf Pp a ts ∧ ts.length ≤ 120 ∧ (∀ t ∈ ts, t.Ok) ∧
  ∀ (l : Addr) (tv : List V) (H' : Hp), Sg K H' b n c t bk Pp N → Wr H H' n c t bk bk Pp Pp → H' l = some (.lst tv) → TabsV H' tv ts → Q (.ref l) H'
theorem cal_plain_tables (T : Tx K mg) : Cal P w K mg base 25 "plain_tables" ["chunks", "state"] (spPlain K) := by
  have c_read_state := cal_read_state (P := P) (w := w) (base := base) T
  have c_read_rows := cal_read_rows (P := P) (w := w) (base := base) T
  refine cal_of T.at_plain_tables sc_plain_tables bd_plain_tables (fun vs H Q E h => ?_) fun f cdv A outer s H0 E hr => ⟨_, (pss_one (ps_ret (pe_lc (own := [("name", 2), ("form", 3), ("root", 4)]) rfl sc_plain_tables.nd (pi_list (pe_cal c_read_state (hr.mono (by omega)) (by rfl) (pa_cons (pv 0) (pa_cons (pv 1) pa_nil)))) (blkOk_by (own := [("name", 2), ("form", 3), ("root", 4)]) (N := n_plain_tables) (sc := defScope s_plain_tables) (by decide +kernel)) (fun _ _ _ _ _ => (pg_tupK (K := K) (n := 3) rfl rfl (pgs_cons (pg_name (i := 2) sc_plain_tables.nd rfl (Or.inl rfl)) (pgs_cons (pg_name (i := 3) sc_plain_tables.nd rfl (Or.inl rfl)) (pgs_cons (pg_name (i := 4) sc_plain_tables.nd rfl (Or.inl rfl)) pgs_nil))))) (fun _ _ _ _ _ => pts_nil) (fun _ _ _ _ _ => (pe_tup (pa_cons (pv 2) (pa_cons (pv 3) (pa_cons (pe_cal c_read_rows (hr.mono (by omega)) (by rfl) (pa_cons (pv 0) (pa_cons (pv 3) (pa_cons (pv 4) pa_nil)))) pa_nil)))))))), fun vs H Q h => ?_⟩
  · obtain ⟨b, n, c, t, bk, Pp, N, a, ts, rfl, _⟩ := h
    rfl
  · obtain ⟨b, n, c, t, bk, Pp, N, a, ts, rfl, sg, ⟨rs, hpd, hst⟩, hlen, hok, q⟩ := h
    have hrl := pd_len hpd
    walk_at "rd"
    refine ⟨b, n, c, t, bk, Pp, N, a, rs, rfl, sg, hst, by omega, fun r hr' => ?_, fun l tv H1 sg1 wr1 hl1 htv => ?_⟩
    · obtain ⟨i, hi⟩ := List.mem_iff_getElem?.mp hr'
      obtain ⟨t', h1, h2⟩ := pd_get hpd hi
      exact h2.ok (hok t' (List.mem_iff_getElem?.mpr ⟨i, h1⟩))
    have htl := htv.length
    rw [List.length_map] at htl
    walk_at "rd"
    refine r_lcLg (fun L i acc Hc => Sg K Hc b n c t bk Pp N ∧ Wr H1 Hc n c t bk bk Pp Pp ∧ Hc L = some (.lst acc) ∧ TabsX Hc L acc (ts.take i)) hl1 (by omega) (fun L H' hL e hl' => ⟨sg1.same e, Wr.of e, hl', .nil⟩) (fun L i acc Hc hL p => sg1.lst p.2.1 hl1) (fun L i x acc Hc hL hx ⟨sgc, wrc, hLc, hpx⟩ _ => ?_) fun L acc Hc hL ⟨sgc, wrc, hLc, hpx⟩ _ => ?_
    · obtain ⟨d, hd, htp⟩ := htv.get' hx
      rw [List.getElem?_map] at hd
      cases hri : rs[i]? with
      | none => rw [hri] at hd; cases hd
      | some r =>
        rw [hri] at hd
        cases hd
        obtain ⟨tb, hti, htr⟩ := pd_get hpd hri
        have htk := hok tb (List.mem_iff_getElem?.mpr ⟨i, hti⟩)
        obtain ⟨en, ef, hroot, hbig⟩ := htr
        have htp : Tp H1 x (.tuple [.str r.name, r.fm.d, .int r.root]) := htp
        obtain ⟨va, vx, rfl, hva, hvx⟩ := (htp.mono (sg1.tex wrc)).inv
        obtain ⟨x1, r1, rfl, ht1, hx2⟩ := hvx.inv
        obtain ⟨x2, r2, rfl, ht2, hx3⟩ := hx2.inv
        obtain ⟨x3, r3, rfl, ht3, hx4⟩ := hx3.inv
        obtain rfl := hx4.inv_nil
        obtain rfl := ht1.inv_str
        obtain rfl := ht3.inv_int
        rw [en, ef] at *
        refine g_three hva rfl fun Qs qs => ?_
        walk_at "rd"
        refine ⟨b, n, c, t, bk, Pp, N, r.root, x2, tb.fm, tb.rows, rfl, sgc, ht2, htk.fm, hroot, htk.fit, htk.len, fun l2 rv H2 sg2 wr2 hn2 hl2 hrv => ?_⟩
        walk_at "rd"
        have hL2 := sgc.lst wr2 hLc
        have nL : l2 ≠ L := fun e => by
          subst e
          obtain ⟨ps, z⟩ := hn2 _ hLc
          cases z
        refine r_newT (Nat.le_of_ble_eq_true rfl) fun p H3 hp e3 hp3 => ?_
        have hL3 := e3 _ _ hL2
        have tA : TabA H3 (.ref p) tb l2 := ⟨p, x2, rv, rfl, hp3, (ht2.mono (sgc.tex wr2)).mono (TEx.of e3), e3 _ _ hl2, hrv.mono (TEx.of e3)⟩
        refine qs _ H3 hL3 ⟨(sg2.same e3).mutL hL3, ((wrc.trans wr2).trans (Wr.of e3)).mutL (Nt.none hL), upd_same, ?_⟩
        have etk : ts.take (i + 1) = ts.take i ++ [tb] := by rw [List.take_add_one, hti]; rfl
        rw [etk]
        exact pd_snoc (((hpx.wr sgc wr2).same e3).upd hL3) ⟨l2, nL, tA.upd hL3 nL⟩
    · rw [htl, ← hrl, List.take_length] at hpx
      exact q L acc Hc sgc (wr1.trans wrc) hLc hpx.v
end
end Vt
-- VtE1
set_option Elab.async false
set_option linter.all false
set_option maxRecDepth 100000
set_option maxHeartbeats 4000000
namespace Vt
open PySem PySem.Spec PyProof.Rows L2 LamX NdefX
local macro_rules | `(tactic| walk_at "rd") => `(tactic| (repeat (first
  | with_reducible refine r_sasg ?_ | with_reducible refine r_sfset ?_ | with_reducible refine r_sfaug ?_ | with_reducible refine r_sdput ?_ | with_reducible refine r_sdrop ?_ | with_reducible refine r_swhen ?_ | with_reducible refine r_sif ?_ | with_reducible refine r_asg ?_ | with_reducible refine r_drop ?_
  | with_reducible refine r_ret ?_ | with_reducible refine r_if ?_ | with_reducible refine r_next ?_
  | with_reducible refine r_c ?_ | with_reducible refine r_var (by with_unfolding_all exact rfl) ?_ | with_reducible refine r_op ?_ | with_reducible refine r_un ?_ | with_reducible refine r_I0 ?_ | ((with_reducible refine r_I ?_ ?_); · first | (show (0 : Int) < _; decide) | exact div_ok (by decide) (by decide)) | with_reducible refine r_U ?_
  | with_reducible refine r_eq (by with_unfolding_all exact rfl) ?_ | with_reducible refine r_ne (by with_unfolding_all exact rfl) ?_
  | with_reducible refine r_tstq ?_ | with_reducible refine r_tBq ?_ | with_reducible refine r_blq ?_ | with_reducible refine r_intq ?_ | with_reducible refine r_and ?_ | with_reducible refine r_or ?_ | with_reducible refine r_not ?_
  | with_reducible refine r_andV ?_ | with_reducible refine r_orV ?_ | with_reducible refine r_notV ?_
  | with_reducible refine r_nil ?_ | with_reducible refine r_cons ?_ | with_reducible refine r_call ?_ | with_reducible refine r_tup ?_ | with_reducible refine r_lst ?_ | with_reducible refine r_cb ?_ | with_reducible refine r_int1 ?_ | with_reducible refine r_ord ?_
  | with_reducible refine r_sl ?_ | with_reducible refine r_nop ?_ | with_reducible refine r_partq ?_ | with_reducible refine r_bm ?_ | with_reducible refine r_fld ?_
  | with_reducible refine r_lct ?_ | with_reducible refine r_lcl ?_ | with_reducible refine r_lcr ?_ | with_reducible refine r_sfort ?_ | with_reducible refine r_sforl ?_ | with_reducible refine r_sfors ?_ | with_reducible refine r_sforr ?_ | with_reducible refine r_sforz ?_
  | with_reducible refine r_fort ?_ | with_reducible refine r_forl ?_ | with_reducible refine r_forr ?_ | with_reducible refine r_sasgt ?_ | with_reducible refine r_asgt ?_ | with_reducible refine r_saug (by with_unfolding_all exact rfl) ?_ | with_reducible refine r_aug (by with_unfolding_all exact rfl) ?_ | with_reducible refine r_ip ?_ | with_reducible refine r_gname ?_ | with_reducible refine r_seq ?_
  | with_reducible refine r_dget ?_ | with_reducible refine r_din ?_ | with_reducible refine r_dnotin ?_ | with_reducible refine r_sdput ?_ | with_reducible refine r_dput ?_ | with_reducible refine r_mg ?_ | with_reducible refine r_rev ?_ | with_reducible refine r_dzip ?_
  | with_reducible refine r_lcz ?_ | with_reducible refine r_form ?_
  | with_reducible refine r_sfset ?_ | with_reducible refine r_fset ?_ | with_reducible refine r_sfaug ?_ | with_reducible refine r_meth ?_ | with_reducible refine r_make ?_
  | with_reducible refine r_srtl ?_ | with_reducible refine r_m1q ?_ | with_reducible refine r_strq ?_
  | with_reducible refine r_iteT ?_ | with_reducible refine r_iteF ?_)))
local macro_rules | `(tactic| walk_at "rs") => `(tactic| (repeat (first
  | with_reducible refine r_sasg ?_ | with_reducible refine r_sfset ?_ | with_reducible refine r_sfaug ?_ | with_reducible refine r_sdput ?_ | with_reducible refine r_sdrop ?_ | with_reducible refine r_asg ?_ | with_reducible refine r_drop ?_
  | with_reducible refine r_ret ?_ | with_reducible refine r_next ?_
  | with_reducible refine r_c ?_ | with_reducible refine r_var (by with_unfolding_all exact rfl) ?_ | with_reducible refine r_op ?_ | with_reducible refine r_un ?_ | with_reducible refine r_I0 ?_ | ((with_reducible refine r_I ?_ ?_); · first | (show (0 : Int) < _; decide) | exact div_ok (by decide) (by decide)) | with_reducible refine r_U ?_
  | with_reducible refine r_eq (by with_unfolding_all exact rfl) ?_ | with_reducible refine r_ne (by with_unfolding_all exact rfl) ?_
  | with_reducible refine r_tstq ?_ | with_reducible refine r_tBq ?_ | with_reducible refine r_blq ?_ | with_reducible refine r_intq ?_ | with_reducible refine r_and ?_ | with_reducible refine r_or ?_ | with_reducible refine r_not ?_
  | with_reducible refine r_andV ?_ | with_reducible refine r_orV ?_ | with_reducible refine r_notV ?_
  | with_reducible refine r_nil ?_ | with_reducible refine r_cons ?_ | with_reducible refine r_call ?_ | with_reducible refine r_tup ?_ | with_reducible refine r_lst ?_ | with_reducible refine r_cb ?_ | with_reducible refine r_int1 ?_ | with_reducible refine r_ord ?_
  | with_reducible refine r_sl ?_ | with_reducible refine r_nop ?_ | with_reducible refine r_partq ?_ | with_reducible refine r_bm ?_ | with_reducible refine r_fld ?_
  | with_reducible refine r_lct ?_ | with_reducible refine r_lcl ?_ | with_reducible refine r_lcr ?_ | with_reducible refine r_sfort ?_ | with_reducible refine r_sforl ?_ | with_reducible refine r_sfors ?_ | with_reducible refine r_sforr ?_ | with_reducible refine r_sforz ?_
  | with_reducible refine r_fort ?_ | with_reducible refine r_forl ?_ | with_reducible refine r_forr ?_ | with_reducible refine r_sasgt ?_ | with_reducible refine r_asgt ?_ | with_reducible refine r_saug (by with_unfolding_all exact rfl) ?_ | with_reducible refine r_aug (by with_unfolding_all exact rfl) ?_ | with_reducible refine r_ip ?_ | with_reducible refine r_gname ?_ | with_reducible refine r_seq ?_
  | with_reducible refine r_dget ?_ | with_reducible refine r_din ?_ | with_reducible refine r_dnotin ?_ | with_reducible refine r_sdput ?_ | with_reducible refine r_dput ?_ | with_reducible refine r_mg ?_ | with_reducible refine r_rev ?_ | with_reducible refine r_dzip ?_
  | with_reducible refine r_lcz ?_ | with_reducible refine r_form ?_
  | with_reducible refine r_sfset ?_ | with_reducible refine r_fset ?_ | with_reducible refine r_sfaug ?_ | with_reducible refine r_meth ?_ | with_reducible refine r_make ?_
  | with_reducible refine r_srtl ?_ | with_reducible refine r_m1q ?_ | with_reducible refine r_strq ?_
  | with_reducible refine r_iteT ?_ | with_reducible refine r_iteF ?_)))
local macro_rules | `(tactic| walk_at "tex") => `(tactic| (first
  | assumption | exact TEx.refl _ | exact TEx.of (by assumption) | ((refine TEx.trans ?_ (TEx.of (by assumption))); walk_at "tex") | ((refine TEx.trans ?_ (by assumption)); walk_at "tex")))
local macro_rules | `(tactic| walk_at "same") => `(tactic| (first
  | assumption | exact Same.refl _ | ((refine Same.trans ?_ (by assumption)); walk_at "same")))
local macro_rules | `(tactic| walk_at "tp") => `(tactic| (first
  | assumption | exact Tp.int _ | exact Tp.str _ | exact Tp.non | exact TpAll.nil | ((refine TpAll.cons ?_ ?_) <;> walk_at "tp") | ((refine Tp.mono ?_ (by assumption)); walk_at "tex") | ((refine TpAll.mono ?_ (by assumption)); walk_at "tex")))
local macro_rules | `(tactic| walk_at "hp") => `(tactic| (first
  | assumption | ((refine (TEx.trans ?_ (TEx.refl _)) _ _ (by assumption)); walk_at "tex")))
theorem pd_perm {α β : Type} {F : α → β → Prop} {l l' : List α} (p : l'.Perm l) : ∀ {m : List β}, Paired F l m → ∃ m', m'.Perm m ∧ Paired F l' m' := by
  induction p with
  | nil => intro m h; cases h; exact ⟨[], List.Perm.nil, .nil⟩
  | cons x p ih =>
    intro m h
    cases h with
    | cons r t =>
      obtain ⟨m', a, b⟩ := ih t
      exact ⟨_ :: m', a.cons _, .cons r b⟩
  | swap x y l =>
    intro m h
    cases h with
    | cons r t =>
      cases t with
      | cons r2 t2 => exact ⟨_, List.Perm.swap _ _ _, .cons r2 (.cons r t2)⟩
  | trans p q ih1 ih2 =>
    intro m h
    obtain ⟨m1, a1, b1⟩ := ih2 h
    obtain ⟨m2, a2, b2⟩ := ih1 b1
    exact ⟨m2, a2.trans a1, b2⟩
theorem trs_names {Pp : Pr} {ts : List Tab} {rs : List Tr} (h : Paired (TrOf Pp) ts rs) : (rs.map fun t => PyData.str t.name) = ts.map fun t => PyData.str t.name := by
  induction h with
  | nil => rfl
  | cons r t ih => rw [List.map_cons, List.map_cons, ih, r.1]
section
variable {P : Program} {w : World} {K : PySem.W.Frag} {mg : Str → Option Value} {base : Heap}
/-! ### _law_at_once -/
abbrev n_law_at_once : List Str := ["_law_chunks", "_law_tables_here", "_law_name_here", "_law_form_here", "_law_rows"]
theorem sc_law_at_once : FnScope n_law_at_once ["_law_chunks", "_law_tables_here"] (defScope s_law_at_once) := ⟨rfl, rfl, rfl, by decide +kernel, rfl, by decide +kernel, by decide +kernel⟩
theorem bd_law_at_once : BindH "_law_at_once" s_law_at_once ["_law_chunks", "_law_tables_here"] := fun _ _ _ _ _ _ us hl => match us, hl with | [_, _], _ => rfl
def spAtOnce (K : PySem.W.Frag) : Sp := fun vs H Q _ => ∃ (b n c t : Addr) (bk : List Str) (Pp : Pr) (N : Nat) (L : Addr) (tv : List V) (ts ss : List Tab), vs = [.ref c, .ref L] ∧ Sg K H b n c t bk Pp N ∧ N < 500000 ∧ H L = some (.lst tv) ∧ TabsV H tv ts ∧ (∀ t ∈ ts, t.Ok) ∧ ts.length ≤ 110 ∧ ss.Perm ts ∧ NmT ss ∧
  ∀ (a : Int) (H' : Hp) (bk' : List Str) (P' : Pr), Sg K H' b n c t bk' P' (N + 110002) → Wr H H' n c t bk bk' Pp P' → StOf P' a ss → Q (.int a) H'
theorem cal_law_at_once (T : Tx K mg) (L : Tl K mg base) : Cal P w K mg base 12 "_law_at_once" ["_law_chunks", "_law_tables_here"] (spAtOnce K) := by
  have c_write_state := cal_write_state (P := P) (w := w) (base := base) T L
  have c_write_rows := cal_write_rows (P := P) (w := w) (base := base) T
  refine cal_of T.at_law_at_once sc_law_at_once bd_law_at_once (fun vs H Q E h => ?_) fun f cdv A outer s H0 E hr => ⟨_, (pss_one (ps_ret (pe_cal c_write_state (hr.mono (by omega)) (by rfl) (pa_cons (pv 0) (pa_cons (pe_lc (own := [("_law_name_here", 2), ("_law_form_here", 3), ("_law_rows", 4)]) rfl sc_law_at_once.nd (pi_list (pv 1)) (blkOk_by (own := [("_law_name_here", 2), ("_law_form_here", 3), ("_law_rows", 4)]) (N := n_law_at_once) (sc := defScope s_law_at_once) (by decide +kernel)) (fun _ _ _ _ _ => (pg_tupK (K := K) (n := 3) rfl rfl (pgs_cons (pg_name (i := 2) sc_law_at_once.nd rfl (Or.inl rfl)) (pgs_cons (pg_name (i := 3) sc_law_at_once.nd rfl (Or.inl rfl)) (pgs_cons (pg_name (i := 4) sc_law_at_once.nd rfl (Or.inl rfl)) pgs_nil))))) (fun _ _ _ _ _ => pts_nil) (fun _ _ _ _ _ => (pe_tup (pa_cons (pv 2) (pa_cons (pv 3) (pa_cons (pe_cal c_write_rows (hr.mono (by omega)) (by rfl) (pa_cons (pv 0) (pa_cons (pv 3) (pa_cons (pe_revLK (K := K) rfl (pv 4)) pa_nil)))) pa_nil)))))) pa_nil))))), fun vs H Q h => ?_⟩
  · obtain ⟨b, n, c, t, bk, Pp, N, L, tv, ts, ss, rfl, _⟩ := h
    rfl
  · obtain ⟨b, n, c, t, bk, Pp, N, L0, tv, ts, ss, rfl, sg, hN, hL0, htv, hok, hlen, hpm, hnm, q⟩ := h
    have htl := pd_len htv
    walk_at "rd"
    refine r_lcLg (fun L i acc Hc => Hc L = some (.lst acc) ∧ ∃ bk' P' trs, Sg K Hc b n c t bk' P' (N + 1000 * i) ∧ Wr H Hc n c t bk bk' Pp P' ∧ Paired (TrOf P') (ts.take i) trs ∧ TpAll Hc acc (trs.map Tr.d)) hL0 (by omega) (fun L H' hL e hl' => ⟨hl', bk, Pp, [], (sg.same e).up (by omega), Wr.of e, .nil, .nil⟩)
      (fun L i acc Hc hL ⟨_, _, _, _, _, wr, _, _⟩ => sg.lst wr hL0) (fun L i x ac Hc hL hx ⟨hLc, bk1, P1, trs, sg1, wr1, hpd, htp⟩ _ => ?_) fun L ac Hc hL ⟨hLc, bk1, P1, trs, sg1, wr1, hpd, htp⟩ _ => ?_
    · have hxl := (List.getElem?_eq_some_iff.mp hx).1
      obtain ⟨tb, hti, l, hta⟩ := pd_get' htv hx
      have tok := hok tb (List.mem_iff_getElem?.mpr ⟨i, hti⟩)
      obtain ⟨p, fv, rv, rfl, hp, hfv, hl, hrv⟩ := hta.wr sg wr1
      refine g_three hp rfl fun Qs qs => ?_
      walk_at "rd"
      refine r_revL hl fun lr H2 hlr e2 hlr2 => ?_
      walk_at "rd"
      refine ⟨b, n, c, t, bk1, P1, N + 1000 * i, lr, fv, rv.reverse, tb.fm, tb.rows.reverse, tb.rows, rfl, sg1.same e2, by omega, hfv.mono (TEx.of e2), tok.fm, hlr2, ?_, fun r hr' => tok.fit r (List.mem_reverse.mp hr'), by rw [List.length_reverse]; exact tok.len, (List.reverse_perm _).symm, tok.srt, fun a H3 bk3 P3 sg3 wr3 hroot ha => ?_⟩
      · rw [List.map_reverse]
        exact (hrv.mono (TEx.of e2)).reverse
      have tx3 : TEx Hc H3 := (TEx.of e2).trans ((sg1.same e2).tex wr3)
      have hL3 := (sg1.same e2).lst wr3 (e2 _ _ hLc)
      refine r_newD (ds := [.str tb.name, tb.fm.d, .int a]) (.cons (.str _) (.cons (hfv.mono tx3) (.cons (.int _) .nil))) (Nat.le_of_ble_eq_true rfl) fun p4 H4 e4 t4 => ?_
      have hL4 := e4 _ _ hL3
      have te : TEx H4 (upd H4 L (.lst (ac ++ [.ref p4]))) := TEx.upd hL4 fun xs z => by cases z
      refine qs _ H4 hL4 ⟨upd_same, bk3, P3, trs ++ [⟨tb.name, tb.fm, a⟩], ((sg3.same e4).up (by omega)).mutL hL4, (((wr1.trans (Wr.of e2)).trans wr3).trans (Wr.of e4)).mutL (Nt.none hL), ?_, ?_⟩
      · have etk : ts.take (i + 1) = ts.take i ++ [tb] := by rw [List.take_add_one, hti]; rfl
        rw [etk]
        exact pd_snoc (pd_mono hpd fun _ _ h => h.mono wr3.P) ⟨rfl, rfl, hroot, ha⟩
      · rw [List.map_append]
        exact (htp.mono ((tx3.trans (TEx.of e4)).trans te)).append (TpAll.one (t4.mono te))
    · rw [htl, List.take_length] at hpd
      obtain ⟨rs2, prs, hpd2⟩ := pd_perm hpm hpd
      have hrl := pd_len hpd
      walk_at "rd"
      refine ⟨b, n, c, t, bk1, P1, N + 1000 * tv.length, L, ac, trs, rs2, rfl, sg1, by omega, hLc, htp, prs, ?_, by omega, fun r hr' => ?_, fun a H5 bk5 P5 sg5 wr5 hP5 => ?_⟩
      · show SrtS _
        rw [trs_names hpd2]
        exact hnm
      · obtain ⟨i, hi⟩ := List.mem_iff_getElem?.mp hr'
        obtain ⟨t', h1, h2⟩ := pd_get hpd hi
        exact h2.ok (hok t' (List.mem_iff_getElem?.mpr ⟨i, h1⟩))
      · exact q a H5 bk5 P5 (sg5.up (by omega)) (wr1.trans wr5) ⟨rs2, pd_mono hpd2 fun _ _ h => h.mono wr5.P, hP5⟩
end
end Vt
-- VtE2
set_option Elab.async false
set_option linter.all false
set_option maxRecDepth 100000
set_option maxHeartbeats 4000000
namespace Vt
open PySem PySem.Spec PyProof.Rows L2 LamX NdefX
local macro_rules | `(tactic| walk_at "rd") => `(tactic| (repeat (first
  | with_reducible refine r_sasg ?_ | with_reducible refine r_sfset ?_ | with_reducible refine r_sfaug ?_ | with_reducible refine r_sdput ?_ | with_reducible refine r_sdrop ?_ | with_reducible refine r_swhen ?_ | with_reducible refine r_sif ?_ | with_reducible refine r_asg ?_ | with_reducible refine r_drop ?_
  | with_reducible refine r_ret ?_ | with_reducible refine r_if ?_ | with_reducible refine r_next ?_
  | with_reducible refine r_c ?_ | with_reducible refine r_var (by with_unfolding_all exact rfl) ?_ | with_reducible refine r_op ?_ | with_reducible refine r_un ?_ | with_reducible refine r_I0 ?_ | ((with_reducible refine r_I ?_ ?_); · first | (show (0 : Int) < _; decide) | exact div_ok (by decide) (by decide)) | with_reducible refine r_U ?_
  | with_reducible refine r_eq (by with_unfolding_all exact rfl) ?_ | with_reducible refine r_ne (by with_unfolding_all exact rfl) ?_
  | with_reducible refine r_tstq ?_ | with_reducible refine r_tBq ?_ | with_reducible refine r_blq ?_ | with_reducible refine r_intq ?_ | with_reducible refine r_and ?_ | with_reducible refine r_or ?_ | with_reducible refine r_not ?_
  | with_reducible refine r_andV ?_ | with_reducible refine r_orV ?_ | with_reducible refine r_notV ?_
  | with_reducible refine r_nil ?_ | with_reducible refine r_cons ?_ | with_reducible refine r_call ?_ | with_reducible refine r_tup ?_ | with_reducible refine r_lst ?_ | with_reducible refine r_cb ?_ | with_reducible refine r_int1 ?_ | with_reducible refine r_ord ?_
  | with_reducible refine r_sl ?_ | with_reducible refine r_nop ?_ | with_reducible refine r_partq ?_ | with_reducible refine r_bm ?_ | with_reducible refine r_fld ?_
  | with_reducible refine r_lct ?_ | with_reducible refine r_lcl ?_ | with_reducible refine r_lcr ?_ | with_reducible refine r_sfort ?_ | with_reducible refine r_sforl ?_ | with_reducible refine r_sfors ?_ | with_reducible refine r_sforr ?_ | with_reducible refine r_sforz ?_
  | with_reducible refine r_fort ?_ | with_reducible refine r_forl ?_ | with_reducible refine r_forr ?_ | with_reducible refine r_sasgt ?_ | with_reducible refine r_asgt ?_ | with_reducible refine r_saug (by with_unfolding_all exact rfl) ?_ | with_reducible refine r_aug (by with_unfolding_all exact rfl) ?_ | with_reducible refine r_ip ?_ | with_reducible refine r_gname ?_ | with_reducible refine r_seq ?_
  | with_reducible refine r_dget ?_ | with_reducible refine r_din ?_ | with_reducible refine r_dnotin ?_ | with_reducible refine r_sdput ?_ | with_reducible refine r_dput ?_ | with_reducible refine r_mg ?_ | with_reducible refine r_rev ?_ | with_reducible refine r_dzip ?_
  | with_reducible refine r_lcz ?_ | with_reducible refine r_form ?_
  | with_reducible refine r_sfset ?_ | with_reducible refine r_fset ?_ | with_reducible refine r_sfaug ?_ | with_reducible refine r_meth ?_ | with_reducible refine r_make ?_
  | with_reducible refine r_srtl ?_ | with_reducible refine r_m1q ?_ | with_reducible refine r_strq ?_
  | with_reducible refine r_iteT ?_ | with_reducible refine r_iteF ?_)))
local macro_rules | `(tactic| walk_at "rs") => `(tactic| (repeat (first
  | with_reducible refine r_sasg ?_ | with_reducible refine r_sfset ?_ | with_reducible refine r_sfaug ?_ | with_reducible refine r_sdput ?_ | with_reducible refine r_sdrop ?_ | with_reducible refine r_asg ?_ | with_reducible refine r_drop ?_
  | with_reducible refine r_ret ?_ | with_reducible refine r_next ?_
  | with_reducible refine r_c ?_ | with_reducible refine r_var (by with_unfolding_all exact rfl) ?_ | with_reducible refine r_op ?_ | with_reducible refine r_un ?_ | with_reducible refine r_I0 ?_ | ((with_reducible refine r_I ?_ ?_); · first | (show (0 : Int) < _; decide) | exact div_ok (by decide) (by decide)) | with_reducible refine r_U ?_
  | with_reducible refine r_eq (by with_unfolding_all exact rfl) ?_ | with_reducible refine r_ne (by with_unfolding_all exact rfl) ?_
  | with_reducible refine r_tstq ?_ | with_reducible refine r_tBq ?_ | with_reducible refine r_blq ?_ | with_reducible refine r_intq ?_ | with_reducible refine r_and ?_ | with_reducible refine r_or ?_ | with_reducible refine r_not ?_
  | with_reducible refine r_andV ?_ | with_reducible refine r_orV ?_ | with_reducible refine r_notV ?_
  | with_reducible refine r_nil ?_ | with_reducible refine r_cons ?_ | with_reducible refine r_call ?_ | with_reducible refine r_tup ?_ | with_reducible refine r_lst ?_ | with_reducible refine r_cb ?_ | with_reducible refine r_int1 ?_ | with_reducible refine r_ord ?_
  | with_reducible refine r_sl ?_ | with_reducible refine r_nop ?_ | with_reducible refine r_partq ?_ | with_reducible refine r_bm ?_ | with_reducible refine r_fld ?_
  | with_reducible refine r_lct ?_ | with_reducible refine r_lcl ?_ | with_reducible refine r_lcr ?_ | with_reducible refine r_sfort ?_ | with_reducible refine r_sforl ?_ | with_reducible refine r_sfors ?_ | with_reducible refine r_sforr ?_ | with_reducible refine r_sforz ?_
  | with_reducible refine r_fort ?_ | with_reducible refine r_forl ?_ | with_reducible refine r_forr ?_ | with_reducible refine r_sasgt ?_ | with_reducible refine r_asgt ?_ | with_reducible refine r_saug (by with_unfolding_all exact rfl) ?_ | with_reducible refine r_aug (by with_unfolding_all exact rfl) ?_ | with_reducible refine r_ip ?_ | with_reducible refine r_gname ?_ | with_reducible refine r_seq ?_
  | with_reducible refine r_dget ?_ | with_reducible refine r_din ?_ | with_reducible refine r_dnotin ?_ | with_reducible refine r_sdput ?_ | with_reducible refine r_dput ?_ | with_reducible refine r_mg ?_ | with_reducible refine r_rev ?_ | with_reducible refine r_dzip ?_
  | with_reducible refine r_lcz ?_ | with_reducible refine r_form ?_
  | with_reducible refine r_sfset ?_ | with_reducible refine r_fset ?_ | with_reducible refine r_sfaug ?_ | with_reducible refine r_meth ?_ | with_reducible refine r_make ?_
  | with_reducible refine r_srtl ?_ | with_reducible refine r_m1q ?_ | with_reducible refine r_strq ?_
  | with_reducible refine r_iteT ?_ | with_reducible refine r_iteF ?_)))
local macro_rules | `(tactic| walk_at "tex") => `(tactic| (first
  | assumption | exact TEx.refl _ | exact TEx.of (by assumption) | ((refine TEx.trans ?_ (TEx.of (by assumption))); walk_at "tex") | ((refine TEx.trans ?_ (by assumption)); walk_at "tex")))
local macro_rules | `(tactic| walk_at "same") => `(tactic| (first
  | assumption | exact Same.refl _ | ((refine Same.trans ?_ (by assumption)); walk_at "same")))
local macro_rules | `(tactic| walk_at "tp") => `(tactic| (first
  | assumption | exact Tp.int _ | exact Tp.str _ | exact Tp.non | exact TpAll.nil | ((refine TpAll.cons ?_ ?_) <;> walk_at "tp") | ((refine Tp.mono ?_ (by assumption)); walk_at "tex") | ((refine TpAll.mono ?_ (by assumption)); walk_at "tex")))
local macro_rules | `(tactic| walk_at "hp") => `(tactic| (first
  | assumption | ((refine (TEx.trans ?_ (TEx.refl _)) _ _ (by assumption)); walk_at "tex")))
/-- data of some depth, no tuple too long -/
inductive Sm : Nat → PyData → Prop
  | non {n} : Sm (n + 1) .none
  | int {n} (i : Int) : Sm (n + 1) (.int i)
  | str {n} (x : Str) : Sm (n + 1) (.str x)
  | tup {n} {ds : List PyData} : ds.length ≤ 1000 → (∀ d ∈ ds, Sm n d) → Sm (n + 1) (.tuple ds)
section
variable {P : Program} {w : World} {K : PySem.W.Frag} {mg : Str → Option Value} {base : Heap}
/-! ### _law_same -/
abbrev n_law_same : List Str := ["_law_actual", "_law_expected", "_law_k"]
theorem sc_law_same : FnScope n_law_same ["_law_actual", "_law_expected"] (defScope s_law_same) := ⟨rfl, rfl, rfl, by decide +kernel, rfl, by decide +kernel, by decide +kernel⟩
theorem bd_law_same : BindH "_law_same" s_law_same ["_law_actual", "_law_expected"] := fun _ _ _ _ _ _ us hl => match us, hl with | [_, _], _ => rfl
def spSame (n : Nat) : Sp := fun vs H Q _ => ∃ (v u : V) (d : PyData), vs = [v, u] ∧ Tp H v d ∧ Tp H u d ∧ Sm n d ∧ ∀ H', Same H H' → Q (.bl true) H'
theorem cal_law_same (T : Tx K mg) : ∀ n : Nat, Cal P w K mg base (n + 1) "_law_same" ["_law_actual", "_law_expected"] (spSame n) := by
  intro n
  induction n with
  | zero => exact cal_never T.at_law_same sc_law_same bd_law_same fun vs H Q E ⟨v, u, d, _, _, _, h, _⟩ => by cases h
  | succ n ih =>
    have c_law_same := ih
    refine cal_of T.at_law_same sc_law_same bd_law_same (fun vs H Q E h => ?_) fun f cdv A outer s H0 E hr => ⟨_, (pss_cons (ps_if (pt_cmpR op_isNq (pv 1) pe_non (nomark _))
      (pss_one (ps_ret (pe_cmpR op_isNq (pv 0) pe_non (nomark _))))
      pss_nil)
      (pss_cons (ps_if (pt_val (pe_callB (call_isiV (K := K) rfl) (by rfl) T.m_isinstance (by decide +kernel) (pa_cons (pv 1) (pa_cons (pe_bltn (v := .ty "tuple") (by rfl) T.m_tuple boot_tuple rfl) pa_nil))))
      (pss_cons (ps_if (PW.pt (pw_or (pt_not (pt_val (pe_callB (call_isiV (K := K) rfl) (by rfl) T.m_isinstance (by decide +kernel) (pa_cons (pv 0) (pa_cons (pe_bltn (v := .ty "tuple") (by rfl) T.m_tuple boot_tuple rfl) pa_nil))))) (pw_or1 (pt_cmpR op_ne (pe_callB (cr_lnK (K := K) rfl) (by rfl) T.m_len PySem.boot_len (pa_cons (pv 0) pa_nil)) (pe_callB (cr_lnK (K := K) rfl) (by rfl) T.m_len PySem.boot_len (pa_cons (pv 1) pa_nil)) (nomark _)))))
        (pss_one (ps_ret pe_bl))
        pss_nil)
        (pss_cons (ps_for PassesOwn.never rfl (pi_range1 (by rfl) T.m_range (pa_cons (pe_callB (cr_lnK (K := K) rfl) (by rfl) T.m_len PySem.boot_len (pa_cons (pv 1) pa_nil)) pa_nil)) (pg_name (i := 2) sc_law_same.nd rfl (Or.inl rfl))
        (pss_one (ps_if (pt_not (pt_val (pe_cal c_law_same (hr.mono (by omega)) (by rfl) (pa_cons (pe_ix (ix_tupK (K := K) rfl) (pv 0) (pv 2) (fun _ _ => rfl)) (pa_cons (pe_ix (ix_tupK (K := K) rfl) (pv 1) (pv 2) (fun _ _ => rfl)) pa_nil)))))
          (pss_one (ps_ret pe_bl))
          pss_nil)))
        (pss_one (ps_ret pe_bl))))
      pss_nil)
      (pss_cons (ps_if (pt_val (pe_callB (call_isiV (K := K) rfl) (by rfl) T.m_isinstance (by decide +kernel) (pa_cons (pv 1) (pa_cons (pe_bltn (v := .ty "str") (by rfl) T.m_str boot_str rfl) pa_nil))))
      (pss_one (ps_ret (pe_and (pe_callB (call_isiV (K := K) rfl) (by rfl) T.m_isinstance (by decide +kernel) (pa_cons (pv 0) (pa_cons (pe_bltn (v := .ty "str") (by rfl) T.m_str boot_str rfl) pa_nil))) (pe_one (pe_cmpR op_eq (pv 0) (pv 1) (nomark _))))))
      pss_nil)
      (pss_one (ps_ret (pe_and (pe_callB (call_isiV (K := K) rfl) (by rfl) T.m_isinstance (by decide +kernel) (pa_cons (pv 0) (pa_cons (pe_bltn (v := .ty "int") (by rfl) T.m_int boot_int rfl) pa_nil))) (pe_and (pe_not (pe_callB (call_isiV (K := K) rfl) (by rfl) T.m_isinstance (by decide +kernel) (pa_cons (pv 0) (pa_cons (pe_bltn (v := .ty "bool") (by rfl) T.m_bool boot_bool rfl) pa_nil)))) (pe_one (pe_cmpR op_eq (pv 0) (pv 1) (nomark _)))))))))), fun vs H Q h => ?_⟩
    · obtain ⟨v, u, d, rfl, _⟩ := h
      rfl
    · obtain ⟨v, u, d, rfl, hv, hu, hsm, q⟩ := h
      walk_at "rd"
      cases hsm with
      | non =>
        obtain rfl := hv.inv_non
        refine r_isNd hu rfl ?_
        walk_at "rd"
        refine r_isNd (.non) rfl ?_
        exact q H (Same.refl H)
      | int i =>
        obtain rfl := hv.inv_int
        obtain rfl := hu.inv_int
        refine r_isNd hu rfl ?_
        walk_at "rd"
        refine r_isi hu (b := false) (by show kitB "int" "tuple" = some false; decide +kernel) ?_
        walk_at "rd"
        refine r_isi hu (b := false) (by show kitB "int" "str" = some false; decide +kernel) ?_
        walk_at "rd"
        refine r_isi hv (b := true) (by show kitB "int" "int" = some true; decide +kernel) ?_
        walk_at "rd"
        refine r_isi hv (b := false) (by show kitB "int" "bool" = some false; decide +kernel) ?_
        walk_at "rd"
        refine r_yes rfl ?_
        walk_at "rd"
        rw [decide_eq_true rfl]
        exact q H (Same.refl H)
      | str x =>
        obtain rfl := hv.inv_str
        obtain rfl := hu.inv_str
        refine r_isNd hu rfl ?_
        walk_at "rd"
        refine r_isi hu (b := false) (by show kitB "str" "tuple" = some false; decide +kernel) ?_
        walk_at "rd"
        refine r_isi hu (b := true) (by show kitB "str" "str" = some true; decide +kernel) ?_
        walk_at "rd"
        refine r_isi hv (b := true) (by show kitB "str" "str" = some true; decide +kernel) ?_
        walk_at "rd"
        rw [decide_eq_true rfl]
        exact q H (Same.refl H)
      | @tup _ ds hl hall =>
        obtain ⟨a, xs, rfl, ha, hxs⟩ := hv.inv
        obtain ⟨b, ys, rfl, hb, hys⟩ := hu.inv
        have hxl := hxs.length
        have hyl := hys.length
        refine r_isNd hu rfl ?_
        walk_at "rd"
        refine r_isi hu (b := true) (by show kitB "tuple" "tuple" = some true; decide +kernel) ?_
        walk_at "rd"
        refine r_isi hv (b := true) (by show kitB "tuple" "tuple" = some true; decide +kernel) ?_
        walk_at "rd"
        refine r_no rfl ?_
        walk_at "rd"
        refine r_lnT ha ?_
        walk_at "rd"
        refine r_lnT hb ?_
        walk_at "rd"
        refine r_no (by rw [hxl, hyl]; simp) ?_
        walk_at "rd"
        refine r_lnT hb ?_
        walk_at "rd"
        refine r_forR (N := ys.length) (by omega) (fun i σ' H' => ∃ z, Same H H' ∧ σ' = [some (.ref a), some (.ref b), z]) ⟨none, Same.refl _, rfl⟩ ?_ ?_
        · rintro i σ' H' hi ⟨z, e, rfl⟩
          have hdi : ds[i]? = some ds[i] := List.getElem?_eq_getElem (by omega)
          obtain ⟨x, hx, htx⟩ := hxs.get hdi
          obtain ⟨y, hy, hty⟩ := hys.get hdi
          walk_at "rd"
          refine r_ixT (e _ _ ha) (atI_nat hx) ?_
          walk_at "rd"
          refine r_ixT (e _ _ hb) (atI_nat hy) ?_
          walk_at "rd"
          refine ⟨x, y, ds[i], rfl, htx.mono (TEx.of e), hty.mono (TEx.of e), hall _ (List.getElem_mem _), fun H2 e2 => ?_⟩
          walk_at "rd"
          exact ⟨_, e.trans e2, rfl⟩
        · rintro σ' H' ⟨z, e, rfl⟩
          walk_at "rd"
          exact q H' e
end
end Vt
-- VtE3
set_option Elab.async false
set_option linter.all false
set_option maxRecDepth 100000
set_option maxHeartbeats 4000000
namespace Vt
open PySem PySem.Spec PyProof.Rows L2 LamX NdefX
local macro_rules | `(tactic| walk_at "rd") => `(tactic| (repeat (first
  | with_reducible refine r_sasg ?_ | with_reducible refine r_sfset ?_ | with_reducible refine r_sfaug ?_ | with_reducible refine r_sdput ?_ | with_reducible refine r_sdrop ?_ | with_reducible refine r_swhen ?_ | with_reducible refine r_sif ?_ | with_reducible refine r_asg ?_ | with_reducible refine r_drop ?_
  | with_reducible refine r_ret ?_ | with_reducible refine r_if ?_ | with_reducible refine r_next ?_
  | with_reducible refine r_c ?_ | with_reducible refine r_var (by with_unfolding_all exact rfl) ?_ | with_reducible refine r_op ?_ | with_reducible refine r_un ?_ | with_reducible refine r_I0 ?_ | ((with_reducible refine r_I ?_ ?_); · first | (show (0 : Int) < _; decide) | exact div_ok (by decide) (by decide)) | with_reducible refine r_U ?_
  | with_reducible refine r_eq (by with_unfolding_all exact rfl) ?_ | with_reducible refine r_ne (by with_unfolding_all exact rfl) ?_
  | with_reducible refine r_tstq ?_ | with_reducible refine r_tBq ?_ | with_reducible refine r_blq ?_ | with_reducible refine r_intq ?_ | with_reducible refine r_and ?_ | with_reducible refine r_or ?_ | with_reducible refine r_not ?_
  | with_reducible refine r_andV ?_ | with_reducible refine r_orV ?_ | with_reducible refine r_notV ?_
  | with_reducible refine r_nil ?_ | with_reducible refine r_cons ?_ | with_reducible refine r_call ?_ | with_reducible refine r_tup ?_ | with_reducible refine r_lst ?_ | with_reducible refine r_cb ?_ | with_reducible refine r_int1 ?_ | with_reducible refine r_ord ?_
  | with_reducible refine r_sl ?_ | with_reducible refine r_nop ?_ | with_reducible refine r_partq ?_ | with_reducible refine r_bm ?_ | with_reducible refine r_fld ?_
  | with_reducible refine r_lct ?_ | with_reducible refine r_lcl ?_ | with_reducible refine r_lcr ?_ | with_reducible refine r_sfort ?_ | with_reducible refine r_sforl ?_ | with_reducible refine r_sfors ?_ | with_reducible refine r_sforr ?_ | with_reducible refine r_sforz ?_
  | with_reducible refine r_fort ?_ | with_reducible refine r_forl ?_ | with_reducible refine r_forr ?_ | with_reducible refine r_sasgt ?_ | with_reducible refine r_asgt ?_ | with_reducible refine r_saug (by with_unfolding_all exact rfl) ?_ | with_reducible refine r_aug (by with_unfolding_all exact rfl) ?_ | with_reducible refine r_ip ?_ | with_reducible refine r_gname ?_ | with_reducible refine r_seq ?_
  | with_reducible refine r_dget ?_ | with_reducible refine r_din ?_ | with_reducible refine r_dnotin ?_ | with_reducible refine r_sdput ?_ | with_reducible refine r_dput ?_ | with_reducible refine r_mg ?_ | with_reducible refine r_rev ?_ | with_reducible refine r_dzip ?_
  | with_reducible refine r_lcz ?_ | with_reducible refine r_form ?_
  | with_reducible refine r_sfset ?_ | with_reducible refine r_fset ?_ | with_reducible refine r_sfaug ?_ | with_reducible refine r_meth ?_ | with_reducible refine r_make ?_
  | with_reducible refine r_srtl ?_ | with_reducible refine r_m1q ?_ | with_reducible refine r_strq ?_
  | with_reducible refine r_iteT ?_ | with_reducible refine r_iteF ?_)))
local macro_rules | `(tactic| walk_at "rs") => `(tactic| (repeat (first
  | with_reducible refine r_sasg ?_ | with_reducible refine r_sfset ?_ | with_reducible refine r_sfaug ?_ | with_reducible refine r_sdput ?_ | with_reducible refine r_sdrop ?_ | with_reducible refine r_asg ?_ | with_reducible refine r_drop ?_
  | with_reducible refine r_ret ?_ | with_reducible refine r_next ?_
  | with_reducible refine r_c ?_ | with_reducible refine r_var (by with_unfolding_all exact rfl) ?_ | with_reducible refine r_op ?_ | with_reducible refine r_un ?_ | with_reducible refine r_I0 ?_ | ((with_reducible refine r_I ?_ ?_); · first | (show (0 : Int) < _; decide) | exact div_ok (by decide) (by decide)) | with_reducible refine r_U ?_
  | with_reducible refine r_eq (by with_unfolding_all exact rfl) ?_ | with_reducible refine r_ne (by with_unfolding_all exact rfl) ?_
  | with_reducible refine r_tstq ?_ | with_reducible refine r_tBq ?_ | with_reducible refine r_blq ?_ | with_reducible refine r_intq ?_ | with_reducible refine r_and ?_ | with_reducible refine r_or ?_ | with_reducible refine r_not ?_
  | with_reducible refine r_andV ?_ | with_reducible refine r_orV ?_ | with_reducible refine r_notV ?_
  | with_reducible refine r_nil ?_ | with_reducible refine r_cons ?_ | with_reducible refine r_call ?_ | with_reducible refine r_tup ?_ | with_reducible refine r_lst ?_ | with_reducible refine r_cb ?_ | with_reducible refine r_int1 ?_ | with_reducible refine r_ord ?_
  | with_reducible refine r_sl ?_ | with_reducible refine r_nop ?_ | with_reducible refine r_partq ?_ | with_reducible refine r_bm ?_ | with_reducible refine r_fld ?_
  | with_reducible refine r_lct ?_ | with_reducible refine r_lcl ?_ | with_reducible refine r_lcr ?_ | with_reducible refine r_sfort ?_ | with_reducible refine r_sforl ?_ | with_reducible refine r_sfors ?_ | with_reducible refine r_sforr ?_ | with_reducible refine r_sforz ?_
  | with_reducible refine r_fort ?_ | with_reducible refine r_forl ?_ | with_reducible refine r_forr ?_ | with_reducible refine r_sasgt ?_ | with_reducible refine r_asgt ?_ | with_reducible refine r_saug (by with_unfolding_all exact rfl) ?_ | with_reducible refine r_aug (by with_unfolding_all exact rfl) ?_ | with_reducible refine r_ip ?_ | with_reducible refine r_gname ?_ | with_reducible refine r_seq ?_
  | with_reducible refine r_dget ?_ | with_reducible refine r_din ?_ | with_reducible refine r_dnotin ?_ | with_reducible refine r_sdput ?_ | with_reducible refine r_dput ?_ | with_reducible refine r_mg ?_ | with_reducible refine r_rev ?_ | with_reducible refine r_dzip ?_
  | with_reducible refine r_lcz ?_ | with_reducible refine r_form ?_
  | with_reducible refine r_sfset ?_ | with_reducible refine r_fset ?_ | with_reducible refine r_sfaug ?_ | with_reducible refine r_meth ?_ | with_reducible refine r_make ?_
  | with_reducible refine r_srtl ?_ | with_reducible refine r_m1q ?_ | with_reducible refine r_strq ?_
  | with_reducible refine r_iteT ?_ | with_reducible refine r_iteF ?_)))
local macro_rules | `(tactic| walk_at "tex") => `(tactic| (first
  | assumption | exact TEx.refl _ | exact TEx.of (by assumption) | ((refine TEx.trans ?_ (TEx.of (by assumption))); walk_at "tex") | ((refine TEx.trans ?_ (by assumption)); walk_at "tex")))
local macro_rules | `(tactic| walk_at "same") => `(tactic| (first
  | assumption | exact Same.refl _ | ((refine Same.trans ?_ (by assumption)); walk_at "same")))
local macro_rules | `(tactic| walk_at "tp") => `(tactic| (first
  | assumption | exact Tp.int _ | exact Tp.str _ | exact Tp.non | exact TpAll.nil | ((refine TpAll.cons ?_ ?_) <;> walk_at "tp") | ((refine Tp.mono ?_ (by assumption)); walk_at "tex") | ((refine TpAll.mono ?_ (by assumption)); walk_at "tex")))
local macro_rules | `(tactic| walk_at "hp") => `(tactic| (first
  | assumption | ((refine (TEx.trans ?_ (TEx.refl _)) _ _ (by assumption)); walk_at "tex")))
theorem Sm.up {d : PyData} : ∀ {n : Nat}, Sm n d → Sm (n + 1) d := by
  intro n h
  induction h with
  | non => exact .non
  | int i => exact .int i
  | str x => exact .str x
  | tup hl _ ih => exact .tup hl ih
theorem Sc.sm {d : PyData} (h : Sc d) {n : Nat} : Sm (n + 1) d := by
  rcases h with h | ⟨i, h, _⟩ | ⟨s, h, _⟩ <;> subst h
  · exact .non
  · exact .int i
  · exact .str s
theorem Fm.Ok.sm {f : Fm} (h : f.Ok) : Sm 4 f.d := by
  refine .tup (by simp) fun d hd => ?_
  have e : d = .tuple (f.cols.map Col.d) ∨ d = .tuple (f.keys.map PyData.str) := by simpa using hd
  rcases e with e | e <;> subst e
  · refine .tup (by rw [List.length_map]; have := h.n12; omega) fun d hd => ?_
    obtain ⟨c, hc, rfl⟩ := List.mem_map.mp hd
    refine .tup (by simp) fun d hd => ?_
    have e : d = .str c.name ∨ d = .str c.kind ∨ d = c.df ∨ d = .int c.un ∨ d = .str c.link := by simpa using hd
    rcases e with e | e | e | e | e <;> subst e
    · exact .str _
    · exact .str _
    · exact (h.df c hc).sm
    · exact .int _
    · exact .str _
  · refine .tup (by rw [List.length_map]; have := h.k2; omega) fun d hd => ?_
    obtain ⟨k, _, rfl⟩ := List.mem_map.mp hd
    exact .str _
theorem Tab.Ok.sm {t : Tab} (h : t.Ok) : Sm 5 (.tuple [.str t.name, t.fm.d, .tuple (t.rows.map PyData.tuple)]) := by
  refine .tup (by simp) fun d hd => ?_
  have e : d = .str t.name ∨ d = t.fm.d ∨ d = .tuple (t.rows.map PyData.tuple) := by simpa using hd
  rcases e with e | e | e <;> subst e
  · exact .str _
  · exact h.fm.sm
  · refine .tup (by rw [List.length_map]; have := h.len; omega) fun d hd => ?_
    obtain ⟨r, hr, rfl⟩ := List.mem_map.mp hd
    have ft := h.fit r hr
    exact .tup (by rw [ft.len]; have := h.fm.n12; omega) fun d hd => (ft.sc hd).sm
section
variable {P : Program} {w : World} {K : PySem.W.Frag} {mg : Str → Option Value} {base : Heap}
/-! ### _law_is_plain -/
abbrev n_law_is_plain : List Str := ["_law_chunks", "_law_state", "_law_tables_here", "_law_actual", "_law_k", "_law_name_here", "_law_form_here", "_law_rows"]
theorem sc_law_is_plain : FnScope n_law_is_plain ["_law_chunks", "_law_state", "_law_tables_here"] (defScope s_law_is_plain) := ⟨rfl, rfl, rfl, by decide +kernel, rfl, by decide +kernel, by decide +kernel⟩
theorem bd_law_is_plain : BindH "_law_is_plain" s_law_is_plain ["_law_chunks", "_law_state", "_law_tables_here"] := fun _ _ _ _ _ _ us hl => match us, hl with | [_, _, _], _ => rfl
def spIsPlain (K : PySem.W.Frag) : Sp := fun vs H Q _ => ∃ (b n c t : Addr) (bk : List Str) (Pp : Pr) (N : Nat) (a : Int) (L : Addr) (tv : List V) (ts : List Tab), vs = [.ref c, .int a, .ref L] ∧ Sg K H b n c t bk Pp N ∧ StOf Pp a ts ∧ ts.length ≤ 120 ∧ (∀ t ∈ ts, t.Ok) ∧ H L = some (.lst tv) ∧ TabsV H tv ts ∧
  ∀ H', Sg K H' b n c t bk Pp N → Wr H H' n c t bk bk Pp Pp → Q (.bl true) H'
theorem cal_law_is_plain (T : Tx K mg) : Cal P w K mg base 26 "_law_is_plain" ["_law_chunks", "_law_state", "_law_tables_here"] (spIsPlain K) := by
  have c_plain_tables := cal_plain_tables (P := P) (w := w) (base := base) T
  have c_law_same := cal_law_same (P := P) (w := w) (base := base) T 5
  refine cal_of T.at_law_is_plain sc_law_is_plain bd_law_is_plain (fun vs H Q E h => ?_) fun f cdv A outer s H0 E hr => ⟨_, (pss_cons (ps_set (i := 3) sc_law_is_plain.nd rfl (Or.inl rfl) (pe_cal c_plain_tables (hr.mono (by omega)) (by rfl) (pa_cons (pv 0) (pa_cons (pv 1) pa_nil))))
      (pss_cons (ps_if (PW.pt (pw_or (pt_not (pt_val (pe_callB (call_isiV (K := K) rfl) (by rfl) T.m_isinstance (by decide +kernel) (pa_cons (pv 3) (pa_cons (pe_bltn (v := .ty "list") (by rfl) T.m_list boot_list rfl) pa_nil))))) (pw_or1 (pt_cmpR op_ne (pe_callB (cr_lnK (K := K) rfl) (by rfl) T.m_len PySem.boot_len (pa_cons (pv 3) pa_nil)) (pe_callB (cr_lnK (K := K) rfl) (by rfl) T.m_len PySem.boot_len (pa_cons (pv 2) pa_nil)) (nomark _)))))
      (pss_one (ps_ret pe_bl))
      pss_nil)
      (pss_cons (ps_for PassesOwn.never rfl (pi_range1 (by rfl) T.m_range (pa_cons (pe_callB (cr_lnK (K := K) rfl) (by rfl) T.m_len PySem.boot_len (pa_cons (pv 2) pa_nil)) pa_nil)) (pg_name (i := 4) sc_law_is_plain.nd rfl (Or.inl rfl))
      (pss_cons (ps_if (PW.pt (pw_or (pt_not (pt_val (pe_callB (call_isiV (K := K) rfl) (by rfl) T.m_isinstance (by decide +kernel) (pa_cons (pe_ix (ix_listK (K := K) rfl) (pv 3) (pv 4) (fun _ _ => rfl)) (pa_cons (pe_bltn (v := .ty "tuple") (by rfl) T.m_tuple boot_tuple rfl) pa_nil))))) (pw_or (pt_cmpR op_ne (pe_callB (cr_lnK (K := K) rfl) (by rfl) T.m_len PySem.boot_len (pa_cons (pe_ix (ix_listK (K := K) rfl) (pv 3) (pv 4) (fun _ _ => rfl)) pa_nil)) pe_int (nomark _)) (pw_or1 (pt_not (pt_val (pe_callB (call_isiV (K := K) rfl) (by rfl) T.m_isinstance (by decide +kernel) (pa_cons (pe_ix (ix_tupK (K := K) rfl) (pe_ix (ix_listK (K := K) rfl) (pv 3) (pv 4) (fun _ _ => rfl)) pe_int (fun _ _ => rfl)) (pa_cons (pe_bltn (v := .ty "list") (by rfl) T.m_list boot_list rfl) pa_nil)))))))))
        (pss_one (ps_ret pe_bl))
        pss_nil)
        (pss_cons (ps_asg (pe_ix (ix_listK (K := K) rfl) (pv 3) (pv 4) (fun _ _ => rfl)) (pg_tupK (K := K) (n := 3) rfl rfl (pgs_cons (pg_name (i := 5) sc_law_is_plain.nd rfl (Or.inl rfl)) (pgs_cons (pg_name (i := 6) sc_law_is_plain.nd rfl (Or.inl rfl)) (pgs_cons (pg_name (i := 7) sc_law_is_plain.nd rfl (Or.inl rfl)) pgs_nil)))))
        (pss_one (ps_if (pt_not (pt_val (pe_cal c_law_same (hr.mono (by omega)) (by rfl) (pa_cons (pe_tup (pa_cons (pv 5) (pa_cons (pv 6) (pa_cons (pe_callTy (cr_tupOfK (K := K) rfl) (by rfl) T.m_tuple (by decide +kernel) (pa_cons (pv 7) pa_nil)) pa_nil)))) (pa_cons (pe_tup (pa_cons (pe_ix (ix_tupK (K := K) rfl) (pe_ix (ix_listK (K := K) rfl) (pv 2) (pv 4) (fun _ _ => rfl)) pe_int (fun _ _ => rfl)) (pa_cons (pe_ix (ix_tupK (K := K) rfl) (pe_ix (ix_listK (K := K) rfl) (pv 2) (pv 4) (fun _ _ => rfl)) pe_int (fun _ _ => rfl)) (pa_cons (pe_callTy (cr_tupOfK (K := K) rfl) (by rfl) T.m_tuple (by decide +kernel) (pa_cons (pe_ix (ix_tupK (K := K) rfl) (pe_ix (ix_listK (K := K) rfl) (pv 2) (pv 4) (fun _ _ => rfl)) pe_int (fun _ _ => rfl)) pa_nil)) pa_nil)))) pa_nil)))))
        (pss_one (ps_ret pe_bl))
        pss_nil)))))
      (pss_one (ps_ret pe_bl))))), fun vs H Q h => ?_⟩
  · obtain ⟨b, n, c, t, bk, Pp, N, a, L, tv, ts, rfl, _⟩ := h
    rfl
  · obtain ⟨b, n, c, t, bk, Pp, N, a, L, tv, ts, rfl, sg, hst, hlen, hok, hL, htv, q⟩ := h
    have htl := pd_len htv
    walk_at "rd"
    refine ⟨b, n, c, t, bk, Pp, N, a, ts, rfl, sg, hst, hlen, hok, fun l av H1 sg1 wr1 hl1 hav => ?_⟩
    have hal := pd_len hav
    have hL1 := sg.lst wr1 hL
    have htv1 := htv.wr sg wr1
    walk_at "rd"
    refine r_isiL hl1 (b := true) (by decide +kernel) ?_
    walk_at "rd"
    refine r_no rfl ?_
    walk_at "rd"
    refine r_lnL hl1 ?_
    walk_at "rd"
    refine r_lnL hL1 ?_
    walk_at "rd"
    refine r_no (by rw [hal, htl]; simp) ?_
    walk_at "rd"
    refine r_lnL hL1 ?_
    walk_at "rd"
    refine r_forR (N := tv.length) (by omega) (fun i σ' H' => ∃ z4 z5 z6 z7, Same H1 H' ∧ σ' = [some (.ref c), some (.int a), some (.ref L), some (.ref l), z4, z5, z6, z7]) ⟨none, none, none, none, Same.refl _, rfl⟩ ?_ ?_
    · rintro i σ' H' hi ⟨z4, z5, z6, z7, e, rfl⟩
      have hti : ts[i]? = some ts[i] := List.getElem?_eq_getElem (by omega)
      have tok := hok _ (List.getElem_mem (show i < ts.length by omega))
      have hai : av[i]? = some av[i] := List.getElem?_eq_getElem (by omega)
      have hvi : tv[i]? = some tv[i] := List.getElem?_eq_getElem hi
      obtain ⟨tb, htb, l1, hta⟩ := pd_get' hav hai
      rw [hti] at htb
      cases htb
      obtain ⟨tb2, htb2, l2, hta2⟩ := pd_get' htv1 hvi
      rw [hti] at htb2
      cases htb2
      obtain ⟨p1, f1, rv1, ep1, hp1, hf1, hr1, hv1⟩ := hta.same e
      obtain ⟨p2, f2, rv2, ep2, hp2, hf2, hr2, hv2⟩ := hta2.same e
      rw [ep1] at hai
      rw [ep2] at hvi
      have hl := e _ _ hl1
      have hL := e _ _ hL1
      walk_at "rd"
      refine r_ixL hl (atI_nat hai) ?_
      walk_at "rd"
      refine r_isiT hp1 (b := true) (by decide +kernel) ?_
      walk_at "rd"
      refine r_no rfl ?_
      walk_at "rd"
      refine r_ixL hl (atI_nat hai) ?_
      walk_at "rd"
      refine r_lnT hp1 ?_
      walk_at "rd"
      refine r_no (by rw [show ((([V.str ts[i].name, f1, V.ref l1] : List V).length : Nat) : Int) = 3 from rfl]; decide) ?_
      walk_at "rd"
      refine r_ixL hl (atI_nat hai) ?_
      walk_at "rd"
      refine r_ixT hp1 (atI_nat (j := 2) rfl) ?_
      walk_at "rd"
      refine r_isiL hr1 (b := true) (by decide +kernel) ?_
      walk_at "rd"
      refine r_no rfl ?_
      walk_at "rd"
      refine r_ixL hl (atI_nat hai) ?_
      refine r_gthree hp1 ?_
      walk_at "rd"
      refine r_tupD hr1 hv1 fun q1 H2 e2 t2 => ?_
      walk_at "rd"
      refine r_newD (ds := [.str ts[i].name, ts[i].fm.d, .tuple (ts[i].rows.map PyData.tuple)]) (.cons (.str _) (.cons (hf1.mono (TEx.of e2)) (.cons t2 .nil))) (Nat.le_of_ble_eq_true rfl) fun q3 H3 e3 t3 => ?_
      walk_at "rd"
      have e23 := e2.trans e3
      refine r_ixL (e23 _ _ hL) (atI_nat hvi) ?_
      walk_at "rd"
      refine r_ixT (e23 _ _ hp2) (atI_nat (j := 0) rfl) ?_
      walk_at "rd"
      refine r_ixL (e23 _ _ hL) (atI_nat hvi) ?_
      walk_at "rd"
      refine r_ixT (e23 _ _ hp2) (atI_nat (j := 1) rfl) ?_
      walk_at "rd"
      refine r_ixL (e23 _ _ hL) (atI_nat hvi) ?_
      walk_at "rd"
      refine r_ixT (e23 _ _ hp2) (atI_nat (j := 2) rfl) ?_
      walk_at "rd"
      refine r_tupD (e23 _ _ hr2) (hv2.mono (TEx.of e23)) fun q4 H4 e4 t4 => ?_
      walk_at "rd"
      refine r_newD (ds := [.str ts[i].name, ts[i].fm.d, .tuple (ts[i].rows.map PyData.tuple)]) (.cons (.str _) (.cons (hf2.mono (TEx.of (e23.trans e4))) (.cons t4 .nil))) (Nat.le_of_ble_eq_true rfl) fun q5 H5 e5 t5 => ?_
      walk_at "rd"
      refine ⟨_, _, _, rfl, t3.mono (TEx.of (e4.trans e5)), t5, tok.sm, fun H6 e6 => ?_⟩
      walk_at "rd"
      refine r_no rfl ?_
      walk_at "rd"
      exact ⟨_, _, _, _, e.trans (e23.trans (e4.trans (e5.trans e6))), rfl⟩
    · rintro σ' H' ⟨z4, z5, z6, z7, e, rfl⟩
      walk_at "rd"
      exact q H' (sg1.same e) (wr1.trans (Wr.of e))
end
end Vt
-- VtP1
set_option Elab.async false
set_option linter.all false
set_option maxRecDepth 100000
set_option maxHeartbeats 4000000
namespace Vt
open PySem PySem.Spec PyProof.Rows L2
/-! ### what is written is told by its text -/
theorem cut_at {c : Nat} : ∀ {a b r s : List Nat}, c ∉ a → c ∉ b → a ++ c :: r = b ++ c :: s → a = b ∧ r = s
  | [], [], r, s, _, _, h => by
    rw [List.nil_append, List.nil_append] at h
    injection h with _ h
    exact ⟨rfl, h⟩
  | [], y :: b, r, s, _, hb, h => by
    rw [List.nil_append, List.cons_append] at h
    injection h with h _
    exact (hb (by rw [h]; exact List.mem_cons_self ..)).elim
  | x :: a, [], r, s, ha, _, h => by
    rw [List.nil_append, List.cons_append] at h
    injection h with h _
    exact (ha (by rw [← h]; exact List.mem_cons_self ..)).elim
  | x :: a, y :: b, r, s, ha, hb, h => by
    rw [List.cons_append, List.cons_append] at h
    injection h with h1 h2
    obtain ⟨e1, e2⟩ := cut_at (fun z => ha (List.mem_cons_of_mem _ z)) (fun z => hb (List.mem_cons_of_mem _ z)) h2
    exact ⟨by rw [h1, e1], e2⟩
theorem intL_free (i : Int) : 59 ∉ intL i := by
  unfold intL
  have h := TL.numL_free (n := i.natAbs) (s := 59) (by omega)
  split
  · intro z
    rcases List.mem_cons.mp z with z | z
    · cases z
    · exact h z
  · exact h
theorem intL_inj {i j : Int} (h : intL i = intL j) : i = j := by
  unfold intL at h
  have hm : ∀ n : Nat, 45 ∉ TL.numL n := fun n => TL.numL_free (by omega)
  split at h <;> split at h
  · injection h with _ h
    have := TL.numL_inj h
    omega
  · exact (hm _ (by rw [← h]; exact List.mem_cons_self ..)).elim
  · exact (hm _ (by rw [h]; exact List.mem_cons_self ..)).elim
  · have := TL.numL_inj h
    omega
mutual
theorem enc_pre : ∀ (d e : PyData) (r s : List Nat), encOk d = true → encOk e = true → encL d ++ r = encL e ++ s → d = e ∧ r = s
  | .none, e, r, s, _, he, h => by
    rw [encL_none] at h
    cases e with
    | none => rw [encL_none] at h; injection h with _ h; exact ⟨rfl, h⟩
    | int j => rw [encL_int] at h; injection h with h _; cases h
    | str y => rw [encL_str] at h; injection h with h _; cases h
    | tuple es => rw [encL_tup] at h; injection h with h _; cases h
    | bool b => unfold encOk at he; cases he
    | list xs => unfold encOk at he; cases he
    | dict xs => unfold encOk at he; cases he
  | .int i, e, r, s, _, he, h => by
    rw [encL_int] at h
    cases e with
    | none => rw [encL_none] at h; injection h with h _; cases h
    | int j =>
      rw [encL_int, List.cons_append, List.cons_append, List.append_assoc, List.append_assoc] at h
      injection h with _ h
      obtain ⟨h1, h2⟩ := cut_at (intL_free i) (intL_free j) h
      exact ⟨by rw [intL_inj h1], h2⟩
    | str y => rw [encL_str] at h; injection h with h _; cases h
    | tuple es => rw [encL_tup] at h; injection h with h _; cases h
    | bool b => unfold encOk at he; cases he
    | list xs => unfold encOk at he; cases he
    | dict xs => unfold encOk at he; cases he
  | .str x, e, r, s, _, he, h => by
    rw [encL_str] at h
    cases e with
    | none => rw [encL_none] at h; injection h with h _; cases h
    | int j => rw [encL_int] at h; injection h with h _; cases h
    | str y =>
      rw [encL_str, List.cons_append, List.cons_append, List.append_assoc, List.append_assoc] at h
      injection h with _ h
      obtain ⟨h1, h2⟩ := cut_at (TL.numL_free (by omega)) (TL.numL_free (by omega)) h
      have hl := TL.numL_inj h1
      rw [TL.len_tl, TL.len_tl] at hl
      obtain ⟨h3, h4⟩ := List.append_inj h2 hl
      exact ⟨by rw [str_ext h3], h4⟩
    | tuple es => rw [encL_tup] at h; injection h with h _; cases h
    | bool b => unfold encOk at he; cases he
    | list xs => unfold encOk at he; cases he
    | dict xs => unfold encOk at he; cases he
  | .tuple ds, e, r, s, hd, he, h => by
    rw [encL_tup] at h
    cases e with
    | none => rw [encL_none] at h; injection h with h _; cases h
    | int j => rw [encL_int] at h; injection h with h _; cases h
    | str y => rw [encL_str] at h; injection h with h _; cases h
    | tuple es =>
      rw [encL_tup, List.cons_append, List.cons_append, List.append_assoc, List.append_assoc] at h
      injection h with _ h
      rw [encOk_tup, Bool.and_eq_true] at hd he
      obtain ⟨h1, h2⟩ := encs_pre ds es r s hd.2 he.2 h
      exact ⟨by rw [h1], h2⟩
    | bool b => unfold encOk at he; cases he
    | list xs => unfold encOk at he; cases he
    | dict xs => unfold encOk at he; cases he
  | .bool b, _, _, _, hd, _, _ => by unfold encOk at hd; cases hd
  | .list xs, _, _, _, hd, _, _ => by unfold encOk at hd; cases hd
  | .dict xs, _, _, _, hd, _, _ => by unfold encOk at hd; cases hd
theorem encs_pre : ∀ (ds es : List PyData) (r s : List Nat), encOks ds = true → encOks es = true → encLs ds ++ 41 :: r = encLs es ++ 41 :: s → ds = es ∧ r = s
  | [], [], r, s, _, _, h => by
    rw [encLs_nil, List.nil_append, List.nil_append] at h
    injection h with _ h
    exact ⟨rfl, h⟩
  | [], e :: es, r, s, _, he, h => by
    rw [encOks_cons, Bool.and_eq_true] at he
    obtain ⟨c, t, e1, e2⟩ := encL_head e he.1
    rw [encLs_nil, encLs_cons, e1, List.nil_append] at h
    injection h with h _
    exact (e2 h.symm).elim
  | d :: ds, [], r, s, hd, _, h => by
    rw [encOks_cons, Bool.and_eq_true] at hd
    obtain ⟨c, t, e1, e2⟩ := encL_head d hd.1
    rw [encLs_nil, encLs_cons, e1, List.nil_append] at h
    injection h with h _
    exact (e2 h).elim
  | d :: ds, e :: es, r, s, hd, he, h => by
    rw [encOks_cons, Bool.and_eq_true] at hd he
    rw [encLs_cons, encLs_cons, List.append_assoc, List.append_assoc] at h
    obtain ⟨h1, h2⟩ := enc_pre d e _ _ hd.1 he.1 h
    obtain ⟨h3, h4⟩ := encs_pre ds es r s hd.2 he.2 h2
    exact ⟨by rw [h1, h3], h4⟩
end
theorem encS_inj {d e : PyData} (hd : encOk d = true) (he : encOk e = true) (h : encS d = encS e) : d = e := by
  have := congrArg TL.tl h
  rw [tl_encS, tl_encS] at this
  exact (enc_pre d e [] [] hd he (by rw [this])).1
/-! ### one address has one text: what is read is told -/
def Fun1 (Pp : Pr) : Prop := ∀ a x y, Pp a x → Pp a y → x = y
theorem chunk_inj {lv lv' : Nat} {g g' : List PyData} (h : chunkD lv g = chunkD lv' g') : lv = lv' ∧ g = g' := by
  unfold chunkD at h
  by_cases h0 : lv = 0
  · by_cases h1 : lv' = 0
    · rw [if_pos h0, if_pos h1] at h
      injection h with h
      injection h with _ h
      injection h with h _
      injection h with h
      exact ⟨by omega, h⟩
    · rw [if_pos h0, if_neg h1] at h
      injection h with h
      injection h with _ h
      injection h with _ h
      cases h
  · by_cases h1 : lv' = 0
    · rw [if_neg h0, if_pos h1] at h
      injection h with h
      injection h with _ h
      injection h with _ h
      cases h
    · rw [if_neg h0, if_neg h1] at h
      injection h with h
      injection h with _ h
      injection h with h2 h
      injection h with h _
      injection h with h
      injection h2 with h2
      exact ⟨by omega, h⟩
theorem rd_fun {Pp : Pr} (F : Fun1 Pp) : ∀ (n m : Nat), (∀ {a : Int} {es fs : List PyData}, Rd1 Pp n a es → Rd1 Pp m a fs → es = fs) ∧ (∀ {g es fs : List PyData}, RdA Pp n g es → RdA Pp m g fs → es = fs) := by
  intro n
  induction n with
  | zero =>
    intro m
    have h1 : ∀ {a : Int} {es fs : List PyData}, Rd1 Pp 0 a es → Rd1 Pp m a fs → es = fs := by
      intro a es fs h k
      cases h with
      | rows p q =>
        cases k with
        | rows p' q' => exact (chunk_inj (encS_inj q.ok q'.ok (F _ _ _ p p'))).2
        | node h0 p' q' r =>
          have := (chunk_inj (encS_inj q.ok q'.ok (F _ _ _ p p'))).1
          omega
    refine ⟨h1, fun {g} => ?_⟩
    induction g with
    | nil => intro es fs h k; cases h; cases k; rfl
    | cons x g ih =>
      intro es fs h k
      cases h with
      | cons a r =>
        cases k with
        | cons a' r' => rw [h1 a a', ih r r']
  | succ n ih =>
    intro m
    have h1 : ∀ {a : Int} {es fs : List PyData}, Rd1 Pp (n + 1) a es → Rd1 Pp m a fs → es = fs := by
      intro a es fs h k
      cases h with
      | rows p q =>
        cases k with
        | rows p' q' => exact (chunk_inj (encS_inj q.ok q'.ok (F _ _ _ p p'))).2
        | node h0 p' q' r =>
          have := (chunk_inj (encS_inj q.ok q'.ok (F _ _ _ p p'))).1
          omega
      | node h0 p q r =>
        cases k with
        | rows p' q' =>
          have := (chunk_inj (encS_inj q.ok q'.ok (F _ _ _ p p'))).1
          omega
        | node h0' p' q' r' =>
          obtain ⟨e1, e2⟩ := chunk_inj (encS_inj q.ok q'.ok (F _ _ _ p p'))
          subst e2
          exact (ih _).2 r r'
    refine ⟨h1, fun {g} => ?_⟩
    induction g with
    | nil => intro es fs h k; cases h; cases k; rfl
    | cons x g ih2 =>
      intro es fs h k
      cases h with
      | cons a r =>
        cases k with
        | cons a' r' => rw [h1 a a', ih2 r r']
theorem Root.back {Pp : Pr} (F : Fun1 Pp) {es fs : List PyData} {r : Int} (h : Root Pp es r) (k : Root Pp fs r) (h1 : es.length ≤ 64) (h2 : fs.length ≤ 64) : es = fs :=
  (rd_fun F 6 6).1 (h.rd 6 h1) (k.rd 6 h2)
/-! ### rows, forms, tables -/
theorem map_at {α β : Type} {f g : α → β} : ∀ {l : List α}, l.map f = l.map g → ∀ a ∈ l, f a = g a
  | [], _, _, h => by cases h
  | x :: l, e, a, h => by
    rw [List.map_cons, List.map_cons] at e
    injection e with e1 e2
    rcases List.mem_cons.mp h with z | z
    · rw [z]; exact e1
    · exact map_at e2 a z
theorem ent_inj {f : Fm} (ok : f.Ok) {r1 r2 : List PyData} (f1 : Fit f r1) (f2 : Fit f r2) (h : entT f r1 = entT f r2) : r1 = r2 := by
  unfold entT at h
  injection h with h
  injection h with hk h
  injection h with h _
  injection h with hr
  unfold keyT at hk
  injection hk with hk
  have hk := map_at hk
  have hr := map_at hr
  apply List.ext_getElem
  · rw [f1.len, f2.len]
  · intro i h1 h2
    have hil : i < f.names.length := by rw [names_len, ← f1.len]; exact h1
    have e1 : r1.getD i .none = r1[i] := getD_some (List.getElem?_eq_getElem h1)
    have e2 : r2.getD i .none = r2[i] := getD_some (List.getElem?_eq_getElem h2)
    rw [← e1, ← e2]
    have hn : f.names[i]? = some f.names[i] := List.getElem?_eq_getElem hil
    by_cases z : f.names[i] ∈ f.keys
    · have := hk _ z
      rw [ix_nodup ok.nd hn] at this
      exact this
    · refine hr i (List.mem_filter.mpr ⟨List.mem_range.mpr hil, ?_⟩)
      rw [getD_some hn]
      exact decide_eq_true z
theorem map_inj_on {α β : Type} {f : α → β} : ∀ {l m : List α}, (∀ a ∈ l, ∀ b ∈ m, f a = f b → a = b) → l.map f = m.map f → l = m
  | [], [], _, _ => rfl
  | [], _ :: _, _, h => by cases h
  | _ :: _, [], _, h => by cases h
  | a :: l, b :: m, h, e => by
    rw [List.map_cons, List.map_cons] at e
    injection e with e1 e2
    rw [h a (List.mem_cons_self ..) b (List.mem_cons_self ..) e1, map_inj_on (fun x hx y hy => h x (List.mem_cons_of_mem _ hx) y (List.mem_cons_of_mem _ hy)) e2]
theorem col_inj {c d : Col} (h : c.d = d.d) : c = d := by
  obtain ⟨n, k, f, u, l⟩ := c
  obtain ⟨n', k', f', u', l'⟩ := d
  unfold Col.d at h
  injection h with h
  injection h with h1 h
  injection h with h2 h
  injection h with h3 h
  injection h with h4 h
  injection h with h5 _
  injection h1 with h1
  injection h2 with h2
  injection h4 with h4
  injection h5 with h5
  have h1 : n = n' := h1
  have h2 : k = k' := h2
  have h3 : f = f' := h3
  have h4 : u = u' := h4
  have h5 : l = l' := h5
  rw [h1, h2, h3, h4, h5]
theorem fm_inj {f g : Fm} (h : f.d = g.d) : f = g := by
  obtain ⟨c, k⟩ := f
  obtain ⟨c', k'⟩ := g
  unfold Fm.d at h
  injection h with h
  injection h with h1 h
  injection h with h2 _
  injection h1 with h1
  injection h2 with h2
  have h1 : c.map Col.d = c'.map Col.d := h1
  have h2 : k.map PyData.str = k'.map PyData.str := h2
  rw [map_inj_on (fun _ _ _ _ => col_inj) h1, map_inj_on (fun _ _ _ _ e => PyData.str.inj e) h2]
theorem tr_inj {r s : Tr} (h : r.d = s.d) : r = s := by
  obtain ⟨n, f, a⟩ := r
  obtain ⟨n', f', a'⟩ := s
  unfold Tr.d at h
  injection h with h
  injection h with h1 h
  injection h with h2 h
  injection h with h3 _
  injection h1 with h1
  injection h3 with h3
  have h1 : n = n' := h1
  have h2 : f.d = f'.d := h2
  have h3 : a = a' := h3
  rw [h1, fm_inj h2, h3]
theorem st_inj {rs ss : List Tr} (h1 : rs.length ≤ 120) (h2 : ∀ t ∈ rs, t.Ok) (k1 : ss.length ≤ 120) (k2 : ∀ t ∈ ss, t.Ok) (h : encS (stD rs) = encS (stD ss)) : rs = ss := by
  have e := encS_inj (st_en h1 h2).ok (st_en k1 k2).ok h
  unfold stD at e
  injection e with e
  injection e with _ e
  injection e with e _
  injection e with e
  exact map_inj_on (fun _ _ _ _ => tr_inj) e
theorem trof_ok {Pp : Pr} {ts : List Tab} {rs : List Tr} (h : Paired (TrOf Pp) ts rs) (k : ∀ t ∈ ts, t.Ok) : ∀ r ∈ rs, r.Ok := fun r hr => by
  obtain ⟨i, hi⟩ := List.mem_iff_getElem?.mp hr
  obtain ⟨t, h1, h2⟩ := pd_get h hi
  exact h2.ok (k t (List.mem_iff_getElem?.mpr ⟨i, h1⟩))
theorem trof_back {Pp : Pr} (F : Fun1 Pp) : ∀ {ts us : List Tab} {rs : List Tr}, Paired (TrOf Pp) ts rs → Paired (TrOf Pp) us rs → (∀ t ∈ ts, t.Ok) → (∀ t ∈ us, t.Ok) → ts = us
  | _, _, _, .nil, .nil, _, _ => rfl
  | t :: _, u :: _, r :: _, .cons a h, .cons b k, h1, h2 => by
    rw [trof_back F h k (fun x hx => h1 x (List.mem_cons_of_mem _ hx)) fun x hx => h2 x (List.mem_cons_of_mem _ hx)]
    have ot := h1 t (List.mem_cons_self ..)
    have ou := h2 u (List.mem_cons_self ..)
    obtain ⟨n, f, rows⟩ := t
    obtain ⟨n', f', rows'⟩ := u
    obtain ⟨a1, a2, a3, _⟩ := a
    obtain ⟨b1, b2, b3, _⟩ := b
    have en : n = n' := a1.symm.trans b1
    have ef : f = f' := a2.symm.trans b2
    subst en
    subst ef
    have e := a3.back F b3 (by rw [List.length_map]; exact ot.len) (by rw [List.length_map]; exact ou.len)
    have e : rows.map (entT f) = rows'.map (entT f) := e
    have er : rows = rows' := map_inj_on (fun x hx y hy z => ent_inj ot.fm (ot.fit x hx) (ou.fit y hy) z) e
    rw [er]
/-- one address, one list of tables -/
theorem StOf.back {Pp : Pr} (F : Fun1 Pp) {a : Int} {ts us : List Tab} (h : StOf Pp a ts) (k : StOf Pp a us) (h1 : ∀ t ∈ ts, t.Ok) (h2 : ∀ t ∈ us, t.Ok) (l1 : ts.length ≤ 120) (l2 : us.length ≤ 120) : ts = us := by
  obtain ⟨rs, hr, hp⟩ := h
  obtain ⟨ss, ks, kp⟩ := k
  have e := st_inj (by rw [← pd_len hr]; exact l1) (trof_ok hr h1) (by rw [← pd_len ks]; exact l2) (trof_ok ks h2) (F _ _ _ hp kp)
  subst e
  exact trof_back F hr ks h1 h2
/-- one list of tables, one address -/
theorem trof_uniq {Pp : Pr} (I : Inj Pp) : ∀ {ts : List Tab} {rs ss : List Tr}, Paired (TrOf Pp) ts rs → Paired (TrOf Pp) ts ss → rs = ss
  | _, _, _, .nil, .nil => rfl
  | _ :: _, r :: _, s :: _, .cons a h, .cons b k => by
    rw [trof_uniq I h k]
    obtain ⟨n, f, x⟩ := r
    obtain ⟨n', f', x'⟩ := s
    obtain ⟨a1, a2, a3, _⟩ := a
    obtain ⟨b1, b2, b3, _⟩ := b
    have en : n = n' := a1.trans b1.symm
    have ef : f = f' := a2.trans b2.symm
    have ex : x = x' := a3.uniq I b3
    rw [en, ef, ex]
theorem StOf.uniq {Pp : Pr} (I : Inj Pp) {a b : Int} {ts : List Tab} (h : StOf Pp a ts) (k : StOf Pp b ts) : a = b := by
  obtain ⟨rs, hr, hp⟩ := h
  obtain ⟨ss, ks, kp⟩ := k
  have e := trof_uniq I hr ks
  subst e
  exact I _ _ _ hp kp
theorem StOf.mono {P P' : Pr} (e : ∀ a x, P a x → P' a x) {a : Int} {ts : List Tab} (h : StOf P a ts) : StOf P' a ts := let ⟨rs, h1, h2⟩ := h; ⟨rs, pd_mono h1 fun _ _ k => k.mono e, e _ _ h2⟩
theorem bk_fun (bk : List Str) : Fun1 (BkR bk) := fun _ _ _ h k => h.fun1 k
theorem bk_inj {bk : List Str} (nd : bk.Nodup) : Inj (BkR bk) := fun _ _ _ h k => h.inj nd k
/-! ### tables as data -/
def Tab.x (t : Tab) : PyData := .tuple [.str t.name, t.fm.d, .list (t.rows.map PyData.tuple)]
theorem tab_inj {t u : Tab} (h : t.x = u.x) : t = u := by
  obtain ⟨n, f, r⟩ := t
  obtain ⟨n', f', r'⟩ := u
  unfold Tab.x at h
  injection h with h
  injection h with h1 h
  injection h with h2 h
  injection h with h3 _
  injection h1 with h1
  injection h3 with h3
  have h1 : n = n' := h1
  have h2 : f.d = f'.d := h2
  have h3 : r.map PyData.tuple = r'.map PyData.tuple := h3
  rw [h1, fm_inj h2, map_inj_on (fun _ _ _ _ e => PyData.tuple.inj e) h3]
/-! no truth values, no dicts: equal is one -/
mutual
def pl0 : PyData → Bool
  | .none => true
  | .int _ => true
  | .str _ => true
  | .list xs => pl0s xs
  | .tuple xs => pl0s xs
  | _ => false
def pl0s : List PyData → Bool
  | [] => true
  | d :: r => pl0 d && pl0s r
end
theorem pl0s_all : ∀ {ds : List PyData}, (∀ d ∈ ds, pl0 d = true) → pl0s ds = true
  | [], _ => by rw [pl0s]
  | d :: r, h => by rw [pl0s, h d (List.mem_cons_self ..), pl0s_all fun x hx => h x (List.mem_cons_of_mem _ hx)]; rfl
mutual
theorem eqv_eq : ∀ (d e : PyData), pl0 d = true → pl0 e = true → (PyData.eqv d e = true ↔ d = e)
  | .none, e, _, he => by cases e <;> simp_all [PyData.eqv, pl0]
  | .int i, e, _, he => by cases e <;> simp_all [PyData.eqv, pl0]
  | .str x, e, _, he => by cases e <;> simp_all [PyData.eqv, pl0]
  | .list xs, e, hd, he => by
    rw [pl0] at hd
    cases e with
    | list ys =>
      rw [pl0] at he
      rw [PyData.eqv, eqvs_eq xs ys hd he]
      exact ⟨fun h => by rw [h], fun h => PyData.list.inj h⟩
    | _ => simp_all [PyData.eqv, pl0]
  | .tuple xs, e, hd, he => by
    rw [pl0] at hd
    cases e with
    | tuple ys =>
      rw [pl0] at he
      rw [PyData.eqv, eqvs_eq xs ys hd he]
      exact ⟨fun h => by rw [h], fun h => PyData.tuple.inj h⟩
    | _ => simp_all [PyData.eqv, pl0]
  | .bool b, _, hd, _ => by unfold pl0 at hd; cases hd
  | .dict b, _, hd, _ => by unfold pl0 at hd; cases hd
theorem eqvs_eq : ∀ (ds es : List PyData), pl0s ds = true → pl0s es = true → (PyData.eqvAll ds es = true ↔ ds = es)
  | [], [], _, _ => by simp [PyData.eqvAll]
  | [], _ :: _, _, _ => by simp [PyData.eqvAll]
  | _ :: _, [], _, _ => by simp [PyData.eqvAll]
  | d :: ds, e :: es, hd, he => by
    rw [pl0s, Bool.and_eq_true] at hd he
    rw [PyData.eqvAll, Bool.and_eq_true, eqv_eq d e hd.1 he.1, eqvs_eq ds es hd.2 he.2]
    exact ⟨fun ⟨a, b⟩ => by rw [a, b], fun h => by injection h with a b; exact ⟨a, b⟩⟩
end
mutual
theorem pl0_plain : ∀ d : PyData, pl0 d = true → d.plain = true
  | .none, _ => rfl
  | .int _, _ => rfl
  | .str _, _ => rfl
  | .list xs, h => by rw [pl0] at h; rw [PyData.plain]; exact pl0s_plain xs h
  | .tuple xs, h => by rw [pl0] at h; rw [PyData.plain]; exact pl0s_plain xs h
  | .bool b, hd => by unfold pl0 at hd; cases hd
  | .dict b, hd => by unfold pl0 at hd; cases hd
theorem pl0s_plain : ∀ ds : List PyData, pl0s ds = true → PyData.plainAll ds = true
  | [], _ => rfl
  | d :: ds, h => by
    rw [pl0s, Bool.and_eq_true] at h
    rw [PyData.plainAll, pl0_plain d h.1, pl0s_plain ds h.2]
    rfl
end
theorem Sc.pl0 {d : PyData} (h : Sc d) : pl0 d = true := by
  rcases h with h | ⟨i, h, _⟩ | ⟨s, h, _⟩ <;> subst h <;> rw [Vt.pl0]
theorem Fm.Ok.pl0 {f : Fm} (h : f.Ok) : pl0 f.d = true := by
  unfold Fm.d
  rw [Vt.pl0]
  refine pl0s_all fun d hd => ?_
  have e : d = .tuple (f.cols.map Col.d) ∨ d = .tuple (f.keys.map PyData.str) := by simpa using hd
  rcases e with e | e <;> subst e <;> rw [Vt.pl0]
  · refine pl0s_all fun d hd => ?_
    obtain ⟨c, hc, rfl⟩ := List.mem_map.mp hd
    unfold Col.d
    rw [Vt.pl0]
    refine pl0s_all fun d hd => ?_
    have e : d = .str c.name ∨ d = .str c.kind ∨ d = c.df ∨ d = .int c.un ∨ d = .str c.link := by simpa using hd
    rcases e with e | e | e | e | e <;> subst e
    · rw [Vt.pl0]
    · rw [Vt.pl0]
    · exact (h.df c hc).pl0
    · rw [Vt.pl0]
    · rw [Vt.pl0]
  · refine pl0s_all fun d hd => ?_
    obtain ⟨k, _, rfl⟩ := List.mem_map.mp hd
    rw [Vt.pl0]
theorem Tab.Ok.pl0 {t : Tab} (h : t.Ok) : pl0 t.x = true := by
  unfold Tab.x
  rw [Vt.pl0]
  refine pl0s_all fun d hd => ?_
  have e : d = .str t.name ∨ d = t.fm.d ∨ d = .list (t.rows.map PyData.tuple) := by simpa using hd
  rcases e with e | e | e <;> subst e
  · rw [Vt.pl0]
  · exact h.fm.pl0
  · rw [Vt.pl0]
    refine pl0s_all fun d hd => ?_
    obtain ⟨r, hr, rfl⟩ := List.mem_map.mp hd
    rw [Vt.pl0]
    exact pl0s_all fun d hd => ((h.fit r hr).sc hd).pl0
def tabsX (ts : List Tab) : PyData := .list (ts.map Tab.x)
theorem tabs_pl0 {ts : List Tab} (h : ∀ t ∈ ts, t.Ok) : pl0 (tabsX ts) = true := by
  unfold tabsX
  rw [Vt.pl0]
  refine pl0s_all fun d hd => ?_
  obtain ⟨t, ht, rfl⟩ := List.mem_map.mp hd
  exact (h t ht).pl0
theorem tabs_eqv {ts us : List Tab} (h : ∀ t ∈ ts, t.Ok) (k : ∀ t ∈ us, t.Ok) : PyData.eqv (tabsX ts) (tabsX us) = true ↔ ts = us := by
  rw [eqv_eq _ _ (tabs_pl0 h) (tabs_pl0 k)]
  unfold tabsX
  exact ⟨fun e => map_inj_on (fun _ _ _ _ => tab_inj) (PyData.list.inj e), fun e => by rw [e]⟩
/-! nested how deep -/
theorem dpa_le {n : Nat} : ∀ {ds : List PyData}, (∀ d ∈ ds, d.depth ≤ n) → PyData.depthAll ds ≤ n
  | [], _ => by rw [PyData.depthAll]; exact Nat.zero_le _
  | d :: r, h => by
    rw [PyData.depthAll]
    exact Nat.max_le.mpr ⟨h d (List.mem_cons_self ..), dpa_le fun x hx => h x (List.mem_cons_of_mem _ hx)⟩
theorem dp_str (x : Str) (n : Nat) : (PyData.str x).depth ≤ n := by rw [PyData.depth]; exact Nat.zero_le _; all_goals (intros; simp_all)
theorem dp_int (x : Int) (n : Nat) : (PyData.int x).depth ≤ n := by rw [PyData.depth]; exact Nat.zero_le _; all_goals (intros; simp_all)
theorem dp_tup {n : Nat} {ds : List PyData} (h : ∀ d ∈ ds, d.depth ≤ n) : (PyData.tuple ds).depth ≤ n + 1 := by rw [PyData.depth]; exact Nat.succ_le_succ (dpa_le h)
theorem dp_lst {n : Nat} {ds : List PyData} (h : ∀ d ∈ ds, d.depth ≤ n) : (PyData.list ds).depth ≤ n + 1 := by rw [PyData.depth]; exact Nat.succ_le_succ (dpa_le h)
theorem Sc.dpt {d : PyData} (h : Sc d) (n : Nat) : d.depth ≤ n := by rw [depth_sc h]; exact Nat.zero_le _
theorem Fm.Ok.dpt {f : Fm} (h : f.Ok) : f.d.depth ≤ 3 := by
  refine dp_tup fun d hd => ?_
  have e : d = .tuple (f.cols.map Col.d) ∨ d = .tuple (f.keys.map PyData.str) := by simpa using hd
  rcases e with e | e <;> subst e
  · refine dp_tup fun d hd => ?_
    obtain ⟨c, hc, rfl⟩ := List.mem_map.mp hd
    refine dp_tup fun d hd => ?_
    have e : d = .str c.name ∨ d = .str c.kind ∨ d = c.df ∨ d = .int c.un ∨ d = .str c.link := by simpa using hd
    rcases e with e | e | e | e | e <;> subst e
    · exact dp_str _ _
    · exact dp_str _ _
    · exact (h.df c hc).dpt _
    · exact dp_int _ _
    · exact dp_str _ _
  · refine dp_tup fun d hd => ?_
    obtain ⟨k, _, rfl⟩ := List.mem_map.mp hd
    exact dp_str _ _
theorem tabs_dpt {ts : List Tab} (h : ∀ t ∈ ts, t.Ok) : (tabsX ts).depth ≤ 5 := by
  refine dp_lst fun d hd => ?_
  obtain ⟨t, ht, rfl⟩ := List.mem_map.mp hd
  refine dp_tup fun d hd => ?_
  have e : d = .str t.name ∨ d = t.fm.d ∨ d = .list (t.rows.map PyData.tuple) := by simpa using hd
  rcases e with e | e | e <;> subst e
  · exact dp_str _ _
  · exact (h t ht).fm.dpt
  · refine dp_lst fun d hd => ?_
    obtain ⟨r, hr, rfl⟩ := List.mem_map.mp hd
    exact dp_tup fun d hd => (((h t ht).fit r hr).sc hd).dpt _
/-- the tables as they stand -/
theorem tabs_dp {K : PySem.W.Frag} {H : Hp} {L : Addr} {tv : List V} {ts : List Tab} (hL : H L = some (.lst tv)) (h : TabsV H tv ts) : Dp K H (.ref L) (tabsX ts) := by
  refine .lst (SqL.of hL) ?_
  clear hL
  induction h with
  | nil => exact .nil
  | cons r t ih =>
    obtain ⟨l, p, f, rv, rfl, hp, hf, hl, hrv⟩ := r
    exact .cons (.tup (SqT.of hp) (.cons (.str _) (.cons hf.dp (.cons (.lst (SqL.of hl) (TpAll.toDp _ _ hrv)) .nil)))) ih
/-- a == b over plain data -/
def rEqP (K : PySem.W.Frag) : R2 := fun x y H Q => ∃ d e, Dp K H x d ∧ Dp K H y e ∧ d.plain = true ∧ e.plain = true ∧ d.depth ≤ 60 ∧ Q (.bl (PyData.eqv d e)) H
theorem op_eqP {X : Cx} {K : PySem.W.Frag} (hK : X.K = K) (hu : X.A.units + 64 < cLine) : OpR X (compareOp .Eq) (rEqP K) := by
  intro pins s σ H x y v u Q I rx ry h
  subst hK
  obtain ⟨d, e, hd, he, sd, se, hdp, q⟩ := h
  obtain ⟨as, r1⟩ := Dp.reads I d x v hd rx
  obtain ⟨bs, r2⟩ := Dp.reads I e y u he ry
  exact PySem.SeqAt.eq_plain r1 r2 sd se (by have := Nat.min_le_left d.depth e.depth; omega) ⟨.bl _, H, I, rfl, q⟩
theorem r_eqTabs {K : PySem.W.Frag} {H : Hp} {Q : VK} {L M : Addr} {tv uv : List V} {ts us : List Tab} (hL : H L = some (.lst tv)) (h : TabsV H tv ts) (hM : H M = some (.lst uv)) (k : TabsV H uv us) (h1 : ∀ t ∈ ts, t.Ok) (k1 : ∀ t ∈ us, t.Ok)
    (q : ∀ b : Bool, (b = true ↔ ts = us) → Q (.bl b) H) : rEqP K (.ref L) (.ref M) H Q :=
  ⟨tabsX ts, tabsX us, tabs_dp hL h, tabs_dp hM k, pl0_plain _ (tabs_pl0 h1), pl0_plain _ (tabs_pl0 k1), Nat.le_trans (tabs_dpt h1) (by decide), q _ (tabs_eqv h1 k1)⟩
end Vt
-- VtS
set_option Elab.async false
set_option linter.all false
set_option maxRecDepth 100000
set_option maxHeartbeats 4000000
namespace Vt
open PySem PySem.Spec PyProof.Rows L2 LamX NdefX
/-! ### states, told by their tables -/
def remN (ts : List Tab) (n : Str) : List Tab := ts.filter fun u => !decide (u.name = n)
theorem remN_mem {ts : List Tab} {n : Str} {t : Tab} : t ∈ remN ts n ↔ t ∈ ts ∧ t.name ≠ n := by
  unfold remN
  rw [List.mem_filter]
  simp
theorem remN_nm {ts : List Tab} {n : Str} (h : NmT ts) : NmT (remN ts n) := by
  unfold NmT SrtS remN at *
  rw [List.pairwise_map] at h ⊢
  exact h.filter _
theorem remN_len (ts : List Tab) (n : Str) : (remN ts n).length ≤ ts.length := List.length_filter_le _ _
theorem nmT_nd {ts : List Tab} (h : NmT ts) : (ts.map (·.name)).Nodup := by
  have := srtS_nd h
  unfold List.Nodup at this ⊢
  rw [List.pairwise_map] at this ⊢
  exact this.imp fun {a b} n e => n (congrArg PyData.str e)
theorem nmT_nd2 {ts : List Tab} (h : NmT ts) : ts.Nodup := by
  have := nmT_nd h
  unfold List.Nodup at this ⊢
  rw [List.pairwise_map] at this
  exact this.imp fun {a b} n e => n (by rw [e])
/-- of one name there is one -/
theorem nd_name {ts : List Tab} (h : (ts.map (·.name)).Nodup) {t u : Tab} (ht : t ∈ ts) (hu : u ∈ ts) (e : t.name = u.name) : t = u := by
  obtain ⟨i, hi⟩ := List.mem_iff_getElem?.mp ht
  obtain ⟨j, hj⟩ := List.mem_iff_getElem?.mp hu
  have h1 : (ts.map (·.name))[i]? = some t.name := by rw [List.getElem?_map, hi]; rfl
  have h2 : (ts.map (·.name))[j]? = some t.name := by rw [List.getElem?_map, hj, e]; rfl
  obtain ⟨a1, b1⟩ := List.getElem?_eq_some_iff.mp h1
  obtain ⟨a2, b2⟩ := List.getElem?_eq_some_iff.mp h2
  have := (List.getElem_inj h).mp (b1.trans b2.symm)
  subst this
  rw [hi] at hj
  exact Option.some.inj hj
theorem nmT_exists (ts : List Tab) (nd : (ts.map (·.name)).Nodup) : ∃ ss : List Tab, ss.Perm ts ∧ NmT ss :=
  ⟨ts.mergeSort (PySem.W.dataLe false fun t : Tab => .str t.name), List.mergeSort_perm _ _, nmT_of (((List.mergeSort_perm ts _).map (·.name)).nodup_iff.mpr nd) (sorted_pw _ _)⟩
/-- two rising lists of the same tables are one -/
theorem nmT_eq {ts ss : List Tab} (p : ss.Perm ts) (h1 : NmT ss) (h2 : NmT ts) : ss = ts := by
  unfold NmT SrtS at h1 h2
  rw [List.pairwise_map] at h1 h2
  have : ∀ {es fs : List Tab}, es.Perm fs → es.Pairwise (fun a b => dLt (.str a.name) (.str b.name) = true) → fs.Pairwise (fun a b => dLt (.str a.name) (.str b.name) = true) → es = fs := by
    intro es
    induction es with
    | nil => intro fs p _ _; exact (List.nil_perm.mp p).symm
    | cons b es ih =>
      intro fs p h1 h2
      cases fs with
      | nil => cases (List.perm_nil.mp p)
      | cons a r =>
        obtain ⟨h3, h4⟩ := List.pairwise_cons.mp h1
        obtain ⟨h5, h6⟩ := List.pairwise_cons.mp h2
        have e : b = a := by
          rcases List.mem_cons.mp (p.subset (List.mem_cons_self ..)) with e | hb
          · exact e
          · rcases List.mem_cons.mp (p.symm.subset (List.mem_cons_self ..)) with e | ha
            · exact e.symm
            · have t1 := h5 b hb
              have t2 := h3 a ha
              have := PyProof.Rows.lex_trans (O := PyProof.Rows.itemOrd) _ _ _ t1 t2
              rw [PyProof.Rows.lex_irrefl] at this
              cases this
        subst e
        rw [ih ((List.perm_cons b).mp p) h4 h6]
  exact this p h1 h2
theorem nmT_mem {ts ss : List Tab} (h1 : NmT ss) (h2 : NmT ts) (h : ∀ x, x ∈ ss ↔ x ∈ ts) : ss = ts :=
  nmT_eq ((List.perm_ext_iff_of_nodup (nmT_nd2 h1) (nmT_nd2 h2)).mpr h) h1 h2
theorem trof_rem {Pp : Pr} {n : Str} : ∀ {ts : List Tab} {rs : List Tr}, Paired (TrOf Pp) ts rs → Paired (TrOf Pp) (remN ts n) (remT rs n)
  | _, _, .nil => .nil
  | t :: ts, r :: rs, .cons a h => by
    have ih := trof_rem (n := n) h
    unfold remN remT at ih ⊢
    rw [List.filter_cons, List.filter_cons, a.1]
    by_cases z : t.name = n
    · rw [if_neg (by simp [z]), if_neg (by simp [z])]
      exact ih
    · rw [if_pos (by simp [z]), if_pos (by simp [z])]
      exact .cons a ih
theorem trof_nm {Pp : Pr} {ts : List Tab} {rs : List Tr} (h : Paired (TrOf Pp) ts rs) (k : NmT ts) : NmS rs := by
  show SrtS _
  rw [trs_names h]
  exact k
section
variable {P : Program} {w : World} {K : PySem.W.Frag} {mg : Str → Option Value} {base : Heap}
theorem Cal.imp {k : Nat} {x : Str} {ps : List Str} {sp sp' : Sp} (C : Cal P w K mg base k x ps sp) (h : ∀ vs H Q E, sp' vs H Q E → sp vs H Q E) : Cal P w K mg base k x ps sp' :=
  let ⟨f, fd, F, r⟩ := C.ex
  ⟨f, fd, F.imp h, r⟩
def spRemT (K : PySem.W.Frag) : Sp := fun vs H Q _ => ∃ (b n c t : Addr) (bk : List Str) (Pp : Pr) (N : Nat) (a : Int) (S : List Tab) (nm : Str), vs = [.ref c, .int a, .str nm] ∧ Sg K H b n c t bk Pp N ∧ N < 800000 ∧ StOf Pp a S ∧ NmT S ∧ S.length ≤ 120 ∧ (∀ t ∈ S, t.Ok) ∧
  ∀ (a' : Int) (H' : Hp) (bk' : List Str) (P' : Pr), Sg K H' b n c t bk' P' (N + 2) → Wr H H' n c t bk bk' Pp P' → StOf P' a' (remN S nm) → Q (.int a') H'
theorem cal_remT (T : Tx K mg) (L : Tl K mg base) : Cal P w K mg base 19 "remove_table" ["chunks", "state", "name"] (spRemT K) := by
  refine (cal_remove_table T L).imp fun vs H Q E h => ?_
  obtain ⟨b, n, c, t, bk, Pp, N, a, S, nm, rfl, sg, hN, ⟨rs, hr, hp⟩, hnm, hlen, hok, q⟩ := h
  exact ⟨b, n, c, t, bk, Pp, N, a, rs, nm, rfl, sg, hN, hp, trof_nm hr hnm, by rw [← pd_len hr]; exact hlen, trof_ok hr hok, fun a' H' bk' P' sg' wr' hP => q a' H' bk' P' sg' wr' ⟨remT rs nm, pd_mono (trof_rem hr) fun _ _ k => k.mono wr'.P, hP⟩⟩
def spSetT (K : PySem.W.Frag) : Sp := fun vs H Q _ => ∃ (b n c t : Addr) (bk : List Str) (Pp : Pr) (N : Nat) (a : Int) (S : List Tab) (tb : Tab) (fv : V) (r : Int), vs = [.ref c, .int a, .str tb.name, fv, .int r] ∧ Sg K H b n c t bk Pp N ∧ N < 800000 ∧ StOf Pp a S ∧ NmT S ∧ S.length ≤ 119 ∧ (∀ t ∈ S, t.Ok) ∧ tb.Ok ∧
  Root Pp (tb.rows.map (entT tb.fm)) r ∧ r.natAbs < 10 ^ 60 ∧ Tp H fv tb.fm.d ∧
  ∀ (a' : Int) (H' : Hp) (bk' : List Str) (P' : Pr) (S' : List Tab), Sg K H' b n c t bk' P' (N + 2) → Wr H H' n c t bk bk' Pp P' → StOf P' a' S' → NmT S' → S'.length ≤ S.length + 1 → (∀ x, x ∈ S' ↔ (x ∈ S ∧ x.name ≠ tb.name) ∨ x = tb) → Q (.int a') H'
theorem cal_setT (T : Tx K mg) (L : Tl K mg base) : Cal P w K mg base 19 "set_table" ["chunks", "state", "name", "form", "root"] (spSetT K) := by
  refine (cal_set_table T L).imp fun vs H Q E h => ?_
  obtain ⟨b, n, c, t, bk, Pp, N, a, S, tb, fv, r, rfl, sg, hN, ⟨rs, hr, hp⟩, hnm, hlen, hok, htb, hroot, hr60, hfv, q⟩ := h
  have nd : ((remN S tb.name ++ [tb]).map (·.name)).Nodup := by
    rw [List.map_append]
    refine nd_snoc (nmT_nd (remN_nm hnm)) fun z => ?_
    obtain ⟨x, hx, e⟩ := List.mem_map.mp z
    exact (remN_mem.mp hx).2 e
  obtain ⟨S', hpm, hnm'⟩ := nmT_exists _ nd
  have hpd : Paired (TrOf Pp) (remN S tb.name ++ [tb]) (remT rs tb.name ++ [⟨tb.name, tb.fm, r⟩]) := pd_snoc (trof_rem hr) ⟨rfl, rfl, hroot, hr60⟩
  obtain ⟨ss, hpm2, hpd2⟩ := pd_perm hpm hpd
  refine ⟨b, n, c, t, bk, Pp, N, a, rs, ss, ⟨tb.name, tb.fm, r⟩, fv, rfl, sg, hN, hp, by rw [← pd_len hr]; exact hlen, trof_ok hr hok, (show TrOf Pp tb ⟨tb.name, tb.fm, r⟩ from ⟨rfl, rfl, hroot, hr60⟩).ok htb, hfv, hpm2, trof_nm hpd2 hnm', fun a' H' bk' P' sg' wr' hP => ?_⟩
  refine q a' H' bk' P' S' sg' wr' ⟨ss, pd_mono hpd2 fun _ _ k => k.mono wr'.P, hP⟩ hnm' ?_ fun x => ?_
  · rw [hpm.length_eq, List.length_append]
    have := remN_len S tb.name
    show _ + 1 ≤ _
    omega
  · rw [hpm.mem_iff, List.mem_append, remN_mem, List.mem_singleton]
end
/-! ### the script goes on -/
theorem Scr.wr {K : PySem.W.Frag} {H H' : Hp} {a b n c t : Addr} {bk bk' : List Str} {P P' : Pr} {N : Nat} (h : Scr K H a) (g : Sg K H b n c t bk P N) (e : Wr H H' n c t bk bk' P P') : Scr K H' a := by
  obtain ⟨ns, x, y⟩ := h
  refine ⟨ns, ?_, y⟩
  rcases x with (h | ⟨o, h⟩) | h
  · exact .inl (.inl (g.keep e.ex h trivial))
  · exact .inl (.inr ⟨o, g.keep e.ex h trivial⟩)
  · exact .inr h
/-- a state under way: some state, with what is known of its tables -/
structure StI (K : PySem.W.Frag) (H H' : Hp) (b n c t : Addr) (bk : List Str) (P : Pr) (N m : Nat) (a : Int) (F : Tab → Prop) : Prop where
  ex : ∃ (bk' : List Str) (P' : Pr) (S : List Tab), Sg K H' b n c t bk' P' N ∧ Wr H H' n c t bk bk' P P' ∧ StOf P' a S ∧ NmT S ∧ (∀ t ∈ S, t.Ok) ∧ S.length ≤ m ∧ ∀ x, x ∈ S ↔ F x
theorem StI.up {K : PySem.W.Frag} {H H' : Hp} {b n c t : Addr} {bk : List Str} {P : Pr} {N N' m m' : Nat} {a : Int} {F : Tab → Prop} (h : StI K H H' b n c t bk P N m a F) (h1 : N ≤ N') (h2 : m ≤ m') : StI K H H' b n c t bk P N' m' a F := by
  obtain ⟨bk', P', S, sg, wr, st, nm, ok, hl, hm⟩ := h.ex
  exact ⟨bk', P', S, sg.up h1, wr, st, nm, ok, Nat.le_trans hl h2, hm⟩
theorem StI.mem {K : PySem.W.Frag} {H H' : Hp} {b n c t : Addr} {bk : List Str} {P : Pr} {N m : Nat} {a : Int} {F G : Tab → Prop} (h : StI K H H' b n c t bk P N m a F) (e : ∀ x, F x ↔ G x) : StI K H H' b n c t bk P N m a G := by
  obtain ⟨bk', P', S, sg, wr, st, nm, ok, hl, hm⟩ := h.ex
  exact ⟨bk', P', S, sg, wr, st, nm, ok, hl, fun x => (hm x).trans (e x)⟩
theorem StI.tex {K : PySem.W.Frag} {H H' : Hp} {b n c t : Addr} {bk : List Str} {P : Pr} {N N0 m : Nat} {a : Int} {F : Tab → Prop} (h : StI K H H' b n c t bk P N m a F) (g : Sg K H b n c t bk P N0) : TEx H H' := by
  obtain ⟨bk', P', S, sg, wr, st, nm, ok, hl, hm⟩ := h.ex
  exact g.tex wr
theorem StI.lst {K : PySem.W.Frag} {H H' : Hp} {b n c t : Addr} {bk : List Str} {P : Pr} {N N0 m : Nat} {a : Int} {F : Tab → Prop} (h : StI K H H' b n c t bk P N m a F) (g : Sg K H b n c t bk P N0) {l : Addr} {xs : List V} (e : H l = some (.lst xs)) : H' l = some (.lst xs) := by
  obtain ⟨bk', P', S, sg, wr, st, nm, ok, hl, hm⟩ := h.ex
  exact g.lst wr e
theorem StI.wr {K : PySem.W.Frag} {H H' : Hp} {b n c t : Addr} {bk : List Str} {P : Pr} {N m : Nat} {a : Int} {F : Tab → Prop} (h : StI K H H' b n c t bk P N m a F) : ∃ bk' P', Wr H H' n c t bk bk' P P' := by
  obtain ⟨bk', P', S, sg, wr, st, nm, ok, hl, hm⟩ := h.ex
  exact ⟨bk', P', wr⟩
theorem StI.tb {K : PySem.W.Frag} {H H' : Hp} {b n c t : Addr} {bk : List Str} {P : Pr} {N m : Nat} {a : Int} {F : Tab → Prop} (h : StI K H H' b n c t bk P N m a F) : Tb K H' := by
  obtain ⟨bk', P', S, sg, wr, st, nm, ok, hl, hm⟩ := h.ex
  exact sg.tb
theorem StI.same {K : PySem.W.Frag} {H H1 H' : Hp} {b n c t : Addr} {bk : List Str} {P : Pr} {N m : Nat} {a : Int} {F : Tab → Prop} (h : StI K H H1 b n c t bk P N m a F) (e : Same H1 H') : StI K H H' b n c t bk P N m a F := by
  obtain ⟨bk', P', S, sg, wr, r⟩ := h.ex
  exact ⟨bk', P', S, sg.same e, wr.trans (Wr.of e), r⟩
theorem StI.gr {K : PySem.W.Frag} {H H1 H' : Hp} {b n c t : Addr} {bk : List Str} {P : Pr} {N m : Nat} {a : Int} {F : Tab → Prop} (h : StI K H H1 b n c t bk P N m a F) (e : Gr K H1 H') : StI K H H' b n c t bk P N m a F := by
  obtain ⟨bk', P', S, sg, wr, r⟩ := h.ex
  exact ⟨bk', P', S, sg.gr e, wr.trans (Wr.gr e), r⟩
theorem StI.base {K : PySem.W.Frag} {H0 H H' : Hp} {b n c t : Addr} {bk0 bk : List Str} {P0 P : Pr} {N m : Nat} {a : Int} {F : Tab → Prop} (h : StI K H H' b n c t bk P N m a F) (w : Wr H0 H n c t bk0 bk P0 P) : StI K H0 H' b n c t bk0 P0 N m a F := by
  obtain ⟨bk', P', S, sg, wr, r⟩ := h.ex
  exact ⟨bk', P', S, sg, w.trans wr, r⟩
/-- a state under way, and a root of rows for the table tb -/
structure StR (K : PySem.W.Frag) (H H' : Hp) (b n c t : Addr) (bk : List Str) (P : Pr) (N m : Nat) (a : Int) (F : Tab → Prop) (tb : Tab) (fv : V) (r : Int) : Prop where
  ex : ∃ (bk' : List Str) (P' : Pr) (S : List Tab), Sg K H' b n c t bk' P' N ∧ Wr H H' n c t bk bk' P P' ∧ StOf P' a S ∧ NmT S ∧ (∀ t ∈ S, t.Ok) ∧ S.length ≤ m ∧ (∀ x, x ∈ S ↔ F x) ∧ Root P' (tb.rows.map (entT tb.fm)) r ∧ r.natAbs < 10 ^ 60 ∧ Tp H' fv tb.fm.d
  ok : tb.Ok
/-- write_rows -/
theorem st_rows {K : PySem.W.Frag} {H H' : Hp} {b n c t l : Addr} {bk : List Str} {P : Pr} {N m : Nat} {a : Int} {F : Tab → Prop} (J : StI K H H' b n c t bk P N m a F) (tb : Tab) {fv : V} {rv : List V} {rs : List (List PyData)} {Q : VK} (hN : N < 600000) (ok : tb.Ok)
    (hfv : Tp H' fv tb.fm.d) (hl : H' l = some (.lst rv)) (hrv : TpAll H' rv (rs.map PyData.tuple)) (hpm : tb.rows.Perm rs)
    (q : ∀ (r : Int) (H1 : Hp), StR K H H1 b n c t bk P (N + 1000) m a F tb fv r → Q (.int r) H1) : spWriteRows K [.ref c, fv, .ref l] H' Q E0 := by
  obtain ⟨bk', P', S, sg, wr, st, nm, sok, hlen, hmem⟩ := J.ex
  refine ⟨b, n, c, t, bk', P', N, l, fv, rv, tb.fm, rs, tb.rows, rfl, sg, by omega, hfv, ok.fm, hl, hrv, fun r hr => ok.fit r (hpm.symm.subset hr), by rw [← hpm.length_eq]; exact ok.len, hpm, ok.srt, fun r H1 bk1 P1 sg1 wr1 hroot hr60 => ?_⟩
  exact q r H1 ⟨⟨bk1, P1, S, sg1, wr.trans wr1, st.mono wr1.P, nm, sok, hlen, hmem, hroot, hr60, hfv.mono (sg.tex wr1)⟩, ok⟩
/-- set_table -/
theorem st_set {K : PySem.W.Frag} {H H1 : Hp} {b n c t : Addr} {bk : List Str} {P : Pr} {N m : Nat} {a r : Int} {F : Tab → Prop} {tb : Tab} {fv : V} {Q : VK} {nm : Str} (J : StR K H H1 b n c t bk P N m a F tb fv r) (hn : nm = tb.name) (hN : N < 700000) (hm : m ≤ 119)
    (q : ∀ (a' : Int) (H2 : Hp) (F' : Tab → Prop), StI K H H2 b n c t bk P (N + 2) (m + 1) a' F' → (∀ x, F' x ↔ (F x ∧ x.name ≠ nm) ∨ x = tb) → Q (.int a') H2) : spSetT K [.ref c, .int a, .str nm, fv, .int r] H1 Q E0 := by
  subst hn
  obtain ⟨bk1, P1, S, sg1, wr1, st, nm, sok, hlen, hmem, hroot, hr60, hfv⟩ := J.ex
  refine ⟨b, n, c, t, bk1, P1, N, a, S, tb, fv, r, rfl, sg1, by omega, st, nm, by omega, sok, J.ok, hroot, hr60, hfv, fun a2 H2 bk2 P2 S2 sg2 wr2 st2 nm2 hl2 hm2 => ?_⟩
  refine q a2 H2 (fun x => x ∈ S2) ⟨bk2, P2, S2, sg2, wr1.trans wr2, st2, nm2, fun x hx => ?_, by omega, fun x => Iff.rfl⟩ fun x => ?_
  · rcases (hm2 x).mp hx with ⟨h, _⟩ | h
    · exact sok x h
    · rw [h]; exact J.ok
  · rw [hm2 x, hmem x]
/-- remove_table -/
theorem st_rem {K : PySem.W.Frag} {H H' : Hp} {b n c t : Addr} {bk : List Str} {P : Pr} {N m : Nat} {a : Int} {F : Tab → Prop} (J : StI K H H' b n c t bk P N m a F) {nm : Str} {Q : VK} (hN : N < 700000) (hm : m ≤ 120)
    (q : ∀ (a' : Int) (H2 : Hp), StI K H H2 b n c t bk P (N + 2) m a' (fun x => F x ∧ x.name ≠ nm) → Q (.int a') H2) : spRemT K [.ref c, .int a, .str nm] H' Q E0 := by
  obtain ⟨bk', P', S, sg, wr, st, hnm, sok, hlen, hmem⟩ := J.ex
  refine ⟨b, n, c, t, bk', P', N, a, S, nm, rfl, sg, by omega, st, hnm, by omega, sok, fun a2 H2 bk2 P2 sg2 wr2 st2 => ?_⟩
  exact q a2 H2 ⟨bk2, P2, remN S nm, sg2, wr.trans wr2, st2, remN_nm hnm, fun x hx => sok x (remN_mem.mp hx).1, Nat.le_trans (remN_len S nm) hlen, fun x => by rw [remN_mem, hmem x]⟩
end Vt
-- VtE4
set_option Elab.async false
set_option linter.all false
set_option maxRecDepth 100000
set_option maxHeartbeats 4000000
namespace Vt
open PySem PySem.Spec PyProof.Rows L2 LamX NdefX
local macro_rules | `(tactic| walk_at "rd") => `(tactic| (repeat (first
  | with_reducible refine r_sasg ?_ | with_reducible refine r_sfset ?_ | with_reducible refine r_sfaug ?_ | with_reducible refine r_sdput ?_ | with_reducible refine r_sdrop ?_ | with_reducible refine r_swhen ?_ | with_reducible refine r_sif ?_ | with_reducible refine r_asg ?_ | with_reducible refine r_drop ?_
  | with_reducible refine r_ret ?_ | with_reducible refine r_if ?_ | with_reducible refine r_next ?_
  | with_reducible refine r_c ?_ | with_reducible refine r_var (by with_unfolding_all exact rfl) ?_ | with_reducible refine r_op ?_ | with_reducible refine r_un ?_ | with_reducible refine r_I0 ?_ | ((with_reducible refine r_I ?_ ?_); · first | (show (0 : Int) < _; decide) | exact div_ok (by decide) (by decide)) | with_reducible refine r_U ?_
  | with_reducible refine r_eq (by with_unfolding_all exact rfl) ?_ | with_reducible refine r_ne (by with_unfolding_all exact rfl) ?_
  | with_reducible refine r_tstq ?_ | with_reducible refine r_tBq ?_ | with_reducible refine r_blq ?_ | with_reducible refine r_intq ?_ | with_reducible refine r_and ?_ | with_reducible refine r_or ?_ | with_reducible refine r_not ?_
  | with_reducible refine r_andV ?_ | with_reducible refine r_orV ?_ | with_reducible refine r_notV ?_
  | with_reducible refine r_nil ?_ | with_reducible refine r_cons ?_ | with_reducible refine r_call ?_ | with_reducible refine r_tup ?_ | with_reducible refine r_lst ?_ | with_reducible refine r_cb ?_ | with_reducible refine r_int1 ?_ | with_reducible refine r_ord ?_
  | with_reducible refine r_sl ?_ | with_reducible refine r_nop ?_ | with_reducible refine r_partq ?_ | with_reducible refine r_bm ?_ | with_reducible refine r_fld ?_
  | with_reducible refine r_lct ?_ | with_reducible refine r_lcl ?_ | with_reducible refine r_lcr ?_ | with_reducible refine r_sfort ?_ | with_reducible refine r_sforl ?_ | with_reducible refine r_sfors ?_ | with_reducible refine r_sforr ?_ | with_reducible refine r_sforz ?_
  | with_reducible refine r_fort ?_ | with_reducible refine r_forl ?_ | with_reducible refine r_forr ?_ | with_reducible refine r_sasgt ?_ | with_reducible refine r_asgt ?_ | with_reducible refine r_saug (by with_unfolding_all exact rfl) ?_ | with_reducible refine r_aug (by with_unfolding_all exact rfl) ?_ | with_reducible refine r_ip ?_ | with_reducible refine r_gname ?_ | with_reducible refine r_seq ?_
  | with_reducible refine r_dget ?_ | with_reducible refine r_din ?_ | with_reducible refine r_dnotin ?_ | with_reducible refine r_sdput ?_ | with_reducible refine r_dput ?_ | with_reducible refine r_mg ?_ | with_reducible refine r_rev ?_ | with_reducible refine r_dzip ?_
  | with_reducible refine r_lcz ?_ | with_reducible refine r_form ?_
  | with_reducible refine r_sfset ?_ | with_reducible refine r_fset ?_ | with_reducible refine r_sfaug ?_ | with_reducible refine r_meth ?_ | with_reducible refine r_make ?_
  | with_reducible refine r_srtl ?_ | with_reducible refine r_m1q ?_ | with_reducible refine r_strq ?_
  | with_reducible refine r_iteT ?_ | with_reducible refine r_iteF ?_)))
local macro_rules | `(tactic| walk_at "rs") => `(tactic| (repeat (first
  | with_reducible refine r_sasg ?_ | with_reducible refine r_sfset ?_ | with_reducible refine r_sfaug ?_ | with_reducible refine r_sdput ?_ | with_reducible refine r_sdrop ?_ | with_reducible refine r_asg ?_ | with_reducible refine r_drop ?_
  | with_reducible refine r_ret ?_ | with_reducible refine r_next ?_
  | with_reducible refine r_c ?_ | with_reducible refine r_var (by with_unfolding_all exact rfl) ?_ | with_reducible refine r_op ?_ | with_reducible refine r_un ?_ | with_reducible refine r_I0 ?_ | ((with_reducible refine r_I ?_ ?_); · first | (show (0 : Int) < _; decide) | exact div_ok (by decide) (by decide)) | with_reducible refine r_U ?_
  | with_reducible refine r_eq (by with_unfolding_all exact rfl) ?_ | with_reducible refine r_ne (by with_unfolding_all exact rfl) ?_
  | with_reducible refine r_tstq ?_ | with_reducible refine r_tBq ?_ | with_reducible refine r_blq ?_ | with_reducible refine r_intq ?_ | with_reducible refine r_and ?_ | with_reducible refine r_or ?_ | with_reducible refine r_not ?_
  | with_reducible refine r_andV ?_ | with_reducible refine r_orV ?_ | with_reducible refine r_notV ?_
  | with_reducible refine r_nil ?_ | with_reducible refine r_cons ?_ | with_reducible refine r_call ?_ | with_reducible refine r_tup ?_ | with_reducible refine r_lst ?_ | with_reducible refine r_cb ?_ | with_reducible refine r_int1 ?_ | with_reducible refine r_ord ?_
  | with_reducible refine r_sl ?_ | with_reducible refine r_nop ?_ | with_reducible refine r_partq ?_ | with_reducible refine r_bm ?_ | with_reducible refine r_fld ?_
  | with_reducible refine r_lct ?_ | with_reducible refine r_lcl ?_ | with_reducible refine r_lcr ?_ | with_reducible refine r_sfort ?_ | with_reducible refine r_sforl ?_ | with_reducible refine r_sfors ?_ | with_reducible refine r_sforr ?_ | with_reducible refine r_sforz ?_
  | with_reducible refine r_fort ?_ | with_reducible refine r_forl ?_ | with_reducible refine r_forr ?_ | with_reducible refine r_sasgt ?_ | with_reducible refine r_asgt ?_ | with_reducible refine r_saug (by with_unfolding_all exact rfl) ?_ | with_reducible refine r_aug (by with_unfolding_all exact rfl) ?_ | with_reducible refine r_ip ?_ | with_reducible refine r_gname ?_ | with_reducible refine r_seq ?_
  | with_reducible refine r_dget ?_ | with_reducible refine r_din ?_ | with_reducible refine r_dnotin ?_ | with_reducible refine r_sdput ?_ | with_reducible refine r_dput ?_ | with_reducible refine r_mg ?_ | with_reducible refine r_rev ?_ | with_reducible refine r_dzip ?_
  | with_reducible refine r_lcz ?_ | with_reducible refine r_form ?_
  | with_reducible refine r_sfset ?_ | with_reducible refine r_fset ?_ | with_reducible refine r_sfaug ?_ | with_reducible refine r_meth ?_ | with_reducible refine r_make ?_
  | with_reducible refine r_srtl ?_ | with_reducible refine r_m1q ?_ | with_reducible refine r_strq ?_
  | with_reducible refine r_iteT ?_ | with_reducible refine r_iteF ?_)))
local macro_rules | `(tactic| walk_at "tex") => `(tactic| (first
  | assumption | exact TEx.refl _ | exact TEx.of (by assumption) | ((refine TEx.trans ?_ (TEx.of (by assumption))); walk_at "tex") | ((refine TEx.trans ?_ (by assumption)); walk_at "tex")))
local macro_rules | `(tactic| walk_at "same") => `(tactic| (first
  | assumption | exact Same.refl _ | ((refine Same.trans ?_ (by assumption)); walk_at "same")))
local macro_rules | `(tactic| walk_at "tp") => `(tactic| (first
  | assumption | exact Tp.int _ | exact Tp.str _ | exact Tp.non | exact TpAll.nil | ((refine TpAll.cons ?_ ?_) <;> walk_at "tp") | ((refine Tp.mono ?_ (by assumption)); walk_at "tex") | ((refine TpAll.mono ?_ (by assumption)); walk_at "tex")))
local macro_rules | `(tactic| walk_at "hp") => `(tactic| (first
  | assumption | ((refine (TEx.trans ?_ (TEx.refl _)) _ _ (by assumption)); walk_at "tex")))
/-- the last twelve signs -/
theorem spare_len (x : Str) (h : 1 ≤ x.length) : NmOk (cutS (x ++ "x") (some (-12)) none) := by
  have hl : (x ++ "x" : Str).length = x.length + 1 := app_len x "x"
  have e : (cutS (x ++ "x") (some (-12)) none).length = min ((x.length + 1) - (-12 + ((x.length + 1 : Nat) : Int)).toNat) ((x.length + 1) - (-12 + ((x.length + 1 : Nat) : Int)).toNat) := by
    rw [TL.len_tl]
    unfold cutS
    show (((TL.tl (x ++ "x")).drop _).take _).length = _
    rw [List.length_take, List.length_drop, ← TL.len_tl, hl]
    rfl
  rw [Nat.min_self] at e
  exact ⟨by rw [e]; omega, by rw [e]; omega⟩
theorem tabs_sub {H : Hp} {vs : List V} {ts : List Tab} {i : Nat} {x : V} (h : TabsV H vs ts) (hx : vs[i]? = some x) : ∃ t l, ts[i]? = some t ∧ TabA H x t l := by
  obtain ⟨t, h1, l, h2⟩ := pd_get' h hx
  exact ⟨t, l, h1, h2⟩
theorem pd_erase {α β : Type} {F : α → β → Prop} : ∀ {l : List α} {m : List β} (i : Nat), Paired F l m → Paired F (l.eraseIdx i) (m.eraseIdx i)
  | _, _, i, .nil => by cases i <;> exact .nil
  | _, _, 0, .cons r t => t
  | _, _, i + 1, .cons r t => .cons r (pd_erase i t)
theorem erase_mem {α : Type} {l : List α} {i : Nat} {a : α} (nd : l.Nodup) (h : l[i]? = some a) (x : α) : x ∈ l.eraseIdx i ↔ x ∈ l ∧ x ≠ a := by
  induction l generalizing i with
  | nil => simp at h
  | cons b r ih =>
    obtain ⟨n1, n2⟩ := List.nodup_cons.mp nd
    cases i with
    | zero =>
      have e : b = a := by simpa using h
      subst e
      show x ∈ r ↔ _
      rw [List.mem_cons]
      constructor
      · intro z
        exact ⟨.inr z, fun e => n1 (by rw [← e]; exact z)⟩
      · rintro ⟨z | z, k⟩
        · exact (k z).elim
        · exact z
    | succ i =>
      have h : r[i]? = some a := by simpa using h
      have ha : a ∈ r := List.mem_iff_getElem?.mpr ⟨i, h⟩
      show x ∈ b :: r.eraseIdx i ↔ _
      rw [List.mem_cons, List.mem_cons, ih n2 h]
      constructor
      · rintro (z | ⟨z, k⟩)
        · subst z
          exact ⟨.inl rfl, fun e => n1 (by rw [e]; exact ha)⟩
        · exact ⟨.inr z, k⟩
      · rintro ⟨z | z, k⟩
        · exact .inl z
        · exact .inr ⟨z, k⟩
/-- the names of the tables at a -/
theorem names_pd {ts : List Tab} {n : Nat} {ys : List V} (h : Paired (fun k y => ∃ t, ts[k]? = some t ∧ y = V.str t.name) (List.range n) ys) (hn : n = ts.length) : ys = (ts.map (·.name)).map V.str := by
  apply List.ext_getElem?
  intro i
  rw [List.map_map, List.getElem?_map]
  cases hy : ys[i]? with
  | none =>
    have := pd_len h
    rw [List.length_range] at this
    rw [List.getElem?_eq_none_iff] at hy
    rw [List.getElem?_eq_none_iff.mpr (by omega)]
    rfl
  | some y =>
    obtain ⟨k, hk, t, ht, e⟩ := pd_get h hy
    have : k = i := by
      obtain ⟨z1, z2⟩ := List.getElem?_eq_some_iff.mp hk
      rw [List.getElem_range] at z2
      exact z2.symm
    subst this
    rw [ht, e]
    rfl
/-- the table of the name nm is set anew -/
theorem step_set {F F' G : Tab → Prop} {nm : Str} {u : Tab} (h : ∀ x, F' x ↔ (F x ∧ x.name ≠ nm) ∨ x = u) (k : ∀ x, (F x ∧ x.name ≠ nm) ↔ G x) (e : u.name = nm) : ∀ x, (F' x ∧ x.name ≠ nm) ↔ G x := fun x => by
  rw [h x, ← k x]
  constructor
  · rintro ⟨z | z, y⟩
    · exact z
    · exact (y (by rw [z]; exact e)).elim
  · exact fun z => ⟨.inl z, z.2⟩
theorem r_joinU {σ : L2.St} {H : Hp} {n : L2.St → Hp → Prop} {r : VK} {b c : L2.St → Hp → Prop} {k : TT} {t : TS} (I : L2.St → Hp → Prop) (h1 : ∀ Z : L2.St → Hp → Prop, (∀ σ' H', I σ' H' → Z σ' H') → k σ H fun e H1 => if e = true then t ⟨Z, r, b, c⟩ σ H1 else Z σ H1) (h2 : ∀ σ' H', I σ' H' → n σ' H') : tIfS k t tNext ⟨n, r, b, c⟩ σ H := h1 _ h2
theorem Tab.Ok.sub {t : Tab} (g : t.Ok) {nm : Str} (h : NmOk nm) {rs : List (List PyData)} (s : rs.Sublist t.rows) : Tab.Ok ⟨nm, t.fm, rs⟩ :=
  ⟨h.1, h.2, g.fm, fun r hr => g.fit r (s.subset hr), Nat.le_trans s.length_le g.len, g.srt.sublist (s.map _)⟩
theorem r_pop {l : Addr} {xs : List V} {k : Nat} {y : V} {H : Hp} {Q : VK} (h : H l = some (.lst xs)) (hk : xs[k]? = some y) (hl : xs.length ≤ 100000) (q : ∀ H2, H2 = upd H l (.lst (xs.eraseIdx k)) → Q y H2) : rPopAt (.ref l) [.int (k : Int)] H Q := by
  have hlt := (List.getElem?_eq_some_iff.mp hk).1
  refine ⟨l, xs, k, k, y, rfl, rfl, h, by omega, by omega, ?_, hk, q _ rfl⟩
  have e : (if (k : Int) < 0 then (k : Int) + (xs.length : Int) else (k : Int)) = (k : Int) := if_neg (by omega)
  show (if (decide (0 ≤ (if (k : Int) < 0 then (k : Int) + (xs.length : Int) else (k : Int))) && decide ((if (k : Int) < 0 then (k : Int) + (xs.length : Int) else (k : Int)) < (xs.length : Int))) = true then some (if (k : Int) < 0 then (k : Int) + (xs.length : Int) else (k : Int)).toNat else none) = some k
  rw [e, if_pos (by rw [Bool.and_eq_true]; exact ⟨decide_eq_true (by omega), decide_eq_true (by omega)⟩), Int.toNat_natCast]
section
variable {P : Program} {w : World} {K : PySem.W.Frag} {mg : Str → Option Value} {base : Heap}
/-! ### _law_step_by_step -/
abbrev n_law_step_by_step : List Str := ["_law_script", "_law_chunks", "_law_tables_here", "_law_state", "_law_waiting", "_law_k", "_law_numbers", "_law_name_here", "_law_form_here", "_law_rows", "_law_other", "_law_spare", "_law_table_here"]
theorem sc_law_step_by_step : FnScope n_law_step_by_step ["_law_script", "_law_chunks", "_law_tables_here"] (defScope s_law_step_by_step) := ⟨rfl, rfl, rfl, by decide +kernel, rfl, by decide +kernel, by decide +kernel⟩
theorem bd_law_step_by_step : BindH "_law_step_by_step" s_law_step_by_step ["_law_script", "_law_chunks", "_law_tables_here"] := fun _ _ _ _ _ _ us hl => match us, hl with | [_, _, _], _ => rfl
def spStep (K : PySem.W.Frag) : Sp := fun vs H Q _ => ∃ (sa b n c t : Addr) (bk : List Str) (Pp : Pr) (N : Nat) (L : Addr) (tv : List V) (ts : List Tab), vs = [.ref sa, .ref c, .ref L] ∧ Scr K H sa ∧ Sg K H b n c t bk Pp N ∧ N < 500000 ∧ H L = some (.lst tv) ∧ TabsV H tv ts ∧ (∀ t ∈ ts, t.Ok) ∧ ts.length ≤ 10 ∧ NmT ts ∧
  ∀ (a : Int) (H' : Hp) (bk' : List Str) (P' : Pr), Sg K H' b n c t bk' P' (N + 110002) → Wr H H' n c t bk bk' Pp P' → StOf P' a ts → Q (.int a) H'
theorem cal_law_step_by_step (T : Tx K mg) (L : Tl K mg base) : Cal P w K mg base 20 "_law_step_by_step" ["_law_script", "_law_chunks", "_law_tables_here"] (spStep K) := by
  have c_write_state := cal_write_state (P := P) (w := w) (base := base) T L
  have c_write_rows := cal_write_rows (P := P) (w := w) (base := base) T
  have c_set_table := cal_setT (P := P) (w := w) (base := base) T L
  have c_remove_table := cal_remT (P := P) (w := w) (base := base) T L
  have c_law_draws := cal_law_draws (P := P) (w := w) (base := base) T
  have c_law_thing := cal_law_thing (P := P) (w := w) (base := base) T
  have c_law_table := cal_law_table (P := P) (w := w) (base := base) T L
  refine cal_of T.at_law_step_by_step sc_law_step_by_step bd_law_step_by_step (fun vs H Q E h => ?_) fun f cdv A outer s H0 E hr => ⟨_, (pss_cons (ps_set (i := 3) sc_law_step_by_step.nd rfl (Or.inl rfl) (pe_cal c_write_state (hr.mono (by omega)) (by rfl) (pa_cons (pv 1) (pa_cons (pe_lst pa_nil) pa_nil))))
      (pss_cons (ps_set (i := 4) sc_law_step_by_step.nd rfl (Or.inl rfl) (pe_callTy (cr_lstOfK (K := K) rfl) (by rfl) T.m_list (by decide +kernel) (pa_cons (pv 2) pa_nil)))
      (pss_cons (ps_for PassesOwn.never rfl (pi_range1 (by rfl) T.m_range (pa_cons (pe_callB (cr_lnK (K := K) rfl) (by rfl) T.m_len PySem.boot_len (pa_cons (pv 2) pa_nil)) pa_nil)) (pg_name (i := 5) sc_law_step_by_step.nd rfl (Or.inl rfl))
      (pss_cons (ps_set (i := 6) sc_law_step_by_step.nd rfl (Or.inl rfl) (pe_cal c_law_draws (hr.mono (by omega)) (by rfl) (pa_cons (pe_cal c_law_thing (hr.mono (by omega)) (by rfl) (pa_cons (pv 0) (pa_cons (pe_op op_add pe_int (pv 5)) pa_nil))) (pa_cons pe_int (pa_cons pe_int (pa_cons pe_int pa_nil))))))
        (pss_cons (ps_asg (pe_bm PySem.F.plainAttrs_list PySem.F.slot_list_pop PySem.F.type_list_pop mt_popAt (pv 4) (pa_cons (pe_op op_mod (pe_callTy cr_int1 (by rfl) T.m_int (by decide +kernel) (pa_cons (pe_ix (ix_listK (K := K) rfl) (pv 6) pe_int (fun _ _ => rfl)) pa_nil)) (pe_callB (cr_lnK (K := K) rfl) (by rfl) T.m_len PySem.boot_len (pa_cons (pv 4) pa_nil))) pa_nil)) (pg_tupK (K := K) (n := 3) rfl rfl (pgs_cons (pg_name (i := 7) sc_law_step_by_step.nd rfl (Or.inl rfl)) (pgs_cons (pg_name (i := 8) sc_law_step_by_step.nd rfl (Or.inl rfl)) (pgs_cons (pg_name (i := 9) sc_law_step_by_step.nd rfl (Or.inl rfl)) pgs_nil)))))
        (pss_cons (ps_if (pt_cmpR op_eq (pe_op op_mod (pe_callTy cr_int1 (by rfl) T.m_int (by decide +kernel) (pa_cons (pe_ix (ix_listK (K := K) rfl) (pv 6) pe_int (fun _ _ => rfl)) pa_nil)) pe_int) pe_int (nomark _))
        (pss_one (ps_set (i := 3) sc_law_step_by_step.nd rfl (Or.inl rfl) (pe_cal c_set_table (hr.mono (by omega)) (by rfl) (pa_cons (pv 1) (pa_cons (pv 3) (pa_cons (pv 7) (pa_cons (pv 8) (pa_cons (pe_cal c_write_rows (hr.mono (by omega)) (by rfl) (pa_cons (pv 1) (pa_cons (pv 8) (pa_cons (pe_slice (sl_listK (K := K) rfl) (pv 9) (po_some (pe_op op_mod (pe_callTy cr_int1 (by rfl) T.m_int (by decide +kernel) (pa_cons (pe_ix (ix_listK (K := K) rfl) (pv 6) pe_int (fun _ _ => rfl)) pa_nil)) pe_int)) po_none) pa_nil)))) pa_nil))))))))
        pss_nil)
        (pss_cons (ps_if (pt_cmpR op_eq (pe_op op_mod (pe_callTy cr_int1 (by rfl) T.m_int (by decide +kernel) (pa_cons (pe_op op_fdivW (pe_ix (ix_listK (K := K) rfl) (pv 6) pe_int (fun _ _ => rfl)) pe_int) pa_nil)) pe_int) pe_int (nomark _))
        (pss_cons (ps_set (i := 10) sc_law_step_by_step.nd rfl (Or.inl rfl) (pe_cal c_law_table (hr.mono (by omega)) (by rfl) (pa_cons (pv 0) (pa_cons (pv 7) (pa_cons (pe_op op_add pe_int (pv 5)) pa_nil)))))
          (pss_one (ps_set (i := 3) sc_law_step_by_step.nd rfl (Or.inl rfl) (pe_cal c_set_table (hr.mono (by omega)) (by rfl) (pa_cons (pv 1) (pa_cons (pv 3) (pa_cons (pv 7) (pa_cons (pe_ix (ix_tupK (K := K) rfl) (pv 10) pe_int (fun _ _ => rfl)) (pa_cons (pe_cal c_write_rows (hr.mono (by omega)) (by rfl) (pa_cons (pv 1) (pa_cons (pe_ix (ix_tupK (K := K) rfl) (pv 10) pe_int (fun _ _ => rfl)) (pa_cons (pe_ix (ix_tupK (K := K) rfl) (pv 10) pe_int (fun _ _ => rfl)) pa_nil)))) pa_nil)))))))))
        pss_nil)
        (pss_cons (ps_set (i := 11) sc_law_step_by_step.nd rfl (Or.inl rfl) (pe_slice sl_str (pe_op op_add_str (pv 7) pe_str) (po_some (pe_un un_neg pe_int)) po_none))
        (pss_cons (ps_if (PW.pt (pw_and (pt_cmpR op_eq (pe_op op_mod (pe_callTy cr_int1 (by rfl) T.m_int (by decide +kernel) (pa_cons (pe_op op_fdivW (pe_ix (ix_listK (K := K) rfl) (pv 6) pe_int (fun _ _ => rfl)) pe_int) pa_nil)) pe_int) pe_int (nomark _)) (pw_and1 (pt_cmpR (op_notInK (K := K) rfl) (pv 11) (pe_lc (own := [("_law_table_here", 12)]) rfl sc_law_step_by_step.nd (pi_list (pv 2)) (blkOk_by (own := [("_law_table_here", 12)]) (N := n_law_step_by_step) (sc := defScope s_law_step_by_step) (by decide +kernel)) (fun _ _ _ _ _ => (pg_name (i := 12) sc_law_step_by_step.nd rfl (Or.inl rfl))) (fun _ _ _ _ _ => pts_nil) (fun _ _ _ _ _ => (pe_ix (ix_tupK (K := K) rfl) (pv 12) pe_int (fun _ _ => rfl)))) (by with_unfolding_all rfl)))))
        (pss_cons (ps_set (i := 3) sc_law_step_by_step.nd rfl (Or.inl rfl) (pe_cal c_set_table (hr.mono (by omega)) (by rfl) (pa_cons (pv 1) (pa_cons (pv 3) (pa_cons (pv 11) (pa_cons (pv 8) (pa_cons (pe_cal c_write_rows (hr.mono (by omega)) (by rfl) (pa_cons (pv 1) (pa_cons (pv 8) (pa_cons (pe_lst pa_nil) pa_nil)))) pa_nil)))))))
          (pss_one (ps_set (i := 3) sc_law_step_by_step.nd rfl (Or.inl rfl) (pe_cal c_remove_table (hr.mono (by omega)) (by rfl) (pa_cons (pv 1) (pa_cons (pv 3) (pa_cons (pv 11) pa_nil)))))))
        pss_nil)
        (pss_cons (ps_if (pt_cmpR op_eq (pe_op op_mod (pe_callTy cr_int1 (by rfl) T.m_int (by decide +kernel) (pa_cons (pe_ix (ix_listK (K := K) rfl) (pv 6) pe_int (fun _ _ => rfl)) pa_nil)) pe_int) pe_int (nomark _))
        (pss_one (ps_set (i := 3) sc_law_step_by_step.nd rfl (Or.inl rfl) (pe_cal c_remove_table (hr.mono (by omega)) (by rfl) (pa_cons (pv 1) (pa_cons (pv 3) (pa_cons (pv 7) pa_nil))))))
        pss_nil)
        (pss_one (ps_set (i := 3) sc_law_step_by_step.nd rfl (Or.inl rfl) (pe_cal c_set_table (hr.mono (by omega)) (by rfl) (pa_cons (pv 1) (pa_cons (pv 3) (pa_cons (pv 7) (pa_cons (pv 8) (pa_cons (pe_cal c_write_rows (hr.mono (by omega)) (by rfl) (pa_cons (pv 1) (pa_cons (pv 8) (pa_cons (pv 9) pa_nil)))) pa_nil))))))))))))))))
      (pss_one (ps_ret (pv 3)))))), fun vs H Q h => ?_⟩
  · obtain ⟨sa, b, n, c, t, bk, Pp, N, L, tv, ts, rfl, _⟩ := h
    rfl
  · obtain ⟨sa, b, n, c, t, bk, Pp, N, L0, tv, ts, rfl, hs, sg, hN, hL0, htv, hok, hlen, hnm, q⟩ := h
    have htl := pd_len htv
    have hndn := nmT_nd hnm
    walk_at "rs"
    refine r_newL (Nat.zero_le _) fun l0 H1 hl0 e1 hl01 => ?_
    refine ⟨b, n, c, t, bk, Pp, N, l0, [], [], [], rfl, sg.same e1, by omega, hl01, .nil, List.Perm.refl _, List.Pairwise.nil, by decide, fun _ h => (by cases h), fun a2 H2 bk2 P2 sg2 wr2 hP2 => ?_⟩
    have wr2 := (Wr.of e1).trans wr2
    have hL02 := sg.lst wr2 hL0
    have htv2 := htv.wr sg wr2
    walk_at "rs"
    refine r_lstL hL02 fun wl H3 hwl e3 hwl3 => ?_
    walk_at "rs"
    refine r_lnL (e3 _ _ hL02) ?_
    have nwl : Nt H wl := wr2.nw _ (Nt.none hwl)
    have wr3 := wr2.trans (Wr.of e3)
    have hX3 : TabsX H3 wl tv ts := pd_mono htv2 fun v u ⟨l, k⟩ => ⟨l, fun z => (by
      obtain ⟨p, f, rv, _, _, _, h, _⟩ := k
      rw [z, hwl] at h
      cases h), k.same e3⟩
    walk_at "rs"
    refine r_forR (N := tv.length) (by omega) (fun i σ' H' => ∃ (a : Int) (wv : List V) (W : List Tab) (z5 z6 z7 z8 z9 z10 z11 z12 : Option V), W.length + i = ts.length ∧ H' wl = some (.lst wv) ∧ TabsX H' wl wv W ∧ W.Nodup ∧ (∀ x ∈ W, x ∈ ts) ∧
      StI K H H' b n c t bk Pp (N + 2 + 5000 * i) (5 * i) a (fun x => x ∈ ts ∧ x ∉ W) ∧ σ' = [some (.ref sa), some (.ref c), some (.ref L0), some (.int a), some (.ref wl), z5, z6, z7, z8, z9, z10, z11, z12])
      ⟨a2, tv, ts, none, none, none, none, none, none, none, none, rfl, hwl3, hX3, nmT_nd2 hnm, fun _ h => h, ⟨bk2, P2, [], sg2.same e3, wr3, ⟨[], .nil, hP2⟩, List.Pairwise.nil, fun _ h => (by cases h), Nat.zero_le _, fun x => ⟨fun h => (by cases h), fun h => (h.2 h.1).elim⟩⟩, rfl⟩ ?_ ?_
    · rintro i σ' H' hi ⟨a, wv, W, z5, z6, z7, z8, z9, z10, z11, z12, hWl, hwv, hX, hWn, hWt, J, rfl⟩
      obtain ⟨bk', P', S, sg', wr', st, hSn, hSok, hSl, hSm⟩ := J.ex
      have hwvl := pd_len hX
      walk_at "rs"
      refine ⟨sa, 55 + i, by rw [Int.natCast_add]; rfl, by omega, hs.wr sg wr', fun z hz => ?_⟩
      walk_at "rs"
      refine ⟨z, 29, 4, 1000, rfl, hz, by decide, by decide, by decide, by decide, fun l1 H4 ns e4 hns hnum hl4 hl4n => ?_⟩
      obtain ⟨t0, ht0, hn0⟩ := num_at hnum (j := 0) (by omega)
      obtain ⟨t1, ht1, hn1⟩ := num_at hnum (j := 1) (by omega)
      obtain ⟨t2, ht2, hn2⟩ := num_at hnum (j := 2) (by omega)
      obtain ⟨t3, ht3, hn3⟩ := num_at hnum (j := 3) (by omega)
      have hwv4 := e4 _ _ hwv
      walk_at "rs"
      refine r_tyL hwv4 ?_
      walk_at "rs"
      refine r_ixL hl4 (atI_nat ht0) ?_
      walk_at "rs"
      refine r_lnL hwv4 ?_
      have hpos : (0 : Int) < (wv.length : Int) := by omega
      refine r_I hpos ?_
      walk_at "rs"
      have p1 := Int.emod_nonneg t0 (show (wv.length : Int) ≠ 0 by omega)
      have p2 := Int.emod_lt_of_pos t0 hpos
      generalize hk : (t0 % (wv.length : Int)).toNat = k
      have ek : t0 % (wv.length : Int) = (k : Int) := by omega
      rw [ek]
      have hwk : wv[k]? = some wv[k] := List.getElem?_eq_getElem (by omega)
      refine r_pop hwv4 hwk (by omega) fun H5 e5 => ?_
      obtain ⟨tb, htb, lr, nlr, hta⟩ := pd_get' hX hwk
      have e45 : TEx H4 H5 := by rw [e5]; exact TEx.upd hwv4 fun xs z => by cases z
      have hta5 : TabA H5 wv[k] tb lr := by
        rw [e5]
        exact (hta.same e4).upd hwv4 nlr
      obtain ⟨p, fv, rv, ep, hp, hfv, hlr, hrv⟩ := hta5
      rw [ep]
      refine r_gthree hp ?_
      have htbW : tb ∈ W := List.mem_iff_getElem?.mpr ⟨k, htb⟩
      have htbt := hWt tb htbW
      have tok := hok tb htbt
      have sg5 : Sg K H5 b n c t bk' P' (N + 2 + 5000 * i) := by rw [e5]; exact (sg'.same e4).mutL hwv4
      have wr5 : Wr H H5 n c t bk bk' Pp P' := by rw [e5]; exact (wr'.trans (Wr.of e4)).mutL nwl
      have hwv5 : H5 wl = some (.lst (wv.eraseIdx k)) := by rw [e5]; exact upd_same
      have hX5 : TabsX H5 wl (wv.eraseIdx k) (W.eraseIdx k) := by
        rw [e5]
        exact pd_erase k (TabsX.upd (TabsX.same hX e4) hwv4)
      have hl15 : H5 l1 = some (.lst (ns.map V.int)) := by
        rw [e5, upd_ne (by rintro rfl; rw [hwv] at hl4n; cases hl4n)]
        exact hl4
      walk_at "rs"
      have hG : ∀ x, (x ∈ ts ∧ x ∉ W) → x.name ≠ tb.name := fun x hx e => hx.2 (by rw [nd_name hndn hx.1 htbt e]; exact htbW)
      have J5 : StI K H5 H5 b n c t bk' P' (N + 2 + 5000 * i) (5 * i) a (fun x => x ∈ ts ∧ x ∉ W) := ⟨bk', P', S, sg5, Wr.refl _ _ _ _ _ _, st, hSn, hSok, hSl, hSm⟩
      let St : Int → Option V → Option V → Option V → L2.St := fun a y10 y11 y12 => [some (.ref sa), some (.ref c), some (.ref L0), some (.int a), some (.ref wl), some (.int (i : Int)), some (.ref l1), some (.str tb.name), some fv, some (.ref lr), y10, y11, y12]
      let Jn : Nat → Nat → L2.St → Hp → Prop := fun d m σ' H' => ∃ (a : Int) (F : Tab → Prop) (y10 y11 y12 : Option V), StI K H5 H' b n c t bk' P' (N + 2 + 5000 * i + d) (5 * i + m) a F ∧ (∀ x, (F x ∧ x.name ≠ tb.name) ↔ (x ∈ ts ∧ x ∉ W)) ∧ σ' = St a y10 y11 y12
      have nmk : NmOk tb.name := ⟨tok.n1, tok.n12⟩
      have hL05 : H5 L0 = some (.lst tv) := sg.lst wr5 hL0
      have hs5 : Scr K H5 sa := hs.wr sg wr5
      have htv5 : TabsV H5 tv ts := htv.wr sg wr5
      refine r_joinU (Jn 1002 1) (fun Z hZ => ?_) ?_
      · walk_at "rs"
        refine r_ixL hl15 (atI_nat ht1) ?_
        walk_at "rs"
        refine r_ite (fun _ => ?_) (fun _ => hZ _ _ ⟨a, _, z10, z11, z12, J5.up (by omega) (by omega), fun x => ⟨fun h => h.1, fun h => ⟨h, hG x h⟩⟩, rfl⟩)
        walk_at "rs"
        refine r_ixL hl15 (atI_nat ht2) ?_
        walk_at "rs"
        refine r_slL hlr fun l7 H7 hl7n e7 hl7 => ?_
        walk_at "rs"
        refine st_rows (J5.same e7) ⟨tb.name, tb.fm, cutG tb.rows (some (t2 % 5)) none⟩ (by omega) (tok.sub nmk (cutG_sub _ _ _)) (hfv.mono (TEx.of e7)) hl7 ?_ (List.Perm.refl _) fun r8 H8 J8 => ?_
        · show TpAll H7 _ ((cutG tb.rows _ _).map PyData.tuple)
          rw [← cutG_map]
          exact cutG_tp (hrv.mono (TEx.of e7)) _ _
        walk_at "rs"
        refine st_set J8 rfl (by omega) (by omega) fun a9 H9 F9 J9 hF9 => ?_
        walk_at "rs"
        exact hZ _ _ ⟨a9, F9, z10, z11, z12, J9.up (by omega) (by omega), step_set hF9 (fun x => ⟨fun h => h.1, fun h => ⟨h, hG x h⟩⟩) rfl, rfl⟩
      rintro σ6 H6 ⟨a6, F6, y10, y11, y12, J6, hF6, rfl⟩
      obtain ⟨bk6, P6, wr6⟩ := J6.wr
      have tx6 := sg5.tex wr6
      have hl16 := sg5.lst wr6 hl15
      refine r_join (Jn 2004 2) (fun Z hZ => ?_) ?_
      · walk_at "rs"
        refine r_ixL hl16 (atI_nat ht1) ?_
        walk_at "rs"
        refine r_ite (fun _ => ?_) (fun _ => hZ _ _ ⟨a6, F6, y10, y11, y12, J6.up (by omega) (by omega), hF6, rfl⟩)
        walk_at "rs"
        refine ⟨sa, tb.name, 30 + i, by rw [Int.natCast_add]; rfl, hs5.wr sg5 wr6, nmk, by omega, J6.tb, fun v t7 l7 H7 g7 hta7 nl7 ok7 hn7 ck7 => ?_⟩
        walk_at "rs"
        obtain ⟨p7, fv7, rv7, rfl, hp7, hfv7, hl7, hrv7⟩ := hta7
        refine r_ixT hp7 (atI_nat (j := 1) rfl) ?_
        walk_at "rs"
        refine r_ixT hp7 (atI_nat (j := 1) rfl) ?_
        walk_at "rs"
        refine r_ixT hp7 (atI_nat (j := 2) rfl) ?_
        walk_at "rs"
        refine st_rows (J6.gr g7) t7 (by omega) ok7 hfv7 hl7 hrv7 (List.Perm.refl _) fun r8 H8 J8 => ?_
        walk_at "rs"
        refine st_set J8 hn7.symm (by omega) (by omega) fun a9 H9 F9 J9 hF9 => ?_
        walk_at "rs"
        exact hZ _ _ ⟨a9, F9, _, y11, y12, J9.up (by omega) (by omega), step_set hF9 hF6 hn7, rfl⟩
      clear wr6 tx6 hl16 hF6 J6
      rintro σ6 H6 ⟨a6, F6, y10, y11, y12, J6, hF6, rfl⟩
      obtain ⟨bk6, P6, wr6⟩ := J6.wr
      have tx6 := sg5.tex wr6
      have hl16 := sg5.lst wr6 hl15
      have hL06 := sg5.lst wr6 hL05
      have htv6 := htv5.wr sg5 wr6
      have hfv6 := hfv.mono tx6
      walk_at "rs"
      refine ⟨tb.name, "x", rfl, rfl, by have h1 := tok.n12; have h2 : ("x" : Str).length = 1 := rfl; exact Nat.le_trans (show _ ≤ 100 by omega) (by decide), ?_⟩
      walk_at "rs"
      have hsp := spare_len tb.name tok.n1
      refine r_slS (by show (tb.name ++ "x" : Str).length ≤ _; rw [app_len]; have h1 := tok.n12; have h2 : ("x" : Str).length = 1 := rfl; exact Nat.le_trans (show _ ≤ 100 by omega) (by decide)) ?_
      walk_at "rs"
      generalize cutS (tb.name ++ "x") (some (-12)) none = sp at hsp ⊢
      refine r_joinU (Jn 3008 3) (fun Z hZ => ?_) ?_
      · have back : ∀ y10 y11 y12, Z (St a6 y10 y11 y12) H6 := fun y10 y11 y12 => hZ _ _ ⟨a6, F6, y10, y11, y12, J6.up (by omega) (by omega), hF6, rfl⟩
        walk_at "rs"
        refine r_ixL hl16 (atI_nat ht1) ?_
        walk_at "rs"
        refine r_ite (fun _ => ?_) (fun _ => back _ _ _)
        walk_at "rs"
        refine r_lcL hL06 (by omega) (fun _ => true) (fun i y _ => ∃ t, ts[i]? = some t ∧ y = V.str t.name) (fun _ _ _ _ _ h => h) (fun i x hx => lc_one rfl fun H3 Qs e3 qs => ?_) fun L ys H7 hL e7 hl7 hp7 => ?_
        · obtain ⟨tb2, l2, hti, p2, f2, rv2, rfl, hp2, _⟩ := tabs_sub htv6 hx
          walk_at "rs"
          exact r_ixT (e3 _ _ hp2) (atI_nat (j := 0) rfl) (qs _ H3 (Same.refl _) ⟨tb2, hti, rfl⟩)
        rw [filter_all, htl] at hp7
        rw [names_pd hp7 rfl] at hl7
        refine r_inL hl7 rfl ?_
        walk_at "rs"
        have hback7 : ∀ y10 y11 y12, Z (St a6 y10 y11 y12) H7 := fun y10 y11 y12 => hZ _ _ ⟨a6, F6, y10, y11, y12, (J6.same e7).up (by omega) (by omega), hF6, rfl⟩
        refine r_ite (fun hin => ?_) (fun _ => hback7 _ _ _)
        have hnin : sp ∉ ts.map (·.name) := by
          have hin : (!decide (sp ∈ ts.map (·.name))) = true := hin
          simpa using hin
        walk_at "rs"
        refine r_newL (Nat.zero_le _) fun l8 H8 hl8n e8 hl8 => ?_
        walk_at "rs"
        refine st_rows ((J6.same e7).same e8) ⟨sp, tb.fm, []⟩ (by omega) (tok.sub hsp (List.nil_sublist _)) (hfv6.mono (TEx.of (e7.trans e8))) hl8 .nil (List.Perm.refl _) fun r9 H9 J9 => ?_
        walk_at "rs"
        refine st_set J9 rfl (by omega) (by omega) fun a10 H10 F10 J10 hF10 => ?_
        walk_at "rs"
        refine st_rem J10 (by omega) (by omega) fun a11 H11 J11 => ?_
        walk_at "rs"
        refine hZ _ _ ⟨a11, _, y10, _, y12, J11.up (by omega) (by omega), fun x => ?_, rfl⟩
        rw [hF10 x, ← hF6 x]
        constructor
        · rintro ⟨⟨z | z, y⟩, w⟩
          · exact ⟨z.1, w⟩
          · exact (y (by rw [z])).elim
        · intro z
          refine ⟨⟨.inl ⟨z.1, fun e => ?_⟩, fun e => ?_⟩, z.2⟩
          · exact hnin (by rw [← e]; exact List.mem_map.mpr ⟨x, ((hF6 x).mp z).1, rfl⟩)
          · exact hnin (by rw [← e]; exact List.mem_map.mpr ⟨x, ((hF6 x).mp z).1, rfl⟩)
      clear wr6 tx6 hl16 hF6 J6 hL06 htv6 hfv6
      rintro σ6 H6 ⟨a6, F6, y10, y11, y12, J6, hF6, rfl⟩
      obtain ⟨bk6, P6, wr6⟩ := J6.wr
      have hl16 := sg5.lst wr6 hl15
      refine r_join (Jn 3010 3) (fun Z hZ => ?_) ?_
      · walk_at "rs"
        refine r_ixL hl16 (atI_nat ht3) ?_
        walk_at "rs"
        refine r_ite (fun _ => ?_) (fun _ => hZ _ _ ⟨a6, F6, y10, y11, y12, J6.up (by omega) (by omega), hF6, rfl⟩)
        walk_at "rs"
        refine st_rem J6 (by omega) (by omega) fun a11 H11 J11 => ?_
        walk_at "rs"
        refine hZ _ _ ⟨a11, _, y10, y11, y12, J11.up (by omega) (by omega), fun x => ?_, rfl⟩
        rw [← hF6 x]
        exact ⟨fun h => h.1, fun h => ⟨h, h.2⟩⟩
      clear wr6 hl16 hF6 J6
      rintro σ6 H6 ⟨a6, F6, y10, y11, y12, J6, hF6, rfl⟩
      obtain ⟨bk6, P6, wr6⟩ := J6.wr
      have tx6 := sg5.tex wr6
      walk_at "rs"
      refine st_rows J6 tb (by omega) tok (hfv.mono tx6) (sg5.lst wr6 hlr) (hrv.mono tx6) (List.Perm.refl _) fun r9 H9 J9 => ?_
      walk_at "rs"
      refine st_set J9 rfl (by omega) (by omega) fun a10 H10 F10 J10 hF10 => ?_
      walk_at "rs"
      obtain ⟨bk10, P10, wr10⟩ := J10.wr
      refine ⟨a10, wv.eraseIdx k, W.eraseIdx k, _, _, _, _, _, _, _, _, ?_, sg5.lst wr10 hwv5, hX5.wr sg5 wr10, hWn.eraseIdx _, fun x hx => hWt x (List.mem_of_mem_eraseIdx hx), ((J10.base wr5).mem fun x => ?_).up (by omega) (by omega), rfl⟩
      · rw [List.length_eraseIdx_of_lt (by omega)]
        omega
      · rw [hF10 x, hF6 x, erase_mem hWn htb x]
        constructor
        · rintro (z | z)
          · exact ⟨z.1, fun y => z.2 y.1⟩
          · rw [z]; exact ⟨htbt, fun y => y.2 rfl⟩
        · rintro ⟨z, y⟩
          by_cases e : x = tb
          · exact .inr e
          · exact .inl ⟨z, fun w => y ⟨w, e⟩⟩
    · rintro σ' H' ⟨a, wv, W, z5, z6, z7, z8, z9, z10, z11, z12, hWl, hwv, hX, hWn, hWt, J, rfl⟩
      obtain ⟨bk', P', S, sg', wr', st, hSn, hSok, hSl, hSm⟩ := J.ex
      have hW0 : W = [] := List.length_eq_zero_iff.mp (by omega)
      have hSt : S = ts := nmT_mem hSn hnm fun x => by rw [hSm x, hW0]; exact ⟨fun h => h.1, fun h => ⟨h, fun z => (by cases z)⟩⟩
      rw [hSt] at st
      walk_at "rs"
      exact q a H' bk' P' (sg'.up (by omega)) wr' st
end
end Vt
-- VtE5
set_option Elab.async false
set_option linter.all false
set_option maxRecDepth 100000
set_option maxHeartbeats 4000000
namespace Vt
open PySem PySem.Spec PyProof.Rows L2 LamX NdefX
local macro_rules | `(tactic| walk_at "rd") => `(tactic| (repeat (first
  | with_reducible refine r_sasg ?_ | with_reducible refine r_sfset ?_ | with_reducible refine r_sfaug ?_ | with_reducible refine r_sdput ?_ | with_reducible refine r_sdrop ?_ | with_reducible refine r_swhen ?_ | with_reducible refine r_sif ?_ | with_reducible refine r_asg ?_ | with_reducible refine r_drop ?_
  | with_reducible refine r_ret ?_ | with_reducible refine r_if ?_ | with_reducible refine r_next ?_
  | with_reducible refine r_c ?_ | with_reducible refine r_var (by with_unfolding_all exact rfl) ?_ | with_reducible refine r_op ?_ | with_reducible refine r_un ?_ | with_reducible refine r_I0 ?_ | ((with_reducible refine r_I ?_ ?_); · first | (show (0 : Int) < _; decide) | exact div_ok (by decide) (by decide)) | with_reducible refine r_U ?_
  | with_reducible refine r_eq (by with_unfolding_all exact rfl) ?_ | with_reducible refine r_ne (by with_unfolding_all exact rfl) ?_
  | with_reducible refine r_tstq ?_ | with_reducible refine r_tBq ?_ | with_reducible refine r_blq ?_ | with_reducible refine r_intq ?_ | with_reducible refine r_and ?_ | with_reducible refine r_or ?_ | with_reducible refine r_not ?_
  | with_reducible refine r_andV ?_ | with_reducible refine r_orV ?_ | with_reducible refine r_notV ?_
  | with_reducible refine r_nil ?_ | with_reducible refine r_cons ?_ | with_reducible refine r_call ?_ | with_reducible refine r_tup ?_ | with_reducible refine r_lst ?_ | with_reducible refine r_cb ?_ | with_reducible refine r_int1 ?_ | with_reducible refine r_ord ?_
  | with_reducible refine r_sl ?_ | with_reducible refine r_nop ?_ | with_reducible refine r_partq ?_ | with_reducible refine r_bm ?_ | with_reducible refine r_fld ?_
  | with_reducible refine r_lct ?_ | with_reducible refine r_lcl ?_ | with_reducible refine r_lcr ?_ | with_reducible refine r_sfort ?_ | with_reducible refine r_sforl ?_ | with_reducible refine r_sfors ?_ | with_reducible refine r_sforr ?_ | with_reducible refine r_sforz ?_
  | with_reducible refine r_fort ?_ | with_reducible refine r_forl ?_ | with_reducible refine r_forr ?_ | with_reducible refine r_sasgt ?_ | with_reducible refine r_asgt ?_ | with_reducible refine r_saug (by with_unfolding_all exact rfl) ?_ | with_reducible refine r_aug (by with_unfolding_all exact rfl) ?_ | with_reducible refine r_ip ?_ | with_reducible refine r_gname ?_ | with_reducible refine r_seq ?_
  | with_reducible refine r_dget ?_ | with_reducible refine r_din ?_ | with_reducible refine r_dnotin ?_ | with_reducible refine r_sdput ?_ | with_reducible refine r_dput ?_ | with_reducible refine r_mg ?_ | with_reducible refine r_rev ?_ | with_reducible refine r_dzip ?_
  | with_reducible refine r_lcz ?_ | with_reducible refine r_form ?_
  | with_reducible refine r_sfset ?_ | with_reducible refine r_fset ?_ | with_reducible refine r_sfaug ?_ | with_reducible refine r_meth ?_ | with_reducible refine r_make ?_
  | with_reducible refine r_srtl ?_ | with_reducible refine r_m1q ?_ | with_reducible refine r_strq ?_
  | with_reducible refine r_iteT ?_ | with_reducible refine r_iteF ?_)))
local macro_rules | `(tactic| walk_at "rs") => `(tactic| (repeat (first
  | with_reducible refine r_sasg ?_ | with_reducible refine r_sfset ?_ | with_reducible refine r_sfaug ?_ | with_reducible refine r_sdput ?_ | with_reducible refine r_sdrop ?_ | with_reducible refine r_asg ?_ | with_reducible refine r_drop ?_
  | with_reducible refine r_ret ?_ | with_reducible refine r_next ?_
  | with_reducible refine r_c ?_ | with_reducible refine r_var (by with_unfolding_all exact rfl) ?_ | with_reducible refine r_op ?_ | with_reducible refine r_un ?_ | with_reducible refine r_I0 ?_ | ((with_reducible refine r_I ?_ ?_); · first | (show (0 : Int) < _; decide) | exact div_ok (by decide) (by decide)) | with_reducible refine r_U ?_
  | with_reducible refine r_eq (by with_unfolding_all exact rfl) ?_ | with_reducible refine r_ne (by with_unfolding_all exact rfl) ?_
  | with_reducible refine r_tstq ?_ | with_reducible refine r_tBq ?_ | with_reducible refine r_blq ?_ | with_reducible refine r_intq ?_ | with_reducible refine r_and ?_ | with_reducible refine r_or ?_ | with_reducible refine r_not ?_
  | with_reducible refine r_andV ?_ | with_reducible refine r_orV ?_ | with_reducible refine r_notV ?_
  | with_reducible refine r_nil ?_ | with_reducible refine r_cons ?_ | with_reducible refine r_call ?_ | with_reducible refine r_tup ?_ | with_reducible refine r_lst ?_ | with_reducible refine r_cb ?_ | with_reducible refine r_int1 ?_ | with_reducible refine r_ord ?_
  | with_reducible refine r_sl ?_ | with_reducible refine r_nop ?_ | with_reducible refine r_partq ?_ | with_reducible refine r_bm ?_ | with_reducible refine r_fld ?_
  | with_reducible refine r_lct ?_ | with_reducible refine r_lcl ?_ | with_reducible refine r_lcr ?_ | with_reducible refine r_sfort ?_ | with_reducible refine r_sforl ?_ | with_reducible refine r_sfors ?_ | with_reducible refine r_sforr ?_ | with_reducible refine r_sforz ?_
  | with_reducible refine r_fort ?_ | with_reducible refine r_forl ?_ | with_reducible refine r_forr ?_ | with_reducible refine r_sasgt ?_ | with_reducible refine r_asgt ?_ | with_reducible refine r_saug (by with_unfolding_all exact rfl) ?_ | with_reducible refine r_aug (by with_unfolding_all exact rfl) ?_ | with_reducible refine r_ip ?_ | with_reducible refine r_gname ?_ | with_reducible refine r_seq ?_
  | with_reducible refine r_dget ?_ | with_reducible refine r_din ?_ | with_reducible refine r_dnotin ?_ | with_reducible refine r_sdput ?_ | with_reducible refine r_dput ?_ | with_reducible refine r_mg ?_ | with_reducible refine r_rev ?_ | with_reducible refine r_dzip ?_
  | with_reducible refine r_lcz ?_ | with_reducible refine r_form ?_
  | with_reducible refine r_sfset ?_ | with_reducible refine r_fset ?_ | with_reducible refine r_sfaug ?_ | with_reducible refine r_meth ?_ | with_reducible refine r_make ?_
  | with_reducible refine r_srtl ?_ | with_reducible refine r_m1q ?_ | with_reducible refine r_strq ?_
  | with_reducible refine r_iteT ?_ | with_reducible refine r_iteF ?_)))
local macro_rules | `(tactic| walk_at "tex") => `(tactic| (first
  | assumption | exact TEx.refl _ | exact TEx.of (by assumption) | ((refine TEx.trans ?_ (TEx.of (by assumption))); walk_at "tex") | ((refine TEx.trans ?_ (by assumption)); walk_at "tex")))
local macro_rules | `(tactic| walk_at "same") => `(tactic| (first
  | assumption | exact Same.refl _ | ((refine Same.trans ?_ (by assumption)); walk_at "same")))
local macro_rules | `(tactic| walk_at "tp") => `(tactic| (first
  | assumption | exact Tp.int _ | exact Tp.str _ | exact Tp.non | exact TpAll.nil | ((refine TpAll.cons ?_ ?_) <;> walk_at "tp") | ((refine Tp.mono ?_ (by assumption)); walk_at "tex") | ((refine TpAll.mono ?_ (by assumption)); walk_at "tex")))
local macro_rules | `(tactic| walk_at "hp") => `(tactic| (first
  | assumption | ((refine (TEx.trans ?_ (TEx.refl _)) _ _ (by assumption)); walk_at "tex")))
theorem pd_choose2 {α β : Type} {R : α → β → Prop} : ∀ {m : List α}, (∀ a ∈ m, ∃ b, R a b) → ∃ l, Paired R m l
  | [], _ => ⟨[], .nil⟩
  | a :: m, h => by
    obtain ⟨b, hb⟩ := h a (List.mem_cons_self ..)
    obtain ⟨l, hl⟩ := pd_choose2 (m := m) fun c hc => h c (List.mem_cons_of_mem _ hc)
    exact ⟨b :: l, .cons hb hl⟩
theorem pd_swap {α β γ : Type} {G : α → β → Prop} {F : β → γ → Prop} {f : α → γ} (h : ∀ k y, G k y → F y (f k)) : ∀ {l : List α} {m : List β}, Paired G l m → Paired F m (l.map f)
  | _, _, .nil => .nil
  | _, _, .cons r t => .cons (h _ _ r) (pd_swap h t)
theorem pd_rev {α β : Type} {F : α → β → Prop} : ∀ {l : List α} {m : List β}, Paired F l m → Paired F l.reverse m.reverse
  | _, _, .nil => .nil
  | _, _, .cons r t => by rw [List.reverse_cons, List.reverse_cons]; exact pd_snoc (pd_rev t) r
theorem pd_memr {α β : Type} {F : α → β → Prop} {l : List α} {m : List β} (h : Paired F l m) {b : β} (hb : b ∈ m) : ∃ a, a ∈ l ∧ F a b := by
  obtain ⟨i, hi⟩ := List.mem_iff_getElem?.mp hb
  obtain ⟨a, h1, h2⟩ := pd_get h hi
  exact ⟨a, List.mem_iff_getElem?.mpr ⟨i, h1⟩, h2⟩
section
variable {P : Program} {w : World} {K : PySem.W.Frag} {mg : Str → Option Value} {base : Heap}
/-! ### _law_mostly_at_once -/
abbrev n_law_mostly_at_once : List Str := ["_law_script", "_law_chunks", "_law_tables_here", "_law_k", "_law_later", "_law_table_here", "_law_names_here", "_law_form_here", "_law_state", "_law_name_here", "_law_rows"]
theorem sc_law_mostly_at_once : FnScope n_law_mostly_at_once ["_law_script", "_law_chunks", "_law_tables_here"] (defScope s_law_mostly_at_once) := ⟨rfl, rfl, rfl, by decide +kernel, rfl, by decide +kernel, by decide +kernel⟩
theorem bd_law_mostly_at_once : BindH "_law_mostly_at_once" s_law_mostly_at_once ["_law_script", "_law_chunks", "_law_tables_here"] := fun _ _ _ _ _ _ us hl => match us, hl with | [_, _, _], _ => rfl
def spMostly (K : PySem.W.Frag) : Sp := fun vs H Q _ => ∃ (sa b n c t : Addr) (bk : List Str) (Pp : Pr) (N : Nat) (L : Addr) (tv : List V) (ts : List Tab), vs = [.ref sa, .ref c, .ref L] ∧ Scr K H sa ∧ Sg K H b n c t bk Pp N ∧ N < 400000 ∧ H L = some (.lst tv) ∧ TabsV H tv ts ∧ (∀ t ∈ ts, t.Ok) ∧ 1 ≤ ts.length ∧ ts.length ≤ 110 ∧ NmT ts ∧ (∀ t ∈ ts, t.name ≠ "zzzz") ∧
  ∀ (a : Int) (H' : Hp) (bk' : List Str) (P' : Pr), Sg K H' b n c t bk' P' (N + 120000) → Wr H H' n c t bk bk' Pp P' → StOf P' a ts → Q (.int a) H'
theorem cal_law_mostly_at_once (T : Tx K mg) (L : Tl K mg base) : Cal P w K mg base 20 "_law_mostly_at_once" ["_law_script", "_law_chunks", "_law_tables_here"] (spMostly K) := by
  have c_law_at_once := cal_law_at_once (P := P) (w := w) (base := base) T L
  have c_write_rows := cal_write_rows (P := P) (w := w) (base := base) T
  have c_set_table := cal_setT (P := P) (w := w) (base := base) T L
  have c_remove_table := cal_remT (P := P) (w := w) (base := base) T L
  have c_law_thing := cal_law_thing (P := P) (w := w) (base := base) T
  refine cal_of T.at_law_mostly_at_once sc_law_mostly_at_once bd_law_mostly_at_once (fun vs H Q E h => ?_) fun f cdv A outer s H0 E hr => ⟨_, (pss_cons (ps_setLc (i := 4) (own := [("_law_k", 3)]) rfl sc_law_mostly_at_once.nd rfl rfl (sw_true rfl rfl rfl (by decide +kernel)) (pi_range1 (by rfl) T.m_range (pa_cons pe_int pa_nil)) (blkOk_by (own := [("_law_k", 3)]) (N := n_law_mostly_at_once) (sc := defScope s_law_mostly_at_once) (by decide +kernel)) (fun _ _ _ _ _ => (pg_name (i := 3) sc_law_mostly_at_once.nd rfl (Or.inl rfl))) (fun _ _ _ _ _ => pts_nil) (fun _ _ _ _ _ => (pe_ix (ix_listK (K := K) rfl) (pv 2) (pe_op op_mod (pe_callTy cr_int1 (by rfl) T.m_int (by decide +kernel) (pa_cons (pe_cal c_law_thing (hr.mono (by omega)) (by rfl) (pa_cons (pv 0) (pa_cons (pe_op op_add pe_int (pv 3)) pa_nil))) pa_nil)) (pe_callB (cr_lnK (K := K) rfl) (by rfl) T.m_len PySem.boot_len (pa_cons (pv 2) pa_nil))) (fun _ _ => rfl))))
      (pss_cons (ps_set (i := 6) sc_law_mostly_at_once.nd rfl (Or.inr rfl) (pe_lc (own := [("_law_table_here", 5)]) rfl sc_law_mostly_at_once.nd (pi_list (pv 4)) (blkOk_by (own := [("_law_table_here", 5)]) (N := n_law_mostly_at_once) (sc := defScope s_law_mostly_at_once) (by decide +kernel)) (fun _ _ _ _ _ => (pg_name (i := 5) sc_law_mostly_at_once.nd rfl (Or.inl rfl))) (fun _ _ _ _ _ => pts_nil) (fun _ _ _ _ _ => (pe_ix (ix_tupK (K := K) rfl) (pv 5) pe_int (fun _ _ => rfl)))))
      (pss_cons (ps_set (i := 7) sc_law_mostly_at_once.nd rfl (Or.inl rfl) (pe_ix (ix_tupK (K := K) rfl) (pe_ix (ix_listK (K := K) rfl) (pv 2) pe_int (fun _ _ => rfl)) pe_int (fun _ _ => rfl)))
      (pss_cons (ps_set (i := 8) sc_law_mostly_at_once.nd rfl (Or.inl rfl) (pe_cal c_law_at_once (hr.mono (by omega)) (by rfl) (pa_cons (pv 1) (pa_cons (pe_revLK (K := K) rfl (pe_lc (own := [("_law_table_here", 5)]) rfl sc_law_mostly_at_once.nd (pi_list (pv 2)) (blkOk_by (own := [("_law_table_here", 5)]) (N := n_law_mostly_at_once) (sc := defScope s_law_mostly_at_once) (by decide +kernel)) (fun _ _ _ _ _ => (pg_name (i := 5) sc_law_mostly_at_once.nd rfl (Or.inl rfl))) (fun _ _ _ _ _ => (pts_one (pt_cmpR (op_notInK (K := K) rfl) (pe_ix (ix_tupK (K := K) rfl) (pv 5) pe_int (fun _ _ => rfl)) (pv 6) (by with_unfolding_all rfl)))) (fun _ _ _ _ _ => (pv 5)))) pa_nil))))
      (pss_cons (ps_set (i := 8) sc_law_mostly_at_once.nd rfl (Or.inl rfl) (pe_cal c_set_table (hr.mono (by omega)) (by rfl) (pa_cons (pv 1) (pa_cons (pv 8) (pa_cons pe_str (pa_cons (pv 7) (pa_cons (pe_cal c_write_rows (hr.mono (by omega)) (by rfl) (pa_cons (pv 1) (pa_cons (pv 7) (pa_cons (pe_lst pa_nil) pa_nil)))) pa_nil)))))))
      (pss_cons (ps_set (i := 8) sc_law_mostly_at_once.nd rfl (Or.inl rfl) (pe_cal c_remove_table (hr.mono (by omega)) (by rfl) (pa_cons (pv 1) (pa_cons (pv 8) (pa_cons pe_str pa_nil)))))
      (pss_cons (ps_for PassesOwn.never rfl (pi_list (pv 4)) (pg_tupK (K := K) (n := 3) rfl rfl (pgs_cons (pg_name (i := 9) sc_law_mostly_at_once.nd rfl (Or.inl rfl)) (pgs_cons (pg_name (i := 7) sc_law_mostly_at_once.nd rfl (Or.inl rfl)) (pgs_cons (pg_name (i := 10) sc_law_mostly_at_once.nd rfl (Or.inl rfl)) pgs_nil))))
      (pss_one (ps_set (i := 8) sc_law_mostly_at_once.nd rfl (Or.inl rfl) (pe_cal c_set_table (hr.mono (by omega)) (by rfl) (pa_cons (pv 1) (pa_cons (pv 8) (pa_cons (pv 9) (pa_cons (pv 7) (pa_cons (pe_cal c_write_rows (hr.mono (by omega)) (by rfl) (pa_cons (pv 1) (pa_cons (pv 7) (pa_cons (pv 10) pa_nil)))) pa_nil)))))))))
      (pss_one (ps_ret (pv 8)))))))))), fun vs H Q h => ?_⟩
  · obtain ⟨sa, b, n, c, t, bk, Pp, N, L, tv, ts, rfl, _⟩ := h
    rfl
  · obtain ⟨sa, b, n, c, t, bk, Pp, N, L0, tv, ts, rfl, hs, sg, hN, hL0, htv, hok, hlen1, hlen, hnm, hzz, q⟩ := h
    have htl := pd_len htv
    have hndn := nmT_nd hnm
    walk_at "rs"
    refine r_lcR (n := 4) (by omega) (fun _ => true) (fun i y _ => y ∈ tv) (fun _ _ _ _ _ h => h) (fun i hi => lc_one rfl fun H1 Qs e1 qs => ?_) fun l1 lv H1 hl1n e1 hl1 hp1 => ?_
    · walk_at "rs"
      refine ⟨sa, 50 + i, by rw [Int.natCast_add]; rfl, by omega, hs.gr (Gr.of e1), fun z hz => ?_⟩
      walk_at "rs"
      refine r_lnL (e1 _ _ hL0) ?_
      have hpos : (0 : Int) < (tv.length : Int) := by omega
      refine r_I hpos ?_
      have p1 := Int.emod_nonneg z (show (tv.length : Int) ≠ 0 by omega)
      have p2 := Int.emod_lt_of_pos z hpos
      generalize hk : (z % (tv.length : Int)).toNat = k
      have ek : z % (tv.length : Int) = (k : Int) := by omega
      rw [ek]
      have hk' : tv[k]? = some tv[k] := List.getElem?_eq_getElem (by omega)
      exact r_ixL (e1 _ _ hL0) (atI_nat hk') (qs _ H1 (Same.refl _) (List.getElem_mem _))
    walk_at "rs"
    have hlvl := pd_len hp1
    rw [filter_all, List.length_range] at hlvl
    have hlv : ∀ y ∈ lv, ∃ u, u ∈ ts ∧ ∃ l, TabA H1 y u l := fun y hy => by
      obtain ⟨i, hi⟩ := List.mem_iff_getElem?.mp hy
      obtain ⟨_, _, hm⟩ := pd_get hp1 hi
      obtain ⟨j, hj⟩ := List.mem_iff_getElem?.mp hm
      obtain ⟨u, l, h1, h2⟩ := tabs_sub htv hj
      exact ⟨u, List.mem_iff_getElem?.mpr ⟨j, h1⟩, l, h2.same e1⟩
    obtain ⟨lts, hlt⟩ := pd_choose2 hlv
    have hltl := pd_len hlt
    have hltt : ∀ u ∈ lts, u ∈ ts := fun u hu => let ⟨_, _, h, _⟩ := pd_memr hlt hu; h
    have hltv : TabsV H1 lv lts := pd_mono hlt fun _ _ h => h.2
    refine r_lcL hl1 (by omega) (fun _ => true) (fun i y _ => ∃ t, lts[i]? = some t ∧ y = V.str t.name) (fun _ _ _ _ _ h => h) (fun i x hx => lc_one rfl fun H3 Qs e3 qs => ?_) fun l2 ys H2 hl2n e2 hl2 hp2 => ?_
    · obtain ⟨tb2, l2, hti, p2, f2, rv2, rfl, hp2, _⟩ := tabs_sub hltv hx
      walk_at "rs"
      exact r_ixT (e3 _ _ hp2) (atI_nat (j := 0) rfl) (qs _ H3 (Same.refl _) ⟨tb2, hti, rfl⟩)
    rw [filter_all, hltl] at hp2
    rw [names_pd hp2 rfl] at hl2
    generalize hns : lts.map (·.name) = ns at hl2
    have e12 := e1.trans e2
    have htv2 : TabsV H2 tv ts := htv.same e12
    have h0t : tv[0]? = some tv[0] := List.getElem?_eq_getElem (by omega)
    obtain ⟨t0, l0, ht0, p0, f0, rv0, ep0, hp0, hf0, _⟩ := tabs_sub htv2 h0t
    have tok0 := hok t0 (List.mem_iff_getElem?.mpr ⟨0, ht0⟩)
    walk_at "rs"
    refine r_ixL (e12 _ _ hL0) (atI_nat (j := 0) h0t) ?_
    walk_at "rs"
    rw [ep0]
    refine r_ixT hp0 (atI_nat (j := 1) rfl) ?_
    walk_at "rs"
    let d0 : Tab := ⟨⟨#[]⟩, ⟨[], []⟩, []⟩
    refine r_lcL (e12 _ _ hL0) (by omega) (fun i => !decide ((ts.getD i d0).name ∈ ns)) (fun i y _ => tv[i]? = some y) (fun _ _ _ _ _ h => h) (fun i x hx => lc_test rfl fun H3 Qs Qn e3 qs qn => ?_) fun l3 ys3 H3 hl3n e3 hl3 hp3 => ?_
    · obtain ⟨tb2, l2', hti, p2, f2, rv2, rfl, hp2', _⟩ := tabs_sub htv2 hx
      have eg := getD_some (d := d0) hti
      walk_at "rs"
      refine r_ixT (e3 _ _ hp2') (atI_nat (j := 0) rfl) ?_
      walk_at "rs"
      refine r_inL (e3 _ _ hl2) rfl ?_
      walk_at "rs"
      by_cases h : tb2.name ∈ ns
      · refine r_no (by simp [h]) (qn H3 (Same.refl _) ?_)
        show (!decide ((ts.getD i d0).name ∈ ns)) = false
        rw [eg]
        simp [h]
      · refine r_yes (by simp [h]) ?_
        walk_at "rs"
        refine qs _ H3 (Same.refl _) ?_ hx
        show (!decide ((ts.getD i d0).name ∈ ns)) = true
        rw [eg]
        simp [h]
    walk_at "rs"
    have e13 := e12.trans e3
    have er := range_filter ts d0 fun u => !decide (u.name ∈ ns)
    rw [htl] at hp3
    have hfl : TabsV H3 ys3 (ts.filter fun u => !decide (u.name ∈ ns)) := by
      rw [← er]
      refine pd_swap (fun k y hk => ?_) hp3
      obtain ⟨u, l, h1, h2⟩ := tabs_sub (htv.same e13) hk
      rw [getD_some h1]
      exact ⟨l, h2⟩
    generalize hfd : (ts.filter fun u => !decide (u.name ∈ ns)) = fl at hfl
    have hfm : ∀ x, x ∈ fl ↔ x ∈ ts ∧ x.name ∉ ns := fun x => by rw [← hfd, List.mem_filter]; simp
    have hfll : fl.length ≤ ts.length := by rw [← hfd]; exact List.length_filter_le _ _
    have hfn : NmT fl := by
      rw [← hfd]
      unfold NmT SrtS at hnm ⊢
      rw [List.pairwise_map] at hnm ⊢
      exact hnm.filter _
    refine r_revL hl3 fun l4 H4 hl4n e4 hl4 => ?_
    walk_at "rs"
    have e14 := e13.trans e4
    refine ⟨b, n, c, t, bk, Pp, N, l4, ys3.reverse, fl.reverse, fl, rfl, sg.same e14, by omega, hl4, pd_rev (hfl.same e4), fun u hu => hok u ((hfm u).mp (List.mem_reverse.mp hu)).1, by rw [List.length_reverse]; omega, (List.reverse_perm _).symm, hfn, fun a5 H5 bk5 P5 sg5 wr5 st5 => ?_⟩
    walk_at "rs"
    have sg4 := sg.same e14
    have e24 := e2.trans (e3.trans e4)
    have hl14 := e24 _ _ hl1
    have hltv4 := hltv.same e24
    have J5 : StI K H4 H5 b n c t bk Pp (N + 110002) 110 a5 (fun x => x ∈ fl) := ⟨bk5, P5, fl, sg5, wr5, st5, hfn, fun u hu => hok u ((hfm u).mp hu).1, by omega, fun x => Iff.rfl⟩
    have hf5 := (hf0.mono (TEx.of (e3.trans e4))).mono (sg4.tex wr5)
    refine r_newL (Nat.zero_le _) fun l6 H6 hl6n e6 hl6 => ?_
    walk_at "rs"
    refine st_rows (J5.same e6) ⟨"zzzz", t0.fm, []⟩ (by omega) (tok0.sub ⟨by decide, by decide⟩ (List.nil_sublist _)) (hf5.mono (TEx.of e6)) hl6 .nil (List.Perm.refl _) fun r7 H7 J7 => ?_
    walk_at "rs"
    refine st_set J7 rfl (by omega) (by omega) fun a8 H8 F8 J8 hF8 => ?_
    walk_at "rs"
    refine st_rem J8 (by omega) (by omega) fun a9 H9 J9 => ?_
    have J9 : StI K H4 H9 b n c t bk Pp (N + 112002) 111 a9 (fun x => x ∈ fl) := (J9.mem fun x => by
      rw [hF8 x]
      constructor
      · rintro ⟨z | z, y⟩
        · exact z.1
        · exact (y (by rw [z])).elim
      · intro z
        have := hzz x ((hfm x).mp z).1
        exact ⟨.inl ⟨z, this⟩, this⟩).up (by omega) (by omega)
    walk_at "rs"
    refine r_forL (xs := lv) (fun i σ' H' => i ≤ 4 ∧ ∃ (a : Int) (z3 z5 z7 z9 z10 : Option V), StI K H4 H' b n c t bk Pp (N + 112002 + 1002 * i) (111 + i) a (fun x => x ∈ ts ∧ (x.name ∉ ns ∨ x ∈ lts.take i)) ∧ σ' = [some (.ref sa), some (.ref c), some (.ref L0), z3, some (.ref l1), z5, some (.ref l2), z7, some (.int a), z9, z10])
      ⟨Nat.zero_le _, a9, none, none, some f0, none, none, J9.mem fun x => ?_, rfl⟩ ?_ ?_ ?_
    · rw [hfm x, List.take_zero]
      exact ⟨fun h => ⟨h.1, .inl h.2⟩, fun h => ⟨h.1, h.2.elim id fun z => (by cases z)⟩⟩
    · rintro i σ' H' ⟨_, a, z3, z5, z7, z9, z10, J, rfl⟩
      exact SqL.of (J.lst sg4 hl14)
    · rintro i x σ' H' hx ⟨hi, a, z3, z5, z7, z9, z10, J, rfl⟩
      have hil := (List.getElem?_eq_some_iff.mp hx).1
      obtain ⟨bk', P', wr'⟩ := J.wr
      obtain ⟨u, lu, hu, hta⟩ := tabs_sub hltv4 hx
      have hum : u ∈ lts := List.mem_iff_getElem?.mpr ⟨i, hu⟩
      have hut := hltt u hum
      obtain ⟨p, fv, rv, rfl, hp, hfv, hl, hrv⟩ := hta.wr sg4 wr'
      refine r_gthree hp ?_
      walk_at "rs"
      refine st_rows J u (by omega) (hok u hut) hfv hl hrv (List.Perm.refl _) fun r7 H7 J7 => ?_
      walk_at "rs"
      refine st_set J7 rfl (by omega) (by omega) fun a8 H8 F8 J8 hF8 => ?_
      walk_at "rs"
      refine ⟨by omega, a8, _, _, _, _, _, (J8.mem fun x => ?_).up (by omega) (by omega), rfl⟩
      rw [hF8 x, List.take_add_one, hu]
      constructor
      · rintro (⟨z, _⟩ | z)
        · exact ⟨z.1, z.2.imp id fun w => List.mem_append_left _ w⟩
        · rw [z]
          exact ⟨hut, .inr (List.mem_append_right _ (List.mem_singleton.mpr rfl))⟩
      · rintro ⟨z, w⟩
        by_cases e : x = u
        · exact .inr e
        · refine .inl ⟨⟨z, w.imp id fun y => ?_⟩, fun y => e (nd_name hndn z hut y)⟩
          rcases List.mem_append.mp y with y | y
          · exact y
          · exact (e (List.mem_singleton.mp y)).elim
    · rintro σ' H' ⟨_, a, z3, z5, z7, z9, z10, J, rfl⟩
      obtain ⟨bk', P', S, sg', wr', st, hSn, hSok, hSl, hSm⟩ := J.ex
      have hSt : S = ts := nmT_mem hSn hnm fun x => by
        rw [hSm x]
        refine ⟨fun h => h.1, fun h => ⟨h, ?_⟩⟩
        by_cases z : x.name ∈ ns
        · right
          rw [← hns] at z
          obtain ⟨u, hu, e⟩ := List.mem_map.mp z
          rw [List.take_of_length_le (by omega), ← nd_name hndn (hltt u hu) h e]
          exact hu
        · exact .inl z
      rw [hSt] at st
      walk_at "rs"
      exact q a H' bk' P' (sg'.up (by omega)) ((Wr.of e14).trans wr') st
end
end Vt
-- VtE6
set_option Elab.async false
set_option linter.all false
set_option maxRecDepth 100000
set_option maxHeartbeats 4000000
namespace Vt
open PySem PySem.Spec PyProof.Rows L2 LamX NdefX
local macro_rules | `(tactic| walk_at "rd") => `(tactic| (repeat (first
  | with_reducible refine r_sasg ?_ | with_reducible refine r_sfset ?_ | with_reducible refine r_sfaug ?_ | with_reducible refine r_sdput ?_ | with_reducible refine r_sdrop ?_ | with_reducible refine r_swhen ?_ | with_reducible refine r_sif ?_ | with_reducible refine r_asg ?_ | with_reducible refine r_drop ?_
  | with_reducible refine r_ret ?_ | with_reducible refine r_if ?_ | with_reducible refine r_next ?_
  | with_reducible refine r_c ?_ | with_reducible refine r_var (by with_unfolding_all exact rfl) ?_ | with_reducible refine r_op ?_ | with_reducible refine r_un ?_ | with_reducible refine r_I0 ?_ | ((with_reducible refine r_I ?_ ?_); · first | (show (0 : Int) < _; decide) | exact div_ok (by decide) (by decide)) | with_reducible refine r_U ?_
  | with_reducible refine r_eq (by with_unfolding_all exact rfl) ?_ | with_reducible refine r_ne (by with_unfolding_all exact rfl) ?_
  | with_reducible refine r_tstq ?_ | with_reducible refine r_tBq ?_ | with_reducible refine r_blq ?_ | with_reducible refine r_intq ?_ | with_reducible refine r_and ?_ | with_reducible refine r_or ?_ | with_reducible refine r_not ?_
  | with_reducible refine r_andV ?_ | with_reducible refine r_orV ?_ | with_reducible refine r_notV ?_
  | with_reducible refine r_nil ?_ | with_reducible refine r_cons ?_ | with_reducible refine r_call ?_ | with_reducible refine r_tup ?_ | with_reducible refine r_lst ?_ | with_reducible refine r_cb ?_ | with_reducible refine r_int1 ?_ | with_reducible refine r_ord ?_
  | with_reducible refine r_sl ?_ | with_reducible refine r_nop ?_ | with_reducible refine r_partq ?_ | with_reducible refine r_bm ?_ | with_reducible refine r_fld ?_
  | with_reducible refine r_lct ?_ | with_reducible refine r_lcl ?_ | with_reducible refine r_lcr ?_ | with_reducible refine r_sfort ?_ | with_reducible refine r_sforl ?_ | with_reducible refine r_sfors ?_ | with_reducible refine r_sforr ?_ | with_reducible refine r_sforz ?_
  | with_reducible refine r_fort ?_ | with_reducible refine r_forl ?_ | with_reducible refine r_forr ?_ | with_reducible refine r_sasgt ?_ | with_reducible refine r_asgt ?_ | with_reducible refine r_saug (by with_unfolding_all exact rfl) ?_ | with_reducible refine r_aug (by with_unfolding_all exact rfl) ?_ | with_reducible refine r_ip ?_ | with_reducible refine r_gname ?_ | with_reducible refine r_seq ?_
  | with_reducible refine r_dget ?_ | with_reducible refine r_din ?_ | with_reducible refine r_dnotin ?_ | with_reducible refine r_sdput ?_ | with_reducible refine r_dput ?_ | with_reducible refine r_mg ?_ | with_reducible refine r_rev ?_ | with_reducible refine r_dzip ?_
  | with_reducible refine r_lcz ?_ | with_reducible refine r_form ?_
  | with_reducible refine r_sfset ?_ | with_reducible refine r_fset ?_ | with_reducible refine r_sfaug ?_ | with_reducible refine r_meth ?_ | with_reducible refine r_make ?_
  | with_reducible refine r_srtl ?_ | with_reducible refine r_m1q ?_ | with_reducible refine r_strq ?_
  | with_reducible refine r_iteT ?_ | with_reducible refine r_iteF ?_)))
local macro_rules | `(tactic| walk_at "rs") => `(tactic| (repeat (first
  | with_reducible refine r_sasg ?_ | with_reducible refine r_sfset ?_ | with_reducible refine r_sfaug ?_ | with_reducible refine r_sdput ?_ | with_reducible refine r_sdrop ?_ | with_reducible refine r_asg ?_ | with_reducible refine r_drop ?_
  | with_reducible refine r_ret ?_ | with_reducible refine r_next ?_
  | with_reducible refine r_c ?_ | with_reducible refine r_var (by with_unfolding_all exact rfl) ?_ | with_reducible refine r_op ?_ | with_reducible refine r_un ?_ | with_reducible refine r_I0 ?_ | ((with_reducible refine r_I ?_ ?_); · first | (show (0 : Int) < _; decide) | exact div_ok (by decide) (by decide)) | with_reducible refine r_U ?_
  | with_reducible refine r_eq (by with_unfolding_all exact rfl) ?_ | with_reducible refine r_ne (by with_unfolding_all exact rfl) ?_
  | with_reducible refine r_tstq ?_ | with_reducible refine r_tBq ?_ | with_reducible refine r_blq ?_ | with_reducible refine r_intq ?_ | with_reducible refine r_and ?_ | with_reducible refine r_or ?_ | with_reducible refine r_not ?_
  | with_reducible refine r_andV ?_ | with_reducible refine r_orV ?_ | with_reducible refine r_notV ?_
  | with_reducible refine r_nil ?_ | with_reducible refine r_cons ?_ | with_reducible refine r_call ?_ | with_reducible refine r_tup ?_ | with_reducible refine r_lst ?_ | with_reducible refine r_cb ?_ | with_reducible refine r_int1 ?_ | with_reducible refine r_ord ?_
  | with_reducible refine r_sl ?_ | with_reducible refine r_nop ?_ | with_reducible refine r_partq ?_ | with_reducible refine r_bm ?_ | with_reducible refine r_fld ?_
  | with_reducible refine r_lct ?_ | with_reducible refine r_lcl ?_ | with_reducible refine r_lcr ?_ | with_reducible refine r_sfort ?_ | with_reducible refine r_sforl ?_ | with_reducible refine r_sfors ?_ | with_reducible refine r_sforr ?_ | with_reducible refine r_sforz ?_
  | with_reducible refine r_fort ?_ | with_reducible refine r_forl ?_ | with_reducible refine r_forr ?_ | with_reducible refine r_sasgt ?_ | with_reducible refine r_asgt ?_ | with_reducible refine r_saug (by with_unfolding_all exact rfl) ?_ | with_reducible refine r_aug (by with_unfolding_all exact rfl) ?_ | with_reducible refine r_ip ?_ | with_reducible refine r_gname ?_ | with_reducible refine r_seq ?_
  | with_reducible refine r_dget ?_ | with_reducible refine r_din ?_ | with_reducible refine r_dnotin ?_ | with_reducible refine r_sdput ?_ | with_reducible refine r_dput ?_ | with_reducible refine r_mg ?_ | with_reducible refine r_rev ?_ | with_reducible refine r_dzip ?_
  | with_reducible refine r_lcz ?_ | with_reducible refine r_form ?_
  | with_reducible refine r_sfset ?_ | with_reducible refine r_fset ?_ | with_reducible refine r_sfaug ?_ | with_reducible refine r_meth ?_ | with_reducible refine r_make ?_
  | with_reducible refine r_srtl ?_ | with_reducible refine r_m1q ?_ | with_reducible refine r_strq ?_
  | with_reducible refine r_iteT ?_ | with_reducible refine r_iteF ?_)))
local macro_rules | `(tactic| walk_at "tex") => `(tactic| (first
  | assumption | exact TEx.refl _ | exact TEx.of (by assumption) | ((refine TEx.trans ?_ (TEx.of (by assumption))); walk_at "tex") | ((refine TEx.trans ?_ (by assumption)); walk_at "tex")))
local macro_rules | `(tactic| walk_at "same") => `(tactic| (first
  | assumption | exact Same.refl _ | ((refine Same.trans ?_ (by assumption)); walk_at "same")))
local macro_rules | `(tactic| walk_at "tp") => `(tactic| (first
  | assumption | exact Tp.int _ | exact Tp.str _ | exact Tp.non | exact TpAll.nil | ((refine TpAll.cons ?_ ?_) <;> walk_at "tp") | ((refine Tp.mono ?_ (by assumption)); walk_at "tex") | ((refine TpAll.mono ?_ (by assumption)); walk_at "tex")))
local macro_rules | `(tactic| walk_at "hp") => `(tactic| (first
  | assumption | ((refine (TEx.trans ?_ (TEx.refl _)) _ _ (by assumption)); walk_at "tex")))
theorem pd_taken {α β : Type} {F : α → β → Prop} : ∀ {l : List α} {m : List β} (n : Nat), Paired F l m → Paired F (l.take n) (m.take n)
  | _, _, 0, _ => .nil
  | _, _, n + 1, .nil => .nil
  | _, _, n + 1, .cons r t => .cons r (pd_taken n t)
theorem pd_drop {α β : Type} {F : α → β → Prop} : ∀ {l : List α} {m : List β} (n : Nat), Paired F l m → Paired F (l.drop n) (m.drop n)
  | _, _, 0, h => h
  | _, _, n + 1, .nil => .nil
  | _, _, n + 1, .cons r t => pd_drop n t
theorem pd_app {α β : Type} {F : α → β → Prop} : ∀ {l l' : List α} {m m' : List β}, Paired F l m → Paired F l' m' → Paired F (l ++ l') (m ++ m')
  | _, _, _, _, .nil, h => h
  | _, _, _, _, .cons r t, h => .cons r (pd_app t h)
theorem cutV_take (xs : List V) (j : Nat) : cutV xs none (some (j : Int)) = xs.take j := cutG_take xs j
theorem cutV_drop (xs : List V) (j : Nat) : cutV xs (some (j : Int)) none = xs.drop j := cutG_drop xs j
/-- one out -/
theorem out_len {α : Type} {xs : List α} {j : Nat} (h : j < xs.length) : (xs.take j ++ xs.drop (j + 1)).length + 1 = xs.length := by
  rw [List.length_append, List.length_take, List.length_drop]
  omega
theorem out_sub {α : Type} (xs : List α) (j : Nat) : (xs.take j ++ xs.drop (j + 1)).Sublist xs := by
  have h := List.Sublist.append (List.Sublist.refl (xs.take j)) (List.drop_sublist 1 (xs.drop j))
  rw [List.drop_drop, List.take_append_drop] at h
  exact h
theorem out_perm {α : Type} {xs : List α} {j : Nat} {x : α} (h : xs[j]? = some x) : (xs.take j ++ xs.drop (j + 1) ++ [x]).Perm xs := by
  obtain ⟨hl, e⟩ := List.getElem?_eq_some_iff.mp h
  have h1 : xs = xs.take j ++ x :: xs.drop (j + 1) := by
    conv => lhs; rw [← List.take_append_drop j xs, List.drop_eq_getElem_cons hl, e]
  conv => rhs; rw [h1]
  rw [List.append_assoc]
  exact (List.perm_append_comm).append_left _
/-- the rows of a table under way -/
structure RwOk (fm : Fm) (rs : List (List PyData)) (n : Nat) : Prop where
  fit : ∀ r ∈ rs, Fit fm r
  srt : SrtS (rs.map (keyT fm))
  len : rs.length ≤ n
theorem RwOk.sub {fm : Fm} {rs ss : List (List PyData)} {n : Nat} (h : RwOk fm rs n) (s : ss.Sublist rs) : RwOk fm ss n := ⟨fun r hr => h.fit r (s.subset hr), h.srt.sublist (s.map _), Nat.le_trans s.length_le h.len⟩
/-- another form of the same columns -/
theorem fit_other {fm fm' : Fm} (hn : fm'.names = fm.names) (hk : fm'.cols.map (·.kind) = fm.cols.map (·.kind)) {r : List PyData} (h : Fit fm r) : Fit fm' r := by
  have hl : fm'.cols.length = fm.cols.length := by
    have := congrArg List.length hk
    rwa [List.length_map, List.length_map] at this
  refine ⟨by rw [hl]; exact h.len, fun i c d hc hd => ?_⟩
  have hi := (List.getElem?_eq_some_iff.mp hc).1
  have hc0 : fm.cols[i]? = some (fm.cols[i]'(by omega)) := List.getElem?_eq_getElem _
  have e : (fm'.cols.map (·.kind))[i]? = (fm.cols.map (·.kind))[i]? := by rw [hk]
  rw [List.getElem?_map, List.getElem?_map, hc, hc0] at e
  have e : c.kind = (fm.cols[i]'(by omega)).kind := Option.some.inj e
  rw [e]
  exact h.ok i _ d hc0 hd
theorem key_other {fm fm' : Fm} (hn : fm'.names = fm.names) (hp : fm'.keys.Perm fm.keys) {r s : List PyData} (h : keyT fm' r = keyT fm' s) : keyT fm r = keyT fm s := by
  unfold keyT keyL at h ⊢
  injection h with h
  have h := map_at h
  congr 1
  refine List.map_congr_left fun k hk => ?_
  have := h k (hp.symm.subset hk)
  rw [hn] at this
  exact this
theorem nd_other {fm fm' : Fm} (hn : fm'.names = fm.names) (hp : fm'.keys.Perm fm.keys) {rs : List (List PyData)} (h : (rs.map (keyT fm)).Nodup) : (rs.map (keyT fm')).Nodup := by
  unfold List.Nodup at h ⊢
  rw [List.pairwise_map] at h ⊢
  exact h.imp fun {a b} n e => n (key_other hn hp e)
theorem num_bg {z : Int} (h : Num z) : Bg z := by
  obtain ⟨h1, h2⟩ := h
  exact bg_small (i250 (by omega))
def kRow (fm : Fm) : PyData → PyData
  | .tuple r => keyT fm r
  | _ => .none
theorem kRow_map (fm : Fm) (rs : List (List PyData)) : (rs.map PyData.tuple).map (kRow fm) = rs.map (keyT fm) := by
  rw [List.map_map]
  rfl
section
variable {P : Program} {w : World} {K : PySem.W.Frag} {mg : Str → Option Value} {base : Heap}
/-! ### _law_with_change -/
abbrev n_law_with_change : List Str := ["_law_tables_here", "_law_cell_here", "_law_numbers", "_law_choice", "_law_place", "_law_name_here", "_law_form_here", "_law_rows", "_law_others", "_law_row_here", "_law_changed", "_law_one", "_law_key", "_law_table_here"]
theorem sc_law_with_change : FnScope n_law_with_change ["_law_tables_here", "_law_cell_here"] (defScope s_law_with_change) := ⟨rfl, rfl, rfl, by decide +kernel, rfl, by decide +kernel, by decide +kernel⟩
theorem bd_law_with_change : BindH "_law_with_change" s_law_with_change ["_law_tables_here", "_law_cell_here"] := fun _ _ _ _ _ _ us hl => match us, hl with | [_, _], _ => rfl
def spChange (K : PySem.W.Frag) : Sp := fun vs H Q _ => ∃ (L : Addr) (z : Int) (tv : List V) (ts : List Tab), vs = [.ref L, .int z] ∧ Bg z ∧ Tb K H ∧ H L = some (.lst tv) ∧ TabsV H tv ts ∧ (∀ t ∈ ts, t.Good) ∧ NmT ts ∧ ts.length ≤ 110 ∧
  ∀ (l : Addr) (uv : List V) (us : List Tab) (H' : Hp), Gr K H H' → H' l = some (.lst uv) → TabsV H' uv us → us.length ≤ ts.length → NmT us → (∀ t ∈ us, t.Ok) → Q (.ref l) H'
theorem cal_law_with_change (T : Tx K mg) (L : Tl K mg base) : Cal P w K mg base 9 "_law_with_change" ["_law_tables_here", "_law_cell_here"] (spChange K) := by
  have c_law_draws := cal_law_draws (P := P) (w := w) (base := base) T
  have c_law_row := cal_law_row (P := P) (w := w) (base := base) T
  have c_law_key_of := cal_law_key_of (P := P) (w := w) (base := base) T
  have c_law_other_form := cal_law_other_form (P := P) (w := w) (base := base) T
  refine cal_ofC T.ac_law_with_change sc_law_with_change bd_law_with_change (fun vs H Q E h => ?_) fun f A outer s H0 E hr => ⟨_, (pss_cons (ps_set (i := 2) sc_law_with_change.nd rfl (Or.inl rfl) (pe_cal c_law_draws (hr.mono (by omega)) (by rfl) (pa_cons (pv 1) (pa_cons pe_int (pa_cons pe_int (pa_cons (pe_ten (n := 100000000000000000000) (by decide) ⟨by decide, by decide, by decide⟩ (pe_op op_pow pe_int pe_int)) pa_nil))))))
      (pss_cons (ps_set (i := 3) sc_law_with_change.nd rfl (Or.inl rfl) (pe_op op_mod (pe_callTy cr_int1 (by rfl) T.m_int (by decide +kernel) (pa_cons (pe_ix (ix_listK (K := K) rfl) (pv 2) pe_int (fun _ _ => rfl)) pa_nil)) pe_int))
      (pss_cons (ps_if (pt_not (pt_truth (pv 0) (by intro _; rfl)))
      (pss_one (ps_ret (pe_lst pa_nil)))
      pss_nil)
      (pss_cons (ps_set (i := 4) sc_law_with_change.nd rfl (Or.inl rfl) (pe_op op_mod (pe_callTy cr_int1 (by rfl) T.m_int (by decide +kernel) (pa_cons (pe_ix (ix_listK (K := K) rfl) (pv 2) pe_int (fun _ _ => rfl)) pa_nil)) (pe_callB (cr_lnK (K := K) rfl) (by rfl) T.m_len PySem.boot_len (pa_cons (pv 0) pa_nil))))
      (pss_cons (ps_asg (pe_ix (ix_listK (K := K) rfl) (pv 0) (pv 4) (fun _ _ => rfl)) (pg_tupK (K := K) (n := 3) rfl rfl (pgs_cons (pg_name (i := 5) sc_law_with_change.nd rfl (Or.inl rfl)) (pgs_cons (pg_name (i := 6) sc_law_with_change.nd rfl (Or.inr rfl)) (pgs_cons (pg_name (i := 7) sc_law_with_change.nd rfl (Or.inl rfl)) pgs_nil)))))
      (pss_cons (ps_set (i := 8) sc_law_with_change.nd rfl (Or.inl rfl) (pe_op op_cat (pe_slice (sl_listK (K := K) rfl) (pv 0) po_none (po_some (pv 4))) (pe_slice (sl_listK (K := K) rfl) (pv 0) (po_some (pe_op op_add (pv 4) pe_int)) po_none)))
      (pss_cons (ps_if (pt_cmpR op_eq (pv 3) pe_int (nomark _))
      (pss_one (ps_ret (pv 8)))
      pss_nil)
      (pss_cons (ps_if (PW.pt (pw_and (pt_cmpR op_eq (pv 3) pe_int (nomark _)) (pw_and1 (pt_truth (pv 7) (by intro _; rfl)))))
      (pss_cons (ps_set (i := 9) sc_law_with_change.nd rfl (Or.inl rfl) (pe_op op_mod (pe_callTy cr_int1 (by rfl) T.m_int (by decide +kernel) (pa_cons (pe_ix (ix_listK (K := K) rfl) (pv 2) pe_int (fun _ _ => rfl)) pa_nil)) (pe_callB (cr_lnK (K := K) rfl) (by rfl) T.m_len PySem.boot_len (pa_cons (pv 7) pa_nil))))
        (pss_one (ps_set (i := 7) sc_law_with_change.nd rfl (Or.inl rfl) (pe_op op_cat (pe_slice (sl_listK (K := K) rfl) (pv 7) po_none (po_some (pv 9))) (pe_slice (sl_listK (K := K) rfl) (pv 7) (po_some (pe_op op_add (pv 9) pe_int)) po_none)))))
      pss_nil)
      (pss_cons (ps_if (PW.pt (pw_and (pt_cmpR op_eq (pv 3) pe_int (nomark _)) (pw_and1 (pt_truth (pv 7) (by intro _; rfl)))))
      (pss_cons (ps_set (i := 9) sc_law_with_change.nd rfl (Or.inl rfl) (pe_op op_mod (pe_callTy cr_int1 (by rfl) T.m_int (by decide +kernel) (pa_cons (pe_ix (ix_listK (K := K) rfl) (pv 2) pe_int (fun _ _ => rfl)) pa_nil)) (pe_callB (cr_lnK (K := K) rfl) (by rfl) T.m_len PySem.boot_len (pa_cons (pv 7) pa_nil))))
        (pss_cons (ps_set (i := 10) sc_law_with_change.nd rfl (Or.inr rfl) pe_dnewT)
        (pss_cons (ps_for PassesOwn.never rfl (pi_list (pe_op op_cat (pe_op op_cat (pe_slice (sl_listK (K := K) rfl) (pv 7) po_none (po_some (pv 9))) (pe_slice (sl_listK (K := K) rfl) (pv 7) (po_some (pe_op op_add (pv 9) pe_int)) po_none)) (pe_lst (pa_cons (pe_cal c_law_row (hr.mono (by omega)) (by rfl) (pa_cons (pv 6) (pa_cons (pe_ix (ix_listK (K := K) rfl) (pv 2) pe_int (fun _ _ => rfl)) pa_nil))) pa_nil)))) (pg_name (i := 11) sc_law_with_change.nd rfl (Or.inl rfl))
        (pss_one (ps_dput (hu_of hr) (pv 10) (pe_cal c_law_key_of (hr.mono (by omega)) (by rfl) (pa_cons (pv 6) (pa_cons (pv 11) pa_nil))) (pv 11) rfl)))
        (pss_one (ps_setLc (i := 7) (own := [("_law_key", 12)]) rfl sc_law_with_change.nd rfl rfl (sw_true rfl rfl rfl (by decide +kernel)) (pi_list (pe_callB (cr_srt hr.units) (by rfl) T.m_sorted (by decide +kernel) (pa_cons (pe_callTy (cr_ldT rfl) (by rfl) T.m_list (by decide +kernel) (pa_cons (pv 10) pa_nil)) pa_nil))) (blkOk_by (own := [("_law_key", 12)]) (N := n_law_with_change) (sc := defScope s_law_with_change) (by decide +kernel)) (fun _ _ _ _ _ => (pg_name (i := 12) sc_law_with_change.nd rfl (Or.inl rfl))) (fun _ _ _ _ _ => pts_nil) (fun _ _ _ _ _ => (pe_dget (hu_of hr) (pv 10) (pv 12) (fun _ _ => rfl))))))))
      pss_nil)
      (pss_cons (ps_if (PW.pt (pw_and (pt_cmpR op_eq (pv 3) pe_int (nomark _)) (pw_and (pt_cmpR (op_notInK (K := K) rfl) (pe_op op_add_str (pv 5) pe_str) (pe_lc (own := [("_law_table_here", 13)]) rfl sc_law_with_change.nd (pi_list (pv 0)) (blkOk_by (own := [("_law_table_here", 13)]) (N := n_law_with_change) (sc := defScope s_law_with_change) (by decide +kernel)) (fun _ _ _ _ _ => (pg_name (i := 13) sc_law_with_change.nd rfl (Or.inl rfl))) (fun _ _ _ _ _ => pts_nil) (fun _ _ _ _ _ => (pe_ix (ix_tupK (K := K) rfl) (pv 13) pe_int (fun _ _ => rfl)))) (by with_unfolding_all rfl)) (pw_and1 (pt_cmpR op_lt (pe_callB cr_lnS (by rfl) T.m_len PySem.boot_len (pa_cons (pv 5) pa_nil)) pe_int (nomark _))))))
      (pss_one (ps_set (i := 5) sc_law_with_change.nd rfl (Or.inl rfl) (pe_op op_add_str (pv 5) pe_str)))
      pss_nil)
      (pss_cons (ps_if (pt_cmpR op_eq (pv 3) pe_int (nomark _))
      (pss_cons (ps_set (i := 6) sc_law_with_change.nd rfl (Or.inr rfl) (pe_cal c_law_other_form (hr.mono (by omega)) (by rfl) (pa_cons (pv 6) (pa_cons (pe_ix (ix_listK (K := K) rfl) (pv 2) pe_int (fun _ _ => rfl)) pa_nil))))
        (pss_one (ps_set (i := 7) sc_law_with_change.nd rfl (Or.inl rfl) (pe_srtL (K := K) (N := ["_law_one", "_law_form_here"]) (fr := ["_law_form_here"]) (js := [6]) (x := "_law_one") (k := 3) rfl rfl (by rfl) T.m_sorted (pv 7) (hr.mono (by omega)) (L.tb _ tm_law_with_change) rfl (tt_mem tm_law_with_change) (L.hu tm_law_with_change) (ndef_free (sc := defScope s_law_with_change) (fr := ["_law_form_here"]) (by decide +kernel)) (nscope_by (by decide +kernel)) (ndef_fr (sc := defScope s_law_with_change) (by decide +kernel)) rfl rfl (fun _ _ _ _ _ us hl => match us, hl with | [_], _ => rfl) (fun q cl c' f A outer s H E hr' => (pe_cal c_law_key_of (hr'.mono (by omega)) (by rfl) (pa_cons (pv 1) (pa_cons (pv 0) pa_nil))))))))
      pss_nil)
      (pss_one (ps_ret (pe_srtL (K := K) (N := ["_law_table_here"]) (fr := []) (js := []) (x := "_law_table_here") (k := 3) rfl rfl (by rfl) T.m_sorted (pe_op op_cat (pv 8) (pe_lst (pa_cons (pe_tup (pa_cons (pv 5) (pa_cons (pv 6) (pa_cons (pv 7) pa_nil)))) pa_nil))) (hr.mono (by omega)) (L.tb _ tm_law_with_change) rfl (tt_mem tm_law_with_change) (L.hu tm_law_with_change) (ndef_free (sc := defScope s_law_with_change) (fr := []) (by decide +kernel)) (nscope_by (by decide +kernel)) (ndef_fr (sc := defScope s_law_with_change) (by decide +kernel)) rfl rfl (fun _ _ _ _ _ us hl => match us, hl with | [_], _ => rfl) (fun q cl c' f A outer s H E hr' => (pe_ix (ix_tupK (K := K) rfl) (pv 0) pe_int (fun _ _ => rfl))))))))))))))))), fun vs H Q h => ?_⟩
  · obtain ⟨L, z, tv, ts, rfl, _⟩ := h
    rfl
  · obtain ⟨L0, z, tv, ts, rfl, hz, tb, hL0, htv, hgood, hnm, hlen, q⟩ := h
    have htl := pd_len htv
    have hndn := nmT_nd hnm
    walk_at "rs"
    refine ⟨z, 33, 4, 10 ^ 20, rfl, hz, by decide, by decide, by decide, by decide, fun l1 H1 ns e1 hns hnum hl1 _ => ?_⟩
    obtain ⟨t0, ht0, hn0⟩ := num_at hnum (j := 0) (by omega)
    obtain ⟨t1, ht1, hn1⟩ := num_at hnum (j := 1) (by omega)
    obtain ⟨t2, ht2, hn2⟩ := num_at hnum (j := 2) (by omega)
    obtain ⟨t3, ht3, hn3⟩ := num_at hnum (j := 3) (by omega)
    have hb3 : Bg t3 := num_bg hn3
    walk_at "rs"
    refine r_ixL hl1 (atI_nat ht0) ?_
    walk_at "rs"
    refine r_if ?_
    walk_at "rs"
    have hL1 := e1 _ _ hL0
    refine r_truL hL1 ?_
    cases hts : ts with
    | nil =>
      subst hts
      obtain rfl : tv = [] := List.length_eq_zero_iff.mp htl
      walk_at "rd"
      refine r_newL (Nat.zero_le _) fun l2 H2 hl2n e2 hl2 => ?_
      exact q l2 [] [] H2 (Gr.of (e1.trans e2)) hl2 .nil (Nat.zero_le _) List.Pairwise.nil fun _ h => by cases h
    | cons u0 ur =>
    have hpos : 0 < tv.length := by rw [htl, hts]; exact Nat.succ_pos _
    refine r_no (by cases tv with
      | nil => exact absurd hpos (Nat.lt_irrefl 0)
      | cons a r => rfl) ?_
    walk_at "rs"
    refine r_ixL hl1 (atI_nat ht1) ?_
    walk_at "rs"
    refine r_lnL hL1 ?_
    have hposI : (0 : Int) < (tv.length : Int) := by omega
    refine r_I hposI ?_
    walk_at "rs"
    have p1 := Int.emod_nonneg t1 (show (tv.length : Int) ≠ 0 by omega)
    have p2 := Int.emod_lt_of_pos t1 hposI
    generalize hj : (t1 % (tv.length : Int)).toNat = j
    have ej : t1 % (tv.length : Int) = (j : Int) := by omega
    rw [ej]
    have hjl : j < tv.length := by omega
    have hvj : tv[j]? = some tv[j] := List.getElem?_eq_getElem hjl
    have htv1 := htv.same e1
    obtain ⟨tb1, lr, htb, p, fv, rv, ep, hp, hfv, hlr, hrv⟩ := tabs_sub htv1 hvj
    have htm : tb1 ∈ ts := List.mem_iff_getElem?.mpr ⟨j, htb⟩
    have good := hgood tb1 htm
    refine r_ixL hL1 (atI_nat hvj) ?_
    rw [ep]
    refine r_gthree hp ?_
    walk_at "rs"
    refine r_slL hL1 fun l2 H2 hl2n e2 hl2 => ?_
    walk_at "rs"
    refine r_slL (e2 _ _ hL1) fun l3 H3 hl3n e3 hl3 => ?_
    rw [cutV_take] at hl2
    rw [show ((j : Int) + 1) = (((j + 1 : Nat)) : Int) from rfl, cutV_drop] at hl3
    have hol := out_len hjl
    refine r_cat (e3 _ _ hl2) hl3 (by rw [List.length_append] at hol; omega) fun l4 H4 hl4n e4 hl4 => ?_
    walk_at "rs"
    have e24 := e2.trans (e3.trans e4)
    have e14 := e1.trans e24
    have hO : TabsV H4 (tv.take j ++ tv.drop (j + 1)) (ts.take j ++ ts.drop (j + 1)) := pd_app (pd_taken j (htv.same e14)) (pd_drop (j + 1) (htv.same e14))
    generalize hov : tv.take j ++ tv.drop (j + 1) = ov at hO hl4 hol
    have hot : (ts.take j ++ ts.drop (j + 1)).length + 1 = ts.length := out_len (by omega)
    have hosub := out_sub ts j
    have hoperm := out_perm htb
    generalize hOt : ts.take j ++ ts.drop (j + 1) = O at hO hot hosub hoperm
    have hOnm : NmT O := by
      unfold NmT
      unfold NmT at hnm
      exact hnm.sublist (hosub.map _)
    have hOok : ∀ u ∈ O, u.Ok := fun u hu => (hgood u (hosub.subset hu)).ok
    have hOn : tb1.name ∉ O.map (·.name) := fun z => by
      have nd : ((O ++ [tb1]).map (·.name)).Nodup := ((hoperm.map (·.name)).nodup_iff).mpr hndn
      rw [List.map_append, List.nodup_append] at nd
      exact nd.2.2 _ z _ (List.mem_singleton.mpr rfl) rfl
    refine r_if ?_
    walk_at "rs"
    refine r_ite (fun _ => ?_) (fun _ => ?_)
    · walk_at "rs"
      exact q l4 ov O H4 (Gr.of e14) hl4 hO (by omega) hOnm hOok
    walk_at "rs"
    have hl14 := e24 _ _ hl1
    have hL04 := e14 _ _ hL0
    have hfv4 := hfv.mono (TEx.of e24)
    have hlr4 := e24 _ _ hlr
    have hrv4 := hrv.mono (TEx.of e24)
    have tok := good.ok
    have h64 := tok.len
    let St : Str → V → Addr → Option V → Option V → Option V → Option V → Option V → L2.St := fun nm fv lr y9 y10 y11 y12 y13 => [some (.ref L0), some (.int z), some (.ref l1), some (.int (t0 % 6)), some (.int (j : Int)), some (.str nm), some fv, some (.ref lr), some (.ref l4), y9, y10, y11, y12, y13]
    let Jn : L2.St → Hp → Prop := fun σ' H' => ∃ (lr : Addr) (rv : List V) (rs : List (List PyData)) (y9 y10 y11 y12 y13 : Option V), Gr K H4 H' ∧ H' lr = some (.lst rv) ∧ TpAll H' rv (rs.map PyData.tuple) ∧ RwOk tb1.fm rs tb1.rows.length ∧ σ' = St tb1.name fv lr y9 y10 y11 y12 y13
    refine r_joinU Jn (fun Z hZ => ?_) ?_
    · have back : Z (St tb1.name fv lr none none none none none) H4 := hZ _ _ ⟨lr, rv, tb1.rows, _, _, _, _, _, Gr.refl _ _, hlr4, hrv4, ⟨tok.fit, tok.srt, Nat.le_refl _⟩, rfl⟩
      walk_at "rs"
      refine r_ite (fun _ => ?_) (fun _ => back)
      walk_at "rs"
      refine r_truL hlr4 ?_
      refine r_ite (fun hne => ?_) (fun _ => back)
      have hrl := hrv4.length
      rw [List.length_map] at hrl
      have hpos : 0 < rv.length := by
        cases rv with
        | nil => cases hne
        | cons a r => exact Nat.succ_pos _
      walk_at "rs"
      refine r_ixL hl14 (atI_nat ht2) ?_
      walk_at "rs"
      refine r_lnL hlr4 ?_
      have hposI : (0 : Int) < (rv.length : Int) := by omega
      refine r_I hposI ?_
      walk_at "rs"
      have p1 := Int.emod_nonneg t2 (show (rv.length : Int) ≠ 0 by omega)
      have p2 := Int.emod_lt_of_pos t2 hposI
      generalize hk : (t2 % (rv.length : Int)).toNat = k
      have ek : t2 % (rv.length : Int) = (k : Int) := by omega
      rw [ek]
      refine r_slL hlr4 fun l5 H5 hl5n e5 hl5 => ?_
      walk_at "rs"
      refine r_slL (e5 _ _ hlr4) fun l6 H6 hl6n e6 hl6 => ?_
      rw [cutV_take] at hl5
      rw [show ((k : Int) + 1) = (((k + 1 : Nat)) : Int) from rfl, cutV_drop] at hl6
      have hol2 := out_len (xs := rv) (j := k) (by omega)
      refine r_cat (e6 _ _ hl5) hl6 (by rw [List.length_append] at hol2; omega) fun l7 H7 hl7n e7 hl7 => ?_
      walk_at "rs"
      have e57 := e5.trans (e6.trans e7)
      refine hZ _ _ ⟨l7, _, tb1.rows.take k ++ tb1.rows.drop (k + 1), _, _, _, _, _, Gr.of e57, hl7, ?_, (RwOk.sub ⟨tok.fit, tok.srt, Nat.le_refl _⟩ (out_sub _ _)), rfl⟩
      rw [List.map_append, List.map_take, List.map_drop]
      exact ((hrv4.mono (TEx.of e57)).take k).append ((hrv4.mono (TEx.of e57)).drop (k + 1))
    clear hlr4 hrv4 hrv hlr hp
    rintro σ5 H5 ⟨lr5, rv5, rs5, y9, y10, y11, y12, y13, g5, hlr5, hrv5, rok5, rfl⟩
    have hrl5 := hrv5.length
    rw [List.length_map] at hrl5
    have hl15 := g5.lst hl14
    have hfv5 := hfv4.mono g5.tex
    have r64 := rok5.len
    refine r_join Jn (fun Z hZ => ?_) ?_
    · have back : Z (St tb1.name fv lr5 y9 y10 y11 y12 y13) H5 := hZ _ _ ⟨lr5, rv5, rs5, _, _, _, _, _, g5, hlr5, hrv5, rok5, rfl⟩
      walk_at "rs"
      refine r_ite (fun _ => ?_) (fun _ => back)
      walk_at "rs"
      refine r_truL hlr5 ?_
      refine r_ite (fun hne => ?_) (fun _ => back)
      have hpos : 0 < rv5.length := by
        cases rv5 with
        | nil => cases hne
        | cons a r => exact Nat.succ_pos _
      walk_at "rs"
      refine r_ixL hl15 (atI_nat ht2) ?_
      walk_at "rs"
      refine r_lnL hlr5 ?_
      have hposI : (0 : Int) < (rv5.length : Int) := by omega
      refine r_I hposI ?_
      walk_at "rs"
      have p1 := Int.emod_nonneg t2 (show (rv5.length : Int) ≠ 0 by omega)
      have p2 := Int.emod_lt_of_pos t2 hposI
      generalize hk : (t2 % (rv5.length : Int)).toNat = k
      have ek : t2 % (rv5.length : Int) = (k : Int) := by omega
      rw [ek]
      refine r_dnewT fun D H6 hDn e6 hD => ?_
      walk_at "rs"
      refine r_slL (e6 _ _ hlr5) fun l7 H7 hl7n e7 hl7 => ?_
      walk_at "rs"
      refine r_slL (e7 _ _ (e6 _ _ hlr5)) fun l8 H8 hl8n e8 hl8 => ?_
      rw [cutV_take] at hl7
      rw [show ((k : Int) + 1) = (((k + 1 : Nat)) : Int) from rfl, cutV_drop] at hl8
      have hol2 := out_len (xs := rv5) (j := k) (by omega)
      refine r_cat (e8 _ _ hl7) hl8 (by rw [List.length_append] at hol2; omega) fun l9 H9 hl9n e9 hl9 => ?_
      walk_at "rs"
      have e69 := e6.trans (e7.trans (e8.trans e9))
      refine r_ixL (e69 _ _ hl15) (atI_nat ht3) ?_
      walk_at "rs"
      refine ⟨fv, t3, tb1.fm, rfl, hfv5.mono (TEx.of e69), tok.fm, hb3, fun v row H10 e10 hv hfitR => ?_⟩
      walk_at "rs"
      refine r_newL (Nat.le_of_ble_eq_true rfl) fun l11 H11 hl11n e11 hl11 => ?_
      walk_at "rs"
      refine r_cat ((e10.trans e11) _ _ hl9) hl11 (by show _ + 1 ≤ _; omega) fun l12 H12 hl12n e12 hl12 => ?_
      walk_at "rs"
      have e612 := e69.trans (e10.trans (e11.trans e12))
      have hD12 : H12 D = some (.dT []) := (e7.trans (e8.trans (e9.trans (e10.trans (e11.trans e12))))) _ _ hD
      have hrows12 : TpAll H12 (rv5.take k ++ rv5.drop (k + 1) ++ [v]) ((rs5.take k ++ rs5.drop (k + 1) ++ [row]).map PyData.tuple) := by
        rw [List.map_append, List.map_append, List.map_take, List.map_drop]
        have h5 := hrv5.mono (TEx.of e612)
        exact ((h5.take k).append (h5.drop (k + 1))).append (TpAll.one (hv.mono (TEx.of (e11.trans e12))))
      have hfitA : ∀ r ∈ rs5.take k ++ rs5.drop (k + 1) ++ [row], Fit tb1.fm r := fun r hr' => by
        rcases List.mem_append.mp hr' with h | h
        · exact rok5.fit r ((out_sub rs5 k).subset h)
        · rw [List.mem_singleton.mp h]; exact hfitR
      have hlenA : (rs5.take k ++ rs5.drop (k + 1) ++ [row]).length = rs5.length := by
        have := out_len (xs := rs5) (j := k) (by omega)
        rw [List.length_append]
        exact this
      have hlenV : (rv5.take k ++ rv5.drop (k + 1) ++ [v]).length = rv5.length := by
        rw [List.length_append]
        exact hol2
      generalize rv5.take k ++ rv5.drop (k + 1) ++ [v] = av at hrows12 hl12 hlenV
      generalize rs5.take k ++ rs5.drop (k + 1) ++ [row] = ar at hrows12 hfitA hlenA
      refine r_forL (xs := av) (fun i σ' H' => ∃ (kvs : List (List Key × V)) (w11 : Option V), Same H5 H' ∧ H' l12 = some (.lst av) ∧ TEx H12 H' ∧ H' D = some (.dT kvs) ∧ RowsD tb1.fm H' kvs ∧ kvs.length ≤ i ∧ i ≤ av.length ∧ σ' = St tb1.name fv lr5 (some (.int (k : Int))) (some (.ref D)) w11 y12 y13)
        ⟨[], y11, e612, hl12, TEx.refl _, hD12, ⟨List.nodup_nil, fun _ h => (by cases h)⟩, Nat.le_refl _, Nat.zero_le _, rfl⟩ (fun i σ' H' ⟨_, _, _, e, _⟩ => SqL.of e) ?_ ?_
      · rintro i x σ' H' hx ⟨kvs, w11, e, hl12', tx, hDk, hR, hkl, hi, rfl⟩
        have hil := (List.getElem?_eq_some_iff.mp hx).1
        obtain ⟨d, hd, htp⟩ := hrows12.get' hx
        rw [List.getElem?_map] at hd
        cases hri : ar[i]? with
        | none => rw [hri] at hd; cases hd
        | some r =>
          rw [hri] at hd
          cases hd
          have hrf := hfitA r (List.mem_iff_getElem?.mpr ⟨i, hri⟩)
          have hxt := htp.mono tx
          walk_at "rs"
          refine ⟨fv, x, tb1.fm, r, rfl, hfv5.mono (TEx.of e), tok.fm, hxt, hrf, fun kv H13 e13 hkv => ?_⟩
          have hkk := key_kk tok.fm hrf
          obtain ⟨ka, kx, rfl, hka, hkt⟩ := hkv.inv
          rw [hkk] at hkt
          rw [tp_kk hkt] at hka
          walk_at "rs"
          have hD13 := e13 _ _ hDk
          refine r_dputT hD13 hka (by omega) fun H14 e14 => ?_
          subst e14
          have tD : TEx H13 (upd H13 D (.dT (putK kvs ((keyL tb1.fm r).map kOf) x))) := TEx.upd hD13 fun xs z => by cases z
          obtain ⟨p1, p2⟩ := (hR.mono ((TEx.of e13).trans tD)).put (k := (keyL tb1.fm r).map kOf) (v := x) (r := r) ⟨hkk, (hxt.mono (TEx.of e13)).mono tD, hrf⟩
          refine ⟨_, _, same_mut (e.trans e13) hDn, ?_, tx.trans ((TEx.of e13).trans tD), upd_same, p1, by omega, hil, rfl⟩
          rw [upd_ne (by rintro rfl; rw [hl12'] at hDk; cases hDk)]
          exact e13 _ _ hl12'
      · rintro σ' H' ⟨kvs, w11, e, hl12', tx, hDk, hR, hkl, hi, rfl⟩
        obtain ⟨rs, hpd⟩ := pd_choose hR.all
        have hrl := pd_len hpd
        have ndR := rw_nd hpd hR.nd
        have hfit : ∀ r ∈ rs, Fit tb1.fm r := fun r hr' => by
          obtain ⟨i, hi⟩ := List.mem_iff_getElem?.mp hr'
          obtain ⟨kv, _, h⟩ := pd_get' hpd hi
          exact h.2.2
        have hpm := sortR_perm tb1.fm rs
        have hss := sortR_srt tok.fm hfit ndR
        have hsl : (sortR tb1.fm rs).length = rs.length := hpm.length_eq
        walk_at "rs"
        refine r_list_dT hDk fun l2 bs H13 hl2 e13 hks hbs => ?_
        walk_at "rs"
        refine r_srt hbs (rw_keys e13 hpd hks) (keys_alike tok.fm hfit) (keys_sort tok.fm rs) (fun d hd => ?_) fun l14 zs es H14 hl14n e14 pm sr hl14' hzs => ?_
        · obtain ⟨r, hr', rfl⟩ := List.mem_map.mp hd
          exact Nat.le_trans (keys_depth tok.fm (hfit r hr')) (by decide)
        have ees : es = (sortR tb1.fm rs).map (keyT tb1.fm) := sort_eq (pm.trans (hpm.map (keyT tb1.fm)).symm) sr hss
        subst ees
        have hzl := hzs.length
        rw [List.length_map] at hzl
        have hD14 := e14 _ _ (e13 _ _ hDk)
        refine r_lcL hl14' (by omega) (fun _ => true) (fun i y H => Tp H y (.tuple ((sortR tb1.fm rs).getD i []))) (fun k y H H' e h => h.mono e) (fun i x hx => lc_one rfl fun H15 Qs e15 qs => ?_) fun L16 ys H16 hL16 e16 hl16 hp16 => ?_
        · obtain ⟨d, hd, htp⟩ := hzs.get' hx
          rw [List.getElem?_map] at hd
          cases hsi : (sortR tb1.fm rs)[i]? with
          | none => rw [hsi] at hd; cases hd
          | some r =>
            rw [hsi] at hd
            cases hd
            have hrm : r ∈ rs := hpm.subset (List.mem_iff_getElem?.mpr ⟨i, hsi⟩)
            obtain ⟨j, hj⟩ := List.mem_iff_getElem?.mp hrm
            obtain ⟨kv, hkv, hk1, hk2, _⟩ := pd_get' hpd hj
            obtain ⟨xa, xv, rfl, hxa, hxt⟩ := htp.inv
            rw [hk1] at hxt
            rw [tp_kk hxt] at hxa
            have hval : valV kvs kv.1 = some kv.2 := valV_mem hR.nd (List.mem_iff_getElem?.mpr ⟨j, hkv⟩)
            walk_at "rs"
            refine r_dgetT (e15 _ _ hD14) (e15 _ _ hxa) hval ?_
            refine qs _ H15 (Same.refl _) ?_
            rw [getD_some hsi]
            exact hk2.mono (TEx.of (e13.trans (e14.trans e15)))
        · rw [filter_all] at hp16
          have hp17 := pd_tp hp16
          have er := congrArg (List.map PyData.tuple) (range_map (sortR tb1.fm rs) [])
          rw [List.map_map] at er
          have er : (List.range (sortR tb1.fm rs).length).map (fun i => PyData.tuple ((sortR tb1.fm rs).getD i [])) = (sortR tb1.fm rs).map PyData.tuple := er
          rw [hzl, er] at hp17
          walk_at "rs"
          exact hZ _ _ ⟨L16, ys, sortR tb1.fm rs, _, _, _, _, _, g5.trans (Gr.of (e.trans (e13.trans (e14.trans e16)))), hl16, hp17, ⟨fun r hr' => hfit r (hpm.subset hr'), hss, by omega⟩, rfl⟩
    clear hl15 hfv5 hlr5 hrv5 r64 rok5 hrl5 g5
    rintro σ5 H5 ⟨lr5, rv5, rs5, y9, y10, y11, y12, y13, g5, hlr5, hrv5, rok5, rfl⟩
    have hrl5 := hrv5.length
    rw [List.length_map] at hrl5
    have hl15 := g5.lst hl14
    have hL05 := g5.lst hL04
    have hfv5 := hfv4.mono g5.tex
    have htv5 : TabsV H5 tv ts := (htv.same e14).gr g5
    have r64 := rok5.len
    refine r_join (fun σ' H' => ∃ (nm : Str) (y9 y10 y11 y12 y13 : Option V), Gr K H5 H' ∧ NmOk nm ∧ nm ∉ O.map (·.name) ∧ σ' = St nm fv lr5 y9 y10 y11 y12 y13) (fun Z hZ => ?_) ?_
    · have back : ∀ H', Same H5 H' → ∀ y9 y10 y11 y12 y13, Z (St tb1.name fv lr5 y9 y10 y11 y12 y13) H' := fun H' e y9 y10 y11 y12 y13 => hZ _ _ ⟨tb1.name, _, _, _, _, _, Gr.of e, ⟨tok.n1, tok.n12⟩, hOn, rfl⟩
      have h12 := tok.n12
      have ha1 : ("a" : Str).length = 1 := rfl
      walk_at "rs"
      refine r_ite (fun _ => ?_) (fun _ => back _ (Same.refl _) _ _ _ _ _)
      walk_at "rs"
      refine ⟨tb1.name, "a", rfl, rfl, Nat.le_trans (show _ ≤ 100 by omega) (by decide), ?_⟩
      walk_at "rs"
      refine r_lcL hL05 (by omega) (fun _ => true) (fun i y _ => ∃ t, ts[i]? = some t ∧ y = V.str t.name) (fun _ _ _ _ _ h => h) (fun i x hx => lc_one rfl fun H3 Qs e3 qs => ?_) fun l6 ys H6 hl6n e6 hl6 hp6 => ?_
      · obtain ⟨tb2, l2, hti, p2, f2, rv2, rfl, hp2, _⟩ := tabs_sub htv5 hx
        walk_at "rs"
        exact r_ixT (e3 _ _ hp2) (atI_nat (j := 0) rfl) (qs _ H3 (Same.refl _) ⟨tb2, hti, rfl⟩)
      rw [filter_all, htl] at hp6
      rw [names_pd hp6 rfl] at hl6
      refine r_inL hl6 rfl ?_
      walk_at "rs"
      refine r_ite (fun hin => ?_) (fun _ => back _ e6 _ _ _ _ _)
      have hnin : tb1.name ++ "a" ∉ ts.map (·.name) := by
        have hin : (!decide (tb1.name ++ "a" ∈ ts.map (·.name))) = true := hin
        simpa using hin
      walk_at "rs"
      refine r_lnS (Nat.le_trans h12 (by decide)) ?_
      walk_at "rs"
      refine r_ite (fun hlt => ?_) (fun _ => back _ e6 _ _ _ _ _)
      have hlt : (tb1.name.length : Int) < 12 := of_decide_eq_true hlt
      walk_at "rs"
      refine ⟨tb1.name, "a", rfl, rfl, Nat.le_trans (show _ ≤ 100 by omega) (by decide), ?_⟩
      walk_at "rs"
      refine hZ _ _ ⟨tb1.name ++ "a", _, _, _, _, _, Gr.of e6, ⟨by rw [app_len]; omega, by rw [app_len]; omega⟩, fun z => hnin ?_, rfl⟩
      obtain ⟨u, hu, e⟩ := List.mem_map.mp z
      exact List.mem_map.mpr ⟨u, hosub.subset hu, e⟩
    rintro σ6 H6 ⟨nm, y9, y10, y11, y12, y13, g6, hnmok, hnmO, rfl⟩
    have g46 := g5.trans g6
    have hlr6 := g6.lst hlr5
    have hrv6 := hrv5.mono g6.tex
    have hfv6 := hfv5.mono g6.tex
    have hl16 := g6.lst hl15
    clear hrv5 hlr5 hfv5 hl15 hL05 htv5
    refine r_join (fun σ' H' => ∃ (fv : V) (fm : Fm) (lr : Addr) (rv : List V) (rs : List (List PyData)) (y9 y10 y11 y12 y13 : Option V), Gr K H6 H' ∧ Tp H' fv fm.d ∧ fm.Ok ∧ H' lr = some (.lst rv) ∧ TpAll H' rv (rs.map PyData.tuple) ∧ RwOk fm rs tb1.rows.length ∧ σ' = St nm fv lr y9 y10 y11 y12 y13) (fun Z hZ => ?_) ?_
    · walk_at "rs"
      refine r_ite (fun _ => ?_) (fun _ => hZ _ _ ⟨fv, tb1.fm, lr5, rv5, rs5, _, _, _, _, _, Gr.refl _ _, hfv6, tok.fm, hlr6, hrv6, rok5, rfl⟩)
      walk_at "rs"
      refine r_ixL hl16 (atI_nat ht3) ?_
      walk_at "rs"
      refine ⟨fv, t3, tb1.fm, rfl, hfv6, good.ck, hb3, fun fv7 fm7 H7 e7 hfv7 hck7 hn7 hk7 hp7 => ?_⟩
      walk_at "rs"
      have ok7 : fm7.Ok := hck7.fm
      have fit7 : ∀ r ∈ rs5, Fit fm7 r := fun r hr' => fit_other hn7 hk7 (rok5.fit r hr')
      have hrv7 := hrv6.mono (TEx.of e7)
      have tb7 : Tb K H7 := ((Gr.of e14).trans (g46.trans (Gr.of e7))).tb tb
      refine r_srtL (kRow fm7) tb7 (e7 _ _ hlr6) hrv7 (by rw [kRow_map]; exact keys_alike ok7 fit7) (by rw [kRow_map]; exact keys_sort ok7 rs5) (fun d hd => ?_) (fun i v d hd htp H8 Qs g8 qs => ?_) fun l8 zs es H8 g8 nl8 pm sr hl8 hz8 => ?_
      · obtain ⟨r, hr', rfl⟩ := List.mem_map.mp hd
        exact Nat.le_trans (keys_depth ok7 (fit7 r hr')) (by decide)
      · rw [List.getElem?_map] at hd
        cases hri : rs5[i]? with
        | none => rw [hri] at hd; cases hd
        | some r =>
          rw [hri] at hd
          cases hd
          walk_at "rs"
          exact ⟨fv7, v, fm7, r, rfl, hfv7.mono g8.tex, ok7, htp.mono g8.tex, fit7 r (List.mem_iff_getElem?.mpr ⟨i, hri⟩), fun kv H9 e9 hkv => qs kv H9 (Gr.of e9) hkv⟩
      · obtain ⟨ds, pds, eds⟩ := perm_map pm rfl
        rw [eds] at hz8 sr
        rw [kRow_map] at sr
        have fitd : ∀ r ∈ ds, Fit fm7 r := fun r hr' => fit7 r (pds.subset hr')
        have ndd : (ds.map (keyT fm7)).Nodup := ((pds.map (keyT fm7)).nodup_iff).mpr (nd_other hn7 hp7 (srtS_nd rok5.srt))
        walk_at "rs"
        exact hZ _ _ ⟨fv7, fm7, l8, zs, ds, _, _, _, _, _, (Gr.of e7).trans g8, hfv7.mono g8.tex, ok7, hl8, hz8, ⟨fitd, keys_rise ok7 fitd ndd sr, by rw [pds.length_eq]; exact rok5.len⟩, rfl⟩
    clear hfv6 hrv6 hlr6 rok5 hfv4
    rintro σ7 H7 ⟨fv7, fm7, lr7, rv7, rs7, y9, y10, y11, y12, y13, g7, hfv7, ok7, hlr7, hrv7, rok7, rfl⟩
    have g47 := g46.trans g7
    walk_at "rs"
    refine r_newT (Nat.le_of_ble_eq_true rfl) fun p8 H8 hp8n e8 hp8 => ?_
    walk_at "rs"
    refine r_newL (Nat.le_of_ble_eq_true rfl) fun l9 H9 hl9n e9 hl9 => ?_
    walk_at "rs"
    refine r_cat ((e8.trans e9) _ _ (g47.lst hl4)) hl9 (by show _ + 1 ≤ _; omega) fun l10 H10 hl10n e10 hl10 => ?_
    walk_at "rs"
    have e810 := e8.trans (e9.trans e10)
    let nt : Tab := ⟨nm, fm7, rs7⟩
    have ntok : nt.Ok := ⟨hnmok.1, hnmok.2, ok7, rok7.fit, Nat.le_trans rok7.len h64, rok7.srt⟩
    have hall : TabsV H10 (ov ++ [V.ref p8]) (O ++ [nt]) := pd_app ((hO.gr g47).same e810) (.cons ⟨lr7, p8, fv7, rv7, rfl, (e9.trans e10) _ _ hp8, hfv7.mono (TEx.of e810), e810 _ _ hlr7, hrv7.mono (TEx.of e810)⟩ .nil)
    have g10 := (Gr.of e14).trans (g47.trans (Gr.of e810))
    refine r_srtG (fun v t => ∃ l, TabA H10 v t l) (fun t : Tab => PyData.str t.name) (g10.tb tb) hl10 hall (tab_alike _) (tab_sort _) (fun t _ => ?_) (fun v t ht hF H11 Qs g11 qs => ?_) fun l zs es H11 g11 nl pm sr hl11 hz11 => ?_
    · show (PyData.str t.name).depth ≤ 50
      unfold PyData.depth
      exact Nat.zero_le _
    · obtain ⟨l, p, f', rv, rfl, hp, _⟩ := hF
      walk_at "rs"
      exact r_ixT (g11.tex _ _ hp) (atI_nat (j := 0) rfl) (qs _ H11 (Gr.refl _ _) (.str _))
    · refine q l zs es H11 (g10.trans g11) hl11 (TabsV.gr hz11 g11) ?_ (nmT_of ?_ sr) fun t ht => ?_
      · rw [pm.length_eq, List.length_append]
        show _ + 1 ≤ _
        omega
      · refine ((pm.map (·.name)).nodup_iff).mpr ?_
        rw [List.map_append]
        exact nd_snoc (nmT_nd hOnm) hnmO
      · rcases List.mem_append.mp (pm.subset ht) with h | h
        · exact hOok t h
        · rw [List.mem_singleton.mp h]; exact ntok
end
end Vt
-- VtE7
set_option Elab.async false
set_option linter.all false
set_option maxRecDepth 100000
set_option maxHeartbeats 4000000
namespace Vt
open PySem PySem.Spec PyProof.Rows L2 LamX NdefX
local macro_rules | `(tactic| walk_at "rd") => `(tactic| (repeat (first
  | with_reducible refine r_sasg ?_ | with_reducible refine r_sfset ?_ | with_reducible refine r_sfaug ?_ | with_reducible refine r_sdput ?_ | with_reducible refine r_sdrop ?_ | with_reducible refine r_swhen ?_ | with_reducible refine r_sif ?_ | with_reducible refine r_asg ?_ | with_reducible refine r_drop ?_
  | with_reducible refine r_ret ?_ | with_reducible refine r_if ?_ | with_reducible refine r_next ?_
  | with_reducible refine r_c ?_ | with_reducible refine r_var (by with_unfolding_all exact rfl) ?_ | with_reducible refine r_op ?_ | with_reducible refine r_un ?_ | with_reducible refine r_I0 ?_ | ((with_reducible refine r_I ?_ ?_); · first | (show (0 : Int) < _; decide) | exact div_ok (by decide) (by decide)) | with_reducible refine r_U ?_
  | with_reducible refine r_eq (by with_unfolding_all exact rfl) ?_ | with_reducible refine r_ne (by with_unfolding_all exact rfl) ?_
  | with_reducible refine r_tstq ?_ | with_reducible refine r_tBq ?_ | with_reducible refine r_blq ?_ | with_reducible refine r_intq ?_ | with_reducible refine r_and ?_ | with_reducible refine r_or ?_ | with_reducible refine r_not ?_
  | with_reducible refine r_andV ?_ | with_reducible refine r_orV ?_ | with_reducible refine r_notV ?_
  | with_reducible refine r_nil ?_ | with_reducible refine r_cons ?_ | with_reducible refine r_call ?_ | with_reducible refine r_tup ?_ | with_reducible refine r_lst ?_ | with_reducible refine r_cb ?_ | with_reducible refine r_int1 ?_ | with_reducible refine r_ord ?_
  | with_reducible refine r_sl ?_ | with_reducible refine r_nop ?_ | with_reducible refine r_partq ?_ | with_reducible refine r_bm ?_ | with_reducible refine r_fld ?_
  | with_reducible refine r_lct ?_ | with_reducible refine r_lcl ?_ | with_reducible refine r_lcr ?_ | with_reducible refine r_sfort ?_ | with_reducible refine r_sforl ?_ | with_reducible refine r_sfors ?_ | with_reducible refine r_sforr ?_ | with_reducible refine r_sforz ?_
  | with_reducible refine r_fort ?_ | with_reducible refine r_forl ?_ | with_reducible refine r_forr ?_ | with_reducible refine r_sasgt ?_ | with_reducible refine r_asgt ?_ | with_reducible refine r_saug (by with_unfolding_all exact rfl) ?_ | with_reducible refine r_aug (by with_unfolding_all exact rfl) ?_ | with_reducible refine r_ip ?_ | with_reducible refine r_gname ?_ | with_reducible refine r_seq ?_
  | with_reducible refine r_dget ?_ | with_reducible refine r_din ?_ | with_reducible refine r_dnotin ?_ | with_reducible refine r_sdput ?_ | with_reducible refine r_dput ?_ | with_reducible refine r_mg ?_ | with_reducible refine r_rev ?_ | with_reducible refine r_dzip ?_
  | with_reducible refine r_lcz ?_ | with_reducible refine r_form ?_
  | with_reducible refine r_sfset ?_ | with_reducible refine r_fset ?_ | with_reducible refine r_sfaug ?_ | with_reducible refine r_meth ?_ | with_reducible refine r_make ?_
  | with_reducible refine r_srtl ?_ | with_reducible refine r_m1q ?_ | with_reducible refine r_strq ?_
  | with_reducible refine r_iteT ?_ | with_reducible refine r_iteF ?_)))
local macro_rules | `(tactic| walk_at "rs") => `(tactic| (repeat (first
  | with_reducible refine r_sasg ?_ | with_reducible refine r_sfset ?_ | with_reducible refine r_sfaug ?_ | with_reducible refine r_sdput ?_ | with_reducible refine r_sdrop ?_ | with_reducible refine r_asg ?_ | with_reducible refine r_drop ?_
  | with_reducible refine r_ret ?_ | with_reducible refine r_next ?_
  | with_reducible refine r_c ?_ | with_reducible refine r_var (by with_unfolding_all exact rfl) ?_ | with_reducible refine r_op ?_ | with_reducible refine r_un ?_ | with_reducible refine r_I0 ?_ | ((with_reducible refine r_I ?_ ?_); · first | (show (0 : Int) < _; decide) | exact div_ok (by decide) (by decide)) | with_reducible refine r_U ?_
  | with_reducible refine r_eq (by with_unfolding_all exact rfl) ?_ | with_reducible refine r_ne (by with_unfolding_all exact rfl) ?_
  | with_reducible refine r_tstq ?_ | with_reducible refine r_tBq ?_ | with_reducible refine r_blq ?_ | with_reducible refine r_intq ?_ | with_reducible refine r_and ?_ | with_reducible refine r_or ?_ | with_reducible refine r_not ?_
  | with_reducible refine r_andV ?_ | with_reducible refine r_orV ?_ | with_reducible refine r_notV ?_
  | with_reducible refine r_nil ?_ | with_reducible refine r_cons ?_ | with_reducible refine r_call ?_ | with_reducible refine r_tup ?_ | with_reducible refine r_lst ?_ | with_reducible refine r_cb ?_ | with_reducible refine r_int1 ?_ | with_reducible refine r_ord ?_
  | with_reducible refine r_sl ?_ | with_reducible refine r_nop ?_ | with_reducible refine r_partq ?_ | with_reducible refine r_bm ?_ | with_reducible refine r_fld ?_
  | with_reducible refine r_lct ?_ | with_reducible refine r_lcl ?_ | with_reducible refine r_lcr ?_ | with_reducible refine r_sfort ?_ | with_reducible refine r_sforl ?_ | with_reducible refine r_sfors ?_ | with_reducible refine r_sforr ?_ | with_reducible refine r_sforz ?_
  | with_reducible refine r_fort ?_ | with_reducible refine r_forl ?_ | with_reducible refine r_forr ?_ | with_reducible refine r_sasgt ?_ | with_reducible refine r_asgt ?_ | with_reducible refine r_saug (by with_unfolding_all exact rfl) ?_ | with_reducible refine r_aug (by with_unfolding_all exact rfl) ?_ | with_reducible refine r_ip ?_ | with_reducible refine r_gname ?_ | with_reducible refine r_seq ?_
  | with_reducible refine r_dget ?_ | with_reducible refine r_din ?_ | with_reducible refine r_dnotin ?_ | with_reducible refine r_sdput ?_ | with_reducible refine r_dput ?_ | with_reducible refine r_mg ?_ | with_reducible refine r_rev ?_ | with_reducible refine r_dzip ?_
  | with_reducible refine r_lcz ?_ | with_reducible refine r_form ?_
  | with_reducible refine r_sfset ?_ | with_reducible refine r_fset ?_ | with_reducible refine r_sfaug ?_ | with_reducible refine r_meth ?_ | with_reducible refine r_make ?_
  | with_reducible refine r_srtl ?_ | with_reducible refine r_m1q ?_ | with_reducible refine r_strq ?_
  | with_reducible refine r_iteT ?_ | with_reducible refine r_iteF ?_)))
local macro_rules | `(tactic| walk_at "tex") => `(tactic| (first
  | assumption | exact TEx.refl _ | exact TEx.of (by assumption) | ((refine TEx.trans ?_ (TEx.of (by assumption))); walk_at "tex") | ((refine TEx.trans ?_ (by assumption)); walk_at "tex")))
local macro_rules | `(tactic| walk_at "same") => `(tactic| (first
  | assumption | exact Same.refl _ | ((refine Same.trans ?_ (by assumption)); walk_at "same")))
local macro_rules | `(tactic| walk_at "tp") => `(tactic| (first
  | assumption | exact Tp.int _ | exact Tp.str _ | exact Tp.non | exact TpAll.nil | ((refine TpAll.cons ?_ ?_) <;> walk_at "tp") | ((refine Tp.mono ?_ (by assumption)); walk_at "tex") | ((refine TpAll.mono ?_ (by assumption)); walk_at "tex")))
local macro_rules | `(tactic| walk_at "hp") => `(tactic| (first
  | assumption | ((refine (TEx.trans ?_ (TEx.refl _)) _ _ (by assumption)); walk_at "tex")))
/-- an instance is made: what stood stands -/
theorem made_same {H H' : Hp} {x dx : Addr} {o u : HO} (h1 : H x = none) (h2 : H dx = none) (e : ExB [x] (upd (upd H dx o) x u) H') : Same H H' := fun a v h => by
  have n1 : a ≠ x := fun z => by rw [z, h1] at h; cases h
  have n2 : a ≠ dx := fun z => by rw [z, h2] at h; cases h
  refine e a v (by simpa using n1) ?_
  rw [upd_ne n1, upd_ne n2]
  exact h
theorem made_none {H : Hp} {x dx n : Addr} {o u : HO} (h : upd (upd H dx o) x u n = none) : H n = none := by
  cases z : H n with
  | none => rfl
  | some v =>
    by_cases n1 : n = x
    · rw [n1, upd_same] at h; cases h
    · rw [upd_ne n1] at h
      by_cases n2 : n = dx
      · rw [n2, upd_same] at h; cases h
      · rw [upd_ne n2, z] at h; cases h
theorem r_join2 {σ : L2.St} {H : Hp} {n : L2.St → Hp → Prop} {r : VK} {b c : L2.St → Hp → Prop} {k : TT} {t u : TS} (I : L2.St → Hp → Prop) (h1 : ∀ Z : L2.St → Hp → Prop, (∀ σ' H', I σ' H' → Z σ' H') → k σ H fun e H1 => if e = true then t ⟨Z, r, b, c⟩ σ H1 else u ⟨Z, r, b, c⟩ σ H1) (h2 : ∀ σ' H', I σ' H' → n σ' H') : tIfS k t u ⟨n, r, b, c⟩ σ H := h1 _ h2
theorem Sg.new {K : PySem.W.Frag} {H : Hp} {b n c t dx dc : Addr} (hb : H b = some (.ins (cB K) dx [("numbers", .ref n)])) (hn : H n = some (.dK [])) (hc : H c = some (.ins (cC K) dc [("book", .ref b), ("reads", .int 0), ("texts", .ref t)])) (ht : H t = some (.dK [])) (nt : n ≠ t) (bc : b ≠ c) (tb : Tb K H) : Sg K H b n c t [] (fun _ _ => False) 0 :=
  ⟨⟨dx, hb⟩, ⟨[], hn, rfl, fun i x h => (by cases h), fun x _ => rfl⟩, List.nodup_nil, ⟨dc, 0, hc⟩, ⟨[], ht, Nat.le_refl _, fun _ _ h => h.elim⟩, fun _ _ h => h.elim, Nat.le_refl _, nt, bc, tb⟩
section
variable {P : Program} {w : World} {K : PySem.W.Frag} {mg : Str → Option Value} {base : Heap}
/-! ### law -/
abbrev n_law : List Str := ["_law_script", "_law_head", "_law_tables_here", "_law_book", "_law_first", "_law_second", "_law_state", "_law_led", "_law_changed", "_law_other"]
theorem sc_law : FnScope n_law ["_law_script"] (defScope s_law) := ⟨rfl, rfl, rfl, by decide +kernel, rfl, by decide +kernel, by decide +kernel⟩
theorem bd_law : BindH "law" s_law ["_law_script"] := fun _ _ _ _ _ _ us hl => match us, hl with | [_], _ => rfl
def spLaw (K : PySem.W.Frag) : Sp := fun vs H Q _ => ∃ sa : Addr, vs = [.ref sa] ∧ Scr K H sa ∧ Tb K H ∧ ∀ H', Q (.bl true) H'
/-- THE RULE for a def, its function object told -/
theorem fn_ofD {x : Str} {st : Stmt} {N ps : List Str} {k : Nat} {sp : Sp} {f : Addr} {fd : FuncData} (G : FnP K x st f fd) (S : FnScope N ps (defScope st)) (len : ∀ vs H Q E, sp vs H Q E → vs.length = ps.length)
    (body : ∀ (cdv : Value) (A : Around) (outer : List Env) (s : Shared) (H0 : Hp) (E : XK), Room k (A.deeper (envOfC x (defScope st) s.heap.objs.size f cdv)) →
      ∃ t, PSs (cxV P w K mg base N x st f cdv A outer s H0 E) (defBody st) t ∧ ∀ (vs : List V) (H : Hp) (Q : VK), sp vs H Q E → t { nx := fun _ H' => Q .non H', rt := Q } (start N vs) H) : FnOk P w K mg base CX0 (k + 1) f fd ps sp := by
  refine G.ok S len fun cdv A outer s H vs Q E hr h => ?_
  obtain ⟨t, d, q⟩ := body cdv A outer s H E hr
  exact ⟨t, PSs.nox d, q vs H Q h⟩
theorem fn_law (T : Tx K mg) (L : Tl K mg base) {f : Addr} {fd : FuncData} (G : FnP K "law" s_law f fd) : FnOk P w K mg base CX0 27 f fd ["_law_script"] (spLaw K) := by
  have c_law_draws := cal_law_draws (P := P) (w := w) (base := base) T
  have c_law_cell := cal_law_cell (P := P) (w := w) (base := base) T
  have c_law_thing := cal_law_thing (P := P) (w := w) (base := base) T
  have c_law_tables := cal_law_tables (P := P) (w := w) (base := base) T L
  have c_law_wide := cal_law_wide (P := P) (w := w) (base := base) T L
  have c_Book := cal_Book_init (P := P) (w := w) (mg := mg) (base := base) T
  have c_Chunks := cal_Chunks_init (P := P) (w := w) (mg := mg) (base := base) T
  have c_law_at_once := cal_law_at_once (P := P) (w := w) (base := base) T L
  have c_law_mostly_at_once := cal_law_mostly_at_once (P := P) (w := w) (base := base) T L
  have c_law_step_by_step := cal_law_step_by_step (P := P) (w := w) (base := base) T L
  have c_law_same := cal_law_same (P := P) (w := w) (base := base) T 1
  have c_law_is_plain := cal_law_is_plain (P := P) (w := w) (base := base) T
  have c_law_with_change := cal_law_with_change (P := P) (w := w) (base := base) T L
  refine fn_ofD G sc_law (fun vs H Q E h => ?_) fun cdv A outer s H0 E hr => ⟨_, (pss_cons (ps_set (i := 1) sc_law.nd rfl (Or.inl rfl) (pe_cal c_law_draws (hr.mono (by omega)) (by rfl) (pa_cons (pe_cal c_law_cell (hr.mono (by omega)) (by rfl) (pa_cons (pv 0) (pa_cons pe_int pa_nil))) (pa_cons pe_int (pa_cons pe_int (pa_cons pe_int pa_nil))))))
      (pss_cons (ps_set (i := 2) sc_law.nd rfl (Or.inl rfl) (pe_cal c_law_tables (hr.mono (by omega)) (by rfl) (pa_cons (pv 0) (pa_cons (pe_op op_mod (pe_callTy cr_int1 (by rfl) T.m_int (by decide +kernel) (pa_cons (pe_ix (ix_listK (K := K) rfl) (pv 1) pe_int (fun _ _ => rfl)) pa_nil)) pe_int) (pa_cons pe_int pa_nil)))))
      (pss_cons (ps_if (pt_cmpR op_eq (pe_op op_mod (pe_callTy cr_int1 (by rfl) T.m_int (by decide +kernel) (pa_cons (pe_ix (ix_listK (K := K) rfl) (pv 1) pe_int (fun _ _ => rfl)) pa_nil)) pe_int) pe_int (nomark _))
      (pss_one (ps_set (i := 2) sc_law.nd rfl (Or.inl rfl) (pe_cal c_law_wide (hr.mono (by omega)) (by rfl) (pa_cons (pv 0) (pa_cons (pe_op op_add pe_int (pe_op op_mod (pe_callTy cr_int1 (by rfl) T.m_int (by decide +kernel) (pa_cons (pe_op op_fdivW (pe_ix (ix_listK (K := K) rfl) (pv 1) pe_int (fun _ _ => rfl)) pe_int) pa_nil)) pe_int)) pa_nil)))))
      pss_nil)
      (pss_cons (ps_set (i := 3) sc_law.nd rfl (Or.inl rfl) (pe_cali0 c_Book (hr.mono (by omega)) (by rfl)))
      (pss_cons (ps_set (i := 4) sc_law.nd rfl (Or.inl rfl) (pe_cali c_Chunks (hr.mono (by omega)) (by rfl) (pa_cons (pv 3) pa_nil)))
      (pss_cons (ps_set (i := 5) sc_law.nd rfl (Or.inl rfl) (pe_cali c_Chunks (hr.mono (by omega)) (by rfl) (pa_cons (pv 3) pa_nil)))
      (pss_cons (ps_set (i := 6) sc_law.nd rfl (Or.inl rfl) (pe_cal c_law_at_once (hr.mono (by omega)) (by rfl) (pa_cons (pv 4) (pa_cons (pv 2) pa_nil))))
      (pss_cons (ps_if (pt_cmpR op_gt (pe_callB (cr_lnK (K := K) rfl) (by rfl) T.m_len PySem.boot_len (pa_cons (pv 2) pa_nil)) pe_int (nomark _))
      (pss_one (ps_set (i := 7) sc_law.nd rfl (Or.inl rfl) (pe_cal c_law_mostly_at_once (hr.mono (by omega)) (by rfl) (pa_cons (pv 0) (pa_cons (pv 5) (pa_cons (pv 2) pa_nil))))))
      (pss_one (ps_set (i := 7) sc_law.nd rfl (Or.inl rfl) (pe_cal c_law_step_by_step (hr.mono (by omega)) (by rfl) (pa_cons (pv 0) (pa_cons (pv 5) (pa_cons (pv 2) pa_nil)))))))
      (pss_cons (ps_if (pt_not (pt_val (pe_cal c_law_same (hr.mono (by omega)) (by rfl) (pa_cons (pv 7) (pa_cons (pv 6) pa_nil)))))
      (pss_one (ps_ret pe_bl))
      pss_nil)
      (pss_cons (ps_if (PW.pt (pw_or (pt_not (pt_val (pe_cal c_law_is_plain (hr.mono (by omega)) (by rfl) (pa_cons (pv 4) (pa_cons (pv 6) (pa_cons (pv 2) pa_nil)))))) (pw_or1 (pt_not (pt_val (pe_cal c_law_is_plain (hr.mono (by omega)) (by rfl) (pa_cons (pv 5) (pa_cons (pv 6) (pa_cons (pv 2) pa_nil)))))))))
      (pss_one (ps_ret pe_bl))
      pss_nil)
      (pss_cons (ps_set (i := 8) sc_law.nd rfl (Or.inl rfl) (pe_cal c_law_with_change (hr.mono (by omega)) (by rfl) (pa_cons (pv 2) (pa_cons (pe_cal c_law_thing (hr.mono (by omega)) (by rfl) (pa_cons (pv 0) (pa_cons pe_int pa_nil))) pa_nil))))
      (pss_cons (ps_set (i := 9) sc_law.nd rfl (Or.inl rfl) (pe_cal c_law_at_once (hr.mono (by omega)) (by rfl) (pa_cons (pv 5) (pa_cons (pv 8) pa_nil))))
      (pss_one (ps_ret (pe_and (pe_cmpR op_eq (pe_cmpR op_eq (pv 9) (pv 6) (nomark _)) (pe_cmpR (op_eqP (K := K) rfl hr.units) (pv 8) (pv 2) (nomark _)) (nomark _)) (pe_one (pe_cal c_law_is_plain (hr.mono (by omega)) (by rfl) (pa_cons (pv 5) (pa_cons (pv 9) (pa_cons (pv 8) pa_nil)))))))))))))))))))), fun vs H Q h => ?_⟩
  · obtain ⟨sa, rfl, _⟩ := h
    rfl
  · obtain ⟨sa, rfl, hs, tb, q⟩ := h
    walk_at "rs"
    refine ⟨sa, 0, rfl, hs, fun z hz => ?_⟩
    walk_at "rs"
    refine ⟨z, 0, 2, 1000, rfl, hz, by decide, by decide, by decide, by decide, fun l1 H1 ns e1 hns hnum hl1 _ => ?_⟩
    obtain ⟨t0, ht0, hn0⟩ := num_at hnum (j := 0) (by omega)
    obtain ⟨t1, ht1, hn1⟩ := num_at hnum (j := 1) (by omega)
    walk_at "rs"
    refine r_ixL hl1 (atI_nat ht0) ?_
    walk_at "rs"
    have p1 := Int.emod_nonneg t0 (show (5 : Int) ≠ 0 by decide)
    have p2 := Int.emod_lt_of_pos t0 (show (0 : Int) < 5 by decide)
    generalize hm : (t0 % 5).toNat = m
    have em : t0 % 5 = (m : Int) := by omega
    rw [em]
    refine ⟨sa, m, 1, rfl, hs.gr (Gr.of e1), by omega, by omega, (Gr.of e1).tb tb, fun l2 tv2 ts2 H2 g2 hl2 htv2 htl2 hnm2 hgood2 => ?_⟩
    walk_at "rs"
    have g12 := (Gr.of e1).trans g2
    have hl12 := g2.lst hl1
    refine r_joinU (fun σ' H' => ∃ (l : Addr) (tv : List V) (ts : List Tab), Gr K H H' ∧ H' l = some (.lst tv) ∧ TabsV H' tv ts ∧ (∀ t ∈ ts, t.Good) ∧ NmT ts ∧ ts.length ≤ 101 ∧ (4 < ts.length → ∀ t ∈ ts, t.name ≠ "zzzz") ∧ σ' = [some (.ref sa), some (.ref l1), some (.ref l), none, none, none, none, none, none, none]) (fun Z hZ => ?_) ?_
    · walk_at "rs"
      refine r_ixL hl12 (atI_nat ht1) ?_
      walk_at "rs"
      refine r_ite (fun _ => ?_) (fun _ => hZ _ _ ⟨l2, tv2, ts2, g12, hl2, htv2, hgood2, hnm2, by omega, fun h => by omega, rfl⟩)
      walk_at "rs"
      refine r_ixL hl12 (atI_nat ht1) ?_
      walk_at "rs"
      have p3 := Int.emod_nonneg (t1 / 8) (show (81 : Int) ≠ 0 by decide)
      have p4 := Int.emod_lt_of_pos (t1 / 8) (show (0 : Int) < 81 by decide)
      generalize hk : (t1 / 8 % 81).toNat = k
      have ek : t1 / 8 % 81 = (k : Int) := by omega
      rw [ek]
      refine ⟨sa, 20 + k, by rw [Int.natCast_add]; rfl, hs.gr g12, by omega, g12.tb tb, fun l3 tv3 ts3 H3 g3 hl3 htv3 htl3 hnm3 hgood3 hzz3 => ?_⟩
      walk_at "rs"
      exact hZ _ _ ⟨l3, tv3, ts3, g12.trans g3, hl3, htv3, hgood3, hnm3, by omega, fun _ => hzz3, rfl⟩
    clear htv2 hl2 hgood2 hnm2 htl2
    rintro σ3 H3 ⟨l3, tv, ts, g3, hl3, htv3, hgood, hnm, hlen, hzz, rfl⟩
    have hok : ∀ t ∈ ts, t.Ok := fun t ht => (hgood t ht).ok
    walk_at "rs"
    intro b dxb hbn hdbn hdb
    refine ⟨b, dxb, rfl, upd_same, fun n H4 hnb hnn xb hb4 hn4 => ⟨rfl, ?_⟩⟩
    have e4 : Same H3 H4 := made_same hbn hdbn xb
    walk_at "rs"
    intro c1 dx1 hc1n hd1n hd1
    have hbc1 : b ≠ c1 := fun z => by rw [z, hc1n] at hb4; cases hb4
    refine ⟨c1, b, dx1, rfl, fun z => hbc1 z.symm, upd_same, fun u1 H5 hu1 hu1n xc1 hc15 hu15 => ⟨rfl, ?_⟩⟩
    have e5 : Same H4 H5 := made_same hc1n hd1n xc1
    have hu1n4 := made_none hu1n
    walk_at "rs"
    intro c2 dx2 hc2n hd2n hd2
    have hb5 := e5 _ _ hb4
    have hn5 := e5 _ _ hn4
    have hbc2 : b ≠ c2 := fun z => by rw [z, hc2n] at hb5; cases hb5
    refine ⟨c2, b, dx2, rfl, fun z => hbc2 z.symm, upd_same, fun u2 H6 hu2 hu2n xc2 hc26 hu26 => ⟨rfl, ?_⟩⟩
    have e6 : Same H5 H6 := made_same hc2n hd2n xc2
    have hu2n5 := made_none hu2n
    have e36 := e4.trans (e5.trans e6)
    have tb6 : Tb K H6 := (g3.trans (Gr.of e36)).tb tb
    have nt1 : n ≠ u1 := fun z => by rw [z, hu1n4] at hn4; cases hn4
    have nt2 : n ≠ u2 := fun z => by rw [z, hu2n5] at hn5; cases hn5
    have nc : c2 ≠ c1 := fun z => by rw [← z, hc2n] at hc15; cases hc15
    have nu : u2 ≠ u1 := fun z => by rw [← z, hu2n5] at hu15; cases hu15
    have nuc : u1 ≠ c2 := fun z => by rw [z, hc2n] at hu15; cases hu15
    have ncu : c1 ≠ u2 := fun z => by rw [z, hu2n5] at hc15; cases hc15
    have sg1 : Sg K H6 b n c1 u1 [] (fun _ _ => False) 0 := Sg.new (e6 _ _ hb5) (e6 _ _ hn5) (e6 _ _ hc15) (e6 _ _ hu15) nt1 hbc1 tb6
    have sg2 : Sg K H6 b n c2 u2 [] (fun _ _ => False) 0 := Sg.new (e6 _ _ hb5) (e6 _ _ hn5) hc26 hu26 nt2 hbc2 tb6
    have hl6 := e36 _ _ hl3
    have htv6 := htv3.same e36
    have htl := pd_len htv6
    have hs6 : Scr K H6 sa := hs.gr (g3.trans (Gr.of e36))
    clear hbn hdbn hdb xb hc1n hd1n hd1 xc1 hc2n hd2n hd2 xc2 hu1n hu2n hb4 hn4 hc15 hu15 hc26 hu26 hb5 hn5 htv3 hl3
    walk_at "rs"
    refine ⟨b, n, c1, u1, [], _, 0, l3, tv, ts, ts, rfl, sg1, by omega, hl6, htv6, hok, by omega, List.Perm.refl _, hnm, fun a H7 bk7 P7 sg7 wr7 st7 => ?_⟩
    have sg27 := sg2.other sg7 wr7 nc nu (Nat.zero_le _) nuc ncu
    have hl7 := sg1.lst wr7 hl6
    have htv7 := htv6.wr sg1 wr7
    have hs7 := hs6.wr sg1 wr7
    walk_at "rs"
    let St : V → Option V → Option V → L2.St := fun v y8 y9 => [some (.ref sa), some (.ref l1), some (.ref l3), some (.ref b), some (.ref c1), some (.ref c2), some (.int a), some v, y8, y9]
    refine r_join2 (fun σ' H' => ∃ (a' : Int) (bk' : List Str) (P' : Pr), Sg K H' b n c2 u2 bk' P' 230002 ∧ Wr H7 H' n c2 u2 bk7 bk' (fun _ _ => False) P' ∧ StOf P' a' ts ∧ σ' = St (.int a') none none) (fun Z hZ => ?_) ?_
    · walk_at "rs"
      refine r_lnL hl7 ?_
      walk_at "rs"
      refine r_ite (fun h4 => ?_) (fun h4 => ?_)
      · have h4 : (4 : Int) < (tv.length : Int) := of_decide_eq_true h4
        walk_at "rs"
        refine ⟨sa, b, n, c2, u2, bk7, _, _, l3, tv, ts, rfl, hs7, sg27, by omega, hl7, htv7, hok, by omega, by omega, hnm, hzz (by omega), fun a' H8 bk8 P8 sg8 wr8 st8 => ?_⟩
        walk_at "rs"
        exact hZ _ _ ⟨a', bk8, P8, sg8.up (by omega), wr8, st8, rfl⟩
      · have h4 : ¬ (4 : Int) < (tv.length : Int) := of_decide_eq_false h4
        walk_at "rs"
        refine ⟨sa, b, n, c2, u2, bk7, _, _, l3, tv, ts, rfl, hs7, sg27, by omega, hl7, htv7, hok, by omega, hnm, fun a' H8 bk8 P8 sg8 wr8 st8 => ?_⟩
        walk_at "rs"
        exact hZ _ _ ⟨a', bk8, P8, sg8.up (by omega), wr8, st8, rfl⟩
    rintro σ8 H8 ⟨a', bk8, P8, sg8, wr8, st8, rfl⟩
    have ea : a' = a := StOf.uniq (bk_inj sg8.nd) (st8.mono sg8.sub) (st7.mono fun x y h => (sg7.sub x y h).mono wr8.bk)
    subst ea
    have sg18 := sg7.other sg8 wr8 nc.symm nu.symm (by omega) ncu.symm nuc.symm
    have hl8 := sg27.lst wr8 hl7
    have htv8 := htv7.wr sg27 wr8
    have hs8 := hs7.wr sg27 wr8
    have b8 := st8.mono sg8.sub
    clear wr8 sg27 hs7 htv7 hl7 sg7 wr7 sg1 sg2 hl6 htv6 hs6
    walk_at "rs"
    refine r_if ?_
    walk_at "rs"
    refine ⟨_, _, _, rfl, .int a', .int a', .int a', fun H9 e9 => ?_⟩
    walk_at "rs"
    refine r_no rfl ?_
    walk_at "rs"
    refine r_if ?_
    walk_at "rs"
    refine ⟨b, n, c1, u1, bk8, P7, _, a', l3, tv, ts, rfl, sg18.same e9, st7, by omega, hok, e9 _ _ hl8, htv8.same e9, fun H10 sg10 wr10 => ?_⟩
    walk_at "rs"
    refine r_no rfl ?_
    walk_at "rs"
    have wr810 := (Wr.of e9).trans wr10
    have sg210 := (sg8.same e9).other sg10 wr10 nc nu (Nat.le_refl _) nuc ncu
    have hl10 := sg18.lst wr810 hl8
    have htv10 := htv8.wr sg18 wr810
    have hs10 := hs8.wr sg18 wr810
    refine ⟨b, n, c2, u2, bk8, P8, _, a', l3, tv, ts, rfl, sg210, st8, by omega, hok, hl10, htv10, fun H11 sg11 wr11 => ?_⟩
    walk_at "rs"
    refine r_no rfl ?_
    walk_at "rs"
    have hl11 := sg210.lst wr11 hl10
    have htv11 := htv10.wr sg210 wr11
    have hs11 := hs10.wr sg210 wr11
    refine ⟨sa, 60, rfl, by decide, hs11, fun z60 hz60 => ?_⟩
    walk_at "rs"
    refine ⟨l3, z60, tv, ts, rfl, hz60, sg11.tb, hl11, htv11, hgood, hnm, by omega, fun lc uv us H12 g12 hlc htvc huslen husnm husok => ?_⟩
    walk_at "rs"
    have sg12 := sg11.gr g12
    have hl12 := g12.lst hl11
    have htv12 := htv11.gr g12
    refine ⟨b, n, c2, u2, bk8, P8, _, lc, uv, us, us, rfl, sg12, by omega, hlc, htvc, husok, by omega, List.Perm.refl _, husnm, fun a13 H13 bk13 P13 sg13 wr13 st13 => ?_⟩
    have hl13 := sg12.lst wr13 hl12
    have htv13 := htv12.wr sg12 wr13
    have hlc13 := sg12.lst wr13 hlc
    have htvc13 := htvc.wr sg12 wr13
    walk_at "rs"
    refine r_eqTabs hlc13 htvc13 hl13 htv13 husok hok fun beq hbeq => ?_
    walk_at "rs"
    have b13 := st13.mono sg13.sub
    have b8' := b8.mono fun x y (h : BkR bk8 x y) => h.mono wr13.bk
    have key : decide (V.int a13 = V.int a') = beq := by
      cases hb : beq with
      | true =>
        have e := hbeq.mp hb
        subst e
        rw [StOf.uniq (bk_inj sg13.nd) b13 b8']
        exact decide_eq_true rfl
      | false =>
        refine decide_eq_false fun e => ?_
        have e : a13 = a' := V.int.inj e
        rw [e] at b13
        have := StOf.back (bk_fun _) b13 b8' husok hok (by omega) (by omega)
        rw [hbeq.mpr this] at hb
        cases hb
    rw [key]
    rw [decide_eq_true rfl]
    walk_at "rs"
    exact ⟨b, n, c2, u2, bk13, P13, _, a13, lc, uv, us, rfl, sg13, st13, by omega, husok, hlc13, htvc13, fun H14 _ _ => q H14⟩
end
end Vt
-- VtEnd
set_option Elab.async false
set_option linter.all false
set_option maxRecDepth 100000
set_option maxHeartbeats 4000000
namespace Vt
open PySem PySem.Spec PyProof.Rows L2 LamX NdefX
theorem tb_start {K : PySem.W.Frag} {H : Hp} (h : ∀ p ∈ tfV.map (He.cT K), H p.2 = some (.tbl #[])) : Tb K H := fun q hq => by
  obtain ⟨p, hp, rfl⟩ := List.mem_map.mp hq
  refine ⟨#[], h _ (List.mem_map.mpr ⟨p, hp, rfl⟩), ?_, fun pos cv hc => ?_⟩
  · trivial
  · cases hc
theorem factsV {P : Program} {w : World} {h : Heap} {mg : Str → Option Value} {fa : Addr} {K : PySem.W.Frag} (X : K.In h) (G : h.Ns mainGlobals mg) (hfa : mg ("law" : Str) = some (.ref fa)) (c : He.SaysX faV fnV [] tfV exV w h K) :
    ∃ fd : FuncData, (∀ (s : Shared) (v : Value), BindsTo s fd ⟨[v], []⟩ [("_law_script", v)]) ∧ ∀ base : Heap, K.In base → base.Ns mainGlobals mg → (∀ p ∈ tfV.map (He.cT K), TabB base mg p.1 p.2) → FnOk P w K mg base CX0 27 fa fd ["_law_script"] (spLaw K) := by
  have T : Tx K mg := tx_of X G c.t.d
  obtain ⟨f, fd, F, hm⟩ := T.at_law.ex
  have e := hfa.symm.trans hm
  cases e
  have b := FunD.bindsA (ps := ["_law_script"]) F bd_law
  refine ⟨fd, fun s v => b s [v] rfl, fun base _ _ tabs => fn_law T ⟨fun p hp => tabs _ (List.mem_map.mpr ⟨p, hp, rfl⟩), of_decide_eq_true c.more⟩ F⟩
end Vt
open PySem PySem.W PySem.Calls PyProof.Rows
set_option maxHeartbeats 0
theorem PySem.Challenge.cw_versiontables_k21_whole_state_address_holds : PySem.Challenge.rw_versiontables_k21_whole_state_address.Holds := by
  refine Vt.holds_of ?_
  refine LamX.walk_ofTsE (l := PySem.Challenge.rw_versiontables_k21_whole_state_address) (n := 63) (k := 27) (x := "_law_script") (CX := fun _ => L2.CX0) rfl (by decide) (by kernel_rfl) ⟨rfl, by decide, by decide⟩ ?F (fun _ _ _ _ _ z => z)
  intro w mg fa h Y G hmg0
  obtain ⟨K, KX, c⟩ := Y
  have hmg : mg ("law" : PySem.Str) = some (.ref fa) := by
    have e : (HandSHeadRun.topDef (OpenLaw.row PySem.Challenge.rw_versiontables_k21_whole_state_address).prog 77).name = ("law" : PySem.Str) := by kernel_rfl
    rw [← e]
    exact hmg0
  obtain ⟨fd, hb, hF⟩ := Vt.factsV (P := (PySem.Challenge.rw_versiontables_k21_whole_state_address).prog) (w := w) KX G hmg c
  refine ⟨K, KX, fd, Vt.tfV.map (He.cT K), Vt.spLaw K, fun p hp => ?_, fun p hp => ?_, fun p hp => ?_, hb, fun H a ns hl hbits hH hS => ?_, hF⟩
  · obtain ⟨q, hq, rfl⟩ := List.mem_map.mp hp
    exact c.empty q hq
  · obtain ⟨q, hq, rfl⟩ := List.mem_map.mp hp
    exact c.out q hq
  · obtain ⟨q, hq, rfl⟩ := List.mem_map.mp hp
    exact PySem.W.codeHd_of_K KX (c.hd q hq)
  · exact ⟨a, rfl, ⟨ns, hS, fun z hz => Vt.bits_bg (hbits z hz)⟩, Vt.tb_start hH, fun _ => rfl⟩
