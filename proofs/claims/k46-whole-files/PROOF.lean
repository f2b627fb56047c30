import PyProof.Rows.All
import Wide.All
import OpenK.AllK
import Wide.FinOn
import KE.KStateDown
import Lean
import HandS.ForMost
import HandS.Exc
import HandS.ExcOwn
import HandS.TryOnly
import HandS.WordsExc
import HandS.Defaults
import HandS.More
import HandS.Codes
import HandS.Wide
import HandS.IsInst
import HandS.Style
import HandS.CallRecv
import HandS.OwnEq
import HandS.EndBits
import HandS.Head0
import HandS.Head1
import HandS.Head2
import HandS.HeadEnd
import HandS.HeadHook1
import HandS.HeadHook2
import HandS.HeadWalk
import HandS.Steps
import HandS.Walk
import HandS.Evl
import PySem.Challenge.RW_discwright_k46_whole_files_come_back
set_option Elab.async false
set_option linter.all false
set_option maxRecDepth 100000
set_option maxHeartbeats 4000000
/-! K0: the text by places, the facts of the head. -/
namespace Dw
open PySem PySem.Spec PyProof.Rows L2
def top (i : Nat) : Stmt := PySem.Challenge.pw_discwright_k46_whole_files_come_back.main.body.getD i (.Pass ⟨0, 0, 0, 0⟩)
abbrev s_byte_bits : Stmt := top 12
abbrev s_exclusive : Stmt := top 13
abbrev s_step : Stmt := top 14
abbrev s_crc : Stmt := top 15
abbrev s_two_bytes : Stmt := top 16
abbrev s_is_block : Stmt := top 20
abbrev s_BlockDisc_init : Stmt := inClass (top 21) 0
abbrev s_BlockDisc_len : Stmt := inClass (top 21) 1
abbrev s_BlockDisc_block : Stmt := inClass (top 21) 3
abbrev s_BlockDisc_missing : Stmt := inClass (top 21) 4
abbrev s_is_file_name : Stmt := top 33
abbrev s_number_of : Stmt := top 34
abbrev s_name_bytes : Stmt := top 35
abbrev s_name_of : Stmt := top 36
abbrev s_table_blocks : Stmt := top 37
abbrev s_needed_blocks : Stmt := top 38
abbrev s_filled : Stmt := top 39
abbrev s_demand_files : Stmt := top 40
abbrev s_demand_sizes : Stmt := top 41
abbrev s_make_chains : Stmt := top 42
abbrev s_Volume_init : Stmt := inClass (top 43) 0
abbrev s_Volume_table_block : Stmt := inClass (top 43) 1
abbrev s_Volume_table_entry : Stmt := inClass (top 43) 2
abbrev s_Volume_scan : Stmt := inClass (top 43) 3
abbrev s_Volume_missing_behind : Stmt := inClass (top 43) 4
abbrev s_Volume_read_entry : Stmt := inClass (top 43) 5
abbrev s_Volume_follow : Stmt := inClass (top 43) 6
abbrev s_Volume_end_reason : Stmt := inClass (top 43) 7
abbrev s_joined_runs : Stmt := top 44
abbrev s_gathered : Stmt := top 45
abbrev s_chain_files : Stmt := top 46
abbrev s_directory_faults : Stmt := top 47
abbrev s_read_chain : Stmt := top 48
abbrev s_is_table_sound : Stmt := top 49
abbrev s_is_sound : Stmt := top 50
abbrev s_law_cell : Stmt := top 52
abbrev s_law_draws : Stmt := top 53
abbrev s_law_is_int : Stmt := top 54
abbrev s_law_is_bool : Stmt := top 55
abbrev s_law_ints : Stmt := top 56
abbrev s_law_is_list : Stmt := top 57
abbrev s_law_is_tuple : Stmt := top 58
abbrev s_law_is_text : Stmt := top 59
abbrev s_law_is_texts : Stmt := top 60
abbrev s_law_name : Stmt := top 61
abbrev s_law_files : Stmt := top 62
abbrev s_law_same_reading : Stmt := top 63
abbrev s_law : Stmt := top 64
def d_byte_bits : He.DefD := ⟨("byte_bits", none), "byte_bits", "byte_bits", C8.fnArgs s_byte_bits, C8.fnBody s_byte_bits, C8.fnScope s_byte_bits, [], []⟩
def d_exclusive : He.DefD := ⟨("exclusive", none), "exclusive", "exclusive", C8.fnArgs s_exclusive, C8.fnBody s_exclusive, C8.fnScope s_exclusive, [], []⟩
def d_step : He.DefD := ⟨("step", none), "step", "step", C8.fnArgs s_step, C8.fnBody s_step, C8.fnScope s_step, [], []⟩
def d_crc : He.DefD := ⟨("crc", none), "crc", "crc", C8.fnArgs s_crc, C8.fnBody s_crc, C8.fnScope s_crc, [], []⟩
def d_two_bytes : He.DefD := ⟨("two_bytes", none), "two_bytes", "two_bytes", C8.fnArgs s_two_bytes, C8.fnBody s_two_bytes, C8.fnScope s_two_bytes, [], []⟩
def d_is_block : He.DefD := ⟨("is_block", none), "is_block", "is_block", C8.fnArgs s_is_block, C8.fnBody s_is_block, C8.fnScope s_is_block, [], []⟩
def d_BlockDisc_init : He.DefD := ⟨("BlockDisc", some "__init__"), "__init__", "BlockDisc.__init__", C8.fnArgs s_BlockDisc_init, C8.fnBody s_BlockDisc_init, C8.fnScope s_BlockDisc_init, [], []⟩
def d_BlockDisc_len : He.DefD := ⟨("BlockDisc", some "__len__"), "__len__", "BlockDisc.__len__", C8.fnArgs s_BlockDisc_len, C8.fnBody s_BlockDisc_len, C8.fnScope s_BlockDisc_len, [], []⟩
def d_BlockDisc_block : He.DefD := ⟨("BlockDisc", some "block"), "block", "BlockDisc.block", C8.fnArgs s_BlockDisc_block, C8.fnBody s_BlockDisc_block, C8.fnScope s_BlockDisc_block, [], []⟩
def d_BlockDisc_missing : He.DefD := ⟨("BlockDisc", some "missing"), "missing", "BlockDisc.missing", C8.fnArgs s_BlockDisc_missing, C8.fnBody s_BlockDisc_missing, C8.fnScope s_BlockDisc_missing, [], []⟩
def d_is_file_name : He.DefD := ⟨("is_file_name", none), "is_file_name", "is_file_name", C8.fnArgs s_is_file_name, C8.fnBody s_is_file_name, C8.fnScope s_is_file_name, [], []⟩
def d_number_of : He.DefD := ⟨("number_of", none), "number_of", "number_of", C8.fnArgs s_number_of, C8.fnBody s_number_of, C8.fnScope s_number_of, [], []⟩
def d_name_bytes : He.DefD := ⟨("name_bytes", none), "name_bytes", "name_bytes", C8.fnArgs s_name_bytes, C8.fnBody s_name_bytes, C8.fnScope s_name_bytes, [], []⟩
def d_name_of : He.DefD := ⟨("name_of", none), "name_of", "name_of", C8.fnArgs s_name_of, C8.fnBody s_name_of, C8.fnScope s_name_of, [], []⟩
def d_table_blocks : He.DefD := ⟨("table_blocks", none), "table_blocks", "table_blocks", C8.fnArgs s_table_blocks, C8.fnBody s_table_blocks, C8.fnScope s_table_blocks, [], []⟩
def d_needed_blocks : He.DefD := ⟨("needed_blocks", none), "needed_blocks", "needed_blocks", C8.fnArgs s_needed_blocks, C8.fnBody s_needed_blocks, C8.fnScope s_needed_blocks, [], []⟩
def d_filled : He.DefD := ⟨("filled", none), "filled", "filled", C8.fnArgs s_filled, C8.fnBody s_filled, C8.fnScope s_filled, [], []⟩
def d_demand_files : He.DefD := ⟨("demand_files", none), "demand_files", "demand_files", C8.fnArgs s_demand_files, C8.fnBody s_demand_files, C8.fnScope s_demand_files, [], []⟩
def d_demand_sizes : He.DefD := ⟨("demand_sizes", none), "demand_sizes", "demand_sizes", C8.fnArgs s_demand_sizes, C8.fnBody s_demand_sizes, C8.fnScope s_demand_sizes, [], []⟩
def d_make_chains : He.DefD := ⟨("make_chains", none), "make_chains", "make_chains", C8.fnArgs s_make_chains, C8.fnBody s_make_chains, C8.fnScope s_make_chains, [], []⟩
def d_Volume_init : He.DefD := ⟨("Volume", some "__init__"), "__init__", "Volume.__init__", C8.fnArgs s_Volume_init, C8.fnBody s_Volume_init, C8.fnScope s_Volume_init, [], []⟩
def d_Volume_table_block : He.DefD := ⟨("Volume", some "table_block"), "table_block", "Volume.table_block", C8.fnArgs s_Volume_table_block, C8.fnBody s_Volume_table_block, C8.fnScope s_Volume_table_block, [], []⟩
def d_Volume_table_entry : He.DefD := ⟨("Volume", some "table_entry"), "table_entry", "Volume.table_entry", C8.fnArgs s_Volume_table_entry, C8.fnBody s_Volume_table_entry, C8.fnScope s_Volume_table_entry, [], []⟩
def d_Volume_scan : He.DefD := ⟨("Volume", some "scan"), "scan", "Volume.scan", C8.fnArgs s_Volume_scan, C8.fnBody s_Volume_scan, C8.fnScope s_Volume_scan, [], []⟩
def d_Volume_missing_behind : He.DefD := ⟨("Volume", some "missing_behind"), "missing_behind", "Volume.missing_behind", C8.fnArgs s_Volume_missing_behind, C8.fnBody s_Volume_missing_behind, C8.fnScope s_Volume_missing_behind, [], []⟩
def d_Volume_read_entry : He.DefD := ⟨("Volume", some "read_entry"), "read_entry", "Volume.read_entry", C8.fnArgs s_Volume_read_entry, C8.fnBody s_Volume_read_entry, C8.fnScope s_Volume_read_entry, [], []⟩
def d_Volume_follow : He.DefD := ⟨("Volume", some "follow"), "follow", "Volume.follow", C8.fnArgs s_Volume_follow, C8.fnBody s_Volume_follow, C8.fnScope s_Volume_follow, [], []⟩
def d_Volume_end_reason : He.DefD := ⟨("Volume", some "end_reason"), "end_reason", "Volume.end_reason", C8.fnArgs s_Volume_end_reason, C8.fnBody s_Volume_end_reason, C8.fnScope s_Volume_end_reason, [], []⟩
def d_joined_runs : He.DefD := ⟨("joined_runs", none), "joined_runs", "joined_runs", C8.fnArgs s_joined_runs, C8.fnBody s_joined_runs, C8.fnScope s_joined_runs, [], []⟩
def d_gathered : He.DefD := ⟨("gathered", none), "gathered", "gathered", C8.fnArgs s_gathered, C8.fnBody s_gathered, C8.fnScope s_gathered, [], []⟩
def d_chain_files : He.DefD := ⟨("chain_files", none), "chain_files", "chain_files", C8.fnArgs s_chain_files, C8.fnBody s_chain_files, C8.fnScope s_chain_files, [], []⟩
def d_directory_faults : He.DefD := ⟨("directory_faults", none), "directory_faults", "directory_faults", C8.fnArgs s_directory_faults, C8.fnBody s_directory_faults, C8.fnScope s_directory_faults, [], []⟩
def d_read_chain : He.DefD := ⟨("read_chain", none), "read_chain", "read_chain", C8.fnArgs s_read_chain, C8.fnBody s_read_chain, C8.fnScope s_read_chain, [], []⟩
def d_is_table_sound : He.DefD := ⟨("is_table_sound", none), "is_table_sound", "is_table_sound", C8.fnArgs s_is_table_sound, C8.fnBody s_is_table_sound, C8.fnScope s_is_table_sound, [], []⟩
def d_is_sound : He.DefD := ⟨("is_sound", none), "is_sound", "is_sound", C8.fnArgs s_is_sound, C8.fnBody s_is_sound, C8.fnScope s_is_sound, [], []⟩
def d_law_cell : He.DefD := ⟨("_law_cell", none), "_law_cell", "_law_cell", C8.fnArgs s_law_cell, C8.fnBody s_law_cell, C8.fnScope s_law_cell, [], []⟩
def d_law_draws : He.DefD := ⟨("_law_draws", none), "_law_draws", "_law_draws", C8.fnArgs s_law_draws, C8.fnBody s_law_draws, C8.fnScope s_law_draws, [], []⟩
def d_law_is_int : He.DefD := ⟨("_law_is_int", none), "_law_is_int", "_law_is_int", C8.fnArgs s_law_is_int, C8.fnBody s_law_is_int, C8.fnScope s_law_is_int, [], []⟩
def d_law_is_bool : He.DefD := ⟨("_law_is_bool", none), "_law_is_bool", "_law_is_bool", C8.fnArgs s_law_is_bool, C8.fnBody s_law_is_bool, C8.fnScope s_law_is_bool, [], []⟩
def d_law_ints : He.DefD := ⟨("_law_ints", none), "_law_ints", "_law_ints", C8.fnArgs s_law_ints, C8.fnBody s_law_ints, C8.fnScope s_law_ints, [], []⟩
def d_law_is_list : He.DefD := ⟨("_law_is_list", none), "_law_is_list", "_law_is_list", C8.fnArgs s_law_is_list, C8.fnBody s_law_is_list, C8.fnScope s_law_is_list, [], []⟩
def d_law_is_tuple : He.DefD := ⟨("_law_is_tuple", none), "_law_is_tuple", "_law_is_tuple", C8.fnArgs s_law_is_tuple, C8.fnBody s_law_is_tuple, C8.fnScope s_law_is_tuple, [], []⟩
def d_law_is_text : He.DefD := ⟨("_law_is_text", none), "_law_is_text", "_law_is_text", C8.fnArgs s_law_is_text, C8.fnBody s_law_is_text, C8.fnScope s_law_is_text, [], []⟩
def d_law_is_texts : He.DefD := ⟨("_law_is_texts", none), "_law_is_texts", "_law_is_texts", C8.fnArgs s_law_is_texts, C8.fnBody s_law_is_texts, C8.fnScope s_law_is_texts, [], []⟩
def d_law_name : He.DefD := ⟨("_law_name", none), "_law_name", "_law_name", C8.fnArgs s_law_name, C8.fnBody s_law_name, C8.fnScope s_law_name, [], []⟩
def d_law_files : He.DefD := ⟨("_law_files", none), "_law_files", "_law_files", C8.fnArgs s_law_files, C8.fnBody s_law_files, C8.fnScope s_law_files, [], []⟩
def d_law_same_reading : He.DefD := ⟨("_law_same_reading", none), "_law_same_reading", "_law_same_reading", C8.fnArgs s_law_same_reading, C8.fnBody s_law_same_reading, C8.fnScope s_law_same_reading, [], []⟩
def d_law : He.DefD := ⟨("law", none), "law", "law", C8.fnArgs s_law, C8.fnBody s_law, C8.fnScope s_law, [], []⟩
def fn : List He.DefD := [d_byte_bits, d_exclusive, d_step, d_crc, d_two_bytes, d_is_block, d_BlockDisc_init, d_BlockDisc_len, d_BlockDisc_block, d_BlockDisc_missing, d_is_file_name, d_number_of, d_name_bytes, d_name_of, d_table_blocks, d_needed_blocks, d_filled, d_demand_files, d_demand_sizes, d_make_chains, d_Volume_init, d_Volume_table_block, d_Volume_table_entry, d_Volume_scan, d_Volume_missing_behind, d_Volume_read_entry, d_Volume_follow, d_Volume_end_reason, d_joined_runs, d_gathered, d_chain_files, d_directory_faults, d_read_chain, d_is_table_sound, d_is_sound, d_law_cell, d_law_draws, d_law_is_int, d_law_is_bool, d_law_ints, d_law_is_list, d_law_is_tuple, d_law_is_text, d_law_is_texts, d_law_name, d_law_files, d_law_same_reading, d_law]
def fa : List He.Fa := [.glo "byte_bits", .glo "exclusive", .glo "step", .glo "crc", .glo "two_bytes", .glo "is_block", .glo "is_file_name", .glo "number_of", .glo "name_bytes", .glo "name_of", .glo "table_blocks", .glo "needed_blocks", .glo "filled", .glo "demand_files", .glo "demand_sizes", .glo "make_chains", .glo "joined_runs", .glo "gathered", .glo "chain_files", .glo "directory_faults", .glo "read_chain", .glo "is_table_sound", .glo "is_sound", .glo "_law_cell", .glo "_law_draws", .glo "_law_is_int", .glo "_law_is_bool", .glo "_law_ints", .glo "_law_is_list", .glo "_law_is_tuple", .glo "_law_is_text", .glo "_law_is_texts", .glo "_law_name", .glo "_law_files", .glo "_law_same_reading", .glo "law", .glo "BlockDisc", .glo "Volume", .glo "InvalidDisc", .glo "InvalidFiles", .glo "NoFileSystem", .glo "BIT_WEIGHTS", .glo "SIZES", .glo "HEAD", .int "CRC_START" 65535, .int "CRC_MASK" 4129, .int "WORD" 65536, .int "TOP" 32768, .int "MOST_BLOCKS" 2000, .int "LONGEST_NAME" 8, .int "ENTRY" 16, .int "MOST_DIRECTORY" 20, .int "LONGEST_FILE" 60000, .int "END" 1, .int "NO_DATA" 65535, .int "FEWEST_BLOCKS" 4, .str "CAPITALS" "ABCDEFGHIJKLMNOPQRSTUVWXYZ", .str "DIGITS" "0123456789", .free "len", .free "all", .free "any", .free "list", .free "range", .free "sum", .free "min", .free "int", .free "isinstance", .free "ord", .free "bool", .free "str", .free "tuple", .cls "BlockDisc", .cls "Volume", .mkr "BlockDisc", .mkr "Volume", .meth "BlockDisc" "__init__", .meth "BlockDisc" "__len__", .meth "BlockDisc" "block", .meth "BlockDisc" "missing", .meth "Volume" "__init__", .meth "Volume" "table_block", .meth "Volume" "table_entry", .meth "Volume" "scan", .meth "Volume" "missing_behind", .meth "Volume" "read_entry", .meth "Volume" "follow", .meth "Volume" "end_reason", .noat "BlockDisc" "size", .noat "BlockDisc" "rows", .noat "Volume" "disc", .noat "Volume" "tables", .noat "Volume" "directory", .noat "Volume" "first"]

def bwI : List Int := [128, 64, 32, 16, 8, 4, 2, 1]
def szI : List Int := [16, 32, 64, 128, 256, 512]
def hdI : List Int := [67, 72]
def dvI (l : List Int) : List He.Dv := l.map He.Dv.int
def ex (K : PySem.W.Frag) : Bool := He.tupB K "BIT_WEIGHTS" (dvI bwI) && (He.tupB K "SIZES" (dvI szI) && He.tupB K "HEAD" (dvI hdI))
def Says (K : PySem.W.Frag) : Prop := He.SaysD fa fn K ∧ ex K = true
def obsM (K : PySem.W.Frag) : He.AlD × Bool := (He.obsD fa fn K, ex K)
def obsMG (g : Addr → Option Obj) : He.AlD × Bool := obsM (He.frG g (He.asD g 5))
def hk : PySem.W.Hook where
  α := He.AlD × Bool
  obs := fun s => obsMG s.heap.get?
  val := fun _ => (He.valD fn, true)
  says := fun _ h => ∃ K : PySem.W.Frag, K.In h ∧ Says K
  of := fun _ _ e => ⟨_, He.frG_in, congrArg (fun z : He.AlD × Bool => z.1) e, congrArg (fun z : He.AlD × Bool => z.2) e⟩
  keeps := fun _ _ _ ⟨K, hK, c⟩ k => ⟨K, PySem.W.Frag.In.keeps hK k, c⟩
def names : List PySem.Str := (["_wall", "DiscError", "InvalidDisc", "InvalidFiles", "NoFileSystem", "BIT_WEIGHTS", "CRC_START", "CRC_MASK", "WORD", "TOP", "byte_bits", "exclusive"] : List PySem.Str) ++ (["step", "crc", "two_bytes", "MOST_BLOCKS", "SIZES", "is_block", "BlockDisc", "HEAD", "LONGEST_NAME", "CAPITALS", "DIGITS", "ENTRY"] : List PySem.Str) ++ (["MOST_DIRECTORY", "LONGEST_FILE", "END", "NO_DATA", "FEWEST_BLOCKS", "is_file_name", "number_of", "name_bytes", "name_of", "table_blocks", "needed_blocks", "filled"] : List PySem.Str) ++ (["demand_files", "demand_sizes", "make_chains", "Volume", "joined_runs", "gathered", "chain_files", "directory_faults", "read_chain", "is_table_sound", "is_sound", "_law_cell"] : List PySem.Str) ++ (["_law_draws", "_law_is_int", "_law_is_bool", "_law_ints", "_law_is_list", "_law_is_tuple", "_law_is_text", "_law_is_texts", "_law_name", "_law_files", "_law_same_reading"] : List PySem.Str)
/-- what the head leaves -/
structure Txt (K : PySem.W.Frag) (mg : Str → Option Value) : Prop where
  hh : ∃ h : Heap, K.In h ∧ h.Ns mainGlobals mg
  c : Says K
section
variable {K : PySem.W.Frag} {mg : Str → Option Value} {x m q : Str} {st : Stmt} {ps : List Str}
theorem Txt.glo (T : Txt K mg) (i : Nat) (h : fa[i]? = some (.glo x)) : mg x = some (.ref (He.ga K x)) := by
  obtain ⟨hp, X, G⟩ := T.hh
  exact He.glo_ok X G (T.c.1.fact i h)
theorem Txt.free (T : Txt K mg) (i : Nat) (h : fa[i]? = some (.free x)) : mg x = none := by
  obtain ⟨hp, X, G⟩ := T.hh
  exact He.free_ok X G (T.c.1.fact i h)
theorem Txt.int (T : Txt K mg) {z : Int} (i : Nat) (h : fa[i]? = some (.int x z)) : ∃ u, mg x = some u ∧ RelV (.int z) u := by
  obtain ⟨hp, X, G⟩ := T.hh
  obtain ⟨t, e⟩ := He.int_ok X G (T.c.1.fact i h)
  exact ⟨_, e, t, rfl⟩
theorem Txt.str (T : Txt K mg) {z : Str} (i : Nat) (h : fa[i]? = some (.str x z)) : ∃ u, mg x = some u ∧ RelV (.str z) u := by
  obtain ⟨hp, X, G⟩ := T.hh
  obtain ⟨t, e⟩ := He.str_ok X G (T.c.1.fact i h)
  exact ⟨_, e, t, rfl⟩
theorem Txt.cls (T : Txt K mg) (i : Nat) (h : fa[i]? = some (.cls x)) : Cls K (He.ga K x) := He.cls_ok (T.c.1.fact i h)
theorem Txt.noat (T : Txt K mg) (i : Nat) (h : fa[i]? = some (.noat x m)) : NoAttr K (He.ga K x) m := He.noat_ok (T.c.1.fact i h)
theorem Txt.dfn (T : Txt K mg) (i j : Nat) (h : fn[i]? = some ⟨(x, none), x, x, C8.fnArgs st, C8.fnBody st, C8.fnScope st, [], []⟩) (g : fa[j]? = some (.glo x))
    (hb : ∀ (kV doc pm : Value) (an : Option Addr) (cdv ct : Value) (us : List Value), us.length = ps.length → bindArgs (PySem.W.fnOf x x (C8.fnArgs st) (C8.fnBody st) (C8.fnScope st) .none kV doc pm an cdv ct) ⟨us, []⟩ = pure (ps.zip us)) :
    ∃ (f : Addr) (fd : FuncData), C8.Def K mg x st f fd ∧ Binds K fd ps [] := by
  obtain ⟨fd, F⟩ := T.c.1.def_ i h
  have F2 : FunD K x x (C8.fnArgs st) (C8.fnBody st) (C8.fnScope st) [] [] (He.ga K x) fd := F
  have b := FunD.bindsN F2 hb
  obtain ⟨oc, od, dV, kV, doc, pm, an, cdv, ct, osl, e1, e2, e3, _⟩ := F2.ex
  exact ⟨_, fd, ⟨⟨oc, od, dV, kV, doc, pm, an, cdv, ct, osl, e1, e2, e3⟩, T.glo j g, F2.kp⟩, b⟩
theorem Txt.mth (T : Txt K mg) {c : Str} (i j l : Nat) (h : fn[i]? = some ⟨(c, some m), m, q, C8.fnArgs st, C8.fnBody st, C8.fnScope st, [], []⟩) (g : fa[j]? = some (.cls c)) (g2 : fa[l]? = some (.meth c m))
    (hb : ∀ (kV doc pm : Value) (an : Option Addr) (cdv ct : Value) (us : List Value), us.length = ps.length → bindArgs (PySem.W.fnOf m q (C8.fnArgs st) (C8.fnBody st) (C8.fnScope st) .none kV doc pm an cdv ct) ⟨us, []⟩ = pure (ps.zip us)) :
    ∃ (f : Addr) (fd : FuncData), Cls K (He.ga K c) ∧ Meth K (He.ga K c) m f ∧ C8.Fun K m q st f fd ∧ Binds K fd ps [] := by
  obtain ⟨fd, F⟩ := T.c.1.def_ i h
  have F2 : FunD K m q (C8.fnArgs st) (C8.fnBody st) (C8.fnScope st) [] [] (He.ma K (He.ga K c) m) fd := F
  have b := FunD.bindsN F2 hb
  obtain ⟨oc, od, dV, kV, doc, pm, an, cdv, ct, osl, e1, e2, e3, _⟩ := F2.ex
  exact ⟨_, fd, T.cls j g, He.meth_ok (T.c.1.fact l g2), ⟨oc, od, dV, kV, doc, pm, an, cdv, ct, osl, e1, e2, e3⟩, b⟩
theorem Txt.ini (T : Txt K mg) {c : Str} (i j l : Nat) (h : fn[i]? = some ⟨(c, some "__init__"), "__init__", q, C8.fnArgs st, C8.fnBody st, C8.fnScope st, [], []⟩) (g : fa[j]? = some (.mkr c)) (g2 : fa[l]? = some (.glo c))
    (hb : ∀ (kV doc pm : Value) (an : Option Addr) (cdv ct : Value) (us : List Value), us.length = ps.length → bindArgs (PySem.W.fnOf "__init__" q (C8.fnArgs st) (C8.fnBody st) (C8.fnScope st) .none kV doc pm an cdv ct) ⟨us, []⟩ = pure (ps.zip us)) :
    ∃ (f : Addr) (fd : FuncData), Mk K (He.ga K c) f ∧ mg c = some (.ref (He.ga K c)) ∧ C8.Fun K "__init__" q st f fd ∧ Binds K fd ps [] := by
  obtain ⟨fd, F⟩ := T.c.1.def_ i h
  have F2 : FunD K "__init__" q (C8.fnArgs st) (C8.fnBody st) (C8.fnScope st) [] [] (He.ma K (He.ga K c) "__init__") fd := F
  have b := FunD.bindsN F2 hb
  obtain ⟨oc, od, dV, kV, doc, pm, an, cdv, ct, osl, e1, e2, e3, _⟩ := F2.ex
  exact ⟨_, fd, He.mkr_ok (T.c.1.fact j g), T.glo l g2, ⟨oc, od, dV, kV, doc, pm, an, cdv, ct, osl, e1, e2, e3⟩, b⟩
theorem map_dvI (l : List Int) : (dvI l).map (He.Dv.v K) = l.map V.int := by
  unfold dvI
  rw [List.map_map]
  rfl
theorem Txt.bw (T : Txt K mg) (H : Hp) : SqT K H (He.ga K "BIT_WEIGHTS") (bwI.map V.int) := by
  have e := He.tupB_ok (He.ba T.c.2).1 H
  rw [map_dvI] at e
  exact e
theorem Txt.sz (T : Txt K mg) (H : Hp) : SqT K H (He.ga K "SIZES") (szI.map V.int) := by
  have e := He.tupB_ok (He.ba (He.ba T.c.2).2).1 H
  rw [map_dvI] at e
  exact e
theorem Txt.hd (T : Txt K mg) (H : Hp) : SqT K H (He.ga K "HEAD") (hdI.map V.int) := by
  have e := He.tupB_ok (He.ba (He.ba T.c.2).2).2 H
  rw [map_dvI] at e
  exact e
theorem Txt.D_byte_bits (T : Txt K mg) : ∃ (f : Addr) (fd : FuncData), C8.Def K mg "byte_bits" s_byte_bits f fd ∧ Binds K fd ["value"] [] := T.dfn 0 0 rfl rfl (fun _ _ _ _ _ _ us hl => match us, hl with | [_], _ => rfl)
theorem Txt.D_exclusive (T : Txt K mg) : ∃ (f : Addr) (fd : FuncData), C8.Def K mg "exclusive" s_exclusive f fd ∧ Binds K fd ["first", "second"] [] := T.dfn 1 1 rfl rfl (fun _ _ _ _ _ _ us hl => match us, hl with | [_, _], _ => rfl)
theorem Txt.D_step (T : Txt K mg) : ∃ (f : Addr) (fd : FuncData), C8.Def K mg "step" s_step f fd ∧ Binds K fd ["number", "value"] [] := T.dfn 2 2 rfl rfl (fun _ _ _ _ _ _ us hl => match us, hl with | [_, _], _ => rfl)
theorem Txt.D_crc (T : Txt K mg) : ∃ (f : Addr) (fd : FuncData), C8.Def K mg "crc" s_crc f fd ∧ Binds K fd ["values"] [] := T.dfn 3 3 rfl rfl (fun _ _ _ _ _ _ us hl => match us, hl with | [_], _ => rfl)
theorem Txt.D_two_bytes (T : Txt K mg) : ∃ (f : Addr) (fd : FuncData), C8.Def K mg "two_bytes" s_two_bytes f fd ∧ Binds K fd ["number"] [] := T.dfn 4 4 rfl rfl (fun _ _ _ _ _ _ us hl => match us, hl with | [_], _ => rfl)
theorem Txt.D_is_block (T : Txt K mg) : ∃ (f : Addr) (fd : FuncData), C8.Def K mg "is_block" s_is_block f fd ∧ Binds K fd ["values"] [] := T.dfn 5 5 rfl rfl (fun _ _ _ _ _ _ us hl => match us, hl with | [_], _ => rfl)
theorem Txt.D_BlockDisc_init (T : Txt K mg) : ∃ (f : Addr) (fd : FuncData), Mk K (He.ga K "BlockDisc") f ∧ mg "BlockDisc" = some (.ref (He.ga K "BlockDisc")) ∧ C8.Fun K "__init__" "BlockDisc.__init__" s_BlockDisc_init f fd ∧ Binds K fd ["self", "blocks"] [] := T.ini 6 73 36 rfl rfl rfl (fun _ _ _ _ _ _ us hl => match us, hl with | [_, _], _ => rfl)
theorem Txt.D_BlockDisc_len (T : Txt K mg) : ∃ (f : Addr) (fd : FuncData), Cls K (He.ga K "BlockDisc") ∧ Meth K (He.ga K "BlockDisc") "__len__" f ∧ C8.Fun K "__len__" "BlockDisc.__len__" s_BlockDisc_len f fd ∧ Binds K fd ["self"] [] := T.mth 7 71 76 rfl rfl rfl (fun _ _ _ _ _ _ us hl => match us, hl with | [_], _ => rfl)
theorem Txt.D_BlockDisc_block (T : Txt K mg) : ∃ (f : Addr) (fd : FuncData), Cls K (He.ga K "BlockDisc") ∧ Meth K (He.ga K "BlockDisc") "block" f ∧ C8.Fun K "block" "BlockDisc.block" s_BlockDisc_block f fd ∧ Binds K fd ["self", "index"] [] := T.mth 8 71 77 rfl rfl rfl (fun _ _ _ _ _ _ us hl => match us, hl with | [_, _], _ => rfl)
theorem Txt.D_BlockDisc_missing (T : Txt K mg) : ∃ (f : Addr) (fd : FuncData), Cls K (He.ga K "BlockDisc") ∧ Meth K (He.ga K "BlockDisc") "missing" f ∧ C8.Fun K "missing" "BlockDisc.missing" s_BlockDisc_missing f fd ∧ Binds K fd ["self"] [] := T.mth 9 71 78 rfl rfl rfl (fun _ _ _ _ _ _ us hl => match us, hl with | [_], _ => rfl)
theorem Txt.D_is_file_name (T : Txt K mg) : ∃ (f : Addr) (fd : FuncData), C8.Def K mg "is_file_name" s_is_file_name f fd ∧ Binds K fd ["name"] [] := T.dfn 10 6 rfl rfl (fun _ _ _ _ _ _ us hl => match us, hl with | [_], _ => rfl)
theorem Txt.D_number_of (T : Txt K mg) : ∃ (f : Addr) (fd : FuncData), C8.Def K mg "number_of" s_number_of f fd ∧ Binds K fd ["values"] [] := T.dfn 11 7 rfl rfl (fun _ _ _ _ _ _ us hl => match us, hl with | [_], _ => rfl)
theorem Txt.D_name_bytes (T : Txt K mg) : ∃ (f : Addr) (fd : FuncData), C8.Def K mg "name_bytes" s_name_bytes f fd ∧ Binds K fd ["name"] [] := T.dfn 12 8 rfl rfl (fun _ _ _ _ _ _ us hl => match us, hl with | [_], _ => rfl)
theorem Txt.D_name_of (T : Txt K mg) : ∃ (f : Addr) (fd : FuncData), C8.Def K mg "name_of" s_name_of f fd ∧ Binds K fd ["values"] [] := T.dfn 13 9 rfl rfl (fun _ _ _ _ _ _ us hl => match us, hl with | [_], _ => rfl)
theorem Txt.D_table_blocks (T : Txt K mg) : ∃ (f : Addr) (fd : FuncData), C8.Def K mg "table_blocks" s_table_blocks f fd ∧ Binds K fd ["count", "size"] [] := T.dfn 14 10 rfl rfl (fun _ _ _ _ _ _ us hl => match us, hl with | [_, _], _ => rfl)
theorem Txt.D_needed_blocks (T : Txt K mg) : ∃ (f : Addr) (fd : FuncData), C8.Def K mg "needed_blocks" s_needed_blocks f fd ∧ Binds K fd ["length", "size"] [] := T.dfn 15 11 rfl rfl (fun _ _ _ _ _ _ us hl => match us, hl with | [_, _], _ => rfl)
theorem Txt.D_filled (T : Txt K mg) : ∃ (f : Addr) (fd : FuncData), C8.Def K mg "filled" s_filled f fd ∧ Binds K fd ["values", "size"] [] := T.dfn 16 12 rfl rfl (fun _ _ _ _ _ _ us hl => match us, hl with | [_, _], _ => rfl)
theorem Txt.D_demand_files (T : Txt K mg) : ∃ (f : Addr) (fd : FuncData), C8.Def K mg "demand_files" s_demand_files f fd ∧ Binds K fd ["files"] [] := T.dfn 17 13 rfl rfl (fun _ _ _ _ _ _ us hl => match us, hl with | [_], _ => rfl)
theorem Txt.D_demand_sizes (T : Txt K mg) : ∃ (f : Addr) (fd : FuncData), C8.Def K mg "demand_sizes" s_demand_sizes f fd ∧ Binds K fd ["count", "size", "sizes", "directory"] [] := T.dfn 18 14 rfl rfl (fun _ _ _ _ _ _ us hl => match us, hl with | [_, _, _, _], _ => rfl)
theorem Txt.D_make_chains (T : Txt K mg) : ∃ (f : Addr) (fd : FuncData), C8.Def K mg "make_chains" s_make_chains f fd ∧ Binds K fd ["files", "count", "size", "directory"] [] := T.dfn 19 15 rfl rfl (fun _ _ _ _ _ _ us hl => match us, hl with | [_, _, _, _], _ => rfl)
theorem Txt.D_Volume_init (T : Txt K mg) : ∃ (f : Addr) (fd : FuncData), Mk K (He.ga K "Volume") f ∧ mg "Volume" = some (.ref (He.ga K "Volume")) ∧ C8.Fun K "__init__" "Volume.__init__" s_Volume_init f fd ∧ Binds K fd ["self", "disc"] [] := T.ini 20 74 37 rfl rfl rfl (fun _ _ _ _ _ _ us hl => match us, hl with | [_, _], _ => rfl)
theorem Txt.D_Volume_table_block (T : Txt K mg) : ∃ (f : Addr) (fd : FuncData), Cls K (He.ga K "Volume") ∧ Meth K (He.ga K "Volume") "table_block" f ∧ C8.Fun K "table_block" "Volume.table_block" s_Volume_table_block f fd ∧ Binds K fd ["self", "number"] [] := T.mth 21 72 80 rfl rfl rfl (fun _ _ _ _ _ _ us hl => match us, hl with | [_, _], _ => rfl)
theorem Txt.D_Volume_table_entry (T : Txt K mg) : ∃ (f : Addr) (fd : FuncData), Cls K (He.ga K "Volume") ∧ Meth K (He.ga K "Volume") "table_entry" f ∧ C8.Fun K "table_entry" "Volume.table_entry" s_Volume_table_entry f fd ∧ Binds K fd ["self", "index"] [] := T.mth 22 72 81 rfl rfl rfl (fun _ _ _ _ _ _ us hl => match us, hl with | [_, _], _ => rfl)
theorem Txt.D_Volume_scan (T : Txt K mg) : ∃ (f : Addr) (fd : FuncData), Cls K (He.ga K "Volume") ∧ Meth K (He.ga K "Volume") "scan" f ∧ C8.Fun K "scan" "Volume.scan" s_Volume_scan f fd ∧ Binds K fd ["self"] [] := T.mth 23 72 82 rfl rfl rfl (fun _ _ _ _ _ _ us hl => match us, hl with | [_], _ => rfl)
theorem Txt.D_Volume_missing_behind (T : Txt K mg) : ∃ (f : Addr) (fd : FuncData), Cls K (He.ga K "Volume") ∧ Meth K (He.ga K "Volume") "missing_behind" f ∧ C8.Fun K "missing_behind" "Volume.missing_behind" s_Volume_missing_behind f fd ∧ Binds K fd ["self", "number"] [] := T.mth 24 72 83 rfl rfl rfl (fun _ _ _ _ _ _ us hl => match us, hl with | [_, _], _ => rfl)
theorem Txt.D_Volume_read_entry (T : Txt K mg) : ∃ (f : Addr) (fd : FuncData), Cls K (He.ga K "Volume") ∧ Meth K (He.ga K "Volume") "read_entry" f ∧ C8.Fun K "read_entry" "Volume.read_entry" s_Volume_read_entry f fd ∧ Binds K fd ["self", "values"] [] := T.mth 25 72 84 rfl rfl rfl (fun _ _ _ _ _ _ us hl => match us, hl with | [_, _], _ => rfl)
theorem Txt.D_Volume_follow (T : Txt K mg) : ∃ (f : Addr) (fd : FuncData), Cls K (He.ga K "Volume") ∧ Meth K (He.ga K "Volume") "follow" f ∧ C8.Fun K "follow" "Volume.follow" s_Volume_follow f fd ∧ Binds K fd ["self", "first", "length"] [] := T.mth 26 72 85 rfl rfl rfl (fun _ _ _ _ _ _ us hl => match us, hl with | [_, _, _], _ => rfl)
theorem Txt.D_Volume_end_reason (T : Txt K mg) : ∃ (f : Addr) (fd : FuncData), Cls K (He.ga K "Volume") ∧ Meth K (He.ga K "Volume") "end_reason" f ∧ C8.Fun K "end_reason" "Volume.end_reason" s_Volume_end_reason f fd ∧ Binds K fd ["self", "current", "count"] [] := T.mth 27 72 86 rfl rfl rfl (fun _ _ _ _ _ _ us hl => match us, hl with | [_, _, _], _ => rfl)
theorem Txt.D_joined_runs (T : Txt K mg) : ∃ (f : Addr) (fd : FuncData), C8.Def K mg "joined_runs" s_joined_runs f fd ∧ Binds K fd ["runs"] [] := T.dfn 28 16 rfl rfl (fun _ _ _ _ _ _ us hl => match us, hl with | [_], _ => rfl)
theorem Txt.D_gathered (T : Txt K mg) : ∃ (f : Addr) (fd : FuncData), C8.Def K mg "gathered" s_gathered f fd ∧ Binds K fd ["disc", "blocks", "length"] [] := T.dfn 29 17 rfl rfl (fun _ _ _ _ _ _ us hl => match us, hl with | [_, _, _], _ => rfl)
theorem Txt.D_chain_files (T : Txt K mg) : ∃ (f : Addr) (fd : FuncData), C8.Def K mg "chain_files" s_chain_files f fd ∧ Binds K fd ["disc"] [] := T.dfn 30 18 rfl rfl (fun _ _ _ _ _ _ us hl => match us, hl with | [_], _ => rfl)
theorem Txt.D_directory_faults (T : Txt K mg) : ∃ (f : Addr) (fd : FuncData), C8.Def K mg "directory_faults" s_directory_faults f fd ∧ Binds K fd ["disc"] [] := T.dfn 31 19 rfl rfl (fun _ _ _ _ _ _ us hl => match us, hl with | [_], _ => rfl)
theorem Txt.D_read_chain (T : Txt K mg) : ∃ (f : Addr) (fd : FuncData), C8.Def K mg "read_chain" s_read_chain f fd ∧ Binds K fd ["disc", "name"] [] := T.dfn 32 20 rfl rfl (fun _ _ _ _ _ _ us hl => match us, hl with | [_, _], _ => rfl)
theorem Txt.D_is_table_sound (T : Txt K mg) : ∃ (f : Addr) (fd : FuncData), C8.Def K mg "is_table_sound" s_is_table_sound f fd ∧ Binds K fd ["volume", "used"] [] := T.dfn 33 21 rfl rfl (fun _ _ _ _ _ _ us hl => match us, hl with | [_, _], _ => rfl)
theorem Txt.D_is_sound (T : Txt K mg) : ∃ (f : Addr) (fd : FuncData), C8.Def K mg "is_sound" s_is_sound f fd ∧ Binds K fd ["disc"] [] := T.dfn 34 22 rfl rfl (fun _ _ _ _ _ _ us hl => match us, hl with | [_], _ => rfl)
theorem Txt.D_law_cell (T : Txt K mg) : ∃ (f : Addr) (fd : FuncData), C8.Def K mg "_law_cell" s_law_cell f fd ∧ Binds K fd ["_law_script", "_law_k"] [] := T.dfn 35 23 rfl rfl (fun _ _ _ _ _ _ us hl => match us, hl with | [_, _], _ => rfl)
theorem Txt.D_law_draws (T : Txt K mg) : ∃ (f : Addr) (fd : FuncData), C8.Def K mg "_law_draws" s_law_draws f fd ∧ Binds K fd ["_law_cell_here", "_law_count"] [] := T.dfn 36 24 rfl rfl (fun _ _ _ _ _ _ us hl => match us, hl with | [_, _], _ => rfl)
theorem Txt.D_law_is_int (T : Txt K mg) : ∃ (f : Addr) (fd : FuncData), C8.Def K mg "_law_is_int" s_law_is_int f fd ∧ Binds K fd ["_law_x"] [] := T.dfn 37 25 rfl rfl (fun _ _ _ _ _ _ us hl => match us, hl with | [_], _ => rfl)
theorem Txt.D_law_is_bool (T : Txt K mg) : ∃ (f : Addr) (fd : FuncData), C8.Def K mg "_law_is_bool" s_law_is_bool f fd ∧ Binds K fd ["_law_x", "_law_due"] [] := T.dfn 38 26 rfl rfl (fun _ _ _ _ _ _ us hl => match us, hl with | [_, _], _ => rfl)
theorem Txt.D_law_ints (T : Txt K mg) : ∃ (f : Addr) (fd : FuncData), C8.Def K mg "_law_ints" s_law_ints f fd ∧ Binds K fd ["_law_x", "_law_kind"] [] := T.dfn 39 27 rfl rfl (fun _ _ _ _ _ _ us hl => match us, hl with | [_, _], _ => rfl)
theorem Txt.D_law_is_list (T : Txt K mg) : ∃ (f : Addr) (fd : FuncData), C8.Def K mg "_law_is_list" s_law_is_list f fd ∧ Binds K fd ["_law_x", "_law_due"] [] := T.dfn 40 28 rfl rfl (fun _ _ _ _ _ _ us hl => match us, hl with | [_, _], _ => rfl)
theorem Txt.D_law_is_tuple (T : Txt K mg) : ∃ (f : Addr) (fd : FuncData), C8.Def K mg "_law_is_tuple" s_law_is_tuple f fd ∧ Binds K fd ["_law_x", "_law_due"] [] := T.dfn 41 29 rfl rfl (fun _ _ _ _ _ _ us hl => match us, hl with | [_, _], _ => rfl)
theorem Txt.D_law_is_text (T : Txt K mg) : ∃ (f : Addr) (fd : FuncData), C8.Def K mg "_law_is_text" s_law_is_text f fd ∧ Binds K fd ["_law_x", "_law_due"] [] := T.dfn 42 30 rfl rfl (fun _ _ _ _ _ _ us hl => match us, hl with | [_, _], _ => rfl)
theorem Txt.D_law_is_texts (T : Txt K mg) : ∃ (f : Addr) (fd : FuncData), C8.Def K mg "_law_is_texts" s_law_is_texts f fd ∧ Binds K fd ["_law_x", "_law_due", "_law_kind"] [] := T.dfn 43 31 rfl rfl (fun _ _ _ _ _ _ us hl => match us, hl with | [_, _, _], _ => rfl)
theorem Txt.D_law_name (T : Txt K mg) : ∃ (f : Addr) (fd : FuncData), C8.Def K mg "_law_name" s_law_name f fd ∧ Binds K fd ["_law_draw"] [] := T.dfn 44 32 rfl rfl (fun _ _ _ _ _ _ us hl => match us, hl with | [_], _ => rfl)
theorem Txt.D_law_files (T : Txt K mg) : ∃ (f : Addr) (fd : FuncData), C8.Def K mg "_law_files" s_law_files f fd ∧ Binds K fd ["_law_draws_here", "_law_at", "_law_many", "_law_most"] [] := T.dfn 45 33 rfl rfl (fun _ _ _ _ _ _ us hl => match us, hl with | [_, _, _, _], _ => rfl)
theorem Txt.D_law_same_reading (T : Txt K mg) : ∃ (f : Addr) (fd : FuncData), C8.Def K mg "_law_same_reading" s_law_same_reading f fd ∧ Binds K fd ["_law_x", "_law_due"] [] := T.dfn 46 34 rfl rfl (fun _ _ _ _ _ _ us hl => match us, hl with | [_, _], _ => rfl)
theorem Txt.D_law (T : Txt K mg) : ∃ (f : Addr) (fd : FuncData), C8.Def K mg "law" s_law f fd ∧ Binds K fd ["_law_script"] [] := T.dfn 47 35 rfl rfl (fun _ _ _ _ _ _ us hl => match us, hl with | [_], _ => rfl)
theorem Txt.i_CRC_START (T : Txt K mg) : ∃ u, mg "CRC_START" = some u ∧ RelV (.int 65535) u := T.int 44 rfl
theorem Txt.i_CRC_MASK (T : Txt K mg) : ∃ u, mg "CRC_MASK" = some u ∧ RelV (.int 4129) u := T.int 45 rfl
theorem Txt.i_WORD (T : Txt K mg) : ∃ u, mg "WORD" = some u ∧ RelV (.int 65536) u := T.int 46 rfl
theorem Txt.i_TOP (T : Txt K mg) : ∃ u, mg "TOP" = some u ∧ RelV (.int 32768) u := T.int 47 rfl
theorem Txt.i_MOST_BLOCKS (T : Txt K mg) : ∃ u, mg "MOST_BLOCKS" = some u ∧ RelV (.int 2000) u := T.int 48 rfl
theorem Txt.i_LONGEST_NAME (T : Txt K mg) : ∃ u, mg "LONGEST_NAME" = some u ∧ RelV (.int 8) u := T.int 49 rfl
theorem Txt.i_ENTRY (T : Txt K mg) : ∃ u, mg "ENTRY" = some u ∧ RelV (.int 16) u := T.int 50 rfl
theorem Txt.i_MOST_DIRECTORY (T : Txt K mg) : ∃ u, mg "MOST_DIRECTORY" = some u ∧ RelV (.int 20) u := T.int 51 rfl
theorem Txt.i_LONGEST_FILE (T : Txt K mg) : ∃ u, mg "LONGEST_FILE" = some u ∧ RelV (.int 60000) u := T.int 52 rfl
theorem Txt.i_END (T : Txt K mg) : ∃ u, mg "END" = some u ∧ RelV (.int 1) u := T.int 53 rfl
theorem Txt.i_NO_DATA (T : Txt K mg) : ∃ u, mg "NO_DATA" = some u ∧ RelV (.int 65535) u := T.int 54 rfl
theorem Txt.i_FEWEST_BLOCKS (T : Txt K mg) : ∃ u, mg "FEWEST_BLOCKS" = some u ∧ RelV (.int 4) u := T.int 55 rfl
theorem Txt.s_CAPITALS (T : Txt K mg) : ∃ u, mg "CAPITALS" = some u ∧ RelV (.str "ABCDEFGHIJKLMNOPQRSTUVWXYZ") u := T.str 56 rfl
theorem Txt.s_DIGITS (T : Txt K mg) : ∃ u, mg "DIGITS" = some u ∧ RelV (.str "0123456789") u := T.str 57 rfl
theorem Txt.t_BIT_WEIGHTS (T : Txt K mg) : ∃ u, mg "BIT_WEIGHTS" = some u ∧ RelV (.ref (He.ga K "BIT_WEIGHTS")) u := ⟨_, T.glo 41 rfl, rfl⟩
theorem Txt.t_SIZES (T : Txt K mg) : ∃ u, mg "SIZES" = some u ∧ RelV (.ref (He.ga K "SIZES")) u := ⟨_, T.glo 42 rfl, rfl⟩
theorem Txt.t_HEAD (T : Txt K mg) : ∃ u, mg "HEAD" = some u ∧ RelV (.ref (He.ga K "HEAD")) u := ⟨_, T.glo 43 rfl, rfl⟩
theorem Txt.f_len (T : Txt K mg) : mg "len" = none := T.free 58 rfl
theorem Txt.f_all (T : Txt K mg) : mg "all" = none := T.free 59 rfl
theorem Txt.f_any (T : Txt K mg) : mg "any" = none := T.free 60 rfl
theorem Txt.f_list (T : Txt K mg) : mg "list" = none := T.free 61 rfl
theorem Txt.f_range (T : Txt K mg) : mg "range" = none := T.free 62 rfl
theorem Txt.f_sum (T : Txt K mg) : mg "sum" = none := T.free 63 rfl
theorem Txt.f_min (T : Txt K mg) : mg "min" = none := T.free 64 rfl
theorem Txt.f_int (T : Txt K mg) : mg "int" = none := T.free 65 rfl
theorem Txt.f_isinstance (T : Txt K mg) : mg "isinstance" = none := T.free 66 rfl
theorem Txt.f_ord (T : Txt K mg) : mg "ord" = none := T.free 67 rfl
theorem Txt.f_bool (T : Txt K mg) : mg "bool" = none := T.free 68 rfl
theorem Txt.f_str (T : Txt K mg) : mg "str" = none := T.free 69 rfl
theorem Txt.f_tuple (T : Txt K mg) : mg "tuple" = none := T.free 70 rfl
theorem Txt.c_BlockDisc (T : Txt K mg) : Cls K (He.ga K "BlockDisc") := T.cls 71 rfl
theorem Txt.c_Volume (T : Txt K mg) : Cls K (He.ga K "Volume") := T.cls 72 rfl
theorem Txt.n_size (T : Txt K mg) : NoAttr K (He.ga K "BlockDisc") "size" := T.noat 87 rfl
theorem Txt.n_rows (T : Txt K mg) : NoAttr K (He.ga K "BlockDisc") "rows" := T.noat 88 rfl
theorem Txt.n_disc (T : Txt K mg) : NoAttr K (He.ga K "Volume") "disc" := T.noat 89 rfl
theorem Txt.n_tables (T : Txt K mg) : NoAttr K (He.ga K "Volume") "tables" := T.noat 90 rfl
theorem Txt.n_directory (T : Txt K mg) : NoAttr K (He.ga K "Volume") "directory" := T.noat 91 rfl
theorem Txt.n_first (T : Txt K mg) : NoAttr K (He.ga K "Volume") "first" := T.noat 92 rfl
end
end Dw
/-! KH: the head's run. -/
namespace Dw
open PySem PySem.Spec PyProof.Rows L2
abbrev R : PySem.W.OpenRow := PySem.W.OpenLaw.row PySem.Challenge.rw_discwright_k46_whole_files_come_back
def ob (s : PySem.W.SharedT) : He.AlD × Bool := obsMG (HandSHeadRun.getT s)
theorem ob_eq (s : PySem.W.SharedT) : ob s = hk.obs s.abs := by
  have e : HandSHeadRun.getT s = s.abs.heap.get? := funext (HandSHeadRun.getT_eq s)
  show obsMG (HandSHeadRun.getT s) = obsMG s.abs.heap.get?
  rw [e]
theorem run (w : World) : HandSHeadRun.RunEq R (PySem.W.view R.prog [64]) hk ob 4000 names w := by
  intro os
  kernel_rfl
end Dw
/-! K1: lemmas on heaps and lists; the defs of bytework. -/
namespace Dw
open PySem PySem.Spec PyProof.Rows L2
/-- a list of ints -/
abbrev LI (K : PySem.W.Frag) (H : Hp) (a : Addr) (ns : List Int) : Prop := SqL K H a (ns.map V.int)
/-- a list of ints of one's own -/
abbrev OI (H : Hp) (a : Addr) (ns : List Int) : Prop := H a = some (.lst (ns.map V.int))
section
variable {K : PySem.W.Frag} {H H1 : Hp} {p : Addr} {o : HO}
theorem same_up (s : Same H H1) (h : H p = none) : Same H (upd H1 p o) := fun b u e => by
  rw [upd_ne (ne_of_none e h)]
  exact s b u e
theorem same_seqT {xs : List V} {a : Addr} (e : Same H H1) (h : SqT K H a xs) : SqT K H1 a xs := by
  rcases h with (h | ⟨o, h⟩) | h
  · exact .inl (.inl (e _ _ h))
  · exact .inl (.inr ⟨o, e _ _ h⟩)
  · exact .inr h
theorem up_of {q : Addr} {u : HO} (h : H q = some u) (hp : H p = none) : upd H p o q = some u := by
  rw [upd_ne (ne_of_none h hp)]
  exact h
end
/-- a comprehension without a test -/
theorem lcT {σ : L2.St} {H : Hp} {Q : Bool → Hp → Prop} (h : Q true H) : tYes σ H Q := h
theorem map_get {α β : Type} {f : α → β} {l : List α} {i : Nat} {y : β} (h : (l.map f)[i]? = some y) : ∃ x, l[i]? = some x ∧ y = f x := by
  rw [List.getElem?_map] at h
  cases e : l[i]? with
  | none =>
    rw [e] at h
    cases h
  | some x =>
    rw [e] at h
    exact ⟨x, rfl, (Option.some.inj h).symm⟩
theorem get_map {α β : Type} {f : α → β} {l : List α} {i : Nat} {x : α} (h : l[i]? = some x) : (l.map f)[i]? = some (f x) := by
  rw [List.getElem?_map, h]
  rfl
theorem take_snoc {α : Type} {l : List α} {i : Nat} {x : α} (h : l[i]? = some x) : l.take (i + 1) = l.take i ++ [x] := by
  rw [List.take_add_one, h]
  rfl
theorem foldl_snoc {α β : Type} {f : β → α → β} {b : β} {l : List α} {i : Nat} {x : α} (h : l[i]? = some x) : (l.take (i + 1)).foldl f b = f ((l.take i).foldl f b) x := by
  rw [take_snoc h, List.foldl_append]
  rfl
theorem map_snoc {α β : Type} {f : α → β} {l : List α} {i : Nat} {x : α} (h : l[i]? = some x) : (l.take (i + 1)).map f = (l.take i).map f ++ [f x] := by
  rw [take_snoc h, List.map_append]
  rfl
theorem get_lt {α : Type} {l : List α} {i : Nat} {x : α} (h : l[i]? = some x) : i < l.length := (List.getElem?_eq_some_iff.mp h).1
theorem get_mem {α : Type} {l : List α} {i : Nat} {x : α} (h : l[i]? = some x) : x ∈ l := List.mem_of_getElem? h
/-! ### the mirror -/
def bitsM (v : Int) : List Int := bwI.map fun w => v / w % 2
def stepB (n b : Int) : Int := if n / 32768 = b then 2 * n % 65536 else Builtin.bitXor (2 * n % 65536) 4129
def stepM (n v : Int) : Int := (bitsM v).foldl stepB n
def crcM (l : List Int) : Int := l.foldl stepM 65535
def twoM (n : Int) : List Int := [n / 256, n % 256]
theorem bwI_mem {w : Int} (h : w ∈ bwI) : 0 < w ∧ w < 1073741824 := by
  simp only [bwI, List.mem_cons, List.not_mem_nil, or_false] at h
  omega
/-! ### the promises -/
def sp_byte_bits : Sp := fun vs H Q _ => ∃ v : Int, vs = [.int v] ∧ ∀ H' p, Same H H' → H p = none → OI H' p (bitsM v) → Q (.ref p) H'
def sp_exclusive : Sp := fun vs H Q _ => ∃ i j : Int, vs = [.int i, .int j] ∧ Q (.int (Builtin.bitXor i j)) H
def sp_step : Sp := fun vs H Q _ => ∃ n v : Int, vs = [.int n, .int v] ∧ ∀ H', Same H H' → Q (.int (stepM n v)) H'
def sp_crc (K : PySem.W.Frag) : Sp := fun vs H Q _ => ∃ (a : Addr) (ns : List Int), vs = [.ref a] ∧ LI K H a ns ∧ ∀ H', Same H H' → Q (.int (crcM ns)) H'
def sp_two_bytes : Sp := fun vs H Q _ => ∃ n : Int, vs = [.int n] ∧ ∀ H' p, Same H H' → H p = none → OI H' p (twoM n) → Q (.ref p) H'
section
variable {P : Program} {w : World} {K : PySem.W.Frag} {mg : Str → Option Value} {base : Heap}
theorem sc_byte_bits : FnScope ["value", "weight"] ["value"] (C8.fnScope s_byte_bits) := C8.fnScope_by (by decide +kernel)
theorem ok_byte_bits (T : Txt K mg) : C8.Cal P w K mg base 1 "byte_bits" sp_byte_bits [] := by
  obtain ⟨f, fd, F, b⟩ := T.D_byte_bits
  refine C8.cal0 F b .nil sc_byte_bits (fun vs H Q E h => ?_) (fun cdv A outer s H vs Q E hr h => ?_)
  · obtain ⟨v, rfl, _⟩ := h
    rfl
  · obtain ⟨v, rfl, k⟩ := h
    refine ⟨_, pss_one (ps_ret (pe_lc (own := [("weight", 1)]) (g := gName 1) (tt := tYes) rfl sc_byte_bits.nd (pi_tup (C8.pe_gc (by rfl) T.t_BIT_WEIGHTS)) (blkOk_by (own := [("weight", 1)]) (N := ["value", "weight"]) (sc := C8.fnScope s_byte_bits) (by decide +kernel))
      (fun _ _ _ _ _ => pg_name (i := 1) sc_byte_bits.nd rfl (Or.inl rfl)) (fun _ _ _ _ _ => pts_nil) (fun _ _ _ _ _ => pe_op op_mod (pe_op op_fdiv (pv 0) (pv 1)) pe_int))), ?_⟩
    refine ⟨_, rfl, ⟨_, T.bw _⟩, fun D hD => lc_tup (K := K) (a := He.ga K "BIT_WEIGHTS") (xs := bwI.map V.int) (fun i H' => Same H H' ∧ OI H' D ((bitsM v).take i)) ⟨same_up (Same.refl _) hD, upd_same⟩ (fun i H' _ _ => T.bw _) ?_ ?_⟩
    · rintro i x H' hx ⟨s1, hL⟩
      obtain ⟨y, hy, rfl⟩ := map_get hx
      have hb := bwI_mem (get_mem hy)
      refine ⟨rfl, lcT (iteT ?_)⟩
      refine ⟨_, rfl, _, rfl, _, _, rfl, rfl, hb, _, _, rfl, rfl, (by show (0 : Int) < 2; decide), ?_⟩
      have e : (bitsM v)[i]? = some (v / y % 2) := get_map hy
      refine ⟨_, hL, ?_, same_up s1 hD, ?_⟩
      · rw [List.length_map]
        exact small1000 (by rw [List.length_take]; have : (bitsM v).length = 8 := rfl; omega)
      · show upd H' D _ D = _
        rw [upd_same, map_snoc e]
    · rintro H' ⟨s1, hL⟩
      exact k H' D s1 hD hL
theorem sc_exclusive : FnScope ["first", "second"] ["first", "second"] (C8.fnScope s_exclusive) := C8.fnScope_by (by decide +kernel)
theorem ok_exclusive (T : Txt K mg) : C8.Cal P w K mg base 1 "exclusive" sp_exclusive [] := by
  obtain ⟨f, fd, F, b⟩ := T.D_exclusive
  refine C8.cal0 F b .nil sc_exclusive (fun vs H Q E h => ?_) (fun cdv A outer s H vs Q E hr h => ?_)
  · obtain ⟨i, j, rfl, _⟩ := h
    rfl
  · obtain ⟨i, j, rfl, k⟩ := h
    exact ⟨_, pss_one (ps_ret (pe_op op_xor (pv 0) (pv 1))), _, rfl, _, rfl, _, _, rfl, rfl, k⟩
theorem sc_two_bytes : FnScope ["number"] ["number"] (C8.fnScope s_two_bytes) := C8.fnScope_by (by decide +kernel)
theorem ok_two_bytes (T : Txt K mg) : C8.Cal P w K mg base 1 "two_bytes" sp_two_bytes [] := by
  obtain ⟨f, fd, F, b⟩ := T.D_two_bytes
  refine C8.cal0 F b .nil sc_two_bytes (fun vs H Q E h => ?_) (fun cdv A outer s H vs Q E hr h => ?_)
  · obtain ⟨n, rfl, _⟩ := h
    rfl
  · obtain ⟨n, rfl, k⟩ := h
    refine ⟨_, pss_one (ps_ret (pe_lst (pa_cons (pe_op op_fdiv (pv 0) pe_int) (pa_cons (pe_op op_mod (pv 0) pe_int) pa_nil)))), ?_⟩
    refine ⟨_, rfl, _, _, rfl, rfl, ⟨by decide, by decide⟩, _, rfl, _, _, rfl, rfl, (by show (0 : Int) < 256; decide), (by show 2 ≤ sizeLine; decide), fun p hp => ?_⟩
    exact k _ p (same_up (Same.refl _) hp) hp upd_same
theorem sc_step : FnScope ["number", "value", "bit", "top"] ["number", "value"] (C8.fnScope s_step) := C8.fnScope_by (by decide +kernel)
theorem ok_step (T : Txt K mg) : C8.Cal P w K mg base 2 "step" sp_step [] := by
  obtain ⟨f, fd, F, b⟩ := T.D_step
  have cB : C8.Cal P w K mg base 1 "byte_bits" sp_byte_bits [] := ok_byte_bits T
  have cX : C8.Cal P w K mg base 1 "exclusive" sp_exclusive [] := ok_exclusive T
  refine C8.cal0 F b .nil sc_step (fun vs H Q E h => ?_) (fun cdv A outer s H vs Q E hr h => ?_)
  · obtain ⟨n, v, rfl, _⟩ := h
    rfl
  · obtain ⟨n, v, rfl, k⟩ := h
    refine ⟨_, pss_cons (ps_for PassesOwn.never rfl (pi_list (C8.pe_c cB hr (by decide) rfl (pa_cons (pv 1) pa_nil))) (pg_name (i := 2) sc_step.nd rfl (Or.inl rfl))
      (pss_cons (ps_set (i := 3) sc_step.nd rfl (Or.inl rfl) (pe_op op_fdiv (pv 0) (C8.pe_gc (by rfl) T.i_TOP)))
      (pss_cons (ps_set (i := 0) sc_step.nd rfl (Or.inl rfl) (pe_op op_mod (pe_op op_mul pe_int (pv 0)) (C8.pe_gc (by rfl) T.i_WORD)))
      (pss_one (ps_if (pt_cmpR op_ne (pv 3) (pv 2) (nomark _)) (pss_one (ps_set (i := 0) sc_step.nd rfl (Or.inl rfl) (C8.pe_c cX hr (by decide) rfl (pa_cons (pv 0) (pa_cons (C8.pe_gc (by rfl) T.i_CRC_MASK) pa_nil))))) pss_nil)))))
      (pss_one (ps_ret (pv 0))), ?_⟩
    refine ⟨_, rfl, v, rfl, fun H1 p s1 hp hL => ⟨p, rfl, ⟨_, SqL.of hL⟩, for_list (K := K) (a := p) (xs := (bitsM v).map V.int)
      (fun i σ H2 => ∃ o1 o2 : Option V, σ = [some (.int (((bitsM v).take i).foldl stepB n)), some (.int v), o1, o2] ∧ Same H1 H2) ⟨none, none, rfl, Same.refl _⟩ (fun i σ H2 _ ⟨_, _, _, s2⟩ => SqL.of (s2 _ _ hL)) ?_ ?_⟩⟩
    · rintro i x σ H2 hx ⟨o1, o2, rfl, s2⟩
      obtain ⟨y, hy, rfl⟩ := map_get hx
      rw [foldl_snoc hy]
      refine ⟨_, rfl, _, _, rfl, rfl, ⟨by decide, by decide⟩, _, rfl, _, _, rfl, rfl, .inl ⟨by decide, by decide⟩, _, _, rfl, rfl, (by show (0 : Int) < 65536; decide), _, rfl, _, rfl, rfl, _, rfl, ?_⟩
      generalize ((bitsM v).take i).foldl stepB n = z
      by_cases h : z / 32768 = y
      · have e : decide (V.int (z / 32768) = V.int y) = true := decide_eq_true (by rw [h])
        rw [e]
        refine iteF ⟨some (.int y), some (.int (z / 32768)), ?_, s2⟩
        unfold stepB
        rw [if_pos h]
        rfl
      · have e : decide (V.int (z / 32768) = V.int y) = false := decide_eq_false (fun q => h (V.int.inj q))
        rw [e]
        refine iteT ⟨_, rfl, _, _, rfl, ?_⟩
        refine ⟨some (.int y), some (.int (z / 32768)), ?_, s2⟩
        unfold stepB
        rw [if_neg h]
        rfl
    · rintro σ H2 ⟨o1, o2, rfl, s2⟩
      rw [List.take_of_length_le (Nat.le_of_eq (List.length_map V.int).symm)]
      exact ⟨_, rfl, k H2 (s1.trans s2)⟩
theorem sc_crc : FnScope ["values", "number", "value"] ["values"] (C8.fnScope s_crc) := C8.fnScope_by (by decide +kernel)
theorem ok_crc (T : Txt K mg) : C8.Cal P w K mg base 3 "crc" (sp_crc K) [] := by
  obtain ⟨f, fd, F, b⟩ := T.D_crc
  have cS : C8.Cal P w K mg base 2 "step" sp_step [] := ok_step T
  refine C8.cal0 F b .nil sc_crc (fun vs H Q E h => ?_) (fun cdv A outer s H vs Q E hr h => ?_)
  · obtain ⟨a, ns, rfl, _⟩ := h
    rfl
  · obtain ⟨a, ns, rfl, hS, k⟩ := h
    refine ⟨_, pss_cons (ps_set (i := 1) sc_crc.nd rfl (Or.inl rfl) (C8.pe_gc (by rfl) T.i_CRC_START))
      (pss_cons (ps_for PassesOwn.never rfl (pi_list (pv 0)) (pg_name (i := 2) sc_crc.nd rfl (Or.inl rfl))
        (pss_one (ps_set (i := 1) sc_crc.nd rfl (Or.inl rfl) (C8.pe_c cS hr (by decide) rfl (pa_cons (pv 1) (pa_cons (pv 2) pa_nil))))))
      (pss_one (ps_ret (pv 1)))), ?_⟩
    refine ⟨_, rfl, a, rfl, ⟨_, hS⟩, for_list (K := K) (a := a) (xs := ns.map V.int)
      (fun i σ H2 => ∃ o1 : Option V, σ = [some (.ref a), some (.int ((ns.take i).foldl stepM 65535)), o1] ∧ Same H H2) ⟨none, rfl, Same.refl _⟩ (fun i σ H2 _ ⟨_, _, s2⟩ => s2.seq hS) ?_ ?_⟩
    · rintro i x σ H2 hx ⟨o1, rfl, s2⟩
      obtain ⟨y, hy, rfl⟩ := map_get hx
      rw [foldl_snoc hy]
      exact ⟨_, rfl, _, rfl, _, _, rfl, fun H3 s3 => ⟨_, rfl, s2.trans s3⟩⟩
    · rintro σ H2 ⟨o1, rfl, s2⟩
      rw [List.take_of_length_le (Nat.le_of_eq (List.length_map V.int).symm)]
      exact ⟨_, rfl, k H2 s2⟩
end
end Dw
/-! K2: lists of lists; block discs. -/
namespace Dw
open PySem PySem.Spec PyProof.Rows L2
theorem iteFd {c : Bool} {A B : Prop} (e : c = false) (h : B) : if c = true then A else B := by
  subst e
  exact iteF h
theorem iteTd {c : Bool} {A B : Prop} (e : c = true) (h : A) : if c = true then A else B := by
  subst e
  exact iteT h
def rNo : R2 := fun x y H Q => y = .non ∧ Q (.bl (decide (x = .non))) H
theorem op_no {X : Cx} : OpR X (compareOp .Is) rNo := op_isN
abbrev bdC (K : PySem.W.Frag) : Addr := He.ga K "BlockDisc"
abbrev voC (K : PySem.W.Frag) : Addr := He.ga K "Volume"
/-! ### lists of lists of ints -/
/-- the rows stand at these addresses -/
def RowsAt (H : Hp) (as : List Addr) (rows : List (List Int)) : Prop := as.length = rows.length ∧ ∀ (i : Nat) (b : Addr) (ns : List Int), as[i]? = some b → rows[i]? = some ns → OI H b ns
section
variable {H H1 : Hp} {as bs : List Addr} {rows rs : List (List Int)}
theorem RowsAt.nil : RowsAt H [] [] := ⟨rfl, fun i b ns h _ => by simp at h⟩
theorem RowsAt.mono (r : RowsAt H as rows) (h : ∀ b ns, b ∈ as → OI H b ns → OI H1 b ns) : RowsAt H1 as rows := ⟨r.1, fun i b ns h1 h2 => h b ns (get_mem h1) (r.2 i b ns h1 h2)⟩
theorem RowsAt.same (r : RowsAt H as rows) (s : Same H H1) : RowsAt H1 as rows := r.mono fun _ _ _ h => s _ _ h
theorem RowsAt.get (r : RowsAt H as rows) {i : Nat} {ns : List Int} (h : rows[i]? = some ns) : ∃ b, as[i]? = some b ∧ OI H b ns := by
  have hl := get_lt h
  have hb : as[i]? = some (as[i]'(by rw [r.1]; exact hl)) := List.getElem?_eq_getElem (by rw [r.1]; exact hl)
  exact ⟨_, hb, r.2 i _ ns hb h⟩
theorem RowsAt.at (r : RowsAt H as rows) {i : Nat} {b : Addr} (h : as[i]? = some b) : ∃ ns, rows[i]? = some ns ∧ OI H b ns := by
  have hl := get_lt h
  have hb : rows[i]? = some (rows[i]'(by rw [← r.1]; exact hl)) := List.getElem?_eq_getElem (by rw [← r.1]; exact hl)
  exact ⟨_, hb, r.2 i _ _ h hb⟩
theorem RowsAt.append (r : RowsAt H as rows) (q : RowsAt H bs rs) : RowsAt H (as ++ bs) (rows ++ rs) := by
  refine ⟨by rw [List.length_append, List.length_append, r.1, q.1], fun i b ns h1 h2 => ?_⟩
  by_cases hi : i < as.length
  · rw [List.getElem?_append_left hi] at h1
    rw [List.getElem?_append_left (by rw [← r.1]; exact hi)] at h2
    exact r.2 i b ns h1 h2
  · rw [List.getElem?_append_right (by omega)] at h1
    rw [List.getElem?_append_right (by rw [← r.1]; omega), ← r.1] at h2
    exact q.2 _ b ns h1 h2
theorem RowsAt.one {b : Addr} {ns : List Int} (h : OI H b ns) : RowsAt H [b] [ns] := by
  refine ⟨rfl, fun i c ms h1 h2 => ?_⟩
  cases i with
  | zero =>
    have e1 : b = c := Option.some.inj h1
    have e2 : ns = ms := Option.some.inj h2
    rw [← e1, ← e2]
    exact h
  | succ i => simp at h1
theorem RowsAt.snoc (r : RowsAt H as rows) {b : Addr} {ns : List Int} (h : OI H b ns) : RowsAt H (as ++ [b]) (rows ++ [ns]) := r.append (.one h)
/-- the list of the rows is none of the rows -/
theorem RowsAt.ne (r : RowsAt H as rows) {a : Addr} (h : H a = some (.lst (as.map V.ref))) {b : Addr} (hb : b ∈ as) : b ≠ a := by
  rintro rfl
  obtain ⟨i, hi⟩ := List.mem_iff_getElem?.mp hb
  obtain ⟨ns, _, hn⟩ := r.at hi
  have e : as.map V.ref = ns.map V.int := by
    have := h.symm.trans hn
    injection this with this
    injection this
  have h0 : (as.map V.ref)[i]? = some (V.ref b) := get_map hi
  rw [e] at h0
  obtain ⟨n, _, q⟩ := map_get h0
  cases q
theorem RowsAt.upd (r : RowsAt H as rows) {a : Addr} {o : HO} (h : ∀ b ∈ as, b ≠ a) : RowsAt (upd H a o) as rows := r.mono fun b ns hb hn => by
  show L2.upd H a o b = _
  rw [upd_ne (h b hb)]
  exact hn
end
/-! ### a disc -/
theorem ks_sr : ¬ (("size" : Str) = "rows") := by decide +kernel
/-- a disc's fields -/
def dfl (z : Int) (r : Addr) : List (Str × V) := putF "rows" (.ref r) (putF "size" (.int z) [])
theorem dfl_size (z : Int) (r : Addr) : (dfl z r).lookup ("size" : Str) = some (.int z) := by
  unfold dfl
  rw [lookup_putF, if_neg ks_sr, lookup_putF, if_pos rfl]
theorem dfl_rows (z : Int) (r : Addr) : (dfl z r).lookup ("rows" : Str) = some (.ref r) := by
  unfold dfl
  rw [lookup_putF, if_pos rfl]
theorem dfl_no (z : Int) (r : Addr) {m : Str} (h1 : ¬ m = "rows") (h2 : ¬ m = "size") : (dfl z r).lookup m = none := by
  unfold dfl
  rw [lookup_putF, if_neg h1, lookup_putF, if_neg h2]
  rfl
/-- a disc stands at p: blocks of z bytes -/
structure DiscAt (K : PySem.W.Frag) (H : Hp) (p : Addr) (z : Int) (rows : List (List Int)) : Prop where
  ex : ∃ (dx r : Addr) (as : List Addr), H p = some (.ins (bdC K) dx (dfl z r)) ∧ H r = some (.lst (as.map V.ref)) ∧ RowsAt H as rows
theorem DiscAt.same {K : PySem.W.Frag} {H H1 : Hp} {p : Addr} {z : Int} {rows : List (List Int)} (D : DiscAt K H p z rows) (s : Same H H1) : DiscAt K H1 p z rows := by
  obtain ⟨dx, r, as, h1, h2, h3⟩ := D.ex
  exact ⟨dx, r, as, s _ _ h1, s _ _ h2, h3.same s⟩
/-- blocks of one size, of bytes -/
structure Blocks (z : Int) (rows : List (List Int)) : Prop where
  pos : 0 < rows.length
  most : rows.length ≤ 2000
  size : z ∈ szI
  len : ∀ r ∈ rows, (r.length : Int) = z
  byte : ∀ r ∈ rows, ∀ n ∈ r, 0 ≤ n ∧ n ≤ 255
theorem szI_mem {z : Int} (h : z ∈ szI) : 16 ≤ z ∧ z ≤ 512 := by
  simp only [szI, List.mem_cons, List.not_mem_nil, or_false] at h
  omega
/-! ### promises -/
def sp_is_block (K : PySem.W.Frag) : Sp := fun vs H Q _ => ∃ (a : Addr) (ns : List Int), vs = [.ref a] ∧ OI H a ns ∧ ns.length ≤ 1000 ∧ (∀ n ∈ ns, 0 ≤ n ∧ n ≤ 255) ∧ ∀ H', Same H H' → Q (.bl true) H'
def sp_bd_init (K : PySem.W.Frag) : Sp := fun vs H Q _ => ∃ (p dx a : Addr) (as : List Addr) (rows : List (List Int)) (z : Int), vs = [.ref p, .ref a] ∧ H p = some (.ins (bdC K) dx []) ∧ H a = some (.lst (as.map V.ref)) ∧ RowsAt H as rows ∧ Blocks z rows ∧
  ∀ H', (∀ b o, H b = some o → b ≠ p → H' b = some o) → DiscAt K H' p z rows → Q .non H'
def sp_bd_len (K : PySem.W.Frag) : Sp := fun vs H Q _ => ∃ (p : Addr) (z : Int) (rows : List (List Int)), vs = [.ref p] ∧ DiscAt K H p z rows ∧ Q (.int rows.length) H
def sp_bd_block (K : PySem.W.Frag) : Sp := fun vs H Q _ => ∃ (p : Addr) (z : Int) (rows : List (List Int)) (i : Nat) (ns : List Int), vs = [.ref p, .int i] ∧ DiscAt K H p z rows ∧ rows[i]? = some ns ∧ ∀ H' q, Same H H' → H q = none → OI H' q ns → Q (.ref q) H'
def sp_bd_missing (K : PySem.W.Frag) : Sp := fun vs H Q _ => ∃ (p : Addr) (z : Int) (rows : List (List Int)), vs = [.ref p] ∧ DiscAt K H p z rows ∧ rows.length ≤ 2000 ∧ ∀ H' q, Same H H' → H q = none → H' q = some (.lst []) → Q (.ref q) H'
theorem all_rep (n : Nat) : (List.replicate n true).all id = true := by
  induction n with
  | zero => rfl
  | succ n ih => rw [List.replicate_succ, List.all_cons, ih] <;> rfl
theorem rep_snoc {α : Type} (n : Nat) (x : α) : List.replicate (n + 1) x = List.replicate n x ++ [x] := List.replicate_succ'
section
variable {P : Program} {w : World} {K : PySem.W.Frag} {mg : Str → Option Value} {base : Heap}
theorem sc_is_block : FnScope ["values", "value"] ["values"] (C8.fnScope s_is_block) := C8.fnScope_by (by decide +kernel)
theorem ok_is_block (T : Txt K mg) : C8.Cal P w K mg base 1 "is_block" (sp_is_block K) [] := by
  obtain ⟨f, fd, F, b⟩ := T.D_is_block
  refine C8.cal0 F b .nil sc_is_block (fun vs H Q E h => ?_) (fun cdv A outer s H vs Q E hr h => ?_)
  · obtain ⟨a, ns, rfl, _⟩ := h
    rfl
  · obtain ⟨a, ns, rfl, hL, hlen, hB, k⟩ := h
    refine ⟨_, pss_one (ps_ret (pe_callB (cr_all rfl) (by rfl) T.f_all (by decide +kernel) (pa_cons (pe_lc (own := [("value", 1)]) (g := gName 1) (tt := tYes) rfl sc_is_block.nd (pi_list (pv 0)) (blkOk_by (own := [("value", 1)]) (N := ["values", "value"]) (sc := C8.fnScope s_is_block) (by decide +kernel))
      (fun _ _ _ _ _ => pg_name (i := 1) sc_is_block.nd rfl (Or.inl rfl)) (fun _ _ _ _ _ => pts_nil) (fun _ _ _ _ _ => pe_chain op_le op_le pe_int (pv 1) pe_int)) pa_nil))), ?_⟩
    refine ⟨_, rfl, a, rfl, ⟨_, SqL.of hL⟩, fun D hD => lc_list (K := K) (a := a) (xs := ns.map V.int) (fun i H' => Same H H' ∧ H' D = some (.lst ((List.replicate i true).map V.bl))) ⟨same_up (Same.refl _) hD, upd_same⟩ (fun i H' _ q => SqL.of (q.1 _ _ hL)) ?_ ?_⟩
    · rintro i x H' hx ⟨s1, hR⟩
      obtain ⟨y, hy, rfl⟩ := map_get hx
      have hi := get_lt hy
      obtain ⟨b1, b2⟩ := hB y (get_mem hy)
      refine ⟨rfl, lcT (iteT ⟨_, rfl, _, _, rfl, rfl, _, rfl, ?_⟩)⟩
      refine iteTd (decide_eq_true b1) ⟨_, _, rfl, rfl, ?_⟩
      dsimp only
      rw [decide_eq_true b2]
      refine ⟨_, hR, ?_, same_up s1 hD, ?_⟩
      · rw [List.length_map, List.length_replicate]
        exact small1000 (by omega)
      · rw [upd_same, rep_snoc, List.map_append]
        rfl
    · rintro H' ⟨s1, hR⟩
      refine ⟨D, _, rfl, SqL.of hR, ?_⟩
      rw [all_rep]
      exact k H' s1
theorem sc_bd_len : FnScope ["self"] ["self"] (C8.fnScope s_BlockDisc_len) := C8.fnScope_by (by decide +kernel)
theorem ok_bd_len (T : Txt K mg) : C8.Met P w K mg base 1 (bdC K) "__len__" (sp_bd_len K) [] := by
  obtain ⟨f, fd, c, me, F, b⟩ := T.D_BlockDisc_len
  refine C8.met0 c me F b sc_bd_len (fun vs H Q E h => ?_) (fun cdv A outer s H vs Q E hr h => ?_)
  · obtain ⟨p, z, rows, rfl, _⟩ := h
    rfl
  · obtain ⟨p, z, rows, rfl, D, k⟩ := h
    obtain ⟨dx, r, as, h1, h2, h3⟩ := D.ex
    refine ⟨_, pss_one (ps_ret (pe_callB call_len_seq (by rfl) T.f_len PySem.boot_len (pa_cons (pe_fld (pv 0) rfl) pa_nil))), ?_⟩
    refine ⟨_, rfl, p, _, dx, _, _, rfl, h1, T.c_BlockDisc, T.n_rows, dfl_rows _ _, r, _, rfl, .inl (SqL.of h2), ?_⟩
    rw [List.length_map, h3.1]
    exact k
theorem sc_bd_block : FnScope ["self", "index"] ["self", "index"] (C8.fnScope s_BlockDisc_block) := C8.fnScope_by (by decide +kernel)
theorem ok_bd_block (T : Txt K mg) : C8.Met P w K mg base 1 (bdC K) "block" (sp_bd_block K) [] := by
  obtain ⟨f, fd, c, me, F, b⟩ := T.D_BlockDisc_block
  refine C8.met0 c me F b sc_bd_block (fun vs H Q E h => ?_) (fun cdv A outer s H vs Q E hr h => ?_)
  · obtain ⟨p, z, rows, i, ns, rfl, _⟩ := h
    rfl
  · obtain ⟨p, z, rows, i, ns, rfl, D, hi, k⟩ := h
    obtain ⟨dx, r, as, h1, h2, h3⟩ := D.ex
    obtain ⟨q, hq, hn⟩ := h3.get hi
    refine ⟨_, pss_cons (ps_if (pt_cmpR op_isN (pe_ix ix_list (pe_fld (pv 0) rfl) (pv 1) (fun _ _ => rfl)) pe_non (nomark _)) (pss_one (ps_ret pe_non)) pss_nil)
      (pss_one (ps_ret (pe_callTy call_list_of (by rfl) T.f_list (by decide +kernel) (pa_cons (pe_ix ix_list (pe_fld (pv 0) rfl) (pv 1) (fun _ _ => rfl)) pa_nil)))), ?_⟩
    have hat : atI (as.map V.ref) ((i : Nat) : Int) = some (.ref q) := atI_nat (get_map hq)
    refine ⟨_, rfl, p, _, dx, _, _, rfl, h1, T.c_BlockDisc, T.n_rows, dfl_rows _ _, _, rfl, r, _, _, _, rfl, rfl, SqL.of h2, hat, rfl, _, rfl, iteF ?_⟩
    refine ⟨_, rfl, p, _, dx, _, _, rfl, h1, T.c_BlockDisc, T.n_rows, dfl_rows _ _, _, rfl, r, _, _, _, rfl, rfl, SqL.of h2, hat, q, _, rfl, .inl (SqL.of hn), fun l hl => ?_⟩
    exact k _ l (same_up (Same.refl _) hl) hl upd_same
theorem sc_bd_missing : FnScope ["self", "index"] ["self"] (C8.fnScope s_BlockDisc_missing) := C8.fnScope_by (by decide +kernel)
theorem ok_bd_missing (T : Txt K mg) : C8.Met P w K mg base 1 (bdC K) "missing" (sp_bd_missing K) [] := by
  obtain ⟨f, fd, c, me, F, b⟩ := T.D_BlockDisc_missing
  refine C8.met0 c me F b sc_bd_missing (fun vs H Q E h => ?_) (fun cdv A outer s H vs Q E hr h => ?_)
  · obtain ⟨p, z, rows, rfl, _⟩ := h
    rfl
  · obtain ⟨p, z, rows, rfl, D, hlen, k⟩ := h
    refine ⟨_, pss_one (ps_ret (pe_lc (own := [("index", 1)]) (g := gName 1) (tt := tTest (tOp rNo (tOp (rIxL K) (tFld K (tVar 0) "rows") (tVar 1)) (tC .non))) rfl sc_bd_missing.nd (pi_range1 rfl T.f_range (pa_cons (pe_callB call_len_seq (by rfl) T.f_len PySem.boot_len (pa_cons (pe_fld (pv 0) rfl) pa_nil)) pa_nil)) (blkOk_by (own := [("index", 1)]) (N := ["self", "index"]) (sc := C8.fnScope s_BlockDisc_missing) (by decide +kernel))
      (fun _ _ _ _ _ => pg_name (i := 1) sc_bd_missing.nd rfl (Or.inl rfl)) (fun _ _ _ _ _ => pts_one (pt_cmpR op_no (pe_ix ix_list (pe_fld (pv 0) rfl) (pv 1) (fun _ _ => rfl)) pe_non (nomark _))) (fun _ _ _ _ _ => pv 1))), ?_⟩
    obtain ⟨dx, r, as, h1, h2, h3⟩ := D.ex
    refine ⟨_, rfl, p, _, dx, _, _, rfl, h1, T.c_BlockDisc, T.n_rows, dfl_rows _ _, r, _, rfl, .inl (SqL.of h2), ?_⟩
    rw [List.length_map, h3.1]
    refine ⟨_, rfl, by omega, by omega, fun Dn hD => ?_⟩
    refine lc_range (lo := 0) (n := rows.length) (fun i H' => Same H H' ∧ H' Dn = some (.lst [])) ⟨same_up (Same.refl _) hD, upd_same⟩ ?_ ?_
    · rintro i H' hi ⟨s1, hR⟩
      obtain ⟨q, hq, hn⟩ := h3.get (List.getElem?_eq_getElem hi)
      have hat : atI (as.map V.ref) ((0 : Int) + ((i : Nat) : Int)) = some (.ref q) := by
        rw [Int.zero_add]
        exact atI_nat (get_map hq)
      refine ⟨rfl, _, rfl, p, _, dx, _, _, rfl, s1 _ _ h1, T.c_BlockDisc, T.n_rows, dfl_rows _ _, _, rfl, r, _, _, _, rfl, rfl, SqL.of (s1 _ _ h2), hat, rfl, _, rfl, iteF ⟨s1, hR⟩⟩
    · rintro H' ⟨s1, hR⟩
      exact k H' Dn s1 hD hR
end
end Dw
/-! K3: two rules (len of an own instance, an attribute as a target), BlockDisc.__init__. -/
namespace Dw
open PySem PySem.Spec PyProof.Rows L2
section
variable {X : Cx}
/-- len(o) by an own __len__ -/
theorem call_lenO {k j : Nat} {C : Addr} {sp : Sp} (c : C8.Met X.prog X.w X.K X.mg X.base k C "__len__" sp []) (hr : Room j X.A) (hk : k + 1 ≤ j) :
    CallR X (.builtin "len") (fun xs H Q => ∃ a dx fs, xs = [.ref a] ∧ H a = some (.ins C dx fs) ∧ sp [.ref a] H (fun v H' => ∃ n : Int, v = .int n ∧ (0 ≤ n ∧ n < 2 ^ 63) ∧ Q (.int n) H') C8.E0) := by
  intro pins s σ H xs us Q I r h
  obtain ⟨f, fd, ps, ds, hc, hm, F, hb, hd⟩ := c.ex
  cases hd
  obtain ⟨a, dx, fs, rfl, ha, hsp⟩ := h
  obtain ⟨u, rfl, ru⟩ := vals1 r
  cases ru
  obtain ⟨mA, J, _⟩ := ins_get I.hok ha
  obtain ⟨od, J, _⟩ := J.look
  obtain ⟨m, hF⟩ := I.fr
  refine PySem.W.len_K hF I.ok.mod.kin J hm.at_ hm.fn ?_
  have hl := F.len _ _ _ _ hsp
  have r2 : Vals [V.ref a] [Value.ref a] := .cons rfl .nil
  have hr1 : Room k X.A.in1 := Room.in1 (hr.mono hk)
  refine wpAny_call (codeAny_mono (F.run X.A.in1 X.stack s H ⟨[.ref a], []⟩ [.ref a] [.ref a] _ _ hr1 I.env0.in1 (by
    have := hb s [.ref a] I.kIn (by simpa using hl)
    simpa using this) r2 hsp) fun r s' hq => ?_)
  cases r with
  | error e => exact hq.elim
  | ok fl =>
    cases fl with
    | ret w2 =>
      obtain ⟨v, H', I', rv, n, rfl, hn, q⟩ := I.after hq
      obtain ⟨t, rfl⟩ := rv
      exact ⟨hn, .int n, H', I'.tok _, ⟨_, rfl⟩, q⟩
    | next => exact False.elim hq
    | brk => exact False.elim hq
    | cont => exact False.elim hq
/-- o.f as a target -/
def gFld (K : PySem.W.Frag) (ta : TE) (f : Str) : TG := fun v σ H Q => ta σ H fun x H2 => ∃ a C dx fs, x = .ref a ∧ H2 a = some (.ins C dx fs) ∧ Cls K C ∧ NoAttr K C f ∧ fs.length < 1000 ∧ Q σ (upd H2 a (.ins C dx (putF f v fs)))
theorem pg_fld {o : Expr} {ta : TE} {f : Str} {pos : Pos} (ha : PE X o ta) : PG X (.Attribute o f pos) (gFld X.K ta f) := by
  refine ⟨fun pins s σ H v u Q I r h => ?_⟩
  rw [assign_Attribute]
  refine wpAny_bind (wpAny_holding (thn (ha.run pins s σ H _ I h) fun ov s1 ⟨x, H1, I1, r1, a, C, dx, fs, ex, ea, c, n, l, q⟩ => ?_))
  subst ex
  obtain rfl : ov = Value.ref a := r1
  refine wpAny_bind (wpAny_standAt (wpAny_bind (wpAny_holding (setattr_ok I1 ea c n l r fun s2 I2 => ?_))))
  exact wpAny_release ⟨σ, _, I2, q⟩
end
section
variable {P : Program} {w : World} {K : PySem.W.Frag} {mg : Str → Option Value} {base : Heap}
theorem sc_bd_init : FnScope ["self", "blocks", "there", "block"] ["self", "blocks"] (C8.fnScope s_BlockDisc_init) := C8.fnScope_by (by decide +kernel)
theorem inV_mem {z : Int} : ∀ {l : List Int}, z ∈ l → inV (.int z) (l.map V.int) = true := by
  intro l h
  unfold inV
  rw [List.any_map]
  exact List.any_eq_true.mpr ⟨z, h, by simp [eqV]⟩
theorem flat_ints : ∀ l : List Int, (l.map V.int).all flatV = true := fun l => by
  rw [List.all_map]
  exact List.all_eq_true.mpr fun x _ => rfl
/-- what the constructor sees -/
theorem ok_bd_init (T : Txt K mg) : C8.Mak P w K mg base 2 "BlockDisc" (bdC K) (sp_bd_init K) [] := by
  obtain ⟨f, fd, M, gm, F, b⟩ := T.D_BlockDisc_init
  have cI : C8.Cal P w K mg base 1 "is_block" (sp_is_block K) [] := ok_is_block T
  refine C8.mak0 M gm F b .nil sc_bd_init (fun vs H Q E h => ?_) (fun cdv A outer s H vs Q E hr h => ?_)
  · obtain ⟨p, dx, a, as, rows, z, rfl, _⟩ := h
    rfl
  · obtain ⟨p, dx, a, as, rows, z, rfl, hp, ha, hR, B, k⟩ := h
    refine ⟨_, pss_cons (ps_set (i := 2) sc_bd_init.nd rfl (Or.inr rfl) (pe_lc (own := [("block", 3)]) (g := gName 3) rfl sc_bd_init.nd (pi_list (pv 1)) (blkOk_by (own := [("block", 3)]) (N := ["self", "blocks", "there", "block"]) (sc := C8.fnScope s_BlockDisc_init) (by decide +kernel))
        (fun _ _ _ _ _ => pg_name (i := 3) sc_bd_init.nd rfl (Or.inl rfl)) (fun _ _ _ _ _ => pts_one (pt_cmpR op_notN1 (pv 3) pe_non (nomark _))) (fun _ _ _ _ _ => pv 3)))
      (pss_cons (ps_if (PW.pt (pw_or (pt_cmpR op_gt (pe_callB call_len_seq (by rfl) T.f_len PySem.boot_len (pa_cons (pv 1) pa_nil)) (C8.pe_gc (by rfl) T.i_MOST_BLOCKS) (nomark _))
          (pw_or (pt_cmpR op_eq (pe_callB call_len_seq (by rfl) T.f_len PySem.boot_len (pa_cons (pv 2) pa_nil)) pe_int (nomark _))
          (pw_or1 (pt_cmpR op_notIn_seq (pe_callB call_len_seq (by rfl) T.f_len PySem.boot_len (pa_cons (pe_ix ix_list (pv 2) pe_int (fun _ _ => rfl)) pa_nil)) (C8.pe_gc (by rfl) T.t_SIZES) (by rfl)))))) pss_never pss_nil)
      (pss_cons (ps_if (pt_not (pt_val (pe_callB (cr_all rfl) (by rfl) T.f_all (by decide +kernel) (pa_cons (pe_lc (own := [("block", 3)]) (g := gName 3) (tt := tYes)
          (te := tAndV (tOp rEq (tCB (fun xs H Q => ∃ p ys, xs = [.ref p] ∧ (SqL K H p ys ∨ SqT K H p ys) ∧ Q (.int ys.length) H) (tCons (tVar 3) tNil)) (tCB (fun xs H Q => ∃ p ys, xs = [.ref p] ∧ (SqL K H p ys ∨ SqT K H p ys) ∧ Q (.int ys.length) H) (tCons (tOp (rIxL K) (tVar 2) (tC (.int 0))) tNil))) (tCall (sp_is_block K) [] C8.E0 (tCons (tVar 3) tNil)))
          rfl sc_bd_init.nd (pi_list (pv 2)) (blkOk_by (own := [("block", 3)]) (N := ["self", "blocks", "there", "block"]) (sc := C8.fnScope s_BlockDisc_init) (by decide +kernel))
          (fun _ _ _ _ _ => pg_name (i := 3) sc_bd_init.nd rfl (Or.inl rfl)) (fun _ _ _ _ _ => pts_nil) (fun _ _ _ _ _ => pe_and (pe_cmpR op_eq (pe_callB call_len_seq (by rfl) T.f_len PySem.boot_len (pa_cons (pv 3) pa_nil)) (pe_callB call_len_seq (by rfl) T.f_len PySem.boot_len (pa_cons (pe_ix ix_list (pv 2) pe_int (fun _ _ => rfl)) pa_nil)) (nomark _))
            (pe_one (C8.pe_c cI hr (by decide) (by rfl) (pa_cons (pv 3) pa_nil))))) pa_nil)))) pss_never pss_nil)
      (pss_cons (ps_fld (pv 0) (pe_callB call_len_seq (by rfl) T.f_len PySem.boot_len (pa_cons (pe_ix ix_list (pv 2) pe_int (fun _ _ => rfl)) pa_nil)) rfl)
      (pss_cons (ps_fld (pv 0) (pe_lst pa_nil) rfl)
      (pss_one (ps_for PassesOwn.never rfl (pi_list (pv 1)) (pg_name (i := 3) sc_bd_init.nd rfl (Or.inl rfl))
        (pss_cons (ps_if (pt_cmpR op_notN1 (pv 3) pe_non (nomark _)) (pss_one (ps_set (i := 3) sc_bd_init.nd rfl (Or.inl rfl) (pe_callTy call_list_of (by rfl) T.f_list (by decide +kernel) (pa_cons (pv 3) pa_nil)))) pss_nil)
        (pss_one (ps_expr (pe_bm PySem.F.plainAttrs_list PySem.F.slot_list_append PySem.F.type_list_append mt_append (pe_fld (pv 0) rfl) (pa_cons (pv 3) pa_nil))))))))))), ?_⟩
    have hlen := hR.1
    have hmost := B.most
    have hpos := B.pos
    -- there
    refine ⟨_, rfl, a, rfl, ⟨_, SqL.of ha⟩, fun D hD => lc_list (K := K) (a := a) (xs := as.map V.ref) (fun i H' => Same H H' ∧ H' D = some (.lst ((as.take i).map V.ref))) ⟨same_up (Same.refl _) hD, upd_same⟩ (fun i H' _ q => SqL.of (q.1 _ _ ha)) ?_ ?_⟩
    · rintro i x H' hx ⟨s1, hL⟩
      obtain ⟨y, hy, rfl⟩ := map_get hx
      have hi := get_lt hy
      refine ⟨rfl, _, rfl, rfl, _, rfl, iteT ⟨_, rfl, _, hL, ?_, same_up s1 hD, ?_⟩⟩
      · rw [List.length_map, List.length_take]
        exact Nat.lt_of_le_of_lt (Nat.min_le_left _ _) (Nat.lt_of_lt_of_le (by omega : i < 2000) (by decide))
      · rw [upd_same, map_snoc hy]
    rintro H1 ⟨s1, hL⟩
    rw [List.take_of_length_le (Nat.le_of_eq (List.length_map V.ref).symm)] at hL
    obtain ⟨b0, hb0, hn0⟩ := hR.get (List.getElem?_eq_getElem hpos)
    have h0 : atI (as.map V.ref) (0 : Int) = some (.ref b0) := atI_nat (j := 0) (get_map hb0)
    have hz0 : ((rows[0]'hpos).length : Int) = z := B.len _ (List.getElem_mem hpos)
    have hz := szI_mem B.size
    -- the first test
    refine ⟨_, rfl, a, _, rfl, .inl (SqL.of (s1 _ _ ha)), _, _, rfl, rfl, _, rfl, ?_⟩
    refine iteFd (decide_eq_false (by rw [List.length_map]; omega)) ⟨_, rfl, D, _, rfl, .inl (SqL.of hL), rfl, _, rfl, ?_⟩
    refine iteFd (decide_eq_false (fun q => by
      have q2 := V.int.inj q
      rw [List.length_map] at q2
      omega)) ⟨_, rfl, D, _, _, _, rfl, rfl, SqL.of hL, h0, b0, _, rfl, .inl (SqL.of (s1 _ _ hn0)), _, _, rfl, .inr (T.sz _), rfl, flat_ints _, _, rfl, ?_⟩
    refine iteFd (by
      rw [List.length_map, hz0]
      show (!inV (V.int z) (szI.map V.int)) = false
      rw [inV_mem B.size]
      rfl) ?_
    -- the second test
    refine ⟨_, rfl, D, rfl, ⟨_, SqL.of hL⟩, fun D2 hD2 => lc_list (K := K) (a := D) (xs := as.map V.ref) (fun i H' => Same H1 H' ∧ H' D2 = some (.lst ((List.replicate i true).map V.bl))) ⟨same_up (Same.refl _) hD2, upd_same⟩ (fun i H' _ q => SqL.of (q.1 _ _ hL)) ?_ ?_⟩
    · rintro i x H' hx ⟨s2, hT⟩
      obtain ⟨y, hy, rfl⟩ := map_get hx
      have hi := get_lt hy
      obtain ⟨ns, hns, hon⟩ := hR.at hy
      have hin := get_mem hns
      have hl := B.len _ hin
      have s3 := s1.trans s2
      refine ⟨rfl, lcT (iteT ⟨_, rfl, y, _, rfl, .inl (SqL.of (s3 _ _ hon)), _, rfl, D, _, _, _, rfl, rfl, SqL.of (s2 _ _ hL), h0, b0, _, rfl, .inl (SqL.of (s3 _ _ hn0)), rfl, _, rfl, ?_⟩)⟩
      refine iteTd (decide_eq_true (by rw [List.length_map, List.length_map, hl, hz0])) ⟨_, rfl, y, ns, rfl, s3 _ _ hon, by omega, B.byte _ hin, fun H3 s4 => ?_⟩
      have hT3 := s4 _ _ hT
      refine ⟨_, hT3, ?_, same_up (s2.trans s4) hD2, ?_⟩
      · rw [List.length_map, List.length_replicate]
        exact Nat.lt_of_lt_of_le (by omega : i < 2000) (by decide)
      · rw [upd_same, rep_snoc, List.map_append]
        rfl
    rintro H2 ⟨s2, hT⟩
    refine ⟨D2, _, rfl, SqL.of hT, _, rfl, ?_⟩
    refine iteFd (by rw [all_rep]; rfl) ?_
    -- the fields
    have s12 := s1.trans s2
    have hp2 : H2 p = some (.ins (bdC K) dx []) := s12 _ _ hp
    have neF : ∀ {l : List V}, ∀ {q : Addr}, H2 q = some (.lst l) → q ≠ p := fun hq => ne_of hq hp2 (by intro z; cases z)
    refine ⟨_, rfl, D, _, _, _, rfl, rfl, SqL.of (s2 _ _ hL), h0, b0, _, rfl, .inl (SqL.of (s12 _ _ hn0)), _, rfl, p, _, dx, _, rfl, hp2, T.c_BlockDisc, T.n_size, (by show 0 < 1000; decide), ?_⟩
    refine ⟨Nat.zero_le _, fun r hr0 => ?_⟩
    have hrp : r ≠ p := fun e => by
      rw [e, upd_same] at hr0
      cases hr0
    have hr2 : H2 r = none := by
      rw [upd_ne hrp] at hr0
      exact hr0
    rw [List.length_map, hz0]
    refine ⟨_, rfl, p, _, dx, _, rfl, (by rw [upd_ne hrp.symm]; exact upd_same), T.c_BlockDisc, T.n_rows, (by show 1 < 1000; decide), ?_⟩
    -- what stands in the loop
    have base0 : ∀ b o, H2 b = some o → b ≠ p → upd (upd (upd H2 p (.ins (bdC K) dx (putF "size" (.int z) []))) r (.lst [])) p (.ins (bdC K) dx (dfl z r)) b = some o := fun b o e hb => by
      rw [upd_ne hb, upd_ne (ne_of_none e hr2), upd_ne hb]
      exact e
    refine ⟨_, rfl, a, rfl, ⟨_, SqL.of (base0 _ _ (s12 _ _ ha) (neF (s12 _ _ ha)))⟩, for_list (K := K) (a := a) (xs := as.map V.ref)
      (fun i σ H' => ∃ (o3 : Option V) (bs : List Addr), σ = [some (.ref p), some (.ref a), some (.ref D), o3] ∧ (∀ b o, H2 b = some o → b ≠ p → H' b = some o) ∧ H' p = some (.ins (bdC K) dx (dfl z r)) ∧ H' r = some (.lst (bs.map V.ref)) ∧ RowsAt H' bs (rows.take i))
      ⟨none, [], rfl, base0, upd_same, (by rw [upd_ne hrp]; exact upd_same), .nil⟩ (fun i σ H' _ ⟨_, _, _, q, _⟩ => SqL.of (q _ _ (s12 _ _ ha) (neF (s12 _ _ ha)))) ?_ ?_⟩
    · rintro i x σ H' hx ⟨o3, bs, rfl, kp, hP, hr', hB⟩
      obtain ⟨y, hy, rfl⟩ := map_get hx
      have hi := get_lt hy
      obtain ⟨ns, hns, hon⟩ := hR.at hy
      have hy' := kp _ _ (s12 _ _ hon) (neF (s12 _ _ hon))
      refine ⟨_, rfl, rfl, _, rfl, iteT ⟨_, rfl, y, _, rfl, .inl (SqL.of hy'), fun l hl => ?_⟩⟩
      have hlr : r ≠ l := ne_of_none hr' hl
      have hlp : p ≠ l := ne_of_none hP hl
      refine ⟨_, rfl, p, _, dx, _, _, rfl, (by rw [upd_ne hlp]; exact hP), T.c_BlockDisc, T.n_rows, dfl_rows _ _, .inl ⟨rfl, _, SqL.of (by rw [upd_ne hlr]; exact hr')⟩, _, rfl, r, _, _, rfl, rfl, (by rw [upd_ne hlr]; exact hr'), ?_, ?_⟩
      · rw [List.length_map, hB.1, List.length_take]
        exact Nat.lt_of_le_of_lt (Nat.min_le_left _ _) (Nat.lt_of_lt_of_le (by omega : i < 2000) (by decide))
      · have hbr : ∀ b ∈ bs, b ≠ r := fun b hb => hB.ne hr' hb
        refine ⟨some (.ref l), bs ++ [l], rfl, fun b o e hb => ?_, ?_, ?_, ?_⟩
        · have e' := kp b o e hb
          rw [upd_ne (ne_of_none e hr2), upd_ne (ne_of_none e' hl)]
          exact e'
        · rw [upd_ne hrp.symm, upd_ne hlp]
          exact hP
        · rw [upd_same, List.map_append]
          rfl
        · rw [take_snoc hns]
          have h1 : RowsAt (upd H' l (.lst (ns.map V.int))) bs (rows.take i) := hB.mono fun b ms _ hb => by
            show upd H' l _ b = _
            rw [upd_ne (ne_of_none hb hl)]
            exact hb
          have h2 : RowsAt (upd H' l (.lst (ns.map V.int))) (bs ++ [l]) (rows.take i ++ [ns]) := h1.snoc upd_same
          refine h2.upd fun b hb => ?_
          rcases List.mem_append.mp hb with q | q
          · exact hbr b q
          · rw [List.mem_singleton.mp q]
            exact hlr.symm
    · rintro σ H' ⟨o3, bs, rfl, kp, hP, hr', hB⟩
      rw [List.take_of_length_le (by rw [List.length_map]; omega)] at hB
      exact k H' (fun b o e hb => kp b o (s12 _ _ e) hb) ⟨dx, r, bs, hP, hr', hB⟩
end
end Dw
/-! K4: names and numbers. -/
namespace Dw
open PySem PySem.Spec PyProof.Rows L2
/-! ### signs -/
def capC : List Nat := [65, 66, 67, 68, 69, 70, 71, 72, 73, 74, 75, 76, 77, 78, 79, 80, 81, 82, 83, 84, 85, 86, 87, 88, 89, 90]
def digC : List Nat := [48, 49, 50, 51, 52, 53, 54, 55, 56, 57]
def CD : List Nat := capC ++ digC
theorem cap_tl : ("ABCDEFGHIJKLMNOPQRSTUVWXYZ" : Str).cps.toList = capC := by decide +kernel
theorem dig_tl : ("0123456789" : Str).cps.toList = digC := by decide +kernel
theorem cd_str : ("ABCDEFGHIJKLMNOPQRSTUVWXYZ" : Str) ++ ("0123456789" : Str) = SX.S CD := by decide +kernel
theorem cd_one : ∀ c ∈ CD, (CD.filter fun d : Nat => decide ((d : Int) = (c : Int))) = [c] := by decide
theorem cd_range : ∀ c ∈ CD, 48 ≤ c ∧ c ≤ 90 := by decide
/-- a file's name -/
structure NameOk (z : Str) : Prop where
  lo : 1 ≤ z.length
  hi : z.length ≤ 8
  cd : ∀ c ∈ z.cps.toList, c ∈ CD
/-- one sign as a text -/
def sg (c : Nat) : Str := ⟨#[c]⟩
/-- the eight bytes of a name -/
def nbM (z : Str) : List Int := z.cps.toList.map (fun c : Nat => (c : Int)) ++ List.replicate (8 - z.length) 32
def numM (ns : List Int) : Int := ns.foldl (fun n v => 256 * n + v) 0
theorem len_tl (z : Str) : z.cps.toList.length = z.length := by
  show z.cps.toList.length = z.cps.size
  simp
theorem nbM_len {z : Str} (h : NameOk z) : (nbM z).length = 8 := by
  have := h.hi
  unfold nbM
  rw [List.length_append, List.length_map, List.length_replicate, len_tl]
  omega
theorem cps_get {z : Str} {i c : Nat} (h : z.cps[i]? = some c) : z.cps.toList[i]? = some c := by
  rw [Array.getElem?_toList]
  exact h
/-! ### lists -/
theorem cut_eq {α : Type} (l : List α) (i j : Nat) : (l.drop (min i l.length)).take (min j l.length - min i l.length) = (l.drop i).take (j - i) := by
  by_cases h : i ≤ l.length
  · rw [Nat.min_eq_left h]
    by_cases g : j ≤ l.length
    · rw [Nat.min_eq_left g]
    · rw [Nat.min_eq_right (show l.length ≤ j by omega), List.take_of_length_le (by rw [List.length_drop]; omega), List.take_of_length_le (by rw [List.length_drop]; omega)]
  · rw [Nat.min_eq_right (show l.length ≤ i by omega), List.drop_eq_nil_of_le (Nat.le_refl _), List.drop_eq_nil_of_le (by omega), List.take_nil, List.take_nil]
theorem cutV_nn (l : List V) (i j : Nat) : cutV l (some (i : Int)) (some (j : Int)) = (l.drop i).take (j - i) := by
  unfold cutV
  rw [HT.sIx_nat, HT.sIx_nat]
  exact cut_eq l i j
theorem cutV_0n (l : List V) (j : Nat) : cutV l none (some (j : Int)) = l.take j := by
  unfold cutV
  rw [HT.sIx_nat, HT.sIx_none]
  have h := cut_eq l 0 j
  rw [Nat.zero_min] at h
  rw [h]
  rfl
theorem cutV_n0 (l : List V) (i : Nat) : cutV l (some (i : Int)) none = l.drop i := by
  unfold cutV
  rw [HT.sIx_nat, HT.sIx_none]
  have h := cut_eq l i l.length
  rw [Nat.min_self] at h
  rw [h]
  exact List.take_of_length_le (by rw [List.length_drop]; omega)
theorem map_cut {α β : Type} (f : α → β) (l : List α) (i n : Nat) : ((l.map f).drop i).take n = ((l.drop i).take n).map f := by
  rw [List.map_take, List.map_drop]
theorem flat_rep1 {α : Type} (n : Nat) (x : α) : (List.replicate n [x]).flatten = List.replicate n x := by
  induction n with
  | zero => rfl
  | succ n ih => rw [List.replicate_succ, List.flatten_cons, ih, List.replicate_succ] <;> rfl
theorem le_line {n : Nat} (h : n ≤ 100000) : n ≤ sizeLine := Nat.le_trans h (by decide)
theorem lt_line {n : Nat} (h : n ≤ 100000) : n < sizeLine := Nat.lt_of_le_of_lt h (by decide)
/-! ### promises -/
def sp_is_file_name : Sp := fun vs H Q _ => ∃ z : Str, vs = [.str z] ∧ NameOk z ∧ ∀ H', Same H H' → Q (.bl true) H'
def sp_number_of (K : PySem.W.Frag) : Sp := fun vs H Q _ => ∃ (a : Addr) (ns : List Int), vs = [.ref a] ∧ OI H a ns ∧ Q (.int (numM ns)) H
def sp_name_bytes : Sp := fun vs H Q _ => ∃ z : Str, vs = [.str z] ∧ NameOk z ∧ ∀ H' p, Same H H' → H p = none → OI H' p (nbM z) → Q (.ref p) H'
def sp_name_of (K : PySem.W.Frag) : Sp := fun vs H Q _ => ∃ (a : Addr) (z : Str), vs = [.ref a] ∧ NameOk z ∧ OI H a (nbM z) ∧ ∀ H', Same H H' → Q (.str z) H'
def sp_table_blocks : Sp := fun vs H Q _ => ∃ c z : Int, vs = [.int c, .int z] ∧ (0 < z ∧ z < 1073741824) ∧ Q (.int ((2 * c + z - 1) / z)) H
def sp_needed_blocks : Sp := fun vs H Q _ => ∃ l z : Int, vs = [.int l, .int z] ∧ (0 < z ∧ z < 1073741824) ∧ Q (.int ((l + z - 1) / z)) H
section
variable {P : Program} {w : World} {K : PySem.W.Frag} {mg : Str → Option Value} {base : Heap}
theorem sc_table_blocks : FnScope ["count", "size"] ["count", "size"] (C8.fnScope s_table_blocks) := C8.fnScope_by (by decide +kernel)
theorem ok_table_blocks (T : Txt K mg) : C8.Cal P w K mg base 1 "table_blocks" sp_table_blocks [] := by
  obtain ⟨f, fd, F, b⟩ := T.D_table_blocks
  refine C8.cal0 F b .nil sc_table_blocks (fun vs H Q E h => ?_) (fun cdv A outer s H vs Q E hr h => ?_)
  · obtain ⟨c, z, rfl, _⟩ := h
    rfl
  · obtain ⟨c, z, rfl, hz, k⟩ := h
    refine ⟨_, pss_one (ps_ret (pe_op op_fdiv (pe_op op_sub (pe_op op_add (pe_op op_mul pe_int (pv 0)) (pv 1)) pe_int) (pv 1))), ?_⟩
    exact ⟨_, rfl, _, _, rfl, rfl, .inl ⟨by decide, by decide⟩, _, rfl, _, _, rfl, rfl, _, _, rfl, rfl, _, rfl, _, _, rfl, rfl, hz, k⟩
theorem sc_needed_blocks : FnScope ["length", "size"] ["length", "size"] (C8.fnScope s_needed_blocks) := C8.fnScope_by (by decide +kernel)
theorem ok_needed_blocks (T : Txt K mg) : C8.Cal P w K mg base 1 "needed_blocks" sp_needed_blocks [] := by
  obtain ⟨f, fd, F, b⟩ := T.D_needed_blocks
  refine C8.cal0 F b .nil sc_needed_blocks (fun vs H Q E h => ?_) (fun cdv A outer s H vs Q E hr h => ?_)
  · obtain ⟨c, z, rfl, _⟩ := h
    rfl
  · obtain ⟨c, z, rfl, hz, k⟩ := h
    refine ⟨_, pss_one (ps_ret (pe_op op_fdiv (pe_op op_sub (pe_op op_add (pv 0) (pv 1)) pe_int) (pv 1))), ?_⟩
    exact ⟨_, rfl, _, rfl, _, _, rfl, rfl, _, _, rfl, rfl, _, rfl, _, _, rfl, rfl, hz, k⟩
theorem sc_number_of : FnScope ["values", "number", "value"] ["values"] (C8.fnScope s_number_of) := C8.fnScope_by (by decide +kernel)
theorem ok_number_of (T : Txt K mg) : C8.Cal P w K mg base 1 "number_of" (sp_number_of K) [] := by
  obtain ⟨f, fd, F, b⟩ := T.D_number_of
  refine C8.cal0 F b .nil sc_number_of (fun vs H Q E h => ?_) (fun cdv A outer s H vs Q E hr h => ?_)
  · obtain ⟨a, ns, rfl, _⟩ := h
    rfl
  · obtain ⟨a, ns, rfl, hL, k⟩ := h
    refine ⟨_, pss_cons (ps_set (i := 1) sc_number_of.nd rfl (Or.inl rfl) pe_int)
      (pss_cons (ps_for PassesOwn.never rfl (pi_list (pv 0)) (pg_name (i := 2) sc_number_of.nd rfl (Or.inl rfl))
        (pss_one (ps_set (i := 1) sc_number_of.nd rfl (Or.inl rfl) (pe_op op_add (pe_op op_mul pe_int (pv 1)) (pv 2)))))
      (pss_one (ps_ret (pv 1)))), ?_⟩
    refine ⟨_, rfl, a, rfl, ⟨_, SqL.of hL⟩, for_list (K := K) (a := a) (xs := ns.map V.int) (fun i σ H' => ∃ o : Option V, σ = [some (.ref a), some (.int (numM (ns.take i))), o] ∧ H' = H) ⟨none, rfl, rfl⟩ (fun i σ H' _ ⟨_, _, e⟩ => by rw [e]; exact SqL.of hL) ?_ ?_⟩
    · rintro i x σ H' hx ⟨o, rfl, rfl⟩
      obtain ⟨y, hy, rfl⟩ := map_get hx
      refine ⟨_, rfl, _, _, rfl, rfl, .inl ⟨by decide, by decide⟩, _, rfl, _, _, rfl, rfl, ?_⟩
      refine ⟨some (.int y), ?_, rfl⟩
      have e : numM (ns.take (i + 1)) = 256 * numM (ns.take i) + y := foldl_snoc hy
      rw [e]
      rfl
    · rintro σ H' ⟨o, rfl, rfl⟩
      rw [List.take_of_length_le (Nat.le_of_eq (List.length_map V.int).symm)]
      exact ⟨_, rfl, k⟩
theorem sc_is_file_name : FnScope ["name", "letter"] ["name"] (C8.fnScope s_is_file_name) := C8.fnScope_by (by decide +kernel)
theorem ok_is_file_name (T : Txt K mg) : C8.Cal P w K mg base 1 "is_file_name" sp_is_file_name [] := by
  obtain ⟨f, fd, F, b⟩ := T.D_is_file_name
  refine C8.cal0 F b .nil sc_is_file_name (fun vs H Q E h => ?_) (fun cdv A outer s H vs Q E hr h => ?_)
  · obtain ⟨z, rfl, _⟩ := h
    rfl
  · obtain ⟨z, rfl, hz, k⟩ := h
    refine ⟨_, pss_one (ps_ret (pe_and (pe_chain op_le op_le pe_int (pe_callB call_len_str (by rfl) T.f_len PySem.boot_len (pa_cons (pv 0) pa_nil)) (C8.pe_gc (by rfl) T.i_LONGEST_NAME))
      (pe_one (pe_callB (cr_all rfl) (by rfl) T.f_all (by decide +kernel) (pa_cons (pe_lc (own := [("letter", 1)]) (g := gName 1) (tt := tYes) rfl sc_is_file_name.nd (pi_str (pv 0)) (blkOk_by (own := [("letter", 1)]) (N := ["name", "letter"]) (sc := C8.fnScope s_is_file_name) (by decide +kernel))
        (fun _ _ _ _ _ => pg_name (i := 1) sc_is_file_name.nd rfl (Or.inl rfl)) (fun _ _ _ _ _ => pts_nil) (fun _ _ _ _ _ => pe_or (pe_cmpR op_in_sign (pv 1) (C8.pe_gc (by rfl) T.s_CAPITALS) (by rfl)) (pe_one (pe_cmpR op_in_sign (pv 1) (C8.pe_gc (by rfl) T.s_DIGITS) (by rfl))))) pa_nil))))), ?_⟩
    have h1 := hz.lo
    have h8 := hz.hi
    refine ⟨_, rfl, z, rfl, le_line (by omega), _, _, rfl, rfl, _, rfl, ?_⟩
    refine iteTd (decide_eq_true (by omega)) ⟨_, _, rfl, rfl, _, rfl, ?_⟩
    refine iteTd (decide_eq_true (by omega)) ?_
    refine ⟨_, rfl, z, rfl, fun D hD => lc_it walk_str (fun i H' => Same H H' ∧ H' D = some (.lst ((List.replicate i true).map V.bl))) ⟨same_up (Same.refl _) hD, upd_same⟩ (fun _ _ _ _ => trivial) ?_ ?_⟩
    · rintro i x H1 H2 hi ⟨s1, hR⟩ ⟨rfl, c, hc, rfl⟩
      have hl : i < 8 := Nat.lt_of_lt_of_le hi h8
      have hcd : c ∈ CD := hz.cd c (get_mem (cps_get hc))
      refine ⟨rfl, lcT (iteT ⟨_, rfl, c, _, rfl, rfl, _, rfl, ?_⟩)⟩
      have fin : ∀ b : Bool, b = true → (fun y H4 => ∃ acc, H4 D = some (HO.lst acc) ∧ acc.length < sizeLine ∧ (Same H (upd H4 D (HO.lst (acc ++ [y]))) ∧ upd H4 D (HO.lst (acc ++ [y])) D = some (.lst ((List.replicate (i + 1) true).map V.bl)))) (V.bl b) H2 := by
        rintro b rfl
        refine ⟨_, hR, ?_, same_up s1 hD, ?_⟩
        · rw [List.length_map, List.length_replicate]
          exact lt_line (by omega)
        · rw [upd_same, rep_snoc, List.map_append]
          rfl
      by_cases hcap : c ∈ capC
      · exact iteTd (decide_eq_true (by rw [cap_tl]; exact hcap)) (fin true rfl)
      · refine iteFd (decide_eq_false (by rw [cap_tl]; exact hcap)) ⟨_, rfl, c, _, rfl, rfl, ?_⟩
        refine fin _ (decide_eq_true ?_)
        rw [dig_tl]
        rcases List.mem_append.mp hcd with q | q
        · exact absurd q hcap
        · exact q
    · rintro H' ⟨s1, hR⟩
      refine ⟨D, _, rfl, SqL.of hR, ?_⟩
      rw [all_rep]
      exact k H' s1
theorem sc_name_bytes : FnScope ["name", "letter"] ["name"] (C8.fnScope s_name_bytes) := C8.fnScope_by (by decide +kernel)
theorem ok_name_bytes (T : Txt K mg) : C8.Cal P w K mg base 1 "name_bytes" sp_name_bytes [] := by
  obtain ⟨f, fd, F, b⟩ := T.D_name_bytes
  refine C8.cal0 F b .nil sc_name_bytes (fun vs H Q E h => ?_) (fun cdv A outer s H vs Q E hr h => ?_)
  · obtain ⟨z, rfl, _⟩ := h
    rfl
  · obtain ⟨z, rfl, hz, k⟩ := h
    refine ⟨_, pss_one (ps_ret (pe_op op_cat (pe_lc (own := [("letter", 1)]) (g := gName 1) (tt := tYes) rfl sc_name_bytes.nd (pi_str (pv 0)) (blkOk_by (own := [("letter", 1)]) (N := ["name", "letter"]) (sc := C8.fnScope s_name_bytes) (by decide +kernel))
        (fun _ _ _ _ _ => pg_name (i := 1) sc_name_bytes.nd rfl (Or.inl rfl)) (fun _ _ _ _ _ => pts_nil) (fun _ _ _ _ _ => pe_callB call_ord (by rfl) T.f_ord (by decide +kernel) (pa_cons (pv 1) pa_nil)))
      (pe_op op_rep (pe_lst (pa_cons pe_int pa_nil)) (pe_op op_sub (C8.pe_gc (by rfl) T.i_LONGEST_NAME) (pe_callB call_len_str (by rfl) T.f_len PySem.boot_len (pa_cons (pv 0) pa_nil)))))), ?_⟩
    have h1 := hz.lo
    have h8 := hz.hi
    refine ⟨_, rfl, z, rfl, fun D hD => lc_it walk_str (fun i H' => Same H H' ∧ OI H' D ((z.cps.toList.take i).map fun c : Nat => (c : Int))) ⟨same_up (Same.refl _) hD, upd_same⟩ (fun _ _ _ _ => trivial) ?_ ?_⟩
    · rintro i x H1 H2 hi ⟨s1, hR⟩ ⟨rfl, c, hc, rfl⟩
      have hl : i < 8 := Nat.lt_of_lt_of_le hi h8
      refine ⟨rfl, lcT (iteT ⟨_, rfl, _, rfl, rfl, _, hR, ?_, same_up s1 hD, ?_⟩)⟩
      · rw [List.length_map, List.length_map, List.length_take]
        exact lt_line (by omega)
      · show upd H2 D _ D = _
        rw [upd_same, take_snoc (cps_get hc), List.map_append, List.map_append]
        rfl
    · rintro H' ⟨s1, hR⟩
      have hz' : z.cps.toList.length = z.cps.size := by simp
      rw [List.take_of_length_le (Nat.le_of_eq hz')] at hR
      refine ⟨(by show 1 ≤ sizeLine; decide), fun p hp => ⟨_, rfl, z, rfl, le_line (by omega), _, _, rfl, rfl, p, _, _, rfl, rfl, upd_same, by omega, by omega, ?_, fun q hq => ?_⟩⟩
      · show 1 * _ ≤ sizeLine
        exact le_line (by omega)
      · have hDp : D ≠ p := ne_of_none hR hp
        have hDq : D ≠ q := ne_of_none (show upd H' p _ D = some _ by rw [upd_ne hDp]; exact hR) hq
        refine ⟨D, q, _, _, rfl, rfl, (by rw [upd_ne hDq, upd_ne hDp]; exact hR), upd_same, ?_, fun l hl => ?_⟩
        · rw [List.length_map, List.length_map, len_tl, flat_rep1, List.length_replicate]
          exact le_line (by omega)
        · have sA := same_up (o := HO.lst [V.int 32]) (Same.refl H') hp
          have hqH : H' q = none := sA.free hq
          have sB := same_up (o := HO.lst (List.replicate (8 - (z.length : Int)).toNat [V.int 32]).flatten) sA hqH
          have hlH : H' l = none := sB.free hl
          have sC := same_up (o := HO.lst ((z.cps.toList.map fun c : Nat => (c : Int)).map V.int ++ (List.replicate (8 - (z.length : Int)).toNat [V.int 32]).flatten)) sB hlH
          refine k _ l (s1.trans sC) (s1.free hlH) ?_
          show upd _ l _ l = _
          rw [upd_same, flat_rep1]
          unfold nbM
          rw [List.map_append, List.map_replicate, show (8 - (z.length : Int)).toNat = 8 - z.length by omega]
end
end Dw
/-! K5: name_of, filled, demand_files, demand_sizes. -/
namespace Dw
open PySem PySem.Spec PyProof.Rows L2
/-! ### the text of signs, joined -/
theorem joinL_signs : ∀ l : List Nat, TL.joinL [] (l.map fun c => [c]) = l
  | [] => rfl
  | [a] => rfl
  | a :: b :: r => by
    show [a] ++ ([] ++ TL.joinL [] ((b :: r).map fun c => [c])) = a :: b :: r
    rw [joinL_signs (b :: r)]
    rfl
theorem empty_S : ("" : Str) = SX.S [] := by decide +kernel
theorem join_signs (z : Str) : Txt.join ("" : Str) (z.cps.toList.map sg) = z := by
  have e : z.cps.toList.map sg = (z.cps.toList.map fun c => [c]).map SX.S := by
    rw [List.map_map]
    rfl
  rw [e, empty_S, SX.join_S, joinL_signs]
theorem len_signs : ∀ l : List Nat, ((l.map sg).map (·.length)).sum = l.length
  | [] => rfl
  | a :: r => by
    show (sg a).length + ((r.map sg).map (·.length)).sum = r.length + 1
    rw [len_signs r]
    show 1 + r.length = r.length + 1
    omega
theorem filter_snoc {p : Nat → Bool} {l : List Nat} {i d : Nat} (h : l[i]? = some d) : (l.take (i + 1)).filter p = (l.take i).filter p ++ (if p d = true then [d] else []) := by
  rw [take_snoc h, List.filter_append]
  by_cases e : p d = true
  · rw [if_pos e, List.filter_cons_of_pos e]
    rfl
  · rw [if_neg e, List.filter_cons_of_neg e]
    rfl
theorem nbM_take {z : Str} : (nbM z).take z.length = z.cps.toList.map fun c : Nat => (c : Int) := by
  unfold nbM
  have e : z.length = (z.cps.toList.map fun c : Nat => (c : Int)).length := by rw [List.length_map, len_tl]
  rw [e]
  exact List.take_left
section
variable {P : Program} {w : World} {K : PySem.W.Frag} {mg : Str → Option Value} {base : Heap}
theorem sc_name_of : FnScope ["values", "count", "letters", "value", "name", "letter"] ["values"] (C8.fnScope s_name_of) := C8.fnScope_by (by decide +kernel)
theorem ok_name_of (T : Txt K mg) : C8.Cal P w K mg base 2 "name_of" (sp_name_of K) [] := by
  obtain ⟨f, fd, F, b⟩ := T.D_name_of
  have cF : C8.Cal P w K mg base 1 "is_file_name" sp_is_file_name [] := ok_is_file_name T
  refine C8.cal0 F b .nil sc_name_of (fun vs H Q E h => ?_) (fun cdv A outer s H vs Q E hr h => ?_)
  · obtain ⟨a, z, rfl, _⟩ := h
    rfl
  · obtain ⟨a, z, rfl, hz, hA, k⟩ := h
    refine ⟨_, pss_cons (ps_set (i := 1) sc_name_of.nd rfl (Or.inl rfl) (pe_callB call_len_seq (by rfl) T.f_len PySem.boot_len (pa_cons (pv 0) pa_nil)))
      (pss_cons (ps_while PassesOwn.never (PW.pt (pw_and (pt_cmpR op_gt (pv 1) pe_int (nomark _)) (pw_and1 (pt_cmpR op_eq (pe_ix ix_list (pv 0) (pe_op op_sub (pv 1) pe_int) (fun _ _ => rfl)) pe_int (nomark _)))))
        (pss_one (ps_aug (i := 1) sc_name_of.nd rfl (Or.inl rfl) pe_int ip_sub)))
      (pss_cons (ps_set (i := 2) sc_name_of.nd rfl (Or.inl rfl) (pe_lst pa_nil))
      (pss_cons (ps_for PassesOwn.never rfl (pi_list (pe_slice sl_list (pv 0) po_none (po_some (pv 1)))) (pg_name (i := 3) sc_name_of.nd rfl (Or.inr rfl))
        (pss_one (ps_expr (pe_bm PySem.F.plainAttrs_list PySem.F.slot_list_extend PySem.F.type_list_extend mt_extend (pv 2) (pa_cons
          (pe_lc (own := [("letter", 5)]) (g := gName 5) rfl sc_name_of.nd (pi_str (pe_op op_add_str (C8.pe_gc (by rfl) T.s_CAPITALS) (C8.pe_gc (by rfl) T.s_DIGITS))) (blkOk_by (own := [("letter", 5)]) (N := ["values", "count", "letters", "value", "name", "letter"]) (sc := C8.fnScope s_name_of) (by decide +kernel))
            (fun _ _ _ _ _ => pg_name (i := 5) sc_name_of.nd rfl (Or.inl rfl)) (fun _ _ _ _ _ => pts_one (pt_cmpR op_eq (pe_callB call_ord (by rfl) T.f_ord (by decide +kernel) (pa_cons (pv 5) pa_nil)) (pv 3) (nomark _))) (fun _ _ _ _ _ => pv 5)) pa_nil)))))
      (pss_cons (ps_set (i := 4) sc_name_of.nd rfl (Or.inl rfl) (pe_join pe_str (pv 2)))
      (pss_cons (ps_if (PW.pt (pw_or (pt_cmpR op_ne (pe_callB call_len_str (by rfl) T.f_len PySem.boot_len (pa_cons (pv 4) pa_nil)) (pv 1) (nomark _)) (pw_or1 (pt_not (pt_val (C8.pe_c cF hr (by decide) (by rfl) (pa_cons (pv 4) pa_nil))))))) (pss_one (ps_ret pe_non)) pss_nil)
      (pss_one (ps_ret (pv 4)))))))), ?_⟩
    have h1 := hz.lo
    have h8 := hz.hi
    have hlen := nbM_len hz
    have htl := len_tl z
    refine ⟨_, rfl, a, _, rfl, .inl (SqL.of hA), ?_⟩
    rw [List.length_map, hlen]
    refine ⟨fun m σ H' => z.length ≤ m ∧ m ≤ 8 ∧ σ = [some (.ref a), some (.int (m : Nat)), none, none, none, none] ∧ H' = H, ⟨8, h8, Nat.le_refl _, rfl, rfl⟩, ?_⟩
    rintro m σ H' ⟨hm1, hm2, rfl, rfl⟩
    refine ⟨_, rfl, _, _, rfl, rfl, _, rfl, ?_⟩
    refine iteTd (decide_eq_true (by omega)) ?_
    have eidx : ((m : Nat) : Int) - 1 = ((m - 1 : Nat) : Int) := by omega
    by_cases hm : m = z.length
    · -- the last sign is no blank
      subst hm
      have hlt : z.length - 1 < z.cps.toList.length := by omega
      have hget : (nbM z)[z.length - 1]? = some ((z.cps.toList[z.length - 1]'hlt : Nat) : Int) := by
        unfold nbM
        rw [List.getElem?_append_left (by rw [List.length_map]; exact hlt)]
        exact get_map (List.getElem?_eq_getElem hlt)
      have hr0 := cd_range _ (hz.cd _ (List.getElem_mem hlt))
      refine ⟨_, rfl, _, rfl, _, _, rfl, rfl, a, _, _, _, rfl, rfl, SqL.of hA, at_of eidx (get_map hget), rfl, _, rfl, ?_⟩
      refine iteFd (decide_eq_false (fun q => by
        have q2 := V.int.inj q
        omega)) ?_
      -- the letters
      refine ⟨Nat.zero_le _, fun L hL0 => ?_⟩
      have hLH : H' L = none := hL0
      refine ⟨_, rfl, _, rfl, _, rfl, a, _, rfl, SqL.of (up_of hA hL0), fun V1 hV1 => ?_⟩
      have hLV : L ≠ V1 := ne_of_none upd_same hV1
      have hcut : cutV ((nbM z).map V.int) none (some ((z.length : Nat) : Int)) = (z.cps.toList.map fun c : Nat => (c : Int)).map V.int := by
        rw [cutV_0n, ← List.map_take, nbM_take]
      rw [hcut]
      have s0 : Same H' (upd (upd H' L (.lst [])) V1 (.lst ((z.cps.toList.map fun c : Nat => (c : Int)).map V.int))) := same_up (same_up (Same.refl _) hL0) (Same.free (same_up (Same.refl _) hL0) hV1)
      refine ⟨V1, rfl, ⟨_, SqL.of upd_same⟩, for_list (K := K) (a := V1) (xs := (z.cps.toList.map fun c : Nat => (c : Int)).map V.int)
        (fun i σ H2 => ∃ o3 : Option V, σ = [some (.ref a), some (.int (z.length : Nat)), some (.ref L), o3, none, none] ∧ Same H' H2 ∧ OI H2 V1 (z.cps.toList.map fun c : Nat => (c : Int)) ∧ H2 L = some (.lst ((z.cps.toList.take i).map fun c => V.str (sg c))))
        ⟨none, rfl, s0, upd_same, by rw [upd_ne hLV]; exact upd_same⟩ (fun i σ H2 _ ⟨_, _, _, q, _⟩ => SqL.of q) ?_ ?_⟩
      · rintro i x σ H2 hx ⟨o3, rfl, s2, hV2, hL2⟩
        obtain ⟨y, hy, rfl⟩ := map_get hx
        obtain ⟨c, hc, rfl⟩ := map_get hy
        have hcd := hz.cd c (get_mem hc)
        have hi := get_lt hc
        refine ⟨_, rfl, .inl ⟨rfl, _, SqL.of hL2⟩, ?_⟩
        refine ⟨_, _, rfl, rfl, (by decide +kernel), _, rfl, fun D hD => lc_it walk_str (fun j H3 => Same H2 H3 ∧ H3 D = some (.lst (((CD.take j).filter fun d : Nat => decide ((d : Int) = (c : Int))).map fun d => V.str (sg d)))) ⟨same_up (Same.refl _) hD, upd_same⟩ (fun _ _ _ _ => trivial) ?_ ?_⟩
        · rintro j x H3 H4 hj ⟨s3, hR⟩ ⟨rfl, d, hd, rfl⟩
          have hd2 : CD[j]? = some d := by
            have q := cps_get hd
            rw [cd_str] at q
            exact q
          have hj36 : j < 36 := get_lt hd2
          have hlen36 : (((CD.take j).filter fun d : Nat => decide ((d : Int) = (c : Int))).map fun d => V.str (sg d)).length ≤ 36 := by
            rw [List.length_map]
            refine Nat.le_trans (List.length_filter_le _ _) ?_
            rw [List.length_take]
            omega
          refine ⟨rfl, _, rfl, _, rfl, rfl, _, rfl, rfl, _, rfl, ?_⟩
          by_cases hdc : (d : Int) = (c : Int)
          · refine iteTd (decide_eq_true (congrArg V.int hdc)) ⟨_, rfl, _, hR, lt_line (by omega), same_up s3 hD, ?_⟩
            rw [upd_same, filter_snoc hd2, if_pos (decide_eq_true hdc), List.map_append]
            rfl
          · refine iteFd (decide_eq_false (fun q => hdc (V.int.inj q))) ⟨s3, ?_⟩
            rw [filter_snoc hd2, if_neg (fun q => hdc (of_decide_eq_true q)), List.append_nil]
            exact hR
        · rintro H3 ⟨s3, hR⟩
          have e36 : CD.take (("ABCDEFGHIJKLMNOPQRSTUVWXYZ" : Str) ++ ("0123456789" : Str)).cps.size = CD := by
            rw [cd_str]
            exact List.take_of_length_le (by decide)
          rw [e36, cd_one c hcd] at hR
          have hL3 := s3 _ _ hL2
          have hDL : L ≠ D := ne_of_none hL2 hD
          refine ⟨L, D, _, _, rfl, rfl, hL3, hR, ?_, ?_⟩
          · rw [List.length_map, List.length_take]
            exact le_line (by simp only [List.map_cons, List.map_nil, List.length_cons, List.length_nil]; omega)
          · have hV3 := s3 _ _ hV2
            refine ⟨some (.int (c : Nat)), rfl, same_up (s2.trans s3) hLH, ?_, ?_⟩
            · show upd H3 L _ V1 = _
              rw [upd_ne hLV.symm]
              exact hV3
            · rw [upd_same, take_snoc hc, List.map_append]
      · rintro σ H2 ⟨o3, rfl, s2, hV2, hL2⟩
        rw [List.take_of_length_le (by rw [List.length_map, List.length_map]; exact Nat.le_refl _)] at hL2
        have hL2' : H2 L = some (.lst ((z.cps.toList.map sg).map V.str)) := by
          rw [hL2, List.map_map]
          rfl
        refine ⟨⟨_, rfl⟩, _, rfl, _, L, z.cps.toList.map sg, rfl, rfl, .inl (SqL.of hL2'), ?_, ?_⟩
        · rw [len_signs]
          have e0 : ("" : Str).length = 0 := by decide +kernel
          rw [e0]
          omega
        · rw [join_signs]
          refine ⟨_, rfl, z, rfl, le_line (by omega), _, rfl, rfl, _, rfl, ?_⟩
          refine iteFd (by rw [decide_eq_true rfl]; rfl) ⟨_, rfl, z, rfl, hz, fun H3 s3 => ⟨_, rfl, iteF ⟨_, rfl, k H3 (s2.trans s3)⟩⟩⟩
    · have hlt : z.length ≤ m - 1 := by omega
      have hget : (nbM z)[m - 1]? = some 32 := by
        unfold nbM
        rw [List.getElem?_append_right (by rw [List.length_map]; omega), List.length_map, htl]
        exact List.getElem?_replicate_of_lt (by omega)
      refine ⟨_, rfl, _, rfl, _, _, rfl, rfl, a, _, _, _, rfl, rfl, SqL.of hA, at_of eidx (get_map hget), rfl, _, rfl, ?_⟩
      refine iteTd (decide_eq_true rfl) ⟨fun σ' H2 => z.length ≤ m - 1 ∧ m - 1 ≤ 8 ∧ σ' = [some (.ref a), some (.int ((m - 1 : Nat) : Int)), none, none, none, none] ∧ H2 = H', fun σ' H2 h => ⟨m - 1, by omega, h⟩, _, rfl, _, _, rfl, rfl, hlt, by omega, ?_, rfl⟩
      rw [← eidx]
      rfl
end
end Dw
/-! K6: filled, demand_files, demand_sizes. -/
namespace Dw
open PySem PySem.Spec PyProof.Rows L2
/-- how many blocks -/
def nb (l z : Nat) : Nat := (l + z - 1) / z
/-- the i-th block of bytes, filled up -/
def blk (l : List Int) (z i : Nat) : List Int := (l.drop (i * z)).take z ++ List.replicate (z - ((l.drop (i * z)).take z).length) 0
def filledM (l : List Int) (z : Nat) : List (List Int) := (List.range (nb l.length z)).map (blk l z)
theorem filledM_len (l : List Int) (z : Nat) : (filledM l z).length = nb l.length z := by
  unfold filledM
  rw [List.length_map, List.length_range]
theorem blk_len (l : List Int) (z i : Nat) : (blk l z i).length = z := by
  unfold blk
  rw [List.length_append, List.length_replicate, List.length_take]
  omega
theorem rgc_chunk {l z : Nat} (h0 : 0 < z) (h1 : z < 1073741824) (h2 : l < 1073741824) : RgC 0 (l : Int) (z : Int) (nb l z) := by
  have e : Builtin.Range.rangeSize 0 (l : Int) (z : Int) = ((nb l z : Nat) : Int) := by
    rw [rangeSize_pos (by omega) (by omega)]
    unfold nb
    have : ((l + z - 1 : Nat) : Int) = (l : Int) + (z : Int) - 1 := by omega
    rw [← this, Int.natCast_ediv]
  have hn : nb l z ≤ l + z := by
    unfold nb
    exact Nat.le_trans (Nat.div_le_self _ _) (by omega)
  refine ⟨by omega, by omega, ?_, e⟩
  unfold Builtin.Range.small
  rw [e]
  have hc : (z : Int) > 0 := by omega
  simp only [Builtin.Range.rangeFitsLong, Bool.and_eq_true, Bool.or_eq_true, decide_eq_true_eq, beq_iff_eq, hc, if_true]
  omega
/-- tuples of a name and a list of bytes -/
def FTs (H : Hp) (ts : List Addr) (fs : List (Str × List Int)) : Prop := ts.length = fs.length ∧ ∀ (i : Nat) (t : Addr) (f : Str × List Int), ts[i]? = some t → fs[i]? = some f → ∃ q : Addr, H t = some (.tup [.str f.1, .ref q]) ∧ OI H q f.2
theorem FTs.same {H H1 : Hp} {ts : List Addr} {fs : List (Str × List Int)} (h : FTs H ts fs) (s : Same H H1) : FTs H1 ts fs := ⟨h.1, fun i t f h1 h2 => by
  obtain ⟨q, a, b⟩ := h.2 i t f h1 h2
  exact ⟨q, s _ _ a, s _ _ b⟩⟩
theorem FTs.at {H : Hp} {ts : List Addr} {fs : List (Str × List Int)} (h : FTs H ts fs) {i : Nat} {t : Addr} (hi : ts[i]? = some t) : ∃ (f : Str × List Int) (q : Addr), fs[i]? = some f ∧ H t = some (.tup [.str f.1, .ref q]) ∧ OI H q f.2 := by
  have hl := get_lt hi
  have hf : fs[i]? = some (fs[i]'(by rw [← h.1]; exact hl)) := List.getElem?_eq_getElem (by rw [← h.1]; exact hl)
  obtain ⟨q, a, b⟩ := h.2 i t _ hi hf
  exact ⟨_, q, hf, a, b⟩
/-- the files of a disc -/
structure FilesOk (fs : List (Str × List Int)) : Prop where
  many : fs.length ≤ 4
  name : ∀ f ∈ fs, NameOk f.1
  nd : (fs.map (·.1)).Nodup
  len : ∀ f ∈ fs, f.2.length ≤ 50
  byte : ∀ f ∈ fs, ∀ n ∈ f.2, 0 ≤ n ∧ n ≤ 255
/-! ### promises -/
def sp_filled (K : PySem.W.Frag) : Sp := fun vs H Q _ => ∃ (a : Addr) (ns : List Int) (z : Nat), vs = [.ref a, .int (z : Nat)] ∧ OI H a ns ∧ 0 < z ∧ z ≤ 1000 ∧ ns.length ≤ 10000 ∧
  ∀ H' p as, Same H H' → H p = none → (∀ b ∈ as, H b = none) → H' p = some (.lst (as.map V.ref)) → RowsAt H' as (filledM ns z) → Q (.ref p) H'
def sp_demand_files (K : PySem.W.Frag) : Sp := fun vs H Q _ => ∃ (a : Addr) (ts : List Addr) (fs : List (Str × List Int)), vs = [.ref a] ∧ H a = some (.lst (ts.map V.ref)) ∧ FTs H ts fs ∧ FilesOk fs ∧ ∀ H', Same H H' → Q .non H'
def sp_demand_sizes (K : PySem.W.Frag) : Sp := fun vs H Q _ => ∃ (c z d : Int) (t : Addr), vs = [.int c, .int z, .ref t, .int d] ∧ SqT K H t (szI.map V.int) ∧ z ∈ szI ∧ (4 ≤ c ∧ c ≤ 2000) ∧ (1 ≤ d ∧ d ≤ 20) ∧ Q .non H
section
variable {P : Program} {w : World} {K : PySem.W.Frag} {mg : Str → Option Value} {base : Heap}
theorem sc_filled : FnScope ["values", "size", "rows", "at", "part"] ["values", "size"] (C8.fnScope s_filled) := C8.fnScope_by (by decide +kernel)
theorem ok_filled (T : Txt K mg) : C8.Cal P w K mg base 1 "filled" (sp_filled K) [] := by
  obtain ⟨f, fd, F, b⟩ := T.D_filled
  refine C8.cal0 F b .nil sc_filled (fun vs H Q E h => ?_) (fun cdv A outer s H vs Q E hr h => ?_)
  · obtain ⟨a, ns, z, rfl, _⟩ := h
    rfl
  · obtain ⟨a, ns, z, rfl, hA, hz0, hz1, hn, k⟩ := h
    refine ⟨_, pss_cons (ps_set (i := 2) sc_filled.nd rfl (Or.inl rfl) (pe_lst pa_nil))
      (pss_cons (ps_for PassesOwn.never rfl (pi_range3 rfl T.f_range (pa_cons pe_int (pa_cons (pe_callB call_len_seq (by rfl) T.f_len PySem.boot_len (pa_cons (pv 0) pa_nil)) (pa_cons (pv 1) pa_nil)))) (pg_name (i := 3) sc_filled.nd rfl (Or.inl rfl))
        (pss_cons (ps_set (i := 4) sc_filled.nd rfl (Or.inl rfl) (pe_callTy call_list_of (by rfl) T.f_list (by decide +kernel) (pa_cons (pe_slice sl_list (pv 0) (po_some (pv 3)) (po_some (pe_op op_add (pv 3) (pv 1)))) pa_nil)))
        (pss_one (ps_expr (pe_bm PySem.F.plainAttrs_list PySem.F.slot_list_append PySem.F.type_list_append mt_append (pv 2) (pa_cons
          (pe_op op_cat (pv 4) (pe_op op_rep (pe_lst (pa_cons pe_int pa_nil)) (pe_op op_sub (pv 1) (pe_callB call_len_seq (by rfl) T.f_len PySem.boot_len (pa_cons (pv 4) pa_nil))))) pa_nil))))))
      (pss_one (ps_ret (pv 2)))), ?_⟩
    refine ⟨Nat.zero_le _, fun R hR => ?_⟩
    have hAR := up_of (o := HO.lst []) hA hR
    refine ⟨_, rfl, a, _, rfl, .inl (SqL.of hAR), _, rfl, 0, _, z, nb ns.length z, rfl, (by rw [List.length_map]; exact rgc_chunk hz0 (by omega) (by omega)), ?_⟩
    refine for_rangeC (lo := 0) (c := z) (n := nb ns.length z) (fun i σ H' => ∃ (o3 o4 : Option V) (as : List Addr), σ = [some (.ref a), some (.int (z : Nat)), some (.ref R), o3, o4] ∧ Same H H' ∧ (∀ b ∈ as, H b = none) ∧ H' R = some (.lst (as.map V.ref)) ∧ RowsAt H' as ((filledM ns z).take i))
      ⟨none, none, [], rfl, same_up (Same.refl _) hR, fun b h => (by cases h), upd_same, .nil⟩ ?_ ?_
    · rintro i σ H' hi ⟨o3, o4, as, rfl, s1, hf, hRR, hRows⟩
      have hA1 := s1 _ _ hA
      have ei : (0 : Int) + ((i : Nat) : Int) * ((z : Nat) : Int) = ((i * z : Nat) : Int) := by
        rw [Int.zero_add, Int.natCast_mul]
      rw [ei]
      refine ⟨_, rfl, _, rfl, _, rfl, _, rfl, _, rfl, _, _, rfl, rfl, _, rfl, a, _, rfl, SqL.of hA1, fun p1 h1 => ?_⟩
      have e2 : ((i * z : Nat) : Int) + ((z : Nat) : Int) = ((i * z + z : Nat) : Int) := by omega
      rw [e2, cutV_nn, map_cut, show i * z + z - i * z = z by omega]
      generalize hp : (ns.drop (i * z)).take z = part
      have hpl : part.length ≤ z := by
        rw [← hp, List.length_take]
        exact Nat.min_le_left _ _
      have sa := same_up (o := HO.lst (part.map V.int)) (Same.refl H') h1
      refine ⟨p1, _, rfl, .inl (SqL.of upd_same), fun p2 h2 => ?_⟩
      have h2' := sa.free h2
      have sb := same_up (o := HO.lst (part.map V.int)) sa h2'
      refine ⟨_, rfl, .inl ⟨rfl, _, SqL.of (sb _ _ hRR)⟩, _, rfl, (by show 1 ≤ sizeLine; decide), fun p3 h3 => ?_⟩
      have h3' := sb.free h3
      have sc := same_up (o := HO.lst [V.int 0]) sb h3'
      have hp2 : upd (upd (upd H' p1 (.lst (part.map V.int))) p2 (.lst (part.map V.int))) p3 (.lst [V.int 0]) p2 = some (.lst (part.map V.int)) := up_of upd_same h3
      refine ⟨_, rfl, _, rfl, p2, _, rfl, .inl (SqL.of hp2), _, _, rfl, rfl, p3, _, _, rfl, rfl, upd_same, by rw [List.length_map]; omega, by rw [List.length_map]; omega, ?_, fun p4 h4 => ?_⟩
      · rw [List.length_map]
        show 1 * _ ≤ sizeLine
        exact le_line (by omega)
      · have h4' := sc.free h4
        rw [flat_rep1, List.length_map]
        have sd := same_up (o := HO.lst (List.replicate ((z : Int) - (part.length : Int)).toNat (V.int 0))) sc h4'
        refine ⟨p2, p4, _, _, rfl, rfl, up_of hp2 h4, upd_same, ?_, fun p5 h5 => ?_⟩
        · rw [List.length_map, List.length_replicate]
          exact le_line (by omega)
        · have h5' := sd.free h5
          have eb : part.map V.int ++ List.replicate ((z : Int) - (part.length : Int)).toNat (V.int 0) = (blk ns z i).map V.int := by
            unfold blk
            rw [hp, List.map_append, List.map_replicate, show ((z : Int) - (part.length : Int)).toNat = z - part.length by omega]
          rw [eb]
          have se := same_up (o := HO.lst ((blk ns z i).map V.int)) sd h5'
          have hl : as.length ≤ 11000 := by
            have h0 := hRows.1
            rw [List.length_take, filledM_len] at h0
            have : nb ns.length z ≤ ns.length + z := Nat.le_trans (Nat.div_le_self _ _) (by omega)
            omega
          have hget : (filledM ns z)[i]? = some (blk ns z i) := by
            unfold filledM
            exact get_map (by rw [List.getElem?_range hi])
          have hRR2 := se _ _ hRR
          refine ⟨R, _, _, rfl, rfl, hRR2, by rw [List.length_map]; exact lt_line (by omega), ?_⟩
          refine ⟨_, _, as ++ [p5], rfl, same_up (s1.trans se) hR, fun q hq => ?_, ?_, ?_⟩
          · rcases List.mem_append.mp hq with q1 | q1
            · exact hf q q1
            · rw [List.mem_singleton.mp q1]
              exact s1.free h5'
          · rw [upd_same, List.map_append]
            rfl
          · rw [take_snoc hget]
            have r1 : RowsAt _ (as ++ [p5]) ((filledM ns z).take i ++ [blk ns z i]) := (hRows.same se).snoc upd_same
            refine r1.upd fun q hq => ?_
            rcases List.mem_append.mp hq with q1 | q1
            · exact hRows.ne hRR q1
            · rw [List.mem_singleton.mp q1]
              exact (ne_of_none hRR h5').symm
    · rintro σ H' ⟨o3, o4, as, rfl, s1, hf, hRR, hRows⟩
      rw [List.take_of_length_le (by rw [filledM_len]; exact Nat.le_refl _)] at hRows
      exact ⟨_, rfl, k H' R as s1 hR hf hRR hRows⟩
theorem sc_demand_sizes : FnScope ["count", "size", "sizes", "directory"] ["count", "size", "sizes", "directory"] (C8.fnScope s_demand_sizes) := C8.fnScope_by (by decide +kernel)
theorem ok_demand_sizes (T : Txt K mg) : C8.Cal P w K mg base 1 "demand_sizes" (sp_demand_sizes K) [] := by
  obtain ⟨f, fd, F, b⟩ := T.D_demand_sizes
  refine C8.cal0 F b .nil sc_demand_sizes (fun vs H Q E h => ?_) (fun cdv A outer s H vs Q E hr h => ?_)
  · obtain ⟨c, z, d, t, rfl, _⟩ := h
    rfl
  · obtain ⟨c, z, d, t, rfl, hT, hz, ⟨c1, c2⟩, ⟨d1, d2⟩, k⟩ := h
    refine ⟨_, pss_one (ps_if (PW.pt (pw_or (pt_not (pt_chain op_le op_le (C8.pe_gc (by rfl) T.i_FEWEST_BLOCKS) (pv 0) (C8.pe_gc (by rfl) T.i_MOST_BLOCKS)))
      (pw_or (pt_cmpR op_notIn_seq (pv 1) (pv 2) (by rfl)) (pw_or1 (pt_not (pt_chain op_le op_le pe_int (pv 3) (C8.pe_gc (by rfl) T.i_MOST_DIRECTORY))))))) pss_never pss_nil), ?_⟩
    refine ⟨_, rfl, _, _, rfl, rfl, _, rfl, ?_⟩
    refine iteTd (decide_eq_true c1) ⟨_, _, rfl, rfl, _, rfl, ?_⟩
    refine iteFd (by rw [decide_eq_true c2]; rfl) ⟨_, rfl, _, rfl, t, _, rfl, .inr hT, rfl, flat_ints _, _, rfl, ?_⟩
    refine iteFd (by
      show (!inV (V.int z) (szI.map V.int)) = false
      rw [inV_mem hz]
      rfl) ⟨_, rfl, _, _, rfl, rfl, _, rfl, ?_⟩
    refine iteTd (decide_eq_true d1) ⟨_, _, rfl, rfl, _, rfl, ?_⟩
    exact iteFd (by rw [decide_eq_true d2]; rfl) k
theorem sc_demand_files : FnScope ["files", "names", "name", "values"] ["files"] (C8.fnScope s_demand_files) := C8.fnScope_by (by decide +kernel)
theorem ok_demand_files (T : Txt K mg) : C8.Cal P w K mg base 2 "demand_files" (sp_demand_files K) [] := by
  obtain ⟨f, fd, F, b⟩ := T.D_demand_files
  have cF : C8.Cal P w K mg base 1 "is_file_name" sp_is_file_name [] := ok_is_file_name T
  refine C8.cal0 F b .nil sc_demand_files (fun vs H Q E h => ?_) (fun cdv A outer s H vs Q E hr h => ?_)
  · obtain ⟨a, ts, fs, rfl, _⟩ := h
    rfl
  · obtain ⟨a, ts, fs, rfl, hA, hT, hF, k⟩ := h
    have hu := hu_of hr
    refine ⟨_, pss_cons (ps_set (i := 1) sc_demand_files.nd rfl (Or.inl rfl) pe_dnewK)
      (pss_one (ps_for PassesOwn.never rfl (pi_list (pv 0)) (pg_tup rfl (pgs_cons (pg_name (i := 2) sc_demand_files.nd rfl (Or.inl rfl)) (pgs_cons (pg_name (i := 3) sc_demand_files.nd rfl (Or.inl rfl)) pgs_nil)))
        (pss_cons (ps_if (PW.pt (pw_or (pt_not (pt_val (C8.pe_c cF hr (by decide) (by rfl) (pa_cons (pv 2) pa_nil)))) (pw_or (pt_cmp (pc_din hu (pv 2) (pv 1))) (pw_or1 (pt_cmpR op_gt (pe_callB call_len_seq (by rfl) T.f_len PySem.boot_len (pa_cons (pv 3) pa_nil)) (C8.pe_gc (by rfl) T.i_LONGEST_FILE) (nomark _)))))) pss_never pss_nil)
        (pss_one (ps_dput hu (pv 1) (pv 2) pe_bl rfl))))), ?_⟩
    intro d hd
    have hlen := hT.1
    have hmany := hF.many
    refine ⟨_, rfl, a, rfl, ⟨_, SqL.of (up_of hA hd)⟩, for_list (K := K) (a := a) (xs := ts.map V.ref) (fun i σ H' => ∃ (o2 o3 : Option V) (kvs : List (Key × V)), σ = [some (.ref a), some (.ref d), o2, o3] ∧ Same H H' ∧ H' d = some (.dK kvs) ∧ kvs.map (·.1) = (fs.take i).map fun f => Sum.inr f.1)
      ⟨none, none, [], rfl, same_up (Same.refl _) hd, upd_same, rfl⟩ (fun i σ H' _ ⟨_, _, _, _, q, _⟩ => SqL.of (q _ _ hA)) ?_ ?_⟩
    · rintro i x σ H' hx ⟨o2, o3, kvs, rfl, s1, hD, hk⟩
      obtain ⟨t, ht, rfl⟩ := map_get hx
      obtain ⟨g, q, hg, htup, hq⟩ := hT.at ht
      have hgm := get_mem hg
      have hi := get_lt hg
      refine ⟨t, _, rfl, SqT.of (s1 _ _ htup), rfl, _, _, rfl, _, _, rfl, rfl, ?_⟩
      refine ⟨_, rfl, _, rfl, hF.name g hgm, fun H2 s2 => ⟨_, rfl, ?_⟩⟩
      refine iteFd rfl ?_
      have hD2 := s2 _ _ hD
      have hno : valV kvs (Sum.inr g.1 : Key) = none := by
        cases e : valV kvs (Sum.inr g.1 : Key) with
        | none => rfl
        | some v =>
          have hin := valV_in e
          rw [hk] at hin
          obtain ⟨g2, hg2, e2⟩ := List.mem_map.mp hin
          have e3 : g2.1 = g.1 := Sum.inr.inj e2
          obtain ⟨j, hj⟩ := List.mem_iff_getElem?.mp hg2
          have hji : j < i := by
            have := get_lt hj
            rw [List.length_take] at this
            omega
          have hj2 : fs[j]? = some g2 := by
            rw [List.getElem?_take_of_lt hji] at hj
            exact hj
          have h1 : (fs.map (·.1))[j]? = some g.1 := by
            rw [← e3]
            exact get_map hj2
          have h2 : (fs.map (·.1))[i]? = some g.1 := get_map hg
          have := nd_ix hF.nd h1 h2
          omega
      refine ⟨_, rfl, _, rfl, d, _, rfl, DGet.k (k := Sum.inr g.1) hD2, _, rfl, ?_⟩
      rw [hno]
      refine iteF ⟨_, rfl, q, _, rfl, .inl (SqL.of (s2 _ _ (s1 _ _ hq))), _, _, rfl, rfl, _, rfl, ?_⟩
      refine iteFd (decide_eq_false (by
        have := hF.len g hgm
        rw [List.length_map]
        omega)) ?_
      have hkl : kvs.length = i := by
        have := congrArg List.length hk
        rw [List.length_map, List.length_map, List.length_take] at this
        omega
      refine ⟨_, rfl, _, rfl, d, _, rfl, DPut.k (k := Sum.inr g.1) hD2 (small1000 (by omega)), ?_⟩
      refine ⟨_, _, _, rfl, same_up (s1.trans s2) hd, upd_same, ?_⟩
      rw [putK_new _ hno, List.map_append, take_snoc hg, List.map_append, hk]
      rfl
    · rintro σ H' ⟨o2, o3, kvs, rfl, s1, _⟩
      exact k H' s1
end
end Dw
/-! K7: what make_chains makes, in plain lists. -/
namespace Dw
open PySem PySem.Spec PyProof.Rows L2
abbrev Fl := Str × List Int
/-- blocks of a file; of files -/
def nbF (z : Nat) (f : Fl) : Nat := nb f.2.length z
def usedM (z : Nat) (fs : List Fl) : Nat := (fs.map (nbF z)).sum
def chainM (s k : Nat) : List Int := (List.range k).map fun i => if i + 1 = k then 1 else ((s + i + 1 : Nat) : Int)
def chainsM (z : Nat) : Nat → List Fl → List Int
  | _, [] => []
  | s, f :: r => chainM s (nbF z f) ++ chainsM z (s + nbF z f) r
/-- the first block as the entry says it -/
def stM (s k : Nat) : Nat := if 0 < k then s else 0
def entM (z s : Nat) (f : Fl) : List Int := nbM f.1 ++ twoM ((stM s (nbF z f) : Nat) : Int) ++ (twoM ((f.2.length : Int) / 65536) ++ twoM ((f.2.length : Int) % 65536) ++ twoM (crcM f.2))
def entsM (z : Nat) : Nat → List Fl → List Int
  | _, [] => []
  | s, f :: r => entM z s f ++ entsM z (s + nbF z f) r
def dataM (z : Nat) (fs : List Fl) : List (List Int) := fs.flatMap fun f => filledM f.2 z
theorem usedM_snoc (z : Nat) (fs : List Fl) (f : Fl) : usedM z (fs ++ [f]) = usedM z fs + nbF z f := by
  unfold usedM
  rw [List.map_append, List.sum_append]
  simp
theorem chainsM_snoc (z : Nat) : ∀ (fs : List Fl) (s : Nat) (f : Fl), chainsM z s (fs ++ [f]) = chainsM z s fs ++ chainM (s + usedM z fs) (nbF z f)
  | [], s, f => by simp [chainsM, usedM]
  | g :: r, s, f => by
    have e : usedM z (g :: r) = nbF z g + usedM z r := by simp [usedM]
    rw [List.cons_append, chainsM, chainsM, chainsM_snoc z r, e, List.append_assoc, Nat.add_assoc]
theorem entsM_snoc (z : Nat) : ∀ (fs : List Fl) (s : Nat) (f : Fl), entsM z s (fs ++ [f]) = entsM z s fs ++ entM z (s + usedM z fs) f
  | [], s, f => by simp [entsM, usedM]
  | g :: r, s, f => by
    have e : usedM z (g :: r) = nbF z g + usedM z r := by simp [usedM]
    rw [List.cons_append, entsM, entsM, entsM_snoc z r, e, List.append_assoc, Nat.add_assoc]
theorem dataM_snoc (z : Nat) (fs : List Fl) (f : Fl) : dataM z (fs ++ [f]) = dataM z fs ++ filledM f.2 z := by
  unfold dataM
  rw [List.flatMap_append]
  simp
theorem dataM_len (z : Nat) : ∀ fs : List Fl, (dataM z fs).length = usedM z fs
  | [] => rfl
  | f :: r => by
    have e : usedM z (f :: r) = nbF z f + usedM z r := by simp [usedM]
    have e2 : dataM z (f :: r) = filledM f.2 z ++ dataM z r := by simp [dataM]
    rw [e, e2, List.length_append, filledM_len, dataM_len z r]
    rfl
theorem chainM_len (s k : Nat) : (chainM s k).length = k := by
  unfold chainM
  rw [List.length_map, List.length_range]
theorem chainsM_len (z : Nat) : ∀ (fs : List Fl) (s : Nat), (chainsM z s fs).length = usedM z fs
  | [], s => rfl
  | f :: r, s => by
    have e : usedM z (f :: r) = nbF z f + usedM z r := by simp [usedM]
    rw [chainsM, List.length_append, chainM_len, chainsM_len z r, e]
theorem twoM_len (n : Int) : (twoM n).length = 2 := rfl
theorem entM_len {z s : Nat} {f : Fl} (h : NameOk f.1) : (entM z s f).length = 16 := by
  unfold entM
  simp only [List.length_append, nbM_len h, twoM_len]
theorem entsM_len {z : Nat} : ∀ {fs : List Fl} (_ : ∀ f ∈ fs, NameOk f.1) (s : Nat), (entsM z s fs).length = 16 * fs.length
  | [], _, s => rfl
  | f :: r, h, s => by
    rw [entsM, List.length_append, entM_len (h f List.mem_cons_self), entsM_len (fun g hg => h g (List.mem_cons_of_mem _ hg)), List.length_cons]
    omega
/-- the numbers that the inner loop writes -/
def runM (s j : Nat) : List Int := (List.range j).map fun i => ((s + i + 1 : Nat) : Int)
theorem runM_len (s j : Nat) : (runM s j).length = j := by
  unfold runM
  rw [List.length_map, List.length_range]
theorem runM_snoc (s j : Nat) : runM s (j + 1) = runM s j ++ [((s + j + 1 : Nat) : Int)] := by
  unfold runM
  rw [List.range_succ, List.map_append]
  rfl
theorem chainM_succ (s k : Nat) : chainM s (k + 1) = runM s k ++ [1] := by
  unfold chainM runM
  rw [List.range_succ, List.map_append]
  congr 1
  · refine List.map_congr_left fun i hi => ?_
    have := List.mem_range.mp hi
    rw [if_neg (by omega)]
  · show [if k + 1 = k + 1 then (1 : Int) else _] = [1]
    rw [if_pos rfl]
/-- the table in the inner loop -/
def tabJ (pre : List Int) (s j m : Nat) : List Int := pre ++ runM s j ++ List.replicate (m - j) 0
theorem tabJ_len (pre : List Int) (s j m : Nat) (h : j ≤ m) : (tabJ pre s j m).length = pre.length + m := by
  unfold tabJ
  rw [List.length_append, List.length_append, runM_len, List.length_replicate]
  omega
theorem tabJ_set {pre : List Int} {s j m : Nat} (hs : pre.length = s) (h : j < m) : (tabJ pre s j m).set (s + j) ((s + j + 1 : Nat) : Int) = tabJ pre s (j + 1) m := by
  unfold tabJ
  obtain ⟨d, hd⟩ : ∃ d, m - j = d + 1 := ⟨m - j - 1, by omega⟩
  have hl : (pre ++ runM s j).length = s + j := by rw [List.length_append, runM_len, hs]
  rw [hd, List.replicate_succ, List.set_append_right _ _ (by omega), hl, Nat.sub_self, List.set_cons_zero, runM_snoc, show m - (j + 1) = d by omega]
  simp
/-- the whole table behind some files -/
def tabM (z F n : Nat) (fs : List Fl) : List Int := List.replicate F 65535 ++ chainsM z F fs ++ List.replicate (n - F - usedM z fs) 0
theorem tab_start {z F n : Nat} {fs : List Fl} : tabM z F n fs = tabJ (List.replicate F 65535 ++ chainsM z F fs) (F + usedM z fs) 0 (n - F - usedM z fs) := by
  unfold tabM tabJ runM
  simp
theorem tab_pre {z F : Nat} {fs : List Fl} : (List.replicate F (65535 : Int) ++ chainsM z F fs).length = F + usedM z fs := by
  rw [List.length_append, List.length_replicate, chainsM_len]
/-- the last block of a chain -/
theorem tab_end {z F n : Nat} {fs : List Fl} {f : Fl} (hk : 0 < nbF z f) (hn : F + usedM z fs + nbF z f ≤ n) :
    (tabJ (List.replicate F 65535 ++ chainsM z F fs) (F + usedM z fs) (nbF z f) (n - F - usedM z fs)).set (F + usedM z fs + nbF z f - 1) 1 = tabM z F n (fs ++ [f]) := by
  obtain ⟨k, hk'⟩ : ∃ k, nbF z f = k + 1 := ⟨nbF z f - 1, by omega⟩
  unfold tabJ tabM
  rw [chainsM_snoc, usedM_snoc, hk', runM_snoc, chainM_succ]
  have hl : ((List.replicate F (65535 : Int) ++ chainsM z F fs) ++ runM (F + usedM z fs) k).length = F + usedM z fs + k := by rw [List.length_append, tab_pre, runM_len]
  have e1 : (List.replicate F (65535 : Int) ++ chainsM z F fs) ++ (runM (F + usedM z fs) k ++ [((F + usedM z fs + k + 1 : Nat) : Int)]) ++ List.replicate (n - F - usedM z fs - (k + 1)) 0 =
      ((List.replicate F (65535 : Int) ++ chainsM z F fs) ++ runM (F + usedM z fs) k) ++ (((F + usedM z fs + k + 1 : Nat) : Int) :: List.replicate (n - F - usedM z fs - (k + 1)) 0) := by simp
  rw [e1, List.set_append_right _ _ (by omega), hl, show F + usedM z fs + (k + 1) - 1 - (F + usedM z fs + k) = 0 by omega, List.set_cons_zero, show n - F - (usedM z fs + (k + 1)) = n - F - usedM z fs - (k + 1) by omega]
  simp
theorem tab_none {z F n : Nat} {fs : List Fl} {f : Fl} (hk : nbF z f = 0) : tabM z F n (fs ++ [f]) = tabM z F n fs := by
  unfold tabM
  rw [chainsM_snoc, usedM_snoc, hk]
  simp [chainM]
/-- all the rows -/
def numsM (tab : List Int) : List Int := tab.flatMap twoM
def headM (n t : Nat) : List Int := [67, 72] ++ twoM ((n : Nat) : Int) ++ [((t : Nat) : Int), 4]
def dirM (z F : Nat) (fs : List Fl) : List Int := entsM z F fs ++ List.replicate (4 * z - (entsM z F fs).length) 0
def tN (n z : Nat) : Nat := nb (2 * n) z
def fN (n z : Nat) : Nat := 1 + 2 * tN n z + 4
def rows0 (z n : Nat) (fs : List Fl) : List (List Int) :=
  filledM (headM n (tN n z)) z ++ (filledM (numsM (tabM z (fN n z) n fs)) z ++ filledM (numsM (tabM z (fN n z) n fs)) z) ++ filledM (dirM z (fN n z) fs) z ++ dataM z fs
def rowsM (z n : Nat) (fs : List Fl) : List (List Int) := rows0 z n fs ++ List.replicate (n - (rows0 z n fs).length) (List.replicate z 0)
theorem numsM_len : ∀ l : List Int, (numsM l).length = 2 * l.length
  | [] => rfl
  | a :: r => by
    show (twoM a ++ numsM r).length = 2 * (r.length + 1)
    rw [List.length_append, twoM_len, numsM_len r]
    omega
theorem tabM_len {z F n : Nat} {fs : List Fl} (h : F + usedM z fs ≤ n) : (tabM z F n fs).length = n := by
  unfold tabM
  rw [List.length_append, tab_pre, List.length_replicate]
  omega
end Dw
/-! K8: make_chains. -/
namespace Dw
open PySem PySem.Spec PyProof.Rows L2
/-! ### what evaluates to a new list -/
section
variable {K : PySem.W.Frag} {σ : L2.St} {H : Hp} {ta tb te : TE} {tz : TS} {D : Ends} {xs ys : List V} {x : V}
theorem el_cat (ha : Evl.EvL ta σ H xs) (hb : Evl.EvL tb σ H ys) (hz : xs.length + ys.length ≤ 100000) : Evl.EvL (tOp rCat ta tb) σ H (xs ++ ys) := fun H1 e Q q =>
  ha H1 e _ fun p H2 hp e2 h2 => hb H2 (e.trans e2) _ fun r H3 hr e3 h3 => ⟨p, r, xs, ys, rfl, rfl, e3 _ _ h2, h3, le_line hz, fun l hl => q l _ (Evl.fresh_back (e2.trans e3) hl) ((e2.trans e3).trans (Evl.Ex.new hl)) upd_same⟩
theorem el_catV {l : Addr} (ha : Evl.Ev ta σ H (.ref l)) (hl : H l = some (.lst xs)) (hb : Evl.EvL tb σ H ys) (hz : xs.length + ys.length ≤ 100000) : Evl.EvL (tOp rCat ta tb) σ H (xs ++ ys) := fun H1 e Q q =>
  ha H1 e _ fun H2 e2 => hb H2 (e.trans e2) _ fun r H3 hr e3 h3 => ⟨l, r, xs, ys, rfl, rfl, ((e.trans e2).trans e3) _ _ hl, h3, le_line hz, fun l hl => q l _ (Evl.fresh_back (e2.trans e3) hl) ((e2.trans e3).trans (Evl.Ex.new hl)) upd_same⟩
theorem el_rep {k : Int} (ha : Evl.EvL ta σ H [x]) (hb : Evl.Ev tb σ H (.int k)) (h0 : 0 ≤ k) (hz : k ≤ 100000) : Evl.EvL (tOp rRep ta tb) σ H (List.replicate k.toNat x) := fun H1 e Q q =>
  ha H1 e _ fun p H2 hp e2 h2 => hb H2 (e.trans e2) _ fun H3 e3 => ⟨p, k, [x], rfl, rfl, e3 _ _ h2, by omega, by omega, le_line (by simp only [List.length_cons, List.length_nil]; omega), fun l hl => by
    rw [flat_rep1]
    exact q l _ (Evl.fresh_back (e2.trans e3) hl) ((e2.trans e3).trans (Evl.Ex.new hl)) upd_same⟩
theorem spl_two {n : Int} : Evl.SpL sp_two_bytes [.int n] H ((twoM n).map V.int) := fun H1 e Q q E => ⟨n, rfl, fun H' p s hp hL => q p H' hp s hL⟩
theorem spl_nb {z : Str} (h : NameOk z) : Evl.SpL sp_name_bytes [.str z] H ((nbM z).map V.int) := fun H1 e Q q E => ⟨z, rfl, h, fun H' p s hp hL => q p H' hp s hL⟩
theorem spv_crc {q : Addr} {ns : List Int} (h : OI H q ns) : Evl.SpV (sp_crc K) [.ref q] H (.int (crcM ns)) := fun H1 e Q k E => ⟨q, ns, rfl, SqL.of (e _ _ h), fun H' s => k H' s⟩
/-- l.extend(a new list) -/
theorem q_extL {l : Addr} (hl : H l = some (.lst xs)) (ha : Evl.Ev ta σ H (.ref l)) (h : Evl.EvL te σ H ys) (hz : xs.length + ys.length ≤ 100000) (k : ∀ H1, Same H H1 → tz D σ (upd H1 l (.lst (xs ++ ys)))) :
    tSeq (tDrop (tBM K "list" rExtend ta (tCons te tNil))) tz D σ H := ha H (Evl.Ex.refl H) _ fun H1 e1 =>
  ⟨Or.inl ⟨rfl, xs, SqL.of (e1 l _ hl)⟩, h H1 e1 _ fun p H2 hp e2 h2 => ⟨l, p, xs, ys, rfl, rfl, e2 l _ (e1 l _ hl), h2, le_line hz, k H2 (e1.trans e2)⟩⟩
theorem s_extL {l : Addr} (hl : H l = some (.lst xs)) (ha : Evl.Ev ta σ H (.ref l)) (h : Evl.EvL te σ H ys) (hz : xs.length + ys.length ≤ 100000) (k : ∀ H1, Same H H1 → D.nx σ (upd H1 l (.lst (xs ++ ys)))) :
    tDrop (tBM K "list" rExtend ta (tCons te tNil)) D σ H := ha H (Evl.Ex.refl H) _ fun H1 e1 =>
  ⟨Or.inl ⟨rfl, xs, SqL.of (e1 l _ hl)⟩, h H1 e1 _ fun p H2 hp e2 h2 => ⟨l, p, xs, ys, rfl, rfl, e2 l _ (e1 l _ hl), h2, le_line hz, k H2 (e1.trans e2)⟩⟩
/-- what evaluates to a new list of new rows -/
def EvR (te : TE) (σ : L2.St) (H : Hp) (rows : List (List Int)) : Prop := ∀ H1, Same H H1 → ∀ Q : VK, (∀ p H2 (as : List Addr), H1 p = none → Same H1 H2 → H2 p = some (.lst (as.map V.ref)) → (∀ b ∈ as, H1 b = none) → RowsAt H2 as rows → Q (.ref p) H2) → te σ H1 Q
theorem er_filled {ns : List Int} {z : Nat} (ha : Evl.EvL ta σ H (ns.map V.int)) (hb : Evl.Ev tb σ H (.int (z : Nat))) (h0 : 0 < z) (h1 : z ≤ 1000) (hn : ns.length ≤ 10000) : EvR (tCall (sp_filled K) [] C8.E0 (tCons ta (tCons tb tNil))) σ H (filledM ns z) := fun H1 e Q q =>
  ha H1 e _ fun p H2 hp e2 h2 => hb H2 (Same.trans e e2) _ fun H3 e3 => ⟨p, ns, z, rfl, e3 _ _ h2, h0, h1, hn, fun H' r as s hr hf hrL hR =>
    q r H' as (Evl.fresh_back (e2.trans e3) hr) (Same.trans (e2.trans e3) s) hrL (fun b hb => Evl.fresh_back (e2.trans e3) (hf b hb)) hR⟩
theorem er_filledV {ns : List Int} {z : Nat} {l : Addr} (ha : Evl.Ev ta σ H (.ref l)) (hl : OI H l ns) (hb : Evl.Ev tb σ H (.int (z : Nat))) (h0 : 0 < z) (h1 : z ≤ 1000) (hn : ns.length ≤ 10000) : EvR (tCall (sp_filled K) [] C8.E0 (tCons ta (tCons tb tNil))) σ H (filledM ns z) := fun H1 e Q q =>
  ha H1 e _ fun H2 e2 => hb H2 (Same.trans e e2) _ fun H3 e3 => ⟨l, ns, z, rfl, e3 _ _ (e2 _ _ (e _ _ hl)), h0, h1, hn, fun H' r as s hr hf hrL hR =>
    q r H' as (Evl.fresh_back (e2.trans e3) hr) (Same.trans (e2.trans e3) s) hrL (fun b hb => Evl.fresh_back (e2.trans e3) (hf b hb)) hR⟩
theorem er_dup {rows : List (List Int)} (h : EvR te σ H rows) (hl : rows.length ≤ 10000) : EvR (tOp rRep te (tC (.int 2))) σ H (rows ++ rows) := fun H1 e Q q =>
  h H1 e _ fun p H2 as hp e2 h2 hf hR => ⟨p, 2, _, rfl, rfl, h2, by decide, by decide, le_line (by
    have := hR.1
    show (as.map V.ref).length * 2 ≤ 100000
    rw [List.length_map]
    omega), fun l hl => by
    have e3 : (List.replicate (2 : Int).toNat (as.map V.ref)).flatten = (as ++ as).map V.ref := by
      show (as.map V.ref) ++ ((as.map V.ref) ++ []) = _
      rw [List.append_nil, List.map_append]
    rw [e3]
    have s3 := same_up (o := HO.lst ((as ++ as).map V.ref)) (Same.refl H2) hl
    exact q l _ (as ++ as) (Same.free e2 hl) (Same.trans e2 s3) upd_same (fun b hb => by
      rcases List.mem_append.mp hb with q | q
      · exact hf b q
      · exact hf b q) ((hR.append hR).same s3)⟩
theorem q_asgR {i : Nat} {rows : List (List Int)} (h : EvR te σ H rows) (k : ∀ p H1 (as : List Addr), H p = none → Same H H1 → H1 p = some (.lst (as.map V.ref)) → (∀ b ∈ as, H b = none) → RowsAt H1 as rows → tz D (σ.set i (some (.ref p))) H1) : tSeq (tAsg te (gName i)) tz D σ H :=
  h H (Same.refl H) _ fun p H1 as hp e h1 hf hR => k p H1 as hp e h1 hf hR
theorem q_extR {l : Addr} {as0 : List Addr} {rows : List (List Int)} (hl : H l = some (.lst (as0.map V.ref))) (ha : Evl.Ev ta σ H (.ref l)) (h : EvR te σ H rows) (hz : as0.length + rows.length ≤ 100000)
    (k : ∀ H1 (as : List Addr), Same H H1 → (∀ b ∈ as, H b = none) → RowsAt H1 as rows → tz D σ (upd H1 l (.lst ((as0 ++ as).map V.ref)))) : tSeq (tDrop (tBM K "list" rExtend ta (tCons te tNil))) tz D σ H := ha H (Evl.Ex.refl H) _ fun H1 e1 =>
  ⟨Or.inl ⟨rfl, _, SqL.of (e1 l _ hl)⟩, h H1 e1 _ fun p H2 as hp e2 h2 hf hR => ⟨l, p, _, _, rfl, rfl, e2 l _ (e1 l _ hl), h2, le_line (by
    have := hR.1
    rw [List.length_map, List.length_map]
    omega), by
    rw [← List.map_append]
    exact k H2 as (Same.trans e1 e2) (fun b hb => Evl.fresh_back e1 (hf b hb)) hR⟩⟩
theorem q_extV {l p : Addr} {zs : List V} (hl : H l = some (.lst xs)) (hp : H p = some (.lst zs)) (ha : Evl.Ev ta σ H (.ref l)) (hb : Evl.Ev tb σ H (.ref p)) (hz : xs.length + zs.length ≤ 100000) (k : ∀ H1, Same H H1 → tz D σ (upd H1 l (.lst (xs ++ zs)))) :
    tSeq (tDrop (tBM K "list" rExtend ta (tCons tb tNil))) tz D σ H := ha H (Evl.Ex.refl H) _ fun H1 e1 =>
  ⟨Or.inl ⟨rfl, xs, SqL.of (e1 l _ hl)⟩, hb H1 e1 _ fun H2 e2 => ⟨l, p, xs, zs, rfl, rfl, e2 l _ (e1 l _ hl), e2 _ _ (e1 _ _ hp), le_line hz, k H2 (e1.trans e2)⟩⟩
theorem s_extV {l p : Addr} {zs : List V} (hl : H l = some (.lst xs)) (hp : H p = some (.lst zs)) (ha : Evl.Ev ta σ H (.ref l)) (hb : Evl.Ev tb σ H (.ref p)) (hz : xs.length + zs.length ≤ 100000) (k : ∀ H1, Same H H1 → D.nx σ (upd H1 l (.lst (xs ++ zs)))) :
    tDrop (tBM K "list" rExtend ta (tCons tb tNil)) D σ H := ha H (Evl.Ex.refl H) _ fun H1 e1 =>
  ⟨Or.inl ⟨rfl, xs, SqL.of (e1 l _ hl)⟩, hb H1 e1 _ fun H2 e2 => ⟨l, p, xs, zs, rfl, rfl, e2 l _ (e1 l _ hl), e2 _ _ (e1 _ _ hp), le_line hz, k H2 (e1.trans e2)⟩⟩
end
/-! ### what stands while the files are laid -/
structure Mt (H0 H : Hp) (tb en da pb : Addr) (T E : List Int) (as bs : List Addr) (ra rb : List (List Int)) : Prop where
  s : Same H0 H
  hT : OI H tb T
  hE : OI H en E
  hD : H da = some (.lst (as.map V.ref))
  hP : H pb = some (.lst (bs.map V.ref))
  hra : RowsAt H as ra
  hrb : RowsAt H bs rb
structure Md (H0 : Hp) (tb en da pb : Addr) (as bs : List Addr) : Prop where
  t0 : H0 tb = none
  e0 : H0 en = none
  d0 : H0 da = none
  te : tb ≠ en
  td : tb ≠ da
  ed : en ≠ da
  pt : pb ≠ tb
  pe : pb ≠ en
  pd : pb ≠ da
  a : ∀ b ∈ as, b ≠ tb ∧ b ≠ en
  b : ∀ b ∈ bs, b ≠ tb ∧ b ≠ en ∧ b ≠ da
section
variable {H0 H H1 : Hp} {tb en da pb : Addr} {T E : List Int} {as bs : List Addr} {ra rb : List (List Int)}
theorem Mt.ex (m : Mt H0 H tb en da pb T E as bs ra rb) (e : Same H H1) : Mt H0 H1 tb en da pb T E as bs ra rb :=
  ⟨m.s.trans e, e _ _ m.hT, e _ _ m.hE, e _ _ m.hD, e _ _ m.hP, m.hra.same e, m.hrb.same e⟩
theorem Mt.setE (m : Mt H0 H tb en da pb T E as bs ra rb) (d : Md H0 tb en da pb as bs) (E' : List Int) : Mt H0 (upd H en (.lst (E'.map V.int))) tb en da pb T E' as bs ra rb :=
  ⟨same_up m.s d.e0, (upd_ne d.te).trans m.hT, upd_same, (upd_ne d.ed.symm).trans m.hD, (upd_ne d.pe).trans m.hP, m.hra.upd fun b hb => (d.a b hb).2, m.hrb.upd fun b hb => (d.b b hb).2.1⟩
theorem Mt.setT (m : Mt H0 H tb en da pb T E as bs ra rb) (d : Md H0 tb en da pb as bs) (T' : List Int) : Mt H0 (upd H tb (.lst (T'.map V.int))) tb en da pb T' E as bs ra rb :=
  ⟨same_up m.s d.t0, upd_same, (upd_ne d.te.symm).trans m.hE, (upd_ne d.td.symm).trans m.hD, (upd_ne d.pt).trans m.hP, m.hra.upd fun b hb => (d.a b hb).1, m.hrb.upd fun b hb => (d.b b hb).1⟩
end
end Dw
/-! K9: make_chains keeps its promise. -/
namespace Dw
open PySem PySem.Spec PyProof.Rows L2
/-- what the law asks of sizes -/
structure SizesOk (z n : Nat) (fs : List Fl) : Prop where
  sz : ((z : Nat) : Int) ∈ szI
  sm : z ≤ 64
  lo : 4 ≤ n
  hi : n ≤ 2000
  fit : fN n z + usedM z fs ≤ n
def sp_make_chains (K : PySem.W.Frag) : Sp := fun vs H Q _ => ∃ (a : Addr) (ts : List Addr) (fs : List Fl) (n z : Nat), vs = [.ref a, .int (n : Nat), .int (z : Nat), .int 4] ∧ H a = some (.lst (ts.map V.ref)) ∧ FTs H ts fs ∧ FilesOk fs ∧ SizesOk z n fs ∧ Blocks (z : Nat) (rowsM z n fs) ∧
  ∀ H' p, Same H H' → DiscAt K H' p (z : Nat) (rowsM z n fs) → Q (.ref p) H'
theorem natsum : ∀ l : List Nat, (l.map fun k : Nat => (k : Int)).sum = ((l.sum : Nat) : Int)
  | [] => rfl
  | a :: r => by
    rw [List.map_cons, List.sum_cons, List.sum_cons, natsum r]
    omega
theorem nb_int (l z : Nat) (hz : 0 < z) : ((l : Int) + (z : Int) - 1) / (z : Int) = ((nb l z : Nat) : Int) := by
  unfold nb
  have : ((l + z - 1 : Nat) : Int) = (l : Int) + (z : Int) - 1 := by omega
  rw [← this, Int.natCast_ediv]
theorem el_is {te : TE} {σ : L2.St} {H : Hp} {xs ys : List V} (h : Evl.EvL te σ H xs) (e : xs = ys) : Evl.EvL te σ H ys := by
  rw [← e]
  exact h
theorem el_listT {K : PySem.W.Frag} {σ : L2.St} {H : Hp} {p : Addr} {xs : List V} (h : ∀ H, SqT K H p xs) : Evl.EvL (tCB (Evl.rListS K) (tCons (tC (.ref p)) tNil)) σ H xs :=
  fun H1 _ Q q => ⟨p, xs, rfl, .inr (h H1), fun l hl => q l _ hl (Evl.Ex.new hl) upd_same⟩
theorem nb_le {l z : Nat} (hz : 0 < z) (h : l ≤ 10000) : nb l z ≤ 10000 := by
  unfold nb
  rcases Nat.eq_zero_or_pos l with e | e
  · subst e
    rw [Nat.div_eq_of_lt (by omega)]
    omega
  · have h1 : l + z - 1 ≤ l * z := by
      obtain ⟨m, rfl⟩ : ∃ m, l = m + 1 := ⟨l - 1, by omega⟩
      rw [Nat.succ_mul]
      have := Nat.le_mul_of_pos_right m hz
      omega
    exact Nat.le_trans (Nat.div_le_of_le_mul (by rw [Nat.mul_comm]; exact h1)) h
theorem filledM_small {l : List Int} {z : Nat} (h : l.length ≤ z) (h0 : 0 < l.length) : nb l.length z = 1 := by
  unfold nb
  have h1 : l.length + z - 1 = z + (l.length - 1) := by omega
  rw [h1, Nat.add_div_left _ (by omega), Nat.div_eq_of_lt (by omega)]
section
variable {P : Program} {w : World} {K : PySem.W.Frag} {mg : Str → Option Value} {base : Heap}
abbrev nmMC : List Str := ["files", "count", "size", "directory", "tables", "first", "name", "values", "table", "entries", "data", "blocks", "start", "at", "numbers", "number", "rows"]
theorem sc_make_chains : FnScope nmMC ["files", "count", "size", "directory"] (C8.fnScope s_make_chains) := C8.fnScope_by (by decide +kernel)
theorem ok_make_chains (T : Txt K mg) : C8.Cal P w K mg base 4 "make_chains" (sp_make_chains K) [] := by
  obtain ⟨f, fd, F, b⟩ := T.D_make_chains
  have cDF : C8.Cal P w K mg base 2 "demand_files" (sp_demand_files K) [] := ok_demand_files T
  have cDS : C8.Cal P w K mg base 1 "demand_sizes" (sp_demand_sizes K) [] := ok_demand_sizes T
  have cTB : C8.Cal P w K mg base 1 "table_blocks" sp_table_blocks [] := ok_table_blocks T
  have cNB : C8.Cal P w K mg base 1 "needed_blocks" sp_needed_blocks [] := ok_needed_blocks T
  have cFil : C8.Cal P w K mg base 1 "filled" (sp_filled K) [] := ok_filled T
  have cNm : C8.Cal P w K mg base 1 "name_bytes" sp_name_bytes [] := ok_name_bytes T
  have cTwo : C8.Cal P w K mg base 1 "two_bytes" sp_two_bytes [] := ok_two_bytes T
  have cCrc : C8.Cal P w K mg base 3 "crc" (sp_crc K) [] := ok_crc T
  have cBD : C8.Mak P w K mg base 2 "BlockDisc" (bdC K) (sp_bd_init K) [] := ok_bd_init T
  refine C8.cal0 F b .nil sc_make_chains (fun vs H Q E h => ?_) (fun cdv A outer s H vs Q E hr h => ?_)
  · obtain ⟨a, ts, fs, n, z, rfl, _⟩ := h
    rfl
  · obtain ⟨a, ts, fs, n, z, rfl, hA, hT, hF, hS, hB, k⟩ := h
    refine ⟨_, pss_cons (ps_expr (C8.pe_c cDF hr (by decide) (by rfl) (pa_cons (pv 0) pa_nil)))
      (pss_cons (ps_expr (C8.pe_c cDS hr (by decide) (by rfl) (pa_cons (pv 1) (pa_cons (pv 2) (pa_cons (C8.pe_gc (by rfl) T.t_SIZES) (pa_cons (pv 3) pa_nil))))))
      (pss_cons (ps_set (i := 4) sc_make_chains.nd rfl (Or.inl rfl) (C8.pe_c cTB hr (by decide) (by rfl) (pa_cons (pv 1) (pa_cons (pv 2) pa_nil))))
      (pss_cons (ps_set (i := 5) sc_make_chains.nd rfl (Or.inl rfl) (pe_op op_add (pe_op op_add pe_int (pe_op op_mul pe_int (pv 4))) (pv 3)))
      (pss_cons (ps_if (PW.pt (pw_or (pt_cmpR op_gt (pe_op op_mul (C8.pe_gc (by rfl) T.i_ENTRY) (pe_callB call_len_seq (by rfl) T.f_len PySem.boot_len (pa_cons (pv 0) pa_nil))) (pe_op op_mul (pv 3) (pv 2)) (nomark _)) (pw_or1 (pt_cmpR op_gt (pv 5) (pv 1) (nomark _))))) pss_never pss_nil)
      (pss_cons (ps_if (pt_cmpR op_gt (pe_op op_add (pv 5) (pe_callB (cr_sum rfl) (by rfl) T.f_sum (by decide +kernel) (pa_cons
          (pe_lc (own := [("name", 6), ("values", 7)]) (g := gTup K 2 (gCons (gName 6) (gCons (gName 7) gNil))) (tt := tYes) (te := tCall sp_needed_blocks [] C8.E0 (tCons (tCB (Evl.rLenS K) (tCons (tVar 7) tNil)) (tCons (tVar 2) tNil))) rfl sc_make_chains.nd (pi_list (pv 0))
            (blkOk_by (own := [("name", 6), ("values", 7)]) (N := nmMC) (sc := C8.fnScope s_make_chains) (by decide +kernel))
            (fun _ _ _ _ _ => pg_tup rfl (pgs_cons (pg_name (i := 6) sc_make_chains.nd rfl (Or.inl rfl)) (pgs_cons (pg_name (i := 7) sc_make_chains.nd rfl (Or.inl rfl)) pgs_nil))) (fun _ _ _ _ _ => pts_nil)
            (fun _ _ _ _ _ => C8.pe_c cNB hr (by decide) (by rfl) (pa_cons (pe_callB call_len_seq (by rfl) T.f_len PySem.boot_len (pa_cons (pv 7) pa_nil)) (pa_cons (pv 2) pa_nil)))) pa_nil))) (pv 1) (nomark _)) pss_never pss_nil)
      (pss_cons (ps_set (i := 8) sc_make_chains.nd rfl (Or.inl rfl) (pe_op op_cat (pe_op op_rep (pe_lst (pa_cons (C8.pe_gc (by rfl) T.i_NO_DATA) pa_nil)) (pv 5)) (pe_op op_rep (pe_lst (pa_cons pe_int pa_nil)) (pe_op op_sub (pv 1) (pv 5)))))
      (pss_cons (ps_set (i := 9) sc_make_chains.nd rfl (Or.inl rfl) (pe_lst pa_nil))
      (pss_cons (ps_set (i := 10) sc_make_chains.nd rfl (Or.inl rfl) (pe_lst pa_nil))
      (pss_cons (ps_for PassesOwn.never rfl (pi_list (pv 0)) (pg_tup rfl (pgs_cons (pg_name (i := 6) sc_make_chains.nd rfl (Or.inl rfl)) (pgs_cons (pg_name (i := 7) sc_make_chains.nd rfl (Or.inl rfl)) pgs_nil)))
        (pss_cons (ps_set (i := 11) sc_make_chains.nd rfl (Or.inl rfl) (C8.pe_c cFil hr (by decide) (by rfl) (pa_cons (pv 7) (pa_cons (pv 2) pa_nil))))
        (pss_cons (ps_set (i := 12) sc_make_chains.nd rfl (Or.inl rfl) (pe_op op_add (pv 5) (pe_callB call_len_seq (by rfl) T.f_len PySem.boot_len (pa_cons (pv 10) pa_nil))))
        (pss_cons (ps_expr (pe_bm PySem.F.plainAttrs_list PySem.F.slot_list_extend PySem.F.type_list_extend mt_extend (pv 9) (pa_cons (pe_op op_cat (C8.pe_c cNm hr (by decide) (by rfl) (pa_cons (pv 6) pa_nil))
          (C8.pe_c cTwo hr (by decide) (by rfl) (pa_cons (pe_op op_mul (pv 12) (pe_callTy call_int1 (by rfl) T.f_int (by decide +kernel) (pa_cons (pe_cmpR op_gt (pe_callB call_len_seq (by rfl) T.f_len PySem.boot_len (pa_cons (pv 11) pa_nil)) pe_int (nomark _)) pa_nil))) pa_nil))) pa_nil)))
        (pss_cons (ps_expr (pe_bm PySem.F.plainAttrs_list PySem.F.slot_list_extend PySem.F.type_list_extend mt_extend (pv 9) (pa_cons (pe_op op_cat (pe_op op_cat
            (C8.pe_c cTwo hr (by decide) (by rfl) (pa_cons (pe_op op_fdiv (pe_callB call_len_seq (by rfl) T.f_len PySem.boot_len (pa_cons (pv 7) pa_nil)) pe_int) pa_nil))
            (C8.pe_c cTwo hr (by decide) (by rfl) (pa_cons (pe_op op_mod (pe_callB call_len_seq (by rfl) T.f_len PySem.boot_len (pa_cons (pv 7) pa_nil)) pe_int) pa_nil)))
            (C8.pe_c cTwo hr (by decide) (by rfl) (pa_cons (C8.pe_c cCrc hr (by decide) (by rfl) (pa_cons (pv 7) pa_nil)) pa_nil))) pa_nil)))
        (pss_cons (ps_for PassesOwn.never rfl (pi_range1 (by rfl) T.f_range (pa_cons (pe_callB call_len_seq (by rfl) T.f_len PySem.boot_len (pa_cons (pv 11) pa_nil)) pa_nil)) (pg_name (i := 13) sc_make_chains.nd rfl (Or.inl rfl))
          (pss_one (ps_asg (pe_op op_add (pe_op op_add (pv 12) (pv 13)) pe_int) (pg_sub (pv 8) (pe_op op_add (pv 12) (pv 13)) set_list))))
        (C8.pss_cut (ps_if (pt_cmpR op_gt (pe_callB call_len_seq (by rfl) T.f_len PySem.boot_len (pa_cons (pv 11) pa_nil)) pe_int (nomark _))
          (pss_one (ps_asg (C8.pe_gc (by rfl) T.i_END) (pg_sub (pv 8) (pe_op op_sub (pe_op op_add (pv 12) (pe_callB call_len_seq (by rfl) T.f_len PySem.boot_len (pa_cons (pv 11) pa_nil))) pe_int) set_list))) pss_nil)
        (pss_one (ps_expr (pe_bm PySem.F.plainAttrs_list PySem.F.slot_list_extend PySem.F.type_list_extend mt_extend (pv 10) (pa_cons (pv 11) pa_nil)))))))))))
      (pss_cons (ps_set (i := 14) sc_make_chains.nd rfl (Or.inl rfl) (pe_lst pa_nil))
      (pss_cons (ps_for PassesOwn.never rfl (pi_list (pv 8)) (pg_name (i := 15) sc_make_chains.nd rfl (Or.inl rfl))
        (pss_one (ps_expr (pe_bm PySem.F.plainAttrs_list PySem.F.slot_list_extend PySem.F.type_list_extend mt_extend (pv 14) (pa_cons (C8.pe_c cTwo hr (by decide) (by rfl) (pa_cons (pv 15) pa_nil)) pa_nil)))))
      (pss_cons (ps_set (i := 16) sc_make_chains.nd rfl (Or.inl rfl) (C8.pe_c cFil hr (by decide) (by rfl) (pa_cons (pe_op op_cat (pe_op op_cat (pe_callTy call_list_of (by rfl) T.f_list (by decide +kernel) (pa_cons (C8.pe_gc (by rfl) T.t_HEAD) pa_nil))
          (C8.pe_c cTwo hr (by decide) (by rfl) (pa_cons (pv 1) pa_nil))) (pe_lst (pa_cons (pv 4) (pa_cons (pv 3) pa_nil)))) (pa_cons (pv 2) pa_nil))))
      (pss_cons (ps_expr (pe_bm PySem.F.plainAttrs_list PySem.F.slot_list_extend PySem.F.type_list_extend mt_extend (pv 16) (pa_cons (pe_op op_rep (C8.pe_c cFil hr (by decide) (by rfl) (pa_cons (pv 14) (pa_cons (pv 2) pa_nil))) pe_int) pa_nil)))
      (pss_cons (ps_expr (pe_bm PySem.F.plainAttrs_list PySem.F.slot_list_extend PySem.F.type_list_extend mt_extend (pv 16) (pa_cons (C8.pe_c cFil hr (by decide) (by rfl) (pa_cons (pe_op op_cat (pv 9) (pe_op op_rep (pe_lst (pa_cons pe_int pa_nil))
          (pe_op op_sub (pe_op op_mul (pv 3) (pv 2)) (pe_callB call_len_seq (by rfl) T.f_len PySem.boot_len (pa_cons (pv 9) pa_nil))))) (pa_cons (pv 2) pa_nil))) pa_nil)))
      (pss_cons (ps_expr (pe_bm PySem.F.plainAttrs_list PySem.F.slot_list_extend PySem.F.type_list_extend mt_extend (pv 16) (pa_cons (pv 10) pa_nil)))
      (pss_one (ps_ret (C8.pe_mk cBD hr (by decide) (by rfl) (pa_cons (pe_op op_cat (pv 16)
        (pe_lc (own := [("number", 15)]) (g := gName 15) (tt := tYes) rfl sc_make_chains.nd (pi_range1 (by rfl) T.f_range (pa_cons (pe_op op_sub (pv 1) (pe_callB call_len_seq (by rfl) T.f_len PySem.boot_len (pa_cons (pv 16) pa_nil))) pa_nil))
            (blkOk_by (own := [("number", 15)]) (N := nmMC) (sc := C8.fnScope s_make_chains) (by decide +kernel))
            (fun _ _ _ _ _ => pg_name (i := 15) sc_make_chains.nd rfl (Or.inl rfl)) (fun _ _ _ _ _ => pts_nil) (fun _ _ _ _ _ => pe_op op_rep (pe_lst (pa_cons pe_int pa_nil)) (pv 2)))) pa_nil))))))))))))))))))), ?_⟩
    have hz := szI_mem hS.sz
    have hz0 : 0 < z := by omega
    have hz1 : z ≤ 64 := hS.sm
    have hlen := hT.1
    have hmany := hF.many
    have hnlo := hS.lo
    have hnhi := hS.hi
    have hfit := hS.fit
    -- demand_files, demand_sizes
    refine ⟨_, rfl, a, ts, fs, rfl, hA, hT, hF, fun H1 s1 => ?_⟩
    refine ⟨_, rfl, _, rfl, _, rfl, _, _, _, _, rfl, T.sz _, hS.sz, ⟨by omega, by omega⟩, ⟨by decide, by decide⟩, ?_⟩
    have hA1 := s1 _ _ hA
    have hT1 := hT.same s1
    -- tables, first
    have e1 : (2 * ((n : Nat) : Int) + ((z : Nat) : Int) - 1) / ((z : Nat) : Int) = ((tN n z : Nat) : Int) := by
      have := nb_int (2 * n) z hz0
      rw [Int.natCast_mul] at this
      exact this
    refine ⟨_, rfl, _, rfl, _, _, rfl, ⟨by omega, by omega⟩, ?_⟩
    rw [e1]
    have e2 : (1 : Int) + 2 * ((tN n z : Nat) : Int) + 4 = ((fN n z : Nat) : Int) := by
      unfold fN
      omega
    refine ⟨_, rfl, _, _, rfl, rfl, .inl ⟨by decide, by decide⟩, _, _, rfl, rfl, _, rfl, _, _, rfl, rfl, ?_⟩
    dsimp only
    rw [e2]
    -- the two tests
    refine ⟨_, rfl, a, _, rfl, .inl (SqL.of hA1), _, _, rfl, rfl, .inl ⟨by decide, by decide⟩, _, rfl, _, rfl, _, _, rfl, rfl, .inl ⟨by decide, by decide⟩, _, _, rfl, rfl, _, rfl, ?_⟩
    refine iteFd (decide_eq_false (by rw [List.length_map]; omega)) ⟨_, rfl, _, rfl, _, _, rfl, rfl, _, rfl, ?_⟩
    refine iteFd (decide_eq_false (by omega)) ?_
    refine ⟨_, rfl, _, rfl, a, rfl, ⟨_, SqL.of hA1⟩, fun D0 hD0 => lc_list (K := K) (a := a) (xs := ts.map V.ref) (fun i H' => Same H1 H' ∧ OI H' D0 ((fs.take i).map fun g => ((nbF z g : Nat) : Int))) ⟨same_up (Same.refl _) hD0, upd_same⟩ (fun i H' _ q => SqL.of (q.1 _ _ hA1)) ?_ ?_⟩
    · rintro i x H' hx ⟨s2, hL⟩
      obtain ⟨t, ht, rfl⟩ := map_get hx
      obtain ⟨g, q, hg, htup, hq⟩ := hT1.at ht
      have hi := get_lt hg
      have hgl := hF.len g (get_mem hg)
      refine ⟨t, _, rfl, SqT.of (s2 _ _ htup), rfl, _, _, rfl, _, _, rfl, rfl, rfl, lcT (iteT ?_)⟩
      refine ⟨_, rfl, q, _, rfl, .inl (SqL.of (s2 _ _ hq)), _, rfl, _, _, rfl, ⟨by omega, by omega⟩, _, hL, ?_, same_up s2 hD0, ?_⟩
      · rw [List.length_map, List.length_map, List.length_take]
        exact lt_line (by omega)
      · show upd H' D0 _ D0 = _
        rw [upd_same, take_snoc hg, List.map_append, List.map_append, List.length_map, nb_int _ _ hz0]
        rfl
    rintro H2 ⟨s2, hL2⟩
    rw [List.take_of_length_le (by rw [List.length_map]; omega)] at hL2
    have esum : (fs.map fun g => ((nbF z g : Nat) : Int)).sum = ((usedM z fs : Nat) : Int) := by
      have := natsum (fs.map (nbF z))
      rw [List.map_map] at this
      exact this
    refine ⟨D0, _, rfl, SqL.of hL2, _, _, rfl, rfl, _, rfl, _, _, rfl, rfl, _, rfl, ?_⟩
    refine iteFd (decide_eq_false (by rw [esum]; omega)) ?_
    -- table, entries, data
    refine Evl.q_asgL (el_cat (el_rep (x := .int 65535) (Evl.el_lst (Evl.ea_cons Evl.ev_c Evl.ea_nil) (by decide)) (Evl.ev_var rfl) (by omega) (by omega)) (el_rep (x := .int 0) (Evl.el_lst (Evl.ea_cons Evl.ev_c Evl.ea_nil) (by decide)) (Evl.ev_op (Evl.ev_var rfl) (Evl.ev_var rfl) Evl.rv_I0) (by omega) (by omega)) (by rw [List.length_replicate, List.length_replicate]; omega)) fun tb H3 htb s3 hTb => ?_
    refine ⟨Nat.zero_le _, fun en hen => ⟨Nat.zero_le _, fun da hda => ?_⟩⟩
    have hTb' : OI H3 tb (tabM z (fN n z) n []) := by
      show H3 tb = _
      rw [hTb]
      unfold tabM
      rw [List.map_append, List.map_append, List.map_replicate, List.map_replicate, show (((fN n z : Nat) : Int)).toNat = fN n z by omega, show (((n : Nat) : Int) - ((fN n z : Nat) : Int)).toNat = n - fN n z - usedM z [] by
        show _ = n - fN n z - 0
        omega]
      simp [chainsM]
    have hen2 : H2 en = none := Same.free s3 hen
    have hda3 : H3 da = none := Same.free (same_up (Same.refl _) hen) hda
    have hda2 : H2 da = none := Same.free s3 hda3
    have nte : tb ≠ en := ne_of_none hTb hen
    have ntd : tb ≠ da := ne_of_none hTb hda3
    have ned : en ≠ da := ne_of_none upd_same hda
    have s12 := s1.trans s2
    have hA2 := s2 _ _ hA1
    have hT2 := hT1.same s2
    have s25 : Same H2 (upd (upd H3 en (.lst [])) da (.lst [])) := same_up (same_up s3 hen2) hda2
    refine ⟨_, rfl, a, rfl, ⟨_, SqL.of (s25 _ _ hA2)⟩, for_list (K := K) (a := a) (xs := ts.map V.ref) (fun i σ H' => ∃ (o6 o7 o11 o12 o13 : Option V) (as : List Addr),
      σ = [some (.ref a), some (.int (n : Nat)), some (.int (z : Nat)), some (.int 4), some (.int (tN n z : Nat)), some (.int (fN n z : Nat)), o6, o7, some (.ref tb), some (.ref en), some (.ref da), o11, o12, o13, none, none, none] ∧
      Same H2 H' ∧ OI H' tb (tabM z (fN n z) n (fs.take i)) ∧ OI H' en (entsM z (fN n z) (fs.take i)) ∧ H' da = some (.lst (as.map V.ref)) ∧ RowsAt H' as (dataM z (fs.take i)) ∧ ∀ b ∈ as, b ≠ tb ∧ b ≠ en)
      ⟨none, none, none, none, none, [], rfl, s25, (upd_ne ntd).trans ((upd_ne nte).trans hTb'), (upd_ne ned).trans upd_same, upd_same, .nil, fun b hb => by cases hb⟩ (fun i σ H' _ ⟨_, _, _, _, _, _, _, q, _⟩ => SqL.of (q _ _ hA2)) ?_ ?_⟩
    · rintro i x σ H' hx ⟨o6, o7, o11, o12, o13, as, rfl, s, hTB, hEN, hDA, hR, hne⟩
      obtain ⟨t, ht, rfl⟩ := map_get hx
      obtain ⟨g, q, hg, htup, hq⟩ := hT2.at ht
      have hi := get_lt hg
      have hgm := get_mem hg
      have hgl := hF.len g hgm
      have hgn := hF.name g hgm
      generalize hpre : fs.take i = pre at hTB hEN hR
      have hpre1 : fs.take (i + 1) = pre ++ [g] := by rw [take_snoc hg, hpre]
      have hused : usedM z pre + nbF z g ≤ usedM z fs := by
        have e : fs = (pre ++ [g]) ++ fs.drop (i + 1) := by rw [← hpre1, List.take_append_drop]
        have e3 : usedM z fs = usedM z (pre ++ [g]) + usedM z (fs.drop (i + 1)) := by
          conv => lhs; rw [e]
          unfold usedM
          rw [List.map_append, List.sum_append]
        rw [usedM_snoc] at e3
        omega
      have hal : as.length = usedM z pre := by rw [hR.1, dataM_len]
      have hpl : pre.length ≤ 4 := by
        rw [← hpre, List.length_take]
        omega
      have hEl : (entsM z (fN n z) pre).length ≤ 64 := by
        rw [entsM_len (fun f hf => hF.name f (by rw [← hpre] at hf; exact List.mem_of_mem_take hf))]
        omega
      have hTl : (tabM z (fN n z) n pre).length = n := tabM_len (by omega)
      rw [hpre1]
      refine ⟨t, _, rfl, SqT.of (s _ _ htup), rfl, _, _, rfl, _, _, rfl, rfl, ?_⟩
      have hq' := s _ _ hq
      -- blocks, start
      refine ⟨_, rfl, _, rfl, q, g.2, z, rfl, hq', hz0, by omega, by omega, fun Ha pb bs sa hpb hbs hpbL hbR => ?_⟩
      have hbl : bs.length = nbF z g := by rw [hbR.1, filledM_len]; rfl
      have md : Md H2 tb en da pb as bs := ⟨htb, hen2, hda2, nte, ntd, ned, (ne_of_none hTB hpb).symm, (ne_of_none hEN hpb).symm, (ne_of_none hDA hpb).symm, hne,
        fun b hb => ⟨(ne_of_none hTB (hbs b hb)).symm, (ne_of_none hEN (hbs b hb)).symm, (ne_of_none hDA (hbs b hb)).symm⟩⟩
      have m0 : Mt H2 Ha tb en da pb (tabM z (fN n z) n pre) (entsM z (fN n z) pre) as bs (dataM z pre) (filledM g.2 z) := ⟨s.trans sa, sa _ _ hTB, sa _ _ hEN, sa _ _ hDA, hpbL, hR.same sa, hbR⟩
      have estart : ((fN n z : Nat) : Int) + (((as.map V.ref).length : Nat) : Int) = ((fN n z + usedM z pre : Nat) : Int) := by
        rw [List.length_map, hal]
        omega
      refine ⟨_, rfl, _, rfl, da, _, rfl, .inl (SqL.of m0.hD), _, _, rfl, rfl, ?_⟩
      dsimp only
      rw [estart]
      generalize hst : fN n z + usedM z pre = st
      have eblk : (((bs.map V.ref).length : Nat) : Int) = ((nbF z g : Nat) : Int) := by rw [List.length_map, hbl]
      -- the entry
      have x1 : Evl.EvL (tOp rCat (tCall sp_name_bytes [] C8.E0 (tCons (tVar 6) tNil)) (tCall sp_two_bytes [] C8.E0 (tCons (tOp (rI CMul fun i j => .int (i * j)) (tVar 12) (tCB (fun xs H Q => (∃ i, xs = [.int i] ∧ Q (.int i) H) ∨ ∃ k, xs = [.bl k] ∧ Q (.int (if k then 1 else 0)) H) (tCons (tOp (rI0 fun i j => .bl (decide (i > j))) (tCB (Evl.rLenS K) (tCons (tVar 11) tNil)) (tC (.int 0))) tNil))) tNil)))
          [some (.ref a), some (.int (n : Nat)), some (.int (z : Nat)), some (.int 4), some (.int (tN n z : Nat)), some (.int (fN n z : Nat)), some (.str g.1), some (.ref q), some (.ref tb), some (.ref en), some (.ref da), some (.ref pb), some (.int (st : Nat)), o13, none, none, none] Ha
          ((nbM g.1).map V.int ++ (twoM ((stM st (nbF z g) : Nat) : Int)).map V.int) := by
        refine el_cat (Evl.el_call (Evl.ea_cons (Evl.ev_var rfl) Evl.ea_nil) (spl_nb hgn)) (Evl.el_call (Evl.ea_cons (Evl.ev_is (Evl.ev_op (Evl.ev_var rfl) (Evl.ev_cb (vs := [.bl (decide ((((bs.map V.ref).length : Nat) : Int) > 0))]) (z := .int (if decide ((((bs.map V.ref).length : Nat) : Int) > 0) = true then 1 else 0)) (Evl.ea_cons (Evl.ev_op (Evl.ev_len (Evl.ev_var rfl) (SqL.of m0.hP)) Evl.ev_c Evl.rv_I0) Evl.ea_nil) (fun H1 e Q q => .inr ⟨_, rfl, q H1 (Evl.Ex.refl _)⟩)) (Evl.rv_I (.inl ⟨by omega, by omega⟩))) ?_) Evl.ea_nil) spl_two) ?_
        · show V.int _ = V.int _
          refine congrArg V.int ?_
          rw [eblk]
          unfold stM
          by_cases hk : 0 < nbF z g
          · rw [if_pos (decide_eq_true (by omega)), if_pos hk]
            omega
          · rw [if_neg (fun e => hk (by have := of_decide_eq_true e; omega)), if_neg hk]
            omega
        · rw [List.length_map, List.length_map, nbM_len hgn, twoM_len]
          decide
      refine q_extL m0.hE (Evl.ev_var rfl) x1 (by simp only [List.length_append, List.length_map, nbM_len hgn, twoM_len]; omega) fun Hb sb => ?_
      rw [← List.map_append, ← List.map_append]
      have m1 := (m0.ex sb).setE md (entsM z (fN n z) pre ++ (nbM g.1 ++ twoM ((stM st (nbF z g) : Nat) : Int)))
      generalize upd Hb en (.lst ((entsM z (fN n z) pre ++ (nbM g.1 ++ twoM ((stM st (nbF z g) : Nat) : Int))).map V.int)) = Hc at m1 ⊢
      have hqc : OI Hc q g.2 := m1.s _ _ hq
      have x2 : Evl.EvL (tOp rCat (tOp rCat (tCall sp_two_bytes [] C8.E0 (tCons (tOp (rI CDiv fun i j => .int (i / j)) (tCB (Evl.rLenS K) (tCons (tVar 7) tNil)) (tC (.int 65536))) tNil)) (tCall sp_two_bytes [] C8.E0 (tCons (tOp (rI (fun _ j => 0 < j) fun i j => .int (i % j)) (tCB (Evl.rLenS K) (tCons (tVar 7) tNil)) (tC (.int 65536))) tNil))) (tCall sp_two_bytes [] C8.E0 (tCons (tCall (sp_crc K) [] C8.E0 (tCons (tVar 7) tNil)) tNil)))
          [some (.ref a), some (.int (n : Nat)), some (.int (z : Nat)), some (.int 4), some (.int (tN n z : Nat)), some (.int (fN n z : Nat)), some (.str g.1), some (.ref q), some (.ref tb), some (.ref en), some (.ref da), some (.ref pb), some (.int (st : Nat)), o13, none, none, none] Hc
          (((twoM (((g.2.map V.int).length : Nat) / 65536)).map V.int ++ (twoM (((g.2.map V.int).length : Nat) % 65536)).map V.int) ++ (twoM (crcM g.2)).map V.int) := by
        refine el_cat (el_cat (Evl.el_call (Evl.ea_cons (Evl.ev_op (Evl.ev_len (Evl.ev_var rfl) (SqL.of hqc)) Evl.ev_c (Evl.rv_I ⟨by decide, by decide⟩)) Evl.ea_nil) spl_two) (Evl.el_call (Evl.ea_cons (Evl.ev_op (Evl.ev_len (Evl.ev_var rfl) (SqL.of hqc)) Evl.ev_c (Evl.rv_I (by show (0 : Int) < 65536; decide))) Evl.ea_nil) spl_two) ?_) (Evl.el_call (Evl.ea_cons (Evl.ev_call (Evl.ea_cons (Evl.ev_var rfl) Evl.ea_nil) (spv_crc hqc)) Evl.ea_nil) spl_two) ?_
        · simp only [List.length_map, twoM_len]
          decide
        · simp only [List.length_append, List.length_map, twoM_len]
          decide
      refine q_extL m1.hE (Evl.ev_var rfl) x2 (by simp only [List.length_append, List.length_map, nbM_len hgn, twoM_len]; omega) fun Hd sd => ?_
      rw [← List.map_append, ← List.map_append, ← List.map_append, List.length_map]
      have eE : entsM z (fN n z) pre ++ (nbM g.1 ++ twoM ((stM st (nbF z g) : Nat) : Int)) ++ (twoM (((g.2.length : Nat) : Int) / 65536) ++ twoM (((g.2.length : Nat) : Int) % 65536) ++ twoM (crcM g.2)) = entsM z (fN n z) (pre ++ [g]) := by
        rw [entsM_snoc, hst]
        unfold entM
        rw [List.append_assoc, List.append_assoc]
      rw [eE]
      have m2 := (m1.ex sd).setE md (entsM z (fN n z) (pre ++ [g]))
      generalize upd Hd en (.lst ((entsM z (fN n z) (pre ++ [g])).map V.int)) = He at m2 ⊢
      -- the chain
      generalize hmm : n - fN n z - usedM z pre = mm
      have hkm : nbF z g ≤ mm := by omega
      generalize hpr : List.replicate (fN n z) (65535 : Int) ++ chainsM z (fN n z) pre = pr
      have hprl : pr.length = st := by rw [← hpr, tab_pre, hst]
      have hjt : tabM z (fN n z) n pre = tabJ pr st 0 mm := by rw [tab_start, hst, hmm, hpr]
      rw [hjt] at m2
      refine ⟨_, rfl, pb, _, rfl, .inl (SqL.of m2.hP), ?_⟩
      rw [List.length_map, hbl]
      refine ⟨_, rfl, by omega, by omega, ?_⟩
      rw [Int.toNat_natCast]
      refine for_range (lo := 0) (n := nbF z g) (fun j σ H' => ∃ o13 : Option V, σ = [some (.ref a), some (.int (n : Nat)), some (.int (z : Nat)), some (.int 4), some (.int (tN n z : Nat)), some (.int (fN n z : Nat)), some (.str g.1), some (.ref q), some (.ref tb), some (.ref en), some (.ref da), some (.ref pb), some (.int (st : Nat)), o13, none, none, none] ∧
        Mt H2 H' tb en da pb (tabJ pr st j mm) (entsM z (fN n z) (pre ++ [g])) as bs (dataM z pre) (filledM g.2 z)) ⟨o13, rfl, m2⟩ ?_ ?_
      · rintro j σ H' hj ⟨o13, rfl, m⟩
        have ej : ((st : Nat) : Int) + (0 + ((j : Nat) : Int)) + 1 = ((st + j + 1 : Nat) : Int) := by omega
        have ej2 : ((st : Nat) : Int) + (0 + ((j : Nat) : Int)) = ((st + j : Nat) : Int) := by omega
        have hix : ixN ((tabJ pr st j mm).map V.int).length (((st : Nat) : Int) + (0 + ((j : Nat) : Int))) = some (st + j) := by
          rw [ej2]
          exact Evl.ixN_nat (by rw [List.length_map, tabJ_len _ _ _ _ (by omega)]; omega)
        refine ⟨_, rfl, _, rfl, _, _, rfl, rfl, _, _, rfl, rfl, _, rfl, _, rfl, _, rfl, _, _, rfl, rfl, tb, _, _, _, rfl, rfl, m.hT, hix, ?_⟩
        refine ⟨_, rfl, ?_⟩
        have e : ((tabJ pr st j mm).map V.int).set (st + j) (.int (((st : Nat) : Int) + (0 + ((j : Nat) : Int)) + 1)) = (tabJ pr st (j + 1) mm).map V.int := by
          rw [ej, ← tabJ_set hprl (by omega), List.map_set]
        show Mt H2 (upd H' tb (.lst (((tabJ pr st j mm).map V.int).set (st + j) (.int (((st : Nat) : Int) + (0 + ((j : Nat) : Int)) + 1))))) tb en da pb _ _ _ _ _ _
        rw [e]
        exact m.setT md _
      · rintro σ H' ⟨o13, rfl, m⟩
        refine ⟨fun σ H6 => σ = [some (.ref a), some (.int (n : Nat)), some (.int (z : Nat)), some (.int 4), some (.int (tN n z : Nat)), some (.int (fN n z : Nat)), some (.str g.1), some (.ref q), some (.ref tb), some (.ref en), some (.ref da), some (.ref pb), some (.int (st : Nat)), o13, none, none, none] ∧
          Mt H2 H6 tb en da pb (tabM z (fN n z) n (pre ++ [g])) (entsM z (fN n z) (pre ++ [g])) as bs (dataM z pre) (filledM g.2 z), ?_, ?_⟩
        · refine ⟨_, rfl, pb, _, rfl, .inl (SqL.of m.hP), _, _, rfl, rfl, _, rfl, ?_⟩
          by_cases hk : 0 < nbF z g
          · refine iteTd (decide_eq_true (by rw [List.length_map, hbl]; omega)) ?_
            have ei : ((st : Nat) : Int) + (((bs.map V.ref).length : Nat) : Int) - 1 = ((st + nbF z g - 1 : Nat) : Int) := by
              rw [List.length_map, hbl]
              omega
            have hix : ixN ((tabJ pr st (nbF z g) mm).map V.int).length (((st : Nat) : Int) + (((bs.map V.ref).length : Nat) : Int) - 1) = some (st + nbF z g - 1) := by
              rw [ei]
              exact Evl.ixN_nat (by rw [List.length_map, tabJ_len _ _ _ _ hkm]; omega)
            refine ⟨_, rfl, _, rfl, _, rfl, pb, _, rfl, .inl (SqL.of m.hP), _, _, rfl, rfl, _, _, rfl, rfl, tb, _, _, _, rfl, rfl, m.hT, hix, rfl, ?_⟩
            have e : ((tabJ pr st (nbF z g) mm).map V.int).set (st + nbF z g - 1) (.int 1) = (tabM z (fN n z) n (pre ++ [g])).map V.int := by
              rw [← tab_end hk (by omega), hst, hmm, hpr, List.map_set]
            rw [e]
            exact m.setT md _
          · refine iteFd (decide_eq_false (by rw [List.length_map, hbl]; omega)) ⟨rfl, ?_⟩
            have hk0 : nbF z g = 0 := by omega
            rw [tab_none hk0, hjt]
            rw [hk0] at m
            exact m
        · rintro σ H6 ⟨rfl, m⟩
          refine s_extV m.hD m.hP (Evl.ev_var rfl) (Evl.ev_var rfl) (by rw [List.length_map, List.length_map, hal, hbl]; omega) fun H7 s7 => ?_
          have m7 := m.ex s7
          rw [← List.map_append]
          refine ⟨_, _, _, _, _, as ++ bs, rfl, same_up m7.s hda2, (upd_ne ntd).trans m7.hT, (upd_ne ned).trans m7.hE, upd_same, ?_, ?_⟩
          · rw [dataM_snoc]
            exact (m7.hra.append m7.hrb).upd fun b hb => by
              rcases List.mem_append.mp hb with q1 | q1
              · exact m7.hra.ne m7.hD q1
              · exact (md.b b q1).2.2
          · intro b hb
            rcases List.mem_append.mp hb with q1 | q1
            · exact md.a b q1
            · exact ⟨(md.b b q1).1, (md.b b q1).2.1⟩
    · rintro σ H' ⟨o6, o7, o11, o12, o13, as, rfl, s, hTB, hEN, hDA, hR, hne⟩
      rw [List.take_of_length_le (by rw [List.length_map]; omega)] at hTB hEN hR
      have hal : as.length = usedM z fs := by rw [hR.1, dataM_len]
      have hTl : (tabM z (fN n z) n fs).length = n := tabM_len hfit
      have hEl : (entsM z (fN n z) fs).length = 16 * fs.length := entsM_len hF.name _
      -- numbers
      refine ⟨Nat.zero_le _, fun nu hnu => ?_⟩
      have s0 := same_up (o := HO.lst []) (Same.refl H') hnu
      refine ⟨_, rfl, tb, rfl, ⟨_, SqL.of (s0 _ _ hTB)⟩, for_list (K := K) (a := tb) (xs := (tabM z (fN n z) n fs).map V.int) (fun i σ Hx => ∃ o15 : Option V,
        σ = [some (.ref a), some (.int (n : Nat)), some (.int (z : Nat)), some (.int 4), some (.int (tN n z : Nat)), some (.int (fN n z : Nat)), o6, o7, some (.ref tb), some (.ref en), some (.ref da), o11, o12, o13, some (.ref nu), o15, none] ∧
        Same H' Hx ∧ OI Hx nu (numsM ((tabM z (fN n z) n fs).take i))) ⟨none, rfl, s0, upd_same⟩ (fun i σ Hx _ ⟨_, _, q, _⟩ => SqL.of (q _ _ hTB)) ?_ ?_⟩
      · rintro i x σ Hx hx ⟨o15, rfl, s4, hN⟩
        obtain ⟨y, hy, rfl⟩ := map_get hx
        refine s_extL hN (Evl.ev_var rfl) (Evl.el_call (Evl.ea_cons (Evl.ev_var rfl) Evl.ea_nil) spl_two) ?_ fun H5 s5 => ?_
        · simp only [List.length_map, twoM_len, numsM_len, List.length_take]
          omega
        · rw [← List.map_append]
          refine ⟨some (.int y), rfl, same_up (s4.trans s5) hnu, ?_⟩
          have e : numsM ((tabM z (fN n z) n fs).take (i + 1)) = numsM ((tabM z (fN n z) n fs).take i) ++ twoM y := by
            rw [take_snoc hy]
            unfold numsM
            rw [List.flatMap_append]
            simp
          rw [e]
          exact upd_same
      · rintro σ H8 ⟨o15, rfl, s8, hN⟩
        rw [List.take_of_length_le (Nat.le_of_eq (List.length_map V.int).symm)] at hN
        have hEN8 := s8 _ _ hEN
        have hDA8 := s8 _ _ hDA
        have hR8 := hR.same s8
        generalize hnm : numsM (tabM z (fN n z) n fs) = nm at hN
        have hnml : nm.length = 2 * n := by rw [← hnm, numsM_len, hTl]
        have hd2 : (dirM z (fN n z) fs).length ≤ 300 := by
          unfold dirM
          rw [List.length_append, List.length_replicate, hEl]
          omega
        -- rows
        have hhead : Evl.EvL (tOp rCat (tOp rCat (tCB (Evl.rListS K) (tCons (tC (.ref (He.ga K "HEAD"))) tNil)) (tCall sp_two_bytes [] C8.E0 (tCons (tVar 1) tNil))) (tLst (tCons (tVar 4) (tCons (tVar 3) tNil))))
            [some (.ref a), some (.int (n : Nat)), some (.int (z : Nat)), some (.int 4), some (.int (tN n z : Nat)), some (.int (fN n z : Nat)), o6, o7, some (.ref tb), some (.ref en), some (.ref da), o11, o12, o13, some (.ref nu), o15, none] H8 ((headM n (tN n z)).map V.int) :=
          el_is (el_cat (el_cat (el_listT T.hd) (Evl.el_call (Evl.ea_cons (Evl.ev_var rfl) Evl.ea_nil) spl_two) (by show 2 + 2 ≤ 100000; decide)) (Evl.el_lst (Evl.ea_cons (Evl.ev_var rfl) (Evl.ea_cons (Evl.ev_var rfl) Evl.ea_nil)) (by show 2 ≤ 100000; decide)) (by show 4 + 2 ≤ 100000; decide)) rfl
        refine q_asgR (er_filled hhead (Evl.ev_var rfl) hz0 (by omega) (by show 6 ≤ 10000; decide)) fun r H9 ar hr0 s9 hrL har hrR => ?_
        -- the tables
        have hl1 : ar.length ≤ 10000 := by
          rw [hrR.1, filledM_len]
          exact nb_le hz0 (by show 6 ≤ 10000; decide)
        have hN9 := s9 _ _ hN
        refine q_extR hrL (Evl.ev_var rfl) (er_dup (er_filledV (Evl.ev_var rfl) hN9 (Evl.ev_var rfl) hz0 (by omega) (by omega)) (by rw [filledM_len]; exact nb_le hz0 (by omega))) (by
          rw [List.length_append, filledM_len]
          have := nb_le hz0 (show nm.length ≤ 10000 by omega)
          omega) fun Hb a2 sb hf2 hR2 => ?_
        have hl2 : a2.length ≤ 20000 := by
          rw [hR2.1, List.length_append, filledM_len]
          have := nb_le hz0 (show nm.length ≤ 10000 by omega)
          omega
        have nr : ∀ {b : Addr} {o : HO}, H8 b = some o → b ≠ r := fun e => ne_of_none e hr0
        have sA := same_up (o := HO.lst ((ar ++ a2).map V.ref)) (Same.trans s9 sb) hr0
        have hRA : RowsAt (upd Hb r (.lst ((ar ++ a2).map V.ref))) (ar ++ a2) (filledM (headM n (tN n z)) z ++ (filledM nm z ++ filledM nm z)) := ((hrR.same sb).append hR2).upd fun b hb => by
          rcases List.mem_append.mp hb with q1 | q1
          · exact hrR.ne hrL q1
          · exact (ne_of_none hrL (hf2 b q1)).symm
        have hrA : (upd Hb r (.lst ((ar ++ a2).map V.ref))) r = some (.lst ((ar ++ a2).map V.ref)) := upd_same
        generalize upd Hb r (.lst ((ar ++ a2).map V.ref)) = HA at sA hRA hrA ⊢
        generalize hb1 : ar ++ a2 = b1 at hRA hrA ⊢
        have hb1l : b1.length ≤ 30000 := by rw [← hb1, List.length_append]; omega
        -- the directory
        have hENA := sA _ _ hEN8
        refine q_extR hrA (Evl.ev_var rfl) (er_filled (ns := dirM z (fN n z) fs) (el_is (el_catV (Evl.ev_var rfl) hENA (el_rep (x := .int 0) (Evl.el_lst (Evl.ea_cons Evl.ev_c Evl.ea_nil) (by decide)) (Evl.ev_op (Evl.ev_op (Evl.ev_var rfl) (Evl.ev_var rfl) (Evl.rv_I (.inl ⟨by decide, by decide⟩))) (Evl.ev_len (Evl.ev_var rfl) (SqL.of hENA)) Evl.rv_I0)
            (by rw [List.length_map, hEl]; omega) (by omega)) (by
              rw [List.length_map, hEl, List.length_replicate]
              omega)) (by
            unfold dirM
            rw [List.map_append, List.map_replicate, List.length_map]
            congr 2
            omega)) (Evl.ev_var rfl) hz0 (by omega) (by omega)) (by
          rw [filledM_len]
          have := nb_le hz0 (show (dirM z (fN n z) fs).length ≤ 10000 by omega)
          omega) fun Hc a3 sc hf3 hR3 => ?_
        have hl3 : a3.length ≤ 10000 := by
          rw [hR3.1, filledM_len]
          exact nb_le hz0 (by omega)
        have sC := same_up (o := HO.lst ((b1 ++ a3).map V.ref)) (Same.trans sA sc) hr0
        have hRC : RowsAt (upd Hc r (.lst ((b1 ++ a3).map V.ref))) (b1 ++ a3) (filledM (headM n (tN n z)) z ++ (filledM nm z ++ filledM nm z) ++ filledM (dirM z (fN n z) fs) z) := ((hRA.same sc).append hR3).upd fun b hb => by
          rcases List.mem_append.mp hb with q1 | q1
          · exact hRA.ne hrA q1
          · exact (ne_of_none hrA (hf3 b q1)).symm
        have hrC : (upd Hc r (.lst ((b1 ++ a3).map V.ref))) r = some (.lst ((b1 ++ a3).map V.ref)) := upd_same
        generalize upd Hc r (.lst ((b1 ++ a3).map V.ref)) = HC at sC hRC hrC ⊢
        generalize hb2 : b1 ++ a3 = b2 at hRC hrC ⊢
        have hb2l : b2.length ≤ 40000 := by rw [← hb2, List.length_append]; omega
        -- the data
        refine q_extV hrC (sC _ _ hDA8) (Evl.ev_var rfl) (Evl.ev_var rfl) (by rw [List.length_map, List.length_map]; omega) fun Hd sd => ?_
        rw [← List.map_append]
        have sD := same_up (o := HO.lst ((b2 ++ as).map V.ref)) (Same.trans sC sd) hr0
        have hRD : RowsAt (upd Hd r (.lst ((b2 ++ as).map V.ref))) (b2 ++ as) (rows0 z n fs) := by
          have h0 : rows0 z n fs = filledM (headM n (tN n z)) z ++ (filledM nm z ++ filledM nm z) ++ filledM (dirM z (fN n z) fs) z ++ dataM z fs := by
            unfold rows0
            rw [hnm]
          rw [h0]
          refine ((hRC.same sd).append (hR8.same (Same.trans sC sd))).upd fun b hb => ?_
          rcases List.mem_append.mp hb with q1 | q1
          · exact hRC.ne hrC q1
          · obtain ⟨i, hi⟩ := List.mem_iff_getElem?.mp q1
            obtain ⟨ns, _, ho⟩ := hR8.at hi
            exact nr ho
        have hrD : (upd Hd r (.lst ((b2 ++ as).map V.ref))) r = some (.lst ((b2 ++ as).map V.ref)) := upd_same
        generalize upd Hd r (.lst ((b2 ++ as).map V.ref)) = HD at sD hRD hrD ⊢
        generalize hb3 : b2 ++ as = b3 at hRD hrD ⊢
        have hb3l : b3.length = (rows0 z n fs).length := hRD.1
        have htot : (rows0 z n fs).length ≤ 2000 := by
          have h1 := hB.most
          unfold rowsM at h1
          rw [List.length_append] at h1
          omega
        -- the rest
        refine ⟨_, rfl, _, rfl, _, rfl, r, _, rfl, .inl (SqL.of hrD), _, _, rfl, rfl, ?_⟩
        dsimp only
        rw [List.length_map, hb3l]
        refine ⟨_, rfl, by omega, by omega, fun DL hDL => ?_⟩
        have em : (((n : Nat) : Int) - (((rows0 z n fs).length : Nat) : Int)).toNat = n - (rows0 z n fs).length := by omega
        rw [em]
        refine lc_range (lo := 0) (n := n - (rows0 z n fs).length) (fun i Hx => ∃ bs : List Addr, Same HD Hx ∧ Hx DL = some (.lst (bs.map V.ref)) ∧ RowsAt Hx bs (List.replicate i (List.replicate z 0))) ⟨[], same_up (Same.refl _) hDL, upd_same, .nil⟩ ?_ ?_
        · rintro i Hx hi ⟨bs, sx, hL, hRx⟩
          have hbsl : bs.length = i := by rw [hRx.1, List.length_replicate]
          refine ⟨rfl, lcT (iteT ⟨(by show 1 ≤ sizeLine; decide), fun p hp => ⟨_, rfl, p, _, _, rfl, rfl, upd_same, by omega, by omega, le_line (by show 1 * _ ≤ 100000; omega), fun q hq => ?_⟩⟩)⟩
          have s1' := same_up (o := HO.lst [V.int 0]) (Same.refl Hx) hp
          have hq0 := Same.free s1' hq
          rw [flat_rep1, Int.toNat_natCast]
          have s2' := same_up (o := HO.lst (List.replicate z (V.int 0))) s1' hq0
          refine ⟨_, s2' _ _ hL, by rw [List.length_map]; exact lt_line (by omega), bs ++ [q], same_up (Same.trans sx s2') hDL, by rw [upd_same, List.map_append]; rfl, ?_⟩
          rw [rep_snoc]
          have hqq : OI (upd (upd Hx p (.lst [V.int 0])) q (.lst (List.replicate z (V.int 0)))) q (List.replicate z 0) := by
            show upd _ q _ q = _
            rw [upd_same, List.map_replicate]
          refine ((hRx.same s2').snoc hqq).upd fun b hb => ?_
          rcases List.mem_append.mp hb with q1 | q1
          · exact hRx.ne hL q1
          · rw [List.mem_singleton.mp q1]
            exact (ne_of_none hL hq0).symm
        · rintro Hx ⟨bs, sx, hL, hRx⟩
          have hbsl : bs.length = n - (rows0 z n fs).length := by rw [hRx.1, List.length_replicate]
          have hrx := sx _ _ hrD
          refine ⟨r, DL, _, _, rfl, rfl, hrx, hL, le_line (by rw [List.length_map, List.length_map]; omega), fun p hp => ?_⟩
          rw [← List.map_append]
          have sp := same_up (o := HO.lst ((b3 ++ bs).map V.ref)) sx (Same.free sx hp)
          have hRall : RowsAt (upd Hx p (.lst ((b3 ++ bs).map V.ref))) (b3 ++ bs) (rowsM z n fs) := by
            unfold rowsM
            exact ((hRD.same sx).append hRx).same (same_up (Same.refl _) hp)
          intro x dx hx hdx hne2
          have hpx : p ≠ x := ne_of_none upd_same hx
          have hpd : p ≠ dx := ne_of_none upd_same hdx
          have sall : Same H (upd Hx p (.lst ((b3 ++ bs).map V.ref))) := s1.trans (s2.trans (s.trans (s8.trans (Same.trans sD sp))))
          refine ⟨x, dx, p, b3 ++ bs, rowsM z n fs, _, rfl, upd_same, by rw [upd_ne hpx, upd_ne hpd]; exact upd_same, ?_, hB, fun Hf kp DD => ⟨rfl, ?_⟩⟩
          · exact hRall.mono fun b ns _ ho => by
              show upd (upd _ dx _) x _ b = _
              rw [upd_ne (ne_of_none ho hx), upd_ne (ne_of_none ho hdx)]
              exact ho
          · exact k Hf x (sall.trans (Same.made hx hdx kp)) DD
end
end Dw
/-! K10: a volume: made, its table, its entries. -/
namespace Dw
open PySem PySem.Spec PyProof.Rows L2
theorem numM_two (x : Int) : numM (twoM x) = x := by
  show 256 * (256 * 0 + x / 256) + x % 256 = x
  omega
theorem numM_four (x : Int) : numM (twoM (x / 65536) ++ twoM (x % 65536)) = x := by
  show 256 * (256 * (256 * (256 * 0 + x / 65536 / 256) + x / 65536 % 256) + x % 65536 / 256) + x % 65536 % 256 = x
  omega
/-! ### the data of a volume -/
theorem kv_dt : ¬ (("disc" : Str) = "tables") := by decide +kernel
theorem kv_dd : ¬ (("disc" : Str) = "directory") := by decide +kernel
theorem kv_df : ¬ (("disc" : Str) = "first") := by decide +kernel
theorem kv_td : ¬ (("tables" : Str) = "directory") := by decide +kernel
theorem kv_tf : ¬ (("tables" : Str) = "first") := by decide +kernel
theorem kv_ef : ¬ (("directory" : Str) = "first") := by decide +kernel
def vfl (p : Addr) (t d f : Int) : List (Str × V) := putF "first" (.int f) (putF "directory" (.int d) (putF "tables" (.int t) (putF "disc" (.ref p) [])))
theorem vfl_disc (p : Addr) (t d f : Int) : (vfl p t d f).lookup ("disc" : Str) = some (.ref p) := by
  unfold vfl
  rw [lookup_putF, if_neg kv_df, lookup_putF, if_neg kv_dd, lookup_putF, if_neg kv_dt, lookup_putF, if_pos rfl]
theorem vfl_tables (p : Addr) (t d f : Int) : (vfl p t d f).lookup ("tables" : Str) = some (.int t) := by
  unfold vfl
  rw [lookup_putF, if_neg kv_tf, lookup_putF, if_neg kv_td, lookup_putF, if_pos rfl]
theorem vfl_directory (p : Addr) (t d f : Int) : (vfl p t d f).lookup ("directory" : Str) = some (.int d) := by
  unfold vfl
  rw [lookup_putF, if_neg kv_ef, lookup_putF, if_pos rfl]
theorem vfl_first (p : Addr) (t d f : Int) : (vfl p t d f).lookup ("first" : Str) = some (.int f) := by
  unfold vfl
  rw [lookup_putF, if_pos rfl]
theorem vfl_no (p : Addr) (t d f : Int) {m : Str} (h1 : ¬ m = "first") (h2 : ¬ m = "directory") (h3 : ¬ m = "tables") (h4 : ¬ m = "disc") : (vfl p t d f).lookup m = none := by
  unfold vfl
  rw [lookup_putF, if_neg h1, lookup_putF, if_neg h2, lookup_putF, if_neg h3, lookup_putF, if_neg h4]
  rfl
abbrev ft (t : Nat) : Nat := 1 + 2 * t + 4
/-- a volume over a disc -/
structure VolAt (K : PySem.W.Frag) (H : Hp) (v : Addr) (z t : Nat) (rows : List (List Int)) : Prop where
  ex : ∃ dx p : Addr, H v = some (.ins (voC K) dx (vfl p (t : Nat) 4 (ft t : Nat))) ∧ DiscAt K H p (z : Nat) rows
theorem VolAt.same {K : PySem.W.Frag} {H H1 : Hp} {v : Addr} {z t : Nat} {rows : List (List Int)} (h : VolAt K H v z t rows) (s : Same H H1) : VolAt K H1 v z t rows := by
  obtain ⟨dx, p, a, d⟩ := h.ex
  exact ⟨dx, p, s _ _ a, d.same s⟩
/-- a right head -/
structure HeadOk (z t : Nat) (rows : List (List Int)) : Prop where
  ex : ∃ h : List Int, rows[0]? = some h ∧ h.take 2 = [67, 72] ∧ numM ((h.drop 2).take 2) = ((rows.length : Nat) : Int) ∧ (h.drop 6).sum = 0 ∧ h[4]? = some ((t : Nat) : Int) ∧ h[5]? = some 4
  tt : t = tN rows.length z
  fit : ft t ≤ rows.length
  most : rows.length ≤ 2000
  z0 : 0 < z
  z1 : z ≤ 512
/-- the table, entry by entry -/
def TabOk (z t : Nat) (rows : List (List Int)) (tab : Nat → Int) : Prop := ∀ i, i < rows.length → ∃ r, 2 * i / z < t ∧ rows[1 + 2 * i / z]? = some r ∧ numM ((r.drop (2 * i % z)).take 2) = tab i
/-- an entry of the directory -/
structure Ent where
  nm : Str
  st : Int
  ln : Int
  ck : Int
def Ent.bytes (e : Ent) : List Int := nbM e.nm ++ twoM e.st ++ (twoM (e.ln / 65536) ++ twoM (e.ln % 65536) ++ twoM e.ck)
def Ent.vs (e : Ent) : List V := [.str e.nm, .int e.st, .int e.ln, .int e.ck]
theorem dp_ints {K : PySem.W.Frag} {H : Hp} : ∀ l : List Int, DpAll K H (l.map V.int) (l.map PyData.int)
  | [] => .nil
  | a :: r => .cons (.int a) (dp_ints r)
theorem dp_list {K : PySem.W.Frag} {H : Hp} {a : Addr} {l : List Int} (h : SqL K H a (l.map V.int)) : Dp K H (.ref a) (.list (l.map PyData.int)) := .lst h (dp_ints l)
theorem sh_ints (l : List Int) : SeqAt.shaped (.list (l.map PyData.int)) = true := PySem.W.ke_shaped_ints l
theorem eqv_ints (l : List Int) : PyData.eqv (.list (l.map PyData.int)) (.list (l.map PyData.int)) = true := SeqAt.eqv_refl _ (SeqAt.canLay_of_shaped (sh_ints l))
theorem DiscAt.updIns {K : PySem.W.Frag} {H : Hp} {p v dx C : Addr} {z : Int} {rows : List (List Int)} {fs : List (Str × V)} {o : HO} (D : DiscAt K H p z rows) (hv : H v = some (.ins C dx fs)) (n : p ≠ v) : DiscAt K (upd H v o) p z rows := by
  obtain ⟨ddx, r, as, h1, h2, h3⟩ := D.ex
  exact ⟨ddx, r, as, (upd_ne n).trans h1, (upd_ne (ne_of h2 hv (by intro q; cases q))).trans h2, h3.mono fun b ns _ hb => (upd_ne (ne_of hb hv (by intro q; cases q))).trans hb⟩
/-- while a volume is made -/
structure Vi (K : PySem.W.Frag) (H Hk : Hp) (v p q dx : Addr) (fs : List (Str × V)) (z : Int) (rows : List (List Int)) (h : List Int) : Prop where
  hv : Hk v = some (.ins (voC K) dx fs)
  D : DiscAt K Hk p z rows
  L : OI Hk q h
  kp : ∀ b o, H b = some o → b ≠ v → Hk b = some o
  n : p ≠ v
theorem Vi.same {K : PySem.W.Frag} {H Hk H' : Hp} {v p q dx : Addr} {fs : List (Str × V)} {z : Int} {rows : List (List Int)} {h : List Int} (m : Vi K H Hk v p q dx fs z rows h) (s : Same Hk H') : Vi K H H' v p q dx fs z rows h :=
  ⟨s _ _ m.hv, m.D.same s, s _ _ m.L, fun b o e hb => s _ _ (m.kp b o e hb), m.n⟩
theorem Vi.put {K : PySem.W.Frag} {H Hk : Hp} {v p q dx : Addr} {fs : List (Str × V)} {z : Int} {rows : List (List Int)} {h : List Int} (m : Vi K H Hk v p q dx fs z rows h) (fs' : List (Str × V)) : Vi K H (upd Hk v (.ins (voC K) dx fs')) v p q dx fs' z rows h :=
  ⟨upd_same, m.D.updIns m.hv m.n, (upd_ne (ne_of m.L m.hv (by intro z; cases z))).trans m.L, fun b o e hb => (upd_ne hb).trans (m.kp b o e hb), m.n⟩
/-! ### promises -/
def sp_vol_init (K : PySem.W.Frag) : Sp := fun vs H Q _ => ∃ (v dx p : Addr) (z t : Nat) (rows : List (List Int)), vs = [.ref v, .ref p] ∧ H v = some (.ins (voC K) dx []) ∧ DiscAt K H p (z : Nat) rows ∧ HeadOk z t rows ∧
  ∀ H', (∀ b o, H b = some o → b ≠ v → H' b = some o) → VolAt K H' v z t rows → Q .non H'
def sp_table_block (K : PySem.W.Frag) : Sp := fun vs H Q _ => ∃ (v : Addr) (z t k : Nat) (rows : List (List Int)) (r : List Int), vs = [.ref v, .int (k : Nat)] ∧ VolAt K H v z t rows ∧ rows[1 + k]? = some r ∧ ∀ H' q, Same H H' → H q = none → OI H' q r → Q (.ref q) H'
def sp_table_entry (K : PySem.W.Frag) : Sp := fun vs H Q _ => ∃ (v : Addr) (z t i : Nat) (rows : List (List Int)) (tab : Nat → Int), vs = [.ref v, .int (i : Nat)] ∧ VolAt K H v z t rows ∧ (0 < z ∧ z ≤ 512) ∧ TabOk z t rows tab ∧ i < rows.length ∧ ∀ H', Same H H' → Q (.int (tab i)) H'
def sp_missing_behind (K : PySem.W.Frag) : Sp := fun vs H Q _ => ∃ (v : Addr) (z t k : Nat) (rows : List (List Int)), vs = [.ref v, .int (k : Nat)] ∧ VolAt K H v z t rows ∧ ft t ≤ rows.length ∧ k ≤ 4 ∧ ∀ H' q, Same H H' → H q = none → H' q = some (.lst []) → Q (.ref q) H'
def sp_read_entry (K : PySem.W.Frag) : Sp := fun vs H Q _ => ∃ (v a : Addr) (z t : Nat) (rows : List (List Int)) (e : Ent), vs = [.ref v, .ref a] ∧ VolAt K H v z t rows ∧ z ≤ 512 ∧ rows.length ≤ 2000 ∧ NameOk e.nm ∧ e.ln ≤ ((rows.length * z : Nat) : Int) ∧ OI H a e.bytes ∧
  ∀ H' q, Same H H' → H q = none → H' q = some (.tup e.vs) → Q (.ref q) H'
def sp_end_reason (K : PySem.W.Frag) : Sp := fun vs H Q _ => ∃ (v : Addr) (c : Int) (k : Nat), vs = [.ref v, .int c, .int (k : Nat)] ∧ c = (if k = 0 then 0 else 1) ∧ Q (.str "") H
section
variable {P : Program} {w : World} {K : PySem.W.Frag} {mg : Str → Option Value} {base : Heap}
theorem sc_vol_init : FnScope ["self", "disc", "head"] ["self", "disc"] (C8.fnScope s_Volume_init) := C8.fnScope_by (by decide +kernel)
theorem ok_vol_init (T : Txt K mg) : C8.Mak P w K mg base 3 "Volume" (voC K) (sp_vol_init K) [] := by
  obtain ⟨f, fd, M, gm, F, b⟩ := T.D_Volume_init
  have cB : C8.Met P w K mg base 1 (bdC K) "block" (sp_bd_block K) [] := ok_bd_block T
  have cL : C8.Met P w K mg base 1 (bdC K) "__len__" (sp_bd_len K) [] := ok_bd_len T
  have cN : C8.Cal P w K mg base 1 "number_of" (sp_number_of K) [] := ok_number_of T
  have cT : C8.Cal P w K mg base 1 "table_blocks" sp_table_blocks [] := ok_table_blocks T
  refine C8.mak0 M gm F b .nil sc_vol_init (fun vs H Q E h => ?_) (fun cdv A outer s H vs Q E hr h => ?_)
  · obtain ⟨v, dx, p, z, t, rows, rfl, _⟩ := h
    rfl
  · obtain ⟨v, dx, p, z, t, rows, rfl, hv, D, hd, k⟩ := h
    refine ⟨_, pss_cons (ps_fld (pv 0) (pv 1) rfl)
      (pss_cons (ps_set (i := 2) sc_vol_init.nd rfl (Or.inl rfl) (C8.pe_mt cB hr (by decide) (pv 1) (pa_cons pe_int pa_nil)))
      (pss_cons (ps_if (PW.pt (pw_or (pt_cmpR op_no (pv 2) pe_non (nomark _))
          (pw_or (pt_cmpR (op_neD hr.units) (pe_slice sl_list (pv 2) po_none (po_some pe_int)) (pe_callTy call_list_of (by rfl) T.f_list (by decide +kernel) (pa_cons (C8.pe_gc (by rfl) T.t_HEAD) pa_nil)) (nomark _))
          (pw_or (pt_cmpR op_ne (C8.pe_c cN hr (by decide) (by rfl) (pa_cons (pe_slice sl_list (pv 2) (po_some pe_int) (po_some pe_int)) pa_nil)) (pe_callB (call_lenO cL hr (by decide)) (by rfl) T.f_len PySem.boot_len (pa_cons (pv 1) pa_nil)) (nomark _))
          (pw_or1 (pt_cmpR op_gt (pe_callB (cr_sum rfl) (by rfl) T.f_sum (by decide +kernel) (pa_cons (pe_slice sl_list (pv 2) (po_some pe_int) po_none) pa_nil)) pe_int (nomark _))))))) pss_never pss_nil)
      (pss_cons (ps_asg (pe_tup (pa_cons (pe_ix ix_list (pv 2) pe_int (fun _ _ => rfl)) (pa_cons (pe_ix ix_list (pv 2) pe_int (fun _ _ => rfl)) pa_nil))) (pg_tup rfl (pgs_cons (pg_fld (pv 0)) (pgs_cons (pg_fld (pv 0)) pgs_nil))))
      (pss_cons (ps_fld (pv 0) (pe_op op_add (pe_op op_add pe_int (pe_op op_mul pe_int (pe_fld (pv 0) rfl))) (pe_fld (pv 0) rfl)) rfl)
      (pss_cons (ps_if (PW.pt (pw_or (pt_cmpR op_ne (pe_fld (pv 0) rfl) (C8.pe_c cT hr (by decide) (by rfl) (pa_cons (pe_callB (call_lenO cL hr (by decide)) (by rfl) T.f_len PySem.boot_len (pa_cons (pv 1) pa_nil)) (pa_cons (pe_fld (pv 1) rfl) pa_nil))) (nomark _))
          (pw_or1 (pt_not (pt_chain op_le op_le pe_int (pe_fld (pv 0) rfl) (C8.pe_gc (by rfl) T.i_MOST_DIRECTORY)))))) pss_never pss_nil)
      (pss_one (ps_if (pt_cmpR op_gt (pe_fld (pv 0) rfl) (pe_callB (call_lenO cL hr (by decide)) (by rfl) T.f_len PySem.boot_len (pa_cons (pv 1) pa_nil)) (nomark _)) pss_never pss_nil))))))), ?_⟩
    obtain ⟨h, hrow, h2, hnum, hsum, h4, h5⟩ := hd.ex
    have hmost := hd.most
    have hfit := hd.fit
    have hz0 := hd.z0
    have hz1 := hd.z1
    obtain ⟨ddx, dr, das, hp, hdr, hrows⟩ := D.ex
    have npv : p ≠ v := by
      rintro rfl
      rw [hp] at hv
      injection hv with q
      injection q with _ _ q3
      have q4 := dfl_size ((z : Nat) : Int) dr
      rw [q3] at q4
      cases q4
    have c1 : cutV (h.map V.int) none (some 2) = ([67, 72] : List Int).map V.int := by
      have e := cutV_0n (h.map V.int) 2
      rw [← List.map_take, h2] at e
      exact e
    have c2 : cutV (h.map V.int) (some 2) (some 4) = ((h.drop 2).take 2).map V.int := by
      have e := cutV_nn (h.map V.int) 2 4
      rw [map_cut] at e
      exact e
    have c3 : cutV (h.map V.int) (some 6) none = (h.drop 6).map V.int := by
      have e := cutV_n0 (h.map V.int) 6
      rw [← List.map_drop] at e
      exact e
    -- self.disc
    refine ⟨_, rfl, _, rfl, v, _, dx, [], rfl, hv, T.c_Volume, T.n_disc, (by show 0 < 1000; decide), ?_⟩
    have D1 := DiscAt.updIns (o := .ins (voC K) dx (putF "disc" (.ref p) [])) D hv npv
    have kp1 : ∀ b o, H b = some o → b ≠ v → upd H v (.ins (voC K) dx (putF "disc" (.ref p) [])) b = some o := fun b o e hb => (upd_ne hb).trans e
    have hv1 : upd H v (.ins (voC K) dx (putF "disc" (.ref p) [])) v = some (.ins (voC K) dx (putF "disc" (.ref p) [])) := upd_same
    generalize upd H v (.ins (voC K) dx (putF "disc" (.ref p) [])) = H1 at D1 kp1 hv1 ⊢
    -- head
    obtain ⟨ddx1, dr1, das1, hp1, _, _⟩ := D1.ex
    refine ⟨_, rfl, p, ddx1, _, rfl, hp1, dfl_no _ _ (by decide +kernel) (by decide +kernel), p, _, rows, 0, h, rfl, D1, hrow, fun H2 q s2 hq hL => ?_⟩
    have m2 : Vi K H H2 v p q dx (putF "disc" (.ref p) []) (z : Nat) rows h := ⟨s2 _ _ hv1, D1.same s2, hL, fun b o e hb => s2 _ _ (kp1 b o e hb), npv⟩
    -- the tests
    refine ⟨_, rfl, rfl, _, rfl, iteF ?_⟩
    refine ⟨_, rfl, _, rfl, q, _, rfl, SqL.of m2.L, fun p1 h1 => ⟨_, _, rfl, .inr (T.hd _), fun p2 hp2 => ?_⟩⟩
    rw [c1] at hp2 ⊢
    have m3 := (m2.same (same_up (Same.refl _) h1)).same (same_up (o := HO.lst (hdI.map V.int)) (Same.refl _) hp2)
    refine ⟨_, _, dp_list (l := [67, 72]) (SqL.of (up_of upd_same hp2)), dp_list (l := hdI) (SqL.of upd_same), sh_ints _, sh_ints _, _, rfl, ?_⟩
    refine iteFd (by
      have e := eqv_ints [67, 72]
      show (!PyData.eqv (.list (([67, 72] : List Int).map PyData.int)) (.list (([67, 72] : List Int).map PyData.int))) = false
      rw [e]
      rfl) ?_
    generalize upd (upd H2 p1 (.lst (([67, 72] : List Int).map V.int))) p2 (.lst (hdI.map V.int)) = H3 at m3 ⊢
    refine ⟨_, rfl, _, rfl, _, rfl, q, _, rfl, SqL.of m3.L, fun p3 hp3 => ⟨p3, _, rfl, (by show upd _ p3 _ p3 = _; rw [upd_same, c2]), ?_⟩⟩
    rw [c2]
    have m4 := m3.same (same_up (o := HO.lst (((h.drop 2).take 2).map V.int)) (Same.refl _) hp3)
    generalize upd H3 p3 (.lst (((h.drop 2).take 2).map V.int)) = H4 at m4 ⊢
    obtain ⟨dx4, dr4, das4, hp4, _, _⟩ := m4.D.ex
    refine ⟨_, rfl, p, dx4, _, rfl, hp4, p, _, rows, rfl, m4.D, _, rfl, ⟨by omega, by omega⟩, rfl, _, rfl, ?_⟩
    refine iteFd (by rw [hnum, decide_eq_true rfl]; rfl) ?_
    refine ⟨_, rfl, _, rfl, q, _, rfl, SqL.of m4.L, fun p5 hp5 => ⟨p5, _, rfl, SqL.of (by rw [upd_same, c3]), _, _, rfl, rfl, _, rfl, ?_⟩⟩
    refine iteFd (decide_eq_false (by rw [hsum]; decide)) ?_
    rw [c3]
    have m5 := m4.same (same_up (o := HO.lst ((h.drop 6).map V.int)) (Same.refl _) hp5)
    generalize upd H4 p5 (.lst ((h.drop 6).map V.int)) = H5 at m5 ⊢
    -- tables, directory
    have a4 : atI (h.map V.int) (4 : Int) = some (.int ((t : Nat) : Int)) := atI_nat (j := 4) (get_map h4)
    have a5 : atI (h.map V.int) (5 : Int) = some (.int 4) := atI_nat (j := 5) (get_map h5)
    refine ⟨_, rfl, q, _, _, _, rfl, rfl, SqL.of m5.L, a4, _, rfl, q, _, _, _, rfl, rfl, SqL.of m5.L, a5, (by show 2 ≤ sizeLine; decide), fun tp htp => ?_⟩
    have m6 := m5.same (same_up (o := HO.tup [.int ((t : Nat) : Int), .int 4]) (Same.refl _) htp)
    refine ⟨tp, _, rfl, SqT.of upd_same, rfl, _, _, rfl, _, rfl, v, _, dx, _, rfl, m6.hv, T.c_Volume, T.n_tables, (by show 1 < 1000; decide), ?_⟩
    have m7 := m6.put (putF "tables" (.int ((t : Nat) : Int)) (putF "disc" (.ref p) []))
    refine ⟨_, _, rfl, _, rfl, v, _, dx, _, rfl, m7.hv, T.c_Volume, T.n_directory, (by show 2 < 1000; decide), rfl, ?_⟩
    have m8 := m7.put (putF "directory" (.int 4) (putF "tables" (.int ((t : Nat) : Int)) (putF "disc" (.ref p) [])))
    -- first
    have l1 : (putF "directory" (.int 4) (putF "tables" (.int ((t : Nat) : Int)) (putF "disc" (.ref p) []))).lookup ("tables" : Str) = some (.int ((t : Nat) : Int)) := by
      rw [lookup_putF, if_neg kv_td, lookup_putF, if_pos rfl]
    have l2 : (putF "directory" (.int 4) (putF "tables" (.int ((t : Nat) : Int)) (putF "disc" (.ref p) []))).lookup ("directory" : Str) = some (.int 4) := by
      rw [lookup_putF, if_pos rfl]
    refine ⟨_, rfl, v, _, dx, _, _, rfl, m8.hv, T.c_Volume, T.n_tables, l1, _, _, rfl, rfl, .inl ⟨by decide, by decide⟩, _, _, rfl, rfl, _, rfl, v, _, dx, _, _, rfl, m8.hv, T.c_Volume, T.n_directory, l2, _, _, rfl, rfl, _, rfl, v, _, dx, _, rfl, m8.hv, T.c_Volume, T.n_first, (by show 3 < 1000; decide), ?_⟩
    have ef : (1 : Int) + 2 * ((t : Nat) : Int) + 4 = ((ft t : Nat) : Int) := by
      unfold ft
      omega
    have m9 := m8.put (vfl p ((t : Nat) : Int) 4 ((1 : Int) + 2 * ((t : Nat) : Int) + 4))
    rw [ef] at m9
    dsimp only
    rw [ef]
    -- the last tests
    have e1 : (2 * ((rows.length : Nat) : Int) + ((z : Nat) : Int) - 1) / ((z : Nat) : Int) = ((t : Nat) : Int) := by
      have := nb_int (2 * rows.length) z hz0
      rw [Int.natCast_mul] at this
      rw [hd.tt]
      exact this
    obtain ⟨dx9, dr9, das9, hp9, _, _⟩ := m9.D.ex
    refine ⟨_, rfl, v, _, dx, _, _, rfl, m9.hv, T.c_Volume, T.n_tables, vfl_tables _ _ _ _, _, rfl, p, dx9, _, rfl, hp9, p, _, rows, rfl, m9.D, _, rfl, ⟨by omega, by omega⟩, _, rfl, p, _, dx9, _, _, rfl, hp9, T.c_BlockDisc, T.n_size, dfl_size _ _, _, _, rfl, ⟨by omega, by omega⟩, rfl, _, rfl, ?_⟩
    refine iteFd (by rw [e1, decide_eq_true rfl]; rfl) ⟨_, rfl, v, _, dx, _, _, rfl, m9.hv, T.c_Volume, T.n_directory, vfl_directory _ _ _ _, _, _, rfl, rfl, _, rfl, ?_⟩
    refine iteTd (decide_eq_true (by decide)) ⟨_, _, rfl, rfl, _, rfl, ?_⟩
    refine iteFd rfl ?_
    refine ⟨_, rfl, v, _, dx, _, _, rfl, m9.hv, T.c_Volume, T.n_first, vfl_first _ _ _ _, _, rfl, p, dx9, _, rfl, hp9, p, _, rows, rfl, m9.D, _, rfl, ⟨by omega, by omega⟩, _, _, rfl, rfl, _, rfl, ?_⟩
    refine iteFd (decide_eq_false (by omega)) ?_
    exact k _ m9.kp ⟨dx, p, m9.hv, m9.D⟩
end
end Dw
/-! K11: the methods of a volume: its table, its entries. -/
namespace Dw
open PySem PySem.Spec PyProof.Rows L2
theorem ent_take8 {e : Ent} (h : NameOk e.nm) : e.bytes.take 8 = nbM e.nm := by
  unfold Ent.bytes
  rw [List.append_assoc, List.take_append_of_le_length (by rw [nbM_len h]; exact Nat.le_refl _), List.take_of_length_le (by rw [nbM_len h]; exact Nat.le_refl _)]
theorem ent_drop {e : Ent} (h : NameOk e.nm) (i : Nat) : e.bytes.drop (8 + i) = (twoM e.st ++ (twoM (e.ln / 65536) ++ twoM (e.ln % 65536) ++ twoM e.ck)).drop i := by
  unfold Ent.bytes
  rw [List.append_assoc, ← List.drop_drop, show List.drop 8 (nbM e.nm ++ (twoM e.st ++ (twoM (e.ln / 65536) ++ twoM (e.ln % 65536) ++ twoM e.ck))) = twoM e.st ++ (twoM (e.ln / 65536) ++ twoM (e.ln % 65536) ++ twoM e.ck) from by
    rw [← nbM_len h]
    exact List.drop_left]
section
variable {P : Program} {w : World} {K : PySem.W.Frag} {mg : Str → Option Value} {base : Heap}
theorem sc_table_block : FnScope ["self", "number", "copy", "block"] ["self", "number"] (C8.fnScope s_Volume_table_block) := C8.fnScope_by (by decide +kernel)
theorem ok_table_block (T : Txt K mg) : C8.Met P w K mg base 2 (voC K) "table_block" (sp_table_block K) [] := by
  obtain ⟨f, fd, c, me, F, b⟩ := T.D_Volume_table_block
  have cB : C8.Met P w K mg base 1 (bdC K) "block" (sp_bd_block K) [] := ok_bd_block T
  refine C8.met0 c me F b sc_table_block (fun vs H Q E h => ?_) (fun cdv A outer s H vs Q E hr h => ?_)
  · obtain ⟨v, z, t, k', rows, r, rfl, _⟩ := h
    rfl
  · obtain ⟨v, z, t, j, rows, r, rfl, hV, hrow, k⟩ := h
    obtain ⟨dx, p, hv, D⟩ := hV.ex
    refine ⟨_, pss_cons (ps_for PassesOwn.never rfl (pi_range1 (by rfl) T.f_range (pa_cons pe_int pa_nil)) (pg_name (i := 2) sc_table_block.nd rfl (Or.inl rfl))
        (pss_cons (ps_set (i := 3) sc_table_block.nd rfl (Or.inl rfl) (C8.pe_mt cB hr (by decide) (pe_fld (pv 0) rfl) (pa_cons (pe_op op_add (pe_op op_add pe_int (pe_op op_mul (pv 2) (pe_fld (pv 0) rfl))) (pv 1)) pa_nil)))
        (pss_one (ps_if (pt_cmpR op_notN1 (pv 3) pe_non (nomark _)) (pss_one (ps_ret (pv 3))) pss_nil))))
      (pss_one (ps_ret pe_non)), ?_⟩
    obtain ⟨ddx, dr, das, hp, _, _⟩ := D.ex
    refine ⟨2, rfl, by decide, by decide, for_range (lo := 0) (n := 2) (fun i σ H' => i = 0 ∧ σ = [some (.ref v), some (.int (j : Nat)), none, none] ∧ H' = H) ⟨rfl, rfl, rfl⟩ ?_ ?_⟩
    · rintro i σ H' hi ⟨rfl, rfl, rfl⟩
      have e : (1 : Int) + (0 + ((0 : Nat) : Int)) * ((t : Nat) : Int) + ((j : Nat) : Int) = ((1 + j : Nat) : Int) := by
        have : (0 + ((0 : Nat) : Int)) * ((t : Nat) : Int) = 0 := by simp
        omega
      refine ⟨_, rfl, v, _, dx, _, _, rfl, hv, T.c_Volume, T.n_disc, vfl_disc _ _ _ _, p, ddx, _, rfl, hp, dfl_no _ _ (by decide +kernel) (by decide +kernel), _, rfl, _, rfl, v, _, dx, _, _, rfl, hv, T.c_Volume, T.n_tables, vfl_tables _ _ _ _, _, _, rfl, rfl, .inl ⟨by decide, by decide⟩, _, _, rfl, rfl, _, rfl, _, _, rfl, rfl, p, _, rows, 1 + j, r, ?_, D, hrow, fun H2 q s2 hq hL => ?_⟩
      · dsimp only
        rw [e]
        rfl
      · exact ⟨_, rfl, rfl, _, rfl, iteT ⟨_, rfl, k H2 q s2 hq hL⟩⟩
    · rintro σ H' ⟨h2, _⟩
      exact absurd h2 (by decide)
theorem sc_table_entry : FnScope ["self", "index", "block", "at"] ["self", "index"] (C8.fnScope s_Volume_table_entry) := C8.fnScope_by (by decide +kernel)
theorem ok_table_entry (T : Txt K mg) : C8.Met P w K mg base 3 (voC K) "table_entry" (sp_table_entry K) [] := by
  obtain ⟨f, fd, c, me, F, b⟩ := T.D_Volume_table_entry
  have cB : C8.Met P w K mg base 2 (voC K) "table_block" (sp_table_block K) [] := ok_table_block T
  have cN : C8.Cal P w K mg base 1 "number_of" (sp_number_of K) [] := ok_number_of T
  refine C8.met0 c me F b sc_table_entry (fun vs H Q E h => ?_) (fun cdv A outer s H vs Q E hr h => ?_)
  · obtain ⟨v, z, t, i, rows, tab, rfl, _⟩ := h
    rfl
  · obtain ⟨v, z, t, i, rows, tab, rfl, hV, ⟨hz0, hz1⟩, hT, hi, k⟩ := h
    obtain ⟨dx, p, hv, D⟩ := hV.ex
    obtain ⟨ddx, dr, das, hp, _, _⟩ := D.ex
    obtain ⟨r, hlt, hrow, hval⟩ := hT i hi
    refine ⟨_, pss_cons (ps_set (i := 2) sc_table_entry.nd rfl (Or.inl rfl) (C8.pe_mt cB hr (by decide) (pv 0) (pa_cons (pe_op op_fdiv (pe_op op_mul pe_int (pv 1)) (pe_fld (pe_fld (pv 0) rfl) rfl)) pa_nil)))
      (pss_cons (ps_if (pt_cmpR op_no (pv 2) pe_non (nomark _)) (pss_one (ps_ret pe_non)) pss_nil)
      (pss_cons (ps_set (i := 3) sc_table_entry.nd rfl (Or.inl rfl) (pe_op op_mod (pe_op op_mul pe_int (pv 1)) (pe_fld (pe_fld (pv 0) rfl) rfl)))
      (pss_one (ps_ret (C8.pe_c cN hr (by decide) (by rfl) (pa_cons (pe_slice sl_list (pv 2) (po_some (pv 3)) (po_some (pe_op op_add (pv 3) pe_int))) pa_nil)))))), ?_⟩
    have e1 : (2 : Int) * ((i : Nat) : Int) / ((z : Nat) : Int) = ((2 * i / z : Nat) : Int) := by
      rw [Int.natCast_ediv, Int.natCast_mul]
      rfl
    have e2 : (2 : Int) * ((i : Nat) : Int) % ((z : Nat) : Int) = ((2 * i % z : Nat) : Int) := by
      rw [Int.natCast_emod, Int.natCast_mul]
      rfl
    refine ⟨_, rfl, v, dx, _, rfl, hv, vfl_no _ _ _ _ (by decide +kernel) (by decide +kernel) (by decide +kernel) (by decide +kernel), _, rfl, _, _, rfl, rfl, .inl ⟨by decide, by decide⟩, _, rfl, v, _, dx, _, _, rfl, hv, T.c_Volume, T.n_disc, vfl_disc _ _ _ _, p, _, ddx, _, _, rfl, hp, T.c_BlockDisc, T.n_size, dfl_size _ _, _, _, rfl, rfl, ⟨by omega, by omega⟩, v, z, t, 2 * i / z, rows, r, ?_, hV, hrow, fun H2 q s2 hq hL => ?_⟩
    · dsimp only
      rw [e1]
      rfl
    · have hv2 := s2 _ _ hv
      have hp2 := s2 _ _ hp
      refine ⟨_, rfl, rfl, _, rfl, iteF ?_⟩
      refine ⟨_, rfl, _, _, rfl, rfl, .inl ⟨by decide, by decide⟩, _, rfl, v, _, dx, _, _, rfl, hv2, T.c_Volume, T.n_disc, vfl_disc _ _ _ _, p, _, ddx, _, _, rfl, hp2, T.c_BlockDisc, T.n_size, dfl_size _ _, _, _, rfl, rfl, (by show (0 : Int) < ((z : Nat) : Int); omega), ?_⟩
      dsimp only
      rw [e2]
      refine ⟨_, rfl, _, rfl, _, rfl, _, rfl, _, _, rfl, rfl, _, rfl, q, _, rfl, SqL.of hL, fun p3 hp3 => ⟨p3, (r.drop (2 * i % z)).take 2, rfl, ?_, ?_⟩⟩
      · show upd _ p3 _ p3 = _
        have e3 : ((2 * i % z : Nat) : Int) + 2 = ((2 * i % z + 2 : Nat) : Int) := by omega
        rw [upd_same, e3, cutV_nn, map_cut, Nat.add_sub_cancel_left]
      · rw [hval]
        exact k _ (s2.trans (same_up (Same.refl _) hp3))
theorem sc_missing_behind : FnScope ["self", "number", "start", "at"] ["self", "number"] (C8.fnScope s_Volume_missing_behind) := C8.fnScope_by (by decide +kernel)
theorem ok_missing_behind (T : Txt K mg) : C8.Met P w K mg base 2 (voC K) "missing_behind" (sp_missing_behind K) [] := by
  obtain ⟨f, fd, c, me, F, b⟩ := T.D_Volume_missing_behind
  have cB : C8.Met P w K mg base 1 (bdC K) "block" (sp_bd_block K) [] := ok_bd_block T
  refine C8.met0 c me F b sc_missing_behind (fun vs H Q E h => ?_) (fun cdv A outer s H vs Q E hr h => ?_)
  · obtain ⟨v, z, t, j, rows, rfl, _⟩ := h
    rfl
  · obtain ⟨v, z, t, j, rows, rfl, hV, hfit, hj, k⟩ := h
    obtain ⟨dx, p, hv, D⟩ := hV.ex
    refine ⟨_, pss_cons (ps_set (i := 2) sc_missing_behind.nd rfl (Or.inr rfl) (pe_op op_add pe_int (pe_op op_mul pe_int (pe_fld (pv 0) rfl))))
      (pss_one (ps_ret (pe_lc (own := [("at", 3)]) (g := gName 3) (tt := tTest (tOp rNo (tMeth (bdC K) "block" (sp_bd_block K) [] C8.E0 (tFld K (tVar 0) "disc") (tCons (tOp (rI0 fun i j => .int (i + j)) (tVar 2) (tVar 3)) tNil)) (tC .non))) rfl sc_missing_behind.nd
        (pi_range2 (by rfl) T.f_range (pa_cons (pe_op op_add (pv 1) pe_int) (pa_cons (pe_fld (pv 0) rfl) pa_nil)))
        (blkOk_by (own := [("at", 3)]) (N := ["self", "number", "start", "at"]) (sc := C8.fnScope s_Volume_missing_behind) (by decide +kernel))
        (fun _ _ _ _ _ => pg_name (i := 3) sc_missing_behind.nd rfl (Or.inl rfl)) (fun _ _ _ _ _ => pts_one (pt_cmpR op_no (C8.pe_mt cB hr (by decide) (pe_fld (pv 0) rfl) (pa_cons (pe_op op_add (pv 2) (pv 3)) pa_nil)) pe_non (nomark _))) (fun _ _ _ _ _ => pe_op op_add (pv 2) (pv 3))))), ?_⟩
    refine ⟨_, rfl, v, _, dx, _, _, rfl, hv, T.c_Volume, T.n_tables, vfl_tables _ _ _ _, _, _, rfl, rfl, .inl ⟨by decide, by decide⟩, _, _, rfl, rfl, ?_⟩
    refine ⟨_, rfl, _, _, rfl, rfl, _, rfl, v, _, dx, _, _, rfl, hv, T.c_Volume, T.n_directory, vfl_directory _ _ _ _, _, _, rfl, ⟨by omega, by omega, by omega, by omega⟩, fun Dn hD => ?_⟩
    refine lc_range (lo := ((j : Nat) : Int) + 1) (n := ((4 : Int) - (((j : Nat) : Int) + 1)).toNat) (fun i H' => Same H H' ∧ H' Dn = some (.lst [])) ⟨same_up (Same.refl _) hD, upd_same⟩ ?_ ?_
    · rintro i H' hi ⟨s1, hR⟩
      obtain ⟨ddx, dr, das, hp, _, _⟩ := (D.same s1).ex
      have hx : ft t = 1 + 2 * t + 4 := rfl
      have hidx : 1 + 2 * t + (j + 1 + i) < rows.length := by omega
      refine ⟨rfl, _, rfl, v, _, dx, _, _, rfl, s1 _ _ hv, T.c_Volume, T.n_disc, vfl_disc _ _ _ _, p, ddx, _, rfl, hp, dfl_no _ _ (by decide +kernel) (by decide +kernel), _, rfl, _, rfl, _, _, rfl, rfl, p, _, rows, 1 + 2 * t + (j + 1 + i), _, ?_, D.same s1, List.getElem?_eq_getElem hidx, fun H2 q s2 hq hL => ?_⟩
      · show [V.ref p, V.int ((1 : Int) + 2 * ((t : Nat) : Int) + (((j : Nat) : Int) + 1 + ((i : Nat) : Int)))] = _
        rw [show (1 : Int) + 2 * ((t : Nat) : Int) + (((j : Nat) : Int) + 1 + ((i : Nat) : Int)) = ((1 + 2 * t + (j + 1 + i) : Nat) : Int) by omega]
      · exact ⟨rfl, _, rfl, iteF ⟨s1.trans s2, s2 _ _ hR⟩⟩
    · rintro H' ⟨s1, hR⟩
      exact k H' Dn s1 hD hR
theorem sc_end_reason : FnScope ["self", "current", "count", "wanted"] ["self", "current", "count"] (C8.fnScope s_Volume_end_reason) := C8.fnScope_by (by decide +kernel)
theorem ok_end_reason (T : Txt K mg) : C8.Met P w K mg base 1 (voC K) "end_reason" (sp_end_reason K) [] := by
  obtain ⟨f, fd, c, me, F, b⟩ := T.D_Volume_end_reason
  refine C8.met0 c me F b sc_end_reason (fun vs H Q E h => ?_) (fun cdv A outer s H vs Q E hr h => ?_)
  · obtain ⟨v, c, j, rfl, _⟩ := h
    rfl
  · obtain ⟨v, c, j, rfl, hc, k⟩ := h
    refine ⟨_, pss_cons (ps_if (pt_cmpR op_no (pv 1) pe_non (nomark _)) (pss_one (ps_ret pe_str)) pss_nil)
      (pss_cons (ps_set (i := 3) sc_end_reason.nd rfl (Or.inl rfl) (C8.pe_gc (by rfl) T.i_END))
      (C8.pss_cut (ps_if (pt_cmpR op_eq (pv 2) pe_int (nomark _)) (pss_one (ps_set (i := 3) sc_end_reason.nd rfl (Or.inl rfl) pe_int)) pss_nil)
      (pss_cons (ps_if (pt_cmpR op_ne (pv 1) (pv 3) (nomark _)) (pss_one (ps_ret pe_str)) pss_nil)
      (pss_one (ps_ret pe_str))))), ?_⟩
    refine ⟨_, rfl, rfl, _, rfl, iteF ?_⟩
    refine ⟨fun σ H' => σ = [some (.ref v), some (.int c), some (.int (j : Nat)), some (.int c)] ∧ H' = H, ?_, ?_⟩
    · refine ⟨_, rfl, rfl, _, rfl, ?_⟩
      by_cases hj : j = 0
      · subst hj
        rw [if_pos rfl] at hc
        subst hc
        exact iteTd (decide_eq_true rfl) ⟨rfl, rfl⟩
      · rw [if_neg hj] at hc
        subst hc
        exact iteFd (decide_eq_false (fun q => hj (by have := V.int.inj q; omega))) ⟨rfl, rfl⟩
    · rintro σ H' ⟨rfl, rfl⟩
      refine ⟨_, rfl, _, rfl, rfl, _, rfl, ?_⟩
      exact iteFd (by rw [decide_eq_true rfl]; rfl) k
theorem sc_read_entry : FnScope ["self", "values", "name", "length"] ["self", "values"] (C8.fnScope s_Volume_read_entry) := C8.fnScope_by (by decide +kernel)
theorem ok_read_entry (T : Txt K mg) : C8.Met P w K mg base 3 (voC K) "read_entry" (sp_read_entry K) [] := by
  obtain ⟨f, fd, c, me, F, b⟩ := T.D_Volume_read_entry
  have cN : C8.Cal P w K mg base 1 "number_of" (sp_number_of K) [] := ok_number_of T
  have cM : C8.Cal P w K mg base 2 "name_of" (sp_name_of K) [] := ok_name_of T
  have cL : C8.Met P w K mg base 1 (bdC K) "__len__" (sp_bd_len K) [] := ok_bd_len T
  refine C8.met0 c me F b sc_read_entry (fun vs H Q E h => ?_) (fun cdv A outer s H vs Q E hr h => ?_)
  · obtain ⟨v, a, z, t, rows, e, rfl, _⟩ := h
    rfl
  · obtain ⟨v, a, z, t, rows, e, rfl, hV, hz, hn, hnm, hln, hA, k⟩ := h
    obtain ⟨dx, p, hv, D⟩ := hV.ex
    obtain ⟨ddx, dr, das, hp, _, _⟩ := D.ex
    refine ⟨_, pss_cons (ps_set (i := 2) sc_read_entry.nd rfl (Or.inl rfl) (C8.pe_c cM hr (by decide) (by rfl) (pa_cons (pe_slice sl_list (pv 1) po_none (po_some pe_int)) pa_nil)))
      (pss_cons (ps_set (i := 3) sc_read_entry.nd rfl (Or.inl rfl) (C8.pe_c cN hr (by decide) (by rfl) (pa_cons (pe_slice sl_list (pv 1) (po_some pe_int) (po_some pe_int)) pa_nil)))
      (pss_cons (ps_if (PW.pt (pw_or (pt_cmpR op_no (pv 2) pe_non (nomark _)) (pw_or1 (pt_cmpR op_gt (pv 3) (pe_op op_mul (pe_callB (call_lenO cL hr (by decide)) (by rfl) T.f_len PySem.boot_len (pa_cons (pe_fld (pv 0) rfl) pa_nil)) (pe_fld (pe_fld (pv 0) rfl) rfl)) (nomark _))))) (pss_one (ps_ret pe_non)) pss_nil)
      (pss_one (ps_ret (pe_tup (pa_cons (pv 2) (pa_cons (C8.pe_c cN hr (by decide) (by rfl) (pa_cons (pe_slice sl_list (pv 1) (po_some pe_int) (po_some pe_int)) pa_nil)) (pa_cons (pv 3) (pa_cons (C8.pe_c cN hr (by decide) (by rfl) (pa_cons (pe_slice sl_list (pv 1) (po_some pe_int) (po_some pe_int)) pa_nil)) pa_nil))))))))), ?_⟩
    have c1 : cutV (e.bytes.map V.int) none (some 8) = (nbM e.nm).map V.int := by
      have q := cutV_0n (e.bytes.map V.int) 8
      rw [← List.map_take, ent_take8 hnm] at q
      exact q
    have c2 : cutV (e.bytes.map V.int) (some 10) (some 14) = (twoM (e.ln / 65536) ++ twoM (e.ln % 65536)).map V.int := by
      have q := cutV_nn (e.bytes.map V.int) 10 14
      rw [map_cut, ent_drop hnm 2] at q
      exact q
    have c3 : cutV (e.bytes.map V.int) (some 8) (some 10) = (twoM e.st).map V.int := by
      have q := cutV_nn (e.bytes.map V.int) 8 10
      rw [map_cut, ent_drop hnm 0] at q
      exact q
    have c4 : cutV (e.bytes.map V.int) (some 14) (some 16) = (twoM e.ck).map V.int := by
      have q := cutV_nn (e.bytes.map V.int) 14 16
      rw [map_cut, ent_drop hnm 6] at q
      exact q
    refine ⟨_, rfl, _, rfl, a, _, rfl, SqL.of hA, fun p1 h1 => ?_⟩
    rw [c1]
    have sa := same_up (o := HO.lst ((nbM e.nm).map V.int)) (Same.refl H) h1
    refine ⟨p1, e.nm, rfl, hnm, upd_same, fun H1 s1 => ?_⟩
    have s01 := sa.trans s1
    refine ⟨_, rfl, _, rfl, _, rfl, a, _, rfl, SqL.of (s01 _ _ hA), fun p2 h2 => ?_⟩
    rw [c2]
    have sb := same_up (o := HO.lst ((twoM (e.ln / 65536) ++ twoM (e.ln % 65536)).map V.int)) (Same.refl H1) h2
    refine ⟨p2, _, rfl, upd_same, ?_⟩
    rw [numM_four]
    have s02 := s01.trans sb
    refine ⟨_, rfl, rfl, _, rfl, iteF ?_⟩
    refine ⟨_, rfl, _, rfl, v, _, dx, _, _, rfl, s02 _ _ hv, T.c_Volume, T.n_disc, vfl_disc _ _ _ _, p, ddx, _, rfl, s02 _ _ hp, p, _, rows, rfl, D.same s02, _, rfl, ⟨by omega, by omega⟩, _, rfl, v, _, dx, _, _, rfl, s02 _ _ hv, T.c_Volume, T.n_disc, vfl_disc _ _ _ _, p, _, ddx, _, _, rfl, s02 _ _ hp, T.c_BlockDisc, T.n_size, dfl_size _ _, _, _, rfl, rfl, .inl ⟨by omega, by omega⟩, _, _, rfl, rfl, _, rfl, ?_⟩
    refine iteFd (decide_eq_false (by
      rw [Int.natCast_mul] at hln
      omega)) ?_
    refine ⟨_, rfl, _, rfl, _, rfl, _, rfl, a, _, rfl, SqL.of (s02 _ _ hA), fun p3 h3 => ?_⟩
    rw [c3]
    have sc := same_up (o := HO.lst ((twoM e.st).map V.int)) s02 (Same.free s02 h3)
    refine ⟨p3, _, rfl, upd_same, ?_⟩
    rw [numM_two]
    refine ⟨_, rfl, _, rfl, _, rfl, _, rfl, a, _, rfl, SqL.of (sc _ _ hA), fun p4 h4 => ?_⟩
    rw [c4]
    have sd := same_up (o := HO.lst ((twoM e.ck).map V.int)) sc (Same.free sc h4)
    refine ⟨p4, _, rfl, upd_same, ?_⟩
    rw [numM_two]
    refine ⟨(by show 4 ≤ sizeLine; decide), fun q hq => ?_⟩
    exact k _ q (same_up sd (Same.free sd hq)) (Same.free sd hq) upd_same
end
end Dw
/-! K12: scan. -/
namespace Dw
open PySem PySem.Spec PyProof.Rows L2
/-- entries as tuples -/
def EnAt (H : Hp) (as : List Addr) (es : List Ent) : Prop := as.length = es.length ∧ ∀ (i : Nat) (t : Addr) (e : Ent), as[i]? = some t → es[i]? = some e → H t = some (.tup e.vs)
section
variable {H H1 : Hp} {as : List Addr} {es : List Ent}
theorem EnAt.nil : EnAt H [] [] := ⟨rfl, fun i t e h _ => by simp at h⟩
theorem EnAt.mono (r : EnAt H as es) (h : ∀ t e, t ∈ as → H t = some (.tup (Ent.vs e)) → H1 t = some (.tup e.vs)) : EnAt H1 as es := ⟨r.1, fun i t e h1 h2 => h t e (get_mem h1) (r.2 i t e h1 h2)⟩
theorem EnAt.same (r : EnAt H as es) (s : Same H H1) : EnAt H1 as es := r.mono fun _ _ _ h => s _ _ h
theorem EnAt.at (r : EnAt H as es) {i : Nat} {t : Addr} (h : as[i]? = some t) : ∃ e, es[i]? = some e ∧ H t = some (.tup e.vs) := by
  have hl := get_lt h
  have he : es[i]? = some (es[i]'(by rw [← r.1]; exact hl)) := List.getElem?_eq_getElem (by rw [← r.1]; exact hl)
  exact ⟨_, he, r.2 i t _ h he⟩
theorem EnAt.snoc (r : EnAt H as es) {t : Addr} {e : Ent} (h : H t = some (.tup e.vs)) : EnAt H (as ++ [t]) (es ++ [e]) := by
  refine ⟨by rw [List.length_append, List.length_append, r.1]; rfl, fun i u g h1 h2 => ?_⟩
  by_cases hi : i < as.length
  · rw [List.getElem?_append_left hi] at h1
    rw [List.getElem?_append_left (by rw [← r.1]; exact hi)] at h2
    exact r.2 i u g h1 h2
  · rw [List.getElem?_append_right (by omega)] at h1
    rw [List.getElem?_append_right (by rw [← r.1]; omega), ← r.1] at h2
    have e0 : i - as.length = 0 := by
      have := get_lt h1
      simp at this
      omega
    rw [e0] at h1 h2
    have q1 : t = u := Option.some.inj h1
    have q2 : e = g := Option.some.inj h2
    rw [← q1, ← q2]
    exact h
/-- a list, a dict are none of the tuples -/
theorem EnAt.upd (r : EnAt H as es) {a : Addr} {o u : HO} (ha : H a = some u) (hu : ∀ xs, u ≠ .tup xs) : EnAt (L2.upd H a o) as es := r.mono fun t e _ h => by
  rw [upd_ne (ne_of h ha (fun q => hu _ q.symm))]
  exact h
end
/-- the directory, slot by slot: m entries in a block -/
structure DirOk (z m t : Nat) (rows : List (List Int)) (ents : List Ent) : Prop where
  zm : z = 16 * m
  m0 : 0 < m
  m1 : m ≤ 32
  many : ents.length ≤ 4 * m
  row : ∀ k, k < 4 → ∃ r, rows[1 + 2 * t + k]? = some r ∧ (∀ j e, j < m → ents[k * m + j]? = some e → (r.drop (16 * j)).take 16 = e.bytes) ∧ ∀ j, j < m → ents.length = k * m + j → r[16 * j]? = some 0
  nm : ∀ e ∈ ents, NameOk e.nm
  nd : (ents.map Ent.nm).Nodup
  ln : ∀ e ∈ ents, e.ln ≤ ((rows.length * z : Nat) : Int)
/-- while the directory is read -/
structure Sc (H H' : Hp) (en mi ba nm : Addr) (as : List Addr) (kvs : List (Key × V)) (es : List Ent) : Prop where
  s : Same H H'
  hen : H' en = some (.lst (as.map V.ref))
  hmi : H' mi = some (.lst [])
  hba : H' ba = some (.lst [])
  hnm : H' nm = some (.dK kvs)
  he : EnAt H' as es
  hk : kvs.map (·.1) = es.map fun e => Sum.inr e.nm
structure Sd (H : Hp) (en mi ba nm : Addr) : Prop where
  e0 : H en = none
  m0 : H mi = none
  b0 : H ba = none
  n0 : H nm = none
  em : en ≠ mi
  eb : en ≠ ba
  en : en ≠ nm
  mb : mi ≠ ba
  mn : mi ≠ nm
  bn : ba ≠ nm
theorem Sc.same {H H' H1 : Hp} {en mi ba nm : Addr} {as : List Addr} {kvs : List (Key × V)} {es : List Ent} (c : Sc H H' en mi ba nm as kvs es) (s : Same H' H1) : Sc H H1 en mi ba nm as kvs es :=
  ⟨c.s.trans s, s _ _ c.hen, s _ _ c.hmi, s _ _ c.hba, s _ _ c.hnm, c.he.same s, c.hk⟩
theorem Sc.app {H H' : Hp} {en mi ba nm t : Addr} {as : List Addr} {kvs kvs' : List (Key × V)} {es : List Ent} {e : Ent} (c : Sc H H' en mi ba nm as kvs es) (d : Sd H en mi ba nm) (ht : H' t = some (.tup e.vs)) (hk' : kvs'.map (·.1) = (es ++ [e]).map fun e => Sum.inr e.nm) :
    Sc H (upd (upd H' nm (.dK kvs')) en (.lst ((as ++ [t]).map V.ref))) en mi ba nm (as ++ [t]) kvs' (es ++ [e]) := by
  have h1 : EnAt (upd H' nm (.dK kvs')) (as ++ [t]) (es ++ [e]) := (c.he.snoc ht).upd c.hnm (fun xs q => by cases q)
  have h2 : EnAt (upd (upd H' nm (.dK kvs')) en (.lst ((as ++ [t]).map V.ref))) (as ++ [t]) (es ++ [e]) := h1.upd ((upd_ne d.en).trans c.hen) (fun xs q => by cases q)
  exact ⟨same_up (same_up c.s d.n0) d.e0, upd_same, (upd_ne d.em.symm).trans ((upd_ne d.mn).trans c.hmi), (upd_ne d.eb.symm).trans ((upd_ne d.bn).trans c.hba), (upd_ne d.en.symm).trans upd_same, h2, hk'⟩
/-- the first byte of an entry is no 0 -/
theorem ent_head {e : Ent} (h : NameOk e.nm) : ∃ c : Nat, e.bytes[0]? = some ((c : Nat) : Int) ∧ 48 ≤ c := by
  have h1 := h.lo
  have hl := len_tl e.nm
  have h0 : 0 < e.nm.cps.toList.length := by omega
  refine ⟨e.nm.cps.toList[0]'h0, ?_, (cd_range _ (h.cd _ (List.getElem_mem h0))).1⟩
  unfold Ent.bytes nbM
  rw [List.append_assoc, List.append_assoc, List.getElem?_append_left (by rw [List.length_map]; exact h0)]
  exact get_map (List.getElem?_eq_getElem h0)
theorem take_get0 {l : List Int} {j n : Nat} (hn : 0 < n) : ((l.drop j).take n)[0]? = l[j]? := by
  rw [List.getElem?_take_of_lt hn, List.getElem?_drop]
  rfl
def sp_scan (K : PySem.W.Frag) : Sp := fun vs H Q _ => ∃ (v : Addr) (z m t : Nat) (rows : List (List Int)) (ents : List Ent), vs = [.ref v] ∧ VolAt K H v z t rows ∧ rows.length ≤ 2000 ∧ ft t ≤ rows.length ∧ DirOk z m t rows ents ∧
  ∀ H' q en mi ba as, Same H H' → H' q = some (.tup [.ref en, .ref mi, .ref ba]) → H' en = some (.lst (as.map V.ref)) → EnAt H' as ents → H' mi = some (.lst []) → H' ba = some (.lst []) → Q (.ref q) H'
section
variable {P : Program} {w : World} {K : PySem.W.Frag} {mg : Str → Option Value} {base : Heap}
abbrev nmSC : List Str := ["self", "entries", "missing", "bad", "names", "number", "index", "block", "at", "entry"]
theorem sc_scan : FnScope nmSC ["self"] (C8.fnScope s_Volume_scan) := C8.fnScope_by (by decide +kernel)
theorem ok_scan (T : Txt K mg) : C8.Met P w K mg base 4 (voC K) "scan" (sp_scan K) [] := by
  obtain ⟨f, fd, c, me, F, b⟩ := T.D_Volume_scan
  have cB : C8.Met P w K mg base 1 (bdC K) "block" (sp_bd_block K) [] := ok_bd_block T
  have cM : C8.Met P w K mg base 2 (voC K) "missing_behind" (sp_missing_behind K) [] := ok_missing_behind T
  have cR : C8.Met P w K mg base 3 (voC K) "read_entry" (sp_read_entry K) [] := ok_read_entry T
  refine C8.met0 c me F b sc_scan (fun vs H Q E h => ?_) (fun cdv A outer s H vs Q E hr h => ?_)
  · obtain ⟨v, z, m, t, rows, ents, rfl, _⟩ := h
    rfl
  · obtain ⟨v, z, m, t, rows, ents, rfl, hV, hmost, hfit, hD, k⟩ := h
    have hu := hu_of hr
    refine ⟨_, pss_cons (ps_set (i := 1) sc_scan.nd rfl (Or.inl rfl) (pe_lst pa_nil))
      (pss_cons (ps_set (i := 2) sc_scan.nd rfl (Or.inl rfl) (pe_lst pa_nil))
      (pss_cons (ps_set (i := 3) sc_scan.nd rfl (Or.inl rfl) (pe_lst pa_nil))
      (pss_cons (ps_set (i := 4) sc_scan.nd rfl (Or.inl rfl) pe_dnewK)
      (pss_cons (ps_for PassesOwn.never rfl (pi_range1 (by rfl) T.f_range (pa_cons (pe_fld (pv 0) rfl) pa_nil)) (pg_name (i := 5) sc_scan.nd rfl (Or.inl rfl))
        (pss_cons (ps_set (i := 6) sc_scan.nd rfl (Or.inl rfl) (pe_op op_add (pe_op op_add pe_int (pe_op op_mul pe_int (pe_fld (pv 0) rfl))) (pv 5)))
        (pss_cons (ps_set (i := 7) sc_scan.nd rfl (Or.inl rfl) (C8.pe_mt cB hr (by decide) (pe_fld (pv 0) rfl) (pa_cons (pv 6) pa_nil)))
        (pss_cons (ps_if (pt_cmpR op_no (pv 7) pe_non (nomark _)) pss_never pss_nil)
        (pss_one (ps_for PassesOwn.never rfl (pi_range3 (by rfl) T.f_range (pa_cons pe_int (pa_cons (pe_fld (pe_fld (pv 0) rfl) rfl) (pa_cons (C8.pe_gc (by rfl) T.i_ENTRY) pa_nil)))) (pg_name (i := 8) sc_scan.nd rfl (Or.inl rfl))
          (pss_cons (ps_if (pt_cmpR op_eq (pe_ix ix_list (pv 7) (pv 8) (fun _ _ => rfl)) pe_int (nomark _))
            (pss_cons (ps_expr (pe_bm PySem.F.plainAttrs_list PySem.F.slot_list_extend PySem.F.type_list_extend mt_extend (pv 2) (pa_cons (C8.pe_mt cM hr (by decide) (pv 0) (pa_cons (pv 5) pa_nil)) pa_nil)))
            (pss_one (ps_ret (pe_tup (pa_cons (pv 1) (pa_cons (pv 2) (pa_cons (pv 3) pa_nil))))))) pss_nil)
          (pss_cons (ps_set (i := 9) sc_scan.nd rfl (Or.inl rfl) (C8.pe_mt cR hr (by decide) (pv 0) (pa_cons (pe_slice sl_list (pv 7) (po_some (pv 8)) (po_some (pe_op op_add (pv 8) (C8.pe_gc (by rfl) T.i_ENTRY)))) pa_nil)))
          (pss_one (ps_if (PW.pt (pw_or (pt_cmpR op_no (pv 9) pe_non (nomark _)) (pw_or1 (pt_cmp (pc_din hu (pe_ix ix_tup (pv 9) pe_int (fun _ _ => rfl)) (pv 4)))))) pss_never
            (pss_cons (ps_dput hu (pv 4) (pe_ix ix_tup (pv 9) pe_int (fun _ _ => rfl)) pe_bl rfl)
            (pss_one (ps_expr (pe_bm PySem.F.plainAttrs_list PySem.F.slot_list_append PySem.F.type_list_append mt_append (pv 1) (pa_cons (pv 9) pa_nil)))))))))))))))
      (pss_one (ps_ret (pe_tup (pa_cons (pv 1) (pa_cons (pv 2) (pa_cons (pv 3) pa_nil)))))))))), ?_⟩
    have hzm := hD.zm
    have hm0 := hD.m0
    have hm1 := hD.m1
    have hmany := hD.many
    obtain ⟨dx, p, hv, DD⟩ := hV.ex
    refine ⟨Nat.zero_le _, fun en hen => ⟨Nat.zero_le _, fun mi hmi => ⟨Nat.zero_le _, fun ba hba => ?_⟩⟩⟩
    intro nm hnm
    have sA := same_up (o := HO.lst []) (Same.refl H) hen
    have hmi0 := Same.free sA hmi
    have sB := same_up (o := HO.lst []) sA hmi0
    have hba0 := Same.free sB hba
    have sC := same_up (o := HO.lst []) sB hba0
    have hnm0 := Same.free sC hnm
    have nem : en ≠ mi := ne_of_none upd_same hmi
    have neb : en ≠ ba := ne_of_none ((upd_ne nem).trans upd_same) hba
    have nmb : mi ≠ ba := ne_of_none upd_same hba
    have nen : en ≠ nm := ne_of_none ((upd_ne neb).trans ((upd_ne nem).trans upd_same)) hnm
    have nmn : mi ≠ nm := ne_of_none ((upd_ne nmb).trans upd_same) hnm
    have nbn : ba ≠ nm := ne_of_none upd_same hnm
    have sd : Sd H en mi ba nm := ⟨hen, hmi0, hba0, hnm0, nem, neb, nen, nmb, nmn, nbn⟩
    have c0 : Sc H (upd (upd (upd (upd H en (.lst [])) mi (.lst [])) ba (.lst [])) nm (.dK [])) en mi ba nm [] [] [] :=
      ⟨same_up sC hnm0, (upd_ne nen).trans ((upd_ne neb).trans ((upd_ne nem).trans upd_same)), (upd_ne nmn).trans ((upd_ne nmb).trans upd_same), (upd_ne nbn).trans upd_same, upd_same, .nil, rfl⟩
    generalize upd (upd (upd (upd H en (.lst [])) mi (.lst [])) ba (.lst [])) nm (.dK []) = H0 at c0 ⊢
    -- the end, both ways
    have fin : ∀ {H' : Hp} {as : List Addr} {kvs : List (Key × V)}, Sc H H' en mi ba nm as kvs ents → ∀ q, H' q = none → Q (.ref q) (upd H' q (.tup [.ref en, .ref mi, .ref ba])) := fun {H' as kvs} cc q hq => by
      have cc2 := cc.same (same_up (o := HO.tup [.ref en, .ref mi, .ref ba]) (Same.refl _) hq)
      exact k _ q en mi ba as cc2.s upd_same cc2.hen cc2.he cc2.hmi cc2.hba
    refine ⟨_, rfl, v, _, dx, _, _, rfl, c0.s _ _ hv, T.c_Volume, T.n_directory, vfl_directory _ _ _ _, _, rfl, by decide, by decide, for_range (lo := 0) (n := 4) (fun i σ H' => ∃ (o5 o6 o7 o8 o9 : Option V) (as : List Addr) (kvs : List (Key × V)),
      σ = [some (.ref v), some (.ref en), some (.ref mi), some (.ref ba), some (.ref nm), o5, o6, o7, o8, o9] ∧ Sc H H' en mi ba nm as kvs (ents.take (i * m)) ∧ i * m ≤ ents.length) ⟨none, none, none, none, none, [], [], rfl, by rw [Nat.zero_mul, List.take_zero]; exact c0, by omega⟩ ?_ ?_⟩
    · rintro i σ H' hi ⟨o5, o6, o7, o8, o9, as, kvs, rfl, cc, hle⟩
      obtain ⟨r, hrow, hslot, hzero⟩ := hD.row i hi
      obtain ⟨ddx, dr, das, hp, _, _⟩ := (DD.same cc.s).ex
      refine ⟨_, rfl, v, _, dx, _, _, rfl, cc.s _ _ hv, T.c_Volume, T.n_tables, vfl_tables _ _ _ _, _, _, rfl, rfl, .inl ⟨by decide, by decide⟩, _, _, rfl, rfl, _, rfl, _, _, rfl, rfl, ?_⟩
      have eidx : (1 : Int) + 2 * ((t : Nat) : Int) + (0 + ((i : Nat) : Int)) = ((1 + 2 * t + i : Nat) : Int) := by omega
      dsimp only
      rw [eidx]
      refine ⟨_, rfl, v, _, dx, _, _, rfl, cc.s _ _ hv, T.c_Volume, T.n_disc, vfl_disc _ _ _ _, p, ddx, _, rfl, hp, dfl_no _ _ (by decide +kernel) (by decide +kernel), _, rfl, p, _, rows, 1 + 2 * t + i, r, rfl, DD.same cc.s, hrow, fun H2 bl s2 hbl hL => ?_⟩
      have cc2 := cc.same s2
      have bne : bl ≠ en := (ne_of_none cc.hen hbl).symm
      have bnn : bl ≠ nm := (ne_of_none cc.hnm hbl).symm
      refine ⟨_, rfl, rfl, _, rfl, iteF ?_⟩
      refine ⟨_, rfl, v, _, dx, _, _, rfl, cc2.s _ _ hv, T.c_Volume, T.n_disc, vfl_disc _ _ _ _, p, _, ddx, _, _, rfl, s2 _ _ hp, T.c_BlockDisc, T.n_size, dfl_size _ _, 0, _, 16, m, rfl, (by
        have e := rgc_chunk (l := z) (z := 16) (by decide) (by decide) (by omega)
        have en16 : nb z 16 = m := by
          unfold nb
          omega
        rw [en16] at e
        exact e), ?_⟩
      refine for_rangeC (lo := 0) (c := 16) (n := m) (fun j σ H' => ∃ (o8 o9 : Option V) (as : List Addr) (kvs : List (Key × V)),
        σ = [some (.ref v), some (.ref en), some (.ref mi), some (.ref ba), some (.ref nm), some (.int (0 + (i : Nat))), some (.int ((1 + 2 * t + i : Nat) : Int)), some (.ref bl), o8, o9] ∧ Sc H H' en mi ba nm as kvs (ents.take (i * m + j)) ∧ i * m + j ≤ ents.length ∧ OI H' bl r) ⟨o8, o9, as, kvs, rfl, cc2, hle, hL⟩ ?_ ?_
      · rintro j σ H3 hj ⟨o8, o9, as, kvs, rfl, c3, hle3, hL3⟩
        obtain ⟨ddx3, dr3, das3, hp3, _, _⟩ := (DD.same c3.s).ex
        have ej : (0 : Int) + ((j : Nat) : Int) * 16 = ((16 * j : Nat) : Int) := by omega
        by_cases hend : ents.length = i * m + j
        · -- the end of the directory
          have h0 := hzero j hj hend
          have hat : atI (r.map V.int) ((0 : Int) + ((j : Nat) : Int) * 16) = some (.int 0) := at_of ej (get_map h0)
          refine ⟨_, rfl, _, rfl, bl, _, _, _, rfl, rfl, SqL.of hL3, hat, rfl, _, rfl, ?_⟩
          refine iteTd (decide_eq_true rfl) ⟨_, rfl, .inl ⟨rfl, _, SqL.of c3.hmi⟩, ?_⟩
          have hV3 := hV.same c3.s
          refine ⟨_, rfl, v, dx, _, rfl, c3.s _ _ hv, vfl_no _ _ _ _ (by decide +kernel) (by decide +kernel) (by decide +kernel) (by decide +kernel), _, rfl, v, z, t, i, rows, ?_, hV3, hfit, by omega, fun H4 q s4 hq hq4 => ?_⟩
          · show [V.ref v, V.int (0 + ((i : Nat) : Int))] = _
            rw [Int.zero_add]
          · have c4 := c3.same s4
            refine ⟨mi, q, _, _, rfl, rfl, c4.hmi, hq4, Nat.zero_le _, ?_⟩
            rw [List.take_of_length_le (by omega)] at c4
            have c5 : Sc H (upd H4 mi (.lst ([] ++ []))) en mi ba nm as kvs ents :=
              ⟨same_up c4.s sd.m0, (upd_ne sd.em).trans c4.hen, upd_same, (upd_ne sd.mb.symm).trans c4.hba, (upd_ne sd.mn.symm).trans c4.hnm, c4.he.upd c4.hmi (fun xs q => by cases q), c4.hk⟩
            exact ⟨_, rfl, _, rfl, _, rfl, (by show 3 ≤ sizeLine; decide), fun q5 hq5 => fin c5 q5 hq5⟩
        · have hlt : i * m + j < ents.length := by omega
          obtain ⟨e, he⟩ : ∃ e, ents[i * m + j]? = some e := ⟨_, List.getElem?_eq_getElem hlt⟩
          have hsl := hslot j e hj he
          have hem := get_mem he
          have hnme := hD.nm e hem
          obtain ⟨cc0, hc0, hc48⟩ := ent_head hnme
          have hget : r[16 * j]? = some ((cc0 : Nat) : Int) := by
            rw [← take_get0 (l := r) (j := 16 * j) (n := 16) (by decide), hsl]
            exact hc0
          have hat : atI (r.map V.int) ((0 : Int) + ((j : Nat) : Int) * 16) = some (.int ((cc0 : Nat) : Int)) := at_of ej (get_map hget)
          refine ⟨_, rfl, _, rfl, bl, _, _, _, rfl, rfl, SqL.of hL3, hat, rfl, _, rfl, ?_⟩
          refine iteFd (decide_eq_false (fun q => by
            have := V.int.inj q
            omega)) ?_
          -- the entry
          have hV3 := hV.same c3.s
          refine ⟨_, rfl, v, dx, _, rfl, c3.s _ _ hv, vfl_no _ _ _ _ (by decide +kernel) (by decide +kernel) (by decide +kernel) (by decide +kernel), _, rfl, _, rfl, _, rfl, _, rfl, _, _, rfl, rfl, _, rfl, bl, _, rfl, SqL.of hL3, fun p1 h1 => ?_⟩
          have c1 : cutV (r.map V.int) (some ((0 : Int) + ((j : Nat) : Int) * 16)) (some ((0 : Int) + ((j : Nat) : Int) * 16 + 16)) = e.bytes.map V.int := by
            have e2 : ((16 * j : Nat) : Int) + 16 = ((16 * j + 16 : Nat) : Int) := by omega
            rw [ej, e2, cutV_nn, map_cut, Nat.add_sub_cancel_left, hsl]
          have s31 := same_up (o := HO.lst (cutV (r.map V.int) (some ((0 : Int) + ((j : Nat) : Int) * 16)) (some ((0 : Int) + ((j : Nat) : Int) * 16 + 16)))) (Same.refl H3) h1
          refine ⟨v, p1, z, t, rows, e, rfl, hV3.same s31, by omega, hmost, hnme, hD.ln e hem, (by show upd _ p1 _ p1 = _; rw [upd_same, c1]), fun H4 q s4 hq hq4 => ?_⟩
          have s34 := s31.trans s4
          have c4 := c3.same s34
          refine ⟨_, rfl, rfl, _, rfl, iteF ?_⟩
          have hat0 : atI e.vs (0 : Int) = some (.str e.nm) := atI_nat (j := 0) rfl
          have hno : valV kvs (Sum.inr e.nm : Key) = none := by
            cases eq : valV kvs (Sum.inr e.nm : Key) with
            | none => rfl
            | some x =>
              have hin := valV_in eq
              rw [c4.hk] at hin
              obtain ⟨e2, he2, q2⟩ := List.mem_map.mp hin
              have q3 : e2.nm = e.nm := Sum.inr.inj q2
              obtain ⟨j2, hj2⟩ := List.mem_iff_getElem?.mp he2
              have hlt2 : j2 < i * m + j := by
                have := get_lt hj2
                rw [List.length_take] at this
                omega
              rw [List.getElem?_take_of_lt hlt2] at hj2
              have w1 : (ents.map Ent.nm)[j2]? = some e.nm := by
                rw [← q3]
                exact get_map hj2
              have w2 : (ents.map Ent.nm)[i * m + j]? = some e.nm := get_map he
              have := nd_ix hD.nd w1 w2
              omega
          refine ⟨_, rfl, q, _, _, _, rfl, rfl, SqT.of hq4, hat0, _, rfl, nm, _, rfl, DGet.k (k := Sum.inr e.nm) c4.hnm, _, rfl, ?_⟩
          rw [hno]
          refine iteF ?_
          have hkl : kvs.length ≤ 128 := by
            have h5 := congrArg List.length c4.hk
            rw [List.length_map, List.length_map, List.length_take] at h5
            omega
          have hasl : as.length ≤ 128 := by
            have h5 := c4.he.1
            rw [List.length_take] at h5
            omega
          refine ⟨_, rfl, _, rfl, q, _, _, _, rfl, rfl, SqT.of hq4, hat0, nm, _, rfl, DPut.k (k := Sum.inr e.nm) c4.hnm (small1000 (by omega)), ?_⟩
          have hen5 : (upd H4 nm (.dK (putK kvs (Sum.inr e.nm : Key) (.bl true)))) en = some (.lst (as.map V.ref)) := (upd_ne sd.en).trans c4.hen
          refine ⟨_, rfl, .inl ⟨rfl, _, SqL.of hen5⟩, _, rfl, en, _, _, rfl, rfl, hen5, by rw [List.length_map]; exact small1000 (by omega), ?_⟩
          refine ⟨some (.int (0 + ((j : Nat) : Int) * 16)), some (.ref q), as ++ [q], putK kvs (Sum.inr e.nm : Key) (.bl true), rfl, ?_, by omega, ?_⟩
          · rw [show as.map V.ref ++ [V.ref q] = (as ++ [q]).map V.ref from by rw [List.map_append]; rfl, show i * m + (j + 1) = i * m + j + 1 from rfl, take_snoc he]
            refine c4.app sd hq4 ?_
            rw [putK_new _ hno, List.map_append, List.map_append, c4.hk]
            rfl
          · show upd (upd H4 nm _) en _ bl = _
            rw [upd_ne bne, upd_ne bnn]
            exact s34 _ _ hL3
      · rintro σ H3 ⟨o8, o9, as, kvs, rfl, c3, hle3, hL3⟩
        refine ⟨_, _, _, _, _, as, kvs, rfl, ?_, ?_⟩
        · rw [Nat.succ_mul]
          exact c3
        · rw [Nat.succ_mul]
          exact hle3
    · rintro σ H' ⟨o5, o6, o7, o8, o9, as, kvs, rfl, cc, hle⟩
      rw [List.take_of_length_le (by omega)] at cc
      exact ⟨_, rfl, _, rfl, _, rfl, (by show 3 ≤ sizeLine; decide), fun q hq => fin cc q hq⟩
end
end Dw
/-! K13: follow, gathered. -/
namespace Dw
open PySem PySem.Spec PyProof.Rows L2
/-- s, s + 1, .. -/
def seqI (s k : Nat) : List Int := (List.range k).map fun i => ((s + i : Nat) : Int)
theorem seqI_len (s k : Nat) : (seqI s k).length = k := by
  unfold seqI
  rw [List.length_map, List.length_range]
theorem seqI_snoc (s k : Nat) : seqI s (k + 1) = seqI s k ++ [((s + k : Nat) : Int)] := by
  unfold seqI
  rw [List.range_succ, List.map_append]
  rfl
theorem seqI_get {s k i : Nat} (h : i < k) : (seqI s k)[i]? = some ((s + i : Nat) : Int) := by
  unfold seqI
  exact get_map (by rw [List.getElem?_range h])
/-- a chain of k blocks from s on -/
structure ChOk (t n : Nat) (tab : Nat → Int) (s k : Nat) : Prop where
  zero : k = 0 → s = 0
  lo : 0 < k → ft t ≤ s
  hi : 0 < k → s + k ≤ n
  nx : ∀ i, i + 1 < k → tab (s + i) = ((s + i + 1 : Nat) : Int)
  last : 0 < k → tab (s + k - 1) = 1
/-- where the walk stands after i blocks -/
def curM (s k i : Nat) : Int := if i < k then ((s + i : Nat) : Int) else if k = 0 then 0 else 1
def sp_follow (K : PySem.W.Frag) : Sp := fun vs H Q _ => ∃ (v : Addr) (z t s l : Nat) (rows : List (List Int)) (tab : Nat → Int), vs = [.ref v, .int (s : Nat), .int (l : Nat)] ∧ VolAt K H v z t rows ∧ (0 < z ∧ z ≤ 512) ∧ rows.length ≤ 2000 ∧ TabOk z t rows tab ∧ ChOk t rows.length tab s (nb l z) ∧ l ≤ 10000 ∧
  ∀ H' q fo, Same H H' → H' q = some (.tup [.ref fo, .str ""]) → OI H' fo (seqI s (nb l z)) → Q (.ref q) H'
def sp_joined_runs : Sp := fun vs H Q _ => ∃ a : Addr, vs = [.ref a] ∧ H a = some (.lst []) ∧ ∀ H' q, Same H H' → H q = none → H' q = some (.lst []) → Q (.ref q) H'
/-- the blocks of a file hold its bytes -/
def DatOk (z : Nat) (rows : List (List Int)) (s : Nat) (vals : List Int) : Prop := ∀ i, i < nb vals.length z → ∃ r, rows[s + i]? = some r ∧ r.take (min z (vals.length - i * z)) = (vals.drop (i * z)).take z
def sp_gathered (K : PySem.W.Frag) : Sp := fun vs H Q _ => ∃ (p bl : Addr) (z s : Nat) (rows : List (List Int)) (vals : List Int), vs = [.ref p, .ref bl, .int (vals.length : Nat)] ∧ DiscAt K H p (z : Nat) rows ∧ (0 < z ∧ z ≤ 512) ∧ rows.length ≤ 2000 ∧ vals.length ≤ 10000 ∧
  OI H bl (seqI s (nb vals.length z)) ∧ DatOk z rows s vals ∧ ∀ H' q va ru, Same H H' → H' q = some (.tup [.ref va, .ref ru]) → OI H' va vals → H' ru = some (.lst []) → Q (.ref q) H'
theorem chunk_in {l z i : Nat} (hz : 0 < z) (h : i < nb l z) : i * z < l := by
  unfold nb at h
  have h2 : (i + 1) * z ≤ l + z - 1 := (Nat.le_div_iff_mul_le hz).mp h
  rw [Nat.succ_mul] at h2
  omega
theorem nb_cover {l z : Nat} (hz : 0 < z) : l ≤ nb l z * z := by
  unfold nb
  have h := Nat.div_add_mod (l + z - 1) z
  have h2 := Nat.mod_lt (l + z - 1) hz
  rw [Nat.mul_comm] at h
  omega
section
variable {P : Program} {w : World} {K : PySem.W.Frag} {mg : Str → Option Value} {base : Heap}
abbrev nmFO : List Str := ["self", "first", "length", "found", "seen", "current", "_"]
theorem sc_follow : FnScope nmFO ["self", "first", "length"] (C8.fnScope s_Volume_follow) := C8.fnScope_by (by decide +kernel)
theorem ok_follow (T : Txt K mg) : C8.Met P w K mg base 4 (voC K) "follow" (sp_follow K) [] := by
  obtain ⟨f, fd, c, me, F, b⟩ := T.D_Volume_follow
  have cN : C8.Cal P w K mg base 1 "needed_blocks" sp_needed_blocks [] := ok_needed_blocks T
  have cE : C8.Met P w K mg base 3 (voC K) "table_entry" (sp_table_entry K) [] := ok_table_entry T
  have cR : C8.Met P w K mg base 1 (voC K) "end_reason" (sp_end_reason K) [] := ok_end_reason T
  have cL : C8.Met P w K mg base 1 (bdC K) "__len__" (sp_bd_len K) [] := ok_bd_len T
  refine C8.met0 c me F b sc_follow (fun vs H Q E h => ?_) (fun cdv A outer s H vs Q E hr h => ?_)
  · obtain ⟨v, z, t, s, l, rows, tab, rfl, _⟩ := h
    rfl
  · obtain ⟨v, z, t, st, l, rows, tab, rfl, hV, ⟨hz0, hz1⟩, hmost, hT, hC, hl, k⟩ := h
    have hu := hu_of hr
    refine ⟨_, pss_cons (ps_set (i := 3) sc_follow.nd rfl (Or.inl rfl) (pe_lst pa_nil))
      (pss_cons (ps_set (i := 4) sc_follow.nd rfl (Or.inl rfl) pe_dnewK)
      (pss_cons (ps_set (i := 5) sc_follow.nd rfl (Or.inl rfl) (pv 1))
      (pss_cons (ps_for PassesOwn.never rfl (pi_range1 (by rfl) T.f_range (pa_cons (C8.pe_c cN hr (by decide) (by rfl) (pa_cons (pv 2) (pa_cons (pe_fld (pe_fld (pv 0) rfl) rfl) pa_nil))) pa_nil)) (pg_name (i := 6) sc_follow.nd rfl (Or.inl rfl))
        (pss_cons (ps_if (pt_cmpR op_no (pv 5) pe_non (nomark _)) pss_never pss_nil)
        (pss_cons (ps_if (pt_not (pt_chain op_le op_lt (pe_fld (pv 0) rfl) (pv 5) (pe_callB (call_lenO cL hr (by decide)) (by rfl) T.f_len PySem.boot_len (pa_cons (pe_fld (pv 0) rfl) pa_nil)))) pss_never pss_nil)
        (pss_cons (ps_if (pt_cmp (pc_din hu (pv 5) (pv 4))) pss_never pss_nil)
        (pss_cons (ps_dput hu (pv 4) (pv 5) pe_bl rfl)
        (pss_cons (ps_expr (pe_bm PySem.F.plainAttrs_list PySem.F.slot_list_append PySem.F.type_list_append mt_append (pv 3) (pa_cons (pv 5) pa_nil)))
        (pss_one (ps_set (i := 5) sc_follow.nd rfl (Or.inl rfl) (C8.pe_mt cE hr (by decide) (pv 0) (pa_cons (pv 5) pa_nil))))))))))
      (pss_one (ps_ret (pe_tup (pa_cons (pv 3) (pa_cons (C8.pe_mt cR hr (by decide) (pv 0) (pa_cons (pv 5) (pa_cons (pe_callB call_len_seq (by rfl) T.f_len PySem.boot_len (pa_cons (pv 3) pa_nil)) pa_nil))) pa_nil)))))))), ?_⟩
    obtain ⟨dx, p, hv, D⟩ := hV.ex
    obtain ⟨ddx, dr, das, hp, _, _⟩ := D.ex
    refine ⟨Nat.zero_le _, fun fo hfo => ?_⟩
    intro se hse
    have sA := same_up (o := HO.lst []) (Same.refl H) hfo
    have hse0 := Same.free sA hse
    have nfs : fo ≠ se := ne_of_none upd_same hse
    have sB := same_up (o := HO.dK []) sA hse0
    generalize hk' : nb l z = kk at hC k
    have hkl : kk ≤ 10000 := by
      rw [← hk']
      exact nb_le hz0 hl
    refine ⟨_, rfl, ?_⟩
    refine ⟨_, rfl, _, rfl, v, _, dx, _, _, rfl, sB _ _ hv, T.c_Volume, T.n_disc, vfl_disc _ _ _ _, p, _, ddx, _, _, rfl, sB _ _ hp, T.c_BlockDisc, T.n_size, dfl_size _ _, _, _, rfl, ⟨by omega, by omega⟩, _, rfl, ?_⟩
    rw [nb_int _ _ hz0, hk']
    refine ⟨by omega, by omega, ?_⟩
    rw [Int.toNat_natCast]
    refine for_range (lo := 0) (n := kk) (fun i σ H' => ∃ (o6 : Option V) (kvs : List (Key × V)), σ = [some (.ref v), some (.int (st : Nat)), some (.int (l : Nat)), some (.ref fo), some (.ref se), some (.int (curM st kk i)), o6] ∧
      Same H H' ∧ OI H' fo (seqI st i) ∧ H' se = some (.dK kvs) ∧ kvs.map (·.1) = (List.range i).map fun j => Sum.inl ((st + j : Nat) : Int)) ⟨none, [], ?_, sB, (upd_ne nfs).trans upd_same, upd_same, rfl⟩ ?_ ?_
    · have e : curM st kk 0 = ((st : Nat) : Int) := by
        unfold curM
        by_cases h0 : 0 < kk
        · rw [if_pos h0]
          rfl
        · have h1 : kk = 0 := by omega
          rw [if_neg h0, if_pos h1, hC.zero h1]
          rfl
      rw [e]
      rfl
    · rintro i σ H' hi ⟨o6, kvs, rfl, s1, hF, hS, hk⟩
      have ec : curM st kk i = ((st + i : Nat) : Int) := by
        unfold curM
        rw [if_pos hi]
      rw [ec]
      have hlo := hC.lo (by omega)
      have hhi := hC.hi (by omega)
      have hp1 := s1 _ _ hp
      have hv1 := s1 _ _ hv
      refine ⟨_, rfl, rfl, _, rfl, iteF ?_⟩
      refine ⟨_, rfl, v, _, dx, _, _, rfl, hv1, T.c_Volume, T.n_first, vfl_first _ _ _ _, _, rfl, _, _, rfl, rfl, _, rfl, ?_⟩
      refine iteTd (decide_eq_true (by omega)) ⟨_, rfl, v, _, dx, _, _, rfl, hv1, T.c_Volume, T.n_disc, vfl_disc _ _ _ _, p, ddx, _, rfl, hp1, p, _, rows, rfl, D.same s1, _, rfl, ⟨by omega, by omega⟩, _, _, rfl, rfl, _, rfl, ?_⟩
      refine iteFd (by rw [decide_eq_true (by omega)]; rfl) ?_
      have hno : valV kvs (Sum.inl ((st + i : Nat) : Int) : Key) = none := by
        cases eq : valV kvs (Sum.inl ((st + i : Nat) : Int) : Key) with
        | none => rfl
        | some x =>
          have hin := valV_in eq
          rw [hk] at hin
          obtain ⟨j, hj, q⟩ := List.mem_map.mp hin
          have hj2 := List.mem_range.mp hj
          have := Sum.inl.inj q
          omega
      refine ⟨_, rfl, _, rfl, se, _, rfl, DGet.k (k := Sum.inl ((st + i : Nat) : Int)) hS, _, rfl, ?_⟩
      rw [hno]
      refine iteF ?_
      have hkvl : kvs.length = i := by
        have := congrArg List.length hk
        rw [List.length_map, List.length_map, List.length_range] at this
        exact this
      refine ⟨_, rfl, _, rfl, se, _, rfl, DPut.k (k := Sum.inl ((st + i : Nat) : Int)) hS (lt_line (by omega)), ?_⟩
      have hF2 : OI (upd H' se (.dK (putK kvs (Sum.inl ((st + i : Nat) : Int) : Key) (.bl true)))) fo (seqI st i) := (upd_ne nfs).trans hF
      refine ⟨_, rfl, .inl ⟨rfl, _, SqL.of hF2⟩, _, rfl, fo, _, _, rfl, rfl, hF2, by rw [List.length_map, seqI_len]; exact lt_line (by omega), ?_⟩
      have sX : Same H (upd (upd H' se (.dK (putK kvs (Sum.inl ((st + i : Nat) : Int) : Key) (.bl true)))) fo (.lst ((seqI st i).map V.int ++ [.int ((st + i : Nat) : Int)]))) := same_up (same_up s1 hse0) hfo
      have hse2 : (upd (upd H' se (.dK (putK kvs (Sum.inl ((st + i : Nat) : Int) : Key) (.bl true)))) fo (.lst ((seqI st i).map V.int ++ [.int ((st + i : Nat) : Int)]))) se = some (.dK (putK kvs (Sum.inl ((st + i : Nat) : Int) : Key) (.bl true))) := (upd_ne nfs.symm).trans upd_same
      have hfo2 : OI (upd (upd H' se (.dK (putK kvs (Sum.inl ((st + i : Nat) : Int) : Key) (.bl true)))) fo (.lst ((seqI st i).map V.int ++ [.int ((st + i : Nat) : Int)]))) fo (seqI st (i + 1)) := by
        show upd _ fo _ fo = _
        rw [upd_same, seqI_snoc, List.map_append]
        rfl
      generalize upd (upd H' se (.dK (putK kvs (Sum.inl ((st + i : Nat) : Int) : Key) (.bl true)))) fo (.lst ((seqI st i).map V.int ++ [.int ((st + i : Nat) : Int)])) = H2 at sX hse2 hfo2 ⊢
      refine ⟨_, rfl, v, dx, _, rfl, sX _ _ hv, vfl_no _ _ _ _ (by decide +kernel) (by decide +kernel) (by decide +kernel) (by decide +kernel), _, rfl, v, z, t, st + i, rows, tab, rfl, hV.same sX, ⟨hz0, hz1⟩, hT, by omega, fun H3 s3 => ?_⟩
      have enx : tab (st + i) = curM st kk (i + 1) := by
        unfold curM
        by_cases h1 : i + 1 < kk
        · rw [if_pos h1, hC.nx i h1]
          rfl
        · have h2 : kk = i + 1 := by omega
          have h3 := hC.last (by omega)
          rw [if_neg h1, if_neg (by omega), ← h3, h2]
          rfl
      rw [enx]
      refine ⟨_, _, rfl, sX.trans s3, s3 _ _ hfo2, s3 _ _ hse2, ?_⟩
      rw [putK_new _ hno, List.map_append, hk, List.range_succ, List.map_append]
      rfl
    · rintro σ H' ⟨o6, kvs, rfl, s1, hF, hS, hk⟩
      refine ⟨_, rfl, _, rfl, v, dx, _, rfl, s1 _ _ hv, vfl_no _ _ _ _ (by decide +kernel) (by decide +kernel) (by decide +kernel) (by decide +kernel), _, rfl, _, rfl, fo, _, rfl, .inl (SqL.of hF), v, curM st kk kk, kk, ?_, ?_, (by show 2 ≤ sizeLine; decide), fun q hq => ?_⟩
      · rw [List.length_map, seqI_len]
        rfl
      · unfold curM
        rw [if_neg (Nat.lt_irrefl _)]
      · have s2 := same_up (o := HO.tup [.ref fo, .str ""]) s1 (Same.free s1 hq)
        exact k _ q fo s2 upd_same (up_of hF hq)
theorem sc_joined_runs : FnScope ["runs", "found", "offset", "count"] ["runs"] (C8.fnScope s_joined_runs) := C8.fnScope_by (by decide +kernel)
theorem ok_joined_runs (T : Txt K mg) : C8.Cal P w K mg base 1 "joined_runs" sp_joined_runs [] := by
  obtain ⟨f, fd, F, b⟩ := T.D_joined_runs
  refine C8.cal0 F b .nil sc_joined_runs (fun vs H Q E h => ?_) (fun cdv A outer s H vs Q E hr h => ?_)
  · obtain ⟨a, rfl, _⟩ := h
    rfl
  · obtain ⟨a, rfl, hA, k⟩ := h
    refine ⟨_, pss_cons (ps_set (i := 1) sc_joined_runs.nd rfl (Or.inl rfl) (pe_lst pa_nil))
      (pss_cons (ps_for PassesOwn.never rfl (pi_list (pv 0)) (pg_tup rfl (pgs_cons (pg_name (i := 2) sc_joined_runs.nd rfl (Or.inl rfl)) (pgs_cons (pg_name (i := 3) sc_joined_runs.nd rfl (Or.inl rfl)) pgs_nil))) pss_never)
      (pss_one (ps_ret (pv 1)))), ?_⟩
    refine ⟨Nat.zero_le _, fun fo hfo => ?_⟩
    have sA := same_up (o := HO.lst []) (Same.refl H) hfo
    refine ⟨_, rfl, a, rfl, ⟨_, SqL.of (sA _ _ hA)⟩, for_list (K := K) (a := a) (xs := []) (fun i σ H' => σ = [some (.ref a), some (.ref fo), none, none] ∧ H' = upd H fo (.lst [])) ⟨rfl, rfl⟩ (fun i σ H' _ q => by rw [q.2]; exact SqL.of (sA _ _ hA)) (fun i x σ H' hx => by simp at hx) ?_⟩
    rintro σ H' ⟨rfl, rfl⟩
    exact ⟨_, rfl, k _ fo sA hfo upd_same⟩
abbrev nmGA : List Str := ["disc", "blocks", "length", "values", "runs", "at", "count", "block"]
theorem sc_gathered : FnScope nmGA ["disc", "blocks", "length"] (C8.fnScope s_gathered) := C8.fnScope_by (by decide +kernel)
theorem ok_gathered (T : Txt K mg) : C8.Cal P w K mg base 2 "gathered" (sp_gathered K) [] := by
  obtain ⟨f, fd, F, b⟩ := T.D_gathered
  have cN : C8.Cal P w K mg base 1 "needed_blocks" sp_needed_blocks [] := ok_needed_blocks T
  have cJ : C8.Cal P w K mg base 1 "joined_runs" sp_joined_runs [] := ok_joined_runs T
  have cB : C8.Met P w K mg base 1 (bdC K) "block" (sp_bd_block K) [] := ok_bd_block T
  refine C8.cal0 F b .nil sc_gathered (fun vs H Q E h => ?_) (fun cdv A outer s H vs Q E hr h => ?_)
  · obtain ⟨p, bl, z, s, rows, vals, rfl, _⟩ := h
    rfl
  · obtain ⟨p, bl, z, st, rows, vals, rfl, D, ⟨hz0, hz1⟩, hmost, hl, hB, hD, k⟩ := h
    refine ⟨_, pss_cons (ps_set (i := 3) sc_gathered.nd rfl (Or.inl rfl) (pe_lst pa_nil))
      (pss_cons (ps_set (i := 4) sc_gathered.nd rfl (Or.inl rfl) (pe_lst pa_nil))
      (pss_cons (ps_for PassesOwn.never rfl (pi_range1 (by rfl) T.f_range (pa_cons (C8.pe_c cN hr (by decide) (by rfl) (pa_cons (pv 2) (pa_cons (pe_fld (pv 0) rfl) pa_nil))) pa_nil)) (pg_name (i := 5) sc_gathered.nd rfl (Or.inl rfl))
        (pss_cons (ps_set (i := 6) sc_gathered.nd rfl (Or.inl rfl) (pe_callB (call_min2 rfl) (by rfl) T.f_min (by decide +kernel) (pa_cons (pe_fld (pv 0) rfl) (pa_cons (pe_op op_sub (pv 2) (pe_callB call_len_seq (by rfl) T.f_len PySem.boot_len (pa_cons (pv 3) pa_nil))) pa_nil))))
        (pss_cons (ps_set (i := 7) sc_gathered.nd rfl (Or.inl rfl) pe_non)
        (pss_cons (ps_if (PW.pt (pw_and (pt_cmpR op_lt (pv 5) (pe_callB call_len_seq (by rfl) T.f_len PySem.boot_len (pa_cons (pv 1) pa_nil)) (nomark _)) (pw_and1 (pt_cmpR op_notN1 (pe_ix ix_list (pv 1) (pv 5) (fun _ _ => rfl)) pe_non (nomark _)))))
          (pss_one (ps_set (i := 7) sc_gathered.nd rfl (Or.inl rfl) (C8.pe_mt cB hr (by decide) (pv 0) (pa_cons (pe_ix ix_list (pv 1) (pv 5) (fun _ _ => rfl)) pa_nil)))) pss_nil)
        (pss_one (ps_if (pt_cmpR op_no (pv 7) pe_non (nomark _)) pss_never
          (pss_one (ps_expr (pe_bm PySem.F.plainAttrs_list PySem.F.slot_list_extend PySem.F.type_list_extend mt_extend (pv 3) (pa_cons (pe_slice sl_list (pv 7) po_none (po_some (pv 6))) pa_nil))))))))))
      (pss_one (ps_ret (pe_tup (pa_cons (pv 3) (pa_cons (C8.pe_c cJ hr (by decide) (by rfl) (pa_cons (pv 4) pa_nil)) pa_nil))))))), ?_⟩
    refine ⟨Nat.zero_le _, fun va hva => ⟨Nat.zero_le _, fun ru hru => ?_⟩⟩
    have sA := same_up (o := HO.lst []) (Same.refl H) hva
    have hru0 := Same.free sA hru
    have nvr : va ≠ ru := ne_of_none upd_same hru
    have sB := same_up (o := HO.lst []) sA hru0
    obtain ⟨ddx, dr, das, hp, _, _⟩ := D.ex
    generalize hk' : nb vals.length z = kk at hB
    have hD' : ∀ i, i < kk → ∃ r, rows[st + i]? = some r ∧ r.take (min z (vals.length - i * z)) = (vals.drop (i * z)).take z := by
      rw [← hk']
      exact hD
    have hin : ∀ i, i < kk → i * z < vals.length := by
      rw [← hk']
      exact fun i hi => chunk_in hz0 hi
    have hcov : vals.length ≤ kk * z := by
      rw [← hk']
      exact nb_cover hz0
    have hkl : kk ≤ 10000 := by
      rw [← hk']
      exact nb_le hz0 hl
    refine ⟨_, rfl, _, rfl, p, _, ddx, _, _, rfl, sB _ _ hp, T.c_BlockDisc, T.n_size, dfl_size _ _, _, _, rfl, ⟨by omega, by omega⟩, _, rfl, ?_⟩
    rw [nb_int _ _ hz0, hk']
    refine ⟨by omega, by omega, ?_⟩
    rw [Int.toNat_natCast]
    refine for_range (lo := 0) (n := kk) (fun i σ H' => ∃ o5 o6 o7 : Option V, σ = [some (.ref p), some (.ref bl), some (.int (vals.length : Nat)), some (.ref va), some (.ref ru), o5, o6, o7] ∧
      Same H H' ∧ OI H' va (vals.take (i * z)) ∧ H' ru = some (.lst [])) ⟨none, none, none, rfl, sB, by rw [Nat.zero_mul, List.take_zero]; exact (upd_ne nvr).trans upd_same, upd_same⟩ ?_ ?_
    · rintro i σ H' hi ⟨o5, o6, o7, rfl, s1, hVa, hRu⟩
      obtain ⟨r, hrow, hdat⟩ := hD' i hi
      have hiz := hin i hi
      have hp1 := s1 _ _ hp
      have hB1 := s1 _ _ hB
      have hlen : (vals.take (i * z)).length = i * z := by
        rw [List.length_take]
        omega
      refine ⟨_, rfl, p, _, ddx, _, _, rfl, hp1, T.c_BlockDisc, T.n_size, dfl_size _ _, _, rfl, _, rfl, va, _, rfl, .inl (SqL.of hVa), _, _, rfl, rfl, _, _, rfl, ?_⟩
      have emin : (if ((vals.length : Nat) : Int) - ((((vals.take (i * z)).map V.int).length : Nat) : Int) < ((z : Nat) : Int) then ((vals.length : Nat) : Int) - ((((vals.take (i * z)).map V.int).length : Nat) : Int) else ((z : Nat) : Int)) = ((min z (vals.length - i * z) : Nat) : Int) := by
        rw [List.length_map, hlen]
        by_cases h1 : vals.length - i * z < z
        · rw [if_pos (by omega), Nat.min_eq_right (by omega)]
          omega
        · rw [if_neg (by omega), Nat.min_eq_left (by omega)]
      rw [emin]
      have eat : atI ((seqI st kk).map V.int) ((0 : Int) + ((i : Nat) : Int)) = some (.int ((st + i : Nat) : Int)) := at_of (Int.zero_add _) (get_map (seqI_get hi))
      refine ⟨_, rfl, _, rfl, bl, _, rfl, .inl (SqL.of hB1), _, _, rfl, rfl, _, rfl, ?_⟩
      refine iteTd (decide_eq_true (by rw [List.length_map, seqI_len]; omega)) ⟨_, rfl, _, rfl, bl, _, _, _, rfl, rfl, SqL.of hB1, eat, rfl, _, rfl, ?_⟩
      refine iteT ?_
      refine ⟨_, rfl, p, ddx, _, rfl, hp1, dfl_no _ _ (by decide +kernel) (by decide +kernel), _, rfl, _, rfl, bl, _, _, _, rfl, rfl, SqL.of hB1, eat, p, _, rows, st + i, r, rfl, D.same s1, hrow, fun H2 q s2 hq hL => ?_⟩
      refine ⟨_, rfl, rfl, _, rfl, iteF ?_⟩
      refine ⟨_, rfl, .inl ⟨rfl, _, SqL.of (s2 _ _ hVa)⟩, _, rfl, _, rfl, _, rfl, q, _, rfl, SqL.of hL, fun p5 hp5 => ?_⟩
      have ec : cutV (r.map V.int) none (some ((min z (vals.length - i * z) : Nat) : Int)) = ((vals.drop (i * z)).take z).map V.int := by
        rw [cutV_0n, ← List.map_take, hdat]
      rw [ec]
      have s5 := same_up (o := HO.lst (((vals.drop (i * z)).take z).map V.int)) s2 (Same.free s2 hp5)
      refine ⟨va, p5, _, _, rfl, rfl, s5 _ _ hVa, upd_same, le_line (by
        rw [List.length_map, List.length_map, List.length_take, List.length_take, List.length_drop]
        omega), ?_⟩
      refine ⟨_, _, _, rfl, same_up (s1.trans s5) hva, ?_, (upd_ne nvr.symm).trans (s5 _ _ hRu)⟩
      show upd _ va _ va = _
      rw [upd_same, ← List.map_append, Nat.succ_mul, List.take_add]
    · rintro σ H' ⟨o5, o6, o7, rfl, s1, hVa, hRu⟩
      rw [List.take_of_length_le hcov] at hVa
      refine ⟨_, rfl, _, rfl, ru, rfl, hRu, fun H2 q s2 hq hq2 => ⟨(by show 2 ≤ sizeLine; decide), fun q5 hq5 => ?_⟩⟩
      have s3 := same_up (o := HO.tup [.ref va, .ref q]) s2 (Same.free s2 hq5)
      exact k _ q5 va q (s1.trans s3) upd_same (s3 _ _ hVa) (up_of hq2 hq5)
end
end Dw
/-! K14: the readers of a disc. -/
namespace Dw
open PySem PySem.Spec PyProof.Rows L2
def entE (z s : Nat) (f : Fl) : Ent := ⟨f.1, ((stM s (nbF z f) : Nat) : Int), ((f.2.length : Nat) : Int), crcM f.2⟩
def entsE (z : Nat) : Nat → List Fl → List Ent
  | _, [] => []
  | s, f :: r => entE z s f :: entsE z (s + nbF z f) r
theorem entE_bytes (z s : Nat) (f : Fl) : (entE z s f).bytes = entM z s f := rfl
theorem entsE_len (z : Nat) : ∀ (fs : List Fl) (s : Nat), (entsE z s fs).length = fs.length
  | [], s => rfl
  | f :: r, s => by rw [entsE, List.length_cons, List.length_cons, entsE_len z r]
theorem usedM_cons (z : Nat) (f : Fl) (r : List Fl) : usedM z (f :: r) = nbF z f + usedM z r := by simp [usedM]
theorem entsE_get (z : Nat) : ∀ (fs : List Fl) (s i : Nat) (f : Fl), fs[i]? = some f → (entsE z s fs)[i]? = some (entE z (s + usedM z (fs.take i)) f)
  | [], s, i, f, h => by simp at h
  | g :: r, s, 0, f, h => by
    have e : g = f := Option.some.inj h
    subst e
    rfl
  | g :: r, s, i + 1, f, h => by
    rw [entsE, List.getElem?_cons_succ, entsE_get z r (s + nbF z g) i f h, List.take_succ_cons, usedM_cons, Nat.add_assoc]
theorem entsE_at (z : Nat) {fs : List Fl} {s i : Nat} {e : Ent} (h : (entsE z s fs)[i]? = some e) : ∃ f, fs[i]? = some f ∧ e = entE z (s + usedM z (fs.take i)) f := by
  have hl := get_lt h
  rw [entsE_len] at hl
  have hf := List.getElem?_eq_getElem hl
  refine ⟨_, hf, ?_⟩
  have := entsE_get z fs s i _ hf
  rw [h] at this
  exact Option.some.inj this
theorem entsE_nm (z : Nat) : ∀ (fs : List Fl) (s : Nat), (entsE z s fs).map Ent.nm = fs.map (·.1)
  | [], s => rfl
  | f :: r, s => by
    rw [entsE, List.map_cons, List.map_cons, entsE_nm z r]
    rfl
/-- all that a disc keeps -/
structure Good (z m t : Nat) (rows : List (List Int)) (fs : List Fl) (tab : Nat → Int) : Prop where
  head : HeadOk z t rows
  dir : DirOk z m t rows (entsE z (ft t) fs)
  tabk : TabOk z t rows tab
  files : FilesOk fs
  chain : ∀ i f, fs[i]? = some f → ChOk t rows.length tab (stM (ft t + usedM z (fs.take i)) (nbF z f)) (nbF z f) ∧ DatOk z rows (stM (ft t + usedM z (fs.take i)) (nbF z f)) f.2
  copy : ∀ k, k < t → ∃ r, rows[1 + k]? = some r ∧ rows[1 + t + k]? = some r
  tabF : ∀ i, i < ft t → tab i = 65535
  tabZ : ∀ i, ft t + usedM z fs ≤ i → i < rows.length → tab i = 0
  tail : ∃ r, rows[t]? = some r ∧ (r.drop (z - (t * z - 2 * rows.length))).sum = 0
  tz : 2 * rows.length ≤ t * z ∧ t * z ≤ 2 * rows.length + z
/-- a whole reading -/
def sp_read_chain (K : PySem.W.Frag) : Sp := fun vs H Q _ => ∃ (p : Addr) (z m t i : Nat) (rows : List (List Int)) (fs : List Fl) (tab : Nat → Int) (f : Fl), vs = [.ref p, .str f.1] ∧ DiscAt K H p (z : Nat) rows ∧ Good z m t rows fs tab ∧ fs[i]? = some f ∧
  ∀ H' q va ru, Same H H' → H' q = some (.tup [.ref va, .ref ru, .str "", .bl true]) → OI H' va f.2 → H' ru = some (.lst []) → Q (.ref q) H'
def sp_chain_files (K : PySem.W.Frag) : Sp := fun vs H Q _ => ∃ (p : Addr) (z m t : Nat) (rows : List (List Int)) (fs : List Fl) (tab : Nat → Int), vs = [.ref p] ∧ DiscAt K H p (z : Nat) rows ∧ Good z m t rows fs tab ∧
  ∀ H' q, Same H H' → H' q = some (.lst (fs.map fun f => V.str f.1)) → Q (.ref q) H'
def sp_directory_faults (K : PySem.W.Frag) : Sp := fun vs H Q _ => ∃ (p : Addr) (z m t : Nat) (rows : List (List Int)) (fs : List Fl) (tab : Nat → Int), vs = [.ref p] ∧ DiscAt K H p (z : Nat) rows ∧ Good z m t rows fs tab ∧
  ∀ H' q mi ba, Same H H' → H' q = some (.tup [.ref mi, .ref ba]) → H' mi = some (.lst []) → H' ba = some (.lst []) → Q (.ref q) H'
/-- blocks in use, as a dict -/
def UsedAt (H : Hp) (us : Addr) (F k : Nat) : Prop := ∃ kvs : List (Key × V), H us = some (.dK kvs) ∧ kvs.map (·.1) = (List.range k).map fun j => Sum.inl ((F + j : Nat) : Int)
def sp_is_table_sound (K : PySem.W.Frag) : Sp := fun vs H Q _ => ∃ (v us : Addr) (z m t : Nat) (rows : List (List Int)) (fs : List Fl) (tab : Nat → Int), vs = [.ref v, .ref us] ∧ VolAt K H v z t rows ∧ Good z m t rows fs tab ∧ UsedAt H us (ft t) (usedM z fs) ∧ ∀ H', Same H H' → Q (.bl true) H'
def sp_is_sound (K : PySem.W.Frag) : Sp := fun vs H Q _ => ∃ (p : Addr) (z m t : Nat) (rows : List (List Int)) (fs : List Fl) (tab : Nat → Int), vs = [.ref p] ∧ DiscAt K H p (z : Nat) rows ∧ Good z m t rows fs tab ∧ ∀ H', Same H H' → Q (.bl true) H'
theorem used_in {H : Hp} {us : Addr} {F k : Nat} {kvs : List (Key × V)} (hk : kvs.map (·.1) = (List.range k).map fun j => Sum.inl ((F + j : Nat) : Int)) {i : Nat} (h1 : F ≤ i) (h2 : i < F + k) : ∃ x, valV kvs (Sum.inl ((i : Nat) : Int) : Key) = some x := by
  cases e : valV kvs (Sum.inl ((i : Nat) : Int) : Key) with
  | some x => exact ⟨x, rfl⟩
  | none =>
    have h := valV_not e
    rw [hk] at h
    exact absurd (List.mem_map.mpr ⟨i - F, List.mem_range.mpr (by omega), by rw [show F + (i - F) = i by omega]⟩) h
theorem used_out {F k : Nat} {kvs : List (Key × V)} (hk : kvs.map (·.1) = (List.range k).map fun j => Sum.inl ((F + j : Nat) : Int)) {i : Nat} (h : i < F ∨ F + k ≤ i) : valV kvs (Sum.inl ((i : Nat) : Int) : Key) = none := by
  cases e : valV kvs (Sum.inl ((i : Nat) : Int) : Key) with
  | none => rfl
  | some x =>
    have hin := valV_in e
    rw [hk] at hin
    obtain ⟨j, hj, q⟩ := List.mem_map.mp hin
    have := List.mem_range.mp hj
    have := Sum.inl.inj q
    omega
theorem disc_made {K : PySem.W.Frag} {H : Hp} {p x dx C : Addr} {z : Int} {rows : List (List Int)} (D : DiscAt K H p z rows) (hx : H x = none) (hd : H dx = none) : DiscAt K (upd (upd H dx (.own x)) x (.ins C dx [])) p z rows :=
  D.same fun b o e => by rw [upd_ne (ne_of_none e hx), upd_ne (ne_of_none e hd)]; exact e
section
variable {P : Program} {w : World} {K : PySem.W.Frag} {mg : Str → Option Value} {base : Heap}
theorem sc_directory_faults : FnScope ["disc", "entries", "missing", "bad"] ["disc"] (C8.fnScope s_directory_faults) := C8.fnScope_by (by decide +kernel)
theorem ok_directory_faults (T : Txt K mg) : C8.Cal P w K mg base 5 "directory_faults" (sp_directory_faults K) [] := by
  obtain ⟨f, fd, F, b⟩ := T.D_directory_faults
  have cV : C8.Mak P w K mg base 3 "Volume" (voC K) (sp_vol_init K) [] := ok_vol_init T
  have cS : C8.Met P w K mg base 4 (voC K) "scan" (sp_scan K) [] := ok_scan T
  refine C8.cal0 F b .nil sc_directory_faults (fun vs H Q E h => ?_) (fun cdv A outer s H vs Q E hr h => ?_)
  · obtain ⟨p, z, m, t, rows, fs, tab, rfl, _⟩ := h
    rfl
  · obtain ⟨p, z, m, t, rows, fs, tab, rfl, D, G, k⟩ := h
    refine ⟨_, pss_cons (ps_asg (C8.pe_mt0 cS hr (by decide) (C8.pe_mk cV hr (by decide) (by rfl) (pa_cons (pv 0) pa_nil))) (pg_tup rfl (pgs_cons (pg_name (i := 1) sc_directory_faults.nd rfl (Or.inl rfl)) (pgs_cons (pg_name (i := 2) sc_directory_faults.nd rfl (Or.inl rfl)) (pgs_cons (pg_name (i := 3) sc_directory_faults.nd rfl (Or.inl rfl)) pgs_nil)))))
      (pss_one (ps_ret (pe_tup (pa_cons (pv 2) (pa_cons (pv 3) pa_nil))))), ?_⟩
    refine ⟨_, rfl, ?_⟩
    intro x dx hx hdx hne
    refine ⟨x, dx, p, z, t, rows, rfl, upd_same, disc_made D hx hdx, G.head, fun H1 kp hV => ⟨rfl, ?_⟩⟩
    have s1 : Same H H1 := Same.made hx hdx kp
    obtain ⟨dx1, p1, hv1, _⟩ := hV.ex
    refine ⟨x, dx1, _, rfl, hv1, vfl_no _ _ _ _ (by decide +kernel) (by decide +kernel) (by decide +kernel) (by decide +kernel), x, z, m, t, rows, _, rfl, hV, G.head.most, G.head.fit, G.dir, fun H2 q en mi ba as s2 hq hen hEn hmi hba => ?_⟩
    refine ⟨q, _, rfl, SqT.of hq, rfl, _, _, rfl, _, _, rfl, _, _, rfl, rfl, ?_⟩
    refine ⟨_, rfl, _, rfl, (by show 2 ≤ sizeLine; decide), fun q5 hq5 => ?_⟩
    have s3 := same_up (o := HO.tup [.ref mi, .ref ba]) s2 (Same.free s2 hq5)
    exact k _ q5 mi ba (s1.trans s3) upd_same (up_of hmi hq5) (up_of hba hq5)
theorem sc_chain_files : FnScope ["disc", "entry"] ["disc"] (C8.fnScope s_chain_files) := C8.fnScope_by (by decide +kernel)
theorem ok_chain_files (T : Txt K mg) : C8.Cal P w K mg base 5 "chain_files" (sp_chain_files K) [] := by
  obtain ⟨f, fd, F, b⟩ := T.D_chain_files
  have cV : C8.Mak P w K mg base 3 "Volume" (voC K) (sp_vol_init K) [] := ok_vol_init T
  have cS : C8.Met P w K mg base 4 (voC K) "scan" (sp_scan K) [] := ok_scan T
  refine C8.cal0 F b .nil sc_chain_files (fun vs H Q E h => ?_) (fun cdv A outer s H vs Q E hr h => ?_)
  · obtain ⟨p, z, m, t, rows, fs, tab, rfl, _⟩ := h
    rfl
  · obtain ⟨p, z, m, t, rows, fs, tab, rfl, D, G, k⟩ := h
    refine ⟨_, pss_one (ps_ret (pe_lc (own := [("entry", 1)]) (g := gName 1) (tt := tYes) (te := tOp (rIxT K) (tVar 1) (tC (.int 0))) rfl sc_chain_files.nd (pi_list (pe_ix ix_tup (C8.pe_mt0 cS hr (by decide) (C8.pe_mk cV hr (by decide) (by rfl) (pa_cons (pv 0) pa_nil))) pe_int (fun _ _ => rfl)))
        (blkOk_by (own := [("entry", 1)]) (N := ["disc", "entry"]) (sc := C8.fnScope s_chain_files) (by decide +kernel))
        (fun _ _ _ _ _ => pg_name (i := 1) sc_chain_files.nd rfl (Or.inl rfl)) (fun _ _ _ _ _ => pts_nil) (fun _ _ _ _ _ => pe_ix ix_tup (pv 1) pe_int (fun _ _ => rfl)))), ?_⟩
    refine ⟨_, rfl, ?_⟩
    intro x dx hx hdx hne
    refine ⟨x, dx, p, z, t, rows, rfl, upd_same, disc_made D hx hdx, G.head, fun H1 kp hV => ⟨rfl, ?_⟩⟩
    have s1 : Same H H1 := Same.made hx hdx kp
    obtain ⟨dx1, p1, hv1, _⟩ := hV.ex
    refine ⟨x, dx1, _, rfl, hv1, vfl_no _ _ _ _ (by decide +kernel) (by decide +kernel) (by decide +kernel) (by decide +kernel), x, z, m, t, rows, _, rfl, hV, G.head.most, G.head.fit, G.dir, fun H2 q en mi ba as s2 hq hen hEn hmi hba => ?_⟩
    have hat : atI [V.ref en, V.ref mi, V.ref ba] (0 : Int) = some (.ref en) := atI_nat (j := 0) rfl
    have hal : as.length = fs.length := by rw [hEn.1, entsE_len]
    have hmany := G.files.many
    refine ⟨q, _, _, _, rfl, rfl, SqT.of hq, hat, en, rfl, ⟨_, SqL.of hen⟩, fun Dn hD => lc_list (K := K) (a := en) (xs := as.map V.ref) (fun i H' => Same H2 H' ∧ H' Dn = some (.lst ((fs.take i).map fun f => V.str f.1))) ⟨same_up (Same.refl _) hD, upd_same⟩ (fun i H' _ q => SqL.of (q.1 _ _ hen)) ?_ ?_⟩
    · rintro i y H3 hy ⟨s3, hL⟩
      obtain ⟨u, hu, rfl⟩ := map_get hy
      obtain ⟨e, he, htup⟩ := hEn.at hu
      obtain ⟨g, hg, rfl⟩ := entsE_at z he
      have hi := get_lt hg
      have hat2 : atI (entE z (ft t + usedM z (fs.take i)) g).vs (0 : Int) = some (.str g.1) := atI_nat (j := 0) rfl
      refine ⟨rfl, lcT (iteT ⟨_, rfl, u, _, _, _, rfl, rfl, SqT.of (s3 _ _ htup), hat2, _, hL, ?_, same_up s3 hD, ?_⟩)⟩
      · rw [List.length_map, List.length_take]
        exact lt_line (by omega)
      · rw [upd_same, take_snoc hg, List.map_append]
        rfl
    · rintro H3 ⟨s3, hL⟩
      rw [List.take_of_length_le (by rw [List.length_map]; omega)] at hL
      exact k _ Dn (s1.trans (s2.trans s3)) hL
abbrev nmRC : List Str := ["disc", "name", "volume", "other", "first", "length", "check", "blocks", "reason", "values", "runs"]
theorem sc_read_chain : FnScope nmRC ["disc", "name"] (C8.fnScope s_read_chain) := C8.fnScope_by (by decide +kernel)
theorem ok_read_chain (T : Txt K mg) : C8.Cal P w K mg base 5 "read_chain" (sp_read_chain K) [] := by
  obtain ⟨f, fd, F, b⟩ := T.D_read_chain
  have cV : C8.Mak P w K mg base 3 "Volume" (voC K) (sp_vol_init K) [] := ok_vol_init T
  have cS : C8.Met P w K mg base 4 (voC K) "scan" (sp_scan K) [] := ok_scan T
  have cF : C8.Met P w K mg base 4 (voC K) "follow" (sp_follow K) [] := ok_follow T
  have cG : C8.Cal P w K mg base 2 "gathered" (sp_gathered K) [] := ok_gathered T
  have cC : C8.Cal P w K mg base 3 "crc" (sp_crc K) [] := ok_crc T
  refine C8.cal0 F b .nil sc_read_chain (fun vs H Q E h => ?_) (fun cdv A outer s H vs Q E hr h => ?_)
  · obtain ⟨p, z, m, t, i, rows, fs, tab, f, rfl, _⟩ := h
    rfl
  · obtain ⟨p, z, m, t, i0, rows, fs, tab, f0, rfl, D, G, hf0, k⟩ := h
    refine ⟨_, pss_cons (ps_set (i := 2) sc_read_chain.nd rfl (Or.inl rfl) (C8.pe_mk cV hr (by decide) (by rfl) (pa_cons (pv 0) pa_nil)))
      (pss_cons (ps_for PassesOwn.never rfl (pi_list (pe_ix ix_tup (C8.pe_mt0 cS hr (by decide) (pv 2)) pe_int (fun _ _ => rfl)))
          (pg_tup rfl (pgs_cons (pg_name (i := 3) sc_read_chain.nd rfl (Or.inl rfl)) (pgs_cons (pg_name (i := 4) sc_read_chain.nd rfl (Or.inl rfl)) (pgs_cons (pg_name (i := 5) sc_read_chain.nd rfl (Or.inl rfl)) (pgs_cons (pg_name (i := 6) sc_read_chain.nd rfl (Or.inl rfl)) pgs_nil)))))
        (pss_one (ps_if (pt_cmpR op_eq (pv 3) (pv 1) (nomark _))
          (pss_cons (ps_asg (C8.pe_mt cF hr (by decide) (pv 2) (pa_cons (pv 4) (pa_cons (pv 5) pa_nil))) (pg_tup rfl (pgs_cons (pg_name (i := 7) sc_read_chain.nd rfl (Or.inl rfl)) (pgs_cons (pg_name (i := 8) sc_read_chain.nd rfl (Or.inl rfl)) pgs_nil))))
          (pss_cons (ps_asg (C8.pe_c cG hr (by decide) (by rfl) (pa_cons (pv 0) (pa_cons (pv 7) (pa_cons (pv 5) pa_nil)))) (pg_tup rfl (pgs_cons (pg_name (i := 9) sc_read_chain.nd rfl (Or.inl rfl)) (pgs_cons (pg_name (i := 10) sc_read_chain.nd rfl (Or.inl rfl)) pgs_nil))))
          (pss_one (ps_ret (pe_tup (pa_cons (pv 9) (pa_cons (pv 10) (pa_cons (pv 8) (pa_cons
            (pe_and (pe_cmpR op_eq (pe_callB call_len_seq (by rfl) T.f_len PySem.boot_len (pa_cons (pv 10) pa_nil)) pe_int (nomark _)) (pe_and (pe_cmpR op_eq (pv 8) pe_str (nomark _)) (pe_one (pe_cmpR op_eq (C8.pe_c cC hr (by decide) (by rfl) (pa_cons (pv 9) pa_nil)) (pv 6) (nomark _))))) pa_nil))))))))) pss_nil)))
      pss_never), ?_⟩
    have hmany := G.files.many
    have hi0 := get_lt hf0
    refine ⟨_, rfl, ?_⟩
    intro x dx hx hdx hne
    refine ⟨x, dx, p, z, t, rows, rfl, upd_same, disc_made D hx hdx, G.head, fun H1 kp hV => ⟨rfl, ?_⟩⟩
    have s1 : Same H H1 := Same.made hx hdx kp
    obtain ⟨dx1, p1, hv1, _⟩ := hV.ex
    refine ⟨_, rfl, x, dx1, _, rfl, hv1, vfl_no _ _ _ _ (by decide +kernel) (by decide +kernel) (by decide +kernel) (by decide +kernel), x, z, m, t, rows, _, rfl, hV, G.head.most, G.head.fit, G.dir, fun H2 q en mi ba as s2 hq hen hEn hmi hba => ?_⟩
    have hat : atI [V.ref en, V.ref mi, V.ref ba] (0 : Int) = some (.ref en) := atI_nat (j := 0) rfl
    have hal : as.length = fs.length := by rw [hEn.1, entsE_len]
    have D2 := D.same (s1.trans s2)
    have hV2 := hV.same s2
    refine ⟨q, _, _, _, rfl, rfl, SqT.of hq, hat, en, rfl, ⟨_, SqL.of hen⟩, for_list (K := K) (a := en) (xs := as.map V.ref) (fun j σ H' => j ≤ i0 ∧ ∃ o3 o4 o5 o6 : Option V, σ = [some (.ref p), some (.str f0.1), some (.ref x), o3, o4, o5, o6, none, none, none, none] ∧ H' = H2)
      ⟨Nat.zero_le _, none, none, none, none, rfl, rfl⟩ (fun j σ H' _ ⟨_, _, _, _, _, _, e⟩ => by rw [e]; exact SqL.of hen) ?_ ?_⟩
    · rintro j y σ H' hy ⟨hj, o3, o4, o5, o6, rfl, rfl⟩
      obtain ⟨u, hu, rfl⟩ := map_get hy
      obtain ⟨e, he, htup⟩ := hEn.at hu
      obtain ⟨g, hg, rfl⟩ := entsE_at z he
      refine ⟨u, _, rfl, SqT.of htup, rfl, _, _, rfl, _, _, rfl, _, _, rfl, _, _, rfl, rfl, ?_⟩
      refine ⟨_, rfl, _, rfl, rfl, _, rfl, ?_⟩
      by_cases hji : j = i0
      · subst hji
        have hgf : g = f0 := Option.some.inj (hg.symm.trans hf0)
        subst hgf
        refine iteTd (decide_eq_true rfl) ?_
        obtain ⟨hCh, hDa⟩ := G.chain j g hg
        have hgl := G.files.len g (get_mem hg)
        obtain ⟨dx2, p2, hv2, _⟩ := hV2.ex
        generalize hst : stM (ft t + usedM z (fs.take j)) (nbF z g) = st at hCh hDa
        refine ⟨_, rfl, x, dx2, _, rfl, hv2, vfl_no _ _ _ _ (by decide +kernel) (by decide +kernel) (by decide +kernel) (by decide +kernel), _, rfl, _, rfl, x, z, t, st, g.2.length, rows, tab, ?_, hV2, ⟨G.head.z0, G.head.z1⟩, G.head.most, G.tabk, hCh, by omega, fun H3 q3 fo s3 hq3 hfo => ?_⟩
        · rw [← hst]
          rfl
        · refine ⟨q3, _, rfl, SqT.of hq3, rfl, _, _, rfl, _, _, rfl, rfl, ?_⟩
          refine ⟨_, rfl, _, rfl, _, rfl, p, fo, z, st, rows, g.2, rfl, D2.same s3, ⟨G.head.z0, G.head.z1⟩, G.head.most, by omega, hfo, hDa, fun H4 q4 va ru s4 hq4 hva hru => ?_⟩
          refine ⟨q4, _, rfl, SqT.of hq4, rfl, _, _, rfl, _, _, rfl, rfl, ?_⟩
          refine ⟨_, rfl, _, rfl, _, rfl, _, rfl, ru, _, rfl, .inl (SqL.of hru), rfl, _, rfl, ?_⟩
          refine iteTd (decide_eq_true rfl) ⟨_, rfl, rfl, _, rfl, ?_⟩
          refine iteTd (decide_eq_true rfl) ⟨_, rfl, va, g.2, rfl, SqL.of hva, fun H5 s5 => ⟨_, rfl, rfl, (by show 4 ≤ sizeLine; decide), fun q6 hq6 => ?_⟩⟩
          have ed : decide (V.int (crcM g.2) = V.int (crcM g.2)) = true := decide_eq_true rfl
          have s6 := same_up (o := HO.tup [.ref va, .ref ru, .str "", .bl true]) s5 (Same.free s5 hq6)
          show Q (.ref q6) (upd H5 q6 (.tup [.ref va, .ref ru, .str "", .bl (decide (V.int (crcM g.2) = V.int (crcM g.2)))]))
          rw [ed]
          exact k _ q6 va ru (s1.trans (s2.trans (s3.trans (s4.trans s6)))) upd_same (s6 _ _ hva) (s6 _ _ hru)
      · have hgn : g.1 ≠ f0.1 := by
          intro e
          have w1 : (fs.map (·.1))[j]? = some f0.1 := by
            rw [← e]
            exact get_map hg
          have w2 : (fs.map (·.1))[i0]? = some f0.1 := get_map hf0
          exact hji (nd_ix G.files.nd w1 w2)
        refine iteFd (decide_eq_false (fun q => hgn (V.str.inj q))) ⟨by omega, _, _, _, _, rfl, rfl⟩
    · rintro σ H' ⟨hj, _⟩
      rw [List.length_map] at hj
      exact absurd hj (by omega)
end
end Dw
/-! K15: is_table_sound, is_sound. -/
namespace Dw
open PySem PySem.Spec PyProof.Rows L2
section
variable {P : Program} {w : World} {K : PySem.W.Frag} {mg : Str → Option Value} {base : Heap}
abbrev nmTS : List Str := ["volume", "used", "disc", "number", "index", "last", "spare"]
theorem sc_is_table_sound : FnScope nmTS ["volume", "used"] (C8.fnScope s_is_table_sound) := C8.fnScope_by (by decide +kernel)
theorem ok_is_table_sound (T : Txt K mg) : C8.Cal P w K mg base 4 "is_table_sound" (sp_is_table_sound K) [] := by
  obtain ⟨f, fd, F, b⟩ := T.D_is_table_sound
  have cB : C8.Met P w K mg base 1 (bdC K) "block" (sp_bd_block K) [] := ok_bd_block T
  have cE : C8.Met P w K mg base 3 (voC K) "table_entry" (sp_table_entry K) [] := ok_table_entry T
  have cL : C8.Met P w K mg base 1 (bdC K) "__len__" (sp_bd_len K) [] := ok_bd_len T
  refine C8.cal0 F b .nil sc_is_table_sound (fun vs H Q E h => ?_) (fun cdv A outer s H vs Q E hr h => ?_)
  · obtain ⟨v, us, z, m, t, rows, fs, tab, rfl, _⟩ := h
    rfl
  · obtain ⟨v, us, z, m, t, rows, fs, tab, rfl, hV, G, hU, k⟩ := h
    have hu := hu_of hr
    refine ⟨_, pss_cons (ps_set (i := 2) sc_is_table_sound.nd rfl (Or.inl rfl) (pe_fld (pv 0) rfl))
      (pss_cons (ps_for PassesOwn.never rfl (pi_range1 (by rfl) T.f_range (pa_cons (pe_fld (pv 0) rfl) pa_nil)) (pg_name (i := 3) sc_is_table_sound.nd rfl (Or.inl rfl))
        (pss_one (ps_if (pt_cmpR (op_neD hr.units) (C8.pe_mt cB hr (by decide) (pv 2) (pa_cons (pe_op op_add pe_int (pv 3)) pa_nil)) (C8.pe_mt cB hr (by decide) (pv 2) (pa_cons (pe_op op_add (pe_op op_add pe_int (pe_fld (pv 0) rfl)) (pv 3)) pa_nil)) (nomark _)) pss_never pss_nil)))
      (pss_cons (ps_for PassesOwn.never rfl (pi_range1 (by rfl) T.f_range (pa_cons (pe_callB (call_lenO cL hr (by decide)) (by rfl) T.f_len PySem.boot_len (pa_cons (pv 2) pa_nil)) pa_nil)) (pg_name (i := 4) sc_is_table_sound.nd rfl (Or.inl rfl))
        (C8.pss_cut (ps_if (PW.pt (pw_and (pt_cmpR op_lt (pv 4) (pe_fld (pv 0) rfl) (nomark _)) (pw_and1 (pt_cmpR op_ne (C8.pe_mt cE hr (by decide) (pv 0) (pa_cons (pv 4) pa_nil)) (C8.pe_gc (by rfl) T.i_NO_DATA) (nomark _))))) pss_never pss_nil)
        (pss_one (ps_if (PW.pt (pw_and (pt_cmpR op_ge (pv 4) (pe_fld (pv 0) rfl) (nomark _)) (pw_and (pt_cmp (pc_dnotin hu (pv 4) (pv 1))) (pw_and1 (pt_cmpR op_ne (C8.pe_mt cE hr (by decide) (pv 0) (pa_cons (pv 4) pa_nil)) pe_int (nomark _)))))) pss_never pss_nil))))
      (pss_cons (ps_set (i := 5) sc_is_table_sound.nd rfl (Or.inl rfl) (C8.pe_mt cB hr (by decide) (pv 2) (pa_cons (pe_fld (pv 0) rfl) pa_nil)))
      (pss_cons (ps_set (i := 6) sc_is_table_sound.nd rfl (Or.inl rfl) (pe_op op_sub (pe_op op_mul (pe_fld (pv 0) rfl) (pe_fld (pv 2) rfl)) (pe_op op_mul pe_int (pe_callB (call_lenO cL hr (by decide)) (by rfl) T.f_len PySem.boot_len (pa_cons (pv 2) pa_nil)))))
      (pss_one (ps_ret (pe_cmpR op_eq (pe_callB (cr_sum rfl) (by rfl) T.f_sum (by decide +kernel) (pa_cons (pe_slice sl_list (pv 5) (po_some (pe_op op_sub (pe_fld (pv 2) rfl) (pv 6))) po_none) pa_nil)) pe_int (nomark _)))))))), ?_⟩
    obtain ⟨dx, p, hv, D⟩ := hV.ex
    obtain ⟨ddx, dr, das, hp, _, _⟩ := D.ex
    obtain ⟨kvs, hus, hk⟩ := hU
    have hmost := G.head.most
    have hz0 := G.head.z0
    have hz1 := G.head.z1
    have hfit := G.head.fit
    have hft : ft t = 1 + 2 * t + 4 := rfl
    refine ⟨_, rfl, v, _, dx, _, _, rfl, hv, T.c_Volume, T.n_disc, vfl_disc _ _ _ _, ?_⟩
    refine ⟨_, rfl, v, _, dx, _, _, rfl, hv, T.c_Volume, T.n_tables, vfl_tables _ _ _ _, _, rfl, by omega, by omega, ?_⟩
    rw [Int.toNat_natCast]
    refine for_range (lo := 0) (n := t) (fun i σ H' => ∃ o3 : Option V, σ = [some (.ref v), some (.ref us), some (.ref p), o3, none, none, none] ∧ Same H H') ⟨none, rfl, Same.refl _⟩ ?_ ?_
    · rintro i σ H' hi ⟨o3, rfl, s1⟩
      obtain ⟨r, hr1, hr2⟩ := G.copy i hi
      have D1 := D.same s1
      have hp1 := s1 _ _ hp
      refine ⟨_, rfl, p, ddx, _, rfl, hp1, dfl_no _ _ (by decide +kernel) (by decide +kernel), _, rfl, _, _, rfl, rfl, p, _, rows, 1 + i, r, ?_, D1, hr1, fun H2 q2 s2 hq2 hL2 => ?_⟩
      · show [V.ref p, V.int ((1 : Int) + (0 + ((i : Nat) : Int)))] = _
        rw [show (1 : Int) + (0 + ((i : Nat) : Int)) = ((1 + i : Nat) : Int) by omega]
      · have hp2 := s2 _ _ hp1
        refine ⟨_, rfl, p, ddx, _, rfl, hp2, dfl_no _ _ (by decide +kernel) (by decide +kernel), _, rfl, v, _, dx, _, _, rfl, s2 _ _ (s1 _ _ hv), T.c_Volume, T.n_tables, vfl_tables _ _ _ _, _, _, rfl, rfl, _, rfl, _, _, rfl, rfl, p, _, rows, 1 + t + i, r, ?_, D1.same s2, hr2, fun H3 q3 s3 hq3 hL3 => ?_⟩
        · show [V.ref p, V.int ((1 : Int) + ((t : Nat) : Int) + (0 + ((i : Nat) : Int)))] = _
          rw [show (1 : Int) + ((t : Nat) : Int) + (0 + ((i : Nat) : Int)) = ((1 + t + i : Nat) : Int) by omega]
        · refine ⟨_, _, dp_list (SqL.of (s3 _ _ hL2)), dp_list (SqL.of hL3), sh_ints _, sh_ints _, _, rfl, ?_⟩
          exact iteFd (by rw [eqv_ints]; rfl) ⟨_, rfl, s1.trans (s2.trans s3)⟩
    rintro σ H1 ⟨o3, rfl, s1⟩
    have hp1 := s1 _ _ hp
    refine ⟨_, rfl, p, ddx, _, rfl, hp1, p, _, rows, rfl, D.same s1, _, rfl, ⟨by omega, by omega⟩, _, rfl, by omega, by omega, ?_⟩
    rw [Int.toNat_natCast]
    refine for_range (lo := 0) (n := rows.length) (fun i σ H' => ∃ o4 : Option V, σ = [some (.ref v), some (.ref us), some (.ref p), o3, o4, none, none] ∧ Same H1 H') ⟨none, rfl, Same.refl _⟩ ?_ ?_
    · rintro i σ H' hi ⟨o4, rfl, s2⟩
      have s12 := s1.trans s2
      rw [Int.zero_add]
      refine ⟨fun σ H' => σ = [some (.ref v), some (.ref us), some (.ref p), o3, some (.int (i : Nat)), none, none] ∧ Same H1 H', ?_, ?_⟩
      · -- ahead of the data blocks
        refine ⟨_, rfl, _, rfl, v, _, dx, _, _, rfl, s12 _ _ hv, T.c_Volume, T.n_first, vfl_first _ _ _ _, _, _, rfl, rfl, _, rfl, ?_⟩
        by_cases hlt : i < ft t
        · refine iteTd (decide_eq_true (by omega)) ⟨_, rfl, v, dx, _, rfl, s12 _ _ hv, vfl_no _ _ _ _ (by decide +kernel) (by decide +kernel) (by decide +kernel) (by decide +kernel), _, rfl, v, z, t, i, rows, tab, rfl, hV.same s12, ⟨hz0, hz1⟩, G.tabk, hi, fun H3 s3 => ?_⟩
          refine ⟨rfl, _, rfl, ?_⟩
          exact iteFd (by rw [G.tabF i hlt, decide_eq_true rfl]; rfl) ⟨rfl, s2.trans s3⟩
        · refine iteFd (decide_eq_false (by omega)) ?_
          exact iteFd rfl ⟨rfl, s2⟩
      · rintro σ H2 ⟨rfl, s2'⟩
        have s12' := s1.trans s2'
        refine ⟨_, rfl, _, rfl, v, _, dx, _, _, rfl, s12' _ _ hv, T.c_Volume, T.n_first, vfl_first _ _ _ _, _, _, rfl, rfl, _, rfl, ?_⟩
        by_cases hlt : i < ft t
        · refine iteFd (decide_eq_false (by omega)) ?_
          exact iteFd rfl ⟨_, rfl, s2'⟩
        · refine iteTd (decide_eq_true (by omega)) ⟨_, rfl, _, rfl, us, _, rfl, DGet.k (k := Sum.inl ((i : Nat) : Int)) (s12' _ _ hus), _, rfl, ?_⟩
          by_cases hin : i < ft t + usedM z fs
          · obtain ⟨x, hx⟩ := used_in (H := H2) (us := us) hk (i := i) (by omega) hin
            rw [hx]
            refine iteFd rfl ?_
            exact iteFd rfl ⟨_, rfl, s2'⟩
          · have hx := used_out hk (i := i) (.inr (by omega))
            rw [hx]
            refine iteTd rfl ⟨_, rfl, v, dx, _, rfl, s12' _ _ hv, vfl_no _ _ _ _ (by decide +kernel) (by decide +kernel) (by decide +kernel) (by decide +kernel), _, rfl, v, z, t, i, rows, tab, rfl, hV.same s12', ⟨hz0, hz1⟩, G.tabk, hi, fun H3 s3 => ?_⟩
            refine ⟨rfl, _, rfl, ?_⟩
            exact iteFd (by rw [G.tabZ i (by omega) hi, decide_eq_true rfl]; rfl) ⟨_, rfl, s2'.trans s3⟩
    · rintro σ H2 ⟨o4, rfl, s2⟩
      obtain ⟨r, hrow, hsum⟩ := G.tail
      obtain ⟨hz2, hz3⟩ := G.tz
      have s12 := s1.trans s2
      refine ⟨_, rfl, p, ddx, _, rfl, s12 _ _ hp, dfl_no _ _ (by decide +kernel) (by decide +kernel), _, rfl, v, _, dx, _, _, rfl, s12 _ _ hv, T.c_Volume, T.n_tables, vfl_tables _ _ _ _, p, _, rows, t, r, rfl, D.same s12, hrow, fun H3 q s3 hq hL => ?_⟩
      have s13 := s12.trans s3
      refine ⟨_, rfl, v, _, dx, _, _, rfl, s13 _ _ hv, T.c_Volume, T.n_tables, vfl_tables _ _ _ _, _, rfl, p, _, ddx, _, _, rfl, s13 _ _ hp, T.c_BlockDisc, T.n_size, dfl_size _ _, _, _, rfl, rfl, .inl ⟨by omega, by omega⟩, _, rfl, p, ddx, _, rfl, s13 _ _ hp, p, _, rows, rfl, D.same s13, _, rfl, ⟨by omega, by omega⟩, _, _, rfl, rfl, .inl ⟨by decide, by decide⟩, _, _, rfl, rfl, ?_⟩
      dsimp only
      have es : ((t : Nat) : Int) * ((z : Nat) : Int) - 2 * ((rows.length : Nat) : Int) = ((t * z - 2 * rows.length : Nat) : Int) := by
        rw [← Int.natCast_mul]
        omega
      rw [es]
      refine ⟨_, rfl, _, rfl, p, _, ddx, _, _, rfl, s13 _ _ hp, T.c_BlockDisc, T.n_size, dfl_size _ _, _, rfl, _, _, rfl, rfl, _, rfl, q, _, rfl, SqL.of hL, fun p5 hp5 => ?_⟩
      have e2 : ((z : Nat) : Int) - ((t * z - 2 * rows.length : Nat) : Int) = ((z - (t * z - 2 * rows.length) : Nat) : Int) := by omega
      rw [e2, cutV_n0, ← List.map_drop]
      refine ⟨p5, _, rfl, SqL.of upd_same, rfl, ?_⟩
      rw [hsum]
      have s5 := same_up (o := HO.lst ((r.drop (z - (t * z - 2 * rows.length))).map V.int)) s13 (Same.free s13 hp5)
      exact k _ s5
abbrev nmIS : List Str := ["disc", "volume", "entries", "missing", "bad", "used", "name", "first", "length", "check", "blocks", "reason", "block"]
theorem sc_is_sound : FnScope nmIS ["disc"] (C8.fnScope s_is_sound) := C8.fnScope_by (by decide +kernel)
theorem any_rep (n : Nat) : (List.replicate n false).any id = false := by
  induction n with
  | zero => rfl
  | succ n ih => rw [List.replicate_succ, List.any_cons, ih] <;> rfl
theorem ok_is_sound (T : Txt K mg) : C8.Cal P w K mg base 6 "is_sound" (sp_is_sound K) [] := by
  obtain ⟨f, fd, F, b⟩ := T.D_is_sound
  have cV : C8.Mak P w K mg base 3 "Volume" (voC K) (sp_vol_init K) [] := ok_vol_init T
  have cS : C8.Met P w K mg base 4 (voC K) "scan" (sp_scan K) [] := ok_scan T
  have cF : C8.Met P w K mg base 4 (voC K) "follow" (sp_follow K) [] := ok_follow T
  have cM : C8.Met P w K mg base 1 (bdC K) "missing" (sp_bd_missing K) [] := ok_bd_missing T
  have cR : C8.Cal P w K mg base 5 "read_chain" (sp_read_chain K) [] := ok_read_chain T
  have cTS : C8.Cal P w K mg base 4 "is_table_sound" (sp_is_table_sound K) [] := ok_is_table_sound T
  refine C8.cal0 F b .nil sc_is_sound (fun vs H Q E h => ?_) (fun cdv A outer s H vs Q E hr h => ?_)
  · obtain ⟨p, z, m, t, rows, fs, tab, rfl, _⟩ := h
    rfl
  · obtain ⟨p, z, m, t, rows, fs, tab, rfl, D, G, k⟩ := h
    have hu := hu_of hr
    refine ⟨_, pss_cons (ps_if (pt_cmpR op_gt (pe_callB call_len_seq (by rfl) T.f_len PySem.boot_len (pa_cons (C8.pe_mt0 cM hr (by decide) (pv 0)) pa_nil)) pe_int (nomark _)) pss_never pss_nil)
      (pss_cons (ps_try_thru0 (pss_one (ps_set (i := 1) sc_is_sound.nd rfl (Or.inl rfl) (C8.pe_mk cV hr (by decide) (by rfl) (pa_cons (pv 0) pa_nil)))))
      (pss_cons (ps_asg (C8.pe_mt0 cS hr (by decide) (pv 1)) (pg_tup rfl (pgs_cons (pg_name (i := 2) sc_is_sound.nd rfl (Or.inl rfl)) (pgs_cons (pg_name (i := 3) sc_is_sound.nd rfl (Or.inl rfl)) (pgs_cons (pg_name (i := 4) sc_is_sound.nd rfl (Or.inl rfl)) pgs_nil)))))
      (pss_cons (ps_set (i := 5) sc_is_sound.nd rfl (Or.inr rfl) pe_dnewK)
      (pss_cons (ps_for PassesOwn.never rfl (pi_list (pv 2)) (pg_tup rfl (pgs_cons (pg_name (i := 6) sc_is_sound.nd rfl (Or.inl rfl)) (pgs_cons (pg_name (i := 7) sc_is_sound.nd rfl (Or.inl rfl)) (pgs_cons (pg_name (i := 8) sc_is_sound.nd rfl (Or.inl rfl)) (pgs_cons (pg_name (i := 9) sc_is_sound.nd rfl (Or.inl rfl)) pgs_nil)))))
        (pss_cons (ps_asg (C8.pe_mt cF hr (by decide) (pv 1) (pa_cons (pv 7) (pa_cons (pv 8) pa_nil))) (pg_tup rfl (pgs_cons (pg_name (i := 10) sc_is_sound.nd rfl (Or.inl rfl)) (pgs_cons (pg_name (i := 11) sc_is_sound.nd rfl (Or.inl rfl)) pgs_nil))))
        (pss_cons (ps_if (PW.pt (pw_or (pt_cmpR op_ne (pv 11) pe_str (nomark _)) (pw_or (pt_val (pe_callB (cr_any rfl) (by rfl) T.f_any (by decide +kernel) (pa_cons
            (pe_lc (own := [("block", 12)]) (g := gName 12) (tt := tYes) (te := tDIn (tVar 12) (tVar 5)) rfl sc_is_sound.nd (pi_list (pv 10)) (blkOk_by (own := [("block", 12)]) (N := nmIS) (sc := C8.fnScope s_is_sound) (by decide +kernel))
              (fun _ _ _ _ _ => pg_name (i := 12) sc_is_sound.nd rfl (Or.inl rfl)) (fun _ _ _ _ _ => pts_nil) (fun _ _ _ _ _ => pe_cmp (pc_din hu (pv 12) (pv 5)) rfl)) pa_nil)))
            (pw_or1 (pt_not (pt_val (pe_ix ix_tup (C8.pe_c cR hr (by decide) (by rfl) (pa_cons (pv 0) (pa_cons (pv 6) pa_nil))) pe_int (fun _ _ => rfl)))))))) pss_never pss_nil)
        (pss_one (ps_for PassesOwn.never rfl (pi_list (pv 10)) (pg_name (i := 12) sc_is_sound.nd rfl (Or.inl rfl)) (pss_one (ps_dput hu (pv 5) (pv 12) pe_bl rfl)))))))
      (pss_one (ps_ret (pe_and (pe_cmpR op_eq (pe_callB call_len_seq (by rfl) T.f_len PySem.boot_len (pa_cons (pv 4) pa_nil)) pe_int (nomark _)) (pe_one (C8.pe_c cTS hr (by decide) (by rfl) (pa_cons (pv 1) (pa_cons (pv 5) pa_nil))))))))))), ?_⟩
    have hmany := G.files.many
    have hmost := G.head.most
    have hfit := G.head.fit
    obtain ⟨ddx, dr, das, hp, _, _⟩ := D.ex
    -- missing
    refine ⟨_, rfl, p, ddx, _, rfl, hp, dfl_no _ _ (by decide +kernel) (by decide +kernel), p, _, rows, rfl, D, hmost, fun H1 q1 s1 hq1 hq1' => ⟨q1, _, rfl, .inl (SqL.of hq1'), _, _, rfl, rfl, _, rfl, ?_⟩⟩
    refine iteFd (decide_eq_false (by decide)) ?_
    -- volume
    refine ⟨_, rfl, ?_⟩
    intro x dx hx hdx hne
    refine ⟨x, dx, p, z, t, rows, rfl, upd_same, disc_made (D.same s1) hx hdx, G.head, fun H2 kp hV => ⟨rfl, ?_⟩⟩
    have s2 : Same H1 H2 := Same.made hx hdx kp
    obtain ⟨dx1, p1, hv1, _⟩ := hV.ex
    refine ⟨_, rfl, x, dx1, _, rfl, hv1, vfl_no _ _ _ _ (by decide +kernel) (by decide +kernel) (by decide +kernel) (by decide +kernel), x, z, m, t, rows, _, rfl, hV, hmost, hfit, G.dir, fun H3 q en mi ba as s3 hq hen hEn hmi hba => ?_⟩
    refine ⟨q, _, rfl, SqT.of hq, rfl, _, _, rfl, _, _, rfl, _, _, rfl, rfl, ?_⟩
    intro us hus
    have s4 := same_up (o := HO.dK []) (Same.refl H3) hus
    have s13 := s1.trans (s2.trans s3)
    have hV3 := hV.same s3
    have D3 := D.same s13
    have hal : as.length = fs.length := by rw [hEn.1, entsE_len]
    refine ⟨_, rfl, en, rfl, ⟨_, SqL.of (s4 _ _ hen)⟩, for_list (K := K) (a := en) (xs := as.map V.ref) (fun i σ H' => ∃ o6 o7 o8 o9 o10 o11 o12 : Option V, σ = [some (.ref p), some (.ref x), some (.ref en), some (.ref mi), some (.ref ba), some (.ref us), o6, o7, o8, o9, o10, o11, o12] ∧
      Same H3 H' ∧ UsedAt H' us (ft t) (usedM z (fs.take i))) ⟨none, none, none, none, none, none, none, rfl, s4, [], upd_same, rfl⟩ (fun i σ H' _ ⟨_, _, _, _, _, _, _, _, q, _⟩ => SqL.of (q _ _ hen)) ?_ ?_⟩
    · rintro i y σ H' hy ⟨o6, o7, o8, o9, o10, o11, o12, rfl, s5, kvs, hU, hk⟩
      obtain ⟨u, hu', rfl⟩ := map_get hy
      obtain ⟨e, he, htup⟩ := hEn.at hu'
      obtain ⟨g, hg, rfl⟩ := entsE_at z he
      obtain ⟨hCh, hDa⟩ := G.chain i g hg
      have hgl := G.files.len g (get_mem hg)
      have hi := get_lt hg
      have hV5 := hV3.same s5
      obtain ⟨dx5, p5, hv5, _⟩ := hV5.ex
      have hused : usedM z (fs.take (i + 1)) = usedM z (fs.take i) + nbF z g := by rw [take_snoc hg, usedM_snoc]
      generalize hpre : usedM z (fs.take i) = pre at hCh hDa hk hused
      have eseq : seqI (stM (ft t + pre) (nbF z g)) (nbF z g) = seqI (ft t + pre) (nbF z g) := by
        unfold stM
        by_cases h0 : 0 < nbF z g
        · rw [if_pos h0]
        · have h1 : nbF z g = 0 := by omega
          rw [h1]
          rfl
      have hhi : 0 < nbF z g → ft t + pre + nbF z g ≤ rows.length := fun h0 => by
        have h1 := hCh.hi h0
        unfold stM at h1
        rw [if_pos h0] at h1
        exact h1
      refine ⟨u, _, rfl, SqT.of (s5 _ _ htup), rfl, _, _, rfl, _, _, rfl, _, _, rfl, _, _, rfl, rfl, ?_⟩
      refine ⟨_, rfl, x, dx5, _, rfl, hv5, vfl_no _ _ _ _ (by decide +kernel) (by decide +kernel) (by decide +kernel) (by decide +kernel), _, rfl, _, rfl, x, z, t, stM (ft t + pre) (nbF z g), g.2.length, rows, tab, ?_, hV5, ⟨G.head.z0, G.head.z1⟩, hmost, G.tabk, hCh, by omega, fun H6 q6 fo s6 hq6 hfo => ?_⟩
      · rw [hpre]
        rfl
      · have hfo' : OI H6 fo (seqI (ft t + pre) (nbF z g)) := by
          rw [← eseq]
          exact hfo
        refine ⟨q6, _, rfl, SqT.of hq6, rfl, _, _, rfl, _, _, rfl, rfl, ?_⟩
        refine ⟨_, rfl, rfl, _, rfl, iteF ?_⟩
        have hU6 := s6 _ _ hU
        -- none of them is in use
        refine ⟨_, rfl, fo, rfl, ⟨_, SqL.of hfo'⟩, fun Dn hD => lc_list (K := K) (a := fo) (xs := (seqI (ft t + pre) (nbF z g)).map V.int) (fun j H7 => Same H6 H7 ∧ H7 Dn = some (.lst ((List.replicate j false).map V.bl))) ⟨same_up (Same.refl _) hD, upd_same⟩ (fun j H7 _ q => SqL.of (q.1 _ _ hfo')) ?_ ?_⟩
        · rintro j y H7 hy7 ⟨s7, hL⟩
          obtain ⟨w7, hw7, rfl⟩ := map_get hy7
          have hj := get_lt hw7
          rw [seqI_len] at hj
          have e7 : w7 = ((ft t + pre + j : Nat) : Int) := by
            rw [seqI_get hj] at hw7
            exact (Option.some.inj hw7).symm
          subst e7
          have hno := used_out hk (i := ft t + pre + j) (.inr (by omega))
          have hjl := hhi (by omega)
          refine ⟨rfl, lcT (iteT ⟨_, rfl, _, rfl, us, _, rfl, DGet.k (k := Sum.inl ((ft t + pre + j : Nat) : Int)) (s7 _ _ hU6), ?_⟩)⟩
          rw [hno]
          refine ⟨_, hL, ?_, same_up s7 hD, ?_⟩
          · rw [List.length_map, List.length_replicate]
            exact lt_line (by omega)
          · rw [upd_same, rep_snoc, List.map_append]
            rfl
        · rintro H7 ⟨s7, hL⟩
          refine ⟨Dn, _, rfl, SqL.of hL, _, rfl, ?_⟩
          rw [any_rep]
          refine iteF ?_
          refine ⟨_, rfl, _, rfl, p, z, m, t, i, rows, fs, tab, g, rfl, D3.same (s5.trans (s6.trans s7)), G, hg, fun H8 q8 va ru s8 hq8 _ _ => ?_⟩
          have hat3 : atI [V.ref va, V.ref ru, V.str "", V.bl true] (3 : Int) = some (.bl true) := atI_nat (j := 3) rfl
          refine ⟨q8, _, _, _, rfl, rfl, SqT.of hq8, hat3, _, rfl, ?_⟩
          refine iteFd rfl ?_
          have s68 := s7.trans s8
          have hfo8 := s68 _ _ hfo'
          have hU8 := s68 _ _ hU6
          have s58 := s5.trans (s6.trans s68)
          refine ⟨_, rfl, fo, rfl, ⟨_, SqL.of hfo8⟩, for_list (K := K) (a := fo) (xs := (seqI (ft t + pre) (nbF z g)).map V.int) (fun j σ H9 => ∃ o12 : Option V, σ = [some (.ref p), some (.ref x), some (.ref en), some (.ref mi), some (.ref ba), some (.ref us), some (.str g.1), some (.int (stM (ft t + usedM z (fs.take i)) (nbF z g) : Nat)), some (.int (g.2.length : Nat)), some (.int (crcM g.2)), some (.ref fo), some (.str ""), o12] ∧
            Same H3 H9 ∧ OI H9 fo (seqI (ft t + pre) (nbF z g)) ∧ UsedAt H9 us (ft t) (pre + j)) ⟨o12, rfl, s58, hfo8, kvs, hU8, hk⟩ (fun j σ H9 _ ⟨_, _, _, q, _⟩ => SqL.of q) ?_ ?_⟩
          · rintro j y σ H9 hy9 ⟨o12, rfl, s9, hfo9, kvs9, hU9, hk9⟩
            obtain ⟨w7, hw7, rfl⟩ := map_get hy9
            have hj := get_lt hw7
            rw [seqI_len] at hj
            have e7 : w7 = ((ft t + pre + j : Nat) : Int) := by
              rw [seqI_get hj] at hw7
              exact (Option.some.inj hw7).symm
            subst e7
            have hno := used_out hk9 (i := ft t + pre + j) (.inr (by omega))
            have hjl := hhi (by omega)
            have hkl : kvs9.length = pre + j := by
              have := congrArg List.length hk9
              rw [List.length_map, List.length_map, List.length_range] at this
              exact this
            have nfu : fo ≠ us := ne_of hfo9 hU9 (by intro q; cases q)
            refine ⟨_, rfl, _, rfl, us, _, rfl, DPut.k (k := Sum.inl ((ft t + pre + j : Nat) : Int)) hU9 (lt_line (by omega)), ?_⟩
            refine ⟨_, rfl, same_up s9 hus, (upd_ne nfu).trans hfo9, _, upd_same, ?_⟩
            rw [putK_new _ hno, List.map_append, hk9, show pre + (j + 1) = pre + j + 1 from rfl, List.range_succ, List.map_append]
            rw [show ft t + pre + j = ft t + (pre + j) by omega]
            rfl
          · rintro σ H9 ⟨o12, rfl, s9, hfo9, hUs⟩
            rw [List.length_map, seqI_len, ← hused] at hUs
            exact ⟨_, _, _, _, _, _, _, rfl, s9, hUs⟩
    · rintro σ H' ⟨o6, o7, o8, o9, o10, o11, o12, rfl, s5, hUs⟩
      rw [List.take_of_length_le (by rw [List.length_map]; omega)] at hUs
      refine ⟨_, rfl, ba, _, rfl, .inl (SqL.of (s5 _ _ hba)), rfl, _, rfl, ?_⟩
      refine iteTd (decide_eq_true rfl) ⟨_, rfl, _, rfl, x, us, z, m, t, rows, fs, tab, rfl, hV3.same s5, G, hUs, fun H6 s6 => ?_⟩
      exact k _ (s13.trans (s5.trans s6))
end
end Dw
/-! K16: the law's helpers, first half. -/
namespace Dw
open PySem PySem.Spec PyProof.Rows L2
/-- texts in a list -/
abbrev OS (H : Hp) (a : Addr) (zs : List Str) : Prop := H a = some (.lst (zs.map V.str))
def sp_law_cell (K : PySem.W.Frag) : Sp := fun vs H Q _ => ∃ (a : Addr) (ns : List Int), vs = [.ref a, .int 0] ∧ SqL K H a (ns.map V.int) ∧ ∀ n, Q (.int n) H
def sp_law_draws : Sp := fun vs H Q _ => ∃ c : Int, vs = [.int c, .int 60] ∧ ∀ H' p ds, Same H H' → OI H' p ds → ds.length = 60 → (∀ d ∈ ds, 0 ≤ d ∧ d < 4096) → Q (.ref p) H'
def sp_law_is_int : Sp := fun vs H Q _ => ∃ n : Int, vs = [.int n] ∧ Q (.bl true) H
def sp_law_is_bool : Sp := fun vs H Q _ => vs = [.bl true, .bl true] ∧ Q (.bl true) H
def sp_law_ints : Sp := fun vs H Q _ => ∃ (a : Addr) (ns : List Int), vs = [.ref a, .str "list"] ∧ OI H a ns ∧ ns.length ≤ 10000 ∧ Q (.bl true) H
def sp_law_is_list : Sp := fun vs H Q _ => ∃ (a b : Addr) (ns : List Int), vs = [.ref a, .ref b] ∧ OI H a ns ∧ OI H b ns ∧ ns.length ≤ 10000 ∧ Q (.bl true) H
def sp_law_is_text : Sp := fun vs H Q _ => ∃ z : Str, vs = [.str z, .str z] ∧ Q (.bl true) H
def sp_law_is_texts : Sp := fun vs H Q _ => ∃ (a b : Addr) (zs : List Str), vs = [.ref a, .ref b, .str "list"] ∧ OS H a zs ∧ OS H b zs ∧ zs.length ≤ 10000 ∧ Q (.bl true) H
section
variable {P : Program} {w : World} {K : PySem.W.Frag} {mg : Str → Option Value} {base : Heap}
theorem sc_law_cell : FnScope ["_law_script", "_law_k"] ["_law_script", "_law_k"] (C8.fnScope s_law_cell) := C8.fnScope_by (by decide +kernel)
theorem ok_law_cell (T : Txt K mg) : C8.Cal P w K mg base 1 "_law_cell" (sp_law_cell K) [] := by
  obtain ⟨f, fd, F, b⟩ := T.D_law_cell
  refine C8.cal0 F b .nil sc_law_cell (fun vs H Q E h => ?_) (fun cdv A outer s H vs Q E hr h => ?_)
  · obtain ⟨a, ns, rfl, _⟩ := h
    rfl
  · obtain ⟨a, ns, rfl, hS, k⟩ := h
    refine ⟨_, pss_cons (ps_if (pt_cmpR op_lt (pv 1) (pe_callB call_len_seq (by rfl) T.f_len PySem.boot_len (pa_cons (pv 0) pa_nil)) (nomark _)) (pss_one (ps_ret (pe_ix ix_list (pv 0) (pv 1) (fun _ _ => rfl)))) pss_nil)
      (pss_one (ps_ret pe_int)), ?_⟩
    refine ⟨_, rfl, _, rfl, a, _, rfl, .inl hS, _, _, rfl, rfl, _, rfl, ?_⟩
    cases ns with
    | nil => exact iteFd (decide_eq_false (by decide)) (k 0)
    | cons n r =>
      refine iteTd (decide_eq_true (by rw [List.length_map, List.length_cons]; omega)) ⟨_, rfl, _, rfl, a, _, _, _, rfl, rfl, hS, atI_nat (j := 0) rfl, k n⟩
theorem sc_law_draws : FnScope ["_law_cell_here", "_law_count", "_law_rows", "_law_left", "_law_k", "_law_mixed"] ["_law_cell_here", "_law_count"] (C8.fnScope s_law_draws) := C8.fnScope_by (by decide +kernel)
theorem ok_law_draws (T : Txt K mg) : C8.Cal P w K mg base 1 "_law_draws" sp_law_draws [] := by
  obtain ⟨f, fd, F, b⟩ := T.D_law_draws
  refine C8.cal0 F b .nil sc_law_draws (fun vs H Q E h => ?_) (fun cdv A outer s H vs Q E hr h => ?_)
  · obtain ⟨c, rfl, _⟩ := h
    rfl
  · obtain ⟨c, rfl, k⟩ := h
    refine ⟨_, pss_cons (ps_set (i := 2) sc_law_draws.nd rfl (Or.inl rfl) (pe_lst pa_nil))
      (pss_cons (ps_set (i := 3) sc_law_draws.nd rfl (Or.inl rfl) (pv 0))
      (pss_cons (ps_for PassesOwn.never rfl (pi_range1 (by rfl) T.f_range (pa_cons (pv 1) pa_nil)) (pg_name (i := 4) sc_law_draws.nd rfl (Or.inl rfl))
        (pss_one (ps_if (PW.pt (pw_and (pt_cmpR op_ge (pv 0) (pe_op op_pow pe_int pe_int) (nomark _)) (pw_and1 (pt_cmpR op_gt (pv 3) pe_int (nomark _)))))
          (pss_cons (ps_expr (pe_bm PySem.F.plainAttrs_list PySem.F.slot_list_append PySem.F.type_list_append mt_append (pv 2) (pa_cons (pe_op op_mod (pe_callTy call_int1 (by rfl) T.f_int (by decide +kernel) (pa_cons (pv 3) pa_nil)) pe_int) pa_nil)))
          (pss_one (ps_set (i := 3) sc_law_draws.nd rfl (Or.inl rfl) (pe_op op_fdiv (pv 3) pe_int))))
          (pss_cons (ps_set (i := 5) sc_law_draws.nd rfl (Or.inl rfl) (pe_op op_mod (pe_callTy call_int1 (by rfl) T.f_int (by decide +kernel) (pa_cons (pe_op op_add (pe_op op_mul (pv 0) pe_int) (pe_op op_mul (pe_op op_add (pv 4) pe_int) pe_int)) pa_nil)) pe_int))
          (pss_cons (ps_set (i := 5) sc_law_draws.nd rfl (Or.inl rfl) (pe_op op_mod (pe_callTy call_int1 (by rfl) T.f_int (by decide +kernel) (pa_cons (pe_op op_add (pe_op op_add (pe_op op_mul (pv 5) (pv 5)) (pe_op op_mul (pv 5) pe_int)) (pe_op op_mul (pv 4) pe_int)) pa_nil)) pe_int))
          (pss_cons (ps_set (i := 5) sc_law_draws.nd rfl (Or.inl rfl) (pe_op op_mod (pe_callTy call_int1 (by rfl) T.f_int (by decide +kernel) (pa_cons (pe_op op_add (pe_op op_add (pe_op op_mul (pv 5) (pv 5)) (pv 0)) (pe_op op_mul pe_int (pv 4))) pa_nil)) pe_int))
          (pss_one (ps_expr (pe_bm PySem.F.plainAttrs_list PySem.F.slot_list_append PySem.F.type_list_append mt_append (pv 2) (pa_cons (pe_op op_mod (pe_op op_fdiv (pv 5) pe_int) pe_int) pa_nil))))))))))
      (pss_one (ps_ret (pv 2))))), ?_⟩
    refine ⟨Nat.zero_le _, fun R hR => ?_⟩
    have s0 := same_up (o := HO.lst []) (Same.refl H) hR
    refine ⟨_, rfl, ?_⟩
    refine ⟨_, rfl, _, rfl, by decide, by decide, for_range (lo := 0) (n := 60) (fun i σ H' => ∃ (l : Int) (o4 o5 : Option V) (ds : List Int), σ = [some (.int c), some (.int 60), some (.ref R), some (.int l), o4, o5] ∧ Same H H' ∧ OI H' R ds ∧ ds.length = i ∧ ∀ d ∈ ds, 0 ≤ d ∧ d < 4096)
      ⟨c, none, none, [], rfl, s0, upd_same, rfl, fun d hd => by cases hd⟩ ?_ ?_⟩
    · rintro i σ H' hi ⟨l, o4, o5, ds, rfl, s1, hL, hl, hB⟩
      have app : ∀ x : Int, 0 ≤ x → x < 4096 → Same H (upd H' R (.lst (ds.map V.int ++ [.int x]))) ∧ OI (upd H' R (.lst (ds.map V.int ++ [.int x]))) R (ds ++ [x]) ∧ (ds ++ [x]).length = i + 1 ∧ ∀ d ∈ ds ++ [x], 0 ≤ d ∧ d < 4096 := fun x h0 h1 => by
        refine ⟨same_up s1 hR, ?_, ?_, fun d hd => ?_⟩
        · show upd H' R _ R = _
          rw [upd_same, List.map_append]
          rfl
        · rw [List.length_append, hl]
          rfl
        · rcases List.mem_append.mp hd with q | q
          · exact hB d q
          · rw [List.mem_singleton.mp q]
            exact ⟨h0, h1⟩
      have hsz : (ds.map V.int).length < sizeLine := by
        rw [List.length_map]
        exact lt_line (by omega)
      refine ⟨_, rfl, _, _, rfl, rfl, ⟨by decide, by decide, by decide⟩, _, _, rfl, rfl, _, rfl, ?_⟩
      have m0 : ∀ a m : Int, 0 < m → 0 ≤ a % m ∧ a % m < m := fun a m hm => ⟨Int.emod_nonneg _ (by omega), Int.emod_lt_of_pos _ hm⟩
      by_cases hc : c ≥ (10 : Int) ^ (18 : Int).toNat
      · refine iteTd (decide_eq_true hc) ⟨_, rfl, _, _, rfl, rfl, _, rfl, ?_⟩
        by_cases hl0 : l > 0
        · refine iteTd (decide_eq_true hl0) ?_
          obtain ⟨x1, x2⟩ := m0 l 4096 (by decide)
          obtain ⟨y1, y2, y3, y4⟩ := app (l % 4096) x1 x2
          refine ⟨_, rfl, .inl ⟨rfl, _, SqL.of hL⟩, _, rfl, .inl ⟨_, rfl, _, _, rfl, rfl, (by show (0 : Int) < 4096; decide), R, _, _, rfl, rfl, hL, hsz, ?_⟩⟩
          exact ⟨_, rfl, _, _, rfl, rfl, ⟨by decide, by decide⟩, l / 4096, _, _, ds ++ [l % 4096], rfl, y1, y2, y3, y4⟩
        · refine iteFd (decide_eq_false hl0) ?_
          refine ⟨_, rfl, _, _, rfl, rfl, .inr ⟨by decide, by decide⟩, _, rfl, _, _, rfl, rfl, _, _, rfl, rfl, .inr ⟨by decide, by decide⟩, _, _, rfl, rfl, .inl ⟨_, rfl, _, _, rfl, rfl, (by show (0 : Int) < 2147483647; decide), ?_⟩⟩
          dsimp only
          obtain ⟨a1, a2⟩ := m0 (c * 48271 + (0 + ((i : Nat) : Int) + 1) * 69621) 2147483647 (by decide)
          generalize (c * 48271 + (0 + ((i : Nat) : Int) + 1) * 69621) % 2147483647 = x at a1 a2 ⊢
          refine ⟨_, rfl, _, rfl, _, _, rfl, rfl, .inl ⟨by omega, by omega⟩, _, rfl, _, _, rfl, rfl, .inr ⟨by decide, by decide⟩, _, _, rfl, rfl, _, rfl, _, _, rfl, rfl, .inr ⟨by decide, by decide⟩, _, _, rfl, rfl, .inl ⟨_, rfl, _, _, rfl, rfl, (by show (0 : Int) < 2147483629; decide), ?_⟩⟩
          dsimp only
          obtain ⟨b1, b2⟩ := m0 (x * x + x * 16807 + (0 + ((i : Nat) : Int)) * 7919) 2147483629 (by decide)
          generalize (x * x + x * 16807 + (0 + ((i : Nat) : Int)) * 7919) % 2147483629 = y at b1 b2 ⊢
          refine ⟨_, rfl, _, rfl, _, _, rfl, rfl, .inl ⟨by omega, by omega⟩, _, rfl, _, _, rfl, rfl, _, rfl, _, _, rfl, rfl, .inl ⟨by decide, by decide⟩, _, _, rfl, rfl, .inl ⟨_, rfl, _, _, rfl, rfl, (by show (0 : Int) < 2147483587; decide), ?_⟩⟩
          dsimp only
          generalize (y * y + c + 13 * (0 + ((i : Nat) : Int))) % 2147483587 = u
          obtain ⟨z1, z2⟩ := m0 (u / 7) 4096 (by decide)
          obtain ⟨y1, y2, y3, y4⟩ := app (u / 7 % 4096) z1 z2
          refine ⟨_, rfl, .inl ⟨rfl, _, SqL.of hL⟩, _, rfl, _, _, rfl, rfl, ⟨by decide, by decide⟩, _, _, rfl, rfl, (by show (0 : Int) < 4096; decide), R, _, _, rfl, rfl, hL, hsz, ?_⟩
          exact ⟨l, _, _, ds ++ [u / 7 % 4096], rfl, y1, y2, y3, y4⟩
      · refine iteFd (decide_eq_false hc) ?_
        refine ⟨_, rfl, _, _, rfl, rfl, .inr ⟨by decide, by decide⟩, _, rfl, _, _, rfl, rfl, _, _, rfl, rfl, .inr ⟨by decide, by decide⟩, _, _, rfl, rfl, .inl ⟨_, rfl, _, _, rfl, rfl, (by show (0 : Int) < 2147483647; decide), ?_⟩⟩
        dsimp only
        obtain ⟨a1, a2⟩ := m0 (c * 48271 + (0 + ((i : Nat) : Int) + 1) * 69621) 2147483647 (by decide)
        generalize (c * 48271 + (0 + ((i : Nat) : Int) + 1) * 69621) % 2147483647 = x at a1 a2 ⊢
        refine ⟨_, rfl, _, rfl, _, _, rfl, rfl, .inl ⟨by omega, by omega⟩, _, rfl, _, _, rfl, rfl, .inr ⟨by decide, by decide⟩, _, _, rfl, rfl, _, rfl, _, _, rfl, rfl, .inr ⟨by decide, by decide⟩, _, _, rfl, rfl, .inl ⟨_, rfl, _, _, rfl, rfl, (by show (0 : Int) < 2147483629; decide), ?_⟩⟩
        dsimp only
        obtain ⟨b1, b2⟩ := m0 (x * x + x * 16807 + (0 + ((i : Nat) : Int)) * 7919) 2147483629 (by decide)
        generalize (x * x + x * 16807 + (0 + ((i : Nat) : Int)) * 7919) % 2147483629 = y at b1 b2 ⊢
        refine ⟨_, rfl, _, rfl, _, _, rfl, rfl, .inl ⟨by omega, by omega⟩, _, rfl, _, _, rfl, rfl, _, rfl, _, _, rfl, rfl, .inl ⟨by decide, by decide⟩, _, _, rfl, rfl, .inl ⟨_, rfl, _, _, rfl, rfl, (by show (0 : Int) < 2147483587; decide), ?_⟩⟩
        dsimp only
        generalize (y * y + c + 13 * (0 + ((i : Nat) : Int))) % 2147483587 = u
        obtain ⟨z1, z2⟩ := m0 (u / 7) 4096 (by decide)
        obtain ⟨y1, y2, y3, y4⟩ := app (u / 7 % 4096) z1 z2
        refine ⟨_, rfl, .inl ⟨rfl, _, SqL.of hL⟩, _, rfl, _, _, rfl, rfl, ⟨by decide, by decide⟩, _, _, rfl, rfl, (by show (0 : Int) < 4096; decide), R, _, _, rfl, rfl, hL, hsz, ?_⟩
        exact ⟨l, _, _, ds ++ [u / 7 % 4096], rfl, y1, y2, y3, y4⟩
    · rintro σ H' ⟨l, o4, o5, ds, rfl, s1, hL, hl, hB⟩
      exact ⟨_, rfl, k H' R ds s1 hL hl hB⟩
end
end Dw
/-! K17: the law's helpers, second half. -/
namespace Dw
open PySem PySem.Spec PyProof.Rows L2
def sp_law_same_reading : Sp := fun vs H Q _ => ∃ (a b va ru vb rb : Addr) (ns : List Int), vs = [.ref a, .ref b] ∧ H a = some (.tup [.ref va, .ref ru, .str "", .bl true]) ∧ H b = some (.tup [.ref vb, .ref rb, .str "", .bl true]) ∧ OI H va ns ∧ OI H vb ns ∧
  H ru = some (.lst []) ∧ H rb = some (.lst []) ∧ ns.length ≤ 10000 ∧ Q (.bl true) H
section
variable {P : Program} {w : World} {K : PySem.W.Frag} {mg : Str → Option Value} {base : Heap}
theorem sc_law_is_int : FnScope ["_law_x"] ["_law_x"] (C8.fnScope s_law_is_int) := C8.fnScope_by (by decide +kernel)
theorem ok_law_is_int (T : Txt K mg) : C8.Cal P w K mg base 1 "_law_is_int" sp_law_is_int [] := by
  obtain ⟨f, fd, F, b⟩ := T.D_law_is_int
  refine C8.cal0 F b .nil sc_law_is_int (fun vs H Q E h => ?_) (fun cdv A outer s H vs Q E hr h => ?_)
  · obtain ⟨n, rfl, _⟩ := h
    rfl
  · obtain ⟨n, rfl, k⟩ := h
    refine ⟨_, pss_one (ps_ret (pe_and (pe_callB call_isi (by rfl) T.f_isinstance (by decide +kernel) (pa_cons (pv 0) (pa_cons (pe_bltn (v := .ty "int") (by rfl) T.f_int boot_int rfl) pa_nil)))
      (pe_one (pe_not (pe_callB call_isi (by rfl) T.f_isinstance (by decide +kernel) (pa_cons (pv 0) (pa_cons (pe_bltn (v := .ty "bool") (by rfl) T.f_bool boot_bool rfl) pa_nil))))))), ?_⟩
    refine ⟨_, rfl, _, _, _, _, true, rfl, .ty "int", .base (.int n), kit_ty (by decide +kernel), _, rfl, ?_⟩
    refine iteT ⟨_, rfl, _, _, _, _, false, rfl, .ty "bool", .base (.int n), kit_ty (by decide +kernel), _, rfl, k⟩
theorem sc_law_is_bool : FnScope ["_law_x", "_law_due"] ["_law_x", "_law_due"] (C8.fnScope s_law_is_bool) := C8.fnScope_by (by decide +kernel)
theorem ok_law_is_bool (T : Txt K mg) : C8.Cal P w K mg base 1 "_law_is_bool" sp_law_is_bool [] := by
  obtain ⟨f, fd, F, b⟩ := T.D_law_is_bool
  refine C8.cal0 F b .nil sc_law_is_bool (fun vs H Q E h => ?_) (fun cdv A outer s H vs Q E hr h => ?_)
  · obtain ⟨rfl, _⟩ := h
    rfl
  · obtain ⟨rfl, k⟩ := h
    refine ⟨_, pss_cons (ps_if (pt_val (pv 1)) (pss_one (ps_ret (pe_cmpR op_isBl (pv 0) pe_bl (nomark _)))) pss_nil) pss_never, ?_⟩
    refine ⟨_, rfl, _, rfl, ?_⟩
    exact iteT ⟨_, rfl, _, _, rfl, rfl, k⟩
theorem sc_law_ints : FnScope ["_law_x", "_law_kind", "_law_k"] ["_law_x", "_law_kind"] (C8.fnScope s_law_ints) := C8.fnScope_by (by decide +kernel)
theorem ok_law_ints (T : Txt K mg) : C8.Cal P w K mg base 2 "_law_ints" sp_law_ints [] := by
  obtain ⟨f, fd, F, b⟩ := T.D_law_ints
  have cI : C8.Cal P w K mg base 1 "_law_is_int" sp_law_is_int [] := ok_law_is_int T
  refine C8.cal0 F b .nil sc_law_ints (fun vs H Q E h => ?_) (fun cdv A outer s H vs Q E hr h => ?_)
  · obtain ⟨a, ns, rfl, _⟩ := h
    rfl
  · obtain ⟨a, ns, rfl, hL, hl, k⟩ := h
    refine ⟨_, pss_cons (ps_if (pt_cmpR op_eq (pv 1) pe_str (nomark _)) (pss_one (ps_if (pt_not (pt_val (pe_callB call_isi (by rfl) T.f_isinstance (by decide +kernel) (pa_cons (pv 0) (pa_cons (pe_bltn (v := .ty "list") (by rfl) T.f_list boot_list rfl) pa_nil))))) pss_never pss_nil)) pss_never)
      (pss_cons (ps_for PassesOwn.never rfl (pi_range1 (by rfl) T.f_range (pa_cons (pe_callB call_len_seq (by rfl) T.f_len PySem.boot_len (pa_cons (pv 0) pa_nil)) pa_nil)) (pg_name (i := 2) sc_law_ints.nd rfl (Or.inl rfl))
        (pss_one (ps_if (pt_not (pt_val (C8.pe_c cI hr (by decide) (by rfl) (pa_cons (pe_ix ix_list (pv 0) (pv 2) (fun _ _ => rfl)) pa_nil)))) pss_never pss_nil)))
      (pss_one (ps_ret pe_bl))), ?_⟩
    refine ⟨_, rfl, rfl, _, rfl, ?_⟩
    refine iteTd (decide_eq_true rfl) ⟨_, rfl, _, _, _, _, true, rfl, .ty "list", .base (.lst hL), kit_ty (by decide +kernel), _, rfl, ?_⟩
    refine iteFd rfl ⟨_, rfl, a, _, rfl, .inl (SqL.of hL), ?_⟩
    rw [List.length_map]
    refine ⟨_, rfl, by omega, by omega, ?_⟩
    rw [Int.toNat_natCast]
    refine for_range (lo := 0) (n := ns.length) (fun i σ H' => ∃ o : Option V, σ = [some (.ref a), some (.str "list"), o] ∧ H' = H) ⟨none, rfl, rfl⟩ ?_ ?_
    · rintro i σ H' hi ⟨o, rfl, rfl⟩
      have hz : ns[i]? = some (ns[i]'hi) := List.getElem?_eq_getElem hi
      have hat : atI (ns.map V.int) ((0 : Int) + ((i : Nat) : Int)) = some (.int (ns[i]'hi)) := at_of (Int.zero_add _) (get_map hz)
      refine ⟨_, rfl, _, rfl, a, _, _, _, rfl, rfl, SqL.of hL, hat, _, rfl, ?_⟩
      exact ⟨_, rfl, iteFd rfl ⟨_, rfl, rfl⟩⟩
    · rintro σ H' ⟨o, rfl, rfl⟩
      exact k
theorem sc_law_is_text : FnScope ["_law_x", "_law_due"] ["_law_x", "_law_due"] (C8.fnScope s_law_is_text) := C8.fnScope_by (by decide +kernel)
theorem ok_law_is_text (T : Txt K mg) : C8.Cal P w K mg base 1 "_law_is_text" sp_law_is_text [] := by
  obtain ⟨f, fd, F, b⟩ := T.D_law_is_text
  refine C8.cal0 F b .nil sc_law_is_text (fun vs H Q E h => ?_) (fun cdv A outer s H vs Q E hr h => ?_)
  · obtain ⟨z, rfl, _⟩ := h
    rfl
  · obtain ⟨z, rfl, k⟩ := h
    refine ⟨_, pss_one (ps_ret (pe_and (pe_callB call_isi (by rfl) T.f_isinstance (by decide +kernel) (pa_cons (pv 0) (pa_cons (pe_bltn (v := .ty "str") (by rfl) T.f_str boot_str rfl) pa_nil))) (pe_one (pe_cmpR op_eq (pv 0) (pv 1) (nomark _))))), ?_⟩
    refine ⟨_, rfl, _, _, _, _, true, rfl, .ty "str", .base (.str z), kit_ty (by decide +kernel), _, rfl, ?_⟩
    refine iteT ⟨_, rfl, _, rfl, rfl, ?_⟩
    have e : decide (V.str z = V.str z) = true := decide_eq_true rfl
    show Q (.bl (decide (V.str z = V.str z))) H
    rw [e]
    exact k
theorem sc_law_is_list : FnScope ["_law_x", "_law_due"] ["_law_x", "_law_due"] (C8.fnScope s_law_is_list) := C8.fnScope_by (by decide +kernel)
theorem ok_law_is_list (T : Txt K mg) : C8.Cal P w K mg base 3 "_law_is_list" sp_law_is_list [] := by
  obtain ⟨f, fd, F, b⟩ := T.D_law_is_list
  have cI : C8.Cal P w K mg base 2 "_law_ints" sp_law_ints [] := ok_law_ints T
  refine C8.cal0 F b .nil sc_law_is_list (fun vs H Q E h => ?_) (fun cdv A outer s H vs Q E hr h => ?_)
  · obtain ⟨a, b, ns, rfl, _⟩ := h
    rfl
  · obtain ⟨a, b, ns, rfl, hA, hB, hl, k⟩ := h
    refine ⟨_, pss_one (ps_ret (pe_and (C8.pe_c cI hr (by decide) (by rfl) (pa_cons (pv 0) (pa_cons pe_str pa_nil))) (pe_one (pe_cmpR (op_eqD hr.units) (pv 0) (pv 1) (nomark _))))), ?_⟩
    refine ⟨_, rfl, a, ns, rfl, hA, hl, _, rfl, ?_⟩
    refine iteT ⟨_, rfl, _, rfl, _, _, dp_list (SqL.of hA), dp_list (SqL.of hB), sh_ints _, sh_ints _, ?_⟩
    rw [eqv_ints]
    exact k
theorem sc_law_is_texts : FnScope ["_law_x", "_law_due", "_law_kind", "_law_k"] ["_law_x", "_law_due", "_law_kind"] (C8.fnScope s_law_is_texts) := C8.fnScope_by (by decide +kernel)
theorem ok_law_is_texts (T : Txt K mg) : C8.Cal P w K mg base 2 "_law_is_texts" sp_law_is_texts [] := by
  obtain ⟨f, fd, F, b⟩ := T.D_law_is_texts
  have cT : C8.Cal P w K mg base 1 "_law_is_text" sp_law_is_text [] := ok_law_is_text T
  refine C8.cal0 F b .nil sc_law_is_texts (fun vs H Q E h => ?_) (fun cdv A outer s H vs Q E hr h => ?_)
  · obtain ⟨a, b, zs, rfl, _⟩ := h
    rfl
  · obtain ⟨a, b, zs, rfl, hA, hB, hl, k⟩ := h
    refine ⟨_, pss_cons (ps_if (PW.pt (pw_or (PW.pt (pw_and (pt_cmpR op_eq (pv 2) pe_str (nomark _)) (pw_and1 (pt_not (pt_val (pe_callB call_isi (by rfl) T.f_isinstance (by decide +kernel) (pa_cons (pv 0) (pa_cons (pe_bltn (v := .ty "list") (by rfl) T.f_list boot_list rfl) pa_nil))))))))
          (pw_or1 (PW.pt (pw_and (pt_cmpR op_eq (pv 2) pe_str (nomark _)) (pw_and1 (pt_not (pt_val (pe_callB call_isi (by rfl) T.f_isinstance (by decide +kernel) (pa_cons (pv 0) (pa_cons (pe_bltn (v := .ty "tuple") (by rfl) T.f_tuple boot_tuple rfl) pa_nil))))))))))) pss_never pss_nil)
      (pss_cons (ps_if (pt_cmpR op_ne (pe_callB call_len_seq (by rfl) T.f_len PySem.boot_len (pa_cons (pv 0) pa_nil)) (pe_callB call_len_seq (by rfl) T.f_len PySem.boot_len (pa_cons (pv 1) pa_nil)) (nomark _)) pss_never pss_nil)
      (pss_cons (ps_for PassesOwn.never rfl (pi_range1 (by rfl) T.f_range (pa_cons (pe_callB call_len_seq (by rfl) T.f_len PySem.boot_len (pa_cons (pv 1) pa_nil)) pa_nil)) (pg_name (i := 3) sc_law_is_texts.nd rfl (Or.inl rfl))
        (pss_one (ps_if (pt_not (pt_val (C8.pe_c cT hr (by decide) (by rfl) (pa_cons (pe_ix ix_list (pv 0) (pv 3) (fun _ _ => rfl)) (pa_cons (pe_ix ix_list (pv 1) (pv 3) (fun _ _ => rfl)) pa_nil))))) pss_never pss_nil)))
      (pss_one (ps_ret pe_bl)))), ?_⟩
    refine ⟨_, rfl, rfl, _, rfl, ?_⟩
    refine iteTd (decide_eq_true rfl) ⟨_, rfl, _, _, _, _, true, rfl, .ty "list", .base (.lst hA), kit_ty (by decide +kernel), _, rfl, ?_⟩
    refine iteFd rfl ⟨_, rfl, rfl, _, rfl, ?_⟩
    refine iteFd (decide_eq_false (by decide +kernel)) ?_
    refine iteFd rfl ?_
    refine ⟨_, rfl, a, _, rfl, .inl (SqL.of hA), _, rfl, b, _, rfl, .inl (SqL.of hB), rfl, _, rfl, ?_⟩
    refine iteFd (by rw [decide_eq_true rfl]; rfl) ?_
    refine ⟨_, rfl, b, _, rfl, .inl (SqL.of hB), ?_⟩
    rw [List.length_map]
    refine ⟨_, rfl, by omega, by omega, ?_⟩
    rw [Int.toNat_natCast]
    refine for_range (lo := 0) (n := zs.length) (fun i σ H' => ∃ o : Option V, σ = [some (.ref a), some (.ref b), some (.str "list"), o] ∧ H' = H) ⟨none, rfl, rfl⟩ ?_ ?_
    · rintro i σ H' hi ⟨o, rfl, rfl⟩
      have hz : zs[i]? = some (zs[i]'hi) := List.getElem?_eq_getElem hi
      have hat : atI (zs.map V.str) ((0 : Int) + ((i : Nat) : Int)) = some (.str (zs[i]'hi)) := at_of (Int.zero_add _) (get_map hz)
      refine ⟨_, rfl, _, rfl, a, _, _, _, rfl, rfl, SqL.of hA, hat, _, rfl, _, rfl, b, _, _, _, rfl, rfl, SqL.of hB, hat, _, rfl, _, rfl, ?_⟩
      exact iteFd rfl ⟨_, rfl, rfl⟩
    · rintro σ H' ⟨o, rfl, rfl⟩
      exact k
end
end Dw
/-! K18: the law's names and files. -/
namespace Dw
open PySem PySem.Spec PyProof.Rows L2
def lawC : List Nat := [65, 66, 67, 88, 89, 90, 48, 49, 50, 57]
theorem law_tl : ("ABCXYZ0129" : Str).cps.toList = lawC := by decide +kernel
theorem law_cd : ∀ c ∈ lawC, c ∈ CD := by decide
theorem law_sign (x : Int) : ∃ c : Nat, atI ("ABCXYZ0129" : Str).cps.toList (x % 10) = some c ∧ c ∈ CD := by
  have h0 : 0 ≤ x % 10 := Int.emod_nonneg _ (by decide)
  have h1 : x % 10 < 10 := Int.emod_lt_of_pos _ (by decide)
  obtain ⟨n, hn⟩ := Int.eq_ofNat_of_zero_le h0
  have hl : n < lawC.length := by
    show n < 10
    omega
  refine ⟨lawC[n]'hl, ?_, law_cd _ (List.getElem_mem hl)⟩
  rw [hn, law_tl]
  exact atI_nat (List.getElem?_eq_getElem hl)
def sp_law_name : Sp := fun vs H Q _ => ∃ d : Int, vs = [.int d] ∧ (0 ≤ d ∧ d < 4096) ∧ ∀ H' z, Same H H' → NameOk z → Q (.str z) H'
section
variable {P : Program} {w : World} {K : PySem.W.Frag} {mg : Str → Option Value} {base : Heap}
abbrev nmLN : List Str := ["_law_draw", "_law_signs", "_law_k"]
theorem sc_law_name : FnScope nmLN ["_law_draw"] (C8.fnScope s_law_name) := C8.fnScope_by (by decide +kernel)
theorem ok_law_name (T : Txt K mg) : C8.Cal P w K mg base 1 "_law_name" sp_law_name [] := by
  obtain ⟨f, fd, F, b⟩ := T.D_law_name
  refine C8.cal0 F b .nil sc_law_name (fun vs H Q E h => ?_) (fun cdv A outer s H vs Q E hr h => ?_)
  · obtain ⟨d, rfl, _⟩ := h
    rfl
  · obtain ⟨d, rfl, ⟨hd0, hd1⟩, k⟩ := h
    refine ⟨_, pss_cons (ps_set (i := 1) sc_law_name.nd rfl (Or.inr rfl) pe_str)
      (pss_one (ps_ret (pe_join pe_str (pe_lc (own := [("_law_k", 2)]) (g := gName 2) (tt := tYes) rfl sc_law_name.nd (pi_range1 (by rfl) T.f_range (pa_cons (pe_op op_add pe_int (pe_op op_mod (pv 0) pe_int)) pa_nil)) (blkOk_by (own := [("_law_k", 2)]) (N := nmLN) (sc := C8.fnScope s_law_name) (by decide +kernel))
        (fun _ _ _ _ _ => pg_name (i := 2) sc_law_name.nd rfl (Or.inl rfl)) (fun _ _ _ _ _ => pts_nil) (fun _ _ _ _ _ => pe_ix ix_str (pv 1) (pe_op op_mod (pe_op op_fdiv (pv 0) (pe_op op_add pe_int (pe_op op_mul pe_int (pv 2)))) pe_int) (fun _ _ => rfl)))))), ?_⟩
    have h0 : 0 ≤ d % 8 := Int.emod_nonneg _ (by decide)
    have h1 : d % 8 < 8 := Int.emod_lt_of_pos _ (by decide)
    refine ⟨⟨_, rfl⟩, _, rfl, _, _, rfl, rfl, (by show (0 : Int) < 8; decide), _, _, rfl, rfl, _, rfl, by omega, by omega, fun D hD => ?_⟩
    generalize hn : (1 + d % 8).toNat = n
    refine lc_range (lo := 0) (n := n) (fun i H' => Same H H' ∧ ∃ cs : List Nat, cs.length = i ∧ (∀ c ∈ cs, c ∈ CD) ∧ H' D = some (.lst ((cs.map sg).map V.str))) ⟨same_up (Same.refl _) hD, [], rfl, (fun c h => by cases h), upd_same⟩ ?_ ?_
    · rintro i H' hi ⟨s1, cs, hl, hcs, hR⟩
      obtain ⟨c, hc, hcd⟩ := law_sign (d / (1 + 7 * (0 + ((i : Nat) : Int))))
      refine ⟨rfl, lcT (iteT ?_)⟩
      refine ⟨_, rfl, _, rfl, _, rfl, _, _, rfl, rfl, .inl ⟨by omega, by omega⟩, _, _, rfl, rfl, _, _, rfl, rfl, ⟨by omega, by omega⟩, _, _, rfl, rfl, (by show (0 : Int) < 10; decide), _, _, c, rfl, rfl, (by decide +kernel), hc, ?_⟩
      refine ⟨_, hR, ?_, same_up s1 hD, cs ++ [c], ?_, ?_, ?_⟩
      · rw [List.length_map, List.length_map]
        exact lt_line (by omega)
      · rw [List.length_append, hl]
        rfl
      · intro x hx
        rcases List.mem_append.mp hx with q | q
        · exact hcs x q
        · rw [List.mem_singleton.mp q]
          exact hcd
      · rw [upd_same, List.map_append, List.map_append]
        rfl
    · rintro H' ⟨s1, cs, hl, hcs, hR⟩
      have etl : (SX.S cs).cps.toList = cs := rfl
      have elen : (SX.S cs).length = cs.length := by rw [← len_tl, etl]
      refine ⟨_, D, cs.map sg, rfl, rfl, .inl (SqL.of hR), ?_, ?_⟩
      · rw [len_signs, List.length_map]
        have e0 : ("" : Str).length = 0 := by decide +kernel
        rw [e0]
        omega
      · have ej : Txt.join ("" : Str) (cs.map sg) = SX.S cs := join_signs (SX.S cs)
        rw [ej]
        exact k H' _ s1 ⟨by omega, by omega, by rw [etl]; exact hcs⟩
end
end Dw
/-! K19: the law's files. -/
namespace Dw
open PySem PySem.Spec PyProof.Rows L2
theorem inV_str (z : Str) : ∀ ns : List Str, inV (.str z) (ns.map V.str) = decide (z ∈ ns)
  | [] => rfl
  | a :: r => by
    show ((a == z) || inV (.str z) (r.map V.str)) = _
    rw [inV_str z r]
    by_cases e : a = z
    · subst e
      rw [decide_eq_true (List.mem_cons_self ..), beq_self_eq_true]
      rfl
    · have e2 : (a == z) = false := beq_false_of_ne e
      rw [e2, Bool.false_or]
      by_cases g : z ∈ r
      · rw [decide_eq_true g, decide_eq_true (List.mem_cons_of_mem _ g)]
      · rw [decide_eq_false g, decide_eq_false (fun q => by
          rcases List.mem_cons.mp q with q | q
          · exact e q.symm
          · exact g q)]
theorem flat_strs : ∀ ns : List Str, (ns.map V.str).all flatV = true
  | [] => rfl
  | a :: r => by
    show (true && (r.map V.str).all flatV) = true
    rw [flat_strs r]
    rfl
/-- tuples of a name and a list, none of them one of two cells -/
def FTx (H : Hp) (F N : Addr) (ts : List Addr) (fs : List (Str × List Int)) : Prop := ts.length = fs.length ∧ ∀ (i : Nat) (t : Addr) (f : Str × List Int), ts[i]? = some t → fs[i]? = some f → (t ≠ F ∧ t ≠ N) ∧ ∃ q : Addr, (q ≠ F ∧ q ≠ N) ∧ H t = some (.tup [.str f.1, .ref q]) ∧ OI H q f.2
section
variable {H H1 : Hp} {F N : Addr} {ts : List Addr} {fs : List (Str × List Int)} {o : HO}
theorem FTx.to (h : FTx H F N ts fs) : FTs H ts fs := ⟨h.1, fun i t f h1 h2 => by
  obtain ⟨_, q, _, a, b⟩ := h.2 i t f h1 h2
  exact ⟨q, a, b⟩⟩
theorem FTx.same (h : FTx H F N ts fs) (s : Same H H1) : FTx H1 F N ts fs := ⟨h.1, fun i t f h1 h2 => by
  obtain ⟨n, q, m, a, b⟩ := h.2 i t f h1 h2
  exact ⟨n, q, m, s _ _ a, s _ _ b⟩⟩
theorem FTx.updF (h : FTx H F N ts fs) : FTx (upd H F o) F N ts fs := ⟨h.1, fun i t f h1 h2 => by
  obtain ⟨n, q, m, a, b⟩ := h.2 i t f h1 h2
  exact ⟨n, q, m, (upd_ne n.1).trans a, (upd_ne m.1).trans b⟩⟩
theorem FTx.updN (h : FTx H F N ts fs) : FTx (upd H N o) F N ts fs := ⟨h.1, fun i t f h1 h2 => by
  obtain ⟨n, q, m, a, b⟩ := h.2 i t f h1 h2
  exact ⟨n, q, m, (upd_ne n.2).trans a, (upd_ne m.2).trans b⟩⟩
theorem FTx.snoc (h : FTx H F N ts fs) {t q : Addr} {f : Str × List Int} (ht : t ≠ F ∧ t ≠ N) (hq : q ≠ F ∧ q ≠ N) (a : H t = some (.tup [.str f.1, .ref q])) (b : OI H q f.2) : FTx H F N (ts ++ [t]) (fs ++ [f]) := by
  refine ⟨by rw [List.length_append, List.length_append, h.1] <;> rfl, fun i t' f' h1 h2 => ?_⟩
  by_cases hi : i < ts.length
  · rw [List.getElem?_append_left hi] at h1
    rw [List.getElem?_append_left (h.1 ▸ hi)] at h2
    exact h.2 i t' f' h1 h2
  · rw [List.getElem?_append_right (by omega)] at h1
    rw [List.getElem?_append_right (by rw [← h.1]; omega), ← h.1] at h2
    have e : i - ts.length = 0 := by
      have := get_lt h1
      exact Nat.lt_one_iff.mp this
    rw [e] at h1 h2
    cases h1
    cases h2
    exact ⟨ht, q, hq, a, b⟩
end
theorem FilesOk.snoc {fs : List (Str × List Int)} (h : FilesOk fs) (hl : fs.length < 4) {z : Str} {bs : List Int} (hz : NameOk z) (hn : z ∉ fs.map (·.1)) (hb : bs.length ≤ 50) (hr : ∀ n ∈ bs, 0 ≤ n ∧ n ≤ 255) : FilesOk (fs ++ [(z, bs)]) where
  many := by
    rw [List.length_append]
    show fs.length + 1 ≤ 4
    omega
  name := fun f hf => by
    rcases List.mem_append.mp hf with q | q
    · exact h.name f q
    · rw [List.mem_singleton.mp q]
      exact hz
  nd := by
    rw [List.map_append]
    refine List.nodup_append.mpr ⟨h.nd, List.nodup_cons.mpr ⟨(by intro q; cases q), List.nodup_nil⟩, fun a ha b hb e => ?_⟩
    rw [e, List.mem_singleton.mp hb] at ha
    exact hn ha
  len := fun f hf => by
    rcases List.mem_append.mp hf with q | q
    · exact h.len f q
    · rw [List.mem_singleton.mp q]
      exact hb
  byte := fun f hf => by
    rcases List.mem_append.mp hf with q | q
    · exact h.byte f q
    · rw [List.mem_singleton.mp q]
      exact hr
theorem FilesOk.none : FilesOk [] := ⟨Nat.zero_le _, fun f h => (by cases h), List.nodup_nil, fun f h => (by cases h), fun f h => (by cases h)⟩
def sp_law_files : Sp := fun vs H Q _ => ∃ (a : Addr) (ds : List Int) (m : Nat), vs = [.ref a, .int 3, .int (m : Nat), .int 50] ∧ OI H a ds ∧ ds.length = 60 ∧ (∀ d ∈ ds, 0 ≤ d ∧ d < 4096) ∧ m ≤ 4 ∧
  ∀ H' p ts fs, Same H H' → H' p = some (.lst (ts.map V.ref)) → FTs H' ts fs → FilesOk fs → Q (.ref p) H'
/-- a draw -/
theorem draw_at {ds : List Int} (hl : ds.length = 60) (hd : ∀ d ∈ ds, 0 ≤ d ∧ d < 4096) (x : Int) : ∃ d : Int, atI (ds.map V.int) (x % 60) = some (.int d) ∧ 0 ≤ d ∧ d < 4096 := by
  have h0 : 0 ≤ x % 60 := Int.emod_nonneg _ (by decide)
  have h1 : x % 60 < 60 := Int.emod_lt_of_pos _ (by decide)
  obtain ⟨n, hn⟩ := Int.eq_ofNat_of_zero_le h0
  have hlt : n < ds.length := by omega
  refine ⟨ds[n]'hlt, ?_, hd _ (List.getElem_mem hlt)⟩
  rw [hn]
  exact atI_nat (get_map (List.getElem?_eq_getElem hlt))
section
variable {P : Program} {w : World} {K : PySem.W.Frag} {mg : Str → Option Value} {base : Heap}
abbrev nmLF : List Str := ["_law_draws_here", "_law_at", "_law_many", "_law_most", "_law_found", "_law_names", "_law_k", "_law_d", "_law_name_here", "_law_size", "_law_j"]
theorem sc_law_files : FnScope nmLF ["_law_draws_here", "_law_at", "_law_many", "_law_most"] (C8.fnScope s_law_files) := C8.fnScope_by (by decide +kernel)
theorem ok_law_files (T : Txt K mg) : C8.Cal P w K mg base 2 "_law_files" sp_law_files [] := by
  obtain ⟨f, fd, F, b⟩ := T.D_law_files
  have cN : C8.Cal P w K mg base 1 "_law_name" sp_law_name [] := ok_law_name T
  refine C8.cal0 F b .nil sc_law_files (fun vs H Q E h => ?_) (fun cdv A outer s H vs Q E hr h => ?_)
  · obtain ⟨a, ds, m, rfl, _⟩ := h
    rfl
  · obtain ⟨a, ds, m, rfl, hA, hl, hd, hm, k⟩ := h
    refine ⟨_, pss_cons (ps_set (i := 4) sc_law_files.nd rfl (Or.inl rfl) (pe_lst pa_nil))
      (pss_cons (ps_set (i := 5) sc_law_files.nd rfl (Or.inl rfl) (pe_lst pa_nil))
      (pss_cons (ps_for PassesOwn.never rfl (pi_range1 (by rfl) T.f_range (pa_cons (pv 2) pa_nil)) (pg_name (i := 6) sc_law_files.nd rfl (Or.inl rfl))
        (pss_cons (ps_set (i := 7) sc_law_files.nd rfl (Or.inr rfl) (pe_ix ix_list (pv 0) (pe_op op_mod (pe_op op_add (pv 1) (pv 6)) (pe_callB call_len_seq (by rfl) T.f_len PySem.boot_len (pa_cons (pv 0) pa_nil))) (fun _ _ => rfl)))
        (pss_cons (ps_set (i := 8) sc_law_files.nd rfl (Or.inl rfl) (C8.pe_c cN hr (by decide) (by rfl) (pa_cons (pv 7) pa_nil)))
        (pss_one (ps_if (pt_cmpR op_notIn_seq (pv 8) (pv 5) (by rfl))
          (pss_cons (ps_expr (pe_bm PySem.F.plainAttrs_list PySem.F.slot_list_append PySem.F.type_list_append mt_append (pv 5) (pa_cons (pv 8) pa_nil)))
          (pss_cons (ps_set (i := 9) sc_law_files.nd rfl (Or.inl rfl) (pe_op op_mod (pe_ix ix_list (pv 0) (pe_op op_mod (pe_op op_add (pe_op op_add (pv 1) pe_int) (pv 6)) (pe_callB call_len_seq (by rfl) T.f_len PySem.boot_len (pa_cons (pv 0) pa_nil))) (fun _ _ => rfl)) (pe_op op_add (pv 3) pe_int)))
          (pss_one (ps_expr (pe_bm PySem.F.plainAttrs_list PySem.F.slot_list_append PySem.F.type_list_append mt_append (pv 4) (pa_cons (pe_tup (pa_cons (pv 8) (pa_cons
            (pe_lc (own := [("_law_j", 10)]) (g := gName 10) (tt := tYes) rfl sc_law_files.nd (pi_range1 (by rfl) T.f_range (pa_cons (pv 9) pa_nil)) (blkOk_by (own := [("_law_j", 10)]) (N := nmLF) (sc := C8.fnScope s_law_files) (by decide +kernel))
              (fun _ _ _ _ _ => pg_name (i := 10) sc_law_files.nd rfl (Or.inl rfl)) (fun _ _ _ _ _ => pts_nil) (fun _ _ _ _ _ => pe_op op_mod (pe_op op_add (pe_op op_mul (pv 7) (pe_op op_add (pv 10) pe_int)) (pe_op op_fdiv (pv 10) pe_int)) pe_int)) pa_nil))) pa_nil)))))) pss_nil)))))
      (pss_one (ps_ret (pv 4))))), ?_⟩
    refine ⟨Nat.zero_le _, fun F hF => ⟨Nat.zero_le _, fun N hN => ?_⟩⟩
    have sF := same_up (o := HO.lst []) (Same.refl H) hF
    have hN' : H N = none := Same.free sF hN
    have nFN : F ≠ N := ne_of_none upd_same hN
    refine ⟨_, rfl, _, rfl, by omega, by omega, ?_⟩
    rw [Int.toNat_natCast]
    refine for_range (lo := 0) (n := m) (fun i σ H' => ∃ (o6 o7 o8 o9 : Option V) (ts : List Addr) (fs : List (Str × List Int)), σ = [some (.ref a), some (.int 3), some (.int (m : Nat)), some (.int 50), some (.ref F), some (.ref N), o6, o7, o8, o9, none] ∧
      Same H H' ∧ H' F = some (.lst (ts.map V.ref)) ∧ H' N = some (.lst ((fs.map (·.1)).map V.str)) ∧ FTx H' F N ts fs ∧ FilesOk fs ∧ fs.length ≤ i)
      ⟨none, none, none, none, [], [], rfl, same_up sF hN', (upd_ne nFN).trans upd_same, upd_same, ⟨rfl, fun i t f h => (by cases h)⟩, FilesOk.none, Nat.le_refl _⟩ ?_ ?_
    · rintro i σ H' hi ⟨o6, o7, o8, o9, ts, fs, rfl, s1, hTF, hNN, hX, hok, hlen⟩
      obtain ⟨d, hda, hd0, hd1⟩ := draw_at hl hd (3 + (0 + ((i : Nat) : Int)))
      refine ⟨_, rfl, _, rfl, _, rfl, _, _, rfl, rfl, _, rfl, a, _, rfl, .inl (SqL.of (s1 _ _ hA)), ?_⟩
      rw [List.length_map, hl]
      refine ⟨_, _, rfl, rfl, (by show (0 : Int) < 60; decide), a, _, _, _, rfl, rfl, SqL.of (s1 _ _ hA), hda, ?_⟩
      refine ⟨_, rfl, d, rfl, ⟨hd0, hd1⟩, fun H2 z s2 hz => ?_⟩
      have hTF2 := s2 _ _ hTF
      have hNN2 := s2 _ _ hNN
      have s12 := s1.trans s2
      refine ⟨_, rfl, _, rfl, N, _, rfl, .inl (SqL.of hNN2), rfl, flat_strs _, ?_⟩
      rw [inV_str]
      refine ⟨_, rfl, ?_⟩
      by_cases hin : z ∈ fs.map (·.1)
      · rw [decide_eq_true hin]
        exact iteFd rfl ⟨_, _, _, _, ts, fs, rfl, s12, hTF2, hNN2, hX.same s2, hok, by omega⟩
      · rw [decide_eq_false hin]
        refine iteTd rfl ?_
        have hsz : (((fs.map (·.1)).map V.str)).length < sizeLine := by
          rw [List.length_map, List.length_map]
          exact lt_line (by omega)
        refine ⟨_, rfl, .inl ⟨rfl, _, SqL.of hNN2⟩, _, rfl, N, _, _, rfl, rfl, hNN2, hsz, ?_⟩
        have s3 := same_up (o := HO.lst ((fs.map (·.1)).map V.str ++ [.str z])) s12 hN'
        have hTF3 : upd H2 N (HO.lst ((fs.map (·.1)).map V.str ++ [.str z])) F = some (.lst (ts.map V.ref)) := (upd_ne nFN).trans hTF2
        have hX3 : FTx (upd H2 N (HO.lst ((fs.map (·.1)).map V.str ++ [.str z]))) F N ts fs := (hX.same s2).updN
        have hNN3 : upd H2 N (HO.lst ((fs.map (·.1)).map V.str ++ [.str z])) N = some (.lst ((fs.map (·.1)).map V.str ++ [.str z])) := upd_same
        generalize upd H2 N (HO.lst ((fs.map (·.1)).map V.str ++ [.str z])) = H3 at s3 hTF3 hX3 hNN3 ⊢
        obtain ⟨e, hea, he0, he1⟩ := draw_at hl hd (3 + 7 + (0 + ((i : Nat) : Int)))
        refine ⟨_, rfl, _, rfl, _, _, rfl, rfl, _, rfl, _, _, rfl, rfl, _, rfl, a, _, rfl, .inl (SqL.of (s3 _ _ hA)), ?_⟩
        rw [List.length_map, hl]
        refine ⟨_, _, rfl, rfl, (by show (0 : Int) < 60; decide), a, _, _, _, rfl, rfl, SqL.of (s3 _ _ hA), hea, _, rfl, _, _, rfl, rfl, _, _, rfl, rfl, (by show (0 : Int) < 50 + 1; decide), ?_⟩
        dsimp only
        have hs0 : 0 ≤ e % (50 + 1) := Int.emod_nonneg _ (by decide)
        have hs1 : e % (50 + 1) < 51 := Int.emod_lt_of_pos _ (by decide)
        generalize e % (50 + 1) = sz at hs0 hs1 ⊢
        refine ⟨_, rfl, .inl ⟨rfl, _, SqL.of hTF3⟩, _, rfl, _, rfl, _, rfl, by omega, by omega, fun D hD => ?_⟩
        have hD1 : H D = none := Same.free s3 hD
        have nDF : D ≠ F := (ne_of_none hTF3 hD).symm
        have nDN : D ≠ N := (ne_of_none hNN3 hD).symm
        generalize hn : sz.toNat = n
        refine lc_range (lo := 0) (n := n) (fun j H4 => Same H3 H4 ∧ ∃ bs : List Int, bs.length = j ∧ (∀ x ∈ bs, 0 ≤ x ∧ x ≤ 255) ∧ OI H4 D bs) ⟨same_up (Same.refl _) hD, [], rfl, (fun c h => by cases h), upd_same⟩ ?_ ?_
        · rintro j H4 hj ⟨s4, bs, hbl, hbr, hR⟩
          refine ⟨rfl, lcT (iteT ?_)⟩
          refine ⟨_, rfl, _, rfl, _, _, rfl, rfl, _, _, rfl, rfl, .inl ⟨by omega, by omega⟩, _, rfl, _, _, rfl, rfl, ⟨by decide, by decide⟩, _, _, rfl, rfl, _, _, rfl, rfl, (by show (0 : Int) < 256; decide), ?_⟩
          dsimp only
          generalize d * (0 + ((j : Nat) : Int) + 3) + (0 + ((j : Nat) : Int)) / 3 = u
          have hu0 : 0 ≤ u % 256 := Int.emod_nonneg _ (by decide)
          have hu1 : u % 256 < 256 := Int.emod_lt_of_pos _ (by decide)
          refine ⟨_, hR, ?_, same_up s4 hD, bs ++ [u % 256], ?_, ?_, ?_⟩
          · rw [List.length_map]
            exact lt_line (by omega)
          · rw [List.length_append, hbl]
            rfl
          · intro x hx
            rcases List.mem_append.mp hx with q | q
            · exact hbr x q
            · rw [List.mem_singleton.mp q]
              exact ⟨hu0, by omega⟩
          · show upd H4 D _ D = _
            rw [upd_same, List.map_append]
            rfl
        · rintro H4 ⟨s4, bs, hbl, hbr, hR⟩
          refine ⟨(by show 2 ≤ sizeLine; decide), fun t ht => ?_⟩
          have hTF4 := s4 _ _ hTF3
          have hNN4 := s4 _ _ hNN3
          have s34 := s3.trans s4
          have s5 := same_up (o := HO.tup [.str z, .ref D]) (Same.refl H4) ht
          have hTF5 := s5 _ _ hTF4
          refine ⟨F, _, _, rfl, rfl, hTF5, ?_, ?_⟩
          · rw [List.length_map, hX.1]
            exact lt_line (by omega)
          · have ntF : t ≠ F := (ne_of_none hTF4 ht).symm
            have ntN : t ≠ N := (ne_of_none hNN4 ht).symm
            refine ⟨_, _, _, _, ts ++ [t], fs ++ [(z, bs)], rfl, same_up (s34.trans s5) hF, ?_, ?_, ?_, hok.snoc (by omega) hz hin (by omega) hbr, ?_⟩
            · rw [upd_same, List.map_append]
              rfl
            · refine (upd_ne nFN.symm).trans ((s5 _ _ hNN4).trans ?_)
              rw [List.map_append, List.map_append]
              rfl
            · exact ((hX3.same (s4.trans s5)).snoc (f := (z, bs)) ⟨ntF, ntN⟩ ⟨nDF, nDN⟩ upd_same (s5 _ _ hR)).updF
            · rw [List.length_append]
              show fs.length + 1 ≤ i + 1
              omega
    · rintro σ H' ⟨o6, o7, o8, o9, ts, fs, rfl, s1, hTF, hNN, hX, hok, hlen⟩
      exact ⟨_, rfl, k H' F ts fs s1 hTF hX.to hok⟩
end
end Dw
/-! K20: the law's comparison of a reading. -/
namespace Dw
open PySem PySem.Spec PyProof.Rows L2
section
variable {P : Program} {w : World} {K : PySem.W.Frag} {mg : Str → Option Value} {base : Heap}
theorem sc_law_same_reading : FnScope ["_law_x", "_law_due", "_law_k"] ["_law_x", "_law_due"] (C8.fnScope s_law_same_reading) := C8.fnScope_by (by decide +kernel)
theorem ok_law_same_reading (T : Txt K mg) : C8.Cal P w K mg base 4 "_law_same_reading" sp_law_same_reading [] := by
  obtain ⟨f, fd, F, b⟩ := T.D_law_same_reading
  have cL : C8.Cal P w K mg base 3 "_law_is_list" sp_law_is_list [] := ok_law_is_list T
  have cT : C8.Cal P w K mg base 1 "_law_is_text" sp_law_is_text [] := ok_law_is_text T
  have cB : C8.Cal P w K mg base 1 "_law_is_bool" sp_law_is_bool [] := ok_law_is_bool T
  refine C8.cal0 F b .nil sc_law_same_reading (fun vs H Q E h => ?_) (fun cdv A outer s H vs Q E hr h => ?_)
  · obtain ⟨a, b, va, ru, vb, rb, ns, rfl, _⟩ := h
    rfl
  · obtain ⟨a, b, va, ru, vb, rb, ns, rfl, hA, hB, hva, hvb, hru, hrb, hl, k⟩ := h
    refine ⟨_, pss_cons (ps_if (PW.pt (pw_or (pt_not (pt_val (pe_callB call_isi (by rfl) T.f_isinstance (by decide +kernel) (pa_cons (pv 0) (pa_cons (pe_bltn (v := .ty "tuple") (by rfl) T.f_tuple boot_tuple rfl) pa_nil)))))
        (pw_or (pt_cmpR op_ne (pe_callB call_len_seq (by rfl) T.f_len PySem.boot_len (pa_cons (pv 0) pa_nil)) pe_int (nomark _))
        (pw_or (pt_not (pt_val (C8.pe_c cL hr (by decide) (by rfl) (pa_cons (pe_ix ix_tup (pv 0) pe_int (fun _ _ => rfl)) (pa_cons (pe_ix ix_tup (pv 1) pe_int (fun _ _ => rfl)) pa_nil)))))
        (pw_or (pt_not (pt_val (pe_callB call_isi (by rfl) T.f_isinstance (by decide +kernel) (pa_cons (pe_ix ix_tup (pv 0) pe_int (fun _ _ => rfl)) (pa_cons (pe_bltn (v := .ty "list") (by rfl) T.f_list boot_list rfl) pa_nil)))))
        (pw_or1 (pt_cmpR op_ne (pe_callB call_len_seq (by rfl) T.f_len PySem.boot_len (pa_cons (pe_ix ix_tup (pv 0) pe_int (fun _ _ => rfl)) pa_nil)) (pe_callB call_len_seq (by rfl) T.f_len PySem.boot_len (pa_cons (pe_ix ix_tup (pv 1) pe_int (fun _ _ => rfl)) pa_nil)) (nomark _)))))))) pss_never pss_nil)
      (pss_cons (ps_for PassesOwn.never rfl (pi_range1 (by rfl) T.f_range (pa_cons (pe_callB call_len_seq (by rfl) T.f_len PySem.boot_len (pa_cons (pe_ix ix_tup (pv 1) pe_int (fun _ _ => rfl)) pa_nil)) pa_nil)) (pg_name (i := 2) sc_law_same_reading.nd rfl (Or.inl rfl)) pss_never)
      (pss_one (ps_ret (pe_and (C8.pe_c cT hr (by decide) (by rfl) (pa_cons (pe_ix ix_tup (pv 0) pe_int (fun _ _ => rfl)) (pa_cons (pe_ix ix_tup (pv 1) pe_int (fun _ _ => rfl)) pa_nil))) (pe_one (C8.pe_c cB hr (by decide) (by rfl) (pa_cons (pe_ix ix_tup (pv 0) pe_int (fun _ _ => rfl)) (pa_cons (pe_ix ix_tup (pv 1) pe_int (fun _ _ => rfl)) pa_nil)))))))), ?_⟩
    have sA := SqT.of (K := K) hA
    have sB := SqT.of (K := K) hB
    have a0 : atI [V.ref va, V.ref ru, V.str "", V.bl true] (0 : Int) = some (.ref va) := atI_nat (j := 0) rfl
    have a1 : atI [V.ref va, V.ref ru, V.str "", V.bl true] (1 : Int) = some (.ref ru) := atI_nat (j := 1) rfl
    have a2 : atI [V.ref va, V.ref ru, V.str "", V.bl true] (2 : Int) = some (.str "") := atI_nat (j := 2) rfl
    have a3 : atI [V.ref va, V.ref ru, V.str "", V.bl true] (3 : Int) = some (.bl true) := atI_nat (j := 3) rfl
    have b0 : atI [V.ref vb, V.ref rb, V.str "", V.bl true] (0 : Int) = some (.ref vb) := atI_nat (j := 0) rfl
    have b1 : atI [V.ref vb, V.ref rb, V.str "", V.bl true] (1 : Int) = some (.ref rb) := atI_nat (j := 1) rfl
    have b2 : atI [V.ref vb, V.ref rb, V.str "", V.bl true] (2 : Int) = some (.str "") := atI_nat (j := 2) rfl
    have b3 : atI [V.ref vb, V.ref rb, V.str "", V.bl true] (3 : Int) = some (.bl true) := atI_nat (j := 3) rfl
    refine ⟨_, rfl, _, _, _, _, true, rfl, .ty "tuple", .base (.tup hA), kit_ty (by decide +kernel), _, rfl, ?_⟩
    refine iteFd rfl ⟨_, rfl, a, _, rfl, .inr sA, rfl, _, rfl, ?_⟩
    refine iteFd (show (!decide (V.int ((4 : Nat) : Int) = V.int 4)) = false by decide +kernel) ⟨_, rfl, a, _, _, _, rfl, rfl, sA, a0, _, rfl, b, _, _, _, rfl, rfl, sB, b0, va, vb, ns, rfl, hva, hvb, hl, _, rfl, ?_⟩
    refine iteFd rfl ⟨_, rfl, a, _, _, _, rfl, rfl, sA, a1, _, _, _, _, true, rfl, .ty "list", .base (.lst hru), kit_ty (by decide +kernel), _, rfl, ?_⟩
    refine iteFd rfl ⟨_, rfl, a, _, _, _, rfl, rfl, sA, a1, ru, _, rfl, .inl (SqL.of hru), _, rfl, b, _, _, _, rfl, rfl, sB, b1, rb, _, rfl, .inl (SqL.of hrb), rfl, _, rfl, ?_⟩
    refine iteFd (by decide +kernel) ?_
    refine ⟨_, rfl, b, _, _, _, rfl, rfl, sB, b1, rb, _, rfl, .inl (SqL.of hrb), _, rfl, by decide, by decide, for_range (lo := 0) (n := 0) (fun i σ H' => σ = [some (.ref a), some (.ref b), none] ∧ H' = H) ⟨rfl, rfl⟩ ?_ ?_⟩
    · intro i σ H' hi
      omega
    · rintro σ H' ⟨rfl, rfl⟩
      refine ⟨_, rfl, a, _, _, _, rfl, rfl, sA, a2, _, rfl, b, _, _, _, rfl, rfl, sB, b2, "", rfl, _, rfl, ?_⟩
      refine iteT ⟨_, rfl, a, _, _, _, rfl, rfl, sA, a3, _, rfl, b, _, _, _, rfl, rfl, sB, b3, rfl, k⟩
end
end Dw
/-! K21: the plain law. -/
namespace Dw
open PySem PySem.Spec PyProof.Rows L2
/-! ### numbers in range -/
theorem xor_lt {a b : Int} (h0 : 0 ≤ a) (h1 : a < 65536) (g0 : 0 ≤ b) (g1 : b < 65536) : 0 ≤ Builtin.bitXor a b ∧ Builtin.bitXor a b < 65536 := by
  rw [Bits.bitXor_pp h0 g0]
  have := Nat.xor_lt_two_pow (n := 16) (x := a.toNat) (y := b.toNat) (by omega) (by omega)
  omega
theorem foldl_keep {α β : Type} {p : β → Prop} {g : β → α → β} (h : ∀ b a, p b → p (g b a)) : ∀ (l : List α) (b : β), p b → p (l.foldl g b)
  | [], _, hb => hb
  | a :: r, b, hb => foldl_keep h r (g b a) (h b a hb)
def W16 (n : Int) : Prop := 0 ≤ n ∧ n < 65536
theorem stepB_16 (n b : Int) (_ : W16 n) : W16 (stepB n b) := by
  have h0 : 0 ≤ 2 * n % 65536 := Int.emod_nonneg _ (by decide)
  have h1 : 2 * n % 65536 < 65536 := Int.emod_lt_of_pos _ (by decide)
  unfold stepB
  by_cases e : n / 32768 = b
  · rw [if_pos e]
    exact ⟨h0, h1⟩
  · rw [if_neg e]
    exact xor_lt h0 h1 (by decide) (by decide)
theorem crc_16 (l : List Int) : W16 (crcM l) := foldl_keep (fun n v hn => foldl_keep stepB_16 (bitsM v) n hn) l 65535 ⟨by decide, by decide⟩
def By (l : List Int) : Prop := ∀ n ∈ l, 0 ≤ n ∧ n ≤ 255
theorem By.app {a b : List Int} (h : By a) (g : By b) : By (a ++ b) := fun n hn => by
  rcases List.mem_append.mp hn with q | q
  · exact h n q
  · exact g n q
theorem By.rep (k : Nat) : By (List.replicate k 0) := fun n hn => by
  rw [List.eq_of_mem_replicate hn]
  exact ⟨by decide, by decide⟩
theorem By.two {x : Int} (h : W16 x) : By (twoM x) := fun n hn => by
  obtain ⟨h0, h1⟩ := h
  rcases List.mem_cons.mp hn with q | q
  · rw [q]
    omega
  · rw [List.mem_singleton.mp q]
    omega
theorem By.nums {l : List Int} (h : ∀ x ∈ l, W16 x) : By (numsM l) := fun n hn => by
  obtain ⟨y, hy, hn⟩ := List.mem_flatMap.mp hn
  exact By.two (h y hy) n hn
theorem By.name {s : Str} (h : NameOk s) : By (nbM s) := fun n hn => by
  rcases List.mem_append.mp hn with q | q
  · obtain ⟨c, hc, rfl⟩ := List.mem_map.mp q
    have := cd_range c (h.cd c hc)
    omega
  · rw [List.eq_of_mem_replicate q]
    exact ⟨by decide, by decide⟩
theorem By.blk {l : List Int} (h : By l) (z i : Nat) : By (blk l z i) := By.app (fun n hn => h n (List.mem_of_mem_drop (List.mem_of_mem_take hn))) (By.rep _)
theorem By.filled {l : List Int} (h : By l) (z : Nat) : ∀ r ∈ filledM l z, By r := fun r hr => by
  obtain ⟨i, _, rfl⟩ := List.mem_map.mp hr
  exact h.blk z i
theorem filled_len {l : List Int} {z : Nat} : ∀ r ∈ filledM l z, r.length = z := fun r hr => by
  obtain ⟨i, _, rfl⟩ := List.mem_map.mp hr
  exact blk_len l z i
/-! ### parts of a block -/
theorem blk_slice {l : List Int} {z q r w : Nat} (h1 : r + w ≤ z) (h2 : q * z + r + w ≤ l.length) : ((blk l z q).drop r).take w = (l.drop (q * z + r)).take w := by
  unfold blk
  have hl : ((l.drop (q * z)).take z).length = min z (l.length - q * z) := by rw [List.length_take, List.length_drop]
  rw [List.drop_append_of_le_length (by omega), List.take_append_of_le_length (by rw [List.length_drop]; omega), List.drop_take, List.take_take, List.drop_drop, Nat.min_eq_left (by omega)]
theorem blk_get {l : List Int} {z q r : Nat} (h1 : r < z) (h2 : q * z + r < l.length) : (blk l z q)[r]? = l[q * z + r]? := by
  unfold blk
  rw [List.getElem?_append_left (by rw [List.length_take, List.length_drop]; omega), List.getElem?_take, if_pos h1, List.getElem?_drop]
theorem filledM_get {l : List Int} {z k : Nat} (h : k < nb l.length z) : (filledM l z)[k]? = some (blk l z k) := get_map (List.getElem?_range h)
theorem nums_at : ∀ {l : List Int} {i : Nat} {x : Int}, l[i]? = some x → ((numsM l).drop (2 * i)).take 2 = twoM x
  | [], _, _, h => by simp at h
  | y :: r, 0, x, h => by
    have e : y = x := Option.some.inj h
    subst e
    rfl
  | y :: r, i + 1, x, h => by
    have ih := nums_at (l := r) (i := i) (x := x) (by rw [← h, List.getElem?_cons_succ])
    show ((twoM y ++ numsM r).drop (2 * i + 2)).take 2 = twoM x
    rw [← ih, Nat.add_comm (2 * i) 2, ← List.drop_drop]
    rfl
theorem ents_at {z : Nat} {R : List Int} : ∀ {fs : List Fl} {s i : Nat} {f : Fl}, (∀ g ∈ fs, NameOk g.1) → fs[i]? = some f → ((entsM z s fs ++ R).drop (16 * i)).take 16 = entM z (s + usedM z (fs.take i)) f
  | [], _, _, _, _, h => by simp at h
  | g :: r, s, 0, f, hn, h => by
    have e : g = f := Option.some.inj h
    subst e
    have hl : (entM z s g).length = 16 := entM_len (hn g List.mem_cons_self)
    show ((entM z s g ++ entsM z (s + nbF z g) r) ++ R).take 16 = entM z s g
    rw [List.append_assoc, List.take_append_of_le_length (by omega), List.take_of_length_le (by omega)]
  | g :: r, s, i + 1, f, hn, h => by
    have hl : (entM z s g).length = 16 := entM_len (hn g List.mem_cons_self)
    have ih := ents_at (z := z) (R := R) (fs := r) (s := s + nbF z g) (i := i) (f := f) (fun x hx => hn x (List.mem_cons_of_mem _ hx)) (by rw [← h, List.getElem?_cons_succ])
    show (((entM z s g ++ entsM z (s + nbF z g) r) ++ R).drop (16 * i + 16)).take 16 = _
    rw [Nat.add_comm (16 * i) 16, ← List.drop_drop, List.append_assoc, List.drop_left' hl, ih, List.take_succ_cons, usedM_cons, Nat.add_assoc]
theorem chain_at (s k j : Nat) (h : j < k) : (chainM s k)[j]? = some (if j + 1 = k then 1 else ((s + j + 1 : Nat) : Int)) := get_map (List.getElem?_range h)
theorem chains_at {z : Nat} : ∀ {fs : List Fl} {s i j : Nat} {f : Fl}, fs[i]? = some f → j < nbF z f → (chainsM z s fs)[usedM z (fs.take i) + j]? = some (if j + 1 = nbF z f then 1 else ((s + usedM z (fs.take i) + j + 1 : Nat) : Int))
  | [], _, _, _, _, h, _ => by simp at h
  | g :: r, s, 0, j, f, h, hj => by
    have e : g = f := Option.some.inj h
    subst e
    have e0 : usedM z ((g :: r).take 0) = 0 := rfl
    rw [e0, Nat.zero_add, Nat.add_zero, chainsM, List.getElem?_append_left (by rw [chainM_len]; exact hj)]
    exact chain_at s _ j hj
  | g :: r, s, i + 1, j, f, h, hj => by
    have ih := chains_at (z := z) (fs := r) (s := s + nbF z g) (i := i) (j := j) (f := f) (by rw [← h, List.getElem?_cons_succ]) hj
    rw [List.take_succ_cons, usedM_cons, chainsM, List.getElem?_append_right (by rw [chainM_len]; omega), chainM_len, show nbF z g + usedM z (r.take i) + j - nbF z g = usedM z (r.take i) + j by omega, ih]
    rw [show s + nbF z g + usedM z (r.take i) + j + 1 = s + (nbF z g + usedM z (r.take i)) + j + 1 by omega]
theorem data_at {z : Nat} : ∀ {fs : List Fl} {i j : Nat} {f : Fl}, fs[i]? = some f → j < nbF z f → (dataM z fs)[usedM z (fs.take i) + j]? = some (blk f.2 z j)
  | [], _, _, _, h, _ => by simp at h
  | g :: r, 0, j, f, h, hj => by
    have e : g = f := Option.some.inj h
    subst e
    have e0 : usedM z ((g :: r).take 0) = 0 := rfl
    rw [e0, Nat.zero_add]
    show (filledM g.2 z ++ dataM z r)[j]? = _
    rw [List.getElem?_append_left (by rw [filledM_len]; exact hj)]
    exact filledM_get hj
  | g :: r, i + 1, j, f, h, hj => by
    have ih := data_at (z := z) (fs := r) (i := i) (j := j) (f := f) (by rw [← h, List.getElem?_cons_succ]) hj
    have hl : (filledM g.2 z).length = nbF z g := filledM_len g.2 z
    rw [List.take_succ_cons, usedM_cons]
    show (filledM g.2 z ++ dataM z r)[_]? = _
    rw [List.getElem?_append_right (by omega), hl, show nbF z g + usedM z (r.take i) + j - nbF z g = usedM z (r.take i) + j by omega, ih]
theorem used_le {z c : Nat} : ∀ {fs : List Fl}, (∀ f ∈ fs, nbF z f ≤ c) → usedM z fs ≤ c * fs.length
  | [], _ => Nat.zero_le _
  | g :: r, h => by
    have ih := used_le (z := z) (c := c) (fs := r) (fun x hx => h x (List.mem_cons_of_mem _ hx))
    have h0 := h g List.mem_cons_self
    rw [usedM_cons, List.length_cons, Nat.mul_succ]
    omega
theorem used_take {z : Nat} : ∀ {fs : List Fl} {i : Nat} {f : Fl}, fs[i]? = some f → usedM z (fs.take i) + nbF z f ≤ usedM z fs
  | [], _, _, h => by simp at h
  | g :: r, 0, f, h => by
    have e : g = f := Option.some.inj h
    subst e
    have e0 : usedM z ((g :: r).take 0) = 0 := rfl
    rw [e0, usedM_cons]
    omega
  | g :: r, i + 1, f, h => by
    have ih := used_take (z := z) (fs := r) (i := i) (f := f) (by rw [← h, List.getElem?_cons_succ])
    rw [List.take_succ_cons, usedM_cons, usedM_cons]
    omega
theorem chains_16 {z : Nat} : ∀ {fs : List Fl} {s : Nat}, s + usedM z fs ≤ 10000 → ∀ y ∈ chainsM z s fs, W16 y
  | [], _, _ => fun y hy => by cases hy
  | g :: r, s, h => fun y hy => by
    rw [usedM_cons] at h
    rcases List.mem_append.mp hy with q | q
    · obtain ⟨i, hi, rfl⟩ := List.mem_map.mp q
      have hi := List.mem_range.mp hi
      by_cases e : i + 1 = nbF z g
      · rw [if_pos e]
        exact ⟨by decide, by decide⟩
      · rw [if_neg e]
        exact ⟨by omega, by omega⟩
    · exact chains_16 (by omega) y q
theorem tab_16 {z F n : Nat} {fs : List Fl} (h : F + usedM z fs ≤ 10000) : ∀ y ∈ tabM z F n fs, W16 y := fun y hy => by
  rcases List.mem_append.mp hy with q | q
  · rcases List.mem_append.mp q with q | q
    · rw [List.eq_of_mem_replicate q]
      exact ⟨by decide, by decide⟩
    · exact chains_16 h y q
  · rw [List.eq_of_mem_replicate q]
    exact ⟨by decide, by decide⟩
theorem ents_by {z : Nat} : ∀ {fs : List Fl} {s : Nat}, (∀ f ∈ fs, NameOk f.1) → (∀ f ∈ fs, f.2.length ≤ 50) → s + usedM z fs ≤ 10000 → By (entsM z s fs)
  | [], _, _, _, _ => fun n hn => by cases hn
  | g :: r, s, hn, hl, h => by
    rw [usedM_cons] at h
    have h50 := hl g List.mem_cons_self
    have hst : stM s (nbF z g) ≤ s := by
      unfold stM
      by_cases e : 0 < nbF z g
      · rw [if_pos e]
        exact Nat.le_refl _
      · rw [if_neg e]
        exact Nat.zero_le _
    refine By.app (By.app (By.app (By.name (hn g List.mem_cons_self)) (By.two ⟨by omega, by omega⟩)) (By.app (By.app (By.two ⟨by omega, by omega⟩) (By.two ⟨by omega, by omega⟩)) (By.two (crc_16 g.2)))) ?_
    exact ents_by (fun x hx => hn x (List.mem_cons_of_mem _ hx)) (fun x hx => hl x (List.mem_cons_of_mem _ hx)) (by omega)
end Dw
/-! K21B: the plain law, the disc as a whole. -/
namespace Dw
open PySem PySem.Spec PyProof.Rows L2
theorem at_l {α : Type} {A B : List α} {i : Nat} (h : i < A.length) : (A ++ B)[i]? = A[i]? := List.getElem?_append_left h
theorem at_r {α : Type} {A B : List α} {a i : Nat} (h : A.length = a) : (A ++ B)[a + i]? = B[i]? := by
  rw [List.getElem?_append_right (by omega), ← h, Nat.add_sub_cancel_left]
/-- the rows by their places -/
structure Rw (z n : Nat) (fs : List Fl) : Prop where
  len : (rowsM z n fs).length = n
  head : (rowsM z n fs)[0]? = some (headM n (tN n z) ++ List.replicate (z - 6) 0)
  tab1 : ∀ k, k < tN n z → (rowsM z n fs)[1 + k]? = some (blk (numsM (tabM z (fN n z) n fs)) z k)
  tab2 : ∀ k, k < tN n z → (rowsM z n fs)[1 + tN n z + k]? = some (blk (numsM (tabM z (fN n z) n fs)) z k)
  dir : ∀ k, k < 4 → (rowsM z n fs)[1 + 2 * tN n z + k]? = some (blk (dirM z (fN n z) fs) z k)
  data : ∀ j, j < usedM z fs → (rowsM z n fs)[fN n z + j]? = (dataM z fs)[j]?
  by_ : ∀ r ∈ rowsM z n fs, r.length = z ∧ By r
theorem dirM_len {z F : Nat} {fs : List Fl} (hF : FilesOk fs) (hd : 16 * fs.length ≤ 4 * z) : (dirM z F fs).length = 4 * z := by
  unfold dirM
  rw [List.length_append, List.length_replicate, entsM_len hF.name]
  omega
theorem rw_of {fs : List Fl} (hF : FilesOk fs) {z n : Nat} (h6 : 6 ≤ z) (h1 : nb 6 z = 1) (h4 : nb (4 * z) z = 4) (hd : 16 * fs.length ≤ 4 * z) (fit : fN n z + usedM z fs ≤ n) (hn : n ≤ 10000) (ht : tN n z ≤ 255) : Rw z n fs := by
  have hA0 : filledM (headM n (tN n z)) z = [headM n (tN n z) ++ List.replicate (z - 6) 0] := by
    have e6 : (headM n (tN n z)).length = 6 := rfl
    have eb : blk (headM n (tN n z)) z 0 = headM n (tN n z) ++ List.replicate (z - 6) 0 := by
      unfold blk
      rw [Nat.zero_mul, List.drop_zero, List.take_of_length_le (by omega), e6]
    unfold filledM
    rw [e6, h1]
    show [blk (headM n (tN n z)) z 0] = _
    rw [eb]
  have hBl : (numsM (tabM z (fN n z) n fs)).length = 2 * n := by rw [numsM_len, tabM_len fit]
  have hB : (filledM (numsM (tabM z (fN n z) n fs)) z).length = tN n z := by
    rw [filledM_len, hBl]
    rfl
  have hDl : (dirM z (fN n z) fs).length = 4 * z := dirM_len hF hd
  have hC : (filledM (dirM z (fN n z) fs) z).length = 4 := by rw [filledM_len, hDl, h4]
  have hD : (dataM z fs).length = usedM z fs := dataM_len z fs
  have h0 : (rows0 z n fs).length = fN n z + usedM z fs := by
    unfold rows0
    rw [List.length_append, List.length_append, List.length_append, List.length_append, hA0, hB, hC, hD]
    show 1 + (tN n z + tN n z) + 4 + usedM z fs = 1 + 2 * tN n z + 4 + usedM z fs
    omega
  have hs : rowsM z n fs = [headM n (tN n z) ++ List.replicate (z - 6) 0] ++ (filledM (numsM (tabM z (fN n z) n fs)) z ++ (filledM (numsM (tabM z (fN n z) n fs)) z ++ (filledM (dirM z (fN n z) fs) z ++ (dataM z fs ++ List.replicate (n - (fN n z + usedM z fs)) (List.replicate z 0))))) := by
    unfold rowsM
    rw [h0]
    unfold rows0
    rw [hA0, List.append_assoc, List.append_assoc, List.append_assoc, List.append_assoc]
  have fe : fN n z = 1 + 2 * tN n z + 4 := rfl
  have hH : [headM n (tN n z) ++ List.replicate (z - 6) 0].length = 1 := rfl
  refine ⟨?_, ?_, fun k hk => ?_, fun k hk => ?_, fun k hk => ?_, fun j hj => ?_, fun r hr => ?_⟩
  · unfold rowsM
    rw [List.length_append, h0, List.length_replicate]
    omega
  · rw [hs]
    rfl
  · rw [hs, at_r hH, at_l (by omega)]
    exact filledM_get (by rw [hBl]; exact hk)
  · rw [hs, Nat.add_assoc, at_r hH, at_r hB, at_l (by omega)]
    exact filledM_get (by rw [hBl]; exact hk)
  · rw [hs, show 1 + 2 * tN n z + k = 1 + (tN n z + (tN n z + k)) by omega, at_r hH, at_r hB, at_r hB, at_l (by omega)]
    exact filledM_get (by rw [hDl, h4]; exact hk)
  · rw [hs, show fN n z + j = 1 + (tN n z + (tN n z + (4 + j))) by omega, at_r hH, at_r hB, at_r hB, at_r hC, at_l (by omega)]
  · rw [hs] at hr
    have c16 : ∀ y ∈ tabM z (fN n z) n fs, W16 y := tab_16 (by omega)
    have bN : By (numsM (tabM z (fN n z) n fs)) := By.nums c16
    have bD : By (dirM z (fN n z) fs) := By.app (ents_by hF.name hF.len (by omega)) (By.rep _)
    have bH : By (headM n (tN n z)) := By.app (By.app (fun x hx => by
      rcases List.mem_cons.mp hx with q | q
      · rw [q]; decide
      · rw [List.mem_singleton.mp q]; decide) (By.two ⟨by omega, by omega⟩)) (fun x hx => by
      rcases List.mem_cons.mp hx with q | q
      · rw [q]; exact ⟨by omega, by omega⟩
      · rw [List.mem_singleton.mp q]; decide)
    rcases List.mem_append.mp hr with q | q
    · rw [List.mem_singleton.mp q]
      refine ⟨?_, By.app bH (By.rep _)⟩
      rw [List.length_append, List.length_replicate]
      show 6 + (z - 6) = z
      omega
    rcases List.mem_append.mp q with q | q
    · exact ⟨filled_len r q, bN.filled z r q⟩
    rcases List.mem_append.mp q with q | q
    · exact ⟨filled_len r q, bN.filled z r q⟩
    rcases List.mem_append.mp q with q | q
    · exact ⟨filled_len r q, bD.filled z r q⟩
    rcases List.mem_append.mp q with q | q
    · obtain ⟨f, hf, hr2⟩ := List.mem_flatMap.mp q
      exact ⟨filled_len r hr2, By.filled (hF.byte f hf) z r hr2⟩
    · rw [List.eq_of_mem_replicate q]
      exact ⟨List.length_replicate, By.rep _⟩
/-! ### the table's entries -/
def tabG (z n : Nat) (fs : List Fl) (i : Nat) : Int := (tabM z (fN n z) n fs).getD i 0
theorem tabG_of {z n : Nat} {fs : List Fl} {i : Nat} {x : Int} (h : (tabM z (fN n z) n fs)[i]? = some x) : tabG z n fs i = x := by
  unfold tabG
  rw [List.getD_eq_getElem?_getD, h]
  rfl
theorem tabG_chain {z n : Nat} {fs : List Fl} {i j : Nat} {f : Fl} (h : fs[i]? = some f) (hj : j < nbF z f) : tabG z n fs (fN n z + usedM z (fs.take i) + j) = if j + 1 = nbF z f then 1 else ((fN n z + usedM z (fs.take i) + j + 1 : Nat) : Int) := by
  refine tabG_of (Eq.trans ?_ (chains_at (s := fN n z) h hj))
  have hu := used_take (z := z) h
  unfold tabM
  rw [at_l (by rw [tab_pre]; omega), Nat.add_assoc, at_r List.length_replicate]
theorem fine_of {fs : List Fl} (hF : FilesOk fs) {z m n : Nat} (zm : z = 16 * m) (m0 : 0 < m) (m1 : m ≤ 32) (hev : ∀ i, 2 * i % z + 2 ≤ z) (R : Rw z n fs) (hd : fs.length ≤ 4 * m) (fit : fN n z + usedM z fs ≤ n) (n0 : 4 ≤ n) (hn : n ≤ 2000)
    (t0 : 0 < tN n z) (tz0 : 2 * n ≤ tN n z * z) (tz1 : tN n z * z ≤ 2 * n + z) (tz2 : (tN n z - 1) * z ≤ 2 * n) (tz3 : 2 * n - (tN n z - 1) * z ≤ z) : Good z m (tN n z) (rowsM z n fs) fs (tabG z n fs) := by
  have z0 : 0 < z := by omega
  have fe : ft (tN n z) = fN n z := rfl
  have hBl : (numsM (tabM z (fN n z) n fs)).length = 2 * n := by rw [numsM_len, tabM_len fit]
  have hDl : (dirM z (fN n z) fs).length = 4 * z := dirM_len hF (by omega)
  have hEl : (entsM z (fN n z) fs).length = 16 * fs.length := entsM_len hF.name _
  have hk4 : ∀ k, k < 4 → k * z + z ≤ 4 * z := fun k hk => by
    have := Nat.mul_le_mul_right z (show k + 1 ≤ 4 by omega)
    rw [Nat.succ_mul] at this
    exact this
  have hk16 : ∀ k j, k * z + 16 * j = 16 * (k * m + j) := fun k j => by
    rw [zm, Nat.mul_add, Nat.mul_left_comm]
  refine ⟨?_, ?_, ?_, hF, ?_, ?_, ?_, ?_, ?_, ?_⟩
  · -- the head
    refine ⟨⟨_, R.head, rfl, ?_, ?_, rfl, rfl⟩, by rw [R.len], by rw [R.len, fe]; omega, by rw [R.len]; exact hn, z0, by omega⟩
    · rw [R.len]
      exact numM_two _
    · show (List.replicate (z - 6) (0 : Int)).sum = 0
      rw [List.sum_replicate_int]
      omega
  · -- the directory
    refine ⟨zm, m0, m1, by rw [entsE_len]; exact hd, fun k hk => ⟨_, R.dir k hk, fun j e hj he => ?_, fun j hj he => ?_⟩, fun e he => ?_, by rw [entsE_nm]; exact hF.nd, fun e he => ?_⟩
    · obtain ⟨f, hf, rfl⟩ := entsE_at z he
      have hi := get_lt hf
      have h16 := hk4 k hk
      rw [blk_slice (by omega) (by omega), hk16, entE_bytes]
      exact ents_at hF.name hf
    · rw [entsE_len] at he
      have h16 := hk4 k hk
      have e16 := hk16 k j
      rw [blk_get (by omega) (by omega), e16, ← he]
      unfold dirM
      rw [List.getElem?_append_right (by omega)]
      exact List.getElem?_replicate_of_lt (by omega)
    · obtain ⟨i, hi⟩ := List.mem_iff_getElem?.mp he
      obtain ⟨f, hf, rfl⟩ := entsE_at z hi
      exact hF.name f (get_mem hf)
    · obtain ⟨i, hi⟩ := List.mem_iff_getElem?.mp he
      obtain ⟨f, hf, rfl⟩ := entsE_at z hi
      have h50 := hF.len f (get_mem hf)
      have hnz : 4 * 16 ≤ n * z := Nat.mul_le_mul n0 (by omega)
      rw [R.len]
      show ((f.2.length : Nat) : Int) ≤ _
      omega
  · -- the table
    intro i hi
    rw [R.len] at hi
    have hx : (tabM z (fN n z) n fs)[i]? = some ((tabM z (fN n z) n fs)[i]'(by rw [tabM_len fit]; exact hi)) := List.getElem?_eq_getElem _
    have hq : 2 * i / z < tN n z := (Nat.div_lt_iff_lt_mul z0).mpr (by omega)
    have hdm : 2 * i / z * z + 2 * i % z = 2 * i := Nat.div_add_mod' ..
    refine ⟨_, hq, R.tab1 _ hq, ?_⟩
    rw [blk_slice (hev i) (by omega), hdm, nums_at hx, numM_two, tabG_of hx]
  · -- the chains
    intro i f hf
    have hu := used_take (z := z) hf
    rw [fe]
    by_cases hk : nbF z f = 0
    · have es : stM (fN n z + usedM z (fs.take i)) (nbF z f) = 0 := if_neg (by omega)
      rw [es]
      exact ⟨⟨fun _ => rfl, fun h => by omega, fun h => by omega, fun j h => by omega, fun h => by omega⟩, fun j hj => absurd hj (by show ¬ j < nbF z f; omega)⟩
    · have es : stM (fN n z + usedM z (fs.take i)) (nbF z f) = fN n z + usedM z (fs.take i) := if_pos (by omega)
      rw [es]
      refine ⟨⟨fun h => absurd h hk, fun _ => by rw [fe]; omega, fun _ => by rw [R.len]; omega, fun j h => ?_, fun _ => ?_⟩, fun j hj => ?_⟩
      · rw [tabG_chain hf (by omega), if_neg (by omega)]
      · rw [show fN n z + usedM z (fs.take i) + nbF z f - 1 = fN n z + usedM z (fs.take i) + (nbF z f - 1) by omega, tabG_chain hf (by omega), if_pos (by omega)]
      · have hj' : j < nbF z f := hj
        refine ⟨_, (by rw [Nat.add_assoc, R.data _ (by omega)]; exact data_at hf hj'), ?_⟩
        have hl : ((f.2.drop (j * z)).take z).length = min z (f.2.length - j * z) := by rw [List.length_take, List.length_drop]
        unfold blk
        exact List.take_left' hl
  · intro k hk
    exact ⟨_, R.tab1 k hk, R.tab2 k hk⟩
  · intro i hi
    rw [fe] at hi
    refine tabG_of ?_
    unfold tabM
    rw [List.append_assoc, at_l (by rw [List.length_replicate]; exact hi)]
    exact List.getElem?_replicate_of_lt hi
  · intro i h1 h2
    rw [fe] at h1
    rw [R.len] at h2
    refine tabG_of ?_
    unfold tabM
    rw [List.getElem?_append_right (by rw [tab_pre]; exact h1), tab_pre]
    exact List.getElem?_replicate_of_lt (by omega)
  · have e : (rowsM z n fs)[tN n z]? = some (blk (numsM (tabM z (fN n z) n fs)) z (tN n z - 1)) := by
      have := R.tab1 (tN n z - 1) (by omega)
      rw [show 1 + (tN n z - 1) = tN n z by omega] at this
      exact this
    refine ⟨_, e, ?_⟩
    rw [R.len]
    have em : tN n z * z = (tN n z - 1) * z + z := by
      rw [← Nat.succ_mul, show (tN n z - 1).succ = tN n z by omega]
    have hl : (((numsM (tabM z (fN n z) n fs)).drop ((tN n z - 1) * z)).take z).length = z - (tN n z * z - 2 * n) := by
      rw [List.length_take, List.length_drop, hBl]
      omega
    unfold blk
    rw [List.drop_left' hl, List.sum_replicate_int]
    omega
  · rw [R.len]
    exact ⟨tz0, tz1⟩
theorem fine {fs : List Fl} (hF : FilesOk fs) {z n : Nat} (hz : z = 16 ∨ z = 32 ∨ z = 64) (h0 : 34 + 2 * fs.length ≤ n) (h1 : n ≤ 37 + 2 * fs.length) : SizesOk z n fs ∧ Blocks (z : Nat) (rowsM z n fs) ∧ ∃ (m t : Nat) (tab : Nat → Int), Good z m t (rowsM z n fs) fs tab := by
  have hmany := hF.many
  have key : ∀ c m : Nat, z = 16 * m → 0 < m → m ≤ 4 → ((z : Nat) : Int) ∈ szI → (∀ i, 2 * i % z + 2 ≤ z) → nb 6 z = 1 → nb (4 * z) z = 4 → usedM z fs ≤ c * fs.length → fN n z + c * fs.length ≤ n → 0 < tN n z → tN n z ≤ 255 → 2 * n ≤ tN n z * z → tN n z * z ≤ 2 * n + z →
      (tN n z - 1) * z ≤ 2 * n → 2 * n - (tN n z - 1) * z ≤ z → SizesOk z n fs ∧ Blocks (z : Nat) (rowsM z n fs) ∧ ∃ (m t : Nat) (tab : Nat → Int), Good z m t (rowsM z n fs) fs tab := by
    intro c m zm m0 m1 hsz hev e6 e4 hu hf t0 t1 tz0 tz1 tz2 tz3
    have fit : fN n z + usedM z fs ≤ n := by omega
    have R : Rw z n fs := rw_of hF (by omega) e6 e4 (by omega) fit (by omega) t1
    refine ⟨⟨hsz, by omega, by omega, by omega, fit⟩, ⟨by rw [R.len]; omega, by rw [R.len]; omega, hsz, fun r hr => by rw [(R.by_ r hr).1], fun r hr => (R.by_ r hr).2⟩, m, _, _, fine_of hF zm m0 (by omega) hev R (by omega) fit (by omega) (by omega) t0 tz0 tz1 tz2 tz3⟩
  have hc : ∀ c, (∀ l, l ≤ 50 → nb l z ≤ c) → usedM z fs ≤ c * fs.length := fun c hc => used_le fun f hf => hc _ (hF.len f hf)
  rcases hz with rfl | rfl | rfl
  · have et : tN n 16 = (2 * n + 15) / 16 := rfl
    have ef : fN n 16 = 1 + 2 * tN n 16 + 4 := rfl
    refine key 4 1 rfl (by decide) (by decide) (by decide) (fun i => by omega) (by decide) (by decide) (hc 4 fun l hl => ?_) ?_ ?_ ?_ ?_ ?_ ?_ ?_
    · show (l + 16 - 1) / 16 ≤ 4
      omega
    all_goals omega
  · have et : tN n 32 = (2 * n + 31) / 32 := rfl
    have ef : fN n 32 = 1 + 2 * tN n 32 + 4 := rfl
    refine key 2 2 rfl (by decide) (by decide) (by decide) (fun i => by omega) (by decide) (by decide) (hc 2 fun l hl => ?_) ?_ ?_ ?_ ?_ ?_ ?_ ?_
    · show (l + 32 - 1) / 32 ≤ 2
      omega
    all_goals omega
  · have et : tN n 64 = (2 * n + 63) / 64 := rfl
    have ef : fN n 64 = 1 + 2 * tN n 64 + 4 := rfl
    refine key 1 4 rfl (by decide) (by decide) (by decide) (fun i => by omega) (by decide) (by decide) (hc 1 fun l hl => ?_) ?_ ?_ ?_ ?_ ?_ ?_ ?_
    · show (l + 64 - 1) / 64 ≤ 1
      omega
    all_goals omega
end Dw
/-! K22: the law. -/
namespace Dw
open PySem PySem.Spec PyProof.Rows L2
def spLaw (K : PySem.W.Frag) : Sp := fun vs H Q _ => ∃ (a : Addr) (ns : List Int), vs = [.ref a] ∧ SqL K H a (ns.map V.int) ∧ ∀ H', Q (.bl true) H'
theorem size_at (x : Int) : ∃ z : Nat, atI ([16, 32, 64].map V.int) (x % 3) = some (.int (z : Nat)) ∧ (z = 16 ∨ z = 32 ∨ z = 64) := by
  have h0 : 0 ≤ x % 3 := Int.emod_nonneg _ (by decide)
  have h1 : x % 3 < 3 := Int.emod_lt_of_pos _ (by decide)
  have h : x % 3 = ((0 : Nat) : Int) ∨ x % 3 = ((1 : Nat) : Int) ∨ x % 3 = ((2 : Nat) : Int) := by omega
  rcases h with e | e | e
  · exact ⟨16, by rw [e]; exact atI_nat (j := 0) rfl, .inl rfl⟩
  · exact ⟨32, by rw [e]; exact atI_nat (j := 1) rfl, .inr (.inl rfl)⟩
  · exact ⟨64, by rw [e]; exact atI_nat (j := 2) rfl, .inr (.inr rfl)⟩
theorem draw_n {ds : List Int} (hl : ds.length = 60) (hd : ∀ d ∈ ds, 0 ≤ d ∧ d < 4096) (j : Nat) (hj : j < 60) : ∃ d : Int, atI (ds.map V.int) ((j : Nat) : Int) = some (.int d) ∧ 0 ≤ d ∧ d < 4096 := by
  have hlt : j < ds.length := by omega
  exact ⟨ds[j]'hlt, atI_nat (get_map (List.getElem?_eq_getElem hlt)), hd _ (List.getElem_mem hlt)⟩
section
variable {P : Program} {w : World} {K : PySem.W.Frag} {mg : Str → Option Value} {base : Heap}
abbrev nmLaw : List Str := ["_law_script", "_law_draws_here", "_law_size", "_law_files_here", "_law_count", "_law_disc", "_law_name_here", "_law_values"]
theorem sc_law : FnScope nmLaw ["_law_script"] (C8.fnScope s_law) := C8.fnScope_by (by decide +kernel)
theorem ok_law (T : Txt K mg) {f : Addr} {fd : FuncData} (F : C8.Fun K "law" "law" s_law f fd) : FnOk P w K mg base C8.CX0 8 f fd ["_law_script"] (spLaw K) := by
  have cCell : C8.Cal P w K mg base 1 "_law_cell" (sp_law_cell K) [] := ok_law_cell T
  have cDraw : C8.Cal P w K mg base 1 "_law_draws" sp_law_draws [] := ok_law_draws T
  have cFile : C8.Cal P w K mg base 2 "_law_files" sp_law_files [] := ok_law_files T
  have cMake : C8.Cal P w K mg base 4 "make_chains" (sp_make_chains K) [] := ok_make_chains T
  have cTexts : C8.Cal P w K mg base 2 "_law_is_texts" sp_law_is_texts [] := ok_law_is_texts T
  have cCF : C8.Cal P w K mg base 5 "chain_files" (sp_chain_files K) [] := ok_chain_files T
  have cSame : C8.Cal P w K mg base 4 "_law_same_reading" sp_law_same_reading [] := ok_law_same_reading T
  have cRead : C8.Cal P w K mg base 5 "read_chain" (sp_read_chain K) [] := ok_read_chain T
  have cSound : C8.Cal P w K mg base 6 "is_sound" (sp_is_sound K) [] := ok_is_sound T
  have cFaults : C8.Cal P w K mg base 5 "directory_faults" (sp_directory_faults K) [] := ok_directory_faults T
  refine C8.fn0 F sc_law (fun vs H Q E h => ?_) (fun cdv A outer s H vs Q E hr h => ?_)
  · obtain ⟨a, ns, rfl, _⟩ := h
    rfl
  · obtain ⟨a, ns, rfl, hS, k⟩ := h
    refine ⟨_, pss_cons (ps_set (i := 1) sc_law.nd rfl (Or.inl rfl) (C8.pe_c cDraw hr (by decide) (by rfl) (pa_cons (C8.pe_c cCell hr (by decide) (by rfl) (pa_cons (pv 0) (pa_cons pe_int pa_nil))) (pa_cons pe_int pa_nil))))
      (pss_cons (ps_set (i := 2) sc_law.nd rfl (Or.inl rfl) (pe_ix ix_list (pe_lst (pa_cons pe_int (pa_cons pe_int (pa_cons pe_int pa_nil)))) (pe_op op_mod (pe_ix ix_list (pv 1) pe_int (fun _ _ => rfl)) pe_int) (fun _ _ => rfl)))
      (pss_cons (ps_set (i := 3) sc_law.nd rfl (Or.inl rfl) (C8.pe_c cFile hr (by decide) (by rfl) (pa_cons (pv 1) (pa_cons pe_int (pa_cons (pe_op op_mod (pe_ix ix_list (pv 1) pe_int (fun _ _ => rfl)) pe_int) (pa_cons pe_int pa_nil))))))
      (pss_cons (ps_set (i := 4) sc_law.nd rfl (Or.inl rfl) (pe_op op_add (pe_op op_add (pe_op op_add pe_int (pe_op op_mod (pe_ix ix_list (pv 1) pe_int (fun _ _ => rfl)) pe_int)) pe_int) (pe_op op_mul pe_int (pe_callB call_len_seq (by rfl) T.f_len PySem.boot_len (pa_cons (pv 3) pa_nil)))))
      (pss_cons (ps_set (i := 5) sc_law.nd rfl (Or.inl rfl) (C8.pe_c cMake hr (by decide) (by rfl) (pa_cons (pv 3) (pa_cons (pv 4) (pa_cons (pv 2) (pa_cons pe_int pa_nil))))))
      (pss_cons (ps_if (pt_not (pt_val (C8.pe_c cTexts hr (by decide) (by rfl) (pa_cons (C8.pe_c cCF hr (by decide) (by rfl) (pa_cons (pv 5) pa_nil)) (pa_cons
          (pe_lc (own := [("_law_name_here", 6), ("_law_values", 7)]) (g := gTup K 2 (gCons (gName 6) (gCons (gName 7) gNil))) (tt := tYes) (te := tVar 6) rfl sc_law.nd (pi_list (pv 3))
            (blkOk_by (own := [("_law_name_here", 6), ("_law_values", 7)]) (N := nmLaw) (sc := C8.fnScope s_law) (by decide +kernel))
            (fun _ _ _ _ _ => pg_tup rfl (pgs_cons (pg_name (i := 6) sc_law.nd rfl (Or.inl rfl)) (pgs_cons (pg_name (i := 7) sc_law.nd rfl (Or.inl rfl)) pgs_nil))) (fun _ _ _ _ _ => pts_nil)
            (fun _ _ _ _ _ => pv 6)) (pa_cons pe_str pa_nil)))))) pss_never pss_nil)
      (pss_cons (ps_for PassesOwn.never rfl (pi_list (pv 3)) (pg_tup rfl (pgs_cons (pg_name (i := 6) sc_law.nd rfl (Or.inl rfl)) (pgs_cons (pg_name (i := 7) sc_law.nd rfl (Or.inl rfl)) pgs_nil)))
        (pss_one (ps_if (pt_not (pt_val (C8.pe_c cSame hr (by decide) (by rfl) (pa_cons (C8.pe_c cRead hr (by decide) (by rfl) (pa_cons (pv 5) (pa_cons (pv 6) pa_nil))) (pa_cons
          (pe_tup (pa_cons (pv 7) (pa_cons (pe_lst pa_nil) (pa_cons pe_str (pa_cons pe_bl pa_nil))))) pa_nil))))) pss_never pss_nil)))
      (pss_one (ps_ret (pe_and (pe_cmpR op_isBl (C8.pe_c cSound hr (by decide) (by rfl) (pa_cons (pv 5) pa_nil)) pe_bl (nomark _)) (pe_one (pe_cmpR (op_eqD hr.units) (C8.pe_c cFaults hr (by decide) (by rfl) (pa_cons (pv 5) pa_nil)) (pe_tup (pa_cons (pe_lst pa_nil) (pa_cons (pe_lst pa_nil) pa_nil))) (nomark _)))))))))))), ?_⟩
    -- the draws
    refine ⟨_, rfl, a, ns, rfl, hS, fun c => ⟨c, rfl, fun H1 p ds s1 hds hl hd => ?_⟩⟩
    obtain ⟨d0, at0, _, _⟩ := draw_n hl hd 0 (by decide)
    obtain ⟨d1, at1, _, _⟩ := draw_n hl hd 1 (by decide)
    obtain ⟨d2, at2, _, _⟩ := draw_n hl hd 2 (by decide)
    obtain ⟨z, hat, hz⟩ := size_at d0
    refine ⟨(by show 3 ≤ sizeLine; decide), fun q hq => ?_⟩
    have hdq := up_of (o := HO.lst [.int 16, .int 32, .int 64]) hds hq
    have s2 := same_up (o := HO.lst [.int 16, .int 32, .int 64]) s1 (Same.free s1 hq)
    refine ⟨_, rfl, p, _, _, _, rfl, rfl, SqL.of hdq, at0, _, _, rfl, rfl, (by show (0 : Int) < 3; decide), q, _, _, _, rfl, rfl, SqL.of upd_same, hat, ?_⟩
    -- the files
    have m0 : 0 ≤ d1 % 5 := Int.emod_nonneg _ (by decide)
    have m1 : d1 % 5 < 5 := Int.emod_lt_of_pos _ (by decide)
    obtain ⟨m, hm⟩ := Int.eq_ofNat_of_zero_le m0
    refine ⟨_, rfl, _, rfl, p, _, _, _, rfl, rfl, SqL.of hdq, at1, _, _, rfl, rfl, (by show (0 : Int) < 5; decide), p, ds, m, ?_, hdq, hl, hd, by omega, fun H2 q3 ts fs s3 hT hts hF => ?_⟩
    · show [V.ref p, V.int 3, V.int (d1 % 5), V.int 50] = _
      rw [hm]
    have hd2 := s3 _ _ hdq
    have n0 : 0 ≤ d2 % 4 := Int.emod_nonneg _ (by decide)
    have n1 : d2 % 4 < 4 := Int.emod_lt_of_pos _ (by decide)
    have htl := hts.1
    have hmany := hF.many
    refine ⟨_, rfl, p, _, _, _, rfl, rfl, SqL.of hd2, at2, _, _, rfl, rfl, (by show (0 : Int) < 4; decide), _, _, rfl, rfl, _, _, rfl, rfl, _, rfl, q3, _, rfl, .inl (SqL.of hT), _, _, rfl, rfl, .inl ⟨by decide, by decide⟩, _, _, rfl, rfl, ?_⟩
    dsimp only
    rw [List.length_map, htl]
    obtain ⟨n, hn⟩ := Int.eq_ofNat_of_zero_le (show 0 ≤ 4 + d2 % 4 + 30 + 2 * ((fs.length : Nat) : Int) by omega)
    rw [hn]
    obtain ⟨hSz, hBl, m', t, tab, G⟩ := fine hF hz (n := n) (by omega) (by omega)
    -- the disc
    refine ⟨_, rfl, _, rfl, _, rfl, q3, ts, fs, n, z, rfl, hT, hts, hF, hSz, hBl, fun H3 pd s4 hD => ?_⟩
    have hT3 := s4 _ _ hT
    have hts3 := hts.same s4
    -- the names
    refine ⟨_, rfl, pd, z, m', t, _, fs, tab, rfl, hD, G, fun H4 q4 s5 hq4 => ?_⟩
    have hT4 := s5 _ _ hT3
    have hts4 := hts3.same s5
    refine ⟨_, rfl, q3, rfl, ⟨_, SqL.of hT4⟩, fun D0 hD0 => lc_list (K := K) (a := q3) (xs := ts.map V.ref) (fun i H' => Same H4 H' ∧ OS H' D0 ((fs.take i).map fun g => g.1)) ⟨same_up (Same.refl _) hD0, upd_same⟩ (fun i H' _ q => SqL.of (q.1 _ _ hT4)) ?_ ?_⟩
    · rintro i x H' hx ⟨s6, hL⟩
      obtain ⟨t6, ht6, rfl⟩ := map_get hx
      obtain ⟨g, q6, hg, htup, hq6⟩ := hts4.at ht6
      have hi := get_lt hg
      refine ⟨t6, _, rfl, SqT.of (s6 _ _ htup), rfl, _, _, rfl, _, _, rfl, rfl, rfl, lcT (iteT ?_)⟩
      refine ⟨_, rfl, _, hL, ?_, same_up s6 hD0, ?_⟩
      · rw [List.length_map, List.length_map, List.length_take]
        exact lt_line (by omega)
      · show upd H' D0 _ D0 = _
        rw [upd_same, take_snoc hg, List.map_append, List.map_append]
        rfl
    rintro H5 ⟨s6, hL⟩
    rw [List.take_of_length_le (by rw [List.length_map]; omega)] at hL
    have hq5 : OS H5 q4 (fs.map fun g => g.1) := by
      have e := s6 _ _ hq4
      show H5 q4 = _
      rw [e, List.map_map]
      rfl
    refine ⟨q4, D0, _, rfl, hq5, hL, by rw [List.length_map]; omega, _, rfl, ?_⟩
    have s46 := s5.trans s6
    have hT5 := s6 _ _ hT4
    have hts5 := hts4.same s6
    have hD5 := hD.same s46
    refine iteFd rfl ⟨_, rfl, q3, rfl, ⟨_, SqL.of hT5⟩, for_list (K := K) (a := q3) (xs := ts.map V.ref) (fun i σ H' => ∃ o6 o7 : Option V, σ = [some (.ref a), some (.ref p), some (.int (z : Nat)), some (.ref q3), some (.int (n : Nat)), some (.ref pd), o6, o7] ∧ Same H5 H') ⟨none, none, rfl, Same.refl _⟩ (fun i σ H' _ ⟨_, _, _, q⟩ => SqL.of (q _ _ hT5)) ?_ ?_⟩
    · rintro i x σ H' hx ⟨o6, o7, rfl, s7⟩
      obtain ⟨t6, ht6, rfl⟩ := map_get hx
      obtain ⟨g, q6, hg, htup, hq6⟩ := hts5.at ht6
      have hgl := hF.len g (get_mem hg)
      refine ⟨t6, _, rfl, SqT.of (s7 _ _ htup), rfl, _, _, rfl, _, _, rfl, rfl, ?_⟩
      refine ⟨_, rfl, _, rfl, pd, z, m', t, i, _, fs, tab, g, rfl, hD5.same s7, G, hg, fun H8 q8 va ru s8 hq8 hva hru => ?_⟩
      refine ⟨_, rfl, Nat.zero_le _, fun rb hrb => ⟨(by show 4 ≤ sizeLine; decide), fun qb hqb => ?_⟩⟩
      have s9 := same_up (o := HO.lst []) (Same.refl H8) hrb
      have s10 := same_up (o := HO.tup [.ref q6, .ref rb, .str "", .bl true]) s9 (Same.free s9 hqb)
      refine ⟨q8, qb, va, ru, q6, rb, g.2, rfl, s10 _ _ hq8, upd_same, s10 _ _ hva, s10 _ _ (s8 _ _ (s7 _ _ hq6)), s10 _ _ hru, up_of upd_same hqb, by omega, _, rfl, ?_⟩
      exact iteFd rfl ⟨_, _, rfl, s7.trans (s8.trans s10)⟩
    · rintro σ H' ⟨o6, o7, rfl, s7⟩
      refine ⟨_, rfl, pd, z, m', t, _, fs, tab, rfl, hD5.same s7, G, fun H8 s8 => ⟨_, _, rfl, rfl, _, rfl, ?_⟩⟩
      refine iteT ⟨_, rfl, pd, z, m', t, _, fs, tab, rfl, hD5.same (s7.trans s8), G, fun H9 q9 mi ba s9 hq9 hmi hba => ?_⟩
      refine ⟨Nat.zero_le _, fun r1 h1 => ⟨Nat.zero_le _, fun r2 h2 => ⟨(by show 2 ≤ sizeLine; decide), fun q10 h10 => ?_⟩⟩⟩
      have t1 := same_up (o := HO.lst []) (Same.refl H9) h1
      have t2 := same_up (o := HO.lst []) t1 (Same.free t1 h2)
      have t3 := same_up (o := HO.tup [.ref r1, .ref r2]) t2 (Same.free t2 h10)
      refine ⟨.tuple [.list [], .list []], .tuple [.list [], .list []], .tup (SqT.of (t3 _ _ hq9)) (.cons (.lst (SqL.of (t3 _ _ hmi)) .nil) (.cons (.lst (SqL.of (t3 _ _ hba)) .nil) .nil)),
        .tup (SqT.of upd_same) (.cons (.lst (SqL.of (up_of (up_of upd_same h2) h10)) .nil) (.cons (.lst (SqL.of (up_of upd_same h10)) .nil) .nil)), by decide +kernel, by decide +kernel, ?_⟩
      have e : PyData.eqv (.tuple [.list [], .list []]) (.tuple [.list [], .list []]) = true := SeqAt.eqv_refl _ (by decide +kernel)
      rw [e]
      exact k _
end
end Dw
/-! K23: the join. -/
namespace Dw
open PySem PySem.Spec PyProof.Rows L2
theorem facts {P : Program} {w : World} {K : PySem.W.Frag} {h : Heap} {mg : Str → Option Value} {f : Addr} (X : K.In h) (G : h.Ns mainGlobals mg) (hfa : mg ("law" : Str) = some (.ref f)) (c : Says K) :
    ∃ fd : FuncData, (∀ (s : Shared) (v : Value), BindsTo s fd ⟨[v], []⟩ [("_law_script", v)]) ∧ ∀ base : Heap, K.In base → base.Ns mainGlobals mg → FnOk P w K mg base C8.CX0 8 f fd ["_law_script"] (spLaw K) := by
  have T : Txt K mg := ⟨⟨h, X, G⟩, c⟩
  obtain ⟨fd, F⟩ := c.1.def_ 47 (d := d_law) rfl
  have e := hfa.symm.trans (T.glo (x := "law") 35 rfl)
  cases e
  have b := FunD.bindsA (ps := ["_law_script"]) F fun _ _ _ _ _ _ us hl => match us, hl with | [_], _ => rfl
  have F2 : FunD K "law" "law" (C8.fnArgs s_law) (C8.fnBody s_law) (C8.fnScope s_law) [] [] (He.ga K "law") fd := F
  obtain ⟨oc, od, dV, kV, doc, pm, an, cdv, ct, osl, e1, e2, e3, _⟩ := F2.ex
  exact ⟨fd, fun s v => b s [v] rfl, fun base _ _ => ok_law T ⟨oc, od, dV, kV, doc, pm, an, cdv, ct, osl, e1, e2, e3⟩⟩
end Dw
open PySem PySem.W PySem.Calls PyProof.Rows
theorem PySem.Challenge.cw_discwright_k46_whole_files_come_back_holds : PySem.Challenge.rw_discwright_k46_whole_files_come_back.Holds := by
  w_on; o_law
  refine HandSHeadRun.head_any (r := Dw.R) (q := view Dw.R.prog [64]) (H := Dw.hk) (ob := Dw.ob) (M := 4000) (loose := Dw.names) (d := HandSHeadRun.topDef Dw.R.prog 64) (kwd := []) Dw.ob_eq
    (by kernel_rfl) (fun s => by kernel_rfl) Dw.run (by kernel_rfl) (by kernel_rfl) (by kernel_rfl) (by rfl) (by first | assumption | decide +kernel) (by decide +kernel) ⟨rfl, rfl, rfl, rfl, rfl, by decide +kernel⟩ ?hw ?hc
  case hw => w_witness2
  case hc =>
    refine L2.walk_ofE (l := PySem.Challenge.rw_discwright_k46_whole_files_come_back) (n := 63) (k := 8) (x := "_law_script") (CX := C8.CX0) rfl (by decide) (by kernel_rfl) ⟨rfl, by decide, by decide⟩ ?F (fun _ _ _ _ z => z)
    intro w mg fa h Y G hmg0
    obtain ⟨K, KX, c⟩ := Y
    have hmg : mg ("law" : PySem.Str) = some (.ref fa) := by
      have e : (HandSHeadRun.topDef Dw.R.prog 64).name = ("law" : PySem.Str) := by kernel_rfl
      rw [← e]
      exact hmg0
    obtain ⟨fd, hb, hF⟩ := Dw.facts (P := (PySem.Challenge.rw_discwright_k46_whole_files_come_back).prog) (w := w) KX G hmg c
    exact ⟨K, fd, Dw.spLaw K, KX, hb, fun H a ns hl _ hS => ⟨a, ns, rfl, hS, fun _ => rfl⟩, hF⟩
