import PyProof.Rows.All
import Wide.All
import OpenK.AllK
import Wide.FinOn
import KE.KStateDown
import Lean
import HandS.ForMost
import HandS.Exc
import HandS.ExcOwn
import HandS.ExcCtx
import HandS.TryOnly
import HandS.WordsExc
import HandS.Hot
import HandS.HotCalls
import HandS.Defaults
import HandS.Flow
import HandS.Codes
import HandS.IsInst
import HandS.Deep
import HandS.More
import HandS.Wide
import HandS.Head0
import HandS.Head1
import HandS.Head2
import HandS.HeadEnd
import HandS.HeadHook1
import HandS.HeadHook2
import PySem.Challenge.RW_hushlink_k63_whole_store_survives_crashe
import HandS.RevTup
import HandS.Rev
import HandS.Walk
set_option Elab.async false
set_option linter.all false
set_option maxRecDepth 100000
set_option maxHeartbeats 4000000
/-! The text by places, and what the top leaves, as one structure. Printed by gen_head.py. -/
namespace Hush
open PySem PySem.Spec PyProof.Rows L2
def top (i : Nat) : Stmt := PySem.Challenge.pw_hushlink_k63_whole_store_survives_crashe.main.body.getD i (.Pass ⟨0, 0, 0, 0⟩)
abbrev s_to_little : Stmt := top 10
abbrev s_to_big : Stmt := top 11
abbrev s_from_big : Stmt := top 12
abbrev s_from_little : Stmt := top 13
abbrev s_byte_sum : Stmt := top 24
abbrev s_write_record : Stmt := top 25
abbrev s_record_end : Stmt := top 26
abbrev s_read_records : Stmt := top 27
abbrev s_is_name : Stmt := top 28
abbrev s_name_bytes : Stmt := top 29
abbrev s_bytes_name : Stmt := top 30
abbrev s_Disk_init : Stmt := inClass (top 33) 0
abbrev s_Disk_use_power : Stmt := inClass (top 33) 1
abbrev s_Disk_write : Stmt := inClass (top 33) 2
abbrev s_Disk_settle : Stmt := inClass (top 33) 3
abbrev s_Disk_cut : Stmt := inClass (top 33) 4
abbrev s_Disk_read : Stmt := inClass (top 33) 5
abbrev s_Disk_pending : Stmt := inClass (top 33) 6
abbrev s_Disk_arm : Stmt := inClass (top 33) 7
abbrev s_Disk_has_power : Stmt := inClass (top 33) 8
abbrev s_Disk_crash : Stmt := inClass (top 33) 9
abbrev s_Disk_crashes : Stmt := inClass (top 33) 10
abbrev s_small_power : Stmt := top 43
abbrev s_small_exponent : Stmt := top 44
abbrev s_check_key : Stmt := top 51
abbrev s_SmallSuite_init : Stmt := inClass (top 53) 0
abbrev s_SmallSuite_public : Stmt := inClass (top 53) 1
abbrev s_SmallSuite_is_weak : Stmt := inClass (top 53) 2
abbrev s_begin_body : Stmt := top 63
abbrev s_key_body : Stmt := top 64
abbrev s_read_begin : Stmt := top 65
abbrev s_read_key : Stmt := top 66
abbrev s_bank_start : Stmt := top 67
abbrev s_best_bank : Stmt := top 68
abbrev s_prepare : Stmt := top 69
abbrev s_Store_init : Stmt := inClass (top 70) 0
abbrev s_Store_take_record : Stmt := inClass (top 70) 1
abbrev s_Store_check_time : Stmt := inClass (top 70) 2
abbrev s_Store_keep_record : Stmt := inClass (top 70) 3
abbrev s_Store_pack : Stmt := inClass (top 70) 4
abbrev s_Store_seed : Stmt := inClass (top 70) 5
abbrev s_Store_secret : Stmt := inClass (top 70) 6
abbrev s_Store_next_number : Stmt := inClass (top 70) 7
abbrev s_Store_check_name : Stmt := inClass (top 70) 10
abbrev s_Store_keep_name : Stmt := inClass (top 70) 11
abbrev s_Store_release : Stmt := inClass (top 70) 12
abbrev s_Store_name_key : Stmt := inClass (top 70) 13
abbrev s_Store_names : Stmt := inClass (top 70) 15
abbrev s_Store_state : Stmt := inClass (top 70) 16
abbrev s_law_cell : Stmt := top 72
abbrev s_law_row : Stmt := top 73
abbrev s_law_names : Stmt := top 74
abbrev s_law_after : Stmt := top 75
abbrev s_law_call : Stmt := top 76
abbrev s_law_may : Stmt := top 77
abbrev s_law_needs : Stmt := top 78
abbrev s_law_size : Stmt := top 79
abbrev s_law_is_same : Stmt := top 80
abbrev s_law_again : Stmt := top 81
abbrev s_law_opened : Stmt := top 82
abbrev s_law_fill : Stmt := top 83
abbrev s_law : Stmt := top 84
/-- the function object at an address -/
def fdAt (K : PySem.W.Frag) (f : Addr) : FuncData := match K.lookup f with
  | some ⟨_, _, .func fd, _⟩ => fd
  | _ => PySem.W.fnOf "" "" (defArgs (.Pass ⟨0, 0, 0, 0⟩)) [] (defScope (.Pass ⟨0, 0, 0, 0⟩)) .none .none .none .none none .none .none
/-- a def of the text, by its place and statement -/
abbrev DefAt (K : PySem.W.Frag) (p : Str × Option Str) (x qual : Str) (st : Stmt) : Prop :=
  FunD K x qual (defArgs st) (defBody st) (defScope st) [] [] (He.fAd K p) (fdAt K (He.fAd K p))
theorem defAt_of {K : PySem.W.Frag} {p : Str × Option Str} {x qual : Str} {st : Stmt} {f : Addr} (hf : f = He.fAd K p) (h : ∃ fd, FunD K x qual (defArgs st) (defBody st) (defScope st) [] [] f fd) : DefAt K p x qual st := by
  subst hf
  obtain ⟨fd, h⟩ := h
  obtain ⟨oc, od, dV, kV, doc, pm, an, cdv, ct, osl, e, l, r⟩ := h.ex
  have q : fdAt K (He.fAd K p) = fd := by
    unfold fdAt
    rw [l]
  show FunD K x qual (defArgs st) (defBody st) (defScope st) [] [] (He.fAd K p) (fdAt K (He.fAd K p))
  rw [q]
  exact h
/-- what the top leaves -/
structure Txt (K : PySem.W.Frag) (mg : Str → Option Value) : Prop where
  g_HushError : mg "HushError" = some (.ref (He.ga K "HushError"))
  g_PowerLost : mg "PowerLost" = some (.ref (He.ga K "PowerLost"))
  g_Refused : mg "Refused" = some (.ref (He.ga K "Refused"))
  g_Disk : mg "Disk" = some (.ref (He.ga K "Disk"))
  g_SmallSuite : mg "SmallSuite" = some (.ref (He.ga K "SmallSuite"))
  g_Store : mg "Store" = some (.ref (He.ga K "Store"))
  g_to_little : mg "to_little" = some (.ref (He.ga K "to_little"))
  g_to_big : mg "to_big" = some (.ref (He.ga K "to_big"))
  g_from_big : mg "from_big" = some (.ref (He.ga K "from_big"))
  g_from_little : mg "from_little" = some (.ref (He.ga K "from_little"))
  g_byte_sum : mg "byte_sum" = some (.ref (He.ga K "byte_sum"))
  g_write_record : mg "write_record" = some (.ref (He.ga K "write_record"))
  g_record_end : mg "record_end" = some (.ref (He.ga K "record_end"))
  g_read_records : mg "read_records" = some (.ref (He.ga K "read_records"))
  g_is_name : mg "is_name" = some (.ref (He.ga K "is_name"))
  g_name_bytes : mg "name_bytes" = some (.ref (He.ga K "name_bytes"))
  g_bytes_name : mg "bytes_name" = some (.ref (He.ga K "bytes_name"))
  g_small_power : mg "small_power" = some (.ref (He.ga K "small_power"))
  g_small_exponent : mg "small_exponent" = some (.ref (He.ga K "small_exponent"))
  g_check_key : mg "check_key" = some (.ref (He.ga K "check_key"))
  g_begin_body : mg "begin_body" = some (.ref (He.ga K "begin_body"))
  g_key_body : mg "key_body" = some (.ref (He.ga K "key_body"))
  g_read_begin : mg "read_begin" = some (.ref (He.ga K "read_begin"))
  g_read_key : mg "read_key" = some (.ref (He.ga K "read_key"))
  g_bank_start : mg "bank_start" = some (.ref (He.ga K "bank_start"))
  g_best_bank : mg "best_bank" = some (.ref (He.ga K "best_bank"))
  g_prepare : mg "prepare" = some (.ref (He.ga K "prepare"))
  g_law_cell : mg "_law_cell" = some (.ref (He.ga K "_law_cell"))
  g_law_row : mg "_law_row" = some (.ref (He.ga K "_law_row"))
  g_law_names : mg "_law_names" = some (.ref (He.ga K "_law_names"))
  g_law_after : mg "_law_after" = some (.ref (He.ga K "_law_after"))
  g_law_call : mg "_law_call" = some (.ref (He.ga K "_law_call"))
  g_law_may : mg "_law_may" = some (.ref (He.ga K "_law_may"))
  g_law_needs : mg "_law_needs" = some (.ref (He.ga K "_law_needs"))
  g_law_size : mg "_law_size" = some (.ref (He.ga K "_law_size"))
  g_law_is_same : mg "_law_is_same" = some (.ref (He.ga K "_law_is_same"))
  g_law_again : mg "_law_again" = some (.ref (He.ga K "_law_again"))
  g_law_opened : mg "_law_opened" = some (.ref (He.ga K "_law_opened"))
  g_law_fill : mg "_law_fill" = some (.ref (He.ga K "_law_fill"))
  g_law : mg "law" = some (.ref (He.ga K "law"))
  z_len : mg "len" = none
  z_range : mg "range" = none
  z_list : mg "list" = none
  z_reversed : mg "reversed" = none
  z_isinstance : mg "isinstance" = none
  z_str : mg "str" = none
  z_ord : mg "ord" = none
  z_min : mg "min" = none
  z_sorted : mg "sorted" = none
  z_tuple : mg "tuple" = none
  z_int : mg "int" = none
  z_abs : mg "abs" = none
  i_LAST_KIND : ∃ t, mg "LAST_KIND" = some (.int 5 t)
  i_BODY_SIZE : ∃ t, mg "BODY_SIZE" = some (.int 65535 t)
  i_HEAD_SIZE : ∃ t, mg "HEAD_SIZE" = some (.int 3 t)
  i_TAIL_SIZE : ∃ t, mg "TAIL_SIZE" = some (.int 5 t)
  i_CLOSING : ∃ t, mg "CLOSING" = some (.int 255 t)
  i_SUM_MODULUS : ∃ t, mg "SUM_MODULUS" = some (.int 65521 t)
  i_BANK_SIZE : ∃ t, mg "BANK_SIZE" = some (.int 65536 t)
  i_GROUP : ∃ t, mg "GROUP" = some (.int 170141183460469231731687303715884105727 t)
  i_HALF_GROUP : ∃ t, mg "HALF_GROUP" = some (.int 85070591730234615865843651857942052863 t)
  i_BASE : ∃ t, mg "BASE" = some (.int 43 t)
  i_SECRET_BITS : ∃ t, mg "SECRET_BITS" = some (.int 124 t)
  i_LAST_NUMBER : ∃ t, mg "LAST_NUMBER" = some (.int 18446744073709551615 t)
  i_BEGIN : ∃ t, mg "BEGIN" = some (.int 1 t)
  i_COMPLETE : ∃ t, mg "COMPLETE" = some (.int 2 t)
  i_RESERVE : ∃ t, mg "RESERVE" = some (.int 3 t)
  i_KEEP : ∃ t, mg "KEEP" = some (.int 4 t)
  i_RELEASE : ∃ t, mg "RELEASE" = some (.int 5 t)
  i_BLOCK : ∃ t, mg "BLOCK" = some (.int 16 t)
  i_NAME_LIMIT : ∃ t, mg "NAME_LIMIT" = some (.int 64 t)
  i_NAME_SIZE : ∃ t, mg "NAME_SIZE" = some (.int 32 t)
  s_SIGNS : ∃ t, mg "SIGNS" = some (.str "abcdefghijklmnopqrstuvwxyz0123456789-" t)
  c_Disk : Cls K (He.ga K "Disk")
  k_Disk : Mk K (He.ga K "Disk") (He.ma K (He.ga K "Disk") "__init__")
  n_Disk_settled : NoAttr K (He.ga K "Disk") "_settled"
  n_Disk_fresh : NoAttr K (He.ga K "Disk") "_fresh"
  n_Disk_armed : NoAttr K (He.ga K "Disk") "_armed"
  n_Disk_deeds : NoAttr K (He.ga K "Disk") "_deeds"
  n_Disk_crashes : NoAttr K (He.ga K "Disk") "_crashes"
  c_SmallSuite : Cls K (He.ga K "SmallSuite")
  k_SmallSuite : Mk K (He.ga K "SmallSuite") (He.ma K (He.ga K "SmallSuite") "__init__")
  n_SmallSuite_name : NoAttr K (He.ga K "SmallSuite") "name"
  n_SmallSuite_key_size : NoAttr K (He.ga K "SmallSuite") "key_size"
  n_SmallSuite_tag_size : NoAttr K (He.ga K "SmallSuite") "tag_size"
  n_SmallSuite_digest_size : NoAttr K (He.ga K "SmallSuite") "digest_size"
  n_SmallSuite_block_size : NoAttr K (He.ga K "SmallSuite") "block_size"
  c_Store : Cls K (He.ga K "Store")
  k_Store : Mk K (He.ga K "Store") (He.ma K (He.ga K "Store") "__init__")
  n_Store_suite : NoAttr K (He.ga K "Store") "_suite"
  n_Store_disk : NoAttr K (He.ga K "Store") "_disk"
  n_Store_bank : NoAttr K (He.ga K "Store") "_bank"
  n_Store_crashes : NoAttr K (He.ga K "Store") "_crashes"
  n_Store_names : NoAttr K (He.ga K "Store") "_names"
  n_Store_limit : NoAttr K (He.ga K "Store") "_limit"
  n_Store_generation : NoAttr K (He.ga K "Store") "_generation"
  n_Store_seed : NoAttr K (He.ga K "Store") "_seed"
  n_Store_secret : NoAttr K (He.ga K "Store") "_secret"
  n_Store_next : NoAttr K (He.ga K "Store") "_next"
  m_Disk_use_power : Meth K (He.ga K "Disk") "use_power" (He.ma K (He.ga K "Disk") "use_power")
  m_Disk_write : Meth K (He.ga K "Disk") "write" (He.ma K (He.ga K "Disk") "write")
  m_Disk_settle : Meth K (He.ga K "Disk") "settle" (He.ma K (He.ga K "Disk") "settle")
  m_Disk_cut : Meth K (He.ga K "Disk") "cut" (He.ma K (He.ga K "Disk") "cut")
  m_Disk_read : Meth K (He.ga K "Disk") "read" (He.ma K (He.ga K "Disk") "read")
  m_Disk_pending : Meth K (He.ga K "Disk") "pending" (He.ma K (He.ga K "Disk") "pending")
  m_Disk_arm : Meth K (He.ga K "Disk") "arm" (He.ma K (He.ga K "Disk") "arm")
  m_Disk_has_power : Meth K (He.ga K "Disk") "has_power" (He.ma K (He.ga K "Disk") "has_power")
  m_Disk_crash : Meth K (He.ga K "Disk") "crash" (He.ma K (He.ga K "Disk") "crash")
  m_Disk_crashes : Meth K (He.ga K "Disk") "crashes" (He.ma K (He.ga K "Disk") "crashes")
  m_SmallSuite_public : Meth K (He.ga K "SmallSuite") "public" (He.ma K (He.ga K "SmallSuite") "public")
  m_SmallSuite_is_weak : Meth K (He.ga K "SmallSuite") "is_weak" (He.ma K (He.ga K "SmallSuite") "is_weak")
  m_Store_take_record : Meth K (He.ga K "Store") "take_record" (He.ma K (He.ga K "Store") "take_record")
  m_Store_check_time : Meth K (He.ga K "Store") "check_time" (He.ma K (He.ga K "Store") "check_time")
  m_Store_keep_record : Meth K (He.ga K "Store") "keep_record" (He.ma K (He.ga K "Store") "keep_record")
  m_Store_pack : Meth K (He.ga K "Store") "pack" (He.ma K (He.ga K "Store") "pack")
  m_Store_seed : Meth K (He.ga K "Store") "seed" (He.ma K (He.ga K "Store") "seed")
  m_Store_secret : Meth K (He.ga K "Store") "secret" (He.ma K (He.ga K "Store") "secret")
  m_Store_next_number : Meth K (He.ga K "Store") "next_number" (He.ma K (He.ga K "Store") "next_number")
  m_Store_check_name : Meth K (He.ga K "Store") "check_name" (He.ma K (He.ga K "Store") "check_name")
  m_Store_keep_name : Meth K (He.ga K "Store") "keep_name" (He.ma K (He.ga K "Store") "keep_name")
  m_Store_release : Meth K (He.ga K "Store") "release" (He.ma K (He.ga K "Store") "release")
  m_Store_name_key : Meth K (He.ga K "Store") "name_key" (He.ma K (He.ga K "Store") "name_key")
  m_Store_names : Meth K (He.ga K "Store") "names" (He.ma K (He.ga K "Store") "names")
  m_Store_state : Meth K (He.ga K "Store") "state" (He.ma K (He.ga K "Store") "state")
  x_PowerLost : PySem.W.excIn K (He.ga K "PowerLost") He.veBase "ValueError.__new__" = true ∧ PySem.W.keepIn K (.ref (He.ga K "PowerLost")) = true ∧ PySem.W.subIn K (.ref (He.ga K "PowerLost")) (.type "BaseException") = some true ∧ PySem.W.typeIn K (.ref (He.ga K "PowerLost")) = some (.type "type")
  x_Refused : PySem.W.excIn K (He.ga K "Refused") He.veBase "ValueError.__new__" = true ∧ PySem.W.keepIn K (.ref (He.ga K "Refused")) = true ∧ PySem.W.subIn K (.ref (He.ga K "Refused")) (.type "BaseException") = some true ∧ PySem.W.typeIn K (.ref (He.ga K "Refused")) = some (.type "type")
  e_PowerLost_PowerLost : PySem.W.exmOne K (.ref (He.ga K "PowerLost")) (.ref (He.ga K "PowerLost")) = some true
  e_Refused_PowerLost : PySem.W.exmOne K (.ref (He.ga K "Refused")) (.ref (He.ga K "PowerLost")) = some false
  e_Refused_HushError : PySem.W.exmOne K (.ref (He.ga K "Refused")) (.ref (He.ga K "HushError")) = some true
  F_to_little : DefAt K ("to_little", none) "to_little" "to_little" s_to_little
  F_to_big : DefAt K ("to_big", none) "to_big" "to_big" s_to_big
  F_from_big : DefAt K ("from_big", none) "from_big" "from_big" s_from_big
  F_from_little : DefAt K ("from_little", none) "from_little" "from_little" s_from_little
  F_byte_sum : DefAt K ("byte_sum", none) "byte_sum" "byte_sum" s_byte_sum
  F_write_record : DefAt K ("write_record", none) "write_record" "write_record" s_write_record
  F_record_end : DefAt K ("record_end", none) "record_end" "record_end" s_record_end
  F_read_records : DefAt K ("read_records", none) "read_records" "read_records" s_read_records
  F_is_name : DefAt K ("is_name", none) "is_name" "is_name" s_is_name
  F_name_bytes : DefAt K ("name_bytes", none) "name_bytes" "name_bytes" s_name_bytes
  F_bytes_name : DefAt K ("bytes_name", none) "bytes_name" "bytes_name" s_bytes_name
  F_Disk_init : DefAt K ("Disk", some "__init__") "__init__" "Disk.__init__" s_Disk_init
  F_Disk_use_power : DefAt K ("Disk", some "use_power") "use_power" "Disk.use_power" s_Disk_use_power
  F_Disk_write : DefAt K ("Disk", some "write") "write" "Disk.write" s_Disk_write
  F_Disk_settle : DefAt K ("Disk", some "settle") "settle" "Disk.settle" s_Disk_settle
  F_Disk_cut : DefAt K ("Disk", some "cut") "cut" "Disk.cut" s_Disk_cut
  F_Disk_read : DefAt K ("Disk", some "read") "read" "Disk.read" s_Disk_read
  F_Disk_pending : DefAt K ("Disk", some "pending") "pending" "Disk.pending" s_Disk_pending
  F_Disk_arm : DefAt K ("Disk", some "arm") "arm" "Disk.arm" s_Disk_arm
  F_Disk_has_power : DefAt K ("Disk", some "has_power") "has_power" "Disk.has_power" s_Disk_has_power
  F_Disk_crash : DefAt K ("Disk", some "crash") "crash" "Disk.crash" s_Disk_crash
  F_Disk_crashes : DefAt K ("Disk", some "crashes") "crashes" "Disk.crashes" s_Disk_crashes
  F_small_power : DefAt K ("small_power", none) "small_power" "small_power" s_small_power
  F_small_exponent : DefAt K ("small_exponent", none) "small_exponent" "small_exponent" s_small_exponent
  F_check_key : DefAt K ("check_key", none) "check_key" "check_key" s_check_key
  F_SmallSuite_init : DefAt K ("SmallSuite", some "__init__") "__init__" "SmallSuite.__init__" s_SmallSuite_init
  F_SmallSuite_public : DefAt K ("SmallSuite", some "public") "public" "SmallSuite.public" s_SmallSuite_public
  F_SmallSuite_is_weak : DefAt K ("SmallSuite", some "is_weak") "is_weak" "SmallSuite.is_weak" s_SmallSuite_is_weak
  F_begin_body : DefAt K ("begin_body", none) "begin_body" "begin_body" s_begin_body
  F_key_body : DefAt K ("key_body", none) "key_body" "key_body" s_key_body
  F_read_begin : DefAt K ("read_begin", none) "read_begin" "read_begin" s_read_begin
  F_read_key : DefAt K ("read_key", none) "read_key" "read_key" s_read_key
  F_bank_start : DefAt K ("bank_start", none) "bank_start" "bank_start" s_bank_start
  F_best_bank : DefAt K ("best_bank", none) "best_bank" "best_bank" s_best_bank
  F_prepare : DefAt K ("prepare", none) "prepare" "prepare" s_prepare
  F_Store_init : DefAt K ("Store", some "__init__") "__init__" "Store.__init__" s_Store_init
  F_Store_take_record : DefAt K ("Store", some "take_record") "take_record" "Store.take_record" s_Store_take_record
  F_Store_check_time : DefAt K ("Store", some "check_time") "check_time" "Store.check_time" s_Store_check_time
  F_Store_keep_record : DefAt K ("Store", some "keep_record") "keep_record" "Store.keep_record" s_Store_keep_record
  F_Store_pack : DefAt K ("Store", some "pack") "pack" "Store.pack" s_Store_pack
  F_Store_seed : DefAt K ("Store", some "seed") "seed" "Store.seed" s_Store_seed
  F_Store_secret : DefAt K ("Store", some "secret") "secret" "Store.secret" s_Store_secret
  F_Store_next_number : DefAt K ("Store", some "next_number") "next_number" "Store.next_number" s_Store_next_number
  F_Store_check_name : DefAt K ("Store", some "check_name") "check_name" "Store.check_name" s_Store_check_name
  F_Store_keep_name : DefAt K ("Store", some "keep_name") "keep_name" "Store.keep_name" s_Store_keep_name
  F_Store_release : DefAt K ("Store", some "release") "release" "Store.release" s_Store_release
  F_Store_name_key : DefAt K ("Store", some "name_key") "name_key" "Store.name_key" s_Store_name_key
  F_Store_names : DefAt K ("Store", some "names") "names" "Store.names" s_Store_names
  F_Store_state : DefAt K ("Store", some "state") "state" "Store.state" s_Store_state
  F_law_cell : DefAt K ("_law_cell", none) "_law_cell" "_law_cell" s_law_cell
  F_law_row : DefAt K ("_law_row", none) "_law_row" "_law_row" s_law_row
  F_law_names : DefAt K ("_law_names", none) "_law_names" "_law_names" s_law_names
  F_law_after : DefAt K ("_law_after", none) "_law_after" "_law_after" s_law_after
  F_law_call : DefAt K ("_law_call", none) "_law_call" "_law_call" s_law_call
  F_law_may : DefAt K ("_law_may", none) "_law_may" "_law_may" s_law_may
  F_law_needs : DefAt K ("_law_needs", none) "_law_needs" "_law_needs" s_law_needs
  F_law_size : DefAt K ("_law_size", none) "_law_size" "_law_size" s_law_size
  F_law_is_same : DefAt K ("_law_is_same", none) "_law_is_same" "_law_is_same" s_law_is_same
  F_law_again : DefAt K ("_law_again", none) "_law_again" "_law_again" s_law_again
  F_law_opened : DefAt K ("_law_opened", none) "_law_opened" "_law_opened" s_law_opened
  F_law_fill : DefAt K ("_law_fill", none) "_law_fill" "_law_fill" s_law_fill
  F_law : DefAt K ("law", none) "law" "law" s_law
end Hush
set_option Elab.async false
set_option linter.all false
set_option maxRecDepth 100000
set_option maxHeartbeats 4000000
/-! list(reversed(xs)), xs a list: a new list. -/
namespace HRev
open PySem PySem.Spec PyProof.Rows
section
variable {prog : Program} {w : World} {A : Around} {E : Value → Shared → Prop} {s : Shared}
theorem extend_rev {R : Result → Shared → Prop} {it l : Addr} {items : Array Value} (hh : A.handled = none) (hit : s.heap.IsRevIter it l ((items.size : Int) - 1)) (hl : s.heap.IsList l items) (hne : l ≠ it) (hn : items.size ≤ sizeLine)
    (S : Addr) (res : Value) (c0 : Nat) (hS : s.heap.get? S = some { cls := .type "list", data := .seq #[] c0 }) (hSi : S ≠ it) (hSl : S ≠ l)
    (hR : ∀ h' tk acc' c', (∀ b o, b ≠ S → b ≠ it → s.heap.get? b = some o → h'.get? b = some o) → h'.get? S = some { cls := .type "list", dict := none, data := .seq acc' c', slots := #[] } →
      ItemsOf (fun i v => items[items.size - 1 - i]? = some v) acc' items.size → R (.ok (.ret res)) { s with heap := h', toks := tk }) :
    wpAny (model prog w) A.in1 (Builtin.List.listExtendWith (.ref S) (.ref it) res)
      (fun fin s' => match fin with | .done f => R (.ok f) s' | .again c' => c'.quiet = true ∧ codeAny (model prog w) A c' R s') (fun e s' => R (.error e) s') s := by
  have W := (Walks.listRev (prog := prog) (w := w) (A := A.in1) hh it l hne items).toS
  have hSf : S ∉ [it, l] := by simp only [List.mem_cons, List.not_mem_nil, or_false, not_or]; exact ⟨hSi, hSl⟩
  have hT : s.TypeIs (.ref it) "list_reverseiterator" := hit.typeIs
  have h1 : Builtin.List.listSameRef (.ref S) (.ref it) = false := by simp [Builtin.List.listSameRef, hSi]
  unfold Builtin.List.listExtendWith
  refine wpAny_bind (wpAny_typeOf hT ?_)
  rw [if_neg (by rw [h1]; decide)]
  refine wpAny_bind (wpAny_pyIter_revIter hit ?_)
  refine wpAny_bind (wpAny_holding ?_)
  unfold Builtin.List.listLengthHint
  refine wpAny_bind (wpAny_specialOf hT RT.nolen_lri ?_)
  show wpAny _ A.in1 (specialOf (Value.ref it) (Str.ofString "__length_hint__") >>= _) _ _ _
  refine wpAny_bind (wpAny_specialOf hT RT.hint_lri ?_)
  generalize hid : ("list_reverseiterator.__length_hint__" : String) = id0
  wp_delta
  rw [show splitId id0 = some ("list_reverseiterator", "__length_hint__") from by subst hid; decide +kernel]
  subst hid
  refine wpAny_bind (wpAny_isInstance (b := true) hT (by rw [isSubtype_type]; kernel_rfl) ?_)
  refine wpAny_pure ?_
  rw [if_neg (by decide)]
  have e0 : ((items.size : Nat) : Int) - 1 - ((0 : Nat) : Int) = (items.size : Int) - 1 := by omega
  refine wpAny_pure ⟨plainId_quiet F.plain_extend_loop _, codeAny_extend_loopS W hn _ hSf _ items.size 0 _ _ _ rfl (Nat.zero_le _) ⟨Nat.zero_le _, by rw [e0]; exact hit, hl⟩ hS (ItemsOf.nil _) fun s' acc' c' hm hS' hacc => ?_⟩
  rw [Moved.eq_with hm]
  refine hR s'.heap s'.toks acc' c' (fun b o hb hb2 e => hm.heap b o (fun hmem => ?_) e) hS' hacc
  rcases List.mem_cons.mp hmem with e' | hmem
  · exact hb e'
  · exact hb2 (List.mem_singleton.mp hmem)
theorem list_init_rev {R : Result → Shared → Prop} {it l : Addr} {items : Array Value} (hh : A.handled = none) (hit : s.heap.IsRevIter it l ((items.size : Int) - 1)) (hl : s.heap.IsList l items) (hne : l ≠ it) (hn : items.size ≤ sizeLine)
    (S : Addr) (hS : s.heap.get? S = some { cls := .type "list", data := .seq #[] }) (hSi : S ≠ it) (hSl : S ≠ l)
    (hR : ∀ h' tk acc' c', (∀ b o, b ≠ S → b ≠ it → s.heap.get? b = some o → h'.get? b = some o) → h'.get? S = some { cls := .type "list", dict := none, data := .seq acc' c', slots := #[] } →
      ItemsOf (fun i v => items[items.size - 1 - i]? = some v) acc' items.size → R (.ok (.ret .none)) { s with heap := h', toks := tk }) :
    wpAny (model prog w) A.in1 (Builtin.«list.__init__» ⟨[.ref S, .ref it], []⟩)
      (fun fin s' => match fin with | .done f => R (.ok f) s' | .again c' => c'.quiet = true ∧ codeAny (model prog w) A c' R s') (fun e s' => R (.error e) s') s := by
  show wpAny _ _ (do let old ← Builtin.List.listItems (.ref S); Builtin.List.listUpdate (.ref S) (fun _ => #[]); letGo old.toList.reverse; Builtin.List.listExtendWith (.ref S) (.ref it) .none) _ _ s
  refine wpAny_bind ?_
  unfold Builtin.List.listItems
  refine wpAny_bind (wpAny_seqItems hS rfl (wpAny_pure ?_))
  show wpAny _ _ (updateSeq S (fun _ => #[]) >>= fun _ => letGo (#[] : Array Value).toList.reverse >>= fun _ => Builtin.List.listExtendWith (.ref S) (.ref it) .none) _ _ s
  refine wpAny_bind (wpAny_updateSeq hS rfl ?_)
  have hS2 := Heap.get?_update_self (Obj.mapSeq (fun _ => (#[] : Array Value))) hS rfl
  have oth : ∀ b o, b ≠ S → s.heap.get? b = some o → (s.heap.update S (Obj.mapSeq (fun _ => (#[] : Array Value)))).get? b = some o :=
    fun b o hb e => (Heap.get?_update_other _ _ (Ne.symm hb)).trans e
  refine wpAny_bind (wpAny_letGo ?_)
  refine extend_rev (s := { s with heap := s.heap.update S (Obj.mapSeq (fun _ => (#[] : Array Value))) }) hh (hit.at fun o e => oth it o (Ne.symm hSi) e) ?_ hne hn S .none _ hS2 hSi hSl fun h' tk acc' c' hk hS' hacc => ?_
  · obtain ⟨o, e, r⟩ := hl
    exact ⟨o, oth l o (Ne.symm hSl) e, r⟩
  · exact hR h' tk acc' c' (fun b o hb hb2 e => hk b o hb hb2 (oth b o hb e)) hS' hacc
theorem call_list_rev {it l : Addr} {items : Array Value} {Q : Value → Shared → Prop} (hh : A.handled = none) (hit : s.heap.IsRevIter it l ((items.size : Int) - 1)) (hl : s.heap.IsList l items) (hne : l ≠ it) (hn : items.size ≤ sizeLine)
    (hQ : ∀ (h' : Heap) (tk : Nat) (acc : Array Value) (c' : Nat), (∀ b o, b ≠ it → s.heap.get? b = some o → h'.get? b = some o) → h'.get? s.heap.objs.size = some { cls := .type "list", dict := none, data := .seq acc c', slots := #[] } →
      ItemsOf (fun i v => items[items.size - 1 - i]? = some v) acc items.size → Q (.ref s.heap.objs.size) { s with heap := h', toks := tk }) :
    wpAny (model prog w) A (call (.type "list") [.ref it]) Q E s := by
  refine callType_codes (Q₁ := fun obj s₁ => obj = .ref s.heap.objs.size ∧ s₁ = { s with heap := s.heap.push { cls := .type "list", data := .seq #[] } }) F.called_list (F.typeCall_list_1 _) F.entry_list_init
    (code_list_new _ ⟨rfl, rfl⟩) fun obj s₁ h₁ => ?_
  obtain ⟨rfl, rfl⟩ := h₁
  have hS : (s.heap.push { cls := .type "list", data := .seq #[] }).get? s.heap.objs.size = some { cls := .type "list", data := .seq #[] } := Heap.get?_push_size _ rfl
  obtain ⟨oi, hoi, _⟩ := id hit
  obtain ⟨ol, hol, _⟩ := id hl
  have hSi : s.heap.objs.size ≠ it := Nat.ne_of_gt (Heap.lt_size hoi)
  have hSl : s.heap.objs.size ≠ l := Nat.ne_of_gt (Heap.lt_size hol)
  refine ⟨⟨_, hS, rfl⟩, F.args_list_init_2 _ _, list_init_rev (A := A.in1) (s := { s with heap := s.heap.push { cls := .type "list", data := .seq #[] } }) hh (hit.at fun o e => Heap.get?_push_of_some _ e) (hl.push _) hne hn _ hS hSi hSl fun h' tk acc' c' hk hS' hacc => ?_⟩
  exact ⟨rfl, hQ h' tk acc' c' (fun b o hb e => hk b o (Nat.ne_of_lt (Heap.lt_size e)) hb (Heap.get?_push_of_some _ e)) hS' hacc⟩
end
end HRev
namespace Hush
open PySem PySem.Spec PyProof.Rows L2
/-- list(reversed(x)), x a list: a new list -/
def tLstRev (K : PySem.W.Frag) (te : TE) : TE := fun σ H Q => te σ H fun v H1 => ∃ (a : Addr) (xs : List V), v = .ref a ∧ SqL K H1 a xs ∧ ∀ q, H1 q = none → Q (.ref q) (upd H1 q (.lst xs.reverse))
section
variable {X : Cx}
theorem pe_lstRev {e : Expr} {te : TE} {p p2 pos pos2 : Pos} (hc : X.calm = true) (hg : Gl X "list") (hm : X.mg "list" = none) (hg2 : Gl X "reversed") (hm2 : X.mg "reversed" = none) (he : PE X e te)
    (hs : starEach [e] X.env = (false, eval e X.env) :: starEach [] X.env := by rfl)
    (hs2 : starEach [.Call (.Name "reversed" p2) [e] [] pos2] X.env = (false, eval (.Call (.Name "reversed" p2) [e] [] pos2) X.env) :: starEach [] X.env := by rfl) :
    PE X (.Call (.Name "list" p) [.Call (.Name "reversed" p2) [e] [] pos2] [] pos) (tLstRev X.K te) := by
  refine ⟨fun pins s σ H Q I h => ?_⟩
  refine Call_ (ld_blt I hg hm boot_list (PyProof.Rows.callWith_type1 (args_cons (Call_ (ld_blt I hg2 hm2 PyProof.Rows.boot_reversed (PyProof.Rows.callWith_type1 (args_cons (thn (he.run pins s σ H _ I h) fun u s1 ⟨v, H1, I1, r1, q1⟩ => args_nil ?_) hs) hs rfl))) hs2) hs2 rfl))
  obtain ⟨a, xs, ev, hq, q⟩ := q1
  subst ev
  obtain rfl : u = Value.ref a := r1
  obtain ⟨its, rv, p', hz⟩ := I1.list hq
  refine call_reversed_list p'.isList (args_nil ?_)
  have hl := p'.isList
  obtain ⟨ol, hol, _⟩ := id hl
  have hne : a ≠ s1.heap.objs.size := Nat.ne_of_lt (Heap.lt_size hol)
  have hn : its.toArray.size ≤ sizeLine := by rw [List.size_toArray, ← rv.length]; exact hz
  refine HRev.call_list_rev (s := { s1 with heap := s1.heap.push (revObj a ((its.toArray.size : Int) - 1)) }) (I1.ok.hd hc) ⟨_, Heap.get?_push_size _ rfl, rfl, rfl⟩ (hl.push _) hne hn fun h' tk acc c' hk hS' hi => ?_
  have hsz : (s1.heap.push (revObj a ((its.toArray.size : Int) - 1))).objs.size = s1.heap.objs.size + 1 := Heap.size_push ..
  have hS2 : h'.get? (s1.heap.objs.size + 1) = some { cls := .type "list", dict := none, data := .seq acc c', slots := #[] } := by
    rw [← hsz]
    exact hS'
  have k1 : ∀ b o, s1.heap.get? b = some o → h'.get? b = some o := fun b o e => hk b o (Nat.ne_of_lt (Heap.lt_size e)) (Heap.get?_push_of_some _ e)
  have e1 : (Value.ref (s1.heap.push (revObj a ((its.toArray.size : Int) - 1))).objs.size) = Value.ref (s1.heap.objs.size + 1) := by rw [hsz]
  have q' := q (s1.heap.objs.size + 1) (I1.hok.fresh (Nat.le_succ _))
  refine ⟨.ref (s1.heap.objs.size + 1), upd H1 (s1.heap.objs.size + 1) (.lst xs.reverse), I1.laid (t' := tk) k1 (Nat.le_succ _) (show ObjOk X.prog X.w _ _ _ (.lst xs.reverse) from ⟨by rw [List.length_reverse]; exact hz, acc.toList, c', RT.vals_rev rv hi, ?_⟩), e1, q'⟩
  rw [Array.toArray_toList]
  exact hS2
end
end Hush
/-! The plain law's first part: numbers in bytes, records. -/
namespace Hush
/-- the number n in k bytes, the lowest first -/
def little : Nat → Int → List Int
  | 0, _ => []
  | k + 1, n => n % 256 :: little k (n / 256)
def big (k : Nat) (n : Int) : List Int := (little k n).reverse
def fromBig (xs : List Int) : Int := xs.foldl (fun a b => a * 256 + b) 0
def fromLittle (xs : List Int) : Int := fromBig xs.reverse
/-- bytes -/
def Byt (xs : List Int) : Prop := ∀ x ∈ xs, 0 ≤ x ∧ x < 256
theorem Byt.nil : Byt [] := fun _ h => by cases h
theorem Byt.append {xs ys : List Int} (a : Byt xs) (b : Byt ys) : Byt (xs ++ ys) := fun x h => (List.mem_append.mp h).elim (a x) (b x)
theorem Byt.cons {x : Int} {xs : List Int} (h : 0 ≤ x ∧ x < 256) (a : Byt xs) : Byt (x :: xs) := fun y hy => by
  rcases List.mem_cons.mp hy with rfl | hy
  · exact h
  · exact a y hy
theorem Byt.left {xs ys : List Int} (a : Byt (xs ++ ys)) : Byt xs := fun x h => a x (List.mem_append_left _ h)
theorem Byt.right {xs ys : List Int} (a : Byt (xs ++ ys)) : Byt ys := fun x h => a x (List.mem_append_right _ h)
theorem Byt.take {xs : List Int} (n : Nat) (a : Byt xs) : Byt (xs.take n) := fun x h => a x (List.mem_of_mem_take h)
theorem Byt.drop {xs : List Int} (n : Nat) (a : Byt xs) : Byt (xs.drop n) := fun x h => a x (List.mem_of_mem_drop h)
theorem Byt.reverse {xs : List Int} (a : Byt xs) : Byt xs.reverse := fun x h => a x (List.mem_reverse.mp h)
theorem little_len : ∀ (k : Nat) (n : Int), (little k n).length = k
  | 0, _ => rfl
  | k + 1, n => by
    show (little k (n / 256)).length + 1 = k + 1
    rw [little_len k]
theorem big_len (k : Nat) (n : Int) : (big k n).length = k := by
  unfold big
  rw [List.length_reverse, little_len]
theorem little_byt : ∀ (k : Nat) (n : Int), Byt (little k n)
  | 0, _ => Byt.nil
  | k + 1, n => Byt.cons ⟨by omega, by omega⟩ (little_byt k (n / 256))
theorem big_byt (k : Nat) (n : Int) : Byt (big k n) := (little_byt k n).reverse
theorem div_div256 (n : Int) (k : Nat) : n / 256 / 256 ^ k = n / 256 ^ (k + 1) := by
  rw [Int.ediv_ediv_of_nonneg (by decide : (0 : Int) ≤ 256), Int.pow_succ, Int.mul_comm]
theorem little_snoc : ∀ (k : Nat) (n : Int), little (k + 1) n = little k n ++ [n / 256 ^ k % 256]
  | 0, n => by
    show [n % 256] = [] ++ [n / 256 ^ 0 % 256]
    rw [Int.pow_zero, Int.ediv_one, List.nil_append]
  | k + 1, n => by
    show n % 256 :: little (k + 1) (n / 256) = (n % 256 :: little k (n / 256)) ++ [n / 256 ^ (k + 1) % 256]
    rw [little_snoc k (n / 256), div_div256, List.cons_append]
theorem pow256_pos (k : Nat) : (0 : Int) < 256 ^ k := Int.pow_pos (by decide)
theorem div_pow_zero {n : Int} {k : Nat} (h0 : 0 ≤ n) (h : n < 256 ^ k) : n / 256 ^ k = 0 := Int.ediv_eq_zero_of_lt h0 h
/-- reading on -/
theorem fold_from (xs : List Int) (a : Int) : xs.foldl (fun a b => a * 256 + b) a = a * 256 ^ xs.length + fromBig xs := by
  induction xs generalizing a with
  | nil =>
    show a = a * 256 ^ 0 + 0
    omega
  | cons x r ih =>
    show r.foldl _ (a * 256 + x) = a * 256 ^ (r.length + 1) + r.foldl _ (0 * 256 + x)
    rw [ih (a * 256 + x), ih (0 * 256 + x), Int.pow_succ, Int.zero_mul, Int.zero_add, Int.add_mul, Int.mul_assoc, Int.mul_comm (256 ^ r.length) 256, Int.add_assoc]
theorem fromBig_snoc (xs : List Int) (x : Int) : fromBig (xs ++ [x]) = fromBig xs * 256 + x := by
  unfold fromBig
  rw [List.foldl_append]
  rfl
theorem fromBig_append (xs ys : List Int) : fromBig (xs ++ ys) = fromBig xs * 256 ^ ys.length + fromBig ys := by
  have h : fromBig (xs ++ ys) = ys.foldl (fun a b => a * 256 + b) (fromBig xs) := by
    unfold fromBig
    rw [List.foldl_append]
  rw [h, fold_from]
theorem fromBig_nonneg {xs : List Int} (h : Byt xs) : 0 ≤ fromBig xs ∧ fromBig xs < 256 ^ xs.length := by
  induction xs with
  | nil => exact ⟨Int.le_refl _, by decide⟩
  | cons x r ih =>
    obtain ⟨h1, h2⟩ := ih fun y hy => h y (List.mem_cons_of_mem _ hy)
    obtain ⟨x1, x2⟩ := h x List.mem_cons_self
    have e : fromBig (x :: r) = x * 256 ^ r.length + fromBig r := by
      have := fromBig_append [x] r
      rw [show [x] ++ r = x :: r from rfl] at this
      rw [this]
      show (0 * 256 + x) * _ + _ = _
      rw [Int.zero_mul, Int.zero_add]
    have hp := pow256_pos r.length
    rw [e, List.length_cons, Int.pow_succ]
    constructor
    · have := Int.mul_nonneg x1 (Int.le_of_lt hp)
      omega
    · have h3 : x * 256 ^ r.length ≤ 255 * 256 ^ r.length := Int.mul_le_mul_of_nonneg_right (by omega) (Int.le_of_lt hp)
      rw [Int.mul_comm (256 ^ r.length) 256]
      omega
theorem fromBig_big : ∀ (k : Nat) (n : Int), 0 ≤ n → n < 256 ^ k → fromBig (big k n) = n
  | 0, n, h0, h1 => by
    have e : (256 : Int) ^ 0 = 1 := by decide
    rw [e] at h1
    show (0 : Int) = n
    omega
  | k + 1, n, h0, h1 => by
    have e : big (k + 1) n = big k (n / 256) ++ [n % 256] := by
      show (n % 256 :: little k (n / 256)).reverse = (little k (n / 256)).reverse ++ [n % 256]
      rw [List.reverse_cons]
    rw [Int.pow_succ] at h1
    rw [e, fromBig_snoc, fromBig_big k (n / 256) (by omega) (by omega)]
    omega
/-! ### the sum -/
def sumStep (s : Int × Int) (b : Int) : Int × Int := ((s.1 + b) % 65521, (s.2 + (s.1 + b) % 65521) % 65521)
def sums (xs : List Int) : Int × Int := xs.foldl sumStep (1, 0)
def byteSum (xs : List Int) : Int := (sums xs).2 * 65536 + (sums xs).1
theorem sums_snoc (xs : List Int) (x : Int) : sums (xs ++ [x]) = sumStep (sums xs) x := by
  unfold sums
  rw [List.foldl_append]
  rfl
theorem sums_bound (xs : List Int) : (0 ≤ (sums xs).1 ∧ (sums xs).1 < 65521) ∧ 0 ≤ (sums xs).2 ∧ (sums xs).2 < 65521 := by
  suffices h : ∀ (l : List Int) (s : Int × Int), ((0 ≤ s.1 ∧ s.1 < 65521) ∧ 0 ≤ s.2 ∧ s.2 < 65521) → ((0 ≤ (l.foldl sumStep s).1 ∧ (l.foldl sumStep s).1 < 65521) ∧ 0 ≤ (l.foldl sumStep s).2 ∧ (l.foldl sumStep s).2 < 65521) from
    h xs (1, 0) ⟨⟨by decide, by decide⟩, by decide, by decide⟩
  intro l
  induction l with
  | nil => exact fun s h => h
  | cons x r ih =>
    intro s h
    refine ih (sumStep s x) ?_
    unfold sumStep
    exact ⟨⟨by omega, by omega⟩, by omega, by omega⟩
theorem byteSum_bound (xs : List Int) : 0 ≤ byteSum xs ∧ byteSum xs < 256 ^ 4 := by
  obtain ⟨⟨a, b⟩, c, d⟩ := sums_bound xs
  have e : (256 : Int) ^ 4 = 4294967296 := by decide
  unfold byteSum
  rw [e]
  omega
/-! ### records -/
def recHead (k : Int) (b : List Int) : List Int := k :: (big 2 b.length ++ b)
def recBytes (k : Int) (b : List Int) : List Int := recHead k b ++ big 4 (byteSum (recHead k b)) ++ [255]
def encAll (rs : List (Int × List Int)) : List Int := rs.flatMap fun r => recBytes r.1 r.2
/-- a record that can be written -/
structure RecOk (r : Int × List Int) : Prop where
  lo : 1 ≤ r.1
  hi : r.1 ≤ 5
  byt : Byt r.2
  len : r.2.length ≤ 65535
theorem recHead_len (k : Int) (b : List Int) : (recHead k b).length = 3 + b.length := by
  show (big 2 b.length ++ b).length + 1 = _
  rw [List.length_append, big_len]
  omega
theorem recBytes_len (k : Int) (b : List Int) : (recBytes k b).length = 8 + b.length := by
  unfold recBytes
  rw [List.length_append, List.length_append, recHead_len, big_len]
  show 3 + b.length + 4 + 1 = _
  omega
theorem recHead_byt {k : Int} {b : List Int} (h0 : 1 ≤ k) (h1 : k ≤ 5) (h : Byt b) : Byt (recHead k b) := Byt.cons ⟨by omega, by omega⟩ ((big_byt _ _).append h)
theorem recBytes_byt {k : Int} {b : List Int} (h0 : 1 ≤ k) (h1 : k ≤ 5) (h : Byt b) : Byt (recBytes k b) :=
  ((recHead_byt h0 h1 h).append (big_byt _ _)).append (Byt.cons ⟨by decide, by decide⟩ Byt.nil)
theorem encAll_nil : encAll [] = [] := rfl
theorem encAll_cons (r : Int × List Int) (rs : List (Int × List Int)) : encAll (r :: rs) = recBytes r.1 r.2 ++ encAll rs := rfl
theorem encAll_append (a b : List (Int × List Int)) : encAll (a ++ b) = encAll a ++ encAll b := by
  unfold encAll
  rw [List.flatMap_append]
theorem encAll_byt : ∀ {rs : List (Int × List Int)}, (∀ r ∈ rs, RecOk r) → Byt (encAll rs)
  | [], _ => Byt.nil
  | r :: rs, h => (recBytes_byt (h r List.mem_cons_self).lo (h r List.mem_cons_self).hi (h r List.mem_cons_self).byt).append (encAll_byt fun q hq => h q (List.mem_cons_of_mem _ hq))
/-- the length of the record at the head, 0 if there is none: what record_end asks, in its order -/
def bodyLen (d : List Int) : Nat := (fromBig ((d.drop 1).take 2)).toNat
def recLen (d : List Int) : Nat :=
  if d.length < 8 then 0
  else if d.getD 0 0 < 1 ∨ 5 < d.getD 0 0 then 0
  else if d.length < 8 + bodyLen d ∨ d.getD (7 + bodyLen d) 0 ≠ 255 then 0
  else if fromBig ((d.drop (3 + bodyLen d)).take 4) ≠ byteSum (d.take (3 + bodyLen d)) then 0
  else 8 + bodyLen d
theorem recLen_rec {r : Int × List Int} (h : RecOk r) (rest : List Int) : recLen (recBytes r.1 r.2 ++ rest) = 8 + r.2.length := by
  obtain ⟨k, b⟩ := r
  obtain ⟨h1, h2, h3, h4⟩ := h
  dsimp only at h1 h2 h3 h4 ⊢
  have hb : (0 : Int) ≤ (b.length : Int) := by omega
  have e2 : (256 : Int) ^ 2 = 65536 := by decide
  have hl : fromBig (big 2 (b.length : Int)) = (b.length : Int) := fromBig_big 2 _ hb (by rw [e2]; omega)
  have len : (recBytes k b ++ rest).length = 8 + b.length + rest.length := by rw [List.length_append, recBytes_len]
  have form : recBytes k b ++ rest = k :: (big 2 b.length ++ (b ++ (big 4 (byteSum (recHead k b)) ++ ([255] ++ rest)))) := by
    unfold recBytes
    show (recHead k b ++ big 4 (byteSum (recHead k b)) ++ [255]) ++ rest = _
    rw [List.append_assoc, List.append_assoc]
    unfold recHead
    rw [List.cons_append, List.append_assoc]
  have bl : bodyLen (recBytes k b ++ rest) = b.length := by
    unfold bodyLen
    rw [form, List.drop_succ_cons, List.drop_zero, List.take_append_of_le_length (by rw [big_len]; exact Nat.le_refl _), List.take_of_length_le (by rw [big_len]; exact Nat.le_refl _), hl]
    exact Int.toNat_natCast _
  have form2 : recBytes k b ++ rest = recHead k b ++ (big 4 (byteSum (recHead k b)) ++ ([255] ++ rest)) := by
    unfold recBytes
    rw [List.append_assoc, List.append_assoc]
  have form3 : recBytes k b ++ rest = (recHead k b ++ big 4 (byteSum (recHead k b))) ++ (255 :: rest) := by
    unfold recBytes
    rw [List.append_assoc]
    rfl
  have g0 : (recBytes k b ++ rest).getD 0 0 = k := by
    rw [form]
    rfl
  have g7 : (recBytes k b ++ rest).getD (7 + b.length) 0 = 255 := by
    have hlen : (recHead k b ++ big 4 (byteSum (recHead k b))).length = 7 + b.length := by
      rw [List.length_append, recHead_len, big_len]
      omega
    rw [form3, List.getD_eq_getElem?_getD, List.getElem?_append_right (by omega), hlen, Nat.sub_self]
    rfl
  have hd : (recBytes k b ++ rest).drop (3 + b.length) = big 4 (byteSum (recHead k b)) ++ ([255] ++ rest) := by
    rw [form2, List.drop_append_of_le_length (by rw [recHead_len]; exact Nat.le_refl _), List.drop_of_length_le (by rw [recHead_len]; exact Nat.le_refl _), List.nil_append]
  have ht : (recBytes k b ++ rest).take (3 + b.length) = recHead k b := by
    rw [form2, List.take_append_of_le_length (by rw [recHead_len]; exact Nat.le_refl _), List.take_of_length_le (by rw [recHead_len]; exact Nat.le_refl _)]
  obtain ⟨s1, s2⟩ := byteSum_bound (recHead k b)
  have hs : fromBig ((big 4 (byteSum (recHead k b)) ++ ([255] ++ rest)).take 4) = byteSum (recHead k b) := by
    rw [List.take_append_of_le_length (by rw [big_len]; exact Nat.le_refl _), List.take_of_length_le (by rw [big_len]; exact Nat.le_refl _), fromBig_big 4 _ s1 s2]
  unfold recLen
  rw [bl, len, g0, g7, hd, ht, hs, if_neg (by omega), if_neg (by omega), if_neg (by omega), if_neg (by simp)]
theorem recLen_pos {d : List Int} (h : recLen d ≠ 0) : recLen d = 8 + bodyLen d ∧ 8 + bodyLen d ≤ d.length := by
  unfold recLen at h ⊢
  split at h
  · exact absurd rfl h
  · rename_i h1
    rw [if_neg h1]
    split at h
    · exact absurd rfl h
    · rename_i h2
      rw [if_neg h2]
      split at h
      · exact absurd rfl h
      · rename_i h3
        rw [if_neg h3]
        split at h
        · exact absurd rfl h
        · rename_i h4
          rw [if_neg h4]
          exact ⟨rfl, by omega⟩
theorem recLen_nil : recLen [] = 0 := rfl
end Hush
set_option Elab.async false
set_option linter.all false
set_option maxRecDepth 100000
set_option maxHeartbeats 4000000
/-! Short words of this proof over the hand layer. -/
namespace Hush
open PySem PySem.Spec PyProof.Rows L2
/-! ### defs -/
/-- no exception comes -/
theorem passN {X : Cx} : Passes (L2N.CX X.prog X.w) X E0 := fun _ _ _ _ _ _ _ h => by
  obtain ⟨_, _, _, _, _, _, _, _, _, _, _, _, z⟩ := h
  exact z.elim
/-- a def keeps its promise -/
structure Df (P : Program) (w : World) (K : PySem.W.Frag) (mg : Str → Option Value) (base : Heap) (k : Nat) (p : Str × Option Str) (ps : List Str) (sp : Sp) : Prop where
  ok : FnOk P w K mg base (L2N.CX P w) k (He.fAd K p) (fdAt K (He.fAd K p)) ps sp
  b : Binds K (fdAt K (He.fAd K p)) ps []
  kp : PySem.W.keepIn K (.ref (He.fAd K p)) = true
section
variable {P : Program} {w : World} {K : PySem.W.Frag} {mg : Str → Option Value} {base : Heap} {p : Str × Option Str} {x qual : Str} {st : Stmt} {N ps : List Str} {k : Nat} {sp : Sp}
/-- how its arguments bind -/
abbrev BindsBy (x qual : Str) (st : Stmt) (ps : List Str) : Prop :=
  ∀ (kV doc pm : Value) (an : Option Addr) (cdv ct : Value) (us : List Value), us.length = ps.length → bindArgs (PySem.W.fnOf x qual (defArgs st) (defBody st) (defScope st) .none kV doc pm an cdv ct) ⟨us, []⟩ = pure (ps.zip us)
/-- a def that raises nothing -/
theorem df_nox (F : DefAt K p x qual st) (S : FnScope N ps (defScope st)) (hb : BindsBy x qual st ps) (len : ∀ vs H Q E, sp vs H Q E → vs.length = ps.length)
    (hbody : ∀ (cdv : Value) (A : Around) (outer : List Env) (s : Shared) (H : Hp) (vs : List V) (Q : VK) (E : XK), Room k (A.deeper (envOfC qual (defScope st) s.heap.objs.size (He.fAd K p) cdv)) → sp vs H Q E →
      ∃ t, PSs (cxOf (L2N.CX P w) P w K mg base N qual (defScope st) (He.fAd K p) cdv A outer s H E).nox (defBody st) t ∧ t { nx := fun _ H' => Q .non H', rt := Q } (start N vs) H) : Df P w K mg base (k + 1) p ps sp :=
  ⟨FunD.ok F S len fun cdv A outer s H vs Q E hr h => by
    obtain ⟨t, h1, h2⟩ := hbody cdv A outer s H vs Q E hr h
    exact ⟨t, h1.nox, h2⟩, FunD.bindsN F hb, F.kp⟩
/-- a def that may raise -/
theorem df_exc (F : DefAt K p x qual st) (S : FnScope N ps (defScope st)) (hb : BindsBy x qual st ps) (len : ∀ vs H Q E, sp vs H Q E → vs.length = ps.length)
    (hbody : ∀ (cdv : Value) (A : Around) (outer : List Env) (s : Shared) (H : Hp) (vs : List V) (Q : VK) (E : XK), Room k (A.deeper (envOfC qual (defScope st) s.heap.objs.size (He.fAd K p) cdv)) → sp vs H Q E →
      ∃ t, PSs (cxOf (L2N.CX P w) P w K mg base N qual (defScope st) (He.fAd K p) cdv A outer s H E) (defBody st) t ∧ t { nx := fun _ H' => Q .non H', rt := Q } (start N vs) H) : Df P w K mg base (k + 1) p ps sp :=
  ⟨FunD.ok F S len hbody, FunD.bindsN F hb, F.kp⟩
theorem Df.imp {sp' : Sp} (D : Df P w K mg base k p ps sp) (h : ∀ vs H Q E, sp' vs H Q E → sp vs H Q E) : Df P w K mg base k p ps sp' := ⟨D.ok.imp h, D.b, D.kp⟩
end
section
variable {X : Cx} {j k : Nat} {p : Str × Option Str} {ps : List Str} {sp : Sp} {x m c : Str} {px pos apos : Pos} {e o : Expr} {es : List Expr} {t : TA} {te ta : TE} {E : XK}
/-- f(..), a def of the module; E: what is wanted of an exception -/
theorem eCallX (D : Df X.prog X.w X.K X.mg X.base k p ps sp) (hr : Room j X.A) (hk : k ≤ j) (hm : X.mg x = some (.ref (He.fAd X.K p))) (hx : Passes (L2N.CX X.prog X.w) X E) (ha : PA X (e :: es) t) (hg : Gl X x := by rfl)
    (hdb : (x == ("__debug__" : Str)) = false := by decide) (he : starEach (e :: es) X.env = (false, eval e X.env) :: starEach es X.env := by rfl) (hpl : (backTo pos (starEach es X.env)).any (·.1) = false := by rfl) :
    PE X (.Call (.Name x px) (e :: es) [] pos) (tCall sp [] E t) := pe_call D.ok (hr.mono hk) hg hm D.kp D.b .nil hx ha hdb he hpl
/-- .. that raises nothing here -/
theorem eCall (D : Df X.prog X.w X.K X.mg X.base k p ps sp) (hr : Room j X.A) (hk : k ≤ j) (hm : X.mg x = some (.ref (He.fAd X.K p))) (ha : PA X (e :: es) t) (hg : Gl X x := by rfl)
    (hdb : (x == ("__debug__" : Str)) = false := by decide) (he : starEach (e :: es) X.env = (false, eval e X.env) :: starEach es X.env := by rfl) (hpl : (backTo pos (starEach es X.env)).any (·.1) = false := by rfl) :
    PE X (.Call (.Name x px) (e :: es) [] pos) (tCall sp [] E0 t) := eCallX D hr hk hm passN ha hg hdb he hpl
/-- a module's int -/
theorem gI {i : Int} (h : ∃ t, X.mg x = some (.int i t)) (hg : Gl X x := by rfl) (hd : (x == ("__debug__" : Str)) = false := by decide) : PE X (.Name x px) (tC (.int i)) := by
  obtain ⟨t, h⟩ := h
  exact pe_glob hg h ⟨t, rfl⟩ hd
/-- a module's text -/
theorem gS {z : Str} (h : ∃ t, X.mg x = some (.str z t)) (hg : Gl X x := by rfl) (hd : (x == ("__debug__" : Str)) = false := by decide) : PE X (.Name x px) (tC (.str z)) := by
  obtain ⟨t, h⟩ := h
  exact pe_glob hg h ⟨t, rfl⟩ hd
end
/-! ### what is left of a heap -/
/-- a new list of xs; what was tracked stands -/
def RetL (xs : List V) (H : Hp) (Q : VK) : Prop := ∀ p H', H p = none → Same H H' → H' p = some (.lst xs) → Q (.ref p) H'
/-- a value; what was tracked stands -/
def RetV (v : V) (H : Hp) (Q : VK) : Prop := ∀ H', Same H H' → Q v H'
/-- a list of ints -/
abbrev il (xs : List Int) : List V := xs.map V.int
theorem RetL.go {xs : List V} {H H' : Hp} {Q : VK} (k : RetL xs H Q) (e : Same H H') {p : Addr} {H2 : Hp} (hp : H' p = none) (e2 : Same H' H2) (h : H2 p = some (.lst xs)) : Q (.ref p) H2 := k p H2 (e.free hp) (e.trans e2) h
theorem RetL.at {xs : List V} {H H' : Hp} {Q : VK} (k : RetL xs H Q) (e : Same H H') {p : Addr} (hp : H' p = none) : Q (.ref p) (upd H' p (.lst xs)) :=
  k p _ (e.free hp) (fun b o h => by rw [upd_ne (ne_of_none (e b o h) hp)]; exact e b o h) upd_same
theorem _root_.L2.Same.nw {H H' : Hp} {p : Addr} {o : HO} (e : Same H H') (h : H' p = none) : Same H (upd H' p o) := fun b u q => by
  rw [upd_ne (ne_of_none (e b u q) h)]
  exact e b u q
/-- an object that H does not know may change -/
theorem _root_.L2.Same.mt {H H' : Hp} {p : Addr} {o : HO} (e : Same H H') (h : H p = none) : Same H (upd H' p o) := fun b u q => by
  rw [upd_ne (ne_of_none q h)]
  exact e b u q
theorem seq_at {K : PySem.W.Frag} {H : Hp} {a : Addr} {xs : List V} (h : H a = some (.lst xs)) : SqL K H a xs := .inl (.inl h)
theorem seqT_at {K : PySem.W.Frag} {H : Hp} {a : Addr} {xs : List V} (h : H a = some (.tup xs)) : SqT K H a xs := .inl (.inl h)
/-- a list of ints at a place -/
theorem il_get {xs : List Int} {i : Nat} {y : V} (h : (il xs)[i]? = some y) : ∃ z, xs[i]? = some z ∧ y = .int z := by
  rw [List.getElem?_map] at h
  cases e : xs[i]? with
  | none =>
    rw [e] at h
    cases h
  | some z =>
    rw [e] at h
    exact ⟨z, rfl, (Option.some.inj h).symm⟩
theorem il_len (xs : List Int) : (il xs).length = xs.length := List.length_map _
theorem take_more {α : Type} : ∀ {l : List α} {i : Nat} {x : α}, l[i]? = some x → l.take (i + 1) = l.take i ++ [x]
  | [], i, x, h => by simp at h
  | a :: l, 0, x, h => by
    have e : a = x := Option.some.inj h
    subst e
    rfl
  | a :: l, i + 1, x, h => by
    have ih := take_more (l := l) (i := i) (x := x) h
    show a :: l.take (i + 1) = a :: l.take i ++ [x]
    rw [ih]
    rfl
theorem line_small {n : Nat} (h : n ≤ 1000000) : n ≤ sizeLine := Nat.le_trans h (by decide)
theorem line_lt {n : Nat} (h : n ≤ 1000000) : n < sizeLine := Nat.lt_of_le_of_lt h (by decide)
theorem bitAnd255 {x : Int} (hx : 0 ≤ x) : Builtin.bitAnd x 255 = x % 256 := Bits.bitAnd_mask 8 hx
/-! ### fields by their place -/
def fz (N : List Str) (vs : List V) : List (Str × V) := N.zip vs
def ixOf (x : Str) : List Str → Option Nat
  | [] => none
  | y :: r => if x = y then some 0 else (ixOf x r).map (· + 1)
theorem fz_get {x : Str} : ∀ {N : List Str} {vs : List V} {i : Nat} {v : V}, ixOf x N = some i → vs[i]? = some v → (fz N vs).lookup x = some v
  | [], _, _, _, h, _ => by cases h
  | y :: r, [], _, _, _, h => by simp at h
  | y :: r, u :: us, i, v, h1, h2 => by
    show (match x == y with | true => some u | false => (fz r us).lookup x) = some v
    unfold ixOf at h1
    by_cases e : x = y
    · rw [if_pos e] at h1
      cases h1
      rw [show (x == y) = true from beq_iff_eq.mpr e]
      simpa using h2
    · rw [if_neg e] at h1
      rw [show (x == y) = false from beq_eq_false_iff_ne.mpr e]
      cases q : ixOf x r with
      | none =>
        rw [q] at h1
        cases h1
      | some j =>
        rw [q] at h1
        have e2 : j + 1 = i := Option.some.inj h1
        subst e2
        exact fz_get q (by simpa using h2)
theorem fz_no {x : Str} : ∀ {N : List Str} {vs : List V}, ixOf x N = none → (fz N vs).lookup x = none
  | [], _, _ => by unfold fz; simp
  | y :: r, [], _ => by unfold fz; simp
  | y :: r, u :: us, h => by
    show (match x == y with | true => some u | false => (fz r us).lookup x) = none
    unfold ixOf at h
    by_cases e : x = y
    · rw [if_pos e] at h
      cases h
    · rw [if_neg e] at h
      rw [show (x == y) = false from beq_eq_false_iff_ne.mpr e]
      cases q : ixOf x r with
      | none => exact fz_no q
      | some j =>
        rw [q] at h
        cases h
theorem fz_put {x : Str} {v : V} : ∀ {N : List Str} {vs : List V} {i : Nat}, ixOf x N = some i → N.length = vs.length → putF x v (fz N vs) = fz N (vs.set i v)
  | [], _, _, h, _ => by cases h
  | y :: r, [], _, _, h => by simp at h
  | y :: r, u :: us, i, h1, h2 => by
    show (if y = x then (y, v) :: fz r us else (y, u) :: putF x v (fz r us)) = _
    unfold ixOf at h1
    by_cases e : x = y
    · rw [if_pos e] at h1
      cases h1
      rw [if_pos e.symm]
      rfl
    · rw [if_neg e] at h1
      rw [if_neg (fun q => e q.symm)]
      cases q : ixOf x r with
      | none =>
        rw [q] at h1
        cases h1
      | some j =>
        rw [q] at h1
        have e2 : j + 1 = i := Option.some.inj h1
        subst e2
        rw [fz_put (v := v) q (Nat.succ.inj h2)]
        rfl
/-- a new field -/
theorem fz_add {x : Str} {v : V} : ∀ {N : List Str} {vs : List V}, ixOf x N = none → N.length = vs.length → putF x v (fz N vs) = fz (N ++ [x]) (vs ++ [v])
  | [], [], _, _ => rfl
  | [], _ :: _, _, h => by simp at h
  | y :: r, [], _, h => by simp at h
  | y :: r, u :: us, h1, h2 => by
    show (if y = x then (y, v) :: fz r us else (y, u) :: putF x v (fz r us)) = _
    unfold ixOf at h1
    by_cases e : x = y
    · rw [if_pos e] at h1
      cases h1
    · rw [if_neg e] at h1
      rw [if_neg (fun q => e q.symm)]
      cases q : ixOf x r with
      | none =>
        rw [fz_add (v := v) q (Nat.succ.inj h2)]
        rfl
      | some j =>
        rw [q] at h1
        cases h1
theorem fz_len {N : List Str} {vs : List V} (h : N.length = vs.length) : (fz N vs).length = N.length := by
  unfold fz
  rw [List.length_zip, h, Nat.min_self]
/-! ### answers -/
section
variable {K : PySem.W.Frag} {H : Hp} {a C dx : Addr} {fs : List (Str × V)} {f : Str} {v : V} {Q : V → Prop}
/-- a field is read -/
theorem aF (ho : H a = some (.ins C dx fs)) (hc : Cls K C) (hn : NoAttr K C f) (hl : fs.lookup f = some v) (q : Q v) :
    ∃ a' C' dx' fs' v', V.ref a = .ref a' ∧ H a' = some (.ins C' dx' fs') ∧ Cls K C' ∧ NoAttr K C' f ∧ fs'.lookup f = some v' ∧ Q v' := ⟨a, C, dx, fs, v, rfl, ho, hc, hn, hl, q⟩
/-- a field is written -/
theorem aW {Q : Hp → Prop} (ho : H a = some (.ins C dx fs)) (hc : Cls K C) (hn : NoAttr K C f) (hl : fs.length < 1000) (q : Q (upd H a (.ins C dx (putF f v fs)))) :
    ∃ a' C' dx' fs', V.ref a = .ref a' ∧ H a' = some (.ins C' dx' fs') ∧ Cls K C' ∧ NoAttr K C' f ∧ fs'.length < 1000 ∧ Q (upd H a' (.ins C' dx' (putF f v fs'))) := ⟨a, C, dx, fs, rfl, ho, hc, hn, hl, q⟩
end
end Hush
set_option Elab.async false
set_option linter.all false
set_option maxRecDepth 100000
set_option maxHeartbeats 4000000
/-! octets: to_little, to_big, from_big, from_little -/
namespace Hush
open PySem PySem.Spec PyProof.Rows L2
def spToLittle : Sp := fun vs H Q _ => ∃ (n : Int) (k : Nat), vs = [.int n, .int k] ∧ 0 ≤ n ∧ n < 256 ^ k ∧ k ≤ 1000 ∧ RetL (il (little k n)) H Q
def spToBig : Sp := fun vs H Q _ => ∃ (n : Int) (k : Nat), vs = [.int n, .int k] ∧ 0 ≤ n ∧ n < 256 ^ k ∧ k ≤ 1000 ∧ RetL (il (big k n)) H Q
def spFromBig (K : PySem.W.Frag) : Sp := fun vs H Q _ => ∃ (a : Addr) (xs : List Int), vs = [.ref a] ∧ SqL K H a (il xs) ∧ Byt xs ∧ RetV (.int (fromBig xs)) H Q
def spFromLittle (K : PySem.W.Frag) : Sp := fun vs H Q _ => ∃ (a : Addr) (xs : List Int), vs = [.ref a] ∧ SqL K H a (il xs) ∧ Byt xs ∧ RetV (.int (fromLittle xs)) H Q
section
variable {P : Program} {w : World} {K : PySem.W.Frag} {mg : Str → Option Value} {base : Heap}
theorem sc_to_little : FnScope ["number", "size", "data", "_"] ["number", "size"] (defScope s_to_little) := ⟨rfl, rfl, rfl, by decide +kernel, rfl, by decide +kernel, by decide +kernel⟩
theorem ok_to_little (T : Txt K mg) : Df P w K mg base 1 ("to_little", none) ["number", "size"] spToLittle := by
  refine df_nox T.F_to_little sc_to_little (fun _ _ _ _ _ _ us hl => match us, hl with | [_, _], _ => rfl) (fun vs H Q E h => ?_) (fun cdv A outer s H vs Q E hr h => ?_)
  · obtain ⟨n, k, rfl, _⟩ := h
    rfl
  · obtain ⟨n, k, rfl, h0, h1, hk, q⟩ := h
    have nd := sc_to_little.nd
    refine ⟨_, pss_cons (ps_if (pt_cmpR op_lt (pv 0) pe_int (nomark _)) pss_never pss_nil)
      (pss_cons (ps_set (i := 2) nd rfl (Or.inl rfl) (pe_lst pa_nil))
      (pss_cons (ps_for PassesOwn.never rfl (pi_range1 rfl T.z_range (pa_cons (pv 1) pa_nil)) (pg_name (i := 3) nd rfl (Or.inl rfl))
        (pss_cons (ps_expr (pe_bm PySem.F.plainAttrs_list PySem.F.slot_list_append PySem.F.type_list_append mt_append (pv 2) (pa_cons (pe_op op_and (pv 0) pe_int) pa_nil)))
        (pss_one (ps_set (i := 0) nd rfl (Or.inl rfl) (pe_op op_shr (pv 0) pe_int)))))
      (pss_cons (ps_if (pt_cmpR op_ne (pv 0) pe_int (nomark _)) pss_never pss_nil)
      (pss_one (ps_ret (pv 2)))))), ?_⟩
    refine ⟨_, rfl, _, _, rfl, rfl, _, rfl, ?_⟩
    refine ite2 (fun c => absurd (of_decide_eq_true c) (by omega)) (fun _ => ?_)
    refine ⟨by decide, fun p hp => ?_⟩
    refine ⟨_, rfl, k, rfl, by omega, by omega, for_range (lo := 0) (n := ((k : Int)).toNat) (fun i σ H' => ∃ v, σ = [some (.int (n / 256 ^ i)), some (.int k), some (.ref p), v] ∧ Same H H' ∧ H' p = some (.lst (il (little i n))) ∧ i ≤ k) ?_ ?_ ?_⟩
    · refine ⟨none, ?_, (Same.refl H).nw hp, upd_same, Nat.zero_le _⟩
      rw [Int.pow_zero, Int.ediv_one]
      rfl
    · rintro i σ H' hi ⟨v, rfl, e, hl, hik⟩
      rw [Int.toNat_natCast] at hi
      have hn : 0 ≤ n / 256 ^ i := Int.ediv_nonneg h0 (Int.le_of_lt (pow256_pos i))
      refine ⟨_, rfl, .inl ⟨rfl, _, seq_at hl⟩, _, rfl, _, _, rfl, rfl, ?_⟩
      refine ⟨p, _, _, rfl, rfl, hl, by rw [il_len, little_len]; exact line_lt (by omega), ?_⟩
      refine ⟨_, rfl, _, _, rfl, rfl, (by show (0 : Int) ≤ 8; decide), ?_⟩
      refine ⟨some (.int (0 + (i : Int))), ?_, e.mt hp, ?_, hi⟩
      · have e1 : n / 256 ^ i / 2 ^ (8 : Int).toNat = n / 256 ^ (i + 1) := by
          rw [show (2 : Int) ^ (8 : Int).toNat = 256 by decide, Int.ediv_ediv_of_nonneg (Int.le_of_lt (pow256_pos i)), Int.pow_succ]
        rw [← e1]
        rfl
      · rw [upd_same]
        show some (HO.lst (il (little i n) ++ [V.int (Builtin.bitAnd (n / 256 ^ i) 255)])) = _
        rw [bitAnd255 hn, little_snoc]
        unfold il
        rw [List.map_append]
        rfl
    · rintro σ H' ⟨v, rfl, e, hl, _⟩
      rw [Int.toNat_natCast] at hl ⊢
      refine ⟨_, rfl, rfl, _, rfl, ?_⟩
      refine iteNS (by rw [div_pow_zero h0 h1]) ?_
      exact ⟨_, rfl, q p H' hp e hl⟩
theorem sc_to_big : FnScope ["number", "size"] ["number", "size"] (defScope s_to_big) := ⟨rfl, rfl, rfl, by decide +kernel, rfl, by decide +kernel, by decide +kernel⟩
theorem ok_to_big (T : Txt K mg) : Df P w K mg base 2 ("to_big", none) ["number", "size"] spToBig := by
  refine df_nox T.F_to_big sc_to_big (fun _ _ _ _ _ _ us hl => match us, hl with | [_, _], _ => rfl) (fun vs H Q E h => ?_) (fun cdv A outer s H vs Q E hr h => ?_)
  · obtain ⟨n, k, rfl, _⟩ := h
    rfl
  · obtain ⟨n, k, rfl, h0, h1, hk, q⟩ := h
    refine ⟨_, pss_one (ps_ret (pe_lstRev rfl rfl T.z_list rfl T.z_reversed (eCall (ok_to_little T) hr (Nat.le_refl _) T.g_to_little (pa_cons (pv 0) (pa_cons (pv 1) pa_nil))))), ?_⟩
    refine ⟨_, rfl, _, rfl, n, k, rfl, h0, h1, hk, fun p H1 hp e hl => ?_⟩
    refine ⟨p, _, rfl, seq_at hl, fun a ha => ?_⟩
    have := q.at e ha
    unfold big at this
    unfold il at this ⊢
    rw [List.map_reverse] at this
    exact this
theorem sc_from_big : FnScope ["data", "number", "byte"] ["data"] (defScope s_from_big) := ⟨rfl, rfl, rfl, by decide +kernel, rfl, by decide +kernel, by decide +kernel⟩
theorem ok_from_big (T : Txt K mg) : Df P w K mg base 1 ("from_big", none) ["data"] (spFromBig K) := by
  refine df_nox T.F_from_big sc_from_big (fun _ _ _ _ _ _ us hl => match us, hl with | [_], _ => rfl) (fun vs H Q E h => ?_) (fun cdv A outer s H vs Q E hr h => ?_)
  · obtain ⟨a, xs, rfl, _⟩ := h
    rfl
  · obtain ⟨a, xs, rfl, hS, hb, q⟩ := h
    have nd := sc_from_big.nd
    refine ⟨_, pss_cons (ps_set (i := 1) nd rfl (Or.inl rfl) pe_int)
      (pss_cons (ps_for PassesOwn.never rfl (pi_list (pv 0)) (pg_name (i := 2) nd rfl (Or.inl rfl))
        (pss_one (ps_set (i := 1) nd rfl (Or.inl rfl) (pe_op op_add (pe_op op_mul (pv 1) pe_int) (pv 2)))))
      (pss_one (ps_ret (pv 1)))), ?_⟩
    refine ⟨_, rfl, a, rfl, ⟨_, hS⟩, for_list (K := K) (a := a) (xs := il xs) (fun i σ H' => ∃ v, σ = [some (.ref a), some (.int (fromBig (xs.take i))), v] ∧ H' = H) ⟨none, rfl, rfl⟩ (fun i σ H' _ ⟨_, _, e⟩ => by rw [e]; exact hS) ?_ ?_⟩
    · rintro i y σ H' hi ⟨v, rfl, rfl⟩
      obtain ⟨z, hz, rfl⟩ := il_get hi
      refine ⟨_, rfl, _, _, rfl, rfl, .inr ⟨by decide, by decide⟩, _, rfl, _, _, rfl, rfl, some (.int z), ?_, rfl⟩
      rw [take_more hz, fromBig_snoc]
      rfl
    · rintro σ H' ⟨v, rfl, rfl⟩
      rw [il_len, List.take_length]
      exact ⟨_, rfl, q _ (Same.refl _)⟩
theorem sc_from_little : FnScope ["data"] ["data"] (defScope s_from_little) := ⟨rfl, rfl, rfl, by decide +kernel, rfl, by decide +kernel, by decide +kernel⟩
theorem ok_from_little (T : Txt K mg) : Df P w K mg base 2 ("from_little", none) ["data"] (spFromLittle K) := by
  refine df_nox T.F_from_little sc_from_little (fun _ _ _ _ _ _ us hl => match us, hl with | [_], _ => rfl) (fun vs H Q E h => ?_) (fun cdv A outer s H vs Q E hr h => ?_)
  · obtain ⟨a, xs, rfl, _⟩ := h
    rfl
  · obtain ⟨a, xs, rfl, hS, hb, q⟩ := h
    refine ⟨_, pss_one (ps_ret (eCall (ok_from_big T) hr (Nat.le_refl _) T.g_from_big (pa_cons (pe_lstRev rfl rfl T.z_list rfl T.z_reversed (pv 0)) pa_nil))), ?_⟩
    refine ⟨_, rfl, a, _, rfl, hS, fun p hp => ?_⟩
    refine ⟨p, xs.reverse, rfl, ?_, hb.reverse, fun H' e => q H' (((Same.refl H).nw hp).trans e)⟩
    unfold il
    rw [List.map_reverse]
    exact seq_at upd_same
end
end Hush
set_option Elab.async false
set_option linter.all false
set_option maxRecDepth 100000
set_option maxHeartbeats 4000000
/-! entries: byte_sum, write_record, record_end -/
namespace Hush
open PySem PySem.Spec PyProof.Rows L2
theorem cut_int {xs : List Int} {i j : Int} (hi : 0 ≤ i) (hij : i ≤ j) (hj : j ≤ (xs.length : Int)) : cutV (il xs) (some i) (some j) = il ((xs.drop i.toNat).take (j.toNat - i.toNat)) := by
  obtain ⟨m, rfl⟩ := Int.eq_ofNat_of_zero_le hi
  obtain ⟨n, rfl⟩ := Int.eq_ofNat_of_zero_le (Int.le_trans hi hij)
  unfold cutV
  rw [HT.sIx_nat, HT.sIx_nat, il_len, Int.toNat_natCast, Int.toNat_natCast, Nat.min_eq_left (by omega), Nat.min_eq_left (by omega)]
  unfold il
  rw [← List.map_drop, ← List.map_take]
theorem cut_nat {xs : List Int} {i j : Nat} (hij : i ≤ j) (hj : j ≤ xs.length) : cutV (il xs) (some (i : Int)) (some (j : Int)) = il ((xs.drop i).take (j - i)) := by
  have h := cut_int (xs := xs) (i := (i : Int)) (j := (j : Int)) (by omega) (by omega) (by omega)
  rw [Int.toNat_natCast, Int.toNat_natCast] at h
  exact h
theorem il_at {xs : List Int} {i : Nat} (h : i < xs.length) : (il xs)[i]? = some (V.int (xs.getD i 0)) := by
  unfold il
  rw [List.getElem?_map, List.getElem?_eq_getElem h, List.getD_eq_getElem?_getD, List.getElem?_eq_getElem h]
  rfl
theorem ne_int {a b : Int} {A B : Prop} (h1 : a ≠ b → A) (h2 : a = b → B) : if (!decide (V.int a = V.int b)) = true then A else B := by
  by_cases e : a = b
  · rw [decide_eq_true (congrArg V.int e)]
    exact iteF (h2 e)
  · rw [decide_eq_false (fun q => e (V.int.inj q))]
    exact iteT (h1 e)
theorem eq_int {a b : Int} {A B : Prop} (h1 : a = b → A) (h2 : a ≠ b → B) : if decide (V.int a = V.int b) = true then A else B := by
  by_cases e : a = b
  · rw [decide_eq_true (congrArg V.int e)]
    exact iteT (h1 e)
  · rw [decide_eq_false (fun q => e (V.int.inj q))]
    exact iteF (h2 e)
theorem dec2 {c A B : Prop} [Decidable c] (h1 : c → A) (h2 : ¬ c → B) : if decide c = true then A else B := by
  by_cases h : c
  · rw [decide_eq_true h, if_pos rfl]
    exact h1 h
  · rw [decide_eq_false h, if_neg (by decide)]
    exact h2 h
theorem bool2 {c : Bool} {A B : Prop} (h1 : c = true → A) (h2 : c = false → B) : if c = true then A else B := by
  cases c with
  | true =>
    rw [if_pos rfl]
    exact h1 rfl
  | false =>
    rw [if_neg Bool.false_ne_true]
    exact h2 rfl
def spByteSum (K : PySem.W.Frag) : Sp := fun vs H Q _ => ∃ (a : Addr) (xs : List Int), vs = [.ref a] ∧ SqL K H a (il xs) ∧ RetV (.int (byteSum xs)) H Q
def spWriteRecord (K : PySem.W.Frag) : Sp := fun vs H Q _ => ∃ (k : Int) (a : Addr) (b : List Int), vs = [.int k, .ref a] ∧ SqL K H a (il b) ∧ RecOk (k, b) ∧ RetL (il (recBytes k b)) H Q
def spRecordEnd (K : PySem.W.Frag) : Sp := fun vs H Q _ => ∃ (a : Addr) (n : Nat) (xs : List Int), vs = [.ref a, .int n] ∧ SqL K H a (il xs) ∧ Byt xs ∧ n ≤ xs.length ∧
  RetV (.int (if recLen (xs.drop n) = 0 then -1 else ((n + recLen (xs.drop n) : Nat) : Int))) H Q
section
variable {P : Program} {w : World} {K : PySem.W.Frag} {mg : Str → Option Value} {base : Heap}
section
variable {X : Cx} {e : Expr} {te : TE} {p pos : Pos}
/-- len of a list or tuple -/
theorem eLen (hm : X.mg "len" = none) (he : PE X e te) (hg : Gl X "len" := by rfl)
    (hst : starEach (e :: []) X.env = (false, eval e X.env) :: starEach [] X.env := by rfl) (hpl : (backTo pos (starEach [] X.env)).any (·.1) = false := by rfl) :
    PE X (.Call (.Name "len" p) [e] [] pos) (tCB (fun xs H Q => ∃ p ys, xs = [.ref p] ∧ (SqL X.K H p ys ∨ SqT X.K H p ys) ∧ Q (.int ys.length) H) (tCons te tNil)) :=
  pe_callB call_len_seq hg hm PySem.boot_len (pa_cons he pa_nil hst) (by decide) (by decide) hst hpl
end
theorem sc_byte_sum : FnScope ["data", "low", "high", "byte"] ["data"] (defScope s_byte_sum) := ⟨rfl, rfl, rfl, by decide +kernel, rfl, by decide +kernel, by decide +kernel⟩
theorem ok_byte_sum (T : Txt K mg) : Df P w K mg base 1 ("byte_sum", none) ["data"] (spByteSum K) := by
  refine df_nox T.F_byte_sum sc_byte_sum (fun _ _ _ _ _ _ us hl => match us, hl with | [_], _ => rfl) (fun vs H Q E h => ?_) (fun cdv A outer s H vs Q E hr h => ?_)
  · obtain ⟨a, xs, rfl, _⟩ := h
    rfl
  · obtain ⟨a, xs, rfl, hS, q⟩ := h
    have nd := sc_byte_sum.nd
    refine ⟨_, pss_cons (ps_set (i := 1) nd rfl (Or.inl rfl) pe_int)
      (pss_cons (ps_set (i := 2) nd rfl (Or.inl rfl) pe_int)
      (pss_cons (ps_for PassesOwn.never rfl (pi_list (pv 0)) (pg_name (i := 3) nd rfl (Or.inl rfl))
        (pss_cons (ps_set (i := 1) nd rfl (Or.inl rfl) (pe_op op_mod (pe_op op_add (pv 1) (pv 3)) (gI T.i_SUM_MODULUS)))
        (pss_one (ps_set (i := 2) nd rfl (Or.inl rfl) (pe_op op_mod (pe_op op_add (pv 2) (pv 1)) (gI T.i_SUM_MODULUS))))))
      (pss_one (ps_ret (pe_op op_add (pe_op op_mul (pv 2) pe_int) (pv 1)))))), ?_⟩
    refine ⟨_, rfl, a, rfl, ⟨_, hS⟩, for_list (K := K) (a := a) (xs := il xs) (fun i σ H' => ∃ v, σ = [some (.ref a), some (.int (sums (xs.take i)).1), some (.int (sums (xs.take i)).2), v] ∧ H' = H) ⟨none, rfl, rfl⟩ (fun i σ H' _ ⟨_, _, e⟩ => by rw [e]; exact hS) ?_ ?_⟩
    · rintro i y σ H' hi ⟨v, rfl, rfl⟩
      obtain ⟨z, hz, rfl⟩ := il_get hi
      refine ⟨_, rfl, _, rfl, _, _, rfl, rfl, _, _, rfl, rfl, (by show (0 : Int) < 65521; decide), ?_⟩
      refine ⟨_, rfl, _, rfl, _, _, rfl, rfl, _, _, rfl, rfl, (by show (0 : Int) < 65521; decide), some (.int z), ?_, rfl⟩
      rw [take_more hz, sums_snoc]
      rfl
    · rintro σ H' ⟨v, rfl, rfl⟩
      rw [il_len, List.take_length]
      obtain ⟨_, c, d⟩ := sums_bound xs
      exact ⟨_, rfl, _, _, rfl, rfl, .inr ⟨by decide, by decide⟩, _, rfl, _, _, rfl, rfl, q _ (Same.refl _)⟩
theorem sc_write_record : FnScope ["kind", "body", "data"] ["kind", "body"] (defScope s_write_record) := ⟨rfl, rfl, rfl, by decide +kernel, rfl, by decide +kernel, by decide +kernel⟩
theorem ok_write_record (T : Txt K mg) : Df P w K mg base 3 ("write_record", none) ["kind", "body"] (spWriteRecord K) := by
  refine df_nox T.F_write_record sc_write_record (fun _ _ _ _ _ _ us hl => match us, hl with | [_, _], _ => rfl) (fun vs H Q E h => ?_) (fun cdv A outer s H vs Q E hr h => ?_)
  · obtain ⟨k, a, b, rfl, _⟩ := h
    rfl
  · obtain ⟨k, a, b, rfl, hS, ⟨k1, k2, hb, hlen⟩, q⟩ := h
    dsimp only at k1 k2 hb hlen
    have nd := sc_write_record.nd
    have e2 : (256 : Int) ^ 2 = 65536 := by decide
    refine ⟨_, pss_cons (ps_if (PW.pt (pw_or (pt_cmpR op_lt (pv 0) pe_int (nomark _)) (pw_or1 (pt_cmpR op_gt (pv 0) (gI T.i_LAST_KIND) (nomark _))))) pss_never pss_nil)
      (pss_cons (ps_if (pt_cmpR op_gt (eLen T.z_len (pv 1)) (gI T.i_BODY_SIZE) (nomark _)) pss_never pss_nil)
      (pss_cons (ps_set (i := 2) nd rfl (Or.inl rfl) (pe_op op_cat (pe_op op_cat (pe_lst (pa_cons (pv 0) pa_nil))
          (eCall (ok_to_big T) hr (by decide) T.g_to_big (pa_cons (eLen T.z_len (pv 1)) (pa_cons pe_int pa_nil))))
          (pe_callTy call_list_of rfl T.z_list boot_list (pa_cons (pv 1) pa_nil))))
      (pss_one (ps_ret (pe_op op_cat (pe_op op_cat (pv 2) (eCall (ok_to_big T) hr (by decide) T.g_to_big (pa_cons (eCall (ok_byte_sum T) hr (by decide) T.g_byte_sum (pa_cons (pv 2) pa_nil)) (pa_cons pe_int pa_nil))))
          (pe_lst (pa_cons (gI T.i_CLOSING) pa_nil))))))), ?_⟩
    refine ⟨_, rfl, _, _, rfl, rfl, _, rfl, dec2 (fun c => absurd c (by omega)) (fun _ => ?_)⟩
    refine ⟨_, rfl, _, _, rfl, rfl, _, rfl, dec2 (fun c => absurd c (by omega)) (fun _ => ?_)⟩
    refine ⟨_, rfl, a, _, rfl, .inl hS, _, _, rfl, rfl, _, rfl, dec2 (fun c => absurd c (by rw [il_len]; omega)) (fun _ => ?_)⟩
    -- data = [kind] + to_big(len(body), 2) + list(body)
    refine ⟨_, rfl, by show 1 ≤ sizeLine; decide, fun p1 h1 => ?_⟩
    have s1 := (Same.refl H).nw (o := .lst [.int k]) h1
    refine ⟨_, rfl, a, _, rfl, .inl (s1.seq hS), _, 2, rfl, by omega, by rw [il_len, e2]; omega, by decide, fun p2 H2 h2 s2 g2 => ?_⟩
    refine ⟨p1, p2, _, _, rfl, rfl, s2 _ _ upd_same, g2, by rw [il_len, big_len]; show 3 ≤ sizeLine; decide, fun p3 h3 => ?_⟩
    have s3 := (s1.trans s2).nw (o := .lst ([.int k] ++ il (big 2 ((il b).length : Int)))) h3
    refine ⟨_, rfl, a, _, rfl, .inl (s3.seq hS), fun p4 h4 => ?_⟩
    have s4 := s3.nw (o := .lst (il b)) h4
    have g3 : upd (upd H2 p3 (.lst ([.int k] ++ il (big 2 ((il b).length : Int))))) p4 (.lst (il b)) p3 = some (.lst ([.int k] ++ il (big 2 ((il b).length : Int)))) := by
      rw [upd_ne (ne_of_none upd_same h4)]
      exact upd_same
    refine ⟨p3, p4, _, _, rfl, rfl, g3, upd_same, by rw [List.length_append, il_len, il_len, big_len]; exact line_small (by simp; omega), fun p5 h5 => ?_⟩
    have ed : ([V.int k] ++ il (big 2 ((il b).length : Int))) ++ il b = il (recHead k b) := by
      rw [il_len]
      unfold il recHead
      rw [List.map_cons, List.map_append]
      rfl
    rw [ed]
    have s5 := s4.nw (o := .lst (il (recHead k b))) h5
    obtain ⟨b1, b2⟩ := byteSum_bound (recHead k b)
    -- return data + to_big(byte_sum(data), 4) + [CLOSING]
    refine ⟨_, rfl, _, rfl, p5, _, rfl, seq_at upd_same, fun H6 s6 => ?_⟩
    refine ⟨_, 4, rfl, b1, b2, by decide, fun p7 H7 h7 s7 g7 => ?_⟩
    have s67 := s6.trans s7
    refine ⟨p5, p7, _, _, rfl, rfl, s67 _ _ upd_same, g7, by rw [il_len, il_len, recHead_len, big_len]; exact line_small (by omega), fun p8 h8 => ?_⟩
    have s8 := (s5.trans s67).nw (o := .lst (il (recHead k b) ++ il (big 4 (byteSum (recHead k b))))) h8
    refine ⟨by show 1 ≤ sizeLine; decide, fun p9 h9 => ?_⟩
    have s9 := s8.nw (o := .lst [.int 255]) h9
    have g8 : upd (upd H7 p8 (.lst (il (recHead k b) ++ il (big 4 (byteSum (recHead k b)))))) p9 (.lst [.int 255]) p8 = some (.lst (il (recHead k b) ++ il (big 4 (byteSum (recHead k b))))) := by
      rw [upd_ne (ne_of_none upd_same h9)]
      exact upd_same
    refine ⟨p8, p9, _, _, rfl, rfl, g8, upd_same, by rw [List.length_append, il_len, il_len, recHead_len, big_len]; exact line_small (by simp; omega), fun p10 h10 => ?_⟩
    have er : (il (recHead k b) ++ il (big 4 (byteSum (recHead k b)))) ++ [V.int 255] = il (recBytes k b) := by
      unfold il recBytes
      rw [List.map_append, List.map_append]
      rfl
    have g := q.at s9 h10
    rw [er]
    exact g
theorem sc_record_end : FnScope ["data", "at", "middle", "end"] ["data", "at"] (defScope s_record_end) := ⟨rfl, rfl, rfl, by decide +kernel, rfl, by decide +kernel, by decide +kernel⟩
theorem ok_record_end (T : Txt K mg) : Df P w K mg base 2 ("record_end", none) ["data", "at"] (spRecordEnd K) := by
  refine df_nox T.F_record_end sc_record_end (fun _ _ _ _ _ _ us hl => match us, hl with | [_, _], _ => rfl) (fun vs H Q E h => ?_) (fun cdv A outer s H vs Q E hr h => ?_)
  · obtain ⟨a, n, xs, rfl, _⟩ := h
    rfl
  · obtain ⟨a, n, xs, rfl, hS, hb, hn, q⟩ := h
    have nd := sc_record_end.nd
    have g0 := ok_from_big (P := P) (w := w) (base := base) T
    have g1 := ok_byte_sum (P := P) (w := w) (base := base) T
    refine ⟨_, pss_cons (ps_if (pt_cmpR op_lt (eLen T.z_len (pv 0)) (pe_op op_add (pe_op op_add (pv 1) (gI T.i_HEAD_SIZE)) (gI T.i_TAIL_SIZE)) (nomark _)) (pss_one (ps_ret (pe_un un_neg pe_int))) pss_nil)
      (pss_cons (ps_if (PW.pt (pw_or (pt_cmpR op_lt (pe_ix ix_list (pv 0) (pv 1) (fun _ _ => rfl)) pe_int (nomark _)) (pw_or1 (pt_cmpR op_gt (pe_ix ix_list (pv 0) (pv 1) (fun _ _ => rfl)) (gI T.i_LAST_KIND) (nomark _))))) (pss_one (ps_ret (pe_un un_neg pe_int))) pss_nil)
      (pss_cons (ps_set (i := 2) nd rfl (Or.inl rfl) (pe_op op_add (pe_op op_add (pv 1) (gI T.i_HEAD_SIZE)) (eCall g0 hr (by decide) T.g_from_big (pa_cons (pe_slice sl_list (pv 0) (po_some (pe_op op_add (pv 1) pe_int)) (po_some (pe_op op_add (pv 1) (gI T.i_HEAD_SIZE)))) pa_nil))))
      (pss_cons (ps_set (i := 3) nd rfl (Or.inl rfl) (pe_op op_add (pv 2) (gI T.i_TAIL_SIZE)))
      (pss_cons (ps_if (PW.pt (pw_or (pt_cmpR op_lt (eLen T.z_len (pv 0)) (pv 3) (nomark _)) (pw_or1 (pt_cmpR op_ne (pe_ix ix_list (pv 0) (pe_op op_sub (pv 3) pe_int) (fun _ _ => rfl)) (gI T.i_CLOSING) (nomark _))))) (pss_one (ps_ret (pe_un un_neg pe_int))) pss_nil)
      (pss_cons (ps_if (pt_cmpR op_ne (eCall g0 hr (by decide) T.g_from_big (pa_cons (pe_slice sl_list (pv 0) (po_some (pv 2)) (po_some (pe_op op_sub (pv 3) pe_int))) pa_nil))
          (eCall g1 hr (by decide) T.g_byte_sum (pa_cons (pe_slice sl_list (pv 0) (po_some (pv 1)) (po_some (pv 2))) pa_nil)) (nomark _)) (pss_one (ps_ret (pe_un un_neg pe_int))) pss_nil)
      (pss_one (ps_ret (pv 3)))))))), ?_⟩
    have dl : (xs.drop n).length = xs.length - n := List.length_drop
    have no : ∀ H', Same H H' → recLen (xs.drop n) = 0 → Q (.int (-1)) H' := fun H' e h => by
      have g := q H' e
      rw [if_pos h] at g
      exact g
    have dg : ∀ i, (xs.drop n).getD i 0 = xs.getD (n + i) 0 := fun i => by
      rw [List.getD_eq_getElem?_getD, List.getD_eq_getElem?_getD, List.getElem?_drop]
    -- too short
    refine ⟨_, rfl, a, _, rfl, .inl hS, _, rfl, _, _, rfl, rfl, _, _, rfl, rfl, _, _, rfl, rfl, _, rfl, dec2 (fun c => ?_) (fun c => ?_)⟩
    · refine ⟨_, rfl, no H (Same.refl H) ?_⟩
      rw [il_len] at c
      unfold recLen
      rw [if_pos (by rw [dl]; omega)]
    rw [il_len] at c
    -- the kind
    have hk : recLen (xs.drop n) ≠ 0 → 1 ≤ xs.getD n 0 ∧ xs.getD n 0 ≤ 5 := fun z => by
      unfold recLen at z
      rw [if_neg (by rw [dl]; omega), dg] at z
      by_cases y : xs.getD (n + 0) 0 < 1 ∨ 5 < xs.getD (n + 0) 0
      · rw [if_pos y] at z
        exact absurd rfl z
      · rw [Nat.add_zero] at y
        omega
    have ix : atI (il xs) (n : Int) = some (V.int (xs.getD n 0)) := atI_nat (il_at (by omega))
    refine ⟨_, rfl, _, rfl, a, _, _, _, rfl, rfl, hS, ix, _, _, rfl, rfl, _, rfl, dec2 (fun c1 => ?_) (fun c1 => ?_)⟩
    · refine iteT ?_
      refine ⟨_, rfl, no H (Same.refl H) ?_⟩
      by_cases z : recLen (xs.drop n) = 0
      · exact z
      · have := hk z
        omega
    refine ⟨_, rfl, _, rfl, a, _, _, _, rfl, rfl, hS, ix, _, _, rfl, rfl, _, rfl, dec2 (fun c2 => ?_) (fun c2 => ?_)⟩
    · refine ⟨_, rfl, no H (Same.refl H) ?_⟩
      by_cases z : recLen (xs.drop n) = 0
      · exact z
      · have := hk z
        omega
    -- middle
    have ebl : fromBig ((xs.drop (n + 1)).take 2) = ((bodyLen (xs.drop n) : Nat) : Int) := by
      unfold bodyLen
      rw [List.drop_drop]
      exact (Int.toNat_of_nonneg (fromBig_nonneg ((hb.drop _).take _)).1).symm
    refine ⟨_, rfl, _, _, rfl, rfl, ?_⟩
    refine ⟨_, rfl, _, rfl, _, _, rfl, rfl, _, rfl, _, rfl, _, _, rfl, rfl, _, rfl, a, _, rfl, hS, fun p1 h1 => ?_⟩
    have c1' : cutV (il xs) (some ((n : Int) + 1)) (some ((n : Int) + 3)) = il ((xs.drop (n + 1)).take 2) := by
      have e := cut_nat (xs := xs) (i := n + 1) (j := n + 3) (by omega) (by omega)
      rw [show n + 3 - (n + 1) = 2 by omega] at e
      exact e
    refine ⟨p1, (xs.drop (n + 1)).take 2, rfl, ?_, (hb.drop _).take _, fun H2 s2 => ?_⟩
    · refine seq_at ?_
      rw [← c1']
      exact upd_same
    have e2 : Same H H2 := ((Same.refl H).nw h1).trans s2
    refine ⟨_, _, rfl, rfl, ?_⟩
    -- end
    refine ⟨_, rfl, _, _, rfl, rfl, ?_⟩
    rw [ebl]
    have hend : ∀ m : Nat, (n : Int) + 3 + (m : Int) + 5 = ((n + 8 + m : Nat) : Int) := fun m => by omega
    have hm1 : recLen (xs.drop n) ≠ 0 → recLen (xs.drop n) = 8 + bodyLen (xs.drop n) ∧ 8 + bodyLen (xs.drop n) ≤ xs.length - n := fun z => by
      have := recLen_pos z
      rw [dl] at this
      exact this
    generalize hm : bodyLen (xs.drop n) = m at *
    refine ⟨_, rfl, a, _, rfl, .inl (e2.seq hS), _, rfl, _, _, rfl, rfl, _, rfl, dec2 (fun c3 => ?_) (fun c3 => ?_)⟩
    · refine iteT ?_
      refine ⟨_, rfl, no H2 e2 ?_⟩
      rw [il_len] at c3
      by_cases z : recLen (xs.drop n) = 0
      · exact z
      · have := hm1 z
        omega
    rw [il_len] at c3
    have ix2 : atI (il xs) ((n : Int) + 3 + (m : Int) + 5 - 1) = some (V.int (xs.getD (n + (7 + m)) 0)) := by
      have e : (n : Int) + 3 + (m : Int) + 5 - 1 = ((n + (7 + m) : Nat) : Int) := by omega
      rw [e]
      exact atI_nat (il_at (by omega))
    refine ⟨_, rfl, _, rfl, _, _, rfl, rfl, a, _, _, _, rfl, rfl, e2.seq hS, ix2, rfl, _, rfl, ne_int (fun c4 => ?_) (fun c4 => ?_)⟩
    · refine ⟨_, rfl, no H2 e2 ?_⟩
      unfold recLen
      rw [if_neg (by rw [dl]; omega), hm]
      split
      · rfl
      · rw [if_pos (.inr (by rw [dg]; exact c4))]
    -- the sum
    have c2' : cutV (il xs) (some ((n : Int) + 3 + (m : Int))) (some ((n : Int) + 3 + (m : Int) + 5 - 1)) = il ((xs.drop (n + (3 + m))).take 4) := by
      have e : (n : Int) + 3 + (m : Int) = ((n + (3 + m) : Nat) : Int) := by omega
      have e' : (n : Int) + 3 + (m : Int) + 5 - 1 = ((n + (3 + m) + 4 : Nat) : Int) := by omega
      rw [e', e, cut_nat (xs := xs) (by omega) (by omega)]
      rw [show n + (3 + m) + 4 - (n + (3 + m)) = 4 by omega]
    have c3' : cutV (il xs) (some (n : Int)) (some ((n : Int) + 3 + (m : Int))) = il ((xs.drop n).take (3 + m)) := by
      have e : (n : Int) + 3 + (m : Int) = ((n + (3 + m) : Nat) : Int) := by omega
      rw [e, cut_nat (xs := xs) (by omega) (by omega)]
      rw [show n + (3 + m) - n = 3 + m by omega]
    refine ⟨_, rfl, _, rfl, _, rfl, _, rfl, _, _, rfl, rfl, _, rfl, a, _, rfl, e2.seq hS, fun p3 h3 => ?_⟩
    refine ⟨p3, (xs.drop (n + (3 + m))).take 4, rfl, ?_, (hb.drop _).take _, fun H4 s4 => ?_⟩
    · refine seq_at ?_
      rw [← c2']
      exact upd_same
    have e4 : Same H H4 := (e2.nw h3).trans s4
    refine ⟨_, rfl, _, rfl, _, rfl, _, rfl, _, rfl, a, _, rfl, e4.seq hS, fun p5 h5 => ?_⟩
    refine ⟨p5, (xs.drop n).take (3 + m), rfl, ?_, fun H6 s6 => ?_⟩
    · refine seq_at ?_
      rw [← c3']
      exact upd_same
    have e6 : Same H H6 := (e4.nw h5).trans s6
    have r4 : recLen (xs.drop n) = if fromBig ((xs.drop (n + (3 + m))).take 4) ≠ byteSum ((xs.drop n).take (3 + m)) then 0 else 8 + m := by
      unfold recLen
      have k0 : ¬ (xs.getD n 0 < 1 ∨ 5 < xs.getD n 0) := by omega
      rw [if_neg (by rw [dl]; omega), hm, dg, Nat.add_zero, if_neg k0, if_neg (by rw [dg]; omega), List.drop_drop]
    refine ⟨rfl, _, rfl, ne_int (fun c5 => ?_) (fun c5 => ?_)⟩
    · refine ⟨_, rfl, no H6 e6 ?_⟩
      rw [r4, if_pos c5]
    · have g := q H6 e6
      rw [r4, if_neg (by rw [c5]; simp), if_neg (by omega)] at g
      have e : (n : Int) + 3 + (m : Int) + 5 = ((n + (8 + m) : Nat) : Int) := by omega
      refine ⟨_, rfl, ?_⟩
      show Q (V.int ((n : Int) + 3 + (m : Int) + 5)) H6
      rw [e]
      exact g
end
end Hush
namespace Hush
theorem encAll_len_le : ∀ rs : List (Int × List Int), rs.length ≤ (encAll rs).length
  | [] => Nat.le_refl _
  | r :: rs => by
    have := encAll_len_le rs
    rw [encAll_cons, List.length_append, recBytes_len, List.length_cons]
    omega
theorem encAll_split {rs : List (Int × List Int)} {i : Nat} {r : Int × List Int} (h : rs[i]? = some r) (tail : List Int) :
    (encAll rs ++ tail).drop (encAll (rs.take i)).length = recBytes r.1 r.2 ++ (encAll (rs.drop (i + 1)) ++ tail) := by
  have hi : i < rs.length := (List.getElem?_eq_some_iff.mp h).1
  have e : rs = rs.take i ++ (r :: rs.drop (i + 1)) := by
    have e1 : rs.drop i = r :: rs.drop (i + 1) := by
      rw [List.drop_eq_getElem_cons hi]
      have := (List.getElem?_eq_some_iff.mp h).2
      rw [this]
    rw [← e1, List.take_append_drop]
  have e2 : encAll rs = encAll (rs.take i) ++ (recBytes r.1 r.2 ++ encAll (rs.drop (i + 1))) := by
    have := congrArg encAll e
    rw [encAll_append, encAll_cons] at this
    exact this
  rw [e2, List.append_assoc, List.drop_append_of_le_length (Nat.le_refl _), List.drop_of_length_le (Nat.le_refl _), List.nil_append, List.append_assoc]
theorem encAll_end (rs : List (Int × List Int)) (tail : List Int) : (encAll rs ++ tail).drop (encAll rs).length = tail := by
  rw [List.drop_append_of_le_length (Nat.le_refl _), List.drop_of_length_le (Nat.le_refl _), List.nil_append]
theorem encAll_snoc (rs : List (Int × List Int)) (r : Int × List Int) : encAll (rs ++ [r]) = encAll rs ++ recBytes r.1 r.2 := by
  rw [encAll_append, encAll_cons, encAll_nil, List.append_nil]
theorem rec_kind (k : Int) (b rest : List Int) : (recBytes k b ++ rest).getD 0 0 = k := rfl
theorem rec_body (k : Int) (b rest : List Int) : ((recBytes k b ++ rest).drop 3).take b.length = b := by
  have form : recBytes k b ++ rest = k :: (big 2 b.length ++ (b ++ (big 4 (byteSum (recHead k b)) ++ ([255] ++ rest)))) := by
    unfold recBytes
    show (recHead k b ++ big 4 (byteSum (recHead k b)) ++ [255]) ++ rest = _
    rw [List.append_assoc, List.append_assoc]
    unfold recHead
    rw [List.cons_append, List.append_assoc]
  rw [form, List.drop_succ_cons, List.drop_append_of_le_length (by rw [big_len]; exact Nat.le_refl _), List.drop_of_length_le (by rw [big_len]; exact Nat.le_refl _), List.nil_append, List.take_append_of_le_length (Nat.le_refl _), List.take_of_length_le (Nat.le_refl _)]
theorem getD_drop (xs : List Int) (n i : Nat) : (xs.drop n).getD i 0 = xs.getD (n + i) 0 := by
  rw [List.getD_eq_getElem?_getD, List.getD_eq_getElem?_getD, List.getElem?_drop]
end Hush
set_option Elab.async false
set_option linter.all false
set_option maxRecDepth 100000
set_option maxHeartbeats 4000000
/-! entries: read_records, is_name, name_bytes, bytes_name -/
namespace Hush
open PySem PySem.Spec PyProof.Rows L2
/-- a record as read: a tuple of the kind and a list, the body -/
def RecAt (H : Hp) (v : V) (r : Int × List Int) : Prop := ∃ t b : Addr, v = .ref t ∧ H t = some (.tup [.int r.1, .ref b]) ∧ H b = some (.lst (il r.2))
/-- .. whose body is not the list l -/
def RecNo (l : Addr) (H : Hp) (v : V) (r : Int × List Int) : Prop := ∃ t b : Addr, v = .ref t ∧ H t = some (.tup [.int r.1, .ref b]) ∧ H b = some (.lst (il r.2)) ∧ b ≠ l
abbrev RecsAt (H : Hp) (ts : List V) (rs : List (Int × List Int)) : Prop := Paired (RecAt H) ts rs
theorem RecAt.same {H H' : Hp} {v : V} {r : Int × List Int} (x : RecAt H v r) (e : Same H H') : RecAt H' v r := by
  obtain ⟨t, b, h1, h2, h3⟩ := x
  exact ⟨t, b, h1, e _ _ h2, e _ _ h3⟩
theorem RecsAt.same {H H' : Hp} {ts : List V} {rs : List (Int × List Int)} (x : RecsAt H ts rs) (e : Same H H') : RecsAt H' ts rs := Paired.mapP x fun _ _ y => y.same e
/-- the four names -/
def L4 : List Str := ["a", "b", "c", "d9"]
def nameCodes (z : Str) : List Int := z.cps.toList.map fun c : Nat => (c : Int)
def spReadRecords (K : PySem.W.Frag) : Sp := fun vs H Q _ => ∃ (a : Addr) (rs : List (Int × List Int)) (tail : List Int), vs = [.ref a] ∧ SqL K H a (il (encAll rs ++ tail)) ∧ (∀ r ∈ rs, RecOk r) ∧ Byt tail ∧ recLen tail = 0 ∧ (encAll rs ++ tail).length ≤ 200000 ∧
  ∀ (p l : Addr) (ts : List V) (H' : Hp), H p = none → H l = none → Same H H' → H' p = some (.tup [.ref l, .int ((encAll rs).length : Int)]) → H' l = some (.lst ts) → RecsAt H' ts rs → Q (.ref p) H'
def spIsName : Sp := fun vs H Q _ => ∃ z : Str, vs = [.str z] ∧ z ∈ L4 ∧ RetV (.bl true) H Q
def spNameBytes : Sp := fun vs H Q _ => ∃ z : Str, vs = [.str z] ∧ z ∈ L4 ∧ RetL (il (nameCodes z)) H Q
def spBytesName (K : PySem.W.Frag) : Sp := fun vs H Q _ => ∃ (a : Addr) (z : Str), vs = [.ref a] ∧ SqL K H a (il (nameCodes z)) ∧ z ∈ L4 ∧ RetV (.str z) H Q
theorem byt_encAll_tail {rs : List (Int × List Int)} {tail : List Int} (h : ∀ r ∈ rs, RecOk r) (ht : Byt tail) : Byt (encAll rs ++ tail) := (encAll_byt h).append ht
section
variable {P : Program} {w : World} {K : PySem.W.Frag} {mg : Str → Option Value} {base : Heap}
theorem sc_read_records : FnScope ["data", "records", "at", "end"] ["data"] (defScope s_read_records) := ⟨rfl, rfl, rfl, by decide +kernel, rfl, by decide +kernel, by decide +kernel⟩
theorem ok_read_records (T : Txt K mg) : Df P w K mg base 3 ("read_records", none) ["data"] (spReadRecords K) := by
  refine df_nox T.F_read_records sc_read_records (fun _ _ _ _ _ _ us hl => match us, hl with | [_], _ => rfl) (fun vs H Q E h => ?_) (fun cdv A outer s H vs Q E hr h => ?_)
  · obtain ⟨a, rs, tail, rfl, _⟩ := h
    rfl
  · obtain ⟨a, rs, tail, rfl, hS, hrs, htb, ht, hlen, q⟩ := h
    have nd := sc_read_records.nd
    have g0 := ok_record_end (P := P) (w := w) (base := base) T
    refine ⟨_, pss_cons (ps_set (i := 1) nd rfl (Or.inl rfl) (pe_lst pa_nil))
      (pss_cons (ps_set (i := 2) nd rfl (Or.inl rfl) pe_int)
      (pss_cons (ps_set (i := 3) nd rfl (Or.inl rfl) (eCall g0 hr (by decide) T.g_record_end (pa_cons (pv 0) (pa_cons (pv 2) pa_nil))))
      (pss_cons (ps_while PassesOwn.never (pt_cmpR op_gt (pv 3) pe_int (nomark _))
        (pss_cons (ps_expr (pe_bm PySem.F.plainAttrs_list PySem.F.slot_list_append PySem.F.type_list_append mt_append (pv 1)
            (pa_cons (pe_tup (pa_cons (pe_ix ix_list (pv 0) (pv 2) (fun _ _ => rfl)) (pa_cons (pe_slice sl_list (pv 0) (po_some (pe_op op_add (pv 2) (gI T.i_HEAD_SIZE))) (po_some (pe_op op_sub (pv 3) (gI T.i_TAIL_SIZE)))) pa_nil))) pa_nil)))
        (pss_cons (ps_set (i := 2) nd rfl (Or.inl rfl) (pv 3))
        (pss_one (ps_set (i := 3) nd rfl (Or.inl rfl) (eCall g0 hr (by decide) T.g_record_end (pa_cons (pv 0) (pa_cons (pv 2) pa_nil))))))))
      (pss_one (ps_ret (pe_tup (pa_cons (pv 1) (pa_cons (pv 2) pa_nil)))))))), ?_⟩
    have hB := byt_encAll_tail hrs htb
    generalize hxs : encAll rs ++ tail = xs at *
    refine ⟨by show 0 ≤ sizeLine; decide, fun l hl => ?_⟩
    have s1 := (Same.refl H).nw (o := .lst []) hl
    refine ⟨_, rfl, _, rfl, a, 0, xs, rfl, s1.seq hS, hB, Nat.zero_le _, fun H2 s2 => ?_⟩
    have s2' := s1.trans s2
    -- what is known at each turn
    refine ⟨fun m σ H' => ∃ (i : Nat) (ts : List V), m = rs.length - i ∧ i ≤ rs.length ∧
        σ = [some (.ref a), some (.ref l), some (.int ((encAll (rs.take i)).length : Int)), some (.int (if recLen (xs.drop (encAll (rs.take i)).length) = 0 then -1 else (((encAll (rs.take i)).length + recLen (xs.drop (encAll (rs.take i)).length) : Nat) : Int)))] ∧
        Same H H' ∧ H' l = some (.lst ts) ∧ Paired (RecNo l H') ts (rs.take i), ⟨rs.length, 0, [], rfl, Nat.zero_le _, rfl, s2', s2 _ _ upd_same, .nil⟩, ?_⟩
    rintro m σ H3 ⟨i, ts, rfl, hi, rfl, e3, hl3, hts⟩
    have tsl : ts.length = i := by
      have := Paired.length hts
      rw [this, List.length_take]
      omega
    refine ⟨_, rfl, _, _, rfl, rfl, _, rfl, ?_⟩
    by_cases hlt : i < rs.length
    · -- a record
      have hr0 : rs[i]? = some rs[i] := List.getElem?_eq_getElem hlt
      generalize hrr : rs[i] = r at *
      have hrok : RecOk r := hrs r (by rw [← hrr]; exact List.getElem_mem hlt)
      have hsp := encAll_split hr0 tail
      rw [hxs] at hsp
      have hrl : recLen (xs.drop (encAll (rs.take i)).length) = 8 + r.2.length := by rw [hsp]; exact recLen_rec hrok _
      have htake : encAll (rs.take (i + 1)) = encAll (rs.take i) ++ recBytes r.1 r.2 := by rw [take_more hr0, encAll_snoc]
      have hnl : (encAll (rs.take (i + 1))).length = (encAll (rs.take i)).length + (8 + r.2.length) := by rw [htake, List.length_append, recBytes_len]
      have hle : (encAll (rs.take i)).length + (8 + r.2.length) ≤ xs.length := by
        have := congrArg List.length hsp
        rw [List.length_drop, List.length_append, recBytes_len] at this
        omega
      generalize hn : (encAll (rs.take i)).length = n at *
      rw [hrl, if_neg (by omega)]
      refine dec2 (fun _ => ?_) (fun c => absurd (show (0 : Int) < ((n + (8 + r.2.length) : Nat) : Int) by omega) c)
      refine ⟨fun σ' H' => ∃ (ts : List V), σ' = [some (.ref a), some (.ref l), some (.int ((n + (8 + r.2.length) : Nat) : Int)), some (.int (if recLen (xs.drop (n + (8 + r.2.length))) = 0 then -1 else (((n + (8 + r.2.length)) + recLen (xs.drop (n + (8 + r.2.length))) : Nat) : Int)))] ∧
        Same H H' ∧ H' l = some (.lst ts) ∧ Paired (RecNo l H') ts (rs.take (i + 1)), ?_, ?_⟩
      · rintro σ' H' ⟨ts', rfl, e', hl', hts'⟩
        refine ⟨rs.length - (i + 1), by omega, i + 1, ts', rfl, by omega, ?_, e', hl', hts'⟩
        rw [hnl]
      · -- records.append((data[at], data[at + HEAD_SIZE:end - TAIL_SIZE])); at = end; end = record_end(data, at)
        have ek : xs.getD n 0 = r.1 := by
          have := getD_drop xs n 0
          rw [hsp, rec_kind, Nat.add_zero] at this
          exact this.symm
        have ix : atI (il xs) (n : Int) = some (V.int r.1) := by
          have := il_at (xs := xs) (i := n) (by omega)
          rw [ek] at this
          exact atI_nat this
        have ecut : cutV (il xs) (some ((n : Int) + 3)) (some (((n + (8 + r.2.length) : Nat) : Int) - 5)) = il r.2 := by
          have e1 : ((n : Int) + 3) = ((n + 3 : Nat) : Int) := by omega
          have e2 : (((n + (8 + r.2.length) : Nat) : Int) - 5) = ((n + 3 + r.2.length : Nat) : Int) := by omega
          rw [e1, e2, cut_nat (by omega) (by omega), show n + 3 + r.2.length - (n + 3) = r.2.length by omega]
          have e3 : xs.drop (n + 3) = (xs.drop n).drop 3 := by rw [List.drop_drop]
          rw [e3, hsp, rec_body]
        refine ⟨_, rfl, .inl ⟨rfl, _, seq_at hl3⟩, ?_⟩
        refine ⟨_, rfl, _, rfl, a, _, _, _, rfl, rfl, e3.seq hS, ix, ?_⟩
        refine ⟨_, rfl, _, rfl, _, _, rfl, rfl, _, rfl, _, rfl, _, _, rfl, rfl, _, rfl, a, _, rfl, e3.seq hS, fun b hb => ?_⟩
        refine ⟨by show 2 ≤ sizeLine; decide, fun t ht => ?_⟩
        have hnl3 : l ≠ b := ne_of_none hl3 hb
        have hnt : b ≠ t := ne_of_none upd_same ht
        have hlt3 : l ≠ t := ne_of_none (by rw [upd_ne hnl3]; exact hl3) ht
        have hl4 : upd (upd H3 b (.lst (cutV (il xs) (some ((n : Int) + 3)) (some (((n + (8 + r.2.length) : Nat) : Int) - 5))))) t (.tup [.int r.1, .ref b]) l = some (.lst ts) := by
          rw [upd_ne hlt3, upd_ne hnl3]
          exact hl3
        refine ⟨l, ts, _, rfl, rfl, hl4, by rw [tsl]; exact line_lt (by have := encAll_len_le rs; have := congrArg List.length hxs; rw [List.length_append] at this; omega), ?_⟩
        have e4 : Same H (upd (upd (upd H3 b (.lst (cutV (il xs) (some ((n : Int) + 3)) (some (((n + (8 + r.2.length) : Nat) : Int) - 5))))) t (.tup [.int r.1, .ref b])) l (.lst (ts ++ [.ref t]))) := ((e3.nw hb).nw ht).mt hl
        have hts4 : Paired (RecNo l (upd (upd (upd H3 b (.lst (cutV (il xs) (some ((n : Int) + 3)) (some (((n + (8 + r.2.length) : Nat) : Int) - 5))))) t (.tup [.int r.1, .ref b])) l (.lst (ts ++ [.ref t])))) (ts ++ [.ref t]) (rs.take (i + 1)) := by
          rw [take_more hr0]
          refine Paired.snoc (Paired.mapP hts fun v r' y => ?_) ⟨t, b, rfl, ?_, ?_, Ne.symm hnl3⟩
          · obtain ⟨t', b', h1, h2, h3, h4⟩ := y
            have n1 : t' ≠ l := ne_of h2 hl3 (by intro z; cases z)
            have n3 : t' ≠ b := ne_of_none h2 hb
            have n2 : t' ≠ t := ne_of_none (by rw [upd_ne n3]; exact h2) ht
            have m3 : b' ≠ b := ne_of_none h3 hb
            have m2 : b' ≠ t := ne_of_none (by rw [upd_ne m3]; exact h3) ht
            refine ⟨t', b', h1, ?_, ?_, h4⟩
            · rw [upd_ne n1, upd_ne n2, upd_ne n3]
              exact h2
            · rw [upd_ne h4, upd_ne m2, upd_ne m3]
              exact h3
          · rw [upd_ne (Ne.symm hlt3)]
            exact upd_same
          · rw [upd_ne (Ne.symm hnl3), upd_ne hnt, upd_same, ecut]
        refine ⟨_, rfl, _, rfl, _, rfl, a, n + (8 + r.2.length), xs, rfl, e4.seq hS, hB, hle, fun H5 s5 => ?_⟩
        exact ⟨ts ++ [.ref t], rfl, e4.trans s5, s5 _ _ upd_same, Paired.mapP hts4 fun v r' ⟨t', b', h1, h2, h3, h4⟩ => ⟨t', b', h1, s5 _ _ h2, s5 _ _ h3, h4⟩⟩
    · -- the end
      have ei : i = rs.length := by omega
      subst ei
      have hend := encAll_end rs tail
      rw [hxs] at hend
      rw [List.take_length] at hts ⊢
      rw [hend, if_pos ht]
      refine dec2 (fun c => absurd c (by decide)) (fun _ => ?_)
      refine ⟨_, rfl, _, rfl, by show 2 ≤ sizeLine; decide, fun p hp => ?_⟩
      have e5 := e3.nw (o := .tup [.ref l, .int ((encAll rs).length : Int)]) hp
      have e35 : Same H3 (upd H3 p (.tup [.ref l, .int ((encAll rs).length : Int)])) := (Same.refl H3).nw hp
      refine q p l ts _ (e3.free hp) hl e5 upd_same (e35 _ _ hl3) (Paired.mapP hts fun v r' ⟨t', b', h1, h2, h3, _⟩ => ⟨t', b', h1, e35 _ _ h2, e35 _ _ h3⟩)
end
end Hush
set_option Elab.async false
set_option linter.all false
set_option maxRecDepth 100000
set_option maxHeartbeats 4000000
/-! entries: is_name, name_bytes, bytes_name -/
namespace Hush
open PySem PySem.Spec PyProof.Rows L2
def SG : Str := "abcdefghijklmnopqrstuvwxyz0123456789-"
theorem L4_ok : ∀ z ∈ L4, (1 ≤ z.length ∧ z.length ≤ 32) ∧ ∀ c ∈ z.cps.toList, c ∈ SG.cps.toList := by decide +kernel
theorem codes_len (z : Str) : (nameCodes z).length = z.length := by
  unfold nameCodes
  rw [List.length_map, Array.length_toList]
  rfl
theorem codes_at {z : Str} {i c : Nat} (h : z.cps[i]? = some c) : (nameCodes z)[i]? = some (c : Int) := by
  unfold nameCodes
  rw [List.getElem?_map, Array.getElem?_toList, h]
  rfl
theorem codes_byt : ∀ z ∈ L4, Byt (nameCodes z) := by
  intro z hz x hx
  unfold nameCodes at hx
  obtain ⟨c, hc, rfl⟩ := List.mem_map.mp hx
  have h : ∀ c ∈ SG.cps.toList, c < 256 := by decide +kernel
  have := h c ((L4_ok z hz).2 c hc)
  omega
/-- the signs with a code -/
def sgn (l : List Nat) (c : Int) : List Str := (l.filter fun s : Nat => decide ((s : Int) = c)).map fun s : Nat => (⟨#[s]⟩ : Str)
def sgs (cs : List Int) : List Str := cs.flatMap (sgn SG.cps.toList)
theorem sgs_L4 : ∀ z ∈ L4, Txt.join "" (sgs (nameCodes z)) = z ∧ (sgs (nameCodes z)).length ≤ 32 ∧ ((sgs (nameCodes z)).map (·.length)).sum ≤ 32 := by decide +kernel
theorem sgs_snoc (cs : List Int) (c : Int) : sgs (cs ++ [c]) = sgs cs ++ sgn SG.cps.toList c := by
  unfold sgs
  rw [List.flatMap_append]
  simp
theorem sgn_snoc (l : List Nat) (s : Nat) (c : Int) : sgn (l ++ [s]) c = if (s : Int) = c then sgn l c ++ [⟨#[s]⟩] else sgn l c := by
  unfold sgn
  rw [List.filter_append, List.map_append]
  by_cases h : (s : Int) = c
  · rw [if_pos h, List.filter_cons, if_pos (by rw [decide_eq_true h])]
    rfl
  · rw [if_neg h, List.filter_cons, if_neg (by rw [decide_eq_false h]; decide)]
    exact List.append_nil _
section
variable {P : Program} {w : World} {K : PySem.W.Frag} {mg : Str → Option Value} {base : Heap}
theorem sc_is_name : FnScope ["value", "sign"] ["value"] (defScope s_is_name) := ⟨rfl, rfl, rfl, by decide +kernel, rfl, by decide +kernel, by decide +kernel⟩
theorem ok_is_name (T : Txt K mg) : Df P w K mg base 1 ("is_name", none) ["value"] spIsName := by
  refine df_nox T.F_is_name sc_is_name (fun _ _ _ _ _ _ us hl => match us, hl with | [_], _ => rfl) (fun vs H Q E h => ?_) (fun cdv A outer s H vs Q E hr h => ?_)
  · obtain ⟨z, rfl, _⟩ := h
    rfl
  · obtain ⟨z, rfl, hz, q⟩ := h
    have nd := sc_is_name.nd
    obtain ⟨⟨l1, l2⟩, hs⟩ := L4_ok z hz
    refine ⟨_, pss_cons (ps_if (pt_not (pt_val (pe_callB call_isi rfl T.z_isinstance boot_isinstance (pa_cons (pv 0) (pa_cons (pe_bltn (v := .ty "str") rfl T.z_str boot_str rfl) pa_nil))))) (pss_one (ps_ret pe_bl)) pss_nil)
      (pss_cons (ps_if (PW.pt (pw_or (pt_cmpR op_lt (pe_callB call_len_str rfl T.z_len PySem.boot_len (pa_cons (pv 0) pa_nil)) pe_int (nomark _)) (pw_or1 (pt_cmpR op_gt (pe_callB call_len_str rfl T.z_len PySem.boot_len (pa_cons (pv 0) pa_nil)) (gI T.i_NAME_SIZE) (nomark _))))) (pss_one (ps_ret pe_bl)) pss_nil)
      (pss_cons (ps_for PassesOwn.never rfl (pi_str (pv 0)) (pg_name (i := 1) nd rfl (Or.inl rfl))
        (pss_one (ps_if (pt_cmpR op_notIn_sign (pv 1) (gS T.s_SIGNS) (by rfl)) (pss_one (ps_ret pe_bl)) pss_nil)))
      (pss_one (ps_ret pe_bl)))), ?_⟩
    refine ⟨_, rfl, _, _, _, _, true, rfl, .ty "str", .base (.str z), kit_ty (by decide +kernel), _, rfl, iteF ?_⟩
    refine ⟨_, rfl, z, rfl, line_small (by omega), _, _, rfl, rfl, _, rfl, dec2 (fun c => absurd c (by omega)) (fun _ => ?_)⟩
    refine ⟨_, rfl, z, rfl, line_small (by omega), _, _, rfl, rfl, _, rfl, dec2 (fun c => absurd c (by omega)) (fun _ => ?_)⟩
    refine ⟨_, rfl, z, rfl, for_it walk_str (fun i σ H' => ∃ v, σ = [some (.str z), v] ∧ H' = H) ⟨none, rfl, rfl⟩ (fun _ _ _ _ _ => True.intro) ?_ ?_⟩
    · rintro i x σ H1 H2 hi ⟨v, rfl, rfl⟩ ⟨rfl, c, hc, rfl⟩
      have hm : c ∈ SG.cps.toList := hs c (List.mem_of_getElem? (by rw [Array.getElem?_toList]; exact hc))
      refine ⟨_, rfl, c, SG, rfl, rfl, _, rfl, ?_⟩
      rw [decide_eq_true hm]
      exact iteF ⟨some (.str ⟨#[c]⟩), rfl, rfl⟩
    · rintro σ H' ⟨v, rfl, rfl⟩
      exact q _ (Same.refl _)
theorem sc_name_bytes : FnScope ["name", "sign"] ["name"] (defScope s_name_bytes) := ⟨rfl, rfl, rfl, by decide +kernel, rfl, by decide +kernel, by decide +kernel⟩
theorem ok_name_bytes (T : Txt K mg) : Df P w K mg base 2 ("name_bytes", none) ["name"] spNameBytes := by
  refine df_nox T.F_name_bytes sc_name_bytes (fun _ _ _ _ _ _ us hl => match us, hl with | [_], _ => rfl) (fun vs H Q E h => ?_) (fun cdv A outer s H vs Q E hr h => ?_)
  · obtain ⟨z, rfl, _⟩ := h
    rfl
  · obtain ⟨z, rfl, hz, q⟩ := h
    have nd := sc_name_bytes.nd
    obtain ⟨⟨l1, l2⟩, hs⟩ := L4_ok z hz
    have g0 := ok_is_name (P := P) (w := w) (base := base) T
    refine ⟨_, pss_cons (ps_if (pt_not (pt_val (eCall g0 hr (by decide) T.g_is_name (pa_cons (pv 0) pa_nil)))) pss_never pss_nil)
      (pss_one (ps_ret (pe_lc (own := [("sign", 1)]) (g := gName 1) (tt := tYes) rfl nd (pi_str (pv 0)) (blkOk_by (own := [("sign", 1)]) (N := ["name", "sign"]) (sc := defScope s_name_bytes) (by decide +kernel))
        (fun _ _ _ _ _ => pg_name (i := 1) nd rfl (Or.inl rfl)) (fun _ _ _ _ _ => pts_nil) (fun _ _ _ _ _ => pe_callB call_ord rfl T.z_ord boot_ord (pa_cons (pv 1) pa_nil))))), ?_⟩
    refine ⟨_, rfl, z, rfl, hz, fun H1 e1 => ⟨_, rfl, iteF ?_⟩⟩
    refine ⟨_, rfl, z, rfl, fun D hD => ?_⟩
    refine lc_it walk_str (fun i H' => Same H H' ∧ H' D = some (.lst (il ((nameCodes z).take i)))) ⟨e1.nw hD, upd_same⟩ (fun _ _ _ _ => True.intro) ?_ ?_
    · rintro i x H2 H3 hi ⟨e2, g2⟩ ⟨rfl, c, hc, rfl⟩
      refine ⟨rfl, _, rfl, _, rfl, rfl, _, g2, by rw [il_len, List.length_take, codes_len]; exact line_lt (by omega), e2.mt (e1.free hD), ?_⟩
      rw [upd_same, take_more (codes_at hc)]
      unfold il
      rw [List.map_append]
      rfl
    · rintro H2 ⟨e2, g2⟩
      have e : (nameCodes z).take z.cps.size = nameCodes z := List.take_of_length_le (by rw [codes_len]; exact Nat.le_refl _)
      rw [e] at g2
      exact q D H2 (e1.free hD) e2 g2
theorem sc_bytes_name : FnScope ["data", "signs", "code", "sign", "name"] ["data"] (defScope s_bytes_name) := ⟨rfl, rfl, rfl, by decide +kernel, rfl, by decide +kernel, by decide +kernel⟩
theorem ok_bytes_name (T : Txt K mg) : Df P w K mg base 2 ("bytes_name", none) ["data"] (spBytesName K) := by
  refine df_nox T.F_bytes_name sc_bytes_name (fun _ _ _ _ _ _ us hl => match us, hl with | [_], _ => rfl) (fun vs H Q E h => ?_) (fun cdv A outer s H vs Q E hr h => ?_)
  · obtain ⟨a, z, rfl, _⟩ := h
    rfl
  · obtain ⟨a, z, rfl, hS, hz, q⟩ := h
    have nd := sc_bytes_name.nd
    obtain ⟨⟨l1, l2⟩, hs⟩ := L4_ok z hz
    obtain ⟨j1, j2, j3⟩ := sgs_L4 z hz
    have g0 := ok_is_name (P := P) (w := w) (base := base) T
    refine ⟨_, pss_cons (ps_set (i := 1) nd rfl (Or.inl rfl) (pe_lst pa_nil))
      (pss_cons (ps_for PassesOwn.never rfl (pi_list (pv 0)) (pg_name (i := 2) nd rfl (Or.inl rfl))
        (pss_one (ps_for PassesOwn.never rfl (pi_str (gS T.s_SIGNS)) (pg_name (i := 3) nd rfl (Or.inl rfl))
          (pss_one (ps_if (pt_cmpR op_eq (pe_callB call_ord rfl T.z_ord boot_ord (pa_cons (pv 3) pa_nil)) (pv 2) (nomark _))
            (pss_one (ps_expr (pe_bm PySem.F.plainAttrs_list PySem.F.slot_list_append PySem.F.type_list_append mt_append (pv 1) (pa_cons (pv 3) pa_nil)))) pss_nil)))))
      (pss_cons (ps_set (i := 4) nd rfl (Or.inl rfl) (pe_join pe_str (pv 1)))
      (pss_cons (ps_if (PW.pt (pw_or (pt_cmpR op_ne (pe_callB call_len_str rfl T.z_len PySem.boot_len (pa_cons (pv 4) pa_nil)) (eLen T.z_len (pv 0)) (nomark _)) (pw_or1 (pt_not (pt_val (eCall g0 hr (by decide) T.g_is_name (pa_cons (pv 4) pa_nil))))))) pss_never pss_nil)
      (pss_one (ps_ret (pv 4)))))), ?_⟩
    refine ⟨by show 0 ≤ sizeLine; decide, fun l hl => ?_⟩
    have s1 := (Same.refl H).nw (o := .lst []) hl
    have bnd : ∀ cs : List Int, cs.length ≤ 32 → (sgs cs).length ≤ 32 * 37 := fun cs hcs => by
      have h1 : ∀ c, (sgn SG.cps.toList c).length ≤ 37 := fun c => by
        unfold sgn
        rw [List.length_map]
        exact Nat.le_trans (List.length_filter_le _ _) (by decide +kernel)
      have h2 : ∀ cs : List Int, (sgs cs).length ≤ cs.length * 37 := fun cs => by
        induction cs with
        | nil => exact Nat.le_refl _
        | cons c r ih =>
          have e : sgs (c :: r) = sgn SG.cps.toList c ++ sgs r := rfl
          rw [e, List.length_append, List.length_cons]
          have := h1 c
          omega
      have := h2 cs
      omega
    refine ⟨_, rfl, a, rfl, ⟨_, s1.seq hS⟩, for_list (K := K) (a := a) (xs := il (nameCodes z)) (fun i σ H' => ∃ v v', σ = [some (.ref a), some (.ref l), v, v', none] ∧ Same H H' ∧ H' l = some (.lst ((sgs ((nameCodes z).take i)).map V.str)))
      ⟨none, none, rfl, s1, upd_same⟩ (fun i σ H' _ ⟨_, _, _, e, _⟩ => e.seq hS) ?_ ?_⟩
    · rintro i y σ H1 hi ⟨v, v', rfl, e1, gl⟩
      obtain ⟨c, hc, rfl⟩ := il_get hi
      have hi' : i < (nameCodes z).length := (List.getElem?_eq_some_iff.mp hc).1
      rw [codes_len] at hi'
      refine ⟨SG, rfl, for_it walk_str (fun j σ H' => ∃ v', σ = [some (.ref a), some (.ref l), some (.int c), v', none] ∧ Same H H' ∧ H' l = some (.lst ((sgs ((nameCodes z).take i) ++ sgn (SG.cps.toList.take j) c).map V.str)))
        ⟨v', rfl, e1, ?_⟩ (fun _ _ _ _ _ => True.intro) ?_ ?_⟩
      · show H1 l = some (.lst ((sgs ((nameCodes z).take i) ++ []).map V.str))
        rw [List.append_nil]
        exact gl
      · rintro j x σ H2 H3 hj ⟨v', rfl, e2, gl2⟩ ⟨rfl, sg, hsg, rfl⟩
        have hj2 : SG.cps.toList[j]? = some sg := by rw [Array.getElem?_toList]; exact hsg
        refine ⟨_, rfl, ⟨#[sg]⟩, rfl, rfl, _, rfl, rfl, _, rfl, ?_⟩
        refine eq_int (fun e => ?_) (fun e => ?_)
        · refine ⟨_, rfl, .inl ⟨rfl, _, seq_at gl2⟩, _, rfl, l, _, _, rfl, rfl, gl2, ?_, some (.str ⟨#[sg]⟩), rfl, e2.mt hl, ?_⟩
          · rw [List.length_map, List.length_append]
            have b1 := bnd ((nameCodes z).take i) (by rw [List.length_take]; omega)
            have b2 : (sgn (SG.cps.toList.take j) c).length ≤ 37 := by
              unfold sgn
              rw [List.length_map]
              refine Nat.le_trans (List.length_filter_le _ _) ?_
              rw [List.length_take]
              exact Nat.le_trans (Nat.min_le_right _ _) (by decide +kernel)
            exact line_lt (by omega)
          · rw [upd_same, take_more hj2, sgn_snoc, if_pos (show (sg : Int) = c from e), ← List.append_assoc, List.map_append (l₂ := [_])]
            rfl
        · refine ⟨some (.str ⟨#[sg]⟩), rfl, e2, ?_⟩
          rw [take_more hj2, sgn_snoc, if_neg (show ¬ (sg : Int) = c from e)]
          exact gl2
      · rintro σ H2 ⟨v', rfl, e2, gl2⟩
        refine ⟨_, v', rfl, e2, ?_⟩
        rw [take_more hc, sgs_snoc]
        have et : SG.cps.toList.take SG.cps.size = SG.cps.toList := List.take_of_length_le (by rw [Array.length_toList]; exact Nat.le_refl _)
        rw [et] at gl2
        exact gl2
    · rintro σ H1 ⟨v, v', rfl, e1, gl⟩
      rw [il_len, List.take_length] at gl
      refine ⟨⟨_, rfl⟩, _, rfl, _, l, _, rfl, rfl, .inl (seq_at gl), ?_, ?_⟩
      · show ((sgs (nameCodes z)).map (·.length)).sum + (sgs (nameCodes z)).length * 0 ≤ 16777216
        omega
      rw [j1]
      refine ⟨_, rfl, z, rfl, line_small (by omega), _, rfl, a, _, rfl, .inl (e1.seq hS), rfl, _, rfl, ne_int (fun c => absurd ?_ c) (fun _ => ?_)⟩
      · rw [il_len, codes_len]
      refine ⟨_, rfl, z, rfl, hz, fun H2 e2 => ⟨_, rfl, iteF ?_⟩⟩
      exact ⟨_, rfl, q _ (e1.trans e2)⟩
end
end Hush
set_option Elab.async false
set_option linter.all false
set_option maxRecDepth 100000
set_option maxHeartbeats 4000000
/-! The disk: what stands of it, frames. -/
namespace Hush
open PySem PySem.Spec PyProof.Rows L2
/-! ### method calls -/
section
variable {X : Cx} {j k : Nat} {p : Str × Option Str} {ps : List Str} {sp : Sp} {x m : Str} {C : Addr} {px pos apos : Pos} {e o : Expr} {es : List Expr} {t : TA} {te ta : TE} {E : XK}
theorem eMethX {pl : Sem Bool} (D : Df X.prog X.w X.K X.mg X.base k p ps sp) (hr : Room j X.A) (hk : k ≤ j) (c : Cls X.K C) (hm : Meth X.K C m (He.fAd X.K p)) (hx : Passes (L2N.CX X.prog X.w) X E) (he : PE X o ta) (ha : PA X (e :: es) t)
    (hst : starEach (e :: es) X.env = (false, eval e X.env) :: starEach es X.env := by rfl) (hpl : (backTo pos (starEach es X.env)).any (·.1) = false := by rfl)
    (ht : eval (.Call (.Attribute o m apos) (e :: es) [] pos) X.env = (do
      let ov ← eval o X.env
      standAt apos.atName
      let (f, first) ← holding [ov] (getMethod ov m pl)
      callWith pos f first (backTo pos (starEach (e :: es) X.env)) (backToKw pos (keywordEach [] X.env))) := by rfl) :
    PE X (.Call (.Attribute o m apos) (e :: es) [] pos) (tMeth C m sp [] E ta t) := pe_meth he c hm D.ok (hr.mono hk) D.b .nil hx ha hst hpl ht
theorem eMethX0 {pl : Sem Bool} (D : Df X.prog X.w X.K X.mg X.base k p ps sp) (hr : Room j X.A) (hk : k ≤ j) (c : Cls X.K C) (hm : Meth X.K C m (He.fAd X.K p)) (hx : Passes (L2N.CX X.prog X.w) X E) (he : PE X o ta)
    (ht : eval (.Call (.Attribute o m apos) [] [] pos) X.env = (do
      let ov ← eval o X.env
      standAt apos.atName
      let (f, first) ← holding [ov] (getMethod ov m pl)
      callWith pos f first (backTo pos (starEach [] X.env)) (backToKw pos (keywordEach [] X.env))) := by rfl) :
    PE X (.Call (.Attribute o m apos) [] [] pos) (tMeth C m sp [] E ta tNil) := pe_meth0 he c hm D.ok (hr.mono hk) D.b .nil hx ht
end
/-! ### frames -/
/-- what is not owned stands -/
def Fr (O : Addr → Prop) (H H' : Hp) : Prop := ∀ x o, H x = some o → ¬ O x → H' x = some o
/-- what is owned behind was owned or is new -/
def Gr (H : Hp) (O O' : Addr → Prop) : Prop := ∀ x, O' x → O x ∨ H x = none
structure Stp (H : Hp) (O : Addr → Prop) (H' : Hp) (O' : Addr → Prop) : Prop where
  fr : Fr O H H'
  gr : Gr H O O'
theorem Fr.refl (O : Addr → Prop) (H : Hp) : Fr O H H := fun _ _ h _ => h
theorem Fr.trans {O : Addr → Prop} {H H1 H2 : Hp} (a : Fr O H H1) (b : Fr O H1 H2) : Fr O H H2 := fun x o h n => b x o (a x o h n) n
theorem Fr.of_same {O : Addr → Prop} {H H' : Hp} (e : Same H H') : Fr O H H' := fun x o h _ => e x o h
theorem Fr.up {O : Addr → Prop} {H H' : Hp} {p : Addr} {o : HO} (a : Fr O H H') (h : O p) : Fr O H (upd H' p o) := fun x u q n => by
  rw [upd_ne (fun z => n (by rw [z]; exact h))]
  exact a x u q n
theorem Fr.new {O : Addr → Prop} {H H' : Hp} {p : Addr} {o : HO} (a : Fr O H H') (h : H p = none) : Fr O H (upd H' p o) := fun x u q n => by
  rw [upd_ne (ne_of_none q h)]
  exact a x u q n
theorem Fr.mono {O O' : Addr → Prop} {H H' : Hp} (a : Fr O H H') (h : ∀ x, O x → O' x) : Fr O' H H' := fun x o q n => a x o q fun z => n (h x z)
theorem Stp.refl (H : Hp) (O : Addr → Prop) : Stp H O H O := ⟨Fr.refl O H, fun _ h => .inl h⟩
theorem Stp.of_fr {H H' : Hp} {O : Addr → Prop} (a : Fr O H H') : Stp H O H' O := ⟨a, fun _ h => .inl h⟩
theorem Stp.of_same {H H' : Hp} {O : Addr → Prop} (e : Same H H') : Stp H O H' O := .of_fr (.of_same e)
theorem Stp.trans {H H1 H2 : Hp} {O O1 O2 : Addr → Prop} (a : Stp H O H1 O1) (b : Stp H1 O1 H2 O2) : Stp H O H2 O2 := by
  refine ⟨fun x o h n => b.fr x o (a.fr x o h n) fun z => ?_, fun x h => ?_⟩
  · rcases a.gr x z with q | q
    · exact n q
    · rw [h] at q
      cases q
  · rcases b.gr x h with q | q
    · exact a.gr x q
    · cases e : H x with
      | none => exact .inr rfl
      | some o =>
        by_cases n : O x
        · exact .inl n
        · rw [a.fr x o e n] at q
          cases q
/-- what is tracked and not owned is not owned behind -/
theorem Stp.not {H H' : Hp} {O O' : Addr → Prop} (a : Stp H O H' O') {x : Addr} {o : HO} (h : H x = some o) (n : ¬ O x) : ¬ O' x := fun z => by
  rcases a.gr x z with q | q
  · exact n q
  · rw [h] at q
    cases q
/-! ### the disk, in plain Lean -/
structure Dk where
  s : Bool → List Int
  f : Bool → List Int
  armed : Bool
  deeds : Int
  crashes : Int
def upB {α : Type} (f : Bool → α) (b : Bool) (v : α) : Bool → α := fun c => if c = b then v else f c
theorem upB_same {α : Type} {f : Bool → α} {b : Bool} {v : α} : upB f b v b = v := if_pos rfl
theorem upB_ne {α : Type} {f : Bool → α} {b c : Bool} {v : α} (h : c ≠ b) : upB f b v c = f c := if_neg h
namespace Dk
def power (D : Dk) : Bool := !D.armed || decide (0 < D.deeds)
/-- a deed is counted -/
def used (D : Dk) : Dk := if D.armed = true then { D with deeds := D.deeds - 1 } else D
def wr (D : Dk) (b : Bool) (xs : List Int) : Dk := { D.used with f := upB D.f b (D.f b ++ xs) }
def settle (D : Dk) (b : Bool) : Dk := { D.used with s := upB D.s b (D.s b ++ D.f b), f := upB D.f b [] }
def cut (D : Dk) (b : Bool) (n : Nat) : Dk := { D.used with s := upB D.s b ((D.s b).take n) }
def arm (D : Dk) (n : Int) : Dk := if D.power = true then { D with armed := true, deeds := n } else D
/-- what a bank keeps of its pending bytes -/
def torn (fr : List Int) (kept t : Nat) : List Int := fr.take kept ++ List.replicate (min t (fr.length - (fr.take kept).length)) 0
def crash1 (D : Dk) (b : Bool) (kept t : Nat) : Dk := { D with s := upB D.s b (D.s b ++ torn (D.f b) kept t), f := upB D.f b [] }
def crash (D : Dk) (kept t : Nat) : Dk := { s := fun b => D.s b ++ torn (D.f b) kept t, f := fun _ => [], armed := false, deeds := D.deeds, crashes := D.crashes + 1 }
def pend (D : Dk) : Nat := (D.f false).length + (D.f true).length
def new : Dk := ⟨fun _ => [], fun _ => [], false, 0, 0⟩
theorem used_s (D : Dk) : D.used.s = D.s := by unfold used; split <;> rfl
theorem used_f (D : Dk) : D.used.f = D.f := by unfold used; split <;> rfl
theorem used_armed (D : Dk) : D.used.armed = D.armed := by unfold used; split <;> rfl
theorem used_crashes (D : Dk) : D.used.crashes = D.crashes := by unfold used; split <;> rfl
end Dk
/-! ### the disk on the heap -/
structure DA where
  p : Addr
  dx : Addr
  s : Addr
  f : Addr
  sl : Bool → Addr
  fr : Bool → Addr
def DA.own (a : DA) : Addr → Prop := fun x => x = a.p ∨ x = a.s ∨ x = a.f ∨ (∃ b, x = a.sl b) ∨ ∃ b, x = a.fr b
def bi (b : Bool) : Int := if b = true then 1 else 0
abbrev dN : List Str := ["_settled", "_fresh", "_armed", "_deeds", "_crashes"]
abbrev CD (K : PySem.W.Frag) : Addr := He.ga K "Disk"
def dF (a : DA) (D : Dk) : List (Str × V) := fz dN [.ref a.s, .ref a.f, .bl D.armed, .int D.deeds, .int D.crashes]
structure DiskAt (K : PySem.W.Frag) (H : Hp) (a : DA) (D : Dk) : Prop where
  ob : H a.p = some (.ins (CD K) a.dx (dF a D))
  hs : H a.s = some (.lst [.ref (a.sl false), .ref (a.sl true)])
  hf : H a.f = some (.lst [.ref (a.fr false), .ref (a.fr true)])
  hsl : ∀ b, H (a.sl b) = some (.lst (il (D.s b)))
  hfr : ∀ b, H (a.fr b) = some (.lst (il (D.f b)))
  dsl : a.sl false ≠ a.sl true
  dfr : a.fr false ≠ a.fr true
  dsf : ∀ b c, a.sl b ≠ a.fr c
theorem il_ne_ref {xs : List Int} {a : Addr} {r : List V} : HO.lst (il xs) ≠ HO.lst (.ref a :: r) := by
  intro h
  cases xs with
  | nil => cases h
  | cons x xs => cases h
section
variable {K : PySem.W.Frag} {H H' : Hp} {a : DA} {D : Dk}
theorem DiskAt.p_s (d : DiskAt K H a D) : a.p ≠ a.s := ne_of d.ob d.hs (by intro z; cases z)
theorem DiskAt.p_f (d : DiskAt K H a D) : a.p ≠ a.f := ne_of d.ob d.hf (by intro z; cases z)
theorem DiskAt.p_sl (d : DiskAt K H a D) (b : Bool) : a.p ≠ a.sl b := ne_of d.ob (d.hsl b) (by intro z; cases z)
theorem DiskAt.p_fr (d : DiskAt K H a D) (b : Bool) : a.p ≠ a.fr b := ne_of d.ob (d.hfr b) (by intro z; cases z)
theorem DiskAt.s_sl (d : DiskAt K H a D) (b : Bool) : a.s ≠ a.sl b := ne_of d.hs (d.hsl b) (Ne.symm il_ne_ref)
theorem DiskAt.s_fr (d : DiskAt K H a D) (b : Bool) : a.s ≠ a.fr b := ne_of d.hs (d.hfr b) (Ne.symm il_ne_ref)
theorem DiskAt.f_sl (d : DiskAt K H a D) (b : Bool) : a.f ≠ a.sl b := ne_of d.hf (d.hsl b) (Ne.symm il_ne_ref)
theorem DiskAt.f_fr (d : DiskAt K H a D) (b : Bool) : a.f ≠ a.fr b := ne_of d.hf (d.hfr b) (Ne.symm il_ne_ref)
theorem DiskAt.s_f (d : DiskAt K H a D) : a.s ≠ a.f := ne_of d.hs d.hf fun z => by
  injection z with z
  injection z with z _
  injection z with z
  exact d.dsf false false z
theorem DiskAt.sl_ne (d : DiskAt K H a D) {b c : Bool} (h : b ≠ c) : a.sl b ≠ a.sl c := by
  cases b <;> cases c
  · exact absurd rfl h
  · exact d.dsl
  · exact d.dsl.symm
  · exact absurd rfl h
theorem DiskAt.fr_ne (d : DiskAt K H a D) {b c : Bool} (h : b ≠ c) : a.fr b ≠ a.fr c := by
  cases b <;> cases c
  · exact absurd rfl h
  · exact d.dfr
  · exact d.dfr.symm
  · exact absurd rfl h
theorem own_p (a : DA) : a.own a.p := .inl rfl
theorem own_s (a : DA) : a.own a.s := .inr (.inl rfl)
theorem own_f (a : DA) : a.own a.f := .inr (.inr (.inl rfl))
theorem own_sl (a : DA) (b : Bool) : a.own (a.sl b) := .inr (.inr (.inr (.inl ⟨b, rfl⟩)))
theorem own_fr (a : DA) (b : Bool) : a.own (a.fr b) := .inr (.inr (.inr (.inr ⟨b, rfl⟩)))
/-- what the disk owns is tracked -/
theorem DiskAt.tr (d : DiskAt K H a D) {x : Addr} (h : a.own x) : ∃ o, H x = some o := by
  rcases h with rfl | rfl | rfl | ⟨b, rfl⟩ | ⟨b, rfl⟩
  · exact ⟨_, d.ob⟩
  · exact ⟨_, d.hs⟩
  · exact ⟨_, d.hf⟩
  · exact ⟨_, d.hsl b⟩
  · exact ⟨_, d.hfr b⟩
/-- another heap with the same cells -/
theorem DiskAt.keep (d : DiskAt K H a D) (k : ∀ x o, a.own x → H x = some o → H' x = some o) : DiskAt K H' a D :=
  ⟨k _ _ (own_p a) d.ob, k _ _ (own_s a) d.hs, k _ _ (own_f a) d.hf, fun b => k _ _ (own_sl a b) (d.hsl b), fun b => k _ _ (own_fr a b) (d.hfr b), d.dsl, d.dfr, d.dsf⟩
theorem DiskAt.same (d : DiskAt K H a D) (e : Same H H') : DiskAt K H' a D := d.keep fun x o _ h => e x o h
/-- something else changes -/
theorem DiskAt.up (d : DiskAt K H a D) {q : Addr} {o : HO} (n : ¬ a.own q) : DiskAt K (upd H q o) a D := d.keep fun x u h e => by
  rw [upd_ne (fun z => n (by rw [← z]; exact h))]
  exact e
theorem DiskAt.new (d : DiskAt K H a D) {q : Addr} {o : HO} (n : H q = none) : DiskAt K (L2.upd H q o) a D := d.same ((Same.refl H).nw n)
/-- the numbers change -/
theorem DiskAt.nums (d : DiskAt K H a D) {D' : Dk} (hs : D'.s = D.s) (hf : D'.f = D.f) : DiskAt K (L2.upd H a.p (.ins (CD K) a.dx (dF a D'))) a D' := by
  refine ⟨upd_same, ?_, ?_, fun b => ?_, fun b => ?_, d.dsl, d.dfr, d.dsf⟩
  · rw [upd_ne d.p_s.symm]
    exact d.hs
  · rw [upd_ne d.p_f.symm]
    exact d.hf
  · rw [upd_ne (d.p_sl b).symm, hs]
    exact d.hsl b
  · rw [upd_ne (d.p_fr b).symm, hf]
    exact d.hfr b
theorem at_pair {x : Bool → V} (b : Bool) : atI [x false, x true] (bi b) = some (x b) := by
  cases b <;> rfl
theorem ix_pair {x y : V} (b : Bool) : ixN [x, y].length (bi b) = some (if b = true then 1 else 0) := by
  cases b <;> rfl
theorem set_pair {x : Bool → V} (b : Bool) (v : V) : [x false, x true].set (if b = true then 1 else 0) v = [upB x b v false, upB x b v true] := by
  cases b <;> rfl
end
section
variable {a : DA} {D : Dk}
theorem dF_settled : (dF a D).lookup ("_settled" : Str) = some (.ref a.s) := fz_get (i := 0) (by decide +kernel) rfl
theorem dF_fresh : (dF a D).lookup ("_fresh" : Str) = some (.ref a.f) := fz_get (i := 1) (by decide +kernel) rfl
theorem dF_armed : (dF a D).lookup ("_armed" : Str) = some (.bl D.armed) := fz_get (i := 2) (by decide +kernel) rfl
theorem dF_deeds : (dF a D).lookup ("_deeds" : Str) = some (.int D.deeds) := fz_get (i := 3) (by decide +kernel) rfl
theorem dF_crashes : (dF a D).lookup ("_crashes" : Str) = some (.int D.crashes) := fz_get (i := 4) (by decide +kernel) rfl
theorem dF_no {x : Str} (h : ixOf x dN = none) : (dF a D).lookup x = none := fz_no h
theorem dF_len : (dF a D).length < 1000 := by
  unfold dF
  rw [fz_len rfl]
  decide
theorem dF_put_armed {v : Bool} : putF "_armed" (.bl v) (dF a D) = dF a { D with armed := v } := fz_put (i := 2) (by decide +kernel) rfl
theorem dF_put_deeds {n : Int} : putF "_deeds" (.int n) (dF a D) = dF a { D with deeds := n } := fz_put (i := 3) (by decide +kernel) rfl
theorem dF_put_crashes {n : Int} : putF "_crashes" (.int n) (dF a D) = dF a { D with crashes := n } := fz_put (i := 4) (by decide +kernel) rfl
end
end Hush
set_option Elab.async false
set_option linter.all false
set_option maxRecDepth 100000
set_option maxHeartbeats 4000000
/-! The disk's methods. -/
namespace Hush
open PySem PySem.Spec PyProof.Rows L2
/-- an error of the class PowerLost -/
abbrev CPL (K : PySem.W.Frag) : Value := .ref (He.ga K "PowerLost")
def spHasPower (K : PySem.W.Frag) : Sp := fun vs H Q _ => ∃ (a : DA) (D : Dk), vs = [.ref a.p] ∧ DiskAt K H a D ∧ Q (.bl D.power) H
def spUsePower (K : PySem.W.Frag) : Sp := fun vs H Q E => ∃ (a : DA) (D : Dk), vs = [.ref a.p] ∧ DiskAt K H a D ∧
  (D.power = true → ∀ H', DiskAt K H' a D.used → (∀ x, x ≠ a.p → H' x = H x) → Q .non H') ∧ (D.power = false → E (CPL K) none H)
def spPending (K : PySem.W.Frag) : Sp := fun vs H Q _ => ∃ (a : DA) (D : Dk), vs = [.ref a.p] ∧ DiskAt K H a D ∧ Q (.int (D.pend : Int)) H
def spCrashes (K : PySem.W.Frag) : Sp := fun vs H Q _ => ∃ (a : DA) (D : Dk), vs = [.ref a.p] ∧ DiskAt K H a D ∧ Q (.int D.crashes) H
def spArm (K : PySem.W.Frag) : Sp := fun vs H Q _ => ∃ (a : DA) (D : Dk) (n : Int), vs = [.ref a.p, .int n] ∧ DiskAt K H a D ∧ ∀ H', DiskAt K H' a (D.arm n) → Fr a.own H H' → Q .non H'
def spRead (K : PySem.W.Frag) : Sp := fun vs H Q _ => ∃ (a : DA) (D : Dk) (b : Bool), vs = [.ref a.p, .int (bi b)] ∧ DiskAt K H a D ∧ (D.s b).length + (D.f b).length ≤ 1000000 ∧ RetL (il (D.s b ++ D.f b)) H Q
def spWrite (K : PySem.W.Frag) : Sp := fun vs H Q E => ∃ (a : DA) (D : Dk) (b : Bool) (d : Addr) (xs : List Int), vs = [.ref a.p, .int (bi b), .ref d] ∧ DiskAt K H a D ∧ H d = some (.lst (il xs)) ∧ ¬ a.own d ∧
  (D.power = true → (D.f (!b)) = [] ∧ (D.s b).length + (D.f b).length + xs.length ≤ 65536) ∧
  (D.power = true → ∀ H', DiskAt K H' a (D.wr b xs) → Fr a.own H H' → Q .non H') ∧ (D.power = false → E (CPL K) none H)
def spSettle (K : PySem.W.Frag) : Sp := fun vs H Q E => ∃ (a : DA) (D : Dk) (b : Bool), vs = [.ref a.p, .int (bi b)] ∧ DiskAt K H a D ∧ (D.s b).length + (D.f b).length ≤ 1000000 ∧
  (D.power = true → ∀ (H' : Hp) (a' : DA), a'.p = a.p → DiskAt K H' a' (D.settle b) → Stp H a.own H' a'.own → Q .non H') ∧ (D.power = false → E (CPL K) none H)
def spCut (K : PySem.W.Frag) : Sp := fun vs H Q E => ∃ (a : DA) (D : Dk) (b : Bool) (n : Nat), vs = [.ref a.p, .int (bi b), .int n] ∧ DiskAt K H a D ∧ (D.power = true → D.pend = 0 ∧ n ≤ (D.s b).length) ∧
  (D.power = true → ∀ (H' : Hp) (a' : DA), a'.p = a.p → DiskAt K H' a' (D.cut b n) → Stp H a.own H' a'.own → Q .non H') ∧ (D.power = false → E (CPL K) none H)
/-! ### steps of the heap -/
section
variable {K : PySem.W.Frag} {H : Hp} {a : DA} {D : Dk}
/-- a settled list grows -/
theorem DiskAt.putS (d : DiskAt K H a D) (b : Bool) {xs : List Int} : DiskAt K (upd H (a.sl b) (.lst (il xs))) a { D with s := upB D.s b xs } := by
  refine ⟨?_, ?_, ?_, fun c => ?_, fun c => ?_, d.dsl, d.dfr, d.dsf⟩
  · rw [upd_ne (d.p_sl b)]
    exact d.ob
  · rw [upd_ne (d.s_sl b)]
    exact d.hs
  · rw [upd_ne (d.f_sl b)]
    exact d.hf
  · show upd H (a.sl b) _ (a.sl c) = some (.lst (il (upB D.s b xs c)))
    by_cases h : c = b
    · subst h
      rw [upd_same, upB_same]
    · rw [upd_ne (d.sl_ne h), upB_ne h]
      exact d.hsl c
  · rw [upd_ne (d.dsf b c).symm]
    exact d.hfr c
/-- a pending list grows -/
theorem DiskAt.putF (d : DiskAt K H a D) (b : Bool) {xs : List Int} : DiskAt K (upd H (a.fr b) (.lst (il xs))) a { D with f := upB D.f b xs } := by
  refine ⟨?_, ?_, ?_, fun c => ?_, fun c => ?_, d.dsl, d.dfr, d.dsf⟩
  · rw [upd_ne (d.p_fr b)]
    exact d.ob
  · rw [upd_ne (d.s_fr b)]
    exact d.hs
  · rw [upd_ne (d.f_fr b)]
    exact d.hf
  · rw [upd_ne (d.dsf c b)]
    exact d.hsl c
  · show upd H (a.fr b) _ (a.fr c) = some (.lst (il (upB D.f b xs c)))
    by_cases h : c = b
    · subst h
      rw [upd_same, upB_same]
    · rw [upd_ne (d.fr_ne h), upB_ne h]
      exact d.hfr c
/-- a bank's settled list is another one -/
theorem DiskAt.newS (d : DiskAt K H a D) (b : Bool) {l : Addr} {xs : List Int} (hl : H l = some (.lst (il xs))) (no : ¬ a.own l) :
    DiskAt K (upd H a.s (.lst [.ref (upB a.sl b l false), .ref (upB a.sl b l true)])) { a with sl := upB a.sl b l } { D with s := upB D.s b xs } := by
  have nl : ∀ x, a.own x → l ≠ x := fun x h e => no (by rw [e]; exact h)
  refine ⟨?_, upd_same, ?_, fun c => ?_, fun c => ?_, ?_, d.dfr, fun c e => ?_⟩
  · show upd H a.s _ a.p = _
    rw [upd_ne d.p_s]
    exact d.ob
  · show upd H a.s _ a.f = _
    rw [upd_ne d.s_f.symm]
    exact d.hf
  · show upd H a.s _ (upB a.sl b l c) = some (.lst (il (upB D.s b xs c)))
    by_cases h : c = b
    · subst h
      rw [upB_same, upB_same, upd_ne (nl _ (own_s a))]
      exact hl
    · rw [upB_ne h, upB_ne h, upd_ne (d.s_sl c).symm]
      exact d.hsl c
  · show upd H a.s _ (a.fr c) = _
    rw [upd_ne (d.s_fr c).symm]
    exact d.hfr c
  · show upB a.sl b l false ≠ upB a.sl b l true
    cases b
    · rw [upB_same, upB_ne (by decide)]
      exact nl _ (own_sl a true)
    · rw [upB_same, upB_ne (by decide)]
      exact (nl _ (own_sl a false)).symm
  · show upB a.sl b l c ≠ a.fr e
    by_cases h : c = b
    · subst h
      rw [upB_same]
      exact nl _ (own_fr a e)
    · rw [upB_ne h]
      exact d.dsf c e
/-- a bank's pending list is another one -/
theorem DiskAt.newF (d : DiskAt K H a D) (b : Bool) {l : Addr} {xs : List Int} (hl : H l = some (.lst (il xs))) (no : ¬ a.own l) :
    DiskAt K (upd H a.f (.lst [.ref (upB a.fr b l false), .ref (upB a.fr b l true)])) { a with fr := upB a.fr b l } { D with f := upB D.f b xs } := by
  have nl : ∀ x, a.own x → l ≠ x := fun x h e => no (by rw [e]; exact h)
  refine ⟨?_, ?_, upd_same, fun c => ?_, fun c => ?_, d.dsl, ?_, fun c e => ?_⟩
  · show upd H a.f _ a.p = _
    rw [upd_ne d.p_f]
    exact d.ob
  · show upd H a.f _ a.s = _
    rw [upd_ne d.s_f]
    exact d.hs
  · show upd H a.f _ (a.sl c) = _
    rw [upd_ne (d.f_sl c).symm]
    exact d.hsl c
  · show upd H a.f _ (upB a.fr b l c) = some (.lst (il (upB D.f b xs c)))
    by_cases h : c = b
    · subst h
      rw [upB_same, upB_same, upd_ne (nl _ (own_f a))]
      exact hl
    · rw [upB_ne h, upB_ne h, upd_ne (d.f_fr c).symm]
      exact d.hfr c
  · show upB a.fr b l false ≠ upB a.fr b l true
    cases b
    · rw [upB_same, upB_ne (by decide)]
      exact nl _ (own_fr a true)
    · rw [upB_same, upB_ne (by decide)]
      exact (nl _ (own_fr a false)).symm
  · show a.sl c ≠ upB a.fr b l e
    by_cases h : e = b
    · subst h
      rw [upB_same]
      exact (nl _ (own_sl a c)).symm
    · rw [upB_ne h]
      exact d.dsf c e
theorem gr_newS {H : Hp} {a : DA} {b : Bool} {l : Addr} (hl : H l = none) : Gr H a.own ({ a with sl := upB a.sl b l } : DA).own := fun x h => by
  rcases h with h | h | h | ⟨c, h⟩ | ⟨c, h⟩
  · exact .inl (.inl h)
  · exact .inl (.inr (.inl h))
  · exact .inl (.inr (.inr (.inl h)))
  · have h' : x = upB a.sl b l c := h
    by_cases e : c = b
    · rw [e, upB_same] at h'
      exact .inr (by rw [h']; exact hl)
    · rw [upB_ne e] at h'
      exact .inl (.inr (.inr (.inr (.inl ⟨c, h'⟩))))
  · exact .inl (.inr (.inr (.inr (.inr ⟨c, h⟩))))
theorem gr_newF {H : Hp} {a : DA} {b : Bool} {l : Addr} (hl : H l = none) : Gr H a.own ({ a with fr := upB a.fr b l } : DA).own := fun x h => by
  rcases h with h | h | h | ⟨c, h⟩ | ⟨c, h⟩
  · exact .inl (.inl h)
  · exact .inl (.inr (.inl h))
  · exact .inl (.inr (.inr (.inl h)))
  · exact .inl (.inr (.inr (.inr (.inl ⟨c, h⟩))))
  · have h' : x = upB a.fr b l c := h
    by_cases e : c = b
    · rw [e, upB_same] at h'
      exact .inr (by rw [h']; exact hl)
    · rw [upB_ne e] at h'
      exact .inl (.inr (.inr (.inr (.inr ⟨c, h'⟩))))
/-- behind use_power -/
theorem Fr.but {H H' : Hp} {a : DA} (h : ∀ x, x ≠ a.p → H' x = H x) : Fr a.own H H' := fun x o q n => by
  rw [h x fun z => n (.inl z)]
  exact q
end
section
variable {P : Program} {w : World} {K : PySem.W.Frag} {mg : Str → Option Value} {base : Heap}
theorem sc_has_power : FnScope ["self"] ["self"] (defScope s_Disk_has_power) := ⟨rfl, rfl, rfl, by decide +kernel, rfl, by decide +kernel, by decide +kernel⟩
theorem ok_has_power (T : Txt K mg) : Df P w K mg base 1 ("Disk", some "has_power") ["self"] (spHasPower K) := by
  refine df_nox T.F_Disk_has_power sc_has_power (fun _ _ _ _ _ _ us hl => match us, hl with | [_], _ => rfl) (fun vs H Q E h => ?_) (fun cdv A outer s H vs Q E hr h => ?_)
  · obtain ⟨a, D, rfl, _⟩ := h
    rfl
  · obtain ⟨a, D, rfl, d, q⟩ := h
    refine ⟨_, pss_one (ps_ret (pe_or (pe_not (pe_fld (pv 0) rfl)) (pe_one (pe_cmpR op_gt (pe_fld (pv 0) rfl) pe_int (nomark _))))), ?_⟩
    refine ⟨_, rfl, aF d.ob T.c_Disk T.n_Disk_armed dF_armed ⟨_, rfl, _, rfl, ?_⟩⟩
    unfold Dk.power at q
    refine bool2 (fun c => ?_) (fun c => ?_)
    · rw [c] at q
      exact q
    · rw [c] at q
      exact ⟨_, rfl, aF d.ob T.c_Disk T.n_Disk_deeds dF_deeds ⟨_, _, rfl, rfl, q⟩⟩
theorem sc_use_power : FnScope ["self"] ["self"] (defScope s_Disk_use_power) := ⟨rfl, rfl, rfl, by decide +kernel, rfl, by decide +kernel, by decide +kernel⟩
theorem ok_use_power (T : Txt K mg) : Df P w K mg base 2 ("Disk", some "use_power") ["self"] (spUsePower K) := by
  refine df_exc T.F_Disk_use_power sc_use_power (fun _ _ _ _ _ _ us hl => match us, hl with | [_], _ => rfl) (fun vs H Q E h => ?_) (fun cdv A outer s H vs Q E hr h => ?_)
  · obtain ⟨a, D, rfl, _⟩ := h
    rfl
  · obtain ⟨a, D, rfl, d, q, qE⟩ := h
    have g0 := ok_has_power (P := P) (w := w) (base := base) T
    refine ⟨_, pss_cons (ps_if (pt_not (pt_val (eMethX0 g0 hr (by decide) T.c_Disk T.m_Disk_has_power passN (pv 0)))) (pss_one (L2N.ps_raise rfl (L2N.takes_of rfl rfl rfl rfl)
        (L2N.pmk_own PySem.F.excBase_ValueError T.x_PowerLost.1 T.g_PowerLost T.x_PowerLost.2.1 (raises_own T.x_PowerLost.2.2.1 T.x_PowerLost.2.2.2) (by exact rfl)))) pss_nil)
      (pss_one (ps_if (pt_val (pe_fld (pv 0) rfl)) (pss_one (ps_fldaug (pv 0) pe_int in_sub)) pss_nil)), ?_⟩
    refine ⟨_, rfl, a.p, _, _, rfl, d.ob, dF_no (by decide +kernel), a, D, rfl, d, _, rfl, ?_⟩
    cases hp : D.power with
    | false => exact iteT (qE hp)
    | true =>
      refine iteF ?_
      refine ⟨_, rfl, aF d.ob T.c_Disk T.n_Disk_armed dF_armed ⟨_, rfl, bool2 (fun c => ?_) (fun c => ?_)⟩⟩
      · refine ⟨_, rfl, a.p, _, _, _, _, rfl, d.ob, T.c_Disk, T.n_Disk_deeds, dF_deeds, _, _, rfl, rfl, _, _, d.ob, dF_len, ?_⟩
        rw [dF_put_deeds]
        have e : D.used = { D with deeds := D.deeds - 1 } := if_pos c
        have g := q hp
        rw [e] at g
        exact g _ (d.nums rfl rfl) fun x hx => upd_ne hx
      · have e : D.used = D := if_neg (by rw [c]; decide)
        have g := q hp
        rw [e] at g
        exact g _ d fun _ _ => rfl
theorem sc_pending : FnScope ["self"] ["self"] (defScope s_Disk_pending) := ⟨rfl, rfl, rfl, by decide +kernel, rfl, by decide +kernel, by decide +kernel⟩
theorem ok_pending (T : Txt K mg) : Df P w K mg base 1 ("Disk", some "pending") ["self"] (spPending K) := by
  refine df_nox T.F_Disk_pending sc_pending (fun _ _ _ _ _ _ us hl => match us, hl with | [_], _ => rfl) (fun vs H Q E h => ?_) (fun cdv A outer s H vs Q E hr h => ?_)
  · obtain ⟨a, D, rfl, _⟩ := h
    rfl
  · obtain ⟨a, D, rfl, d, q⟩ := h
    refine ⟨_, pss_one (ps_ret (pe_op op_add (eLen T.z_len (pe_ix ix_list (pe_fld (pv 0) rfl) pe_int (fun _ _ => rfl))) (eLen T.z_len (pe_ix ix_list (pe_fld (pv 0) rfl) pe_int (fun _ _ => rfl))))), ?_⟩
    refine ⟨_, rfl, aF d.ob T.c_Disk T.n_Disk_fresh dF_fresh ⟨a.f, _, 0, _, rfl, rfl, seq_at d.hf, rfl, a.fr false, _, rfl, .inl (seq_at (d.hfr false)), ?_⟩⟩
    refine ⟨_, rfl, aF d.ob T.c_Disk T.n_Disk_fresh dF_fresh ⟨a.f, _, 1, _, rfl, rfl, seq_at d.hf, rfl, a.fr true, _, rfl, .inl (seq_at (d.hfr true)), ?_⟩⟩
    refine ⟨_, _, rfl, rfl, ?_⟩
    rw [il_len, il_len]
    exact q
theorem sc_crashes : FnScope ["self"] ["self"] (defScope s_Disk_crashes) := ⟨rfl, rfl, rfl, by decide +kernel, rfl, by decide +kernel, by decide +kernel⟩
theorem ok_crashes (T : Txt K mg) : Df P w K mg base 1 ("Disk", some "crashes") ["self"] (spCrashes K) := by
  refine df_nox T.F_Disk_crashes sc_crashes (fun _ _ _ _ _ _ us hl => match us, hl with | [_], _ => rfl) (fun vs H Q E h => ?_) (fun cdv A outer s H vs Q E hr h => ?_)
  · obtain ⟨a, D, rfl, _⟩ := h
    rfl
  · obtain ⟨a, D, rfl, d, q⟩ := h
    refine ⟨_, pss_one (ps_ret (pe_fld (pv 0) rfl)), ?_⟩
    exact ⟨_, rfl, aF d.ob T.c_Disk T.n_Disk_crashes dF_crashes q⟩
theorem sc_arm : FnScope ["self", "deeds"] ["self", "deeds"] (defScope s_Disk_arm) := ⟨rfl, rfl, rfl, by decide +kernel, rfl, by decide +kernel, by decide +kernel⟩
theorem ok_arm (T : Txt K mg) : Df P w K mg base 2 ("Disk", some "arm") ["self", "deeds"] (spArm K) := by
  refine df_nox T.F_Disk_arm sc_arm (fun _ _ _ _ _ _ us hl => match us, hl with | [_, _], _ => rfl) (fun vs H Q E h => ?_) (fun cdv A outer s H vs Q E hr h => ?_)
  · obtain ⟨a, D, n, rfl, _⟩ := h
    rfl
  · obtain ⟨a, D, n, rfl, d, q⟩ := h
    have g0 := ok_has_power (P := P) (w := w) (base := base) T
    refine ⟨_, pss_one (ps_if (pt_val (eMethX0 g0 hr (by decide) T.c_Disk T.m_Disk_has_power passN (pv 0))) (pss_cons (ps_fld (pv 0) pe_bl rfl) (pss_one (ps_fld (pv 0) (pv 1) rfl))) pss_nil), ?_⟩
    refine ⟨_, rfl, a.p, _, _, rfl, d.ob, dF_no (by decide +kernel), a, D, rfl, d, _, rfl, bool2 (fun c => ?_) (fun c => ?_)⟩
    · refine ⟨_, rfl, aW d.ob T.c_Disk T.n_Disk_armed dF_len ?_⟩
      rw [dF_put_armed]
      have d1 := d.nums (D' := { D with armed := true }) rfl rfl
      refine ⟨_, rfl, _, rfl, aW d1.ob T.c_Disk T.n_Disk_deeds dF_len ?_⟩
      rw [dF_put_deeds]
      have d2 := d1.nums (D' := { D with armed := true, deeds := n }) rfl rfl
      have e : D.arm n = { D with armed := true, deeds := n } := if_pos c
      rw [e] at q
      exact q _ d2 (((Fr.refl _ _).up (own_p a)).up (own_p a))
    · have e : D.arm n = D := if_neg (by rw [c]; decide)
      rw [e] at q
      exact q _ d (Fr.refl _ _)
theorem sc_read : FnScope ["self", "bank"] ["self", "bank"] (defScope s_Disk_read) := ⟨rfl, rfl, rfl, by decide +kernel, rfl, by decide +kernel, by decide +kernel⟩
theorem ok_read (T : Txt K mg) : Df P w K mg base 1 ("Disk", some "read") ["self", "bank"] (spRead K) := by
  refine df_nox T.F_Disk_read sc_read (fun _ _ _ _ _ _ us hl => match us, hl with | [_, _], _ => rfl) (fun vs H Q E h => ?_) (fun cdv A outer s H vs Q E hr h => ?_)
  · obtain ⟨a, D, b, rfl, _⟩ := h
    rfl
  · obtain ⟨a, D, b, rfl, d, hl, q⟩ := h
    refine ⟨_, pss_one (ps_ret (pe_op op_cat (pe_ix ix_list (pe_fld (pv 0) rfl) (pv 1) (fun _ _ => rfl)) (pe_ix ix_list (pe_fld (pv 0) rfl) (pv 1) (fun _ _ => rfl)))), ?_⟩
    refine ⟨_, rfl, aF d.ob T.c_Disk T.n_Disk_settled dF_settled ⟨_, rfl, a.s, _, _, _, rfl, rfl, seq_at d.hs, at_pair (x := fun b => .ref (a.sl b)) b, ?_⟩⟩
    refine ⟨_, rfl, aF d.ob T.c_Disk T.n_Disk_fresh dF_fresh ⟨_, rfl, a.f, _, _, _, rfl, rfl, seq_at d.hf, at_pair (x := fun b => .ref (a.fr b)) b, ?_⟩⟩
    refine ⟨a.sl b, a.fr b, _, _, rfl, rfl, d.hsl b, d.hfr b, by rw [il_len, il_len]; exact line_small hl, fun p hp => ?_⟩
    have e : il (D.s b) ++ il (D.f b) = il (D.s b ++ D.f b) := (List.map_append ..).symm
    rw [e]
    exact q.at (Same.refl H) hp
end
end Hush
set_option Elab.async false
set_option linter.all false
set_option maxRecDepth 100000
set_option maxHeartbeats 4000000
/-! The disk's methods: write, settle, cut, __init__. -/
namespace Hush
open PySem PySem.Spec PyProof.Rows L2
theorem cut_take {xs : List Int} {n : Nat} (h : n ≤ xs.length) : cutV (il xs) none (some (n : Int)) = il (xs.take n) := by
  unfold cutV
  rw [HT.sIx_nat, HT.sIx_none, il_len, Nat.min_eq_left h, List.drop_zero, Nat.sub_zero]
  unfold il
  rw [← List.map_take]
theorem cut_drop {xs : List Int} {n : Nat} (h : n ≤ xs.length) : cutV (il xs) (some (n : Int)) none = il (xs.drop n) := by
  unfold cutV
  rw [HT.sIx_nat, HT.sIx_none, il_len, Nat.min_eq_left h]
  unfold il
  rw [← List.map_drop, List.take_of_length_le (by rw [List.length_map, List.length_drop]; exact Nat.le_refl _)]
theorem bi_not (b : Bool) : 1 - bi b = bi (!b) := by cases b <;> rfl
def spDiskInit (K : PySem.W.Frag) : Sp := fun vs H Q _ => ∃ (p dx : Addr), vs = [.ref p] ∧ H p = some (.ins (CD K) dx []) ∧
  ∀ (H' : Hp) (a : DA), a.p = p → DiskAt K H' a Dk.new → (∀ x o, H x = some o → x ≠ p → H' x = some o) → (∀ x, a.own x → x = p ∨ H x = none) → Q .non H'
section
variable {P : Program} {w : World} {K : PySem.W.Frag} {mg : Str → Option Value} {base : Heap}
theorem sc_write : FnScope ["self", "bank", "data"] ["self", "bank", "data"] (defScope s_Disk_write) := ⟨rfl, rfl, rfl, by decide +kernel, rfl, by decide +kernel, by decide +kernel⟩
theorem ok_write (T : Txt K mg) : Df P w K mg base 3 ("Disk", some "write") ["self", "bank", "data"] (spWrite K) := by
  refine df_exc T.F_Disk_write sc_write (fun _ _ _ _ _ _ us hl => match us, hl with | [_, _, _], _ => rfl) (fun vs H Q E h => ?_) (fun cdv A outer s H vs Q E hr h => ?_)
  · obtain ⟨a, D, b, d, xs, rfl, _⟩ := h
    rfl
  · obtain ⟨a, D, b, l, xs, rfl, d, hl, no, pre, q, qE⟩ := h
    have g0 := ok_use_power (P := P) (w := w) (base := base) T
    refine ⟨_, pss_cons (ps_expr (eMethX0 g0 hr (by decide) T.c_Disk T.m_Disk_use_power (L2N.passes_call (L2N.takes_of rfl rfl rfl rfl) fun _ _ _ _ h => h) (pv 0)))
      (pss_cons (ps_if (pt_cmpR op_gt (eLen T.z_len (pe_ix ix_list (pe_fld (pv 0) rfl) (pe_op op_sub pe_int (pv 1)) (fun _ _ => rfl))) pe_int (nomark _)) pss_never pss_nil)
      (pss_cons (ps_if (pt_cmpR op_gt (pe_op op_add (pe_op op_add (eLen T.z_len (pe_ix ix_list (pe_fld (pv 0) rfl) (pv 1) (fun _ _ => rfl))) (eLen T.z_len (pe_ix ix_list (pe_fld (pv 0) rfl) (pv 1) (fun _ _ => rfl)))) (eLen T.z_len (pv 2))) (gI T.i_BANK_SIZE) (nomark _)) pss_never pss_nil)
      (pss_one (ps_expr (pe_bm PySem.F.plainAttrs_list PySem.F.slot_list_extend PySem.F.type_list_extend mt_extend (pe_ix ix_list (pe_fld (pv 0) rfl) (pv 1) (fun _ _ => rfl)) (pa_cons (pv 2) pa_nil)))))), ?_⟩
    refine ⟨_, rfl, a.p, _, _, rfl, d.ob, dF_no (by decide +kernel), a, D, rfl, d, fun hp H1 d1 k1 => ?_, qE⟩
    obtain ⟨e0, hsz⟩ := pre hp
    have es := Dk.used_s D
    have ef := Dk.used_f D
    have hl1 : H1 l = some (.lst (il xs)) := by rw [k1 l fun z => no (.inl z)]; exact hl
    refine ⟨_, rfl, aF d1.ob T.c_Disk T.n_Disk_fresh dF_fresh ⟨_, rfl, _, _, rfl, rfl, a.f, _, _, _, rfl, rfl, seq_at d1.hf, ?_, a.fr (!b), _, rfl, .inl (seq_at (d1.hfr (!b))), _, _, rfl, rfl, _, rfl, ?_⟩⟩
    · show atI [V.ref (a.fr false), V.ref (a.fr true)] (1 - bi b) = _
      rw [bi_not]
      exact at_pair (x := fun b => .ref (a.fr b)) (!b)
    refine dec2 (fun c => absurd c (by rw [il_len, ef, e0]; decide)) (fun _ => ?_)
    refine ⟨_, rfl, aF d1.ob T.c_Disk T.n_Disk_settled dF_settled ⟨_, rfl, a.s, _, _, _, rfl, rfl, seq_at d1.hs, at_pair (x := fun b => .ref (a.sl b)) b, a.sl b, _, rfl, .inl (seq_at (d1.hsl b)), ?_⟩⟩
    refine ⟨_, rfl, aF d1.ob T.c_Disk T.n_Disk_fresh dF_fresh ⟨_, rfl, a.f, _, _, _, rfl, rfl, seq_at d1.hf, at_pair (x := fun b => .ref (a.fr b)) b, a.fr b, _, rfl, .inl (seq_at (d1.hfr b)), ?_⟩⟩
    refine ⟨_, _, rfl, rfl, _, rfl, l, _, rfl, .inl (seq_at hl1), _, _, rfl, rfl, _, _, rfl, rfl, _, rfl, ?_⟩
    refine dec2 (fun c => absurd c (by rw [il_len, il_len, il_len, es, ef]; omega)) (fun _ => ?_)
    refine ⟨_, rfl, aF d1.ob T.c_Disk T.n_Disk_fresh dF_fresh ⟨_, rfl, a.f, _, _, _, rfl, rfl, seq_at d1.hf, at_pair (x := fun b => .ref (a.fr b)) b, .inl ⟨rfl, _, seq_at (d1.hfr b)⟩, _, rfl, ?_⟩⟩
    refine ⟨a.fr b, l, _, _, rfl, rfl, d1.hfr b, hl1, by rw [il_len, il_len, ef]; exact line_small (by omega), ?_⟩
    have e : il (D.used.f b) ++ il xs = il (D.used.f b ++ xs) := (List.map_append ..).symm
    rw [e]
    have g := q hp (upd H1 (a.fr b) (.lst (il (D.used.f b ++ xs)))) ?_ ((Fr.but k1).up (own_fr a b))
    · exact g
    · have g1 := d1.putF b (xs := D.used.f b ++ xs)
      rw [ef] at g1 ⊢
      exact g1
theorem sc_settle : FnScope ["self", "bank"] ["self", "bank"] (defScope s_Disk_settle) := ⟨rfl, rfl, rfl, by decide +kernel, rfl, by decide +kernel, by decide +kernel⟩
theorem ok_settle (T : Txt K mg) : Df P w K mg base 3 ("Disk", some "settle") ["self", "bank"] (spSettle K) := by
  refine df_exc T.F_Disk_settle sc_settle (fun _ _ _ _ _ _ us hl => match us, hl with | [_, _], _ => rfl) (fun vs H Q E h => ?_) (fun cdv A outer s H vs Q E hr h => ?_)
  · obtain ⟨a, D, b, rfl, _⟩ := h
    rfl
  · obtain ⟨a, D, b, rfl, d, hsz, q, qE⟩ := h
    have g0 := ok_use_power (P := P) (w := w) (base := base) T
    refine ⟨_, pss_cons (ps_expr (eMethX0 g0 hr (by decide) T.c_Disk T.m_Disk_use_power (L2N.passes_call (L2N.takes_of rfl rfl rfl rfl) fun _ _ _ _ h => h) (pv 0)))
      (pss_cons (ps_expr (pe_bm PySem.F.plainAttrs_list PySem.F.slot_list_extend PySem.F.type_list_extend mt_extend (pe_ix ix_list (pe_fld (pv 0) rfl) (pv 1) (fun _ _ => rfl)) (pa_cons (pe_ix ix_list (pe_fld (pv 0) rfl) (pv 1) (fun _ _ => rfl)) pa_nil)))
      (pss_one (ps_asg (pe_lst pa_nil) (pg_sub (pe_fld (pv 0) rfl) (pv 1) set_list)))), ?_⟩
    refine ⟨_, rfl, a.p, _, _, rfl, d.ob, dF_no (by decide +kernel), a, D, rfl, d, fun hp H1 d1 k1 => ?_, qE⟩
    have es := Dk.used_s D
    have ef := Dk.used_f D
    refine ⟨_, rfl, aF d1.ob T.c_Disk T.n_Disk_settled dF_settled ⟨_, rfl, a.s, _, _, _, rfl, rfl, seq_at d1.hs, at_pair (x := fun b => .ref (a.sl b)) b, .inl ⟨rfl, _, seq_at (d1.hsl b)⟩, ?_⟩⟩
    refine ⟨_, rfl, aF d1.ob T.c_Disk T.n_Disk_fresh dF_fresh ⟨_, rfl, a.f, _, _, _, rfl, rfl, seq_at d1.hf, at_pair (x := fun b => .ref (a.fr b)) b, ?_⟩⟩
    refine ⟨a.sl b, a.fr b, _, _, rfl, rfl, d1.hsl b, d1.hfr b, by rw [il_len, il_len, es, ef]; exact line_small hsz, ?_⟩
    have e : il (D.used.s b) ++ il (D.used.f b) = il (D.used.s b ++ D.used.f b) := (List.map_append ..).symm
    rw [e]
    have d2 := d1.putS b (xs := D.used.s b ++ D.used.f b)
    have f2 : Fr a.own H (upd H1 (a.sl b) (.lst (il (D.used.s b ++ D.used.f b)))) := (Fr.but k1).up (own_sl a b)
    generalize hD2 : ({ D.used with s := upB D.used.s b (D.used.s b ++ D.used.f b) } : Dk) = D2 at d2
    -- self._fresh[bank] = []
    refine ⟨by show 0 ≤ sizeLine; decide, fun l hl => ?_⟩
    have nl : ¬ a.own l := fun h => by
      obtain ⟨o, ho⟩ := d2.tr h
      rw [hl] at ho
      cases ho
    have hlH : H l = none := by
      cases e2 : H l with
      | none => rfl
      | some o =>
        rw [f2 l o e2 nl] at hl
        cases hl
    have d3 := d2.new (o := .lst []) hl
    refine ⟨_, rfl, aF d3.ob T.c_Disk T.n_Disk_fresh dF_fresh ⟨_, rfl, a.f, _, _, _, rfl, rfl, d3.hf, ix_pair b, ?_⟩⟩
    have d4 := d3.newF b (l := l) (xs := []) upd_same nl
    rw [set_pair (x := fun b => .ref (a.fr b)) b]
    have ev : ∀ c, upB (fun b => V.ref (a.fr b)) b (V.ref l) c = .ref (upB a.fr b l c) := fun c => by
      unfold upB
      split <;> rfl
    rw [ev, ev]
    refine q hp _ { a with fr := upB a.fr b l } rfl ?_ ⟨(f2.new hlH).up (own_f a), gr_newF hlH⟩
    have e4 : ({ D2 with f := upB D2.f b [] } : Dk) = D.settle b := by
      subst hD2
      unfold Dk.settle
      rw [es, ef]
    rw [e4] at d4
    exact d4
theorem sc_cut : FnScope ["self", "bank", "length"] ["self", "bank", "length"] (defScope s_Disk_cut) := ⟨rfl, rfl, rfl, by decide +kernel, rfl, by decide +kernel, by decide +kernel⟩
theorem ok_cut (T : Txt K mg) : Df P w K mg base 3 ("Disk", some "cut") ["self", "bank", "length"] (spCut K) := by
  refine df_exc T.F_Disk_cut sc_cut (fun _ _ _ _ _ _ us hl => match us, hl with | [_, _, _], _ => rfl) (fun vs H Q E h => ?_) (fun cdv A outer s H vs Q E hr h => ?_)
  · obtain ⟨a, D, b, n, rfl, _⟩ := h
    rfl
  · obtain ⟨a, D, b, n, rfl, d, pre, q, qE⟩ := h
    have g0 := ok_use_power (P := P) (w := w) (base := base) T
    have g1 := ok_pending (P := P) (w := w) (base := base) T
    refine ⟨_, pss_cons (ps_expr (eMethX0 g0 hr (by decide) T.c_Disk T.m_Disk_use_power (L2N.passes_call (L2N.takes_of rfl rfl rfl rfl) fun _ _ _ _ h => h) (pv 0)))
      (pss_cons (ps_if (pt_cmpR op_gt (eMethX0 g1 hr (by decide) T.c_Disk T.m_Disk_pending passN (pv 0)) pe_int (nomark _)) pss_never pss_nil)
      (pss_cons (ps_if (PW.pt (pw_or (pt_cmpR op_lt (pv 2) pe_int (nomark _)) (pw_or1 (pt_cmpR op_gt (pv 2) (eLen T.z_len (pe_ix ix_list (pe_fld (pv 0) rfl) (pv 1) (fun _ _ => rfl))) (nomark _))))) pss_never pss_nil)
      (pss_one (ps_asg (pe_slice sl_list (pe_ix ix_list (pe_fld (pv 0) rfl) (pv 1) (fun _ _ => rfl)) po_none (po_some (pv 2))) (pg_sub (pe_fld (pv 0) rfl) (pv 1) set_list))))), ?_⟩
    refine ⟨_, rfl, a.p, _, _, rfl, d.ob, dF_no (by decide +kernel), a, D, rfl, d, fun hp H1 d1 k1 => ?_, qE⟩
    obtain ⟨e0, hn⟩ := pre hp
    have es := Dk.used_s D
    have ef := Dk.used_f D
    have ep : D.used.pend = 0 := by
      unfold Dk.pend at e0 ⊢
      rw [ef]
      exact e0
    refine ⟨_, rfl, a.p, _, _, rfl, d1.ob, dF_no (by decide +kernel), a, D.used, rfl, d1, _, _, rfl, rfl, _, rfl, dec2 (fun c => absurd c (by rw [ep]; decide)) (fun _ => ?_)⟩
    refine ⟨_, rfl, _, _, rfl, rfl, _, rfl, dec2 (fun c => absurd c (by omega)) (fun _ => ?_)⟩
    refine ⟨_, rfl, _, rfl, aF d1.ob T.c_Disk T.n_Disk_settled dF_settled ⟨_, rfl, a.s, _, _, _, rfl, rfl, seq_at d1.hs, at_pair (x := fun b => .ref (a.sl b)) b, a.sl b, _, rfl, .inl (seq_at (d1.hsl b)), _, _, rfl, rfl, _, rfl, ?_⟩⟩
    refine dec2 (fun c => absurd c (by rw [il_len, es]; omega)) (fun _ => ?_)
    refine ⟨_, rfl, aF d1.ob T.c_Disk T.n_Disk_settled dF_settled ⟨_, rfl, a.s, _, _, _, rfl, rfl, seq_at d1.hs, at_pair (x := fun b => .ref (a.sl b)) b, _, rfl, _, rfl, a.sl b, _, rfl, seq_at (d1.hsl b), fun l hl => ?_⟩⟩
    rw [cut_take (by rw [es]; exact hn)]
    have nl : ¬ a.own l := fun h => by
      obtain ⟨o, ho⟩ := d1.tr h
      rw [hl] at ho
      cases ho
    have f2 := Fr.but k1
    have hlH : H l = none := by
      cases e2 : H l with
      | none => rfl
      | some o =>
        rw [f2 l o e2 nl] at hl
        cases hl
    have d3 := d1.new (o := .lst (il ((D.used.s b).take n))) hl
    refine ⟨_, rfl, aF d3.ob T.c_Disk T.n_Disk_settled dF_settled ⟨_, rfl, a.s, _, _, _, rfl, rfl, d3.hs, ix_pair b, ?_⟩⟩
    have d4 := d3.newS b (l := l) upd_same nl
    rw [set_pair (x := fun b => .ref (a.sl b)) b]
    have ev : ∀ c, upB (fun b => V.ref (a.sl b)) b (V.ref l) c = .ref (upB a.sl b l c) := fun c => by
      unfold upB
      split <;> rfl
    rw [ev, ev]
    refine q hp _ { a with sl := upB a.sl b l } rfl ?_ ⟨(f2.new hlH).up (own_s a), gr_newS hlH⟩
    have e4 : ({ D.used with s := upB D.used.s b ((D.used.s b).take n) } : Dk) = D.cut b n := by
      unfold Dk.cut
      rw [es]
    rw [e4] at d4
    exact d4
theorem sc_dinit : FnScope ["self"] ["self"] (defScope s_Disk_init) := ⟨rfl, rfl, rfl, by decide +kernel, rfl, by decide +kernel, by decide +kernel⟩
theorem ok_dinit (T : Txt K mg) : Df P w K mg base 1 ("Disk", some "__init__") ["self"] (spDiskInit K) := by
  refine df_nox T.F_Disk_init sc_dinit (fun _ _ _ _ _ _ us hl => match us, hl with | [_], _ => rfl) (fun vs H Q E h => ?_) (fun cdv A outer s H vs Q E hr h => ?_)
  · obtain ⟨p, dx, rfl, _⟩ := h
    rfl
  · obtain ⟨p, dx, rfl, hp, q⟩ := h
    refine ⟨_, pss_cons (ps_fld (pv 0) (pe_lst (pa_cons (pe_lst pa_nil) (pa_cons (pe_lst pa_nil) pa_nil))) rfl)
      (pss_cons (ps_fld (pv 0) (pe_lst (pa_cons (pe_lst pa_nil) (pa_cons (pe_lst pa_nil) pa_nil))) rfl)
      (pss_cons (ps_fld (pv 0) pe_bl rfl) (pss_cons (ps_fld (pv 0) pe_int rfl) (pss_one (ps_fld (pv 0) pe_int rfl))))), ?_⟩
    have z0 : (0 : Nat) ≤ sizeLine := Nat.zero_le _
    refine ⟨z0, fun s0 h0 => ⟨z0, fun s1 h1 => ⟨by show 2 ≤ sizeLine; decide, fun sv hv => ?_⟩⟩⟩
    have n0 : p ≠ s0 := ne_of_none hp h0
    have hp1 : upd H s0 (.lst []) p = some (.ins (CD K) dx []) := by rw [upd_ne n0]; exact hp
    have n1 : p ≠ s1 := ne_of_none hp1 h1
    have hp2 : upd (upd H s0 (.lst [])) s1 (.lst []) p = some (.ins (CD K) dx []) := by rw [upd_ne n1]; exact hp1
    have nv : p ≠ sv := ne_of_none hp2 hv
    have hp3 : upd (upd (upd H s0 (.lst [])) s1 (.lst [])) sv (.lst [.ref s0, .ref s1]) p = some (.ins (CD K) dx []) := by rw [upd_ne nv]; exact hp2
    refine ⟨_, rfl, aW hp3 T.c_Disk T.n_Disk_settled (by show 0 < 1000; decide) ?_⟩
    have n01 : s0 ≠ s1 := ne_of_none upd_same h1
    have t0 : upd (upd H s0 (.lst [])) s1 (.lst []) s0 = some (.lst []) := by rw [upd_ne n01]; exact upd_same
    have n0v : s0 ≠ sv := ne_of_none t0 hv
    have n1v : s1 ≠ sv := ne_of_none upd_same hv
    generalize hH1 : upd (upd (upd (upd H s0 (.lst [])) s1 (.lst [])) sv (.lst [.ref s0, .ref s1])) p (.ins (CD K) dx (putF "_settled" (.ref sv) [])) = H1
    have gp : H1 p = some (.ins (CD K) dx (putF "_settled" (.ref sv) [])) := by rw [← hH1]; exact upd_same
    have g0 : H1 s0 = some (.lst []) := by rw [← hH1, upd_ne n0.symm, upd_ne n0v]; exact t0
    have g1 : H1 s1 = some (.lst []) := by rw [← hH1, upd_ne n1.symm, upd_ne n1v]; exact upd_same
    have gv : H1 sv = some (.lst [.ref s0, .ref s1]) := by rw [← hH1, upd_ne nv.symm]; exact upd_same
    have k1 : ∀ x o, H x = some o → x ≠ p → H1 x = some o := fun x o e n => by
      have e1 : upd H s0 (.lst []) x = some o := by rw [upd_ne (ne_of_none e h0)]; exact e
      have e2 : upd (upd H s0 (.lst [])) s1 (.lst []) x = some o := by rw [upd_ne (ne_of_none e1 h1)]; exact e1
      rw [← hH1, upd_ne n, upd_ne (ne_of_none e2 hv)]
      exact e2
    have fr1 : H s1 = none := by
      cases e : H s1 with
      | none => rfl
      | some o =>
        rw [upd_ne (Ne.symm n01)] at h1
        rw [e] at h1
        cases h1
    have frv : H sv = none := by
      rw [upd_ne (Ne.symm n1v), upd_ne (Ne.symm n0v)] at hv
      exact hv
    -- self._fresh
    refine ⟨z0, fun f0 i0 => ⟨z0, fun f1 i1 => ⟨by show 2 ≤ sizeLine; decide, fun fv iv => ?_⟩⟩⟩
    have m0 : p ≠ f0 := ne_of_none gp i0
    have gp1 : upd H1 f0 (.lst []) p = some (.ins (CD K) dx (putF "_settled" (.ref sv) [])) := by rw [upd_ne m0]; exact gp
    have m1 : p ≠ f1 := ne_of_none gp1 i1
    have gp2 : upd (upd H1 f0 (.lst [])) f1 (.lst []) p = some (.ins (CD K) dx (putF "_settled" (.ref sv) [])) := by rw [upd_ne m1]; exact gp1
    have mv : p ≠ fv := ne_of_none gp2 iv
    have gp3 : upd (upd (upd H1 f0 (.lst [])) f1 (.lst [])) fv (.lst [.ref f0, .ref f1]) p = some (.ins (CD K) dx (putF "_settled" (.ref sv) [])) := by rw [upd_ne mv]; exact gp2
    have m01 : f0 ≠ f1 := ne_of_none upd_same i1
    have u0 : upd (upd H1 f0 (.lst [])) f1 (.lst []) f0 = some (.lst []) := by rw [upd_ne m01]; exact upd_same
    have m0v : f0 ≠ fv := ne_of_none u0 iv
    have m1v : f1 ≠ fv := ne_of_none upd_same iv
    have i1' : H1 f1 = none := by rw [upd_ne (Ne.symm m01)] at i1; exact i1
    have iv' : H1 fv = none := by rw [upd_ne (Ne.symm m1v), upd_ne (Ne.symm m0v)] at iv; exact iv
    have old : ∀ x o, H1 x = some o → x ≠ p → (upd (upd (upd H1 f0 (.lst [])) f1 (.lst [])) fv (.lst [.ref f0, .ref f1])) x = some o := fun x o e n => by
      rw [upd_ne (ne_of_none e iv'), upd_ne (ne_of_none e i1'), upd_ne (ne_of_none e i0)]
      exact e
    refine ⟨_, rfl, aW gp3 T.c_Disk T.n_Disk_fresh (by show 1 < 1000; decide) ?_⟩
    refine ⟨_, rfl, aW upd_same T.c_Disk T.n_Disk_armed (by show 2 < 1000; decide) ?_⟩
    refine ⟨_, rfl, aW upd_same T.c_Disk T.n_Disk_deeds (by show 3 < 1000; decide) ?_⟩
    refine ⟨_, rfl, aW upd_same T.c_Disk T.n_Disk_crashes (by show 4 < 1000; decide) ?_⟩
    rw [upd_upd, upd_upd, upd_upd]
    have ef : putF "_crashes" (.int 0) (putF "_deeds" (.int 0) (putF "_armed" (.bl false) (putF "_fresh" (.ref fv) (putF "_settled" (.ref sv) ([] : List (Str × V)))))) = fz dN [.ref sv, .ref fv, .bl false, .int 0, .int 0] := by
      have e1 : putF "_settled" (.ref sv) ([] : List (Str × V)) = fz ["_settled"] [.ref sv] := rfl
      rw [e1, fz_add (by decide +kernel) rfl, fz_add (by decide +kernel) rfl, fz_add (by decide +kernel) rfl, fz_add (by decide +kernel) rfl]
      rfl
    rw [ef]
    have np : ∀ x, x ≠ p → ∀ o, (upd (upd (upd H1 f0 (.lst [])) f1 (.lst [])) fv (.lst [.ref f0, .ref f1])) x = some o → upd (upd (upd (upd H1 f0 (.lst [])) f1 (.lst [])) fv (.lst [.ref f0, .ref f1])) p (.ins (CD K) dx (fz dN [.ref sv, .ref fv, .bl false, .int 0, .int 0])) x = some o := fun x n o e => by
      rw [upd_ne n]
      exact e
    refine q _ ⟨p, dx, sv, fv, fun b => if b = true then s1 else s0, fun b => if b = true then f1 else f0⟩ rfl ⟨upd_same, np _ nv.symm _ (old _ _ gv nv.symm), np _ mv.symm _ upd_same, fun b => ?_, fun b => ?_, n01, m01, fun b c => ?_⟩ (fun x o e n => np _ n _ (old _ _ (k1 x o e n) n)) fun x h => ?_
    · cases b
      · exact np _ n0.symm _ (old _ _ g0 n0.symm)
      · exact np _ n1.symm _ (old _ _ g1 n1.symm)
    · cases b
      · refine np _ m0.symm _ ?_
        rw [upd_ne m0v]
        exact u0
      · refine np _ m1.symm _ ?_
        rw [upd_ne m1v]
        exact upd_same
    · cases b <;> cases c
      · exact ne_of_none g0 i0
      · exact ne_of_none g0 i1'
      · exact ne_of_none g1 i0
      · exact ne_of_none g1 i1'
    · have new : ∀ y, H1 y = none → y ≠ p → H y = none := fun y e n => by
        cases e2 : H y with
        | none => rfl
        | some o =>
          rw [k1 y o e2 n] at e
          cases e
      rcases h with h | h | h | ⟨b, h⟩ | ⟨b, h⟩
      · exact .inl h
      · exact .inr (by rw [h]; exact frv)
      · exact .inr (by rw [h]; exact new _ iv' mv.symm)
      · cases b
        · exact .inr (by rw [h]; exact h0)
        · exact .inr (by rw [h]; exact fr1)
      · cases b
        · exact .inr (by rw [h]; exact new _ i0 m0.symm)
        · exact .inr (by rw [h]; exact new _ i1' m1.symm)
end
end Hush
set_option Elab.async false
set_option linter.all false
set_option maxRecDepth 100000
set_option maxHeartbeats 4000000
/-! min(a, b) within an except suite. -/
namespace HHot
open PySem PySem.Spec PyProof.Rows HotX
section
variable {prog : Program} {w : World} {A : Around} {E : Value → Shared → Prop} {s : Shared}
theorem tuple_end_hot {it t x1 : Addr} {i : Nat} {items} {Q : Option Value → Shared → Prop} (hot : HotAt A x1 s.heap) (hne : x1 ≠ it)
    (hit : s.heap.IsTupleIter it t i) (ht : s.heap.IsTuple t items) (hx : items[i]? = none)
    (hQ : ∀ h', (∀ b o, b ≠ it → s.heap.get? b = some o → h'.get? b = some o) → Q none { s with heap := h' }) : wpAny (model prog w) A (pyNext (.ref it)) Q E s := by
  obtain ⟨o, ho, hc, hd⟩ := id hit
  obtain ⟨ol, hol, _, nl, hdl⟩ := ht
  obtain ⟨hh, o1, vs1, h1, d1, c1⟩ := hot
  unfold pyNext
  refine wpAny_bind (wpAny_attempt (wpAny_callSpecial?_slot (name := Str.ofString "__next__") hit.typeIs F.slot_tuple_iterator_next
    (wpAny_call_entry F.slot_tuple_iterator_next hit.typeIs F.entry_tuple_iterator_next ?_ (F.args_tuple_iterator_next_1 _))))
  show wpAny _ _ (field (.ref it) 0 >>= _) _ _ s
  refine wpAny_bind (wpAny_field ho hd (x := .ref t) rfl ?_)
  show wpAny _ _ (if (Value.ref t == Value.none) = true then _ else _) _ _ s
  rw [if_neg (show ¬ ((Value.ref t == Value.none) = true) from Bool.false_ne_true)]
  show wpAny _ _ (field (.ref it) 1 >>= _) _ _ s
  refine wpAny_bind (wpAny_field ho hd (x := .int i 0) rfl ?_)
  show wpAny _ _ (seqItems? (.ref t) >>= _) _ _ s
  refine wpAny_bind (wpAny_seqItems hol hdl ?_)
  simp only [Int.toNat_natCast, hx]
  refine wpAny_bind (wpAny_rule (wpAny_bind (wpAny_setField ho hd (by simp) ?_)))
  show wpAny _ _ (newExc (.type "StopIteration") [] >>= _) _ _ _
  refine wpAny_bind ?_
  simp only [newExc, newTuple]
  refine wpAny_bind (wpAny_newObj_type ?_ (by size_fits))
  refine wpAny_bind (m := firstArgMember _ _) (wpAny_of_eq (a := Value.none) (by first | rfl | (simp only [firstArgMember]; rfl)) ?_)
  refine wpAny_newObj_type ?_ (by size_fits)
  have old : ∀ b ob, b ≠ it → s.heap.get? b = some ob → (((s.heap.update it (Obj.mapFields (·.setIfInBounds 0 Value.none))).push { cls := Value.type "tuple", data := Data.seq #[] })).get? b = some ob := fun b ob hb e =>
    Heap.get?_push_of_some _ ((Heap.get?_update_other _ _ (Ne.symm hb)).trans e)
  refine raiseNew_hot ⟨hh, o1, vs1, Heap.get?_push_of_some _ (old _ _ hne h1), d1, c1⟩ (Nat.ne_of_lt (Heap.lt_size (old _ _ hne h1))) (Heap.get?_push_size _ rfl) rfl (by first | (simp; done) | (simp; omega) | (simp only [Array.size_append]; simp; omega)) ?_
  refine wpAny_bind (wpAny_isInstance (T := "StopIteration") (b := true) ⟨_, Heap.get?_update_self _ (Heap.get?_push_size _ rfl) rfl, rfl⟩ isSubtype_stop ?_)
  refine wpAny_pure (hQ _ fun b ob hb e => ?_)
  have e1 := old b ob hb e
  rw [Heap.get?_update_other _ _ (Nat.ne_of_gt (Heap.lt_size e1))]
  exact Heap.get?_push_of_some _ e1
theorem walks_tuple_hot {x1 : Addr} (o1 : Obj) (vs1 : Array Value) (hh : A.handled = some (.ref x1)) (d1 : o1.data = .fields vs1) (c1 : vs1[2]? = some .none) (I ax : Addr) (hne : ax ≠ I) (hx : x1 ≠ I) (items : Array Value) :
    Walks prog w A I [I, ax, x1] [I] items.size (fun i v => items[i]? = some v) (fun i h => h.IsTupleIter I ax i ∧ h.IsTuple ax items ∧ h.get? x1 = some o1) where
  sub := fun b hb => by simp at hb; simp [hb]
  frame := fun _ _ _ st hk => ⟨st.1.at fun o e => hk I (by simp) o e, st.2.1.at fun o e => hk ax (by simp) o e, hk x1 (by simp) o1 st.2.2⟩
  item := fun i s Q E hi st hQ => by
    refine wpAny_pyNext_tuple_item st.1 st.2.1 (x := items[i]) (by simp [hi]) fun h' hit' hs' => ?_
    exact hQ _ h' s.toks (by simp [hi]) ⟨hit', st.2.1.extBut hs'.extBut hne, hs'.extBut x1 o1 hx st.2.2⟩ fun b o hb e => hs'.extBut b o (fun h => hb (by simp [h])) e
  done := fun s Q E st hQ => tuple_end_hot ⟨hh, o1, vs1, st.2.2, d1, c1⟩ hx st.1 st.2.1 (by simp) fun h' he' => hQ h' s.toks fun b o hb e => he' b o (fun h => hb (by simp [h])) e
  self := fun i s Q E st h => wpAny_pyIter_tupleiter st.1 h
theorem min_two_hot {a b : Int} {t u : Tok} {x1 : Addr} {Q : Value → Shared → Prop} (hot : HotAt A x1 s.heap)
    (h : ∀ h' tk, (∀ c o, s.heap.get? c = some o → h'.get? c = some o) → Q (if b < a then .int b u else .int a t) { s with heap := h', toks := tk }) :
    wpAny (model prog w) A (call (.builtin "min") [.int a t, .int b u]) Q E s := by
  obtain ⟨hh, o1, vs1, h1, d1, c1⟩ := hot
  have hT : (s.heap.push { cls := .type "tuple", data := .seq #[.int a t, .int b u] }).IsTuple s.heap.objs.size (intItems #[(a, t), (b, u)]) := ⟨_, Heap.get?_push_size _ rfl, rfl, 0, by simp [intItems]⟩
  refine call_min_two (wpAny_pyIter_tuple hT ?_)
  have hsz : (s.heap.push { cls := .type "tuple", data := .seq #[.int a t, .int b u] }).objs.size = s.heap.objs.size + 1 := Heap.size_push ..
  have hx1 : x1 < s.heap.objs.size := Heap.lt_size h1
  refine ⟨_, [_, s.heap.objs.size, x1], [_], _, _, _, _, rfl, walks_tuple_hot (A := A.in1) o1 vs1 hh d1 c1 _ s.heap.objs.size (by rw [hsz]; exact Nat.ne_of_lt (Nat.lt_succ_self _)) (by rw [hsz]; exact Nat.ne_of_lt (Nat.lt_succ_of_lt hx1)) (intItems #[(a, t), (b, u)]),
    ⟨⟨_, Heap.get?_push_size _ rfl, rfl, rfl⟩, hT.push _, Heap.get?_push_of_some _ (Heap.get?_push_of_some _ h1)⟩, fun c hc => ?_, by simp [intItems], CmpOf.ints_lt (numAt #[(a, t), (b, u)]) (fun _ _ => intItems_at), fun v h' tk hP hk => ?_⟩
  · show c < ((s.heap.push _).push _).objs.size
    rw [Heap.size_push, hsz]
    rcases List.mem_cons.mp hc with rfl | hc
    · rw [hsz]; exact Nat.lt_succ_self _
    · rcases List.mem_cons.mp hc with rfl | hc
      · exact Nat.lt_succ_of_lt (Nat.lt_succ_self _)
      · rcases List.mem_cons.mp hc with rfl | hc
        · exact Nat.lt_succ_of_lt (Nat.lt_succ_of_lt hx1)
        · cases hc
  · have hold : ∀ c o, s.heap.get? c = some o → h'.get? c = some o := fun c o e => by
      refine hk c o (fun hm => ?_) (Heap.get?_push_of_some _ (Heap.get?_push_of_some _ e))
      rcases List.mem_cons.mp hm with e1 | hm
      · have := Heap.lt_size e; rw [e1, hsz] at this; exact Nat.lt_irrefl _ (Nat.lt_of_succ_lt this)
      · cases hm
    have := h h' tk hold
    have hv : v = if b < a then Value.int b u else Value.int a t := by
      have hP' : (intItems #[(a, t), (b, u)])[argBest (fun i j => decide (numAt #[(a, t), (b, u)] i < numAt #[(a, t), (b, u)] j)) 1]? = some v := by
        have hsz2 : (intItems #[(a, t), (b, u)]).size - 1 = 1 := by simp [intItems]
        rw [← hsz2]; exact hP
      by_cases hba : b < a
      · have e : argBest (fun i j => decide (numAt #[(a, t), (b, u)] i < numAt #[(a, t), (b, u)] j)) 1 = 1 := by simp [argBest, numAt, hba]
        rw [e] at hP'
        simpa [intItems, hba] using hP'.symm
      · have e : argBest (fun i j => decide (numAt #[(a, t), (b, u)] i < numAt #[(a, t), (b, u)] j)) 1 = 0 := by simp [argBest, numAt, hba]
        rw [e] at hP'
        simpa [intItems, hba] using hP'.symm
    rw [hv]; exact this
end
end HHot
namespace Hush
open PySem PySem.Spec PyProof.Rows L2
theorem call_min2H {X : Cx} (hc : L2H.HotC X) : CallR X (.builtin "min") (fun xs H Q => ∃ i j, xs = [.int i, .int j] ∧ Q (.int (if j < i then j else i)) H) := by
  intro pins s σ H xs us Q I r h
  obtain ⟨i, j, rfl, q⟩ := h
  obtain ⟨u, w', rfl, ⟨t, rfl⟩, ⟨t', rfl⟩⟩ := vals2 r
  obtain ⟨x1, hot⟩ := hc.at I
  refine HHot.min_two_hot hot fun h' tk k => ⟨_, H, I.kept k, ?_, q⟩
  by_cases hj : j < i
  · rw [if_pos hj, if_pos hj]; exact ⟨_, rfl⟩
  · rw [if_neg hj, if_neg hj]; exact ⟨_, rfl⟩
end Hush
set_option Elab.async false
set_option linter.all false
set_option maxRecDepth 100000
set_option maxHeartbeats 4000000
/-! The disk's crash, also within an except suite. -/
namespace Hush
open PySem PySem.Spec PyProof.Rows L2
theorem cut_upto (xs : List Int) (n : Nat) : cutV (il xs) none (some (n : Int)) = il (xs.take n) := by
  unfold cutV
  rw [HT.sIx_nat, HT.sIx_none, il_len, List.drop_zero, Nat.sub_zero]
  unfold il
  rw [← List.map_take]
  by_cases h : n ≤ xs.length
  · rw [Nat.min_eq_left h]
  · rw [Nat.min_eq_right (by omega), List.take_of_length_le (Nat.le_refl _), List.take_of_length_le (by omega)]
theorem rep_il (k : Nat) : (List.replicate k ([V.int 0] : List V)).flatten = il (List.replicate k 0) := by
  induction k with
  | zero => rfl
  | succ k ih =>
    rw [List.replicate_succ, List.replicate_succ, List.flatten_cons, ih]
    rfl
/-- a def called within an except suite -/
theorem funD_okH {P : Program} {w : World} {K : PySem.W.Frag} {mg : Str → Option Value} {base : Heap} {x qual : Str} {params : Arguments} {body : List Stmt} {scope : Scope} {dvs : List V} {kws : List (Str × V)} {f : Addr} {fd : FuncData} {CX : CXT} {N ps : List Str} {k : Nat} {sp : Sp}
    (F : FunD K x qual params body scope dvs kws f fd) (S : FnScope N ps scope) (len : ∀ vs H Q E, sp vs H Q E → vs.length = ps.length)
    (hbody : ∀ (cdv : Value) (A : Around) (outer : List Env) (s : Shared) (H : Hp) (vs : List V) (Q : VK) (E : XK) (p : Addr × Obj), L2H.Hot1 A p → L2H.RoomH k (A.deeper (envOfC qual scope s.heap.objs.size f cdv)) → sp vs H Q E →
      ∃ t, PSs (L2H.cxH CX P w K mg base N qual scope f cdv A outer s H E p) body t ∧ t { nx := fun _ H' => Q .non H', rt := Q } (start N vs) H) : L2H.FnH P w K mg base CX (k + 1) f fd ps sp := by
  obtain ⟨oc, od, dV, kV, doc, pm, an, cdv, ct, osl, rfl, lk, hcd, _, _⟩ := F.ex
  exact L2H.fn_ofH lk hcd S len fun A outer s H vs Q E p hot hr hsp => hbody cdv A outer s H vs Q E p hot hr hsp
def spCrash (K : PySem.W.Frag) : Sp := fun vs H Q _ => ∃ (a : DA) (D : Dk) (kept t : Nat), vs = [.ref a.p, .int kept, .int t] ∧ DiskAt K H a D ∧ (∀ b, (D.s b).length + (D.f b).length ≤ 1000000) ∧
  ∀ (H' : Hp) (a' : DA), a'.p = a.p → DiskAt K H' a' (D.crash kept t) → Stp H a.own H' a'.own → Q .non H'
section
variable {P : Program} {w : World} {K : PySem.W.Frag} {mg : Str → Option Value} {base : Heap}
abbrev crN : List Str := ["self", "kept", "torn", "bank", "fresh", "stays", "zeros"]
theorem sc_crash : FnScope crN ["self", "kept", "torn"] (defScope s_Disk_crash) := ⟨rfl, rfl, rfl, by decide +kernel, rfl, by decide +kernel, by decide +kernel⟩
def rMin2 : List V → Hp → VK → Prop := fun xs H Q => ∃ i j, xs = [.int i, .int j] ∧ Q (.int (if j < i then j else i)) H
def rLenL (K : PySem.W.Frag) : List V → Hp → VK → Prop := fun xs H Q => ∃ p ys, xs = [.ref p] ∧ (SqL K H p ys ∨ SqT K H p ys) ∧ Q (.int ys.length) H
def t_crash (K : PySem.W.Frag) : TS :=
  tSeq (tFor (iRng1 (tCons (tC (.int 2)) tNil)) (gName 3)
    (tSeq (tAsg (tOp (rIxL K) (tFld K (tVar 0) "_fresh") (tVar 3)) (gName 4))
    (tSeq (tAsg (tSl (rSlL K) (tVar 4) tNoPart (tPart (tVar 1))) (gName 5))
    (tSeq (tAsg (tOp rRep (tLst (tCons (tC (.int 0)) tNil)) (tCB rMin2 (tCons (tVar 2) (tCons (tOp (rI0 fun i j => .int (i - j)) (tCB (rLenL K) (tCons (tVar 4) tNil)) (tCB (rLenL K) (tCons (tVar 5) tNil))) tNil)))) (gName 6))
    (tSeq (tDrop (tBM K "list" rExtend (tOp (rIxL K) (tFld K (tVar 0) "_settled") (tVar 3)) (tCons (tVar 5) tNil)))
    (tSeq (tDrop (tBM K "list" rExtend (tOp (rIxL K) (tFld K (tVar 0) "_settled") (tVar 3)) (tCons (tVar 6) tNil)))
    (tAsg (tLst tNil) (gSub (tFld K (tVar 0) "_fresh") (tVar 3) rSetL))))))))
  (tSeq (sFld K (tVar 0) (tC (.bl false)) "_armed")
  (sFldAug K (tVar 0) (tC (.int 1)) rAdd "_crashes"))
theorem crash_ps (T : Txt K mg) (cdv : Value) (A : Around) (outer : List Env) (s : Shared) (H : Hp) (E : XK) : PSs (cxOf (L2N.CX P w) P w K mg base crN "Disk.crash" (defScope s_Disk_crash) (He.fAd K ("Disk", some "crash")) cdv A outer s H E).nox (defBody s_Disk_crash) (t_crash K) := by
  have nd := sc_crash.nd
  exact pss_cons (ps_for PassesOwn.never rfl (pi_range1 rfl T.z_range (pa_cons pe_int pa_nil)) (pg_name (i := 3) nd rfl (Or.inl rfl))
      (pss_cons (ps_set (i := 4) nd rfl (Or.inl rfl) (pe_ix ix_list (pe_fld (pv 0) rfl) (pv 3) (fun _ _ => rfl)))
      (pss_cons (ps_set (i := 5) nd rfl (Or.inl rfl) (pe_slice sl_list (pv 4) po_none (po_some (pv 1))))
      (pss_cons (ps_set (i := 6) nd rfl (Or.inl rfl) (pe_op op_rep (pe_lst (pa_cons pe_int pa_nil)) (pe_callB (call_min2 rfl) rfl T.z_min boot_min (pa_cons (pv 2) (pa_cons (pe_op op_sub (eLen T.z_len (pv 4)) (eLen T.z_len (pv 5))) pa_nil)))))
      (pss_cons (ps_expr (pe_bm PySem.F.plainAttrs_list PySem.F.slot_list_extend PySem.F.type_list_extend mt_extend (pe_ix ix_list (pe_fld (pv 0) rfl) (pv 3) (fun _ _ => rfl)) (pa_cons (pv 5) pa_nil)))
      (pss_cons (ps_expr (pe_bm PySem.F.plainAttrs_list PySem.F.slot_list_extend PySem.F.type_list_extend mt_extend (pe_ix ix_list (pe_fld (pv 0) rfl) (pv 3) (fun _ _ => rfl)) (pa_cons (pv 6) pa_nil)))
      (pss_one (ps_asg (pe_lst pa_nil) (pg_sub (pe_fld (pv 0) rfl) (pv 3) set_list)))))))))
    (pss_cons (ps_fld (pv 0) pe_bl rfl)
    (pss_one (ps_fldaug (pv 0) pe_int in_add)))
theorem crash_psH (T : Txt K mg) (cdv : Value) (A : Around) (outer : List Env) (s : Shared) (H : Hp) (E : XK) (p : Addr × Obj) (hot : L2H.Hot1 A p) : PSs (L2H.cxH (L2N.CX P w) P w K mg base crN "Disk.crash" (defScope s_Disk_crash) (He.fAd K ("Disk", some "crash")) cdv A outer s H E p).nox (defBody s_Disk_crash) (t_crash K) := by
  have nd := sc_crash.nd
  have hc : L2H.HotC (L2H.cxH (L2N.CX P w) P w K mg base crN "Disk.crash" (defScope s_Disk_crash) (He.fAd K ("Disk", some "crash")) cdv A outer s H E p).nox := ⟨p, ⟨hot.1, hot.2⟩, List.mem_singleton.mpr rfl⟩
  exact pss_cons (L2H.ps_forH PassesOwn.never hc (L2H.pi_range1H rfl T.z_range (pa_cons pe_int pa_nil)) (pg_name (i := 3) nd rfl (Or.inl rfl))
      (pss_cons (ps_set (i := 4) nd rfl (Or.inl rfl) (pe_ix ix_list (pe_fld (pv 0) rfl) (pv 3) (fun _ _ => rfl)))
      (pss_cons (ps_set (i := 5) nd rfl (Or.inl rfl) (pe_slice sl_list (pv 4) po_none (po_some (pv 1))))
      (pss_cons (ps_set (i := 6) nd rfl (Or.inl rfl) (pe_op op_rep (pe_lst (pa_cons pe_int pa_nil)) (pe_callB (call_min2H hc) rfl T.z_min boot_min (pa_cons (pv 2) (pa_cons (pe_op op_sub (eLen T.z_len (pv 4)) (eLen T.z_len (pv 5))) pa_nil)))))
      (pss_cons (ps_expr (pe_bm PySem.F.plainAttrs_list PySem.F.slot_list_extend PySem.F.type_list_extend mt_extend (pe_ix ix_list (pe_fld (pv 0) rfl) (pv 3) (fun _ _ => rfl)) (pa_cons (pv 5) pa_nil)))
      (pss_cons (ps_expr (pe_bm PySem.F.plainAttrs_list PySem.F.slot_list_extend PySem.F.type_list_extend mt_extend (pe_ix ix_list (pe_fld (pv 0) rfl) (pv 3) (fun _ _ => rfl)) (pa_cons (pv 6) pa_nil)))
      (pss_one (ps_asg (pe_lst pa_nil) (pg_sub (pe_fld (pv 0) rfl) (pv 3) set_list)))))))))
    (pss_cons (ps_fld (pv 0) pe_bl rfl)
    (pss_one (ps_fldaug (pv 0) pe_int in_add)))
theorem crash_read (T : Txt K mg) (vs : List V) (H : Hp) (Q : VK) (E : XK) (h : spCrash K vs H Q E) : t_crash K { nx := fun _ H' => Q .non H', rt := Q } (start crN vs) H := by
  obtain ⟨a, D, kept, t, rfl, d, hsz, q⟩ := h
  let Dn : Nat → Dk := fun i => if i = 0 then D else if i = 1 then D.crash1 false kept t else (D.crash1 false kept t).crash1 true kept t
  refine ⟨2, rfl, by decide, by decide, for_range (lo := 0) (n := (2 : Int).toNat) (fun i σ H' => ∃ (a' : DA) (v3 v4 v5 v6 : Option V), σ = [some (.ref a.p), some (.int kept), some (.int t), v3, v4, v5, v6] ∧ a'.p = a.p ∧ DiskAt K H' a' (Dn i) ∧ Stp H a.own H' a'.own)
    ⟨a, none, none, none, none, rfl, rfl, d, Stp.refl _ _⟩ ?_ ?_⟩
  · rintro i σ H1 hi ⟨a1, v3, v4, v5, v6, rfl, ep, d1, st1⟩
    have hb : ∃ b, (0 : Int) + (i : Int) = bi b ∧ Dn (i + 1) = (Dn i).crash1 b kept t ∧ ((Dn i).s b).length + ((Dn i).f b).length ≤ 1000000 := by
      match i, hi with
      | 0, _ => exact ⟨false, rfl, rfl, hsz false⟩
      | 1, _ => exact ⟨true, rfl, rfl, hsz true⟩
    obtain ⟨b, eb, eD, hz⟩ := hb
    rw [eb]
    generalize hDi : Dn i = D1 at *
    rw [← ep] at *
    -- fresh = self._fresh[bank]; stays = fresh[:kept]
    refine ⟨_, rfl, aF d1.ob T.c_Disk T.n_Disk_fresh dF_fresh ⟨_, rfl, a1.f, _, _, _, rfl, rfl, seq_at d1.hf, at_pair (x := fun b => .ref (a1.fr b)) b, ?_⟩⟩
    refine ⟨_, rfl, _, rfl, _, rfl, a1.fr b, _, rfl, seq_at (d1.hfr b), fun p5 h5 => ?_⟩
    rw [cut_upto]
    have d2 := d1.new (o := .lst (il ((D1.f b).take kept))) h5
    have s2 : Same H1 (upd H1 p5 (.lst (il ((D1.f b).take kept)))) := (Same.refl H1).nw h5
    have g5 : upd H1 p5 (.lst (il ((D1.f b).take kept))) p5 = some (.lst (il ((D1.f b).take kept))) := upd_same
    generalize hH2 : upd H1 p5 (.lst (il ((D1.f b).take kept))) = H2 at *
    -- zeros
    refine ⟨by show 1 ≤ sizeLine; decide, fun p0 h0 => ?_⟩
    have d3 := d2.new (o := .lst [.int 0]) h0
    have s3 : Same H2 (upd H2 p0 (.lst [.int 0])) := (Same.refl H2).nw h0
    have g53 := s3 _ _ g5
    have g0 : upd H2 p0 (.lst [.int 0]) p0 = some (.lst [.int 0]) := upd_same
    generalize hH3 : upd H2 p0 (.lst [.int 0]) = H3 at *
    refine ⟨_, rfl, _, rfl, a1.fr b, _, rfl, .inl (seq_at (d3.hfr b)), ?_⟩
    refine ⟨_, rfl, p5, _, rfl, .inl (seq_at g53), _, _, rfl, rfl, ?_⟩
    have el : ((il (D1.f b)).length : Int) - ((il ((D1.f b).take kept)).length : Int) = (((D1.f b).length - ((D1.f b).take kept).length : Nat) : Int) := by
      rw [il_len, il_len, List.length_take]
      omega
    have em : ∀ u : Nat, (if ((u : Int) < (t : Int)) then (u : Int) else (t : Int)) = ((min t u : Nat) : Int) := fun u => by
      split <;> omega
    refine ⟨_, _, rfl, ?_⟩
    show rRep (.ref p0) (.int (if (((il (D1.f b)).length : Int) - ((il ((D1.f b).take kept)).length : Int) < (t : Int)) then ((il (D1.f b)).length : Int) - ((il ((D1.f b).take kept)).length : Int) else (t : Int))) H3 _
    rw [el, em]
    have hml : min t ((D1.f b).length - ((D1.f b).take kept).length) ≤ (D1.f b).length := by omega
    refine ⟨p0, _, _, rfl, rfl, g0, by omega, by omega, ?_, fun p6 h6 => ?_⟩
    · show 1 * _ ≤ sizeLine
      rw [Int.toNat_natCast]
      exact line_small (by omega)
    rw [Int.toNat_natCast, rep_il]
    generalize hzs : List.replicate (min t ((D1.f b).length - ((D1.f b).take kept).length)) (0 : Int) = zs
    have lzs : zs.length ≤ (D1.f b).length - ((D1.f b).take kept).length := by
      rw [← hzs, List.length_replicate]
      omega
    have ltk : ((D1.f b).take kept).length ≤ (D1.f b).length := by
      rw [List.length_take]
      omega
    have d4 := d3.new (o := .lst (il zs)) h6
    have s4 : Same H3 (upd H3 p6 (.lst (il zs))) := (Same.refl H3).nw h6
    have g54 := s4 _ _ g53
    have g6 : upd H3 p6 (.lst (il zs)) p6 = some (.lst (il zs)) := upd_same
    have n5 : ¬ a1.own p5 := fun h => by
      obtain ⟨o, ho⟩ := d1.tr h
      rw [h5] at ho
      cases ho
    have n6 : ¬ a1.own p6 := fun h => by
      obtain ⟨o, ho⟩ := d3.tr h
      rw [h6] at ho
      cases ho
    generalize hH4 : upd H3 p6 (.lst (il zs)) = H4 at *
    have s14 : Same H1 H4 := (s2.trans s3).trans s4
    -- self._settled[bank].extend(stays)
    refine ⟨_, rfl, aF d4.ob T.c_Disk T.n_Disk_settled dF_settled ⟨_, rfl, a1.s, _, _, _, rfl, rfl, seq_at d4.hs, at_pair (x := fun b => .ref (a1.sl b)) b, .inl ⟨rfl, _, seq_at (d4.hsl b)⟩, _, rfl, ?_⟩⟩
    refine ⟨a1.sl b, p5, _, _, rfl, rfl, d4.hsl b, g54, by rw [il_len, il_len]; exact line_small (by omega), ?_⟩
    have e5 : il (D1.s b) ++ il ((D1.f b).take kept) = il (D1.s b ++ (D1.f b).take kept) := (List.map_append ..).symm
    rw [e5]
    have d5 := d4.putS b (xs := D1.s b ++ (D1.f b).take kept)
    have f5 : Fr a1.own H1 (upd H4 (a1.sl b) (.lst (il (D1.s b ++ (D1.f b).take kept)))) := (Fr.of_same s14).up (own_sl a1 b)
    have g65 : upd H4 (a1.sl b) (.lst (il (D1.s b ++ (D1.f b).take kept))) p6 = some (.lst (il zs)) := by
      rw [upd_ne (fun z => n6 (by rw [z]; exact own_sl a1 b))]
      exact g6
    -- .extend(zeros)
    refine ⟨_, rfl, aF d5.ob T.c_Disk T.n_Disk_settled dF_settled ⟨_, rfl, a1.s, _, _, _, rfl, rfl, seq_at d5.hs, at_pair (x := fun b => .ref (a1.sl b)) b, .inl ⟨rfl, _, seq_at (d5.hsl b)⟩, _, rfl, ?_⟩⟩
    refine ⟨a1.sl b, p6, il (D1.s b ++ (D1.f b).take kept), il zs, rfl, rfl, upd_same, g65, by rw [il_len, il_len, List.length_append]; exact line_small (by omega), ?_⟩
    have e6 : il (D1.s b ++ (D1.f b).take kept) ++ il zs = il (D1.s b ++ Dk.torn (D1.f b) kept t) := by
      unfold Dk.torn
      rw [hzs]
      unfold il
      rw [← List.map_append, List.append_assoc]
    rw [e6, upd_upd]
    have d6 := d4.putS b (xs := D1.s b ++ Dk.torn (D1.f b) kept t)
    have f6 : Fr a1.own H1 (upd H4 (a1.sl b) (.lst (il (D1.s b ++ Dk.torn (D1.f b) kept t)))) := (Fr.of_same s14).up (own_sl a1 b)
    generalize hH6 : upd H4 (a1.sl b) (.lst (il (D1.s b ++ Dk.torn (D1.f b) kept t))) = H6 at *
    -- self._fresh[bank] = []
    refine ⟨by show 0 ≤ sizeLine; decide, fun l hl => ?_⟩
    have nl : ¬ a1.own l := fun h => by
      obtain ⟨o, ho⟩ := d6.tr h
      rw [hl] at ho
      cases ho
    have hl1 : H1 l = none := by
      cases e2 : H1 l with
      | none => rfl
      | some o =>
        rw [f6 l o e2 nl] at hl
        cases hl
    have d7 := d6.new (o := .lst []) hl
    refine ⟨_, rfl, aF d7.ob T.c_Disk T.n_Disk_fresh dF_fresh ⟨_, rfl, a1.f, _, _, _, rfl, rfl, d7.hf, ix_pair b, ?_⟩⟩
    have d8 := d7.newF b (l := l) (xs := []) upd_same nl
    rw [set_pair (x := fun b => .ref (a1.fr b)) b]
    have ev : ∀ c, upB (fun b => V.ref (a1.fr b)) b (V.ref l) c = .ref (upB a1.fr b l c) := fun c => by
      unfold upB
      split <;> rfl
    rw [ev, ev]
    refine ⟨{ a1 with fr := upB a1.fr b l }, _, _, _, _, rfl, ?_, ?_, st1.trans ⟨(f6.new hl1).up (own_f a1), gr_newF hl1⟩⟩
    · first | rfl | exact ep
    · rw [eD]
      exact d8
  · rintro σ H1 ⟨a1, v3, v4, v5, v6, rfl, ep, d1, st1⟩
    rw [← ep]
    refine ⟨_, rfl, aW d1.ob T.c_Disk T.n_Disk_armed dF_len ?_⟩
    rw [dF_put_armed]
    have d2 := d1.nums (D' := { Dn 2 with armed := false }) rfl rfl
    refine ⟨_, rfl, a1.p, _, _, _, _, rfl, d2.ob, T.c_Disk, T.n_Disk_crashes, dF_crashes, _, _, rfl, rfl, _, _, d2.ob, dF_len, ?_⟩
    rw [dF_put_crashes]
    have d3 := d2.nums (D' := { Dn 2 with armed := false, crashes := (Dn 2).crashes + 1 }) rfl rfl
    have e : ({ Dn 2 with armed := false, crashes := (Dn 2).crashes + 1 } : Dk) = D.crash kept t := by
      have e1 : (Dn 2).s = fun b => D.s b ++ Dk.torn (D.f b) kept t := by
        funext b
        cases b <;> rfl
      have e2 : (Dn 2).f = fun _ => [] := by
        funext b
        cases b <;> rfl
      show (⟨(Dn 2).s, (Dn 2).f, false, (Dn 2).deeds, (Dn 2).crashes + 1⟩ : Dk) = _
      rw [e1, e2]
      rfl
    rw [e] at d3
    exact q _ a1 ep d3 (st1.trans (Stp.of_fr (((Fr.refl _ _).up (own_p a1)).up (own_p a1))))
theorem ok_crash (T : Txt K mg) : Df P w K mg base 1 ("Disk", some "crash") ["self", "kept", "torn"] (spCrash K) :=
  df_nox T.F_Disk_crash sc_crash (fun _ _ _ _ _ _ us hl => match us, hl with | [_, _, _], _ => rfl) (fun vs H Q E h => by
    obtain ⟨a, D, k, t, rfl, _⟩ := h
    rfl) fun cdv A outer s H vs Q E hr h => ⟨t_crash K, crash_ps T cdv A outer s H E, crash_read T vs H Q E h⟩
theorem ok_crashH (T : Txt K mg) : L2H.FnH P w K mg base (L2N.CX P w) 1 (He.fAd K ("Disk", some "crash")) (fdAt K (He.fAd K ("Disk", some "crash"))) ["self", "kept", "torn"] (spCrash K) :=
  funD_okH T.F_Disk_crash sc_crash (fun vs H Q E h => by
    obtain ⟨a, D, k, t, rfl, _⟩ := h
    rfl) fun cdv A outer s H vs Q E p hot hr h => ⟨t_crash K, (crash_psH T cdv A outer s H E p hot).nox, crash_read T vs H Q E h⟩
end
end Hush
/-! The small suite's powers. -/
namespace Hush
def GN : Nat := 170141183460469231731687303715884105727
def HG : Nat := 85070591730234615865843651857942052863
/-- the power as small_power reckons it -/
def mp : Nat → Nat → Nat → Nat → Nat
  | 0, r, _, _ => r
  | k + 1, r, b, e => if e = 0 then r else mp k (if e % 2 = 1 then r * b % GN else r) (b * b % GN) (e / 2)
theorem mp_spec : ∀ (k r b e : Nat), e < 2 ^ k → r < GN → mp k r b e = r * b ^ e % GN
  | 0, r, b, e, he, hr => by
    have e0 : e = 0 := by simp at he; omega
    subst e0
    show r = r * 1 % GN
    rw [Nat.mul_one, Nat.mod_eq_of_lt hr]
  | k + 1, r, b, e, he, hr => by
    unfold mp
    by_cases e0 : e = 0
    · subst e0
      rw [if_pos rfl, Nat.pow_zero, Nat.mul_one, Nat.mod_eq_of_lt hr]
    · rw [if_neg e0]
      have hg : 0 < GN := by decide
      have hq : e / 2 < 2 ^ k := by
        rw [Nat.pow_succ] at he
        omega
      have hr' : (if e % 2 = 1 then r * b % GN else r) < GN := by
        split
        · exact Nat.mod_lt _ hg
        · exact hr
      rw [mp_spec k _ _ _ hq hr']
      have hb : ∀ x : Nat, x * (b * b % GN) ^ (e / 2) % GN = x * (b * b) ^ (e / 2) % GN := fun x => by
        rw [Nat.mul_mod, ← Nat.pow_mod, ← Nat.mul_mod]
      rw [hb, ← Nat.pow_two, ← Nat.pow_mul]
      by_cases o : e % 2 = 1
      · rw [if_pos o]
        have e2 : e = 2 * (e / 2) + 1 := by omega
        have : r * b ^ e = r * b * b ^ (2 * (e / 2)) := by
          conv => lhs; rw [e2]
          rw [Nat.pow_succ, Nat.mul_comm (b ^ _) b, Nat.mul_assoc]
        rw [this, Nat.mul_mod, Nat.mod_mod, ← Nat.mul_mod]
      · rw [if_neg o]
        have e2 : 2 * (e / 2) = e := by omega
        rw [e2]
theorem mp_half : mp 130 1 43 HG = GN - 1 := by decide +kernel
theorem mp_lt (k b e : Nat) (he : e < 2 ^ k) : mp k 1 b e < GN := by
  rw [mp_spec k 1 b e he (by decide)]
  exact Nat.mod_lt _ (by decide)
/-- an odd power of 43 is no square -/
theorem mp_odd (m : Nat) (hm : 2 * m + 1 < 2 ^ 130) : mp 130 1 (mp 130 1 43 (2 * m + 1)) HG = GN - 1 := by
  have hh : HG < 2 ^ 130 := by decide
  rw [mp_spec 130 1 _ HG hh (by decide), mp_spec 130 1 43 (2 * m + 1) hm (by decide), Nat.one_mul, Nat.one_mul, ← Nat.pow_mod, ← Nat.pow_mul, Nat.mul_comm, Nat.pow_mul]
  have h1 : 43 ^ HG % GN = GN - 1 := by
    have h := mp_half
    rw [mp_spec 130 1 43 HG hh (by decide), Nat.one_mul] at h
    exact h
  rw [Nat.pow_mod, h1]
  have h2 : (GN - 1) ^ 2 % GN = 1 := by decide +kernel
  rw [Nat.pow_succ, Nat.pow_mul, Nat.mul_mod, Nat.pow_mod ((GN - 1) ^ 2), h2, Nat.one_pow]
  decide +kernel
/-- the public key of 16 bytes -/
def pubExp (xs : List Int) : Nat := 2 * ((fromLittle xs).toNat % 2 ^ 124) + 3
def pubNum (xs : List Int) : Nat := mp 130 1 43 (pubExp xs)
def pubKey (xs : List Int) : List Int := little 16 (pubNum xs : Int)
theorem pubExp_lt (xs : List Int) : pubExp xs < 2 ^ 130 := by
  unfold pubExp
  have := Nat.mod_lt (fromLittle xs).toNat (show 0 < 2 ^ 124 by decide)
  have e : (2 : Nat) ^ 130 = 64 * 2 ^ 124 := by decide
  omega
theorem pubNum_lt (xs : List Int) : pubNum xs < GN := mp_lt 130 43 _ (pubExp_lt xs)
theorem pubNum_weak (xs : List Int) : mp 130 1 (pubNum xs) HG = GN - 1 := by
  have e : pubExp xs = 2 * ((fromLittle xs).toNat % 2 ^ 124 + 1) + 1 := by
    unfold pubExp
    omega
  have h := pubExp_lt xs
  unfold pubNum
  rw [e] at h ⊢
  exact mp_odd _ h
theorem GN_lt : (GN : Int) < 256 ^ 16 := by decide
theorem pub_len (xs : List Int) : (pubKey xs).length = 16 := little_len _ _
theorem pub_byt (xs : List Int) : Byt (pubKey xs) := little_byt _ _
theorem pub_from (xs : List Int) : fromLittle (pubKey xs) = (pubNum xs : Int) := by
  show fromBig (big 16 (pubNum xs : Int)) = _
  have := pubNum_lt xs
  have := GN_lt
  exact fromBig_big 16 _ (by omega) (by omega)
end Hush
set_option Elab.async false
set_option linter.all false
set_option maxRecDepth 100000
set_option maxHeartbeats 4000000
/-! The small suite. -/
namespace Hush
open PySem PySem.Spec PyProof.Rows L2
abbrev CS (K : PySem.W.Frag) : Addr := He.ga K "SmallSuite"
abbrev suN : List Str := ["name", "key_size", "tag_size", "digest_size", "block_size"]
def suF : List (Str × V) := fz suN [.str "127_Mix_Mix", .int 16, .int 8, .int 16, .int 16]
def SuiteAt (K : PySem.W.Frag) (H : Hp) (u : Addr) : Prop := ∃ dx, H u = some (.ins (CS K) dx suF)
theorem SuiteAt.same {K : PySem.W.Frag} {H H' : Hp} {u : Addr} (s : SuiteAt K H u) (e : Same H H') : SuiteAt K H' u := by
  obtain ⟨dx, h⟩ := s
  exact ⟨dx, e _ _ h⟩
theorem suF_key : suF.lookup ("key_size" : Str) = some (.int 16) := fz_get (i := 1) (by decide +kernel) rfl
theorem suF_no {x : Str} (h : ixOf x suN = none) : suF.lookup x = none := fz_no h
def spPower : Sp := fun vs H Q _ => ∃ (b e : Nat), vs = [.int b, .int e] ∧ b < GN ∧ e < 2 ^ 130 ∧ Q (.int (mp 130 1 b e : Nat)) H
def spExponent (K : PySem.W.Frag) : Sp := fun vs H Q _ => ∃ (a : Addr) (xs : List Int), vs = [.ref a] ∧ SqL K H a (il xs) ∧ Byt xs ∧ RetV (.int (pubExp xs : Nat)) H Q
def spCheckKey (K : PySem.W.Frag) : Sp := fun vs H Q _ => ∃ (u a : Addr) (xs : List V), vs = [.ref u, .ref a] ∧ SuiteAt K H u ∧ SqL K H a xs ∧ xs.length = 16 ∧ Q .non H
def spSuiteInit (K : PySem.W.Frag) : Sp := fun vs H Q _ => ∃ (p dx : Addr), vs = [.ref p] ∧ H p = some (.ins (CS K) dx []) ∧ Q .non (upd H p (.ins (CS K) dx suF))
def spPublic (K : PySem.W.Frag) : Sp := fun vs H Q _ => ∃ (u a : Addr) (xs : List Int), vs = [.ref u, .ref a] ∧ SuiteAt K H u ∧ SqL K H a (il xs) ∧ Byt xs ∧ xs.length = 16 ∧ RetL (il (pubKey xs)) H Q
def spIsWeak (K : PySem.W.Frag) : Sp := fun vs H Q _ => ∃ (u a : Addr) (xs : List Int), vs = [.ref u, .ref a] ∧ SuiteAt K H u ∧ SqL K H a (il (pubKey xs)) ∧ RetV (.bl false) H Q
section
variable {P : Program} {w : World} {K : PySem.W.Frag} {mg : Str → Option Value} {base : Heap}
theorem sc_power : FnScope ["base", "exponent", "result"] ["base", "exponent"] (defScope s_small_power) := ⟨rfl, rfl, rfl, by decide +kernel, rfl, by decide +kernel, by decide +kernel⟩
theorem ok_power (T : Txt K mg) : Df P w K mg base 1 ("small_power", none) ["base", "exponent"] spPower := by
  refine df_nox T.F_small_power sc_power (fun _ _ _ _ _ _ us hl => match us, hl with | [_, _], _ => rfl) (fun vs H Q E h => ?_) (fun cdv A outer s H vs Q E hr h => ?_)
  · obtain ⟨b, e, rfl, _⟩ := h
    rfl
  · obtain ⟨b, e, rfl, hb, he, q⟩ := h
    have nd := sc_power.nd
    refine ⟨_, pss_cons (ps_set (i := 2) nd rfl (Or.inl rfl) pe_int)
      (pss_cons (ps_set (i := 0) nd rfl (Or.inl rfl) (pe_op op_mod (pv 0) (gI T.i_GROUP)))
      (pss_cons (ps_while PassesOwn.never (pt_cmpR op_gt (pv 1) pe_int (nomark _))
        (pss_cons (ps_if (pt_cmpR op_eq (pe_op op_and (pv 1) pe_int) pe_int (nomark _)) (pss_one (ps_set (i := 2) nd rfl (Or.inl rfl) (pe_op op_mod (pe_op op_mulW (pv 2) (pv 0)) (gI T.i_GROUP)))) pss_nil)
        (pss_cons (ps_set (i := 0) nd rfl (Or.inl rfl) (pe_op op_mod (pe_op op_mulW (pv 0) (pv 0)) (gI T.i_GROUP)))
        (pss_one (ps_set (i := 1) nd rfl (Or.inl rfl) (pe_op op_shr (pv 1) pe_int))))))
      (pss_one (ps_ret (pv 2))))), ?_⟩
    have hgp : (0 : Int) < 170141183460469231731687303715884105727 := by decide
    have hgN : (GN : Int) = 170141183460469231731687303715884105727 := rfl
    have small : ∀ x : Nat, x < GN → (x : Int).natAbs < 2 ^ 127 := fun x hx => by
      have : GN < 2 ^ 127 := by decide
      rw [Int.natAbs_natCast]
      omega
    have hmm : ∀ x y : Nat, (x : Int) * (y : Int) % 170141183460469231731687303715884105727 = ((x * y % GN : Nat) : Int) := fun x y => by
      rw [Int.natCast_emod, Int.natCast_mul]
      rfl
    refine ⟨_, rfl, _, _, rfl, rfl, hgp, ?_⟩
    refine ⟨fun m σ H' => ∃ k r b' e' : Nat, e' = m ∧ σ = [some (.int b'), some (.int e'), some (.int r)] ∧ e' < 2 ^ k ∧ r < GN ∧ b' < GN ∧ mp k r b' e' = mp 130 1 b e ∧ H' = H, ⟨e, 130, 1, b, e, rfl, ?_, he, by decide, hb, rfl, rfl⟩, ?_⟩
    · have : (b : Int) % 170141183460469231731687303715884105727 = (b : Int) := Int.emod_eq_of_lt (by omega) (by rw [← hgN]; omega)
      show [some (V.int ((b : Int) % 170141183460469231731687303715884105727)), some (.int e), some (.int 1)] = _
      rw [this]
      rfl
    rintro m σ H1 ⟨k, r, b', e', rfl, rfl, hk, hr', hb', hm, rfl⟩
    refine ⟨_, rfl, _, _, rfl, rfl, _, rfl, dec2 (fun c => ?_) (fun c => ?_)⟩
    · cases k with
      | zero =>
        have : e' = 0 := by simp at hk; omega
        exact absurd c (by omega)
      | succ k =>
        have e0 : e' ≠ 0 := by omega
        have hk2 : e' / 2 < 2 ^ k := by
          rw [Nat.pow_succ] at hk
          omega
        unfold mp at hm
        rw [if_neg e0] at hm
        have hg : 0 < GN := by decide
        refine ⟨fun σ' H' => ∃ r : Nat, σ' = [some (.int ((b' * b' % GN : Nat) : Int)), some (.int ((e' / 2 : Nat) : Int)), some (.int r)] ∧ r < GN ∧ mp k r (b' * b' % GN) (e' / 2) = mp 130 1 b e ∧ H' = H1, ?_, ?_⟩
        · rintro σ' H' ⟨r2, rfl, h1, h2, rfl⟩
          exact ⟨e' / 2, by omega, k, r2, _, _, rfl, rfl, hk2, h1, Nat.mod_lt _ hg, h2, rfl⟩
        · have hand : Builtin.bitAnd (e' : Int) 1 = ((e' % 2 : Nat) : Int) := by
            have := Bits.bitAnd_mask (x := (e' : Int)) 1 (by omega)
            rw [Int.natCast_emod]
            exact this
          have hshr : (e' : Int) / 2 ^ (1 : Int).toNat = ((e' / 2 : Nat) : Int) := by
            rw [Int.natCast_ediv]
            rfl
          refine ⟨_, rfl, _, _, rfl, rfl, rfl, _, rfl, ?_⟩
          show if decide (V.int (Builtin.bitAnd (e' : Int) 1) = V.int 1) = true then _ else _
          rw [hand]
          refine eq_int (fun o => ?_) (fun o => ?_)
          · have o' : e' % 2 = 1 := by omega
            rw [if_pos o'] at hm
            refine ⟨_, rfl, _, rfl, _, _, rfl, rfl, wide_mul (small r hr') (small b' hb') (by decide) (by decide) (by decide), _, _, rfl, rfl, hgp, ?_⟩
            refine ⟨_, rfl, _, rfl, _, _, rfl, rfl, wide_mul (small b' hb') (small b' hb') (by decide) (by decide) (by decide), _, _, rfl, rfl, hgp, ?_⟩
            refine ⟨_, rfl, _, _, rfl, rfl, by show (0 : Int) ≤ 1; decide, r * b' % GN, ?_, Nat.mod_lt _ hg, hm, rfl⟩
            show [some (V.int ((b' : Int) * (b' : Int) % 170141183460469231731687303715884105727)), some (V.int ((e' : Int) / 2 ^ (1 : Int).toNat)), some (V.int ((r : Int) * (b' : Int) % 170141183460469231731687303715884105727))] = _
            rw [hmm, hmm, hshr]
          · have o' : ¬ e' % 2 = 1 := by omega
            rw [if_neg o'] at hm
            refine ⟨_, rfl, _, rfl, _, _, rfl, rfl, wide_mul (small b' hb') (small b' hb') (by decide) (by decide) (by decide), _, _, rfl, rfl, hgp, ?_⟩
            refine ⟨_, rfl, _, _, rfl, rfl, by show (0 : Int) ≤ 1; decide, r, ?_, hr', hm, rfl⟩
            show [some (V.int ((b' : Int) * (b' : Int) % 170141183460469231731687303715884105727)), some (V.int ((e' : Int) / 2 ^ (1 : Int).toNat)), some (V.int r)] = _
            rw [hmm, hshr]
    · have e0 : e' = 0 := by omega
      subst e0
      have hz : mp k r b' 0 = r := by
        cases k with
        | zero => rfl
        | succ k =>
          unfold mp
          rw [if_pos rfl]
      rw [hz] at hm
      rw [← hm] at q
      exact ⟨_, rfl, q⟩
theorem sc_exponent : FnScope ["secret"] ["secret"] (defScope s_small_exponent) := ⟨rfl, rfl, rfl, by decide +kernel, rfl, by decide +kernel, by decide +kernel⟩
theorem ok_exponent (T : Txt K mg) : Df P w K mg base 3 ("small_exponent", none) ["secret"] (spExponent K) := by
  refine df_nox T.F_small_exponent sc_exponent (fun _ _ _ _ _ _ us hl => match us, hl with | [_], _ => rfl) (fun vs H Q E h => ?_) (fun cdv A outer s H vs Q E hr h => ?_)
  · obtain ⟨a, xs, rfl, _⟩ := h
    rfl
  · obtain ⟨a, xs, rfl, hS, hb, q⟩ := h
    refine ⟨_, pss_one (ps_ret (pe_op op_add (pe_op op_mul pe_int (pe_op op_mod (eCall (ok_from_little T) hr (by decide) T.g_from_little (pa_cons (pv 0) pa_nil)) (pe_op op_shl pe_int (gI T.i_SECRET_BITS)))) pe_int)), ?_⟩
    refine ⟨_, rfl, a, xs, rfl, hS, hb, fun H1 e1 => ?_⟩
    refine ⟨_, _, rfl, rfl, ⟨by decide, by decide, by decide⟩, _, _, rfl, rfl, (by show (0 : Int) < 1 * 2 ^ (124 : Int).toNat; decide), ?_⟩
    refine ⟨_, _, rfl, rfl, .inl ⟨by decide, by decide⟩, _, _, rfl, rfl, ?_⟩
    have hn := (fromBig_nonneg hb.reverse).1
    have e : (2 : Int) * (fromLittle xs % (1 * 2 ^ (124 : Int).toNat)) + 3 = ((pubExp xs : Nat) : Int) := by
      unfold pubExp
      have e1 : fromLittle xs = ((fromLittle xs).toNat : Int) := (Int.toNat_of_nonneg hn).symm
      have e2 : (1 : Int) * 2 ^ (124 : Int).toNat = ((2 ^ 124 : Nat) : Int) := by decide
      rw [e2]
      conv => lhs; rw [e1]
      rw [← Int.natCast_emod]
      omega
    show Q (.int ((2 : Int) * (fromLittle xs % (1 * 2 ^ (124 : Int).toNat)) + 3)) H1
    rw [e]
    exact q H1 e1
theorem sc_check_key : FnScope ["suite", "key"] ["suite", "key"] (defScope s_check_key) := ⟨rfl, rfl, rfl, by decide +kernel, rfl, by decide +kernel, by decide +kernel⟩
theorem ok_check_key (T : Txt K mg) : Df P w K mg base 1 ("check_key", none) ["suite", "key"] (spCheckKey K) := by
  refine df_nox T.F_check_key sc_check_key (fun _ _ _ _ _ _ us hl => match us, hl with | [_, _], _ => rfl) (fun vs H Q E h => ?_) (fun cdv A outer s H vs Q E hr h => ?_)
  · obtain ⟨u, a, xs, rfl, _⟩ := h
    rfl
  · obtain ⟨u, a, xs, rfl, ⟨dx, hs⟩, hS, hl, q⟩ := h
    refine ⟨_, pss_one (ps_if (pt_cmpR op_ne (eLen T.z_len (pv 1)) (pe_fld (pv 0) rfl) (nomark _)) pss_never pss_nil), ?_⟩
    refine ⟨_, rfl, a, _, rfl, .inl hS, _, rfl, aF hs T.c_SmallSuite T.n_SmallSuite_key_size suF_key ⟨rfl, _, rfl, ne_int (fun c => absurd (by rw [hl]; rfl) c) (fun _ => q)⟩⟩
theorem sc_sinit : FnScope ["self"] ["self"] (defScope s_SmallSuite_init) := ⟨rfl, rfl, rfl, by decide +kernel, rfl, by decide +kernel, by decide +kernel⟩
theorem ok_sinit (T : Txt K mg) : Df P w K mg base 1 ("SmallSuite", some "__init__") ["self"] (spSuiteInit K) := by
  refine df_nox T.F_SmallSuite_init sc_sinit (fun _ _ _ _ _ _ us hl => match us, hl with | [_], _ => rfl) (fun vs H Q E h => ?_) (fun cdv A outer s H vs Q E hr h => ?_)
  · obtain ⟨p, dx, rfl, _⟩ := h
    rfl
  · obtain ⟨p, dx, rfl, hp, q⟩ := h
    refine ⟨_, pss_cons (ps_fld (pv 0) pe_str rfl) (pss_cons (ps_fld (pv 0) pe_int rfl) (pss_cons (ps_fld (pv 0) pe_int rfl) (pss_cons (ps_fld (pv 0) pe_int rfl) (pss_one (ps_fld (pv 0) pe_int rfl))))), ?_⟩
    refine ⟨_, rfl, aW hp T.c_SmallSuite T.n_SmallSuite_name (by show 0 < 1000; decide) ?_⟩
    refine ⟨_, rfl, aW upd_same T.c_SmallSuite T.n_SmallSuite_key_size (by show 1 < 1000; decide) ?_⟩
    refine ⟨_, rfl, aW upd_same T.c_SmallSuite T.n_SmallSuite_tag_size (by show 2 < 1000; decide) ?_⟩
    refine ⟨_, rfl, aW upd_same T.c_SmallSuite T.n_SmallSuite_digest_size (by show 3 < 1000; decide) ?_⟩
    refine ⟨_, rfl, aW upd_same T.c_SmallSuite T.n_SmallSuite_block_size (by show 4 < 1000; decide) ?_⟩
    rw [upd_upd, upd_upd, upd_upd, upd_upd]
    exact q
theorem sc_public : FnScope ["self", "secret"] ["self", "secret"] (defScope s_SmallSuite_public) := ⟨rfl, rfl, rfl, by decide +kernel, rfl, by decide +kernel, by decide +kernel⟩
theorem ok_public (T : Txt K mg) : Df P w K mg base 4 ("SmallSuite", some "public") ["self", "secret"] (spPublic K) := by
  refine df_nox T.F_SmallSuite_public sc_public (fun _ _ _ _ _ _ us hl => match us, hl with | [_, _], _ => rfl) (fun vs H Q E h => ?_) (fun cdv A outer s H vs Q E hr h => ?_)
  · obtain ⟨u, a, xs, rfl, _⟩ := h
    rfl
  · obtain ⟨u, a, xs, rfl, hs, hS, hb, hl, q⟩ := h
    refine ⟨_, pss_cons (ps_expr (eCall (ok_check_key T) hr (by decide) T.g_check_key (pa_cons (pv 0) (pa_cons (pv 1) pa_nil))))
      (pss_one (ps_ret (eCall (ok_to_little T) hr (by decide) T.g_to_little (pa_cons (eCall (ok_power T) hr (by decide) T.g_small_power (pa_cons (gI T.i_BASE) (pa_cons (eCall (ok_exponent T) hr (by decide) T.g_small_exponent (pa_cons (pv 1) pa_nil)) pa_nil))) (pa_cons pe_int pa_nil))))), ?_⟩
    refine ⟨_, rfl, _, rfl, u, a, _, rfl, hs, hS, by rw [il_len]; exact hl, ?_⟩
    refine ⟨_, rfl, a, xs, rfl, hS, hb, fun H1 e1 => ?_⟩
    refine ⟨43, pubExp xs, rfl, by decide, pubExp_lt xs, ?_⟩
    have h1 := pubNum_lt xs
    have h2 := GN_lt
    refine ⟨(pubNum xs : Int), 16, rfl, by omega, by omega, by decide, fun p H2 hp e2 g => ?_⟩
    exact q p H2 (e1.free hp) (e1.trans e2) g
theorem sc_is_weak : FnScope ["self", "public", "number"] ["self", "public"] (defScope s_SmallSuite_is_weak) := ⟨rfl, rfl, rfl, by decide +kernel, rfl, by decide +kernel, by decide +kernel⟩
theorem ok_is_weak (T : Txt K mg) : Df P w K mg base 3 ("SmallSuite", some "is_weak") ["self", "public"] (spIsWeak K) := by
  refine df_nox T.F_SmallSuite_is_weak sc_is_weak (fun _ _ _ _ _ _ us hl => match us, hl with | [_, _], _ => rfl) (fun vs H Q E h => ?_) (fun cdv A outer s H vs Q E hr h => ?_)
  · obtain ⟨u, a, xs, rfl, _⟩ := h
    rfl
  · obtain ⟨u, a, xs, rfl, hs, hS, q⟩ := h
    have nd := sc_is_weak.nd
    refine ⟨_, pss_cons (ps_expr (eCall (ok_check_key T) hr (by decide) T.g_check_key (pa_cons (pv 0) (pa_cons (pv 1) pa_nil))))
      (pss_cons (ps_set (i := 2) nd rfl (Or.inl rfl) (eCall (ok_from_little T) hr (by decide) T.g_from_little (pa_cons (pv 1) pa_nil)))
      (pss_one (ps_ret (pe_or (pe_cmpR op_ge (pv 2) (gI T.i_GROUP) (nomark _)) (pe_one (pe_cmpR op_ne (eCall (ok_power T) hr (by decide) T.g_small_power (pa_cons (pv 2) (pa_cons (gI T.i_HALF_GROUP) pa_nil))) (pe_op op_sub (gI T.i_GROUP) pe_int) (nomark _))))))), ?_⟩
    have h1 := pubNum_lt xs
    refine ⟨_, rfl, _, rfl, u, a, _, rfl, hs, hS, by rw [il_len]; exact pub_len xs, ?_⟩
    refine ⟨_, rfl, a, _, rfl, hS, pub_byt xs, fun H1 e1 => ?_⟩
    rw [pub_from]
    refine ⟨_, rfl, _, _, rfl, rfl, _, rfl, dec2 (fun c => ?_) (fun _ => ?_)⟩
    · have : (GN : Int) = 170141183460469231731687303715884105727 := rfl
      exact absurd c (by omega)
    · refine ⟨_, rfl, pubNum xs, HG, rfl, h1, by decide, _, _, rfl, rfl, rfl, ?_⟩
      rw [pubNum_weak]
      show Q (.bl (!decide (V.int ((GN - 1 : Nat) : Int) = V.int (170141183460469231731687303715884105727 - 1)))) H1
      have e : ((GN - 1 : Nat) : Int) = 170141183460469231731687303715884105727 - 1 := by decide
      rw [e, decide_eq_true rfl]
      exact q H1 e1
end
end Hush
set_option Elab.async false
set_option linter.all false
set_option maxRecDepth 100000
set_option maxHeartbeats 4000000
/-! Data that is compared as a whole. -/
namespace Hush
open PySem PySem.Spec PyProof.Rows L2
def pdL (xs : List Int) : PyData := .list (xs.map .int)
def pdR (r : Int × List Int) : PyData := .tuple [.int r.1, pdL r.2]
def pdN (r : Str × List Int) : PyData := .tuple [.str r.1, pdL r.2]
theorem dpAll_il {K : PySem.W.Frag} {H : Hp} : ∀ xs : List Int, DpAll K H (il xs) (xs.map .int)
  | [] => .nil
  | x :: xs => .cons (.int x) (dpAll_il xs)
theorem dp_L {K : PySem.W.Frag} {H : Hp} {a : Addr} {xs : List Int} (h : SqL K H a (il xs)) : Dp K H (.ref a) (pdL xs) := .lst h (dpAll_il xs)
theorem eqvAll_int : ∀ xs ys : List Int, PyData.eqvAll (xs.map .int) (ys.map .int) = decide (xs = ys)
  | [], [] => by simp [PyData.eqvAll]
  | [], _ :: _ => by simp [PyData.eqvAll]
  | _ :: _, [] => by simp [PyData.eqvAll]
  | x :: xs, y :: ys => by
    have ih := eqvAll_int xs ys
    simp only [List.map_cons, PyData.eqvAll, PyData.eqv, ih]
    by_cases h : x = y
    · subst h
      simp
    · simp [h]
theorem eqv_L (xs ys : List Int) : PyData.eqv (pdL xs) (pdL ys) = decide (xs = ys) := by
  unfold pdL
  simp only [PyData.eqv]
  exact eqvAll_int xs ys
theorem eqv_LN (xs : List Int) : PyData.eqv .none (pdL xs) = false := by
  unfold pdL
  simp only [PyData.eqv]
theorem eqv_R (r s : Int × List Int) : PyData.eqv (pdR r) (pdR s) = decide (r = s) := by
  unfold pdR
  simp only [PyData.eqv, PyData.eqvAll, eqv_L, Bool.and_true]
  obtain ⟨a, b⟩ := r
  obtain ⟨c, d⟩ := s
  by_cases h1 : a = c <;> by_cases h2 : b = d <;> simp [h1, h2]
theorem eqv_N (r s : Str × List Int) : PyData.eqv (pdN r) (pdN s) = decide (r = s) := by
  unfold pdN
  simp only [PyData.eqv, PyData.eqvAll, eqv_L, Bool.and_true]
  obtain ⟨a, b⟩ := r
  obtain ⟨c, d⟩ := s
  by_cases h1 : a = c <;> by_cases h2 : b = d <;> simp [h1, h2]
theorem eqvAll_N : ∀ xs ys : List (Str × List Int), PyData.eqvAll (xs.map pdN) (ys.map pdN) = decide (xs = ys)
  | [], [] => by simp [PyData.eqvAll]
  | [], _ :: _ => by simp [PyData.eqvAll]
  | _ :: _, [] => by simp [PyData.eqvAll]
  | x :: xs, y :: ys => by
    have ih := eqvAll_N xs ys
    simp only [List.map_cons, PyData.eqvAll, eqv_N, ih]
    by_cases h : x = y
    · subst h
      simp
    · simp [h]
theorem eqv_Ns (xs ys : List (Str × List Int)) : PyData.eqv (.list (xs.map pdN)) (.list (ys.map pdN)) = decide (xs = ys) := by
  simp only [PyData.eqv]
  exact eqvAll_N xs ys
theorem can_int : ∀ xs : List Int, PyData.canLayAll0 (xs.map .int) = true
  | [] => by simp [PyData.canLayAll0]
  | x :: xs => by simp [PyData.canLayAll0, PyData.canLay0, can_int xs]
theorem depth_int : ∀ xs : List Int, PyData.depthAll (xs.map .int) = 0
  | [] => by simp [PyData.depthAll]
  | x :: xs => by simp [PyData.depthAll, PyData.depth, depth_int xs]
theorem can_L (xs : List Int) : PyData.canLay0 (pdL xs) = true := by
  unfold pdL
  simp only [PyData.canLay0, can_int]
theorem depth_L (xs : List Int) : PyData.depth (pdL xs) = 1 := by
  unfold pdL
  simp only [PyData.depth, depth_int]
theorem shaped_L (xs : List Int) : SeqAt.shaped (pdL xs) = true := by
  unfold SeqAt.shaped
  rw [can_L, depth_L]
  decide
theorem shaped_none : SeqAt.shaped PyData.none = true := by
  unfold SeqAt.shaped
  simp [PyData.canLay0, PyData.depth]
theorem shaped_R (r : Int × List Int) : SeqAt.shaped (pdR r) = true := by
  unfold SeqAt.shaped pdR
  simp [PyData.canLay0, PyData.canLayAll0, PyData.depth, PyData.depthAll, can_L, depth_L]
theorem can_R (r : Int × List Int) : PyData.canLay0 (pdR r) = true := by
  unfold pdR
  simp [PyData.canLay0, PyData.canLayAll0, can_L]
theorem depth_R (r : Int × List Int) : PyData.depth (pdR r) = 2 := by
  unfold pdR
  simp [PyData.depth, PyData.depthAll, depth_L]
theorem can_Rs : ∀ rs : List (Int × List Int), PyData.canLayAll0 (rs.map pdR) = true
  | [] => by simp [PyData.canLayAll0]
  | r :: rs => by simp [PyData.canLayAll0, can_R, can_Rs rs]
theorem depth_Rs : ∀ rs : List (Int × List Int), PyData.depthAll (rs.map pdR) ≤ 2
  | [] => by simp [PyData.depthAll]
  | r :: rs => by
    have := depth_Rs rs
    simp only [List.map_cons, PyData.depthAll, depth_R]
    omega
theorem shaped_Rs (rs : List (Int × List Int)) : SeqAt.shaped (.list (rs.map pdR)) = true := by
  unfold SeqAt.shaped
  have := depth_Rs rs
  rw [show PyData.canLay0 (.list (rs.map pdR)) = true from by simp only [PyData.canLay0, can_Rs], Bool.true_and]
  refine decide_eq_true ?_
  show PyData.depth (.list (rs.map pdR)) ≤ 64
  simp only [PyData.depth]
  omega
theorem dp_Rs {K : PySem.W.Frag} {H : Hp} {l : Addr} {ts : List V} {rs : List (Int × List Int)} (hl : H l = some (.lst ts)) (h : RecsAt H ts rs) : Dp K H (.ref l) (.list (rs.map pdR)) := by
  refine .lst (seq_at hl) ?_
  clear hl
  induction h with
  | nil => exact .nil
  | cons x _ ih =>
    obtain ⟨t, b, rfl, h1, h2⟩ := x
    exact .cons (.tup (seqT_at h1) (.cons (.int _) (.cons (dp_L (seq_at h2)) .nil))) ih
theorem any_R (rs : List (Int × List Int)) (r : Int × List Int) : (rs.map pdR).any (fun z => PyData.eqv z (pdR r)) = decide (r ∈ rs) := by
  induction rs with
  | nil => simp
  | cons x xs ih =>
    rw [List.map_cons, List.any_cons, ih, eqv_R]
    by_cases h : x = r
    · subst h
      simp
    · have h' : ¬ r = x := fun z => h z.symm
      simp [h, h']
theorem L4_strOk : ∀ z ∈ L4, PyData.strOk z = true := by decide +kernel
theorem can_N {r : Str × List Int} (h : r.1 ∈ L4) : PyData.canLay0 (pdN r) = true := by
  unfold pdN
  simp [PyData.canLay0, PyData.canLayAll0, can_L, L4_strOk _ h]
theorem depth_N (r : Str × List Int) : PyData.depth (pdN r) = 2 := by
  unfold pdN
  simp [PyData.depth, PyData.depthAll, depth_L]
theorem can_Ns : ∀ rs : List (Str × List Int), (∀ r ∈ rs, r.1 ∈ L4) → PyData.canLayAll0 (rs.map pdN) = true
  | [], _ => by simp [PyData.canLayAll0]
  | r :: rs, h => by simp [PyData.canLayAll0, can_N (h r List.mem_cons_self), can_Ns rs fun x hx => h x (List.mem_cons_of_mem _ hx)]
theorem depth_Ns : ∀ rs : List (Str × List Int), PyData.depthAll (rs.map pdN) ≤ 2
  | [] => by simp [PyData.depthAll]
  | r :: rs => by
    have := depth_Ns rs
    simp only [List.map_cons, PyData.depthAll, depth_N]
    omega
theorem shaped_Ns {rs : List (Str × List Int)} (h : ∀ r ∈ rs, r.1 ∈ L4) : SeqAt.shaped (.list (rs.map pdN)) = true := by
  unfold SeqAt.shaped
  have := depth_Ns rs
  rw [show PyData.canLay0 (.list (rs.map pdN)) = true from by simp only [PyData.canLay0, can_Ns rs h], Bool.true_and]
  refine decide_eq_true ?_
  show PyData.depth (.list (rs.map pdN)) ≤ 64
  simp only [PyData.depth]
  omega
/-- a list of pairs (name, key) -/
def NameAt (H : Hp) (v : V) (r : Str × List Int) : Prop := ∃ t b : Addr, v = .ref t ∧ H t = some (.tup [.str r.1, .ref b]) ∧ H b = some (.lst (il r.2))
abbrev NamesAt (H : Hp) (ts : List V) (rs : List (Str × List Int)) : Prop := Paired (NameAt H) ts rs
theorem NamesAt.same {H H' : Hp} {ts : List V} {rs : List (Str × List Int)} (x : NamesAt H ts rs) (e : Same H H') : NamesAt H' ts rs := Paired.mapP x fun _ _ ⟨t, b, h1, h2, h3⟩ => ⟨t, b, h1, e _ _ h2, e _ _ h3⟩
theorem dp_Ns {K : PySem.W.Frag} {H : Hp} {l : Addr} {ts : List V} {rs : List (Str × List Int)} (hl : H l = some (.lst ts)) (h : NamesAt H ts rs) : Dp K H (.ref l) (.list (rs.map pdN)) := by
  refine .lst (seq_at hl) ?_
  clear hl
  induction h with
  | nil => exact .nil
  | cons x _ ih =>
    obtain ⟨t, b, rfl, h1, h2⟩ := x
    exact .cons (.tup (seqT_at h1) (.cons (.str _) (.cons (dp_L (seq_at h2)) .nil))) ih
end Hush
set_option Elab.async false
set_option linter.all false
set_option maxRecDepth 100000
set_option maxHeartbeats 4000000
/-! store: begin_body, key_body, read_begin, read_key, bank_start, best_bank -/
namespace Hush
open PySem PySem.Spec PyProof.Rows L2
def beginBody (g : Int) (sd sc : List Int) : List Int := big 4 g ++ sd ++ [1] ++ sc
def keyBody (z : Str) (key : List Int) : List Int := [((nameCodes z).length : Int)] ++ nameCodes z ++ key
theorem beginBody_len (g : Int) (sd sc : List Int) : (beginBody g sd sc).length = 5 + sd.length + sc.length := by
  unfold beginBody
  rw [List.length_append, List.length_append, List.length_append, big_len]
  show 4 + sd.length + 1 + sc.length = _
  omega
theorem keyBody_len (z : Str) (key : List Int) : (keyBody z key).length = 1 + (nameCodes z).length + key.length := by
  unfold keyBody
  rw [List.length_append, List.length_append]
  rfl
theorem beginBody_byt {g : Int} {sd sc : List Int} (h1 : Byt sd) (h2 : Byt sc) : Byt (beginBody g sd sc) := (((big_byt 4 g).append h1).append (Byt.cons ⟨by decide, by decide⟩ Byt.nil)).append h2
theorem keyBody_byt {z : Str} {key : List Int} (hz : z ∈ L4) (h : Byt key) : Byt (keyBody z key) := by
  have := (L4_ok z hz).1.2
  have e := codes_len z
  exact ((Byt.cons ⟨by omega, by omega⟩ Byt.nil).append (codes_byt z hz)).append h
/-- what a bank holds: its records, what is behind them, and what a store finds there -/
structure Bk (xs : List Int) (o : Option (Int × List Int × List Int)) (rs : List (Int × List Int)) (tail : List Int) : Prop where
  eq : xs = encAll rs ++ tail
  ok : ∀ r ∈ rs, RecOk r
  byt : Byt tail
  no : recLen tail = 0
  st : match o with
    | none => rs = [] ∨ (2, []) ∉ rs
    | some (g, sd, sc) => (∃ rs', rs = (1, beginBody g sd sc) :: rs') ∧ (2, []) ∈ rs ∧ sd.length = 16 ∧ sc.length = 16 ∧ 0 ≤ g ∧ g < 256 ^ 4
def bestStep (acc : Int × Int) (b : Bool) (o : Option (Int × List Int × List Int)) : Int × Int := match o with
  | some (g, _, _) => if acc.2 < g then (bi b, g) else acc
  | none => acc
def bestOf (o : Bool → Option (Int × List Int × List Int)) : Int := (bestStep (bestStep (-1, -1) false (o false)) true (o true)).1
def spBeginBody (K : PySem.W.Frag) : Sp := fun vs H Q _ => ∃ (g : Int) (a b : Addr) (sd sc : List Int), vs = [.int g, .ref a, .ref b] ∧ 0 ≤ g ∧ g < 256 ^ 4 ∧ SqL K H a (il sd) ∧ SqL K H b (il sc) ∧ sd.length ≤ 1000 ∧ sc.length ≤ 1000 ∧ RetL (il (beginBody g sd sc)) H Q
def spKeyBody (K : PySem.W.Frag) : Sp := fun vs H Q _ => ∃ (z : Str) (a : Addr) (key : List Int), vs = [.str z, .ref a] ∧ z ∈ L4 ∧ SqL K H a (il key) ∧ key.length ≤ 1000 ∧ RetL (il (keyBody z key)) H Q
/-- a new triple of a generation, a seed, a secret -/
def RetB (g : Int) (sd sc : List Int) (H : Hp) (Q : VK) : Prop := ∀ (p s1 s2 : Addr) (H' : Hp), H p = none → H s1 = none → H s2 = none → Same H H' → H' p = some (.tup [.int g, .ref s1, .ref s2]) → H' s1 = some (.lst (il sd)) → H' s2 = some (.lst (il sc)) → Q (.ref p) H'
def spReadBegin (K : PySem.W.Frag) : Sp := fun vs H Q _ => ∃ (u b : Addr) (g : Int) (sd sc : List Int), vs = [.ref u, .ref b] ∧ SuiteAt K H u ∧ SqL K H b (il (beginBody g sd sc)) ∧ 0 ≤ g ∧ g < 256 ^ 4 ∧ sd.length = 16 ∧ sc.length = 16 ∧ RetB g sd sc H Q
def spReadKey (K : PySem.W.Frag) : Sp := fun vs H Q _ => ∃ (u b : Addr) (z : Str) (key : List Int), vs = [.ref u, .ref b] ∧ SuiteAt K H u ∧ SqL K H b (il (keyBody z key)) ∧ z ∈ L4 ∧ key.length = 16 ∧
  ∀ (p k : Addr) (H' : Hp), H p = none → H k = none → Same H H' → H' p = some (.tup [.str z, .ref k]) → H' k = some (.lst (il key)) → Q (.ref p) H'
def spBankStart (K : PySem.W.Frag) : Sp := fun vs H Q _ => ∃ (u : Addr) (a : DA) (D : Dk) (b : Bool) (o : Option (Int × List Int × List Int)) (rs : List (Int × List Int)) (tail : List Int), vs = [.ref u, .ref a.p, .int (bi b)] ∧ SuiteAt K H u ∧ DiskAt K H a D ∧
  Bk (D.s b ++ D.f b) o rs tail ∧ (D.s b ++ D.f b).length ≤ 200000 ∧ (match o with
    | none => RetV .non H Q
    | some (g, sd, sc) => RetB g sd sc H Q)
def spBestBank (K : PySem.W.Frag) : Sp := fun vs H Q _ => ∃ (u : Addr) (a : DA) (D : Dk) (o : Bool → Option (Int × List Int × List Int)) (rs : Bool → List (Int × List Int)) (tail : Bool → List Int), vs = [.ref u, .ref a.p] ∧ SuiteAt K H u ∧ DiskAt K H a D ∧
  (∀ b, Bk (D.s b ++ D.f b) (o b) (rs b) (tail b) ∧ (D.s b ++ D.f b).length ≤ 200000) ∧ RetV (.int (bestOf o)) H Q
section
variable {P : Program} {w : World} {K : PySem.W.Frag} {mg : Str → Option Value} {base : Heap}
theorem sc_begin_body : FnScope ["generation", "seed", "secret", "body"] ["generation", "seed", "secret"] (defScope s_begin_body) := ⟨rfl, rfl, rfl, by decide +kernel, rfl, by decide +kernel, by decide +kernel⟩
theorem ok_begin_body (T : Txt K mg) : Df P w K mg base 3 ("begin_body", none) ["generation", "seed", "secret"] (spBeginBody K) := by
  refine df_nox T.F_begin_body sc_begin_body (fun _ _ _ _ _ _ us hl => match us, hl with | [_, _, _], _ => rfl) (fun vs H Q E h => ?_) (fun cdv A outer s H vs Q E hr h => ?_)
  · obtain ⟨g, a, b, sd, sc, rfl, _⟩ := h
    rfl
  · obtain ⟨g, a, b, sd, sc, rfl, h0, h1, hA, hB, l1, l2, q⟩ := h
    have nd := sc_begin_body.nd
    refine ⟨_, pss_cons (ps_set (i := 3) nd rfl (Or.inl rfl) (pe_op op_cat (eCall (ok_to_big T) hr (by decide) T.g_to_big (pa_cons (pv 0) (pa_cons pe_int pa_nil))) (pe_callTy call_list_of rfl T.z_list boot_list (pa_cons (pv 1) pa_nil))))
      (pss_cons (ps_if (pt_cmpR op_isN (pv 2) pe_non (nomark _)) pss_never pss_nil)
      (pss_one (ps_ret (pe_op op_cat (pe_op op_cat (pv 3) (pe_lst (pa_cons pe_int pa_nil))) (pe_callTy call_list_of rfl T.z_list boot_list (pa_cons (pv 2) pa_nil)))))), ?_⟩
    refine ⟨_, rfl, g, 4, rfl, h0, h1, by decide, fun p1 H1 f1 e1 g1 => ?_⟩
    refine ⟨_, rfl, a, _, rfl, .inl (e1.seq hA), fun p2 h2 => ?_⟩
    have e2 := e1.nw (o := .lst (il sd)) h2
    have g12 : upd H1 p2 (.lst (il sd)) p1 = some (.lst (il (big 4 g))) := by
      rw [upd_ne (ne_of_none g1 h2)]
      exact g1
    refine ⟨p1, p2, _, _, rfl, rfl, g12, upd_same, by rw [il_len, il_len, big_len]; exact line_small (by omega), fun p3 h3 => ?_⟩
    have e3 := e2.nw (o := .lst (il (big 4 g) ++ il sd)) h3
    refine ⟨_, rfl, rfl, _, rfl, iteF ?_⟩
    refine ⟨_, rfl, by show 1 ≤ sizeLine; decide, fun p4 h4 => ?_⟩
    have e4 := e3.nw (o := .lst [.int 1]) h4
    refine ⟨p3, p4, _, _, rfl, rfl, by rw [upd_ne (ne_of_none upd_same h4)]; exact upd_same, upd_same, by rw [List.length_append, il_len, il_len, big_len]; exact line_small (by show 4 + sd.length + 1 ≤ _; omega), fun p5 h5 => ?_⟩
    have e5 := e4.nw (o := .lst ((il (big 4 g) ++ il sd) ++ [.int 1])) h5
    refine ⟨_, rfl, b, _, rfl, .inl (e5.seq hB), fun p6 h6 => ?_⟩
    have e6 := e5.nw (o := .lst (il sc)) h6
    refine ⟨p5, p6, _, _, rfl, rfl, by rw [upd_ne (ne_of_none upd_same h6)]; exact upd_same, upd_same, by rw [List.length_append, List.length_append, il_len, il_len, il_len, big_len]; exact line_small (by show 4 + sd.length + 1 + sc.length ≤ _; omega), fun p7 h7 => ?_⟩
    have gq := q.at e6 h7
    have e : il (beginBody g sd sc) = (il (big 4 g) ++ il sd) ++ [.int 1] ++ il sc := by
      unfold il beginBody
      rw [List.map_append, List.map_append, List.map_append]
      rfl
    rw [e] at gq
    exact gq
theorem sc_key_body : FnScope ["name", "key", "codes"] ["name", "key"] (defScope s_key_body) := ⟨rfl, rfl, rfl, by decide +kernel, rfl, by decide +kernel, by decide +kernel⟩
theorem ok_key_body (T : Txt K mg) : Df P w K mg base 3 ("key_body", none) ["name", "key"] (spKeyBody K) := by
  refine df_nox T.F_key_body sc_key_body (fun _ _ _ _ _ _ us hl => match us, hl with | [_, _], _ => rfl) (fun vs H Q E h => ?_) (fun cdv A outer s H vs Q E hr h => ?_)
  · obtain ⟨z, a, key, rfl, _⟩ := h
    rfl
  · obtain ⟨z, a, key, rfl, hz, hA, hl, q⟩ := h
    have nd := sc_key_body.nd
    have lz := (L4_ok z hz).1.2
    have ez := codes_len z
    refine ⟨_, pss_cons (ps_set (i := 2) nd rfl (Or.inl rfl) (eCall (ok_name_bytes T) hr (by decide) T.g_name_bytes (pa_cons (pv 0) pa_nil)))
      (pss_one (ps_ret (pe_op op_cat (pe_op op_cat (pe_lst (pa_cons (eLen T.z_len (pv 2)) pa_nil)) (pv 2)) (pe_callTy call_list_of rfl T.z_list boot_list (pa_cons (pv 1) pa_nil))))), ?_⟩
    refine ⟨_, rfl, z, rfl, hz, fun p1 H1 f1 e1 g1 => ?_⟩
    refine ⟨_, rfl, p1, _, rfl, .inl (seq_at g1), by show 1 ≤ sizeLine; decide, fun p2 h2 => ?_⟩
    have e2 := e1.nw (o := .lst [.int ((il (nameCodes z)).length : Int)]) h2
    have g12 : upd H1 p2 (.lst [.int ((il (nameCodes z)).length : Int)]) p1 = some (.lst (il (nameCodes z))) := by
      rw [upd_ne (ne_of_none g1 h2)]
      exact g1
    refine ⟨_, rfl, p2, p1, _, _, rfl, rfl, upd_same, g12, by rw [il_len]; exact line_small (by show 1 + _ ≤ _; omega), fun p3 h3 => ?_⟩
    have e3 := e2.nw (o := .lst ([.int ((il (nameCodes z)).length : Int)] ++ il (nameCodes z))) h3
    refine ⟨_, rfl, a, _, rfl, .inl (e3.seq hA), fun p4 h4 => ?_⟩
    have e4 := e3.nw (o := .lst (il key)) h4
    refine ⟨p3, p4, _, _, rfl, rfl, by rw [upd_ne (ne_of_none upd_same h4)]; exact upd_same, upd_same, by rw [List.length_append, il_len, il_len]; exact line_small (by show 1 + _ + _ ≤ _; omega), fun p5 h5 => ?_⟩
    have g := q.at e4 h5
    have e : il (keyBody z key) = ([.int ((il (nameCodes z)).length : Int)] ++ il (nameCodes z)) ++ il key := by
      rw [il_len]
      unfold il keyBody
      rw [List.map_append, List.map_append]
      rfl
    rw [e] at g
    exact g
theorem sc_read_begin : FnScope ["suite", "body", "size"] ["suite", "body"] (defScope s_read_begin) := ⟨rfl, rfl, rfl, by decide +kernel, rfl, by decide +kernel, by decide +kernel⟩
theorem ok_read_begin (T : Txt K mg) : Df P w K mg base 2 ("read_begin", none) ["suite", "body"] (spReadBegin K) := by
  refine df_nox T.F_read_begin sc_read_begin (fun _ _ _ _ _ _ us hl => match us, hl with | [_, _], _ => rfl) (fun vs H Q E h => ?_) (fun cdv A outer s H vs Q E hr h => ?_)
  · obtain ⟨u, b, g, sd, sc, rfl, _⟩ := h
    rfl
  · obtain ⟨u, b, g, sd, sc, rfl, ⟨dx, hu⟩, hB, h0, h1, l1, l2, q⟩ := h
    have nd := sc_read_begin.nd
    have len : (beginBody g sd sc).length = 37 := by rw [beginBody_len]; omega
    have b36 : (beginBody g sd sc).getD 20 0 = 1 := by
      unfold beginBody
      rw [List.append_assoc, List.getD_eq_getElem?_getD, List.getElem?_append_right (by rw [List.length_append, big_len]; omega)]
      have : 20 - (big 4 g ++ sd).length = 0 := by
        rw [List.length_append, big_len]
        omega
      rw [this]
      rfl
    have d4 : (beginBody g sd sc).take 4 = big 4 g := by
      unfold beginBody
      rw [List.append_assoc, List.append_assoc, List.take_append_of_le_length (by rw [big_len]; exact Nat.le_refl _), List.take_of_length_le (by rw [big_len]; exact Nat.le_refl _)]
    have d20 : ((beginBody g sd sc).drop 4).take 16 = sd := by
      unfold beginBody
      rw [List.append_assoc, List.append_assoc, List.drop_append_of_le_length (by rw [big_len]; exact Nat.le_refl _), List.drop_of_length_le (by rw [big_len]; exact Nat.le_refl _), List.nil_append, List.take_append_of_le_length (by omega), List.take_of_length_le (by omega)]
    have d21 : (beginBody g sd sc).drop 21 = sc := by
      unfold beginBody
      rw [List.drop_append_of_le_length (by rw [List.length_append, List.length_append, big_len]; show 21 ≤ 4 + sd.length + 1; omega), List.drop_of_length_le (by rw [List.length_append, List.length_append, big_len]; show 4 + sd.length + 1 ≤ 21; omega), List.nil_append]
    refine ⟨_, pss_cons (ps_set (i := 2) nd rfl (Or.inl rfl) (pe_fld (pv 0) rfl))
      (pss_cons (ps_if (PW.pt (pw_and (pt_cmpR op_eq (eLen T.z_len (pv 1)) (pe_op op_add pe_int (pv 2)) (nomark _)) (pw_and1 (pt_cmpR op_eq (pe_ix ix_list (pv 1) (pe_op op_add pe_int (pv 2)) (fun _ _ => rfl)) pe_int (nomark _))))) pss_never pss_nil)
      (pss_cons (ps_if (PW.pt (pw_and (pt_cmpR op_eq (eLen T.z_len (pv 1)) (pe_op op_add pe_int (pe_op op_mul pe_int (pv 2))) (nomark _)) (pw_and1 (pt_cmpR op_eq (pe_ix ix_list (pv 1) (pe_op op_add pe_int (pv 2)) (fun _ _ => rfl)) pe_int (nomark _)))))
        (pss_one (ps_ret (pe_tup (pa_cons (eCall (ok_from_big T) hr (by decide) T.g_from_big (pa_cons (pe_slice sl_list (pv 1) po_none (po_some pe_int)) pa_nil)) (pa_cons (pe_slice sl_list (pv 1) (po_some pe_int) (po_some (pe_op op_add pe_int (pv 2)))) (pa_cons (pe_slice sl_list (pv 1) (po_some (pe_op op_add pe_int (pv 2))) po_none) pa_nil)))))) pss_nil)
      (pss_one (ps_ret pe_non)))), ?_⟩
    refine ⟨_, rfl, aF hu T.c_SmallSuite T.n_SmallSuite_key_size suF_key ?_⟩
    refine ⟨_, rfl, b, _, rfl, .inl hB, _, rfl, _, _, rfl, rfl, rfl, _, rfl, ?_⟩
    refine eq_int (fun c => absurd c (by rw [il_len, len]; decide)) (fun _ => iteF ?_)
    refine ⟨_, rfl, b, _, rfl, .inl hB, _, rfl, _, _, rfl, rfl, .inl ⟨by decide, by decide⟩, _, _, rfl, rfl, rfl, _, rfl, ?_⟩
    refine eq_int (fun _ => ?_) (fun c => absurd (by rw [il_len, len]; decide) c)
    have ix : atI (il (beginBody g sd sc)) (4 + 16) = some (V.int 1) := by
      have := il_at (xs := beginBody g sd sc) (i := 20) (by omega)
      rw [b36] at this
      exact atI_nat this
    refine ⟨_, rfl, _, rfl, _, _, rfl, rfl, b, _, _, _, rfl, rfl, hB, ix, rfl, _, rfl, iteT ?_⟩
    -- (from_big(body[:4]), body[4:4 + size], body[5 + size:])
    refine ⟨_, rfl, _, rfl, b, _, rfl, hB, fun p1 f1 => ?_⟩
    refine ⟨p1, big 4 g, rfl, ?_, big_byt 4 g, fun H2 e2 => ?_⟩
    · refine seq_at ?_
      have c1 : cutV (il (beginBody g sd sc)) none (some 4) = il ((beginBody g sd sc).take 4) := cut_take (n := 4) (by omega)
      rw [upd_same, c1, d4]
    have e2' : Same H H2 := ((Same.refl H).nw f1).trans e2
    rw [fromBig_big 4 g h0 h1]
    refine ⟨_, rfl, _, rfl, _, rfl, _, _, rfl, rfl, _, rfl, b, _, rfl, e2'.seq hB, fun s1 f2 => ?_⟩
    have c2 : cutV (il (beginBody g sd sc)) (some 4) (some (4 + 16)) = il sd := by
      have := cut_nat (xs := beginBody g sd sc) (i := 4) (j := 20) (by omega) (by omega)
      rw [show 20 - 4 = 16 by rfl, d20] at this
      exact this
    have e3 := e2'.nw (o := .lst (il sd)) f2
    show _
    refine ⟨_, rfl, _, rfl, _, _, rfl, rfl, _, rfl, b, il (beginBody g sd sc), rfl, ((Same.refl H2).nw f2).seq (e2'.seq hB), fun s2 f3 => ?_⟩
    have c3 : cutV (il (beginBody g sd sc)) (some (5 + 16)) none = il sc := by
      have := cut_drop (xs := beginBody g sd sc) (n := 21) (by omega)
      rw [d21] at this
      exact this
    refine ⟨by show 3 ≤ sizeLine; decide, fun p f4 => ?_⟩
    have f3' : upd H2 s1 (.lst (cutV (il (beginBody g sd sc)) (some 4) (some (4 + 16)))) s2 = none := f3
    have f4' : upd (upd H2 s1 (.lst (cutV (il (beginBody g sd sc)) (some 4) (some (4 + 16))))) s2 (.lst (cutV (il (beginBody g sd sc)) (some (5 + 16)) none)) p = none := f4
    show Q (.ref p) (upd (upd (upd H2 s1 (.lst (cutV (il (beginBody g sd sc)) (some 4) (some (4 + 16))))) s2 (.lst (cutV (il (beginBody g sd sc)) (some (5 + 16)) none))) p (.tup [.int g, .ref s1, .ref s2]))
    rw [c2] at f3' f4' ⊢
    rw [c3] at f4' ⊢
    have e4 := e3.nw (o := .lst (il sc)) f3'
    have e5 := e4.nw (o := .tup [.int g, .ref s1, .ref s2]) f4'
    have n12 : s1 ≠ s2 := ne_of_none upd_same f3'
    have g1 : upd (upd H2 s1 (.lst (il sd))) s2 (.lst (il sc)) s1 = some (.lst (il sd)) := by rw [upd_ne n12]; exact upd_same
    refine q p s1 s2 _ (e4.free f4') (e2'.free f2) (e3.free f3') e5 upd_same ?_ ?_
    · rw [upd_ne (ne_of_none g1 f4')]
      exact g1
    · rw [upd_ne (ne_of_none upd_same f4')]
      exact upd_same
end
end Hush
set_option Elab.async false
set_option linter.all false
set_option maxRecDepth 100000
set_option maxHeartbeats 4000000
/-! store: read_key, bank_start, best_bank, prepare -/
namespace Hush
open PySem PySem.Spec PyProof.Rows L2
theorem hu65 {j : Nat} {A : Around} (hr : Room j A) : A.units + 65 < cLine := by
  have := hr.un
  omega
section
variable {P : Program} {w : World} {K : PySem.W.Frag} {mg : Str → Option Value} {base : Heap}
theorem sc_read_key : FnScope ["suite", "body", "name"] ["suite", "body"] (defScope s_read_key) := ⟨rfl, rfl, rfl, by decide +kernel, rfl, by decide +kernel, by decide +kernel⟩
theorem ok_read_key (T : Txt K mg) : Df P w K mg base 3 ("read_key", none) ["suite", "body"] (spReadKey K) := by
  refine df_nox T.F_read_key sc_read_key (fun _ _ _ _ _ _ us hl => match us, hl with | [_, _], _ => rfl) (fun vs H Q E h => ?_) (fun cdv A outer s H vs Q E hr h => ?_)
  · obtain ⟨u, b, z, key, rfl, _⟩ := h
    rfl
  · obtain ⟨u, b, z, key, rfl, ⟨dx, hu⟩, hB, hz, hk, q⟩ := h
    have nd := sc_read_key.nd
    have lz := (L4_ok z hz).1
    have ez := codes_len z
    have len := keyBody_len z key
    have b0 : (keyBody z key).getD 0 0 = ((nameCodes z).length : Int) := rfl
    have d1 : ((keyBody z key).drop 1).take (nameCodes z).length = nameCodes z := by
      unfold keyBody
      rw [List.append_assoc]
      show (nameCodes z ++ key).take _ = _
      rw [List.take_append_of_le_length (Nat.le_refl _), List.take_of_length_le (Nat.le_refl _)]
    have d2 : (keyBody z key).drop (1 + (nameCodes z).length) = key := by
      unfold keyBody
      rw [List.drop_append_of_le_length (by rw [List.length_append]; exact Nat.le_refl _), List.drop_of_length_le (by rw [List.length_append]; exact Nat.le_refl _), List.nil_append]
    refine ⟨_, pss_cons (ps_if (PW.pt (pw_or (pt_cmpR op_eq (eLen T.z_len (pv 1)) pe_int (nomark _)) (pw_or1 (pt_cmpR op_ne (eLen T.z_len (pv 1)) (pe_op op_add (pe_op op_add pe_int (pe_ix ix_list (pv 1) pe_int (fun _ _ => rfl))) (pe_fld (pv 0) rfl)) (nomark _))))) pss_never pss_nil)
      (pss_cons (ps_try_thru0 (pss_one (ps_set (i := 2) nd rfl (Or.inl rfl) (eCall (ok_bytes_name T) hr (by decide) T.g_bytes_name (pa_cons (pe_slice sl_list (pv 1) (po_some pe_int) (po_some (pe_op op_add pe_int (pe_ix ix_list (pv 1) pe_int (fun _ _ => rfl))))) pa_nil)))))
      (pss_one (ps_ret (pe_tup (pa_cons (pv 2) (pa_cons (pe_slice sl_list (pv 1) (po_some (pe_op op_add pe_int (pe_ix ix_list (pv 1) pe_int (fun _ _ => rfl)))) po_none) pa_nil)))))), ?_⟩
    have ix : atI (il (keyBody z key)) 0 = some (V.int ((nameCodes z).length : Int)) := by
      have := il_at (xs := keyBody z key) (i := 0) (by omega)
      rw [b0] at this
      exact atI_nat this
    refine ⟨_, rfl, b, _, rfl, .inl hB, rfl, _, rfl, ?_⟩
    refine eq_int (fun c => absurd c (by rw [il_len, len]; omega)) (fun _ => ?_)
    refine ⟨_, rfl, b, _, rfl, .inl hB, _, rfl, b, _, _, _, rfl, rfl, hB, ix, _, _, rfl, rfl, ?_⟩
    refine ⟨_, rfl, aF hu T.c_SmallSuite T.n_SmallSuite_key_size suF_key ⟨_, _, rfl, rfl, rfl, _, rfl, ?_⟩⟩
    refine ne_int (fun c => absurd (by rw [il_len, len]; omega) c) (fun _ => ?_)
    -- name = bytes_name(body[1:1 + body[0]])
    have c1 : cutV (il (keyBody z key)) (some 1) (some (1 + ((nameCodes z).length : Int))) = il (nameCodes z) := by
      have h := cut_nat (xs := keyBody z key) (i := 1) (j := 1 + (nameCodes z).length) (by omega) (by omega)
      rw [show 1 + (nameCodes z).length - 1 = (nameCodes z).length by omega, d1] at h
      have e : ((1 + (nameCodes z).length : Nat) : Int) = 1 + ((nameCodes z).length : Int) := by omega
      rw [e] at h
      exact h
    refine ⟨_, rfl, _, rfl, _, rfl, b, _, _, _, rfl, rfl, hB, ix, _, _, rfl, rfl, _, rfl, b, _, rfl, hB, fun p1 f1 => ?_⟩
    refine ⟨p1, z, rfl, ?_, hz, fun H2 e2 => ?_⟩
    · refine seq_at ?_
      rw [← c1]
      exact upd_same
    have e2' : Same H H2 := ((Same.refl H).nw f1).trans e2
    -- return (name, body[1 + body[0]:])
    refine ⟨_, rfl, _, rfl, _, rfl, b, _, _, _, rfl, rfl, e2'.seq hB, ix, _, _, rfl, rfl, _, rfl, b, il (keyBody z key), rfl, e2'.seq hB, fun k f3 => ?_⟩
    refine ⟨by show 2 ≤ sizeLine; decide, fun p f4 => ?_⟩
    have c3 : cutV (il (keyBody z key)) (some (1 + ((nameCodes z).length : Int))) none = il key := by
      have h := cut_drop (xs := keyBody z key) (n := 1 + (nameCodes z).length) (by omega)
      rw [d2] at h
      have e : ((1 + (nameCodes z).length : Nat) : Int) = 1 + ((nameCodes z).length : Int) := by omega
      rw [e] at h
      exact h
    have f4' : upd H2 k (.lst (cutV (il (keyBody z key)) (some (1 + ((nameCodes z).length : Int))) none)) p = none := f4
    show Q (.ref p) (upd (upd H2 k (.lst (cutV (il (keyBody z key)) (some (1 + ((nameCodes z).length : Int))) none))) p (.tup [.str z, .ref k]))
    rw [c3] at f4' ⊢
    have e3 := e2'.nw (o := .lst (il key)) f3
    refine q p k _ (e3.free f4') (e2'.free f3) (e3.nw f4') upd_same ?_
    rw [upd_ne (ne_of_none upd_same f4')]
    exact upd_same
theorem sc_bank_start : FnScope ["suite", "disk", "bank", "records", "_"] ["suite", "disk", "bank"] (defScope s_bank_start) := ⟨rfl, rfl, rfl, by decide +kernel, rfl, by decide +kernel, by decide +kernel⟩
theorem ok_bank_start (T : Txt K mg) : Df P w K mg base 4 ("bank_start", none) ["suite", "disk", "bank"] (spBankStart K) := by
  refine df_nox T.F_bank_start sc_bank_start (fun _ _ _ _ _ _ us hl => match us, hl with | [_, _, _], _ => rfl) (fun vs H Q E h => ?_) (fun cdv A outer s H vs Q E hr h => ?_)
  · obtain ⟨u, a, D, b, o, rs, tail, rfl, _⟩ := h
    rfl
  · obtain ⟨u, a, D, b, o, rs, tail, rfl, hu, d, hb, hlen, q⟩ := h
    have nd := sc_bank_start.nd
    refine ⟨_, pss_cons (ps_asg (eCall (ok_read_records T) hr (by decide) T.g_read_records (pa_cons (eMethX (ok_read T) hr (by decide) T.c_Disk T.m_Disk_read passN (pv 1) (pa_cons (pv 2) pa_nil)) pa_nil))
        (pg_tup rfl (pgs_cons (pg_name (i := 3) nd rfl (Or.inl rfl)) (pgs_cons (pg_name (i := 4) nd rfl (Or.inl rfl)) pgs_nil))))
      (pss_cons (ps_if (PW.pt (pw_or (pt_cmpR op_eq (eLen T.z_len (pv 3)) pe_int (nomark _)) (pw_or1 (pt_cmpR op_ne (pe_ix ix_tup (pe_ix ix_list (pv 3) pe_int (fun _ _ => rfl)) pe_int (fun _ _ => rfl)) (gI T.i_BEGIN) (nomark _))))) (pss_one (ps_ret pe_non)) pss_nil)
      (pss_cons (ps_if (pt_cmpR (op_notInD (hu65 hr)) (pe_tup (pa_cons (gI T.i_COMPLETE) (pa_cons (pe_lst pa_nil) pa_nil))) (pv 3) (by rfl)) (pss_one (ps_ret pe_non)) pss_nil)
      (pss_one (ps_ret (eCall (ok_read_begin T) hr (by decide) T.g_read_begin (pa_cons (pv 0) (pa_cons (pe_ix ix_tup (pe_ix ix_list (pv 3) pe_int (fun _ _ => rfl)) pe_int (fun _ _ => rfl)) pa_nil))))))), ?_⟩
    obtain ⟨heq, hok, htb, hno, hst⟩ := hb
    refine ⟨_, rfl, a.p, _, _, rfl, d.ob, dF_no (by decide +kernel), _, rfl, a, D, b, rfl, d, by rw [List.length_append] at hlen; omega, fun p1 H1 f1 e1 g1 => ?_⟩
    rw [heq] at g1 hlen
    refine ⟨p1, rs, tail, rfl, seq_at g1, hok, htb, hno, hlen, fun p2 l ts H2 f2 fl e2 g2 gl hts => ?_⟩
    refine ⟨p2, _, rfl, seqT_at g2, rfl, _, _, rfl, _, _, rfl, rfl, ?_⟩
    have e12 := e1.trans e2
    have none_q : o = none → Q .non H2 := fun h => by
      rw [h] at q
      exact q H2 e12
    have tsl : ts.length = rs.length := Paired.length hts
    cases hrs : rs with
    | nil =>
      have ho : o = none := by
        cases o with
        | none => rfl
        | some x =>
          obtain ⟨g, sd, sc⟩ := x
          obtain ⟨⟨rs', h⟩, _⟩ := hst
          rw [h] at hrs
          cases hrs
      refine ⟨_, rfl, l, _, rfl, .inl (seq_at gl), rfl, _, rfl, eq_int (fun _ => iteT (none_q ho)) (fun c => absurd (by rw [tsl, hrs]; rfl) c)⟩
    | cons r rs' =>
      have hts' := hts
      rw [hrs] at hts'
      cases hts' with
      | @cons t0 _ ts' _ hx hr' =>
      obtain ⟨t, bd, rfl, ht, hbd⟩ := hx
      refine ⟨_, rfl, l, _, rfl, .inl (seq_at gl), rfl, _, rfl, eq_int (fun c => absurd c (by show ((ts'.length + 1 : Nat) : Int) ≠ 0; omega)) (fun _ => ?_)⟩
      refine ⟨_, rfl, l, _, 0, _, rfl, rfl, seq_at gl, atI_nat (j := 0) rfl, t, _, 0, _, rfl, rfl, seqT_at ht, rfl, rfl, _, rfl, ne_int (fun c => ?_) (fun c => ?_)⟩
      · refine none_q ?_
        cases o with
        | none => rfl
        | some x =>
          obtain ⟨g, sd, sc⟩ := x
          obtain ⟨⟨rs'', h⟩, _⟩ := hst
          rw [h] at hrs
          have hr1 : (1, beginBody g sd sc) = r := (List.cons.inj hrs).1
          rw [← hr1] at c
          exact absurd rfl c
      · refine ⟨by show 0 ≤ sizeLine; decide, fun pe fe => ⟨by show 2 ≤ sizeLine; decide, fun pc fc => ?_⟩⟩
        have s3 : Same H2 (upd (upd H2 pe (.lst [])) pc (.tup [.int 2, .ref pe])) := ((Same.refl H2).nw fe).nw fc
        have gpe : upd (upd H2 pe (.lst [])) pc (.tup [.int 2, .ref pe]) pe = some (.lst []) := by
          rw [upd_ne (ne_of_none upd_same fc)]
          exact upd_same
        have hdp : Dp K (upd (upd H2 pe (.lst [])) pc (.tup [.int 2, .ref pe])) (.ref pc) (pdR (2, [])) := .tup (seqT_at upd_same) (.cons (.int _) (.cons (dp_L (xs := []) (seq_at gpe)) .nil))
        refine ⟨_, rfl, pdR (2, []), rs.map pdR, hdp, dp_Rs (s3 _ _ gl) (hts.same s3), shaped_R _, shaped_Rs _, _, rfl, ?_⟩
        rw [any_R]
        by_cases hm : (2, []) ∈ rs
        · rw [decide_eq_true hm]
          refine iteF ?_
          cases o with
          | none =>
            rcases hst with h | h
            · rw [h] at hrs
              cases hrs
            · exact absurd hm h
          | some x =>
            obtain ⟨g, sd, sc⟩ := x
            obtain ⟨⟨rs'', h⟩, _, k1, k2, k3, k4⟩ := hst
            rw [h] at hrs
            have hr1 : (1, beginBody g sd sc) = r := (List.cons.inj hrs).1
            rw [← hr1] at hbd
            refine ⟨_, rfl, _, rfl, l, _, 0, _, rfl, rfl, seq_at (s3 _ _ gl), atI_nat (j := 0) rfl, t, _, 1, _, rfl, rfl, seqT_at (s3 _ _ ht), rfl, ?_⟩
            refine ⟨u, bd, g, sd, sc, rfl, (hu.same e12).same s3, seq_at (s3 _ _ hbd), k3, k4, k1, k2, fun p s1 s2 H4 f4 f5 f6 e4 g4 g5 g6 => ?_⟩
            have e13 := e12.trans s3
            exact q p s1 s2 H4 (e13.free f4) (e13.free f5) (e13.free f6) (e13.trans e4) g4 g5 g6
        · rw [decide_eq_false hm]
          refine iteT ?_
          cases o with
          | none => exact q _ (e12.trans s3)
          | some x =>
            obtain ⟨g, sd, sc⟩ := x
            exact absurd hst.2.1 hm
theorem sc_best_bank : FnScope ["suite", "disk", "best", "generation", "bank", "start"] ["suite", "disk"] (defScope s_best_bank) := ⟨rfl, rfl, rfl, by decide +kernel, rfl, by decide +kernel, by decide +kernel⟩
theorem ok_best_bank (T : Txt K mg) : Df P w K mg base 5 ("best_bank", none) ["suite", "disk"] (spBestBank K) := by
  refine df_nox T.F_best_bank sc_best_bank (fun _ _ _ _ _ _ us hl => match us, hl with | [_, _], _ => rfl) (fun vs H Q E h => ?_) (fun cdv A outer s H vs Q E hr h => ?_)
  · obtain ⟨u, a, D, o, rs, tail, rfl, _⟩ := h
    rfl
  · obtain ⟨u, a, D, o, rs, tail, rfl, hu, d, hb, q⟩ := h
    have nd := sc_best_bank.nd
    refine ⟨_, pss_cons (ps_set (i := 2) nd rfl (Or.inl rfl) (pe_un un_neg pe_int))
      (pss_cons (ps_set (i := 3) nd rfl (Or.inl rfl) (pe_un un_neg pe_int))
      (pss_cons (ps_for PassesOwn.never rfl (pi_range1 rfl T.z_range (pa_cons pe_int pa_nil)) (pg_name (i := 4) nd rfl (Or.inl rfl))
        (pss_cons (ps_set (i := 5) nd rfl (Or.inl rfl) (eCall (ok_bank_start T) hr (by decide) T.g_bank_start (pa_cons (pv 0) (pa_cons (pv 1) (pa_cons (pv 4) pa_nil)))))
        (pss_one (ps_if (PW.pt (pw_and (pt_cmpR op_notN (pv 5) pe_non (nomark _)) (pw_and1 (pt_cmpR op_gt (pe_ix ix_tup (pv 5) pe_int (fun _ _ => rfl)) (pv 3) (nomark _)))))
          (pss_cons (ps_set (i := 2) nd rfl (Or.inl rfl) (pv 4)) (pss_one (ps_set (i := 3) nd rfl (Or.inl rfl) (pe_ix ix_tup (pv 5) pe_int (fun _ _ => rfl))))) pss_nil))))
      (pss_one (ps_ret (pv 2))))), ?_⟩
    let An : Nat → Int × Int := fun i => if i = 0 then (-1, -1) else if i = 1 then bestStep (-1, -1) false (o false) else bestStep (bestStep (-1, -1) false (o false)) true (o true)
    refine ⟨_, rfl, _, rfl, 2, rfl, by decide, by decide, for_range (lo := 0) (n := (2 : Int).toNat) (fun i σ H' => ∃ (v4 v5 : Option V), σ = [some (.ref u), some (.ref a.p), some (.int (An i).1), some (.int (An i).2), v4, v5] ∧ Same H H')
      ⟨none, none, rfl, Same.refl H⟩ ?_ ?_⟩
    · rintro i σ H1 hi ⟨v4, v5, rfl, e1⟩
      have hbi : ∃ b, (0 : Int) + (i : Int) = bi b ∧ An (i + 1) = bestStep (An i) b (o b) := by
        match i, hi with
        | 0, _ => exact ⟨false, rfl, rfl⟩
        | 1, _ => exact ⟨true, rfl, rfl⟩
      obtain ⟨b, eb, eA⟩ := hbi
      rw [eb]
      generalize An i = A1 at *
      generalize An (i + 1) = A2 at *
      obtain ⟨hbk, hbl⟩ := hb b
      refine ⟨_, rfl, _, rfl, _, rfl, u, a, D, b, o b, rs b, tail b, rfl, hu.same e1, d.same e1, hbk, hbl, ?_⟩
      cases ho : o b with
      | none =>
        rw [ho] at eA
        intro H2 e2
        refine ⟨_, rfl, rfl, _, rfl, iteF ?_⟩
        rw [eA]
        exact ⟨some (.int (bi b)), some .non, rfl, e1.trans e2⟩
      | some x =>
        obtain ⟨g, sd, sc⟩ := x
        rw [ho] at eA
        intro p s1 s2 H2 f1 f2 f3 e2 gp g1 g2
        refine ⟨_, rfl, rfl, _, rfl, iteT ?_⟩
        refine ⟨_, rfl, p, _, 0, _, rfl, rfl, seqT_at gp, rfl, _, rfl, _, _, rfl, rfl, _, rfl, dec2 (fun c => ?_) (fun c => ?_)⟩
        · refine ⟨_, rfl, _, rfl, p, _, 0, _, rfl, rfl, seqT_at gp, rfl, ?_⟩
          have e : A2 = (bi b, g) := by
            rw [eA]
            exact if_pos c
          rw [e]
          exact ⟨some (.int (bi b)), some (.ref p), rfl, e1.trans e2⟩
        · have e : A2 = A1 := by
            rw [eA]
            exact if_neg c
          rw [e]
          exact ⟨some (.int (bi b)), some (.ref p), rfl, e1.trans e2⟩
    · rintro σ H1 ⟨v4, v5, rfl, e1⟩
      exact ⟨_, rfl, q H1 e1⟩
end
end Hush
set_option Elab.async false
set_option linter.all false
set_option maxRecDepth 100000
set_option maxHeartbeats 4000000
/-! store: prepare -/
namespace Hush
open PySem PySem.Spec PyProof.Rows L2
theorem Stp.get {H H' : Hp} {O O' : Addr → Prop} (a : Stp H O H' O') {x : Addr} {o : HO} (h : H x = some o) (n : ¬ O x) : H' x = some o ∧ ¬ O' x := ⟨a.fr x o h n, a.not h n⟩
def prepData (sd sc : List Int) : List Int := recBytes 1 (beginBody 1 sd sc) ++ recBytes 2 []
def Dk.prep (data : List Int) : Dk := ⟨upB (fun _ => []) false data, fun _ => [], false, 0, 0⟩
theorem new_cut (b : Bool) : Dk.new.cut b 0 = Dk.new := by
  have e : upB (fun _ => ([] : List Int)) b (([] : List Int).take 0) = fun _ => [] := by
    funext c
    unfold upB
    split <;> rfl
  show (⟨upB (fun _ => []) b (([] : List Int).take 0), fun _ => [], false, 0, 0⟩ : Dk) = _
  rw [e]
  rfl
theorem new_wr (data : List Int) : (Dk.new.wr false data).settle false = Dk.prep data := by
  show (⟨upB (fun _ => []) false ([] ++ upB (fun _ => ([] : List Int)) false ([] ++ data) false), upB (upB (fun _ => []) false ([] ++ data)) false [], false, 0, 0⟩ : Dk) = _
  have e1 : upB (upB (fun _ => ([] : List Int)) false ([] ++ data)) false [] = fun _ => [] := by
    funext c
    cases c <;> rfl
  rw [e1, upB_same]
  rfl
def spPrepare (K : PySem.W.Frag) : Sp := fun vs H Q _ => ∃ (u sa sb : Addr) (a : DA) (sd sc : List Int), vs = [.ref u, .ref a.p, .ref sa, .ref sb] ∧ SuiteAt K H u ∧ DiskAt K H a Dk.new ∧ H sa = some (.lst (il sd)) ∧ H sb = some (.lst (il sc)) ∧
  ¬ a.own u ∧ ¬ a.own sa ∧ ¬ a.own sb ∧ sd.length = 16 ∧ sc.length = 16 ∧ Byt sd ∧ Byt sc ∧
  ∀ (H' : Hp) (a' : DA), a'.p = a.p → DiskAt K H' a' (Dk.prep (prepData sd sc)) → Stp H a.own H' a'.own → Q .non H'
section
variable {P : Program} {w : World} {K : PySem.W.Frag} {mg : Str → Option Value} {base : Heap}
theorem sc_prepare : FnScope ["suite", "disk", "seed", "secret"] ["suite", "disk", "seed", "secret"] (defScope s_prepare) := ⟨rfl, rfl, rfl, by decide +kernel, rfl, by decide +kernel, by decide +kernel⟩
theorem ok_prepare (T : Txt K mg) : Df P w K mg base 6 ("prepare", none) ["suite", "disk", "seed", "secret"] (spPrepare K) := by
  refine df_nox T.F_prepare sc_prepare (fun _ _ _ _ _ _ us hl => match us, hl with | [_, _, _, _], _ => rfl) (fun vs H Q E h => ?_) (fun cdv A outer s H vs Q E hr h => ?_)
  · obtain ⟨u, sa, sb, a, sd, sc, rfl, _⟩ := h
    rfl
  · obtain ⟨u, sa, sb, a, sd, sc, rfl, hu, d, ha, hb, nu, na, nb, l1, l2, y1, y2, q⟩ := h
    refine ⟨_, pss_cons (ps_expr (eCall (ok_check_key T) hr (by decide) T.g_check_key (pa_cons (pv 0) (pa_cons (pv 2) pa_nil))))
      (pss_cons (ps_if (pt_cmpR op_notN (pv 3) pe_non (nomark _)) (pss_one (ps_expr (eCall (ok_check_key T) hr (by decide) T.g_check_key (pa_cons (pv 0) (pa_cons (pv 3) pa_nil))))) pss_nil)
      (pss_cons (ps_if (pt_cmpR op_ge (eCall (ok_best_bank T) hr (by decide) T.g_best_bank (pa_cons (pv 0) (pa_cons (pv 1) pa_nil))) pe_int (nomark _)) pss_never pss_nil)
      (pss_cons (ps_expr (eMethX (ok_cut T) hr (by decide) T.c_Disk T.m_Disk_cut passN (pv 1) (pa_cons pe_int (pa_cons pe_int pa_nil))))
      (pss_cons (ps_expr (eMethX (ok_cut T) hr (by decide) T.c_Disk T.m_Disk_cut passN (pv 1) (pa_cons pe_int (pa_cons pe_int pa_nil))))
      (pss_cons (ps_expr (eMethX (ok_write T) hr (by decide) T.c_Disk T.m_Disk_write passN (pv 1) (pa_cons pe_int (pa_cons (pe_op op_cat
          (eCall (ok_write_record T) hr (by decide) T.g_write_record (pa_cons (gI T.i_BEGIN) (pa_cons (eCall (ok_begin_body T) hr (by decide) T.g_begin_body (pa_cons pe_int (pa_cons (pv 2) (pa_cons (pv 3) pa_nil)))) pa_nil)))
          (eCall (ok_write_record T) hr (by decide) T.g_write_record (pa_cons (gI T.i_COMPLETE) (pa_cons (pe_lst pa_nil) pa_nil)))) pa_nil))))
      (pss_one (ps_expr (eMethX (ok_settle T) hr (by decide) T.c_Disk T.m_Disk_settle passN (pv 1) (pa_cons pe_int pa_nil))))))))), ?_⟩
    have pw : Dk.new.power = true := rfl
    refine ⟨_, rfl, _, rfl, u, sa, _, rfl, hu, seq_at ha, by rw [il_len]; exact l1, ?_⟩
    refine ⟨_, rfl, rfl, _, rfl, iteT ?_⟩
    refine ⟨_, rfl, _, rfl, u, sb, _, rfl, hu, seq_at hb, by rw [il_len]; exact l2, ?_⟩
    refine ⟨_, rfl, _, rfl, u, a, Dk.new, fun _ => none, fun _ => [], fun _ => [], rfl, hu, d, fun b => ⟨⟨rfl, (fun r h => by cases h), Byt.nil, rfl, Or.inl rfl⟩, by show 0 ≤ 200000; decide⟩, fun H1 e1 => ?_⟩
    refine ⟨_, _, rfl, rfl, _, rfl, dec2 (fun c => absurd c (by decide)) (fun _ => ?_)⟩
    have d1 := d.same e1
    -- disk.cut(0, 0); disk.cut(1, 0)
    refine ⟨_, rfl, a.p, _, _, rfl, d1.ob, dF_no (by decide +kernel), a, Dk.new, false, 0, rfl, d1, fun _ => ⟨rfl, Nat.zero_le _⟩, fun _ H2 a2 p2 d2 st2 => ?_, fun h => by rw [pw] at h; cases h⟩
    rw [new_cut] at d2
    rw [← p2]
    refine ⟨_, rfl, a2.p, _, _, rfl, d2.ob, dF_no (by decide +kernel), a2, Dk.new, true, 0, rfl, d2, fun _ => ⟨rfl, Nat.zero_le _⟩, fun _ H3 a3 p3 d3 st3 => ?_, fun h => by rw [pw] at h; cases h⟩
    rw [new_cut] at d3
    rw [← p3]
    have st13 := (Stp.of_same (O := a.own) e1).trans (st2.trans st3)
    obtain ⟨ha3, na3⟩ := st13.get ha na
    obtain ⟨hb3, nb3⟩ := st13.get hb nb
    -- disk.write(0, ..)
    refine ⟨_, rfl, a3.p, _, _, rfl, d3.ob, dF_no (by decide +kernel), ?_⟩
    refine ⟨_, rfl, _, rfl, 1, sa, sb, sd, sc, rfl, by decide, by decide, seq_at ha3, seq_at hb3, by omega, by omega, fun p4 H4 f4 e4 g4 => ?_⟩
    have ok1 : RecOk (1, beginBody 1 sd sc) := ⟨by show (1 : Int) ≤ 1; decide, by show (1 : Int) ≤ 5; decide, beginBody_byt y1 y2, by rw [beginBody_len]; omega⟩
    have ok2 : RecOk (2, []) := ⟨by decide, by decide, Byt.nil, Nat.zero_le _⟩
    refine ⟨1, p4, _, rfl, seq_at g4, ok1, fun p5 H5 f5 e5 g5 => ?_⟩
    refine ⟨by show 0 ≤ sizeLine; decide, fun p6 f6 => ?_⟩
    have e6 := ((Same.refl H5).nw (o := .lst []) f6)
    refine ⟨2, p6, [], rfl, seq_at upd_same, ok2, fun p7 H7 f7 e7 g7 => ?_⟩
    have e57 := e6.trans e7
    refine ⟨p5, p7, _, _, rfl, rfl, e57 _ _ g5, g7, by rw [il_len, il_len, recBytes_len, recBytes_len, beginBody_len]; exact line_small (by show 8 + (5 + sd.length + sc.length) + (8 + 0) ≤ _; omega), fun p8 f8 => ?_⟩
    have ed : il (recBytes 1 (beginBody 1 sd sc)) ++ il (recBytes 2 []) = il (prepData sd sc) := (List.map_append ..).symm
    rw [ed]
    have e38 : Same H3 (upd H7 p8 (.lst (il (prepData sd sc)))) := ((e4.trans e5).trans e57).nw f8
    have d8 := d3.same e38
    have n8 : ¬ a3.own p8 := fun h => by
      obtain ⟨o, ho⟩ := d3.tr h
      rw [((e4.trans e5).trans e57) _ _ ho] at f8
      cases f8
    have lpd : (prepData sd sc).length = 53 := by
      unfold prepData
      rw [List.length_append, recBytes_len, recBytes_len, beginBody_len]
      show 8 + (5 + sd.length + sc.length) + (8 + 0) = 53
      omega
    refine ⟨a3, Dk.new, false, p8, prepData sd sc, rfl, d8, upd_same, n8, fun _ => ⟨rfl, by rw [lpd]; decide⟩, fun _ H9 d9 f9 => ?_, fun h => by rw [pw] at h; cases h⟩
    -- disk.settle(0)
    refine ⟨_, rfl, a3.p, _, _, rfl, d9.ob, dF_no (by decide +kernel), a3, Dk.new.wr false (prepData sd sc), false, rfl, d9, ?_, fun _ H10 a10 p10 d10 st10 => ?_, fun h => by cases h⟩
    · show 0 + ([] ++ prepData sd sc).length ≤ 1000000
      rw [List.nil_append, lpd]
      decide
    rw [new_wr] at d10
    refine q H10 a10 (p10.trans (p3.trans p2)) d10 ?_
    exact st13.trans ((Stp.of_same e38).trans ((Stp.of_fr f9).trans st10))
end
end Hush
set_option Elab.async false
set_option linter.all false
set_option maxRecDepth 100000
set_option maxHeartbeats 4000000
/-! The store on the heap. -/
namespace Hush
open PySem PySem.Spec PyProof.Rows L2
/-! ### self.f as one of several targets -/
def gFld (K : PySem.W.Frag) (ta : TE) (f : Str) : TG := fun v σ H Q => ta σ H fun x H1 => ∃ a C dx fs, x = .ref a ∧ H1 a = some (.ins C dx fs) ∧ Cls K C ∧ NoAttr K C f ∧ fs.length < 1000 ∧ Q σ (upd H1 a (.ins C dx (putF f v fs)))
theorem pg_fld {X : Cx} {o : Expr} {f : Str} {pos : Pos} {ta : TE} (ho : PE X o ta) : PG X (.Attribute o f pos) (gFld X.K ta f) := by
  refine ⟨fun pins s σ H v u Q I r h => ?_⟩
  rw [PySem.assign_Attribute]
  refine wpAny_bind (wpAny_holding (thn (ho.run pins s σ H _ I h) fun ov s1 ⟨x, H1, I1, r1, a, C, dx, fs, ex, ea, c, n, l, q⟩ => ?_))
  subst ex
  obtain rfl : ov = Value.ref a := r1
  refine wpAny_bind (wpAny_standAt (wpAny_bind (wpAny_holding (setattr_ok I1 ea c n l r fun s3 I3 => ?_))))
  exact wpAny_release ⟨σ, _, I3, q⟩
/-! ### the store, in plain Lean -/
abbrev Nm := Str → Option (List Int)
structure Sr where
  bank : Bool
  crashes : Int
  M : Nm
  limit : Int
  gen : Int
  seed : List Int
  secret : List Int
  next : Int
def Nm.put (M : Nm) (z : Str) (k : List Int) : Nm := fun y => if y = z then some k else M y
def Nm.del (M : Nm) (z : Str) : Nm := fun y => if y = z then none else M y
/-- the names with their keys, in order -/
def namesL (M : Nm) : List (Str × List Int) := L4.filterMap fun z => (M z).map fun k => (z, k)
structure SA where
  q : Addr
  dy : Addr
  d : Addr
  su : Addr
  sd : Addr
  sc : Addr
  kvs : List (Key × V)
abbrev CSt (K : PySem.W.Frag) : Addr := He.ga K "Store"
abbrev stN9 : List Str := ["_suite", "_disk", "_bank", "_crashes", "_names", "_limit", "_generation", "_seed", "_secret"]
abbrev stN : List Str := ["_suite", "_disk", "_bank", "_crashes", "_names", "_limit", "_generation", "_seed", "_secret", "_next"]
def stF (A : SA) (S : Sr) (pd : Addr) : List (Str × V) := fz stN [.ref A.su, .ref pd, .int (bi S.bank), .int S.crashes, .ref A.d, .int S.limit, .int S.gen, .ref A.sd, .ref A.sc, .int S.next]
def stF9 (A : SA) (S : Sr) (pd : Addr) : List (Str × V) := fz stN9 [.ref A.su, .ref pd, .int (bi S.bank), .int S.crashes, .ref A.d, .int S.limit, .int S.gen, .ref A.sd, .ref A.sc]
/-- a dict of names with keys: what it says -/
structure NmAt (H : Hp) (O : Addr → Prop) (kvs : List (Key × V)) (M : Nm) : Prop where
  nd : (kvs.map (·.1)).Nodup
  keys : ∀ p ∈ kvs, ∃ z, z ∈ L4 ∧ p.1 = Sum.inr z
  out : ∀ z, z ∉ L4 → M z = none
  some_ : ∀ z v, valV kvs (Sum.inr z) = some v → ∃ (k : Addr) (xs : List Int), v = .ref k ∧ H k = some (.lst (il xs)) ∧ ¬ O k ∧ M z = some xs
  none_ : ∀ z, valV kvs (Sum.inr z) = none → M z = none
  len : ∀ z xs, M z = some xs → xs.length = 16 ∧ Byt xs
def wown (a : DA) (A : SA) : Addr → Prop := fun x => a.own x ∨ x = A.q ∨ x = A.d
/-- the disk and the store -/
structure WAt (K : PySem.W.Frag) (H : Hp) (a : DA) (A : SA) (D : Dk) (S : Sr) : Prop where
  dk : DiskAt K H a D
  ob : H A.q = some (.ins (CSt K) A.dy (stF A S a.p))
  hd : H A.d = some (.dK A.kvs)
  nm : NmAt H (wown a A) A.kvs S.M
  hsu : SuiteAt K H A.su
  hsd : H A.sd = some (.lst (il S.seed))
  hsc : H A.sc = some (.lst (il S.secret))
  nq : ¬ a.own A.q
  nd : ¬ a.own A.d
  nsu : ¬ wown a A A.su
  nsd : ¬ wown a A A.sd
  nsc : ¬ wown a A A.sc
section
variable {A : SA} {S : Sr} {pd : Addr}
theorem stF_suite : (stF A S pd).lookup ("_suite" : Str) = some (.ref A.su) := fz_get (i := 0) (by decide +kernel) rfl
theorem stF_disk : (stF A S pd).lookup ("_disk" : Str) = some (.ref pd) := fz_get (i := 1) (by decide +kernel) rfl
theorem stF_bank : (stF A S pd).lookup ("_bank" : Str) = some (.int (bi S.bank)) := fz_get (i := 2) (by decide +kernel) rfl
theorem stF_crashes : (stF A S pd).lookup ("_crashes" : Str) = some (.int S.crashes) := fz_get (i := 3) (by decide +kernel) rfl
theorem stF_names : (stF A S pd).lookup ("_names" : Str) = some (.ref A.d) := fz_get (i := 4) (by decide +kernel) rfl
theorem stF_limit : (stF A S pd).lookup ("_limit" : Str) = some (.int S.limit) := fz_get (i := 5) (by decide +kernel) rfl
theorem stF_gen : (stF A S pd).lookup ("_generation" : Str) = some (.int S.gen) := fz_get (i := 6) (by decide +kernel) rfl
theorem stF_seed : (stF A S pd).lookup ("_seed" : Str) = some (.ref A.sd) := fz_get (i := 7) (by decide +kernel) rfl
theorem stF_secret : (stF A S pd).lookup ("_secret" : Str) = some (.ref A.sc) := fz_get (i := 8) (by decide +kernel) rfl
theorem stF_next : (stF A S pd).lookup ("_next" : Str) = some (.int S.next) := fz_get (i := 9) (by decide +kernel) rfl
theorem stF_no {x : Str} (h : ixOf x stN = none) : (stF A S pd).lookup x = none := fz_no h
theorem stF_len : (stF A S pd).length < 1000 := by
  unfold stF
  rw [fz_len rfl]
  decide
theorem stF_put_bank {b : Bool} : putF "_bank" (.int (bi b)) (stF A S pd) = stF A { S with bank := b } pd := fz_put (i := 2) (by decide +kernel) rfl
theorem stF_put_limit {n : Int} : putF "_limit" (.int n) (stF A S pd) = stF A { S with limit := n } pd := fz_put (i := 5) (by decide +kernel) rfl
theorem stF_put_gen {n : Int} : putF "_generation" (.int n) (stF A S pd) = stF A { S with gen := n } pd := fz_put (i := 6) (by decide +kernel) rfl
theorem stF_put_next {n : Int} : putF "_next" (.int n) (stF A S pd) = stF A { S with next := n } pd := fz_put (i := 9) (by decide +kernel) rfl
theorem stF9_suite : (stF9 A S pd).lookup ("_suite" : Str) = some (.ref A.su) := fz_get (i := 0) (by decide +kernel) rfl
theorem stF9_names : (stF9 A S pd).lookup ("_names" : Str) = some (.ref A.d) := fz_get (i := 4) (by decide +kernel) rfl
theorem stF9_limit : (stF9 A S pd).lookup ("_limit" : Str) = some (.int S.limit) := fz_get (i := 5) (by decide +kernel) rfl
theorem stF9_no {x : Str} (h : ixOf x stN9 = none) : (stF9 A S pd).lookup x = none := fz_no h
theorem stF9_len : (stF9 A S pd).length < 1000 := by
  unfold stF9
  rw [fz_len rfl]
  decide
theorem stF9_put_limit {n : Int} : putF "_limit" (.int n) (stF9 A S pd) = stF9 A { S with limit := n } pd := fz_put (i := 5) (by decide +kernel) rfl
theorem stF9_next {n : Int} : putF "_next" (.int n) (stF9 A S pd) = stF A { S with next := n } pd := fz_add (by decide +kernel) rfl
end
section
variable {K : PySem.W.Frag} {H H' : Hp} {a a' : DA} {A : SA} {D D' : Dk} {S : Sr}
theorem NmAt.mono {O O' : Addr → Prop} {kvs : List (Key × V)} {M : Nm} (x : NmAt H O kvs M) (h : ∀ k xs, H k = some (.lst (il xs)) → ¬ O k → H' k = some (.lst (il xs)) ∧ ¬ O' k) : NmAt H' O' kvs M :=
  ⟨x.nd, x.keys, x.out, fun z v e => by
    obtain ⟨k, xs, h1, h2, h3, h4⟩ := x.some_ z v e
    obtain ⟨h5, h6⟩ := h k xs h2 h3
    exact ⟨k, xs, h1, h5, h6, h4⟩, x.none_, x.len⟩
theorem WAt.q_d (w : WAt K H a A D S) : A.q ≠ A.d := ne_of w.ob w.hd (by intro z; cases z)
theorem WAt.tr (w : WAt K H a A D S) {x : Addr} (h : wown a A x) : ∃ o, H x = some o := by
  rcases h with h | rfl | rfl
  · exact w.dk.tr h
  · exact ⟨_, w.ob⟩
  · exact ⟨_, w.hd⟩
/-- what is new is not owned -/
theorem WAt.new_not (w : WAt K H a A D S) {x : Addr} (h : H x = none) : ¬ wown a A x := fun z => by
  obtain ⟨o, ho⟩ := w.tr z
  rw [h] at ho
  cases ho
theorem wown_q (a : DA) (A : SA) : wown a A A.q := .inr (.inl rfl)
theorem wown_d (a : DA) (A : SA) : wown a A A.d := .inr (.inr rfl)
theorem WAt.same (w : WAt K H a A D S) (e : Same H H') : WAt K H' a A D S :=
  ⟨w.dk.same e, e _ _ w.ob, e _ _ w.hd, w.nm.mono fun k xs h1 h2 => ⟨e _ _ h1, h2⟩, w.hsu.same e, e _ _ w.hsd, e _ _ w.hsc, w.nq, w.nd, w.nsu, w.nsd, w.nsc⟩
/-- the disk has changed -/
theorem WAt.disk (w : WAt K H a A D S) (d : DiskAt K H' a' D') (ep : a'.p = a.p) (st : Stp H a.own H' a'.own) : WAt K H' a' A D' S ∧ Stp H (wown a A) H' (wown a' A) := by
  have nn : ∀ x o, H x = some o → ¬ wown a A x → H' x = some o ∧ ¬ wown a' A x := fun x o h n => by
    have na : ¬ a.own x := fun z => n (.inl z)
    refine ⟨st.fr x o h na, fun z => ?_⟩
    rcases z with z | z
    · exact st.not h na z
    · exact n (.inr z)
  obtain ⟨dx, hu⟩ := w.hsu
  refine ⟨⟨d, ?_, st.fr _ _ w.hd w.nd, w.nm.mono fun k xs h1 h2 => nn k _ h1 h2, ⟨dx, (nn _ _ hu w.nsu).1⟩, (nn _ _ w.hsd w.nsd).1, (nn _ _ w.hsc w.nsc).1, st.not w.ob w.nq, st.not w.hd w.nd, (nn _ _ hu w.nsu).2, (nn _ _ w.hsd w.nsd).2, (nn _ _ w.hsc w.nsc).2⟩, ⟨fun x o h n => (nn x o h n).1, fun x z => ?_⟩⟩
  · rw [ep]
    exact st.fr _ _ w.ob w.nq
  · rcases z with z | z
    · rcases st.gr x z with y | y
      · exact .inl (.inl y)
      · exact .inr y
    · exact .inl (.inr z)
/-- the store's numbers change -/
theorem WAt.nums (w : WAt K H a A D S) {S' : Sr} (h1 : S'.M = S.M) (h2 : S'.seed = S.seed) (h3 : S'.secret = S.secret) : WAt K (upd H A.q (.ins (CSt K) A.dy (stF A S' a.p))) a A D S' ∧ Stp H (wown a A) (upd H A.q (.ins (CSt K) A.dy (stF A S' a.p))) (wown a A) := by
  have nn : ∀ x o, H x = some o → ¬ wown a A x → upd H A.q (.ins (CSt K) A.dy (stF A S' a.p)) x = some o := fun x o h n => by
    rw [upd_ne (fun z => n (by rw [z]; exact wown_q a A))]
    exact h
  obtain ⟨dx, hu⟩ := w.hsu
  refine ⟨⟨w.dk.up w.nq, upd_same, ?_, ?_, ⟨dx, nn _ _ hu w.nsu⟩, ?_, ?_, w.nq, w.nd, w.nsu, w.nsd, w.nsc⟩, Stp.of_fr ((Fr.refl _ _).up (wown_q a A))⟩
  · rw [upd_ne w.q_d.symm]
    exact w.hd
  · rw [h1]
    exact w.nm.mono fun k xs g1 g2 => ⟨nn _ _ g1 g2, g2⟩
  · rw [h2]
    exact nn _ _ w.hsd w.nsd
  · rw [h3]
    exact nn _ _ w.hsc w.nsc
/-- the store's names change -/
theorem WAt.names (w : WAt K H a A D S) {kvs : List (Key × V)} {M : Nm} (h : NmAt (upd H A.d (.dK kvs)) (wown a A) kvs M) :
    WAt K (upd H A.d (.dK kvs)) a { A with kvs := kvs } D { S with M := M } ∧ Stp H (wown a A) (upd H A.d (.dK kvs)) (wown a { A with kvs := kvs }) := by
  have nn : ∀ x o, H x = some o → ¬ wown a A x → upd H A.d (.dK kvs) x = some o := fun x o h n => by
    rw [upd_ne (fun z => n (by rw [z]; exact wown_d a A))]
    exact h
  obtain ⟨dx, hu⟩ := w.hsu
  refine ⟨⟨w.dk.up w.nd, ?_, upd_same, h, ⟨dx, nn _ _ hu w.nsu⟩, nn _ _ w.hsd w.nsd, nn _ _ w.hsc w.nsc, w.nq, w.nd, w.nsu, w.nsd, w.nsc⟩, Stp.of_fr ((Fr.refl _ _).up (wown_d a A))⟩
  rw [upd_ne w.q_d]
  exact w.ob
end
section
variable {H H' : Hp} {O : Addr → Prop} {kvs : List (Key × V)} {M : Nm} {d : Addr}
theorem putK_keys (kvs : List (Key × V)) (k : Key) (v : V) : (putK kvs k v).map (·.1) = if (valV kvs k).isSome = true then kvs.map (·.1) else kvs.map (·.1) ++ [k] := by
  unfold putK
  rw [← valV_any]
  split
  · rw [List.map_map]
    congr 1
    funext p
    show (if p.1 = k then (p.1, v) else p).1 = p.1
    split <;> rfl
  · rw [List.map_append]
    rfl
theorem valV_drop (k j : Key) : ∀ kvs : List (Key × V), valV (dropK kvs k) j = if j = k then none else valV kvs j
  | [] => by
    show valV [] j = _
    rw [valV_nil]
    split <;> rfl
  | p :: r => by
    by_cases e : p.1 = k
    · rw [dropK_pos e, valV_drop k j r]
      by_cases h : j = k
      · rw [if_pos h, if_pos h]
      · rw [if_neg h, if_neg h, valV_neg (fun z => h (z.symm.trans e))]
    · rw [dropK_neg e]
      by_cases q : p.1 = j
      · rw [valV_pos q, if_neg (fun z => e (q.trans z)), valV_pos q]
      · rw [valV_neg q, valV_drop k j r, valV_neg q]
/-- a name is kept -/
theorem NmAt.put (x : NmAt H O kvs M) {z : Str} {k : Addr} {xs : List Int} (hz : z ∈ L4) (hk : H k = some (.lst (il xs))) (no : ¬ O k) (od : O d) (hl : xs.length = 16 ∧ Byt xs) :
    NmAt (upd H d (.dK (putK kvs (Sum.inr z : Key) (.ref k)))) O (putK kvs (Sum.inr z : Key) (.ref k)) (M.put z xs) := by
  have old : ∀ k' xs', H k' = some (.lst (il xs')) → ¬ O k' → upd H d (.dK (putK kvs (Sum.inr z : Key) (.ref k))) k' = some (.lst (il xs')) := fun k' xs' h n => by
    rw [upd_ne (fun e => n (by rw [e]; exact od))]
    exact h
  refine ⟨?_, fun p hp => ?_, fun y hy => ?_, fun y v e => ?_, fun y e => ?_, fun y ys e => ?_⟩
  · rw [putK_keys]
    split
    · exact x.nd
    · rename_i h
      have hn : valV kvs (Sum.inr z : Key) = none := by
        cases e : valV kvs (Sum.inr z : Key) with
        | none => rfl
        | some v =>
          rw [e] at h
          exact absurd rfl h
      have := nd_putK (.ref k) x.nd hn
      rw [putK_keys, if_neg h] at this
      exact this
  · have hm : p.1 ∈ (putK kvs (Sum.inr z : Key) (.ref k)).map (·.1) := List.mem_map_of_mem hp
    rw [putK_keys] at hm
    have old2 : p.1 ∈ kvs.map (·.1) → ∃ z, z ∈ L4 ∧ p.1 = Sum.inr z := fun h => by
      obtain ⟨p', h1, h2⟩ := List.mem_map.mp h
      obtain ⟨y, h3, h4⟩ := x.keys p' h1
      exact ⟨y, h3, by rw [← h2]; exact h4⟩
    split at hm
    · exact old2 hm
    · rcases List.mem_append.mp hm with h | h
      · exact old2 h
      · exact ⟨z, hz, List.mem_singleton.mp h⟩
  · show (if y = z then some xs else M y) = none
    rw [if_neg (fun e => hy (by rw [e]; exact hz))]
    exact x.out y hy
  · rw [valV_put] at e
    by_cases h : y = z
    · rw [if_pos (congrArg Sum.inr h)] at e
      have e' : V.ref k = v := Option.some.inj e
      refine ⟨k, xs, e'.symm, old k xs hk no, no, ?_⟩
      show (if y = z then some xs else M y) = some xs
      rw [if_pos h]
    · rw [if_neg (fun q => h (Sum.inr.inj q))] at e
      obtain ⟨k', xs', h1, h2, h3, h4⟩ := x.some_ y v e
      refine ⟨k', xs', h1, old k' xs' h2 h3, h3, ?_⟩
      show (if y = z then some xs else M y) = some xs'
      rw [if_neg h]
      exact h4
  · rw [valV_put] at e
    by_cases h : y = z
    · rw [if_pos (congrArg Sum.inr h)] at e
      cases e
    · rw [if_neg (fun q => h (Sum.inr.inj q))] at e
      show (if y = z then some xs else M y) = none
      rw [if_neg h]
      exact x.none_ y e
  · have e' : (if y = z then some xs else M y) = some ys := e
    by_cases h : y = z
    · rw [if_pos h] at e'
      rw [← Option.some.inj e']
      exact hl
    · rw [if_neg h] at e'
      exact x.len y ys e'
/-- a name is released -/
theorem NmAt.del (x : NmAt H O kvs M) {z : Str} (od : O d) : NmAt (upd H d (.dK (dropK kvs (Sum.inr z : Key)))) O (dropK kvs (Sum.inr z : Key)) (M.del z) := by
  have old : ∀ k' xs', H k' = some (.lst (il xs')) → ¬ O k' → upd H d (.dK (dropK kvs (Sum.inr z : Key))) k' = some (.lst (il xs')) := fun k' xs' h n => by
    rw [upd_ne (fun e => n (by rw [e]; exact od))]
    exact h
  refine ⟨nd_dropK x.nd, fun p hp => x.keys p (dropK_mem hp), fun y hy => ?_, fun y v e => ?_, fun y e => ?_, fun y ys e => ?_⟩
  · show (if y = z then none else M y) = none
    split
    · rfl
    · exact x.out y hy
  · rw [valV_drop] at e
    by_cases h : y = z
    · rw [if_pos (congrArg Sum.inr h)] at e
      cases e
    · rw [if_neg (fun q => h (Sum.inr.inj q))] at e
      obtain ⟨k', xs', h1, h2, h3, h4⟩ := x.some_ y v e
      refine ⟨k', xs', h1, old k' xs' h2 h3, h3, ?_⟩
      show (if y = z then none else M y) = some xs'
      rw [if_neg h]
      exact h4
  · rw [valV_drop] at e
    show (if y = z then none else M y) = none
    by_cases h : y = z
    · rw [if_pos h]
    · rw [if_neg h]
      rw [if_neg (fun q => h (Sum.inr.inj q))] at e
      exact x.none_ y e
  · have e' : (if y = z then none else M y) = some ys := e
    by_cases h : y = z
    · rw [if_pos h] at e'
      cases e'
    · rw [if_neg h] at e'
      exact x.len y ys e'
/-- the dict changes elsewhere: the cells stand -/
theorem NmAt.other (x : NmAt H O kvs M) {q : Addr} {o : HO} (oq : O q) : NmAt (upd H q o) O kvs M := x.mono fun k xs h n => ⟨by
  rw [upd_ne (fun e => n (by rw [e]; exact oq))]
  exact h, n⟩
theorem NmAt.iff (x : NmAt H O kvs M) (z : Str) : (valV kvs (Sum.inr z : Key)).isSome = (M z).isSome := by
  cases e : valV kvs (Sum.inr z : Key) with
  | none =>
    rw [x.none_ z e]
    rfl
  | some v =>
    obtain ⟨k, xs, _, _, _, h⟩ := x.some_ z v e
    rw [h]
    rfl
/-- the names of the dict -/
def kNames (kvs : List (Key × V)) : List Str := kvs.filterMap fun p => match p.1 with
  | Sum.inr z => some z
  | Sum.inl _ => none
theorem NmAt.ks (x : NmAt H O kvs M) : kvs.map (·.1) = (kNames kvs).map Sum.inr := by
  have h := x.keys
  clear x
  induction kvs with
  | nil => rfl
  | cons p r ih =>
    obtain ⟨z, hz, e⟩ := h p List.mem_cons_self
    have e2 : kNames (p :: r) = z :: kNames r := by
      unfold kNames
      rw [List.filterMap_cons]
      simp only [e]
    rw [e2, List.map_cons, List.map_cons, e, ih fun q hq => h q (List.mem_cons_of_mem _ hq)]
theorem NmAt.knd (x : NmAt H O kvs M) : (kNames kvs).Nodup := by
  have h := x.nd
  rw [x.ks] at h
  exact List.Pairwise.imp (fun {a b} (q : (Sum.inr a : Key) ≠ Sum.inr b) e => q (congrArg Sum.inr e)) (List.pairwise_map.mp h)
theorem NmAt.kmem (x : NmAt H O kvs M) (z : Str) : z ∈ kNames kvs ↔ (M z).isSome = true := by
  rw [← x.iff z]
  have e : (Sum.inr z : Key) ∈ kvs.map (·.1) ↔ z ∈ kNames kvs := by
    rw [x.ks]
    constructor
    · intro h
      obtain ⟨y, h1, h2⟩ := List.mem_map.mp h
      rw [← Sum.inr.inj h2]
      exact h1
    · exact fun h => List.mem_map_of_mem h
  rw [← e]
  constructor
  · intro h
    cases q : valV kvs (Sum.inr z : Key) with
    | none => exact absurd h (valV_not q)
    | some v => rfl
  · intro h
    cases q : valV kvs (Sum.inr z : Key) with
    | none =>
      rw [q] at h
      cases h
    | some v => exact valV_in q
end
end Hush
set_option Elab.async false
set_option linter.all false
set_option maxRecDepth 100000
set_option maxHeartbeats 4000000
/-! store: what only reads. -/
namespace Hush
open PySem PySem.Spec PyProof.Rows L2
theorem hu1 {j : Nat} {A : Around} (hr : Room j A) : A.units + 1 < cLine := by
  have := hr.un
  omega
/-! ### the sorted names -/
def lists4 : Nat → List (List Str)
  | 0 => [[]]
  | n + 1 => [] :: L4.flatMap fun z => (lists4 n).map (z :: ·)
theorem lists4_mem : ∀ {n : Nat} {ys : List Str}, ys.length ≤ n → (∀ y ∈ ys, y ∈ L4) → ys ∈ lists4 n
  | 0, [], _, _ => List.mem_cons_self
  | n + 1, [], _, _ => List.mem_cons_self
  | n + 1, y :: ys, h, m => List.mem_cons_of_mem _ (List.mem_flatMap.mpr ⟨y, m y List.mem_cons_self, List.mem_map_of_mem (lists4_mem (Nat.le_of_succ_le_succ h) fun z hz => m z (List.mem_cons_of_mem _ hz))⟩)
theorem lists4_ok : ∀ ys ∈ lists4 4, sortedS ys = true → ys.Nodup → ys = L4.filter (fun z => decide (z ∈ ys)) := by decide +kernel
theorem len_counts : ∀ {ys : List Str}, (∀ y ∈ ys, y ∈ L4) → ys.length = ys.count ("a" : Str) + ys.count ("b" : Str) + ys.count ("c" : Str) + ys.count ("d9" : Str)
  | [], _ => rfl
  | y :: ys, m => by
    have ih := len_counts fun z hz => m z (List.mem_cons_of_mem y hz)
    have hy := m y List.mem_cons_self
    have key : ∀ z ∈ L4, (if z == ("a" : Str) then 1 else 0) + (if z == ("b" : Str) then 1 else 0) + (if z == ("c" : Str) then 1 else 0) + (if z == ("d9" : Str) then 1 else 0) = 1 := by decide +kernel
    have := key y hy
    rw [List.length_cons, List.count_cons, List.count_cons, List.count_cons, List.count_cons, ih]
    omega
theorem len4 {ys : List Str} (m : ∀ y ∈ ys, y ∈ L4) (nd : ys.Nodup) : ys.length ≤ 4 := by
  rw [len_counts m]
  have h := fun z : Str => List.nodup_iff_count.mp nd z
  have h1 := h "a"
  have h2 := h "b"
  have h3 := h "c"
  have h4 := h "d9"
  omega
/-- a dict's names, sorted -/
theorem sorted_names {ys : List Str} {M : Nm} (m : ∀ y, y ∈ ys ↔ (M y).isSome = true) (out : ∀ z, z ∉ L4 → M z = none) (nd : ys.Nodup) (s : sortedS ys = true) : ys = L4.filter fun z => (M z).isSome := by
  have m4 : ∀ y ∈ ys, y ∈ L4 := fun y hy => by
    by_cases h : y ∈ L4
    · exact h
    · have := (m y).mp hy
      rw [out y h] at this
      cases this
  have e := lists4_ok ys (lists4_mem (len4 m4 nd) m4) s nd
  refine e.trans (List.filter_congr fun z _ => ?_)
  by_cases h : z ∈ ys
  · rw [decide_eq_true h, (m z).mp h]
  · rw [decide_eq_false h]
    cases q : (M z).isSome with
    | true => exact absurd ((m z).mpr q) h
    | false => rfl
theorem namesL_eq (M : Nm) : namesL M = (L4.filter fun z => (M z).isSome).map fun z => (z, (M z).getD []) := by
  unfold namesL
  induction L4 with
  | nil => rfl
  | cons x r ih =>
    rw [List.filterMap_cons, List.filter_cons]
    cases h : M x with
    | none =>
      rw [if_neg (by decide)]
      exact ih
    | some k =>
      rw [if_pos (show (some k).isSome = true from rfl), List.map_cons, ← ih, h]
      rfl
theorem namesL_mem {M : Nm} {r : Str × List Int} (h : r ∈ namesL M) : r.1 ∈ L4 ∧ M r.1 = some r.2 := by
  unfold namesL at h
  obtain ⟨z, hz, e⟩ := List.mem_filterMap.mp h
  cases q : M z with
  | none =>
    rw [q] at e
    cases e
  | some k =>
    rw [q] at e
    obtain rfl := Option.some.inj e
    exact ⟨hz, q⟩
theorem namesL_len (M : Nm) : (namesL M).length ≤ 4 := by
  unfold namesL
  exact Nat.le_trans (List.length_filterMap_le _ _) (by decide)
theorem namesL_inj {M N : Nm} (hM : ∀ z, z ∉ L4 → M z = none) (hN : ∀ z, z ∉ L4 → N z = none) (h : namesL M = namesL N) : M = N := by
  have one : ∀ {M N : Nm}, namesL M = namesL N → ∀ z ∈ L4, ∀ k, M z = some k → N z = some k := fun {M N} h z hz k e => by
    have m : (z, k) ∈ namesL M := List.mem_filterMap.mpr ⟨z, hz, by rw [e]; rfl⟩
    rw [h] at m
    exact (namesL_mem m).2
  funext z
  by_cases hz : z ∈ L4
  · cases e : M z with
    | some k => exact (one h z hz k e).symm
    | none =>
      cases e2 : N z with
      | none => rfl
      | some k =>
        rw [one h.symm z hz k e2] at e
        cases e
  · rw [hM z hz, hN z hz]
/-! ### the promises -/
/-- list(x), tuple(x) -/
abbrev rList (K : PySem.W.Frag) : List V → Hp → VK → Prop := fun xs H Q => ∃ p ys, xs = [.ref p] ∧ (SqL K H p ys ∨ SqT K H p ys) ∧ ∀ l, H l = none → Q (.ref l) (upd H l (.lst ys))
abbrev rTuple (K : PySem.W.Frag) : List V → Hp → VK → Prop := fun xs H Q => ∃ p ys, xs = [.ref p] ∧ ((SqL K H p ys ∧ ∀ l, H l = none → Q (.ref l) (upd H l (.tup ys))) ∨ (SqT K H p ys ∧ Q (.ref p) H))
/-- .. not the list l -/
def NameNo (l : Addr) (H : Hp) (v : V) (r : Str × List Int) : Prop := ∃ t b : Addr, v = .ref t ∧ H t = some (.tup [.str r.1, .ref b]) ∧ H b = some (.lst (il r.2)) ∧ b ≠ l
def RetN (M : Nm) (H : Hp) (Q : VK) : Prop := ∀ (l : Addr) (ts : List V) (H' : Hp), H l = none → Same H H' → H' l = some (.lst ts) → NamesAt H' ts (namesL M) → Q (.ref l) H'
def spCheckTime (K : PySem.W.Frag) : Sp := fun vs H Q _ => ∃ (a : DA) (A : SA) (D : Dk) (S : Sr), vs = [.ref A.q] ∧ WAt K H a A D S ∧ S.crashes = D.crashes ∧ Q .non H
def spSeed (K : PySem.W.Frag) : Sp := fun vs H Q _ => ∃ (a : DA) (A : SA) (D : Dk) (S : Sr), vs = [.ref A.q] ∧ WAt K H a A D S ∧ RetL (il S.seed) H Q
def spSecret (K : PySem.W.Frag) : Sp := fun vs H Q _ => ∃ (a : DA) (A : SA) (D : Dk) (S : Sr), vs = [.ref A.q] ∧ WAt K H a A D S ∧ RetL (il S.secret) H Q
def spNameKey (K : PySem.W.Frag) : Sp := fun vs H Q _ => ∃ (a : DA) (A : SA) (D : Dk) (S : Sr) (z : Str), vs = [.ref A.q, .str z] ∧ WAt K H a A D S ∧ (match S.M z with
  | none => Q .non H
  | some k => RetL (il k) H Q)
def spNames (K : PySem.W.Frag) : Sp := fun vs H Q _ => ∃ (a : DA) (A : SA) (D : Dk) (S : Sr), vs = [.ref A.q] ∧ WAt K H a A D S ∧ RetN S.M H Q
def spState (K : PySem.W.Frag) : Sp := fun vs H Q _ => ∃ (a : DA) (A : SA) (D : Dk) (S : Sr), vs = [.ref A.q] ∧ WAt K H a A D S ∧
  ∀ (p : Addr) (x1 x2 x3 : V) (H' : Hp), H p = none → Same H H' → H' p = some (.tup [.int S.gen, x1, x2, x3, .int S.next, .int S.limit]) → Q (.ref p) H'
/-- a name's value in the dict -/
theorem NmAt.get {H : Hp} {O : Addr → Prop} {kvs : List (Key × V)} {M : Nm} {d : Addr} (x : NmAt H O kvs M) (hd : H d = some (.dK kvs)) (z : Str) :
    (M z = none → DGet H d (.str z) none) ∧ (∀ xs, M z = some xs → ∃ k, DGet H d (.str z) (some (.ref k)) ∧ H k = some (.lst (il xs)) ∧ ¬ O k) := by
  have g : DGet H d (kV (Sum.inr z : Key)) (valV kvs (Sum.inr z : Key)) := .k hd
  cases e : valV kvs (Sum.inr z : Key) with
  | none =>
    rw [e] at g
    rw [x.none_ z e]
    exact ⟨fun _ => g, fun xs h => by cases h⟩
  | some v =>
    rw [e] at g
    obtain ⟨k, xs, rfl, h2, h3, h4⟩ := x.some_ z v e
    rw [h4]
    refine ⟨(fun h => by cases h), fun ys h => ?_⟩
    cases h
    exact ⟨k, g, h2, h3⟩
section
variable {P : Program} {w : World} {K : PySem.W.Frag} {mg : Str → Option Value} {base : Heap}
theorem sc_check_time : FnScope ["self"] ["self"] (defScope s_Store_check_time) := ⟨rfl, rfl, rfl, by decide +kernel, rfl, by decide +kernel, by decide +kernel⟩
theorem ok_check_time (T : Txt K mg) : Df P w K mg base 2 ("Store", some "check_time") ["self"] (spCheckTime K) := by
  refine df_nox T.F_Store_check_time sc_check_time (fun _ _ _ _ _ _ us hl => match us, hl with | [_], _ => rfl) (fun vs H Q E h => ?_) (fun cdv A outer s H vs Q E hr h => ?_)
  · obtain ⟨a, A, D, S, rfl, _⟩ := h
    rfl
  · obtain ⟨a, A, D, S, rfl, W, hc, q⟩ := h
    refine ⟨_, pss_one (ps_if (pt_cmpR op_ne (eMethX0 (ok_crashes T) hr (by decide) T.c_Disk T.m_Disk_crashes passN (pe_fld (pv 0) rfl)) (pe_fld (pv 0) rfl) (nomark _)) pss_never pss_nil), ?_⟩
    refine ⟨_, rfl, aF W.ob T.c_Store T.n_Store_disk stF_disk ⟨a.p, _, _, rfl, W.dk.ob, dF_no (by decide +kernel), a, D, rfl, W.dk, ?_⟩⟩
    refine ⟨_, rfl, aF W.ob T.c_Store T.n_Store_crashes stF_crashes ⟨rfl, _, rfl, ne_int (fun c => absurd hc.symm c) (fun _ => q)⟩⟩
theorem sc_seed : FnScope ["self"] ["self"] (defScope s_Store_seed) := ⟨rfl, rfl, rfl, by decide +kernel, rfl, by decide +kernel, by decide +kernel⟩
theorem ok_seed (T : Txt K mg) : Df P w K mg base 1 ("Store", some "seed") ["self"] (spSeed K) := by
  refine df_nox T.F_Store_seed sc_seed (fun _ _ _ _ _ _ us hl => match us, hl with | [_], _ => rfl) (fun vs H Q E h => ?_) (fun cdv A outer s H vs Q E hr h => ?_)
  · obtain ⟨a, A, D, S, rfl, _⟩ := h
    rfl
  · obtain ⟨a, A, D, S, rfl, W, q⟩ := h
    refine ⟨_, pss_one (ps_ret (pe_callTy call_list_of rfl T.z_list boot_list (pa_cons (pe_fld (pv 0) rfl) pa_nil))), ?_⟩
    refine ⟨_, rfl, aF W.ob T.c_Store T.n_Store_seed stF_seed ⟨A.sd, _, rfl, .inl (seq_at W.hsd), fun l hl => ?_⟩⟩
    exact q.at (Same.refl H) hl
theorem sc_secret : FnScope ["self"] ["self"] (defScope s_Store_secret) := ⟨rfl, rfl, rfl, by decide +kernel, rfl, by decide +kernel, by decide +kernel⟩
theorem ok_secret (T : Txt K mg) : Df P w K mg base 1 ("Store", some "secret") ["self"] (spSecret K) := by
  refine df_nox T.F_Store_secret sc_secret (fun _ _ _ _ _ _ us hl => match us, hl with | [_], _ => rfl) (fun vs H Q E h => ?_) (fun cdv A outer s H vs Q E hr h => ?_)
  · obtain ⟨a, A, D, S, rfl, _⟩ := h
    rfl
  · obtain ⟨a, A, D, S, rfl, W, q⟩ := h
    refine ⟨_, pss_one (ps_ret (pe_ifExp (pt_cmpR op_isN (pe_fld (pv 0) rfl) pe_non (nomark _)) pe_non (pe_callTy call_list_of rfl T.z_list boot_list (pa_cons (pe_fld (pv 0) rfl) pa_nil)))), ?_⟩
    refine ⟨_, rfl, aF W.ob T.c_Store T.n_Store_secret stF_secret ⟨rfl, _, rfl, iteF ?_⟩⟩
    refine ⟨_, rfl, aF W.ob T.c_Store T.n_Store_secret stF_secret ⟨A.sc, _, rfl, .inl (seq_at W.hsc), fun l hl => ?_⟩⟩
    exact q.at (Same.refl H) hl
theorem sc_name_key : FnScope ["self", "name", "key"] ["self", "name"] (defScope s_Store_name_key) := ⟨rfl, rfl, rfl, by decide +kernel, rfl, by decide +kernel, by decide +kernel⟩
theorem ok_name_key (T : Txt K mg) : Df P w K mg base 1 ("Store", some "name_key") ["self", "name"] (spNameKey K) := by
  refine df_nox T.F_Store_name_key sc_name_key (fun _ _ _ _ _ _ us hl => match us, hl with | [_, _], _ => rfl) (fun vs H Q E h => ?_) (fun cdv A outer s H vs Q E hr h => ?_)
  · obtain ⟨a, A, D, S, z, rfl, _⟩ := h
    rfl
  · obtain ⟨a, A, D, S, z, rfl, W, q⟩ := h
    have nd := sc_name_key.nd
    have hu := hu65 hr
    refine ⟨_, pss_cons (ps_set (i := 2) nd rfl (Or.inl rfl) (pe_dget1 (hu1 hr) (pe_fld (pv 0) rfl) (pv 1) ⟨rfl, rfl, rfl, rfl⟩))
      (pss_one (ps_ret (pe_ifExp (pt_cmpR op_isN (pv 2) pe_non (nomark _)) pe_non (pe_callTy call_list_of rfl T.z_list boot_list (pa_cons (pv 2) pa_nil))))), ?_⟩
    obtain ⟨g0, g1⟩ := W.nm.get W.hd z
    refine ⟨_, rfl, aF W.ob T.c_Store T.n_Store_names stF_names ⟨A.d, rfl, .inl ⟨_, .inl W.hd⟩, _, rfl, ?_⟩⟩
    cases e : S.M z with
    | none =>
      rw [e] at q
      exact ⟨none, g0 e, _, rfl, rfl, _, rfl, iteT q⟩
    | some xs =>
      rw [e] at q
      obtain ⟨k, gk, hk, no⟩ := g1 xs e
      refine ⟨_, gk, _, rfl, rfl, _, rfl, iteF ?_⟩
      exact ⟨_, rfl, k, _, rfl, .inl (seq_at hk), fun l hl => q.at (Same.refl H) hl⟩
theorem sc_names : FnScope ["self", "name"] ["self"] (defScope s_Store_names) := ⟨rfl, rfl, rfl, by decide +kernel, rfl, by decide +kernel, by decide +kernel⟩
theorem ok_names (T : Txt K mg) : Df P w K mg base 1 ("Store", some "names") ["self"] (spNames K) := by
  refine df_nox T.F_Store_names sc_names (fun _ _ _ _ _ _ us hl => match us, hl with | [_], _ => rfl) (fun vs H Q E h => ?_) (fun cdv A outer s H vs Q E hr h => ?_)
  · obtain ⟨a, A, D, S, rfl, _⟩ := h
    rfl
  · obtain ⟨a, A, D, S, rfl, W, q⟩ := h
    have nd := sc_names.nd
    have hu := hu65 hr
    refine ⟨_, pss_one (ps_ret (pe_lc (own := [("name", 1)]) (g := gName 1) (tt := tYes) (te := tTup (tCons (tVar 1) (tCons (tCB (rList K) (tCons (tDGet (tFld K (tVar 0) "_names") (tVar 1)) tNil)) tNil))) rfl nd (pi_list (pe_callB (call_sortedD rfl) rfl T.z_sorted boot_sorted (pa_cons (pe_fld (pv 0) rfl) pa_nil))) (blkOk_by (own := [("name", 1)]) (N := ["self", "name"]) (sc := defScope s_Store_names) (by decide +kernel))
      (fun _ _ _ _ _ => pg_name (i := 1) nd rfl (Or.inl rfl)) (fun _ _ _ _ _ => pts_nil) (fun _ _ _ _ _ => pe_tup (pa_cons (pv 1) (pa_cons (pe_callTy call_list_of rfl T.z_list boot_list (pa_cons (by exact pe_dget (hu1 hr) (by exact pe_fld (pv 0) rfl) (pv 1) (fun _ _ => rfl)) pa_nil)) pa_nil))))), ?_⟩
    have kl : (kNames A.kvs).length < 64 := by
      have := len4 (ys := kNames A.kvs) (fun y hy => by
        by_cases h : y ∈ L4
        · exact h
        · have := (W.nm.kmem y).mp hy
          rw [W.nm.out y h] at this
          cases this) W.nm.knd
      omega
    refine ⟨_, rfl, aF W.ob T.c_Store T.n_Store_names stF_names ⟨A.d, _, kNames A.kvs, rfl, .inl W.hd, W.nm.ks, kl, fun ys p hp hs hn => ?_⟩⟩
    have ey : ys = L4.filter fun z => (S.M z).isSome := sorted_names (fun y => (hp.mem_iff).trans (W.nm.kmem y)) W.nm.out (hp.nodup_iff.mpr W.nm.knd) hs
    have e1 := (Same.refl H).nw (o := .lst (ys.map V.str)) hn
    refine ⟨p, rfl, ⟨_, seq_at upd_same⟩, fun D hD => ?_⟩
    have npD : p ≠ D := ne_of_none upd_same hD
    have hDH : H D = none := e1.free hD
    refine lc_list (fun i H' => Same H H' ∧ H' p = some (.lst (ys.map V.str)) ∧ ∃ ts, H' D = some (.lst ts) ∧ Paired (NameNo D H') ts ((ys.map fun z => (z, (S.M z).getD [])).take i)) ⟨e1.nw hD, by rw [upd_ne npD]; exact upd_same, [], upd_same, .nil⟩ (fun i H' _ ⟨_, g, _⟩ => seq_at g) ?_ ?_
    · rintro i x H2 hx ⟨e2, g2, ts, g3, hts⟩
      rw [List.getElem?_map] at hx
      cases hz : ys[i]? with
      | none =>
        rw [hz] at hx
        cases hx
      | some z =>
        rw [hz] at hx
        obtain rfl := Option.some.inj hx
        have hzm : z ∈ ys := List.mem_of_getElem? hz
        have hz2 : (S.M z).isSome = true := (W.nm.kmem z).mp (hp.mem_iff.mp hzm)
        obtain ⟨xs, hxs⟩ := Option.isSome_iff_exists.mp hz2
        have W2 := W.same e2
        obtain ⟨k, gk, hk, no⟩ := (W2.nm.get W2.hd z).2 xs hxs
        refine ⟨rfl, _, rfl, _, rfl, aF W2.ob T.c_Store T.n_Store_names stF_names ⟨_, rfl, A.d, _, rfl, gk, k, _, rfl, .inl (seq_at hk), fun b hb => ⟨by show 2 ≤ sizeLine; decide, fun t ht => ?_⟩⟩⟩
        have nDb : D ≠ b := ne_of_none g3 hb
        have nDt : D ≠ t := ne_of_none (by rw [upd_ne nDb]; exact g3) ht
        have nbt : b ≠ t := ne_of_none upd_same ht
        have tl : ts.length = ((ys.map fun z => (z, (S.M z).getD [])).take i).length := Paired.length hts
        have yl : ys.length ≤ 4 := by
          rw [ey]
          exact Nat.le_trans (List.length_filter_le _ _) (by decide)
        refine ⟨ts, by rw [upd_ne nDt, upd_ne nDb]; exact g3, line_lt (by rw [tl, List.length_take, List.length_map]; omega), (e2.nw hb).nw ht |>.mt hDH, ?_, ts ++ [.ref t], upd_same, ?_⟩
        · have n1 : p ≠ b := ne_of_none g2 hb
          have n2 : p ≠ t := ne_of_none (by rw [upd_ne n1]; exact g2) ht
          rw [upd_ne npD, upd_ne n2, upd_ne n1]
          exact g2
        · have hm : (ys.map fun z => (z, (S.M z).getD []))[i]? = some (z, xs) := by
            rw [List.getElem?_map, hz]
            show some (z, (S.M z).getD []) = _
            rw [hxs]
            rfl
          rw [take_more hm]
          refine Paired.snoc (Paired.mapP hts fun v r' y => ?_) ⟨t, b, rfl, ?_, ?_, nDb.symm⟩
          · obtain ⟨t', b', h1, h2, h3, h4⟩ := y
            have m1 : t' ≠ D := ne_of h2 g3 (by intro z; cases z)
            have m2 : t' ≠ b := ne_of_none h2 hb
            have m3 : t' ≠ t := ne_of_none (by rw [upd_ne m2]; exact h2) ht
            have m4 : b' ≠ b := ne_of_none h3 hb
            have m5 : b' ≠ t := ne_of_none (by rw [upd_ne m4]; exact h3) ht
            refine ⟨t', b', h1, ?_, ?_, h4⟩
            · rw [upd_ne m1, upd_ne m3, upd_ne m2]
              exact h2
            · rw [upd_ne h4, upd_ne m5, upd_ne m4]
              exact h3
          · rw [upd_ne nDt.symm]
            exact upd_same
          · rw [upd_ne nDb.symm, upd_ne nbt]
            exact upd_same
    · rintro H2 ⟨e2, g2, ts, g3, hts⟩
      rw [List.length_map, List.take_of_length_le (by rw [List.length_map]; exact Nat.le_refl _), ey, ← namesL_eq] at hts
      exact q D ts H2 hDH e2 g3 (Paired.mapP hts fun _ _ ⟨t, b, h1, h2, h3, _⟩ => ⟨t, b, h1, h2, h3⟩)
end
end Hush
set_option Elab.async false
set_option linter.all false
set_option maxRecDepth 100000
set_option maxHeartbeats 4000000
/-! store: state, check_name. -/
namespace Hush
open PySem PySem.Spec PyProof.Rows L2
def spCheckName (K : PySem.W.Frag) : Sp := fun vs H Q _ => ∃ (a : DA) (A : SA) (D : Dk) (S : Sr) (z : Str) (k : Addr) (xs : List Int), vs = [.ref A.q, .str z, .ref k] ∧ WAt K H a A D S ∧ z ∈ L4 ∧ SqL K H k (il (pubKey xs)) ∧ RetV .non H Q
section
variable {P : Program} {w : World} {K : PySem.W.Frag} {mg : Str → Option Value} {base : Heap}
theorem sc_state : FnScope ["self", "names", "secret", "name", "key"] ["self"] (defScope s_Store_state) := ⟨rfl, rfl, rfl, by decide +kernel, rfl, by decide +kernel, by decide +kernel⟩
theorem ok_state (T : Txt K mg) : Df P w K mg base 2 ("Store", some "state") ["self"] (spState K) := by
  refine df_nox T.F_Store_state sc_state (fun _ _ _ _ _ _ us hl => match us, hl with | [_], _ => rfl) (fun vs H Q E h => ?_) (fun cdv A outer s H vs Q E hr h => ?_)
  · obtain ⟨a, A, D, S, rfl, _⟩ := h
    rfl
  · obtain ⟨a, A, D, S, rfl, W, q⟩ := h
    have nd := sc_state.nd
    refine ⟨_, pss_cons (ps_set (i := 1) nd rfl (Or.inl rfl) (pe_callTy call_tuple_of rfl T.z_tuple boot_tuple (pa_cons
        (pe_lc (own := [("name", 3), ("key", 4)]) (g := gTup K 2 (gCons (gName 3) (gCons (gName 4) gNil))) (tt := tYes) (te := tTup (tCons (tVar 3) (tCons (tCB (rTuple K) (tCons (tVar 4) tNil)) tNil))) rfl nd
          (pi_list (eMethX0 (ok_names T) hr (by decide) T.c_Store T.m_Store_names passN (pv 0))) (blkOk_by (own := [("name", 3), ("key", 4)]) (N := ["self", "names", "secret", "name", "key"]) (sc := defScope s_Store_state) (by decide +kernel))
          (fun _ _ _ _ _ => pg_tup rfl (pgs_cons (pg_name (i := 3) nd rfl (Or.inl rfl)) (pgs_cons (pg_name (i := 4) nd rfl (Or.inl rfl)) pgs_nil))) (fun _ _ _ _ _ => pts_nil)
          (fun _ _ _ _ _ => pe_tup (pa_cons (pv 3) (pa_cons (pe_callTy call_tuple_of rfl T.z_tuple boot_tuple (pa_cons (pv 4) pa_nil)) pa_nil)))) pa_nil)))
      (pss_cons (ps_set (i := 2) nd rfl (Or.inl rfl) (pe_ifExp (pt_cmpR op_isN (pe_fld (pv 0) rfl) pe_non (nomark _)) pe_non (pe_callTy call_tuple_of rfl T.z_tuple boot_tuple (pa_cons (pe_fld (pv 0) rfl) pa_nil))))
      (pss_one (ps_ret (pe_tup (pa_cons (pe_fld (pv 0) rfl) (pa_cons (pe_callTy call_tuple_of rfl T.z_tuple boot_tuple (pa_cons (pe_fld (pv 0) rfl) pa_nil)) (pa_cons (pv 2) (pa_cons (pv 1) (pa_cons (pe_fld (pv 0) rfl) (pa_cons (pe_fld (pv 0) rfl) pa_nil)))))))))), ?_⟩
    refine ⟨_, rfl, A.q, _, _, rfl, W.ob, stF_no (by decide +kernel), a, A, D, S, rfl, W, fun l ts H1 f1 e1 gl hts => ?_⟩
    refine ⟨l, rfl, ⟨_, seq_at gl⟩, fun D1 hD => ?_⟩
    have nlD : l ≠ D1 := ne_of_none gl hD
    have hDH : H D1 = none := e1.free hD
    have tl : ts.length ≤ 4 := by
      rw [Paired.length hts]
      exact namesL_len _
    refine lc_list (xs := ts) (fun i H' => Same H H' ∧ H' l = some (.lst ts) ∧ (∀ v ∈ ts, ∃ (t b : Addr) (z : Str) (xs : List V), v = .ref t ∧ H' t = some (.tup [.str z, .ref b]) ∧ H' b = some (.lst xs) ∧ b ≠ D1) ∧ ∃ acc, H' D1 = some (.lst acc) ∧ acc.length = i) ?_ (fun i H' _ h => seq_at h.2.1) ?_ ?_
    · refine ⟨e1.nw hD, by rw [upd_ne nlD]; exact gl, fun v hv => ?_, [], upd_same, rfl⟩
      obtain ⟨j, hj⟩ := List.getElem?_of_mem hv
      obtain ⟨r, _, t, b, rfl, h1, h2⟩ := paired_get hts hj
      have n1 : t ≠ D1 := ne_of_none h1 hD
      have n2 : b ≠ D1 := ne_of_none h2 hD
      exact ⟨t, b, r.1, _, rfl, by rw [upd_ne n1]; exact h1, by rw [upd_ne n2]; exact h2, n2⟩
    · rintro i x H2 hx ⟨e2, g2, hall, acc, g3, hacc⟩
      obtain ⟨t, b, z, xs, rfl, h1, h2, h3⟩ := hall x (List.mem_of_getElem? hx)
      have hi : i < ts.length := (List.getElem?_eq_some_iff.mp hx).1
      refine ⟨t, _, rfl, seqT_at h1, rfl, _, _, rfl, _, _, rfl, rfl, rfl, _, rfl, _, rfl, b, _, rfl, .inl ⟨seq_at h2, fun c hc => ⟨by show 2 ≤ sizeLine; decide, fun u hu => ?_⟩⟩⟩
      have nDc : D1 ≠ c := ne_of_none g3 hc
      have nDu : D1 ≠ u := ne_of_none (by rw [upd_ne nDc]; exact g3) hu
      have old : ∀ y o, H2 y = some o → y ≠ D1 → ∀ o2, upd (upd (upd H2 c (.tup xs)) u (.tup [.str z, .ref c])) D1 o2 y = some o := fun y o hy n o2 => by
        have n1 : y ≠ c := ne_of_none hy hc
        have n2 : y ≠ u := ne_of_none (by rw [upd_ne n1]; exact hy) hu
        rw [upd_ne n, upd_ne n2, upd_ne n1]
        exact hy
      refine ⟨acc, by rw [upd_ne nDu, upd_ne nDc]; exact g3, line_lt (by omega), ((e2.nw hc).nw hu).mt hDH, old _ _ g2 nlD _, fun v hv => ?_, _, upd_same, by rw [List.length_append, hacc]; rfl⟩
      obtain ⟨t', b', z', xs', h1', h2', h3', h4'⟩ := hall v hv
      exact ⟨t', b', z', xs', h1', old _ _ h2' (ne_of h2' g3 (by intro q; cases q)) _, old _ _ h3' h4' _, h4'⟩
    · rintro H2 ⟨e2, g2, _, acc, g3, _⟩
      refine ⟨D1, _, rfl, .inl ⟨seq_at g3, fun p1 hp1 => ?_⟩⟩
      have e3 := e2.nw (o := .tup acc) hp1
      have W3 := W.same e3
      refine ⟨_, rfl, aF W3.ob T.c_Store T.n_Store_secret stF_secret ⟨rfl, _, rfl, iteF ?_⟩⟩
      refine ⟨_, rfl, aF W3.ob T.c_Store T.n_Store_secret stF_secret ⟨A.sc, _, rfl, .inl ⟨seq_at W3.hsc, fun p2 hp2 => ?_⟩⟩⟩
      have e4 := e3.nw (o := .tup (il S.secret)) hp2
      have W4 := W.same e4
      refine ⟨_, rfl, aF W4.ob T.c_Store T.n_Store_generation stF_gen ?_⟩
      refine ⟨_, rfl, aF W4.ob T.c_Store T.n_Store_seed stF_seed ⟨A.sd, _, rfl, .inl ⟨seq_at W4.hsd, fun p3 hp3 => ?_⟩⟩⟩
      have e5 := e4.nw (o := .tup (il S.seed)) hp3
      have W5 := W.same e5
      refine ⟨_, rfl, _, rfl, _, rfl, aF W5.ob T.c_Store T.n_Store_next stF_next ⟨_, rfl, aF W5.ob T.c_Store T.n_Store_limit stF_limit ⟨by show 6 ≤ sizeLine; decide, fun p hp => ?_⟩⟩⟩
      exact q p _ _ _ _ (e5.free hp) (e5.nw hp) upd_same
theorem sc_check_name : FnScope ["self", "name", "key"] ["self", "name", "key"] (defScope s_Store_check_name) := ⟨rfl, rfl, rfl, by decide +kernel, rfl, by decide +kernel, by decide +kernel⟩
theorem ok_check_name (T : Txt K mg) : Df P w K mg base 4 ("Store", some "check_name") ["self", "name", "key"] (spCheckName K) := by
  refine df_nox T.F_Store_check_name sc_check_name (fun _ _ _ _ _ _ us hl => match us, hl with | [_, _, _], _ => rfl) (fun vs H Q E h => ?_) (fun cdv A outer s H vs Q E hr h => ?_)
  · obtain ⟨a, A, D, S, z, k, xs, rfl, _⟩ := h
    rfl
  · obtain ⟨a, A, D, S, z, k, xs, rfl, W, hz, hk, q⟩ := h
    refine ⟨_, pss_cons (ps_if (pt_not (pt_val (eCall (ok_is_name T) hr (by decide) T.g_is_name (pa_cons (pv 1) pa_nil)))) pss_never pss_nil)
      (pss_cons (ps_expr (eCall (ok_check_key T) hr (by decide) T.g_check_key (pa_cons (pe_fld (pv 0) rfl) (pa_cons (pv 2) pa_nil))))
      (pss_one (ps_if (pt_val (eMethX (ok_is_weak T) hr (by decide) T.c_SmallSuite T.m_SmallSuite_is_weak passN (pe_fld (pv 0) rfl) (pa_cons (pv 2) pa_nil))) pss_never pss_nil))), ?_⟩
    refine ⟨_, rfl, z, rfl, hz, fun H1 e1 => ⟨_, rfl, iteF ?_⟩⟩
    have W1 := W.same e1
    obtain ⟨dx, hu⟩ := W1.hsu
    refine ⟨_, rfl, aF W1.ob T.c_Store T.n_Store_suite stF_suite ⟨_, rfl, A.su, k, _, rfl, ⟨dx, hu⟩, e1.seq hk, by rw [il_len]; exact pub_len xs, ?_⟩⟩
    refine ⟨_, rfl, aF W1.ob T.c_Store T.n_Store_suite stF_suite ⟨A.su, _, _, rfl, hu, suF_no (by decide +kernel), ?_⟩⟩
    refine ⟨_, rfl, A.su, k, xs, rfl, ⟨dx, hu⟩, e1.seq hk, fun H2 e2 => ⟨_, rfl, iteF ?_⟩⟩
    exact q H2 (e1.trans e2)
end
end Hush
set_option Elab.async false
set_option linter.all false
set_option maxRecDepth 100000
set_option maxHeartbeats 4000000
/-! store: pack, keep_record -/
namespace Hush
open PySem PySem.Spec PyProof.Rows L2
theorem ps_nox {X : Cx} {st : Stmt} {t : TS} (h : PS X.nox st t) : PS X st t := ⟨fun pins s σ H D I hw =>
  wpAny_mono (h.run pins s σ H D (I.wish _) hw) (fun _ _ q => q.unwish) fun _ _ z => False.elim z⟩
def krec (r : Str × List Int) : Int × List Int := (4, keyBody r.1 r.2)
def packHead (S : Sr) : List (Int × List Int) := [(1, beginBody (S.gen + 1) S.seed S.secret), (3, big 8 S.limit)]
def packRecs (S : Sr) : List (Int × List Int) := packHead S ++ (namesL S.M).map krec ++ [(2, [])]
def packBytes (S : Sr) : List Int := encAll (packRecs S)
structure SrOk (S : Sr) : Prop where
  l1 : S.seed.length = 16
  l2 : S.secret.length = 16
  b1 : Byt S.seed
  b2 : Byt S.secret
  g0 : 0 ≤ S.gen
  g1 : S.gen + 1 < 256 ^ 4
  m0 : 0 ≤ S.limit
  m1 : S.limit + 16 < 256 ^ 8
  nk : ∀ z xs, S.M z = some xs → xs.length = 16 ∧ Byt xs
abbrev Out : Type := Bool × Dk × Sr
def packM (D : Dk) (S : Sr) : Out :=
  if D.power = true then
    let D1 := D.cut (!S.bank) 0
    if D1.power = true then
      let D2 := D1.wr (!S.bank) (packBytes S)
      if D2.power = true then (true, D2.settle (!S.bank), { S with bank := !S.bank, gen := S.gen + 1 })
      else (false, D2, S)
    else (false, D1, S)
  else (false, D, S)
def appM (D : Dk) (S : Sr) (data : List Int) : Out :=
  if D.power = true then
    let D1 := D.wr S.bank data
    if D1.power = true then (true, D1.settle S.bank, S) else (false, D1, S)
  else (false, D, S)
def keepM (D : Dk) (S : Sr) (data : List Int) : Out :=
  if 65536 < (D.s S.bank ++ D.f S.bank).length + data.length then
    let r := packM D S
    if r.1 = true then appM r.2.1 r.2.2 data else r
  else appM D S data
/-- what is wanted of a disk before a deed -/
structure DOk (D : Dk) : Prop where
  sz : ∀ b, (D.s b).length ≤ 65536
  fz : ∀ b, (D.f b).length ≤ 100000
  ps : D.power = true → D.f = fun _ => []
/-- behind a deed -/
def Pst (K : PySem.W.Frag) (H : Hp) (a : DA) (A : SA) (r : Out) (E : XK) (G : SA → Hp → Prop) : Prop :=
  ∀ (H' : Hp) (a' : DA) (A' : SA), a'.p = a.p → A'.q = A.q → WAt K H' a' A' r.2.1 r.2.2 → Stp H (wown a A) H' (wown a' A') → (r.1 = true → G A' H') ∧ (r.1 = false → E (CPL K) none H')
theorem Pst.trans {K : PySem.W.Frag} {H H1 : Hp} {a a1 : DA} {A A1 : SA} {r : Out} {E : XK} {G : SA → Hp → Prop} (p : Pst K H a A r E G) (ea : a1.p = a.p) (eA : A1.q = A.q) (st : Stp H (wown a A) H1 (wown a1 A1)) : Pst K H1 a1 A1 r E G :=
  fun H' a' A' h1 h2 w s => p H' a' A' (h1.trans ea) (h2.trans eA) w (st.trans s)
theorem krec_ok {S : Sr} (o : SrOk S) {r : Str × List Int} (h : r ∈ namesL S.M) : RecOk (krec r) ∧ (keyBody r.1 r.2).length ≤ 49 := by
  obtain ⟨h1, h2⟩ := namesL_mem h
  obtain ⟨h3, h4⟩ := o.nk _ _ h2
  have l := keyBody_len r.1 r.2
  have l2 := (L4_ok _ h1).1.2
  have l3 := codes_len r.1
  exact ⟨⟨by show (1 : Int) ≤ 4; decide, by show (4 : Int) ≤ 5; decide, keyBody_byt h1 h4, by show (keyBody r.1 r.2).length ≤ 65535; omega⟩, by omega⟩
theorem head_ok {S : Sr} (o : SrOk S) : ∀ r ∈ packHead S, RecOk r := by
  intro r h
  rcases List.mem_cons.mp h with rfl | h
  · exact ⟨by show (1 : Int) ≤ 1; decide, by show (1 : Int) ≤ 5; decide, beginBody_byt o.b1 o.b2, by have := beginBody_len (S.gen + 1) S.seed S.secret; have := o.l1; have := o.l2; show (beginBody (S.gen + 1) S.seed S.secret).length ≤ 65535; omega⟩
  · obtain rfl := List.mem_singleton.mp h
    exact ⟨by show (1 : Int) ≤ 3; decide, by show (3 : Int) ≤ 5; decide, big_byt 8 _, by show (big 8 S.limit).length ≤ 65535; rw [big_len]; decide⟩
theorem packRecs_ok {S : Sr} (o : SrOk S) : ∀ r ∈ packRecs S, RecOk r := by
  intro r h
  rcases List.mem_append.mp h with h | h
  · rcases List.mem_append.mp h with h | h
    · exact head_ok o r h
    · obtain ⟨n, hn, rfl⟩ := List.mem_map.mp h
      exact (krec_ok o hn).1
  · obtain rfl := List.mem_singleton.mp h
    exact ⟨by decide, by decide, Byt.nil, Nat.zero_le _⟩
theorem head_len {S : Sr} (o : SrOk S) : (encAll (packHead S)).length = 61 := by
  show (recBytes 1 (beginBody (S.gen + 1) S.seed S.secret) ++ (recBytes 3 (big 8 S.limit) ++ [])).length = 61
  rw [List.append_nil, List.length_append, recBytes_len, recBytes_len, beginBody_len, big_len, o.l1, o.l2]
theorem krecs_len {S : Sr} (o : SrOk S) : ∀ {rs : List (Str × List Int)}, (∀ r ∈ rs, r ∈ namesL S.M) → (encAll (rs.map krec)).length ≤ rs.length * 57
  | [], _ => Nat.le_refl _
  | r :: rs, h => by
    have ih := krecs_len o (rs := rs) fun x hx => h x (List.mem_cons_of_mem _ hx)
    have hb := (krec_ok o (h r List.mem_cons_self)).2
    rw [List.map_cons, encAll_cons, List.length_append, List.length_cons]
    have : (recBytes (krec r).1 (krec r).2).length = 8 + (keyBody r.1 r.2).length := recBytes_len _ _
    omega
theorem packBytes_len {S : Sr} (o : SrOk S) : 69 ≤ (packBytes S).length ∧ (packBytes S).length ≤ 400 := by
  unfold packBytes packRecs
  rw [encAll_append, encAll_append, List.length_append, List.length_append, head_len o]
  have h1 := krecs_len o (rs := namesL S.M) fun _ h => h
  have h2 := namesL_len S.M
  have h3 : (encAll [((2 : Int), ([] : List Int))]).length = 8 := by rw [encAll_cons, encAll_nil, List.append_nil, recBytes_len]; rfl
  omega
def spPack (K : PySem.W.Frag) : Sp := fun vs H Q E => ∃ (a : DA) (A : SA) (D : Dk) (S : Sr), vs = [.ref A.q] ∧ WAt K H a A D S ∧ SrOk S ∧ DOk D ∧ S.crashes = D.crashes ∧ Pst K H a A (packM D S) E fun _ H' => Q .non H'
def spKeepRecord (K : PySem.W.Frag) : Sp := fun vs H Q E => ∃ (a : DA) (A : SA) (D : Dk) (S : Sr) (k : Int) (b : Addr) (xs : List Int), vs = [.ref A.q, .int k, .ref b] ∧ WAt K H a A D S ∧ SrOk S ∧ DOk D ∧ S.crashes = D.crashes ∧
  SqL K H b (il xs) ∧ RecOk (k, xs) ∧ xs.length ≤ 60 ∧ Pst K H a A (keepM D S (recBytes k xs)) E fun _ H' => Q .non H'
section
variable {P : Program} {w : World} {K : PySem.W.Frag} {mg : Str → Option Value} {base : Heap}
theorem sc_pack : FnScope ["self", "data", "name", "key", "other"] ["self"] (defScope s_Store_pack) := ⟨rfl, rfl, rfl, by decide +kernel, rfl, by decide +kernel, by decide +kernel⟩
theorem ok_pack (T : Txt K mg) : Df P w K mg base 4 ("Store", some "pack") ["self"] (spPack K) := by
  refine df_exc T.F_Store_pack sc_pack (fun _ _ _ _ _ _ us hl => match us, hl with | [_], _ => rfl) (fun vs H Q E h => ?_) (fun cdv A0 outer s H vs Q E hr h => ?_)
  · obtain ⟨a, A, D, S, rfl, _⟩ := h
    rfl
  · obtain ⟨a, A, D, S, rfl, W, o, dk, hcr, q⟩ := h
    have nd := sc_pack.nd
    refine ⟨_, pss_cons (ps_expr (eMethX0 (ok_check_time T) hr (by decide) T.c_Store T.m_Store_check_time passN (pv 0)))
      (pss_cons (ps_set (i := 1) nd rfl (Or.inl rfl) (eCall (ok_write_record T) hr (by decide) T.g_write_record (pa_cons (gI T.i_BEGIN) (pa_cons (eCall (ok_begin_body T) hr (by decide) T.g_begin_body (pa_cons (pe_op op_add (pe_fld (pv 0) rfl) pe_int) (pa_cons (pe_fld (pv 0) rfl) (pa_cons (pe_fld (pv 0) rfl) pa_nil)))) pa_nil))))
      (pss_cons (ps_set (i := 1) nd rfl (Or.inl rfl) (pe_op op_cat (pv 1) (eCall (ok_write_record T) hr (by decide) T.g_write_record (pa_cons (gI T.i_RESERVE) (pa_cons (eCall (ok_to_big T) hr (by decide) T.g_to_big (pa_cons (pe_fld (pv 0) rfl) (pa_cons pe_int pa_nil))) pa_nil)))))
      (pss_cons (ps_nox (ps_for PassesOwn.never rfl (pi_list (eMethX0 (ok_names T) hr (by decide) T.c_Store T.m_Store_names passN (pv 0))) (pg_tup rfl (pgs_cons (pg_name (i := 2) nd rfl (Or.inl rfl)) (pgs_cons (pg_name (i := 3) nd rfl (Or.inl rfl)) pgs_nil)))
        (pss_one (ps_set (i := 1) nd rfl (Or.inl rfl) (pe_op op_cat (pv 1) (eCall (ok_write_record T) hr (by decide) T.g_write_record (pa_cons (gI T.i_KEEP) (pa_cons (eCall (ok_key_body T) hr (by decide) T.g_key_body (pa_cons (pv 2) (pa_cons (pv 3) pa_nil))) pa_nil))))))))
      (pss_cons (ps_set (i := 1) nd rfl (Or.inl rfl) (pe_op op_cat (pv 1) (eCall (ok_write_record T) hr (by decide) T.g_write_record (pa_cons (gI T.i_COMPLETE) (pa_cons (pe_lst pa_nil) pa_nil)))))
      (pss_cons (ps_set (i := 4) nd rfl (Or.inl rfl) (pe_op op_sub pe_int (pe_fld (pv 0) rfl)))
      (pss_cons (ps_expr (eMethX (ok_cut T) hr (by decide) T.c_Disk T.m_Disk_cut (L2N.passes_call (L2N.takes_of rfl rfl rfl rfl) fun _ _ _ _ h => h) (pe_fld (pv 0) rfl) (pa_cons (pv 4) (pa_cons pe_int pa_nil))))
      (pss_cons (ps_expr (eMethX (ok_write T) hr (by decide) T.c_Disk T.m_Disk_write (L2N.passes_call (L2N.takes_of rfl rfl rfl rfl) fun _ _ _ _ h => h) (pe_fld (pv 0) rfl) (pa_cons (pv 4) (pa_cons (pv 1) pa_nil))))
      (pss_cons (ps_expr (eMethX (ok_settle T) hr (by decide) T.c_Disk T.m_Disk_settle (L2N.passes_call (L2N.takes_of rfl rfl rfl rfl) fun _ _ _ _ h => h) (pe_fld (pv 0) rfl) (pa_cons (pv 4) pa_nil)))
      (pss_cons (ps_fld (pv 0) (pv 4) rfl)
      (pss_one (ps_fldaug (pv 0) pe_int in_add))))))))))), ?_⟩
    refine ⟨_, rfl, A.q, _, _, rfl, W.ob, stF_no (by decide +kernel), a, A, D, S, rfl, W, hcr, ?_⟩
    -- the begin record
    refine ⟨_, rfl, aF W.ob T.c_Store T.n_Store_generation stF_gen ⟨_, _, rfl, rfl, _, rfl, aF W.ob T.c_Store T.n_Store_seed stF_seed ⟨_, rfl, aF W.ob T.c_Store T.n_Store_secret stF_secret ?_⟩⟩⟩
    refine ⟨S.gen + 1, A.sd, A.sc, S.seed, S.secret, rfl, by have := o.g0; omega, o.g1, seq_at W.hsd, seq_at W.hsc, by have := o.l1; omega, by have := o.l2; omega, fun p1 H1 f1 e1 g1 => ?_⟩
    have hd := head_ok o
    refine ⟨1, p1, _, rfl, seq_at g1, hd _ List.mem_cons_self, fun p2 H2 f2 e2 g2 => ?_⟩
    have e12 := e1.trans e2
    have W2 := W.same e12
    -- the reserve record
    refine ⟨_, rfl, _, rfl, aF W2.ob T.c_Store T.n_Store_limit stF_limit ⟨S.limit, 8, rfl, o.m0, by have := o.m1; show S.limit < 256 ^ 8; omega, by decide, fun p3 H3 f3 e3 g3 => ?_⟩⟩
    refine ⟨3, p3, _, rfl, seq_at g3, hd _ (List.mem_cons_of_mem _ List.mem_cons_self), fun p4 H4 f4 e4 g4 => ?_⟩
    have e24 := e3.trans e4
    have e14 := e12.trans e24
    refine ⟨p2, p4, _, _, rfl, rfl, e24 _ _ g2, g4, by rw [il_len, il_len, recBytes_len, recBytes_len, beginBody_len, big_len, o.l1, o.l2]; exact line_small (by decide), fun p5 f5 => ?_⟩
    have ed : il (recBytes 1 (beginBody (S.gen + 1) S.seed S.secret)) ++ il (recBytes 3 (big 8 S.limit)) = il (encAll (packHead S)) := by
      have e : encAll (packHead S) = recBytes 1 (beginBody (S.gen + 1) S.seed S.secret) ++ recBytes 3 (big 8 S.limit) := by
        show recBytes 1 (beginBody (S.gen + 1) S.seed S.secret) ++ (recBytes 3 (big 8 S.limit) ++ []) = _
        rw [List.append_nil]
      rw [e]
      exact (List.map_append ..).symm
    rw [ed]
    have e5 := e14.nw (o := .lst (il (encAll (packHead S)))) f5
    have W5 := W.same e5
    -- for name, key in self.names()
    refine ⟨_, rfl, A.q, _, _, rfl, W5.ob, stF_no (by decide +kernel), a, A, D, S, rfl, W5, fun l ts H6 f6 e6 gl hts => ?_⟩
    have e06 := e5.trans e6
    have ndl := namesL_len S.M
    have tl : ts.length = (namesL S.M).length := Paired.length hts
    refine ⟨l, rfl, ⟨_, seq_at gl⟩, for_list (K := K) (a := l) (xs := ts) (fun i σ H' => ∃ (p : Addr) (v2 v3 : Option V), σ = [some (.ref A.q), some (.ref p), v2, v3, none] ∧ Same H H' ∧ H' l = some (.lst ts) ∧ NamesAt H' ts (namesL S.M) ∧ H' p = some (.lst (il (encAll (packHead S ++ ((namesL S.M).take i).map krec)))))
      ⟨p5, none, none, rfl, e06, gl, hts, by rw [List.take_zero, List.map_nil, List.append_nil]; exact e6 _ _ upd_same⟩ (fun i σ H' _ ⟨_, _, _, _, _, g, _⟩ => seq_at g) ?_ ?_⟩
    · rintro i x σ H7 hx ⟨p, v2, v3, rfl, e7, g7, hts7, gp⟩
      obtain ⟨r, hr1, t, b, rfl, ht, hb⟩ := paired_get hts7 hx
      have hrm := List.mem_of_getElem? hr1
      obtain ⟨m1, m2⟩ := namesL_mem hrm
      obtain ⟨m3, m4⟩ := o.nk _ _ m2
      have hi : i < (namesL S.M).length := (List.getElem?_eq_some_iff.mp hr1).1
      refine ⟨t, _, rfl, seqT_at ht, rfl, _, _, rfl, _, _, rfl, rfl, ?_⟩
      refine ⟨_, rfl, _, rfl, _, rfl, r.1, b, r.2, rfl, m1, seq_at hb, by omega, fun p8 H8 f8 e8 g8 => ?_⟩
      refine ⟨4, p8, _, rfl, seq_at g8, (krec_ok o hrm).1, fun p9 H9 f9 e9 g9 => ?_⟩
      have e79 := e8.trans e9
      have hlen : (encAll (packHead S ++ ((namesL S.M).take i).map krec)).length ≤ 400 := by
        rw [encAll_append, List.length_append, head_len o]
        have := krecs_len o (rs := (namesL S.M).take i) fun _ h => List.mem_of_mem_take h
        rw [List.length_take] at this
        omega
      have kl := (krec_ok o hrm).2
      refine ⟨p, p9, _, _, rfl, rfl, e79 _ _ gp, g9, by rw [il_len, il_len, recBytes_len]; exact line_small (by omega), fun pa fa => ?_⟩
      have ee : il (encAll (packHead S ++ ((namesL S.M).take i).map krec)) ++ il (recBytes 4 (keyBody r.1 r.2)) = il (encAll (packHead S ++ ((namesL S.M).take (i + 1)).map krec)) := by
        rw [take_more hr1, List.map_append, ← List.append_assoc]
        have : encAll (packHead S ++ ((namesL S.M).take i).map krec ++ [krec r]) = encAll (packHead S ++ ((namesL S.M).take i).map krec) ++ recBytes 4 (keyBody r.1 r.2) := encAll_snoc _ _
        show _ = il (encAll (packHead S ++ ((namesL S.M).take i).map krec ++ [krec r]))
        rw [this]
        exact (List.map_append ..).symm
      rw [ee]
      have e7a : Same H7 (upd H9 pa (.lst (il (encAll (packHead S ++ ((namesL S.M).take (i + 1)).map krec))))) := e79.nw fa
      exact ⟨pa, _, _, rfl, e7.trans e7a, e7a _ _ g7, hts7.same e7a, upd_same⟩
    · rintro σ H7 ⟨p, v2, v3, rfl, e7, g7, hts7, gp⟩
      rw [tl, List.take_length] at gp
      refine ⟨_, rfl, by show 0 ≤ sizeLine; decide, fun p8 f8 => ?_⟩
      refine ⟨2, p8, [], rfl, seq_at upd_same, ⟨by decide, by decide, Byt.nil, Nat.zero_le _⟩, fun p9 H9 f9 e9 g9 => ?_⟩
      have e79 : Same H7 H9 := ((Same.refl H7).nw (o := .lst []) f8).trans e9
      have pl := (packBytes_len o).2
      have eb : packBytes S = encAll (packHead S ++ (namesL S.M).map krec) ++ recBytes 2 [] := encAll_snoc _ (2, [])
      refine ⟨p, p9, _, _, rfl, rfl, e79 _ _ gp, g9, ?_, fun pb fb => ?_⟩
      · rw [eb, List.length_append] at pl
        rw [il_len, il_len]
        exact line_small (by omega)
      have ee : il (encAll (packHead S ++ (namesL S.M).map krec)) ++ il (recBytes 2 []) = il (packBytes S) := by
        rw [eb]
        exact (List.map_append ..).symm
      rw [ee]
      have eA : Same H (upd H9 pb (.lst (il (packBytes S)))) := (e7.trans e79).nw fb
      have fbH : H pb = none := (e7.trans e79).free fb
      have WA := W.same eA
      -- other = 1 - self._bank
      refine ⟨_, rfl, aF WA.ob T.c_Store T.n_Store_bank stF_bank ⟨_, _, rfl, rfl, ?_⟩⟩
      have e1b : ((fun i j : Int => V.int (i - j)) 1 (bi S.bank)) = V.int (bi (!S.bank)) := congrArg V.int (bi_not _)
      rw [e1b]
      have stA : Stp H (wown a A) _ (wown a A) := Stp.of_same eA
      have npb : ¬ wown a A pb := W.new_not fbH
      have gpb : (upd H9 pb (.lst (il (packBytes S)))) pb = some (.lst (il (packBytes S))) := upd_same
      generalize upd H9 pb (.lst (il (packBytes S))) = HA at *
      unfold packM at q
      -- cut
      refine ⟨_, rfl, aF WA.ob T.c_Store T.n_Store_disk stF_disk ⟨a.p, _, _, rfl, WA.dk.ob, dF_no (by decide +kernel), _, rfl, a, D, !S.bank, 0, rfl, WA.dk, fun hp => ⟨by have := dk.ps hp; unfold Dk.pend; rw [this]; rfl, Nat.zero_le _⟩, fun hp HB aB pB dB sB => ?_, fun hp => ?_⟩⟩
      rotate_left
      · rw [if_neg (by rw [hp]; decide)] at q
        exact (q HA a A rfl rfl WA stA).2 rfl
      rw [if_pos hp] at q
      have hf := dk.ps hp
      obtain ⟨WB, stB⟩ := WA.disk dB pB sB
      obtain ⟨gB, nB⟩ := stB.get gpb npb
      have fB : (D.cut (!S.bank) 0).f = D.f := Dk.used_f D
      have sBo : (D.cut (!S.bank) 0).s (!S.bank) = [] := by
        show upB D.s (!S.bank) ((D.s (!S.bank)).take 0) (!S.bank) = []
        rw [upB_same]
        rfl
      generalize hDB : D.cut (!S.bank) 0 = DB at *
      -- write
      refine ⟨_, rfl, aF WB.ob T.c_Store T.n_Store_disk stF_disk ⟨aB.p, _, _, rfl, WB.dk.ob, dF_no (by decide +kernel), _, rfl, _, rfl, aB, DB, !S.bank, pb, packBytes S, rfl, WB.dk, gB, fun z => nB (.inl z), fun _ => ⟨by rw [fB, hf], by rw [fB, hf, sBo]; show 0 + 0 + (packBytes S).length ≤ 65536; omega⟩, fun hp2 HC dC sC => ?_, fun hp2 => ?_⟩⟩
      rotate_left
      · have q := q
        dsimp only at q
        rw [if_neg (by rw [hp2]; decide)] at q
        exact (q HB aB A pB rfl WB (stA.trans stB)).2 rfl
      dsimp only at q
      rw [if_pos hp2] at q
      obtain ⟨WC, stC⟩ := WB.disk dC rfl (Stp.of_fr sC)
      have fC : (DB.wr (!S.bank) (packBytes S)).f (!S.bank) = packBytes S := by
        show upB DB.f (!S.bank) (DB.f (!S.bank) ++ packBytes S) (!S.bank) = _
        rw [upB_same, fB, hf]
        rfl
      have sCo : (DB.wr (!S.bank) (packBytes S)).s (!S.bank) = [] := by
        show DB.used.s (!S.bank) = []
        rw [Dk.used_s, sBo]
      generalize hDC : DB.wr (!S.bank) (packBytes S) = DC at *
      -- settle
      refine ⟨_, rfl, aF WC.ob T.c_Store T.n_Store_disk stF_disk ⟨aB.p, _, _, rfl, WC.dk.ob, dF_no (by decide +kernel), _, rfl, aB, DC, !S.bank, rfl, WC.dk, by rw [fC, sCo]; show 0 + (packBytes S).length ≤ 1000000; omega, fun hp3 HD aD pD dD sD => ?_, fun hp3 => ?_⟩⟩
      rotate_left
      · rw [if_neg (by rw [hp3]; decide)] at q
        exact (q HC aB A pB rfl WC ((stA.trans stB).trans stC)).2 rfl
      rw [if_pos hp3] at q
      obtain ⟨WD, stD⟩ := WC.disk dD pD sD
      refine ⟨_, rfl, _, rfl, aW WD.ob T.c_Store T.n_Store_bank stF_len ?_⟩
      rw [stF_put_bank]
      obtain ⟨WE, stE⟩ := WD.nums (S' := { S with bank := !S.bank }) rfl rfl rfl
      refine ⟨_, rfl, A.q, _, _, _, _, rfl, WE.ob, T.c_Store, T.n_Store_generation, stF_gen, _, _, rfl, rfl, _, _, WE.ob, stF_len, ?_⟩
      rw [stF_put_gen]
      obtain ⟨WF, stF⟩ := WE.nums (S' := { S with bank := !S.bank, gen := S.gen + 1 }) rfl rfl rfl
      exact (q _ aD A (pD.trans pB) rfl WF (((((stA.trans stB).trans stC).trans stD).trans stE).trans stF)).1 rfl
end
end Hush
set_option Elab.async false
set_option linter.all false
set_option maxRecDepth 100000
set_option maxHeartbeats 4000000
/-! store: keep_record -/
namespace Hush
open PySem PySem.Spec PyProof.Rows L2
theorem packM_ok {D : Dk} {S : Sr} (pre : D.power = true → D.f = fun _ => []) (h : (packM D S).1 = true) :
    D.power = true ∧ (packM D S).2.2 = { S with bank := !S.bank, gen := S.gen + 1 } ∧ (packM D S).2.1.s (!S.bank) = packBytes S ∧ (packM D S).2.1.s S.bank = D.s S.bank ∧ (packM D S).2.1.f = (fun _ => []) ∧ (packM D S).2.1.crashes = D.crashes := by
  unfold packM at h ⊢
  by_cases h1 : D.power = true
  · rw [if_pos h1] at h ⊢
    dsimp only at h ⊢
    by_cases h2 : (D.cut (!S.bank) 0).power = true
    · rw [if_pos h2] at h ⊢
      by_cases h3 : ((D.cut (!S.bank) 0).wr (!S.bank) (packBytes S)).power = true
      · rw [if_pos h3]
        have hf := pre h1
        have nb : S.bank ≠ !S.bank := by cases S.bank <;> decide
        have f1 : (D.cut (!S.bank) 0).f = fun _ => [] := by
          show D.used.f = _
          rw [Dk.used_f, hf]
        have s1 : (D.cut (!S.bank) 0).s = upB D.s (!S.bank) [] := rfl
        have c1 : (D.cut (!S.bank) 0).crashes = D.crashes := Dk.used_crashes D
        generalize D.cut (!S.bank) 0 = D1 at *
        have f2 : (D1.wr (!S.bank) (packBytes S)).f = upB D1.f (!S.bank) (D1.f (!S.bank) ++ packBytes S) := rfl
        have s2 : (D1.wr (!S.bank) (packBytes S)).s = D1.s := Dk.used_s D1
        have c2 : (D1.wr (!S.bank) (packBytes S)).crashes = D1.crashes := Dk.used_crashes D1
        generalize D1.wr (!S.bank) (packBytes S) = D2 at *
        refine ⟨h1, rfl, ?_, ?_, ?_, ?_⟩
        · show upB D2.s (!S.bank) (D2.s (!S.bank) ++ D2.f (!S.bank)) (!S.bank) = _
          rw [upB_same, s2, s1, upB_same, f2, upB_same, f1]
          rfl
        · show upB D2.s (!S.bank) _ S.bank = _
          rw [upB_ne nb, s2, s1, upB_ne nb]
        · show upB D2.f (!S.bank) [] = _
          rw [f2, f1]
          funext c
          by_cases e : c = !S.bank
          · rw [e, upB_same]
          · rw [upB_ne e, upB_ne e]
        · show D2.used.crashes = _
          rw [Dk.used_crashes, c2, c1]
      · rw [if_neg h3] at h
        cases h
    · rw [if_neg h2] at h
      cases h
  · rw [if_neg h1] at h
    cases h
section
variable {P : Program} {w : World} {K : PySem.W.Frag} {mg : Str → Option Value} {base : Heap}
theorem sc_keep_record : FnScope ["self", "kind", "body", "data"] ["self", "kind", "body"] (defScope s_Store_keep_record) := ⟨rfl, rfl, rfl, by decide +kernel, rfl, by decide +kernel, by decide +kernel⟩
theorem ok_keep_record (T : Txt K mg) : Df P w K mg base 5 ("Store", some "keep_record") ["self", "kind", "body"] (spKeepRecord K) := by
  refine df_exc T.F_Store_keep_record sc_keep_record (fun _ _ _ _ _ _ us hl => match us, hl with | [_, _, _], _ => rfl) (fun vs H Q E h => ?_) (fun cdv A0 outer s H vs Q E hr h => ?_)
  · obtain ⟨a, A, D, S, k, b, xs, rfl, _⟩ := h
    rfl
  · obtain ⟨a, A, D, S, k, b, xs, rfl, W, o, dk, hcr, hb, hk, hxl, q⟩ := h
    have nd := sc_keep_record.nd
    refine ⟨_, pss_cons (ps_set (i := 3) nd rfl (Or.inl rfl) (eCall (ok_write_record T) hr (by decide) T.g_write_record (pa_cons (pv 1) (pa_cons (pv 2) pa_nil))))
      (pss_cons (ps_if (pt_cmpR op_gt (pe_op op_add (eLen T.z_len (eMethX (ok_read T) hr (by decide) T.c_Disk T.m_Disk_read passN (pe_fld (pv 0) rfl) (pa_cons (pe_fld (pv 0) rfl) pa_nil))) (eLen T.z_len (pv 3))) (gI T.i_BANK_SIZE) (nomark _))
        (pss_cons (ps_expr (eMethX0 (ok_pack T) hr (by decide) T.c_Store T.m_Store_pack (L2N.passes_call (L2N.takes_of rfl rfl rfl rfl) fun _ _ _ _ h => h) (pv 0)))
        (pss_one (ps_if (pt_cmpR op_gt (pe_op op_add (eLen T.z_len (eMethX (ok_read T) hr (by decide) T.c_Disk T.m_Disk_read passN (pe_fld (pv 0) rfl) (pa_cons (pe_fld (pv 0) rfl) pa_nil))) (eLen T.z_len (pv 3))) (gI T.i_BANK_SIZE) (nomark _)) pss_never pss_nil))) pss_nil)
      (pss_cons (ps_expr (eMethX (ok_write T) hr (by decide) T.c_Disk T.m_Disk_write (L2N.passes_call (L2N.takes_of rfl rfl rfl rfl) fun _ _ _ _ h => h) (pe_fld (pv 0) rfl) (pa_cons (pe_fld (pv 0) rfl) (pa_cons (pv 3) pa_nil))))
      (pss_one (ps_expr (eMethX (ok_settle T) hr (by decide) T.c_Disk T.m_Disk_settle (L2N.passes_call (L2N.takes_of rfl rfl rfl rfl) fun _ _ _ _ h => h) (pe_fld (pv 0) rfl) (pa_cons (pe_fld (pv 0) rfl) pa_nil)))))), ?_⟩
    refine ⟨_, rfl, _, rfl, k, b, xs, rfl, hb, hk, fun p H1 f1 e1 g1 => ?_⟩
    have W1 := W.same e1
    have lr := recBytes_len k xs
    refine ⟨_, rfl, aF W1.ob T.c_Store T.n_Store_disk stF_disk ⟨a.p, _, _, rfl, W1.dk.ob, dF_no (by decide +kernel), _, rfl, aF W1.ob T.c_Store T.n_Store_bank stF_bank ⟨a, D, S.bank, rfl, W1.dk, by have := dk.sz S.bank; have := dk.fz S.bank; omega, fun p2 H2 f2 e2 g2 => ?_⟩⟩⟩
    refine ⟨p2, _, rfl, .inl (seq_at g2), _, rfl, p, _, rfl, .inl (seq_at (e2 _ _ g1)), _, _, rfl, rfl, _, _, rfl, rfl, _, rfl, ?_⟩
    have e12 := e1.trans e2
    have W2 := W.same e12
    have np : ¬ wown a A p := W.new_not f1
    have gp := e2 _ _ g1
    have st2 : Stp H (wown a A) H2 (wown a A) := Stp.of_same e12
    unfold keepM at q
    refine dec2 (fun c => ?_) (fun c => ?_)
    · rw [il_len, il_len] at c
      rw [if_pos (by omega)] at q
      dsimp only at q
      refine ⟨_, rfl, A.q, _, _, rfl, W2.ob, stF_no (by decide +kernel), a, A, D, S, rfl, W2, o, dk, hcr, fun H3 a3 A3 p3 q3 W3 st3 => ⟨fun hr3 => ?_, fun hr3 => ?_⟩⟩
      rotate_left
      · rw [if_neg (by rw [hr3]; decide)] at q
        exact (q H3 a3 A3 p3 q3 W3 (st2.trans st3)).2 hr3
      rw [if_pos hr3] at q
      obtain ⟨qq, x1, x2, x3, x4, x5, x6⟩ := A3
      have q3' : qq = A.q := q3
      subst q3'
      obtain ⟨k0, k1, k2, k3, k4, k5⟩ := packM_ok dk.ps hr3
      have pb := (packBytes_len o).2
      have ebk : (packM D S).2.2.bank = !S.bank := by rw [k1]
      have kz : ((packM D S).2.1.s (packM D S).2.2.bank).length ≤ 400 := by
        rw [ebk, k2]
        exact pb
      have kf : ∀ b, (packM D S).2.1.f b = [] := fun b => by rw [k4]
      have k4' : (packM D S).2.1.power = true → (packM D S).2.1.f = fun _ => [] := fun _ => k4
      clear k1 k2 k3 k4 ebk
      generalize (packM D S).2.1 = D3 at *
      generalize (packM D S).2.2 = S3 at *
      obtain ⟨gp3, np3⟩ := st3.get gp np
      refine ⟨_, rfl, aF W3.ob T.c_Store T.n_Store_disk stF_disk ⟨a3.p, _, _, rfl, W3.dk.ob, dF_no (by decide +kernel), _, rfl, aF W3.ob T.c_Store T.n_Store_bank stF_bank ⟨a3, D3, S3.bank, rfl, W3.dk, by rw [kf]; show _ + 0 ≤ 1000000; omega, fun p4 H4 f4 e4 g4 => ?_⟩⟩⟩
      have W4 := W3.same e4
      have gp4 := e4 _ _ gp3
      have st4 := (st2.trans st3).trans (Stp.of_same e4)
      refine ⟨p4, _, rfl, .inl (seq_at g4), _, rfl, p, _, rfl, .inl (seq_at gp4), _, _, rfl, rfl, _, _, rfl, rfl, _, rfl, ?_⟩
      have kz2 : (D3.s S3.bank).length + (D3.f S3.bank).length + (recBytes k xs).length ≤ 65536 := by rw [kf]; show _ + 0 + _ ≤ 65536; omega
      refine dec2 (fun c2 => absurd c2 (by rw [il_len, il_len, List.length_append]; omega)) (fun _ => ?_)
      -- self._disk.write(self._bank, data)
      refine ⟨_, rfl, aF W4.ob T.c_Store T.n_Store_disk stF_disk ⟨a3.p, _, _, rfl, W4.dk.ob, dF_no (by decide +kernel), _, rfl, aF W4.ob T.c_Store T.n_Store_bank stF_bank ⟨_, rfl, a3, D3, (S3).bank, p, recBytes k xs, rfl, W4.dk, gp4, fun z => np3 (.inl z), fun hp => ⟨by rw [k4' hp], by have := kz2; rw [k4' hp] at this ⊢; exact this⟩, fun hpw HX dX sX => ?_, fun hpw => ?_⟩⟩⟩
      rotate_left
      · have qt := q
        unfold appM at qt
        rw [if_neg (by rw [hpw]; decide)] at qt
        exact (qt H4 a3 (⟨A.q, x1, x2, x3, x4, x5, x6⟩ : SA) p3 rfl W4 st4).2 rfl
      unfold appM at q
      rw [if_pos hpw] at q
      dsimp only at q
      obtain ⟨WX, stX⟩ := W4.disk dX rfl (Stp.of_fr sX)
      have szX : ((D3).wr (S3).bank (recBytes k xs)).s (S3).bank = (D3).s (S3).bank := by
        show (D3).used.s (S3).bank = _
        rw [Dk.used_s]
      have fzX : ((D3).wr (S3).bank (recBytes k xs)).f (S3).bank = (D3).f (S3).bank ++ recBytes k xs := upB_same
      generalize hDX : (D3).wr (S3).bank (recBytes k xs) = DX at *
      -- self._disk.settle(self._bank)
      refine ⟨_, rfl, aF WX.ob T.c_Store T.n_Store_disk stF_disk ⟨a3.p, _, _, rfl, WX.dk.ob, dF_no (by decide +kernel), _, rfl, aF WX.ob T.c_Store T.n_Store_bank stF_bank ⟨a3, DX, (S3).bank, rfl, WX.dk, by rw [szX, fzX, List.length_append]; have := kz2; omega, fun hp3 HY aY pY dY sY => ?_, fun hp3 => ?_⟩⟩⟩
      rotate_left
      · rw [if_neg (by rw [hp3]; decide)] at q
        exact (q HX a3 (⟨A.q, x1, x2, x3, x4, x5, x6⟩ : SA) p3 rfl WX ((st4).trans stX)).2 rfl
      rw [if_pos hp3] at q
      obtain ⟨WY, stY⟩ := WX.disk dY pY sY
      exact (q HY aY (⟨A.q, x1, x2, x3, x4, x5, x6⟩ : SA) (pY.trans p3) rfl WY (((st4).trans stX).trans stY)).1 rfl
    · rw [il_len, il_len] at c
      rw [if_neg (by omega)] at q
      rw [List.length_append] at c
      have kz2 : (D.s S.bank).length + (D.f S.bank).length + (recBytes k xs).length ≤ 65536 := by omega
      -- self._disk.write(self._bank, data)
      refine ⟨_, rfl, aF W2.ob T.c_Store T.n_Store_disk stF_disk ⟨a.p, _, _, rfl, W2.dk.ob, dF_no (by decide +kernel), _, rfl, aF W2.ob T.c_Store T.n_Store_bank stF_bank ⟨_, rfl, a, D, (S).bank, p, recBytes k xs, rfl, W2.dk, gp, fun z => np (.inl z), fun hp => ⟨by rw [dk.ps hp], by have := kz2; rw [dk.ps hp] at this ⊢; exact this⟩, fun hpw HX dX sX => ?_, fun hpw => ?_⟩⟩⟩
      rotate_left
      · have qt := q
        unfold appM at qt
        rw [if_neg (by rw [hpw]; decide)] at qt
        exact (qt H2 a A rfl rfl W2 st2).2 rfl
      unfold appM at q
      rw [if_pos hpw] at q
      dsimp only at q
      obtain ⟨WX, stX⟩ := W2.disk dX rfl (Stp.of_fr sX)
      have szX : ((D).wr (S).bank (recBytes k xs)).s (S).bank = (D).s (S).bank := by
        show (D).used.s (S).bank = _
        rw [Dk.used_s]
      have fzX : ((D).wr (S).bank (recBytes k xs)).f (S).bank = (D).f (S).bank ++ recBytes k xs := upB_same
      generalize hDX : (D).wr (S).bank (recBytes k xs) = DX at *
      -- self._disk.settle(self._bank)
      refine ⟨_, rfl, aF WX.ob T.c_Store T.n_Store_disk stF_disk ⟨a.p, _, _, rfl, WX.dk.ob, dF_no (by decide +kernel), _, rfl, aF WX.ob T.c_Store T.n_Store_bank stF_bank ⟨a, DX, (S).bank, rfl, WX.dk, by rw [szX, fzX, List.length_append]; have := kz2; omega, fun hp3 HY aY pY dY sY => ?_, fun hp3 => ?_⟩⟩⟩
      rotate_left
      · rw [if_neg (by rw [hp3]; decide)] at q
        exact (q HX a A rfl rfl WX ((st2).trans stX)).2 rfl
      rw [if_pos hp3] at q
      obtain ⟨WY, stY⟩ := WX.disk dY pY sY
      exact (q HY aY A (pY.trans rfl) rfl WY (((st2).trans stX).trans stY)).1 rfl
end
end Hush
set_option Elab.async false
set_option linter.all false
set_option maxRecDepth 100000
set_option maxHeartbeats 4000000
/-! store: next_number, keep_name, release -/
namespace Hush
open PySem PySem.Spec PyProof.Rows L2
abbrev CRf (K : PySem.W.Frag) : Value := .ref (He.ga K "Refused")
def nextM (D : Dk) (S : Sr) : Out :=
  if S.next = S.limit then
    let r := keepM D S (recBytes 3 (big 8 (S.limit + 16)))
    if r.1 = true then (true, r.2.1, { r.2.2 with limit := r.2.2.limit + 16, next := r.2.2.next + 1 }) else r
  else (true, D, { S with next := S.next + 1 })
def keepNameM (D : Dk) (S : Sr) (z : Str) (key : List Int) : Out :=
  let r := keepM D S (recBytes 4 (keyBody z key))
  if r.1 = true then (true, r.2.1, { r.2.2 with M := r.2.2.M.put z key }) else r
def releaseM (D : Dk) (S : Sr) (z : Str) (key : List Int) : Out :=
  let r := keepM D S (recBytes 5 (keyBody z key))
  if r.1 = true then (true, r.2.1, { r.2.2 with M := r.2.2.M.del z }) else r
theorem Nm.del_none {M : Nm} {z : Str} (h : M z = none) : M.del z = M := by
  funext y
  show (if y = z then none else M y) = M y
  by_cases e : y = z
  · rw [if_pos e, e, h]
  · rw [if_neg e]
def spNextNumber (K : PySem.W.Frag) : Sp := fun vs H Q E => ∃ (a : DA) (A : SA) (D : Dk) (S : Sr), vs = [.ref A.q] ∧ WAt K H a A D S ∧ SrOk S ∧ DOk D ∧ S.crashes = D.crashes ∧ S.limit + 16 ≤ 18446744073709551615 ∧ Pst K H a A (nextM D S) E fun _ H' => ∀ n : Int, Q (.int n) H'
def spKeepName (K : PySem.W.Frag) : Sp := fun vs H Q E => ∃ (a : DA) (A : SA) (D : Dk) (S : Sr) (z : Str) (k : Addr) (key xs : List Int), vs = [.ref A.q, .str z, .ref k] ∧ WAt K H a A D S ∧ SrOk S ∧ DOk D ∧ S.crashes = D.crashes ∧
  z ∈ L4 ∧ H k = some (.lst (il key)) ∧ ¬ wown a A k ∧ key = pubKey xs ∧ (match S.M z with
  | some kk => if kk = key then RetV (.bl false) H Q else ∀ H', Same H H' → E (CRf K) none H'
  | none => Pst K H a A (keepNameM D S z key) E fun _ H' => Q (.bl true) H')
def spRelease (K : PySem.W.Frag) : Sp := fun vs H Q E => ∃ (a : DA) (A : SA) (D : Dk) (S : Sr) (z : Str) (k : Addr) (key xs : List Int), vs = [.ref A.q, .str z, .ref k] ∧ WAt K H a A D S ∧ SrOk S ∧ DOk D ∧ S.crashes = D.crashes ∧
  z ∈ L4 ∧ H k = some (.lst (il key)) ∧ ¬ wown a A k ∧ key = pubKey xs ∧ (if S.M z = some key then Pst K H a A (releaseM D S z key) E fun _ H' => Q .non H' else ∀ H', Same H H' → E (CRf K) none H')
theorem NmAt.kvl {H : Hp} {O : Addr → Prop} {kvs : List (Key × V)} {M : Nm} (x : NmAt H O kvs M) : kvs.length ≤ 4 := by
  have h1 := congrArg List.length x.ks
  rw [List.length_map, List.length_map] at h1
  rw [h1]
  exact len4 (fun y hy => by
    by_cases h : y ∈ L4
    · exact h
    · have := (x.kmem y).mp hy
      rw [x.out y h] at this
      cases this) x.knd
theorem keyrec_ok {k : Int} {z : Str} {key : List Int} (h1 : 1 ≤ k) (h5 : k ≤ 5) (hz : z ∈ L4) (hl : key.length = 16) (hb : Byt key) : RecOk (k, keyBody z key) ∧ (keyBody z key).length ≤ 49 := by
  have l := keyBody_len z key
  have l2 := (L4_ok _ hz).1.2
  have l3 := codes_len z
  exact ⟨⟨h1, h5, keyBody_byt hz hb, by show (keyBody z key).length ≤ 65535; omega⟩, by omega⟩
section
variable {P : Program} {w : World} {K : PySem.W.Frag} {mg : Str → Option Value} {base : Heap}
theorem sc_next_number : FnScope ["self"] ["self"] (defScope s_Store_next_number) := ⟨rfl, rfl, rfl, by decide +kernel, rfl, by decide +kernel, by decide +kernel⟩
theorem ok_next_number (T : Txt K mg) : Df P w K mg base 6 ("Store", some "next_number") ["self"] (spNextNumber K) := by
  refine df_exc T.F_Store_next_number sc_next_number (fun _ _ _ _ _ _ us hl => match us, hl with | [_], _ => rfl) (fun vs H Q E h => ?_) (fun cdv A0 outer s H vs Q E hr h => ?_)
  · obtain ⟨a, A, D, S, rfl, _⟩ := h
    rfl
  · obtain ⟨a, A, D, S, rfl, W, o, dk, hcr, hlim, q⟩ := h
    refine ⟨_, pss_cons (ps_expr (eMethX0 (ok_check_time T) hr (by decide) T.c_Store T.m_Store_check_time passN (pv 0)))
      (pss_cons (ps_if (pt_cmpR op_eq (pe_fld (pv 0) rfl) (pe_fld (pv 0) rfl) (nomark _))
        (pss_cons (ps_if (pt_cmpR op_gt (pe_fld (pv 0) rfl) (pe_op op_sub (gI T.i_LAST_NUMBER) (gI T.i_BLOCK)) (nomark _)) pss_never pss_nil)
        (pss_cons (ps_expr (eMethX (ok_keep_record T) hr (by decide) T.c_Store T.m_Store_keep_record (L2N.passes_call (L2N.takes_of rfl rfl rfl rfl) fun _ _ _ _ h => h) (pv 0) (pa_cons (gI T.i_RESERVE) (pa_cons (eCall (ok_to_big T) hr (by decide) T.g_to_big (pa_cons (pe_op op_add (pe_fld (pv 0) rfl) (gI T.i_BLOCK)) (pa_cons pe_int pa_nil))) pa_nil))))
        (pss_one (ps_fldaug (pv 0) (gI T.i_BLOCK) in_add)))) pss_nil)
      (pss_cons (ps_fldaug (pv 0) pe_int in_add)
      (pss_one (ps_ret (pe_op op_sub (pe_fld (pv 0) rfl) pe_int))))), ?_⟩
    refine ⟨_, rfl, A.q, _, _, rfl, W.ob, stF_no (by decide +kernel), a, A, D, S, rfl, W, hcr, ?_⟩
    refine ⟨_, rfl, aF W.ob T.c_Store T.n_Store_next stF_next ⟨_, rfl, aF W.ob T.c_Store T.n_Store_limit stF_limit ⟨rfl, _, rfl, ?_⟩⟩⟩
    unfold nextM at q
    refine eq_int (fun c => ?_) (fun c => ?_)
    · rw [if_pos c] at q
      dsimp only at q
      refine ⟨_, rfl, aF W.ob T.c_Store T.n_Store_limit stF_limit ⟨_, _, rfl, rfl, _, _, rfl, rfl, _, rfl, dec2 (fun c => absurd c (by omega)) (fun _ => ?_)⟩⟩
      have m0 := o.m0
      refine ⟨_, rfl, A.q, _, _, rfl, W.ob, stF_no (by decide +kernel), _, rfl, aF W.ob T.c_Store T.n_Store_limit stF_limit ⟨_, _, rfl, rfl, S.limit + 16, 8, rfl, by omega, o.m1, by decide, fun p H1 f1 e1 g1 => ?_⟩⟩
      have W1 := W.same e1
      refine ⟨a, A, D, S, 3, p, big 8 (S.limit + 16), rfl, W1, o, dk, hcr, seq_at g1, ⟨by show (1 : Int) ≤ 3; decide, by show (3 : Int) ≤ 5; decide, big_byt 8 _, by show (big 8 (S.limit + 16)).length ≤ 65535; rw [big_len]; decide⟩, by rw [big_len]; decide, fun H2 a2 A2 p2 q2 W2 st2 => ⟨fun hr2 => ?_, fun hr2 => ?_⟩⟩
      rotate_left
      · rw [if_neg (by rw [hr2]; decide)] at q
        exact (q H2 a2 A2 p2 q2 W2 ((Stp.of_same e1).trans st2)).2 hr2
      rw [if_pos hr2] at q
      generalize (keepM D S (recBytes 3 (big 8 (S.limit + 16)))).2.1 = D2 at *
      generalize (keepM D S (recBytes 3 (big 8 (S.limit + 16)))).2.2 = S2 at *
      obtain ⟨qq, x1, x2, x3, x4, x5, x6⟩ := A2
      have q2' : qq = A.q := q2
      subst q2'
      refine ⟨_, rfl, A.q, _, _, _, _, rfl, W2.ob, T.c_Store, T.n_Store_limit, stF_limit, _, _, rfl, rfl, _, _, W2.ob, stF_len, ?_⟩
      rw [stF_put_limit]
      obtain ⟨W3, st3⟩ := W2.nums (S' := { S2 with limit := S2.limit + 16 }) rfl rfl rfl
      refine ⟨_, rfl, A.q, _, _, _, _, rfl, W3.ob, T.c_Store, T.n_Store_next, stF_next, _, _, rfl, rfl, _, _, W3.ob, stF_len, ?_⟩
      rw [stF_put_next]
      obtain ⟨W4, st4⟩ := W3.nums (S' := { S2 with limit := S2.limit + 16, next := S2.next + 1 }) rfl rfl rfl
      refine ⟨_, rfl, aF W4.ob T.c_Store T.n_Store_next stF_next ⟨_, _, rfl, rfl, ?_⟩⟩
      exact (q _ a2 (⟨A.q, x1, x2, x3, x4, x5, x6⟩ : SA) p2 rfl W4 ((((Stp.of_same e1).trans st2).trans st3).trans st4)).1 rfl _
    · rw [if_neg c] at q
      refine ⟨_, rfl, A.q, _, _, _, _, rfl, W.ob, T.c_Store, T.n_Store_next, stF_next, _, _, rfl, rfl, _, _, W.ob, stF_len, ?_⟩
      rw [stF_put_next]
      obtain ⟨W4, st4⟩ := W.nums (S' := { S with next := S.next + 1 }) rfl rfl rfl
      refine ⟨_, rfl, aF W4.ob T.c_Store T.n_Store_next stF_next ⟨_, _, rfl, rfl, ?_⟩⟩
      exact (q _ a A rfl rfl W4 st4).1 rfl _
theorem sc_keep_name : FnScope ["self", "name", "key"] ["self", "name", "key"] (defScope s_Store_keep_name) := ⟨rfl, rfl, rfl, by decide +kernel, rfl, by decide +kernel, by decide +kernel⟩
theorem ok_keep_name (T : Txt K mg) : Df P w K mg base 6 ("Store", some "keep_name") ["self", "name", "key"] (spKeepName K) := by
  refine df_exc T.F_Store_keep_name sc_keep_name (fun _ _ _ _ _ _ us hl => match us, hl with | [_, _, _], _ => rfl) (fun vs H Q E h => ?_) (fun cdv A0 outer s H vs Q E hr h => ?_)
  · obtain ⟨a, A, D, S, z, k, key, xs, rfl, _⟩ := h
    rfl
  · obtain ⟨a, A, D, S, z, k, key, xs, rfl, W, o, dk, hcr, hz, hk, nk, ek, q⟩ := h
    have hu := hu1 hr
    refine ⟨_, pss_cons (ps_expr (eMethX (ok_check_name T) hr (by decide) T.c_Store T.m_Store_check_name passN (pv 0) (pa_cons (pv 1) (pa_cons (pv 2) pa_nil))))
      (pss_cons (ps_if (pt_cmpR (op_eqD hr.units) (pe_dget1 hu (pe_fld (pv 0) rfl) (pv 1) ⟨rfl, rfl, rfl, rfl⟩) (pe_callTy call_list_of rfl T.z_list boot_list (pa_cons (pv 2) pa_nil)) (nomark _)) (pss_one (ps_ret pe_bl)) pss_nil)
      (pss_cons (ps_expr (eMethX0 (ok_check_time T) hr (by decide) T.c_Store T.m_Store_check_time passN (pv 0)))
      (pss_cons (ps_if (pt_cmp (pc_din hu (pv 1) (pe_fld (pv 0) rfl))) (pss_one (L2N.ps_raise rfl (L2N.takes_of rfl rfl rfl rfl)
        (L2N.pmk_own PySem.F.excBase_ValueError T.x_Refused.1 T.g_Refused T.x_Refused.2.1 (raises_own T.x_Refused.2.2.1 T.x_Refused.2.2.2) (by exact rfl)))) pss_nil)
      (pss_cons (ps_if (pt_cmpR op_ge (pe_callB call_lenD rfl T.z_len PySem.boot_len (pa_cons (pe_fld (pv 0) rfl) pa_nil)) (gI T.i_NAME_LIMIT) (nomark _)) pss_never pss_nil)
      (pss_cons (ps_expr (eMethX (ok_keep_record T) hr (by decide) T.c_Store T.m_Store_keep_record (L2N.passes_call (L2N.takes_of rfl rfl rfl rfl) fun _ _ _ _ h => h) (pv 0) (pa_cons (gI T.i_KEEP) (pa_cons (eCall (ok_key_body T) hr (by decide) T.g_key_body (pa_cons (pv 1) (pa_cons (pv 2) pa_nil))) pa_nil))))
      (pss_cons (ps_dput hu (pe_fld (pv 0) rfl) (pv 1) (pe_callTy call_list_of rfl T.z_list boot_list (pa_cons (pv 2) pa_nil)) rfl)
      (pss_one (ps_ret pe_bl)))))))), ?_⟩
    have kl : key.length = 16 := by rw [ek]; exact pub_len xs
    have kb : Byt key := by rw [ek]; exact pub_byt xs
    refine ⟨_, rfl, A.q, _, _, rfl, W.ob, stF_no (by decide +kernel), _, rfl, _, rfl, a, A, D, S, z, k, xs, rfl, W, hz, seq_at (by rw [← ek]; exact hk), fun H1 e1 => ?_⟩
    have W1 := W.same e1
    obtain ⟨g0, g1⟩ := W1.nm.get W1.hd z
    have hk1 := e1 _ _ hk
    refine ⟨_, rfl, aF W1.ob T.c_Store T.n_Store_names stF_names ⟨A.d, rfl, .inl ⟨_, .inl W1.hd⟩, _, rfl, ?_⟩⟩
    cases e : S.M z with
    | some kk =>
      rw [e] at q
      dsimp only at q
      obtain ⟨ka, gk, hka, no⟩ := g1 kk e
      refine ⟨_, gk, _, rfl, k, _, rfl, .inl (seq_at hk1), fun l hl => ?_⟩
      have e2 := e1.nw (o := .lst (il key)) hl
      have W2 := W.same e2
      have hka2 : upd H1 l (.lst (il key)) ka = some (.lst (il kk)) := ((Same.refl H1).nw hl) _ _ hka
      refine ⟨_, _, dp_L (xs := kk) (seq_at hka2), dp_L (xs := key) (seq_at upd_same), shaped_L _, shaped_L _, _, rfl, ?_⟩
      rw [eqv_L]
      refine dec2 (fun c => ?_) (fun c => ?_)
      · rw [if_pos c] at q
        exact q _ e2
      · rw [if_neg c] at q
        obtain ⟨g0', g1'⟩ := W2.nm.get W2.hd z
        obtain ⟨ka', gk', _⟩ := g1' kk e
        refine ⟨_, rfl, A.q, _, _, rfl, W2.ob, stF_no (by decide +kernel), a, A, D, S, rfl, W2, hcr, ?_⟩
        refine ⟨_, rfl, _, rfl, aF W2.ob T.c_Store T.n_Store_names stF_names ⟨A.d, _, rfl, gk', _, rfl, iteT ?_⟩⟩
        exact q _ e2
    | none =>
      rw [e] at q
      dsimp only at q
      refine ⟨_, g0 e, _, rfl, k, _, rfl, .inl (seq_at hk1), fun l hl => ?_⟩
      have e2 := e1.nw (o := .lst (il key)) hl
      have W2 := W.same e2
      refine ⟨_, _, .non, dp_L (xs := key) (seq_at upd_same), shaped_none, shaped_L _, _, rfl, ?_⟩
      show if PyData.eqv PyData.none (pdL key) = true then _ else _
      rw [eqv_LN]
      refine iteF ?_
      obtain ⟨g0', g1'⟩ := W2.nm.get W2.hd z
      refine ⟨_, rfl, A.q, _, _, rfl, W2.ob, stF_no (by decide +kernel), a, A, D, S, rfl, W2, hcr, ?_⟩
      refine ⟨_, rfl, _, rfl, aF W2.ob T.c_Store T.n_Store_names stF_names ⟨A.d, _, rfl, g0' e, _, rfl, iteF ?_⟩⟩
      have kvl := W2.nm.kvl
      refine ⟨_, rfl, aF W2.ob T.c_Store T.n_Store_names stF_names ⟨A.d, _, rfl, W2.hd, _, _, rfl, rfl, _, rfl, dec2 (fun c => absurd c (by omega)) (fun _ => ?_)⟩⟩
      have hk2 : upd H1 l (.lst (il key)) k = some (.lst (il key)) := ((Same.refl H1).nw hl) _ _ hk1
      refine ⟨_, rfl, A.q, _, _, rfl, W2.ob, stF_no (by decide +kernel), _, rfl, _, rfl, z, k, key, rfl, hz, seq_at hk2, by omega, fun p H3 f3 e3 g3 => ?_⟩
      have e4 := e2.trans e3
      have W3 := W.same e4
      obtain ⟨r1, r2⟩ := keyrec_ok (k := 4) (by decide) (by decide) hz kl kb
      unfold keepNameM at q
      dsimp only at q
      refine ⟨a, A, D, S, 4, p, keyBody z key, rfl, W3, o, dk, hcr, seq_at g3, r1, by omega, fun H4 a4 A4 p4 q4 W4 st4 => ⟨fun hr4 => ?_, fun hr4 => ?_⟩⟩
      rotate_left
      · rw [if_neg (by rw [hr4]; decide)] at q
        exact (q H4 a4 A4 p4 q4 W4 ((Stp.of_same e4).trans st4)).2 hr4
      rw [if_pos hr4] at q
      generalize (keepM D S (recBytes 4 (keyBody z key))).2.1 = D4 at *
      generalize (keepM D S (recBytes 4 (keyBody z key))).2.2 = S4 at *
      obtain ⟨hk4, nk4⟩ := ((Stp.of_same e4).trans st4).get hk nk
      obtain ⟨qq, x1, x2, x3, x4, x5, x6⟩ := A4
      have q4' : qq = A.q := q4
      subst q4'
      refine ⟨_, rfl, k, _, rfl, .inl (seq_at hk4), fun l5 hl5 => ?_⟩
      have e5 := (Same.refl H4).nw (o := .lst (il key)) hl5
      have W5 := W4.same e5
      have n5 := W4.new_not hl5
      refine ⟨_, rfl, aF W5.ob T.c_Store T.n_Store_names stF_names ⟨_, rfl, x2, _, rfl, DPut.k (k := (Sum.inr z : Key)) W5.hd ?_, ?_⟩⟩
      · have := W5.nm.kvl
        exact line_lt (Nat.le_trans this (by decide))
      have np := W5.nm.put (d := x2) (z := z) (k := l5) (xs := key) hz upd_same n5 (wown_d a4 (⟨A.q, x1, x2, x3, x4, x5, x6⟩ : SA)) ⟨kl, kb⟩
      obtain ⟨W6, st6⟩ := W5.names np
      exact (q _ a4 (⟨A.q, x1, x2, x3, x4, x5, putK x6 (Sum.inr z : Key) (.ref l5)⟩ : SA) p4 rfl W6 ((((Stp.of_same e4).trans st4).trans (Stp.of_same e5)).trans st6)).1 rfl
theorem sc_release : FnScope ["self", "name", "key"] ["self", "name", "key"] (defScope s_Store_release) := ⟨rfl, rfl, rfl, by decide +kernel, rfl, by decide +kernel, by decide +kernel⟩
theorem ok_release (T : Txt K mg) : Df P w K mg base 6 ("Store", some "release") ["self", "name", "key"] (spRelease K) := by
  refine df_exc T.F_Store_release sc_release (fun _ _ _ _ _ _ us hl => match us, hl with | [_, _, _], _ => rfl) (fun vs H Q E h => ?_) (fun cdv A0 outer s H vs Q E hr h => ?_)
  · obtain ⟨a, A, D, S, z, k, key, xs, rfl, _⟩ := h
    rfl
  · obtain ⟨a, A, D, S, z, k, key, xs, rfl, W, o, dk, hcr, hz, hk, nk, ek, q⟩ := h
    have hu := hu1 hr
    refine ⟨_, pss_cons (ps_expr (eMethX (ok_check_name T) hr (by decide) T.c_Store T.m_Store_check_name passN (pv 0) (pa_cons (pv 1) (pa_cons (pv 2) pa_nil))))
      (pss_cons (ps_expr (eMethX0 (ok_check_time T) hr (by decide) T.c_Store T.m_Store_check_time passN (pv 0)))
      (pss_cons (ps_if (pt_cmpR (op_neD hr.units) (pe_dget1 hu (pe_fld (pv 0) rfl) (pv 1) ⟨rfl, rfl, rfl, rfl⟩) (pe_callTy call_list_of rfl T.z_list boot_list (pa_cons (pv 2) pa_nil)) (nomark _)) (pss_one (L2N.ps_raise rfl (L2N.takes_of rfl rfl rfl rfl)
        (L2N.pmk_own PySem.F.excBase_ValueError T.x_Refused.1 T.g_Refused T.x_Refused.2.1 (raises_own T.x_Refused.2.2.1 T.x_Refused.2.2.2) (by exact rfl)))) pss_nil)
      (pss_cons (ps_expr (eMethX (ok_keep_record T) hr (by decide) T.c_Store T.m_Store_keep_record (L2N.passes_call (L2N.takes_of rfl rfl rfl rfl) fun _ _ _ _ h => h) (pv 0) (pa_cons (gI T.i_RELEASE) (pa_cons (eCall (ok_key_body T) hr (by decide) T.g_key_body (pa_cons (pv 1) (pa_cons (pv 2) pa_nil))) pa_nil))))
      (pss_one (ps_expr (pe_dpop2 (pe_fld (pv 0) rfl) (pv 1) pe_non ⟨rfl, rfl, rfl, rfl⟩)))))), ?_⟩
    have kl : key.length = 16 := by rw [ek]; exact pub_len xs
    have kb : Byt key := by rw [ek]; exact pub_byt xs
    refine ⟨_, rfl, A.q, _, _, rfl, W.ob, stF_no (by decide +kernel), _, rfl, _, rfl, a, A, D, S, z, k, xs, rfl, W, hz, seq_at (by rw [← ek]; exact hk), fun H1 e1 => ?_⟩
    have W1 := W.same e1
    obtain ⟨g0, g1⟩ := W1.nm.get W1.hd z
    have hk1 := e1 _ _ hk
    refine ⟨_, rfl, A.q, _, _, rfl, W1.ob, stF_no (by decide +kernel), a, A, D, S, rfl, W1, hcr, ?_⟩
    refine ⟨_, rfl, aF W1.ob T.c_Store T.n_Store_names stF_names ⟨A.d, rfl, .inl ⟨_, .inl W1.hd⟩, _, rfl, ?_⟩⟩
    have bad : S.M z ≠ some key → ∀ H', Same H H' → E (CRf K) none H' := fun h => by
      rw [if_neg h] at q
      exact q
    cases e : S.M z with
    | none =>
      refine ⟨_, g0 e, _, rfl, k, _, rfl, .inl (seq_at hk1), fun l hl => ?_⟩
      have e2 := e1.nw (o := .lst (il key)) hl
      refine ⟨_, _, .non, dp_L (xs := key) (seq_at upd_same), shaped_none, shaped_L _, _, rfl, ?_⟩
      show if (!PyData.eqv PyData.none (pdL key)) = true then _ else _
      rw [eqv_LN]
      exact iteT (bad (by rw [e]; intro h; cases h) _ e2)
    | some kk =>
      obtain ⟨ka, gk, hka, no⟩ := g1 kk e
      refine ⟨_, gk, _, rfl, k, _, rfl, .inl (seq_at hk1), fun l hl => ?_⟩
      have e2 := e1.nw (o := .lst (il key)) hl
      have W2 := W.same e2
      have hka2 : upd H1 l (.lst (il key)) ka = some (.lst (il kk)) := ((Same.refl H1).nw hl) _ _ hka
      refine ⟨_, _, dp_L (xs := kk) (seq_at hka2), dp_L (xs := key) (seq_at upd_same), shaped_L _, shaped_L _, _, rfl, ?_⟩
      rw [eqv_L]
      by_cases c : kk = key
      rotate_left
      · rw [decide_eq_false c]
        exact iteT (bad (by rw [e]; intro h; exact c (Option.some.inj h)) _ e2)
      rw [decide_eq_true c]
      refine iteF ?_
      rw [if_pos (by rw [e, c])] at q
      have hk2 : upd H1 l (.lst (il key)) k = some (.lst (il key)) := ((Same.refl H1).nw hl) _ _ hk1
      refine ⟨_, rfl, A.q, _, _, rfl, W2.ob, stF_no (by decide +kernel), _, rfl, _, rfl, z, k, key, rfl, hz, seq_at hk2, by omega, fun p H3 f3 e3 g3 => ?_⟩
      have e4 := e2.trans e3
      have W3 := W.same e4
      obtain ⟨r1, r2⟩ := keyrec_ok (k := 5) (by decide) (by decide) hz kl kb
      unfold releaseM at q
      dsimp only at q
      refine ⟨a, A, D, S, 5, p, keyBody z key, rfl, W3, o, dk, hcr, seq_at g3, r1, by omega, fun H4 a4 A4 p4 q4 W4 st4 => ⟨fun hr4 => ?_, fun hr4 => ?_⟩⟩
      rotate_left
      · rw [if_neg (by rw [hr4]; decide)] at q
        exact (q H4 a4 A4 p4 q4 W4 ((Stp.of_same e4).trans st4)).2 hr4
      rw [if_pos hr4] at q
      generalize (keepM D S (recBytes 5 (keyBody z key))).2.1 = D4 at *
      generalize (keepM D S (recBytes 5 (keyBody z key))).2.2 = S4 at *
      obtain ⟨qq, x1, x2, x3, x4, x5, x6⟩ := A4
      have q4' : qq = A.q := q4
      subst q4'
      refine ⟨_, rfl, aF W4.ob T.c_Store T.n_Store_names stF_names ⟨x2, rfl, .inl ⟨_, .inl W4.hd⟩, _, rfl, x6, (Sum.inr z : Key), W4.hd, rfl, fun v hv => ?_, fun hv => ?_⟩⟩
      · have np := W4.nm.del (d := x2) (z := z) (wown_d a4 (⟨A.q, x1, x2, x3, x4, x5, x6⟩ : SA))
        obtain ⟨W6, st6⟩ := W4.names np
        exact (q _ a4 (⟨A.q, x1, x2, x3, x4, x5, dropK x6 (Sum.inr z : Key)⟩ : SA) p4 rfl W6 (((Stp.of_same e4).trans st4).trans st6)).1 rfl
      · have hn := W4.nm.none_ z hv
        have eM : ({ S4 with M := S4.M.del z } : Sr) = S4 := by rw [Nm.del_none hn]
        rw [eM] at q
        exact (q _ a4 (⟨A.q, x1, x2, x3, x4, x5, x6⟩ : SA) p4 rfl W4 ((Stp.of_same e4).trans st4)).1 rfl
end
end Hush
set_option Elab.async false
set_option linter.all false
set_option maxRecDepth 100000
set_option maxHeartbeats 4000000
/-! store: the records as deeds, take_record -/
namespace Hush
open PySem PySem.Spec PyProof.Rows L2
inductive AR
  | beg (g : Int) (sd sc : List Int)
  | done
  | res (n : Int)
  | fill (xs : List Int)
  | keep (z : Str) (k : List Int)
  | rel (z : Str) (k : List Int)
def AR.rc : AR → Int × List Int
  | .beg g sd sc => (1, beginBody g sd sc)
  | .done => (2, [])
  | .res n => (3, big 8 n)
  | .fill xs => (3, xs)
  | .keep z k => (4, keyBody z k)
  | .rel z k => (5, keyBody z k)
def AR.Ok : AR → Prop
  | .beg _ sd sc => sd.length = 16 ∧ sc.length = 16 ∧ Byt sd ∧ Byt sc
  | .done => True
  | .res n => 0 ≤ n ∧ n < 256 ^ 8
  | .fill xs => xs.length ≠ 8 ∧ xs.length ≤ 65535 ∧ Byt xs
  | .keep z k => z ∈ L4 ∧ k.length = 16 ∧ Byt k
  | .rel z k => z ∈ L4 ∧ k.length = 16 ∧ Byt k
def rstep (s : Int × Nm) : AR → Int × Nm
  | .res n => (n, s.2)
  | .keep z k => (s.1, s.2.put z k)
  | .rel z _ => (s.1, s.2.del z)
  | _ => s
def replay (as : List AR) : Int × Nm := as.foldl rstep (0, fun _ => none)
theorem AR.ok_rc {r : AR} (h : r.Ok) : RecOk r.rc := by
  cases r with
  | beg g sd sc =>
    obtain ⟨h1, h2, h3, h4⟩ := h
    exact ⟨by show (1 : Int) ≤ 1; decide, by show (1 : Int) ≤ 5; decide, beginBody_byt h3 h4, by show (beginBody g sd sc).length ≤ 65535; rw [beginBody_len]; omega⟩
  | done => exact ⟨by decide, by decide, Byt.nil, Nat.zero_le _⟩
  | res n => exact ⟨by show (1 : Int) ≤ 3; decide, by show (3 : Int) ≤ 5; decide, big_byt 8 _, by show (big 8 n).length ≤ 65535; rw [big_len]; decide⟩
  | fill xs => exact ⟨by show (1 : Int) ≤ 3; decide, by show (3 : Int) ≤ 5; decide, h.2.2, h.2.1⟩
  | keep z k => exact (keyrec_ok (by decide) (by decide) h.1 h.2.1 h.2.2).1
  | rel z k => exact (keyrec_ok (by decide) (by decide) h.1 h.2.1 h.2.2).1
theorem replay_snoc (as : List AR) (r : AR) : replay (as ++ [r]) = rstep (replay as) r := List.foldl_append ..
def Sr.stepped (S : Sr) (r : AR) : Sr := { S with limit := (rstep (S.limit, S.M) r).1, M := (rstep (S.limit, S.M) r).2 }
def own2 (A : SA) : Addr → Prop := fun x => x = A.q ∨ x = A.d
structure T9 (K : PySem.W.Frag) (H : Hp) (O : Addr → Prop) (A : SA) (S : Sr) (pd : Addr) : Prop where
  ob : H A.q = some (.ins (CSt K) A.dy (stF9 A S pd))
  hd : H A.d = some (.dK A.kvs)
  nm : NmAt H O A.kvs S.M
  hsu : SuiteAt K H A.su
  nsu : ¬ own2 A A.su
  oq : O A.q
  od : O A.d
  tr : ∀ x, O x → ∃ o, H x = some o
theorem T9.q_d {K : PySem.W.Frag} {H : Hp} {O : Addr → Prop} {A : SA} {S : Sr} {pd : Addr} (w : T9 K H O A S pd) : A.q ≠ A.d := ne_of w.ob w.hd (by intro z; cases z)
theorem T9.same {K : PySem.W.Frag} {H H' : Hp} {O : Addr → Prop} {A : SA} {S : Sr} {pd : Addr} (w : T9 K H O A S pd) (e : Same H H') : T9 K H' O A S pd :=
  ⟨e _ _ w.ob, e _ _ w.hd, w.nm.mono fun k xs h1 h2 => ⟨e _ _ h1, h2⟩, w.hsu.same e, w.nsu, w.oq, w.od, fun x h => by
    obtain ⟨o, ho⟩ := w.tr x h
    exact ⟨o, e _ _ ho⟩⟩
theorem tr_up {H : Hp} {O : Addr → Prop} {q : Addr} {v : HO} (t : ∀ x, O x → ∃ o, H x = some o) : ∀ x, O x → ∃ o, upd H q v x = some o := fun x h => by
  by_cases e : x = q
  · exact ⟨v, by rw [e]; exact upd_same⟩
  · rw [upd_ne e]
    exact t x h
def spTake (K : PySem.W.Frag) : Sp := fun vs H Q _ => ∃ (O : Addr → Prop) (A : SA) (S : Sr) (pd b : Addr) (r : AR), vs = [.ref A.q, .int r.rc.1, .ref b] ∧ T9 K H O A S pd ∧ r.Ok ∧ H b = some (.lst (il r.rc.2)) ∧
  ∀ (H' : Hp) (kvs : List (Key × V)), T9 K H' O { A with kvs := kvs } (S.stepped r) pd → Fr (own2 A) H H' → Q .non H'
section
variable {P : Program} {w : World} {K : PySem.W.Frag} {mg : Str → Option Value} {base : Heap}
theorem sc_take : FnScope ["self", "kind", "body", "part"] ["self", "kind", "body"] (defScope s_Store_take_record) := ⟨rfl, rfl, rfl, by decide +kernel, rfl, by decide +kernel, by decide +kernel⟩
theorem ok_take (T : Txt K mg) : Df P w K mg base 4 ("Store", some "take_record") ["self", "kind", "body"] (spTake K) := by
  refine df_nox T.F_Store_take_record sc_take (fun _ _ _ _ _ _ us hl => match us, hl with | [_, _, _], _ => rfl) (fun vs H Q E h => ?_) (fun cdv A0 outer s H vs Q E hr h => ?_)
  · obtain ⟨O, A, S, pd, b, r, rfl, _⟩ := h
    rfl
  · obtain ⟨O, A, S, pd, b, r, rfl, W, ok, hb, q⟩ := h
    have nd := sc_take.nd
    have hu := hu1 hr
    refine ⟨_, pss_cons (ps_if (PW.pt (pw_and (pt_cmpR op_eq (pv 1) (gI T.i_RESERVE) (nomark _)) (pw_and1 (pt_cmpR op_eq (eLen T.z_len (pv 2)) pe_int (nomark _)))))
        (pss_one (ps_fld (pv 0) (eCall (ok_from_big T) hr (by decide) T.g_from_big (pa_cons (pv 2) pa_nil)) rfl)) pss_nil)
      (pss_one (ps_if (PW.pt (pw_or (pt_cmpR op_eq (pv 1) (gI T.i_KEEP) (nomark _)) (pw_or1 (pt_cmpR op_eq (pv 1) (gI T.i_RELEASE) (nomark _)))))
        (pss_cons (ps_set (i := 3) nd rfl (Or.inl rfl) (eCall (ok_read_key T) hr (by decide) T.g_read_key (pa_cons (pe_fld (pv 0) rfl) (pa_cons (pv 2) pa_nil))))
        (pss_one (ps_if (PW.pt (pw_and (pt_cmpR op_notN (pv 3) pe_non (nomark _)) (pw_and1 (pt_cmpR op_eq (pv 1) (gI T.i_KEEP) (nomark _)))))
          (pss_one (ps_dput hu (pe_fld (pv 0) rfl) (pe_ix ix_tup (pv 3) pe_int (fun _ _ => rfl)) (pe_ix ix_tup (pv 3) pe_int (fun _ _ => rfl)) rfl))
          (pss_one (ps_if (pt_cmpR op_notN (pv 3) pe_non (nomark _)) (pss_one (ps_expr (pe_dpop2 (pe_fld (pv 0) rfl) (pe_ix ix_tup (pv 3) pe_int (fun _ _ => rfl)) pe_non ⟨rfl, rfl, rfl, rfl⟩))) pss_nil)))) ) pss_nil)), ?_⟩
    cases r with
    | beg g sd sc =>
      refine ⟨_, rfl, rfl, _, rfl, eq_int (fun c => absurd c (show ¬ (1 : Int) = 3 by decide)) (fun _ => iteF ?_)⟩
      refine ⟨_, rfl, rfl, _, rfl, eq_int (fun c => absurd c (show ¬ (1 : Int) = 4 by decide)) (fun _ => ?_)⟩
      refine ⟨_, rfl, rfl, _, rfl, eq_int (fun c => absurd c (show ¬ (1 : Int) = 5 by decide)) (fun _ => ?_)⟩
      exact q H A.kvs W (Fr.refl _ _)
    | done =>
      refine ⟨_, rfl, rfl, _, rfl, eq_int (fun c => absurd c (by decide)) (fun _ => iteF ?_)⟩
      refine ⟨_, rfl, rfl, _, rfl, eq_int (fun c => absurd c (by decide)) (fun _ => ?_)⟩
      refine ⟨_, rfl, rfl, _, rfl, eq_int (fun c => absurd c (by decide)) (fun _ => ?_)⟩
      exact q H A.kvs W (Fr.refl _ _)
    | fill xs =>
      refine ⟨_, rfl, rfl, _, rfl, eq_int (fun _ => ?_) (fun c => absurd rfl c)⟩
      refine ⟨_, rfl, b, _, rfl, .inl (seq_at hb), rfl, _, rfl, eq_int (fun c => absurd c ?_) (fun _ => ?_)⟩
      · rw [il_len]
        have := ok.1
        show ¬ (xs.length : Int) = 8
        omega
      refine ⟨_, rfl, rfl, _, rfl, eq_int (fun c => absurd c (show ¬ (3 : Int) = 4 by decide)) (fun _ => ?_)⟩
      refine ⟨_, rfl, rfl, _, rfl, eq_int (fun c => absurd c (show ¬ (3 : Int) = 5 by decide)) (fun _ => ?_)⟩
      exact q H A.kvs W (Fr.refl _ _)
    | res n =>
      refine ⟨_, rfl, rfl, _, rfl, eq_int (fun _ => ?_) (fun c => absurd rfl c)⟩
      refine ⟨_, rfl, b, _, rfl, .inl (seq_at hb), rfl, _, rfl, eq_int (fun _ => ?_) (fun c => absurd ?_ c)⟩
      rotate_left
      · rw [il_len]
        show ((big 8 n).length : Int) = 8
        rw [big_len]
        rfl
      refine ⟨_, rfl, b, big 8 n, rfl, seq_at hb, big_byt 8 n, fun H1 e1 => ?_⟩
      rw [fromBig_big 8 n ok.1 ok.2]
      have W1 := W.same e1
      refine ⟨_, rfl, aW W1.ob T.c_Store T.n_Store_limit stF9_len ?_⟩
      rw [stF9_put_limit]
      refine ⟨_, rfl, rfl, _, rfl, eq_int (fun c => absurd c (show ¬ (3 : Int) = 4 by decide)) (fun _ => ?_)⟩
      refine ⟨_, rfl, rfl, _, rfl, eq_int (fun c => absurd c (show ¬ (3 : Int) = 5 by decide)) (fun _ => ?_)⟩
      have nn : ∀ x o, H1 x = some o → x ≠ A.q → upd H1 A.q (.ins (CSt K) A.dy (stF9 A { S with limit := n } pd)) x = some o := fun x o h ne => by
        rw [upd_ne ne]
        exact h
      obtain ⟨dx, hsu⟩ := W1.hsu
      exact q _ A.kvs ⟨upd_same, nn _ _ W1.hd W1.q_d.symm, W1.nm.other W1.oq, ⟨dx, nn _ _ hsu fun e => W1.nsu (.inl e)⟩, W1.nsu, W1.oq, W1.od, tr_up W1.tr⟩ ((Fr.of_same e1).up (.inl rfl))
    | keep z key =>
      refine ⟨_, rfl, rfl, _, rfl, eq_int (fun c => absurd c (show ¬ (4 : Int) = 3 by decide)) (fun _ => iteF ?_)⟩
      refine ⟨_, rfl, rfl, _, rfl, eq_int (fun _ => iteT ?_) (fun c => absurd rfl c)⟩
      refine ⟨_, rfl, aF W.ob T.c_Store T.n_Store_suite stF9_suite ⟨_, rfl, A.su, b, z, key, rfl, W.hsu, seq_at hb, ok.1, ok.2.1, fun p k H1 f1 f2 e1 g1 g2 => ?_⟩⟩
      have W1 := W.same e1
      refine ⟨_, rfl, rfl, _, rfl, iteT ?_⟩
      refine ⟨_, rfl, rfl, _, rfl, eq_int (fun _ => ?_) (fun c => absurd rfl c)⟩
      refine ⟨_, rfl, p, _, 1, _, rfl, rfl, seqT_at g1, rfl, _, rfl, aF W1.ob T.c_Store T.n_Store_names stF9_names ⟨_, rfl, p, _, 0, _, rfl, rfl, seqT_at g1, rfl, A.d, _, rfl, DPut.k (k := (Sum.inr z : Key)) W1.hd ?_, ?_⟩⟩
      · exact line_lt (Nat.le_trans W1.nm.kvl (by decide))
      have nk : ¬ O k := fun h => by
        obtain ⟨o, ho⟩ := W.tr k h
        rw [f2] at ho
        cases ho
      have np := W1.nm.put (d := A.d) (z := z) (k := k) (xs := key) ok.1 g2 nk W1.od ⟨ok.2.1, ok.2.2⟩
      obtain ⟨dx, hsu⟩ := W1.hsu
      exact q _ (putK A.kvs (Sum.inr z : Key) (.ref k)) ⟨by rw [upd_ne W1.q_d]; exact W1.ob, upd_same, np, ⟨dx, by rw [upd_ne fun e => W1.nsu (.inr e)]; exact hsu⟩, W1.nsu, W1.oq, W1.od, tr_up W1.tr⟩ ((Fr.of_same e1).up (.inr rfl))
    | rel z key =>
      refine ⟨_, rfl, rfl, _, rfl, eq_int (fun c => absurd c (show ¬ (5 : Int) = 3 by decide)) (fun _ => iteF ?_)⟩
      refine ⟨_, rfl, rfl, _, rfl, eq_int (fun c => absurd c (show ¬ (5 : Int) = 4 by decide)) (fun _ => ?_)⟩
      refine ⟨_, rfl, rfl, _, rfl, eq_int (fun _ => ?_) (fun c => absurd rfl c)⟩
      refine ⟨_, rfl, aF W.ob T.c_Store T.n_Store_suite stF9_suite ⟨_, rfl, A.su, b, z, key, rfl, W.hsu, seq_at hb, ok.1, ok.2.1, fun p k H1 f1 f2 e1 g1 g2 => ?_⟩⟩
      have W1 := W.same e1
      refine ⟨_, rfl, rfl, _, rfl, iteT ?_⟩
      refine ⟨_, rfl, rfl, _, rfl, eq_int (fun c => absurd c (show ¬ (5 : Int) = 4 by decide)) (fun _ => ?_)⟩
      refine ⟨_, rfl, rfl, _, rfl, iteT ?_⟩
      refine ⟨_, rfl, aF W1.ob T.c_Store T.n_Store_names stF9_names ⟨A.d, rfl, .inl ⟨_, .inl W1.hd⟩, _, rfl, p, _, 0, _, rfl, rfl, seqT_at g1, rfl, A.kvs, (Sum.inr z : Key), W1.hd, rfl, fun v hv => ?_, fun hv => ?_⟩⟩
      · have np := W1.nm.del (d := A.d) (z := z) W1.od
        obtain ⟨dx, hsu⟩ := W1.hsu
        exact q _ (dropK A.kvs (Sum.inr z : Key)) ⟨by rw [upd_ne W1.q_d]; exact W1.ob, upd_same, np, ⟨dx, by rw [upd_ne fun e => W1.nsu (.inr e)]; exact hsu⟩, W1.nsu, W1.oq, W1.od, tr_up W1.tr⟩ ((Fr.of_same e1).up (.inr rfl))
      · have hn := W1.nm.none_ z hv
        have eM : S.stepped (.rel z key) = S := by
          show ({ S with limit := S.limit, M := S.M.del z } : Sr) = S
          rw [Nm.del_none hn]
        rw [eM] at q
        exact q _ A.kvs W1 (Fr.of_same e1)
end
end Hush
set_option Elab.async false
set_option linter.all false
set_option maxRecDepth 100000
set_option maxHeartbeats 4000000
/-! store: __init__ -/
namespace Hush
open PySem PySem.Spec PyProof.Rows L2
def openedS (bk : Bool) (D : Dk) (as : List AR) (g : Int) (sd sc : List Int) : Sr := ⟨bk, D.crashes, (replay as).2, (replay as).1, g, sd, sc, (replay as).1⟩
def ownI (a : DA) (p : Addr) : Addr → Prop := fun x => a.own x ∨ x = p
def spStoreInit (K : PySem.W.Frag) : Sp := fun vs H Q E => ∃ (p dx u : Addr) (a : DA) (D : Dk) (o : Bool → Option (Int × List Int × List Int)) (rs : Bool → List (Int × List Int)) (tail : Bool → List Int) (bk : Bool) (g : Int) (sd sc : List Int) (as : List AR),
  vs = [.ref p, .ref u, .ref a.p] ∧ H p = some (.ins (CSt K) dx []) ∧ SuiteAt K H u ∧ DiskAt K H a D ∧ ¬ a.own p ∧ ¬ a.own u ∧ u ≠ p ∧
  (∀ b, Bk (D.s b ++ D.f b) (o b) (rs b) (tail b) ∧ (D.s b ++ D.f b).length ≤ 200000) ∧ bestOf o = bi bk ∧ o bk = some (g, sd, sc) ∧ rs bk = as.map AR.rc ∧ (∀ r ∈ as, r.Ok) ∧ (D.f = fun _ => []) ∧
  (tail bk = [] → ∀ (H' : Hp) (A : SA), A.q = p → WAt K H' a A D (openedS bk D as g sd sc) → Stp H (ownI a p) H' (wown a A) → Q .non H') ∧
  (tail bk ≠ [] → D.power = true → ∀ (H' : Hp) (a' : DA) (A : SA), a'.p = a.p → A.q = p → WAt K H' a' A (D.cut bk (encAll (rs bk)).length) (openedS bk D as g sd sc) → Stp H (ownI a p) H' (wown a' A) → Q .non H') ∧
  (tail bk ≠ [] → D.power = false → ∀ H', DiskAt K H' a D → Fr (fun x => x = p) H H' → E (CPL K) none H')
section
variable {P : Program} {w : World} {K : PySem.W.Frag} {mg : Str → Option Value} {base : Heap}
theorem sc_st_init : FnScope ["self", "suite", "disk", "bank", "records", "length", "kind", "body"] ["self", "suite", "disk"] (defScope s_Store_init) := ⟨rfl, rfl, rfl, by decide +kernel, rfl, by decide +kernel, by decide +kernel⟩
theorem stepped_take (S : Sr) (as : List AR) {i : Nat} {r : AR} (h : as[i]? = some r) : ({ S with limit := (replay (as.take i)).1, M := (replay (as.take i)).2 } : Sr).stepped r = { S with limit := (replay (as.take (i + 1))).1, M := (replay (as.take (i + 1))).2 } := by
  rw [take_more h, replay_snoc]
  rfl
theorem ok_st_init (T : Txt K mg) : Df P w K mg base 6 ("Store", some "__init__") ["self", "suite", "disk"] (spStoreInit K) := by
  refine df_exc T.F_Store_init sc_st_init (fun _ _ _ _ _ _ us hl => match us, hl with | [_, _, _], _ => rfl) (fun vs H Q E h => ?_) (fun cdv A0 outer s H vs Q E hr h => ?_)
  · obtain ⟨p, dx, u, a, D, o, rs, tail, bk, g, sd, sc, as, rfl, _⟩ := h
    rfl
  · obtain ⟨p, dx, u, a, D, o, rs, tail, bk, g, sd, sc, as, rfl, hp, hu, d, np, nu, hup, hbk, hbest, hob, hrs, hok, hf0, q1, q2, q3⟩ := h
    have nd := sc_st_init.nd
    refine ⟨_, pss_cons (ps_set (i := 3) nd rfl (Or.inl rfl) (eCall (ok_best_bank T) hr (by decide) T.g_best_bank (pa_cons (pv 1) (pa_cons (pv 2) pa_nil))))
      (pss_cons (ps_if (pt_cmpR op_lt (pv 3) pe_int (nomark _)) pss_never pss_nil)
      (pss_cons (ps_fld (pv 0) (pv 1) rfl)
      (pss_cons (ps_fld (pv 0) (pv 2) rfl)
      (pss_cons (ps_fld (pv 0) (pv 3) rfl)
      (pss_cons (ps_fld (pv 0) (eMethX0 (ok_crashes T) hr (by decide) T.c_Disk T.m_Disk_crashes passN (pv 2)) rfl)
      (pss_cons (ps_fld (pv 0) pe_dnewK rfl)
      (pss_cons (ps_fld (pv 0) pe_int rfl)
      (pss_cons (ps_asg (eCall (ok_read_records T) hr (by decide) T.g_read_records (pa_cons (eMethX (ok_read T) hr (by decide) T.c_Disk T.m_Disk_read passN (pv 2) (pa_cons (pv 3) pa_nil)) pa_nil)) (pg_tup rfl (pgs_cons (pg_name (i := 4) nd rfl (Or.inl rfl)) (pgs_cons (pg_name (i := 5) nd rfl (Or.inl rfl)) pgs_nil))))
      (pss_cons (ps_asg (eCall (ok_read_begin T) hr (by decide) T.g_read_begin (pa_cons (pv 1) (pa_cons (pe_ix ix_tup (pe_ix ix_list (pv 4) pe_int (fun _ _ => rfl)) pe_int (fun _ _ => rfl)) pa_nil))) (pg_tup rfl (pgs_cons (pg_fld (pv 0)) (pgs_cons (pg_fld (pv 0)) (pgs_cons (pg_fld (pv 0)) pgs_nil)))))
      (pss_cons (ps_nox (ps_for PassesOwn.never rfl (pi_list (pv 4)) (pg_tup rfl (pgs_cons (pg_name (i := 6) nd rfl (Or.inl rfl)) (pgs_cons (pg_name (i := 7) nd rfl (Or.inl rfl)) pgs_nil)))
        (pss_one (ps_expr (eMethX (ok_take T) hr (by decide) T.c_Store T.m_Store_take_record passN (pv 0) (pa_cons (pv 6) (pa_cons (pv 7) pa_nil)))))))
      (pss_cons (ps_fld (pv 0) (pe_fld (pv 0) rfl) rfl)
      (pss_one (ps_if (pt_cmpR op_lt (pv 5) (eLen T.z_len (eMethX (ok_read T) hr (by decide) T.c_Disk T.m_Disk_read passN (pv 2) (pa_cons (pv 3) pa_nil))) (nomark _)) (pss_one (ps_expr (eMethX (ok_cut T) hr (by decide) T.c_Disk T.m_Disk_cut (L2N.passes_call (L2N.takes_of rfl rfl rfl rfl) fun _ _ _ _ h => h) (pv 2) (pa_cons (pv 3) (pa_cons (pv 5) pa_nil))))) pss_nil))))))))))))), ?_⟩
    refine ⟨_, rfl, _, rfl, u, a, D, o, rs, tail, rfl, hu, d, hbk, fun H1 e1 => ?_⟩
    rw [hbest]
    refine ⟨_, rfl, _, _, rfl, rfl, _, rfl, dec2 (fun c => absurd c (by cases bk <;> decide)) (fun _ => ?_)⟩
    have hp1 := e1 _ _ hp
    -- the first fields
    refine ⟨_, rfl, _, rfl, aW hp1 T.c_Store T.n_Store_suite (by show 0 < 1000; decide) ?_⟩
    refine ⟨_, rfl, _, rfl, aW upd_same T.c_Store T.n_Store_disk (by show 1 < 1000; decide) ?_⟩
    refine ⟨_, rfl, _, rfl, aW upd_same T.c_Store T.n_Store_bank (by show 2 < 1000; decide) ?_⟩
    rw [upd_upd, upd_upd]
    have d1 := d.same e1
    have d2 := d1.up (o := .ins (CSt K) dx (putF "_bank" (.int (bi bk)) (putF "_disk" (.ref a.p) (putF "_suite" (.ref u) ([] : List (Str × V)))))) np
    refine ⟨_, rfl, a.p, _, _, rfl, d2.ob, dF_no (by decide +kernel), a, D, rfl, d2, _, rfl, aW upd_same T.c_Store T.n_Store_crashes (by show 3 < 1000; decide) fun n hn => ?_⟩
    rw [upd_upd] at hn ⊢
    have npn : p ≠ n := ne_of_none upd_same hn
    have hn1 : H1 n = none := by
      rw [upd_ne npn.symm] at hn
      exact hn
    refine ⟨_, rfl, aW (by rw [upd_ne npn]; exact upd_same) T.c_Store T.n_Store_names (by show 4 < 1000; decide) ?_⟩
    refine ⟨_, rfl, aW upd_same T.c_Store T.n_Store_limit (by show 5 < 1000; decide) ?_⟩
    rw [upd_upd]
    generalize hF6 : putF "_limit" (.int 0) (putF "_names" (.ref n) (putF "_crashes" (.int D.crashes) (putF "_bank" (.int (bi bk)) (putF "_disk" (.ref a.p) (putF "_suite" (.ref u) ([] : List (Str × V))))))) = F6
    have oldA : ∀ x o, H1 x = some o → x ≠ p → ∀ F4, upd (upd (upd H1 p (.ins (CSt K) dx F4)) n (.dK [])) p (.ins (CSt K) dx F6) x = some o := fun x o h ne F4 => by
      rw [upd_ne ne, upd_ne (ne_of_none h hn1), upd_ne ne]
      exact h
    have gpA : ∀ F4, upd (upd (upd H1 p (.ins (CSt K) dx F4)) n (.dK [])) p (.ins (CSt K) dx F6) p = some (.ins (CSt K) dx F6) := fun F4 => upd_same
    have gnA : ∀ F4, upd (upd (upd H1 p (.ins (CSt K) dx F4)) n (.dK [])) p (.ins (CSt K) dx F6) n = some (.dK []) := fun F4 => by
      rw [upd_ne npn.symm]
      exact upd_same
    have sameE : ∀ (F4 : List (Str × V)), True := fun _ => True.intro
    generalize hF4 : putF "_crashes" (.int D.crashes) (putF "_bank" (.int (bi bk)) (putF "_disk" (.ref a.p) (putF "_suite" (.ref u) ([] : List (Str × V))))) = F4 at *
    replace oldA := fun x o h ne => oldA x o h ne F4
    replace gpA := gpA F4
    replace gnA := gnA F4
    generalize hHA : upd (upd (upd H1 p (.ins (CSt K) dx F4)) n (.dK [])) p (.ins (CSt K) dx F6) = HA at *
    have n_no : ∀ x, a.own x → x ≠ n := fun x hx e => by
      obtain ⟨o', ho'⟩ := d1.tr hx
      rw [e, hn1] at ho'
      cases ho'
    have dA : DiskAt K HA a D := d1.keep fun x o hx h => oldA x o h fun e => np (by rw [← e]; exact hx)
    obtain ⟨udx, hu0⟩ := hu
    have huA : HA u = some (.ins (CS K) udx suF) := oldA _ _ (e1 _ _ hu0) hup
    have frA : Fr (fun x => x = p) H HA := fun x o h ne => oldA x o (e1 _ _ h) ne
    obtain ⟨hbk1, hbkl⟩ := hbk bk
    have hst := hbk1.st
    rw [hob] at hst
    obtain ⟨⟨rs', hrs'⟩, hm2, k1, k2, k3, k4⟩ := hst
    -- records, length = read_records(disk.read(bank))
    refine ⟨_, rfl, a.p, _, _, rfl, dA.ob, dF_no (by decide +kernel), _, rfl, a, D, bk, rfl, dA, by rw [List.length_append] at hbkl; omega, fun p1 H3 f3 e3 g3 => ?_⟩
    rw [hbk1.eq] at g3
    refine ⟨p1, rs bk, tail bk, rfl, seq_at g3, hbk1.ok, hbk1.byt, hbk1.no, by rw [← hbk1.eq]; exact hbkl, fun pt l ts H4 ft fl e4 gt gl hts => ?_⟩
    refine ⟨pt, _, rfl, seqT_at gt, rfl, _, _, rfl, _, _, rfl, rfl, ?_⟩
    have eA4 := e3.trans e4
    have hlA : HA l = none := e3.free fl
    -- read_begin
    have hts' := hts
    rw [hrs'] at hts'
    generalize hrsb : rs bk = R at *
    cases hts' with
    | @cons t0 _ ts' _ hx hr' =>
    obtain ⟨t, bd, rfl, ht, hbd⟩ := hx
    refine ⟨_, rfl, _, rfl, l, _, 0, _, rfl, rfl, seq_at gl, atI_nat (j := 0) rfl, t, _, 1, _, rfl, rfl, seqT_at ht, rfl, ?_⟩
    refine ⟨u, bd, g, sd, sc, rfl, ⟨udx, eA4 _ _ huA⟩, seq_at hbd, k3, k4, k1, k2, fun pb s1 s2 H5 f5 f6 f7 e5 g5 g6 g7 => ?_⟩
    have eA5 := eA4.trans e5
    have gp5 := eA5 _ _ gpA
    have F6l : F6.length < 900 := by
      rw [← hF6, ← hF4]
      show 6 < 900
      decide
    refine ⟨pb, _, rfl, seqT_at g5, rfl, _, _, rfl, _, rfl, p, _, _, _, rfl, gp5, T.c_Store, T.n_Store_generation, Nat.lt_trans F6l (by decide), _, _, rfl, _, rfl, p, _, _, _, rfl, upd_same, T.c_Store, T.n_Store_seed, ?_, _, _, rfl, _, rfl, p, _, _, _, rfl, upd_same, T.c_Store, T.n_Store_secret, ?_, rfl, ?_⟩
    · rw [← hF6, ← hF4]
      show 7 < 1000
      decide
    · rw [← hF6, ← hF4]
      show 8 < 1000
      decide
    rw [upd_upd, upd_upd]
    have eF9 : putF "_secret" (.ref s2) (putF "_seed" (.ref s1) (putF "_generation" (.int g) F6)) = stF9 ⟨p, dx, n, u, s1, s2, []⟩ ⟨bk, D.crashes, fun _ => none, 0, g, sd, sc, 0⟩ a.p := by
      rw [← hF6, ← hF4]
      have e1 : putF "_suite" (.ref u) ([] : List (Str × V)) = fz ["_suite"] [.ref u] := rfl
      rw [e1, fz_add (by decide +kernel) rfl, fz_add (by decide +kernel) rfl, fz_add (by decide +kernel) rfl, fz_add (by decide +kernel) rfl, fz_add (by decide +kernel) rfl, fz_add (by decide +kernel) rfl, fz_add (by decide +kernel) rfl, fz_add (by decide +kernel) rfl]
      rfl
    rw [eF9]
    have g1u : bd ≠ p := ne_of (eA5 _ _ (by exact gpA) |> fun h => (e5 _ _ hbd)) gp5 (by intro z; cases z)
    generalize hB0 : H5 = HB0 at *
    have np1 : s1 ≠ p := ne_of g6 gp5 (by intro z; cases z)
    have np2 : s2 ≠ p := ne_of g7 gp5 (by intro z; cases z)
    have nlp : l ≠ p := ne_of (e5 _ _ gl) gp5 (by intro z; cases z)
    have gn5 := eA5 _ _ gnA
    have d5 := dA.same eA5
    have oldB : ∀ x o, HB0 x = some o → x ≠ p → upd HB0 p (.ins (CSt K) dx (stF9 ⟨p, dx, n, u, s1, s2, []⟩ ⟨bk, D.crashes, fun _ => none, 0, g, sd, sc, 0⟩ a.p)) x = some o := fun x o h ne => by
      rw [upd_ne ne]
      exact h
    have hl5 := e5 _ _ gl
    have hts5 : RecsAt HB0 (V.ref t :: ts') ((1, beginBody g sd sc) :: rs') := Paired.mapP (.cons ⟨t, bd, rfl, ht, hbd⟩ hr') fun v r ⟨t', b', h1, h2, h3⟩ => ⟨t', b', h1, e5 _ _ h2, e5 _ _ h3⟩
    rw [← hrs'] at hts5
    have own_p' : ∀ x, a.own x → x ≠ p := fun x hx e => np (by rw [← e]; exact hx)
    have trO : ∀ x, wown a ⟨p, dx, n, u, s1, s2, []⟩ x → ∃ o, upd HB0 p (.ins (CSt K) dx (stF9 ⟨p, dx, n, u, s1, s2, []⟩ ⟨bk, D.crashes, fun _ => none, 0, g, sd, sc, 0⟩ a.p)) x = some o := tr_up fun x hx => by
      rcases hx with hx | rfl | rfl
      · exact d5.tr hx
      · exact ⟨_, gp5⟩
      · exact ⟨_, gn5⟩
    have nun : u ≠ n := ne_of (eA5 _ _ huA) gn5 (by intro z; cases z)
    have nu2 : ¬ own2 ⟨p, dx, n, u, s1, s2, []⟩ u := fun h => h.elim hup nun
    have T0 : T9 K (upd HB0 p (.ins (CSt K) dx (stF9 ⟨p, dx, n, u, s1, s2, []⟩ ⟨bk, D.crashes, fun _ => none, 0, g, sd, sc, 0⟩ a.p))) (wown a ⟨p, dx, n, u, s1, s2, []⟩) ⟨p, dx, n, u, s1, s2, []⟩ ⟨bk, D.crashes, fun _ => none, 0, g, sd, sc, 0⟩ a.p :=
      ⟨upd_same, oldB _ _ gn5 npn.symm, ⟨.nil, (fun x hx => by cases hx), (fun _ _ => rfl), (fun z v e => by cases e), (fun _ _ => rfl), (fun z xs e => by cases e)⟩, ⟨udx, oldB _ _ (eA5 _ _ huA) hup⟩, nu2, wown_q a _, wown_d a _, trO⟩
    have frB : Fr (fun x => x = p) H (upd HB0 p (.ins (CSt K) dx (stF9 ⟨p, dx, n, u, s1, s2, []⟩ ⟨bk, D.crashes, fun _ => none, 0, g, sd, sc, 0⟩ a.p))) := fun x o h ne => oldB x o (eA5 _ _ (frA x o h ne)) ne
    have hl6 := oldB _ _ hl5 nlp
    have hs16 := oldB _ _ g6 np1
    have hs26 := oldB _ _ g7 np2
    have hts6 : RecsAt _ _ _ := Paired.mapP hts5 fun v r ⟨t', b', h1, h2, h3⟩ => ⟨t', b', h1, oldB _ _ h2 (ne_of h2 gp5 (by intro z; cases z)), oldB _ _ h3 (ne_of h3 gp5 (by intro z; cases z))⟩
    have dB : DiskAt K _ a D := d5.keep fun x o hx h => oldB x o h (own_p' x hx)
    have huB := oldB _ _ (eA5 _ _ huA) hup
    have gpB := T0.ob
    have gnB := T0.hd
    have ns1 : ¬ a.own s1 := fun h => by
      obtain ⟨o', ho'⟩ := dA.tr h
      rw [eA4 _ _ ho'] at f6
      cases f6
    have ns2 : ¬ a.own s2 := fun h => by
      obtain ⟨o', ho'⟩ := dA.tr h
      rw [eA4 _ _ ho'] at f7
      cases f7
    have n1n : s1 ≠ n := ne_of g6 gn5 (by intro z; cases z)
    have n2n : s2 ≠ n := ne_of g7 gn5 (by intro z; cases z)
    have hnH : H n = none := e1.free hn1
    have frH : ∀ {H' : Hp}, Fr (fun x => x = p ∨ x = n) (upd HB0 p (.ins (CSt K) dx (stF9 ⟨p, dx, n, u, s1, s2, []⟩ ⟨bk, D.crashes, fun _ => none, 0, g, sd, sc, 0⟩ a.p))) H' → Fr (fun x => x = p) H H' := fun f x o h ne => f x o (frB x o h ne) fun z => z.elim ne fun e => by
      rw [e, hnH] at h
      cases h
    generalize upd HB0 p (.ins (CSt K) dx (stF9 ⟨p, dx, n, u, s1, s2, []⟩ ⟨bk, D.crashes, fun _ => none, 0, g, sd, sc, 0⟩ a.p)) = HB at *
    have tsl : (V.ref t :: ts').length = as.length := by
      rw [Paired.length hts6, hrs, List.length_map]
    -- for kind, body in records: self.take_record(kind, body)
    generalize hTS : V.ref t :: ts' = TS at *
    refine ⟨_, rfl, l, rfl, ⟨_, seq_at hl6⟩, for_list (K := K) (a := l) (xs := TS) (fun i σ H' => ∃ (v6 v7 : Option V) (kvs : List (Key × V)), σ = [some (.ref p), some (.ref u), some (.ref a.p), some (.int (bi bk)), some (.ref l), some (.int ((encAll R).length : Int)), v6, v7] ∧
        T9 K H' (wown a ⟨p, dx, n, u, s1, s2, []⟩) ⟨p, dx, n, u, s1, s2, kvs⟩ ⟨bk, D.crashes, (replay (as.take i)).2, (replay (as.take i)).1, g, sd, sc, 0⟩ a.p ∧ Fr (fun x => x = p ∨ x = n) HB H')
      ⟨none, none, [], rfl, T0, Fr.refl _ _⟩ (fun i σ H' _ ⟨_, _, _, _, _, f⟩ => seq_at (f _ _ hl6 fun z => z.elim nlp (ne_of hl6 gnB (by intro z; cases z)))) ?_ ?_⟩
    · rintro i x σ H7 hx ⟨v6, v7, kvs, rfl, T7, f7'⟩
      obtain ⟨r0, hr0, t7, b7, rfl, ht7, hb7⟩ := paired_get hts6 hx
      rw [hrs, List.getElem?_map] at hr0
      cases hr1 : as[i]? with
      | none =>
        rw [hr1] at hr0
        cases hr0
      | some r =>
        rw [hr1] at hr0
        obtain rfl := Option.some.inj hr0
        have ht8 := f7' _ _ ht7 fun z => z.elim (ne_of ht7 gpB (by intro z; cases z)) (ne_of ht7 gnB (by intro z; cases z))
        have hb8 := f7' _ _ hb7 fun z => z.elim (ne_of hb7 gpB (by intro z; cases z)) (ne_of hb7 gnB (by intro z; cases z))
        refine ⟨t7, _, rfl, seqT_at ht8, rfl, _, _, rfl, _, _, rfl, rfl, ?_⟩
        refine ⟨_, rfl, p, _, _, rfl, T7.ob, stF9_no (by decide +kernel), _, rfl, _, rfl, _, _, _, a.p, b7, r, rfl, T7, hok r (List.mem_of_getElem? hr1), hb8, fun H8 kvs8 T8 f8 => ?_⟩
        have es := stepped_take ⟨bk, D.crashes, fun _ => none, 0, g, sd, sc, 0⟩ as hr1
        refine ⟨_, _, kvs8, rfl, ?_, f7'.trans f8⟩
        exact (show T9 K H8 _ ⟨p, dx, n, u, s1, s2, kvs8⟩ (({ (⟨bk, D.crashes, fun _ => none, 0, g, sd, sc, 0⟩ : Sr) with limit := (replay (as.take i)).1, M := (replay (as.take i)).2 } : Sr).stepped r) a.p from T8) |> fun z => by rw [es] at z; exact z
    · rintro σ H7 ⟨v6, v7, kvs, rfl, T7, f7'⟩
      rw [tsl, List.take_length] at T7
      refine ⟨_, rfl, aF T7.ob T.c_Store T.n_Store_limit stF9_limit ⟨_, rfl, aW T7.ob T.c_Store T.n_Store_next stF9_len ?_⟩⟩
      rw [stF9_next]
      have old7 : ∀ x o, HB x = some o → x ≠ p → x ≠ n → ∀ v, upd H7 p v x = some o := fun x o h n1 n2 v => by
        rw [upd_ne n1]
        exact f7' x o h fun z => z.elim n1 n2
      have nal : ∀ x, a.own x → x ≠ n := n_no
      obtain ⟨udx', hu7⟩ := T7.hsu
      have W : WAt K (upd H7 p (.ins (CSt K) dx (stF ⟨p, dx, n, u, s1, s2, kvs⟩ (openedS bk D as g sd sc) a.p))) a ⟨p, dx, n, u, s1, s2, kvs⟩ D (openedS bk D as g sd sc) := by
        refine ⟨dB.keep fun x o hx h => old7 x o h (own_p' x hx) (nal x hx) _, upd_same, ?_, T7.nm.other T7.oq, ⟨udx', ?_⟩, old7 _ _ hs16 np1 n1n _, old7 _ _ hs26 np2 n2n _, np, fun h => nal _ h rfl, ?_, ?_, ?_⟩
        · show upd H7 p _ n = _
          rw [upd_ne npn.symm]
          exact T7.hd
        · show upd H7 p _ u = _
          rw [upd_ne hup]
          exact hu7
        · exact fun h => h.elim nu fun h => h.elim hup nun
        · exact fun h => h.elim ns1 fun h => h.elim np1 n1n
        · exact fun h => h.elim ns2 fun h => h.elim np2 n2n
      have frC : Fr (fun x => x = p) H (upd H7 p (.ins (CSt K) dx (stF ⟨p, dx, n, u, s1, s2, kvs⟩ (openedS bk D as g sd sc) a.p))) := frH (f7'.up (.inl rfl))
      have gr : Gr H (ownI a p) (wown a ⟨p, dx, n, u, s1, s2, kvs⟩) := fun x hx => by
        rcases hx with hx | hx | hx
        · exact .inl (.inl hx)
        · exact .inl (.inr hx)
        · exact .inr (by rw [show x = n from hx]; exact hnH)
      have stC : Stp H (ownI a p) (upd H7 p (.ins (CSt K) dx (stF ⟨p, dx, n, u, s1, s2, kvs⟩ (openedS bk D as g sd sc) a.p))) (wown a ⟨p, dx, n, u, s1, s2, kvs⟩) := ⟨frC.mono fun x h => .inr h, gr⟩
      refine ⟨_, rfl, _, rfl, a.p, _, _, rfl, W.dk.ob, dF_no (by decide +kernel), _, rfl, a, D, bk, rfl, W.dk, by rw [List.length_append] at hbkl; omega, fun p2 H8 f8 e8 g8 => ?_⟩
      have W8 := W.same e8
      have st8 := stC.trans (Stp.of_same (O := wown a ⟨p, dx, n, u, s1, s2, kvs⟩) e8)
      rw [hbk1.eq] at g8
      refine ⟨p2, _, rfl, .inl (seq_at g8), _, _, rfl, rfl, _, rfl, ?_⟩
      have tl : (il (encAll R ++ tail bk)).length = (encAll R).length + (tail bk).length := by rw [il_len, List.length_append]
      refine dec2 (fun c => ?_) (fun c => ?_)
      · have nt : tail bk ≠ [] := fun e => by
          rw [tl, e] at c
          simp at c
        refine ⟨_, rfl, a.p, _, _, rfl, W8.dk.ob, dF_no (by decide +kernel), _, rfl, _, rfl, a, D, bk, (encAll R).length, rfl, W8.dk, fun _ => ⟨by unfold Dk.pend; rw [hf0]; rfl, ?_⟩, fun hpw H9 a9 p9 d9 st9 => ?_, fun hpw => ?_⟩
        · have := congrArg List.length hbk1.eq
          rw [hf0, List.length_append, List.length_append] at this
          have h0 : ((fun _ => [] : Bool → List Int) bk).length = 0 := rfl
          omega
        · obtain ⟨W9, st9'⟩ := W8.disk d9 p9 st9
          exact q2 nt hpw H9 a9 _ p9 rfl W9 (st8.trans st9')
        · exact q3 nt hpw _ W8.dk (frC.trans (Fr.of_same e8))
      · have et : tail bk = [] := by
          rw [tl] at c
          exact List.length_eq_zero_iff.mp (by omega)
        exact q1 et _ _ rfl W8 st8
end
end Hush
set_option Elab.async false
set_option linter.all false
set_option maxRecDepth 100000
set_option maxHeartbeats 4000000
/-! The plain law: torn records, packing. -/
namespace Hush
open PySem PySem.Spec PyProof.Rows L2
theorem bodyLen_take (l : List Int) : bodyLen l = bodyLen (l.take 3) := by
  unfold bodyLen
  rw [List.drop_take, List.take_take]
  rfl
theorem bodyLen_rec {r : Int × List Int} (h : RecOk r) (rest : List Int) : bodyLen (recBytes r.1 r.2 ++ rest) = r.2.length := by
  have h1 := recLen_rec h rest
  have h2 := (recLen_pos (d := recBytes r.1 r.2 ++ rest) (by rw [h1]; omega)).1
  omega
theorem recLen_255 {d : List Int} (h : recLen d ≠ 0) : d.getD (7 + bodyLen d) 0 = 255 := by
  unfold recLen at h
  split at h
  · exact absurd rfl h
  · split at h
    · exact absurd rfl h
    · split at h
      · exact absurd rfl h
      · rename_i h3
        exact Classical.byContradiction fun e => h3 (.inr e)
theorem torn_one {r : Int × List Int} (h : RecOk r) {kept : Nat} (m : Nat) (hk : kept < 8 + r.2.length) (rest : List Int) : recLen ((recBytes r.1 r.2 ++ rest).take kept ++ List.replicate m 0) = 0 := by
  refine Classical.byContradiction fun e => ?_
  have h255 := recLen_255 e
  generalize hd : (recBytes r.1 r.2 ++ rest).take kept ++ List.replicate m 0 = d at *
  have ltk : ((recBytes r.1 r.2 ++ rest).take kept).length = kept := by
    rw [List.length_take, List.length_append, recBytes_len]
    omega
  have hlt : 7 + bodyLen d < kept := by
    refine Classical.byContradiction fun hge => ?_
    rw [← hd, List.getD_eq_getElem?_getD, List.getElem?_append_right (by rw [ltk, hd]; omega)] at h255
    rw [List.getElem?_replicate] at h255
    split at h255
    · exact absurd h255 (by decide)
    · exact absurd h255 (by decide)
  have hb : bodyLen d = r.2.length := by
    rw [bodyLen_take, ← hd, List.take_append_of_le_length (by rw [ltk]; omega), List.take_take, Nat.min_eq_left (by omega), ← bodyLen_take, bodyLen_rec h]
  omega
theorem replicate_byt (m : Nat) : Byt (List.replicate m 0) := fun x hx => by
  rw [List.eq_of_mem_replicate hx]
  exact ⟨by decide, by decide⟩
theorem torn_split : ∀ {rs : List (Int × List Int)}, (∀ r ∈ rs, RecOk r) → ∀ (kept m : Nat), kept < (encAll rs).length →
    ∃ (j : Nat) (tail : List Int), j < rs.length ∧ (encAll rs).take kept ++ List.replicate m 0 = encAll (rs.take j) ++ tail ∧ recLen tail = 0 ∧ Byt tail
  | [], _, kept, m, hk => by simp [encAll_nil] at hk
  | r :: rs, h, kept, m, hk => by
    have hr := h r List.mem_cons_self
    have lr := recBytes_len r.1 r.2
    rw [encAll_cons] at hk ⊢
    by_cases hlt : kept < 8 + r.2.length
    · refine ⟨0, (recBytes r.1 r.2 ++ encAll rs).take kept ++ List.replicate m 0, Nat.zero_lt_succ _, rfl, torn_one hr m hlt _, ?_⟩
      exact (((recBytes_byt hr.lo hr.hi hr.byt).append (encAll_byt fun q hq => h q (List.mem_cons_of_mem _ hq))).take kept).append (replicate_byt m)
    · have e : (recBytes r.1 r.2 ++ encAll rs).take kept = recBytes r.1 r.2 ++ (encAll rs).take (kept - (8 + r.2.length)) := by
        rw [List.take_append, lr, List.take_of_length_le (by omega)]
      rw [List.length_append, lr] at hk
      obtain ⟨j, tail, h1, h2, h3, h4⟩ := torn_split (rs := rs) (fun q hq => h q (List.mem_cons_of_mem _ hq)) (kept - (8 + r.2.length)) m (by omega)
      refine ⟨j + 1, tail, Nat.succ_lt_succ h1, ?_, h3, h4⟩
      rw [e, List.append_assoc, h2, List.take_succ_cons, encAll_cons, List.append_assoc]
theorem torn_nil (kept t : Nat) : Dk.torn [] kept t = [] := by
  unfold Dk.torn
  simp
theorem torn_all {xs : List Int} {kept : Nat} (t : Nat) (h : xs.length ≤ kept) : Dk.torn xs kept t = xs := by
  unfold Dk.torn
  rw [List.take_of_length_le h, Nat.sub_self, Nat.min_zero]
  exact List.append_nil _
theorem torn_len (xs : List Int) (kept t : Nat) : (Dk.torn xs kept t).length ≤ xs.length := by
  unfold Dk.torn
  rw [List.length_append, List.length_replicate, List.length_take]
  omega
/-! ### packing -/
def packA (S : Sr) : List AR := [.beg (S.gen + 1) S.seed S.secret, .res S.limit] ++ (namesL S.M).map (fun r => .keep r.1 r.2) ++ [.done]
theorem packA_rc (S : Sr) : (packA S).map AR.rc = packRecs S := by
  unfold packA packRecs packHead
  rw [List.map_append, List.map_append, List.map_map]
  rfl
theorem fold_keeps (M : Nm) : ∀ (L : List Str) (lim : Int) (N : Nm), ((L.filterMap fun z => (M z).map fun k => (z, k)).map (fun r => AR.keep r.1 r.2)).foldl rstep (lim, N) = (lim, fun y => if y ∈ L ∧ (M y).isSome = true then M y else N y)
  | [], lim, N => by
    show (lim, N) = _
    refine congrArg (Prod.mk lim) ?_
    funext y
    rw [if_neg (fun h => by cases h.1)]
  | x :: r, lim, N => by
    rw [List.filterMap_cons]
    cases e : M x with
    | none =>
      show ((r.filterMap fun z => (M z).map fun k => (z, k)).map (fun r => AR.keep r.1 r.2)).foldl rstep (lim, N) = _
      rw [fold_keeps M r lim N]
      refine congrArg (Prod.mk lim) ?_
      funext y
      by_cases hy : y = x
      · subst hy
        rw [if_neg (by rw [e]; intro h; cases h.2), if_neg (by rw [e]; intro h; cases h.2)]
      · have : (y ∈ x :: r ∧ (M y).isSome = true) ↔ (y ∈ r ∧ (M y).isSome = true) := by
          rw [List.mem_cons]
          exact ⟨fun h => ⟨h.1.elim (fun e => absurd e hy) id, h.2⟩, fun h => ⟨.inr h.1, h.2⟩⟩
        by_cases q : y ∈ r ∧ (M y).isSome = true
        · rw [if_pos q, if_pos (this.mpr q)]
        · rw [if_neg q, if_neg (fun z => q (this.mp z))]
    | some k =>
      show ((r.filterMap fun z => (M z).map fun k => (z, k)).map (fun r => AR.keep r.1 r.2)).foldl rstep (lim, N.put x k) = _
      rw [fold_keeps M r lim _]
      refine congrArg (Prod.mk lim) ?_
      funext y
      by_cases hy : y = x
      · subst hy
        by_cases q : y ∈ r ∧ (M y).isSome = true
        · rw [if_pos q, if_pos ⟨List.mem_cons_of_mem _ q.1, q.2⟩]
        · rw [if_neg q, if_pos (c := y ∈ y :: r ∧ (M y).isSome = true) ⟨List.mem_cons_self, by rw [e]; rfl⟩]
          show (if y = y then some k else N y) = _
          rw [if_pos rfl, e]
      · have : (y ∈ x :: r ∧ (M y).isSome = true) ↔ (y ∈ r ∧ (M y).isSome = true) := by
          rw [List.mem_cons]
          exact ⟨fun h => ⟨h.1.elim (fun e => absurd e hy) id, h.2⟩, fun h => ⟨.inr h.1, h.2⟩⟩
        by_cases q : y ∈ r ∧ (M y).isSome = true
        · rw [if_pos q, if_pos (this.mpr q)]
        · rw [if_neg q, if_neg (fun z => q (this.mp z))]
          show (if y = x then some k else N y) = N y
          rw [if_neg hy]
/-- names: only the four, each with a key -/
def NmOk (M : Nm) : Prop := (∀ z, z ∉ L4 → M z = none) ∧ ∀ z xs, M z = some xs → xs.length = 16 ∧ Byt xs
theorem packA_replay {S : Sr} (h : NmOk S.M) : replay (packA S) = (S.limit, S.M) := by
  unfold replay packA
  rw [List.foldl_append, List.foldl_append]
  show rstep (((namesL S.M).map (fun r => AR.keep r.1 r.2)).foldl rstep (S.limit, fun _ => none)) .done = _
  unfold namesL
  rw [fold_keeps]
  show (S.limit, _) = (S.limit, S.M)
  congr 1
  funext y
  by_cases q : y ∈ L4 ∧ (S.M y).isSome = true
  · rw [if_pos q]
  · rw [if_neg q]
    by_cases hy : y ∈ L4
    · cases e : S.M y with
      | none => rfl
      | some k => exact absurd ⟨hy, by rw [e]; rfl⟩ q
    · exact (h.1 y hy).symm
theorem packA_ok {S : Sr} (o : SrOk S) (h : NmOk S.M) : ∀ r ∈ packA S, r.Ok := by
  intro r hr
  unfold packA at hr
  rcases List.mem_append.mp hr with hr | hr
  · rcases List.mem_append.mp hr with hr | hr
    · rcases List.mem_cons.mp hr with rfl | hr
      · exact ⟨o.l1, o.l2, o.b1, o.b2⟩
      · obtain rfl := List.mem_singleton.mp hr
        exact ⟨o.m0, by have := o.m1; omega⟩
    · obtain ⟨n, hn, rfl⟩ := List.mem_map.mp hr
      obtain ⟨m1, m2⟩ := namesL_mem hn
      exact ⟨m1, h.2 _ _ m2⟩
  · obtain rfl := List.mem_singleton.mp hr
    exact True.intro
theorem pack_no_done (S : Sr) {j : Nat} (h : j < (packRecs S).length) : (2, []) ∉ (packRecs S).take j := by
  have e : packRecs S = (packHead S ++ (namesL S.M).map krec) ++ [(2, [])] := rfl
  have hl : j ≤ (packHead S ++ (namesL S.M).map krec).length := by
    rw [e, List.length_append] at h
    exact Nat.le_of_lt_succ h
  rw [e, List.take_append_of_le_length hl]
  intro hm
  have hm := List.mem_of_mem_take hm
  rcases List.mem_append.mp hm with hm | hm
  · rcases List.mem_cons.mp hm with hm | hm
    · exact absurd (congrArg Prod.fst hm) (by show ¬ (2 : Int) = 1; decide)
    · exact absurd (congrArg Prod.fst (List.mem_singleton.mp hm)) (by show ¬ (2 : Int) = 3; decide)
  · obtain ⟨n, _, hn⟩ := List.mem_map.mp hm
    exact absurd (congrArg Prod.fst hn) (by show ¬ (4 : Int) = 2; decide)
end Hush
set_option Elab.async false
set_option linter.all false
set_option maxRecDepth 100000
set_option maxHeartbeats 4000000
/-! The plain law: the banks. -/
namespace Hush
open PySem PySem.Spec PyProof.Rows L2
/-- what the two banks hold: a complete bank and an older or incomplete one -/
structure Banks (D : Dk) (sd sc : List Int) (bk : Bool) (g : Int) (as : List AR) (tl : List Int) : Prop where
  s1 : D.s bk = encAll (as.map AR.rc) ++ tl
  ok : ∀ r ∈ as, r.Ok
  hd : ∃ as', as = .beg g sd sc :: as'
  dn : AR.done ∈ as
  tb : Byt tl
  tn : recLen tl = 0
  ot : ∃ o rs tail, Bk (D.s (!bk)) o rs tail ∧ ∀ g' x y, o = some (g', x, y) → g' < g
  g0 : 0 ≤ g
  g1 : g < 256 ^ 4
  l1 : sd.length = 16
  l2 : sc.length = 16
  f0 : D.f = fun _ => []
  sz : ∀ b, (D.s b).length ≤ 65536
theorem as_ok {as : List AR} (h : ∀ r ∈ as, r.Ok) : ∀ r ∈ as.map AR.rc, RecOk r := fun r hr => by
  obtain ⟨x, hx, rfl⟩ := List.mem_map.mp hr
  exact AR.ok_rc (h x hx)
theorem Banks.main {D : Dk} {sd sc : List Int} {bk : Bool} {g : Int} {as : List AR} {tl : List Int} (b : Banks D sd sc bk g as tl) : Bk (D.s bk) (some (g, sd, sc)) (as.map AR.rc) tl := by
  refine ⟨b.s1, as_ok b.ok, b.tb, b.tn, ?_⟩
  obtain ⟨as', e⟩ := b.hd
  exact ⟨⟨as'.map AR.rc, by rw [e]; rfl⟩, List.mem_map.mpr ⟨.done, b.dn, rfl⟩, b.l1, b.l2, b.g0, b.g1⟩
theorem Banks.move {D D' : Dk} {sd sc : List Int} {bk : Bool} {g : Int} {as : List AR} {tl : List Int} (b : Banks D sd sc bk g as tl) (hs : D'.s bk = D.s bk) (hf : D'.f = fun _ => []) (ot : ∃ o rs tail, Bk (D'.s (!bk)) o rs tail ∧ ∀ g' x y, o = some (g', x, y) → g' < g) (hz : (D'.s (!bk)).length ≤ 65536) : Banks D' sd sc bk g as tl :=
  ⟨by rw [hs]; exact b.s1, b.ok, b.hd, b.dn, b.tb, b.tn, ot, b.g0, b.g1, b.l1, b.l2, hf, fun c => by
    by_cases e : c = bk
    · rw [e, hs]
      exact b.sz bk
    · have : c = !bk := by cases c <;> cases bk <;> first | rfl | exact absurd rfl e
      rw [this]
      exact hz⟩
theorem Banks.congr {D D' : Dk} {sd sc : List Int} {bk : Bool} {g : Int} {as : List AR} {tl : List Int} (b : Banks D sd sc bk g as tl) (hs : D'.s = D.s) (hf : D'.f = fun _ => []) : Banks D' sd sc bk g as tl :=
  b.move (by rw [hs]) hf (by rw [hs]; exact b.ot) (by rw [hs]; exact b.sz _)
theorem Banks.crash0 {D : Dk} {sd sc : List Int} {bk : Bool} {g : Int} {as : List AR} {tl : List Int} (b : Banks D sd sc bk g as tl) (kept t : Nat) : Banks (D.crash kept t) sd sc bk g as tl := by
  refine b.congr ?_ rfl
  funext c
  show D.s c ++ Dk.torn (D.f c) kept t = D.s c
  rw [b.f0, torn_nil, List.append_nil]
/-- a deed has missed the power -/
structure Fail (D D' : Dk) (sd sc : List Int) (gm : Int) (len : Nat) (r0 r1 : Int × Nm) : Prop where
  pw : D'.power = false
  cr : D'.crashes = D.crashes
  sz : ∀ b, (D'.s b).length ≤ 65536
  fz : ∀ b, (D'.f b).length ≤ 100000
  cs : ∀ kept t, ∃ bk g as tl, Banks (D'.crash kept t) sd sc bk g as tl ∧ replay as = (if D'.pend = len ∧ D'.pend ≤ kept then r1 else r0) ∧ g ≤ gm
theorem pend_nil {D : Dk} (h : D.f = fun _ => []) : D.pend = 0 := by
  unfold Dk.pend
  rw [h]
  rfl
theorem pend_one {D : Dk} {b : Bool} {xs : List Int} (h : D.f = upB (fun _ => []) b xs) : D.pend = xs.length := by
  unfold Dk.pend
  rw [h]
  cases b
  · show xs.length + 0 = _
    omega
  · show 0 + xs.length = _
    omega
theorem empty_other {D : Dk} {bk : Bool} {g : Int} (h : D.s (!bk) = []) : ∃ o rs tail, Bk (D.s (!bk)) o rs tail ∧ ∀ (g' : Int) x y, o = some (g', x, y) → g' < g :=
  ⟨none, [], [], ⟨by rw [h]; rfl, fun r h => (by cases h), Byt.nil, rfl, Or.inl rfl⟩, fun _ _ _ h => by cases h⟩
theorem fail_flat {D D' : Dk} {sd sc : List Int} {bk : Bool} {g : Int} {as : List AR} {r0 r1 : Int × Nm} {len : Nat} (b : Banks D' sd sc bk g as []) (rp : replay as = r0) (hl : len ≠ 0) (pw : D'.power = false) (cr : D'.crashes = D.crashes) {gm : Int} (hg : g ≤ gm) : Fail D D' sd sc gm len r0 r1 :=
  ⟨pw, cr, b.sz, fun c => by rw [b.f0]; exact Nat.zero_le _, fun kept t => ⟨bk, g, as, [], b.crash0 kept t, by rw [pend_nil b.f0, if_neg (fun h => hl h.1.symm)]; exact rp, hg⟩⟩
section
variable {D : Dk} {S : Sr} {as : List AR}
theorem pack_fail (b : Banks D S.seed S.secret S.bank S.gen as []) (rp : replay as = (S.limit, S.M)) (o : SrOk S) (nm : NmOk S.M) (h : (packM D S).1 = false) {len : Nat} (hl0 : len ≠ 0) (hl : len < 69) {r1 : Int × Nm} :
    (packM D S).2.2 = S ∧ Fail D (packM D S).2.1 S.seed S.secret (S.gen + 1) len (S.limit, S.M) r1 := by
  obtain ⟨pl1, pl2⟩ := packBytes_len o
  have nb : S.bank ≠ !S.bank := by cases S.bank <;> decide
  unfold packM at h ⊢
  by_cases h1 : D.power = true
  · rw [if_pos h1] at h ⊢
    dsimp only at h ⊢
    have f1 : (D.cut (!S.bank) 0).f = fun _ => [] := by
      show D.used.f = _
      rw [Dk.used_f, b.f0]
    have s1 : (D.cut (!S.bank) 0).s = upB D.s (!S.bank) [] := rfl
    have c1 : (D.cut (!S.bank) 0).crashes = D.crashes := Dk.used_crashes D
    generalize D.cut (!S.bank) 0 = D1 at *
    have s1a : D1.s S.bank = D.s S.bank := by rw [s1, upB_ne nb]
    have s1b : D1.s (!S.bank) = [] := by rw [s1, upB_same]
    have b1 : Banks D1 S.seed S.secret S.bank S.gen as [] := b.move s1a f1 (empty_other s1b) (by rw [s1b]; exact Nat.zero_le _)
    by_cases h2 : D1.power = true
    · rw [if_pos h2] at h ⊢
      have f2 : (D1.wr (!S.bank) (packBytes S)).f = upB (fun _ => []) (!S.bank) (packBytes S) := by
        show upB D1.f (!S.bank) (D1.f (!S.bank) ++ packBytes S) = _
        rw [f1]
        rfl
      have s2 : (D1.wr (!S.bank) (packBytes S)).s = D1.s := Dk.used_s D1
      have c2 : (D1.wr (!S.bank) (packBytes S)).crashes = D1.crashes := Dk.used_crashes D1
      generalize D1.wr (!S.bank) (packBytes S) = D2 at *
      by_cases h3 : D2.power = true
      · rw [if_pos h3] at h
        cases h
      · rw [if_neg h3]
        refine ⟨rfl, ⟨by simpa using h3, c2.trans c1, fun c => by rw [s2]; exact b1.sz c, fun c => ?_, fun kept t => ?_⟩⟩
        · show (D2.f c).length ≤ 100000
          rw [f2]
          unfold upB
          split
          · omega
          · exact Nat.zero_le _
        · have hp : D2.pend = (packBytes S).length := pend_one f2
          have ca : (D2.crash kept t).s S.bank = D.s S.bank := by
            show D2.s S.bank ++ Dk.torn (D2.f S.bank) kept t = _
            rw [f2, upB_ne nb, torn_nil, List.append_nil, s2, s1a]
          have cb : (D2.crash kept t).s (!S.bank) = Dk.torn (packBytes S) kept t := by
            show D2.s (!S.bank) ++ Dk.torn (D2.f (!S.bank)) kept t = _
            rw [f2, upB_same, s2, s1b, List.nil_append]
          have tlen := torn_len (packBytes S) kept t
          rw [hp, if_neg (fun h => by omega)]
          have g0 := o.g0
          by_cases hk : (packBytes S).length ≤ kept
          · rw [torn_all t hk] at cb
            refine ⟨!S.bank, S.gen + 1, packA S, [], ⟨?_, packA_ok o nm, ⟨_, rfl⟩, ?_, Byt.nil, rfl, ⟨some (S.gen, S.seed, S.secret), as.map AR.rc, [], ?_, ?_⟩, by omega, o.g1, o.l1, o.l2, rfl, fun c => ?_⟩, packA_replay nm, Int.le_refl _⟩
            · rw [cb, packA_rc, List.append_nil]
              rfl
            · unfold packA
              exact List.mem_append_right _ List.mem_cons_self
            · rw [Bool.not_not, ca]
              exact b.main
            · intro g' x y e
              cases e
              omega
            · by_cases e : c = S.bank
              · rw [e, ca]
                exact b.sz _
              · have : c = !S.bank := by
                  revert e
                  cases c <;> cases S.bank <;> simp
                rw [this, cb]
                omega
          · obtain ⟨j, tail, t1, t2, t3, t4⟩ := torn_split (rs := packRecs S) (packRecs_ok o) kept (min t ((packBytes S).length - ((packBytes S).take kept).length)) (by show kept < (packBytes S).length; omega)
            have cb' : (D2.crash kept t).s (!S.bank) = encAll ((packRecs S).take j) ++ tail := cb.trans t2
            refine ⟨S.bank, S.gen, as, [], b.move ca rfl ⟨none, (packRecs S).take j, tail, ⟨cb', fun r hr => packRecs_ok o r (List.mem_of_mem_take hr), t4, t3, Or.inr (pack_no_done S t1)⟩, fun _ _ _ h => by cases h⟩ ?_, rp, by omega⟩
            rw [cb]
            omega
    · rw [if_neg h2]
      exact ⟨rfl, fail_flat b1 rp hl0 (by simpa using h2) c1 (by omega)⟩
  · rw [if_neg h1]
    exact ⟨rfl, fail_flat b rp hl0 (by simpa using h1) rfl (by omega)⟩
theorem pack_ok (b : Banks D S.seed S.secret S.bank S.gen as []) (o : SrOk S) (nm : NmOk S.M) (h : (packM D S).1 = true) :
    (packM D S).2.2 = { S with bank := !S.bank, gen := S.gen + 1 } ∧ Banks (packM D S).2.1 S.seed S.secret (!S.bank) (S.gen + 1) (packA S) [] ∧ (packM D S).2.1.crashes = D.crashes ∧ ((packM D S).2.1.s (!S.bank)).length ≤ 400 := by
  obtain ⟨k0, k1, k2, k3, k4, k5⟩ := packM_ok (fun _ => b.f0) h
  obtain ⟨pl1, pl2⟩ := packBytes_len o
  have g0 := o.g0
  refine ⟨k1, ⟨?_, packA_ok o nm, ⟨_, rfl⟩, ?_, Byt.nil, rfl, ⟨some (S.gen, S.seed, S.secret), as.map AR.rc, [], ?_, ?_⟩, by omega, o.g1, o.l1, o.l2, k4, fun c => ?_⟩, k5, by rw [k2]; exact pl2⟩
  · rw [k2, packA_rc, List.append_nil]
    rfl
  · unfold packA
    exact List.mem_append_right _ List.mem_cons_self
  · rw [Bool.not_not, k3]
    exact b.main
  · intro g' x y e
    cases e
    omega
  · by_cases e : c = S.bank
    · rw [e, k3]
      exact b.sz _
    · have : c = !S.bank := by
        revert e
        cases c <;> cases S.bank <;> simp
      rw [this, k2]
      omega
/-- a record is appended -/
theorem Banks.snoc {D' : Dk} {sd sc : List Int} {bk : Bool} {g : Int} (b : Banks D sd sc bk g as []) {r : AR} (hr : r.Ok) (hs : D'.s bk = D.s bk ++ recBytes r.rc.1 r.rc.2) (hf : D'.f = fun _ => []) (ho : D'.s (!bk) = D.s (!bk)) (hz : (D.s bk).length + (recBytes r.rc.1 r.rc.2).length ≤ 65536) : Banks D' sd sc bk g (as ++ [r]) [] := by
  obtain ⟨as', e⟩ := b.hd
  refine ⟨?_, fun x hx => ?_, ⟨as' ++ [r], by rw [e]; rfl⟩, List.mem_append_left _ b.dn, Byt.nil, rfl, by rw [ho]; exact b.ot, b.g0, b.g1, b.l1, b.l2, hf, fun c => ?_⟩
  · have h1 := b.s1
    rw [List.append_nil] at h1
    rw [hs, h1, List.append_nil, List.map_append]
    exact (encAll_snoc _ _).symm
  · rcases List.mem_append.mp hx with hx | hx
    · exact b.ok x hx
    · rw [List.mem_singleton.mp hx]
      exact hr
  · by_cases e : c = bk
    · rw [e, hs, List.length_append]
      exact hz
    · have : c = !bk := by
        revert e
        cases c <;> cases bk <;> simp
      rw [this, ho]
      exact b.sz _
theorem app_ok {r : AR} (b : Banks D S.seed S.secret S.bank S.gen as []) (hr : r.Ok) (hz : (D.s S.bank).length + (recBytes r.rc.1 r.rc.2).length ≤ 65536) (h : (appM D S (recBytes r.rc.1 r.rc.2)).1 = true) :
    (appM D S (recBytes r.rc.1 r.rc.2)).2.2 = S ∧ Banks (appM D S (recBytes r.rc.1 r.rc.2)).2.1 S.seed S.secret S.bank S.gen (as ++ [r]) [] ∧ (appM D S (recBytes r.rc.1 r.rc.2)).2.1.crashes = D.crashes := by
  have nb : (!S.bank) ≠ S.bank := by cases S.bank <;> decide
  unfold appM at h ⊢
  by_cases h1 : D.power = true
  · rw [if_pos h1] at h ⊢
    dsimp only at h ⊢
    have f2 : (D.wr S.bank (recBytes r.rc.1 r.rc.2)).f = upB (fun _ => []) S.bank (recBytes r.rc.1 r.rc.2) := by
      show upB D.f S.bank (D.f S.bank ++ _) = _
      rw [b.f0]
      rfl
    have s2 : (D.wr S.bank (recBytes r.rc.1 r.rc.2)).s = D.s := Dk.used_s D
    have c2 : (D.wr S.bank (recBytes r.rc.1 r.rc.2)).crashes = D.crashes := Dk.used_crashes D
    generalize D.wr S.bank (recBytes r.rc.1 r.rc.2) = D2 at *
    by_cases h2 : D2.power = true
    · rw [if_pos h2]
      refine ⟨rfl, b.snoc hr ?_ ?_ ?_ hz, ?_⟩
      · show upB D2.s S.bank (D2.s S.bank ++ D2.f S.bank) S.bank = _
        rw [upB_same, s2, f2, upB_same]
      · show upB D2.f S.bank [] = _
        rw [f2]
        funext c
        by_cases e : c = S.bank
        · rw [e, upB_same]
        · rw [upB_ne e, upB_ne e]
      · show upB D2.s S.bank _ (!S.bank) = _
        rw [upB_ne nb, s2]
      · show D2.used.crashes = _
        rw [Dk.used_crashes, c2]
    · rw [if_neg h2] at h
      cases h
  · rw [if_neg h1] at h
    cases h
theorem app_fail {r : AR} (b : Banks D S.seed S.secret S.bank S.gen as []) (rp : replay as = (S.limit, S.M)) (hr : r.Ok) (hz : (D.s S.bank).length + (recBytes r.rc.1 r.rc.2).length ≤ 65536) (h : (appM D S (recBytes r.rc.1 r.rc.2)).1 = false) {gm : Int} (hg : S.gen ≤ gm) :
    (appM D S (recBytes r.rc.1 r.rc.2)).2.2 = S ∧ Fail D (appM D S (recBytes r.rc.1 r.rc.2)).2.1 S.seed S.secret gm (recBytes r.rc.1 r.rc.2).length (S.limit, S.M) (rstep (S.limit, S.M) r) := by
  have nb : (!S.bank) ≠ S.bank := by cases S.bank <;> decide
  have lr := recBytes_len r.rc.1 r.rc.2
  unfold appM at h ⊢
  by_cases h1 : D.power = true
  · rw [if_pos h1] at h ⊢
    dsimp only at h ⊢
    have f2 : (D.wr S.bank (recBytes r.rc.1 r.rc.2)).f = upB (fun _ => []) S.bank (recBytes r.rc.1 r.rc.2) := by
      show upB D.f S.bank (D.f S.bank ++ _) = _
      rw [b.f0]
      rfl
    have s2 : (D.wr S.bank (recBytes r.rc.1 r.rc.2)).s = D.s := Dk.used_s D
    have c2 : (D.wr S.bank (recBytes r.rc.1 r.rc.2)).crashes = D.crashes := Dk.used_crashes D
    generalize D.wr S.bank (recBytes r.rc.1 r.rc.2) = D2 at *
    by_cases h2 : D2.power = true
    · rw [if_pos h2] at h
      cases h
    · rw [if_neg h2]
      refine ⟨rfl, ⟨by simpa using h2, c2, fun c => by rw [s2]; exact b.sz c, fun c => ?_, fun kept t => ?_⟩⟩
      · show (D2.f c).length ≤ 100000
        rw [f2]
        unfold upB
        split
        · omega
        · exact Nat.zero_le _
      · have hp : D2.pend = (recBytes r.rc.1 r.rc.2).length := pend_one f2
        have ca : (D2.crash kept t).s S.bank = D.s S.bank ++ Dk.torn (recBytes r.rc.1 r.rc.2) kept t := by
          show D2.s S.bank ++ Dk.torn (D2.f S.bank) kept t = _
          rw [f2, upB_same, s2]
        have cb : (D2.crash kept t).s (!S.bank) = D.s (!S.bank) := by
          show D2.s (!S.bank) ++ Dk.torn (D2.f (!S.bank)) kept t = _
          rw [f2, upB_ne nb, torn_nil, List.append_nil, s2]
        have tlen := torn_len (recBytes r.rc.1 r.rc.2) kept t
        by_cases hk : (recBytes r.rc.1 r.rc.2).length ≤ kept
        · rw [hp, if_pos ⟨rfl, hk⟩]
          rw [torn_all t hk] at ca
          exact ⟨S.bank, S.gen, as ++ [r], [], b.snoc hr ca rfl cb hz, by rw [replay_snoc, rp], hg⟩
        · rw [hp, if_neg (fun h => hk h.2)]
          have el : encAll [r.rc] = recBytes r.rc.1 r.rc.2 := by rw [encAll_cons, encAll_nil, List.append_nil]
          obtain ⟨j, tail, t1, t2, t3, t4⟩ := torn_split (rs := [r.rc]) (fun x hx => by rw [List.mem_singleton.mp hx]; exact AR.ok_rc hr) kept (min t ((recBytes r.rc.1 r.rc.2).length - ((recBytes r.rc.1 r.rc.2).take kept).length)) (by rw [el]; omega)
          have j0 : j = 0 := by
            have : j < 1 := t1
            omega
          subst j0
          rw [el] at t2
          have ca' : (D2.crash kept t).s S.bank = D.s S.bank ++ tail := ca.trans (by rw [show Dk.torn (recBytes r.rc.1 r.rc.2) kept t = tail from t2])
          have h1 := b.s1
          rw [List.append_nil] at h1
          refine ⟨S.bank, S.gen, as, tail, ⟨by rw [ca', h1], b.ok, b.hd, b.dn, t4, t3, by rw [cb]; exact b.ot, b.g0, b.g1, b.l1, b.l2, rfl, fun c => ?_⟩, rp, hg⟩
          by_cases e : c = S.bank
          · rw [e, ca, List.length_append]
            omega
          · have : c = !S.bank := by
              revert e
              cases c <;> cases S.bank <;> simp
            rw [this, cb]
            exact b.sz _
  · rw [if_neg h1]
    exact ⟨rfl, fail_flat b rp (by omega) (by simpa using h1) rfl hg⟩
end
end Hush
set_option Elab.async false
set_option linter.all false
set_option maxRecDepth 100000
set_option maxHeartbeats 4000000
/-! The plain law: the deeds. -/
namespace Hush
open PySem PySem.Spec PyProof.Rows L2
section
variable {D : Dk} {S : Sr} {as : List AR}
theorem pack_nopower (h : D.power = false) : packM D S = (false, D, S) := by
  unfold packM
  rw [if_neg (by rw [h]; decide)]
theorem app_nopower (h : D.power = false) (data : List Int) : appM D S data = (false, D, S) := by
  unfold appM
  rw [if_neg (by rw [h]; decide)]
theorem keep_nopower (h : D.power = false) (data : List Int) : keepM D S data = (false, D, S) := by
  unfold keepM
  split
  · rw [pack_nopower h]
    rfl
  · exact app_nopower h data
theorem keep_ok {r : AR} (b : Banks D S.seed S.secret S.bank S.gen as []) (rp : replay as = (S.limit, S.M)) (o : SrOk S) (nm : NmOk S.M) (hr : r.Ok) (hl : (recBytes r.rc.1 r.rc.2).length ≤ 68) (h : (keepM D S (recBytes r.rc.1 r.rc.2)).1 = true) :
    ∃ as' bk g, (keepM D S (recBytes r.rc.1 r.rc.2)).2.2 = { S with bank := bk, gen := g } ∧ Banks (keepM D S (recBytes r.rc.1 r.rc.2)).2.1 S.seed S.secret bk g as' [] ∧ replay as' = rstep (S.limit, S.M) r ∧ g ≤ S.gen + 1 ∧ (keepM D S (recBytes r.rc.1 r.rc.2)).2.1.crashes = D.crashes := by
  unfold keepM at h ⊢
  by_cases c : 65536 < (D.s S.bank ++ D.f S.bank).length + (recBytes r.rc.1 r.rc.2).length
  · rw [if_pos c] at h ⊢
    dsimp only at h ⊢
    cases h1 : (packM D S).1 with
    | false =>
      rw [h1, if_neg (by decide)] at h
      rw [h1] at h
      cases h
    | true =>
      rw [h1, if_pos rfl] at h
      rw [if_pos rfl]
      obtain ⟨k1, k2, k3, k4⟩ := pack_ok b o nm h1
      generalize (packM D S).2.1 = D1 at *
      generalize (packM D S).2.2 = S1 at *
      subst k1
      obtain ⟨m1, m2, m3⟩ := app_ok (S := { S with bank := !S.bank, gen := S.gen + 1 }) k2 hr (by show (D1.s (!S.bank)).length + _ ≤ 65536; omega) h
      exact ⟨packA S ++ [r], !S.bank, S.gen + 1, m1, m2, by rw [replay_snoc, packA_replay nm], Int.le_refl _, m3.trans k3⟩
  · rw [if_neg c] at h ⊢
    rw [List.length_append, b.f0] at c
    have c' : (D.s S.bank).length + (recBytes r.rc.1 r.rc.2).length ≤ 65536 := by
      have : ((fun _ => [] : Bool → List Int) S.bank).length = 0 := rfl
      omega
    obtain ⟨m1, m2, m3⟩ := app_ok b hr c' h
    exact ⟨as ++ [r], S.bank, S.gen, m1, m2, by rw [replay_snoc, rp], by omega, m3⟩
theorem keep_fail {r : AR} (b : Banks D S.seed S.secret S.bank S.gen as []) (rp : replay as = (S.limit, S.M)) (o : SrOk S) (nm : NmOk S.M) (hr : r.Ok) (hl : (recBytes r.rc.1 r.rc.2).length ≤ 68) (h : (keepM D S (recBytes r.rc.1 r.rc.2)).1 = false) :
    ∃ bk g, (keepM D S (recBytes r.rc.1 r.rc.2)).2.2 = { S with bank := bk, gen := g } ∧ 0 ≤ g ∧ g ≤ S.gen + 1 ∧ Fail D (keepM D S (recBytes r.rc.1 r.rc.2)).2.1 S.seed S.secret (S.gen + 1) (recBytes r.rc.1 r.rc.2).length (S.limit, S.M) (rstep (S.limit, S.M) r) := by
  have lr := recBytes_len r.rc.1 r.rc.2
  have g0 := o.g0
  unfold keepM at h ⊢
  by_cases c : 65536 < (D.s S.bank ++ D.f S.bank).length + (recBytes r.rc.1 r.rc.2).length
  · rw [if_pos c] at h ⊢
    dsimp only at h ⊢
    cases h1 : (packM D S).1 with
    | false =>
      rw [if_neg (by decide)]
      obtain ⟨k1, k2⟩ := pack_fail b rp o nm h1 (len := (recBytes r.rc.1 r.rc.2).length) (by omega) (by omega) (r1 := rstep (S.limit, S.M) r)
      exact ⟨S.bank, S.gen, k1, g0, by omega, k2⟩
    | true =>
      rw [h1, if_pos rfl] at h
      rw [if_pos rfl]
      obtain ⟨k1, k2, k3, k4⟩ := pack_ok b o nm h1
      generalize (packM D S).2.1 = D1 at *
      generalize (packM D S).2.2 = S1 at *
      subst k1
      obtain ⟨m1, m2⟩ := app_fail (S := { S with bank := !S.bank, gen := S.gen + 1 }) k2 (packA_replay nm) hr (by show (D1.s (!S.bank)).length + _ ≤ 65536; omega) h (gm := S.gen + 1) (Int.le_refl _)
      exact ⟨!S.bank, S.gen + 1, m1, by omega, Int.le_refl _, ⟨m2.pw, m2.cr.trans k3, m2.sz, m2.fz, m2.cs⟩⟩
  · rw [if_neg c] at h ⊢
    rw [List.length_append, b.f0] at c
    have c' : (D.s S.bank).length + (recBytes r.rc.1 r.rc.2).length ≤ 65536 := by
      have : ((fun _ => [] : Bool → List Int) S.bank).length = 0 := rfl
      omega
    obtain ⟨m1, m2⟩ := app_fail b rp hr c' h (gm := S.gen + 1) (by omega)
    exact ⟨S.bank, S.gen, m1, g0, by omega, m2⟩
end
/-! ### a deed as the law calls it -/
inductive Res
  | done
  | error
  | power
  deriving DecidableEq
def Res.s : Res → Str
  | .done => "done"
  | .error => "error"
  | .power => "power"
abbrev ROut : Type := Res × Dk × Sr
def tell (r : Out) : ROut := (if r.1 = true then .done else .power, r.2)
def callM (D : Dk) (S : Sr) (wh : Nat) (z : Str) (key : List Int) : ROut :=
  if wh = 0 then
    match S.M z with
    | some kk => (if kk = key then .done else .error, D, S)
    | none => tell (keepNameM D S z key)
  else if wh = 1 then
    if S.M z = some key then tell (releaseM D S z key) else (.error, D, S)
  else if wh = 2 then tell (nextM D S)
  else tell (packM D S)
def afterM (M : Nm) (wh : Nat) (z : Str) (key : List Int) : Nm :=
  if wh = 0 then (match M z with
    | some _ => M
    | none => M.put z key)
  else if wh = 1 then (if M z = some key then M.del z else M)
  else M
def mayM (M : Nm) (wh : Nat) (z : Str) (key : List Int) : Bool :=
  if wh = 0 then decide (M z = none) || decide (M z = some key)
  else if wh = 1 then decide (M z = some key)
  else true
def needsM (S : Sr) (M : Nm) (wh : Nat) (z : Str) (key : List Int) : Bool :=
  if wh = 0 then decide (M z = none)
  else if wh = 1 then decide (M z = some key)
  else decide (wh = 3) || decide (S.next = S.limit)
def sizeM (wh : Nat) (z : Str) : Nat := if wh < 2 then 25 + z.length else 16
structure PInv (D : Dk) (S : Sr) (M : Nm) (sd sc : List Int) (n : Nat) : Prop where
  bk : ∃ as, Banks D sd sc S.bank S.gen as [] ∧ replay as = (S.limit, S.M)
  eM : S.M = M
  e1 : S.seed = sd
  e2 : S.secret = sc
  cr : S.crashes = D.crashes
  gb : S.gen ≤ 1 + n
  l0 : 0 ≤ S.limit
  lb : S.limit ≤ 16 * n
  nm : NmOk M
  b1 : Byt sd
  b2 : Byt sc
theorem srOk_of {S : Sr} {sd sc : List Int} {M : Nm} {n : Nat} (hn : n ≤ 1000) (e1 : S.seed = sd) (e2 : S.secret = sc) (b1 : Byt sd) (b2 : Byt sc) (l1 : sd.length = 16) (l2 : sc.length = 16) (g0 : 0 ≤ S.gen) (gb : S.gen ≤ 2 + n) (l0 : 0 ≤ S.limit) (lb : S.limit ≤ 16 * n) (eM : S.M = M) (nm : NmOk M) : SrOk S :=
  ⟨by rw [e1]; exact l1, by rw [e2]; exact l2, by rw [e1]; exact b1, by rw [e2]; exact b2, g0, by show S.gen + 1 < 4294967296; omega, l0, by show S.limit + 16 < 18446744073709551616; omega, fun z xs h => nm.2 z xs (by rw [← eM]; exact h)⟩
theorem PInv.srOk {D : Dk} {S : Sr} {M : Nm} {sd sc : List Int} {n : Nat} (I : PInv D S M sd sc n) (hn : n ≤ 1000) : SrOk S := by
  obtain ⟨as, b, _⟩ := I.bk
  exact srOk_of hn I.e1 I.e2 I.b1 I.b2 b.l1 b.l2 b.g0 (by have := I.gb; omega) I.l0 I.lb I.eM I.nm
theorem PInv.dOk {D : Dk} {S : Sr} {M : Nm} {sd sc : List Int} {n : Nat} (I : PInv D S M sd sc n) : DOk D := by
  obtain ⟨as, b, _⟩ := I.bk
  exact ⟨b.sz, fun c => by rw [b.f0]; exact Nat.zero_le _, fun _ => b.f0⟩
/-- the power was lost within a deed -/
structure Half (D' : Dk) (S' : Sr) (M : Nm) (sd sc : List Int) (n : Nat) (wh : Nat) (z : Str) (key : List Int) : Prop where
  pw : D'.power = false
  eM : S'.M = M
  e1 : S'.seed = sd
  e2 : S'.secret = sc
  cr : S'.crashes = D'.crashes
  dk : DOk D'
  sr : SrOk S'
  lb : S'.limit ≤ 16 * n
  ag : callM D' S' wh z key = (.power, D', S')
  cs : ∀ kept t, ∃ bk g as tl lim, Banks (D'.crash kept t) sd sc bk g as tl ∧ replay as = (lim, if D'.pend = sizeM wh z ∧ D'.pend ≤ kept then afterM M wh z key else M) ∧ g ≤ 2 + n ∧ 0 ≤ lim ∧ lim ≤ 16 * (n + 1)
theorem NmOk.put {M : Nm} (h : NmOk M) {z : Str} {k : List Int} (hz : z ∈ L4) (hk : k.length = 16 ∧ Byt k) : NmOk (M.put z k) := by
  refine ⟨fun y hy => ?_, fun y xs e => ?_⟩
  · show (if y = z then some k else M y) = none
    rw [if_neg (fun e => hy (by rw [e]; exact hz))]
    exact h.1 y hy
  · have e' : (if y = z then some k else M y) = some xs := e
    split at e'
    · cases e'
      exact hk
    · exact h.2 y xs e'
theorem NmOk.del {M : Nm} (h : NmOk M) (z : Str) : NmOk (M.del z) := by
  refine ⟨fun y hy => ?_, fun y xs e => ?_⟩
  · show (if y = z then none else M y) = none
    split
    · rfl
    · exact h.1 y hy
  · have e' : (if y = z then none else M y) = some xs := e
    split at e'
    · cases e'
    · exact h.2 y xs e'
theorem keyrec_len {k : Int} {z : Str} {key : List Int} (hl : key.length = 16) : (recBytes k (keyBody z key)).length = 25 + z.length := by
  rw [recBytes_len, keyBody_len, codes_len, hl]
  omega
theorem afterM_ok {M : Nm} (h : NmOk M) (wh : Nat) {z : Str} {k : List Int} (hz : z ∈ L4) (hk : k.length = 16 ∧ Byt k) : NmOk (afterM M wh z k) := by
  unfold afterM
  split
  · split
    · exact h
    · exact h.put hz hk
  · split
    · split
      · exact h.del z
      · exact h
    · exact h
section
variable {D : Dk} {S : Sr} {M : Nm} {sd sc : List Int} {n wh : Nat} {z : Str} {key : List Int}
theorem deed (I : PInv D S M sd sc n) (hn : n ≤ 900) (hw : wh < 4) (hz : z ∈ L4) (hk : key.length = 16 ∧ Byt key) :
    match callM D S wh z key with
    | (.done, D', S') => mayM M wh z key = true ∧ PInv D' S' (afterM M wh z key) sd sc (n + 1)
    | (.error, D', S') => mayM M wh z key = false ∧ D' = D ∧ S' = S
    | (.power, D', S') => needsM S M wh z key = true ∧ Half D' S' M sd sc n wh z key := by
  have o := I.srOk (by omega)
  obtain ⟨as, b, rp⟩ := I.bk
  have nm : NmOk S.M := by rw [I.eM]; exact I.nm
  have b' : Banks D S.seed S.secret S.bank S.gen as [] := by rw [I.e1, I.e2]; exact b
  have zl := (L4_ok z hz).1.2
  have gb := I.gb
  have lb := I.lb
  have g0 := o.g0
  obtain rfl := I.eM
  obtain rfl := I.e1
  obtain rfl := I.e2
  have hw4 : wh = 0 ∨ wh = 1 ∨ wh = 2 ∨ wh = 3 := by omega
  rcases hw4 with rfl | rfl | rfl | rfl
  · -- keep_name
    cases e : S.M z with
    | some kk =>
      have ec : callM D S 0 z key = (if kk = key then .done else .error, D, S) := by
        unfold callM
        rw [if_pos rfl, e]
      rw [ec]
      by_cases h : kk = key
      · rw [if_pos h]
        refine ⟨by unfold mayM; rw [if_pos rfl, e, h]; simp, ?_⟩
        have ea : afterM S.M 0 z key = S.M := by
          unfold afterM
          rw [if_pos rfl, e]
        rw [ea]
        exact ⟨⟨as, b, rp⟩, rfl, rfl, rfl, I.cr, by omega, I.l0, by omega, nm, I.b1, I.b2⟩
      · rw [if_neg h]
        refine ⟨by unfold mayM; rw [if_pos rfl, e]; simp [h], rfl, rfl⟩
    | none =>
      have ec : callM D S 0 z key = tell (keepNameM D S z key) := by
        unfold callM
        rw [if_pos rfl, e]
      have ea : afterM S.M 0 z key = S.M.put z key := by
        unfold afterM
        rw [if_pos rfl, e]
      have hr : (AR.keep z key).Ok := ⟨hz, hk⟩
      have hl : (recBytes (AR.keep z key).rc.1 (AR.keep z key).rc.2).length = 25 + z.length := keyrec_len hk.1
      rw [ec, ea]
      unfold keepNameM
      dsimp only
      cases h : (keepM D S (recBytes 4 (keyBody z key))).1 with
      | true =>
        rw [if_pos rfl]
        obtain ⟨as', bk, g, k1, k2, k3, k4, k5⟩ := keep_ok b' rp o nm hr (by omega) h
        refine ⟨by unfold mayM; rw [if_pos rfl, e]; simp, ?_⟩
        have k1' : (keepM D S (recBytes 4 (keyBody z key))).2.2 = { S with bank := bk, gen := g } := k1
        have k2' : Banks (keepM D S (recBytes 4 (keyBody z key))).2.1 S.seed S.secret bk g as' [] := k2
        have k5' : (keepM D S (recBytes 4 (keyBody z key))).2.1.crashes = D.crashes := k5
        rw [k1']
        exact ⟨⟨as', k2', k3⟩, rfl, rfl, rfl, I.cr.trans k5'.symm, by show g ≤ 1 + ((n + 1 : Nat) : Int); omega, I.l0, by show S.limit ≤ 16 * ((n + 1 : Nat) : Int); omega, nm.put hz hk, I.b1, I.b2⟩
      | false =>
        rw [if_neg (by decide)]
        obtain ⟨bk, g, k1, k2, k3, k4⟩ := keep_fail b' rp o nm hr (by omega) h
        have k1' : (keepM D S (recBytes 4 (keyBody z key))).2.2 = { S with bank := bk, gen := g } := k1
        have k4' : Fail D (keepM D S (recBytes 4 (keyBody z key))).2.1 S.seed S.secret (S.gen + 1) (25 + z.length) (S.limit, S.M) (S.limit, S.M.put z key) := by
          rw [← hl]
          exact k4
        show match (tell (keepM D S (recBytes 4 (keyBody z key)))) with
          | (.done, D', S') => _
          | (.error, D', S') => _
          | (.power, D', S') => _
        have et : tell (keepM D S (recBytes 4 (keyBody z key))) = (.power, (keepM D S (recBytes 4 (keyBody z key))).2.1, (keepM D S (recBytes 4 (keyBody z key))).2.2) := by
          unfold tell
          rw [h]
          rfl
        rw [et]
        show needsM S S.M 0 z key = true ∧ Half _ _ _ _ _ _ _ _ _
        rw [k1']
        generalize (keepM D S (recBytes 4 (keyBody z key))).2.1 = D' at *
        refine ⟨by unfold needsM; rw [if_pos rfl, e]; rfl, ⟨k4'.pw, rfl, rfl, rfl, I.cr.trans k4'.cr.symm, ⟨k4'.sz, k4'.fz, fun hp => by rw [k4'.pw] at hp; cases hp⟩, srOk_of (n := n) (by omega) rfl rfl I.b1 I.b2 b.l1 b.l2 k2 (by show g ≤ 2 + (n : Int); omega) I.l0 I.lb rfl nm, lb, ?_, fun kept t => ?_⟩⟩
        · unfold callM
          rw [if_pos rfl]
          show (match S.M z with
            | some kk => _
            | none => tell (keepNameM D' { S with bank := bk, gen := g } z key)) = _
          rw [e]
          unfold keepNameM
          rw [keep_nopower k4'.pw]
          rfl
        · obtain ⟨bk', g', as', tl, q1, q2, q3⟩ := k4'.cs kept t
          refine ⟨bk', g', as', tl, S.limit, q1, ?_, by omega, I.l0, by omega⟩
          rw [q2, ea]
          show _ = (S.limit, if D'.pend = 25 + z.length ∧ D'.pend ≤ kept then _ else _)
          split <;> rfl
  · -- release
    have ec : callM D S 1 z key = if S.M z = some key then tell (releaseM D S z key) else (.error, D, S) := by
      unfold callM
      rw [if_neg (by decide), if_pos rfl]
    rw [ec]
    by_cases e : S.M z = some key
    · rw [if_pos e]
      have ea : afterM S.M 1 z key = S.M.del z := by
        unfold afterM
        rw [if_neg (by decide), if_pos rfl, if_pos e]
      have hr : (AR.rel z key).Ok := ⟨hz, hk⟩
      have hl : (recBytes (AR.rel z key).rc.1 (AR.rel z key).rc.2).length = 25 + z.length := keyrec_len hk.1
      rw [ea]
      unfold releaseM
      dsimp only
      cases h : (keepM D S (recBytes 5 (keyBody z key))).1 with
      | true =>
        rw [if_pos rfl]
        obtain ⟨as', bk, g, k1, k2, k3, k4, k5⟩ := keep_ok b' rp o nm hr (by omega) h
        refine ⟨by unfold mayM; rw [if_neg (by decide), if_pos rfl, e]; simp, ?_⟩
        have k1' : (keepM D S (recBytes 5 (keyBody z key))).2.2 = { S with bank := bk, gen := g } := k1
        have k2' : Banks (keepM D S (recBytes 5 (keyBody z key))).2.1 S.seed S.secret bk g as' [] := k2
        have k5' : (keepM D S (recBytes 5 (keyBody z key))).2.1.crashes = D.crashes := k5
        rw [k1']
        exact ⟨⟨as', k2', k3⟩, rfl, rfl, rfl, I.cr.trans k5'.symm, by show g ≤ 1 + ((n + 1 : Nat) : Int); omega, I.l0, by show S.limit ≤ 16 * ((n + 1 : Nat) : Int); omega, nm.del z, I.b1, I.b2⟩
      | false =>
        rw [if_neg (by decide)]
        obtain ⟨bk, g, k1, k2, k3, k4⟩ := keep_fail b' rp o nm hr (by omega) h
        have k1' : (keepM D S (recBytes 5 (keyBody z key))).2.2 = { S with bank := bk, gen := g } := k1
        have k4' : Fail D (keepM D S (recBytes 5 (keyBody z key))).2.1 S.seed S.secret (S.gen + 1) (25 + z.length) (S.limit, S.M) (S.limit, S.M.del z) := by
          rw [← hl]
          exact k4
        have et : tell (keepM D S (recBytes 5 (keyBody z key))) = (.power, (keepM D S (recBytes 5 (keyBody z key))).2.1, (keepM D S (recBytes 5 (keyBody z key))).2.2) := by
          unfold tell
          rw [h]
          rfl
        rw [et]
        show needsM S S.M 1 z key = true ∧ Half _ _ _ _ _ _ _ _ _
        rw [k1']
        generalize (keepM D S (recBytes 5 (keyBody z key))).2.1 = D' at *
        refine ⟨by unfold needsM; rw [if_neg (by decide), if_pos rfl, e]; simp, ⟨k4'.pw, rfl, rfl, rfl, I.cr.trans k4'.cr.symm, ⟨k4'.sz, k4'.fz, fun hp => by rw [k4'.pw] at hp; cases hp⟩, srOk_of (n := n) (by omega) rfl rfl I.b1 I.b2 b.l1 b.l2 k2 (by show g ≤ 2 + (n : Int); omega) I.l0 I.lb rfl nm, lb, ?_, fun kept t => ?_⟩⟩
        · unfold callM
          rw [if_neg (by decide), if_pos rfl, if_pos (show S.M z = some key from e)]
          unfold releaseM
          rw [keep_nopower k4'.pw]
          rfl
        · obtain ⟨bk', g', as', tl, q1, q2, q3⟩ := k4'.cs kept t
          refine ⟨bk', g', as', tl, S.limit, q1, ?_, by omega, I.l0, by omega⟩
          rw [q2, ea]
          show _ = (S.limit, if D'.pend = 25 + z.length ∧ D'.pend ≤ kept then _ else _)
          split <;> rfl
    · rw [if_neg e]
      refine ⟨by unfold mayM; rw [if_neg (by decide), if_pos rfl]; simp [e], rfl, rfl⟩
  · -- next_number
    have ec : callM D S 2 z key = tell (nextM D S) := by
      unfold callM
      rw [if_neg (by decide), if_neg (by decide), if_pos rfl]
    have ea : afterM S.M 2 z key = S.M := by
      unfold afterM
      rw [if_neg (by decide), if_neg (by decide)]
    have em : mayM S.M 2 z key = true := by
      unfold mayM
      rw [if_neg (by decide), if_neg (by decide)]
    rw [ec, ea, em]
    unfold nextM
    by_cases e : S.next = S.limit
    · rw [if_pos e]
      dsimp only
      have l0 := I.l0
      have hr : (AR.res (S.limit + 16)).Ok := ⟨by omega, by show S.limit + 16 < 18446744073709551616; omega⟩
      have hl : (recBytes (AR.res (S.limit + 16)).rc.1 (AR.res (S.limit + 16)).rc.2).length = 16 := by
        rw [recBytes_len]
        show 8 + (big 8 (S.limit + 16)).length = 16
        rw [big_len]
      cases h : (keepM D S (recBytes 3 (big 8 (S.limit + 16)))).1 with
      | true =>
        rw [if_pos rfl]
        obtain ⟨as', bk, g, k1, k2, k3, k4, k5⟩ := keep_ok b' rp o nm hr (by omega) h
        refine ⟨rfl, ?_⟩
        have k1' : (keepM D S (recBytes 3 (big 8 (S.limit + 16)))).2.2 = { S with bank := bk, gen := g } := k1
        have k2' : Banks (keepM D S (recBytes 3 (big 8 (S.limit + 16)))).2.1 S.seed S.secret bk g as' [] := k2
        have k5' : (keepM D S (recBytes 3 (big 8 (S.limit + 16)))).2.1.crashes = D.crashes := k5
        rw [k1']
        exact ⟨⟨as', k2', k3⟩, rfl, rfl, rfl, I.cr.trans k5'.symm, by show g ≤ 1 + ((n + 1 : Nat) : Int); omega, by show 0 ≤ S.limit + 16; omega, by show S.limit + 16 ≤ 16 * ((n + 1 : Nat) : Int); omega, nm, I.b1, I.b2⟩
      | false =>
        rw [if_neg (by decide)]
        obtain ⟨bk, g, k1, k2, k3, k4⟩ := keep_fail b' rp o nm hr (by omega) h
        have k1' : (keepM D S (recBytes 3 (big 8 (S.limit + 16)))).2.2 = { S with bank := bk, gen := g } := k1
        have k4' : Fail D (keepM D S (recBytes 3 (big 8 (S.limit + 16)))).2.1 S.seed S.secret (S.gen + 1) 16 (S.limit, S.M) (S.limit + 16, S.M) := by
          rw [← hl]
          exact k4
        have et : tell (keepM D S (recBytes 3 (big 8 (S.limit + 16)))) = (.power, (keepM D S (recBytes 3 (big 8 (S.limit + 16)))).2.1, (keepM D S (recBytes 3 (big 8 (S.limit + 16)))).2.2) := by
          unfold tell
          rw [h]
          rfl
        rw [et]
        show needsM S S.M 2 z key = true ∧ Half _ _ _ _ _ _ _ _ _
        rw [k1']
        generalize (keepM D S (recBytes 3 (big 8 (S.limit + 16)))).2.1 = D' at *
        refine ⟨by unfold needsM; rw [if_neg (by decide), if_neg (by decide), e]; simp, ⟨k4'.pw, rfl, rfl, rfl, I.cr.trans k4'.cr.symm, ⟨k4'.sz, k4'.fz, fun hp => by rw [k4'.pw] at hp; cases hp⟩, srOk_of (n := n) (by omega) rfl rfl I.b1 I.b2 b.l1 b.l2 k2 (by show g ≤ 2 + (n : Int); omega) I.l0 I.lb rfl nm, lb, ?_, fun kept t => ?_⟩⟩
        · unfold callM
          rw [if_neg (by decide), if_neg (by decide), if_pos rfl]
          unfold nextM
          rw [if_pos (show S.next = S.limit from e), keep_nopower k4'.pw]
          rfl
        · obtain ⟨bk', g', as', tl, q1, q2, q3⟩ := k4'.cs kept t
          rw [ea]
          by_cases hc : D'.pend = 16 ∧ D'.pend ≤ kept
          · rw [if_pos hc] at q2
            refine ⟨bk', g', as', tl, S.limit + 16, q1, ?_, by omega, by omega, by omega⟩
            rw [q2]
            split <;> rfl
          · rw [if_neg hc] at q2
            refine ⟨bk', g', as', tl, S.limit, q1, ?_, by omega, I.l0, by omega⟩
            rw [q2]
            split <;> rfl
    · rw [if_neg e]
      exact ⟨rfl, ⟨⟨as, b, rp⟩, rfl, rfl, rfl, I.cr, by show S.gen ≤ 1 + ((n + 1 : Nat) : Int); omega, I.l0, by show S.limit ≤ 16 * ((n + 1 : Nat) : Int); omega, nm, I.b1, I.b2⟩⟩
  · -- pack
    have ec : callM D S 3 z key = tell (packM D S) := by
      unfold callM
      rw [if_neg (by decide), if_neg (by decide), if_neg (by decide)]
    have ea : afterM S.M 3 z key = S.M := by
      unfold afterM
      rw [if_neg (by decide), if_neg (by decide)]
    have em : mayM S.M 3 z key = true := by
      unfold mayM
      rw [if_neg (by decide), if_neg (by decide)]
    rw [ec, ea, em]
    cases h : (packM D S).1 with
    | true =>
      have et : tell (packM D S) = (.done, (packM D S).2.1, (packM D S).2.2) := by
        unfold tell
        rw [h]
        rfl
      rw [et]
      obtain ⟨k1, k2, k3, k4⟩ := pack_ok b' o nm h
      show true = true ∧ _
      rw [k1]
      exact ⟨rfl, ⟨⟨packA S, k2, packA_replay nm⟩, rfl, rfl, rfl, I.cr.trans k3.symm, by show S.gen + 1 ≤ 1 + ((n + 1 : Nat) : Int); omega, I.l0, by show S.limit ≤ 16 * ((n + 1 : Nat) : Int); omega, nm, I.b1, I.b2⟩⟩
    | false =>
      have et : tell (packM D S) = (.power, (packM D S).2.1, (packM D S).2.2) := by
        unfold tell
        rw [h]
        rfl
      rw [et]
      obtain ⟨k1, k4⟩ := pack_fail b' rp o nm h (len := 16) (by decide) (by decide) (r1 := (S.limit, S.M))
      show needsM S S.M 3 z key = true ∧ Half _ _ _ _ _ _ _ _ _
      rw [k1]
      generalize (packM D S).2.1 = D' at *
      refine ⟨by unfold needsM; rw [if_neg (by decide), if_neg (by decide)]; simp, ⟨k4.pw, rfl, rfl, rfl, I.cr.trans k4.cr.symm, ⟨k4.sz, k4.fz, fun hp => by rw [k4.pw] at hp; cases hp⟩, o, lb, ?_, fun kept t => ?_⟩⟩
      · unfold callM
        rw [if_neg (by decide), if_neg (by decide), if_neg (by decide), pack_nopower k4.pw]
        rfl
      · obtain ⟨bk', g', as', tl, q1, q2, q3⟩ := k4.cs kept t
        rw [ea]
        refine ⟨bk', g', as', tl, S.limit, q1, ?_, by omega, I.l0, by omega⟩
        rw [q2]
        split <;> split <;> rfl
end
end Hush
set_option Elab.async false
set_option linter.all false
set_option maxRecDepth 100000
set_option maxHeartbeats 4000000
/-! The plain law: opening; the beginning. -/
namespace Hush
open PySem PySem.Spec PyProof.Rows L2
section
variable {D : Dk} {sd sc : List Int} {bk : Bool} {g lim : Int} {as : List AR} {tl : List Int} {M : Nm}
theorem Banks.best (b : Banks D sd sc bk g as tl) : ∃ (o : Bool → Option (Int × List Int × List Int)) (rs : Bool → List (Int × List Int)) (tail : Bool → List Int),
    (∀ c, Bk (D.s c ++ D.f c) (o c) (rs c) (tail c) ∧ (D.s c ++ D.f c).length ≤ 200000) ∧ bestOf o = bi bk ∧ o bk = some (g, sd, sc) ∧ rs bk = as.map AR.rc ∧ tail bk = tl := by
  obtain ⟨o', rs', tail', h1, h2⟩ := b.ot
  have hm := b.main
  have g0 := b.g0
  have e : ∀ c, D.s c ++ D.f c = D.s c := fun c => by
    rw [b.f0]
    exact List.append_nil _
  have nb : (!bk) ≠ bk := by cases bk <;> decide
  refine ⟨upB (fun _ => o') bk (some (g, sd, sc)), upB (fun _ => rs') bk (as.map AR.rc), upB (fun _ => tail') bk tl, fun c => ⟨?_, ?_⟩, ?_, upB_same, upB_same, upB_same⟩
  · rw [e]
    by_cases h : c = bk
    · rw [h, upB_same, upB_same, upB_same]
      exact hm
    · rw [upB_ne h, upB_ne h, upB_ne h]
      have : c = !bk := by
        revert h
        cases c <;> cases bk <;> simp
      rw [this]
      exact h1
  · rw [e]
    have := b.sz c
    omega
  · have step1 : ∀ (acc : Int × Int) (c : Bool), acc.2 < g → bestStep acc c (some (g, sd, sc)) = (bi c, g) := fun acc c h => if_pos h
    have step2 : ∀ (acc : Int × Int) (c : Bool), (acc.2 = -1 ∨ acc.2 = g) → ((bestStep acc c o').2 < g ∧ acc.2 = -1) ∨ (acc.2 = g ∧ bestStep acc c o' = acc) := fun acc c h => by
      unfold bestStep
      cases o' with
      | none =>
        rcases h with h | h
        · exact .inl ⟨by show acc.2 < g; omega, h⟩
        · exact .inr ⟨h, rfl⟩
      | some x =>
        obtain ⟨g', x, y⟩ := x
        have hg := h2 g' x y rfl
        dsimp only
        by_cases c1 : acc.2 < g'
        · rw [if_pos c1]
          rcases h with h | h
          · exact .inl ⟨hg, h⟩
          · omega
        · rw [if_neg c1]
          rcases h with h | h
          · exact .inl ⟨by omega, h⟩
          · exact .inr ⟨h, rfl⟩
    unfold bestOf
    cases bk
    · rw [upB_same, upB_ne (by decide), step1 _ _ (by show (-1 : Int) < g; omega)]
      rcases step2 (bi false, g) true (.inr rfl) with h | h
      · have : (g : Int) = -1 := h.2
        omega
      · rw [h.2]
    · rw [upB_same, upB_ne (by decide)]
      rcases step2 (-1, -1) false (.inl rfl) with h | h
      · rw [step1 _ _ h.1]
      · have : (-1 : Int) = g := h.1
        omega
theorem Banks.cutTail (b : Banks D sd sc bk g as tl) : Banks (D.cut bk (encAll (as.map AR.rc)).length) sd sc bk g as [] := by
  have nb : (!bk) ≠ bk := by cases bk <;> decide
  have s1 : (D.cut bk (encAll (as.map AR.rc)).length).s bk = encAll (as.map AR.rc) := by
    show upB D.s bk ((D.s bk).take _) bk = _
    rw [upB_same, b.s1, List.take_append_of_le_length (Nat.le_refl _), List.take_of_length_le (Nat.le_refl _)]
  have s2 : (D.cut bk (encAll (as.map AR.rc)).length).s (!bk) = D.s (!bk) := upB_ne nb
  refine ⟨by rw [s1, List.append_nil], b.ok, b.hd, b.dn, Byt.nil, rfl, by rw [s2]; exact b.ot, b.g0, b.g1, b.l1, b.l2, ?_, fun c => ?_⟩
  · show D.used.f = _
    rw [Dk.used_f, b.f0]
  · by_cases h : c = bk
    · rw [h, s1]
      have := b.sz bk
      rw [b.s1, List.length_append] at this
      omega
    · have : c = !bk := by
        revert h
        cases c <;> cases bk <;> simp
      rw [this, s2]
      exact b.sz _
theorem opened_inv {n : Nat} {D0 : Dk} (b : Banks D sd sc bk g as []) (hc : D.crashes = D0.crashes) (rp : replay as = (lim, M)) (hg : g ≤ 1 + n) (h0 : 0 ≤ lim) (h1 : lim ≤ 16 * n) (nm : NmOk M) (b1 : Byt sd) (b2 : Byt sc) : PInv D (openedS bk D0 as g sd sc) M sd sc n := by
  refine ⟨⟨as, b, rfl⟩, ?_, rfl, rfl, hc.symm, hg, ?_, ?_, nm, b1, b2⟩
  · show (replay as).2 = M
    rw [rp]
  · show 0 ≤ (replay as).1
    rw [rp]
    exact h0
  · show (replay as).1 ≤ 16 * n
    rw [rp]
    exact h1
end
theorem Dk.arm_s (D : Dk) (n : Int) : (D.arm n).s = D.s := by unfold Dk.arm; split <;> rfl
theorem Dk.arm_f (D : Dk) (n : Int) : (D.arm n).f = D.f := by unfold Dk.arm; split <;> rfl
theorem Dk.arm_crashes (D : Dk) (n : Int) : (D.arm n).crashes = D.crashes := by unfold Dk.arm; split <;> rfl
theorem PInv.arm {D : Dk} {S : Sr} {M : Nm} {sd sc : List Int} {n : Nat} (I : PInv D S M sd sc n) (k : Int) : PInv (D.arm k) S M sd sc n := by
  obtain ⟨as, b, rp⟩ := I.bk
  exact ⟨⟨as, b.congr (Dk.arm_s D k) (by rw [Dk.arm_f]; exact b.f0), rp⟩, I.eM, I.e1, I.e2, by rw [Dk.arm_crashes]; exact I.cr, I.gb, I.l0, I.lb, I.nm, I.b1, I.b2⟩
theorem PInv.more {D : Dk} {S : Sr} {M : Nm} {sd sc : List Int} {n m : Nat} (I : PInv D S M sd sc n) (h : n ≤ m) : PInv D S M sd sc m :=
  ⟨I.bk, I.eM, I.e1, I.e2, I.cr, by have := I.gb; omega, I.l0, by have := I.lb; omega, I.nm, I.b1, I.b2⟩
/-! ### the beginning -/
theorem nmOk_none : NmOk (fun _ => none) := ⟨fun _ _ => rfl, fun _ _ h => by cases h⟩
theorem prep_banks {sd sc : List Int} (l1 : sd.length = 16) (l2 : sc.length = 16) (b1 : Byt sd) (b2 : Byt sc) : Banks (Dk.prep (prepData sd sc)) sd sc false 1 [.beg 1 sd sc, .done] [] := by
  have len : (prepData sd sc).length = 53 := by
    unfold prepData
    rw [List.length_append, recBytes_len, recBytes_len, beginBody_len]
    show 8 + (5 + sd.length + sc.length) + (8 + 0) = 53
    omega
  refine ⟨?_, fun r hr => ?_, ⟨_, rfl⟩, List.mem_cons_of_mem _ List.mem_cons_self, Byt.nil, rfl, empty_other rfl, by decide, by decide, l1, l2, rfl, fun c => ?_⟩
  · show prepData sd sc = (recBytes 1 (beginBody 1 sd sc) ++ (recBytes 2 [] ++ [])) ++ []
    rw [List.append_nil, List.append_nil]
    rfl
  · rcases List.mem_cons.mp hr with rfl | hr
    · exact ⟨l1, l2, b1, b2⟩
    · rw [List.mem_singleton.mp hr]
      exact True.intro
  · cases c
    · show (prepData sd sc).length ≤ 65536
      omega
    · exact Nat.zero_le _
theorem fill_banks {D D' : Dk} {sd sc xs : List Int} (b : Banks D sd sc false 1 [.beg 1 sd sc, .done] []) (h8 : xs.length ≠ 8) (hl : xs.length ≤ 65535) (hb : Byt xs) (hs : D'.s false = D.s false ++ recBytes 3 xs) (hf : D'.f = fun _ => []) (ho : D'.s true = D.s true) (hz : (D.s false).length + (8 + xs.length) ≤ 65536) : Banks D' sd sc false 1 [.beg 1 sd sc, .done, .fill xs] [] := by
  have h := b.snoc (D' := D') (r := .fill xs) ⟨h8, hl, hb⟩ hs hf ho (by show _ + (recBytes 3 xs).length ≤ 65536; rw [recBytes_len]; exact hz)
  exact h
end Hush
set_option Elab.async false
set_option linter.all false
set_option maxRecDepth 100000
set_option maxHeartbeats 4000000
/-! the law's small defs -/
namespace Hush
open PySem PySem.Spec PyProof.Rows L2
def MdAt (H : Hp) (O : Addr → Prop) (m : Addr) (M : Nm) : Prop := ∃ kvs, H m = some (.dK kvs) ∧ NmAt H O kvs M
def spLawCell (K : PySem.W.Frag) : Sp := fun vs H Q _ => ∃ (a : Addr) (ns : List Int) (k : Nat), vs = [.ref a, .int k] ∧ SqL K H a (il ns) ∧ ∀ c : Int, Q (.int c) H
def spLawRow : Sp := fun vs H Q _ => ∃ c : Int, vs = [.int c, .int 16] ∧ ∀ xs : List Int, xs.length = 16 → Byt xs → RetL (il xs) H Q
def spLawSize : Sp := fun vs H Q _ => ∃ (wh : Nat) (z : Str), vs = [.int wh, .str z] ∧ wh < 4 ∧ z ∈ L4 ∧ Q (.int (sizeM wh z : Nat)) H
def spLawMay (K : PySem.W.Frag) : Sp := fun vs H Q _ => ∃ (m k : Addr) (O : Addr → Prop) (M : Nm) (wh : Nat) (z : Str) (key : List Int), vs = [.ref m, .int wh, .str z, .ref k] ∧ wh < 4 ∧ MdAt H O m M ∧ H k = some (.lst (il key)) ∧ Q (.bl (mayM M wh z key)) H
def spLawNeeds (K : PySem.W.Frag) : Sp := fun vs H Q _ => ∃ (m k st : Addr) (O : Addr → Prop) (M : Nm) (wh : Nat) (z : Str) (key : List Int) (S : Sr) (x0 x1 x2 x3 : V), vs = [.ref m, .int wh, .str z, .ref k, .ref st] ∧ wh < 4 ∧ MdAt H O m M ∧ H k = some (.lst (il key)) ∧
  H st = some (.tup [x0, x1, x2, x3, .int S.next, .int S.limit]) ∧ Q (.bl (needsM S M wh z key)) H
section
variable {P : Program} {w : World} {K : PySem.W.Frag} {mg : Str → Option Value} {base : Heap}
theorem sc_law_cell : FnScope ["_law_script", "_law_k"] ["_law_script", "_law_k"] (defScope s_law_cell) := ⟨rfl, rfl, rfl, by decide +kernel, rfl, by decide +kernel, by decide +kernel⟩
theorem ok_law_cell (T : Txt K mg) : Df P w K mg base 1 ("_law_cell", none) ["_law_script", "_law_k"] (spLawCell K) := by
  refine df_nox T.F_law_cell sc_law_cell (fun _ _ _ _ _ _ us hl => match us, hl with | [_, _], _ => rfl) (fun vs H Q E h => ?_) (fun cdv A0 outer s H vs Q E hr h => ?_)
  · obtain ⟨a, ns, k, rfl, _⟩ := h
    rfl
  · obtain ⟨a, ns, k, rfl, hS, q⟩ := h
    refine ⟨_, pss_cons (ps_if (pt_cmpR op_lt (pv 1) (eLen T.z_len (pv 0)) (nomark _)) (pss_one (ps_ret (pe_callTy call_int1 rfl T.z_int PySem.Pv.boot_int (pa_cons (pe_ix ix_list (pv 0) (pv 1) (fun _ _ => rfl)) pa_nil)))) pss_nil)
      (pss_one (ps_ret pe_int)), ?_⟩
    refine ⟨_, rfl, _, rfl, a, _, rfl, .inl hS, _, _, rfl, rfl, _, rfl, dec2 (fun c => ?_) (fun _ => q _)⟩
    rw [il_len] at c
    have hk : k < ns.length := by omega
    exact ⟨_, rfl, _, rfl, a, _, _, _, rfl, rfl, hS, atI_nat (il_at hk), .inl ⟨_, rfl, q _⟩⟩
theorem sc_law_row : FnScope ["_law_cell_here", "_law_count", "_law_row_here", "_law_left", "_law_k", "_law_state"] ["_law_cell_here", "_law_count"] (defScope s_law_row) := ⟨rfl, rfl, rfl, by decide +kernel, rfl, by decide +kernel, by decide +kernel⟩
theorem ok_law_row (T : Txt K mg) : Df P w K mg base 1 ("_law_row", none) ["_law_cell_here", "_law_count"] spLawRow := by
  refine df_nox T.F_law_row sc_law_row (fun _ _ _ _ _ _ us hl => match us, hl with | [_, _], _ => rfl) (fun vs H Q E h => ?_) (fun cdv A0 outer s H vs Q E hr h => ?_)
  · obtain ⟨c, rfl, _⟩ := h
    rfl
  · obtain ⟨c, rfl, q⟩ := h
    have nd := sc_law_row.nd
    refine ⟨_, pss_cons (ps_set (i := 2) nd rfl (Or.inl rfl) (pe_lst pa_nil))
      (pss_cons (ps_set (i := 3) nd rfl (Or.inl rfl) (pe_callB call_abs rfl T.z_abs boot_abs (pa_cons (pv 0) pa_nil)))
      (pss_cons (ps_if (pt_cmpR op_ge (pv 3) (pe_op op_pow pe_int pe_int) (nomark _))
        (pss_cons (ps_for PassesOwn.never rfl (pi_range1 rfl T.z_range (pa_cons (pv 1) pa_nil)) (pg_name (i := 4) nd rfl (Or.inl rfl))
          (pss_cons (ps_expr (pe_bm PySem.F.plainAttrs_list PySem.F.slot_list_append PySem.F.type_list_append mt_append (pv 2) (pa_cons (pe_op op_and (pv 3) pe_int) pa_nil)))
          (pss_one (ps_set (i := 3) nd rfl (Or.inl rfl) (pe_op op_shr (pv 3) pe_int)))))
        (pss_one (ps_ret (pv 2)))) pss_nil)
      (pss_cons (ps_set (i := 5) nd rfl (Or.inl rfl) (pe_op op_add (pe_op op_mod (pe_callTy call_int1 rfl T.z_int PySem.Pv.boot_int (pa_cons (pv 3) pa_nil)) pe_int) pe_int))
      (pss_cons (ps_for PassesOwn.never rfl (pi_range1 rfl T.z_range (pa_cons (pv 1) pa_nil)) (pg_name (i := 4) nd rfl (Or.inl rfl))
          (pss_cons (ps_set (i := 5) nd rfl (Or.inl rfl) (pe_op op_mod (pe_callTy call_int1 rfl T.z_int PySem.Pv.boot_int (pa_cons (pe_op op_mul (pv 5) pe_int) pa_nil)) pe_int))
          (pss_one (ps_expr (pe_bm PySem.F.plainAttrs_list PySem.F.slot_list_append PySem.F.type_list_append mt_append (pv 2) (pa_cons (pe_op op_and (pe_op op_add (pe_op op_fdiv (pv 5) pe_int) (pv 5)) pe_int) pa_nil))))))
      (pss_one (ps_ret (pv 2))))))), ?_⟩
    refine ⟨by show 0 ≤ sizeLine; decide, fun l hl => ?_⟩
    refine ⟨_, rfl, c, rfl, ?_⟩
    have e1 := (Same.refl H).nw (o := .lst []) hl
    have h0 : (0 : Int) ≤ if c < 0 then -c else c := by split <;> omega
    generalize (if c < 0 then -c else c) = x0 at *
    have snoc : ∀ {xs : List Int} {y : Int}, 0 ≤ y → Byt xs → Byt (xs ++ [Builtin.bitAnd y 255]) := fun hy hb => hb.append (Byt.cons (by rw [bitAnd255 hy]; omega) Byt.nil)
    refine ⟨_, rfl, _, _, rfl, rfl, ⟨by decide, by decide, by decide⟩, _, _, rfl, rfl, _, rfl, dec2 (fun _ => ?_) (fun _ => ?_)⟩
    · refine ⟨_, rfl, 16, rfl, by decide, by decide, for_range (lo := 0) (n := (16 : Int).toNat) (fun i σ H' => ∃ (x : Int) (xs : List Int) (v4 : Option V), σ = [some (.int c), some (.int 16), some (.ref l), some (.int x), v4, none] ∧ 0 ≤ x ∧ xs.length = i ∧ Byt xs ∧ Same H H' ∧ H' l = some (.lst (il xs)))
        ⟨x0, [], none, rfl, h0, rfl, Byt.nil, e1, upd_same⟩ ?_ ?_⟩
      · rintro i σ H1 hi ⟨x, xs, v4, rfl, hx, hxl, hb, e2, gl⟩
        refine ⟨_, rfl, .inl ⟨rfl, _, seq_at gl⟩, _, rfl, _, _, rfl, rfl, l, _, _, rfl, rfl, gl, ?_, ?_⟩
        · rw [il_len]
          exact line_lt (by have : i < 16 := hi; omega)
        refine ⟨_, rfl, _, _, rfl, rfl, by show (0 : Int) ≤ 8; decide, ?_⟩
        refine ⟨_, xs ++ [Builtin.bitAnd x 255], _, rfl, Int.ediv_nonneg hx (by decide), by rw [List.length_append, hxl]; rfl, snoc hx hb, e2.mt hl, ?_⟩
        rw [upd_same]
        unfold il
        rw [List.map_append]
        rfl
      · rintro σ H1 ⟨x, xs, v4, rfl, hx, hxl, hb, e2, gl⟩
        exact ⟨_, rfl, q xs hxl hb l H1 hl e2 gl⟩
    · refine ⟨_, rfl, .inl ⟨_, rfl, _, _, rfl, rfl, by show (0 : Int) < 2147483629; decide, _, _, rfl, rfl, ?_⟩⟩
      have hs0 : 0 ≤ x0 % 2147483629 + 1 ∧ x0 % 2147483629 + 1 < 2147483648 := by omega
      show _
      refine ⟨_, rfl, 16, rfl, by decide, by decide, for_range (lo := 0) (n := (16 : Int).toNat) (fun i σ H' => ∃ (x : Int) (xs : List Int) (v4 : Option V), σ = [some (.int c), some (.int 16), some (.ref l), some (.int x0), v4, some (.int x)] ∧ 0 ≤ x ∧ x < 2147483648 ∧ xs.length = i ∧ Byt xs ∧ Same H H' ∧ H' l = some (.lst (il xs)))
        ⟨x0 % 2147483629 + 1, [], none, rfl, hs0.1, hs0.2, rfl, Byt.nil, e1, upd_same⟩ ?_ ?_⟩
      · rintro i σ H1 hi ⟨x, xs, v4, rfl, hx, hx2, hxl, hb, e2, gl⟩
        refine ⟨_, rfl, _, _, rfl, rfl, .inr ⟨by decide, by decide⟩, .inl ⟨_, rfl, _, _, rfl, rfl, by show (0 : Int) < 2147483647; decide, ?_⟩⟩
        have hy0 : 0 ≤ x * 48271 % 2147483647 := by omega
        have hy1 : x * 48271 % 2147483647 < 2147483648 := by omega
        generalize hy : x * 48271 % 2147483647 = y at *
        have hz : 0 ≤ y / 7 + y := by omega
        refine ⟨_, rfl, .inl ⟨rfl, _, seq_at gl⟩, _, rfl, _, _, rfl, rfl, ⟨by decide, by decide⟩, _, rfl, _, _, rfl, rfl, _, _, rfl, rfl, l, _, _, rfl, rfl, gl, ?_, ?_⟩
        · rw [il_len]
          exact line_lt (by have : i < 16 := hi; omega)
        refine ⟨x * 48271 % 2147483647, xs ++ [Builtin.bitAnd (x * 48271 % 2147483647 / 7 + x * 48271 % 2147483647) 255], _, rfl, by rw [hy]; exact hy0, by rw [hy]; exact hy1, by rw [List.length_append, hxl]; rfl, snoc (by rw [hy]; exact hz) hb, e2.mt hl, ?_⟩
        rw [upd_same]
        unfold il
        rw [List.map_append]
        rfl
      · rintro σ H1 ⟨x, xs, v4, rfl, hx, hx2, hxl, hb, e2, gl⟩
        exact ⟨_, rfl, q xs hxl hb l H1 hl e2 gl⟩
theorem sc_law_size : FnScope ["_law_which", "_law_name"] ["_law_which", "_law_name"] (defScope s_law_size) := ⟨rfl, rfl, rfl, by decide +kernel, rfl, by decide +kernel, by decide +kernel⟩
theorem ok_law_size (T : Txt K mg) : Df P w K mg base 1 ("_law_size", none) ["_law_which", "_law_name"] spLawSize := by
  refine df_nox T.F_law_size sc_law_size (fun _ _ _ _ _ _ us hl => match us, hl with | [_, _], _ => rfl) (fun vs H Q E h => ?_) (fun cdv A0 outer s H vs Q E hr h => ?_)
  · obtain ⟨wh, z, rfl, _⟩ := h
    rfl
  · obtain ⟨wh, z, rfl, hw, hz, q⟩ := h
    refine ⟨_, pss_cons (ps_if (pt_cmpR op_lt (pv 0) pe_int (nomark _)) (pss_one (ps_ret (pe_op op_add pe_int (pe_callB call_len_str rfl T.z_len PySem.boot_len (pa_cons (pv 1) pa_nil))))) pss_nil)
      (pss_one (ps_ret pe_int)), ?_⟩
    unfold sizeM at q
    refine ⟨_, rfl, _, _, rfl, rfl, _, rfl, dec2 (fun c => ?_) (fun c => ?_)⟩
    · rw [if_pos (by omega)] at q
      have := (L4_ok z hz).1.2
      refine ⟨_, rfl, z, rfl, line_small (by omega), _, _, rfl, rfl, ?_⟩
      have e : ((25 + z.length : Nat) : Int) = 25 + (z.length : Int) := by omega
      rw [e] at q
      exact q
    · rw [if_neg (by omega)] at q
      exact q
theorem sc_law_may : FnScope ["_law_model", "_law_which", "_law_name", "_law_key"] ["_law_model", "_law_which", "_law_name", "_law_key"] (defScope s_law_may) := ⟨rfl, rfl, rfl, by decide +kernel, rfl, by decide +kernel, by decide +kernel⟩
theorem ok_law_may (T : Txt K mg) : Df P w K mg base 1 ("_law_may", none) ["_law_model", "_law_which", "_law_name", "_law_key"] (spLawMay K) := by
  refine df_nox T.F_law_may sc_law_may (fun _ _ _ _ _ _ us hl => match us, hl with | [_, _, _, _], _ => rfl) (fun vs H Q E h => ?_) (fun cdv A0 outer s H vs Q E hr h => ?_)
  · obtain ⟨m, k, O, M, wh, z, key, rfl, _⟩ := h
    rfl
  · obtain ⟨m, k, O, M, wh, z, key, rfl, hw, ⟨kvs, hm, nm⟩, hk, q⟩ := h
    have hu := hu1 hr
    refine ⟨_, pss_cons (ps_if (pt_cmpR op_eq (pv 1) pe_int (nomark _)) (pss_one (ps_ret (pe_or (pe_cmp (pc_dnotin hu (pv 2) (pv 0))) (pe_one (pe_cmpR (op_eqD hr.units) (pe_dget hu (pv 0) (pv 2) (fun _ _ => rfl)) (pv 3) (nomark _)))))) pss_nil)
      (pss_cons (ps_if (pt_cmpR op_eq (pv 1) pe_int (nomark _)) (pss_one (ps_ret (pe_and (pe_cmp (pc_din hu (pv 2) (pv 0))) (pe_one (pe_cmpR (op_eqD hr.units) (pe_dget hu (pv 0) (pv 2) (fun _ _ => rfl)) (pv 3) (nomark _)))))) pss_nil)
      (pss_one (ps_ret pe_bl))), ?_⟩
    obtain ⟨g0, g1⟩ := nm.get hm z
    unfold mayM at q
    refine ⟨_, rfl, rfl, _, rfl, eq_int (fun c => ?_) (fun c => ?_)⟩
    · have c' : wh = 0 := by omega
      rw [if_pos c'] at q
      cases e : M z with
      | none =>
        rw [e] at q
        refine ⟨_, rfl, _, rfl, m, _, rfl, g0 e, _, rfl, iteT ?_⟩
        exact q
      | some kk =>
        rw [e] at q
        obtain ⟨ka, gk, hka, no⟩ := g1 kk e
        refine ⟨_, rfl, _, rfl, m, _, rfl, gk, _, rfl, ?_⟩
        refine ⟨_, rfl, _, rfl, m, _, rfl, gk, _, rfl, _, _, dp_L (xs := kk) (seq_at hka), dp_L (xs := key) (seq_at hk), shaped_L _, shaped_L _, ?_⟩
        rw [eqv_L]
        have e2 : (decide ((some kk : Option (List Int)) = none) || decide (some kk = some key)) = decide (kk = key) := by
          by_cases h : kk = key <;> simp [h]
        rw [e2] at q
        exact q
    · have c' : ¬ wh = 0 := by omega
      rw [if_neg c'] at q
      refine ⟨_, rfl, rfl, _, rfl, eq_int (fun c => ?_) (fun c => ?_)⟩
      · have c2 : wh = 1 := by omega
        rw [if_pos c2] at q
        cases e : M z with
        | none =>
          rw [e] at q
          exact ⟨_, rfl, _, rfl, m, _, rfl, g0 e, _, rfl, iteF q⟩
        | some kk =>
          rw [e] at q
          obtain ⟨ka, gk, hka, no⟩ := g1 kk e
          refine ⟨_, rfl, _, rfl, m, _, rfl, gk, _, rfl, ?_⟩
          refine ⟨_, rfl, _, rfl, m, _, rfl, gk, _, rfl, _, _, dp_L (xs := kk) (seq_at hka), dp_L (xs := key) (seq_at hk), shaped_L _, shaped_L _, ?_⟩
          rw [eqv_L]
          have e2 : decide ((some kk : Option (List Int)) = some key) = decide (kk = key) := by
            by_cases h : kk = key <;> simp [h]
          rw [e2] at q
          exact q
      · rw [if_neg (by omega)] at q
        exact q
theorem sc_law_needs : FnScope ["_law_model", "_law_which", "_law_name", "_law_key", "_law_state"] ["_law_model", "_law_which", "_law_name", "_law_key", "_law_state"] (defScope s_law_needs) := ⟨rfl, rfl, rfl, by decide +kernel, rfl, by decide +kernel, by decide +kernel⟩
theorem ok_law_needs (T : Txt K mg) : Df P w K mg base 2 ("_law_needs", none) ["_law_model", "_law_which", "_law_name", "_law_key", "_law_state"] (spLawNeeds K) := by
  refine df_nox T.F_law_needs sc_law_needs (fun _ _ _ _ _ _ us hl => match us, hl with | [_, _, _, _, _], _ => rfl) (fun vs H Q E h => ?_) (fun cdv A0 outer s H vs Q E hr h => ?_)
  · obtain ⟨m, k, st, O, M, wh, z, key, S, x0, x1, x2, x3, rfl, _⟩ := h
    rfl
  · obtain ⟨m, k, st, O, M, wh, z, key, S, x0, x1, x2, x3, rfl, hw, hmd, hk, hst, q⟩ := h
    have hu := hu1 hr
    refine ⟨_, pss_cons (ps_if (pt_cmpR op_eq (pv 1) pe_int (nomark _)) (pss_one (ps_ret (pe_cmp (pc_dnotin hu (pv 2) (pv 0))))) pss_nil)
      (pss_cons (ps_if (pt_cmpR op_eq (pv 1) pe_int (nomark _)) (pss_one (ps_ret (eCall (ok_law_may T) hr (by decide) T.g_law_may (pa_cons (pv 0) (pa_cons (pv 1) (pa_cons (pv 2) (pa_cons (pv 3) pa_nil))))))) pss_nil)
      (pss_one (ps_ret (pe_or (pe_cmpR op_eq (pv 1) pe_int (nomark _)) (pe_one (pe_cmpR op_eq (pe_ix ix_tup (pv 4) pe_int (fun _ _ => rfl)) (pe_ix ix_tup (pv 4) pe_int (fun _ _ => rfl)) (nomark _))))))), ?_⟩
    unfold needsM at q
    refine ⟨_, rfl, rfl, _, rfl, eq_int (fun c => ?_) (fun c => ?_)⟩
    · have c' : wh = 0 := by omega
      rw [if_pos c'] at q
      obtain ⟨kvs, hm, nm⟩ := hmd
      obtain ⟨g0, g1⟩ := nm.get hm z
      cases e : M z with
      | none =>
        rw [e] at q
        exact ⟨_, rfl, _, rfl, m, _, rfl, g0 e, q⟩
      | some kk =>
        rw [e] at q
        obtain ⟨ka, gk, hka, no⟩ := g1 kk e
        exact ⟨_, rfl, _, rfl, m, _, rfl, gk, q⟩
    · have c' : ¬ wh = 0 := by omega
      rw [if_neg c'] at q
      refine ⟨_, rfl, rfl, _, rfl, eq_int (fun c => ?_) (fun c => ?_)⟩
      · have c2 : wh = 1 := by omega
        rw [if_pos c2] at q
        refine ⟨_, rfl, _, rfl, _, rfl, _, rfl, m, k, O, M, wh, z, key, rfl, hw, hmd, hk, ?_⟩
        unfold mayM
        rw [if_neg c', if_pos c2]
        exact q
      · rw [if_neg (by omega)] at q
        refine ⟨_, rfl, rfl, _, rfl, ?_⟩
        have e3 : decide (V.int (wh : Int) = V.int 3) = decide (wh = 3) := by
          by_cases h : wh = 3
          · subst h
            decide
          · rw [decide_eq_false h, decide_eq_false]
            intro e
            injection e with e
            omega
        show if decide (V.int (wh : Int) = V.int 3) = true then _ else _
        rw [e3]
        by_cases h : wh = 3
        · rw [decide_eq_true h] at q ⊢
          refine iteT ?_
          exact q
        · rw [decide_eq_false h] at q ⊢
          refine ⟨_, rfl, st, _, 4, _, rfl, rfl, seqT_at hst, rfl, _, rfl, st, _, 5, _, rfl, rfl, seqT_at hst, rfl, rfl, ?_⟩
          have e4 : decide (V.int S.next = V.int S.limit) = decide (S.next = S.limit) := by
            by_cases h : S.next = S.limit
            · rw [h]
              simp
            · rw [decide_eq_false h, decide_eq_false]
              intro e
              injection e with e
              exact h e
          show Q (.bl (decide (V.int S.next = V.int S.limit))) H
          rw [e4]
          exact q
end
end Hush
set_option Elab.async false
set_option linter.all false
set_option maxRecDepth 100000
set_option maxHeartbeats 4000000
/-! the law: _law_after, _law_names -/
namespace Hush
open PySem PySem.Spec PyProof.Rows L2
def spLawAfter (K : PySem.W.Frag) : Sp := fun vs H Q _ => ∃ (m k : Addr) (O : Addr → Prop) (M : Nm) (wh : Nat) (z : Str) (key : List Int), vs = [.ref m, .int wh, .str z, .ref k] ∧ wh < 4 ∧ z ∈ L4 ∧ MdAt H O m M ∧ H k = some (.lst (il key)) ∧ (key.length = 16 ∧ Byt key) ∧
  (∀ x, O x → ∃ o, H x = some o) ∧ ∀ (p : Addr) (H' : Hp), H p = none → Same H H' → MdAt H' O p (afterM M wh z key) → Q (.ref p) H'
theorem valV_ix {k : Key} {v : V} : ∀ {kvs : List (Key × V)} {i : Nat}, (kvs.map (·.1)).Nodup → kvs[i]? = some (k, v) → valV kvs k = some v ∧ valV (kvs.take i) k = none
  | [], i, _, h => by simp at h
  | p :: r, 0, nd, h => by
    have e : p = (k, v) := Option.some.inj h
    subst e
    exact ⟨valV_pos rfl, valV_nil⟩
  | p :: r, i + 1, nd, h => by
    have h' : r[i]? = some (k, v) := h
    have nd' := List.nodup_cons.mp nd
    have ne : p.1 ≠ k := fun e => nd'.1 (by
      show p.1 ∈ r.map (·.1)
      rw [e]
      exact List.mem_map.mpr ⟨(k, v), List.mem_of_getElem? h', rfl⟩)
    obtain ⟨h1, h2⟩ := valV_ix nd'.2 h'
    rw [valV_neg ne]
    refine ⟨h1, ?_⟩
    show valV (p :: r.take i) k = none
    rw [valV_neg ne]
    exact h2
theorem putK_new {kvs : List (Key × V)} {k : Key} {v : V} (h : valV kvs k = none) : putK kvs k v = kvs ++ [(k, v)] := by
  unfold putK
  rw [valV_any, h]
  rfl
section
variable {P : Program} {w : World} {K : PySem.W.Frag} {mg : Str → Option Value} {base : Heap}
theorem sc_law_after : FnScope ["_law_model", "_law_which", "_law_name", "_law_key", "_law_after_here", "_law_other"] ["_law_model", "_law_which", "_law_name", "_law_key"] (defScope s_law_after) := ⟨rfl, rfl, rfl, by decide +kernel, rfl, by decide +kernel, by decide +kernel⟩
theorem ok_law_after (T : Txt K mg) : Df P w K mg base 1 ("_law_after", none) ["_law_model", "_law_which", "_law_name", "_law_key"] (spLawAfter K) := by
  refine df_nox T.F_law_after sc_law_after (fun _ _ _ _ _ _ us hl => match us, hl with | [_, _, _, _], _ => rfl) (fun vs H Q E h => ?_) (fun cdv A0 outer s H vs Q E hr h => ?_)
  · obtain ⟨m, k, O, M, wh, z, key, rfl, _⟩ := h
    rfl
  · obtain ⟨m, k, O, M, wh, z, key, rfl, hw, hz, ⟨kvs, hm, nm⟩, hk, hkl, htr, q⟩ := h
    have nd := sc_law_after.nd
    have hu := hu1 hr
    refine ⟨_, pss_cons (ps_set (i := 4) nd rfl (Or.inl rfl) pe_dnewK)
      (pss_cons (ps_lock (ps_for PassesOwn.never rfl (pi_keys (pv 0)) (pg_name (i := 5) nd rfl (Or.inl rfl)) (pss_one (ps_dput hu (pv 4) (pv 5) (pe_dget hu (pv 0) (pv 5) (fun _ _ => rfl)) rfl))))
      (pss_cons (ps_if (PW.pt (pw_and (pt_cmpR op_eq (pv 1) pe_int (nomark _)) (pw_and1 (pt_cmp (pc_dnotin hu (pv 2) (pv 4)))))) (pss_one (ps_dput hu (pv 4) (pv 2) (pe_callTy call_list_of rfl T.z_list boot_list (pa_cons (pv 3) pa_nil)) rfl)) pss_nil)
      (pss_cons (ps_if (PW.pt (pw_and (pt_cmpR op_eq (pv 1) pe_int (nomark _)) (pw_and (pt_cmp (pc_din hu (pv 2) (pv 4))) (pw_and1 (pt_cmpR (op_eqD hr.units) (pe_dget hu (pv 4) (pv 2) (fun _ _ => rfl)) (pv 3) (nomark _)))))) (pss_one (ps_expr (pe_dpop1 (pv 4) (pv 2) ⟨rfl, rfl, rfl, rfl⟩))) pss_nil)
      (pss_one (ps_ret (pv 4)))))), ?_⟩
    refine fun p hp => ?_
    have nmp : m ≠ p := ne_of_none hm hp
    have hm1 : upd H p (.dK []) m = some (.dK kvs) := by rw [upd_ne nmp]; exact hm
    have klen := nm.kvl
    refine ⟨m, _, hm1, True.intro, fun od => ?_⟩
    refine ⟨_, rfl, m, od, rfl, .inl ⟨kvs, upd_same, for_it walk_keys (fun i σ H' => ∃ v5, σ = [some (.ref m), some (.int wh), some (.str z), some (.ref k), some (.ref p), v5] ∧ H' p = some (.dK (kvs.take i)) ∧ ∀ x, x ≠ p → H' x = upd (upd H p (.dK [])) m (.frz od (.dK kvs)) x)
      ⟨none, rfl, by rw [upd_ne nmp.symm]; exact upd_same, fun _ _ => rfl⟩ (fun i σ H' _ ⟨_, _, _, h⟩ => by rw [h m nmp]; exact upd_same) ?_ ?_⟩⟩
    · rintro i x σ H1 H2 hi ⟨v5, rfl, gp, gx⟩ ⟨rfl, y, v, hkv, rfl⟩
      obtain ⟨v1, v2⟩ := valV_ix nm.nd hkv
      have gm : H2 m = some (.frz od (.dK kvs)) := by rw [gx m nmp]; exact upd_same
      have dg : DGet H2 m (kV y) (some v) := .inl ⟨kvs, y, .inr ⟨od, gm⟩, rfl, v1.symm⟩
      refine ⟨_, rfl, _, rfl, m, v, rfl, dg, _, rfl, _, rfl, p, _, rfl, DPut.k gp ?_, ?_⟩
      · exact line_lt (Nat.le_trans (by rw [List.length_take]; exact Nat.min_le_right _ _) (Nat.le_trans klen (by decide)))
      refine ⟨_, rfl, ?_, fun x hx => by rw [upd_ne hx]; exact gx x hx⟩
      rw [upd_same, putK_new v2, take_more hkv]
    · rintro σ H1 ⟨v5, rfl, gp, gx⟩
      rw [List.take_length] at gp
      refine ⟨by rw [gx m nmp]; exact upd_same, ?_⟩
      have gp2 : upd H1 m (.dK kvs) p = some (.dK kvs) := by rw [upd_ne nmp.symm]; exact gp
      have e2 : Same H (upd H1 m (.dK kvs)) := fun x o h => by
        by_cases hx : x = m
        · subst hx
          rw [hm] at h
          rw [← h]
          exact upd_same
        · have hxp : x ≠ p := ne_of_none h hp
          rw [upd_ne hx, gx x hxp, upd_ne hx, upd_ne hxp]
          exact h
      generalize upd H1 m (.dK kvs) = H2 at *
      have htr2 : ∀ x, O x → x ≠ p := fun x hx e => by
        obtain ⟨o, ho⟩ := htr x hx
        rw [e, hp] at ho
        cases ho
      have nm2 : NmAt H2 (fun x => O x ∨ x = p) kvs M := nm.mono fun c xs h1 h2 => ⟨e2 _ _ h1, fun h => h.elim h2 (ne_of_none h1 hp)⟩
      have down : ∀ {H' : Hp} {kvs' : List (Key × V)} {M' : Nm}, NmAt H' (fun x => O x ∨ x = p) kvs' M' → NmAt H' O kvs' M' := fun h => h.mono fun c xs h1 h2 => ⟨h1, fun h3 => h2 (.inl h3)⟩
      obtain ⟨g0, g1⟩ := nm2.get gp2 z
      have hw4 : wh = 0 ∨ wh = 1 ∨ wh = 2 ∨ wh = 3 := by omega
      rcases hw4 with rfl | rfl | rfl | rfl
      · refine ⟨_, rfl, rfl, _, rfl, eq_int (fun _ => ?_) (fun c => absurd rfl c)⟩
        cases e : M z with
        | some kk =>
          obtain ⟨ka, gk, hka, no⟩ := g1 kk e
          refine ⟨_, rfl, _, rfl, p, _, rfl, gk, _, rfl, iteF ?_⟩
          refine ⟨_, rfl, rfl, _, rfl, eq_int (fun c => absurd c (by decide)) (fun _ => iteF ?_)⟩
          have ea : afterM M 0 z key = M := by
            unfold afterM
            rw [if_pos rfl, e]
          refine ⟨_, rfl, q p H2 hp e2 ?_⟩
          rw [ea]
          exact ⟨kvs, gp2, down nm2⟩
        | none =>
          refine ⟨_, rfl, _, rfl, p, _, rfl, g0 e, _, rfl, iteT ?_⟩
          refine ⟨_, rfl, k, _, rfl, .inl (seq_at (e2 _ _ hk)), fun l hl => ?_⟩
          have npl : p ≠ l := ne_of_none gp2 hl
          have e3 := (Same.refl H2).nw (o := .lst (il key)) hl
          refine ⟨_, rfl, _, rfl, p, _, rfl, DPut.k (k := (Sum.inr z : Key)) (e3 _ _ gp2) (line_lt (Nat.le_trans klen (by decide))), ?_⟩
          refine ⟨_, rfl, rfl, _, rfl, eq_int (fun c => absurd c (by decide)) (fun _ => iteF ?_)⟩
          have ea : afterM M 0 z key = M.put z key := by
            unfold afterM
            rw [if_pos rfl, e]
          have nl : ¬ (O l ∨ l = p) := fun h => h.elim (fun h => by
            obtain ⟨o, ho⟩ := htr l h
            rw [e2 _ _ ho] at hl
            cases hl) npl.symm
          have nm3 : NmAt (upd H2 l (.lst (il key))) (fun x => O x ∨ x = p) kvs M := nm2.mono fun c xs h1 h2 => ⟨e3 _ _ h1, h2⟩
          have nm4 := nm3.put (d := p) (z := z) (k := l) (xs := key) hz upd_same nl (.inr rfl) hkl
          refine ⟨_, rfl, q p _ hp ((e2.trans e3).mt hp) ?_⟩
          rw [ea]
          exact ⟨_, upd_same, down nm4⟩
      · refine ⟨_, rfl, rfl, _, rfl, eq_int (fun c => absurd c (by decide)) (fun _ => iteF ?_)⟩
        refine ⟨_, rfl, rfl, _, rfl, eq_int (fun _ => ?_) (fun c => absurd rfl c)⟩
        have ea : afterM M 1 z key = if M z = some key then M.del z else M := by
          unfold afterM
          rw [if_neg (by decide), if_pos rfl]
        cases e : M z with
        | none =>
          refine ⟨_, rfl, _, rfl, p, _, rfl, g0 e, _, rfl, iteF ?_⟩
          refine ⟨_, rfl, q p H2 hp e2 ?_⟩
          rw [ea, if_neg (by rw [e]; intro h; cases h)]
          exact ⟨kvs, gp2, down nm2⟩
        | some kk =>
          obtain ⟨ka, gk, hka, no⟩ := g1 kk e
          refine ⟨_, rfl, _, rfl, p, _, rfl, gk, _, rfl, iteT ?_⟩
          refine ⟨_, rfl, _, rfl, p, _, rfl, gk, _, rfl, _, _, dp_L (xs := kk) (seq_at hka), dp_L (xs := key) (seq_at (e2 _ _ hk)), shaped_L _, shaped_L _, _, rfl, ?_⟩
          rw [eqv_L]
          refine dec2 (fun c => ?_) (fun c => ?_)
          · have hv : ∃ v, valV kvs (Sum.inr z : Key) = some v := by
              have := nm2.iff z
              rw [e] at this
              exact Option.isSome_iff_exists.mp this
            obtain ⟨v, hv⟩ := hv
            refine ⟨_, rfl, p, rfl, .inl ⟨_, .inl gp2⟩, _, rfl, kvs, (Sum.inr z : Key), v, gp2, rfl, hv, ?_⟩
            have nm4 := nm2.del (d := p) (z := z) (.inr rfl)
            refine ⟨_, rfl, q p _ hp (e2.mt hp) ?_⟩
            rw [ea, if_pos (by rw [e, c])]
            exact ⟨_, upd_same, down nm4⟩
          · refine ⟨_, rfl, q p H2 hp e2 ?_⟩
            rw [ea, if_neg (by rw [e]; intro h; exact c (Option.some.inj h))]
            exact ⟨kvs, gp2, down nm2⟩
      · refine ⟨_, rfl, rfl, _, rfl, eq_int (fun c => absurd c (by decide)) (fun _ => iteF ?_)⟩
        refine ⟨_, rfl, rfl, _, rfl, eq_int (fun c => absurd c (by decide)) (fun _ => iteF ?_)⟩
        exact ⟨_, rfl, q p H2 hp e2 ⟨kvs, gp2, down nm2⟩⟩
      · refine ⟨_, rfl, rfl, _, rfl, eq_int (fun c => absurd c (by decide)) (fun _ => iteF ?_)⟩
        refine ⟨_, rfl, rfl, _, rfl, eq_int (fun c => absurd c (by decide)) (fun _ => iteF ?_)⟩
        exact ⟨_, rfl, q p H2 hp e2 ⟨kvs, gp2, down nm2⟩⟩
end
end Hush
set_option Elab.async false
set_option linter.all false
set_option maxRecDepth 100000
set_option maxHeartbeats 4000000
/-! the law: _law_names, _law_is_same -/
namespace Hush
open PySem PySem.Spec PyProof.Rows L2
def spLawNames (K : PySem.W.Frag) : Sp := fun vs H Q _ => ∃ (m : Addr) (O : Addr → Prop) (M : Nm), vs = [.ref m] ∧ MdAt H O m M ∧ RetN M H Q
def spLawIsSame (K : PySem.W.Frag) : Sp := fun vs H Q _ => ∃ (a : DA) (A : SA) (D : Dk) (S : Sr) (m s1 s2 : Addr) (O : Addr → Prop), vs = [.ref A.q, .ref m, .ref s1, .ref s2] ∧ WAt K H a A D S ∧ MdAt H O m S.M ∧
  H s1 = some (.lst (il S.seed)) ∧ H s2 = some (.lst (il S.secret)) ∧ RetV (.bl true) H Q
theorem MdAt.same {H H' : Hp} {O : Addr → Prop} {m : Addr} {M : Nm} (x : MdAt H O m M) (e : Same H H') : MdAt H' O m M := by
  obtain ⟨kvs, h1, h2⟩ := x
  exact ⟨kvs, e _ _ h1, h2.mono fun k xs g1 g2 => ⟨e _ _ g1, g2⟩⟩
section
variable {P : Program} {w : World} {K : PySem.W.Frag} {mg : Str → Option Value} {base : Heap}
theorem sc_law_names : FnScope ["_law_model", "_law_name"] ["_law_model"] (defScope s_law_names) := ⟨rfl, rfl, rfl, by decide +kernel, rfl, by decide +kernel, by decide +kernel⟩
theorem ok_law_names (T : Txt K mg) : Df P w K mg base 1 ("_law_names", none) ["_law_model"] (spLawNames K) := by
  refine df_nox T.F_law_names sc_law_names (fun _ _ _ _ _ _ us hl => match us, hl with | [_], _ => rfl) (fun vs H Q E h => ?_) (fun cdv A0 outer s H vs Q E hr h => ?_)
  · obtain ⟨m, O, M, rfl, _⟩ := h
    rfl
  · obtain ⟨m, O, M, rfl, ⟨kvs, hm, nm⟩, q⟩ := h
    have nd := sc_law_names.nd
    have hu := hu65 hr
    refine ⟨_, pss_one (ps_ret (pe_lc (own := [("_law_name", 1)]) (g := gName 1) (tt := tYes) (te := tTup (tCons (tVar 1) (tCons (tCB (rList K) (tCons (tDGet (tVar 0) (tVar 1)) tNil)) tNil))) rfl nd (pi_list (pe_callB (call_sortedD rfl) rfl T.z_sorted boot_sorted (pa_cons (pv 0) pa_nil))) (blkOk_by (own := [("_law_name", 1)]) (N := ["_law_model", "_law_name"]) (sc := defScope s_law_names) (by decide +kernel))
      (fun _ _ _ _ _ => pg_name (i := 1) nd rfl (Or.inl rfl)) (fun _ _ _ _ _ => pts_nil) (fun _ _ _ _ _ => pe_tup (pa_cons (pv 1) (pa_cons (pe_callTy call_list_of rfl T.z_list boot_list (pa_cons (pe_dget (hu1 hr) (pv 0) (pv 1) (fun _ _ => rfl)) pa_nil)) pa_nil))))), ?_⟩
    have kl : (kNames kvs).length < 64 := by
      have := len4 (ys := kNames kvs) (fun y hy => by
        by_cases h : y ∈ L4
        · exact h
        · have := (nm.kmem y).mp hy
          rw [nm.out y h] at this
          cases this) nm.knd
      omega
    refine ⟨_, rfl, m, _, kNames kvs, rfl, .inl hm, nm.ks, kl, fun ys p hp hs hn => ?_⟩
    have ey : ys = L4.filter fun z => (M z).isSome := sorted_names (fun y => (hp.mem_iff).trans (nm.kmem y)) nm.out (hp.nodup_iff.mpr nm.knd) hs
    have e1 := (Same.refl H).nw (o := .lst (ys.map V.str)) hn
    refine ⟨p, rfl, ⟨_, seq_at upd_same⟩, fun D hD => ?_⟩
    have npD : p ≠ D := ne_of_none upd_same hD
    have hDH : H D = none := e1.free hD
    refine lc_list (fun i H' => Same H H' ∧ H' p = some (.lst (ys.map V.str)) ∧ ∃ ts, H' D = some (.lst ts) ∧ Paired (NameNo D H') ts ((ys.map fun z => (z, (M z).getD [])).take i)) ⟨e1.nw hD, by rw [upd_ne npD]; exact upd_same, [], upd_same, .nil⟩ (fun i H' _ ⟨_, g, _⟩ => seq_at g) ?_ ?_
    · rintro i x H2 hx ⟨e2, g2, ts, g3, hts⟩
      rw [List.getElem?_map] at hx
      cases hz : ys[i]? with
      | none =>
        rw [hz] at hx
        cases hx
      | some z =>
        rw [hz] at hx
        obtain rfl := Option.some.inj hx
        have hzm : z ∈ ys := List.mem_of_getElem? hz
        have hz2 : (M z).isSome = true := (nm.kmem z).mp (hp.mem_iff.mp hzm)
        obtain ⟨xs, hxs⟩ := Option.isSome_iff_exists.mp hz2
        have nm2 : NmAt H2 O kvs M := nm.mono fun k xs g1 g2 => ⟨e2 _ _ g1, g2⟩
        obtain ⟨k, gk, hk, no⟩ := (nm2.get (e2 _ _ hm) z).2 xs hxs
        refine ⟨rfl, _, rfl, _, rfl, _, rfl, m, _, rfl, gk, k, _, rfl, .inl (seq_at hk), fun b hb => ⟨by show 2 ≤ sizeLine; decide, fun t ht => ?_⟩⟩
        have nDb : D ≠ b := ne_of_none g3 hb
        have nDt : D ≠ t := ne_of_none (by rw [upd_ne nDb]; exact g3) ht
        have nbt : b ≠ t := ne_of_none upd_same ht
        have tl : ts.length = ((ys.map fun z => (z, (M z).getD [])).take i).length := Paired.length hts
        have yl : ys.length ≤ 4 := by
          rw [ey]
          exact Nat.le_trans (List.length_filter_le _ _) (by decide)
        refine ⟨ts, by rw [upd_ne nDt, upd_ne nDb]; exact g3, line_lt (by rw [tl, List.length_take, List.length_map]; omega), (e2.nw hb).nw ht |>.mt hDH, ?_, ts ++ [.ref t], upd_same, ?_⟩
        · have n1 : p ≠ b := ne_of_none g2 hb
          have n2 : p ≠ t := ne_of_none (by rw [upd_ne n1]; exact g2) ht
          rw [upd_ne npD, upd_ne n2, upd_ne n1]
          exact g2
        · have hm : (ys.map fun z => (z, (M z).getD []))[i]? = some (z, xs) := by
            rw [List.getElem?_map, hz]
            show some (z, (M z).getD []) = _
            rw [hxs]
            rfl
          rw [take_more hm]
          refine Paired.snoc (Paired.mapP hts fun v r' y => ?_) ⟨t, b, rfl, ?_, ?_, nDb.symm⟩
          · obtain ⟨t', b', h1, h2, h3, h4⟩ := y
            have m1 : t' ≠ D := ne_of h2 g3 (by intro z; cases z)
            have m2 : t' ≠ b := ne_of_none h2 hb
            have m3 : t' ≠ t := ne_of_none (by rw [upd_ne m2]; exact h2) ht
            have m4 : b' ≠ b := ne_of_none h3 hb
            have m5 : b' ≠ t := ne_of_none (by rw [upd_ne m4]; exact h3) ht
            refine ⟨t', b', h1, ?_, ?_, h4⟩
            · rw [upd_ne m1, upd_ne m3, upd_ne m2]
              exact h2
            · rw [upd_ne h4, upd_ne m5, upd_ne m4]
              exact h3
          · rw [upd_ne nDt.symm]
            exact upd_same
          · rw [upd_ne nDb.symm, upd_ne nbt]
            exact upd_same
    · rintro H2 ⟨e2, g2, ts, g3, hts⟩
      rw [List.length_map, List.take_of_length_le (by rw [List.length_map]; exact Nat.le_refl _), ey, ← namesL_eq] at hts
      exact q D ts H2 hDH e2 g3 (Paired.mapP hts fun _ _ ⟨t, b, h1, h2, h3, _⟩ => ⟨t, b, h1, h2, h3⟩)
theorem sc_is_same : FnScope ["_law_store", "_law_model", "_law_seed", "_law_secret", "_law_name"] ["_law_store", "_law_model", "_law_seed", "_law_secret"] (defScope s_law_is_same) := ⟨rfl, rfl, rfl, by decide +kernel, rfl, by decide +kernel, by decide +kernel⟩
theorem ok_is_same (T : Txt K mg) : Df P w K mg base 2 ("_law_is_same", none) ["_law_store", "_law_model", "_law_seed", "_law_secret"] (spLawIsSame K) := by
  refine df_nox T.F_law_is_same sc_is_same (fun _ _ _ _ _ _ us hl => match us, hl with | [_, _, _, _], _ => rfl) (fun vs H Q E h => ?_) (fun cdv A0 outer s H vs Q E hr h => ?_)
  · obtain ⟨a, A, D, S, m, s1, s2, O, rfl, _⟩ := h
    rfl
  · obtain ⟨a, A, D, S, m, s1, s2, O, rfl, W, hmd, h1, h2, q⟩ := h
    have nd := sc_is_same.nd
    have hu := hu1 hr
    refine ⟨_, pss_cons (ps_if (PW.pt (pw_or (pt_cmpR (op_neD hr.units) (eMethX0 (ok_names T) hr (by decide) T.c_Store T.m_Store_names passN (pv 0)) (eCall (ok_law_names T) hr (by decide) T.g_law_names (pa_cons (pv 1) pa_nil)) (nomark _))
        (pw_or (pt_cmpR (op_neD hr.units) (eMethX0 (ok_seed T) hr (by decide) T.c_Store T.m_Store_seed passN (pv 0)) (pv 2) (nomark _))
        (pw_or1 (pt_cmpR (op_neD hr.units) (eMethX0 (ok_secret T) hr (by decide) T.c_Store T.m_Store_secret passN (pv 0)) (pv 3) (nomark _)))))) pss_never pss_nil)
      (pss_cons (ps_for PassesOwn.never rfl (pi_list (pe_lst (pa_cons pe_str (pa_cons pe_str (pa_cons pe_str (pa_cons pe_str pa_nil)))))) (pg_name (i := 4) nd rfl (Or.inl rfl))
        (pss_one (ps_if (pt_cmp (pc_din hu (pv 4) (pv 1)))
          (pss_one (ps_if (pt_cmpR (op_neD hr.units) (eMethX (ok_name_key T) hr (by decide) T.c_Store T.m_Store_name_key passN (pv 0) (pa_cons (pv 4) pa_nil)) (pe_dget hu (pv 1) (pv 4) (fun _ _ => rfl)) (nomark _)) pss_never pss_nil))
          (pss_one (ps_if (pt_cmpR op_notN (eMethX (ok_name_key T) hr (by decide) T.c_Store T.m_Store_name_key passN (pv 0) (pa_cons (pv 4) pa_nil)) pe_non (nomark _)) pss_never pss_nil)))))
      (pss_one (ps_ret pe_bl))), ?_⟩
    have nl4 : ∀ r ∈ namesL S.M, r.1 ∈ L4 := fun r hr => (namesL_mem hr).1
    refine ⟨_, rfl, A.q, _, _, rfl, W.ob, stF_no (by decide +kernel), a, A, D, S, rfl, W, fun l1 ts1 H1 f1 e1 g1 t1 => ?_⟩
    refine ⟨_, rfl, m, O, S.M, rfl, hmd.same e1, fun l2 ts2 H2 f2 e2 g2 t2 => ?_⟩
    have e02 := e1.trans e2
    refine ⟨_, _, dp_Ns (e2 _ _ g1) (t1.same e2), dp_Ns g2 t2, shaped_Ns nl4, shaped_Ns nl4, _, rfl, ?_⟩
    rw [eqv_Ns, decide_eq_true rfl]
    refine iteF ?_
    have W2 := W.same e02
    refine ⟨_, rfl, A.q, _, _, rfl, W2.ob, stF_no (by decide +kernel), a, A, D, S, rfl, W2, fun l3 H3 f3 e3 g3 => ?_⟩
    have e03 := e02.trans e3
    refine ⟨_, rfl, _, _, dp_L (seq_at g3), dp_L (seq_at (e03 _ _ h1)), shaped_L _, shaped_L _, _, rfl, ?_⟩
    rw [eqv_L, decide_eq_true rfl]
    refine iteF ?_
    have W3 := W.same e03
    refine ⟨_, rfl, A.q, _, _, rfl, W3.ob, stF_no (by decide +kernel), a, A, D, S, rfl, W3, fun l4 H4 f4 e4 g4 => ?_⟩
    have e04 := e03.trans e4
    refine ⟨_, rfl, _, _, dp_L (seq_at g4), dp_L (seq_at (e04 _ _ h2)), shaped_L _, shaped_L _, _, rfl, ?_⟩
    rw [eqv_L, decide_eq_true rfl]
    refine iteF ?_
    refine ⟨by show 4 ≤ sizeLine; decide, fun p5 f5 => ?_⟩
    have e05 := e04.nw (o := .lst [.str "a", .str "b", .str "c", .str "d9"]) f5
    refine ⟨p5, rfl, ⟨_, seq_at upd_same⟩, for_list (K := K) (a := p5) (xs := [.str "a", .str "b", .str "c", .str "d9"]) (fun i σ H' => ∃ v4, σ = [some (.ref A.q), some (.ref m), some (.ref s1), some (.ref s2), v4] ∧ Same H H' ∧ H' p5 = some (.lst [.str "a", .str "b", .str "c", .str "d9"]))
      ⟨none, rfl, e05, upd_same⟩ (fun i σ H' _ ⟨_, _, _, g⟩ => seq_at g) ?_ ?_⟩
    · rintro i x σ H6 hx ⟨v4, rfl, e6, g6⟩
      have hz : ∃ z : Str, x = .str z := by
        match i, hx with
        | 0, hx => exact ⟨_, (Option.some.inj hx).symm⟩
        | 1, hx => exact ⟨_, (Option.some.inj hx).symm⟩
        | 2, hx => exact ⟨_, (Option.some.inj hx).symm⟩
        | 3, hx => exact ⟨_, (Option.some.inj hx).symm⟩
        | n + 4, hx => simp at hx
      obtain ⟨z, rfl⟩ := hz
      have W6 := W.same e6
      obtain ⟨kvs, hm6, nm6⟩ := hmd.same e6
      obtain ⟨g0, g1'⟩ := nm6.get hm6 z
      cases e : S.M z with
      | none =>
        refine ⟨_, rfl, _, rfl, m, _, rfl, g0 e, _, rfl, iteF ?_⟩
        refine ⟨_, rfl, A.q, _, _, rfl, W6.ob, stF_no (by decide +kernel), _, rfl, a, A, D, S, z, rfl, W6, ?_⟩
        rw [e]
        refine ⟨rfl, _, rfl, iteF ?_⟩
        exact ⟨_, rfl, e6, g6⟩
      | some kk =>
        obtain ⟨ka, gk, hka, no⟩ := g1' kk e
        refine ⟨_, rfl, _, rfl, m, _, rfl, gk, _, rfl, iteT ?_⟩
        refine ⟨_, rfl, A.q, _, _, rfl, W6.ob, stF_no (by decide +kernel), _, rfl, a, A, D, S, z, rfl, W6, ?_⟩
        rw [e]
        refine fun l7 H7 f7 e7 g7 => ?_
        have e07 := e6.trans e7
        obtain ⟨kvs7, hm7, nm7⟩ := hmd.same e07
        obtain ⟨ka7, gk7, hka7, no7⟩ := (nm7.get hm7 z).2 kk e
        refine ⟨_, rfl, _, rfl, m, _, rfl, gk7, _, _, dp_L (seq_at g7), dp_L (seq_at hka7), shaped_L _, shaped_L _, _, rfl, ?_⟩
        rw [eqv_L, decide_eq_true rfl]
        refine iteF ?_
        exact ⟨_, rfl, e07, e7 _ _ g6⟩
    · rintro σ H6 ⟨v4, rfl, e6, g6⟩
      exact q H6 e6
end
end Hush
set_option Elab.async false
set_option linter.all false
set_option maxRecDepth 100000
set_option maxHeartbeats 4000000
/-! the law: _law_call -/
namespace Hush
open PySem PySem.Spec PyProof.Rows L2
/-- whatever the slots are -/
abbrev eW (W : WX) : XK := fun cls d H => ∀ σ, W cls d σ H
def spLawCall (K : PySem.W.Frag) : Sp := fun vs H Q _ => ∃ (a : DA) (A : SA) (D : Dk) (S : Sr) (wh : Nat) (z : Str) (k : Addr) (key xs : List Int), vs = [.ref A.q, .int wh, .str z, .ref k] ∧ WAt K H a A D S ∧ SrOk S ∧ DOk D ∧ S.crashes = D.crashes ∧
  wh < 4 ∧ z ∈ L4 ∧ H k = some (.lst (il key)) ∧ ¬ wown a A k ∧ key = pubKey xs ∧ S.limit + 16 ≤ 18446744073709551615 ∧
  ∀ (H' : Hp) (a' : DA) (A' : SA), a'.p = a.p → A'.q = A.q → WAt K H' a' A' (callM D S wh z key).2.1 (callM D S wh z key).2.2 → Stp H (wown a A) H' (wown a' A') → Q (.str (callM D S wh z key).1.s) H'
theorem Stp.refl' {H : Hp} {O : Addr → Prop} : Stp H O H O := Stp.refl H O
section
variable {P : Program} {w : World} {K : PySem.W.Frag} {mg : Str → Option Value} {base : Heap}
theorem sc_law_call : FnScope ["_law_store", "_law_which", "_law_name", "_law_key"] ["_law_store", "_law_which", "_law_name", "_law_key"] (defScope s_law_call) := ⟨rfl, rfl, rfl, by decide +kernel, rfl, by decide +kernel, by decide +kernel⟩
abbrev tListKey (K : PySem.W.Frag) : TA := tCons (tVar 2) (tCons (tCB (rList K) (tCons (tVar 3) tNil)) tNil)
abbrev tbCall (K : PySem.W.Frag) (W : WX) : TS :=
  tIfS (tTest (tOp rEq (tVar 1) (tC (V.int 0)))) (tDrop (tMeth (He.ga K "Store") "keep_name" (spKeepName K) [] (eW W) (tVar 0) (tListKey K)))
    (tIfS (tTest (tOp rEq (tVar 1) (tC (V.int 1)))) (tDrop (tMeth (He.ga K "Store") "release" (spRelease K) [] (eW W) (tVar 0) (tListKey K)))
      (tIfS (tTest (tOp rEq (tVar 1) (tC (V.int 2)))) (tDrop (tMeth (He.ga K "Store") "next_number" (spNextNumber K) [] (eW W) (tVar 0) tNil))
        (tDrop (tMeth (He.ga K "Store") "pack" (spPack K) [] (eW W) (tVar 0) tNil))))
theorem ok_law_call (T : Txt K mg) : Df P w K mg base 7 ("_law_call", none) ["_law_store", "_law_which", "_law_name", "_law_key"] (spLawCall K) := by
  refine df_exc T.F_law_call sc_law_call (fun _ _ _ _ _ _ us hl => match us, hl with | [_, _, _, _], _ => rfl) (fun vs H Q E h => ?_) (fun cdv A0 outer s H vs Q E hr h => ?_)
  · obtain ⟨a, A, D, S, wh, z, k, key, xs, rfl, _⟩ := h
    rfl
  · obtain ⟨a, A, D, S, wh, z, k, key, xs, rfl, W, o, dk, hcr, hw, hz, hk, nk, ek, hlim, q⟩ := h
    refine ⟨_, pss_cons (L2N.ps_try_many (tb := tbCall K) rfl rfl (L2N.takes_of rfl rfl rfl rfl)
        (fun W pn xe tk po => pss_one (ps_if (pt_cmpR op_eq (pv 1) pe_int (nomark _))
          (pss_one (ps_expr (eMethX (ok_keep_name T) hr (by decide) T.c_Store T.m_Store_keep_name (L2N.passes_call tk fun _ _ σ _ h => h σ) (pv 0) (pa_cons (pv 2) (pa_cons (pe_callTy call_list_of rfl T.z_list boot_list (pa_cons (pv 3) pa_nil)) pa_nil)))))
          (pss_one (ps_if (pt_cmpR op_eq (pv 1) pe_int (nomark _))
            (pss_one (ps_expr (eMethX (ok_release T) hr (by decide) T.c_Store T.m_Store_release (L2N.passes_call tk fun _ _ σ _ h => h σ) (pv 0) (pa_cons (pv 2) (pa_cons (pe_callTy call_list_of rfl T.z_list boot_list (pa_cons (pv 3) pa_nil)) pa_nil)))))
            (pss_one (ps_if (pt_cmpR op_eq (pv 1) pe_int (nomark _))
              (pss_one (ps_expr (eMethX0 (ok_next_number T) hr (by decide) T.c_Store T.m_Store_next_number (L2N.passes_call tk fun _ _ σ _ h => h σ) (pv 0))))
              (pss_one (ps_expr (eMethX0 (ok_pack T) hr (by decide) T.c_Store T.m_Store_pack (L2N.passes_call tk fun _ _ σ _ h => h σ) (pv 0))))))))))
        (.cons ⟨rfl, by decide, .inl T.g_PowerLost⟩ (fun a oe cls d pn zn fl => pss_one (ps_ret pe_str)) (.cons ⟨rfl, by decide, .inl T.g_HushError⟩ (fun a oe cls d pn zn fl => pss_one (ps_ret pe_str)) .nil)))
      (pss_one (ps_ret pe_str)), ?_⟩
    have rfd : ∀ {H' : Hp}, Q (.str "error") H' → ∀ σ, wMany K (fun cls d σ H => E cls d H) { nx := fun _ H' => Q (.str "done") H', rt := Q } [(.ref (He.ga K "PowerLost"), fun _ _ _ => tRet (tC (.str "power"))), (.ref (He.ga K "HushError"), fun _ _ _ => tRet (tC (.str "error")))] (CRf K) none σ H' := fun h σ =>
      ⟨false, T.e_Refused_PowerLost, (by intro h; cases h), fun _ => ⟨true, T.e_Refused_HushError, fun _ a ha => h, (by intro h; cases h)⟩⟩
    have plo : ∀ {H' : Hp}, Q (.str "power") H' → ∀ σ, wMany K (fun cls d σ H => E cls d H) { nx := fun _ H' => Q (.str "done") H', rt := Q } [(.ref (He.ga K "PowerLost"), fun _ _ _ => tRet (tC (.str "power"))), (.ref (He.ga K "HushError"), fun _ _ _ => tRet (tC (.str "error")))] (CPL K) none σ H' := fun h σ =>
      ⟨true, T.e_PowerLost_PowerLost, fun _ a ha => h, (by intro h; cases h)⟩
    have tl : ∀ {r : Out} {H0 : Hp} {v : V} , Same H H0 → (callM D S wh z key = tell r) → Pst K H0 a A r (fun cls d H' => (r.1 = false → ∀ x : Unit, Q (.str "power") H')) (fun _ H' => Q (.str "done") H') := fun {r H0 v} e0 er H' a' A' h1 h2 W' st => by
      rw [er] at q
      have qq := q H' a' A' h1 h2 W' ((Stp.of_same e0).trans st)
      refine ⟨fun hr => ?_, fun hr _ _ => ?_⟩
      · unfold tell at qq
        rw [if_pos hr] at qq
        exact qq
      · unfold tell at qq
        rw [if_neg (by rw [hr]; decide)] at qq
        exact qq
    have hw4 : wh = 0 ∨ wh = 1 ∨ wh = 2 ∨ wh = 3 := by omega
    rcases hw4 with rfl | rfl | rfl | rfl
    · refine ⟨_, rfl, rfl, _, rfl, eq_int (fun _ => ?_) (fun c => absurd rfl c)⟩
      refine ⟨_, rfl, A.q, _, _, rfl, W.ob, stF_no (by decide +kernel), _, rfl, _, rfl, k, _, rfl, .inl (seq_at hk), fun l hl => ?_⟩
      have e1 := (Same.refl H).nw (o := .lst (il key)) hl
      have W1 := W.same e1
      refine ⟨a, A, D, S, z, l, key, xs, rfl, W1, o, dk, hcr, hz, upd_same, W.new_not hl, ek, ?_⟩
      cases e : S.M z with
      | some kk =>
        have ec : callM D S 0 z key = (if kk = key then .done else .error, D, S) := by
          unfold callM
          rw [if_pos rfl, e]
        rw [ec] at q
        dsimp only
        by_cases c : kk = key
        · rw [if_pos c] at q ⊢
          exact fun H2 e2 => q H2 a A rfl rfl (W1.same e2) (Stp.of_same (e1.trans e2))
        · rw [if_neg c] at q ⊢
          exact fun H2 e2 => rfd (q H2 a A rfl rfl (W1.same e2) (Stp.of_same (e1.trans e2)))
      | none =>
        have ec : callM D S 0 z key = tell (keepNameM D S z key) := by
          unfold callM
          rw [if_pos rfl, e]
        dsimp only
        intro H' a' A' h1 h2 W' st
        obtain ⟨t1, t2⟩ := tl (v := .non) e1 ec H' a' A' h1 h2 W' st
        exact ⟨t1, fun hr => plo (t2 hr hr ())⟩
    · refine ⟨_, rfl, rfl, _, rfl, eq_int (fun c => absurd c (by decide)) (fun _ => ?_)⟩
      refine ⟨_, rfl, rfl, _, rfl, eq_int (fun _ => ?_) (fun c => absurd rfl c)⟩
      refine ⟨_, rfl, A.q, _, _, rfl, W.ob, stF_no (by decide +kernel), _, rfl, _, rfl, k, _, rfl, .inl (seq_at hk), fun l hl => ?_⟩
      have e1 := (Same.refl H).nw (o := .lst (il key)) hl
      have W1 := W.same e1
      refine ⟨a, A, D, S, z, l, key, xs, rfl, W1, o, dk, hcr, hz, upd_same, W.new_not hl, ek, ?_⟩
      have ec : callM D S 1 z key = if S.M z = some key then tell (releaseM D S z key) else (.error, D, S) := by
        unfold callM
        rw [if_neg (by decide), if_pos rfl]
      by_cases c : S.M z = some key
      · rw [if_pos c] at ec ⊢
        intro H' a' A' h1 h2 W' st
        obtain ⟨t1, t2⟩ := tl (v := .non) e1 ec H' a' A' h1 h2 W' st
        exact ⟨t1, fun hr => plo (t2 hr hr ())⟩
      · rw [if_neg c] at ec ⊢
        rw [ec] at q
        exact fun H2 e2 => rfd (q H2 a A rfl rfl (W1.same e2) (Stp.of_same (e1.trans e2)))
    · refine ⟨_, rfl, rfl, _, rfl, eq_int (fun c => absurd c (by decide)) (fun _ => ?_)⟩
      refine ⟨_, rfl, rfl, _, rfl, eq_int (fun c => absurd c (by decide)) (fun _ => ?_)⟩
      refine ⟨_, rfl, rfl, _, rfl, eq_int (fun _ => ?_) (fun c => absurd rfl c)⟩
      have ec : callM D S 2 z key = tell (nextM D S) := by
        unfold callM
        rw [if_neg (by decide), if_neg (by decide), if_pos rfl]
      refine ⟨_, rfl, A.q, _, _, rfl, W.ob, stF_no (by decide +kernel), a, A, D, S, rfl, W, o, dk, hcr, hlim, ?_⟩
      intro H' a' A' h1 h2 W' st
      obtain ⟨t1, t2⟩ := tl (v := .non) (Same.refl H) ec H' a' A' h1 h2 W' st
      exact ⟨fun hr n => t1 hr, fun hr => plo (t2 hr hr ())⟩
    · refine ⟨_, rfl, rfl, _, rfl, eq_int (fun c => absurd c (by decide)) (fun _ => ?_)⟩
      refine ⟨_, rfl, rfl, _, rfl, eq_int (fun c => absurd c (by decide)) (fun _ => ?_)⟩
      refine ⟨_, rfl, rfl, _, rfl, eq_int (fun c => absurd c (by decide)) (fun _ => ?_)⟩
      have ec : callM D S 3 z key = tell (packM D S) := by
        unfold callM
        rw [if_neg (by decide), if_neg (by decide), if_neg (by decide)]
      refine ⟨_, rfl, A.q, _, _, rfl, W.ob, stF_no (by decide +kernel), a, A, D, S, rfl, W, o, dk, hcr, ?_⟩
      intro H' a' A' h1 h2 W' st
      obtain ⟨t1, t2⟩ := tl (v := .non) (Same.refl H) ec H' a' A' h1 h2 W' st
      exact ⟨t1, fun hr => plo (t2 hr hr ())⟩
end
end Hush
set_option Elab.async false
set_option linter.all false
set_option maxRecDepth 100000
set_option maxHeartbeats 4000000
/-! the law: _law_again, _law_fill, _law_opened -/
namespace Hush
open PySem PySem.Spec PyProof.Rows L2
/-! ### a class is made in a try, its exceptions by the slots -/
section
variable {X : Cx} {CX : CXT} {k : Nat} {f C : Addr} {fd : FuncData} {ps : List Str} {sp : Sp} {E : L2.St → XK} {x : Str} {p pos : Pos} {e : Expr} {es : List Expr} {t : TA}
theorem run_makeS {pins : List (Addr × Obj)} {σ : L2.St} {H : Hp} {s : Shared} {Q : VK} {us : List Value} {vs : List V} {E : XK} (M : Mk X.K C f) (F : FnOk X.prog X.w X.K X.mg X.base CX k f fd ps sp) (hr : Room (k + 1) X.A) (hb : Binds X.K fd ps [])
    (hx : PassesAt CX X σ E) (I : Inv X pins σ H s) (r : Vals vs us)
    (h : ∀ x dx, H x = none → H dx = none → dx ≠ x → sp (.ref x :: vs) (upd (upd H dx (.own x)) x (.ins C dx [])) (fun v H2 => v = .non ∧ Q (.ref x) H2) E) :
    wpAny (model X.prog X.w) X.A (call (.ref C) us) (EP X pins σ Q) X.xe s := by
  have hq := h (s.heap.objs.size + 1) s.heap.objs.size (I.hok.fresh (Nat.le_succ _)) (I.hok.fresh (Nat.le_refl _)) (Nat.ne_of_lt (Nat.lt_succ_self _))
  have I2 := Inv.made (C := C) I
  have r2 : Vals (V.ref (s.heap.objs.size + 1) :: vs) (Value.ref (s.heap.objs.size + 1) :: us) := .cons rfl r
  have hl : (Value.ref (s.heap.objs.size + 1) :: us).length = ps.length := by
    have e := r2.length
    rw [F.len _ _ _ _ hq] at e
    exact e.symm
  have b := hb
  refine wpAny_call (make_map (f := f) I.kIn M.makes M.init (beq_iff_eq.mp M.fn) (codeAny_mono (F.run _ X.stack _ _ ⟨Value.ref (s.heap.objs.size + 1) :: us, []⟩ (Value.ref (s.heap.objs.size + 1) :: us) _ _ E (hr.make C us [])
    (I2.env0.make C us []) (by
      have := hb _ (Value.ref (s.heap.objs.size + 1) :: us) I2.kIn (by rw [List.append_nil]; exact hl)
      rw [List.append_nil] at this
      exact this) r2 hq) fun r s' hq' => ?_))
  cases r with
  | error e => exact hx pins _ _ e s' I2 hq'
  | ok fl =>
    cases fl with
    | ret u =>
      obtain ⟨v, H', I3, rv, ev, q3⟩ := I2.after hq'
      subst ev
      exact ⟨rv, ⟨V.ref (s.heap.objs.size + 1), H', I3, rfl, q3⟩⟩
    | next => exact False.elim hq'
    | brk => exact False.elim hq'
    | cont => exact False.elim hq'
def tMakeS (C : Addr) (sp : Sp) (E : L2.St → XK) (t : TA) : TE := fun σ H Q => t σ H fun vs H1 => ∀ x dx, H1 x = none → H1 dx = none → dx ≠ x →
  sp (.ref x :: vs) (upd (upd H1 dx (.own x)) x (.ins C dx [])) (fun v H2 => v = .non ∧ Q (.ref x) H2) (E σ)
theorem pe_makeS (M : Mk X.K C f) (F : FnOk X.prog X.w X.K X.mg X.base CX k f fd ps sp) (hr : Room (k + 1) X.A) (hg : Gl X x) (hm : X.mg x = some (.ref C)) (hb : Binds X.K fd ps []) (hx : ∀ σ, PassesAt CX X σ (E σ))
    (ha : PA X (e :: es) t) (hdb : (x == ("__debug__" : Str)) = false := by decide) (he : starEach (e :: es) X.env = (false, eval e X.env) :: starEach es X.env := by rfl) (hpl : (backTo pos (starEach es X.env)).any (·.1) = false := by rfl) :
    PE X (.Call (.Name x p) (e :: es) [] pos) (tMakeS C sp E t) := by
  refine ⟨fun pins s σ H Q I h => ?_⟩
  refine wpAny_Call_Name_kw (ld_glob I hg hm ?_ hdb)
  refine PySem.W.callWith_K (h₀ := X.base) I.ok.mod.kin M.kp (thn (ha.run pos pins s σ H _ I h) fun us s1 ⟨vs, H1, I1, r, q⟩ => ⟨I1.kIn, ?_⟩) he hpl
  exact run_makeS M F hr hb (hx σ) I1 r q
end
/-! ### the specs -/
def spLawAgain (K : PySem.W.Frag) : Sp := fun vs H Q _ => ∃ (a : DA) (A : SA) (D : Dk) (S : Sr) (wh : Nat) (z : Str) (k dd m pp s1 s2 : Addr) (key xs : List Int), vs = [.ref A.q, .ref a.p, .ref dd, .ref m, .ref pp] ∧ WAt K H a A D S ∧ SrOk S ∧ DOk D ∧ S.crashes = D.crashes ∧
  callM D S wh z key = (.power, D, S) ∧ wh < 4 ∧ z ∈ L4 ∧ H k = some (.lst (il key)) ∧ ¬ wown a A k ∧ key = pubKey xs ∧ S.limit + 16 ≤ 18446744073709551615 ∧ H dd = some (.tup [.int wh, .str z, .ref k]) ∧ ¬ wown a A dd ∧
  MdAt H (wown a A) m S.M ∧ ¬ wown a A m ∧ H pp = some (.lst [.ref s1, .ref s2]) ∧ ¬ wown a A pp ∧ H s1 = some (.lst (il S.seed)) ∧ ¬ wown a A s1 ∧ H s2 = some (.lst (il S.secret)) ∧ ¬ wown a A s2 ∧
  ∀ (H' : Hp) (a' : DA) (A' : SA), a'.p = a.p → A'.q = A.q → WAt K H' a' A' D S → Stp H (wown a A) H' (wown a' A') → Q (.bl true) H'
def fillBody (left : Nat) : List Int := List.replicate (65475 - left) 7
def spLawFill (K : PySem.W.Frag) : Sp := fun vs H Q _ => ∃ (a : DA) (data : List Int) (left : Nat), vs = [.ref a.p, .int left] ∧ DiskAt K H a (Dk.prep data) ∧ data.length = 53 ∧ left ≤ 60 ∧
  ∀ (H' : Hp) (a' : DA), a'.p = a.p → DiskAt K H' a' (((Dk.prep data).wr false (recBytes 3 (fillBody left))).settle false) → Stp H a.own H' a'.own → Q .non H'
def spLawOpened (K : PySem.W.Frag) : Sp := fun vs H Q _ => ∃ (u : Addr) (a : DA) (D : Dk) (c : Int) (sd sc : List Int) (bk : Bool) (g : Int) (as : List AR) (tl : List Int), vs = [.ref u, .ref a.p, .int c] ∧ SuiteAt K H u ∧ ¬ a.own u ∧ DiskAt K H a D ∧ Banks D sd sc bk g as tl ∧
  ∀ (H' : Hp) (a' : DA) (A' : SA) (D' D0 : Dk), a'.p = a.p → WAt K H' a' A' D' (openedS bk D0 as g sd sc) → D'.crashes = D0.crashes → Banks D' sd sc bk g as [] → Stp H a.own H' (wown a' A') → Q (.ref A'.q) H'
theorem Stp.mono {H H' : Hp} {O O2 O' : Addr → Prop} (s : Stp H O H' O') (h : ∀ x, O x → O2 x) : Stp H O2 H' O' := ⟨s.fr.mono h, fun x hx => (s.gr x hx).imp (h x) id⟩
theorem nw2 {H : Hp} {x dx : Addr} (hx : H x = none) (hd : H dx = none) {C : Addr} : Same H (upd (upd H dx (.own x)) x (.ins C dx [])) := fun b o h => by
  rw [upd_ne (ne_of_none h hx), upd_ne (ne_of_none h hd)]
  exact h
/-- a store is opened -/
theorem open_go {K : PySem.W.Frag} {H : Hp} {a : DA} {D : Dk} {u x dx : Addr} {sd sc : List Int} {bk : Bool} {g : Int} {as : List AR} {tl : List Int} {Q : VK} {E : XK} (d : DiskAt K H a D) (b : Banks D sd sc bk g as tl) (hu : SuiteAt K H u) (nu : ¬ a.own u) (hx : H x = none) (hd : H dx = none)
    (hOK : ∀ (H' : Hp) (a' : DA) (A' : SA) (D' D0 : Dk), a'.p = a.p → A'.q = x → WAt K H' a' A' D' (openedS bk D0 as g sd sc) → D'.crashes = D0.crashes → Banks D' sd sc bk g as [] → Stp H a.own H' (wown a' A') → Q .non H')
    (hE : tl ≠ [] → D.power = false → ∀ H', DiskAt K H' a D → Same H H' → E (CPL K) none H') :
    spStoreInit K [.ref x, .ref u, .ref a.p] (upd (upd H dx (.own x)) x (.ins (CSt K) dx [])) Q E := by
  obtain ⟨o, rs, tail, h1, h2, h3, h4, h5⟩ := b.best
  have e1 : Same H (upd (upd H dx (.own x)) x (.ins (CSt K) dx [])) := nw2 hx hd
  have nx : ¬ a.own x := fun h => by
    obtain ⟨o, ho⟩ := d.tr h
    rw [hx] at ho
    cases ho
  have hux : u ≠ x := by
    obtain ⟨udx, h⟩ := hu
    exact ne_of_none h hx
  have st0 : ∀ {H' : Hp} {O : Addr → Prop}, Stp (upd (upd H dx (.own x)) x (.ins (CSt K) dx [])) (ownI a x) H' O → Stp H a.own H' O := fun {H' O} s => by
    refine ⟨fun y o h n => s.fr y o (e1 y o h) fun z => z.elim n (ne_of_none h hx), fun y hy => ?_⟩
    rcases s.gr y hy with z | z
    · rcases z with z | z
      · exact .inl z
      · exact .inr (by rw [z]; exact hx)
    · exact .inr (e1.free z)
  refine ⟨x, dx, u, a, D, o, rs, tail, bk, g, sd, sc, as, rfl, upd_same, hu.same e1, d.same e1, nx, nu, hux, h1, h2, h3, h4, b.ok, b.f0, fun ht H' A eA W st => ?_, fun ht hp H' a' A pa eA W st => ?_, fun ht hp H' d' fr => ?_⟩
  · rw [h5] at ht
    subst ht
    exact hOK H' a A D D rfl eA W rfl b (st0 st)
  · have bc := b.cutTail
    rw [← h4] at bc
    exact hOK H' a' A _ D pa eA W (Dk.used_crashes D) bc (st0 st)
  · exact hE (by rw [← h5]; exact ht) hp H' d' fun y o h => fr y o (e1 y o h) (ne_of_none h hx)
section
variable {P : Program} {w : World} {K : PySem.W.Frag} {mg : Str → Option Value} {base : Heap}
theorem sc_again : FnScope ["_law_store", "_law_disk", "_law_deed", "_law_model", "_law_parts", "_law_waiting"] ["_law_store", "_law_disk", "_law_deed", "_law_model", "_law_parts"] (defScope s_law_again) := ⟨rfl, rfl, rfl, by decide +kernel, rfl, by decide +kernel, by decide +kernel⟩
theorem MdAt.stp {H H' : Hp} {O O' : Addr → Prop} {m : Addr} {M : Nm} (x : MdAt H O m M) (n : ¬ O m) (s : Stp H O H' O') : MdAt H' O' m M := by
  obtain ⟨kvs, h1, h2⟩ := x
  exact ⟨kvs, s.fr _ _ h1 n, h2.mono fun k xs g1 g2 => s.get g1 g2⟩
theorem ok_law_again (T : Txt K mg) : Df P w K mg base 8 ("_law_again", none) ["_law_store", "_law_disk", "_law_deed", "_law_model", "_law_parts"] (spLawAgain K) := by
  refine df_nox T.F_law_again sc_again (fun _ _ _ _ _ _ us hl => match us, hl with | [_, _, _, _, _], _ => rfl) (fun vs H Q E h => ?_) (fun cdv A0 outer s H vs Q E hr h => ?_)
  · obtain ⟨a, A, D, S, wh, z, k, dd, m, pp, s1, s2, key, xs, rfl, _⟩ := h
    rfl
  · obtain ⟨a, A, D, S, wh, z, k, dd, m, pp, s1, s2, key, xs, rfl, W, o, dk, hcr, hcall, hw, hz, hk, nk, ek, hlim, hdd, ndd, hmd, nm, hpp, npp, hs1, ns1, hs2, ns2, q⟩ := h
    have nd := sc_again.nd
    refine ⟨_, pss_cons (ps_set (i := 5) nd rfl (Or.inl rfl) (eMethX0 (ok_pending T) hr (by decide) T.c_Disk T.m_Disk_pending passN (pv 1)))
      (pss_cons (ps_if (PW.pt (pw_or (pt_cmpR op_ne (eCall (ok_law_call T) hr (by decide) T.g_law_call (pa_cons (pv 0) (pa_cons (pe_ix ix_tup (pv 2) pe_int (fun _ _ => rfl)) (pa_cons (pe_ix ix_tup (pv 2) pe_int (fun _ _ => rfl)) (pa_cons (pe_ix ix_tup (pv 2) pe_int (fun _ _ => rfl)) pa_nil))))) pe_str (nomark _))
        (pw_or1 (pt_cmpR op_ne (eMethX0 (ok_pending T) hr (by decide) T.c_Disk T.m_Disk_pending passN (pv 1)) (pv 5) (nomark _))))) pss_never pss_nil)
      (pss_one (ps_ret (eCall (ok_is_same T) hr (by decide) T.g_law_is_same (pa_cons (pv 0) (pa_cons (pv 3) (pa_cons (pe_ix ix_list (pv 4) pe_int (fun _ _ => rfl)) (pa_cons (pe_ix ix_list (pv 4) pe_int (fun _ _ => rfl)) pa_nil)))))))), ?_⟩
    refine ⟨_, rfl, a.p, _, _, rfl, W.dk.ob, dF_no (by decide +kernel), a, D, rfl, W.dk, ?_⟩
    refine ⟨_, rfl, _, rfl, dd, _, 0, _, rfl, rfl, seqT_at hdd, rfl, _, rfl, dd, _, 1, _, rfl, rfl, seqT_at hdd, rfl, _, rfl, dd, _, 2, _, rfl, rfl, seqT_at hdd, rfl, ?_⟩
    refine ⟨a, A, D, S, wh, z, k, key, xs, rfl, W, o, dk, hcr, hw, hz, hk, nk, ek, hlim, fun H1 a1 A1 p1 q1 W1 st1 => ?_⟩
    rw [hcall] at W1 ⊢
    refine ⟨rfl, _, rfl, ?_⟩
    show if (!decide (V.str "power" = V.str "power")) = true then _ else _
    rw [decide_eq_true rfl]
    refine iteF ?_
    obtain ⟨ap, adx, asx, af, asl, afr⟩ := a1
    have p1' : ap = a.p := p1
    subst p1'
    obtain ⟨qq, x1, x2, x3, x4, x5, x6⟩ := A1
    have q1' : qq = A.q := q1
    subst q1'
    refine ⟨_, rfl, a.p, _, _, rfl, W1.dk.ob, dF_no (by decide +kernel), (⟨a.p, adx, asx, af, asl, afr⟩ : DA), D, rfl, W1.dk, _, rfl, rfl, _, rfl, ne_int (fun c => absurd rfl c) (fun _ => ?_)⟩
    obtain ⟨hpp1, npp1⟩ := st1.get hpp npp
    obtain ⟨hs11, ns11⟩ := st1.get hs1 ns1
    obtain ⟨hs21, ns21⟩ := st1.get hs2 ns2
    have hmd1 := hmd.stp nm st1
    refine ⟨_, rfl, _, rfl, _, rfl, pp, _, 0, _, rfl, rfl, seq_at hpp1, rfl, _, rfl, pp, _, 1, _, rfl, rfl, seq_at hpp1, rfl, ?_⟩
    refine ⟨(⟨a.p, adx, asx, af, asl, afr⟩ : DA), (⟨A.q, x1, x2, x3, x4, x5, x6⟩ : SA), D, S, m, s1, s2, _, rfl, W1, hmd1, hs11, hs21, fun H2 e2 => ?_⟩
    exact q H2 (⟨a.p, adx, asx, af, asl, afr⟩ : DA) (⟨A.q, x1, x2, x3, x4, x5, x6⟩ : SA) p1 q1 (W1.same e2) (st1.trans (Stp.of_same e2))
theorem sc_fill : FnScope ["_law_disk", "_law_left"] ["_law_disk", "_law_left"] (defScope s_law_fill) := ⟨rfl, rfl, rfl, by decide +kernel, rfl, by decide +kernel, by decide +kernel⟩
theorem ok_law_fill (T : Txt K mg) : Df P w K mg base 4 ("_law_fill", none) ["_law_disk", "_law_left"] (spLawFill K) := by
  refine df_nox T.F_law_fill sc_fill (fun _ _ _ _ _ _ us hl => match us, hl with | [_, _], _ => rfl) (fun vs H Q E h => ?_) (fun cdv A0 outer s H vs Q E hr h => ?_)
  · obtain ⟨a, data, left, rfl, _⟩ := h
    rfl
  · obtain ⟨a, data, left, rfl, d, hdl, hleft, q⟩ := h
    refine ⟨_, pss_cons (ps_expr (eMethX (ok_write T) hr (by decide) T.c_Disk T.m_Disk_write passN (pv 0) (pa_cons pe_int (pa_cons (eCall (ok_write_record T) hr (by decide) T.g_write_record (pa_cons pe_int (pa_cons
        (pe_op op_rep (pe_lst (pa_cons pe_int pa_nil)) (pe_op op_sub (pe_op op_sub (pe_op op_sub pe_int (eLen T.z_len (eMethX (ok_read T) hr (by decide) T.c_Disk T.m_Disk_read passN (pv 0) (pa_cons pe_int pa_nil)))) pe_int) (pv 1))) pa_nil))) pa_nil))))
      (pss_one (ps_expr (eMethX (ok_settle T) hr (by decide) T.c_Disk T.m_Disk_settle passN (pv 0) (pa_cons pe_int pa_nil)))), ?_⟩
    have f0 : (Dk.prep data).f = fun _ => [] := rfl
    have s0 : (Dk.prep data).s false = data := rfl
    have hsz : ((Dk.prep data).s false).length + ((Dk.prep data).f false).length ≤ 1000000 := by
      show data.length + 0 ≤ 1000000
      omega
    refine ⟨_, rfl, a.p, _, _, rfl, d.ob, dF_no (by decide +kernel), ?_⟩
    refine ⟨by show 1 ≤ sizeLine; decide, fun p1 f1 => ?_⟩
    have e1 := (Same.refl H).nw (o := .lst [.int 7]) f1
    have d1 := d.same e1
    refine ⟨_, rfl, a.p, _, _, rfl, d1.ob, dF_no (by decide +kernel), a, Dk.prep data, false, rfl, d1, hsz, fun p2 H2 f2 e2 g2 => ?_⟩
    refine ⟨p2, _, rfl, .inl (seq_at g2), _, _, rfl, rfl, _, _, rfl, rfl, _, rfl, _, _, rfl, rfl, ?_⟩
    have el : (il ((Dk.prep data).s false ++ (Dk.prep data).f false)).length = 53 := by
      rw [il_len, List.length_append]
      show data.length + 0 = 53
      omega
    have ek : (65536 : Int) - ((il ((Dk.prep data).s false ++ (Dk.prep data).f false)).length : Int) - 8 - (left : Int) = ((65475 - left : Nat) : Int) := by
      rw [el]
      omega
    have e2' := e1.trans e2
    refine ⟨p1, ((65475 - left : Nat) : Int), [.int 7], rfl, congrArg V.int ek, e2 _ _ upd_same, by omega, by omega, ?_, fun p3 f3 => ?_⟩
    · show 1 * ((65475 - left : Nat) : Int).toNat ≤ sizeLine
      rw [Int.toNat_natCast, Nat.one_mul]
      exact line_small (by omega)
    have erep : (List.replicate ((65475 - left : Nat) : Int).toNat [V.int 7]).flatten = il (fillBody left) := by
      rw [Int.toNat_natCast]
      unfold il fillBody
      rw [List.map_replicate]
      generalize 65475 - left = n
      induction n with
      | zero => rfl
      | succ n ih =>
        rw [List.replicate_succ, List.flatten_cons, ih, List.replicate_succ]
        rfl
    rw [erep]
    have fl : (fillBody left).length = 65475 - left := by
      unfold fillBody
      exact List.length_replicate
    have fb : Byt (fillBody left) := fun x hx => by
      rw [List.eq_of_mem_replicate hx]
      exact ⟨by decide, by decide⟩
    have e3 := e2'.nw (o := .lst (il (fillBody left))) f3
    refine ⟨3, p3, fillBody left, rfl, seq_at upd_same, ⟨by show (1 : Int) ≤ 3; decide, by show (3 : Int) ≤ 5; decide, fb, by show (fillBody left).length ≤ 65535; omega⟩, fun p4 H4 f4 e4 g4 => ?_⟩
    have e04 := e3.trans e4
    have d4 := d.same e04
    have n4 : ¬ a.own p4 := fun h => by
      obtain ⟨o, ho⟩ := d.tr h
      rw [e3 _ _ ho] at f4
      cases f4
    have rl := recBytes_len 3 (fillBody left)
    refine ⟨a, Dk.prep data, false, p4, recBytes 3 (fillBody left), rfl, d4, g4, n4, fun _ => ⟨rfl, by show data.length + 0 + (recBytes 3 (fillBody left)).length ≤ 65536; omega⟩, fun _ H5 d5 f5 => ?_, fun h => by cases h⟩
    refine ⟨_, rfl, a.p, _, _, rfl, d5.ob, dF_no (by decide +kernel), a, _, false, rfl, d5, ?_, fun _ H6 a6 p6 d6 st6 => ?_, fun h => by cases h⟩
    · show data.length + ([] ++ recBytes 3 (fillBody left)).length ≤ 1000000
      rw [List.nil_append]
      omega
    exact q H6 a6 p6 d6 ((Stp.of_same e04).trans ((Stp.of_fr f5).trans st6))
end
end Hush
set_option Elab.async false
set_option linter.all false
set_option maxRecDepth 100000
set_option maxHeartbeats 4000000
/-! the law: _law_opened -/
namespace Hush
open PySem PySem.Spec PyProof.Rows L2
section
variable {P : Program} {w : World} {K : PySem.W.Frag} {mg : Str → Option Value} {base : Heap}
theorem sc_opened : FnScope ["_law_suite", "_law_disk", "_law_cell_here"] ["_law_suite", "_law_disk", "_law_cell_here"] (defScope s_law_opened) := ⟨rfl, rfl, rfl, by decide +kernel, rfl, by decide +kernel, by decide +kernel⟩
abbrev tbOpen (K : PySem.W.Frag) (W : WX) : TS := tRet (tMakeS (CSt K) (spStoreInit K) (WE W) (tCons (tVar 0) (tCons (tVar 1) tNil)))
theorem ok_law_opened (T : Txt K mg) : Df P w K mg base 8 ("_law_opened", none) ["_law_suite", "_law_disk", "_law_cell_here"] (spLawOpened K) := by
  refine df_exc T.F_law_opened sc_opened (fun _ _ _ _ _ _ us hl => match us, hl with | [_, _, _], _ => rfl) (fun vs H Q E h => ?_) (fun cdv A0 outer s H vs Q E hr h => ?_)
  · obtain ⟨u, a, D, c, sd, sc, bk, g, as, tl, rfl, _⟩ := h
    rfl
  · obtain ⟨u, a, D, c, sd, sc, bk, g, as, tl, rfl, hu, nu, d, b, q⟩ := h
    have hSI := ok_st_init (P := P) (w := w) (base := base) T
    have hCr := ok_crash (P := P) (w := w) (base := base) T
    have rH := (L2H.roomH_of hr).mono (j := 1) (by decide)
    refine ⟨_, pss_cons (ps_if (pt_cmpR op_eq (pe_op op_mod (pe_callTy call_int1 rfl T.z_int PySem.Pv.boot_int (pa_cons (pv 2) pa_nil)) pe_int) pe_int (nomark _))
        (pss_one (ps_expr (eMethX (ok_arm T) hr (by decide) T.c_Disk T.m_Disk_arm passN (pv 1) (pa_cons (pe_op op_mod (pe_callTy call_int1 rfl T.z_int PySem.Pv.boot_int (pa_cons (pe_op op_fdiv (pv 2) pe_int) pa_nil)) pe_int) pa_nil)))) pss_nil)
      (pss_cons (L2N.ps_try_many (tb := tbOpen K) rfl rfl (L2N.takes_of rfl rfl rfl rfl)
        (fun W pn xe tk po => pss_one (ps_ret (pe_makeS T.k_Store hSI.ok hr rfl T.g_Store hSI.b (fun σ => L2N.passAt tk σ) (pa_cons (pv 0) (pa_cons (pv 1) pa_nil)))))
        (.cons ⟨rfl, by decide, .inl T.g_PowerLost⟩ (fun a oe cls dd pn zn fl => pss_one (ps_expr (L2H.pe_methH (E := fun _ => E0) (pv 1) T.c_Disk T.m_Disk_crash (ok_crashH T) ⟨rH.dp, rH.un⟩
            (by obtain ⟨vs, hvs⟩ := fl; exact ⟨(a, oe), ⟨rfl, vs, hvs, zn.2.2 vs hvs⟩, List.mem_cons_self⟩) hCr.b (fun σ pins H s e s' I c => passN pins σ H s e s' I c)
            (pa_cons (pe_op op_mod (pe_callTy call_int1 rfl T.z_int PySem.Pv.boot_int (pa_cons (pe_op op_fdiv (pv 2) pe_int) pa_nil)) pe_int) (pa_cons (pe_op op_mod (pe_callTy call_int1 rfl T.z_int PySem.Pv.boot_int (pa_cons (pe_op op_fdiv (pv 2) pe_int) pa_nil)) pe_int) pa_nil))))) .nil))
      (pss_one (ps_ret (pe_make T.k_Store hSI.ok hr rfl T.g_Store hSI.b .nil passN (pa_cons (pv 0) (pa_cons (pv 1) pa_nil)))))), ?_⟩
    refine ⟨_, rfl, .inl ⟨c, rfl, _, _, rfl, rfl, by show (0 : Int) < 3; decide, rfl, _, rfl, ?_⟩⟩
    obtain ⟨k1, hk1⟩ : ∃ n : Nat, c / 9 % 5 = n := ⟨(c / 9 % 5).toNat, by omega⟩
    obtain ⟨k2, hk2⟩ : ∃ n : Nat, c / 45 % 5 = n := ⟨(c / 45 % 5).toNat, by omega⟩
    refine eq_int (fun hc => ?armed) (fun hc => ?plain)
    case' armed =>
      refine ⟨_, rfl, a.p, _, _, rfl, d.ob, dF_no (by decide +kernel), _, rfl, _, _, rfl, rfl, ⟨by decide, by decide⟩, .inl ⟨_, rfl, _, _, rfl, rfl, by show (0 : Int) < 3; decide, ?_⟩⟩
      refine ⟨a, D, _, rfl, d, fun H1 d1 f1 => ?_⟩
      have st1 := Stp.of_fr f1
      have b1 : Banks (D.arm (c / 3 % 3)) sd sc bk g as tl := b.congr (Dk.arm_s D _) (by rw [Dk.arm_f]; exact b.f0)
    case' plain =>
      have d1 := d
      have st1 := Stp.refl H a.own
      have b1 := b
    all_goals
      refine ⟨_, rfl, _, rfl, fun x dx hx hdx hne => ?_⟩
      obtain ⟨udx, hu0⟩ := hu
      have hu1 := (st1.get hu0 nu).1
      have nu1 := (st1.get hu0 nu).2
      refine open_go d1 b1 ⟨udx, hu1⟩ nu1 hx hdx (fun H' a' A' D' D0 pa eA W' ec bb st => ⟨rfl, ?ok⟩) (fun ht hp H' d' e' => ⟨true, T.e_PowerLost_PowerLost, fun _ a0 ha0 => ?hot, by intro h; cases h⟩)
      case ok =>
        rw [← eA]
        exact q H' a' A' D' D0 pa W' ec bb (st1.trans st)
      case hot =>
        refine ⟨_, rfl, a.p, _, _, rfl, d'.ob, dF_no (by decide +kernel), _, rfl, _, _, rfl, rfl, ⟨by decide, by decide⟩, .inl ⟨_, rfl, _, _, rfl, rfl, by show (0 : Int) < 5; decide, _, rfl, _, _, rfl, rfl, ⟨by decide, by decide⟩, .inl ⟨_, rfl, _, _, rfl, rfl, by show (0 : Int) < 5; decide, ?_⟩⟩⟩
        refine ⟨a, _, k1, k2, by rw [← hk1, ← hk2], d', fun cb => ?_, fun H2 a2 p2 d2 st2 => ?_⟩
        · have := b1.sz cb
          rw [b1.f0]
          show _ + 0 ≤ 1000000
          omega
        · refine ⟨_, rfl, _, rfl, fun x2 dx2 hx2 hdx2 hne2 => ?_⟩
          have st12 := (Stp.of_same (O := a.own) e').trans st2
          have hu2 := (st12.get hu1 nu1).1
          have nu2 := (st12.get hu1 nu1).2
          have g2 := open_go (E := E0) (Q := fun v H2 => v = .non ∧ Q (.ref x2) H2) d2 (b1.crash0 k1 k2) ⟨udx, hu2⟩ nu2 hx2 hdx2 (fun H3 a3 A3 D3 D0 pa3 eA3 W3 ec3 bb3 st3 => ⟨rfl, by
            rw [← eA3]
            exact q H3 a3 A3 D3 D0 (pa3.trans p2) W3 ec3 bb3 (st1.trans (st12.trans st3))⟩) (fun _ hp2 => by cases hp2)
          rw [p2] at g2
          exact g2
end
end Hush
set_option Elab.async false
set_option linter.all false
set_option maxRecDepth 100000
set_option maxHeartbeats 4000000
/-! the law: what stands all along -/
namespace Hush
open PySem PySem.Spec PyProof.Rows L2
structure LS where
  sa : Addr
  u : Addr
  pp : Addr
  s1 : Addr
  s2 : Addr
  kk : Addr
  k0 : Addr
  k1 : Addr
  ns : List Int
  sd : List Int
  sc : List Int
  x0 : List Int
  x1 : List Int
structure LD (K : PySem.W.Frag) (H : Hp) (O : Addr → Prop) (L : LS) : Prop where
  scr : (Rd H L.sa (.lst (il L.ns)) ∧ ¬ O L.sa) ∨ ∀ H' : Hp, SqL K H' L.sa (il L.ns)
  hu : SuiteAt K H L.u
  nu : ¬ O L.u
  hpp : H L.pp = some (.lst [.ref L.s1, .ref L.s2])
  npp : ¬ O L.pp
  h1 : H L.s1 = some (.lst (il L.sd))
  n1 : ¬ O L.s1
  h2 : H L.s2 = some (.lst (il L.sc))
  n2 : ¬ O L.s2
  hkk : H L.kk = some (.lst [.ref L.k0, .ref L.k1])
  nkk : ¬ O L.kk
  hk0 : H L.k0 = some (.lst (il (pubKey L.x0)))
  nk0 : ¬ O L.k0
  hk1 : H L.k1 = some (.lst (il (pubKey L.x1)))
  nk1 : ¬ O L.k1
section
variable {K : PySem.W.Frag} {H H' : Hp} {O O' : Addr → Prop} {L : LS}
theorem LD.sq (x : LD K H O L) : SqL K H L.sa (il L.ns) := x.scr.elim (fun h => .inl h.1) fun h => h H
theorem LD.stp (x : LD K H O L) (s : Stp H O H' O') : LD K H' O' L := by
  obtain ⟨udx, hu⟩ := x.hu
  refine ⟨?_, ⟨udx, (s.get hu x.nu).1⟩, (s.get hu x.nu).2, (s.get x.hpp x.npp).1, (s.get x.hpp x.npp).2, (s.get x.h1 x.n1).1, (s.get x.h1 x.n1).2, (s.get x.h2 x.n2).1, (s.get x.h2 x.n2).2, (s.get x.hkk x.nkk).1, (s.get x.hkk x.nkk).2,
    (s.get x.hk0 x.nk0).1, (s.get x.hk0 x.nk0).2, (s.get x.hk1 x.nk1).1, (s.get x.hk1 x.nk1).2⟩
  rcases x.scr with ⟨h | ⟨o, h⟩, n⟩ | h
  · exact .inl ⟨.inl (s.get h n).1, (s.get h n).2⟩
  · exact .inl ⟨.inr ⟨o, (s.get h n).1⟩, (s.get h n).2⟩
  · exact .inr h
theorem LD.down (x : LD K H O L) (h : ∀ y, O' y → O y) : LD K H O' L :=
  ⟨x.scr.imp (fun z => ⟨z.1, fun e => z.2 (h _ e)⟩) id, x.hu, fun e => x.nu (h _ e), x.hpp, fun e => x.npp (h _ e), x.h1, fun e => x.n1 (h _ e), x.h2, fun e => x.n2 (h _ e), x.hkk, fun e => x.nkk (h _ e), x.hk0, fun e => x.nk0 (h _ e), x.hk1, fun e => x.nk1 (h _ e)⟩
theorem MdAt.down {m : Addr} {M : Nm} (x : MdAt H O m M) (h : ∀ y, O' y → O y) : MdAt H O' m M := by
  obtain ⟨kvs, h1, h2⟩ := x
  exact ⟨kvs, h1, h2.mono fun k xs g1 g2 => ⟨g1, fun e => g2 (h _ e)⟩⟩
/-- in the loop -/
structure LW (K : PySem.W.Frag) (H : Hp) (a : DA) (A : SA) (D : Dk) (S : Sr) (M : Nm) (m : Addr) (L : LS) (n : Nat) : Prop where
  W : WAt K H a A D S
  ld : LD K H (wown a A) L
  md : MdAt H (wown a A) m M
  nm : ¬ wown a A m
  I : PInv D S M L.sd L.sc n
end
/-- a deed's name and key -/
theorem name_at (j : Nat) (hj : j < 4) : ∃ z : Str, z ∈ L4 ∧ atI [V.str "a", V.str "b", V.str "c", V.str "d9"] ((j : Nat) : Int) = some (.str z) := by
  match j, hj with
  | 0, _ => exact ⟨"a", by decide +kernel, rfl⟩
  | 1, _ => exact ⟨"b", by decide +kernel, rfl⟩
  | 2, _ => exact ⟨"c", by decide +kernel, rfl⟩
  | 3, _ => exact ⟨"d9", by decide +kernel, rfl⟩
theorem key_at {K : PySem.W.Frag} {H : Hp} {O : Addr → Prop} {L : LS} (x : LD K H O L) (j : Nat) (hj : j < 2) : ∃ (k : Addr) (xs : List Int), atI [V.ref L.k0, V.ref L.k1] ((j : Nat) : Int) = some (.ref k) ∧ H k = some (.lst (il (pubKey xs))) ∧ ¬ O k := by
  match j, hj with
  | 0, _ => exact ⟨L.k0, L.x0, rfl, x.hk0, x.nk0⟩
  | 1, _ => exact ⟨L.k1, L.x1, rfl, x.hk1, x.nk1⟩
theorem and3 {c : Int} (h : 0 ≤ c) : ∃ n : Nat, n < 4 ∧ Builtin.bitAnd c 3 = (n : Int) := by
  have e : Builtin.bitAnd c 3 = c % 4 := Bits.bitAnd_mask 2 h
  exact ⟨(c % 4).toNat, by omega, by rw [e]; omega⟩
theorem and1 {c : Int} (h : 0 ≤ c) : ∃ n : Nat, n < 2 ∧ Builtin.bitAnd c 1 = (n : Int) := by
  have e : Builtin.bitAnd c 1 = c % 2 := Bits.bitAnd_mask 1 h
  exact ⟨(c % 2).toNat, by omega, by rw [e]; omega⟩
theorem and255 {c : Int} (h : 0 ≤ c) : ∃ n : Nat, n < 256 ∧ Builtin.bitAnd c 255 = (n : Int) := by
  have e : Builtin.bitAnd c 255 = c % 256 := Bits.bitAnd_mask 8 h
  exact ⟨(c % 256).toNat, by omega, by rw [e]; omega⟩
end Hush
set_option Elab.async false
set_option linter.all false
set_option maxRecDepth 100000
set_option maxHeartbeats 8000000
/-! the law: law -/
namespace Hush
open PySem PySem.Spec PyProof.Rows L2
def spLaw (K : PySem.W.Frag) : Sp := fun vs H Q _ => ∃ (a : Addr) (ns : List Int), vs = [.ref a] ∧ SqL K H a (ns.map V.int) ∧ ns.length ≤ 63 ∧ ∀ H', Q (.bl true) H'
abbrev lawN : List Str := ["_law_script", "_law_suite", "_law_disk", "_law_parts", "_law_k", "_law_keys", "_law_most", "_law_store", "_law_model", "_law_cell_here", "_law_which", "_law_name", "_law_key", "_law_after_here", "_law_needs_here", "_law_outcome", "_law_waiting", "_law_kept"]
section
variable {P : Program} {w : World} {K : PySem.W.Frag} {mg : Str → Option Value} {base : Heap}
theorem sc_law : FnScope lawN ["_law_script"] (defScope s_law) := ⟨rfl, rfl, rfl, by decide +kernel, rfl, by decide +kernel, by decide +kernel⟩
theorem ok_law (T : Txt K mg) : Df P w K mg base 14 ("law", none) ["_law_script"] (spLaw K) := by
  refine df_nox T.F_law sc_law (fun _ _ _ _ _ _ us hl => match us, hl with | [_], _ => rfl) (fun vs H Q E h => ?_) (fun cdv A0 outer s H vs Q E hr h => ?_)
  · obtain ⟨a, ns, rfl, _⟩ := h
    rfl
  · obtain ⟨sa, ns, rfl, hS, hnl, q⟩ := h
    have nd := sc_law.nd
    have hSI := ok_st_init (P := P) (w := w) (base := base) T
    have hDI := ok_dinit (P := P) (w := w) (base := base) T
    have hUI := ok_sinit (P := P) (w := w) (base := base) T
    refine ⟨_, (pss_cons (ps_set (i := 1) nd rfl (Or.inr rfl) (pe_make0 T.k_SmallSuite hUI.ok (hr.mono (by decide)) rfl T.g_SmallSuite hUI.b .nil passN))
      (pss_cons (ps_set (i := 2) nd rfl (Or.inl rfl) (pe_make0 T.k_Disk hDI.ok (hr.mono (by decide)) rfl T.g_Disk hDI.b .nil passN))
      (pss_cons (ps_set (i := 3) nd rfl (Or.inl rfl) (pe_lst (pa_cons (eCall (ok_law_row T) hr (by decide) T.g_law_row (pa_cons (eCall (ok_law_cell T) hr (by decide) T.g_law_cell (pa_cons (pv 0) (pa_cons pe_int pa_nil))) (pa_cons pe_int pa_nil))) (pa_cons (eCall (ok_law_row T) hr (by decide) T.g_law_row (pa_cons (eCall (ok_law_cell T) hr (by decide) T.g_law_cell (pa_cons (pv 0) (pa_cons pe_int pa_nil))) (pa_cons pe_int pa_nil))) pa_nil))))
      (pss_cons (ps_setLc (i := 5) (own := [("_law_k", 4)]) (g := gName 4) (tt := tYes) rfl nd rfl rfl rfl (pi_range1 rfl T.z_range (pa_cons pe_int pa_nil)) (blkOk_by (own := [("_law_k", 4)]) (N := lawN) (sc := defScope s_law) (by decide +kernel)) (fun _ _ _ _ _ => pg_name (i := 4) nd rfl (Or.inl rfl)) (fun _ _ _ _ _ => pts_nil)
        (fun _ _ _ _ _ => (eMethX (ok_public T) hr (by decide) T.c_SmallSuite T.m_SmallSuite_public passN (pv 1) (pa_cons (eCall (ok_law_row T) hr (by decide) T.g_law_row (pa_cons (eCall (ok_law_cell T) hr (by decide) T.g_law_cell (pa_cons (pv 0) (pa_cons (pe_op op_add pe_int (pv 4)) pa_nil))) (pa_cons pe_int pa_nil))) pa_nil))))
      (pss_cons (ps_expr (eCall (ok_prepare T) hr (by decide) T.g_prepare (pa_cons (pv 1) (pa_cons (pv 2) (pa_cons (pe_callTy call_list_of rfl T.z_list boot_list (pa_cons (pe_ix ix_list (pv 3) pe_int (fun _ _ => rfl)) pa_nil)) (pa_cons (pe_callTy call_list_of rfl T.z_list boot_list (pa_cons (pe_ix ix_list (pv 3) pe_int (fun _ _ => rfl)) pa_nil)) pa_nil))))))
      (pss_cons (ps_set (i := 6) nd rfl (Or.inl rfl) pe_int)
      (pss_cons (ps_if (pt_cmpR op_eq (pe_op op_mod (pe_callTy call_int1 rfl T.z_int PySem.Pv.boot_int (pa_cons (pe_callB call_abs rfl T.z_abs boot_abs (pa_cons (eCall (ok_law_cell T) hr (by decide) T.g_law_cell (pa_cons (pv 0) (pa_cons pe_int pa_nil))) pa_nil)) pa_nil)) pe_int) pe_int (nomark _)) (pss_cons (ps_expr (eCall (ok_law_fill T) hr (by decide) T.g_law_fill (pa_cons (pv 2) (pa_cons (pe_op op_mod (pe_callTy call_int1 rfl T.z_int PySem.Pv.boot_int (pa_cons (pe_op op_fdiv (pe_callB call_abs rfl T.z_abs boot_abs (pa_cons (eCall (ok_law_cell T) hr (by decide) T.g_law_cell (pa_cons (pv 0) (pa_cons pe_int pa_nil))) pa_nil)) pe_int) pa_nil)) pe_int) pa_nil))))
      (pss_one (ps_set (i := 6) nd rfl (Or.inl rfl) pe_int))) pss_nil)
      (pss_cons (ps_set (i := 7) nd rfl (Or.inl rfl) (pe_make T.k_Store hSI.ok (hr.mono (by decide)) rfl T.g_Store hSI.b .nil passN (pa_cons (pv 1) (pa_cons (pv 2) pa_nil))))
      (pss_cons (ps_set (i := 8) nd rfl (Or.inl rfl) pe_dnewK)
      (pss_cons (ps_for PassesOwn.never rfl (pi_range2 rfl T.z_range (pa_cons pe_int (pa_cons (pe_callB (call_min2 rfl) rfl T.z_min boot_min (pa_cons (pv 6) (pa_cons (eLen T.z_len (pv 0)) pa_nil))) pa_nil))) (pg_name (i := 4) nd rfl (Or.inl rfl))
        (pss_cons (ps_set (i := 9) nd rfl (Or.inl rfl) (pe_callB call_abs rfl T.z_abs boot_abs (pa_cons (pe_ix ix_list (pv 0) (pv 4) (fun _ _ => rfl)) pa_nil)))
      (pss_cons (ps_set (i := 10) nd rfl (Or.inl rfl) (pe_op op_and (pe_callTy call_int1 rfl T.z_int PySem.Pv.boot_int (pa_cons (pv 9) pa_nil)) pe_int))
      (pss_cons (ps_set (i := 11) nd rfl (Or.inl rfl) (pe_ix ix_list (pe_lst (pa_cons pe_str (pa_cons pe_str (pa_cons pe_str (pa_cons pe_str pa_nil))))) (pe_op op_and (pe_callTy call_int1 rfl T.z_int PySem.Pv.boot_int (pa_cons (pe_op op_fdiv (pv 9) pe_int) pa_nil)) pe_int) (fun _ _ => rfl)))
      (pss_cons (ps_set (i := 12) nd rfl (Or.inl rfl) (pe_ix ix_list (pv 5) (pe_op op_and (pe_callTy call_int1 rfl T.z_int PySem.Pv.boot_int (pa_cons (pe_op op_fdiv (pv 9) pe_int) pa_nil)) pe_int) (fun _ _ => rfl)))
      (pss_cons (ps_if (pt_cmpR op_ne (pe_op op_mod (pe_callTy call_int1 rfl T.z_int PySem.Pv.boot_int (pa_cons (pe_op op_fdiv (pv 9) pe_int) pa_nil)) pe_int) pe_int (nomark _)) (pss_one (ps_expr (eMethX (ok_arm T) hr (by decide) T.c_Disk T.m_Disk_arm passN (pv 2) (pa_cons (pe_op op_mod (pe_callTy call_int1 rfl T.z_int PySem.Pv.boot_int (pa_cons (pe_op op_fdiv (pv 9) pe_int) pa_nil)) pe_int) pa_nil)))) pss_nil)
      (pss_cons (ps_set (i := 13) nd rfl (Or.inl rfl) (eCall (ok_law_after T) hr (by decide) T.g_law_after (pa_cons (pv 8) (pa_cons (pv 10) (pa_cons (pv 11) (pa_cons (pv 12) pa_nil))))))
      (pss_cons (ps_set (i := 14) nd rfl (Or.inl rfl) (eCall (ok_law_needs T) hr (by decide) T.g_law_needs (pa_cons (pv 8) (pa_cons (pv 10) (pa_cons (pv 11) (pa_cons (pv 12) (pa_cons (eMethX0 (ok_state T) hr (by decide) T.c_Store T.m_Store_state passN (pv 7)) pa_nil)))))))
      (pss_cons (ps_set (i := 15) nd rfl (Or.inl rfl) (eCall (ok_law_call T) hr (by decide) T.g_law_call (pa_cons (pv 7) (pa_cons (pv 10) (pa_cons (pv 11) (pa_cons (pv 12) pa_nil))))))
      (pss_cons (ps_if (pt_cmpR op_eq (pv 15) pe_str (nomark _)) (pss_cons (ps_if (pt_not (pt_val (eCall (ok_law_may T) hr (by decide) T.g_law_may (pa_cons (pv 8) (pa_cons (pv 10) (pa_cons (pv 11) (pa_cons (pv 12) pa_nil))))))) pss_never pss_nil)
      (pss_one (ps_set (i := 8) nd rfl (Or.inl rfl) (pv 13)))) (pss_one (ps_if (pt_cmpR op_eq (pv 15) pe_str (nomark _)) (pss_one (ps_if (pt_val (eCall (ok_law_may T) hr (by decide) T.g_law_may (pa_cons (pv 8) (pa_cons (pv 10) (pa_cons (pv 11) (pa_cons (pv 12) pa_nil)))))) pss_never pss_nil)) (pss_cons (ps_if (PW.pt (pw_or (pt_val (eMethX0 (ok_has_power T) hr (by decide) T.c_Disk T.m_Disk_has_power passN (pv 2))) (pw_or (pt_not (pt_val (pv 14))) (pw_or1 (pt_not (pt_val (eCall (ok_is_same T) hr (by decide) T.g_law_is_same (pa_cons (pv 7) (pa_cons (pv 8) (pa_cons (pe_ix ix_list (pv 3) pe_int (fun _ _ => rfl)) (pa_cons (pe_ix ix_list (pv 3) pe_int (fun _ _ => rfl)) pa_nil))))))))))) pss_never pss_nil)
      (pss_cons (ps_if (PW.pt (pw_and (pt_cmpR op_eq (pe_op op_and (pe_callTy call_int1 rfl T.z_int PySem.Pv.boot_int (pa_cons (pe_op op_fdiv (pv 9) pe_int) pa_nil)) pe_int) pe_int (nomark _)) (pw_and1 (pt_not (pt_val (eCall (ok_law_again T) hr (by decide) T.g_law_again (pa_cons (pv 7) (pa_cons (pv 2) (pa_cons (pe_tup (pa_cons (pv 10) (pa_cons (pv 11) (pa_cons (pv 12) pa_nil)))) (pa_cons (pv 8) (pa_cons (pv 3) pa_nil))))))))))) pss_never pss_nil)
      (pss_cons (ps_set (i := 16) nd rfl (Or.inl rfl) (eMethX0 (ok_pending T) hr (by decide) T.c_Disk T.m_Disk_pending passN (pv 2)))
      (pss_cons (ps_set (i := 17) nd rfl (Or.inl rfl) (pe_op op_and (pe_callTy call_int1 rfl T.z_int PySem.Pv.boot_int (pa_cons (pe_op op_fdiv (pv 9) pe_int) pa_nil)) pe_int))
      (pss_cons (ps_expr (eMethX (ok_crash T) hr (by decide) T.c_Disk T.m_Disk_crash passN (pv 2) (pa_cons (pv 17) (pa_cons (pe_op op_and (pe_callTy call_int1 rfl T.z_int PySem.Pv.boot_int (pa_cons (pe_op op_fdiv (pv 9) pe_int) pa_nil)) pe_int) pa_nil))))
      (pss_cons (ps_set (i := 7) nd rfl (Or.inl rfl) (eCall (ok_law_opened T) hr (by decide) T.g_law_opened (pa_cons (pv 1) (pa_cons (pv 2) (pa_cons (pe_op op_fdiv (pv 9) pe_int) pa_nil)))))
      (pss_one (ps_if (PW.pt (pw_and (pt_cmpR op_eq (pv 16) (eCall (ok_law_size T) hr (by decide) T.g_law_size (pa_cons (pv 10) (pa_cons (pv 11) pa_nil))) (nomark _)) (pw_and1 (pt_cmpR op_ge (pv 17) (pv 16) (nomark _))))) (pss_one (ps_set (i := 8) nd rfl (Or.inl rfl) (pv 13))) pss_nil)))))))))))
      (pss_one (ps_if (pt_not (pt_val (eCall (ok_is_same T) hr (by decide) T.g_law_is_same (pa_cons (pv 7) (pa_cons (pv 8) (pa_cons (pe_ix ix_list (pv 3) pe_int (fun _ _ => rfl)) (pa_cons (pe_ix ix_list (pv 3) pe_int (fun _ _ => rfl)) pa_nil))))))) pss_never pss_nil))))))))))))
      (pss_cons (ps_expr (eMethX (ok_crash T) hr (by decide) T.c_Disk T.m_Disk_crash passN (pv 2) (pa_cons pe_int (pa_cons pe_int pa_nil))))
      (pss_one (ps_ret (eCall (ok_is_same T) hr (by decide) T.g_law_is_same (pa_cons (pe_make T.k_Store hSI.ok (hr.mono (by decide)) rfl T.g_Store hSI.b .nil passN (pa_cons (pv 1) (pa_cons (pv 2) pa_nil))) (pa_cons (pv 8) (pa_cons (pe_ix ix_list (pv 3) pe_int (fun _ _ => rfl)) (pa_cons (pe_ix ix_list (pv 3) pe_int (fun _ _ => rfl)) pa_nil)))))))))))))))))), ?_⟩
    -- suite = SmallSuite()
    refine fun u dxu hu hdu neu => ⟨u, dxu, rfl, upd_same, rfl, ?_⟩
    rw [upd_upd]
    have e1 : Same H (upd (upd H dxu (.own u)) u (.ins (CS K) dxu suF)) := fun b o h => by
      rw [upd_ne (ne_of_none h hu), upd_ne (ne_of_none h hdu)]
      exact h
    have gu : upd (upd H dxu (.own u)) u (.ins (CS K) dxu suF) u = some (.ins (CS K) dxu suF) := upd_same
    generalize upd (upd H dxu (.own u)) u (.ins (CS K) dxu suF) = H1 at *
    -- disk = Disk()
    refine fun p dxp hp hdp nep => ⟨p, dxp, rfl, upd_same, fun H2 a ea d kold own => ⟨rfl, ?_⟩⟩
    subst ea
    have e2 : Same H1 H2 := fun b o h => kold b o (by
      rw [upd_ne (ne_of_none h hp), upd_ne (ne_of_none h hdp)]
      exact h) (ne_of_none h hp)
    have noOwn : ∀ x o, H1 x = some o → ¬ a.own x := fun x o h hx => by
      rcases own x hx with z | z
      · rw [z, hp] at h
        cases h
      · rw [upd_ne (ne_of_none h hp), upd_ne (ne_of_none h hdp)] at z
        rw [h] at z
        cases z
    have gu2 := e2 _ _ gu
    have nu := noOwn _ _ gu
    have hS2 : SqL K H2 sa (il ns) := (e1.trans e2).seq hS
    have scr2 : (Rd H2 sa (.lst (il ns)) ∧ ¬ a.own sa) ∨ ∀ H' : Hp, SqL K H' sa (il ns) := by
      rcases hS with h | h
      · refine .inl ?_
        rcases h with h | ⟨o, h⟩
        · exact ⟨.inl (e2 _ _ (e1 _ _ h)), noOwn _ _ (e1 _ _ h)⟩
        · exact ⟨.inr ⟨o, e2 _ _ (e1 _ _ h)⟩, noOwn _ _ (e1 _ _ h)⟩
      · exact .inr fun H' => .inr h
    have nn : ∀ {H' : Hp} {x : Addr}, Same H2 H' → H' x = none → ¬ a.own x := fun e h hx => by
      obtain ⟨o, ho⟩ := d.tr hx
      rw [e _ _ ho] at h
      cases h
    -- parts
    refine ⟨_, rfl, sa, ns, 0, rfl, hS2, fun c0 => ⟨c0, rfl, fun sd lsd bsd s1 H3 f3 e3 g3 => ?_⟩⟩
    refine ⟨_, rfl, sa, ns, 1, rfl, e3.seq hS2, fun c1 => ⟨c1, rfl, fun sc lsc bsc s2 H4 f4 e4 g4 => ?_⟩⟩
    refine ⟨by show 2 ≤ sizeLine; decide, fun pp f5 => ?_⟩
    have e24 := e3.trans e4
    have g3' := e4 _ _ g3
    have e25 := e24.nw (o := .lst [.ref s1, .ref s2]) f5
    have hs1 : upd H4 pp (.lst [.ref s1, .ref s2]) s1 = some (.lst (il sd)) := ((Same.refl H4).nw f5) _ _ g3'
    have hs2 : upd H4 pp (.lst [.ref s1, .ref s2]) s2 = some (.lst (il sc)) := ((Same.refl H4).nw f5) _ _ g4
    have hpp : upd H4 pp (.lst [.ref s1, .ref s2]) pp = some (.lst [.ref s1, .ref s2]) := upd_same
    have npp := nn e24 f5
    have ns1 := nn (Same.refl H2) f3
    have ns2 := nn e3 f4
    generalize upd H4 pp (.lst [.ref s1, .ref s2]) = H5 at *
    -- keys
    refine ⟨2, rfl, by decide, by decide, fun kk hkk => ?_⟩
    have nkk := nn e25 hkk
    refine lc_range (lo := 0) (n := (2 : Int).toNat) (fun i H' => Same H5 H' ∧ ∃ ks : List (Addr × List Int), ks.length = i ∧ H' kk = some (.lst (ks.map fun r => .ref r.1)) ∧ ∀ r ∈ ks, H' r.1 = some (.lst (il (pubKey r.2))) ∧ r.1 ≠ kk ∧ ¬ a.own r.1)
      ⟨(Same.refl H5).nw hkk, [], rfl, upd_same, fun r h => by cases h⟩ ?_ ?_
    · rintro i H6 hi ⟨e6, ks, hks, gk, hall⟩
      have e26 := e25.trans e6
      refine ⟨rfl, _, rfl, u, _, _, rfl, e26 _ _ gu2, suF_no (by decide +kernel), _, rfl, _, rfl, _, _, rfl, rfl, sa, ns, 2 + i, ?_, e26.seq hS2, fun c => ⟨c, rfl, fun xs hl hb sr H7 f7 e7 g7 => ?_⟩⟩
      · have : (2 : Int) + (0 + (i : Int)) = ((2 + i : Nat) : Int) := by omega
        show [V.ref sa, V.int (2 + (0 + (i : Int)))] = _
        rw [this]
      have e27 := e26.trans e7
      refine ⟨u, sr, xs, rfl, ⟨_, e27 _ _ gu2⟩, seq_at g7, hb, hl, fun k H8 f8 e8 g8 => ?_⟩
      have e78 := e7.trans e8
      have gk8 := e78 _ _ gk
      have nkk8 : k ≠ kk := (ne_of_none (e7 _ _ gk) f8).symm
      have hkkH5 := hkk
      refine ⟨_, gk8, ?_, (e6.trans e78).mt hkk, ks ++ [(k, xs)], by rw [List.length_append, hks]; rfl, ?_, fun r hr => ?_⟩
      · rw [List.length_map, hks]
        exact line_lt (by have : i < 2 := hi; omega)
      · rw [upd_same, List.map_append]
        rfl
      · rcases List.mem_append.mp hr with hr | hr
        · obtain ⟨h1, h2, h3⟩ := hall r hr
          exact ⟨by rw [upd_ne h2]; exact e78 _ _ h1, h2, h3⟩
        · rw [List.mem_singleton.mp hr]
          exact ⟨by rw [upd_ne nkk8]; exact g8, nkk8, nn e27 f8⟩
    rintro H6 ⟨e6, ks, hks, gk, hall⟩
    obtain ⟨⟨k0, x0⟩, ⟨k1, x1⟩, rfl⟩ : ∃ r0 r1, ks = [r0, r1] := by
      match ks, hks with
      | [r0, r1], _ => exact ⟨r0, r1, rfl⟩
    obtain ⟨hk0, _, nk0⟩ := hall (k0, x0) List.mem_cons_self
    obtain ⟨hk1, _, nk1⟩ := hall (k1, x1) (List.mem_cons_of_mem _ List.mem_cons_self)
    have e26 := e25.trans e6
    have ld6 : LD K H6 a.own ⟨sa, u, pp, s1, s2, kk, k0, k1, ns, sd, sc, x0, x1⟩ := by
      refine ⟨?_, ⟨_, e26 _ _ gu2⟩, nu, e6 _ _ hpp, npp, e6 _ _ hs1, ns1, e6 _ _ hs2, ns2, gk, nkk, hk0, nk0, hk1, nk1⟩
      rcases scr2 with ⟨h | ⟨o, h⟩, n⟩ | h
      · exact .inl ⟨.inl (e26 _ _ h), n⟩
      · exact .inl ⟨.inr ⟨o, e26 _ _ h⟩, n⟩
      · exact .inr h
    have d6 := d.same e26
    -- prepare
    refine ⟨_, rfl, _, rfl, _, rfl, pp, _, 0, _, rfl, rfl, seq_at ld6.hpp, rfl, s1, _, rfl, .inl (seq_at ld6.h1), fun t1 ft1 => ?_⟩
    have e7 := (Same.refl H6).nw (o := .lst (il sd)) ft1
    refine ⟨_, rfl, pp, _, 1, _, rfl, rfl, seq_at (e7 _ _ ld6.hpp), rfl, s2, _, rfl, .inl (seq_at (e7 _ _ ld6.h2)), fun t2 ft2 => ?_⟩
    have e8 := e7.nw (o := .lst (il sc)) ft2
    have nt1 := nn e26 ft1
    have nt2 := nn (e26.trans e7) ft2
    refine ⟨u, t1, t2, a, sd, sc, rfl, ⟨_, e8 _ _ (e26 _ _ gu2)⟩, d6.same e8, ?_, upd_same, nu, nt1, nt2, lsd, lsc, bsd, bsc, fun H7 a7 p7 d7 st7 => ?_⟩
    · rw [upd_ne (ne_of_none upd_same ft2)]
      exact upd_same
    have ld7 := (ld6.stp (Stp.of_same e8)).stp st7
    have b7 := prep_banks lsd lsc bsd bsc
    clear hall gk hks hk0 hk1 nk0 nk1 d6 e8 nt1 nt2 ft1 ft2 e7 ld6
    have lpd : (prepData sd sc).length = 53 := by
      unfold prepData
      rw [List.length_append, recBytes_len, recBytes_len, beginBody_len]
      show 8 + (5 + sd.length + sc.length) + (8 + 0) = 53
      omega
    rw [← p7]
    -- the filled bank
    refine ⟨_, rfl, sa, ns, 3, rfl, ld7.sq, fun c3 => ⟨c3, rfl, .inl ⟨_, rfl, _, _, rfl, rfl, by show (0 : Int) < 16; decide, rfl, _, rfl, ?_⟩⟩⟩
    refine eq_int (fun hc => ?filled) (fun hc => ?plain)
    case' filled =>
      refine ⟨_, rfl, _, rfl, sa, ns, 3, rfl, ld7.sq, fun c4 => ⟨c4, rfl, _, _, rfl, rfl, ⟨by decide, by decide⟩, .inl ⟨_, rfl, _, _, rfl, rfl, by show (0 : Int) < 61; decide, ?_⟩⟩⟩
      have h4 : 0 ≤ (if c4 < 0 then -c4 else c4) / 16 % 61 ∧ (if c4 < 0 then -c4 else c4) / 16 % 61 < 61 := by omega
      obtain ⟨left, hleft⟩ : ∃ n : Nat, (if c4 < 0 then -c4 else c4) / 16 % 61 = n := ⟨((if c4 < 0 then -c4 else c4) / 16 % 61).toNat, by omega⟩
      refine ⟨a7, prepData sd sc, left, by rw [← hleft]; rfl, d7, lpd, by omega, fun H8 a8 p8 d8 st8 => ?_⟩
      have ld8 := ld7.stp st8
      have fbl : (fillBody left).length = 65475 - left := List.length_replicate
      have b8 := fill_banks (D' := ((Dk.prep (prepData sd sc)).wr false (recBytes 3 (fillBody left))).settle false) b7 (xs := fillBody left) (by omega) (by omega) (fun x hx => by
        rw [List.eq_of_mem_replicate hx]
        exact ⟨by decide, by decide⟩) rfl (by
          funext c
          cases c <;> rfl) rfl (by show (prepData sd sc).length + _ ≤ 65536; omega)
      have rp8 : replay [.beg 1 sd sc, .done, .fill (fillBody left)] = (0, fun _ => none) := rfl
      have c8 : (((Dk.prep (prepData sd sc)).wr false (recBytes 3 (fillBody left))).settle false).crashes = 0 := rfl
      rw [← p8]
      generalize ((Dk.prep (prepData sd sc)).wr false (recBytes 3 (fillBody left))).settle false = D8 at *
    case' plain =>
      have ld8 := ld7
      have d8 := d7
      have b8 := b7
      have rp8 : replay [.beg 1 sd sc, .done] = (0, fun _ => none) := rfl
    all_goals
      -- store = Store(suite, disk)
      refine ⟨_, rfl, _, rfl, fun x9 dx9 hx9 hdx9 hne9 => ?_⟩
      refine open_go d8 b8 ld8.hu ld8.nu hx9 hdx9 (fun H9 a9 A9 D9 D0 pa9 eA9 W9 ec9 bb9 st9 => ⟨rfl, ?_⟩) (fun ht => absurd rfl ht)
      have I9 : PInv D9 _ (fun _ => none) sd sc 0 := opened_inv bb9 ec9 rp8 (by decide) (by decide) (by decide) nmOk_none bsd bsc
      have ld9 := ld8.stp st9
      rw [← pa9, ← eA9]
      -- model = {}
      refine fun m hm => ?_
      have e10 := (Same.refl H9).nw (o := .dK []) hm
      have W10 := W9.same e10
      have ld10 := ld9.stp (Stp.of_same e10)
      have nm10 : ¬ wown a9 A9 m := W9.new_not hm
      have md10 : MdAt (upd H9 m (.dK [])) (wown a9 A9) m (fun _ => none) := ⟨[], upd_same, ⟨.nil, (fun x hx => by cases hx), (fun _ _ => rfl), (fun z v e => by cases e), (fun _ _ => rfl), (fun z xs e => by cases e)⟩⟩
      generalize upd H9 m (.dK []) = H10 at *
      have sq10 : SqL K H10 sa (il ns) := ld10.sq
      -- the loop
      refine ⟨_, rfl, _, rfl, sa, _, rfl, .inl sq10, _, _, rfl, 4, _, rfl, ⟨by decide, by decide, ?_, ?_⟩, for_range (lo := 4) (n := _) (fun i σ H' => ∃ (a : DA) (A : SA) (D : Dk) (S : Sr) (M : Nm) (m : Addr) (v4 v6 v9 v10 v11 v12 v13 v14 v15 v16 v17 : Option V),
          σ = [some (.ref sa), some (.ref u), some (.ref a.p), some (.ref pp), v4, some (.ref kk), v6, some (.ref A.q), some (.ref m), v9, v10, v11, v12, v13, v14, v15, v16, v17] ∧ LW K H' a A D S M m ⟨sa, u, pp, s1, s2, kk, k0, k1, ns, sd, sc, x0, x1⟩ i)
        ⟨a9, A9, D9, _, _, m, _, _, _, _, _, _, _, _, _, _, _, rfl, ⟨W10, ld10, md10, nm10, I9⟩⟩ ?_ ?_⟩
      · rw [il_len]
        split <;> omega
      · rw [il_len]
        split <;> omega
      · rintro i σ HL hi ⟨a, A, D, S, M, m, v4, v6, v9, v10, v11, v12, v13, v14, v15, v16, v17, rfl, lw⟩
        have hi2 : 4 + i < ns.length := by
          rw [il_len] at hi
          split at hi <;> omega
        obtain ⟨W, ld, md, nmo, I⟩ := lw
        -- cell
        rw [show (4 : Int) + (i : Int) = ((4 + i : Nat) : Int) by omega]
        refine ⟨_, rfl, _, rfl, sa, _, _, _, rfl, rfl, ld.sq, atI_nat (il_at hi2), _, rfl, ?_⟩
        have hc0 : 0 ≤ (if ns.getD (4 + i) 0 < 0 then -ns.getD (4 + i) 0 else ns.getD (4 + i) 0) := by split <;> omega
        generalize (if ns.getD (4 + i) 0 < 0 then -ns.getD (4 + i) 0 else ns.getD (4 + i) 0) = c at *
        -- which
        obtain ⟨wh, hwh, ewh⟩ := and3 hc0
        refine ⟨_, rfl, .inl ⟨_, rfl, _, _, rfl, rfl, ?_⟩⟩
        rw [show ((fun i j : Int => V.int (Builtin.bitAnd i j)) c 3) = V.int (wh : Int) from congrArg V.int ewh]
        -- name
        obtain ⟨j1, hj1, ej1⟩ := and3 (c := c / 4) (by omega)
        obtain ⟨z, hz, hat⟩ := name_at j1 hj1
        refine ⟨by show 4 ≤ sizeLine; decide, fun pn fpn => ⟨_, rfl, _, _, rfl, rfl, ⟨by decide, by decide⟩, .inl ⟨_, rfl, _, _, rfl, rfl, pn, _, (j1 : Int), _, rfl, congrArg V.int ej1, seq_at upd_same, hat, ?_⟩⟩⟩
        have e1 := (Same.refl HL).nw (o := .lst [.str "a", .str "b", .str "c", .str "d9"]) fpn
        replace W := W.same e1
        replace ld := ld.stp (Stp.of_same e1)
        replace md := md.same e1
        generalize upd HL pn (.lst [.str "a", .str "b", .str "c", .str "d9"]) = HM at *
        -- key
        obtain ⟨j2, hj2, ej2⟩ := and1 (c := c / 16) (by omega)
        obtain ⟨k, xs, hat2, hk, nk⟩ := key_at ld j2 hj2
        refine ⟨_, rfl, _, rfl, _, _, rfl, rfl, ⟨by decide, by decide⟩, .inl ⟨_, rfl, _, _, rfl, rfl, kk, _, (j2 : Int), _, rfl, congrArg V.int ej2, seq_at ld.hkk, hat2, ?_⟩⟩
        -- arm
        refine ⟨_, rfl, _, _, rfl, rfl, ⟨by decide, by decide⟩, .inl ⟨_, rfl, _, _, rfl, rfl, by show (0 : Int) < 3; decide, rfl, _, rfl, ?_⟩⟩
        refine ne_int (fun hc => ?_) (fun hc => ?_)
        refine ⟨_, rfl, a.p, _, _, rfl, W.dk.ob, dF_no (by decide +kernel), _, rfl, _, _, rfl, rfl, ⟨by decide, by decide⟩, .inl ⟨_, rfl, _, _, rfl, rfl, by show (0 : Int) < 5; decide, ?_⟩⟩
        refine ⟨a, D, _, rfl, W.dk, fun H3 d3 f3 => ?_⟩
        obtain ⟨W3, st3⟩ := W.disk d3 rfl (Stp.of_fr f3)
        have ld3 := ld.stp st3
        have md3 := md.stp nmo st3
        obtain ⟨hk3, nk3⟩ := st3.get hk nk
        have I3 : PInv (D.arm (c / 96 % 5)) S M sd sc i := I.arm _
        generalize D.arm (c / 96 % 5) = D3 at *
        rotate_left
        have W3 := W
        have ld3 := ld
        have md3 := md
        have hk3 := hk
        have nk3 := nk
        have I3 : PInv D S M sd sc i := I
        all_goals
          -- after
          refine ⟨_, rfl, _, rfl, _, rfl, _, rfl, m, k, wown a A, M, wh, z, pubKey xs, rfl, hwh, hz, md3, hk3, ⟨pub_len xs, pub_byt xs⟩, fun x hx => W3.tr hx, fun pa H4 fpa e4 mda => ?_⟩
          have npa : ¬ wown a A pa := W3.new_not fpa
          have W4 := W3.same e4
          have ld4 := ld3.stp (Stp.of_same e4)
          have md4 := md3.same e4
          have hk4 := e4 _ _ hk3
          -- needs
          refine ⟨_, rfl, _, rfl, _, rfl, _, rfl, _, rfl, A.q, _, _, rfl, W4.ob, stF_no (by decide +kernel), a, A, _, S, rfl, W4, fun ps y1 y2 y3 H5 fps e5 g5 => ?_⟩
          refine ⟨m, k, ps, wown a A, M, wh, z, pubKey xs, S, _, y1, y2, y3, rfl, hwh, md4.same e5, e5 _ _ hk4, g5, ?_⟩
          have W5 := W4.same e5
          have ld5 := ld4.stp (Stp.of_same e5)
          have md5 := md4.same e5
          have hk5 := e5 _ _ hk4
          have mda5 := mda.same e5
          -- outcome
          have hlim : S.limit + 16 ≤ 18446744073709551615 := by
            have := I3.lb
            omega
          refine ⟨_, rfl, _, rfl, _, rfl, _, rfl, a, A, _, S, wh, z, k, pubKey xs, xs, rfl, W5, I3.srOk (by omega), I3.dOk, I3.cr, hwh, hz, hk5, nk3, rfl, hlim, fun H6 a6 A6 p6 q6 W6 st6 => ?_⟩
          have dd := deed I3 (by omega) hwh hz ⟨pub_len xs, pub_byt xs⟩
          have ld6 := ld5.stp st6
          have md6 := md5.stp nmo st6
          have mda6 := mda5.stp npa st6
          obtain ⟨hk6, nk6⟩ := st6.get hk5 nk3
          have nm6 : ¬ wown a6 A6 m := by
            obtain ⟨kvs, h, _⟩ := md5
            exact st6.not h nmo
          have npa6 : ¬ wown a6 A6 pa := by
            obtain ⟨kvs, h, _⟩ := mda5
            exact st6.not h npa
          rw [← p6, ← q6]
          generalize callM _ S wh z (pubKey xs) = r at *
          obtain ⟨res, D6, S6⟩ := r
          cases res with
          | done =>
            obtain ⟨dm, I6⟩ := dd
            refine ⟨_, rfl, rfl, _, rfl, ?_⟩
            show if decide (V.str "done" = V.str "done") = true then _ else _
            rw [decide_eq_true rfl]
            refine iteT ?_
            refine ⟨_, rfl, _, rfl, _, rfl, _, rfl, m, k, _, M, wh, z, pubKey xs, rfl, hwh, md6, hk6, ?_⟩
            rw [dm]
            refine ⟨_, rfl, iteF ?_⟩
            refine ⟨_, rfl, ?_⟩
            refine ⟨_, rfl, _, rfl, _, rfl, pp, _, 0, _, rfl, rfl, seq_at ld6.hpp, rfl, _, rfl, pp, _, 1, _, rfl, rfl, seq_at ld6.hpp, rfl, a6, A6, D6, S6, pa, s1, s2, _, rfl, W6, (by rw [I6.eM]; exact mda6), (by rw [I6.e1]; exact ld6.h1), (by rw [I6.e2]; exact ld6.h2), fun HZ eZ => ⟨_, rfl, iteF ?_⟩⟩
            exact ⟨a6, A6, D6, S6, _, pa, _, _, _, _, _, _, _, _, _, _, _, rfl, ⟨W6.same eZ, ld6.stp (Stp.of_same eZ), mda6.same eZ, npa6, I6⟩⟩
          | error =>
            obtain ⟨dm, rfl, rfl⟩ := dd
            have I6 := I3.more (Nat.le_succ i)
            refine ⟨_, rfl, rfl, _, rfl, ?_⟩
            show if decide (V.str "error" = V.str "done") = true then _ else _
            rw [show decide (V.str "error" = V.str "done") = false by decide +kernel]
            refine iteF ?_
            refine ⟨_, rfl, rfl, _, rfl, ?_⟩
            show if decide (V.str "error" = V.str "error") = true then _ else _
            rw [decide_eq_true rfl]
            refine iteT ?_
            refine ⟨_, rfl, _, rfl, _, rfl, _, rfl, m, k, _, M, wh, z, pubKey xs, rfl, hwh, md6, hk6, ?_⟩
            rw [dm]
            refine ⟨_, rfl, iteF ?_⟩
            refine ⟨_, rfl, _, rfl, _, rfl, pp, _, 0, _, rfl, rfl, seq_at ld6.hpp, rfl, _, rfl, pp, _, 1, _, rfl, rfl, seq_at ld6.hpp, rfl, a6, A6, _, _, m, s1, s2, _, rfl, W6, (by rw [I6.eM]; exact md6), (by rw [I6.e1]; exact ld6.h1), (by rw [I6.e2]; exact ld6.h2), fun HZ eZ => ⟨_, rfl, iteF ?_⟩⟩
            exact ⟨a6, A6, _, _, _, m, _, _, _, _, _, _, _, _, _, _, _, rfl, ⟨W6.same eZ, ld6.stp (Stp.of_same eZ), md6.same eZ, nm6, I6⟩⟩
          | power =>
            obtain ⟨dn, hh⟩ := dd
            rw [dn]
            refine ⟨_, rfl, rfl, _, rfl, ?_⟩
            show if decide (V.str "power" = V.str "done") = true then _ else _
            rw [show decide (V.str "power" = V.str "done") = false by decide +kernel]
            refine iteF ?_
            refine ⟨_, rfl, rfl, _, rfl, ?_⟩
            show if decide (V.str "power" = V.str "error") = true then _ else _
            rw [show decide (V.str "power" = V.str "error") = false by decide +kernel]
            refine iteF ?_
            -- the power is gone, the deed needs it, all is as it was
            refine ⟨_, rfl, a6.p, _, _, rfl, W6.dk.ob, dF_no (by decide +kernel), a6, D6, rfl, W6.dk, ?_⟩
            rw [hh.pw]
            refine ⟨_, rfl, iteF ?_⟩
            refine ⟨_, rfl, _, rfl, iteF ?_⟩
            have md6' : MdAt H6 (wown a6 A6) m S6.M := by
              rw [hh.eM]
              exact md6
            refine ⟨_, rfl, _, rfl, _, rfl, pp, _, 0, _, rfl, rfl, seq_at ld6.hpp, rfl, _, rfl, pp, _, 1, _, rfl, rfl, seq_at ld6.hpp, rfl, a6, A6, D6, S6, m, s1, s2, _, rfl, W6, md6', (by rw [hh.e1]; exact ld6.h1), (by rw [hh.e2]; exact ld6.h2), fun H7 e7 => ⟨_, rfl, iteF ?_⟩⟩
            have W7 := W6.same e7
            have ld7 := ld6.stp (Stp.of_same e7)
            have md7 := md6.same e7
            have md7' := md6'.same e7
            have mda7 := mda6.same e7
            have hk7 := e7 _ _ hk6
            -- the deed may be called again
            refine ⟨_, rfl, _, _, rfl, rfl, ⟨by decide, by decide⟩, .inl ⟨_, rfl, _, _, rfl, rfl, rfl, _, rfl, ?_⟩⟩
            refine eq_int (fun hb => ?_) (fun hb => iteF ?_)
            refine ⟨_, rfl, _, rfl, _, rfl, _, rfl, _, rfl, by show 3 ≤ sizeLine; decide, fun dl fdl => ?_⟩
            have e8 := (Same.refl H7).nw (o := .tup [.int (wh : Int), .str z, .ref k]) fdl
            have ndl := W7.new_not fdl
            have W8 := W7.same e8
            have ld8 := ld7.stp (Stp.of_same e8)
            have md8 := md7.same e8
            have md8' := md7'.same e8
            have mda8 := mda7.same e8
            have hk8 := e8 _ _ hk7
            have hlim6 : S6.limit + 16 ≤ 18446744073709551615 := by
              have := hh.lb
              omega
            refine ⟨_, rfl, _, rfl, a6, A6, D6, S6, wh, z, k, dl, m, pp, s1, s2, pubKey xs, xs, rfl, W8, hh.sr, hh.dk, hh.cr, hh.ag, hwh, hz, hk8, nk6, rfl, hlim6, upd_same, ndl, md8', nm6, ld8.hpp, ld8.npp, (by rw [hh.e1]; exact ld8.h1), ld8.n1, (by rw [hh.e2]; exact ld8.h2), ld8.n2, fun HN aN AN pN qN WN stN => ⟨_, rfl, iteF ?_⟩⟩
            have ldN := ld8.stp stN
            have mdN := md8.stp nm6 stN
            have mdaN := mda8.stp npa6 stN
            have nmN : ¬ wown aN AN m := by
              obtain ⟨kvs, h, _⟩ := md8
              exact stN.not h nm6
            have npaN : ¬ wown aN AN pa := by
              obtain ⟨kvs, h, _⟩ := mda8
              exact stN.not h npa6
            rw [← pN, ← qN]
            rotate_left
            obtain ⟨aN, haN⟩ : ∃ x, x = a6 := ⟨_, rfl⟩
            subst haN
            obtain ⟨AN, hAN⟩ : ∃ x, x = A6 := ⟨_, rfl⟩
            subst hAN
            have WN := W7
            have ldN := ld7
            have mdN := md7
            have mdaN := mda7
            have nmN := nm6
            have npaN := npa6
            all_goals
              refine ⟨_, rfl, aN.p, _, _, rfl, WN.dk.ob, dF_no (by decide +kernel), aN, D6, rfl, WN.dk, ?_⟩
              obtain ⟨kp, hkp, ekp⟩ := and255 (c := c / 960) (by omega)
              refine ⟨_, rfl, _, _, rfl, rfl, ⟨by decide, by decide⟩, .inl ⟨_, rfl, _, _, rfl, rfl, ?_⟩⟩
              rw [show ((fun i j : Int => V.int (Builtin.bitAnd i j)) (c / 960) 255) = V.int (kp : Int) from congrArg V.int ekp]
              obtain ⟨kt, hkt, ekt⟩ := and255 (c := c / 245760) (by omega)
              refine ⟨_, rfl, aN.p, _, _, rfl, WN.dk.ob, dF_no (by decide +kernel), _, rfl, _, rfl, _, _, rfl, rfl, ⟨by decide, by decide⟩, .inl ⟨_, rfl, _, _, rfl, rfl, ?_⟩⟩
              refine ⟨aN, D6, kp, kt, by rw [← ekt]; rfl, WN.dk, fun cb => by have h1 := hh.dk.sz cb; have h2 := hh.dk.fz cb; omega, fun HC aC pC dC stC => ?_⟩
              have dnO : ∀ y, aN.own y → wown aN AN y := fun y h => .inl h
              have ldC := (ldN.down dnO).stp stC
              have mdC := (mdN.down dnO).stp (fun h => nmN (.inl h)) stC
              have mdaC := (mdaN.down dnO).stp (fun h => npaN (.inl h)) stC
              have nmC : ¬ aC.own m := by
                obtain ⟨kvs, h, _⟩ := mdN
                exact stC.not h fun h => nmN (.inl h)
              have npaC : ¬ aC.own pa := by
                obtain ⟨kvs, h, _⟩ := mdaN
                exact stC.not h fun h => npaN (.inl h)
              obtain ⟨bk, g, as, tl, lim, bb, rp, hg, l0, l1⟩ := hh.cs kp kt
              refine ⟨_, rfl, _, rfl, _, rfl, _, _, rfl, rfl, ⟨by decide, by decide⟩, ?_⟩
              refine ⟨u, aC, D6.crash kp kt, c / 62914560, sd, sc, bk, g, as, tl, by rw [pC]; rfl, ldC.hu, ldC.nu, dC, bb, fun HO aO AO DO D0 pO WO ecO bbO stO => ?_⟩
              have ldO := ldC.stp stO
              have mdO := mdC.stp nmC stO
              have mdaO := mdaC.stp npaC stO
              have nmO : ¬ wown aO AO m := by
                obtain ⟨kvs, h, _⟩ := mdC
                exact stO.not h nmC
              have npaO : ¬ wown aO AO pa := by
                obtain ⟨kvs, h, _⟩ := mdaC
                exact stO.not h npaC
              rw [← pC, ← pO]
              refine ⟨_, rfl, _, rfl, _, rfl, wh, z, rfl, hwh, hz, rfl, _, rfl, ?_⟩
              refine eq_int (fun h1 => ?_) (fun h1 => iteF ?_)
              · refine ⟨_, rfl, _, rfl, _, _, rfl, rfl, _, rfl, dec2 (fun h2 => ?_) (fun h2 => ?_)⟩
                · have IO : PInv DO _ (afterM M wh z (pubKey xs)) sd sc (i + 1) := opened_inv bbO ecO (lim := lim) (by rw [rp, if_pos ⟨by omega, by omega⟩]) (by omega) l0 (by omega) (afterM_ok I3.nm wh hz ⟨pub_len xs, pub_byt xs⟩) bsd bsc
                  refine ⟨_, rfl, ?_⟩
                  refine ⟨_, rfl, _, rfl, _, rfl, pp, _, 0, _, rfl, rfl, seq_at ldO.hpp, rfl, _, rfl, pp, _, 1, _, rfl, rfl, seq_at ldO.hpp, rfl, aO, AO, DO, _, pa, s1, s2, _, rfl, WO, (by rw [IO.eM]; exact mdaO), (by rw [IO.e1]; exact ldO.h1), (by rw [IO.e2]; exact ldO.h2), fun HZ eZ => ⟨_, rfl, iteF ?_⟩⟩
                  exact ⟨aO, AO, DO, _, _, pa, _, _, _, _, _, _, _, _, _, _, _, rfl, ⟨WO.same eZ, ldO.stp (Stp.of_same eZ), mdaO.same eZ, npaO, IO⟩⟩
                · have IO : PInv DO _ M sd sc (i + 1) := opened_inv bbO ecO (lim := lim) (by rw [rp, if_neg (fun h => h2 (by omega))]) (by omega) l0 (by omega) I3.nm bsd bsc
                  refine ⟨_, rfl, _, rfl, _, rfl, pp, _, 0, _, rfl, rfl, seq_at ldO.hpp, rfl, _, rfl, pp, _, 1, _, rfl, rfl, seq_at ldO.hpp, rfl, aO, AO, DO, _, m, s1, s2, _, rfl, WO, (by rw [IO.eM]; exact mdO), (by rw [IO.e1]; exact ldO.h1), (by rw [IO.e2]; exact ldO.h2), fun HZ eZ => ⟨_, rfl, iteF ?_⟩⟩
                  exact ⟨aO, AO, DO, _, _, m, _, _, _, _, _, _, _, _, _, _, _, rfl, ⟨WO.same eZ, ldO.stp (Stp.of_same eZ), mdO.same eZ, nmO, IO⟩⟩
              · have IO : PInv DO _ M sd sc (i + 1) := opened_inv bbO ecO (lim := lim) (by rw [rp, if_neg (fun h => h1 (by omega))]) (by omega) l0 (by omega) I3.nm bsd bsc
                refine ⟨_, rfl, _, rfl, _, rfl, pp, _, 0, _, rfl, rfl, seq_at ldO.hpp, rfl, _, rfl, pp, _, 1, _, rfl, rfl, seq_at ldO.hpp, rfl, aO, AO, DO, _, m, s1, s2, _, rfl, WO, (by rw [IO.eM]; exact mdO), (by rw [IO.e1]; exact ldO.h1), (by rw [IO.e2]; exact ldO.h2), fun HZ eZ => ⟨_, rfl, iteF ?_⟩⟩
                exact ⟨aO, AO, DO, _, _, m, _, _, _, _, _, _, _, _, _, _, _, rfl, ⟨WO.same eZ, ldO.stp (Stp.of_same eZ), mdO.same eZ, nmO, IO⟩⟩
      · rintro σ HF ⟨a, A, D, S, M, m, v4, v6, v9, v10, v11, v12, v13, v14, v15, v16, v17, rfl, lw⟩
        obtain ⟨W, ld, md, nmo, I⟩ := lw
        obtain ⟨as, b, rp⟩ := I.bk
        refine ⟨_, rfl, a.p, _, _, rfl, W.dk.ob, dF_no (by decide +kernel), a, D, 0, 0, rfl, W.dk, fun cb => ?_, fun HC aC pC dC stC => ?_⟩
        · have := b.sz cb
          rw [b.f0]
          show _ + 0 ≤ 1000000
          omega
        have dnO : ∀ y, a.own y → wown a A y := fun y h => .inl h
        have ldC := (ld.down dnO).stp stC
        have mdC := (md.down dnO).stp (fun h => nmo (.inl h)) stC
        have nmC : ¬ aC.own m := by
          obtain ⟨kvs, h, _⟩ := md
          exact stC.not h fun h => nmo (.inl h)
        refine ⟨_, rfl, _, rfl, fun x dx hx hdx hne => ?_⟩
        rw [← pC]
        refine open_go dC (b.crash0 0 0) ldC.hu ldC.nu hx hdx (fun HO aO AO DO D0 pO eO WO ecO bbO stO => ⟨rfl, ?_⟩) (fun ht => absurd rfl ht)
        rw [← eO]
        have ldO := ldC.stp stO
        have mdO := mdC.stp nmC stO
        have IO : PInv DO _ M sd sc _ := opened_inv bbO ecO (lim := S.limit) (by rw [rp, I.eM]) I.gb I.l0 I.lb I.nm bsd bsc
        exact ⟨_, rfl, _, rfl, pp, _, 0, _, rfl, rfl, seq_at ldO.hpp, rfl, _, rfl, pp, _, 1, _, rfl, rfl, seq_at ldO.hpp, rfl, aO, AO, DO, _, m, s1, s2, _, rfl, WO, (by rw [IO.eM]; exact mdO), (by rw [IO.e1]; exact ldO.h1), (by rw [IO.e2]; exact ldO.h2), fun HZ eZ => q HZ⟩
end
end Hush
set_option Elab.async false
set_option linter.all false
set_option maxRecDepth 100000
set_option maxHeartbeats 0
/-! The top's run, and the facts behind it. Printed by gen_head.py. -/
namespace Hush
open PySem PySem.Spec PyProof.Rows L2
def fa0 : List He.Fa := [.glo "HushError", .glo "PowerLost", .glo "Refused", .glo "Disk", .glo "SmallSuite", .glo "Store", .glo "to_little", .glo "to_big", .glo "from_big", .glo "from_little", .glo "byte_sum", .glo "write_record", .glo "record_end", .glo "read_records", .glo "is_name", .glo "name_bytes", .glo "bytes_name", .glo "small_power", .glo "small_exponent", .glo "check_key", .glo "begin_body", .glo "key_body", .glo "read_begin", .glo "read_key", .glo "bank_start", .glo "best_bank", .glo "prepare", .glo "_law_cell", .glo "_law_row", .glo "_law_names"]
def fa1 : List He.Fa := [.glo "_law_after", .glo "_law_call", .glo "_law_may", .glo "_law_needs", .glo "_law_size", .glo "_law_is_same", .glo "_law_again", .glo "_law_opened", .glo "_law_fill", .glo "law", .free "len", .free "range", .free "list", .free "reversed", .free "isinstance", .free "str", .free "ord", .free "min", .free "sorted", .free "tuple", .free "int", .free "abs", .int "LAST_KIND" 5, .int "BODY_SIZE" 65535, .int "HEAD_SIZE" 3, .int "TAIL_SIZE" 5, .int "CLOSING" 255, .int "SUM_MODULUS" 65521, .int "BANK_SIZE" 65536, .int "GROUP" 170141183460469231731687303715884105727]
def fa2 : List He.Fa := [.int "HALF_GROUP" 85070591730234615865843651857942052863, .int "BASE" 43, .int "SECRET_BITS" 124, .int "LAST_NUMBER" 18446744073709551615, .int "BEGIN" 1, .int "COMPLETE" 2, .int "RESERVE" 3, .int "KEEP" 4, .int "RELEASE" 5, .int "BLOCK" 16, .int "NAME_LIMIT" 64, .int "NAME_SIZE" 32, .str "SIGNS" "abcdefghijklmnopqrstuvwxyz0123456789-", .cls "Disk", .mkr "Disk", .noat "Disk" "_settled", .noat "Disk" "_fresh", .noat "Disk" "_armed", .noat "Disk" "_deeds", .noat "Disk" "_crashes", .cls "SmallSuite", .mkr "SmallSuite", .noat "SmallSuite" "name", .noat "SmallSuite" "key_size", .noat "SmallSuite" "tag_size", .noat "SmallSuite" "digest_size", .noat "SmallSuite" "block_size", .cls "Store", .mkr "Store", .noat "Store" "_suite"]
def fa3 : List He.Fa := [.noat "Store" "_disk", .noat "Store" "_bank", .noat "Store" "_crashes", .noat "Store" "_names", .noat "Store" "_limit", .noat "Store" "_generation", .noat "Store" "_seed", .noat "Store" "_secret", .noat "Store" "_next", .meth "Disk" "use_power", .meth "Disk" "write", .meth "Disk" "settle", .meth "Disk" "cut", .meth "Disk" "read", .meth "Disk" "pending", .meth "Disk" "arm", .meth "Disk" "has_power", .meth "Disk" "crash", .meth "Disk" "crashes", .meth "SmallSuite" "public", .meth "SmallSuite" "is_weak", .meth "Store" "take_record", .meth "Store" "check_time", .meth "Store" "keep_record", .meth "Store" "pack", .meth "Store" "seed", .meth "Store" "secret", .meth "Store" "next_number", .meth "Store" "check_name", .meth "Store" "keep_name"]
def fa4 : List He.Fa := [.meth "Store" "release", .meth "Store" "name_key", .meth "Store" "names", .meth "Store" "state", .exc "PowerLost", .exc "Refused", .exm "PowerLost" "PowerLost" true, .exm "Refused" "PowerLost" false, .exm "Refused" "HushError" true]
def fa : List He.Fa := fa0 ++ (fa1 ++ (fa2 ++ (fa3 ++ (fa4))))
def d_to_little : He.DefD := ⟨("to_little", none), "to_little", "to_little", defArgs s_to_little, defBody s_to_little, defScope s_to_little, [], []⟩
def d_to_big : He.DefD := ⟨("to_big", none), "to_big", "to_big", defArgs s_to_big, defBody s_to_big, defScope s_to_big, [], []⟩
def d_from_big : He.DefD := ⟨("from_big", none), "from_big", "from_big", defArgs s_from_big, defBody s_from_big, defScope s_from_big, [], []⟩
def d_from_little : He.DefD := ⟨("from_little", none), "from_little", "from_little", defArgs s_from_little, defBody s_from_little, defScope s_from_little, [], []⟩
def d_byte_sum : He.DefD := ⟨("byte_sum", none), "byte_sum", "byte_sum", defArgs s_byte_sum, defBody s_byte_sum, defScope s_byte_sum, [], []⟩
def d_write_record : He.DefD := ⟨("write_record", none), "write_record", "write_record", defArgs s_write_record, defBody s_write_record, defScope s_write_record, [], []⟩
def d_record_end : He.DefD := ⟨("record_end", none), "record_end", "record_end", defArgs s_record_end, defBody s_record_end, defScope s_record_end, [], []⟩
def d_read_records : He.DefD := ⟨("read_records", none), "read_records", "read_records", defArgs s_read_records, defBody s_read_records, defScope s_read_records, [], []⟩
def d_is_name : He.DefD := ⟨("is_name", none), "is_name", "is_name", defArgs s_is_name, defBody s_is_name, defScope s_is_name, [], []⟩
def d_name_bytes : He.DefD := ⟨("name_bytes", none), "name_bytes", "name_bytes", defArgs s_name_bytes, defBody s_name_bytes, defScope s_name_bytes, [], []⟩
def d_bytes_name : He.DefD := ⟨("bytes_name", none), "bytes_name", "bytes_name", defArgs s_bytes_name, defBody s_bytes_name, defScope s_bytes_name, [], []⟩
def d_Disk_init : He.DefD := ⟨("Disk", some "__init__"), "__init__", "Disk.__init__", defArgs s_Disk_init, defBody s_Disk_init, defScope s_Disk_init, [], []⟩
def d_Disk_use_power : He.DefD := ⟨("Disk", some "use_power"), "use_power", "Disk.use_power", defArgs s_Disk_use_power, defBody s_Disk_use_power, defScope s_Disk_use_power, [], []⟩
def d_Disk_write : He.DefD := ⟨("Disk", some "write"), "write", "Disk.write", defArgs s_Disk_write, defBody s_Disk_write, defScope s_Disk_write, [], []⟩
def d_Disk_settle : He.DefD := ⟨("Disk", some "settle"), "settle", "Disk.settle", defArgs s_Disk_settle, defBody s_Disk_settle, defScope s_Disk_settle, [], []⟩
def d_Disk_cut : He.DefD := ⟨("Disk", some "cut"), "cut", "Disk.cut", defArgs s_Disk_cut, defBody s_Disk_cut, defScope s_Disk_cut, [], []⟩
def d_Disk_read : He.DefD := ⟨("Disk", some "read"), "read", "Disk.read", defArgs s_Disk_read, defBody s_Disk_read, defScope s_Disk_read, [], []⟩
def d_Disk_pending : He.DefD := ⟨("Disk", some "pending"), "pending", "Disk.pending", defArgs s_Disk_pending, defBody s_Disk_pending, defScope s_Disk_pending, [], []⟩
def d_Disk_arm : He.DefD := ⟨("Disk", some "arm"), "arm", "Disk.arm", defArgs s_Disk_arm, defBody s_Disk_arm, defScope s_Disk_arm, [], []⟩
def d_Disk_has_power : He.DefD := ⟨("Disk", some "has_power"), "has_power", "Disk.has_power", defArgs s_Disk_has_power, defBody s_Disk_has_power, defScope s_Disk_has_power, [], []⟩
def d_Disk_crash : He.DefD := ⟨("Disk", some "crash"), "crash", "Disk.crash", defArgs s_Disk_crash, defBody s_Disk_crash, defScope s_Disk_crash, [], []⟩
def d_Disk_crashes : He.DefD := ⟨("Disk", some "crashes"), "crashes", "Disk.crashes", defArgs s_Disk_crashes, defBody s_Disk_crashes, defScope s_Disk_crashes, [], []⟩
def d_small_power : He.DefD := ⟨("small_power", none), "small_power", "small_power", defArgs s_small_power, defBody s_small_power, defScope s_small_power, [], []⟩
def d_small_exponent : He.DefD := ⟨("small_exponent", none), "small_exponent", "small_exponent", defArgs s_small_exponent, defBody s_small_exponent, defScope s_small_exponent, [], []⟩
def d_check_key : He.DefD := ⟨("check_key", none), "check_key", "check_key", defArgs s_check_key, defBody s_check_key, defScope s_check_key, [], []⟩
def d_SmallSuite_init : He.DefD := ⟨("SmallSuite", some "__init__"), "__init__", "SmallSuite.__init__", defArgs s_SmallSuite_init, defBody s_SmallSuite_init, defScope s_SmallSuite_init, [], []⟩
def d_SmallSuite_public : He.DefD := ⟨("SmallSuite", some "public"), "public", "SmallSuite.public", defArgs s_SmallSuite_public, defBody s_SmallSuite_public, defScope s_SmallSuite_public, [], []⟩
def d_SmallSuite_is_weak : He.DefD := ⟨("SmallSuite", some "is_weak"), "is_weak", "SmallSuite.is_weak", defArgs s_SmallSuite_is_weak, defBody s_SmallSuite_is_weak, defScope s_SmallSuite_is_weak, [], []⟩
def d_begin_body : He.DefD := ⟨("begin_body", none), "begin_body", "begin_body", defArgs s_begin_body, defBody s_begin_body, defScope s_begin_body, [], []⟩
def d_key_body : He.DefD := ⟨("key_body", none), "key_body", "key_body", defArgs s_key_body, defBody s_key_body, defScope s_key_body, [], []⟩
def d_read_begin : He.DefD := ⟨("read_begin", none), "read_begin", "read_begin", defArgs s_read_begin, defBody s_read_begin, defScope s_read_begin, [], []⟩
def d_read_key : He.DefD := ⟨("read_key", none), "read_key", "read_key", defArgs s_read_key, defBody s_read_key, defScope s_read_key, [], []⟩
def d_bank_start : He.DefD := ⟨("bank_start", none), "bank_start", "bank_start", defArgs s_bank_start, defBody s_bank_start, defScope s_bank_start, [], []⟩
def d_best_bank : He.DefD := ⟨("best_bank", none), "best_bank", "best_bank", defArgs s_best_bank, defBody s_best_bank, defScope s_best_bank, [], []⟩
def d_prepare : He.DefD := ⟨("prepare", none), "prepare", "prepare", defArgs s_prepare, defBody s_prepare, defScope s_prepare, [], []⟩
def d_Store_init : He.DefD := ⟨("Store", some "__init__"), "__init__", "Store.__init__", defArgs s_Store_init, defBody s_Store_init, defScope s_Store_init, [], []⟩
def d_Store_take_record : He.DefD := ⟨("Store", some "take_record"), "take_record", "Store.take_record", defArgs s_Store_take_record, defBody s_Store_take_record, defScope s_Store_take_record, [], []⟩
def d_Store_check_time : He.DefD := ⟨("Store", some "check_time"), "check_time", "Store.check_time", defArgs s_Store_check_time, defBody s_Store_check_time, defScope s_Store_check_time, [], []⟩
def d_Store_keep_record : He.DefD := ⟨("Store", some "keep_record"), "keep_record", "Store.keep_record", defArgs s_Store_keep_record, defBody s_Store_keep_record, defScope s_Store_keep_record, [], []⟩
def d_Store_pack : He.DefD := ⟨("Store", some "pack"), "pack", "Store.pack", defArgs s_Store_pack, defBody s_Store_pack, defScope s_Store_pack, [], []⟩
def d_Store_seed : He.DefD := ⟨("Store", some "seed"), "seed", "Store.seed", defArgs s_Store_seed, defBody s_Store_seed, defScope s_Store_seed, [], []⟩
def d_Store_secret : He.DefD := ⟨("Store", some "secret"), "secret", "Store.secret", defArgs s_Store_secret, defBody s_Store_secret, defScope s_Store_secret, [], []⟩
def d_Store_next_number : He.DefD := ⟨("Store", some "next_number"), "next_number", "Store.next_number", defArgs s_Store_next_number, defBody s_Store_next_number, defScope s_Store_next_number, [], []⟩
def d_Store_check_name : He.DefD := ⟨("Store", some "check_name"), "check_name", "Store.check_name", defArgs s_Store_check_name, defBody s_Store_check_name, defScope s_Store_check_name, [], []⟩
def d_Store_keep_name : He.DefD := ⟨("Store", some "keep_name"), "keep_name", "Store.keep_name", defArgs s_Store_keep_name, defBody s_Store_keep_name, defScope s_Store_keep_name, [], []⟩
def d_Store_release : He.DefD := ⟨("Store", some "release"), "release", "Store.release", defArgs s_Store_release, defBody s_Store_release, defScope s_Store_release, [], []⟩
def d_Store_name_key : He.DefD := ⟨("Store", some "name_key"), "name_key", "Store.name_key", defArgs s_Store_name_key, defBody s_Store_name_key, defScope s_Store_name_key, [], []⟩
def d_Store_names : He.DefD := ⟨("Store", some "names"), "names", "Store.names", defArgs s_Store_names, defBody s_Store_names, defScope s_Store_names, [], []⟩
def d_Store_state : He.DefD := ⟨("Store", some "state"), "state", "Store.state", defArgs s_Store_state, defBody s_Store_state, defScope s_Store_state, [], []⟩
def d_law_cell : He.DefD := ⟨("_law_cell", none), "_law_cell", "_law_cell", defArgs s_law_cell, defBody s_law_cell, defScope s_law_cell, [], []⟩
def d_law_row : He.DefD := ⟨("_law_row", none), "_law_row", "_law_row", defArgs s_law_row, defBody s_law_row, defScope s_law_row, [], []⟩
def d_law_names : He.DefD := ⟨("_law_names", none), "_law_names", "_law_names", defArgs s_law_names, defBody s_law_names, defScope s_law_names, [], []⟩
def d_law_after : He.DefD := ⟨("_law_after", none), "_law_after", "_law_after", defArgs s_law_after, defBody s_law_after, defScope s_law_after, [], []⟩
def d_law_call : He.DefD := ⟨("_law_call", none), "_law_call", "_law_call", defArgs s_law_call, defBody s_law_call, defScope s_law_call, [], []⟩
def d_law_may : He.DefD := ⟨("_law_may", none), "_law_may", "_law_may", defArgs s_law_may, defBody s_law_may, defScope s_law_may, [], []⟩
def d_law_needs : He.DefD := ⟨("_law_needs", none), "_law_needs", "_law_needs", defArgs s_law_needs, defBody s_law_needs, defScope s_law_needs, [], []⟩
def d_law_size : He.DefD := ⟨("_law_size", none), "_law_size", "_law_size", defArgs s_law_size, defBody s_law_size, defScope s_law_size, [], []⟩
def d_law_is_same : He.DefD := ⟨("_law_is_same", none), "_law_is_same", "_law_is_same", defArgs s_law_is_same, defBody s_law_is_same, defScope s_law_is_same, [], []⟩
def d_law_again : He.DefD := ⟨("_law_again", none), "_law_again", "_law_again", defArgs s_law_again, defBody s_law_again, defScope s_law_again, [], []⟩
def d_law_opened : He.DefD := ⟨("_law_opened", none), "_law_opened", "_law_opened", defArgs s_law_opened, defBody s_law_opened, defScope s_law_opened, [], []⟩
def d_law_fill : He.DefD := ⟨("_law_fill", none), "_law_fill", "_law_fill", defArgs s_law_fill, defBody s_law_fill, defScope s_law_fill, [], []⟩
def d_law : He.DefD := ⟨("law", none), "law", "law", defArgs s_law, defBody s_law, defScope s_law, [], []⟩
def fn : List He.DefD := [d_to_little, d_to_big, d_from_big, d_from_little, d_byte_sum, d_write_record, d_record_end, d_read_records, d_is_name, d_name_bytes, d_bytes_name, d_Disk_init, d_Disk_use_power, d_Disk_write, d_Disk_settle, d_Disk_cut, d_Disk_read, d_Disk_pending, d_Disk_arm, d_Disk_has_power, d_Disk_crash, d_Disk_crashes, d_small_power, d_small_exponent, d_check_key, d_SmallSuite_init, d_SmallSuite_public, d_SmallSuite_is_weak, d_begin_body, d_key_body, d_read_begin, d_read_key, d_bank_start, d_best_bank, d_prepare, d_Store_init, d_Store_take_record, d_Store_check_time, d_Store_keep_record, d_Store_pack, d_Store_seed, d_Store_secret, d_Store_next_number, d_Store_check_name, d_Store_keep_name, d_Store_release, d_Store_name_key, d_Store_names, d_Store_state, d_law_cell, d_law_row, d_law_names, d_law_after, d_law_call, d_law_may, d_law_needs, d_law_size, d_law_is_same, d_law_again, d_law_opened, d_law_fill, d_law]
def nm0 : List Str := ["_wall", "HushError", "OutOfRange", "Malformed", "Exhausted", "OutOfOrder", "Refused", "PowerLost", "to_little", "to_big", "from_big", "from_little", "cut", "SIGNS", "NAME_SIZE", "LAST_KIND", "BODY_SIZE", "HEAD_SIZE", "TAIL_SIZE", "CLOSING", "SUM_MODULUS", "byte_sum", "write_record", "record_end", "read_records", "is_name", "name_bytes", "bytes_name", "BANK_SIZE", "Disk"]
def nm1 : List Str := ["BLOCK_SIZE", "MESSAGE_LIMIT", "KEYED_LIMIT", "GROUP", "HALF_GROUP", "BASE", "MODULUS", "SECRET_BITS", "small_power", "small_exponent", "small_mix", "small_pair", "small_digest", "KEY_LIMIT", "LAST_NUMBER", "check_key", "check_keyed", "SmallSuite", "BEGIN", "COMPLETE", "RESERVE", "KEEP", "RELEASE", "BLOCK", "NAME_LIMIT", "LABEL", "begin_body", "key_body", "read_begin", "read_key"]
def nm2 : List Str := ["bank_start", "best_bank", "prepare", "Store", "_law_cell", "_law_row", "_law_names", "_law_after", "_law_call", "_law_may", "_law_needs", "_law_size", "_law_is_same", "_law_again", "_law_opened", "_law_fill"]
def names : List Str := nm0 ++ (nm1 ++ (nm2))
abbrev R : PySem.W.OpenRow := PySem.W.OpenLaw.row PySem.Challenge.rw_hushlink_k63_whole_store_survives_crashe
abbrev hk : PySem.W.Hook := He.hookD 4 fa fn
def ob (s : PySem.W.SharedT) : He.AlD := He.obsDG 4 fa fn (HandSHeadRun.getT s)
theorem ob_eq (s : PySem.W.SharedT) : ob s = hk.obs s.abs := He.obsDG_eq (HandSHeadRun.getT_eq s)
theorem run (w : World) : HandSHeadRun.RunEq R (PySem.W.view R.prog [84]) hk ob 8000 names w := by
  intro os
  kernel_rfl
theorem txt_of {K : PySem.W.Frag} {h : Heap} {mg : Str → Option Value} (X : K.In h) (G : h.Ns mainGlobals mg) (c : He.SaysD fa fn K) : Txt K mg where
  g_HushError := He.glo_ok X G (c.fact 0 (f := .glo "HushError") (by rfl))
  g_PowerLost := He.glo_ok X G (c.fact 1 (f := .glo "PowerLost") (by rfl))
  g_Refused := He.glo_ok X G (c.fact 2 (f := .glo "Refused") (by rfl))
  g_Disk := He.glo_ok X G (c.fact 3 (f := .glo "Disk") (by rfl))
  g_SmallSuite := He.glo_ok X G (c.fact 4 (f := .glo "SmallSuite") (by rfl))
  g_Store := He.glo_ok X G (c.fact 5 (f := .glo "Store") (by rfl))
  g_to_little := He.glo_ok X G (c.fact 6 (f := .glo "to_little") (by rfl))
  g_to_big := He.glo_ok X G (c.fact 7 (f := .glo "to_big") (by rfl))
  g_from_big := He.glo_ok X G (c.fact 8 (f := .glo "from_big") (by rfl))
  g_from_little := He.glo_ok X G (c.fact 9 (f := .glo "from_little") (by rfl))
  g_byte_sum := He.glo_ok X G (c.fact 10 (f := .glo "byte_sum") (by rfl))
  g_write_record := He.glo_ok X G (c.fact 11 (f := .glo "write_record") (by rfl))
  g_record_end := He.glo_ok X G (c.fact 12 (f := .glo "record_end") (by rfl))
  g_read_records := He.glo_ok X G (c.fact 13 (f := .glo "read_records") (by rfl))
  g_is_name := He.glo_ok X G (c.fact 14 (f := .glo "is_name") (by rfl))
  g_name_bytes := He.glo_ok X G (c.fact 15 (f := .glo "name_bytes") (by rfl))
  g_bytes_name := He.glo_ok X G (c.fact 16 (f := .glo "bytes_name") (by rfl))
  g_small_power := He.glo_ok X G (c.fact 17 (f := .glo "small_power") (by rfl))
  g_small_exponent := He.glo_ok X G (c.fact 18 (f := .glo "small_exponent") (by rfl))
  g_check_key := He.glo_ok X G (c.fact 19 (f := .glo "check_key") (by rfl))
  g_begin_body := He.glo_ok X G (c.fact 20 (f := .glo "begin_body") (by rfl))
  g_key_body := He.glo_ok X G (c.fact 21 (f := .glo "key_body") (by rfl))
  g_read_begin := He.glo_ok X G (c.fact 22 (f := .glo "read_begin") (by rfl))
  g_read_key := He.glo_ok X G (c.fact 23 (f := .glo "read_key") (by rfl))
  g_bank_start := He.glo_ok X G (c.fact 24 (f := .glo "bank_start") (by rfl))
  g_best_bank := He.glo_ok X G (c.fact 25 (f := .glo "best_bank") (by rfl))
  g_prepare := He.glo_ok X G (c.fact 26 (f := .glo "prepare") (by rfl))
  g_law_cell := He.glo_ok X G (c.fact 27 (f := .glo "_law_cell") (by rfl))
  g_law_row := He.glo_ok X G (c.fact 28 (f := .glo "_law_row") (by rfl))
  g_law_names := He.glo_ok X G (c.fact 29 (f := .glo "_law_names") (by rfl))
  g_law_after := He.glo_ok X G (c.fact 30 (f := .glo "_law_after") (by rfl))
  g_law_call := He.glo_ok X G (c.fact 31 (f := .glo "_law_call") (by rfl))
  g_law_may := He.glo_ok X G (c.fact 32 (f := .glo "_law_may") (by rfl))
  g_law_needs := He.glo_ok X G (c.fact 33 (f := .glo "_law_needs") (by rfl))
  g_law_size := He.glo_ok X G (c.fact 34 (f := .glo "_law_size") (by rfl))
  g_law_is_same := He.glo_ok X G (c.fact 35 (f := .glo "_law_is_same") (by rfl))
  g_law_again := He.glo_ok X G (c.fact 36 (f := .glo "_law_again") (by rfl))
  g_law_opened := He.glo_ok X G (c.fact 37 (f := .glo "_law_opened") (by rfl))
  g_law_fill := He.glo_ok X G (c.fact 38 (f := .glo "_law_fill") (by rfl))
  g_law := He.glo_ok X G (c.fact 39 (f := .glo "law") (by rfl))
  z_len := He.free_ok X G (c.fact 40 (f := .free "len") (by rfl))
  z_range := He.free_ok X G (c.fact 41 (f := .free "range") (by rfl))
  z_list := He.free_ok X G (c.fact 42 (f := .free "list") (by rfl))
  z_reversed := He.free_ok X G (c.fact 43 (f := .free "reversed") (by rfl))
  z_isinstance := He.free_ok X G (c.fact 44 (f := .free "isinstance") (by rfl))
  z_str := He.free_ok X G (c.fact 45 (f := .free "str") (by rfl))
  z_ord := He.free_ok X G (c.fact 46 (f := .free "ord") (by rfl))
  z_min := He.free_ok X G (c.fact 47 (f := .free "min") (by rfl))
  z_sorted := He.free_ok X G (c.fact 48 (f := .free "sorted") (by rfl))
  z_tuple := He.free_ok X G (c.fact 49 (f := .free "tuple") (by rfl))
  z_int := He.free_ok X G (c.fact 50 (f := .free "int") (by rfl))
  z_abs := He.free_ok X G (c.fact 51 (f := .free "abs") (by rfl))
  i_LAST_KIND := He.int_ok X G (c.fact 52 (f := .int "LAST_KIND" 5) (by rfl))
  i_BODY_SIZE := He.int_ok X G (c.fact 53 (f := .int "BODY_SIZE" 65535) (by rfl))
  i_HEAD_SIZE := He.int_ok X G (c.fact 54 (f := .int "HEAD_SIZE" 3) (by rfl))
  i_TAIL_SIZE := He.int_ok X G (c.fact 55 (f := .int "TAIL_SIZE" 5) (by rfl))
  i_CLOSING := He.int_ok X G (c.fact 56 (f := .int "CLOSING" 255) (by rfl))
  i_SUM_MODULUS := He.int_ok X G (c.fact 57 (f := .int "SUM_MODULUS" 65521) (by rfl))
  i_BANK_SIZE := He.int_ok X G (c.fact 58 (f := .int "BANK_SIZE" 65536) (by rfl))
  i_GROUP := He.int_ok X G (c.fact 59 (f := .int "GROUP" 170141183460469231731687303715884105727) (by rfl))
  i_HALF_GROUP := He.int_ok X G (c.fact 60 (f := .int "HALF_GROUP" 85070591730234615865843651857942052863) (by rfl))
  i_BASE := He.int_ok X G (c.fact 61 (f := .int "BASE" 43) (by rfl))
  i_SECRET_BITS := He.int_ok X G (c.fact 62 (f := .int "SECRET_BITS" 124) (by rfl))
  i_LAST_NUMBER := He.int_ok X G (c.fact 63 (f := .int "LAST_NUMBER" 18446744073709551615) (by rfl))
  i_BEGIN := He.int_ok X G (c.fact 64 (f := .int "BEGIN" 1) (by rfl))
  i_COMPLETE := He.int_ok X G (c.fact 65 (f := .int "COMPLETE" 2) (by rfl))
  i_RESERVE := He.int_ok X G (c.fact 66 (f := .int "RESERVE" 3) (by rfl))
  i_KEEP := He.int_ok X G (c.fact 67 (f := .int "KEEP" 4) (by rfl))
  i_RELEASE := He.int_ok X G (c.fact 68 (f := .int "RELEASE" 5) (by rfl))
  i_BLOCK := He.int_ok X G (c.fact 69 (f := .int "BLOCK" 16) (by rfl))
  i_NAME_LIMIT := He.int_ok X G (c.fact 70 (f := .int "NAME_LIMIT" 64) (by rfl))
  i_NAME_SIZE := He.int_ok X G (c.fact 71 (f := .int "NAME_SIZE" 32) (by rfl))
  s_SIGNS := He.str_ok X G (c.fact 72 (f := .str "SIGNS" "abcdefghijklmnopqrstuvwxyz0123456789-") (by rfl))
  c_Disk := He.cls_ok (c.fact 73 (f := .cls "Disk") (by rfl))
  k_Disk := He.mkr_ok (c.fact 74 (f := .mkr "Disk") (by rfl))
  n_Disk_settled := He.noat_ok (c.fact 75 (f := .noat "Disk" "_settled") (by rfl))
  n_Disk_fresh := He.noat_ok (c.fact 76 (f := .noat "Disk" "_fresh") (by rfl))
  n_Disk_armed := He.noat_ok (c.fact 77 (f := .noat "Disk" "_armed") (by rfl))
  n_Disk_deeds := He.noat_ok (c.fact 78 (f := .noat "Disk" "_deeds") (by rfl))
  n_Disk_crashes := He.noat_ok (c.fact 79 (f := .noat "Disk" "_crashes") (by rfl))
  c_SmallSuite := He.cls_ok (c.fact 80 (f := .cls "SmallSuite") (by rfl))
  k_SmallSuite := He.mkr_ok (c.fact 81 (f := .mkr "SmallSuite") (by rfl))
  n_SmallSuite_name := He.noat_ok (c.fact 82 (f := .noat "SmallSuite" "name") (by rfl))
  n_SmallSuite_key_size := He.noat_ok (c.fact 83 (f := .noat "SmallSuite" "key_size") (by rfl))
  n_SmallSuite_tag_size := He.noat_ok (c.fact 84 (f := .noat "SmallSuite" "tag_size") (by rfl))
  n_SmallSuite_digest_size := He.noat_ok (c.fact 85 (f := .noat "SmallSuite" "digest_size") (by rfl))
  n_SmallSuite_block_size := He.noat_ok (c.fact 86 (f := .noat "SmallSuite" "block_size") (by rfl))
  c_Store := He.cls_ok (c.fact 87 (f := .cls "Store") (by rfl))
  k_Store := He.mkr_ok (c.fact 88 (f := .mkr "Store") (by rfl))
  n_Store_suite := He.noat_ok (c.fact 89 (f := .noat "Store" "_suite") (by rfl))
  n_Store_disk := He.noat_ok (c.fact 90 (f := .noat "Store" "_disk") (by rfl))
  n_Store_bank := He.noat_ok (c.fact 91 (f := .noat "Store" "_bank") (by rfl))
  n_Store_crashes := He.noat_ok (c.fact 92 (f := .noat "Store" "_crashes") (by rfl))
  n_Store_names := He.noat_ok (c.fact 93 (f := .noat "Store" "_names") (by rfl))
  n_Store_limit := He.noat_ok (c.fact 94 (f := .noat "Store" "_limit") (by rfl))
  n_Store_generation := He.noat_ok (c.fact 95 (f := .noat "Store" "_generation") (by rfl))
  n_Store_seed := He.noat_ok (c.fact 96 (f := .noat "Store" "_seed") (by rfl))
  n_Store_secret := He.noat_ok (c.fact 97 (f := .noat "Store" "_secret") (by rfl))
  n_Store_next := He.noat_ok (c.fact 98 (f := .noat "Store" "_next") (by rfl))
  m_Disk_use_power := He.meth_ok (c.fact 99 (f := .meth "Disk" "use_power") (by rfl))
  m_Disk_write := He.meth_ok (c.fact 100 (f := .meth "Disk" "write") (by rfl))
  m_Disk_settle := He.meth_ok (c.fact 101 (f := .meth "Disk" "settle") (by rfl))
  m_Disk_cut := He.meth_ok (c.fact 102 (f := .meth "Disk" "cut") (by rfl))
  m_Disk_read := He.meth_ok (c.fact 103 (f := .meth "Disk" "read") (by rfl))
  m_Disk_pending := He.meth_ok (c.fact 104 (f := .meth "Disk" "pending") (by rfl))
  m_Disk_arm := He.meth_ok (c.fact 105 (f := .meth "Disk" "arm") (by rfl))
  m_Disk_has_power := He.meth_ok (c.fact 106 (f := .meth "Disk" "has_power") (by rfl))
  m_Disk_crash := He.meth_ok (c.fact 107 (f := .meth "Disk" "crash") (by rfl))
  m_Disk_crashes := He.meth_ok (c.fact 108 (f := .meth "Disk" "crashes") (by rfl))
  m_SmallSuite_public := He.meth_ok (c.fact 109 (f := .meth "SmallSuite" "public") (by rfl))
  m_SmallSuite_is_weak := He.meth_ok (c.fact 110 (f := .meth "SmallSuite" "is_weak") (by rfl))
  m_Store_take_record := He.meth_ok (c.fact 111 (f := .meth "Store" "take_record") (by rfl))
  m_Store_check_time := He.meth_ok (c.fact 112 (f := .meth "Store" "check_time") (by rfl))
  m_Store_keep_record := He.meth_ok (c.fact 113 (f := .meth "Store" "keep_record") (by rfl))
  m_Store_pack := He.meth_ok (c.fact 114 (f := .meth "Store" "pack") (by rfl))
  m_Store_seed := He.meth_ok (c.fact 115 (f := .meth "Store" "seed") (by rfl))
  m_Store_secret := He.meth_ok (c.fact 116 (f := .meth "Store" "secret") (by rfl))
  m_Store_next_number := He.meth_ok (c.fact 117 (f := .meth "Store" "next_number") (by rfl))
  m_Store_check_name := He.meth_ok (c.fact 118 (f := .meth "Store" "check_name") (by rfl))
  m_Store_keep_name := He.meth_ok (c.fact 119 (f := .meth "Store" "keep_name") (by rfl))
  m_Store_release := He.meth_ok (c.fact 120 (f := .meth "Store" "release") (by rfl))
  m_Store_name_key := He.meth_ok (c.fact 121 (f := .meth "Store" "name_key") (by rfl))
  m_Store_names := He.meth_ok (c.fact 122 (f := .meth "Store" "names") (by rfl))
  m_Store_state := He.meth_ok (c.fact 123 (f := .meth "Store" "state") (by rfl))
  x_PowerLost := He.exc_ok (c.fact 124 (f := .exc "PowerLost") (by rfl))
  x_Refused := He.exc_ok (c.fact 125 (f := .exc "Refused") (by rfl))
  e_PowerLost_PowerLost := He.exm_ok (c.fact 126 (f := .exm "PowerLost" "PowerLost" true) (by rfl))
  e_Refused_PowerLost := He.exm_ok (c.fact 127 (f := .exm "Refused" "PowerLost" false) (by rfl))
  e_Refused_HushError := He.exm_ok (c.fact 128 (f := .exm "Refused" "HushError" true) (by rfl))
  F_to_little := defAt_of rfl (c.def_ 0 (d := d_to_little) (by rfl))
  F_to_big := defAt_of rfl (c.def_ 1 (d := d_to_big) (by rfl))
  F_from_big := defAt_of rfl (c.def_ 2 (d := d_from_big) (by rfl))
  F_from_little := defAt_of rfl (c.def_ 3 (d := d_from_little) (by rfl))
  F_byte_sum := defAt_of rfl (c.def_ 4 (d := d_byte_sum) (by rfl))
  F_write_record := defAt_of rfl (c.def_ 5 (d := d_write_record) (by rfl))
  F_record_end := defAt_of rfl (c.def_ 6 (d := d_record_end) (by rfl))
  F_read_records := defAt_of rfl (c.def_ 7 (d := d_read_records) (by rfl))
  F_is_name := defAt_of rfl (c.def_ 8 (d := d_is_name) (by rfl))
  F_name_bytes := defAt_of rfl (c.def_ 9 (d := d_name_bytes) (by rfl))
  F_bytes_name := defAt_of rfl (c.def_ 10 (d := d_bytes_name) (by rfl))
  F_Disk_init := defAt_of rfl (c.def_ 11 (d := d_Disk_init) (by rfl))
  F_Disk_use_power := defAt_of rfl (c.def_ 12 (d := d_Disk_use_power) (by rfl))
  F_Disk_write := defAt_of rfl (c.def_ 13 (d := d_Disk_write) (by rfl))
  F_Disk_settle := defAt_of rfl (c.def_ 14 (d := d_Disk_settle) (by rfl))
  F_Disk_cut := defAt_of rfl (c.def_ 15 (d := d_Disk_cut) (by rfl))
  F_Disk_read := defAt_of rfl (c.def_ 16 (d := d_Disk_read) (by rfl))
  F_Disk_pending := defAt_of rfl (c.def_ 17 (d := d_Disk_pending) (by rfl))
  F_Disk_arm := defAt_of rfl (c.def_ 18 (d := d_Disk_arm) (by rfl))
  F_Disk_has_power := defAt_of rfl (c.def_ 19 (d := d_Disk_has_power) (by rfl))
  F_Disk_crash := defAt_of rfl (c.def_ 20 (d := d_Disk_crash) (by rfl))
  F_Disk_crashes := defAt_of rfl (c.def_ 21 (d := d_Disk_crashes) (by rfl))
  F_small_power := defAt_of rfl (c.def_ 22 (d := d_small_power) (by rfl))
  F_small_exponent := defAt_of rfl (c.def_ 23 (d := d_small_exponent) (by rfl))
  F_check_key := defAt_of rfl (c.def_ 24 (d := d_check_key) (by rfl))
  F_SmallSuite_init := defAt_of rfl (c.def_ 25 (d := d_SmallSuite_init) (by rfl))
  F_SmallSuite_public := defAt_of rfl (c.def_ 26 (d := d_SmallSuite_public) (by rfl))
  F_SmallSuite_is_weak := defAt_of rfl (c.def_ 27 (d := d_SmallSuite_is_weak) (by rfl))
  F_begin_body := defAt_of rfl (c.def_ 28 (d := d_begin_body) (by rfl))
  F_key_body := defAt_of rfl (c.def_ 29 (d := d_key_body) (by rfl))
  F_read_begin := defAt_of rfl (c.def_ 30 (d := d_read_begin) (by rfl))
  F_read_key := defAt_of rfl (c.def_ 31 (d := d_read_key) (by rfl))
  F_bank_start := defAt_of rfl (c.def_ 32 (d := d_bank_start) (by rfl))
  F_best_bank := defAt_of rfl (c.def_ 33 (d := d_best_bank) (by rfl))
  F_prepare := defAt_of rfl (c.def_ 34 (d := d_prepare) (by rfl))
  F_Store_init := defAt_of rfl (c.def_ 35 (d := d_Store_init) (by rfl))
  F_Store_take_record := defAt_of rfl (c.def_ 36 (d := d_Store_take_record) (by rfl))
  F_Store_check_time := defAt_of rfl (c.def_ 37 (d := d_Store_check_time) (by rfl))
  F_Store_keep_record := defAt_of rfl (c.def_ 38 (d := d_Store_keep_record) (by rfl))
  F_Store_pack := defAt_of rfl (c.def_ 39 (d := d_Store_pack) (by rfl))
  F_Store_seed := defAt_of rfl (c.def_ 40 (d := d_Store_seed) (by rfl))
  F_Store_secret := defAt_of rfl (c.def_ 41 (d := d_Store_secret) (by rfl))
  F_Store_next_number := defAt_of rfl (c.def_ 42 (d := d_Store_next_number) (by rfl))
  F_Store_check_name := defAt_of rfl (c.def_ 43 (d := d_Store_check_name) (by rfl))
  F_Store_keep_name := defAt_of rfl (c.def_ 44 (d := d_Store_keep_name) (by rfl))
  F_Store_release := defAt_of rfl (c.def_ 45 (d := d_Store_release) (by rfl))
  F_Store_name_key := defAt_of rfl (c.def_ 46 (d := d_Store_name_key) (by rfl))
  F_Store_names := defAt_of rfl (c.def_ 47 (d := d_Store_names) (by rfl))
  F_Store_state := defAt_of rfl (c.def_ 48 (d := d_Store_state) (by rfl))
  F_law_cell := defAt_of rfl (c.def_ 49 (d := d_law_cell) (by rfl))
  F_law_row := defAt_of rfl (c.def_ 50 (d := d_law_row) (by rfl))
  F_law_names := defAt_of rfl (c.def_ 51 (d := d_law_names) (by rfl))
  F_law_after := defAt_of rfl (c.def_ 52 (d := d_law_after) (by rfl))
  F_law_call := defAt_of rfl (c.def_ 53 (d := d_law_call) (by rfl))
  F_law_may := defAt_of rfl (c.def_ 54 (d := d_law_may) (by rfl))
  F_law_needs := defAt_of rfl (c.def_ 55 (d := d_law_needs) (by rfl))
  F_law_size := defAt_of rfl (c.def_ 56 (d := d_law_size) (by rfl))
  F_law_is_same := defAt_of rfl (c.def_ 57 (d := d_law_is_same) (by rfl))
  F_law_again := defAt_of rfl (c.def_ 58 (d := d_law_again) (by rfl))
  F_law_opened := defAt_of rfl (c.def_ 59 (d := d_law_opened) (by rfl))
  F_law_fill := defAt_of rfl (c.def_ 60 (d := d_law_fill) (by rfl))
  F_law := defAt_of rfl (c.def_ 61 (d := d_law) (by rfl))
end Hush
set_option Elab.async false
set_option linter.all false
set_option maxRecDepth 100000
set_option maxHeartbeats 0
namespace Hush
open PySem PySem.Spec PyProof.Rows L2
/-- a def that raises nothing, whatever exceptions there are -/
theorem fn_calm {P : Program} {w : World} {K : PySem.W.Frag} {mg : Str → Option Value} {base : Heap} {k : Nat} {f : Addr} {fd : FuncData} {ps : List Str} {sp : Sp} (F : FnOk P w K mg base (L2N.CX P w) k f fd ps sp) (h : ∀ vs H Q E, sp vs H Q E → sp vs H Q E0) : FnOk P w K mg base CX0 k f fd ps sp := by
  refine ⟨F.len, fun A outer s H args us vs Q E hr e0 hb r q => codeAny_mono (F.run A outer s H args us vs Q E0 hr e0 hb r (h vs H Q E q)) fun r s' hq => ?_⟩
  cases r with
  | ok fl => cases fl <;> exact hq
  | error e =>
    obtain ⟨_, _, _, _, _, _, _, _, _, _, _, _, z⟩ := hq
    exact z.elim
theorem facts {P : Program} {w : World} {K : PySem.W.Frag} {h : Heap} {mg : Str → Option Value} {f : Addr} (X : K.In h) (G : h.Ns mainGlobals mg) (hfa : mg ("law" : Str) = some (.ref f)) (c : He.SaysD fa fn K) :
    ∃ fd : FuncData, (∀ (s : Shared) (v : Value), BindsTo s fd ⟨[v], []⟩ [("_law_script", v)]) ∧ ∀ base : Heap, K.In base → base.Ns mainGlobals mg → FnOk P w K mg base CX0 14 f fd ["_law_script"] (spLaw K) := by
  have T := txt_of X G c
  have e := hfa.symm.trans T.g_law
  cases e
  have b := FunD.bindsA (ps := ["_law_script"]) T.F_law fun _ _ _ _ _ _ us hl => match us, hl with | [_], _ => rfl
  exact ⟨_, fun s v => b s [v] rfl, fun base _ _ => fn_calm (ok_law T).ok fun vs H Q E q => q⟩
end Hush
open PySem PySem.W PySem.Calls PyProof.Rows
theorem PySem.Challenge.cw_hushlink_k63_whole_store_survives_crashe_holds : PySem.Challenge.rw_hushlink_k63_whole_store_survives_crashe.Holds := by
  w_on; o_law
  refine HandSHeadRun.head_any (r := Hush.R) (q := view Hush.R.prog [84]) (H := Hush.hk) (ob := Hush.ob) (M := 8000) (loose := Hush.names) (d := HandSHeadRun.topDef Hush.R.prog 84) (kwd := []) Hush.ob_eq
    (by kernel_rfl) (fun s => by kernel_rfl) Hush.run (by kernel_rfl) (by kernel_rfl) (by kernel_rfl) (by rfl) (by first | assumption | decide +kernel) (by decide +kernel) ⟨rfl, rfl, rfl, rfl, rfl, by decide +kernel⟩ ?hw ?hc
  case hw => w_witness2
  case hc =>
    refine L2.walk_ofE (l := PySem.Challenge.rw_hushlink_k63_whole_store_survives_crashe) (n := 63) (k := 14) (x := "_law_script") (CX := L2.CX0) rfl (by decide) (by kernel_rfl) ⟨rfl, by decide, by decide⟩ ?F (fun _ _ _ _ z => z)
    intro w mg fa h Y G hmg0
    obtain ⟨K, KX, c⟩ := Y
    have hmg : mg ("law" : PySem.Str) = some (.ref fa) := by
      have e : (HandSHeadRun.topDef Hush.R.prog 84).name = ("law" : PySem.Str) := by kernel_rfl
      rw [← e]
      exact hmg0
    obtain ⟨fd, hb, hF⟩ := Hush.facts (P := (PySem.Challenge.rw_hushlink_k63_whole_store_survives_crashe).prog) (w := w) KX G hmg c
    exact ⟨K, fd, Hush.spLaw K, KX, hb, fun H a ns hl _ hS => ⟨a, ns, rfl, hS, hl, fun _ => rfl⟩, hF⟩
