import PyProof.Rows.All
import Wide.All
import OpenK.AllK
import Wide.FinOn
import PyProof.EqAt
import PyProof.EqKinds
import PyProof.TupleCall
import HandS.ForMost
import HandS.IsInst
import HandS.Evl
import HandS.Codes
import HandS.SortRule
import HandS.More
import HandS.SetFor
import HandS.SortInts
import HandS.SortKw
import HandS.Strs
import HandS.Conv
import KE.DataMinMax
import HandS.Deep
import KE.DataFind
import HandS.ForExc
import HandS.ExcIs
import HandS.ExcOwn
import HandS.Lambda
import HandS.EndTab
import HandS.WordsExc
import PySem.Challenge.RW_twopaths_k03_receivers_by_deeds
set_option Elab.async false
set_option linter.all false
set_option maxRecDepth 100000
set_option maxHeartbeats 2000000
namespace Tp
open PySem L2
def top (i : Nat) : Stmt := PySem.Challenge.pw_twopaths_k03_receivers_by_deeds.main.body.getD i (.Pass ⟨0, 0, 0, 0⟩)
abbrev s_BadRoads_init : Stmt := inClass (top 2) 0
abbrev N_BadRoads_init : List Str := ["self", "number"]
abbrev P_BadRoads_init : List Str := ["self", "number"]
abbrev s_BadReceiver_init : Stmt := inClass (top 3) 0
abbrev N_BadReceiver_init : List Str := ["self", "word"]
abbrev P_BadReceiver_init : List Str := ["self", "word"]
abbrev s_BadRows_init : Stmt := inClass (top 4) 0
abbrev N_BadRows_init : List Str := ["self", "road", "at"]
abbrev P_BadRows_init : List Str := ["self", "road", "at"]
abbrev s_BadText_init : Stmt := inClass (top 6) 0
abbrev N_BadText_init : List Str := ["self", "row", "at"]
abbrev P_BadText_init : List Str := ["self", "row", "at"]
abbrev s_need_receiver : Stmt := top 10
abbrev N_need_receiver : List Str := ["receiver", "marks", "ahead", "wait"]
abbrev P_need_receiver : List Str := ["receiver"]
abbrev s_Merger_init : Stmt := inClass (top 12) 0
abbrev N_Merger_init : List Str := ["self", "receiver"]
abbrev P_Merger_init : List Str := ["self", "receiver"]
abbrev s_Merger_come : Stmt := inClass (top 12) 1
abbrev N_Merger_come : List Str := ["self", "mark", "thing", "far"]
abbrev P_Merger_come : List Str := ["self", "mark", "thing"]
abbrev s_Merger_go_out : Stmt := inClass (top 12) 2
abbrev N_Merger_go_out : List Str := ["self", "found"]
abbrev P_Merger_go_out : List Str := ["self"]
abbrev s_Merger_close : Stmt := inClass (top 12) 3
abbrev N_Merger_close : List Str := ["self", "found", "number"]
abbrev P_Merger_close : List Str := ["self"]
abbrev s_Merger_is_wanted : Stmt := inClass (top 12) 4
abbrev N_Merger_is_wanted : List Str := ["self", "number", "one"]
abbrev P_Merger_is_wanted : List Str := ["self", "number"]
abbrev s_Merger_waits : Stmt := inClass (top 12) 5
abbrev N_Merger_waits : List Str := ["self"]
abbrev P_Merger_waits : List Str := ["self"]
abbrev s_Merger_dropped : Stmt := inClass (top 12) 6
abbrev N_Merger_dropped : List Str := ["self"]
abbrev P_Merger_dropped : List Str := ["self"]
abbrev s_Ltaken : Stmt := top 14
abbrev N_Ltaken : List Str := ["_law_row", "_law_many", "_law_cell"]
abbrev P_Ltaken : List Str := ["_law_row", "_law_many"]
abbrev s_Lalike : Stmt := top 15
abbrev N_Lalike : List Str := ["_law_found", "_law_due", "_law_k"]
abbrev P_Lalike : List Str := ["_law_found", "_law_due"]
abbrev s_Lroads : Stmt := top 16
abbrev N_Lroads : List Str := ["_law_row", "_law_found", "_law_road", "_law_least"]
abbrev P_Lroads : List Str := ["_law_row"]
abbrev s_Lspread : Stmt := top 17
abbrev N_Lspread : List Str := ["_law_roads_here", "_law_some"]
abbrev P_Lspread : List Str := ["_law_roads_here"]
abbrev s_Lreceiver : Stmt := top 18
abbrev N_Lreceiver : List Str := ["_law_row", "_law_roads_here", "_law_far", "_law_marks", "_law_ahead"]
abbrev P_Lreceiver : List Str := ["_law_row", "_law_roads_here"]
abbrev s_Lfresh : Stmt := top 19
abbrev N_Lfresh : List Str := ["_law_receiver_here", "_law_s"]
abbrev P_Lfresh : List Str := ["_law_receiver_here"]
abbrev s_Lgoes : Stmt := top 20
abbrev N_Lgoes : List Str := ["_law_s", "_law_found", "_law_some", "_law_one"]
abbrev P_Lgoes : List Str := ["_law_s"]
abbrev s_Lcome : Stmt := top 21
abbrev N_Lcome : List Str := ["_law_s", "_law_mark", "_law_thing", "_law_marks", "_law_ahead", "_law_wait", "_law_number", "_law_k", "_law_one"]
abbrev P_Lcome : List Str := ["_law_s", "_law_mark", "_law_thing"]
abbrev s_Lclose : Stmt := top 22
abbrev N_Lclose : List Str := ["_law_s", "_law_long", "_law_last", "_law_some", "_law_one"]
abbrev P_Lclose : List Str := ["_law_s"]
abbrev s_Lword : Stmt := top 23
abbrev N_Lword : List Str := ["_law_work", "e", "_law_kinds"]
abbrev P_Lword : List Str := ["_law_work"]
abbrev s_Ldeed : Stmt := top 24
abbrev N_Ldeed : List Str := ["_law_row", "_law_merger", "_law_s", "_law_marks", "_law_way", "_law_odd", "_law_found", "_law_due", "_law_far", "_law_mark", "_law_thing"]
abbrev P_Ldeed : List Str := ["_law_row", "_law_merger", "_law_s"]
abbrev s_law : Stmt := top 25
abbrev N_law : List Str := ["_law_script", "_law_row", "_law_some", "_law_k", "_law_receiver_here", "_law_turn", "_law_merger", "_law_s", "_law_one", "_law_here", "_law_waits", "_law_held"]
abbrev P_law : List Str := ["_law_script"]
/-- where the top has put what the proofs name -/
structure Txt (K : PySem.W.Frag) (mg : Str → Option Value) where
  f_need_receiver : Addr
  fd_need_receiver : FuncData
  F_need_receiver : Fun K "need_receiver" "need_receiver" s_need_receiver f_need_receiver fd_need_receiver
  mg_need_receiver : mg "need_receiver" = some (.ref f_need_receiver)
  kp_need_receiver : PySem.W.keepIn K (.ref f_need_receiver) = true
  b_need_receiver : Binds K fd_need_receiver P_need_receiver []
  f_Ltaken : Addr
  fd_Ltaken : FuncData
  F_Ltaken : Fun K "_law_taken" "_law_taken" s_Ltaken f_Ltaken fd_Ltaken
  mg_Ltaken : mg "_law_taken" = some (.ref f_Ltaken)
  kp_Ltaken : PySem.W.keepIn K (.ref f_Ltaken) = true
  b_Ltaken : Binds K fd_Ltaken P_Ltaken []
  f_Lalike : Addr
  fd_Lalike : FuncData
  F_Lalike : Fun K "_law_alike" "_law_alike" s_Lalike f_Lalike fd_Lalike
  mg_Lalike : mg "_law_alike" = some (.ref f_Lalike)
  kp_Lalike : PySem.W.keepIn K (.ref f_Lalike) = true
  b_Lalike : Binds K fd_Lalike P_Lalike []
  f_Lroads : Addr
  fd_Lroads : FuncData
  F_Lroads : Fun K "_law_roads" "_law_roads" s_Lroads f_Lroads fd_Lroads
  mg_Lroads : mg "_law_roads" = some (.ref f_Lroads)
  kp_Lroads : PySem.W.keepIn K (.ref f_Lroads) = true
  b_Lroads : Binds K fd_Lroads P_Lroads []
  f_Lspread : Addr
  fd_Lspread : FuncData
  F_Lspread : Fun K "_law_spread" "_law_spread" s_Lspread f_Lspread fd_Lspread
  mg_Lspread : mg "_law_spread" = some (.ref f_Lspread)
  kp_Lspread : PySem.W.keepIn K (.ref f_Lspread) = true
  b_Lspread : Binds K fd_Lspread P_Lspread []
  f_Lreceiver : Addr
  fd_Lreceiver : FuncData
  F_Lreceiver : Fun K "_law_receiver" "_law_receiver" s_Lreceiver f_Lreceiver fd_Lreceiver
  mg_Lreceiver : mg "_law_receiver" = some (.ref f_Lreceiver)
  kp_Lreceiver : PySem.W.keepIn K (.ref f_Lreceiver) = true
  b_Lreceiver : Binds K fd_Lreceiver P_Lreceiver []
  f_Lfresh : Addr
  fd_Lfresh : FuncData
  F_Lfresh : Fun K "_law_fresh" "_law_fresh" s_Lfresh f_Lfresh fd_Lfresh
  mg_Lfresh : mg "_law_fresh" = some (.ref f_Lfresh)
  kp_Lfresh : PySem.W.keepIn K (.ref f_Lfresh) = true
  b_Lfresh : Binds K fd_Lfresh P_Lfresh []
  f_Lgoes : Addr
  fd_Lgoes : FuncData
  F_Lgoes : Fun K "_law_goes" "_law_goes" s_Lgoes f_Lgoes fd_Lgoes
  mg_Lgoes : mg "_law_goes" = some (.ref f_Lgoes)
  kp_Lgoes : PySem.W.keepIn K (.ref f_Lgoes) = true
  b_Lgoes : Binds K fd_Lgoes P_Lgoes []
  f_Lcome : Addr
  fd_Lcome : FuncData
  F_Lcome : Fun K "_law_come" "_law_come" s_Lcome f_Lcome fd_Lcome
  mg_Lcome : mg "_law_come" = some (.ref f_Lcome)
  kp_Lcome : PySem.W.keepIn K (.ref f_Lcome) = true
  b_Lcome : Binds K fd_Lcome P_Lcome []
  f_Lclose : Addr
  fd_Lclose : FuncData
  F_Lclose : Fun K "_law_close" "_law_close" s_Lclose f_Lclose fd_Lclose
  mg_Lclose : mg "_law_close" = some (.ref f_Lclose)
  kp_Lclose : PySem.W.keepIn K (.ref f_Lclose) = true
  b_Lclose : Binds K fd_Lclose P_Lclose []
  f_Lword : Addr
  fd_Lword : FuncData
  F_Lword : Fun K "_law_word" "_law_word" s_Lword f_Lword fd_Lword
  mg_Lword : mg "_law_word" = some (.ref f_Lword)
  kp_Lword : PySem.W.keepIn K (.ref f_Lword) = true
  b_Lword : Binds K fd_Lword P_Lword []
  f_Ldeed : Addr
  fd_Ldeed : FuncData
  F_Ldeed : Fun K "_law_deed" "_law_deed" s_Ldeed f_Ldeed fd_Ldeed
  mg_Ldeed : mg "_law_deed" = some (.ref f_Ldeed)
  kp_Ldeed : PySem.W.keepIn K (.ref f_Ldeed) = true
  b_Ldeed : Binds K fd_Ldeed P_Ldeed []
  f_law : Addr
  fd_law : FuncData
  F_law : Fun K "law" "law" s_law f_law fd_law
  mg_law : mg "law" = some (.ref f_law)
  kp_law : PySem.W.keepIn K (.ref f_law) = true
  b_law : Binds K fd_law P_law []
  C_Merger : Addr
  cl_Merger : Cls K C_Merger
  mg_Merger : mg "Merger" = some (.ref C_Merger)
  f_Merger_init : Addr
  fd_Merger_init : FuncData
  F_Merger_init : Fun K "__init__" "Merger.__init__" s_Merger_init f_Merger_init fd_Merger_init
  b_Merger_init : Binds K fd_Merger_init P_Merger_init []
  mk_Merger : Mk K C_Merger f_Merger_init
  f_Merger_come : Addr
  fd_Merger_come : FuncData
  F_Merger_come : Fun K "come" "Merger.come" s_Merger_come f_Merger_come fd_Merger_come
  b_Merger_come : Binds K fd_Merger_come P_Merger_come []
  m_Merger_come : Meth K C_Merger "come" f_Merger_come
  f_Merger_go_out : Addr
  fd_Merger_go_out : FuncData
  F_Merger_go_out : Fun K "go_out" "Merger.go_out" s_Merger_go_out f_Merger_go_out fd_Merger_go_out
  b_Merger_go_out : Binds K fd_Merger_go_out P_Merger_go_out []
  m_Merger_go_out : Meth K C_Merger "go_out" f_Merger_go_out
  f_Merger_close : Addr
  fd_Merger_close : FuncData
  F_Merger_close : Fun K "close" "Merger.close" s_Merger_close f_Merger_close fd_Merger_close
  b_Merger_close : Binds K fd_Merger_close P_Merger_close []
  m_Merger_close : Meth K C_Merger "close" f_Merger_close
  f_Merger_is_wanted : Addr
  fd_Merger_is_wanted : FuncData
  F_Merger_is_wanted : Fun K "is_wanted" "Merger.is_wanted" s_Merger_is_wanted f_Merger_is_wanted fd_Merger_is_wanted
  b_Merger_is_wanted : Binds K fd_Merger_is_wanted P_Merger_is_wanted []
  m_Merger_is_wanted : Meth K C_Merger "is_wanted" f_Merger_is_wanted
  f_Merger_waits : Addr
  fd_Merger_waits : FuncData
  F_Merger_waits : Fun K "waits" "Merger.waits" s_Merger_waits f_Merger_waits fd_Merger_waits
  b_Merger_waits : Binds K fd_Merger_waits P_Merger_waits []
  m_Merger_waits : Meth K C_Merger "waits" f_Merger_waits
  f_Merger_dropped : Addr
  fd_Merger_dropped : FuncData
  F_Merger_dropped : Fun K "dropped" "Merger.dropped" s_Merger_dropped f_Merger_dropped fd_Merger_dropped
  b_Merger_dropped : Binds K fd_Merger_dropped P_Merger_dropped []
  m_Merger_dropped : Meth K C_Merger "dropped" f_Merger_dropped
  n_following : NoAttr K C_Merger "following"
  n_held : NoAttr K C_Merger "held"
  n_clock : NoAttr K C_Merger "clock"
  n_old : NoAttr K C_Merger "old"
  n_marks : NoAttr K C_Merger "marks"
  n_ahead : NoAttr K C_Merger "ahead"
  n_wait : NoAttr K C_Merger "wait"
  u_MOST_MARKS : Value
  mg_MOST_MARKS : mg "MOST_MARKS" = some u_MOST_MARKS
  rv_MOST_MARKS : RelV (.int 32) u_MOST_MARKS
  u_MOST_WAIT : Value
  mg_MOST_WAIT : mg "MOST_WAIT" = some u_MOST_WAIT
  rv_MOST_WAIT : RelV (.int 20) u_MOST_WAIT
  z_ValueError : mg "ValueError" = none
  z_bool : mg "bool" = none
  z_int : mg "int" = none
  z_isinstance : mg "isinstance" = none
  z_len : mg "len" = none
  z_list : mg "list" = none
  z_max : mg "max" = none
  z_min : mg "min" = none
  z_range : mg "range" = none
  z_sorted : mg "sorted" = none
  z_str : mg "str" = none
  z_tuple : mg "tuple" = none
  C_RoadError : Addr
  mg_RoadError : mg "RoadError" = some (.ref C_RoadError)
  kp_RoadError : PySem.W.keepIn K (.ref C_RoadError) = true
  ex_RoadError : PySem.W.subIn K (.ref C_RoadError) (.type "BaseException") = some true
  ty_RoadError : PySem.W.typeIn K (.ref C_RoadError) = some (.type "type")
  hd_RoadError : PySem.W.hasDictIn K C_RoadError = true
  C_BadRoads : Addr
  mg_BadRoads : mg "BadRoads" = some (.ref C_BadRoads)
  kp_BadRoads : PySem.W.keepIn K (.ref C_BadRoads) = true
  ex_BadRoads : PySem.W.subIn K (.ref C_BadRoads) (.type "BaseException") = some true
  ty_BadRoads : PySem.W.typeIn K (.ref C_BadRoads) = some (.type "type")
  hd_BadRoads : PySem.W.hasDictIn K C_BadRoads = true
  C_BadReceiver : Addr
  mg_BadReceiver : mg "BadReceiver" = some (.ref C_BadReceiver)
  kp_BadReceiver : PySem.W.keepIn K (.ref C_BadReceiver) = true
  ex_BadReceiver : PySem.W.subIn K (.ref C_BadReceiver) (.type "BaseException") = some true
  ty_BadReceiver : PySem.W.typeIn K (.ref C_BadReceiver) = some (.type "type")
  hd_BadReceiver : PySem.W.hasDictIn K C_BadReceiver = true
  C_BadRows : Addr
  mg_BadRows : mg "BadRows" = some (.ref C_BadRows)
  kp_BadRows : PySem.W.keepIn K (.ref C_BadRows) = true
  ex_BadRows : PySem.W.subIn K (.ref C_BadRows) (.type "BaseException") = some true
  ty_BadRows : PySem.W.typeIn K (.ref C_BadRows) = some (.type "type")
  hd_BadRows : PySem.W.hasDictIn K C_BadRows = true
  C_BadMark : Addr
  mg_BadMark : mg "BadMark" = some (.ref C_BadMark)
  kp_BadMark : PySem.W.keepIn K (.ref C_BadMark) = true
  ex_BadMark : PySem.W.subIn K (.ref C_BadMark) (.type "BaseException") = some true
  ty_BadMark : PySem.W.typeIn K (.ref C_BadMark) = some (.type "type")
  hd_BadMark : PySem.W.hasDictIn K C_BadMark = true
  C_BadText : Addr
  mg_BadText : mg "BadText" = some (.ref C_BadText)
  kp_BadText : PySem.W.keepIn K (.ref C_BadText) = true
  ex_BadText : PySem.W.subIn K (.ref C_BadText) (.type "BaseException") = some true
  ty_BadText : PySem.W.typeIn K (.ref C_BadText) = some (.type "type")
  hd_BadText : PySem.W.hasDictIn K C_BadText = true
  xg_BadMark : PySem.W.findIn K (.ref C_BadMark) "__getattribute__" = some (some (.builtin "BaseException.__getattribute__"))
  xk_BadMark : PySem.W.findIn K (.ref C_BadMark) "__getattr__" = some none
  xa_BadMark : PySem.W.findIn K (.ref C_BadMark) "__class__" = some (some (.builtin "object.__class__"))
  xn_BadMark : PySem.W.specialIn K (.builtin "object.__class__") "__get__" = some (some (.builtin "getset_descriptor.__get__"))
  xt_BadMark : PySem.W.takesIn K (.builtin "object.__class__") = some true
  xm_BadMark : PySem.W.mroIn K C_BadMark (.type "object") = some true
  i_BadMark_BadMark : PySem.W.kitOne K (.ref C_BadMark) (.ref C_BadMark) = some true
  i_BadMark_BadReceiver : PySem.W.kitOne K (.ref C_BadMark) (.ref C_BadReceiver) = some false
  i_BadMark_BadRoads : PySem.W.kitOne K (.ref C_BadMark) (.ref C_BadRoads) = some false
  i_BadMark_BadRows : PySem.W.kitOne K (.ref C_BadMark) (.ref C_BadRows) = some false
  i_BadMark_BadText : PySem.W.kitOne K (.ref C_BadMark) (.ref C_BadText) = some false
  i_BadMark_VE : PySem.W.kitOne K (.ref C_BadMark) (.type "ValueError") = some true
  m_BadMark : PySem.W.exmOne K (.ref C_BadMark) (.ref C_RoadError) = some true
  q_BadMark : PySem.W.excIn K C_BadMark [.type "ValueError", .type "Exception", .type "BaseException", .type "object"] "ValueError.__new__" = true
  cd_Ldeed : Addr
  tb_Ldeed : Addr
  ht_Ldeed : PySem.W.tabIn K "_law_deed" = some (cd_Ldeed, tb_Ldeed)
  hc_Ldeed : fd_Ldeed.code = .ref cd_Ldeed
  nt_Ldeed : K.lookup tb_Ldeed = none
section
variable {P : Program} {w : World} {K : PySem.W.Frag} {mg : Str → Option Value} {base : Heap}
theorem sc_need_receiver : FnScope N_need_receiver P_need_receiver (defScope s_need_receiver) := ⟨rfl, rfl, rfl, by decide +kernel, rfl, by decide +kernel, by decide +kernel⟩
theorem sc_Merger_init : FnScope N_Merger_init P_Merger_init (defScope s_Merger_init) := ⟨rfl, rfl, rfl, by decide +kernel, rfl, by decide +kernel, by decide +kernel⟩
theorem sc_Merger_come : FnScope N_Merger_come P_Merger_come (defScope s_Merger_come) := ⟨rfl, rfl, rfl, by decide +kernel, rfl, by decide +kernel, by decide +kernel⟩
theorem sc_Merger_go_out : FnScope N_Merger_go_out P_Merger_go_out (defScope s_Merger_go_out) := ⟨rfl, rfl, rfl, by decide +kernel, rfl, by decide +kernel, by decide +kernel⟩
theorem sc_Merger_close : FnScope N_Merger_close P_Merger_close (defScope s_Merger_close) := ⟨rfl, rfl, rfl, by decide +kernel, rfl, by decide +kernel, by decide +kernel⟩
theorem sc_Merger_is_wanted : FnScope N_Merger_is_wanted P_Merger_is_wanted (defScope s_Merger_is_wanted) := ⟨rfl, rfl, rfl, by decide +kernel, rfl, by decide +kernel, by decide +kernel⟩
theorem sc_Merger_waits : FnScope N_Merger_waits P_Merger_waits (defScope s_Merger_waits) := ⟨rfl, rfl, rfl, by decide +kernel, rfl, by decide +kernel, by decide +kernel⟩
theorem sc_Merger_dropped : FnScope N_Merger_dropped P_Merger_dropped (defScope s_Merger_dropped) := ⟨rfl, rfl, rfl, by decide +kernel, rfl, by decide +kernel, by decide +kernel⟩
theorem sc_Ltaken : FnScope N_Ltaken P_Ltaken (defScope s_Ltaken) := ⟨rfl, rfl, rfl, by decide +kernel, rfl, by decide +kernel, by decide +kernel⟩
theorem sc_Lalike : FnScope N_Lalike P_Lalike (defScope s_Lalike) := ⟨rfl, rfl, rfl, by decide +kernel, rfl, by decide +kernel, by decide +kernel⟩
theorem sc_Lroads : FnScope N_Lroads P_Lroads (defScope s_Lroads) := ⟨rfl, rfl, rfl, by decide +kernel, rfl, by decide +kernel, by decide +kernel⟩
theorem sc_Lspread : FnScope N_Lspread P_Lspread (defScope s_Lspread) := ⟨rfl, rfl, rfl, by decide +kernel, rfl, by decide +kernel, by decide +kernel⟩
theorem sc_Lreceiver : FnScope N_Lreceiver P_Lreceiver (defScope s_Lreceiver) := ⟨rfl, rfl, rfl, by decide +kernel, rfl, by decide +kernel, by decide +kernel⟩
theorem sc_Lfresh : FnScope N_Lfresh P_Lfresh (defScope s_Lfresh) := ⟨rfl, rfl, rfl, by decide +kernel, rfl, by decide +kernel, by decide +kernel⟩
theorem sc_Lgoes : FnScope N_Lgoes P_Lgoes (defScope s_Lgoes) := ⟨rfl, rfl, rfl, by decide +kernel, rfl, by decide +kernel, by decide +kernel⟩
theorem sc_Lcome : FnScope N_Lcome P_Lcome (defScope s_Lcome) := ⟨rfl, rfl, rfl, by decide +kernel, rfl, by decide +kernel, by decide +kernel⟩
theorem sc_Lclose : FnScope N_Lclose P_Lclose (defScope s_Lclose) := ⟨rfl, rfl, rfl, by decide +kernel, rfl, by decide +kernel, by decide +kernel⟩
theorem sc_Lword : FnScope N_Lword P_Lword (defScope s_Lword) := ⟨rfl, rfl, rfl, by decide +kernel, rfl, by decide +kernel, by decide +kernel⟩
theorem sc_Ldeed : FnScope N_Ldeed P_Ldeed (defScope s_Ldeed) := ⟨rfl, rfl, rfl, by decide +kernel, rfl, by decide +kernel, by decide +kernel⟩
theorem sc_law : FnScope N_law P_law (defScope s_law) := ⟨rfl, rfl, rfl, by decide +kernel, rfl, by decide +kernel, by decide +kernel⟩
end
/-! ### heaps: what is kept but for one place -/
/-- all but r stands -/
def Kp (r : Addr) (H H' : Hp) : Prop := ∀ b o, b ≠ r → H b = some o → H' b = some o
theorem Kp.refl (r : Addr) (H : Hp) : Kp r H H := fun _ _ _ h => h
theorem Kp.trans {r : Addr} {H H1 H2 : Hp} (a : Kp r H H1) (b : Kp r H1 H2) : Kp r H H2 := fun c o n h => b c o n (a c o n h)
theorem Kp.of {r : Addr} {H H' : Hp} (s : Same H H') : Kp r H H' := fun c o _ h => s c o h
theorem Kp.put {r : Addr} {H H' : Hp} {o : HO} (a : Kp r H H') : Kp r H (upd H' r o) := fun c u n h => by
  rw [upd_ne n]; exact a c u n h
theorem Kp.new {r : Addr} {H H' : Hp} {p : Addr} {o : HO} (a : Kp r H H') (hp : H' p = none) : Kp r H (upd H' p o) := fun c u n h => by
  have h1 := a c u n h
  rw [upd_ne (ne_of_none h1 hp)]; exact h1
theorem _root_.L2.Same.new {H H' : Hp} {p : Addr} {o : HO} (a : Same H H') (hp : H' p = none) : Same H (upd H' p o) := fun c u h => by
  have h1 := a c u h
  rw [upd_ne (ne_of_none h1 hp)]; exact h1
/-- a change at a place that was free at the start -/
theorem _root_.L2.Same.mut {H H' : Hp} {p : Addr} {o : HO} (a : Same H H') (hp : H p = none) : Same H (upd H' p o) := fun c u h => by
  rw [upd_ne (ne_of_none h hp)]; exact a c u h
theorem Kp.mut {r : Addr} {H H' : Hp} {p : Addr} {o : HO} (a : Kp r H H') (hp : H p = none) : Kp r H (upd H' p o) := fun c u n h => by
  rw [upd_ne (ne_of_none h hp)]; exact a c u n h
theorem _root_.L2.Same.upd_new {H : Hp} {p : Addr} {o : HO} (hp : H p = none) : Same H (upd H p o) := (Same.refl H).new hp
theorem Kp.free {r : Addr} {H H' : Hp} {x : Addr} (k : Kp r H H') (n : x ≠ r) (h : H' x = none) : H x = none := by
  cases e : H x with
  | none => rfl
  | some o =>
    rw [k x o n e] at h; cases h
theorem Kp.rd {r : Addr} {H H' : Hp} {a : Addr} {u : HO} (k : Kp r H H') (n : a ≠ r) (h : Rd H a u) : Rd H' a u := by
  rcases h with h | ⟨o, h⟩
  · exact .inl (k _ _ n h)
  · exact .inr ⟨o, k _ _ n h⟩
theorem Kp.sql {K : PySem.W.Frag} {r : Addr} {H H' : Hp} {a : Addr} {xs : List V} (k : Kp r H H') (n : a ≠ r) (h : SqL K H a xs) : SqL K H' a xs := by
  rcases h with h | h
  · exact .inl (k.rd n h)
  · exact .inr h
theorem Kp.sqt {K : PySem.W.Frag} {r : Addr} {H H' : Hp} {a : Addr} {xs ys : List V} (k : Kp r H H') (hr : H r = some (.lst ys)) (h : SqT K H a xs) : SqT K H' a xs := by
  rcases h with (h | ⟨o, h⟩) | h
  · exact .inl (.inl (k _ _ (fun z => by rw [z, hr] at h; cases h) h))
  · exact .inl (.inr ⟨o, k _ _ (fun z => by rw [z, hr] at h; cases h) h⟩)
  · exact .inr h
theorem _root_.L2.Same.sqt {K : PySem.W.Frag} {H H' : Hp} {a : Addr} {xs : List V} (e : Same H H') (h : SqT K H a xs) : SqT K H' a xs := by
  rcases h with (h | ⟨o, h⟩) | h
  · exact .inl (.inl (e _ _ h))
  · exact .inl (.inr ⟨o, e _ _ h⟩)
  · exact .inr h
theorem _root_.L2.Same.mx {H H1 H2 : Hp} (a : Same H H1) (b : Same H1 H2) : Same H H2 := a.trans b
theorem at0 {α : Type} {x : α} {l : List α} : atI (x :: l) 0 = some x := atI_nat (j := 0) rfl
theorem at1 {α : Type} {x y : α} {l : List α} : atI (x :: y :: l) 1 = some y := atI_nat (j := 1) rfl
theorem at2 {α : Type} {x y z : α} {l : List α} : atI (x :: y :: z :: l) 2 = some z := atI_nat (j := 2) rfl
theorem ixN_of {n : Nat} {i : Int} {j : Nat} (e : i = (j : Int)) (h : j < n) : ixN n i = some j := by
  subst e
  unfold ixN
  rw [if_pos (by omega), if_pos (by omega)]; simp
/-- ints by their place -/
theorem at_ints {ns : List Int} {i : Int} (h0 : 0 ≤ i) (h1 : i < ns.length) : ∃ z, atI (ns.map V.int) i = some (.int z) := by
  obtain ⟨j, rfl⟩ := Int.eq_ofNat_of_zero_le h0
  have hj : j < ns.length := by omega
  exact ⟨ns[j], atI_nat (by rw [List.getElem?_map, List.getElem?_eq_getElem hj]; rfl)⟩

/-! ### the row of a law: [script, place, mix]; the script is locked or stands in the written part -/
def Scr (K : PySem.W.Frag) (H : Hp) (a : Addr) (ns : List Int) : Prop := (∃ o, H a = some (.frz o (.lst (ns.map V.int)))) ∨ ∀ H', SqL K H' a (ns.map V.int)
theorem Scr.sql {K : PySem.W.Frag} {H : Hp} {a : Addr} {ns : List Int} (h : Scr K H a ns) : SqL K H a (ns.map V.int) := by
  rcases h with ⟨o, h⟩ | h
  · exact .inl (.inr ⟨o, h⟩)
  · exact h H
theorem Scr.move {K : PySem.W.Frag} {H H' : Hp} {a : Addr} {ns : List Int} (h : Scr K H a ns) (k : ∀ b o u, H b = some (.frz o u) → H' b = some (.frz o u)) : Scr K H' a ns := by
  rcases h with ⟨o, h⟩ | h
  · exact .inl ⟨o, k _ _ _ h⟩
  · exact .inr h
theorem Scr.of {K : PySem.W.Frag} {H : Hp} {a : Addr} {ns : List Int} (O : L2.Only H) (h : SqL K H a (ns.map V.int)) : Scr K H a ns := by
  rcases h with (h | ⟨o, h⟩) | h
  · rcases O a with z | ⟨o, xs, z⟩ <;> (rw [h] at z; cases z)
  · exact .inl ⟨o, h⟩
  · exact .inr fun _ => .inr h
structure RowAt (K : PySem.W.Frag) (r : Addr) (H : Hp) : Prop where
  ex : ∃ (a : Addr) (i m : Int) (ns : List Int), H r = some (.lst [.ref a, .int i, .int m]) ∧ Scr K H a ns ∧ 0 ≤ i ∧ 0 ≤ m ∧ m < 2147483647
theorem RowAt.lst {K : PySem.W.Frag} {r : Addr} {H : Hp} (h : RowAt K r H) : ∃ xs, H r = some (.lst xs) := by
  obtain ⟨a, i, m, ns, h, _⟩ := h.ex
  exact ⟨_, h⟩
theorem RowAt.move {K : PySem.W.Frag} {r : Addr} {H H' : Hp} (h : RowAt K r H) (e : ∀ o, H r = some o → H' r = some o) (k : ∀ b o u, H b = some (.frz o u) → H' b = some (.frz o u)) : RowAt K r H' := by
  obtain ⟨a, i, m, ns, h, q, z⟩ := h.ex
  exact ⟨a, i, m, ns, e _ h, q.move k, z⟩
theorem RowAt.same {K : PySem.W.Frag} {r : Addr} {H H' : Hp} (h : RowAt K r H) (s : Same H H') : RowAt K r H' := h.move (fun o e => s _ _ e) fun b o u e => s _ _ e
theorem RowAt.new {K : PySem.W.Frag} {r : Addr} {H : Hp} {p : Addr} {o : HO} (h : RowAt K r H) (hp : H p = none) : RowAt K r (upd H p o) := h.same (Same.upd_new hp)
/-- a change of a list beside the row -/
theorem RowAt.put {K : PySem.W.Frag} {r : Addr} {H : Hp} {p : Addr} {xs : List V} {o : HO} (h : RowAt K r H) (n : p ≠ r) (hp : H p = some (.lst xs)) : RowAt K r (upd H p o) :=
  h.move (fun u e => by rw [upd_ne n.symm]; exact e) fun b o u e => by
    rw [upd_ne (fun z => by rw [z, hp] at e; cases e)]
    exact e
/-- a new place is not the row's -/
theorem RowAt.ne {K : PySem.W.Frag} {r : Addr} {H : Hp} {p : Addr} (h : RowAt K r H) (hp : H p = none) : p ≠ r := by
  obtain ⟨xs, e⟩ := h.lst
  exact (ne_of_none e hp).symm
theorem RowAt.start {K : PySem.W.Frag} {H : Hp} {a r : Addr} {ns : List Int} (h : Scr K H a ns) (hr : H r = none) : RowAt K r (upd H r (.lst [.ref a, .int 0, .int 0])) :=
  ⟨a, 0, 0, ns, upd_same, h.move (fun b o u e => by rw [upd_ne (ne_of_none e hr)]; exact e), by decide, by decide, by decide⟩
/-- the law's own promise: True -/
def spLaw (K : PySem.W.Frag) : Sp := fun vs H Q _ => ∃ (a : Addr) (ns : List Int), vs = [.ref a] ∧ Scr K H a ns ∧ ∀ H', Q (.bl true) H'
/-! ### within a comprehension the written part is the def's own -/
section
variable {X : Cx} {K : PySem.W.Frag}
theorem ixK_list (h : X.K = K) : IxR X (rIxL K) := h ▸ ix_list
theorem ixK_tup (h : X.K = K) : IxR X (rIxT K) := h ▸ ix_tup
theorem ixK_seq (h : X.K = K) : IxR X (rIx K) := h ▸ ix_seq
theorem lenK (h : X.K = K) : CallR X (.builtin "len") (fun xs H Q => ∃ p ys, xs = [.ref p] ∧ (SqL K H p ys ∨ SqT K H p ys) ∧ Q (.int ys.length) H) := h ▸ call_len_seq
theorem eqDK (h : X.K = K) (hu : X.A.units + 64 < cLine) : OpR X (compareOp .Eq) (rEqD K) := h ▸ op_eqD hu
theorem neDK (h : X.K = K) (hu : X.A.units + 64 < cLine) : OpR X (compareOp .NotEq) (rNeD K) := h ▸ op_neD hu
theorem inK (h : X.K = K) : OpR X (compareOp .In) (rIn K false) := h ▸ op_in_seq
theorem notInK (h : X.K = K) : OpR X (compareOp .NotIn) (rIn K true) := h ▸ op_notIn_seq
theorem piK_list {tg l : Expr} {tl : TE} (h : X.K = K) (hl : PE X l tl) : PI X tg l (iList K tl) := h ▸ pi_list hl
theorem piK_tup {tg l : Expr} {tl : TE} (h : X.K = K) (hl : PE X l tl) : PI X tg l (iTup K tl) := h ▸ pi_tup hl
theorem isiK (h : X.K = K) : CallR X (.builtin "isinstance") (rIsi K) := h ▸ call_isi
theorem isiTK (h : X.K = K) : CallR X (.builtin "isinstance") (rIsiT K) := h ▸ call_isiT
theorem pgK_tup {pos : Pos} {es : List Expr} {k : Nat} {t : TGs} {n : Nat} (h : X.K = K) (hc : X.calm = true) (hp : PGs X es t)
    (hn : (assignEach es X.env).length = n := by rfl) (hst : (assignEach es X.env).findIdx? (·.1) = none := by rfl) : PG X (.Tuple es k pos) (gTup K n t) := h ▸ pg_tup hc hp hn hst
end
section
variable {X : Cx} {K : PySem.W.Frag} {o e : Expr} {to te : TE}
/-- sep.join(a list or tuple of texts) -/
def tJoin (K : PySem.W.Frag) (to te : TE) : TE := tM1 (fun x xs H Q => ∃ a p, ∃ ys : List Str, x = .str a ∧ xs = [.ref p] ∧ (SqL K H p (ys.map V.str) ∨ SqT K H p (ys.map V.str)) ∧
      (ys.map (·.length)).sum + ys.length * a.length ≤ 16777216 ∧ Q (.str (Txt.join a ys)) H) to te
theorem joinK {apos pos : Pos} (h : X.K = K) (ho : PE X o to) (he : PE X e te) (hs : starEach [e] X.env = [(false, eval e X.env)] := by rfl) (hbase : attributeBase o "join" X.env (eval o X.env) = eval o X.env := by rfl) (hline : (apos.endLine == pos.line) = true := by rfl) :
    PE X (.Call (.Attribute o "join" apos) [e] [] pos) (tJoin K to te) := h ▸ pe_join ho he hs hbase hline
end
/-! ### three comparisons in one -/
section
open PyProof.Rows
variable {X : Cx} {a b c d : Expr} {ta tb tc td : TE} {pos : Pos}
def tChain3 (r r' r'' : R2) (ta tb tc td : TE) : TE := fun σ H Q => ta σ H fun x H1 => tb σ H1 fun y H2 => r x y H2 fun z H3 => ∃ k, z = .bl k ∧
  (if k = true then tc σ H3 fun w' H4 => r' y w' H4 fun z2 H5 => ∃ k2, z2 = .bl k2 ∧ (if k2 = true then td σ H5 fun v' H6 => r'' w' v' H6 Q else Q (.bl false) H5) else Q (.bl false) H3)
theorem pt_chain3 {op op' op'' : CmpOp} {r r' r'' : R2} (ho : OpR X (compareOp op) r) (ho' : OpR X (compareOp op') r') (ho'' : OpR X (compareOp op'') r'') (ha : PE X a ta) (hb : PE X b tb) (hc : PE X c tc) (hd : PE X d td)
    (hm : lastMarks [op, op', op''] [b, c, d] = false := by with_unfolding_all rfl) : PT X (.Compare a [op, op', op''] [b, c, d] pos) (tTest (tChain3 r r' r'' ta tb tc td)) := by
  refine ⟨fun pins s σ H Q I h => ?_⟩
  refine isTrue_chain (thn (ha.run pins s σ H _ I h) fun v s1 ⟨x, H1, I1, r1, q1⟩ => test_link (thn (hb.run pins s1 σ H1 _ I1 q1) fun u s2 ⟨y, H2, I2, r2, q2⟩ =>
    thn (ho pins s2 σ H2 x y v u _ I2 r1 r2 q2) fun d0 s3 ⟨z, H3, I3, r3, k, e, q3⟩ => ?_)) hm
  subst e
  cases r3
  refine wpAny_truthy_bool ?_
  cases k with
  | false =>
    obtain ⟨k', e', q'⟩ := q3
    cases e'
    exact ite_ff ⟨H3, I3, q'⟩
  | true =>
    refine ite_tt (test_link (thn (hc.run pins s3 σ H3 _ I3 q3) fun w' s4 ⟨z', H4, I4, r4, q4⟩ => thn (ho' pins s4 σ H4 y z' u w' _ I4 r2 r4 q4) fun d' s5 ⟨z2, H5, I5, r5, k2, e2, q5⟩ => ?_))
    subst e2
    cases r5
    refine wpAny_truthy_bool ?_
    cases k2 with
    | false =>
      obtain ⟨k', e', q'⟩ := q5
      cases e'
      exact ite_ff ⟨H5, I5, q'⟩
    | true =>
      refine ite_tt (test_last (thn (hd.run pins s5 σ H5 _ I5 q5) fun w2 s6 ⟨z3, H6, I6, r6, q6⟩ => thn (ho'' pins s6 σ H6 z' z3 w' w2 _ I6 r4 r6 q6) fun d2 s7 ⟨z4, H7, I7, r7, k4, e4, q7⟩ => ?_))
      subst e4
      cases r7
      exact wpAny_truthy_bool ⟨H7, I7, q7⟩
end
theorem iteD {c A B : Prop} [Decidable c] (hc : c) (h : A) : if decide c = true then A else B := by
  rw [decide_eq_true hc]
  exact iteT h
theorem iteND {c A B : Prop} [Decidable c] (hc : ¬ c) (h : B) : if decide c = true then A else B := by
  rw [decide_eq_false hc]
  exact iteF h
theorem lc_yes {σ : L2.St} {H : Hp} {A B : Hp → Prop} (h : A H) : tYes σ H fun b H3 => if b = true then A H3 else B H3 := by
  show if true = true then A H else B H
  rw [if_pos rfl]
  exact h
theorem iteNN {c A B : Prop} [Decidable c] (hc : ¬ c) (h : A) : if (!decide c) = true then A else B := by
  rw [decide_eq_false hc]
  exact iteT h
section
variable {X : Cx} {K : PySem.W.Frag} {e o : Expr} {ta to : TE} {f : Str} {pos : Pos}
theorem fldK (h : X.K = K) (he : PE X e ta) (hb : attributeBase e f X.env (eval e X.env) = eval e X.env) : PE X (.Attribute e f pos) (tFld K ta f) := h ▸ pe_fld he hb
/-- the target o.f of a walk over a tuple -/
def gFld (K : PySem.W.Frag) (to : TE) (f : Str) : TG := fun v σ H Q => to σ H fun x H1 => ∃ a C dx fs, x = .ref a ∧ H1 a = some (.ins C dx fs) ∧ Cls K C ∧ NoAttr K C f ∧ fs.length < 1000 ∧ Q σ (upd H1 a (.ins C dx (putF f v fs)))
theorem pg_fld (ho : PE X o to) : PG X (.Attribute o f pos) (gFld X.K to f) := by
  refine ⟨fun pins s σ H v u Q I r h => ?_⟩
  rw [assign_Attribute]
  refine wpAny_bind (wpAny_holding (thn (ho.run pins s σ H _ I h) fun ov s1 ⟨x, H1, I1, rx, a, C, dx, fs, ex, ea, c, n, l, q⟩ => ?_))
  subst ex
  obtain rfl : ov = Value.ref a := rx
  refine wpAny_bind (wpAny_standAt (wpAny_bind (wpAny_holding (setattr_ok I1 ea c n l r fun s' I' => ?_))))
  exact PyProof.Rows.wpAny_release' ⟨σ, _, I', q⟩
end
/-! ### _law_taken: some number of 0 .. many - 1; the row turns -/
def spTaken (K : PySem.W.Frag) : Sp := fun vs H Q _ => ∃ (r : Addr) (n : Int), vs = [.ref r, .int n] ∧ 0 < n ∧ RowAt K r H ∧
  ∀ (v : Int) (H' : Hp), 0 ≤ v → v < n → RowAt K r H' → Kp r H H' → Q (.int v) H'
section
variable {P : Program} {w : World} {K : PySem.W.Frag} {mg : Str → Option Value} {base : Heap}
theorem ok_Ltaken (T : Txt K mg) : FnOk P w K mg base CX0 1 T.f_Ltaken T.fd_Ltaken P_Ltaken (spTaken K) := by
  refine T.F_Ltaken.ok sc_Ltaken (fun vs H Q E h => ?_) (fun cdv A outer s H vs Q E hr h => ?_)
  · obtain ⟨r, n, rfl, _⟩ := h
    rfl
  · obtain ⟨r, n, rfl, hn, ⟨a, i, m, ns, hrow, hScr, hi, hm0, hm⟩, k⟩ := h
    have hS := hScr.sql
    refine ⟨_, ((pss_cons (ps_asg (pe_op op_add (pe_ix ix_list (pv 0) pe_int (fun _ _ => rfl)) pe_int) (pg_sub (pv 0) pe_int set_list))
  (pss_cons (ps_if (pt_cmpR op_gt (pe_ix ix_list (pv 0) pe_int (fun _ _ => rfl)) (pe_callB call_len_seq (by rfl) T.z_len (by decide +kernel) (pa_cons (pe_ix ix_list (pv 0) pe_int (fun _ _ => rfl)) pa_nil)) (nomark _)) (pss_cons (ps_asg (pe_op op_mod (pe_op op_add (pe_op op_mul (pe_ix ix_list (pv 0) pe_int (fun _ _ => rfl)) pe_int) pe_int) pe_int) (pg_sub (pv 0) pe_int set_list))
  (pss_one (ps_ret (pe_op op_mod (pe_op op_fdiv (pe_ix ix_list (pv 0) pe_int (fun _ _ => rfl)) pe_int) (pv 1))))) pss_nil)
  (pss_cons (ps_set (i := 2) sc_Ltaken.nd rfl (Or.inl rfl) (pe_ix ix_list (pe_ix ix_list (pv 0) pe_int (fun _ _ => rfl)) (pe_op op_sub (pe_ix ix_list (pv 0) pe_int (fun _ _ => rfl)) pe_int) (fun _ _ => rfl)))
  (pss_cons (ps_asg (pe_op op_mod (pe_op op_add (pe_op op_add (pe_op op_mul (pe_ix ix_list (pv 0) pe_int (fun _ _ => rfl)) pe_int) (pv 2)) pe_int) pe_int) (pg_sub (pv 0) pe_int set_list))
  (pss_one (ps_ret (pe_op op_mod (pv 2) (pv 1))))))))), ?_⟩
    have key : ∀ (j m' : Int), 0 ≤ j → 0 ≤ m' → m' < 2147483647 → ∀ v, 0 ≤ v → v < n → ∀ H', H' r = some (.lst [.ref a, .int j, .int m']) → Kp r H H' → Q (.int v) H' :=
      fun j m' hj h0 h1 v v0 v1 H' e kp => k v H' v0 v1 ⟨a, j, m', ns, e, hScr.move fun b o u eb => kp _ _ (fun z => by rw [z, hrow] at eb; cases eb) eb, hj, h0, h1⟩ kp
    -- row[1] = row[1] + 1
    refine ⟨_, rfl, r, _, _, _, rfl, rfl, SqL.of hrow, at1, _, _, rfl, rfl, _, rfl, r, _, _, 1, rfl, rfl, hrow, rfl, ?_⟩
    generalize hH1 : upd H r _ = H1
    have k1 : Kp r H H1 := by rw [← hH1]; exact (Kp.refl r H).put
    have r1 : H1 r = some (.lst [.ref a, .int (i + 1), .int m]) := by rw [← hH1]; exact upd_same
    have s1 := (hScr.move (fun b o u eb => k1 _ _ (fun z => by rw [z, hrow] at eb; cases eb) eb)).sql
    -- if row[1] > len(row[0])
    refine ⟨_, rfl, r, _, _, _, rfl, rfl, SqL.of r1, at1, _, rfl, r, _, _, _, rfl, rfl, SqL.of r1, at0, a, _, rfl, .inl s1, _, _, rfl, rfl, _, rfl, ?_⟩
    rw [List.length_map]
    refine ite2 (fun hc => ?_) (fun hc => ?_)
    · refine ⟨_, rfl, r, _, _, _, rfl, rfl, SqL.of r1, at2, _, _, rfl, rfl, .inl ⟨by omega, by omega⟩, _, _, rfl, rfl, _, _, rfl, rfl, (by show (0 : Int) < 2147483647; decide), _, rfl, r, _, _, 2, rfl, rfl, r1, rfl, ?_⟩
      refine ⟨_, rfl, r, _, _, _, rfl, rfl, SqL.of upd_same, at2, _, _, rfl, rfl, ⟨by decide, by decide⟩, _, rfl, _, _, rfl, rfl, hn, ?_⟩
      refine key (i + 1) ((m * 48271 + 11) % 2147483647) (by omega) (Int.emod_nonneg _ (by decide)) (Int.emod_lt_of_pos _ (by decide)) _ (Int.emod_nonneg _ (by omega)) (Int.emod_lt_of_pos _ hn) _ upd_same k1.put
    · have hc' : ¬ (i + 1 > (ns.length : Int)) := fun z => hc (decide_eq_true z)
      obtain ⟨z, hz⟩ := at_ints (ns := ns) (i := i + 1 - 1) (by omega) (by omega)
      refine ⟨_, rfl, r, _, _, _, rfl, rfl, SqL.of r1, at0, _, rfl, r, _, _, _, rfl, rfl, SqL.of r1, at1, _, _, rfl, rfl, a, _, _, _, rfl, rfl, s1, hz, ?_⟩
      refine ⟨_, rfl, r, _, _, _, rfl, rfl, SqL.of r1, at2, _, _, rfl, rfl, .inl ⟨by omega, by omega⟩, _, rfl, _, _, rfl, rfl, _, _, rfl, rfl, _, _, rfl, rfl, (by show (0 : Int) < 2147483647; decide), _, rfl, r, _, _, 2, rfl, rfl, r1, rfl, ?_⟩
      refine ⟨_, rfl, _, rfl, _, _, rfl, rfl, hn, ?_⟩
      exact key (i + 1) ((m * 48271 + z + 11) % 2147483647) (by omega) (Int.emod_nonneg _ (by decide)) (Int.emod_lt_of_pos _ (by decide)) _ (Int.emod_nonneg _ (by omega)) (Int.emod_lt_of_pos _ hn) _ upd_same k1.put
end
/-! ### roads, rows -/
structure Rds where
  l0 : Int
  m0 : Int
  l1 : Int
  m1 : Int
def Rds.Ok (R : Rds) : Prop := (0 ≤ R.l0 ∧ R.l0 ≤ R.m0 ∧ R.m0 ≤ 9) ∧ (0 ≤ R.l1 ∧ R.l1 ≤ R.m1 ∧ R.m1 ≤ 9)
def RoadsAt (H : Hp) (p : Addr) (R : Rds) : Prop := ∃ t0 t1 : Addr, H p = some (.tup [.ref t0, .ref t1]) ∧ H t0 = some (.tup [.int R.l0, .int R.m0]) ∧ H t1 = some (.tup [.int R.l1, .int R.m1])
theorem RoadsAt.same {H H' : Hp} {p : Addr} {R : Rds} (s : Same H H') (h : RoadsAt H p R) : RoadsAt H' p R := by
  obtain ⟨t0, t1, h1, h2, h3⟩ := h
  exact ⟨t0, t1, s _ _ h1, s _ _ h2, s _ _ h3⟩
theorem tup_ne {H : Hp} {a b : Addr} {xs ys : List V} (ha : H a = some (.tup xs)) (hb : H b = some (.lst ys)) : a ≠ b := fun z => by
  rw [z, hb] at ha; cases ha
theorem Kp.tup {K : PySem.W.Frag} {r : Addr} {H H' : Hp} {a : Addr} {xs : List V} (k : Kp r H H') (w : RowAt K r H) (h : H a = some (.tup xs)) : H' a = some (.tup xs) := by
  obtain ⟨ys, hr⟩ := w.lst
  exact k _ _ (tup_ne h hr) h
theorem Kp.roads {K : PySem.W.Frag} {r : Addr} {H H' : Hp} {p : Addr} {R : Rds} (k : Kp r H H') (w : RowAt K r H) (h : RoadsAt H p R) : RoadsAt H' p R := by
  obtain ⟨t0, t1, h1, h2, h3⟩ := h
  exact ⟨t0, t1, k.tup w h1, k.tup w h2, k.tup w h3⟩
/-- a lateness or None -/
abbrev Lt := Option Int
def oV : Lt → V
  | none => .non
  | some i => .int i
structure RowsAt (H : Hp) (q a b : Addr) (R0 R1 : List Lt) : Prop where
  hq : H q = some (.tup [.ref a, .ref b])
  ha : H a = some (.lst (R0.map oV))
  hb : H b = some (.lst (R1.map oV))
  ne : a ≠ b
theorem RowsAt.same {H H' : Hp} {q a b : Addr} {R0 R1 : List Lt} (s : Same H H') (h : RowsAt H q a b R0 R1) : RowsAt H' q a b R0 R1 := ⟨s _ _ h.hq, s _ _ h.ha, s _ _ h.hb, h.ne⟩
theorem Kp.rows {K : PySem.W.Frag} {r : Addr} {H H' : Hp} {q a b : Addr} {R0 R1 : List Lt} (k : Kp r H H') (w : RowAt K r H) (na : a ≠ r) (nb : b ≠ r) (h : RowsAt H q a b R0 R1) : RowsAt H' q a b R0 R1 :=
  ⟨k.tup w h.hq, k _ _ na h.ha, k _ _ nb h.hb, h.ne⟩
/-- each lateness within a road's -/
def Fits (l m : Int) (R : List Lt) : Prop := ∀ x ∈ R, ∀ v, x = some v → l ≤ v ∧ v ≤ m
theorem Fits.nil {l m : Int} : Fits l m [] := fun _ h => absurd h (List.not_mem_nil)
theorem Fits.snoc {l m : Int} {R : List Lt} {x : Lt} (h : Fits l m R) (hx : ∀ v, x = some v → l ≤ v ∧ v ≤ m) : Fits l m (R ++ [x]) := fun y hy => by
  rcases List.mem_append.mp hy with hy | hy
  · exact h y hy
  · rw [List.mem_singleton.mp hy]; exact hx
/-- ints of a written list, the place within -/
theorem at_menu {ns : List Int} {i : Int} (h0 : 0 ≤ i) (h1 : i < ns.length) : ∃ z ∈ ns, atI (ns.map V.int) i = some (.int z) := by
  obtain ⟨j, rfl⟩ := Int.eq_ofNat_of_zero_le h0
  have hj : j < ns.length := by omega
  exact ⟨ns[j], List.getElem_mem hj, atI_nat (by rw [List.getElem?_map, List.getElem?_eq_getElem hj]; rfl)⟩
theorem sz1000 {n : Nat} (h : n ≤ 1000) : n ≤ sizeLine := Nat.le_of_lt (small1000 h)
theorem len2 {α : Type} : ∀ {l : List α}, l.length = 2 → ∃ a b, l = [a, b]
  | [a, b], _ => ⟨a, b, rfl⟩
/-- a lateness as data -/
def oD : Lt → PyData
  | none => .none
  | some i => .int i
theorem dp_o {K : PySem.W.Frag} {H : Hp} : ∀ x : Lt, Dp K H (oV x) (oD x)
  | none => .non
  | some i => .int i
theorem dp_all {K : PySem.W.Frag} {H : Hp} : ∀ xs : List Lt, DpAll K H (xs.map oV) (xs.map oD)
  | [] => .nil
  | x :: xs => .cons (dp_o x) (dp_all xs)
/-- the road at place j -/
def Rds.lo (R : Rds) (j : Nat) : Int := if j = 0 then R.l0 else R.l1
def Rds.hi (R : Rds) (j : Nat) : Int := if j = 0 then R.m0 else R.m1
theorem road_at {H : Hp} {t0 t1 : Addr} {R : Rds} (g2 : H t0 = some (.tup [.int R.l0, .int R.m0])) (g3 : H t1 = some (.tup [.int R.l1, .int R.m1])) {j : Nat} (hj : j < 2) :
    ∃ t : Addr, atI ([.ref t0, .ref t1] : List V) ((0 : Int) + (j : Int)) = some (.ref t) ∧ H t = some (.tup [.int (R.lo j), .int (R.hi j)]) := by
  have hj' : j = 0 ∨ j = 1 := by omega
  rcases hj' with rfl | rfl
  · exact ⟨t0, at0, g2⟩
  · exact ⟨t1, at1, g3⟩
theorem Rds.ok_at {R : Rds} (h : R.Ok) {j : Nat} : 0 ≤ R.lo j ∧ R.lo j ≤ R.hi j ∧ R.hi j ≤ 9 := by
  obtain ⟨h1, h2⟩ := h
  unfold Rds.lo Rds.hi
  by_cases c : j = 0
  · rw [if_pos c, if_pos c]; exact h1
  · rw [if_neg c, if_neg c]; exact h2
/-- the row at place j -/
theorem row_at {K : PySem.W.Frag} {H : Hp} {a b : Addr} {R0 R1 : List Lt} {R : Rds} (ha : SqL K H a (R0.map oV)) (hb : SqL K H b (R1.map oV)) (f0 : Fits R.l0 R.m0 R0) (f1 : Fits R.l1 R.m1 R1) (hl : R0.length = R1.length) {j : Nat} (hj : j < 2) :
    ∃ (c : Addr) (Y : List Lt), atI ([.ref a, .ref b] : List V) ((0 : Int) + (j : Int)) = some (.ref c) ∧ SqL K H c (Y.map oV) ∧ Fits (R.lo j) (R.hi j) Y ∧ Y.length = R0.length := by
  have hj' : j = 0 ∨ j = 1 := by omega
  rcases hj' with rfl | rfl
  · exact ⟨a, R0, at0, ha, f0, rfl⟩
  · exact ⟨b, R1, at1, hb, f1, hl.symm⟩
/-- an item of a row -/
theorem at_row {Y : List Lt} {i : Nat} (hi : i < Y.length) : ∃ x ∈ Y, atI (Y.map oV) ((0 : Int) + (i : Int)) = some (oV x) :=
  ⟨Y[i], List.getElem_mem hi, by rw [Int.zero_add]; exact atI_nat (by rw [List.getElem?_map, List.getElem?_eq_getElem hi]; rfl)⟩
/-- rows of roads, to be read -/
structure Rws (K : PySem.W.Frag) (H : Hp) (q a b : Addr) (R : Rds) (R0 R1 : List Lt) : Prop where
  q : SqT K H q [.ref a, .ref b]
  a : SqL K H a (R0.map oV)
  b : SqL K H b (R1.map oV)
  len : R0.length = R1.length
  most : R0.length ≤ 80
  f0 : Fits R.l0 R.m0 R0
  f1 : Fits R.l1 R.m1 R1
/-! ### _law_roads: two roads -/
def spRoads (K : PySem.W.Frag) : Sp := fun vs H Q _ => ∃ (r : Addr), vs = [.ref r] ∧ RowAt K r H ∧
  ∀ (p : Addr) (R : Rds) (H' : Hp), RoadsAt H' p R → R.Ok → H p = none → RowAt K r H' → Kp r H H' → Q (.ref p) H'
section
variable {P : Program} {w : World} {K : PySem.W.Frag} {mg : Str → Option Value} {base : Heap}
theorem ok_Lroads (T : Txt K mg) : FnOk P w K mg base CX0 2 T.f_Lroads T.fd_Lroads P_Lroads (spRoads K) := by
  refine T.F_Lroads.ok sc_Lroads (fun vs H Q E h => ?_) (fun cdv A outer s H vs Q E hr h => ?_)
  · obtain ⟨r, rfl, _⟩ := h
    rfl
  · obtain ⟨r, rfl, hrow, k⟩ := h
    refine ⟨_, ((pss_cons (ps_set (i := 1) sc_Lroads.nd rfl (Or.inl rfl) (pe_lst pa_nil))
  (pss_cons (ps_for PassesOwn.never rfl (pi_range1 (by rfl) T.z_range (pa_cons pe_int pa_nil)) (pg_name (i := 2) sc_Lroads.nd rfl (Or.inl rfl))
  (pss_cons (ps_set (i := 3) sc_Lroads.nd rfl (Or.inl rfl) (pe_call (ok_Ltaken T) (hr.mono (by decide)) (by rfl) T.mg_Ltaken T.kp_Ltaken T.b_Ltaken .nil pass0 (pa_cons (pv 0) (pa_cons (pe_ix ix_list (pe_lst (pa_cons pe_int (pa_cons pe_int pa_nil))) (pe_call (ok_Ltaken T) (hr.mono (by decide)) (by rfl) T.mg_Ltaken T.kp_Ltaken T.b_Ltaken .nil pass0 (pa_cons (pv 0) (pa_cons pe_int pa_nil))) (fun _ _ => rfl)) pa_nil))))
  (pss_one (ps_expr (pe_bm PySem.F.plainAttrs_list PySem.F.slot_list_append PySem.F.type_list_append mt_append (pv 1) (pa_cons (pe_tup (pa_cons (pv 3) (pa_cons (pe_callB (call_min2 rfl) (by rfl) T.z_min (by decide +kernel) (pa_cons pe_int (pa_cons (pe_op op_add (pv 3) (pe_ix ix_list (pe_lst (pa_cons pe_int (pa_cons (pe_call (ok_Ltaken T) (hr.mono (by decide)) (by rfl) T.mg_Ltaken T.kp_Ltaken T.b_Ltaken .nil pass0 (pa_cons (pv 0) (pa_cons pe_int pa_nil))) (pa_cons (pe_call (ok_Ltaken T) (hr.mono (by decide)) (by rfl) T.mg_Ltaken T.kp_Ltaken T.b_Ltaken .nil pass0 (pa_cons (pv 0) (pa_cons pe_int pa_nil))) pa_nil)))) (pe_call (ok_Ltaken T) (hr.mono (by decide)) (by rfl) T.mg_Ltaken T.kp_Ltaken T.b_Ltaken .nil pass0 (pa_cons (pv 0) (pa_cons pe_int pa_nil))) (fun _ _ => rfl))) pa_nil))) pa_nil))) pa_nil))))))
  (pss_one (ps_ret (pe_tup (pa_cons (pe_ix ix_list (pv 1) pe_int (fun _ _ => rfl)) (pa_cons (pe_ix ix_list (pv 1) pe_int (fun _ _ => rfl)) pa_nil)))))))), ?_⟩
    -- found = []
    refine ⟨by show 0 ≤ sizeLine; decide, fun f hf => ?_⟩
    have hfr : f ≠ r := hrow.ne hf
    have row0 := hrow.new (o := .lst []) hf
    have kp0 : Kp r H (upd H f (.lst [])) := (Kp.refl r H).new hf
    -- for road in range(2)
    refine ⟨_, rfl, by decide, by decide, for_range (n := 2) (fun i σ H' => ∃ (v2 v3 : Option V) (ts : List (Addr × Int × Int)), σ = [some (.ref r), some (.ref f), v2, v3] ∧ ts.length = i ∧
      H' f = some (.lst (ts.map fun t => V.ref t.1)) ∧ (∀ t ∈ ts, H' t.1 = some (.tup [.int t.2.1, .int t.2.2]) ∧ 0 ≤ t.2.1 ∧ t.2.1 ≤ t.2.2 ∧ t.2.2 ≤ 9) ∧ RowAt K r H' ∧ Kp r H H')
      ⟨none, none, [], rfl, rfl, upd_same, fun t ht => absurd ht List.not_mem_nil, row0, kp0⟩ ?_ ?_⟩
    · rintro i σ H1 hi ⟨v2, v3, ts, rfl, hl, hf1, hts, row1, k1⟩
      -- least = taken(row, [3, 10][taken(row, 2)])
      refine ⟨_, rfl, by show 2 ≤ sizeLine; decide, fun p hp => ?_⟩
      refine ⟨_, rfl, r, _, rfl, by decide, row1.new hp, fun j H2 j0 j1 row2 k2 => ?_⟩
      have hpr : p ≠ r := row1.ne hp
      have hz : ∃ z ∈ [(3 : Int), 10], atI ([(3 : Int), 10].map V.int) j = some (.int z) := at_menu j0 j1
      obtain ⟨z, hmem, hz⟩ := hz
      have hz3 : 3 ≤ z ∧ z ≤ 10 := by
        simp only [List.mem_cons, List.not_mem_nil, or_false] at hmem
        rcases hmem with h | h <;> omega
      refine ⟨p, _, j, _, rfl, rfl, SqL.of (k2 _ _ hpr upd_same), hz, ?_⟩
      refine ⟨r, _, rfl, by omega, row2, fun l H3 l0 l1 row3 k3 => ?_⟩
      have kk : Kp r H1 H3 := ((Kp.refl r H1).new hp).trans (k2.trans k3)
      -- found.append((least, min(9, least + [0, taken(row, 3), taken(row, 10)][taken(row, 3)])))
      have hf3 := kk _ _ hfr hf1
      refine ⟨_, rfl, .inl ⟨rfl, _, SqL.of hf3⟩, ?_⟩
      refine ⟨_, rfl, _, rfl, _, rfl, r, _, rfl, by decide, row3, fun x H4 x0 x1 row4 k4 => ?_⟩
      refine ⟨_, rfl, r, _, rfl, by decide, row4, fun y H5 y0 y1 row5 k5 => ?_⟩
      refine ⟨by show 3 ≤ sizeLine; decide, fun p2 hp2 => ?_⟩
      refine ⟨_, rfl, r, _, rfl, by decide, row5.new hp2, fun j2 H6 j20 j21 row6 k6 => ?_⟩
      have hp2r : p2 ≠ r := row5.ne hp2
      have hz2 : ∃ z ∈ [(0 : Int), x, y], atI ([(0 : Int), x, y].map V.int) j2 = some (.int z) := at_menu j20 j21
      obtain ⟨z2, hmem2, hz2⟩ := hz2
      have hz2r : 0 ≤ z2 := by
        simp only [List.mem_cons, List.not_mem_nil, or_false] at hmem2
        rcases hmem2 with h | h | h <;> omega
      refine ⟨p2, _, j2, _, rfl, rfl, SqL.of (k6 _ _ hp2r upd_same), hz2, ?_⟩
      refine ⟨_, _, rfl, rfl, _, _, rfl, ?_⟩
      refine ⟨by show 2 ≤ sizeLine; decide, fun t ht => ?_⟩
      have k36 : Kp r H3 H6 := k4.trans (k5.trans (((Kp.refl r H5).new hp2).trans k6))
      have htr : t ≠ r := row6.ne ht
      have hf6 := k36 _ _ hfr hf3
      have hft : f ≠ t := ne_of_none hf6 ht
      have row7 := row6.new (o := .tup [.int l, .int (if l + z2 < 9 then l + z2 else 9)]) ht
      refine ⟨f, _, _, rfl, rfl, by rw [upd_ne hft]; exact hf6, small1000 (by rw [List.length_map]; omega), ?_⟩
      have old : ∀ b o, b ≠ r → b ≠ f → H1 b = some o → (upd (upd H6 t (.tup [.int l, .int (if l + z2 < 9 then l + z2 else 9)])) f (.lst (ts.map (fun t => V.ref t.1) ++ [.ref t]))) b = some o := fun b o br bf hb => by
        rw [upd_ne bf]
        exact ((kk.trans k36).new ht) b o br hb
      refine ⟨_, _, ts ++ [(t, l, if l + z2 < 9 then l + z2 else 9)], rfl, by rw [List.length_append, hl]; rfl, by rw [upd_same, List.map_append]; rfl, fun u hu => ?_, ?_, ?_⟩
      · rcases List.mem_append.mp hu with hu | hu
        · obtain ⟨e1, e2⟩ := hts u hu
          exact ⟨old _ _ (tup_ne e1 row1.lst.choose_spec) (tup_ne e1 hf1) e1, e2⟩
        · rw [List.mem_singleton.mp hu]
          refine ⟨by rw [upd_ne hft.symm]; exact upd_same, l0, ?_, ?_⟩
          · show l ≤ if l + z2 < 9 then l + z2 else 9
            split <;> omega
          · show (if l + z2 < 9 then l + z2 else 9) ≤ 9
            split <;> omega
      · exact row7.put hfr (by rw [upd_ne hft]; exact hf6)
      · exact (k1.trans ((kk.trans k36).new ht)).mut hf
    · -- return (found[0], found[1])
      rintro σ H1 ⟨v2, v3, ts, rfl, hl, hf1, hts, row1, k1⟩
      obtain ⟨t0, t1, rfl⟩ := len2 hl
      obtain ⟨a1, a2, a3, a4⟩ := hts t0 (by simp)
      obtain ⟨b1, b2, b3, b4⟩ := hts t1 (by simp)
      refine ⟨_, rfl, f, _, _, _, rfl, rfl, SqL.of hf1, at0, _, rfl, f, _, _, _, rfl, rfl, SqL.of hf1, at1, by show 2 ≤ sizeLine; decide, fun p hp => ?_⟩
      have hpH : H p = none := by
        cases e : H p with
        | none => rfl
        | some o =>
          have n : p ≠ r := row1.ne hp
          rw [k1 p o n e] at hp; cases hp
      exact k p ⟨t0.2.1, t0.2.2, t1.2.1, t1.2.2⟩ _ ⟨t0.1, t1.1, upd_same, by rw [upd_ne (ne_of_none a1 hp)]; exact a1, by rw [upd_ne (ne_of_none b1 hp)]; exact b1⟩ ⟨⟨a2, a3, a4⟩, ⟨b2, b3, b4⟩⟩ hpH (row1.new hp) (k1.new hp)
end
end Tp
/-! ### sorted of triples of whole numbers, any number of them -/
namespace Tri
open PySem PyProof.Rows Srt SrtO
section
variable {prog : Program} {w : World} {A : Around} {E : Value → Shared → Prop} {s : Shared}
abbrev I3 := Int × Int × Int
def IsTri (h : Heap) (v : Value) (k : I3) : Prop := ∃ a o t u z n, v = .ref a ∧ h.get? a = some o ∧ o.cls = .type "tuple" ∧ o.data = .seq #[.int k.1 t, .int k.2.1 u, .int k.2.2 z] n
theorem IsTri.keep {h h' : Heap} {v : Value} {k : I3} (p : IsTri h v k) (kp : ∀ b o, h.get? b = some o → o.cls = .type "tuple" → h'.get? b = some o) : IsTri h' v k := by
  obtain ⟨a, o, t, u, z, n, e, ho, hc, hd⟩ := p
  exact ⟨a, o, t, u, z, n, e, kp _ _ ho hc, hc, hd⟩
theorem heads {h : Heap} {k : Value → I3} : ∀ {vs : List Value}, (∀ v ∈ vs, IsTri h v (k v)) → ∃ fs : List Value, PySem.W.KatTups h vs fs ∧ fs.length = vs.length ∧ ∀ f ∈ fs, ∃ x t, f = Value.int x t
  | [], _ => ⟨[], .nil, rfl, fun _ m => absurd m List.not_mem_nil⟩
  | v :: vs, hp => by
    obtain ⟨fs, h1, h2, h3⟩ := heads (vs := vs) fun v' m => hp v' (List.mem_cons_of_mem _ m)
    obtain ⟨a, o, t, u, z, n, e, ho, hc, hd⟩ := hp v List.mem_cons_self
    refine ⟨.int (k v).1 t :: fs, ?_, by rw [List.length_cons, List.length_cons, h2], fun f m => ?_⟩
    · rw [e] at hd ⊢
      exact .cons ho hc hd rfl h1
    · rcases List.mem_cons.mp m with rfl | m
      · exact ⟨_, _, rfl⟩
      · exact h3 f m
def lex3 (p q : I3) : Bool := if p.1 = q.1 then (if p.2.1 = q.2.1 then decide (p.2.2 < q.2.2) else decide (p.2.1 < q.2.1)) else decide (p.1 < q.1)
theorem lex3_iff {p q : I3} : lex3 p q = true ↔ p.1 < q.1 ∨ (p.1 = q.1 ∧ (p.2.1 < q.2.1 ∨ (p.2.1 = q.2.1 ∧ p.2.2 < q.2.2))) := by
  unfold lex3
  by_cases e : p.1 = q.1
  · rw [if_pos e]
    by_cases e2 : p.2.1 = q.2.1
    · rw [if_pos e2, decide_eq_true_eq]; omega
    · rw [if_neg e2, decide_eq_true_eq]; omega
  · rw [if_neg e, decide_eq_true_eq]; omega
theorem lex3_no {p q : I3} : lex3 p q = false ↔ ¬ (p.1 < q.1 ∨ (p.1 = q.1 ∧ (p.2.1 < q.2.1 ∨ (p.2.1 = q.2.1 ∧ p.2.2 < q.2.2)))) := by
  rw [← lex3_iff]
  cases lex3 p q <;> simp
theorem swo3 {α : Type} (k : α → I3) : Swo fun v u => lex3 (k v) (k u) := by
  refine ⟨fun x y h => ?_, fun x y z h1 h2 => ?_⟩
  · have a := lex3_iff.mp h
    exact lex3_no.mpr (by omega)
  · have a := lex3_no.mp h1
    have b := lex3_no.mp h2
    exact lex3_no.mpr (by omega)
theorem cmp3 {vs : List Value} {k : Value → I3} (hp : ∀ v ∈ vs, IsTri s.heap v (k v)) : SrtO.Cmp prog w A s (tuples' true) (fun p => p.1 ∈ vs) (lt2 fun v u => lex3 (k v) (k u)) := by
  intro p q m m'
  have h1 := hp _ m
  have h2 := hp _ m'
  show wpAny (model prog w) A (keyLt' (tuples' true) p.1 q.1) (fun r s' => s' = s ∧ r = lex3 (k p.1) (k q.1)) (fun _ _ => False) s
  unfold lex3
  generalize k p.1 = x at h1 ⊢
  generalize k q.1 = y at h2 ⊢
  obtain ⟨x1, x2, x3⟩ := x
  obtain ⟨y1, y2, y3⟩ := y
  obtain ⟨a, o, t, u, z, n, e, ho, hc, hd⟩ := h1
  obtain ⟨a', o', t', u', z', n', e', ho', hc', hd'⟩ := h2
  rw [e, e']
  refine PySem.W.kat_lt ho hd ho' hd' ?_
  show PySem.W.KatLex prog w A true (decide (3 < 3)) _ [(.int x1 t, .int y1 t'), (.int x2 u, .int y2 u'), (.int x3 z, .int y3 z')] 0 s
  dsimp only
  refine PySem.W.kat_cons (SeqAt.EqAt.int_int x1 t y1 t' prog w _ _ ?_)
  refine PySem.W.kat_go (fun e1 => ?_) (fun e1 => ?_)
  · have g1 : x1 = y1 := by simpa using e1
    rw [if_pos g1]
    refine PySem.W.kat_yes (PySem.W.kat_cons (SeqAt.EqAt.int_int x2 u y2 u' prog w _ _ ?_))
    refine PySem.W.kat_go (fun e2 => ?_) (fun e2 => ?_)
    · have g2 : x2 = y2 := by simpa using e2
      rw [if_pos g2]
      refine PySem.W.kat_yes (PySem.W.kat_cons (SeqAt.EqAt.int_int x3 z y3 z' prog w _ _ ?_))
      refine PySem.W.kat_go (fun e3 => ?_) (fun e3 => ?_)
      · have g3 : x3 = y3 := by simpa using e3
        refine PySem.W.kat_yes (PySem.W.kat_nil ⟨rfl, ?_⟩)
        rw [g3]
        exact (decide_eq_false (Int.lt_irrefl _)).symm
      · exact PySem.W.kat_no (PySem.W.kat_one _ _ (PyProof.Rows.lt_int ⟨rfl, rfl⟩))
    · have g2 : ¬ x2 = y2 := by simpa using e2
      rw [if_neg g2]
      exact PySem.W.kat_no (PySem.W.kat_one _ _ (PyProof.Rows.lt_int ⟨rfl, rfl⟩))
  · have g1 : ¬ x1 = y1 := by simpa using e1
    rw [if_neg g1]
    exact PySem.W.kat_no (oneLt_int ⟨rfl, rfl⟩)
theorem sortable3 {a : Addr} {vs : List Value} {k : Value → I3} (h0 : 0 < vs.length) (hp : ∀ v ∈ vs, IsTri s.heap v (k v)) (ha : ∀ o, s.heap.get? a = some o → o.cls ≠ .type "tuple") : SortableO prog w A s a vs fun v u => lex3 (k v) (k u) := by
  intro h' kp
  have hp' : ∀ v ∈ vs, IsTri h' v (k v) := fun v m => (hp v m).keep fun b o e c => kp b o (fun z => by subst z; exact ha o e c) e
  obtain ⟨fs, h1, h2, h3⟩ := heads hp'
  refine ⟨tuples' true, fun Q E hq => ?_, cmp3 hp'⟩
  refine PySem.W.kat_kind (T := .type "int") h1 (by omega) (fun f m => ?_) (by rfl) ?_
  · obtain ⟨x, t, rfl⟩ := h3 f m
    exact PySem.W.Looks.now
  · rw [show (Value.type "int" != Value.type "tuple") = true by decide +kernel]
    exact hq
theorem sorted3 {l : Addr} {vs : List Value} {k : Value → I3} {Q : Value → Shared → Prop} (hl : s.heap.IsList l vs.toArray) (hz : vs.length ≤ sizeLine) (hp : ∀ v ∈ vs, IsTri s.heap v (k v))
    (h : ∀ (h' : Heap) (d : Addr) (out : List Value), Srtd (fun v u => lex3 (k v) (k u)) out → Stb (fun v u => lex3 (k v) (k u)) out vs → (∀ b o, s.heap.get? b = some o → h'.get? b = some o) → s.heap.objs.size ≤ d →
      (∃ n, h'.get? d = some (seqObj "list" out.toArray n)) → Q (.ref d) { s with heap := h' }) :
    wpAny (model prog w) A (call (.builtin "sorted") [.ref l]) Q E s := by
  refine sorted_ord (swo3 k) hl hz (fun h2 h₁ a ha kk => ?_) fun out hs hb => ?_
  · refine sortable3 (s := { s with heap := h₁ }) (by omega) (fun v m => (hp v m).keep fun b o e _ => (kk b o e).2) fun o e => ?_
    have e' := Option.some.inj (e.symm.trans ha)
    subst e'
    intro c
    exact absurd (Value.type.inj c) (by decide)
  · exact h _ _ out hs hb (fun b o e => sortedAll_old e) (Nat.le_succ _) (sortedAll_at s.heap vs out.toArray)
end
end Tri
namespace L2
open PySem PySem.Spec PyProof.Rows
def rSorted3 (K : PySem.W.Frag) : List V → Hp → VK → Prop := fun vs H Q => ∃ (a : Addr) (xs : List V) (k : V → Tri.I3), vs = [V.ref a] ∧ SqL K H a xs ∧ (∀ x ∈ xs, ∃ t, x = V.ref t ∧ H t = some (.tup [.int (k x).1, .int (k x).2.1, .int (k x).2.2])) ∧
  ∀ ys p, SrtO.Srtd (fun x y => Tri.lex3 (k x) (k y)) ys → ys.Perm xs → H p = none → Q (.ref p) (upd H p (.lst ys))
theorem cr_sorted3 {X : Cx} : CallR X (.builtin "sorted") (rSorted3 X.K) := by
  intro pins s σ H vs us Q I r h
  obtain ⟨a, xs, k, rfl, hs, hx, q⟩ := h
  obtain ⟨its, rv, hl, hz⟩ := I.list hs
  obtain ⟨u, rfl, ru⟩ := vals1 r
  obtain rfl : u = Value.ref a := ru
  obtain ⟨e1, e2⟩ := refs_back rv fun x m => (hx x m).imp fun _ z => z.1
  refine Tri.sorted3 (k := fun u => k (backV u)) hl.isList (by rw [← rv.length]; exact hz) (fun v hv => ?_) fun h' d out h1 h2 kp hd hn => ?_
  · obtain ⟨t, rfl⟩ := e2 v hv
    have hm : V.ref t ∈ xs := e1 ▸ List.mem_map.mpr ⟨_, hv, rfl⟩
    obtain ⟨t', e, ht⟩ := hx _ hm
    cases e
    obtain ⟨_, its2, r2, o, ho, hc, n, hd⟩ := I.hok _ _ ht
    cases r2 with
    | cons r1 r2 =>
      cases r2 with
      | cons r3 r4 =>
        cases r4 with
        | cons r5 r6 =>
          cases r6
          obtain ⟨t1, rfl⟩ := r1
          obtain ⟨t2, rfl⟩ := r3
          obtain ⟨t3, rfl⟩ := r5
          exact ⟨t, o, t1, t2, t3, n, rfl, ho, hc, hd⟩
  · have h3 : ∀ u ∈ out, ∃ a, u = Value.ref a := fun u hu => e2 u (h2.perm.mem_iff.mp hu)
    obtain ⟨n, hn⟩ := hn
    have hb : (out.map backV).Perm xs := by
      rw [e1]
      exact h2.perm.map _
    refine ⟨.ref d, upd H d (.lst (out.map backV)), I.laid (t' := s.toks) kp hd ⟨?_, out, n, vals_back h3, hn⟩, rfl, q _ d (SrtO.srtd_map h1) hb (I.hok.fresh hd)⟩
    rw [hb.length_eq]
    exact hz
end L2
namespace Tp
open PySem L2
/-! ### a receiver, plainly -/
/-- a held thing: its number, the thing, since when -/
abbrev E3 := Int × Int × Int
structure Rcv where
  mks : Int
  ah : Int
  wt : Int
structure Rcv.Ok (R : Rcv) : Prop where
  m2 : 2 ≤ R.mks
  m32 : R.mks ≤ 32
  a1 : 1 ≤ R.ah
  am : R.ah < R.mks
  w0 : 0 ≤ R.wt
  w20 : R.wt ≤ 20
structure MS where
  w : Int
  clk : Int
  old : Int
  hs : List E3
def hasN (hs : List E3) (n : Int) : Bool := hs.any fun e => decide (e.1 = n)
def dropN (hs : List E3) (n : Int) : List E3 := hs.filter fun e => decide (e.1 ≠ n)
def goF : Nat → Int → List E3 → List Int × Int × List E3
  | 0, w, hs => ([], w, hs)
  | f + 1, w, hs => match hs.find? fun e => decide (e.1 = w) with
    | none => ([], w, hs)
    | some e => (e.2.1 :: (goF f (w + 1) (dropN hs w)).1, (goF f (w + 1) (dropN hs w)).2)
def go (w : Int) (hs : List E3) : List Int × Int × List E3 := goF hs.length w hs
def comeM (R : Rcv) (S : MS) (mark th : Int) : List Int × MS :=
  if (mark - S.w) % R.mks ≥ R.ah ∨ hasN S.hs (S.w + (mark - S.w) % R.mks) = true then ([], { S with old := S.old + 1 })
  else ((go S.w (S.hs ++ [(S.w + (mark - S.w) % R.mks, th, S.clk)])).1, { S with w := (go S.w (S.hs ++ [(S.w + (mark - S.w) % R.mks, th, S.clk)])).2.1, hs := (go S.w (S.hs ++ [(S.w + (mark - S.w) % R.mks, th, S.clk)])).2.2 })
/-- one from n on was held long enough -/
def longN (wt clk : Int) (hs : List E3) (n : Int) : Bool := hs.any fun e => decide (n ≤ e.1) && decide (clk - e.2.2 ≥ wt)
def wantedN (wt clk : Int) (hs : List E3) (n : Int) : Bool := hasN hs n && longN wt clk hs n
def closeF (wt clk : Int) : List Int → Int → List E3 → List Int × Int × List E3
  | [], w, hs => ([], w, hs)
  | n :: ns, w, hs => if wantedN wt clk hs n = true then ((go n hs).1 ++ (closeF wt clk ns (go n hs).2.1 (go n hs).2.2).1, (closeF wt clk ns (go n hs).2.1 (go n hs).2.2).2) else closeF wt clk ns w hs
/-- whole numbers by insertion -/
def insI (x : Int) : List Int → List Int
  | [] => [x]
  | y :: l => if x ≤ y then x :: y :: l else y :: insI x l
def sortI : List Int → List Int
  | [] => []
  | x :: l => insI x (sortI l)
def keysN (hs : List E3) : List Int := sortI (hs.map (·.1))
def closeM (R : Rcv) (S : MS) : List Int × MS :=
  ((closeF R.wt S.clk (keysN S.hs) S.w S.hs).1, { S with w := (closeF R.wt S.clk (keysN S.hs) S.w S.hs).2.1, hs := (closeF R.wt S.clk (keysN S.hs) S.w S.hs).2.2, clk := S.clk + 1 })
theorem insI_perm (x : Int) : ∀ l, (insI x l).Perm (x :: l)
  | [] => .refl _
  | y :: l => by
    unfold insI
    split
    · exact .refl _
    · exact ((insI_perm x l).cons y).trans (.swap x y l)
theorem sortI_perm : ∀ l, (sortI l).Perm l
  | [] => .refl _
  | x :: l => (insI_perm x _).trans ((sortI_perm l).cons x)
theorem insI_up (x : Int) : ∀ {l : List Int}, l.Pairwise (· ≤ ·) → (insI x l).Pairwise (· ≤ ·)
  | [], _ => List.pairwise_singleton _ _
  | y :: l, h => by
    obtain ⟨h1, h2⟩ := List.pairwise_cons.mp h
    unfold insI
    split
    · rename_i c
      refine List.pairwise_cons.mpr ⟨fun z hz => ?_, h⟩
      rcases List.mem_cons.mp hz with rfl | hz
      · exact c
      · exact Int.le_trans c (h1 z hz)
    · rename_i c
      refine List.pairwise_cons.mpr ⟨fun z hz => ?_, insI_up x h2⟩
      rcases List.mem_cons.mp ((insI_perm x l).mem_iff.mp hz) with rfl | hz
      · omega
      · exact h1 z hz
theorem sortI_up : ∀ l, (sortI l).Pairwise (· ≤ ·)
  | [] => .nil
  | x :: l => insI_up x (sortI_up l)
/-- two rising lists of the same numbers are one -/
theorem up_uniq : ∀ {l m : List Int}, l.Pairwise (· ≤ ·) → m.Pairwise (· ≤ ·) → l.Perm m → l = m
  | [], m, _, _, h => (List.Perm.eq_nil h.symm).symm
  | x :: l, [], _, _, h => absurd h.length_eq (by simp)
  | x :: l, y :: m, hl, hm, h => by
    obtain ⟨l1, l2⟩ := List.pairwise_cons.mp hl
    obtain ⟨m1, m2⟩ := List.pairwise_cons.mp hm
    have e : x = y := by
      have hx : x ∈ y :: m := h.mem_iff.mp List.mem_cons_self
      have hy : y ∈ x :: l := h.mem_iff.mpr List.mem_cons_self
      rcases List.mem_cons.mp hx with e | hx
      · exact e
      · rcases List.mem_cons.mp hy with e | hy
        · exact e.symm
        · have := m1 x hx
          have := l1 y hy
          omega
    subst e
    rw [up_uniq l2 m2 h.cons_inv]
theorem sortI_eq {l m : List Int} (hm : m.Pairwise (· ≤ ·)) (h : m.Perm l) : m = sortI l := up_uniq hm (sortI_up l) (h.trans (sortI_perm l).symm)

theorem find_none {hs : List E3} {n : Int} (h : hasN hs n = false) : hs.find? (fun e => decide (e.1 = n)) = none := by
  rw [List.find?_eq_none]
  intro e he
  unfold hasN at h
  rw [List.any_eq_false] at h
  exact h e he
theorem find_some {hs : List E3} {n : Int} (h : hasN hs n = true) : ∃ e ∈ hs, e.1 = n ∧ hs.find? (fun e => decide (e.1 = n)) = some e := by
  cases q : hs.find? (fun e => decide (e.1 = n)) with
  | none =>
    rw [List.find?_eq_none] at q
    unfold hasN at h
    obtain ⟨e, he, h2⟩ := List.any_eq_true.mp h
    exact absurd h2 (q e he)
  | some e => exact ⟨e, List.mem_of_find?_eq_some q, by simpa using List.find?_some q, rfl⟩
theorem has_iff {hs : List E3} {n : Int} : hasN hs n = true ↔ ∃ e ∈ hs, e.1 = n := by
  unfold hasN
  rw [List.any_eq_true]
  simp
theorem dropN_len {hs : List E3} {n : Int} (h : hasN hs n = true) : (dropN hs n).length < hs.length := by
  obtain ⟨e, he, h1⟩ := has_iff.mp h
  refine Nat.lt_of_le_of_ne (List.length_filter_le _ _) fun z => ?_
  have := (List.length_filter_eq_length_iff.mp z) e he
  simp [h1] at this
theorem dropN_le (hs : List E3) (n : Int) : (dropN hs n).length ≤ hs.length := List.length_filter_le _ _
theorem goF_more : ∀ (f : Nat) (w : Int) (hs : List E3), hs.length ≤ f → goF f w hs = goF hs.length w hs
  | 0, w, hs, h => by
    have e : hs = [] := List.eq_nil_of_length_eq_zero (by omega)
    subst e
    rfl
  | f + 1, w, hs, h => by
    cases q : hasN hs w with
    | false =>
      have e := find_none q
      cases hl : hs.length with
      | zero =>
        unfold goF
        rw [e]
      | succ k =>
        unfold goF
        rw [e]
    | true =>
      obtain ⟨e, he, h1, hf⟩ := find_some q
      have hd := dropN_len q
      cases hl : hs.length with
      | zero =>
        rw [hl] at hd
        omega
      | succ k =>
        have e1 := goF_more f (w + 1) (dropN hs w) (by omega)
        have e2 := goF_more k (w + 1) (dropN hs w) (by omega)
        unfold goF
        rw [hf]
        dsimp only
        rw [e1, e2]
theorem go_none {w : Int} {hs : List E3} (h : hasN hs w = false) : go w hs = ([], w, hs) := by
  unfold go
  cases hl : hs.length with
  | zero => rfl
  | succ k =>
    unfold goF
    rw [find_none h]
theorem go_some {w : Int} {hs : List E3} {e : E3} (h : hs.find? (fun e => decide (e.1 = w)) = some e) : go w hs = (e.2.1 :: (go (w + 1) (dropN hs w)).1, (go (w + 1) (dropN hs w)).2) := by
  have hh : hasN hs w = true := has_iff.mpr ⟨e, List.mem_of_find?_eq_some h, by simpa using List.find?_some h⟩
  have hd := dropN_len hh
  unfold go
  cases hl : hs.length with
  | zero => rw [hl] at hd; omega
  | succ k =>
    conv => lhs; unfold goF
    rw [h]
    dsimp only
    rw [goF_more k (w + 1) (dropN hs w) (by omega)]
/-- nothing of the wanted number is left; what is left was there -/
theorem go_end : ∀ (n : Nat) (w : Int) (hs : List E3), hs.length = n → hasN (go w hs).2.2 (go w hs).2.1 = false ∧ w ≤ (go w hs).2.1 ∧ (go w hs).2.2.Sublist hs ∧ (∀ e ∈ hs, (e ∈ (go w hs).2.2 ↔ ¬ (w ≤ e.1 ∧ e.1 < (go w hs).2.1))) := by
  intro n
  induction n using Nat.strongRecOn with
  | _ n ih =>
    intro w hs hn
    cases q : hasN hs w with
    | false =>
      rw [go_none q]
      exact ⟨q, Int.le_refl _, List.Sublist.refl _, fun e he => ⟨fun _ h => by have := h.1; have := h.2; dsimp only at *; omega, fun _ => he⟩⟩
    | true =>
      obtain ⟨e, he, h1, hf⟩ := find_some q
      have hd := dropN_len q
      obtain ⟨i1, i2, i3, i4⟩ := ih _ (by omega) (w + 1) (dropN hs w) rfl
      rw [go_some hf]
      dsimp only
      refine ⟨i1, by omega, i3.trans List.filter_sublist, fun x hx => ?_⟩
      by_cases c : x.1 = w
      · refine ⟨fun hm => ?_, fun z => absurd ⟨by omega, by omega⟩ z⟩
        have := i3.subset hm
        rw [dropN, List.mem_filter] at this
        simp [c] at this
      · have hx' : x ∈ dropN hs w := by rw [dropN, List.mem_filter]; exact ⟨hx, by simpa using c⟩
        rw [i4 x hx']
        constructor
        · intro z y
          exact z ⟨by omega, y.2⟩
        · intro z y
          exact z ⟨by omega, y.2⟩

/-- what holds of a receiver between two deeds -/
structure MOk (R : Rcv) (S : MS) : Prop where
  nd : (S.hs.map (·.1)).Nodup
  lo : ∀ e ∈ S.hs, S.w < e.1
  hi : ∀ e ∈ S.hs, e.1 < S.w + R.ah
theorem nodup_len : ∀ (n : Nat) (a : Int) (l : List Int), l.Nodup → (∀ x ∈ l, a ≤ x ∧ x < a + n) → l.length ≤ n
  | 0, a, l, _, h => by
    cases l with
    | nil => exact Nat.le_refl _
    | cons x l =>
      have := h x List.mem_cons_self
      omega
  | n + 1, a, l, hd, h => by
    have e : l.length ≤ (l.filter fun x => decide (x ≠ a + n)).length + 1 := by
      clear h
      induction l with
      | nil => exact Nat.zero_le _
      | cons x l ih =>
        obtain ⟨h1, h2⟩ := List.nodup_cons.mp hd
        by_cases c : x = a + n
        · have e2 : (x :: l).filter (fun x => decide (x ≠ a + n)) = l := by
            rw [List.filter_cons_of_neg (by simp [c])]
            refine List.filter_eq_self.mpr fun y hy => ?_
            have : y ≠ x := fun z => h1 (by rw [← z]; exact hy)
            simpa [c] using (by rw [c] at this; exact this : y ≠ a + n)
          rw [e2]
          exact Nat.le_refl _
        · rw [List.filter_cons_of_pos (by simpa using c)]
          have := ih h2
          rw [List.length_cons, List.length_cons]
          omega
    have i := nodup_len n a (l.filter fun x => decide (x ≠ a + n)) (hd.sublist List.filter_sublist) fun x hx => by
      obtain ⟨h1, h2⟩ := List.mem_filter.mp hx
      have := h x h1
      have h3 : x ≠ a + n := by simpa using h2
      omega
    omega
theorem MOk.len {R : Rcv} {S : MS} (h : MOk R S) (hR : R.Ok) : S.hs.length < 64 := by
  have z := nodup_len R.ah.toNat S.w (S.hs.map (·.1)) h.nd fun x hx => by
    obtain ⟨e, he, rfl⟩ := List.mem_map.mp hx
    have := h.lo e he
    have := h.hi e he
    have := hR.a1
    omega
  rw [List.length_map] at z
  have := hR.am
  have := hR.m32
  have := hR.a1
  omega
/-- sublists keep it, with the wanted one gone up -/
theorem MOk.down {R : Rcv} {S : MS} (h : MOk R S) {w : Int} {hs : List E3} (s : hs.Sublist S.hs) (hw : S.w ≤ w) (lo : ∀ e ∈ hs, w < e.1) (clk old : Int) : MOk R ⟨w, clk, old, hs⟩ :=
  ⟨h.nd.sublist (s.map _), lo, fun e he => by
    have := h.hi e (s.subset he)
    show e.1 < w + R.ah
    omega⟩
theorem go_lo {w : Int} {hs : List E3} (h : ∀ e ∈ hs, w ≤ e.1) : ∀ e ∈ (go w hs).2.2, (go w hs).2.1 < e.1 := fun e he => by
  obtain ⟨g1, g2, g3, g4⟩ := go_end _ w hs rfl
  have hm := g3.subset he
  have := h e hm
  have h2 := (g4 e hm).mp he
  have h3 : e.1 ≠ (go w hs).2.1 := fun z => by
    have := has_iff.mpr ⟨e, he, z⟩
    rw [g1] at this
    cases this
  omega
theorem comeM_ok {R : Rcv} {S : MS} (hR : R.Ok) (h : MOk R S) (mark th : Int) : MOk R (comeM R S mark th).2 := by
  unfold comeM
  split
  · exact ⟨h.nd, h.lo, h.hi⟩
  · rename_i c
    have c1 : ¬ (mark - S.w) % R.mks ≥ R.ah := fun z => c (.inl z)
    have c2 : ¬ hasN S.hs (S.w + (mark - S.w) % R.mks) = true := fun z => c (.inr z)
    have m0 : 0 ≤ (mark - S.w) % R.mks := Int.emod_nonneg _ (by have := hR.m2; omega)
    generalize (mark - S.w) % R.mks = far at *
    obtain ⟨g1, g2, g3, g4⟩ := go_end _ S.w (S.hs ++ [(S.w + far, th, S.clk)]) rfl
    have lo : ∀ e ∈ S.hs ++ [(S.w + far, th, S.clk)], S.w ≤ e.1 := fun e he => by
      rcases List.mem_append.mp he with he | he
      · have := h.lo e he
        omega
      · rw [List.mem_singleton.mp he]
        show S.w ≤ S.w + far
        omega
    have hi : ∀ e ∈ S.hs ++ [(S.w + far, th, S.clk)], e.1 < S.w + R.ah := fun e he => by
      rcases List.mem_append.mp he with he | he
      · exact h.hi e he
      · rw [List.mem_singleton.mp he]
        show S.w + far < S.w + R.ah
        omega
    have nd : ((S.hs ++ [(S.w + far, th, S.clk)]).map (·.1)).Nodup := by
      rw [List.map_append, List.nodup_append]
      refine ⟨h.nd, by simp, fun x hx y hy => ?_⟩
      rw [List.map_cons, List.map_nil, List.mem_singleton] at hy
      subst hy
      rintro rfl
      obtain ⟨e, he, h2⟩ := List.mem_map.mp hx
      exact c2 (has_iff.mpr ⟨e, he, h2⟩)
    exact ⟨nd.sublist (g3.map _), go_lo lo, fun e he => by
      have := hi e (g3.subset he)
      show e.1 < (go S.w (S.hs ++ [(S.w + far, th, S.clk)])).2.1 + R.ah
      omega⟩
theorem long_sub {wt clk n : Int} {hs hs' : List E3} (s : hs'.Sublist hs) (h : longN wt clk hs n = false) : longN wt clk hs' n = false := by
  unfold longN at *
  rw [List.any_eq_false] at *
  exact fun e he => h e (s.subset he)
theorem long_up {wt clk n m : Int} {hs : List E3} (hnm : n ≤ m) (h : longN wt clk hs m = true) : longN wt clk hs n = true := by
  unfold longN at *
  obtain ⟨e, he, h2⟩ := List.any_eq_true.mp h
  refine List.any_eq_true.mpr ⟨e, he, ?_⟩
  simp only [Bool.and_eq_true, decide_eq_true_eq] at *
  exact ⟨by omega, h2.2⟩
/-- a walk over the keys, in their order -/
theorem closeF_ok (wt clk : Int) : ∀ (ns : List Int) (w : Int) (hs : List E3), ns.Pairwise (· < ·) → (∀ e ∈ hs, w < e.1) → (∀ e ∈ hs, e.1 ∈ ns ∨ longN wt clk hs e.1 = false) →
    (closeF wt clk ns w hs).2.2.Sublist hs ∧ w ≤ (closeF wt clk ns w hs).2.1 ∧ (∀ e ∈ (closeF wt clk ns w hs).2.2, (closeF wt clk ns w hs).2.1 < e.1) ∧ ∀ e ∈ (closeF wt clk ns w hs).2.2, longN wt clk (closeF wt clk ns w hs).2.2 e.1 = false := by
  intro ns
  induction ns with
  | nil =>
    intro w hs _ h1 h2
    exact ⟨List.Sublist.refl _, Int.le_refl _, h1, fun e he => by
      rcases h2 e he with h | h
      · exact absurd h List.not_mem_nil
      · exact h⟩
  | cons n ns ih =>
    intro w hs hp h1 h2
    obtain ⟨p1, p2⟩ := List.pairwise_cons.mp hp
    unfold closeF
    by_cases c : wantedN wt clk hs n = true
    · rw [if_pos c]
      dsimp only
      obtain ⟨c1, c2⟩ := Bool.and_eq_true_iff.mp c
      have lo : ∀ e ∈ hs, n ≤ e.1 := fun e he => by
        by_cases q : n ≤ e.1
        · exact q
        · exfalso
          rcases h2 e he with h | h
          · rcases List.mem_cons.mp h with h | h
            · omega
            · have := p1 _ h
              omega
          · rw [long_up (by omega) c2] at h
            cases h
      obtain ⟨g1, g2, g3, g4⟩ := go_end _ n hs rfl
      have lo' := go_lo lo
      obtain ⟨i1, i2, i3, i4⟩ := ih (go n hs).2.1 (go n hs).2.2 p2 lo' fun e he => by
        have hm := g3.subset he
        rcases h2 e hm with h | h
        · rcases List.mem_cons.mp h with h | h
          · have := lo' e he
            omega
          · exact .inl h
        · exact .inr (long_sub g3 h)
      obtain ⟨e, he, hen⟩ := has_iff.mp c1
      have := h1 e he
      exact ⟨i1.trans g3, by omega, i3, i4⟩
    · rw [if_neg c]
      refine ih w hs p2 h1 fun e he => ?_
      rcases h2 e he with h | h
      · rcases List.mem_cons.mp h with h | h
        · refine .inr ?_
          cases q : longN wt clk hs e.1 with
          | false => rfl
          | true =>
            refine absurd (Bool.and_eq_true_iff.mpr ⟨?_, ?_⟩) c
            · exact has_iff.mpr ⟨e, he, h⟩
            · rw [← h]; exact q
        · exact .inl h
      · exact .inr h
theorem keysN_lt {hs : List E3} (nd : (hs.map (·.1)).Nodup) : (keysN hs).Pairwise (· < ·) := by
  have h1 := sortI_up (hs.map (·.1))
  have h2 : (keysN hs).Nodup := (sortI_perm _).nodup_iff.mpr nd
  unfold keysN at h2
  exact (h1.and h2).imp fun z => by have := z.1; have := z.2; omega
theorem closeM_ok {R : Rcv} {S : MS} (h : MOk R S) : MOk R (closeM R S).2 := by
  obtain ⟨i1, i2, i3, i4⟩ := closeF_ok R.wt S.clk (keysN S.hs) S.w S.hs (keysN_lt h.nd) h.lo fun e he => .inl ((sortI_perm _).mem_iff.mpr (List.mem_map.mpr ⟨e, he, rfl⟩))
  exact h.down i1 i2 i3 _ _
def newM : MS := ⟨0, 0, 0, []⟩
theorem newM_ok (R : Rcv) : MOk R newM := ⟨List.nodup_nil, fun e h => absurd h List.not_mem_nil, fun e h => absurd h List.not_mem_nil⟩
theorem go_len : ∀ (n : Nat) (w : Int) (hs : List E3), hs.length = n → (go w hs).1.length + (go w hs).2.2.length ≤ hs.length := by
  intro n
  induction n using Nat.strongRecOn with
  | _ n ih =>
    intro w hs hn
    cases q : hasN hs w with
    | false =>
      rw [go_none q]
      exact Nat.le_of_eq (Nat.zero_add _)
    | true =>
      obtain ⟨e, he, h1, hf⟩ := find_some q
      have hd := dropN_len q
      have := ih _ (by omega) (w + 1) (dropN hs w) rfl
      rw [go_some hf]
      dsimp only
      rw [List.length_cons]
      omega
/-! ### rows as texts -/
open SX in
/-- a lateness' sign -/
def cd : Lt → Nat
  | none => 45
  | some i => 48 + i.toNat
abbrev sgT (x : Lt) : Str := SX.S [cd x]
abbrev rowT (R : List Lt) : Str := SX.S (R.map cd)
abbrev rowsT (R0 R1 : List Lt) : Str := SX.S (R0.map cd ++ 10 :: R1.map cd)
theorem str_dig {v : Int} (h0 : 0 ≤ v) (h9 : v ≤ 9) : Str.ofString (toString v) = SX.S [48 + v.toNat] := by
  obtain ⟨n, rfl⟩ := Int.eq_ofNat_of_zero_le h0
  have hn : n < 10 := by omega
  refine TL.ext_tl ((TL.tl_num n).trans ?_)
  rw [TL.numL_lt hn]
  rfl
theorem int_dig {v : Int} (h0 : 0 ≤ v) (h9 : v ≤ 9) : PySem.intText? (SX.S [48 + v.toNat]) = some v := by
  obtain ⟨n, rfl⟩ := Int.eq_ofNat_of_zero_le h0
  have hn : n < 10 := by omega
  have e := TL.int_num (n := n) (by rw [TL.numL_lt hn]; show 1 ≤ 4300; decide)
  rw [str_dig (v := (n : Int)) (by omega) (by omega)] at e
  exact e
theorem joinL_nil : ∀ l : List Nat, TL.joinL [] (l.map fun c => [c]) = l
  | [] => rfl
  | [c] => rfl
  | c :: d :: r => by
    show [c] ++ ([] ++ TL.joinL [] ((d :: r).map fun c => [c])) = c :: d :: r
    rw [joinL_nil (d :: r)]
    rfl
theorem join_row (R : List Lt) : Txt.join (SX.S []) (R.map sgT) = rowT R := by
  have e : R.map sgT = ((R.map cd).map fun c => [c]).map SX.S := by rw [List.map_map, List.map_map]; rfl
  rw [e, SX.join_S, joinL_nil]
theorem join_rows (R0 R1 : List Lt) : Txt.join (SX.S [10]) [rowT R0, rowT R1] = rowsT R0 R1 := SX.join_S [10] [R0.map cd, R1.map cd]
theorem split_rows {R0 R1 : List Lt} (h0 : 10 ∉ R0.map cd) (h1 : 10 ∉ R1.map cd) : Txt.split (rowsT R0 R1) (SX.S [10]) = [rowT R0, rowT R1] := by
  rw [← join_rows]
  refine TL.split_join (s := 10) (S := []) rfl (SX.all256 (b := [10]) (by decide)) (by simp) fun p hp => ?_
  simp only [List.mem_cons, List.not_mem_nil, or_false] at hp
  rcases hp with rfl | rfl
  · exact h0
  · exact h1
theorem cd_ne {l m : Int} {R : List Lt} (h : Fits l m R) (hl : 0 ≤ l) : 10 ∉ R.map cd := fun hm => by
  obtain ⟨x, hx, e⟩ := List.mem_map.mp hm
  cases x with
  | none => cases e
  | some v =>
    have := h _ hx v rfl
    have e' : 48 + v.toNat = 10 := e
    omega
theorem row_len (R : List Lt) : (rowT R).length = R.length := by rw [SX.S_len, List.length_map]
theorem sg_sum (R : List Lt) : ((R.map sgT).map (·.length)).sum = R.length := by
  induction R with
  | nil => rfl
  | cons x R ih =>
    rw [List.map_cons, List.map_cons, List.sum_cons, ih, SX.S_len, List.length_cons]
    show 1 + R.length = R.length + 1
    omega
theorem str_nl : Str.ofString "\n" = SX.S [10] := by decide +kernel
theorem str_no : Str.ofString "" = SX.S [] := by decide +kernel
theorem take_succ_of {α : Type} {l : List α} {i : Nat} {x : α} (h : l[i]? = some x) : l.take (i + 1) = l.take i ++ [x] := by
  rw [List.take_succ, h]; rfl
/-- the sizes of a row's signs joined -/
theorem sg_room {R : List Lt} (h : R.length ≤ 80) : ((R.map sgT).map (·.length)).sum + (R.map sgT).length * (SX.S []).length ≤ 16777216 := by
  rw [sg_sum, SX.S_len]
  show R.length + _ * 0 ≤ _
  omega
theorem rows_room {R0 R1 : List Lt} (h : R0.length ≤ 80) (h1 : R1.length ≤ 80) : (([rowT R0, rowT R1] : List Str).map (·.length)).sum + ([rowT R0, rowT R1] : List Str).length * (SX.S [10]).length ≤ 16777216 := by
  rw [List.map_cons, List.map_cons, List.map_nil, row_len, row_len, SX.S_len]
  show R0.length + (R1.length + 0) + 2 * 1 ≤ _
  omega
theorem str_gone : Str.ofString "-" = SX.S [45] := by decide +kernel
theorem str_figs : (Str.ofString "0123456789").cps.toList = [48, 49, 50, 51, 52, 53, 54, 55, 56, 57] := by decide +kernel
theorem small_dig {v : Int} (v0 : 0 ≤ v) (v1 : v ≤ 9) : v.natAbs.log2 < 1920 := by
  have : v.natAbs.log2 ≤ v.natAbs := Nat.log2_le_self _
  omega
theorem fig_mem {v : Int} (v0 : 0 ≤ v) (v1 : v ≤ 9) : 48 + v.toNat ∈ (Str.ofString "0123456789").cps.toList := by
  rw [str_figs]
  have h : v.toNat = 0 ∨ v.toNat = 1 ∨ v.toNat = 2 ∨ v.toNat = 3 ∨ v.toNat = 4 ∨ v.toNat = 5 ∨ v.toNat = 6 ∨ v.toNat = 7 ∨ v.toNat = 8 ∨ v.toNat = 9 := by omega
  rcases h with h | h | h | h | h | h | h | h | h | h <;> (rw [h]; decide)
theorem not_gone (v : Int) : ¬ (V.str (⟨#[48 + v.toNat]⟩ : Str) = V.str (Str.ofString "-")) := fun e => by
  rw [str_gone] at e
  have e2 := SX.S_inj (V.str.inj e)
  have e3 : 48 + v.toNat = 45 := (List.cons.inj e2).1
  omega
theorem is_gone : V.str (⟨#[45]⟩ : Str) = V.str (Str.ofString "-") := congrArg V.str str_gone.symm
theorem rowT_at {R : List Lt} {i : Nat} (hi : i < R.length) : ∃ x ∈ R, R[i]? = some x ∧ atI (rowT R).cps.toList ((0 : Int) + (i : Int)) = some (cd x) :=
  ⟨R[i], List.getElem_mem hi, List.getElem?_eq_getElem hi, by
    rw [Int.zero_add]
    refine atI_nat ?_
    show (R.map cd)[i]? = _
    rw [List.getElem?_map, List.getElem?_eq_getElem hi]
    rfl⟩
/-! ### data that == may be asked of -/
theorem lay_all : ∀ {ds : List PyData}, (∀ d ∈ ds, d.canLay0 = true) → PyData.canLayAll0 ds = true
  | [], _ => rfl
  | d :: ds, h => by
    show (d.canLay0 && PyData.canLayAll0 ds) = true
    rw [h d List.mem_cons_self, lay_all fun x hx => h x (List.mem_cons_of_mem _ hx)]
    rfl
theorem dep_all {n : Nat} : ∀ {ds : List PyData}, (∀ d ∈ ds, d.depth ≤ n) → PyData.depthAll ds ≤ n
  | [], _ => Nat.zero_le _
  | d :: ds, h => by
    show max d.depth (PyData.depthAll ds) ≤ n
    exact Nat.max_le.mpr ⟨h d List.mem_cons_self, dep_all fun x hx => h x (List.mem_cons_of_mem _ hx)⟩
/-- d may be laid, less than n deep -/
def Sh (n : Nat) (d : PyData) : Prop := d.canLay0 = true ∧ d.depth ≤ n
theorem Sh.lst {n : Nat} {ds : List PyData} (h : ∀ d ∈ ds, Sh n d) : Sh (n + 1) (.list ds) := ⟨lay_all fun d hd => (h d hd).1, Nat.succ_le_succ (dep_all fun d hd => (h d hd).2)⟩
theorem Sh.tup {n : Nat} {ds : List PyData} (h : ∀ d ∈ ds, Sh n d) : Sh (n + 1) (.tuple ds) := ⟨lay_all fun d hd => (h d hd).1, Nat.succ_le_succ (dep_all fun d hd => (h d hd).2)⟩
theorem Sh.int {n : Nat} (i : Int) : Sh n (.int i) := ⟨rfl, Nat.zero_le _⟩
theorem Sh.non {n : Nat} : Sh n .none := ⟨rfl, Nat.zero_le _⟩
theorem Sh.o {n : Nat} : ∀ x : Lt, Sh n (oD x)
  | none => .non
  | some i => .int i
theorem Sh.ok {n : Nat} {d : PyData} (h : Sh n d) (hn : n ≤ 64) : SeqAt.shaped d = true := by
  unfold SeqAt.shaped
  rw [h.1, decide_eq_true (Nat.le_trans h.2 hn)]
  rfl
theorem shaped_ints (l : List Int) : SeqAt.shaped (.list (l.map PyData.int)) = true := Sh.ok (n := 1) (Sh.lst fun d hd => by
  obtain ⟨i, _, rfl⟩ := List.mem_map.mp hd
  exact .int i) (by decide)
theorem eqv_ints : ∀ l : List Int, PyData.eqv (.list (l.map PyData.int)) (.list []) = l.isEmpty
  | [] => rfl
  | _ :: _ => rfl
theorem dp_ints {K : PySem.W.Frag} {H : Hp} : ∀ l : List Int, DpAll K H (l.map V.int) (l.map PyData.int)
  | [] => .nil
  | i :: l => .cons (.int i) (dp_ints l)
/-! ### run, plainly -/
/-- what comes by a road: (moment, thing, road) -/
def arrGo (road : Int) : Int → List Lt → List Tri.I3
  | _, [] => []
  | i, none :: r => arrGo road (i + 1) r
  | i, some l :: r => (i + l, i, road) :: arrGo road (i + 1) r
def ins3 (x : Tri.I3) : List Tri.I3 → List Tri.I3
  | [] => [x]
  | y :: l => if Tri.lex3 y x = false then x :: y :: l else y :: ins3 x l
def sort3 : List Tri.I3 → List Tri.I3
  | [] => []
  | x :: l => ins3 x (sort3 l)
def comes (R0 R1 : List Lt) : List Tri.I3 := sort3 (arrGo 0 0 R0 ++ arrGo 1 0 R1)
def tag (m : Int) (os : List Int) : List (Int × Int) := os.map fun o => (m, o)
def inStep (R : Rcv) (m : Int) (st : MS × List (Int × Int)) (c : Tri.I3) : MS × List (Int × Int) :=
  if c.1 = m then ((comeM R st.1 (c.2.1 % R.mks) c.2.1).2, st.2 ++ tag m (comeM R st.1 (c.2.1 % R.mks) c.2.1).1) else st
def momM (R : Rcv) (cs : List Tri.I3) (st : MS × List (Int × Int)) (m : Int) : MS × List (Int × Int) :=
  ((closeM R (cs.foldl (inStep R m) st).1).2, (cs.foldl (inStep R m) st).2 ++ tag m (closeM R (cs.foldl (inStep R m) st).1).1)
def runM (R : Rcv) (cs : List Tri.I3) : Nat → MS × List (Int × Int)
  | 0 => (newM, [])
  | n + 1 => momM R cs (runM R cs n) (n : Int)
def lastM (R : Rcv) (cs : List Tri.I3) : Int := match cs.getLast? with
  | none => -1
  | some c => c.1 + R.wt
def outM (R : Rcv) (R0 R1 : List Lt) : List (Int × Int) × Int := ((runM R (comes R0 R1) (lastM R (comes R0 R1) + 1).toNat).2, (runM R (comes R0 R1) (lastM R (comes R0 R1) + 1).toNat).1.old)
theorem arrGo_app (road : Int) : ∀ (a b : List Lt) (i : Int), arrGo road i (a ++ b) = arrGo road i a ++ arrGo road (i + a.length) b
  | [], b, i => by
    show arrGo road i b = [] ++ arrGo road (i + ((0 : Nat) : Int)) b
    rw [List.nil_append, Int.natCast_zero, Int.add_zero]
  | none :: a, b, i => by
    show arrGo road (i + 1) (a ++ b) = arrGo road (i + 1) a ++ _
    rw [arrGo_app road a b (i + 1), List.length_cons]
    congr 2
    omega
  | some l :: a, b, i => by
    show (i + l, i, road) :: arrGo road (i + 1) (a ++ b) = (i + l, i, road) :: arrGo road (i + 1) a ++ _
    rw [arrGo_app road a b (i + 1), List.length_cons, List.cons_append]
    congr 3
    omega
theorem arrGo_len (road : Int) : ∀ (a : List Lt) (i : Int), (arrGo road i a).length ≤ a.length
  | [], _ => Nat.le_refl _
  | none :: a, i => Nat.le_trans (arrGo_len road a (i + 1)) (Nat.le_succ _)
  | some l :: a, i => Nat.succ_le_succ (arrGo_len road a (i + 1))
theorem arrGo_mem {road : Int} {c : Tri.I3} : ∀ {a : List Lt} {i : Int}, c ∈ arrGo road i a → ∃ (j : Nat) (l : Int), a[j]? = some (some l) ∧ c = (i + j + l, i + j, road)
  | [], i, h => absurd h List.not_mem_nil
  | none :: a, i, h => by
    obtain ⟨j, l, h1, h2⟩ := arrGo_mem (a := a) (i := i + 1) h
    refine ⟨j + 1, l, h1, ?_⟩
    rw [h2]
    simp only [Prod.mk.injEq, Int.natCast_add]
    refine ⟨by omega, by omega, trivial⟩
  | some l :: a, i, h => by
    rcases List.mem_cons.mp h with h | h
    · refine ⟨0, l, rfl, ?_⟩
      rw [h]
      simp
    · obtain ⟨j, l', h1, h2⟩ := arrGo_mem (a := a) (i := i + 1) h
      refine ⟨j + 1, l', h1, ?_⟩
      rw [h2]
      simp only [Prod.mk.injEq, Int.natCast_add]
      refine ⟨by omega, by omega, trivial⟩
theorem ins3_perm (x : Tri.I3) : ∀ l, (ins3 x l).Perm (x :: l)
  | [] => .refl _
  | y :: l => by
    unfold ins3
    split
    · exact .refl _
    · exact ((ins3_perm x l).cons y).trans (.swap x y l)
theorem sort3_perm : ∀ l, (sort3 l).Perm l
  | [] => .refl _
  | x :: l => (ins3_perm x _).trans ((sort3_perm l).cons x)
/-- rising: none is behind a greater one -/
abbrev Up3 (l : List Tri.I3) : Prop := l.Pairwise fun x y => Tri.lex3 y x = false
theorem lex3_tr {x y z : Tri.I3} (h1 : Tri.lex3 y x = false) (h2 : Tri.lex3 z y = false) : Tri.lex3 z x = false := by
  rw [Tri.lex3_no] at *
  omega
theorem ins3_up (x : Tri.I3) : ∀ {l : List Tri.I3}, Up3 l → Up3 (ins3 x l)
  | [], _ => List.pairwise_singleton _ _
  | y :: l, h => by
    obtain ⟨h1, h2⟩ := List.pairwise_cons.mp h
    unfold ins3
    split
    · rename_i c
      refine List.pairwise_cons.mpr ⟨fun z hz => ?_, h⟩
      rcases List.mem_cons.mp hz with rfl | hz
      · exact c
      · exact lex3_tr c (h1 z hz)
    · rename_i c
      refine List.pairwise_cons.mpr ⟨fun z hz => ?_, ins3_up x h2⟩
      rcases List.mem_cons.mp ((ins3_perm x l).mem_iff.mp hz) with rfl | hz
      · have c2 : Tri.lex3 y z = true := by simpa using c
        have := Tri.lex3_iff.mp c2
        exact Tri.lex3_no.mpr (by omega)
      · exact h1 z hz
theorem sort3_up : ∀ l, Up3 (sort3 l)
  | [] => .nil
  | x :: l => ins3_up x (sort3_up l)
theorem up3_uniq : ∀ {l m : List Tri.I3}, Up3 l → Up3 m → l.Perm m → l = m
  | [], m, _, _, h => (List.Perm.eq_nil h.symm).symm
  | x :: l, [], _, _, h => absurd h.length_eq (by simp)
  | x :: l, y :: m, hl, hm, h => by
    obtain ⟨l1, l2⟩ := List.pairwise_cons.mp hl
    obtain ⟨m1, m2⟩ := List.pairwise_cons.mp hm
    have e : x = y := by
      have hx : x ∈ y :: m := h.mem_iff.mp List.mem_cons_self
      have hy : y ∈ x :: l := h.mem_iff.mpr List.mem_cons_self
      rcases List.mem_cons.mp hx with e | hx
      · exact e
      · rcases List.mem_cons.mp hy with e | hy
        · exact e.symm
        · have a := Tri.lex3_no.mp (m1 x hx)
          have b := Tri.lex3_no.mp (l1 y hy)
          obtain ⟨x1, x2, x3⟩ := x
          obtain ⟨y1, y2, y3⟩ := y
          dsimp only at a b
          have e1 : x1 = y1 := by omega
          have e2 : x2 = y2 := by omega
          have e3 : x3 = y3 := by omega
          rw [e1, e2, e3]
    subst e
    rw [up3_uniq l2 m2 h.cons_inv]
theorem sort3_eq {l m : List Tri.I3} (hm : Up3 m) (h : m.Perm l) : m = sort3 l := up3_uniq hm (sort3_up l) (h.trans (sort3_perm l).symm)
theorem comes_mem {R0 R1 : List Lt} {c : Tri.I3} (h : c ∈ comes R0 R1) : ∃ (j : Nat) (l : Int), (R0[j]? = some (some l) ∨ R1[j]? = some (some l)) ∧ c.1 = j + l ∧ c.2.1 = j := by
  have h1 := (sort3_perm _).mem_iff.mp h
  rcases List.mem_append.mp h1 with h1 | h1
  · obtain ⟨j, l, h2, h3⟩ := arrGo_mem h1
    rw [h3]
    exact ⟨j, l, .inl h2, by simp, by simp⟩
  · obtain ⟨j, l, h2, h3⟩ := arrGo_mem h1
    rw [h3]
    exact ⟨j, l, .inr h2, by simp, by simp⟩
theorem comes_len (R0 R1 : List Lt) : (comes R0 R1).length ≤ R0.length + R1.length := by
  have h := (sort3_perm (arrGo 0 0 R0 ++ arrGo 1 0 R1)).length_eq
  unfold comes
  rw [h, List.length_append]
  have := arrGo_len 0 R0 0
  have := arrGo_len 1 R1 0
  omega
theorem come_len (R : Rcv) (S : MS) (mark th : Int) : (comeM R S mark th).1.length + (comeM R S mark th).2.hs.length ≤ S.hs.length + 1 := by
  unfold comeM
  split
  · show 0 + S.hs.length ≤ _
    omega
  · have := go_len _ S.w (S.hs ++ [(S.w + (mark - S.w) % R.mks, th, S.clk)]) rfl
    rw [List.length_append] at this
    exact this
theorem closeF_len (wt clk : Int) : ∀ (ns : List Int) (w : Int) (hs : List E3), (closeF wt clk ns w hs).1.length + (closeF wt clk ns w hs).2.2.length ≤ hs.length
  | [], w, hs => by
    show 0 + hs.length ≤ _
    omega
  | n :: ns, w, hs => by
    unfold closeF
    split
    · dsimp only
      have h1 := go_len _ n hs rfl
      have h2 := closeF_len wt clk ns (go n hs).2.1 (go n hs).2.2
      rw [List.length_append]
      omega
    · exact closeF_len wt clk ns w hs
theorem close_len (R : Rcv) (S : MS) : (closeM R S).1.length + (closeM R S).2.hs.length ≤ S.hs.length := closeF_len _ _ _ _ _
theorem runM_succ (R : Rcv) (cs : List Tri.I3) (n : Nat) : runM R cs (n + 1) = momM R cs (runM R cs n) (n : Int) := rfl
/-! ### a Merger in the heap -/
theorem look_put (f g : Str) (y : V) (fs : List (Str × V)) : ((f, y) :: fs).lookup g = if g = f then some y else fs.lookup g := by
  by_cases h : g = f
  · subst h
    simp [List.lookup]
  · rw [if_neg h]
    have e : (g == f) = false := by simpa using h
    simp [List.lookup, e]
def flds (R : Rcv) (S : MS) (d : Addr) : List (Str × V) :=
  [("marks", .int R.mks), ("ahead", .int R.ah), ("wait", .int R.wt), ("following", .int S.w), ("held", .ref d), ("clock", .int S.clk), ("old", .int S.old)]
section
variable {R : Rcv} {S : MS} {d : Addr}
theorem fl_marks : (flds R S d).lookup ("marks" : Str) = some (.int R.mks) := by
  unfold flds; rw [look_put, if_pos rfl]
theorem fl_ahead : (flds R S d).lookup ("ahead" : Str) = some (.int R.ah) := by
  unfold flds; rw [look_put, if_neg (by decide +kernel), look_put, if_pos rfl]
theorem fl_wait : (flds R S d).lookup ("wait" : Str) = some (.int R.wt) := by
  unfold flds; rw [look_put, if_neg (by decide +kernel), look_put, if_neg (by decide +kernel), look_put, if_pos rfl]
theorem fl_following : (flds R S d).lookup ("following" : Str) = some (.int S.w) := by
  unfold flds; rw [look_put, if_neg (by decide +kernel), look_put, if_neg (by decide +kernel), look_put, if_neg (by decide +kernel), look_put, if_pos rfl]
theorem fl_held : (flds R S d).lookup ("held" : Str) = some (.ref d) := by
  unfold flds; rw [look_put, if_neg (by decide +kernel), look_put, if_neg (by decide +kernel), look_put, if_neg (by decide +kernel), look_put, if_neg (by decide +kernel), look_put, if_pos rfl]
theorem fl_clock : (flds R S d).lookup ("clock" : Str) = some (.int S.clk) := by
  unfold flds; rw [look_put, if_neg (by decide +kernel), look_put, if_neg (by decide +kernel), look_put, if_neg (by decide +kernel), look_put, if_neg (by decide +kernel), look_put, if_neg (by decide +kernel), look_put, if_pos rfl]
theorem fl_old : (flds R S d).lookup ("old" : Str) = some (.int S.old) := by
  unfold flds; rw [look_put, if_neg (by decide +kernel), look_put, if_neg (by decide +kernel), look_put, if_neg (by decide +kernel), look_put, if_neg (by decide +kernel), look_put, if_neg (by decide +kernel), look_put, if_neg (by decide +kernel), look_put, if_pos rfl]
theorem fl_no {m : Str} (h : ([("marks" : Str), "ahead", "wait", "following", "held", "clock", "old"].all fun x => decide (m ≠ x)) = true) : (flds R S d).lookup m = none := by
  simp only [List.all_cons, List.all_nil, Bool.and_true, Bool.and_eq_true, decide_eq_true_eq] at h
  obtain ⟨h1, h2, h3, h4, h5, h6, h7⟩ := h
  unfold flds
  rw [look_put, if_neg h1, look_put, if_neg h2, look_put, if_neg h3, look_put, if_neg h4, look_put, if_neg h5, look_put, if_neg h6, look_put, if_neg h7]
  rfl
theorem putF_cons (f g : Str) (v y : V) (fs : List (Str × V)) : putF f v ((g, y) :: fs) = if g = f then (g, v) :: fs else (g, y) :: putF f v fs := rfl
theorem fp_following (w : Int) : putF "following" (.int w) (flds R S d) = flds R { S with w := w } d := by
  unfold flds; rw [putF_cons, if_neg (by decide +kernel), putF_cons, if_neg (by decide +kernel), putF_cons, if_neg (by decide +kernel), putF_cons, if_pos rfl]
theorem fp_clock (w : Int) : putF "clock" (.int w) (flds R S d) = flds R { S with clk := w } d := by
  unfold flds; rw [putF_cons, if_neg (by decide +kernel), putF_cons, if_neg (by decide +kernel), putF_cons, if_neg (by decide +kernel), putF_cons, if_neg (by decide +kernel), putF_cons, if_neg (by decide +kernel), putF_cons, if_pos rfl]
theorem fp_old (w : Int) : putF "old" (.int w) (flds R S d) = flds R { S with old := w } d := by
  unfold flds; rw [putF_cons, if_neg (by decide +kernel), putF_cons, if_neg (by decide +kernel), putF_cons, if_neg (by decide +kernel), putF_cons, if_neg (by decide +kernel), putF_cons, if_neg (by decide +kernel), putF_cons, if_neg (by decide +kernel), putF_cons, if_pos rfl]
end
/-- the dict's pairs: the numbers, and where the tuples stand -/
def kvsOf (ks : List (E3 × Addr)) : List (Key × V) := ks.map fun x => (Sum.inl x.1.1, V.ref x.2)
structure MAt (C : Addr) (H : Hp) (p d : Addr) (R : Rcv) (S : MS) (ks : List (E3 × Addr)) : Prop where
  ob : ∃ dx, H p = some (.ins C dx (flds R S d))
  dc : H d = some (.dK (kvsOf ks))
  en : ∀ x ∈ ks, H x.2 = some (.tup [.int x.1.2.1, .int x.1.2.2])
  eq : ks.map (·.1) = S.hs
/-- all but the Merger's two places stand -/
def Km (p d : Addr) (H H' : Hp) : Prop := ∀ b o, b ≠ p → b ≠ d → H b = some o → H' b = some o
theorem Km.refl (p d : Addr) (H : Hp) : Km p d H H := fun _ _ _ _ h => h
theorem Km.trans {p d : Addr} {H H1 H2 : Hp} (a : Km p d H H1) (b : Km p d H1 H2) : Km p d H H2 := fun c o n m h => b c o n m (a c o n m h)
theorem Km.of {p d : Addr} {H H' : Hp} (s : Same H H') : Km p d H H' := fun c o _ _ h => s c o h
theorem Km.putp {p d : Addr} {H H' : Hp} {o : HO} (a : Km p d H H') : Km p d H (upd H' p o) := fun c u n m h => by rw [upd_ne n]; exact a c u n m h
theorem Km.putd {p d : Addr} {H H' : Hp} {o : HO} (a : Km p d H H') : Km p d H (upd H' d o) := fun c u n m h => by rw [upd_ne m]; exact a c u n m h
theorem Km.mut {p d x : Addr} {H H' : Hp} {o : HO} (a : Km p d H H') (hx : H x = none) : Km p d H (upd H' x o) := fun c u n m h => by rw [upd_ne (ne_of_none h hx)]; exact a c u n m h
theorem Km.new {p d x : Addr} {H H' : Hp} {o : HO} (a : Km p d H H') (hx : H' x = none) : Km p d H (upd H' x o) := fun c u n m h => by
  have h1 := a c u n m h
  rw [upd_ne (ne_of_none h1 hx)]; exact h1
section
variable {C p d x : Addr} {H H' : Hp} {R : Rcv} {S : MS} {ks : List (E3 × Addr)}
theorem MAt.pd (M : MAt C H p d R S ks) : p ≠ d := fun z => by
  obtain ⟨dx, h⟩ := M.ob
  rw [z, M.dc] at h; cases h
theorem MAt.np {xs : List V} (M : MAt C H p d R S ks) (h : H x = some (.lst xs)) : x ≠ p := fun z => by
  obtain ⟨dx, h1⟩ := M.ob
  rw [← z, h] at h1; cases h1
theorem MAt.nd {xs : List V} (M : MAt C H p d R S ks) (h : H x = some (.lst xs)) : x ≠ d := fun z => by
  have h1 := M.dc
  rw [← z, h] at h1; cases h1
theorem MAt.tp {xs : List V} (M : MAt C H p d R S ks) (h : H x = some (.tup xs)) : x ≠ p := fun z => by
  obtain ⟨dx, h1⟩ := M.ob
  rw [← z, h] at h1; cases h1
theorem MAt.td {xs : List V} (M : MAt C H p d R S ks) (h : H x = some (.tup xs)) : x ≠ d := fun z => by
  have h1 := M.dc
  rw [← z, h] at h1; cases h1
theorem MAt.fp {o : HO} (M : MAt C H p d R S ks) (h : H x = none) : x ≠ p ∧ x ≠ d := by
  obtain ⟨dx, h1⟩ := M.ob
  exact ⟨(ne_of_none h1 h).symm, (ne_of_none M.dc h).symm⟩
theorem MAt.same (M : MAt C H p d R S ks) (s : Same H H') : MAt C H' p d R S ks := by
  obtain ⟨dx, h1⟩ := M.ob
  exact ⟨⟨dx, s _ _ h1⟩, s _ _ M.dc, fun x hx => s _ _ (M.en x hx), M.eq⟩
theorem MAt.new {o : HO} (M : MAt C H p d R S ks) (h : H x = none) : MAt C (upd H x o) p d R S ks := M.same (Same.upd_new h)
/-- a list beside it is changed -/
theorem MAt.aside {xs : List V} {o : HO} (M : MAt C H p d R S ks) (h : H x = some (.lst xs)) : MAt C (upd H x o) p d R S ks := by
  obtain ⟨dx, h1⟩ := M.ob
  exact ⟨⟨dx, by rw [upd_ne (M.np h).symm]; exact h1⟩, by rw [upd_ne (M.nd h).symm]; exact M.dc, fun x hx => by rw [upd_ne (tup_ne (M.en x hx) h)]; exact M.en x hx, M.eq⟩
/-- its fields are changed -/
theorem MAt.setp {S' : MS} {dx : Addr} (M : MAt C H p d R S ks) (he : S'.hs = S.hs) : MAt C (upd H p (.ins C dx (flds R S' d))) p d R S' ks :=
  ⟨⟨dx, upd_same⟩, by rw [upd_ne M.pd.symm]; exact M.dc, fun x hx => by rw [upd_ne (M.tp (M.en x hx))]; exact M.en x hx, by rw [M.eq, he]⟩
/-- its dict is changed -/
theorem MAt.setd {ks' : List (E3 × Addr)} (M : MAt C H p d R S ks) (he : ∀ x ∈ ks', H x.2 = some (.tup [.int x.1.2.1, .int x.1.2.2])) : MAt C (upd H d (.dK (kvsOf ks'))) p d R { S with hs := ks'.map (·.1) } ks' := by
  obtain ⟨dx, h1⟩ := M.ob
  exact ⟨⟨dx, by rw [upd_ne M.pd]; exact h1⟩, upd_same, fun x hx => by rw [upd_ne (M.td (he x hx))]; exact he x hx, rfl⟩
end
theorem val_none {ks : List (E3 × Addr)} {n : Int} (h : hasN (ks.map (·.1)) n = false) : valV (kvsOf ks) (Sum.inl n : Key) = none := by
  unfold valV kvsOf
  rw [Option.map_eq_none_iff, List.find?_eq_none]
  intro z hz
  obtain ⟨x, hx, rfl⟩ := List.mem_map.mp hz
  unfold hasN at h
  rw [List.any_eq_false] at h
  have := h x.1 (List.mem_map.mpr ⟨x, hx, rfl⟩)
  simpa using this
theorem val_some : ∀ {ks : List (E3 × Addr)} {n : Int}, hasN (ks.map (·.1)) n = true → ∃ x ∈ ks, x.1.1 = n ∧ valV (kvsOf ks) (Sum.inl n : Key) = some (.ref x.2) ∧ (ks.map (·.1)).find? (fun e => decide (e.1 = n)) = some x.1
  | [], n, h => by cases h
  | y :: ks, n, h => by
    by_cases c : y.1.1 = n
    · refine ⟨y, List.mem_cons_self, c, ?_, ?_⟩
      · show ((((Sum.inl y.1.1 : Key), V.ref y.2) :: kvsOf ks).find? _).map _ = _
        rw [List.find?_cons_of_pos (by simp [c])]
        rfl
      · rw [List.map_cons, List.find?_cons_of_pos (by simp [c])]
    · have h' : hasN (ks.map (·.1)) n = true := by
        obtain ⟨e, he, h1⟩ := has_iff.mp h
        rcases List.mem_cons.mp he with rfl | he
        · exact absurd h1 c
        · exact has_iff.mpr ⟨e, he, h1⟩
      obtain ⟨x, hx, h1, h2, h3⟩ := val_some h'
      refine ⟨x, List.mem_cons_of_mem _ hx, h1, ?_, ?_⟩
      · show ((((Sum.inl y.1.1 : Key), V.ref y.2) :: kvsOf ks).find? _).map _ = _
        rw [List.find?_cons_of_neg (by simp [c])]
        exact h2
      · rw [List.map_cons, List.find?_cons_of_neg (by simp [c])]
        exact h3
theorem drop_ks (ks : List (E3 × Addr)) (n : Int) : dropK (kvsOf ks) (Sum.inl n : Key) = kvsOf (ks.filter fun x => decide (x.1.1 ≠ n)) := by
  unfold dropK kvsOf
  rw [List.filter_map]
  congr 1
  apply List.filter_congr
  intro x _
  simp
theorem drop_hs (ks : List (E3 × Addr)) (n : Int) : (ks.filter fun x => decide (x.1.1 ≠ n)).map (·.1) = dropN (ks.map (·.1)) n := by
  unfold dropN
  rw [List.filter_map]
  rfl
theorem put_ks {ks : List (E3 × Addr)} {n : Int} {e : E3} {a : Addr} (he : e.1 = n) (h : hasN (ks.map (·.1)) n = false) : putK (kvsOf ks) (Sum.inl n : Key) (.ref a) = kvsOf (ks ++ [(e, a)]) := by
  rw [putK_new _ (val_none h)]
  unfold kvsOf
  rw [List.map_append, ← he]
  rfl
theorem keys_ks (ks : List (E3 × Addr)) : (kvsOf ks).map (·.1) = ((ks.map (·.1)).map (·.1)).map Sum.inl := by
  unfold kvsOf
  rw [List.map_map, List.map_map, List.map_map]
  rfl
theorem kvs_len (ks : List (E3 × Addr)) : (kvsOf ks).length = (ks.map (·.1)).length := by
  unfold kvsOf
  rw [List.length_map, List.length_map]
/-! ### go_out -/
def spGoOut (C : Addr) : Sp := fun vs H Q _ => ∃ (p d : Addr) (R : Rcv) (S : MS) (ks : List (E3 × Addr)), vs = [.ref p] ∧ MAt C H p d R S ks ∧ S.hs.length ≤ 100 ∧
  ∀ (q : Addr) (H' : Hp) (ks' : List (E3 × Addr)), H q = none → H' q = some (.lst ((go S.w S.hs).1.map V.int)) → MAt C H' p d R { S with w := (go S.w S.hs).2.1, hs := (go S.w S.hs).2.2 } ks' → Km p d H H' → Q (.ref q) H'
section
variable {P : Program} {w : World} {K : PySem.W.Frag} {mg : Str → Option Value} {base : Heap}
theorem ok_Merger_go_out (T : Txt K mg) : FnOk P w K mg base CX0 1 T.f_Merger_go_out T.fd_Merger_go_out P_Merger_go_out (spGoOut T.C_Merger) := by
  refine T.F_Merger_go_out.ok sc_Merger_go_out (fun vs H Q E h => ?_) (fun cdv A outer s H vs Q E hr h => ?_)
  · obtain ⟨p, d, R, S, ks, rfl, _⟩ := h
    rfl
  · obtain ⟨p, d, R, S, ks, rfl, M, hlen, k⟩ := h
    refine ⟨_, ((pss_cons (ps_set (i := 1) sc_Merger_go_out.nd rfl (Or.inl rfl) (pe_lst pa_nil))
  (pss_cons (ps_while PassesOwn.never (pt_cmp (pc_din (hu_of hr) (pe_fld (pv 0) rfl) (pe_fld (pv 0) rfl))) (pss_cons (ps_expr (pe_bm PySem.F.plainAttrs_list PySem.F.slot_list_append PySem.F.type_list_append mt_append (pv 1) (pa_cons (pe_ix ix_tup (pe_dpop1 (pe_fld (pv 0) rfl) (pe_fld (pv 0) rfl) ⟨rfl, rfl, rfl, rfl⟩) pe_int (fun _ _ => rfl)) pa_nil)))
  (pss_one (ps_fld (pv 0) (pe_op op_add (pe_fld (pv 0) rfl) pe_int) rfl))))
  (pss_one (ps_ret (pv 1)))))), ?_⟩
    refine ⟨by show 0 ≤ sizeLine; decide, fun f hf => ?_⟩
    refine ⟨fun m σ H' => ∃ (outs : List Int) (S' : MS) (ks' : List (E3 × Addr)), σ = [some (.ref p), some (.ref f)] ∧ m = S'.hs.length ∧ outs.length + m ≤ 100 ∧ S'.clk = S.clk ∧ S'.old = S.old ∧ H' f = some (.lst (outs.map V.int)) ∧ MAt T.C_Merger H' p d R S' ks' ∧
      go S.w S.hs = (outs ++ (go S'.w S'.hs).1, (go S'.w S'.hs).2) ∧ Km p d H H', ⟨_, [], S, ks, rfl, rfl, by simpa using hlen, rfl, rfl, upd_same, M.new hf, rfl, (Km.refl p d H).new hf⟩, ?_⟩
    rintro m σ H1 ⟨outs, S1, ks1, rfl, rfl, hsz, hck, hol, hf1, M1, hgo, k1⟩
    obtain ⟨dx, hp1⟩ := M1.ob
    have hd1 := M1.dc
    refine ⟨_, rfl, p, _, dx, _, _, rfl, hp1, T.cl_Merger, T.n_following, fl_following, _, rfl, p, _, dx, _, _, rfl, hp1, T.cl_Merger, T.n_held, fl_held, d, _, rfl, DGet.k (k := Sum.inl S1.w) hd1, _, rfl, ?_⟩
    have heq := M1.eq
    cases hh : hasN S1.hs S1.w with
    | false =>
      rw [val_none (by rw [heq]; exact hh)]
      refine iteF ⟨_, rfl, ?_⟩
      rw [go_none hh, List.append_nil] at hgo
      rw [hgo] at k
      exact k f H1 ks1 hf hf1 (by
        obtain ⟨w1, c1, o1, h1⟩ := S1
        dsimp only at *
        subst hck hol
        exact M1) k1
    | true =>
      obtain ⟨x, hx, hxn, hval, hfind⟩ := val_some (ks := ks1) (n := S1.w) (by rw [heq]; exact hh)
      rw [hval]
      rw [heq] at hfind
      refine iteT ⟨fun σ' H' => ∃ m', m' < S1.hs.length ∧ ∃ (outs : List Int) (S' : MS) (ks' : List (E3 × Addr)), σ' = [some (.ref p), some (.ref f)] ∧ m' = S'.hs.length ∧ outs.length + m' ≤ 100 ∧ S'.clk = S.clk ∧ S'.old = S.old ∧ H' f = some (.lst (outs.map V.int)) ∧ MAt T.C_Merger H' p d R S' ks' ∧
        go S.w S.hs = (outs ++ (go S'.w S'.hs).1, (go S'.w S'.hs).2) ∧ Km p d H H', fun σ' H' h => h, ?_⟩
      -- found.append(self.held.pop(self.following)[0])
      refine ⟨_, rfl, .inl ⟨rfl, _, SqL.of hf1⟩, ?_⟩
      refine ⟨_, rfl, p, _, dx, _, _, rfl, hp1, T.cl_Merger, T.n_held, fl_held, d, rfl, .inl ⟨_, .inl hd1⟩, _, rfl, p, _, dx, _, _, rfl, hp1, T.cl_Merger, T.n_following, fl_following, _, Sum.inl S1.w, _, hd1, rfl, hval, ?_⟩
      rw [drop_ks]
      have M2 := M1.setd (ks' := ks1.filter fun x => decide (x.1.1 ≠ S1.w)) fun x hx => M1.en x (List.mem_filter.mp hx).1
      have hxe : (upd H1 d (.dK (kvsOf (ks1.filter fun x => decide (x.1.1 ≠ S1.w))))) x.2 = some (.tup [.int x.1.2.1, .int x.1.2.2]) := by rw [upd_ne (M1.td (M1.en x hx))]; exact M1.en x hx
      refine ⟨x.2, _, _, _, rfl, rfl, SqT.of hxe, at0, ?_⟩
      have hf2 : (upd H1 d (.dK (kvsOf (ks1.filter fun x => decide (x.1.1 ≠ S1.w))))) f = some (.lst (outs.map V.int)) := by rw [upd_ne (M1.nd hf1)]; exact hf1
      refine ⟨f, _, _, rfl, rfl, hf2, small1000 (by rw [List.length_map]; omega), ?_⟩
      have M3 := M2.aside (o := .lst (outs.map V.int ++ [.int x.1.2.1])) hf2
      obtain ⟨dx3, hp3⟩ := M3.ob
      refine ⟨_, rfl, p, _, dx3, _, _, rfl, hp3, T.cl_Merger, T.n_following, fl_following, _, _, rfl, rfl, _, rfl, p, _, dx3, _, rfl, hp3, T.cl_Merger, T.n_following, by show 7 < 1000; decide, ?_⟩
      rw [fp_following]
      have M4 := M3.setp (S' := { S1 with w := S1.w + 1, hs := (ks1.filter fun x => decide (x.1.1 ≠ S1.w)).map (·.1) }) (dx := dx3) rfl
      have hlt : (dropN S1.hs S1.w).length < S1.hs.length := dropN_len hh
      have hds : (ks1.filter fun x => decide (x.1.1 ≠ S1.w)).map (·.1) = dropN S1.hs S1.w := by rw [drop_hs, heq]
      have k2 : Km p d H (upd (upd (upd H1 d (.dK (kvsOf (ks1.filter fun x => decide (x.1.1 ≠ S1.w))))) f (.lst (outs.map V.int ++ [.int x.1.2.1]))) p (.ins T.C_Merger dx3 (flds R { S1 with w := S1.w + 1, hs := (ks1.filter fun x => decide (x.1.1 ≠ S1.w)).map (·.1) } d))) := ((k1.putd).mut hf).putp
      refine ⟨(dropN S1.hs S1.w).length, hlt, outs ++ [x.1.2.1], { S1 with w := S1.w + 1, hs := (ks1.filter fun x => decide (x.1.1 ≠ S1.w)).map (·.1) }, _, rfl, by rw [hds], by rw [List.length_append]; show outs.length + 1 + _ ≤ 100; omega, hck, hol, ?_, M4, ?_, k2⟩
      · rw [upd_ne (M3.np upd_same), upd_same, List.map_append]
        rfl
      · rw [hgo, go_some hfind]
        dsimp only
        rw [hds, List.append_assoc]
        rfl
end
/-! ### need_receiver, __init__, come -/
def RcvAt (H : Hp) (q : Addr) (R : Rcv) : Prop := H q = some (.tup [.int R.mks, .int R.ah, .int R.wt])
def spNeedRcv : Sp := fun vs H Q _ => ∃ (q : Addr) (R : Rcv), vs = [.ref q] ∧ RcvAt H q R ∧ R.Ok ∧ Q .non H
def spMInit (C : Addr) : Sp := fun vs H Q _ => ∃ (p q dx : Addr) (R : Rcv), vs = [.ref p, .ref q] ∧ H p = some (.ins C dx []) ∧ RcvAt H q R ∧ R.Ok ∧
  ∀ (d : Addr) (H' : Hp), H d = none → MAt C H' p d R newM [] → (∀ b o, H b = some o → b ≠ p → H' b = some o) → Q .non H'
def spCome (C : Addr) : Sp := fun vs H Q _ => ∃ (p d : Addr) (R : Rcv) (S : MS) (ks : List (E3 × Addr)) (mark th : Int), vs = [.ref p, .int mark, .int th] ∧ MAt C H p d R S ks ∧ MOk R S ∧ R.Ok ∧ 0 ≤ mark ∧ mark < R.mks ∧
  ∀ (q : Addr) (H' : Hp) (ks' : List (E3 × Addr)), H q = none → H' q = some (.lst ((comeM R S mark th).1.map V.int)) → MAt C H' p d R (comeM R S mark th).2 ks' → Km p d H H' → Q (.ref q) H'
theorem flds_start (R : Rcv) (d : Addr) : putF "old" (.int 0) (putF "clock" (.int 0) (putF "held" (.ref d) (putF "following" (.int 0) (putF "wait" (.int R.wt) (putF "ahead" (.int R.ah) (putF "marks" (.int R.mks) [])))))) = flds R newM d := by
  have e0 : ∀ (f : Str) (v : V), putF f v [] = [(f, v)] := fun _ _ => rfl
  have s0 : putF "marks" (V.int R.mks) ([] : List (Str × V)) = [(("marks" : Str), (V.int R.mks))] := by
    rfl
  have s1 : putF "ahead" (V.int R.ah) ([(("marks" : Str), (V.int R.mks))] : List (Str × V)) = [(("marks" : Str), (V.int R.mks)), (("ahead" : Str), (V.int R.ah))] := by
    rw [putF_cons, if_neg (by decide +kernel), e0]
  have s2 : putF "wait" (V.int R.wt) ([(("marks" : Str), (V.int R.mks)), (("ahead" : Str), (V.int R.ah))] : List (Str × V)) = [(("marks" : Str), (V.int R.mks)), (("ahead" : Str), (V.int R.ah)), (("wait" : Str), (V.int R.wt))] := by
    rw [putF_cons, if_neg (by decide +kernel), putF_cons, if_neg (by decide +kernel), e0]
  have s3 : putF "following" (V.int 0) ([(("marks" : Str), (V.int R.mks)), (("ahead" : Str), (V.int R.ah)), (("wait" : Str), (V.int R.wt))] : List (Str × V)) = [(("marks" : Str), (V.int R.mks)), (("ahead" : Str), (V.int R.ah)), (("wait" : Str), (V.int R.wt)), (("following" : Str), (V.int 0))] := by
    rw [putF_cons, if_neg (by decide +kernel), putF_cons, if_neg (by decide +kernel), putF_cons, if_neg (by decide +kernel), e0]
  have s4 : putF "held" (V.ref d) ([(("marks" : Str), (V.int R.mks)), (("ahead" : Str), (V.int R.ah)), (("wait" : Str), (V.int R.wt)), (("following" : Str), (V.int 0))] : List (Str × V)) = [(("marks" : Str), (V.int R.mks)), (("ahead" : Str), (V.int R.ah)), (("wait" : Str), (V.int R.wt)), (("following" : Str), (V.int 0)), (("held" : Str), (V.ref d))] := by
    rw [putF_cons, if_neg (by decide +kernel), putF_cons, if_neg (by decide +kernel), putF_cons, if_neg (by decide +kernel), putF_cons, if_neg (by decide +kernel), e0]
  have s5 : putF "clock" (V.int 0) ([(("marks" : Str), (V.int R.mks)), (("ahead" : Str), (V.int R.ah)), (("wait" : Str), (V.int R.wt)), (("following" : Str), (V.int 0)), (("held" : Str), (V.ref d))] : List (Str × V)) = [(("marks" : Str), (V.int R.mks)), (("ahead" : Str), (V.int R.ah)), (("wait" : Str), (V.int R.wt)), (("following" : Str), (V.int 0)), (("held" : Str), (V.ref d)), (("clock" : Str), (V.int 0))] := by
    rw [putF_cons, if_neg (by decide +kernel), putF_cons, if_neg (by decide +kernel), putF_cons, if_neg (by decide +kernel), putF_cons, if_neg (by decide +kernel), putF_cons, if_neg (by decide +kernel), e0]
  have s6 : putF "old" (V.int 0) ([(("marks" : Str), (V.int R.mks)), (("ahead" : Str), (V.int R.ah)), (("wait" : Str), (V.int R.wt)), (("following" : Str), (V.int 0)), (("held" : Str), (V.ref d)), (("clock" : Str), (V.int 0))] : List (Str × V)) = [(("marks" : Str), (V.int R.mks)), (("ahead" : Str), (V.int R.ah)), (("wait" : Str), (V.int R.wt)), (("following" : Str), (V.int 0)), (("held" : Str), (V.ref d)), (("clock" : Str), (V.int 0)), (("old" : Str), (V.int 0))] := by
    rw [putF_cons, if_neg (by decide +kernel), putF_cons, if_neg (by decide +kernel), putF_cons, if_neg (by decide +kernel), putF_cons, if_neg (by decide +kernel), putF_cons, if_neg (by decide +kernel), putF_cons, if_neg (by decide +kernel), e0]
  rw [s0, s1, s2, s3, s4, s5, s6]
  rfl
theorem putF_len (f : Str) (v : V) : ∀ fs : List (Str × V), (putF f v fs).length ≤ fs.length + 1
  | [] => Nat.le_refl _
  | (g, y) :: fs => by
    rw [putF_cons]
    split
    · exact Nat.le_succ _
    · have := putF_len f v fs
      rw [List.length_cons, List.length_cons]
      omega
section
variable {P : Program} {w : World} {K : PySem.W.Frag} {mg : Str → Option Value} {base : Heap}
theorem ok_need_receiver (T : Txt K mg) : FnOk P w K mg base CX0 1 T.f_need_receiver T.fd_need_receiver P_need_receiver spNeedRcv := by
  refine T.F_need_receiver.ok sc_need_receiver (fun vs H Q E h => ?_) (fun cdv A outer s H vs Q E hr h => ?_)
  · obtain ⟨q, R, rfl, _⟩ := h
    rfl
  · obtain ⟨q, R, rfl, hq, hR, k⟩ := h
    refine ⟨_, ((pss_cons (ps_asg (pv 0) (pg_tup rfl (pgs_cons (pg_name (i := 1) sc_need_receiver.nd rfl (Or.inl rfl)) (pgs_cons (pg_name (i := 2) sc_need_receiver.nd rfl (Or.inl rfl)) (pgs_cons (pg_name (i := 3) sc_need_receiver.nd rfl (Or.inl rfl)) pgs_nil)))))
  (pss_cons (ps_if (pt_not (pt_chain op_le op_le pe_int (pv 1) (pe_glob rfl T.mg_MOST_MARKS T.rv_MOST_MARKS))) (pss_one ps_never) pss_nil)
  (pss_cons (ps_if (pt_not (pt_chain op_le op_lt pe_int (pv 2) (pv 1))) (pss_one ps_never) pss_nil)
  (pss_one (ps_if (pt_not (pt_chain op_le op_le pe_int (pv 3) (pe_glob rfl T.mg_MOST_WAIT T.rv_MOST_WAIT))) (pss_one ps_never) pss_nil)))))), ?_⟩
    refine ⟨_, rfl, q, _, rfl, SqT.of hq, rfl, _, _, rfl, _, _, rfl, _, _, rfl, rfl, ?_⟩
    refine ⟨_, rfl, _, _, rfl, rfl, _, rfl, iteD hR.m2 ⟨_, _, rfl, rfl, _, rfl, iteNS hR.m32 ?_⟩⟩
    refine ⟨_, rfl, _, _, rfl, rfl, _, rfl, iteD hR.a1 ⟨_, rfl, _, _, rfl, rfl, _, rfl, iteNS hR.am ?_⟩⟩
    refine ⟨_, rfl, _, _, rfl, rfl, _, rfl, iteD hR.w0 ⟨_, _, rfl, rfl, _, rfl, iteNS hR.w20 ?_⟩⟩
    exact k
theorem ok_Merger_init (T : Txt K mg) : FnOk P w K mg base CX0 2 T.f_Merger_init T.fd_Merger_init P_Merger_init (spMInit T.C_Merger) := by
  refine T.F_Merger_init.ok sc_Merger_init (fun vs H Q E h => ?_) (fun cdv A outer s H vs Q E hr h => ?_)
  · obtain ⟨p, q, dx, R, rfl, _⟩ := h
    rfl
  · obtain ⟨p, q, dx, R, rfl, hp, hq, hR, k⟩ := h
    refine ⟨_, ((pss_cons (ps_expr (pe_call (ok_need_receiver T) (hr.mono (by decide)) (by rfl) T.mg_need_receiver T.kp_need_receiver T.b_need_receiver .nil pass0 (pa_cons (pv 1) pa_nil)))
  (pss_cons (ps_asg (pv 1) (pg_tup rfl (pgs_cons (pg_fld (pv 0)) (pgs_cons (pg_fld (pv 0)) (pgs_cons (pg_fld (pv 0)) pgs_nil)))))
  (pss_cons (ps_fld (pv 0) pe_int rfl)
  (pss_cons (ps_fld (pv 0) pe_dnewK rfl)
  (pss_cons (ps_fld (pv 0) pe_int rfl)
  (pss_one (ps_fld (pv 0) pe_int rfl)))))))), ?_⟩
    refine ⟨_, rfl, q, R, rfl, hq, hR, ?_⟩
    refine ⟨_, rfl, q, _, rfl, SqT.of hq, rfl, _, _, rfl, _, rfl, p, T.C_Merger, dx, _, rfl, hp, T.cl_Merger, T.n_marks, by show 0 < 1000; decide, _, _, rfl, _, rfl, p, T.C_Merger, dx, _, rfl, upd_same, T.cl_Merger, T.n_ahead, by show 1 < 1000; decide,
      _, _, rfl, _, rfl, p, T.C_Merger, dx, _, rfl, upd_same, T.cl_Merger, T.n_wait, ?_, rfl, ?_⟩
    · exact Nat.lt_of_le_of_lt (putF_len _ _ _) (by show 2 < 1000; decide)
    · have l3 : (putF "wait" (.int R.wt) (putF "ahead" (.int R.ah) (putF "marks" (.int R.mks) []))).length ≤ 3 := Nat.le_trans (putF_len _ _ _) (Nat.succ_le_succ (Nat.le_trans (putF_len _ _ _) (Nat.le_refl 2)))
      have l4 := Nat.le_trans (putF_len "following" (.int 0) (putF "wait" (.int R.wt) (putF "ahead" (.int R.ah) (putF "marks" (.int R.mks) [])))) (Nat.succ_le_succ l3)
      refine ⟨_, rfl, p, T.C_Merger, dx, _, rfl, upd_same, T.cl_Merger, T.n_following, Nat.lt_of_le_of_lt l3 (by decide), ?_⟩
      intro d hd
      have hpd : p ≠ d := ne_of_none (o := .ins T.C_Merger dx (putF "following" (.int 0) (putF "wait" (.int R.wt) (putF "ahead" (.int R.ah) (putF "marks" (.int R.mks) []))))) upd_same hd
      have l5 := Nat.le_trans (putF_len "held" (.ref d) _) (Nat.succ_le_succ l4)
      have l6 := Nat.le_trans (putF_len "clock" (.int 0) _) (Nat.succ_le_succ l5)
      refine ⟨_, rfl, p, T.C_Merger, dx, _, rfl, (by rw [upd_ne hpd]; exact upd_same), T.cl_Merger, T.n_held, Nat.lt_of_le_of_lt l4 (by decide), ?_⟩
      refine ⟨_, rfl, p, T.C_Merger, dx, _, rfl, upd_same, T.cl_Merger, T.n_clock, Nat.lt_of_le_of_lt l5 (by decide), ?_⟩
      refine ⟨_, rfl, p, T.C_Merger, dx, _, rfl, upd_same, T.cl_Merger, T.n_old, Nat.lt_of_le_of_lt l6 (by decide), ?_⟩
      rw [flds_start]
      have hd0 : H d = none := by
        cases e : H d with
        | none => rfl
        | some o =>
          rw [upd_ne hpd.symm, upd_ne hpd.symm, upd_ne hpd.symm, upd_ne hpd.symm, e] at hd
          cases hd
      refine k d _ hd0 ⟨⟨dx, upd_same⟩, ?_, fun x hx => absurd hx List.not_mem_nil, rfl⟩ fun b o hb hn => ?_
      · rw [upd_ne hpd.symm, upd_ne hpd.symm, upd_ne hpd.symm]
        exact upd_same
      · rw [upd_ne hn, upd_ne hn, upd_ne hn, upd_ne (ne_of_none hb hd0), upd_ne hn, upd_ne hn, upd_ne hn, upd_ne hn]
        exact hb
theorem ok_Merger_come (T : Txt K mg) : FnOk P w K mg base CX0 2 T.f_Merger_come T.fd_Merger_come P_Merger_come (spCome T.C_Merger) := by
  refine T.F_Merger_come.ok sc_Merger_come (fun vs H Q E h => ?_) (fun cdv A outer s H vs Q E hr h => ?_)
  · obtain ⟨p, d, R, S, ks, mark, th, rfl, _⟩ := h
    rfl
  · obtain ⟨p, d, R, S, ks, mark, th, rfl, M, hM, hR, h0, h1, k⟩ := h
    refine ⟨_, ((pss_cons (ps_if (pt_not (pt_chain op_le op_lt pe_int (pv 1) (pe_fld (pv 0) rfl))) (pss_one ps_never) pss_nil)
  (pss_cons (ps_set (i := 3) sc_Merger_come.nd rfl (Or.inl rfl) (pe_op op_mod (pe_op op_sub (pv 1) (pe_fld (pv 0) rfl)) (pe_fld (pv 0) rfl)))
  (pss_cons (ps_if (PW.pt (pw_or (pt_cmpR op_ge (pv 3) (pe_fld (pv 0) rfl) (nomark _)) (pw_or1 (pt_cmp (pc_din (hu_of hr) (pe_op op_add (pe_fld (pv 0) rfl) (pv 3)) (pe_fld (pv 0) rfl)))))) (pss_cons (ps_fld (pv 0) (pe_op op_add (pe_fld (pv 0) rfl) pe_int) rfl)
  (pss_one (ps_ret (pe_lst pa_nil)))) pss_nil)
  (pss_cons (ps_dput (hu_of hr) (pe_fld (pv 0) rfl) (pe_op op_add (pe_fld (pv 0) rfl) (pv 3)) (pe_tup (pa_cons (pv 2) (pa_cons (pe_fld (pv 0) rfl) pa_nil))) rfl)
  (pss_one (ps_ret (pe_meth0 (pv 0) T.cl_Merger T.m_Merger_go_out (ok_Merger_go_out T) (hr.mono (by decide)) T.b_Merger_go_out .nil pass0)))))))), ?_⟩
    obtain ⟨dx, hp⟩ := M.ob
    have hd := M.dc
    have heq := M.eq
    have hlen := hM.len hR
    refine ⟨_, rfl, _, _, rfl, rfl, _, rfl, iteD h0 ⟨_, rfl, p, _, dx, _, _, rfl, hp, T.cl_Merger, T.n_marks, fl_marks, _, _, rfl, rfl, _, rfl, iteNS h1 ?_⟩⟩
    refine ⟨_, rfl, _, rfl, p, _, dx, _, _, rfl, hp, T.cl_Merger, T.n_following, fl_following, _, _, rfl, rfl, _, rfl, p, _, dx, _, _, rfl, hp, T.cl_Merger, T.n_marks, fl_marks, _, _, rfl, rfl, (by have := hR.m2; show 0 < R.mks; omega), ?_⟩
    -- let be
    have rest : ∀ c : (mark - S.w) % R.mks ≥ R.ah ∨ hasN S.hs (S.w + (mark - S.w) % R.mks) = true, ∀ q : Addr, (upd H p (.ins T.C_Merger dx (putF "old" (.int (S.old + 1)) (flds R S d)))) q = none →
        Q (.ref q) (upd (upd H p (.ins T.C_Merger dx (putF "old" (.int (S.old + 1)) (flds R S d)))) q (.lst [])) := fun c q hq => by
      rw [fp_old] at hq ⊢
      have e : comeM R S mark th = ([], { S with old := S.old + 1 }) := if_pos c
      rw [e] at k
      have qp : q ≠ p := fun z => by rw [z, upd_same] at hq; cases hq
      rw [upd_ne qp] at hq
      have M2 : MAt T.C_Merger (upd H p (.ins T.C_Merger dx (flds R { S with old := S.old + 1 } d))) p d R { S with old := S.old + 1 } ks := M.setp rfl
      exact k q _ ks hq upd_same (M2.new (by rw [upd_ne qp]; exact hq)) (((Km.refl p d H).putp).mut hq)
    refine ⟨_, rfl, _, rfl, p, _, dx, _, _, rfl, hp, T.cl_Merger, T.n_ahead, fl_ahead, _, _, rfl, rfl, _, rfl, ?_⟩
    refine ite2 (fun hc => ?_) (fun hc => ?_)
    · refine iteT ⟨_, rfl, p, _, dx, _, _, rfl, hp, T.cl_Merger, T.n_old, fl_old, _, _, rfl, rfl, _, rfl, p, _, dx, _, rfl, hp, T.cl_Merger, T.n_old, by show 7 < 1000; decide, by show 0 ≤ sizeLine; decide, rest (.inl (of_decide_eq_true hc))⟩
    · have c1 : ¬ (mark - S.w) % R.mks ≥ R.ah := fun z => hc (decide_eq_true z)
      refine ⟨_, rfl, p, _, dx, _, _, rfl, hp, T.cl_Merger, T.n_following, fl_following, _, rfl, _, _, rfl, rfl, _, rfl, p, _, dx, _, _, rfl, hp, T.cl_Merger, T.n_held, fl_held, d, _, rfl, DGet.k (k := Sum.inl (S.w + (mark - S.w) % R.mks)) hd, _, rfl, ?_⟩
      cases hh : hasN S.hs (S.w + (mark - S.w) % R.mks) with
      | true =>
        obtain ⟨x, hx, hxn, hval, hfind⟩ := val_some (ks := ks) (n := S.w + (mark - S.w) % R.mks) (by rw [heq]; exact hh)
        rw [hval]
        refine iteT ⟨_, rfl, p, _, dx, _, _, rfl, hp, T.cl_Merger, T.n_old, fl_old, _, _, rfl, rfl, _, rfl, p, _, dx, _, rfl, hp, T.cl_Merger, T.n_old, by show 7 < 1000; decide, by show 0 ≤ sizeLine; decide, rest (.inr hh)⟩
      | false =>
        rw [val_none (by rw [heq]; exact hh)]
        refine iteF ?_
        refine ⟨_, rfl, _, rfl, p, _, dx, _, _, rfl, hp, T.cl_Merger, T.n_clock, fl_clock, by show 2 ≤ sizeLine; decide, fun t ht => ?_⟩
        have Mt := M.new (o := .tup [.int th, .int S.clk]) ht
        obtain ⟨dx2, hp2⟩ := Mt.ob
        have hd2 := Mt.dc
        refine ⟨_, rfl, p, _, dx2, _, _, rfl, hp2, T.cl_Merger, T.n_held, fl_held, _, rfl, p, _, dx2, _, _, rfl, hp2, T.cl_Merger, T.n_following, fl_following, _, rfl, _, _, rfl, rfl, d, _, rfl, DPut.k (k := Sum.inl (S.w + (mark - S.w) % R.mks)) hd2 (small1000 (by rw [kvs_len, heq]; omega)), ?_⟩
        rw [put_ks (e := (S.w + (mark - S.w) % R.mks, th, S.clk)) rfl (by rw [heq]; exact hh)]
        have M3 := Mt.setd (ks' := ks ++ [((S.w + (mark - S.w) % R.mks, th, S.clk), t)]) fun x hx => by
          rcases List.mem_append.mp hx with hx | hx
          · exact Mt.en x hx
          · rw [List.mem_singleton.mp hx]
            exact upd_same
        have e3 : (ks ++ [((S.w + (mark - S.w) % R.mks, th, S.clk), t)]).map (·.1) = S.hs ++ [(S.w + (mark - S.w) % R.mks, th, S.clk)] := by rw [List.map_append, heq]; rfl
        rw [e3] at M3
        obtain ⟨dx3, hp3⟩ := M3.ob
        have e : comeM R S mark th = ((go S.w (S.hs ++ [(S.w + (mark - S.w) % R.mks, th, S.clk)])).1, { S with w := (go S.w (S.hs ++ [(S.w + (mark - S.w) % R.mks, th, S.clk)])).2.1, hs := (go S.w (S.hs ++ [(S.w + (mark - S.w) % R.mks, th, S.clk)])).2.2 }) := if_neg (by
          rintro (z | z)
          · exact c1 z
          · rw [hh] at z; cases z)
        rw [e] at k
        have k3 : Km p d H (upd (upd H t (.tup [.int th, .int S.clk])) d (.dK (kvsOf (ks ++ [((S.w + (mark - S.w) % R.mks, th, S.clk), t)])))) := ((Km.refl p d H).new ht).putd
        refine ⟨_, rfl, p, dx3, _, rfl, hp3, fl_no (by decide +kernel), p, d, R, _, _, rfl, M3, by rw [List.length_append]; show S.hs.length + 1 ≤ 100; omega, fun q H' ks' hq hq' M' k' => ?_⟩
        have hqH : H q = none := by
          cases e : H q with
          | none => rfl
          | some o =>
            have qd := (M3.fp (o := .lst []) hq).2
            have qt : q ≠ t := ne_of_none e ht
            rw [upd_ne qd, upd_ne qt, e] at hq
            cases hq
        exact k q H' ks' hqH hq' M' (k3.trans k')
end
/-! ### a comprehension over a locked dict's keys -/
theorem lc_keys {d : Addr} {o : Obj} {kvs : List (Key × V)} {g : TG} {tt : TT} {te : TE} {vs : List Nat} {σ : L2.St} {H1 : Hp} {D : Addr} {Qd : Hp → Prop} (Pv : Nat → Hp → Prop) (h0 : Pv 0 (upd H1 D (.lst [])))
    (hl : ∀ i H, i ≤ kvs.length → Pv i H → H d = some (.frz o (.dK kvs)))
    (hs : ∀ i k v H, kvs[i]? = some (k, v) → Pv i H → g (kV k) (wipe σ vs) H fun σ2 H2 => wipe σ2 vs = wipe σ vs ∧ tt σ2 H2 fun b H3 =>
      if b = true then te σ2 H3 fun y H4 => ∃ acc, H4 D = some (.lst acc) ∧ acc.length < sizeLine ∧ Pv (i + 1) (upd H4 D (.lst (acc ++ [y]))) else Pv (i + 1) H3) (hd : ∀ H, Pv kvs.length H → Qd H) :
    ∃ W : Nat → Nat → Hp → Prop, (∃ m, W 0 m (upd H1 D (.lst []))) ∧ ∀ i m H, W i m H →
      ((Itk d o kvs).stop i H ∧ Qd H) ∨ ((Itk d o kvs).go i H ∧ ∃ Nx : Hp → Prop, (∀ H', Nx H' → ∃ m', m' < m ∧ W (i + 1) m' H') ∧ ∀ x H', (Itk d o kvs).yld i H x H' → g x (wipe σ vs) H' fun σ2 H2 => wipe σ2 vs = wipe σ vs ∧ tt σ2 H2 fun b H3 =>
        if b = true then te σ2 H3 fun y H4 => ∃ acc, H4 D = some (.lst acc) ∧ acc.length < sizeLine ∧ Nx (upd H4 D (.lst (acc ++ [y]))) else Nx H3) := by
  refine ⟨fun i m H => m = kvs.length - i ∧ i ≤ kvs.length ∧ Pv i H, ⟨kvs.length, by simp, Nat.zero_le _, h0⟩, ?_⟩
  rintro i m H ⟨rfl, hi, p⟩
  have q := hl i H hi p
  by_cases hlt : i < kvs.length
  · refine .inr ⟨⟨q, hlt⟩, Pv (i + 1), fun H' p' => ⟨kvs.length - (i + 1), by omega, rfl, hlt, p'⟩, fun x H' y => ?_⟩
    obtain ⟨e, k, v, h1, h2⟩ := y
    subst e
    subst h2
    exact hs i k v _ h1 p
  · have e : i = kvs.length := by omega
    subst e
    exact .inl ⟨⟨q, Nat.le_refl _⟩, hd H p⟩
/-! ### is_wanted, close -/
def spWanted (C : Addr) : Sp := fun vs H Q _ => ∃ (p d : Addr) (R : Rcv) (S : MS) (ks : List (E3 × Addr)) (n : Int), vs = [.ref p, .int n] ∧ MAt C H p d R S ks ∧ (S.hs.map (·.1)).Nodup ∧ S.hs.length < 64 ∧ ∀ H', Same H H' → Q (.bl (wantedN R.wt S.clk S.hs n)) H'
def spClose (C : Addr) : Sp := fun vs H Q _ => ∃ (p d : Addr) (R : Rcv) (S : MS) (ks : List (E3 × Addr)), vs = [.ref p] ∧ MAt C H p d R S ks ∧ MOk R S ∧ R.Ok ∧
  ∀ (q : Addr) (H' : Hp) (ks' : List (E3 × Addr)), H q = none → H' q = some (.lst ((closeM R S).1.map V.int)) → MAt C H' p d R (closeM R S).2 ks' → Km p d H H' → Q (.ref q) H'
def spDropped (C : Addr) : Sp := fun vs H Q _ => ∃ (p d : Addr) (R : Rcv) (S : MS) (ks : List (E3 × Addr)), vs = [.ref p] ∧ MAt C H p d R S ks ∧ Q (.int S.old) H
/-- the pairs' place by place -/
theorem kvs_at {ks : List (E3 × Addr)} {i : Nat} {k : Key} {v : V} (h : (kvsOf ks)[i]? = some (k, v)) : ∃ x ∈ ks, ks[i]? = some x ∧ k = Sum.inl x.1.1 ∧ v = .ref x.2 := by
  unfold kvsOf at h
  rw [List.getElem?_map] at h
  obtain ⟨x, hx, e⟩ := Option.map_eq_some_iff.mp h
  cases e
  exact ⟨x, List.mem_of_getElem? hx, hx, rfl, rfl⟩
theorem val_at {ks : List (E3 × Addr)} (nd : ((ks.map (·.1)).map (·.1)).Nodup) {x : E3 × Addr} (hx : x ∈ ks) : valV (kvsOf ks) (Sum.inl x.1.1 : Key) = some (.ref x.2) := by
  obtain ⟨y, hy, h1, h2, h3⟩ := val_some (ks := ks) (n := x.1.1) (has_iff.mpr ⟨x.1, List.mem_map.mpr ⟨x, hx, rfl⟩, rfl⟩)
  rw [h2]
  have : y = x := by
    rw [List.map_map] at nd
    obtain ⟨i, hi⟩ := List.getElem?_of_mem hx
    obtain ⟨j, hj⟩ := List.getElem?_of_mem hy
    have ei : (ks.map ((fun e : E3 => e.1) ∘ fun z : E3 × Addr => z.1))[i]? = some x.1.1 := by rw [List.getElem?_map, hi]; rfl
    have ej : (ks.map ((fun e : E3 => e.1) ∘ fun z : E3 × Addr => z.1))[j]? = some x.1.1 := by rw [List.getElem?_map, hj]; exact congrArg some h1
    have := nd_ix nd ei ej
    subst this
    rw [hi] at hj
    exact (Option.some.inj hj).symm
  rw [this]
section
variable {P : Program} {w : World} {K : PySem.W.Frag} {mg : Str → Option Value} {base : Heap}
theorem ok_Merger_is_wanted (T : Txt K mg) : FnOk P w K mg base CX0 1 T.f_Merger_is_wanted T.fd_Merger_is_wanted P_Merger_is_wanted (spWanted T.C_Merger) := by
  refine T.F_Merger_is_wanted.ok sc_Merger_is_wanted (fun vs H Q E h => ?_) (fun cdv A outer s H vs Q E hr h => ?_)
  · obtain ⟨p, d, R, S, ks, n, rfl, _⟩ := h
    rfl
  · obtain ⟨p, d, R, S, ks, n, rfl, M, hM, hlen, k⟩ := h
    refine ⟨_, ((pss_cons (ps_if (pt_cmp (pc_dnotin (hu_of hr) (pv 1) (pe_fld (pv 0) rfl))) (pss_one (ps_ret pe_bl)) pss_nil)
  (pss_one (ps_ret (pe_cmpR (op_neD hr.units) (pe_lock (pe_lc (own := [("one", 2)]) (g := gName 2) rfl sc_Merger_is_wanted.nd (pi_keys (pe_fld (pv 0) rfl)) (blkOk_by (N := N_Merger_is_wanted) (sc := (defScope s_Merger_is_wanted)) (own := [("one", 2)]) (by decide +kernel)) (fun _ _ _ _ _ => (pg_name (i := 2) sc_Merger_is_wanted.nd rfl (Or.inl rfl))) (fun _ _ _ _ _ => pts_one (PW.pt (pw_and (pt_cmpR op_ge (pv 2) (pv 1) (nomark _)) (pw_and1 (pt_cmpR op_ge (pe_op op_sub (fldK (K := K) rfl (pv 0) rfl) (pe_ix (ixK_tup (K := K) rfl) (pe_dget (hu_of hr) (fldK (K := K) rfl (pv 0) rfl) (pv 2) (fun _ _ => rfl)) pe_int (fun _ _ => rfl))) (fldK (K := K) rfl (pv 0) rfl) (nomark _)))))) (fun _ _ _ _ _ => (pv 2)))) (pe_lst pa_nil) (nomark _)))))), ?_⟩
    obtain ⟨dx, hp⟩ := M.ob
    have hd := M.dc
    have heq := M.eq
    refine ⟨_, rfl, _, rfl, p, _, dx, _, _, rfl, hp, T.cl_Merger, T.n_held, fl_held, d, _, rfl, DGet.k (k := Sum.inl n) hd, _, rfl, ?_⟩
    cases hh : hasN S.hs n with
    | false =>
      rw [val_none (by rw [heq]; exact hh)]
      have e : wantedN R.wt S.clk S.hs n = false := by unfold wantedN; rw [hh]; rfl
      rw [e] at k
      exact iteT (k H (Same.refl H))
    | true =>
      obtain ⟨x0, hx0, hxn, hval, hfind⟩ := val_some (ks := ks) (n := n) (by rw [heq]; exact hh)
      rw [hval]
      refine iteF ?_
      refine ⟨d, _, hd, True.intro, fun od => ?_⟩
      have hpd := M.pd
      have L : ∀ b o, b ≠ d → H b = some o → (upd H d (.frz od (.dK (kvsOf ks)))) b = some o := fun b o n h => by rw [upd_ne n]; exact h
      have Ld : (upd H d (.frz od (.dK (kvsOf ks)))) d = some (.frz od (.dK (kvsOf ks))) := upd_same
      have Lf : ∀ b, (upd H d (.frz od (.dK (kvsOf ks)))) b = none → H b = none ∧ b ≠ d := fun b hb => by
        have n : b ≠ d := fun z => by rw [z, upd_same] at hb; cases hb
        rw [upd_ne n] at hb
        exact ⟨hb, n⟩
      revert L Ld Lf
      generalize (upd H d (.frz od (.dK (kvsOf ks)))) = HL
      intro L Ld Lf
      have hpL := L _ _ hpd hp
      let pass : E3 × Addr → Bool := fun x => decide (n ≤ x.1.1) && decide (S.clk - x.1.2.2 ≥ R.wt)
      refine ⟨_, rfl, p, _, dx, _, _, rfl, hpL, T.cl_Merger, T.n_held, fl_held, d, od, rfl, .inl ⟨_, Ld, fun D hD => lc_keys (d := d) (o := od) (kvs := kvsOf ks) (fun i H' => Same HL H' ∧ H' D = some (.lst ((((ks.take i).filter pass).map fun x => x.1.1).map V.int))) ⟨Same.upd_new hD, upd_same⟩ (fun i H' _ z => z.1 _ _ Ld) ?_ ?_⟩⟩
      · rintro i kk v H1 hi ⟨s1, h1⟩
        obtain ⟨x, hx, hxi, rfl, rfl⟩ := kvs_at hi
        have hpx := s1 _ _ hpL
        have hvx := val_at (ks := ks) (by rw [heq]; exact hM) hx
        have hxe : H1 x.2 = some (.tup [.int x.1.2.1, .int x.1.2.2]) := s1 _ _ (L _ _ (M.td (M.en x hx)) (M.en x hx))
        have et : (ks.take (i + 1)).filter pass = if pass x = true then (ks.take i).filter pass ++ [x] else (ks.take i).filter pass := by
          rw [take_succ_of hxi, List.filter_append]
          cases hpx : pass x with
          | true => rw [if_pos rfl, List.filter_cons_of_pos hpx]; rfl
          | false => rw [if_neg (by decide), List.filter_cons_of_neg (by rw [hpx]; decide)]; exact List.append_nil _
        rw [et]
        refine ⟨rfl, _, rfl, _, rfl, _, _, rfl, rfl, _, rfl, ?_⟩
        refine ite2 (fun hc => ?_) (fun hc => ?_)
        · refine ⟨_, rfl, p, _, dx, _, _, rfl, hpx, T.cl_Merger, T.n_clock, fl_clock, _, rfl, p, _, dx, _, _, rfl, hpx, T.cl_Merger, T.n_held, fl_held, _, rfl, d, _, rfl, .inl ⟨_, Sum.inl x.1.1, .inr ⟨od, s1 _ _ Ld⟩, rfl, hvx.symm⟩, x.2, _, _, _, rfl, rfl, SqT.of hxe, at1, _, _, rfl, rfl, _, rfl, p, _, dx, _, _, rfl, hpx, T.cl_Merger, T.n_wait, fl_wait, _, _, rfl, rfl, _, rfl, ?_⟩
          refine ite2 (fun hc2 => ?_) (fun hc2 => ?_)
          · have e : pass x = true := by
              show (decide (n ≤ x.1.1) && decide (S.clk - x.1.2.2 ≥ R.wt)) = true
              rw [Bool.and_eq_true]; exact ⟨hc, hc2⟩
            rw [if_pos e]
            refine ⟨_, rfl, _, h1, ?_, s1.mut hD, ?_⟩
            · have l1 : ((ks.take i).filter pass).length ≤ ks.length := Nat.le_trans (List.length_filter_le _ _) (by rw [List.length_take]; omega)
              have l2 : ks.length = S.hs.length := by rw [← heq, List.length_map]
              exact small1000 (by rw [List.length_map, List.length_map]; omega)
            · rw [List.map_append, List.map_append]
              exact upd_same
          · have e : ¬ pass x = true := fun z => by
              have z : (decide (n ≤ x.1.1) && decide (S.clk - x.1.2.2 ≥ R.wt)) = true := z
              rw [Bool.and_eq_true] at z
              exact hc2 z.2
            rw [if_neg e]
            exact ⟨s1, h1⟩
        · have e : ¬ pass x = true := fun z => by
            have z : (decide (n ≤ x.1.1) && decide (S.clk - x.1.2.2 ≥ R.wt)) = true := z
            rw [Bool.and_eq_true] at z
            exact hc z.1
          rw [if_neg e]
          exact iteF ⟨s1, h1⟩
      · rintro H1 ⟨s1, h1⟩
        have hkl : (kvsOf ks).length = ks.length := by unfold kvsOf; rw [List.length_map]
        rw [hkl, List.take_length] at h1
        refine ⟨s1 _ _ Ld, by show 0 ≤ sizeLine; decide, fun l hl => ?_⟩
        have hDd : D ≠ d := (Lf D hD).2
        have hld : l ≠ d := fun z => by rw [z, upd_same] at hl; cases hl
        have hD2 : (upd (upd H1 d (.dK (kvsOf ks))) l (.lst [])) D = some (.lst (((ks.filter pass).map fun x => x.1.1).map V.int)) := by
          rw [upd_ne (fun z => by rw [← z, upd_ne hDd, h1] at hl; cases hl), upd_ne hDd]
          exact h1
        refine ⟨.list (((ks.filter pass).map fun x => x.1.1).map PyData.int), .list [], .lst (SqL.of hD2) (dp_ints _), .lst (SqL.of upd_same) .nil, shaped_ints _, rfl, ?_⟩
        rw [eqv_ints]
        have e : (!((ks.filter pass).map fun x => x.1.1).isEmpty) = wantedN R.wt S.clk S.hs n := by
          unfold wantedN
          rw [hh, Bool.true_and, ← heq]
          unfold longN
          rw [List.any_map]
          cases hq : ks.any ((fun e : E3 => decide (n ≤ e.1) && decide (S.clk - e.2.2 ≥ R.wt)) ∘ fun x => x.1) with
          | true =>
            obtain ⟨x, hx, hx2⟩ := List.any_eq_true.mp hq
            have hm : x ∈ ks.filter pass := List.mem_filter.mpr ⟨hx, hx2⟩
            cases hf : ks.filter pass with
            | nil => rw [hf] at hm; cases hm
            | cons y l => rfl
          | false =>
            rw [List.any_eq_false] at hq
            have hf : ks.filter pass = [] := List.filter_eq_nil_iff.mpr fun x hx => hq x hx
            rw [hf]
            rfl
        rw [e]
        refine k _ fun b o hb => ?_
        by_cases hbd : b = d
        · rw [hbd] at hb ⊢
          rw [upd_ne hld.symm, upd_same]
          rw [hd] at hb
          exact hb
        · have hb1 := s1 _ _ (L b o hbd hb)
          rw [upd_ne (fun z => by rw [← z, upd_ne hbd, hb1] at hl; cases hl), upd_ne hbd]
          exact hb1
theorem ok_Merger_close (T : Txt K mg) : FnOk P w K mg base CX0 2 T.f_Merger_close T.fd_Merger_close P_Merger_close (spClose T.C_Merger) := by
  refine T.F_Merger_close.ok sc_Merger_close (fun vs H Q E h => ?_) (fun cdv A outer s H vs Q E hr h => ?_)
  · obtain ⟨p, d, R, S, ks, rfl, _⟩ := h
    rfl
  · obtain ⟨p, d, R, S, ks, rfl, M, hM, hR, k⟩ := h
    refine ⟨_, ((pss_cons (ps_set (i := 1) sc_Merger_close.nd rfl (Or.inl rfl) (pe_lst pa_nil))
  (pss_cons (ps_for PassesOwn.never rfl (pi_list (pe_callB (call_sortedDI rfl) (by rfl) T.z_sorted (by decide +kernel) (pa_cons (pe_fld (pv 0) rfl) pa_nil))) (pg_name (i := 2) sc_Merger_close.nd rfl (Or.inl rfl))
  (pss_one (ps_if (pt_val (pe_meth (pv 0) T.cl_Merger T.m_Merger_is_wanted (ok_Merger_is_wanted T) (hr.mono (by decide)) T.b_Merger_is_wanted .nil pass0 (pa_cons (pv 2) pa_nil))) (pss_cons (ps_fld (pv 0) (pv 2) rfl)
  (pss_one (ps_expr (pe_bm PySem.F.plainAttrs_list PySem.F.slot_list_extend PySem.F.type_list_extend mt_extend (pv 1) (pa_cons (pe_meth0 (pv 0) T.cl_Merger T.m_Merger_go_out (ok_Merger_go_out T) (hr.mono (by decide)) T.b_Merger_go_out .nil pass0) pa_nil))))) pss_nil)))
  (pss_cons (ps_fld (pv 0) (pe_op op_add (pe_fld (pv 0) rfl) pe_int) rfl)
  (pss_one (ps_ret (pv 1))))))), ?_⟩
    obtain ⟨dx, hp⟩ := M.ob
    have hd := M.dc
    have heq := M.eq
    have hlen := hM.len hR
    refine ⟨by show 0 ≤ sizeLine; decide, fun f hf => ?_⟩
    have Mf := M.new (o := .lst []) hf
    have hpf : (upd H f (.lst [])) p = some (.ins T.C_Merger dx (flds R S d)) := by rw [upd_ne (ne_of_none hp hf)]; exact hp
    refine ⟨_, rfl, p, _, dx, _, _, rfl, hpf, T.cl_Merger, T.n_held, fl_held, d, _, S.hs.map (·.1), rfl, .inl Mf.dc, by rw [keys_ks, heq], by rw [List.length_map]; exact hlen, fun ys sl hperm hup hs => ?_⟩
    have hys : ys = keysN S.hs := sortI_eq hup hperm
    subst hys
    have k0 : Km p d H (upd (upd H f (.lst [])) sl (.lst ((keysN S.hs).map V.int))) := ((Km.refl p d H).new hf).new hs
    have M0 := Mf.new (o := .lst ((keysN S.hs).map V.int)) hs
    have hf0 : (upd (upd H f (.lst [])) sl (.lst ((keysN S.hs).map V.int))) f = some (.lst (([] : List Int).map V.int)) := by rw [upd_ne (ne_of_none (o := .lst []) upd_same hs)]; exact upd_same
    have hs0 : (upd (upd H f (.lst [])) sl (.lst ((keysN S.hs).map V.int))) sl = some (.lst ((keysN S.hs).map V.int)) := upd_same
    have sp := M0.np hs0
    have sd := M0.nd hs0
    have sf : sl ≠ f := (ne_of_none (o := .lst []) upd_same hs).symm
    revert k0 M0 hf0 hs0
    generalize (upd (upd H f (.lst [])) sl (.lst ((keysN S.hs).map V.int))) = H0
    intro k0 M0 hf0 hs0
    refine ⟨sl, rfl, ⟨_, SqL.of hs0⟩, for_list (K := K) (a := sl) (xs := (keysN S.hs).map V.int) (fun i σ H' => ∃ (v2 : Option V) (outs : List Int) (S' : MS) (ks' : List (E3 × Addr)), σ = [some (.ref p), some (.ref f), v2] ∧ S'.clk = S.clk ∧ S'.old = S.old ∧ S'.hs.Sublist S.hs ∧ outs.length + S'.hs.length ≤ 100 ∧
      H' f = some (.lst (outs.map V.int)) ∧ H' sl = some (.lst ((keysN S.hs).map V.int)) ∧ MAt T.C_Merger H' p d R S' ks' ∧ Km p d H H' ∧
      closeF R.wt S.clk (keysN S.hs) S.w S.hs = (outs ++ (closeF R.wt S.clk ((keysN S.hs).drop i) S'.w S'.hs).1, (closeF R.wt S.clk ((keysN S.hs).drop i) S'.w S'.hs).2))
      ⟨none, [], S, ks, rfl, rfl, rfl, List.Sublist.refl _, by show 0 + S.hs.length ≤ 100; omega, hf0, hs0, M0, k0, rfl⟩ (fun i σ H' _ ⟨_, _, _, _, _, _, _, _, _, _, z, _⟩ => SqL.of z) ?_ ?_⟩
    · rintro i x σ H1 hi ⟨v2, outs, S1, ks1, rfl, hck, hol, hsub, hsz, hf1, hs1, M1, k1, hcl⟩
      rw [List.getElem?_map] at hi
      obtain ⟨n, hn, rfl⟩ := Option.map_eq_some_iff.mp hi
      have hdrop : (keysN S.hs).drop i = n :: (keysN S.hs).drop (i + 1) := by
        obtain ⟨h1, h2⟩ := List.getElem?_eq_some_iff.mp hn
        rw [List.drop_eq_getElem_cons h1, h2]
      rw [hdrop] at hcl
      refine ⟨_, rfl, p, ?_⟩
      obtain ⟨dx1, hp1⟩ := M1.ob
      have hl1 : S1.hs.length < 64 := Nat.lt_of_le_of_lt hsub.length_le hlen
      refine ⟨dx1, _, rfl, hp1, fl_no (by decide +kernel), _, rfl, p, d, R, S1, ks1, n, rfl, M1, hM.nd.sublist (hsub.map _), hl1, fun H2 s2 => ⟨_, rfl, ?_⟩⟩
      have M2 := M1.same s2
      have hf2 := s2 _ _ hf1
      have hs2 := s2 _ _ hs1
      have k2 := k1.trans (Km.of s2)
      rw [hck]
      refine ite2 (fun hc => ?_) (fun hc => ?_)
      · obtain ⟨dx2, hp2⟩ := M2.ob
        refine ⟨_, rfl, _, rfl, p, _, dx2, _, rfl, hp2, T.cl_Merger, T.n_following, by show 7 < 1000; decide, ?_⟩
        rw [fp_following]
        have M3 : MAt T.C_Merger (upd H2 p (.ins T.C_Merger dx2 (flds R { S1 with w := n } d))) p d R { S1 with w := n } ks1 := M2.setp rfl
        have hf3 : (upd H2 p (.ins T.C_Merger dx2 (flds R { S1 with w := n } d))) f = some (.lst (outs.map V.int)) := by rw [upd_ne (M2.np hf2)]; exact hf2
        have hs3 : (upd H2 p (.ins T.C_Merger dx2 (flds R { S1 with w := n } d))) sl = some (.lst ((keysN S.hs).map V.int)) := by rw [upd_ne (M2.np hs2)]; exact hs2
        have k3 := k2.putp (o := .ins T.C_Merger dx2 (flds R { S1 with w := n } d))
        obtain ⟨dx3, hp3⟩ := M3.ob
        refine ⟨_, rfl, .inl ⟨rfl, _, SqL.of hf3⟩, _, rfl, p, dx3, _, rfl, hp3, fl_no (by decide +kernel), p, d, R, _, ks1, rfl, M3, by show S1.hs.length ≤ 100; omega, fun q H4 ks4 hq hq4 M4 k4 => ?_⟩
        have hfp := M3.np hf3
        have hfd := M3.nd hf3
        have hsp := M3.np hs3
        have hsd := M3.nd hs3
        have hf4 := k4 _ _ hfp hfd hf3
        have hs4 := k4 _ _ hsp hsd hs3
        obtain ⟨g1, g2, g3, g4⟩ := go_end _ n S1.hs rfl
        have hgl : (go n S1.hs).1.length + (go n S1.hs).2.2.length ≤ S1.hs.length := go_len _ n S1.hs rfl
        refine ⟨f, q, _, _, rfl, rfl, hf4, hq4, by rw [List.length_map, List.length_map]; exact sz1000 (by show outs.length + (go n S1.hs).1.length ≤ 1000; omega), ?_⟩
        have M5 := M4.aside (o := .lst (outs.map V.int ++ (go n S1.hs).1.map V.int)) hf4
        refine ⟨_, outs ++ (go n S1.hs).1, { S1 with w := (go n S1.hs).2.1, hs := (go n S1.hs).2.2 }, ks4, rfl, hck, hol, g3.trans hsub, by rw [List.length_append]; show outs.length + (go n S1.hs).1.length + (go n S1.hs).2.2.length ≤ 100; omega, by rw [upd_same, List.map_append], by rw [upd_ne sf]; exact hs4, M5, (k3.trans k4).mut hf, ?_⟩
        rw [hcl]
        conv => lhs; unfold closeF
        rw [if_pos hc, List.append_assoc]
      · refine ⟨_, outs, S1, ks1, rfl, hck, hol, hsub, hsz, hf2, hs2, M2, k2, ?_⟩
        rw [hcl]
        conv => lhs; unfold closeF
        rw [if_neg hc]
    · rintro σ H1 ⟨v2, outs, S1, ks1, rfl, hck, hol, hsub, hsz, hf1, hs1, M1, k1, hcl⟩
      rw [List.length_map, List.drop_length] at hcl
      obtain ⟨dx1, hp1⟩ := M1.ob
      refine ⟨_, rfl, p, _, dx1, _, _, rfl, hp1, T.cl_Merger, T.n_clock, fl_clock, _, _, rfl, rfl, _, rfl, p, _, dx1, _, rfl, hp1, T.cl_Merger, T.n_clock, by show 7 < 1000; decide, _, rfl, ?_⟩
      rw [fp_clock]
      have e : closeM R S = (outs, { S1 with clk := S1.clk + 1 }) := by
        unfold closeM
        rw [hcl]
        show (outs ++ [], _) = _
        rw [List.append_nil]
        obtain ⟨w1, c1, o1, h1⟩ := S1
        dsimp only at *
        subst hck hol
        rfl
      rw [e] at k
      have M2 : MAt T.C_Merger (upd H1 p (.ins T.C_Merger dx1 (flds R { S1 with clk := S1.clk + 1 } d))) p d R { S1 with clk := S1.clk + 1 } ks1 := M1.setp rfl
      exact k f _ ks1 hf (by rw [upd_ne (M1.np hf1)]; exact hf1) M2 (k1.putp)
theorem ok_Merger_dropped (T : Txt K mg) : FnOk P w K mg base CX0 1 T.f_Merger_dropped T.fd_Merger_dropped P_Merger_dropped (spDropped T.C_Merger) := by
  refine T.F_Merger_dropped.ok sc_Merger_dropped (fun vs H Q E h => ?_) (fun cdv A outer s H vs Q E hr h => ?_)
  · obtain ⟨p, d, R, S, ks, rfl, _⟩ := h
    rfl
  · obtain ⟨p, d, R, S, ks, rfl, M, k⟩ := h
    refine ⟨_, ((pss_one (ps_ret (pe_fld (pv 0) rfl)))), ?_⟩
    obtain ⟨dx, hp⟩ := M.ob
    exact ⟨_, rfl, p, _, dx, _, _, rfl, hp, T.cl_Merger, T.n_old, fl_old, k⟩
end
/-! ### _law_spread, _law_receiver -/
def Rds.lo2 (R : Rds) : Int := if R.l1 < R.l0 then R.l1 else R.l0
def Rds.hi2 (R : Rds) : Int := if R.m1 > R.m0 then R.m1 else R.m0
theorem Rds.bd2 {R : Rds} (h : R.Ok) : 0 ≤ R.lo2 ∧ R.lo2 ≤ R.hi2 ∧ R.hi2 ≤ 9 ∧ R.lo2 ≤ R.l0 ∧ R.lo2 ≤ R.l1 ∧ R.m0 ≤ R.hi2 ∧ R.m1 ≤ R.hi2 := by
  obtain ⟨⟨h1, h2, h3⟩, h4, h5, h6⟩ := h
  unfold Rds.lo2 Rds.hi2
  refine ⟨?_, ?_, ?_, ?_, ?_, ?_, ?_⟩ <;> (repeat' split) <;> omega
def spLspread : Sp := fun vs H Q _ => ∃ (p : Addr) (R : Rds), vs = [.ref p] ∧ RoadsAt H p R ∧ R.Ok ∧ ∀ (t : Addr) (H' : Hp), H t = none → H' t = some (.tup [.int R.lo2, .int R.hi2, .int (R.hi2 - R.lo2)]) → Same H H' → Q (.ref t) H'
section
variable {P : Program} {w : World} {K : PySem.W.Frag} {mg : Str → Option Value} {base : Heap}
theorem ok_Lspread (T : Txt K mg) : FnOk P w K mg base CX0 1 T.f_Lspread T.fd_Lspread P_Lspread spLspread := by
  refine T.F_Lspread.ok sc_Lspread (fun vs H Q E h => ?_) (fun cdv A outer s H vs Q E hr h => ?_)
  · obtain ⟨p, R, rfl, _⟩ := h
    rfl
  · obtain ⟨p, R, rfl, ⟨t0, t1, g1, g2, g3⟩, hR, k⟩ := h
    refine ⟨_, ((pss_cons (ps_set (i := 1) sc_Lspread.nd rfl (Or.inl rfl) (pe_op op_cat (pe_callTy call_list_of (by rfl) T.z_list (by decide +kernel) (pa_cons (pe_ix ix_tup (pv 0) pe_int (fun _ _ => rfl)) pa_nil)) (pe_callTy call_list_of (by rfl) T.z_list (by decide +kernel) (pa_cons (pe_ix ix_tup (pv 0) pe_int (fun _ _ => rfl)) pa_nil))))
  (pss_one (ps_ret (pe_tup (pa_cons (pe_callB (cr_min rfl) (by rfl) T.z_min (by decide +kernel) (pa_cons (pv 1) pa_nil)) (pa_cons (pe_callB (cr_max rfl) (by rfl) T.z_max (by decide +kernel) (pa_cons (pv 1) pa_nil)) (pa_cons (pe_op op_sub (pe_callB (cr_max rfl) (by rfl) T.z_max (by decide +kernel) (pa_cons (pv 1) pa_nil)) (pe_callB (cr_min rfl) (by rfl) T.z_min (by decide +kernel) (pa_cons (pv 1) pa_nil))) pa_nil)))))))), ?_⟩
    obtain ⟨⟨u1, u2, u3⟩, u4, u5, u6⟩ := id hR
    refine ⟨_, rfl, p, _, _, _, rfl, rfl, SqT.of g1, at0, t0, _, rfl, .inr (SqT.of g2), fun a ha => ?_⟩
    have s1 : Same H (upd H a (.lst [.int R.l0, .int R.m0])) := Same.upd_new ha
    refine ⟨_, rfl, p, _, _, _, rfl, rfl, SqT.of (s1 _ _ g1), at1, t1, _, rfl, .inr (SqT.of (s1 _ _ g3)), fun b hb => ?_⟩
    have s2 : Same H (upd (upd H a (.lst [.int R.l0, .int R.m0])) b (.lst [.int R.l1, .int R.m1])) := s1.new hb
    have hab : a ≠ b := ne_of_none (o := .lst [.int R.l0, .int R.m0]) upd_same hb
    refine ⟨a, b, _, _, rfl, rfl, by rw [upd_ne hab]; exact upd_same, upd_same, by show 2 + 2 ≤ sizeLine; decide, fun c hc => ?_⟩
    have s3 := s2.new (o := .lst ([.int R.l0, .int R.m0] ++ [.int R.l1, .int R.m1])) hc
    have hcc : (upd (upd (upd H a (.lst [.int R.l0, .int R.m0])) b (.lst [.int R.l1, .int R.m1])) c (.lst ([.int R.l0, .int R.m0] ++ [.int R.l1, .int R.m1]))) c = some (.lst (([R.l0, R.m0, R.l1, R.m1]).map V.int)) := upd_same
    revert s3 hcc
    generalize (upd (upd (upd H a (.lst [.int R.l0, .int R.m0])) b (.lst [.int R.l1, .int R.m1])) c (.lst ([.int R.l0, .int R.m0] ++ [.int R.l1, .int R.m1]))) = H1
    intro s3 hcc
    have emin : ∀ m, m ∈ [R.l0, R.m0, R.l1, R.m1] → (∀ y, y ∈ [R.l0, R.m0, R.l1, R.m1] → m ≤ y) → m = R.lo2 := fun m hm hy => by
      have a1 := hy R.l0 (by simp)
      have a2 := hy R.l1 (by simp)
      simp only [List.mem_cons, List.not_mem_nil, or_false] at hm
      unfold Rds.lo2
      split <;> omega
    have emax : ∀ m, m ∈ [R.l0, R.m0, R.l1, R.m1] → (∀ y, y ∈ [R.l0, R.m0, R.l1, R.m1] → y ≤ m) → m = R.hi2 := fun m hm hy => by
      have a1 := hy R.m0 (by simp)
      have a2 := hy R.m1 (by simp)
      simp only [List.mem_cons, List.not_mem_nil, or_false] at hm
      unfold Rds.hi2
      split <;> omega
    refine ⟨_, rfl, c, _, rfl, SqL.of hcc, (by show 0 < 4; decide), fun m hm hy => ?_⟩
    rw [emin m hm hy]
    refine ⟨_, rfl, c, _, rfl, SqL.of hcc, (by show 0 < 4; decide), fun m2 hm2 hy2 => ?_⟩
    rw [emax m2 hm2 hy2]
    refine ⟨_, rfl, c, _, rfl, SqL.of hcc, (by show 0 < 4; decide), fun m3 hm3 hy3 => ?_⟩
    rw [emax m3 hm3 hy3]
    refine ⟨_, rfl, c, _, rfl, SqL.of hcc, (by show 0 < 4; decide), fun m4 hm4 hy4 => ?_⟩
    rw [emin m4 hm4 hy4]
    refine ⟨_, _, rfl, rfl, by show 3 ≤ sizeLine; decide, fun t ht => ?_⟩
    exact k t _ (s3.free ht) upd_same (s3.new ht)
end
def spLreceiver (K : PySem.W.Frag) : Sp := fun vs H Q _ => ∃ (r p : Addr) (R : Rds), vs = [.ref r, .ref p] ∧ RowAt K r H ∧ RoadsAt H p R ∧ R.Ok ∧ ∀ (q : Addr) (Rc : Rcv) (H' : Hp), H q = none → RcvAt H' q Rc → Rc.Ok → RowAt K r H' → Kp r H H' → Q (.ref q) H'
section
variable {P : Program} {w : World} {K : PySem.W.Frag} {mg : Str → Option Value} {base : Heap}
theorem ok_Lreceiver (T : Txt K mg) : FnOk P w K mg base CX0 2 T.f_Lreceiver T.fd_Lreceiver P_Lreceiver (spLreceiver K) := by
  refine T.F_Lreceiver.ok sc_Lreceiver (fun vs H Q E h => ?_) (fun cdv A outer s H vs Q E hr h => ?_)
  · obtain ⟨r, p, R, rfl, _⟩ := h
    rfl
  · obtain ⟨r, p, R, rfl, hrow, hp, hR, k⟩ := h
    refine ⟨_, ((pss_cons (ps_set (i := 2) sc_Lreceiver.nd rfl (Or.inl rfl) (pe_ix ix_tup (pe_call (ok_Lspread T) (hr.mono (by decide)) (by rfl) T.mg_Lspread T.kp_Lspread T.b_Lspread .nil pass0 (pa_cons (pv 1) pa_nil)) pe_int (fun _ _ => rfl)))
  (pss_cons (ps_if (pt_cmpR op_eq (pe_call (ok_Ltaken T) (hr.mono (by decide)) (by rfl) T.mg_Ltaken T.kp_Ltaken T.b_Ltaken .nil pass0 (pa_cons (pv 0) (pa_cons pe_int pa_nil))) pe_int (nomark _)) (pss_cons (ps_set (i := 3) sc_Lreceiver.nd rfl (Or.inl rfl) (pe_op op_add pe_int (pe_call (ok_Ltaken T) (hr.mono (by decide)) (by rfl) T.mg_Ltaken T.kp_Ltaken T.b_Ltaken .nil pass0 (pa_cons (pv 0) (pa_cons pe_int pa_nil)))))
  (pss_one (ps_ret (pe_tup (pa_cons (pv 3) (pa_cons (pe_op op_add pe_int (pe_call (ok_Ltaken T) (hr.mono (by decide)) (by rfl) T.mg_Ltaken T.kp_Ltaken T.b_Ltaken .nil pass0 (pa_cons (pv 0) (pa_cons (pe_op op_sub (pv 3) pe_int) pa_nil)))) (pa_cons (pe_call (ok_Ltaken T) (hr.mono (by decide)) (by rfl) T.mg_Ltaken T.kp_Ltaken T.b_Ltaken .nil pass0 (pa_cons (pv 0) (pa_cons pe_int pa_nil))) pa_nil))))))) pss_nil)
  (pss_cons (ps_set (i := 4) sc_Lreceiver.nd rfl (Or.inl rfl) (pe_callB (call_max2 rfl) (by rfl) T.z_max (by decide +kernel) (pa_cons pe_int (pa_cons (pe_op op_add (pv 2) (pe_ix ix_list (pe_lst (pa_cons pe_int (pa_cons pe_int (pa_cons pe_int (pa_cons (pe_op op_sub pe_int pe_int) pa_nil))))) (pe_call (ok_Ltaken T) (hr.mono (by decide)) (by rfl) T.mg_Ltaken T.kp_Ltaken T.b_Ltaken .nil pass0 (pa_cons (pv 0) (pa_cons pe_int pa_nil))) (fun _ _ => rfl))) pa_nil))))
  (pss_cons (ps_set (i := 3) sc_Lreceiver.nd rfl (Or.inl rfl) (pe_callB (call_max2 rfl) (by rfl) T.z_max (by decide +kernel) (pa_cons (pe_op op_add (pv 4) pe_int) (pa_cons (pe_op op_add (pe_op op_add (pv 4) (pv 2)) (pe_ix ix_list (pe_lst (pa_cons pe_int (pa_cons pe_int (pa_cons pe_int (pa_cons (pe_op op_sub pe_int pe_int) pa_nil))))) (pe_call (ok_Ltaken T) (hr.mono (by decide)) (by rfl) T.mg_Ltaken T.kp_Ltaken T.b_Ltaken .nil pass0 (pa_cons (pv 0) (pa_cons pe_int pa_nil))) (fun _ _ => rfl))) pa_nil))))
  (pss_one (ps_ret (pe_tup (pa_cons (pv 3) (pa_cons (pv 4) (pa_cons (pe_callB (call_max2 rfl) (by rfl) T.z_max (by decide +kernel) (pa_cons pe_int (pa_cons (pe_op op_add (pe_op op_sub (pv 2) pe_int) (pe_ix ix_list (pe_lst (pa_cons pe_int (pa_cons pe_int (pa_cons pe_int (pa_cons (pe_op op_sub pe_int pe_int) pa_nil))))) (pe_call (ok_Ltaken T) (hr.mono (by decide)) (by rfl) T.mg_Ltaken T.kp_Ltaken T.b_Ltaken .nil pass0 (pa_cons (pv 0) (pa_cons pe_int pa_nil))) (fun _ _ => rfl))) pa_nil))) pa_nil))))))))))), ?_⟩
    obtain ⟨b0, b1, b2, _⟩ := Rds.bd2 hR
    have fin : ∀ (q : Addr) (H1 : Hp) (m a wt : Int), H1 q = none → RowAt K r H1 → Kp r H H1 → 2 ≤ m → m ≤ 32 → 1 ≤ a → a < m → 0 ≤ wt → wt ≤ 20 → Q (.ref q) (upd H1 q (.tup [.int m, .int a, .int wt])) := fun q H1 m a wt hq rw1 k1 h1 h2 h3 h4 h5 h6 =>
      k q ⟨m, a, wt⟩ _ (k1.free (rw1.ne hq) hq) upd_same ⟨h1, h2, h3, h4, h5, h6⟩ (rw1.new hq) (k1.new hq)
    -- a menu of four
    have menu : ∀ (p2 : Addr) (H1 H2 : Hp) (i : Int), H1 p2 = none → RowAt K r H1 → Kp r (upd H1 p2 (.lst [.int 0, .int 0, .int 1, .int (0 - 1)])) H2 → 0 ≤ i → i < 4 → ∃ z : Int, -1 ≤ z ∧ z ≤ 1 ∧ SqL K H2 p2 [.int 0, .int 0, .int 1, .int (0 - 1)] ∧ atI ([.int 0, .int 0, .int 1, .int (0 - 1)] : List V) i = some (.int z) := fun p2 H1 H2 i hp2 rw1 k2 i0 i1 => by
      have hz : ∃ z ∈ [(0 : Int), 0, 1, 0 - 1], atI ([(0 : Int), 0, 1, 0 - 1].map V.int) i = some (.int z) := at_menu i0 i1
      obtain ⟨z, hm, hz⟩ := hz
      refine ⟨z, ?_, ?_, SqL.of (k2 _ _ (rw1.ne hp2) upd_same), hz⟩ <;> (simp only [List.mem_cons, List.not_mem_nil, or_false] at hm; omega)
    -- far
    refine ⟨_, rfl, p, R, rfl, hp, hR, fun t H1 ht ht1 s1 => ⟨t, _, _, _, rfl, rfl, SqT.of ht1, at2, ?_⟩⟩
    have rw1 := hrow.same s1
    have k1 : Kp r H H1 := Kp.of s1
    -- if taken(row, 4) == 3
    refine ⟨_, rfl, r, _, rfl, by decide, rw1, fun v H2 v0 v1 rw2 k2 => ⟨rfl, _, rfl, ?_⟩⟩
    have k02 := k1.trans k2
    refine ite2 (fun hc => ?_) (fun hc => ?_)
    · refine ⟨_, rfl, r, _, rfl, by decide, rw2, fun m H3 m0 m1 rw3 k3 => ⟨_, _, rfl, rfl, ?_⟩⟩
      refine ⟨_, rfl, _, rfl, _, rfl, _, _, rfl, rfl, r, _, rfl, by omega, rw3, fun a H4 a0 a1 rw4 k4 => ⟨_, _, rfl, rfl, ?_⟩⟩
      refine ⟨_, rfl, r, _, rfl, by decide, rw4, fun wt H5 w0 w1 rw5 k5 => ⟨by show 3 ≤ sizeLine; decide, fun q hq => ?_⟩⟩
      exact fin q H5 _ _ _ hq rw5 (k02.trans (k3.trans (k4.trans k5))) (by omega) (by omega) (by omega) (by omega) w0 (by omega)
    · refine ⟨_, rfl, _, _, rfl, rfl, by show 4 ≤ sizeLine; decide, fun p2 hp2 => ?_⟩
      refine ⟨_, rfl, r, _, rfl, by decide, rw2.new hp2, fun i H3 i0 i1 rw3 k3 => ?_⟩
      obtain ⟨z, z0, z1, hz1, hz2⟩ := menu p2 H2 H3 i hp2 rw2 k3 i0 i1
      refine ⟨p2, _, _, _, rfl, rfl, hz1, hz2, _, _, rfl, rfl, _, _, rfl, ?_⟩
      have k03 := (k02.new hp2).trans k3
      generalize ha : (if R.hi2 - R.lo2 + z > 1 then R.hi2 - R.lo2 + z else 1) = ahead
      have ha1 : 1 ≤ ahead ∧ ahead ≤ 10 := by rw [← ha]; split <;> omega
      refine ⟨_, rfl, _, _, rfl, rfl, _, rfl, _, rfl, _, _, rfl, rfl, _, _, rfl, rfl, by show 4 ≤ sizeLine; decide, fun p3 hp3 => ?_⟩
      refine ⟨_, rfl, r, _, rfl, by decide, rw3.new hp3, fun j H4 j0 j1 rw4 k4 => ?_⟩
      obtain ⟨y, y0, y1, hy1, hy2⟩ := menu p3 H3 H4 j hp3 rw3 k4 j0 j1
      refine ⟨p3, _, _, _, rfl, rfl, hy1, hy2, _, _, rfl, rfl, _, _, rfl, ?_⟩
      have k04 := (k03.new hp3).trans k4
      generalize hm : (if ahead + (R.hi2 - R.lo2) + y > ahead + 1 then ahead + (R.hi2 - R.lo2) + y else ahead + 1) = marks
      have hm1 : ahead < marks ∧ marks ≤ 20 := by rw [← hm]; split <;> omega
      refine ⟨_, rfl, _, rfl, _, rfl, _, _, rfl, rfl, _, _, rfl, rfl, by show 4 ≤ sizeLine; decide, fun p4 hp4 => ?_⟩
      refine ⟨_, rfl, r, _, rfl, by decide, rw4.new hp4, fun l H5 l0 l1 rw5 k5 => ?_⟩
      obtain ⟨x, x0, x1, hx1, hx2⟩ := menu p4 H4 H5 l hp4 rw4 k5 l0 l1
      refine ⟨p4, _, _, _, rfl, rfl, hx1, hx2, _, _, rfl, rfl, _, _, rfl, ?_⟩
      have k05 := (k04.new hp4).trans k5
      refine ⟨by show 3 ≤ sizeLine; decide, fun q hq => ?_⟩
      exact fin q H5 _ _ _ hq rw5 k05 (by omega) (by omega) (by omega) (by omega) (by split <;> omega) (by split <;> omega)
end
end Tp
/-! ### set(xs), xs a list of ints; sorted of a set of any size; max(xs, default=d) -/
namespace L2
open PySem PySem.Spec PyProof.Rows
/-- a new empty set -/
abbrev eSet (w : World) : Obj := { cls := .type "set", dict := none, data := .set #[] 0 (.fresh 0 0 (!w.params.followText "set-order")) }
section
variable {P : Program} {w : World} {A : Around} {E : Value → Shared → Prop} {s : Shared}
set_option maxRecDepth 100000 in
set_option maxHeartbeats 3200000 in
theorem setOfInts {l : Addr} {its : Array Value} (ns : List Int) {Q : Value → Shared → Prop} (hh : A.handled = none) (hl : s.heap.IsList l its) (hi : IntsAre its.toList ns) (hb : ns.length + 1 < scanBound)
    (h : ∀ (h' : Heap) (tk c : Nat), SetR w h' s.heap.objs.size (fun j => decide (j ∈ ns)) c → c ≤ ns.length → (∀ b o, s.heap.get? b = some o → h'.get? b = some o) → Q (.ref s.heap.objs.size) { s with heap := h', toks := tk }) :
    wpAny (model P w) A (call (.type "set") [.ref l]) Q E s := by
  have hn : its.size = ns.length := Array.length_toList.symm.trans (IntsAre.length hi)
  obtain ⟨c, tl, hmro⟩ := F.called_set.mro
  have g1 := F.called_set.made
  have g2 := F.called_set.sub
  refine wpAny_call (codeAny_of_tree (show wpAny _ _ (callAny (.type "set") _) _ _ _ from wpAny_pure ⟨Code.quiet_builtin _ (by decide +kernel), codeAny_builtin F.entry_type_call ?_⟩))
  rw [Around.under_plain (weight_type_call_type "set" [.ref l] []) rfl]
  have g3 := F.called_set.notType
  have g4 := F.called_set.canCreate
  have g5 := F.typeCall_set_1 (.ref l)
  repeat (any_goals (first | assumption | wp_step))

  refine codeAny_mono (code_set_led1 (.ref l) (E := E) (Q₁ := fun obj s₁ => obj = .ref s.heap.objs.size ∧ s₁ = { s with heap := s.heap.push (eSet w) }) ⟨rfl, rfl⟩) fun r s₁ hr => ?_
  rcases r with e | fl
  · exact hr
  cases fl with
  | ret obj =>
    obtain ⟨rfl, rfl⟩ := hr
    have hS : (s.heap.push (eSet w)).get? s.heap.objs.size = some (eSet w) := Heap.get?_push_size _ rfl
    have hT : Shared.TypeIs { s with heap := s.heap.push (eSet w) } (.ref s.heap.objs.size) "set" := ⟨_, hS, rfl⟩
    have g6 := F.called_set.init.lookup
    have g7 := F.called_set.init.bind (.ref s.heap.objs.size)
    repeat (any_goals (first | assumption | wp_step))

    refine codeAny_mono (codeAny_call_builtin (R := wants (fun r s₂ => r = .none ∧ ∃ h' tk c, s₂ = { s with heap := h', toks := tk } ∧ SetR w h' s.heap.objs.size (fun j => decide (j ∈ ns)) c ∧ c ≤ ns.length ∧
        (∀ b o, s.heap.get? b = some o → h'.get? b = some o)) E) F.called_set.init.plain F.entry_set_init (check_set_init_1 hT ?_)) fun r₂ s₂ hr₂ => ?_
    · obtain ⟨⟨cls, dd, data, sl⟩, ho, hc, n, hd⟩ := hl
      simp only at hc hd
      subst hc; subst hd
      have g8 := F.sub_list_set
      have g9 := F.sub_list_frozenset
      have ga : (Value.type "list" == Value.type "dict") = false := by decide
      have ho1 : (s.heap.push (eSet w)).get? l = some { cls := .type "list", dict := dd, data := .seq its n, slots := sl } := Heap.get?_push_of_some _ ho
      have hl1 : (s.heap.push (eSet w)).IsList l its := ⟨_, ho1, rfl, n, rfl⟩
      have hlt : l < s.heap.objs.size := Heap.lt_size ho
      have hz : (s.heap.push (eSet w)).objs.size = s.heap.objs.size + 1 := Heap.size_push ..
      unfold Builtin.«set.__init__» noKeywords Builtin.Frozenset.updateFrom
      generalize hPI : pyIter = PI
      wp_walk
      subst hPI

      refine wpAny_pyIter_list hl1 (wpAny_bind (wpAny_runValue ?_))
      have hh3 : A.in1.in1.in1.handled = none := by simp [hh]
      have d1 : l ≠ (s.heap.push (eSet w)).objs.size := by rw [hz]; exact Nat.ne_of_lt (Nat.lt_succ_of_lt hlt)
      have d2 : s.heap.objs.size ∉ [(s.heap.push (eSet w)).objs.size, l] := by
        rw [hz]
        simp only [List.mem_cons, List.not_mem_nil, or_false, not_or]
        exact ⟨Nat.ne_of_lt (Nat.lt_succ_self _), Nat.ne_of_gt hlt⟩
      refine set_update_ints ((Walks.list hh3 _ l d1 its).toS) s.heap.objs.size d2 ns hn hb (fun i v hv => ?_) (its.size - 0) 0 _ (by omega) (Nat.zero_le _)
        ⟨⟨_, Heap.get?_push_size _ rfl, rfl, rfl⟩, (hl1.push _)⟩ ⟨0, Nat.le_refl 0, setR_new_at (Heap.get?_push_of_some _ hS)⟩ ?_
      · have hi2 : i < ns.length := by rw [← hn]; exact (Array.getElem?_eq_some_iff.mp hv).1
        obtain ⟨t, e⟩ := IntsAre.int_at hi i v (by rw [Array.getElem?_toList]; exact hv)
        exact ⟨ns[i], t, List.getElem?_eq_getElem hi2, by rw [e, List.getD_eq_getElem?_getD, List.getElem?_eq_getElem hi2] <;> rfl⟩
      · intro s' c' hm hc' hS'
        obtain ⟨h', u1, u2, tk', u3⟩ := s'
        obtain rfl : u1 = s.gens := hm.gens
        obtain rfl : u2 = s.drawn := hm.drawn
        obtain rfl : u3 = s.os := hm.os
        refine wpAny_pure (show wpAny _ _ (ret Value.none) _ _ _ from wpAny_pure ⟨rfl, h', tk', c', rfl, hS', by omega, fun b o e => ?_⟩)
        have hb0 := Heap.lt_size e
        refine hm.heap b o ?_ (Heap.get?_push_of_some _ (Heap.get?_push_of_some _ e))
        rw [hz]
        simp only [List.mem_cons, List.not_mem_nil, or_false, not_or]
        exact ⟨Nat.ne_of_lt hb0, Nat.ne_of_lt (Nat.lt_succ_of_lt hb0)⟩
    · rcases r₂ with e | fl₂
      · exact hr₂
      cases fl₂ with
      | ret r =>
        obtain ⟨rfl, h', tk, c', rfl, hS', hc', hk'⟩ := hr₂
        repeat (any_goals (first | assumption | wp_step))
        exact h _ _ _ hS' hc' hk'
      | _ => exact hr₂.elim
  | _ => exact hr.elim
/-- sorted of a set of ints, any number of them -/
theorem sortedSetAny {a : Addr} {S : Int → Bool} {n : Nat} {Q : Value → Shared → Prop} (R : SetR w s.heap a S n) (hh : A.handled = none)
    (hQ : ∀ s' p (out : Array Value) (c : Nat) (ns : List Int), (∀ b o, s.heap.get? b = some o → s'.heap.get? b = some o) → s'.gens = s.gens → s'.os = s.os → s.heap.objs.size ≤ p →
      s'.heap.get? p = some (seqObj "list" out c) → IntsAre out.toList ns → ns.Pairwise (· < ·) → (∀ k, k ∈ ns ↔ S k = true) → ns.length = n → Q (.ref p) s') :
    wpAny (model P w) A (call (.builtin "sorted") [.ref a]) Q E s := by
  obtain ⟨o, es, ep, t, ho, hex, hd, g, nd, hm, hb, hf, hn, hr, hl⟩ := R
  have hbz : n ≤ sizeLine := Nat.le_trans (Nat.le_of_lt (by rw [← hn]; exact hb)) (by decide)
  refine Calls.call_function_entry kind_sorted plain_sorted entry_sorted (args_sorted1 _) ?_
  unfold Builtin.«sorted»
  refine wpAny_bind (m := checkCount "sorted" 1 1 _) (wpAny_pure (wpAny_bind (collect_set (A := A.in1) hh ⟨o, ho, hex.1, hd⟩ hf hb hr hl fun s1 vs k1 hz g1 o1 pm => ?_)))
  have hv : vs.length = n := by rw [pm.length_eq, List.length_map, Array.length_toList]; exact hn
  have hI : IntsAre vs (vs.map Builtin.Re.reRawOf) := ints_of vs fun v hv => by
    obtain ⟨e, he, q⟩ := List.mem_map.mp (pm.mem_iff.mp hv)
    obtain ⟨k, tk, h1, _⟩ := g e he
    exact ⟨k, tk, q.symm.trans h1⟩
  have pk : (vs.map Builtin.Re.reRawOf).Perm (es.toList.map keyOf) := by
    have q := pm.map Builtin.Re.reRawOf
    rw [List.map_map] at q
    exact q
  refine wpAny_bind (wpAny_newList ?_ (by rw [hv]; exact hbz))
  have hoL : (s1.heap.push (seqObj "list" vs.toArray 0)).get? s1.heap.objs.size = some (seqObj "list" vs.toArray 0) := Heap.get?_push_size _ rfl
  refine wpAny_bind (wpAny_holding (wpAny_call_entry slot_list_sort ⟨_, hoL, rfl⟩ entry_list_sort
    (SrtO.list_sort_ord SrtO.swo_int hoL (by rw [hv]; exact hbz) (fun h2 => SrtO.ints_sortable hI h2) fun out b1 b2 => ⟨_, rfl, ?_⟩) (args_list_sort _)))
  obtain ⟨a1, a2, a3⟩ := SrtO.ints_out hI b1 b2
  obtain ⟨c, hc⟩ := sortedHeap_at (vs := vs) (out := out.toArray) hoL
  have pn : (out.map SrtO.iv).Perm (es.toList.map keyOf) := a2.trans pk
  refine wpAny_pure ⟨_, rfl, hQ _ s1.heap.objs.size out.toArray c (out.map SrtO.iv) (fun b u e => ?_) g1 o1 hz hc a1 (lt_of_le_nodup _ a3 (pn.nodup_iff.mpr nd)) (fun k => by rw [pn.mem_iff, ← hm k]) ?_⟩
  · have q := k1 b u e
    have hlt := Heap.lt_size q
    rw [show (sortedHeap (s1.heap.push (seqObj "list" vs.toArray 0)) s1.heap.objs.size vs out.toArray).get? b = _ from sortedHeap_old (Nat.ne_of_lt hlt) (by rw [size_push']; exact Nat.lt_succ_of_lt hlt)]
    exact Heap.get?_push_of_some _ q
  · rw [pn.length_eq, List.length_map, Array.length_toList]; exact hn
end
/-- set(xs) of a list of ints -/
def rSetLI (K : PySem.W.Frag) (w : World) : List V → Hp → VK → Prop := fun vs H Q => ∃ (p : Addr) (ns : List Int), vs = [.ref p] ∧ SqL K H p (ns.map V.int) ∧ ns.length ≤ 4000 ∧
  ∀ (a : Addr) (c : Nat), c ≤ ns.length → H a = none → Q (.ref a) (upd H a (SetO w a (fun j => decide (j ∈ ns)) c))
/-- sorted(a set of ints) -/
def rSortedSetA (w : World) : List V → Hp → VK → Prop := fun vs H Q => ∃ (a : Addr) (S : Int → Bool) (n : Nat), vs = [V.ref a] ∧ H a = some (SetO w a S n) ∧ n ≤ 4000 ∧
  ∀ (ns : List Int) (p : Addr), ns.Pairwise (· < ·) → (∀ k : Int, k ∈ ns ↔ S k = true) → H p = none → Q (.ref p) (upd H p (.lst (ns.map V.int)))
/-- max(xs, default=d) of a list of ints -/
def rMaxD (K : PySem.W.Frag) : List V → List V → Hp → VK → Prop := fun vs zs H Q => ∃ (p : Addr) (ns : List Int) (d : Int), vs = [.ref p] ∧ zs = [.int d] ∧ SqL K H p (ns.map V.int) ∧ Q (.int (match ns with | [] => d | x :: xs => xs.foldl max x)) H
section
variable {X : Cx} {K : PySem.W.Frag}
theorem cr_setL (hc : X.calm = true) : CallR X (.type "set") (rSetLI X.K X.w) := by
  intro pins s σ H vs us Q I r h
  obtain ⟨p, ns, rfl, hs, hn, q⟩ := h
  obtain ⟨its, rv, hl, hz⟩ := I.list hs
  rw [Vals.ref1 r]
  have hi : IntsAre its.toArray.toList ns := by
    have := rv.ints
    simpa using this
  refine setOfInts ns (I.ok.hd hc) hl.isList hi (by unfold scanBound; omega) fun h' tk c R hcn k => ?_
  exact ⟨.ref _, upd H s.heap.objs.size (SetO X.w s.heap.objs.size (fun j => decide (j ∈ ns)) c), I.laid (t' := tk) k (Nat.le_refl _) (setO_new R), rfl, q _ c hcn (I.hok.fresh (Nat.le_refl _))⟩
theorem cr_sortedSetA (hc : X.calm = true) : CallR X (.builtin "sorted") (rSortedSetA X.w) := by
  intro pins s σ H vs us Q I r h
  obtain ⟨a, S, n, rfl, ha, hn, q⟩ := h
  rw [Vals.ref1 r]
  refine sortedSetAny (setO_get I ha) (I.ok.hd hc) fun s' p out c ns k g o hp hg hi hs hm hl => ?_
  have hlen : (ns.map V.int).length ≤ sizeLine := by rw [List.length_map, hl]; exact Nat.le_trans hn (by decide)
  have hnn : H p = none := I.hok.fresh hp
  have J : Inv X pins σ (upd H p (.lst (ns.map V.int))) { s with heap := s'.heap, gens := s'.gens, drawn := s'.drawn, toks := s'.toks } :=
    I.call (ch := []) (Un.laid k hp hnn) (I.hok.laid k hp ⟨hlen, out.toList, c, vals_of_ints hi, hg⟩) (by rw [g]; exact I.bare) (fun _ z => nomatch z)
  have e : s' = { s with heap := s'.heap, gens := s'.gens, drawn := s'.drawn, toks := s'.toks } := by
    cases s'
    cases s
    cases o
    rfl
  rw [e]
  exact ⟨.ref p, _, J, rfl, q ns p hs hm hnn⟩
theorem dpInts {K : PySem.W.Frag} {H : Hp} : ∀ l : List Int, DpAll K H (l.map V.int) (l.map PyData.int)
  | [] => .nil
  | i :: l => .cons (.int i) (dpInts l)
theorem alikeInts (ns : List Int) : PySem.W.AlikeAll (ns.map PyData.int) := by
  refine ⟨fun x hx y hy => ?_, fun x hx => ?_⟩
  · obtain ⟨i, _, rfl⟩ := List.mem_map.mp hx
    obtain ⟨j, _, rfl⟩ := List.mem_map.mp hy
    rfl
  · obtain ⟨i, _, rfl⟩ := List.mem_map.mp hx
    intro z
    cases z
theorem cr_maxD (hc : X.calm = true) (hu : X.A.units + 64 < cLine) : CallRK X (.builtin "max") [Str.ofString "default"] (rMaxD X.K) := by
  intro pins s σ H vs zs us ws Q I r rz h
  obtain ⟨p, ns, d, rfl, rfl, hs, q⟩ := h
  obtain ⟨its, rv, hl, hz⟩ := I.list hs
  rw [Vals.ref1 r]
  obtain ⟨u, rfl, t, rfl⟩ := rz.one
  obtain ⟨as, ra⟩ := Dp.readsAll I _ _ _ (dpInts ns) rv
  refine PySem.W.max_list_default (xs := ns.map PyData.int) (as := as) (I.ok.hd hc) hl.isList (by simpa using ra) (alikeInts ns) ?_ (fun hx h' tk k => ?_) (fun y ys i v h' tk bs hx hv rd k => ?_)
  · rw [depthAll_ints]
    omega
  · obtain rfl : ns = [] := List.map_eq_nil_iff.mp hx
    exact ⟨.int d, H, I.kept (t' := tk) k, ⟨_, rfl⟩, q⟩
  · cases ns with
    | nil => cases hx
    | cons n ns =>
      obtain ⟨rfl, rfl⟩ := List.cons.inj hx
      rw [PySem.W.maxD_ints] at rd
      cases rd
      exact ⟨.int (ns.foldl max n), H, I.kept (t' := tk) k, ⟨_, rfl⟩, q⟩
theorem maxDK (h : X.K = K) (hc : X.calm = true) (hu : X.A.units + 64 < cLine) : CallRK X (.builtin "max") [Str.ofString "default"] (rMaxD K) := h ▸ cr_maxD hc hu
theorem lcountK (h : X.K = K) : MtR X "list.count" (rCntI K) := h ▸ mt_lcount
theorem bmK {T name id : String} {o e : Expr} {es : List Expr} {to : TE} {t : TA} {apos cpos : Pos} {r : V → List V → Hp → VK → Prop} (h : X.K = K) (pa : PlainAttrs T) (slot : Slot T name id) (hty : typeOf (.builtin id) = pure (.type "method_descriptor")) (hm : MtR X id r) (ho : PE X o to) (ha : PA X (e :: es) t)
    (hbase : attributeBase o name X.env (eval o X.env) = eval o X.env := by rfl)
    (hfew : ((backTo cpos (starEach (e :: es) X.env)).all (fun x => !x.1) && (backToKw cpos (keywordEach [] X.env)).all (fun x => x.1.isSome)
      && decide ((e :: es).length + ([] : List Keyword).length + (if ([] : List Keyword).isEmpty then 0 else 1) < 30)) = true := by rfl)
    (hline : (apos.endLine == cpos.line) = true := by rfl) (hs : starEach (e :: es) X.env = (false, eval e X.env) :: starEach es X.env := by rfl) (hplain : (backTo cpos (starEach es X.env)).any (·.1) = false := by rfl) :
    PE X (.Call (.Attribute o name apos) (e :: es) [] cpos) (tBM K T r to t) := h ▸ pe_bm pa slot hty hm ho ha hbase hfew hline hs hplain
theorem slK_list (h : X.K = K) : SlR X (rSlL K) := h ▸ sl_list
end
end L2
namespace Tp
open PySem L2
/-! ### _law_alike: two values of one shape -/
inductive Lk (K : PySem.W.Frag) (H : Hp) : Nat → V → V → Prop
  | non {n : Nat} : Lk K H (n + 1) .non .non
  | bl {n : Nat} (b : Bool) : Lk K H (n + 1) (.bl b) (.bl b)
  | int {n : Nat} (i : Int) : Lk K H (n + 1) (.int i) (.int i)
  | str {n : Nat} (x : Str) : Lk K H (n + 1) (.str x) (.str x)
  | lst {n : Nat} {a b : Addr} {xs ys : List V} : SqL K H a xs → SqL K H b ys → xs.length = ys.length → xs.length ≤ 100000 → (∀ (i : Nat) x y, xs[i]? = some x → ys[i]? = some y → Lk K H n x y) → Lk K H (n + 1) (.ref a) (.ref b)
  | tup {n : Nat} {a b : Addr} {xs ys : List V} : SqT K H a xs → SqT K H b ys → xs.length = ys.length → xs.length ≤ 100000 → (∀ (i : Nat) x y, xs[i]? = some x → ys[i]? = some y → Lk K H n x y) → Lk K H (n + 1) (.ref a) (.ref b)
theorem Lk.same {K : PySem.W.Frag} {H H' : Hp} (s : Same H H') : ∀ {n : Nat} {x y : V}, Lk K H n x y → Lk K H' n x y := by
  intro n x y h
  induction h with
  | non => exact .non
  | bl b => exact .bl b
  | int i => exact .int i
  | str z => exact .str z
  | lst h1 h2 h3 h4 h5 ih => exact .lst (s.seq h1) (s.seq h2) h3 h4 ih
  | tup h1 h2 h3 h4 h5 ih => exact .tup (s.sqt h1) (s.sqt h2) h3 h4 ih
theorem tyx_l {K : PySem.W.Frag} {H : Hp} {a : Addr} {xs : List V} (h : SqL K H a xs) : TyX K H (.ref a) (.type "list") := by
  rcases h with (h | ⟨o, h⟩) | ⟨o, its, n, h, c, _⟩
  · exact .base (.lst h)
  · exact .base (.frz h)
  · exact .kList h c
theorem tyx_t {K : PySem.W.Frag} {H : Hp} {a : Addr} {xs : List V} (h : SqT K H a xs) : TyX K H (.ref a) (.type "tuple") := by
  rcases h with (h | ⟨o, h⟩) | ⟨o, its, n, h, c, _⟩
  · exact .base (.tup h)
  · exact .fTuple h
  · exact .kTuple h c
def spAlike (K : PySem.W.Frag) (n : Nat) : Sp := fun vs H Q _ => ∃ x y : V, vs = [x, y] ∧ Lk K H n x y ∧ ∀ H', Same H H' → Q (.bl true) H'
section
variable {P : Program} {w : World} {K : PySem.W.Frag} {mg : Str → Option Value} {base : Heap}
theorem ok_alike0 (T : Txt K mg) : FnOk P w K mg base CX0 1 T.f_Lalike T.fd_Lalike P_Lalike (spAlike K 0) :=
  ⟨fun vs H Q E h => (by
    obtain ⟨x, y, _, h, _⟩ := h
    cases h), fun A outer s H args us vs Q E hr he hb hv h => (by
    obtain ⟨x, y, _, h, _⟩ := h
    cases h)⟩
theorem kit2 {K : PySem.W.Frag} {a : String} {r1 r2 : Bool} (h1 : kitB a "tuple" = some r1) (h2 : kitB a "list" = some r2) : PySem.W.kitAny K (.type a) [.type "tuple", .type "list"] = some (r1 || r2) :=
  kitAny_cons (kit_ty h1) (fun e => kitAny_cons (kit_ty h2) (fun e2 => by rw [e, e2]; exact kitAny_nil) (fun e2 => by rw [e2, Bool.or_true])) fun e => by rw [e, Bool.true_or]
theorem ok_alikeS (T : Txt K mg) {n : Nat} (IH : FnOk P w K mg base CX0 (n + 1) T.f_Lalike T.fd_Lalike P_Lalike (spAlike K n)) : FnOk P w K mg base CX0 (n + 2) T.f_Lalike T.fd_Lalike P_Lalike (spAlike K (n + 1)) := by
  refine T.F_Lalike.ok (k := n + 1) sc_Lalike (fun vs H Q E h => ?_) (fun cdv A outer s H vs Q E hr h => ?_)
  · obtain ⟨x, y, rfl, _⟩ := h
    rfl
  · obtain ⟨x, y, rfl, hk, k⟩ := h
    refine ⟨_, ((pss_cons (ps_if (PW.pt (pw_or (pt_val (pe_callB call_isi (by rfl) T.z_isinstance (by decide +kernel) (pa_cons (pv 1) (pa_cons (pe_bltn (v := .ty "tuple") rfl T.z_tuple (by decide +kernel) rfl) pa_nil)))) (pw_or1 (pt_val (pe_callB call_isi (by rfl) T.z_isinstance (by decide +kernel) (pa_cons (pv 1) (pa_cons (pe_bltn (v := .ty "list") rfl T.z_list (by decide +kernel) rfl) pa_nil))))))) (pss_cons (ps_if (PW.pt (pw_or (pt_cmpR op_ne (pe_callB call_isi (by rfl) T.z_isinstance (by decide +kernel) (pa_cons (pv 0) (pa_cons (pe_bltn (v := .ty "tuple") rfl T.z_tuple (by decide +kernel) rfl) pa_nil))) (pe_callB call_isi (by rfl) T.z_isinstance (by decide +kernel) (pa_cons (pv 1) (pa_cons (pe_bltn (v := .ty "tuple") rfl T.z_tuple (by decide +kernel) rfl) pa_nil))) (nomark _)) (pw_or1 (pt_not (pt_val (pe_callB call_isiT (by rfl) T.z_isinstance (by decide +kernel) (pa_cons (pv 0) (pa_cons (pe_tup (pa_cons (pe_bltn (v := .ty "tuple") rfl T.z_tuple (by decide +kernel) rfl) (pa_cons (pe_bltn (v := .ty "list") rfl T.z_list (by decide +kernel) rfl) pa_nil))) pa_nil)))))))) (pss_one (ps_ret pe_bl)) pss_nil)
  (pss_cons (ps_if (pt_cmpR op_ne (pe_callB call_len_seq (by rfl) T.z_len (by decide +kernel) (pa_cons (pv 0) pa_nil)) (pe_callB call_len_seq (by rfl) T.z_len (by decide +kernel) (pa_cons (pv 1) pa_nil)) (nomark _)) (pss_one (ps_ret pe_bl)) pss_nil)
  (pss_one (ps_ret (pe_cmpR (op_eqD hr.units) (pe_lc (own := [("_law_k", 2)]) (g := gName 2) rfl sc_Lalike.nd (pi_range1 (by rfl) T.z_range (pa_cons (pe_callB call_len_seq (by rfl) T.z_len (by decide +kernel) (pa_cons (pv 1) pa_nil)) pa_nil)) (blkOk_by (N := N_Lalike) (sc := (defScope s_Lalike)) (own := [("_law_k", 2)]) (by decide +kernel)) (fun _ _ _ _ _ => (pg_name (i := 2) sc_Lalike.nd rfl (Or.inl rfl))) (fun _ _ _ _ _ => pts_one (pt_not (pt_val (pe_call IH hr (by rfl) T.mg_Lalike T.kp_Lalike T.b_Lalike .nil pass0 (pa_cons (pe_ix (ixK_seq (K := K) rfl) (pv 0) (pv 2) (fun _ _ => rfl)) (pa_cons (pe_ix (ixK_seq (K := K) rfl) (pv 1) (pv 2) (fun _ _ => rfl)) pa_nil)))))) (fun _ _ _ _ _ => (pv 2))) (pe_lst pa_nil) (nomark _)))))) pss_nil)
  (pss_cons (ps_if (PW.pt (pw_or (pt_cmp (pc_isN (pv 1))) (pw_or1 (pt_cmp (pc_isN (pv 0)))))) (pss_one (ps_ret (pe_and (pe_cmp (pc_isN (pv 1)) rfl) (pe_one (pe_cmp (pc_isN (pv 0)) rfl))))) pss_nil)
  (pss_cons (ps_if (PW.pt (pw_or (pt_val (pe_callB call_isi (by rfl) T.z_isinstance (by decide +kernel) (pa_cons (pv 1) (pa_cons (pe_bltn (v := .ty "bool") rfl T.z_bool (by decide +kernel) rfl) pa_nil)))) (pw_or1 (pt_val (pe_callB call_isi (by rfl) T.z_isinstance (by decide +kernel) (pa_cons (pv 0) (pa_cons (pe_bltn (v := .ty "bool") rfl T.z_bool (by decide +kernel) rfl) pa_nil))))))) (pss_one (ps_ret (pe_and (pe_callB call_isi (by rfl) T.z_isinstance (by decide +kernel) (pa_cons (pv 1) (pa_cons (pe_bltn (v := .ty "bool") rfl T.z_bool (by decide +kernel) rfl) pa_nil))) (pe_and (pe_callB call_isi (by rfl) T.z_isinstance (by decide +kernel) (pa_cons (pv 0) (pa_cons (pe_bltn (v := .ty "bool") rfl T.z_bool (by decide +kernel) rfl) pa_nil))) (pe_one (pe_cmpR op_eq (pv 0) (pv 1) (nomark _))))))) pss_nil)
  (pss_cons (ps_if (pt_val (pe_callB call_isi (by rfl) T.z_isinstance (by decide +kernel) (pa_cons (pv 1) (pa_cons (pe_bltn (v := .ty "str") rfl T.z_str (by decide +kernel) rfl) pa_nil)))) (pss_one (ps_ret (pe_and (pe_callB call_isi (by rfl) T.z_isinstance (by decide +kernel) (pa_cons (pv 0) (pa_cons (pe_bltn (v := .ty "str") rfl T.z_str (by decide +kernel) rfl) pa_nil))) (pe_one (pe_cmpR op_eq (pv 0) (pv 1) (nomark _)))))) pss_nil)
  (pss_one (ps_ret (pe_and (pe_callB call_isi (by rfl) T.z_isinstance (by decide +kernel) (pa_cons (pv 0) (pa_cons (pe_bltn (v := .ty "int") rfl T.z_int (by decide +kernel) rfl) pa_nil))) (pe_one (pe_cmpR op_eq (pv 0) (pv 1) (nomark _))))))))))), ?_⟩
    cases hk with
    | non =>
      refine ⟨_, rfl, _, _, _, _, false, rfl, .ty _, .base .non, kit_ty (by decide +kernel), _, rfl, iteF ?_⟩
      refine ⟨_, rfl, _, _, _, _, false, rfl, .ty _, .base .non, kit_ty (by decide +kernel), _, rfl, iteF ?_⟩
      refine ⟨_, rfl, _, rfl, iteT (iteT ?_)⟩
      exact ⟨_, rfl, _, rfl, iteT ⟨_, rfl, k H (Same.refl H)⟩⟩
    | bl b =>
      refine ⟨_, rfl, _, _, _, _, false, rfl, .ty _, .base (.bl _), kit_ty (by decide +kernel), _, rfl, iteF ?_⟩
      refine ⟨_, rfl, _, _, _, _, false, rfl, .ty _, .base (.bl _), kit_ty (by decide +kernel), _, rfl, iteF ?_⟩
      refine ⟨_, rfl, _, rfl, iteF ⟨_, rfl, _, rfl, iteF ?_⟩⟩
      refine ⟨_, rfl, _, _, _, _, true, rfl, .ty _, .base (.bl _), kit_ty (by decide +kernel), _, rfl, iteT (iteT ?_)⟩
      refine ⟨_, rfl, _, _, _, _, true, rfl, .ty _, .base (.bl _), kit_ty (by decide +kernel), _, rfl, iteT ?_⟩
      refine ⟨_, rfl, _, _, _, _, true, rfl, .ty _, .base (.bl _), kit_ty (by decide +kernel), _, rfl, iteT ?_⟩
      refine ⟨_, rfl, _, rfl, rfl, ?_⟩
      rw [decide_eq_true rfl]
      exact k H (Same.refl H)
    | int i =>
      refine ⟨_, rfl, _, _, _, _, false, rfl, .ty _, .base (.int _), kit_ty (by decide +kernel), _, rfl, iteF ?_⟩
      refine ⟨_, rfl, _, _, _, _, false, rfl, .ty _, .base (.int _), kit_ty (by decide +kernel), _, rfl, iteF ?_⟩
      refine ⟨_, rfl, _, rfl, iteF ⟨_, rfl, _, rfl, iteF ?_⟩⟩
      refine ⟨_, rfl, _, _, _, _, false, rfl, .ty _, .base (.int _), kit_ty (by decide +kernel), _, rfl, iteF ?_⟩
      refine ⟨_, rfl, _, _, _, _, false, rfl, .ty _, .base (.int _), kit_ty (by decide +kernel), _, rfl, iteF ?_⟩
      refine ⟨_, rfl, _, _, _, _, false, rfl, .ty _, .base (.int _), kit_ty (by decide +kernel), _, rfl, iteF ?_⟩
      refine ⟨_, rfl, _, _, _, _, true, rfl, .ty _, .base (.int _), kit_ty (by decide +kernel), _, rfl, iteT ?_⟩
      refine ⟨_, rfl, _, rfl, rfl, ?_⟩
      rw [decide_eq_true rfl]
      exact k H (Same.refl H)
    | str i =>
      refine ⟨_, rfl, _, _, _, _, false, rfl, .ty _, .base (.str _), kit_ty (by decide +kernel), _, rfl, iteF ?_⟩
      refine ⟨_, rfl, _, _, _, _, false, rfl, .ty _, .base (.str _), kit_ty (by decide +kernel), _, rfl, iteF ?_⟩
      refine ⟨_, rfl, _, rfl, iteF ⟨_, rfl, _, rfl, iteF ?_⟩⟩
      refine ⟨_, rfl, _, _, _, _, false, rfl, .ty _, .base (.str _), kit_ty (by decide +kernel), _, rfl, iteF ?_⟩
      refine ⟨_, rfl, _, _, _, _, false, rfl, .ty _, .base (.str _), kit_ty (by decide +kernel), _, rfl, iteF ?_⟩
      refine ⟨_, rfl, _, _, _, _, true, rfl, .ty _, .base (.str _), kit_ty (by decide +kernel), _, rfl, iteT ?_⟩
      refine ⟨_, rfl, _, _, _, _, true, rfl, .ty _, .base (.str _), kit_ty (by decide +kernel), _, rfl, iteT ?_⟩
      refine ⟨_, rfl, _, rfl, rfl, ?_⟩
      rw [decide_eq_true rfl]
      exact k H (Same.refl H)
    | @lst _ a b xs ys h1 h2 h3 h4 h5 =>
      refine ⟨_, rfl, _, _, _, _, false, rfl, .ty _, tyx_l h2, kit_ty (by decide +kernel), _, rfl, iteF ?_⟩
      refine ⟨_, rfl, _, _, _, _, true, rfl, .ty _, tyx_l h2, kit_ty (by decide +kernel), _, rfl, iteT ?_⟩
      refine ⟨_, rfl, _, _, _, _, false, rfl, .ty _, tyx_l h1, kit_ty (by decide +kernel), ?_⟩
      refine ⟨_, rfl, _, _, _, _, false, rfl, .ty _, tyx_l h2, kit_ty (by decide +kernel), rfl, _, rfl, iteF ?_⟩
      refine ⟨_, rfl, by show 2 ≤ sizeLine; decide, fun tp htp => ?_⟩
      have s1 : Same H (upd H tp (.tup [.ty "tuple", .ty "list"])) := Same.upd_new htp
      refine ⟨_, tp, _, _, _, true, rfl, upd_same, .cons (.ty _) (.cons (.ty _) .nil), tyx_l (s1.seq h1), kit2 (r1 := false) (r2 := true) (by decide +kernel) (by decide +kernel), _, rfl, iteF ?_⟩
      have g1 := s1.seq h1
      have g2 := s1.seq h2
      refine ⟨_, rfl, a, _, rfl, .inl g1, _, rfl, b, _, rfl, .inl g2, rfl, _, rfl, iteNS (by rw [h3]) ?_⟩
      refine ⟨_, rfl, b, _, rfl, .inl g2, _, rfl, by omega, by omega, fun D hD => lc_range (lo := 0) (n := ((ys.length : Int)).toNat) (fun i H' => Same H H' ∧ H' D = some (.lst [])) ⟨s1.new hD, upd_same⟩ ?_ ?_⟩
      · rintro i H2 hi ⟨s2, hD2⟩
        have hi' : i < ys.length := by omega
        have e0 : (0 : Int) + (i : Int) = (i : Int) := Int.zero_add _
        have q1 : xs[i]? = some xs[i] := List.getElem?_eq_getElem (by omega)
        have q2 : ys[i]? = some ys[i] := List.getElem?_eq_getElem (by omega)
        refine ⟨rfl, ⟨_, rfl, _, rfl, .inl ⟨a, _, _, _, rfl, rfl, s2.seq h1, at_of e0 q1, _, rfl, _, rfl, .inl ⟨b, _, _, _, rfl, rfl, s2.seq h2, at_of e0 q2, _, _, rfl, (h5 i _ _ q1 q2).same s2, fun H3 s3 => ⟨_, rfl, iteF ⟨s2.trans s3, s3 _ _ hD2⟩⟩⟩⟩⟩⟩
      · rintro H2 ⟨s2, hD2⟩
        refine ⟨by show 0 ≤ sizeLine; decide, fun l hl => ?_⟩
        refine ⟨.list [], .list [], .lst (SqL.of (by rw [upd_ne (ne_of_none hD2 hl)]; exact hD2)) .nil, .lst (SqL.of upd_same) .nil, rfl, rfl, ?_⟩
        exact k _ (s2.new hl)
    | @tup _ a b xs ys h1 h2 h3 h4 h5 =>
      refine ⟨_, rfl, _, _, _, _, true, rfl, .ty _, tyx_t h2, kit_ty (by decide +kernel), _, rfl, iteT (iteT ?_)⟩
      refine ⟨_, rfl, _, _, _, _, true, rfl, .ty _, tyx_t h1, kit_ty (by decide +kernel), ?_⟩
      refine ⟨_, rfl, _, _, _, _, true, rfl, .ty _, tyx_t h2, kit_ty (by decide +kernel), rfl, _, rfl, iteF ?_⟩
      refine ⟨_, rfl, by show 2 ≤ sizeLine; decide, fun tp htp => ?_⟩
      have s1 : Same H (upd H tp (.tup [.ty "tuple", .ty "list"])) := Same.upd_new htp
      refine ⟨_, tp, _, _, _, true, rfl, upd_same, .cons (.ty _) (.cons (.ty _) .nil), tyx_t (s1.sqt h1), kit2 (r1 := true) (r2 := false) (by decide +kernel) (by decide +kernel), _, rfl, iteF ?_⟩
      have g1 := s1.sqt h1
      have g2 := s1.sqt h2
      refine ⟨_, rfl, a, _, rfl, .inr g1, _, rfl, b, _, rfl, .inr g2, rfl, _, rfl, iteNS (by rw [h3]) ?_⟩
      refine ⟨_, rfl, b, _, rfl, .inr g2, _, rfl, by omega, by omega, fun D hD => lc_range (lo := 0) (n := ((ys.length : Int)).toNat) (fun i H' => Same H H' ∧ H' D = some (.lst [])) ⟨s1.new hD, upd_same⟩ ?_ ?_⟩
      · rintro i H2 hi ⟨s2, hD2⟩
        have hi' : i < ys.length := by omega
        have e0 : (0 : Int) + (i : Int) = (i : Int) := Int.zero_add _
        have q1 : xs[i]? = some xs[i] := List.getElem?_eq_getElem (by omega)
        have q2 : ys[i]? = some ys[i] := List.getElem?_eq_getElem (by omega)
        refine ⟨rfl, ⟨_, rfl, _, rfl, .inr (.inl ⟨a, _, _, _, rfl, rfl, s2.sqt h1, at_of e0 q1, _, rfl, _, rfl, .inr (.inl ⟨b, _, _, _, rfl, rfl, s2.sqt h2, at_of e0 q2, _, _, rfl, (h5 i _ _ q1 q2).same s2, fun H3 s3 => ⟨_, rfl, iteF ⟨s2.trans s3, s3 _ _ hD2⟩⟩⟩)⟩)⟩⟩
      · rintro H2 ⟨s2, hD2⟩
        refine ⟨by show 0 ≤ sizeLine; decide, fun l hl => ?_⟩
        refine ⟨.list [], .list [], .lst (SqL.of (by rw [upd_ne (ne_of_none hD2 hl)]; exact hD2)) .nil, .lst (SqL.of upd_same) .nil, rfl, rfl, ?_⟩
        exact k _ (s2.new hl)
theorem ok_Lalike (T : Txt K mg) : ∀ n : Nat, FnOk P w K mg base CX0 (n + 1) T.f_Lalike T.fd_Lalike P_Lalike (spAlike K n)
  | 0 => ok_alike0 T
  | n + 1 => ok_alikeS T (ok_Lalike T n)
end
/-- a comprehension's turns, as its reading asks for them -/
def LcW (J : It) (g : TG) (tt : TT) (te : TE) (vs : List Nat) (σ : L2.St) (H1 : Hp) (D : Addr) (Qd : Hp → Prop) : Prop :=
  ∃ W : Nat → Nat → Hp → Prop, (∃ m, W 0 m (upd H1 D (.lst []))) ∧ ∀ i m H, W i m H →
    (J.stop i H ∧ Qd H) ∨ (J.go i H ∧ ∃ Nx : Hp → Prop, (∀ H', Nx H' → ∃ m', m' < m ∧ W (i + 1) m' H') ∧ ∀ x H', J.yld i H x H' → g x (wipe σ vs) H' fun σ2 H2 => wipe σ2 vs = wipe σ vs ∧ tt σ2 H2 fun b H3 =>
      if b = true then te σ2 H3 fun y H4 => ∃ acc, H4 D = some (.lst acc) ∧ acc.length < sizeLine ∧ Nx (upd H4 D (.lst (acc ++ [y]))) else Nx H3)
/-! ### small things -/
theorem rise_uniq : ∀ {l m : List Int}, l.Pairwise (· < ·) → m.Pairwise (· < ·) → (∀ x, x ∈ l ↔ x ∈ m) → l = m
  | [], [], _, _, _ => rfl
  | [], y :: m, _, _, h => absurd ((h y).mpr List.mem_cons_self) List.not_mem_nil
  | x :: l, [], _, _, h => absurd ((h x).mp List.mem_cons_self) List.not_mem_nil
  | x :: l, y :: m, hl, hm, h => by
    obtain ⟨l1, l2⟩ := List.pairwise_cons.mp hl
    obtain ⟨m1, m2⟩ := List.pairwise_cons.mp hm
    have e : x = y := by
      rcases List.mem_cons.mp ((h x).mp List.mem_cons_self) with e | e
      · exact e
      · rcases List.mem_cons.mp ((h y).mpr List.mem_cons_self) with e2 | e2
        · exact e2.symm
        · have := l1 y e2
          have := m1 x e
          omega
    subst e
    rw [rise_uniq l2 m2 fun z => ⟨fun q => ?_, fun q => ?_⟩]
    · rcases List.mem_cons.mp ((h z).mp (List.mem_cons_of_mem _ q)) with e | e
      · subst e
        exact absurd (l1 z q) (Int.lt_irrefl z)
      · exact e
    · rcases List.mem_cons.mp ((h z).mpr (List.mem_cons_of_mem _ q)) with e | e
      · subst e
        exact absurd (m1 z q) (Int.lt_irrefl z)
      · exact e
theorem inV_int (k : Int) : ∀ th : List Int, inV (.int k) (th.map V.int) = th.contains k
  | [] => rfl
  | x :: th => by
    have ih := inV_int k th
    unfold inV at *
    rw [List.map_cons, List.any_cons, ih, List.contains_cons]
    congr 1
    show decide (x = k) = (k == x)
    rw [Bool.eq_iff_iff, decide_eq_true_eq, beq_iff_eq]
    exact eq_comm
theorem emod_sub (t w M : Int) : (t % M - w) % M = (t - w) % M := by rw [Int.sub_emod, Int.emod_emod, ← Int.sub_emod]
/-! ### close, as the law tells it -/
def lawC (last : Int) (hs : List E3) : List Int × Int × List E3 :=
  ((sort3 (hs.filter fun e => decide (e.1 ≤ last))).map (·.2.1) ++ (go (last + 1) (hs.filter fun e => decide (last < e.1))).1, (go (last + 1) (hs.filter fun e => decide (last < e.1))).2)
def Gc (wt clk : Int) (w : Int) (hs : List E3) : List Int × Int × List E3 :=
  ((go w hs).1 ++ (closeF wt clk (keysN hs) (go w hs).2.1 (go w hs).2.2).1, (closeF wt clk (keysN hs) (go w hs).2.1 (go w hs).2.2).2)
theorem long_iff {wt clk n : Int} {hs : List E3} : longN wt clk hs n = true ↔ ∃ e ∈ hs, n ≤ e.1 ∧ clk - e.2.2 ≥ wt := by
  unfold longN
  rw [List.any_eq_true]
  constructor
  · rintro ⟨e, he, h⟩
    rw [Bool.and_eq_true, decide_eq_true_eq, decide_eq_true_eq] at h
    exact ⟨e, he, h⟩
  · rintro ⟨e, he, h⟩
    exact ⟨e, he, by rw [Bool.and_eq_true, decide_eq_true_eq, decide_eq_true_eq]; exact h⟩
theorem closeF_skip {wt clk n : Int} {ns : List Int} {w : Int} {hs : List E3} (h : hasN hs n = false) : closeF wt clk (n :: ns) w hs = closeF wt clk ns w hs := by
  conv => lhs; unfold closeF
  rw [if_neg]
  unfold wantedN
  rw [h, Bool.false_and]
  decide
theorem closeF_no (wt clk : Int) : ∀ (ns : List Int) (w : Int) (hs : List E3), (∀ e ∈ hs, ¬ clk - e.2.2 ≥ wt) → closeF wt clk ns w hs = ([], w, hs)
  | [], _, _, _ => rfl
  | n :: ns, w, hs, h => by
    have hn : longN wt clk hs n = false := by
      cases q : longN wt clk hs n with
      | false => rfl
      | true =>
        obtain ⟨e, he, _, h2⟩ := long_iff.mp q
        exact absurd h2 (h e he)
    unfold closeF wantedN
    rw [hn, Bool.and_false, if_neg (by decide)]
    exact closeF_no wt clk ns w hs h
theorem dropN_keys {hs : List E3} {n : Int} : (dropN hs n).map (·.1) = (hs.map (·.1)).filter fun k => decide (k ≠ n) := by
  unfold dropN
  rw [List.filter_map]
  rfl
theorem keysN_cons {hs : List E3} {n : Int} (nd : (hs.map (·.1)).Nodup) (hn : hasN hs n = true) (lo : ∀ e ∈ hs, n ≤ e.1) : keysN hs = n :: keysN (dropN hs n) := by
  have h1 : (keysN hs).Pairwise (· < ·) := keysN_lt nd
  have nd2 : ((dropN hs n).map (·.1)).Nodup := nd.sublist ((List.filter_sublist (l := hs)).map _)
  have h2 : (keysN (dropN hs n)).Pairwise (· < ·) := keysN_lt nd2
  have mem : ∀ {l : List E3} {x : Int}, x ∈ keysN l ↔ ∃ e ∈ l, e.1 = x := fun {l x} => by
    unfold keysN
    rw [(sortI_perm _).mem_iff, List.mem_map]
  refine rise_uniq h1 (List.pairwise_cons.mpr ⟨fun y hy => ?_, h2⟩) fun x => ?_
  · obtain ⟨e, he, rfl⟩ := mem.mp hy
    obtain ⟨he1, he2⟩ := List.mem_filter.mp he
    have := lo e he1
    have := of_decide_eq_true he2
    omega
  · rw [mem, List.mem_cons, mem]
    constructor
    · rintro ⟨e, he, rfl⟩
      by_cases q : e.1 = n
      · exact .inl q
      · exact .inr ⟨e, List.mem_filter.mpr ⟨he, decide_eq_true q⟩, rfl⟩
    · rintro (rfl | ⟨e, he, rfl⟩)
      · exact has_iff.mp hn
      · exact ⟨e, (List.mem_filter.mp he).1, rfl⟩
theorem go_gone {w : Int} {hs : List E3} (lo : ∀ e ∈ hs, w ≤ e.1) : hasN (go w hs).2.2 w = false := by
  cases q : hasN (go w hs).2.2 w with
  | false => rfl
  | true =>
    obtain ⟨e, he, h⟩ := has_iff.mp q
    have h1 := go_lo lo e he
    have h2 := (go_end _ w hs rfl).2.1
    omega
/-- one from the least on -/
theorem Gc_step {wt clk n : Int} {hs : List E3} {e : E3} (nd : (hs.map (·.1)).Nodup) (hf : hs.find? (fun e => decide (e.1 = n)) = some e) (lo : ∀ e ∈ hs, n ≤ e.1) :
    Gc wt clk n hs = (e.2.1 :: (Gc wt clk (n + 1) (dropN hs n)).1, (Gc wt clk (n + 1) (dropN hs n)).2) := by
  have hh : hasN hs n = true := has_iff.mpr ⟨e, List.mem_of_find?_eq_some hf, by simpa using List.find?_some hf⟩
  unfold Gc
  rw [keysN_cons nd hh lo, closeF_skip (go_gone lo), go_some hf]
  rfl
/-- the walk over all keys begins at the least, where one was held long enough -/
theorem closeF_first {wt clk n w : Int} {hs : List E3} (nd : (hs.map (·.1)).Nodup) (hn : hasN hs n = true) (lo : ∀ e ∈ hs, n ≤ e.1) (hl : longN wt clk hs n = true) : closeF wt clk (keysN hs) w hs = Gc wt clk n hs := by
  unfold Gc
  rw [keysN_cons nd hn lo, closeF_skip (go_gone lo)]
  conv => lhs; unfold closeF
  rw [if_pos (by unfold wantedN; rw [hn, hl]; rfl)]
theorem least_of : ∀ {hs : List E3}, hs ≠ [] → ∃ n, hasN hs n = true ∧ ∀ e ∈ hs, n ≤ e.1
  | [], h => absurd rfl h
  | [e], _ => ⟨e.1, has_iff.mpr ⟨e, List.mem_singleton.mpr rfl, rfl⟩, fun x hx => by rw [List.mem_singleton.mp hx]; exact Int.le_refl _⟩
  | e :: f :: hs, _ => by
    obtain ⟨n, h1, h2⟩ := least_of (hs := f :: hs) (by simp)
    by_cases q : n ≤ e.1
    · refine ⟨n, ?_, fun x hx => ?_⟩
      · obtain ⟨y, hy, h⟩ := has_iff.mp h1
        exact has_iff.mpr ⟨y, List.mem_cons_of_mem _ hy, h⟩
      · rcases List.mem_cons.mp hx with rfl | hx
        · exact q
        · exact h2 x hx
    · refine ⟨e.1, has_iff.mpr ⟨e, List.mem_cons_self, rfl⟩, fun x hx => ?_⟩
      rcases List.mem_cons.mp hx with rfl | hx
      · exact Int.le_refl _
      · have := h2 x hx
        omega
theorem filt_len {hs : List E3} {n : Int} (h : hasN hs n = true) : (dropN hs n).length < hs.length := dropN_len h
theorem find_perm {hs : List E3} {n : Int} {e : E3} (nd : (hs.map (·.1)).Nodup) (hf : hs.find? (fun e => decide (e.1 = n)) = some e) : hs.Perm (e :: dropN hs n) := by
  induction hs with
  | nil => cases hf
  | cons x hs ih =>
    obtain ⟨n1, n2⟩ := List.nodup_cons.mp (show (x.1 :: hs.map (·.1)).Nodup from nd)
    by_cases q : x.1 = n
    · rw [List.find?_cons_of_pos (by simpa using q)] at hf
      have hxe := Option.some.inj hf
      rw [← hxe]
      have : dropN (x :: hs) n = hs := by
        unfold dropN
        rw [List.filter_cons_of_neg (by simpa using q)]
        refine List.filter_eq_self.mpr fun y hy => decide_eq_true fun z => n1 (List.mem_map.mpr ⟨y, hy, by rw [z, q]⟩)
      rw [this]
    · rw [List.find?_cons_of_neg (by simpa using q)] at hf
      have : dropN (x :: hs) n = x :: dropN hs n := by
        unfold dropN
        rw [List.filter_cons_of_pos (by simpa using q)]
      rw [this]
      exact ((ih n2 hf).cons x).trans (List.Perm.swap _ _ _)
/-- sorted of what stands up to last: the least ahead -/
theorem sort3_least {hs : List E3} {n last : Int} {e : E3} (nd : (hs.map (·.1)).Nodup) (hf : hs.find? (fun e => decide (e.1 = n)) = some e) (lo : ∀ e ∈ hs, n ≤ e.1) (hl : n ≤ last) :
    sort3 (hs.filter fun e => decide (e.1 ≤ last)) = e :: sort3 ((dropN hs n).filter fun e => decide (e.1 ≤ last)) := by
  have he1 : e.1 = n := by simpa using List.find?_some hf
  refine (sort3_eq ?_ ?_).symm
  · refine List.pairwise_cons.mpr ⟨fun y hy => ?_, sort3_up _⟩
    have hy2 := (List.mem_filter.mp ((sort3_perm _).mem_iff.mp hy)).1
    obtain ⟨hy3, hy4⟩ := List.mem_filter.mp hy2
    have := lo y hy3
    have := of_decide_eq_true hy4
    exact Tri.lex3_no.mpr (by omega)
  · refine ((sort3_perm _).cons e).trans ?_
    have := (find_perm nd hf).filter fun e => decide (e.1 ≤ last)
    rw [List.filter_cons_of_pos (by simp; omega)] at this
    exact this.symm
theorem Gc_law {wt clk last : Int} : ∀ (N : Nat) (hs : List E3) (n : Int), hs.length = N → (hs.map (·.1)).Nodup → (∃ e ∈ hs, e.1 = last ∧ clk - e.2.2 ≥ wt) → (∀ e ∈ hs, clk - e.2.2 ≥ wt → e.1 ≤ last) → hasN hs n = true → (∀ e ∈ hs, n ≤ e.1) →
    Gc wt clk n hs = lawC last hs := by
  intro N
  induction N using Nat.strongRecOn with
  | _ N ih =>
    intro hs n hN nd hlast hmax hn lo
    obtain ⟨e, he, he1, hf⟩ := find_some hn
    have hd := dropN_len hn
    have nd2 : ((dropN hs n).map (·.1)).Nodup := nd.sublist ((List.filter_sublist (l := hs)).map _)
    obtain ⟨x, hx, hx1, hx2⟩ := hlast
    have hnl : n ≤ last := by have := lo x hx; omega
    rw [Gc_step nd hf lo]
    have hs3 := sort3_least nd hf lo hnl
    have hgt : (hs.filter fun e => decide (last < e.1)) = (dropN hs n).filter fun e => decide (last < e.1) := by
      unfold dropN
      rw [List.filter_filter]
      refine List.filter_congr fun y hy => ?_
      by_cases q : last < y.1
      · rw [decide_eq_true q, decide_eq_true (show y.1 ≠ n by omega), Bool.and_self]
      · rw [decide_eq_false q, Bool.false_and]
    have hlaw : lawC last hs = (e.2.1 :: (lawC last (dropN hs n)).1, (lawC last (dropN hs n)).2) := by
      unfold lawC
      rw [hs3, hgt]
      rfl
    rw [hlaw]
    have mem2 : ∀ y ∈ dropN hs n, y ∈ hs ∧ y.1 ≠ n := fun y hy => ⟨(List.mem_filter.mp hy).1, of_decide_eq_true (List.mem_filter.mp hy).2⟩
    have key : Gc wt clk (n + 1) (dropN hs n) = lawC last (dropN hs n) := by
      by_cases q : n = last
      · -- nothing long is left
        have hno : ∀ y ∈ dropN hs n, ¬ clk - y.2.2 ≥ wt := fun y hy h => by
          obtain ⟨h1, h2⟩ := mem2 y hy
          have := hmax y h1 h
          have := lo y h1
          omega
        have hsub := (go_end _ (n + 1) (dropN hs n) rfl).2.2.1
        unfold Gc
        rw [closeF_no _ _ _ _ _ fun y hy => hno y (hsub.subset hy), List.append_nil]
        unfold lawC
        have f1 : ((dropN hs n).filter fun e => decide (e.1 ≤ last)) = [] := List.filter_eq_nil_iff.mpr fun y hy => by
          obtain ⟨h1, h2⟩ := mem2 y hy
          have := lo y h1
          simp
          omega
        have f2 : ((dropN hs n).filter fun e => decide (last < e.1)) = dropN hs n := List.filter_eq_self.mpr fun y hy => by
          obtain ⟨h1, h2⟩ := mem2 y hy
          have := lo y h1
          simp
          omega
        rw [f1, f2, q]
        rfl
      · -- the last is still there
        have hx3 : x ∈ dropN hs n := List.mem_filter.mpr ⟨hx, decide_eq_true (by omega)⟩
        obtain ⟨n', hn', lo'⟩ := least_of (hs := dropN hs n) (List.ne_nil_of_mem hx3)
        have hlt : n < n' := by
          obtain ⟨y, hy, hy1⟩ := has_iff.mp hn'
          obtain ⟨h1, h2⟩ := mem2 y hy
          have := lo y h1
          omega
        have hrec := ih _ (by omega) (dropN hs n) n' rfl nd2 ⟨x, hx3, hx1, hx2⟩ (fun y hy => hmax y (mem2 y hy).1) hn' lo'
        rw [← hrec]
        by_cases q2 : n' = n + 1
        · rw [q2]
        · have hno : hasN (dropN hs n) (n + 1) = false := by
            cases q3 : hasN (dropN hs n) (n + 1) with
            | false => rfl
            | true =>
              obtain ⟨y, hy, hy1⟩ := has_iff.mp q3
              have := lo' y hy
              omega
          have e1 : Gc wt clk (n + 1) (dropN hs n) = closeF wt clk (keysN (dropN hs n)) (n + 1) (dropN hs n) := by
            unfold Gc
            rw [go_none hno]
            rfl
          rw [e1, closeF_first nd2 hn' lo' (long_iff.mpr ⟨x, hx3, lo' x hx3, hx2⟩)]
    rw [key]
/-- close, as the law tells it -/
theorem closeM_law {R : Rcv} {S : MS} (h : MOk R S) :
    ((∀ e ∈ S.hs, ¬ S.clk - e.2.2 ≥ R.wt) → closeM R S = ([], { S with clk := S.clk + 1 })) ∧
    ∀ last, (∃ e ∈ S.hs, e.1 = last ∧ S.clk - e.2.2 ≥ R.wt) → (∀ e ∈ S.hs, S.clk - e.2.2 ≥ R.wt → e.1 ≤ last) → closeM R S = ((lawC last S.hs).1, { S with w := (lawC last S.hs).2.1, hs := (lawC last S.hs).2.2, clk := S.clk + 1 }) := by
  refine ⟨fun hno => ?_, fun last hl hm => ?_⟩
  · unfold closeM
    rw [closeF_no _ _ _ _ _ hno]
  · obtain ⟨x, hx, hx1, hx2⟩ := id hl
    obtain ⟨n, hn, lo⟩ := least_of (List.ne_nil_of_mem hx)
    have e := closeF_first (w := S.w) h.nd hn lo (long_iff.mpr ⟨x, hx, lo x hx, hx2⟩)
    rw [Gc_law _ S.hs n rfl h.nd hl hm hn lo] at e
    unfold closeM
    rw [e]
end Tp
/-! ### xs.remove(y), the items of any shape that == may be asked of -/
namespace L2
open PySem PySem.Spec PyProof.Rows
def rRemD (K : PySem.W.Frag) : V → List V → Hp → VK → Prop := fun x xs H Q => ∃ (l : Addr) (ys : List V) (ds : List PyData) (y : V) (d : PyData) (j : Nat) (z : PyData), x = .ref l ∧ xs = [y] ∧ H l = some (.lst ys) ∧ DpAll K H ys ds ∧ Dp K H y d ∧
  SeqAt.shaped (.list ds) = true ∧ SeqAt.shaped d = true ∧ ds[j]? = some z ∧ PyData.eqv z d = true ∧ (∀ (m : Nat) (z' : PyData), m < j → ds[m]? = some z' → PyData.eqv z' d = false) ∧ Q .non (upd H l (.lst (ys.eraseIdx j)))
theorem vals_erase : ∀ {xs : List V} {us : List Value} (j : Nat), Vals xs us → Vals (xs.eraseIdx j) (us.eraseIdx j)
  | _, _, _, .nil => .nil
  | _, _, 0, .cons _ t => t
  | _, _, j + 1, .cons r t => .cons r (vals_erase j t)
theorem mt_removeD {X : Cx} (hu : X.A.units + 65 < cLine) : MtM X "list.remove" (rRemD X.K) := by
  intro pins s σ H x xs v us Q I rx rxs h
  obtain ⟨l, ys, ds, y, d, j, z, rfl, rfl, hH, ha, hy, sl, sd, hz, hzj, hno, q⟩ := h
  cases rx
  obtain ⟨uy, rfl, ry⟩ := rxs.one
  obtain ⟨bs, r1⟩ := Dp.reads I d y uy hy ry
  have hxs : PyData.canLayAll0 ds = true := SeqAt.canLay_of_shaped sl
  have hroom : X.A.units + 1 + min (PyData.depthAll ds) d.depth < cLine := room_in_shaped sd hu
  obtain ⟨zl, its, n, r, hl, e⟩ := I.lstM hH
  obtain ⟨as, h4⟩ := Dp.readsAll I ds _ its ha r
  have hn : its.length = ds.length := SeqAt.ReadsAll.length ds its as h4
  have hmap : its.map (SeqAt.readOf s.heap) = ds := SeqAt.readsAll_map ds its as hxs h4
  obtain ⟨hjd, _⟩ := List.getElem?_eq_some_iff.mp hz
  have hjl : j < its.length := by omega
  have hj : j < its.toArray.size := by simpa using hjl
  have at_ : ∀ (m : Nat) (hm : m < its.toArray.size) (z' : PyData), ds[m]? = some z' → SeqAt.readOf s.heap its.toArray[m] = z' := by
    intro m hm z' hz'
    have hml : m < its.length := by simpa using hm
    rw [← hmap, List.getElem?_map, List.getElem?_eq_getElem hml] at hz'
    have e1 : SeqAt.readOf s.heap its[m] = z' := Option.some.inj (show some (SeqAt.readOf s.heap its[m]) = some z' from hz')
    simpa using e1
  have hlen := r.length
  refine call_meets PySem.F.slot_list_remove ⟨_, e, rfl⟩ PySem.F.entry_list_remove (PySem.F.args_list_remove_2 _ _)
    (SeqAt.list_removeAt l its.toArray n none #[] uy (fun u => PyData.eqv (SeqAt.readOf s.heap u) d) j hj ?_ ?_ (by rw [List.size_toArray]; omega)) ⟨e, SeqAt.items_eqAt (vs := its.toArray) (show ReadsAll s.heap its.toArray.toList ds as from h4) r1 hxs (SeqAt.canLay_of_shaped sd) hroom, ?_⟩
  · show PyData.eqv (SeqAt.readOf s.heap its.toArray[j]) d = true
    rw [at_ j hj z hz]
    exact hzj
  · intro m hm hmj
    have hmd : m < ds.length := by omega
    have hz' : ds[m]? = some ds[m] := List.getElem?_eq_getElem hmd
    show PyData.eqv (SeqAt.readOf s.heap its.toArray[m]) d = false
    rw [at_ m hm _ hz']
    exact hno m _ hmj hz'
  · have rr := vals_erase j r
    refine ⟨.non, _, I.lset (its' := its.eraseIdx j) (t' := s.toks) hH e ?_ rr ?_, rfl, q⟩
    · show its.toArray.eraseIdxIfInBounds j = (its.eraseIdx j).toArray
      rw [List.eraseIdxIfInBounds_toArray]
    · have := List.length_eraseIdx_le ys j
      omega
end L2
namespace Tp
open PySem L2
end Tp
/-! ### d.update(another dict), keys ints and texts -/
namespace L2
open PySem PySem.Spec PyProof.Rows
def rUpdK : V → List V → Hp → VK → Prop := fun x xs H Q => ∃ (a b : Addr) (kvs more : List (Key × V)), x = .ref a ∧ xs = [.ref b] ∧ a ≠ b ∧ H a = some (.dK kvs) ∧ H b = some (.dK more) ∧ kvs.length + more.length ≤ sizeLine ∧ Q .non (upd H a (.dK (mergeK kvs more)))
theorem mt_updK {X : Cx} : MtR X "dict.update" rUpdK := by
  intro pins s σ H x xs v us Q I rx rxs h
  obtain ⟨a, b, kvs, more, rfl, rfl, hab, ha, hb, hz, q⟩ := h
  cases rx
  obtain ⟨u, rfl, ru⟩ := rxs.one
  obtain rfl : u = Value.ref b := ru
  obtain ⟨z1, d1, vs, rel, dd⟩ := dk_of I.hok ha
  obtain ⟨z2, d2, ms, rel2, dd2⟩ := dk_of I.hok hb
  refine call_meetsIn PySem.F.slot_dict_update dd.typeIs PySem.F.entry_dict_update (PySem.F.args_dict_update_2 _ _) (meets_dict_update (mixKind X.prog X.w) a b hab d2) ⟨vs, ms, dd, dd2, by rw [← rel.length, ← rel2.length]; exact hz, fun h' dd' _ hs => ?_⟩
  have he : ∃ q, h'.get? a = some q := let ⟨q, _, _, hq, _⟩ := dd'; ⟨q, hq⟩
  exact ⟨.non, _, d_write (t' := s.toks) I (by rw [ha]; exact True.intro) hs he (dk_new (Nat.le_trans (length_mergeK _ _) hz) d1 (KV.merge rel2 rel) dd'), rfl, q⟩
end L2
namespace Tp
open PySem L2
end Tp
/-! ### sorted of lists of three whole numbers, any number of them -/
namespace Tri
open PySem PyProof.Rows Srt SrtO
section
variable {prog : Program} {w : World} {A : Around} {E : Value → Shared → Prop} {s : Shared}
def IsTriL (h : Heap) (v : Value) (k : I3) : Prop := ∃ a o t u z n, v = .ref a ∧ h.get? a = some o ∧ o.cls = .type "list" ∧ o.data = .seq #[.int k.1 t, .int k.2.1 u, .int k.2.2 z] n
def dL (k : I3) : PyData := .list [.int k.1, .int k.2.1, .int k.2.2]
theorem IsTriL.reads {h : Heap} {v : Value} {k : I3} (p : IsTriL h v k) : ∃ as, Reads h v (dL k) as := by
  obtain ⟨a, o, t, u, z, n, rfl, ho, hc, hd⟩ := p
  exact ⟨_, Reads.list ho hc hd (ReadsAll.cons (.int _ _) (ReadsAll.cons (.int _ _) (ReadsAll.cons (.int _ _) ReadsAll.nil)))⟩
theorem alikeL (x y : I3) : PySem.W.alike (dL x) (dL y) = true := rfl
theorem ltL (x y : I3) : PySem.W.dataLt (dL x) (dL y) = lex3 x y := by
  obtain ⟨x1, x2, x3⟩ := x
  obtain ⟨y1, y2, y3⟩ := y
  unfold dL lex3
  rw [PySem.W.dataLt_list]
  have one : ∀ (i j : Int) (xs ys : List PyData), PyProof.Rows.lexLt itemOrd (PySem.W.keyToksAll (.int i :: xs)) (PySem.W.keyToksAll (.int j :: ys)) = if i = j then PyProof.Rows.lexLt itemOrd (PySem.W.keyToksAll xs) (PySem.W.keyToksAll ys) else decide (i < j) := fun i j xs ys => by
    by_cases e : i = j
    · rw [if_pos e]
      exact PySem.W.dataLt_all_yes rfl (by show (i == j) = true; simpa using e)
    · rw [if_neg e, PySem.W.dataLt_all_no rfl (by show (i == j) = false; simpa using e)]
      exact PySem.W.dataLt_int i j
  rw [one, one, one]
  dsimp only
  by_cases e1 : x1 = y1
  · rw [if_pos e1, if_pos e1]
    by_cases e2 : x2 = y2
    · rw [if_pos e2, if_pos e2]
      by_cases e3 : x3 = y3
      · rw [if_pos e3, e3]
        exact (decide_eq_false (Int.lt_irrefl _)).symm
      · rw [if_neg e3]
    · rw [if_neg e2, if_neg e2]
  · rw [if_neg e1, if_neg e1]
theorem cmpL {vs : List Value} {k : Value → I3} (hu : A.units + 64 < cLine) (hp : ∀ v ∈ vs, IsTriL s.heap v (k v)) : SrtO.Cmp prog w A s oneType' (fun p => p.1 ∈ vs) (lt2 fun v u => lex3 (k v) (k u)) := by
  intro p q m m'
  obtain ⟨as, r1⟩ := (hp _ m).reads
  obtain ⟨bs, r2⟩ := (hp _ m').reads
  show wpAny (model prog w) A (keyLt' oneType' p.1 q.1) (fun r s' => s' = s ∧ r = lex3 (k p.1) (k q.1)) (fun _ _ => False) s
  rw [keyLt'_oneType]
  refine PySem.W.oneLt_alike (fun _ xs z => by cases z) r1 r2 (alikeL _ _) (fun z => by cases z) ?_ ⟨rfl, ltL _ _⟩
  have e : (dL (k p.1)).depth = 1 := rfl
  have e2 : (dL (k q.1)).depth = 1 := rfl
  rw [e, e2]
  omega
theorem sortableL {a : Addr} {vs : List Value} {k : Value → I3} (hu : A.units + 64 < cLine) (h2 : 2 ≤ vs.length) (hp : ∀ v ∈ vs, IsTriL s.heap v (k v) ∧ v ≠ .ref a) : SortableO prog w A s a vs fun v u => lex3 (k v) (k u) := by
  intro h' kp
  have hp' : ∀ v ∈ vs, IsTriL h' v (k v) := fun v m => by
    obtain ⟨⟨b, o, t, u, z, n, e, ho, hc, hd⟩, ne⟩ := hp v m
    exact ⟨b, o, t, u, z, n, e, kp b o (fun q => ne (by rw [e, q])) ho, hc, hd⟩
  refine ⟨oneType', fun Q E hq => ?_, cmpL (s := { s with heap := h' }) hu hp'⟩
  refine PySem.W.kas_kind (T := .type "list") h2 (fun v m => ?_) (by decide +kernel) (by rfl) hq
  obtain ⟨b, o, t, u, z, n, e, ho, hc, hd⟩ := hp' v m
  rw [e, ← hc]
  exact (PySem.W.Looks.ld ho).andThen .now
theorem sortedL {l : Addr} {vs : List Value} {k : Value → I3} {Q : Value → Shared → Prop} (hu : A.units + 70 < cLine) (hl : s.heap.IsList l vs.toArray) (hz : vs.length ≤ sizeLine) (hp : ∀ v ∈ vs, IsTriL s.heap v (k v))
    (h : ∀ (h' : Heap) (d : Addr) (out : List Value), Srtd (fun v u => lex3 (k v) (k u)) out → Stb (fun v u => lex3 (k v) (k u)) out vs → (∀ b o, s.heap.get? b = some o → h'.get? b = some o) → s.heap.objs.size ≤ d →
      (∃ n, h'.get? d = some (seqObj "list" out.toArray n)) → Q (.ref d) { s with heap := h' }) :
    wpAny (model prog w) A (call (.builtin "sorted") [.ref l]) Q E s := by
  refine sorted_ord (swo3 k) hl hz (fun h2 h₁ a ha kk => ?_) fun out hs hb => ?_
  · refine sortableL (s := { s with heap := h₁ }) (by show A.units + 1 + 1 + 64 < cLine; omega) h2 fun v m => ?_
    obtain ⟨b, o, t, u, z, n, e, ho, hc, hd⟩ := hp v m
    exact ⟨⟨b, o, t, u, z, n, e, (kk b o ho).2, hc, hd⟩, fun q => (kk b o ho).1 (by rw [e] at q; exact Value.ref.inj q)⟩
  · exact h _ _ out hs hb (fun b o e => sortedAll_old e) (Nat.le_succ _) (sortedAll_at s.heap vs out.toArray)
end
end Tri
namespace L2
open PySem PySem.Spec PyProof.Rows
/-- sorted(a list of lists of three ints) -/
def rSortedL (K : PySem.W.Frag) : List V → Hp → VK → Prop := fun vs H Q => ∃ (a : Addr) (xs : List V) (k : V → Tri.I3), vs = [V.ref a] ∧ SqL K H a xs ∧ (∀ x ∈ xs, ∃ t, x = V.ref t ∧ H t = some (.lst [.int (k x).1, .int (k x).2.1, .int (k x).2.2])) ∧
  ∀ ys p, SrtO.Srtd (fun x y => Tri.lex3 (k x) (k y)) ys → ys.Perm xs → H p = none → Q (.ref p) (upd H p (.lst ys))
theorem cr_sortedL {X : Cx} (hu : X.A.units + 70 < cLine) : CallR X (.builtin "sorted") (rSortedL X.K) := by
  intro pins s σ H vs us Q I r h
  obtain ⟨a, xs, k, rfl, hs, hx, q⟩ := h
  obtain ⟨its, rv, hl, hz⟩ := I.list hs
  obtain ⟨u, rfl, ru⟩ := vals1 r
  obtain rfl : u = Value.ref a := ru
  obtain ⟨e1, e2⟩ := refs_back rv fun x m => (hx x m).imp fun _ z => z.1
  refine Tri.sortedL (k := fun u => k (backV u)) hu hl.isList (by rw [← rv.length]; exact hz) (fun v hv => ?_) fun h' d out h1 h2 kp hd hn => ?_
  · obtain ⟨t, rfl⟩ := e2 v hv
    have hm : V.ref t ∈ xs := e1 ▸ List.mem_map.mpr ⟨_, hv, rfl⟩
    obtain ⟨t', e, ht⟩ := hx _ hm
    cases e
    obtain ⟨zl, its2, n, r2, hl2, ob⟩ := I.lstM ht
    cases r2 with
    | cons r1 r2 =>
      cases r2 with
      | cons r3 r4 =>
        cases r4 with
        | cons r5 r6 =>
          cases r6
          obtain ⟨t1, rfl⟩ := r1
          obtain ⟨t2, rfl⟩ := r3
          obtain ⟨t3, rfl⟩ := r5
          exact ⟨t, _, t1, t2, t3, n, rfl, ob, rfl, rfl⟩
  · have h3 : ∀ u ∈ out, ∃ a, u = Value.ref a := fun u hu => e2 u (h2.perm.mem_iff.mp hu)
    obtain ⟨n, hn⟩ := hn
    have hb : (out.map backV).Perm xs := by
      rw [e1]
      exact h2.perm.map _
    refine ⟨.ref d, upd H d (.lst (out.map backV)), I.laid (t' := s.toks) kp hd ⟨?_, out, n, vals_back h3, hn⟩, rfl, q _ d (SrtO.srtd_map h1) hb (I.hok.fresh hd)⟩
    rw [hb.length_eq]
    exact hz
end L2
namespace Tp
open PySem L2
theorem iteT' {c : Bool} {A B : Prop} (hc : c = true) (h : A) : if c = true then A else B := by
  rw [hc]
  exact iteT h
theorem iteF' {c : Bool} {A B : Prop} (hc : c = false) (h : B) : if c = true then A else B := by
  rw [hc]
  exact iteF h
/-- a list comprehension that only reads: what is kept, and what is made of it -/
theorem lc_fm {α : Type} {K : PySem.W.Frag} {h D : Addr} {xs : List α} {r : α → V} {g0 : TG} {tt : TT} {te : TE} {vs : List Nat} {σ : L2.St} {H1 : Hp} {Qd : Hp → Prop} (hh : SqL K H1 h (xs.map r)) (hD : H1 D = none) (hl : xs.length ≤ 100000) (f : α → Bool) (g : α → V)
    (hs : ∀ x ∈ xs, ∀ H', Same H1 H' → ∀ (Z : V → Hp → Prop) (N : Hp → Prop), (f x = true → Z (g x) H') → (f x = false → N H') → g0 (r x) (wipe σ vs) H' fun σ2 H2 => wipe σ2 vs = wipe σ vs ∧ tt σ2 H2 fun b H3 => if b = true then te σ2 H3 Z else N H3)
    (hd : ∀ H2, Same H1 H2 → H2 D = some (.lst ((xs.filter f).map g)) → Qd H2) : LcW (Itl K h) g0 tt te vs σ H1 D Qd := by
  refine lc_list (K := K) (a := h) (xs := xs.map r) (fun j H' => Same H1 H' ∧ H' D = some (.lst (((xs.take j).filter f).map g))) ⟨Same.upd_new hD, upd_same⟩ (fun _ H' _ z => z.1.seq hh) ?_ ?_
  · rintro j y H' hj ⟨s1, h1⟩
    rw [List.getElem?_map] at hj
    obtain ⟨x, hx, rfl⟩ := Option.map_eq_some_iff.mp hj
    have hm := List.mem_of_getElem? hx
    refine hs x hm H' s1 _ _ (fun q => ?_) fun q => ?_
    · refine ⟨_, h1, Nat.lt_of_le_of_lt (m := 100000) ?_ (by decide), s1.mut hD, ?_⟩
      · have := List.length_filter_le f (xs.take j)
        rw [List.length_take] at this
        rw [List.length_map]
        omega
      · rw [upd_same, take_succ_of hx, List.filter_append, List.filter_cons_of_pos q, List.filter_nil, List.map_append]
        rfl
    · refine ⟨s1, ?_⟩
      rw [h1, take_succ_of hx, List.filter_append, List.filter_cons_of_neg (by rw [q]; decide), List.filter_nil, List.append_nil]
  · rintro H' ⟨s1, h1⟩
    rw [List.length_map, List.take_length] at h1
    exact hd H' s1 h1
/-! ### the law's own receiver in the heap: a dict, and a list of lists -/
theorem valV_cons {k j : Key} {v : V} {r : List (Key × V)} : valV ((k, v) :: r) j = if k = j then some v else valV r j := by
  by_cases e : k = j
  · rw [if_pos e]; exact valV_pos (p := (k, v)) e
  · rw [if_neg e]; exact valV_neg (p := (k, v)) e
theorem putK_at {kvs : List (Key × V)} {k : Key} {v u : V} (h : valV kvs k = some u) : putK kvs k v = kvs.map fun kv => if kv.1 = k then (kv.1, v) else kv := by
  unfold putK
  rw [valV_any, h]
  rfl
theorem mapK_cons {k j : Key} {v u : V} {r : List (Key × V)} : ((k, v) :: r).map (fun kv => if kv.1 = j then (kv.1, u) else kv) = (if k = j then (k, u) else (k, v)) :: r.map (fun kv => if kv.1 = j then (kv.1, u) else kv) := rfl
theorem put_fresh {kvs : List (Key × V)} {k : Key} {v : V} (h : (kvs.map (·.1)).all (fun j => decide (j ≠ k)) = true) : putK kvs k v = kvs ++ [(k, v)] := by
  refine putK_new v ?_
  induction kvs with
  | nil => rfl
  | cons p r ih =>
    rw [List.map_cons, List.all_cons, Bool.and_eq_true, decide_eq_true_eq] at h
    rw [valV_neg h.1]
    exact ih h.2
def lkv (rq h : Addr) (S : MS) : List (Key × V) := [(Sum.inr "receiver", .ref rq), (Sum.inr "wanted", .int S.w), (Sum.inr "held", .ref h), (Sum.inr "now", .int S.clk), (Sum.inr "dropped", .int S.old)]
section
variable {rq h : Addr} {S : MS}
theorem lk_receiver : valV (lkv rq h S) (Sum.inr "receiver" : Key) = some (.ref rq) := by
  unfold lkv; rw [valV_cons, if_pos rfl]
theorem lk_wanted : valV (lkv rq h S) (Sum.inr "wanted" : Key) = some (.int S.w) := by
  unfold lkv; rw [valV_cons, if_neg (by decide +kernel), valV_cons, if_pos rfl]
theorem lk_held : valV (lkv rq h S) (Sum.inr "held" : Key) = some (.ref h) := by
  unfold lkv; rw [valV_cons, if_neg (by decide +kernel), valV_cons, if_neg (by decide +kernel), valV_cons, if_pos rfl]
theorem lk_now : valV (lkv rq h S) (Sum.inr "now" : Key) = some (.int S.clk) := by
  unfold lkv; rw [valV_cons, if_neg (by decide +kernel), valV_cons, if_neg (by decide +kernel), valV_cons, if_neg (by decide +kernel), valV_cons, if_pos rfl]
theorem lk_dropped : valV (lkv rq h S) (Sum.inr "dropped" : Key) = some (.int S.old) := by
  unfold lkv; rw [valV_cons, if_neg (by decide +kernel), valV_cons, if_neg (by decide +kernel), valV_cons, if_neg (by decide +kernel), valV_cons, if_neg (by decide +kernel), valV_cons, if_pos rfl]
theorem lp_wanted (w : Int) : putK (lkv rq h S) (Sum.inr "wanted" : Key) (.int w) = lkv rq h { S with w := w } := by
  rw [putK_at lk_wanted]; unfold lkv; rw [mapK_cons, if_neg (by decide +kernel), mapK_cons, if_pos rfl, mapK_cons, if_neg (by decide +kernel), mapK_cons, if_neg (by decide +kernel), mapK_cons, if_neg (by decide +kernel), List.map_nil]
theorem lp_held (b : Addr) : putK (lkv rq h S) (Sum.inr "held" : Key) (.ref b) = lkv rq b S := by
  rw [putK_at lk_held]; unfold lkv; rw [mapK_cons, if_neg (by decide +kernel), mapK_cons, if_neg (by decide +kernel), mapK_cons, if_pos rfl, mapK_cons, if_neg (by decide +kernel), mapK_cons, if_neg (by decide +kernel), List.map_nil]
theorem lp_now (w : Int) : putK (lkv rq h S) (Sum.inr "now" : Key) (.int w) = lkv rq h { S with clk := w } := by
  rw [putK_at lk_now]; unfold lkv; rw [mapK_cons, if_neg (by decide +kernel), mapK_cons, if_neg (by decide +kernel), mapK_cons, if_neg (by decide +kernel), mapK_cons, if_pos rfl, mapK_cons, if_neg (by decide +kernel), List.map_nil]
theorem lp_dropped (w : Int) : putK (lkv rq h S) (Sum.inr "dropped" : Key) (.int w) = lkv rq h { S with old := w } := by
  rw [putK_at lk_dropped]; unfold lkv; rw [mapK_cons, if_neg (by decide +kernel), mapK_cons, if_neg (by decide +kernel), mapK_cons, if_neg (by decide +kernel), mapK_cons, if_neg (by decide +kernel), mapK_cons, if_pos rfl, List.map_nil]
end
structure LAt (H : Hp) (s h rq : Addr) (R : Rcv) (S : MS) (ks : List (E3 × Addr)) : Prop where
  ob : H s = some (.dK (lkv rq h S))
  rc : RcvAt H rq R
  hd : H h = some (.lst (ks.map fun x => V.ref x.2))
  en : ∀ x ∈ ks, H x.2 = some (.lst [.int x.1.1, .int x.1.2.1, .int x.1.2.2])
  ne : ∀ x ∈ ks, x.2 ≠ h
  eq : ks.map (·.1) = S.hs
/-- the lists that are the law's receiver's own -/
def Ft (h : Addr) (ks : List (E3 × Addr)) (a : Addr) : Prop := a = h ∨ ∃ x ∈ ks, x.2 = a
section
variable {s h rq : Addr} {H H' : Hp} {R : Rcv} {S : MS} {ks : List (E3 × Addr)}
theorem LAt.sh (L : LAt H s h rq R S ks) : s ≠ h := fun z => by
  have h1 := L.ob
  rw [z, L.hd] at h1; cases h1
theorem LAt.get (L : LAt H s h rq R S ks) {x : Str} {v : V} (e : valV (lkv rq h S) (Sum.inr x : Key) = some v) : DGet H s (.str x) (some v) := by
  rw [← e]
  exact DGet.k (k := Sum.inr x) L.ob
theorem LAt.put (L : LAt H s h rq R S ks) {x : Str} {v : V} {kvs : List (Key × V)} (e : putK (lkv rq h S) (Sum.inr x : Key) v = kvs) : DPut H s (.str x) v (upd H s (.dK kvs)) := by
  rw [← e]
  exact DPut.k (k := Sum.inr x) L.ob (by show 5 < sizeLine; decide)
theorem LAt.same (L : LAt H s h rq R S ks) (k : Same H H') : LAt H' s h rq R S ks := ⟨k _ _ L.ob, k _ _ L.rc, k _ _ L.hd, fun x hx => k _ _ (L.en x hx), L.ne, L.eq⟩
theorem LAt.new {p : Addr} {o : HO} (L : LAt H s h rq R S ks) (hp : H p = none) : LAt (upd H p o) s h rq R S ks := L.same (Same.upd_new hp)
/-- a list beside it is changed -/
theorem LAt.aside {p : Addr} {xs : List V} {o : HO} (L : LAt H s h rq R S ks) (hp : H p = some (.lst xs)) (n : ¬ Ft h ks p) : LAt (upd H p o) s h rq R S ks := by
  refine ⟨?_, ?_, ?_, fun x hx => ?_, L.ne, L.eq⟩
  · rw [upd_ne (fun z => by have h1 := L.ob; rw [z, hp] at h1; cases h1)]; exact L.ob
  · show (upd H p o) rq = _
    rw [upd_ne (tup_ne L.rc hp)]; exact L.rc
  · rw [upd_ne (fun z => n (.inl z.symm))]; exact L.hd
  · rw [upd_ne (fun z => n (.inr ⟨x, hx, z⟩))]; exact L.en x hx
/-- its dict is changed, but where the held ones stand -/
theorem LAt.setd {S' : MS} (L : LAt H s h rq R S ks) (e : S'.hs = S.hs) : LAt (upd H s (.dK (lkv rq h S'))) s h rq R S' ks := by
  have nl : ∀ {a : Addr} {xs : List V}, H a = some (.lst xs) → a ≠ s := fun q z => by
    have h1 := L.ob
    rw [← z, q] at h1; cases h1
  refine ⟨upd_same, ?_, ?_, fun x hx => ?_, L.ne, L.eq.trans e.symm⟩
  · show (upd H s _) rq = _
    rw [upd_ne (fun z => by have h1 := L.ob; rw [← z, L.rc] at h1; cases h1)]; exact L.rc
  · rw [upd_ne (nl L.hd)]; exact L.hd
  · rw [upd_ne (nl (L.en x hx))]; exact L.en x hx
/-- the held ones are changed, in their place -/
theorem LAt.seth {S' : MS} {ks' : List (E3 × Addr)} (L : LAt H s h rq R S ks) (e : ks'.map (·.1) = S'.hs) (he : ∀ x ∈ ks', H x.2 = some (.lst [.int x.1.1, .int x.1.2.1, .int x.1.2.2])) (hn : ∀ x ∈ ks', x.2 ≠ h) (w : S'.w = S.w) (c : S'.clk = S.clk) (o : S'.old = S.old) :
    LAt (upd H h (.lst (ks'.map fun x => V.ref x.2))) s h rq R S' ks' := by
  refine ⟨?_, ?_, upd_same, fun x hx => ?_, hn, e⟩
  · rw [upd_ne L.sh, L.ob]
    unfold lkv
    rw [w, c, o]
  · show (upd H h _) rq = _
    rw [upd_ne (tup_ne L.rc L.hd)]; exact L.rc
  · rw [upd_ne (hn x hx)]; exact he x hx
/-- the held ones stand elsewhere -/
theorem LAt.seth2 {S' : MS} {h' : Addr} {ks' : List (E3 × Addr)} (L : LAt H s h rq R S ks) (hh : H h' = some (.lst (ks'.map fun x => V.ref x.2))) (e : ks'.map (·.1) = S'.hs) (he : ∀ x ∈ ks', H x.2 = some (.lst [.int x.1.1, .int x.1.2.1, .int x.1.2.2])) (hn : ∀ x ∈ ks', x.2 ≠ h') :
    LAt (upd H s (.dK (lkv rq h' S'))) s h' rq R S' ks' := by
  have nl : ∀ {a : Addr} {xs : List V}, H a = some (.lst xs) → a ≠ s := fun q z => by
    have h1 := L.ob
    rw [← z, q] at h1; cases h1
  refine ⟨upd_same, ?_, ?_, fun x hx => ?_, hn, e⟩
  · show (upd H s _) rq = _
    rw [upd_ne (fun z => by have h1 := L.ob; rw [← z, L.rc] at h1; cases h1)]; exact L.rc
  · rw [upd_ne (nl hh)]; exact hh
  · rw [upd_ne (nl (he x hx))]; exact he x hx
theorem LAt.ft (L : LAt H s h rq R S ks) {a : Addr} (f : Ft h ks a) : ∃ xs, H a = some (.lst xs) := by
  rcases f with rfl | ⟨x, hx, rfl⟩
  · exact ⟨_, L.hd⟩
  · exact ⟨_, L.en x hx⟩
end
/-- what is new to it is new -/
def Nw (H : Hp) (h : Addr) (ks : List (E3 × Addr)) (h' : Addr) (ks' : List (E3 × Addr)) : Prop := ∀ a, Ft h' ks' a → Ft h ks a ∨ H a = none
theorem room65 {A : Around} {k : Nat} (hr : Room k A) : A.units + 65 < cLine := by have := hr.un; omega
theorem room70 {A : Around} {k : Nat} (hr : Room k A) : A.units + 70 < cLine := by have := hr.un; omega
theorem hu65 {A : Around} {k : Nat} (hr : Room k A) : A.units + 65 < cLine := room65 hr
theorem hu70 {A : Around} {k : Nat} (hr : Room k A) : A.units + 70 < cLine := room70 hr
def dE (e : E3) : PyData := .list [.int e.1, .int e.2.1, .int e.2.2]
theorem eqv_dE (a b : E3) : PyData.eqv (dE a) (dE b) = (decide (a.1 = b.1) && (decide (a.2.1 = b.2.1) && (decide (a.2.2 = b.2.2) && true))) := by
  have e : ∀ i j : Int, PyData.eqv (.int i) (.int j) = decide (i = j) := fun i j => by
    show (i == j) = _
    rw [Bool.eq_iff_iff]
    simp
  show (PyData.eqv (.int a.1) (.int b.1) && (PyData.eqv (.int a.2.1) (.int b.2.1) && (PyData.eqv (.int a.2.2) (.int b.2.2) && true))) = _
  rw [e, e, e]
theorem dp_dE {K : PySem.W.Frag} {H : Hp} {a : Addr} {e : E3} (h : H a = some (.lst [.int e.1, .int e.2.1, .int e.2.2])) : Dp K H (.ref a) (dE e) := .lst (SqL.of h) (.cons (.int _) (.cons (.int _) (.cons (.int _) .nil)))
theorem dp_ks {K : PySem.W.Frag} {H : Hp} : ∀ ks : List (E3 × Addr), (∀ x ∈ ks, H x.2 = some (.lst [.int x.1.1, .int x.1.2.1, .int x.1.2.2])) → DpAll K H (ks.map fun x => V.ref x.2) (ks.map fun x => dE x.1)
  | [], _ => .nil
  | x :: ks, h => .cons (dp_dE (h x List.mem_cons_self)) (dp_ks ks fun y hy => h y (List.mem_cons_of_mem _ hy))
theorem sh_dE (e : E3) : Sh 2 (dE e) := Sh.lst fun d hd => by
  simp only [List.mem_cons, List.not_mem_nil, or_false] at hd
  rcases hd with rfl | rfl | rfl <;> exact .int _
theorem sh_ks (ks : List (E3 × Addr)) : SeqAt.shaped (.list (ks.map fun x => dE x.1)) = true := Sh.ok (n := 3) (Sh.lst fun d hd => by
  obtain ⟨x, _, rfl⟩ := List.mem_map.mp hd
  exact sh_dE x.1) (by decide)
theorem erase_map {α β : Type} (f : α → β) : ∀ (l : List α) (j : Nat), (l.map f).eraseIdx j = (l.eraseIdx j).map f
  | [], _ => rfl
  | _ :: _, 0 => rfl
  | x :: l, j + 1 => by
    show f x :: (l.map f).eraseIdx j = f x :: (l.eraseIdx j).map f
    rw [erase_map f l j]
theorem erase_filter : ∀ {ks : List (E3 × Addr)} {j : Nat} {x : E3 × Addr}, (ks.map (·.1.1)).Nodup → ks[j]? = some x → ks.eraseIdx j = ks.filter fun y => decide (y.1.1 ≠ x.1.1)
  | [], j, x, _, h => by cases h
  | y :: ks, 0, x, nd, h => by
    cases h
    obtain ⟨n1, n2⟩ := List.nodup_cons.mp (show (y.1.1 :: ks.map (·.1.1)).Nodup from nd)
    rw [List.filter_cons_of_neg (by simp)]
    show ks = _
    refine (List.filter_eq_self.mpr fun z hz => ?_).symm
    have : z.1.1 ≠ y.1.1 := fun e => n1 (by rw [← e]; exact List.mem_map.mpr ⟨z, hz, rfl⟩)
    simpa using this
  | y :: ks, j + 1, x, nd, h => by
    obtain ⟨n1, n2⟩ := List.nodup_cons.mp (show (y.1.1 :: ks.map (·.1.1)).Nodup from nd)
    have hx : x ∈ ks := List.mem_of_getElem? (show ks[j]? = some x from h)
    have hne : y.1.1 ≠ x.1.1 := fun e => n1 (by rw [e]; exact List.mem_map.mpr ⟨x, hx, rfl⟩)
    rw [List.filter_cons_of_pos (by simpa using hne)]
    show y :: ks.eraseIdx j = _
    rw [erase_filter n2 h]
/-- at most one bears a number -/
theorem filt_one : ∀ {ks : List (E3 × Addr)} {n : Int}, (ks.map (·.1.1)).Nodup → (ks.filter fun y => decide (y.1.1 = n)) = [] ∨ ∃ (j : Nat) (x : E3 × Addr), ks[j]? = some x ∧ x.1.1 = n ∧ (ks.filter fun y => decide (y.1.1 = n)) = [x] ∧ ∀ m z, m < j → ks[m]? = some z → z.1.1 ≠ n
  | [], _, _ => .inl rfl
  | y :: ks, n, nd => by
    obtain ⟨n1, n2⟩ := List.nodup_cons.mp (show (y.1.1 :: ks.map (·.1.1)).Nodup from nd)
    by_cases q : y.1.1 = n
    · refine .inr ⟨0, y, rfl, q, ?_, fun m z hm _ => absurd hm (Nat.not_lt_zero _)⟩
      rw [List.filter_cons_of_pos (by simpa using q)]
      congr 1
      refine List.filter_eq_nil_iff.mpr fun z hz e => n1 ?_
      rw [q, ← of_decide_eq_true e]
      exact List.mem_map.mpr ⟨z, hz, rfl⟩
    · rw [List.filter_cons_of_neg (by simpa using q)]
      rcases filt_one (n := n) n2 with h | ⟨j, x, h1, h2, h3, h4⟩
      · exact .inl h
      · refine .inr ⟨j + 1, x, h1, h2, h3, fun m z hm hz => ?_⟩
        cases m with
        | zero =>
          cases hz
          exact q
        | succ m => exact h4 m z (by omega) hz
theorem eqv_nil2 : ∀ ks : List (E3 × Addr), PyData.eqv (.list (ks.map fun x => dE x.1)) (.list []) = ks.isEmpty
  | [] => rfl
  | _ :: _ => rfl
theorem merge3 {x y z : V} : mergeK [] [(Sum.inr "receiver", x), (Sum.inr "wanted", y), (Sum.inr "held", z)] = [((Sum.inr "receiver" : Key), x), (Sum.inr "wanted", y), (Sum.inr "held", z)] := by
  have e1 : putK ([] : List (Key × V)) (Sum.inr "receiver") x = ([(Sum.inr "receiver", x)] : List (Key × V)) := put_fresh rfl
  have e2 : putK [((Sum.inr "receiver" : Key), x)] (Sum.inr "wanted") y = ([(Sum.inr "receiver", x), (Sum.inr "wanted", y)] : List (Key × V)) := put_fresh (show ([Sum.inr "receiver"] : List Key).all (fun j => decide (j ≠ (Sum.inr "wanted" : Key))) = true by decide +kernel)
  have e3 : putK [((Sum.inr "receiver" : Key), x), (Sum.inr "wanted", y)] (Sum.inr "held") z = ([(Sum.inr "receiver", x), (Sum.inr "wanted", y), (Sum.inr "held", z)] : List (Key × V)) := put_fresh (show ([Sum.inr "receiver", Sum.inr "wanted"] : List Key).all (fun j => decide (j ≠ (Sum.inr "held" : Key))) = true by decide +kernel)
  show putK (putK (putK ([] : List (Key × V)) (Sum.inr "receiver") x) (Sum.inr "wanted") y) (Sum.inr "held") z = _
  rw [e1, e2, e3]
theorem merge2 {x y : V} : mergeK [] [(Sum.inr "now", x), (Sum.inr "dropped", y)] = [((Sum.inr "now" : Key), x), (Sum.inr "dropped", y)] := by
  have e1 : putK ([] : List (Key × V)) (Sum.inr "now") x = ([(Sum.inr "now", x)] : List (Key × V)) := put_fresh rfl
  have e2 : putK [((Sum.inr "now" : Key), x)] (Sum.inr "dropped") y = ([(Sum.inr "now", x), (Sum.inr "dropped", y)] : List (Key × V)) := put_fresh (show ([Sum.inr "now"] : List Key).all (fun j => decide (j ≠ (Sum.inr "dropped" : Key))) = true by decide +kernel)
  show putK (putK ([] : List (Key × V)) (Sum.inr "now") x) (Sum.inr "dropped") y = _
  rw [e1, e2]
theorem merge5 {rq l : Addr} : mergeK [(Sum.inr "receiver", .ref rq), (Sum.inr "wanted", .int 0), (Sum.inr "held", .ref l)] [(Sum.inr "now", .int 0), (Sum.inr "dropped", .int 0)] = lkv rq l newM := by
  have e1 : putK [((Sum.inr "receiver" : Key), V.ref rq), (Sum.inr "wanted", .int 0), (Sum.inr "held", .ref l)] (Sum.inr "now") (.int 0) = ([(Sum.inr "receiver", .ref rq), (Sum.inr "wanted", .int 0), (Sum.inr "held", .ref l), (Sum.inr "now", .int 0)] : List (Key × V)) :=
    put_fresh (show ([Sum.inr "receiver", Sum.inr "wanted", Sum.inr "held"] : List Key).all (fun j => decide (j ≠ (Sum.inr "now" : Key))) = true by decide +kernel)
  have e2 : putK [((Sum.inr "receiver" : Key), V.ref rq), (Sum.inr "wanted", .int 0), (Sum.inr "held", .ref l), (Sum.inr "now", .int 0)] (Sum.inr "dropped") (.int 0) = ([(Sum.inr "receiver", .ref rq), (Sum.inr "wanted", .int 0), (Sum.inr "held", .ref l), (Sum.inr "now", .int 0), (Sum.inr "dropped", .int 0)] : List (Key × V)) :=
    put_fresh (show ([Sum.inr "receiver", Sum.inr "wanted", Sum.inr "held", Sum.inr "now"] : List Key).all (fun j => decide (j ≠ (Sum.inr "dropped" : Key))) = true by decide +kernel)
  show putK (putK [((Sum.inr "receiver" : Key), V.ref rq), (Sum.inr "wanted", .int 0), (Sum.inr "held", .ref l)] (Sum.inr "now") (.int 0)) (Sum.inr "dropped") (.int 0) = _
  rw [e1, e2]
  rfl
def spLfresh : Sp := fun vs H Q _ => ∃ (rq : Addr) (R : Rcv), vs = [.ref rq] ∧ RcvAt H rq R ∧ ∀ (s h : Addr) (H' : Hp), H s = none → H h = none → LAt H' s h rq R newM [] → Same H H' → Q (.ref s) H'
def spLgoes : Sp := fun vs H Q _ => ∃ (s h rq : Addr) (R : Rcv) (S : MS) (ks : List (E3 × Addr)), vs = [.ref s] ∧ LAt H s h rq R S ks ∧ S.hs.length ≤ 100 ∧ (S.hs.map (·.1)).Nodup ∧
  ∀ (q : Addr) (H' : Hp) (ks' : List (E3 × Addr)), H q = none → H' q = some (.lst ((go S.w S.hs).1.map V.int)) → LAt H' s h rq R { S with w := (go S.w S.hs).2.1, hs := (go S.w S.hs).2.2 } ks' → Km s h H H' → Nw H h ks h ks' → ¬ Ft h ks' q → Q (.ref q) H'
section
variable {P : Program} {w : World} {K : PySem.W.Frag} {mg : Str → Option Value} {base : Heap}
theorem ok_Lfresh (T : Txt K mg) : FnOk P w K mg base CX0 1 T.f_Lfresh T.fd_Lfresh P_Lfresh spLfresh := by
  refine T.F_Lfresh.ok sc_Lfresh (fun vs H Q E h => ?_) (fun cdv A outer s H vs Q E hr h => ?_)
  · obtain ⟨rq, R, rfl, _⟩ := h
    rfl
  · obtain ⟨rq, R, rfl, hrq, k⟩ := h
    refine ⟨_, ((pss_cons (ps_set (i := 1) sc_Lfresh.nd rfl (Or.inl rfl) (pe_disp (pps_cons pe_str (pv 0) (pps_cons pe_str pe_int (pps_cons pe_str (pe_lst pa_nil) pps_nil))) (by rfl) (by rfl) (fun z => by cases z) (by decide)))
  (pss_cons (ps_expr (pe_bm PySem.F.plainAttrs_dict PySem.F.slot_dict_update PySem.F.type_dict_update mt_updK (pv 1) (pa_cons (pe_disp (pps_cons pe_str pe_int (pps_cons pe_str pe_int pps_nil)) (by rfl) (by rfl) (fun z => by cases z) (by decide)) pa_nil)))
  (pss_one (ps_ret (pv 1)))))), ?_⟩
    intro p hp
    refine ⟨_, rfl, by show 0 ≤ sizeLine; decide, fun l hl => ?_⟩
    have hpl : p ≠ l := fun z => by rw [← z, upd_same] at hl; cases hl
    refine ⟨by rw [upd_ne hpl]; exact upd_same, [(Sum.inr "receiver", .ref rq), (Sum.inr "wanted", .int 0), (Sum.inr "held", .ref l)], rfl, by show 3 ≤ 15; decide, ?_⟩
    rw [merge3]
    have s1 : Same H (upd (upd (upd H p (.dK [])) l (.lst [])) p (.dK [(Sum.inr "receiver", .ref rq), (Sum.inr "wanted", .int 0), (Sum.inr "held", .ref l)])) := ((Same.upd_new hp).new hl).mut hp
    have hl1 : (upd (upd (upd H p (.dK [])) l (.lst [])) p (.dK [(Sum.inr "receiver", .ref rq), (Sum.inr "wanted", .int 0), (Sum.inr "held", .ref l)])) l = some (.lst []) := by rw [upd_ne hpl.symm]; exact upd_same
    have hp1 : (upd (upd (upd H p (.dK [])) l (.lst [])) p (.dK [(Sum.inr "receiver", .ref rq), (Sum.inr "wanted", .int 0), (Sum.inr "held", .ref l)])) p = some (.dK [(Sum.inr "receiver", .ref rq), (Sum.inr "wanted", .int 0), (Sum.inr "held", .ref l)]) := upd_same
    revert s1 hl1 hp1
    generalize (upd (upd (upd H p (.dK [])) l (.lst [])) p (.dK [(Sum.inr "receiver", .ref rq), (Sum.inr "wanted", .int 0), (Sum.inr "held", .ref l)])) = H1
    intro s1 hl1 hp1
    have hlH : H l = none := by
      cases e : H l with
      | none => rfl
      | some o => rw [upd_ne hpl.symm, e] at hl; cases hl
    refine ⟨_, rfl, .inr (.inr (.inl ⟨rfl, .inl ⟨_, hp1⟩⟩)), fun p2 hp2 => ⟨upd_same, [(Sum.inr "now", .int 0), (Sum.inr "dropped", .int 0)], rfl, by show 2 ≤ 15; decide, ?_⟩⟩
    rw [merge2]
    have hpp : p ≠ p2 := ne_of_none hp1 hp2
    have s2 : Same H1 (upd (upd H1 p2 (.dK [])) p2 (.dK [(Sum.inr "now", .int 0), (Sum.inr "dropped", .int 0)])) := (Same.upd_new hp2).mut hp2
    refine ⟨p, p2, _, _, rfl, rfl, hpp, s2 _ _ hp1, upd_same, by show 3 + 2 ≤ sizeLine; decide, ?_⟩
    rw [merge5]
    refine ⟨_, rfl, k p l _ hp hlH ⟨upd_same, ?_, ?_, fun x hx => absurd hx List.not_mem_nil, fun x hx => absurd hx List.not_mem_nil, rfl⟩ ((s1.trans s2).mut hp)⟩
    · show (upd _ p _) rq = _
      rw [upd_ne (ne_of_none hrq hp)]
      exact s2 _ _ (s1 _ _ hrq)
    · rw [upd_ne hpl.symm]
      exact s2 _ _ hl1
theorem ok_Lgoes (T : Txt K mg) : FnOk P w K mg base CX0 1 T.f_Lgoes T.fd_Lgoes P_Lgoes spLgoes := by
  refine T.F_Lgoes.ok sc_Lgoes (fun vs H Q E h => ?_) (fun cdv A outer s H vs Q E hr h => ?_)
  · obtain ⟨s, h, rq, R, S, ks, rfl, _⟩ := h
    rfl
  · obtain ⟨s, h, rq, R, S, ks, rfl, L, hlen, hnd, k⟩ := h
    refine ⟨_, ((pss_cons (ps_set (i := 1) sc_Lgoes.nd rfl (Or.inl rfl) (pe_lst pa_nil))
  (pss_cons (ps_setLc (i := 2) (own := [("_law_one", 3)]) (g := gName 3) rfl sc_Lgoes.nd rfl rfl (sw_true rfl rfl rfl (by decide +kernel)) (pi_list (pe_dget (hu_of hr) (pv 0) pe_str (fun _ _ => rfl))) (blkOk_by (N := N_Lgoes) (sc := (defScope s_Lgoes)) (own := [("_law_one", 3)]) (by decide +kernel)) (fun _ _ _ _ _ => (pg_name (i := 3) sc_Lgoes.nd rfl (Or.inl rfl))) (fun _ _ _ _ _ => pts_one (pt_cmpR op_eq (pe_ix (ixK_list (K := K) rfl) (pv 3) pe_int (fun _ _ => rfl)) (pe_dget (hu_of hr) (pv 0) pe_str (fun _ _ => rfl)) (nomark _))) (fun _ _ _ _ _ => (pv 3)))
  (pss_cons (ps_while PassesOwn.never (pt_cmpR (op_neD hr.units) (pv 2) (pe_lst pa_nil) (nomark _)) (pss_cons (ps_expr (pe_bm PySem.F.plainAttrs_list PySem.F.slot_list_append PySem.F.type_list_append mt_append (pv 1) (pa_cons (pe_ix ix_list (pe_ix ix_list (pv 2) pe_int (fun _ _ => rfl)) pe_int (fun _ _ => rfl)) pa_nil)))
  (pss_cons (ps_expr (pe_bm PySem.F.plainAttrs_list PySem.F.slot_list_remove PySem.F.type_list_remove (mt_removeD (hu65 hr)) (pe_dget (hu_of hr) (pv 0) pe_str (fun _ _ => rfl)) (pa_cons (pe_ix ix_list (pv 2) pe_int (fun _ _ => rfl)) pa_nil)))
  (pss_cons (ps_dput (hu_of hr) (pv 0) pe_str (pe_op op_add (pe_dget (hu_of hr) (pv 0) pe_str (fun _ _ => rfl)) pe_int) rfl)
  (pss_one (ps_setLc (i := 2) (own := [("_law_one", 3)]) (g := gName 3) rfl sc_Lgoes.nd rfl rfl (sw_true rfl rfl rfl (by decide +kernel)) (pi_list (pe_dget (hu_of hr) (pv 0) pe_str (fun _ _ => rfl))) (blkOk_by (N := N_Lgoes) (sc := (defScope s_Lgoes)) (own := [("_law_one", 3)]) (by decide +kernel)) (fun _ _ _ _ _ => (pg_name (i := 3) sc_Lgoes.nd rfl (Or.inl rfl))) (fun _ _ _ _ _ => pts_one (pt_cmpR op_eq (pe_ix (ixK_list (K := K) rfl) (pv 3) pe_int (fun _ _ => rfl)) (pe_dget (hu_of hr) (pv 0) pe_str (fun _ _ => rfl)) (nomark _))) (fun _ _ _ _ _ => (pv 3))))))))
  (pss_one (ps_ret (pv 1))))))), ?_⟩
    refine ⟨by show 0 ≤ sizeLine; decide, fun f hf => ?_⟩
    have L1 := L.new (o := .lst []) hf
    have nodk : ∀ {S' : MS} {ks' : List (E3 × Addr)}, ks'.map (·.1) = S'.hs → (S'.hs.map (·.1)).Nodup → (ks'.map (·.1.1)).Nodup := fun {S' ks'} e n => by
      rw [← e, List.map_map] at n
      exact n
    -- the held ones that are wanted
    have some_ : ∀ {H1 : Hp} {S' : MS} {ks' : List (E3 × Addr)} {v1 v2 : Option V} {D : Addr} {Qd : Hp → Prop}, LAt H1 s h rq R S' ks' → ks'.length ≤ 100 → H1 D = none → (∀ H2, Same H1 H2 → H2 D = some (.lst ((ks'.filter fun x => decide (x.1.1 = S'.w)).map fun x => V.ref x.2)) → Qd H2) →
        LcW (Itl K h) (gName 3) (tTest (tOp rEq (tOp (rIxL K) (tVar 3) (tC (V.int 0))) (tDGet (tVar 0) (tC (V.str "wanted"))))) (tVar 3) [3] [some (.ref s), v1, v2, none] H1 D Qd := fun {H1 S' ks' v1 v2 D Qd} L' hl' hD hd => by
      refine lc_fm (xs := ks') (r := fun x => V.ref x.2) (SqL.of L'.hd) hD (by omega) (fun x => decide (x.1.1 = S'.w)) (fun x => V.ref x.2) (fun x hx H' s' Z N hY hN => ?_) hd
      have L2 := L'.same s'
      refine ⟨rfl, ⟨_, rfl, x.2, _, _, _, rfl, rfl, SqL.of (L2.en x hx), at0, _, rfl, s, _, rfl, L2.get lk_wanted, rfl, _, rfl, ?_⟩⟩
      by_cases q : x.1.1 = S'.w
      · exact iteT' (by rw [decide_eq_true_eq, q]) ⟨_, rfl, hY (decide_eq_true q)⟩
      · exact iteF' (by rw [decide_eq_false_iff_not]; exact fun z => q (V.int.inj z)) (hN (decide_eq_false q))
    refine ⟨_, rfl, s, _, rfl, L1.get lk_held, h, rfl, ⟨_, SqL.of L1.hd⟩, fun D hD => some_ L1 (by rw [← List.length_map (f := (·.1)), L.eq]; exact hlen) hD fun H2 s2 hD2 => ?_⟩
    have fD : f ≠ D := ne_of_none (o := .lst []) upd_same hD
    -- while
    refine ⟨fun m σ H' => ∃ (outs : List Int) (S' : MS) (ks' : List (E3 × Addr)) (D : Addr), σ = [some (.ref s), some (.ref f), some (.ref D), none] ∧ m = S'.hs.length ∧ outs.length + m ≤ 100 ∧ S'.clk = S.clk ∧ S'.old = S.old ∧ H' f = some (.lst (outs.map V.int)) ∧ LAt H' s h rq R S' ks' ∧ (S'.hs.map (·.1)).Nodup ∧
      H' D = some (.lst ((ks'.filter fun x => decide (x.1.1 = S'.w)).map fun x => V.ref x.2)) ∧ f ≠ D ∧ ¬ Ft h ks' D ∧ ¬ Ft h ks' f ∧ (∀ x ∈ ks', x ∈ ks) ∧ go S.w S.hs = (outs ++ (go S'.w S'.hs).1, (go S'.w S'.hs).2) ∧ Km s h H H', ?_, ?_⟩
    · refine ⟨_, [], S, ks, D, rfl, rfl, by simpa using hlen, rfl, rfl, s2 _ _ upd_same, L1.same s2, hnd, hD2, fD, fun z => ?_, fun z => ?_, fun x hx => hx, rfl, Km.of ((Same.upd_new hf).trans s2)⟩
      · obtain ⟨xs, e⟩ := L1.ft z
        rw [hD] at e
        cases e
      · obtain ⟨xs, e⟩ := L.ft z
        rw [hf] at e
        cases e
    rintro m σ H3 ⟨outs, S3, ks3, D3, rfl, rfl, hsz, hck, hol, hf3, L3, hnd3, hD3, fD3, nD3, nf3, hsub, hgo, k3⟩
    have hs3 : H3 s = some (.dK (lkv rq h S3)) := L3.ob
    refine ⟨_, rfl, by show 0 ≤ sizeLine; decide, fun l hl => ?_⟩
    have L4 := L3.new (o := .lst []) hl
    have hD4 : (upd H3 l (.lst [])) D3 = some (.lst ((ks3.filter fun x => decide (x.1.1 = S3.w)).map fun x => V.ref x.2)) := by rw [upd_ne (ne_of_none hD3 hl)]; exact hD3
    have hf4 : (upd H3 l (.lst [])) f = some (.lst (outs.map V.int)) := by rw [upd_ne (ne_of_none hf3 hl)]; exact hf3
    have k4 : Km s h H (upd H3 l (.lst [])) := k3.new hl
    revert L4 hD4 hf4 k4
    have hl4 : (upd H3 l (.lst [])) l = some (.lst []) := upd_same
    revert hl4
    generalize (upd H3 l (.lst [])) = H4
    intro hl4 L4 hD4 hf4 k4
    refine ⟨.list ((ks3.filter fun x => decide (x.1.1 = S3.w)).map fun x => dE x.1), .list [], .lst (SqL.of hD4) (dp_ks _ fun x hx => L4.en x (List.mem_filter.mp hx).1), .lst (SqL.of hl4) .nil, sh_ks _, rfl, ?_⟩
    rw [eqv_nil2]
    refine ⟨_, rfl, ?_⟩
    have heq := L3.eq
    rcases filt_one (n := S3.w) (nodk heq hnd3) with e0 | ⟨j, x, hj, hx1, e1, hbef⟩
    · rw [e0]
      refine iteF ⟨_, rfl, ?_⟩
      have hno : hasN S3.hs S3.w = false := by
        cases q : hasN S3.hs S3.w with
        | false => rfl
        | true =>
          obtain ⟨e, he, h1⟩ := has_iff.mp q
          rw [← heq] at he
          obtain ⟨y, hy, rfl⟩ := List.mem_map.mp he
          have : y ∈ ks3.filter fun x => decide (x.1.1 = S3.w) := List.mem_filter.mpr ⟨hy, decide_eq_true h1⟩
          rw [e0] at this
          exact absurd this List.not_mem_nil
      rw [go_none hno, List.append_nil] at hgo
      rw [hgo] at k
      refine k f H4 ks3 hf hf4 (by
        obtain ⟨w1, c1, o1, h1⟩ := S3
        dsimp only at *
        subst hck hol
        exact L4) k4 (fun a fa => ?_) nf3
      rcases fa with fa | ⟨y, hy, fa⟩
      · exact .inl (.inl fa)
      · exact .inl (.inr ⟨y, hsub y hy, fa⟩)
    · rw [e1]
      refine iteT ⟨fun σ' H' => ∃ m', m' < S3.hs.length ∧ ∃ (outs : List Int) (S' : MS) (ks' : List (E3 × Addr)) (D : Addr), σ' = [some (.ref s), some (.ref f), some (.ref D), none] ∧ m' = S'.hs.length ∧ outs.length + m' ≤ 100 ∧ S'.clk = S.clk ∧ S'.old = S.old ∧ H' f = some (.lst (outs.map V.int)) ∧ LAt H' s h rq R S' ks' ∧ (S'.hs.map (·.1)).Nodup ∧
        H' D = some (.lst ((ks'.filter fun x => decide (x.1.1 = S'.w)).map fun x => V.ref x.2)) ∧ f ≠ D ∧ ¬ Ft h ks' D ∧ ¬ Ft h ks' f ∧ (∀ x ∈ ks', x ∈ ks) ∧ go S.w S.hs = (outs ++ (go S'.w S'.hs).1, (go S'.w S'.hs).2) ∧ Km s h H H', fun σ' H' h => h, ?_⟩
      have hxm : x ∈ ks3 := List.mem_of_getElem? hj
      rw [e1] at hD4
      have hx4 := L4.en x hxm
      -- found.append(some[0][1])
      refine ⟨_, rfl, .inl ⟨rfl, _, SqL.of hf4⟩, _, rfl, D3, _, _, _, rfl, rfl, SqL.of hD4, at0, x.2, _, _, _, rfl, rfl, SqL.of hx4, at1, f, _, _, rfl, rfl, hf4, small1000 (by rw [List.length_map]; omega), ?_⟩
      have L5 := L4.aside (o := .lst (outs.map V.int ++ [.int x.1.2.1])) hf4 nf3
      have hD5 : (upd H4 f (.lst (outs.map V.int ++ [.int x.1.2.1]))) D3 = some (.lst ([x].map fun x => V.ref x.2)) := by rw [upd_ne fD3.symm]; exact hD4
      -- held.remove(some[0])
      refine ⟨_, rfl, s, _, rfl, L5.get lk_held, .inl ⟨rfl, _, SqL.of L5.hd⟩, _, rfl, D3, _, _, _, rfl, rfl, SqL.of hD5, at0, ?_⟩
      have ndk := nodk heq hnd3
      have hjl : j < ks3.length := (List.getElem?_eq_some_iff.mp hj).1
      refine ⟨h, ks3.map fun x => V.ref x.2, ks3.map fun x => dE x.1, _, dE x.1, j, dE x.1, rfl, rfl, L5.hd, dp_ks _ L5.en, dp_dE (L5.en x hxm), sh_ks _, (sh_dE _).ok (by decide), by rw [List.getElem?_map, hj]; rfl, by rw [eqv_dE]; simp, fun m z hm hz => ?_, ?_⟩
      · rw [List.getElem?_map] at hz
        obtain ⟨y, hy, rfl⟩ := Option.map_eq_some_iff.mp hz
        have := hbef m y hm hy
        rw [eqv_dE, decide_eq_false (by rw [hx1]; exact this), Bool.false_and]
      have eer : (ks3.map fun x => V.ref x.2).eraseIdx j = (ks3.filter fun y => decide (y.1.1 ≠ S3.w)).map fun x => V.ref x.2 := by
        rw [← hx1, ← erase_filter ndk hj, erase_map]
      rw [eer]
      have e3 : (ks3.filter fun y => decide (y.1.1 ≠ S3.w)).map (·.1) = dropN S3.hs S3.w := by rw [drop_hs, heq]
      have L6 := L5.seth (S' := { S3 with hs := dropN S3.hs S3.w }) (ks' := ks3.filter fun y => decide (y.1.1 ≠ S3.w)) e3 (fun y hy => L5.en y (List.mem_filter.mp hy).1) (fun y hy => L5.ne y (List.mem_filter.mp hy).1) rfl rfl rfl
      have nfh : f ≠ h := fun z => nf3 (.inl z)
      have hf6 : (upd (upd H4 f (.lst (outs.map V.int ++ [.int x.1.2.1]))) h (.lst ((ks3.filter fun y => decide (y.1.1 ≠ S3.w)).map fun x => V.ref x.2))) f = some (.lst (outs.map V.int ++ [.int x.1.2.1])) := by rw [upd_ne nfh]; exact upd_same
      have k6 : Km s h H (upd (upd H4 f (.lst (outs.map V.int ++ [.int x.1.2.1]))) h (.lst ((ks3.filter fun y => decide (y.1.1 ≠ S3.w)).map fun x => V.ref x.2))) := (k4.mut hf).putd
      revert L6 hf6 k6
      generalize (upd (upd H4 f (.lst (outs.map V.int ++ [.int x.1.2.1]))) h (.lst ((ks3.filter fun y => decide (y.1.1 ≠ S3.w)).map fun x => V.ref x.2))) = H6
      intro L6 hf6 k6
      -- wanted = wanted + 1
      refine ⟨_, rfl, s, _, rfl, L6.get lk_wanted, _, _, rfl, rfl, _, rfl, s, _, rfl, L6.put (lp_wanted _), ?_⟩
      have L7 := L6.setd (S' := { S3 with hs := dropN S3.hs S3.w, w := S3.w + 1 }) rfl
      have hf7 : (upd H6 s (.dK (lkv rq h { S3 with hs := dropN S3.hs S3.w, w := S3.w + 1 }))) f = some (.lst (outs.map V.int ++ [.int x.1.2.1])) := by
        rw [upd_ne (fun z => by have h1 := L6.ob; rw [← z, hf6] at h1; cases h1)]
        exact hf6
      have k7 : Km s h H (upd H6 s (.dK (lkv rq h { S3 with hs := dropN S3.hs S3.w, w := S3.w + 1 }))) := k6.putp
      revert L7 hf7 k7
      have eqH : (upd H6 s (.dK (lkv rq h { w := S3.w + 1, clk := S3.clk, old := S3.old, hs := dropN S3.hs S3.w }))) = (upd H6 s (.dK (lkv rq h { S3 with hs := dropN S3.hs S3.w, w := S3.w + 1 }))) := rfl
      generalize (upd H6 s (.dK (lkv rq h { S3 with hs := dropN S3.hs S3.w, w := S3.w + 1 }))) = H7
      intro L7 hf7 k7
      have hlt : (dropN S3.hs S3.w).length < S3.hs.length := dropN_len (has_iff.mpr ⟨x.1, by rw [← heq]; exact List.mem_map.mpr ⟨x, hxm, rfl⟩, hx1⟩)
      have hnd7 : ((dropN S3.hs S3.w).map (·.1)).Nodup := hnd3.sublist ((List.filter_sublist (l := S3.hs)).map _)
      refine ⟨_, rfl, s, _, rfl, L7.get lk_held, h, rfl, ⟨_, SqL.of L7.hd⟩, fun D7 hD7 => some_ L7 ?_ hD7 fun H8 s8 hD8 => ?_⟩
      · have := congrArg List.length e3
        rw [List.length_map] at this
        omega
      refine ⟨_, hlt, outs ++ [x.1.2.1], { S3 with hs := dropN S3.hs S3.w, w := S3.w + 1 }, _, D7, rfl, rfl, by rw [List.length_append]; show outs.length + 1 + _ ≤ 100; omega, hck, hol, ?_, L7.same s8, hnd7, hD8, ne_of_none hf7 hD7, fun z => ?_, fun z => nf3 ?_, fun y hy => hsub y (List.mem_filter.mp hy).1, ?_, k7.trans (Km.of s8)⟩
      · rw [s8 _ _ hf7, List.map_append]
        rfl
      · obtain ⟨xs, e⟩ := L7.ft z
        rw [hD7] at e
        cases e
      · rcases z with z | ⟨y, hy, z⟩
        · exact .inl z
        · exact .inr ⟨y, (List.mem_filter.mp hy).1, z⟩
      · have hfind : S3.hs.find? (fun e => decide (e.1 = S3.w)) = some x.1 := by
          obtain ⟨e, he, he1, hfe⟩ := find_some (hs := S3.hs) (n := S3.w) (has_iff.mpr ⟨x.1, by rw [← heq]; exact List.mem_map.mpr ⟨x, hxm, rfl⟩, hx1⟩)
          have hem : ∃ y ∈ ks3, y.1 = e := by rw [← heq] at he; exact List.mem_map.mp he
          obtain ⟨y, hy, rfl⟩ := hem
          have hy2 : y ∈ ks3.filter fun x => decide (x.1.1 = S3.w) := List.mem_filter.mpr ⟨hy, decide_eq_true he1⟩
          rw [e1, List.mem_singleton] at hy2
          rw [hfe, hy2]
        rw [hgo, go_some hfind]
        dsimp only
        rw [List.append_assoc]
        rfl
end
/-! ### _law_come -/
def spLcome : Sp := fun vs H Q _ => ∃ (s h rq : Addr) (R : Rcv) (S : MS) (ks : List (E3 × Addr)) (mark th : Int), vs = [.ref s, .int mark, .int th] ∧ LAt H s h rq R S ks ∧ MOk R S ∧ R.Ok ∧ 0 ≤ S.w ∧ S.w ≤ 1000000000000 ∧ 0 ≤ mark ∧ mark < R.mks ∧
  ∀ (q : Addr) (H' : Hp) (ks' : List (E3 × Addr)), H q = none → H' q = some (.lst ((comeM R S mark th).1.map V.int)) → LAt H' s h rq R (comeM R S mark th).2 ks' → Km s h H H' → Nw H h ks h ks' → ¬ Ft h ks' q → Q (.ref q) H'
/-- the one number of those from w on that bears the mark -/
theorem mark_one {w m mk : Int} (hm : 0 < m) (h0 : 0 ≤ mk) (h1 : mk < m) (j : Nat) (hj : (j : Int) < m) : decide ((w + (j : Int)) % m = mk) = decide (j = ((mk - w) % m).toNat) := by
  have e0 := Int.emod_nonneg (mk - w) (Int.ne_of_gt hm)
  have e1 := Int.emod_lt_of_pos (mk - w) hm
  rw [Bool.eq_iff_iff, decide_eq_true_eq, decide_eq_true_eq]
  have key : (w + (j : Int)) % m = mk ↔ (j : Int) = (mk - w) % m := by
    constructor
    · intro h
      have : (j : Int) % m = (mk - w) % m := by
        rw [← h, emod_sub]
        congr 1
        omega
      rw [Int.emod_eq_of_lt (by omega) hj] at this
      exact this
    · intro h
      rw [h, Int.add_emod, Int.emod_emod, ← Int.add_emod, show w + (mk - w) = mk by omega, Int.emod_eq_of_lt h0 h1]
  rw [key]
  omega
section
variable {P : Program} {w : World} {K : PySem.W.Frag} {mg : Str → Option Value} {base : Heap}
theorem ok_Lcome (T : Txt K mg) : FnOk P w K mg base CX0 2 T.f_Lcome T.fd_Lcome P_Lcome spLcome := by
  refine T.F_Lcome.ok sc_Lcome (fun vs H Q E h => ?_) (fun cdv A outer s H vs Q E hr h => ?_)
  · obtain ⟨s, h, rq, R, S, ks, mark, th, rfl, _⟩ := h
    rfl
  · obtain ⟨s, h, rq, R, S, ks, mark, th, rfl, L, hM, hR, hw0, hw1, h0, h1, k⟩ := h
    refine ⟨_, ((pss_cons (ps_asg (pe_dget (hu_of hr) (pv 0) pe_str (fun _ _ => rfl)) (pg_tup rfl (pgs_cons (pg_name (i := 3) sc_Lcome.nd rfl (Or.inr rfl)) (pgs_cons (pg_name (i := 4) sc_Lcome.nd rfl (Or.inl rfl)) (pgs_cons (pg_name (i := 5) sc_Lcome.nd rfl (Or.inl rfl)) pgs_nil)))))
  (pss_cons (ps_set (i := 6) sc_Lcome.nd rfl (Or.inl rfl) (pe_ix ix_list (pe_lc (own := [("_law_k", 7)]) (g := gName 7) rfl sc_Lcome.nd (pi_range2 (by rfl) T.z_range (pa_cons (pe_dget (hu_of hr) (pv 0) pe_str (fun _ _ => rfl)) (pa_cons (pe_op op_add (pe_dget (hu_of hr) (pv 0) pe_str (fun _ _ => rfl)) (pv 3)) pa_nil))) (blkOk_by (N := N_Lcome) (sc := (defScope s_Lcome)) (own := [("_law_k", 7)]) (by decide +kernel)) (fun _ _ _ _ _ => (pg_name (i := 7) sc_Lcome.nd rfl (Or.inl rfl))) (fun _ _ _ _ _ => pts_one (pt_cmpR op_eq (pe_op op_mod (pv 7) (pv 3)) (pv 1) (nomark _))) (fun _ _ _ _ _ => (pv 7))) pe_int (fun _ _ => rfl)))
  (pss_cons (ps_if (PW.pt (pw_or (pt_cmpR op_ge (pv 6) (pe_op op_add (pe_dget (hu_of hr) (pv 0) pe_str (fun _ _ => rfl)) (pv 4)) (nomark _)) (pw_or1 (pt_cmpR op_in_seq (pv 6) (pe_lc (own := [("_law_one", 8)]) (g := gName 8) (tt := tYes) rfl sc_Lcome.nd (pi_list (pe_dget (hu_of hr) (pv 0) pe_str (fun _ _ => rfl))) (blkOk_by (N := N_Lcome) (sc := (defScope s_Lcome)) (own := [("_law_one", 8)]) (by decide +kernel)) (fun _ _ _ _ _ => (pg_name (i := 8) sc_Lcome.nd rfl (Or.inl rfl))) (fun _ _ _ _ _ => pts_nil) (fun _ _ _ _ _ => (pe_ix (ixK_list (K := K) rfl) (pv 8) pe_int (fun _ _ => rfl)))) (by rfl))))) (pss_cons (ps_dput (hu_of hr) (pv 0) pe_str (pe_op op_add (pe_dget (hu_of hr) (pv 0) pe_str (fun _ _ => rfl)) pe_int) rfl)
  (pss_one (ps_ret (pe_lst pa_nil)))) pss_nil)
  (pss_cons (ps_expr (pe_bm PySem.F.plainAttrs_list PySem.F.slot_list_append PySem.F.type_list_append mt_append (pe_dget (hu_of hr) (pv 0) pe_str (fun _ _ => rfl)) (pa_cons (pe_lst (pa_cons (pv 6) (pa_cons (pv 2) (pa_cons (pe_dget (hu_of hr) (pv 0) pe_str (fun _ _ => rfl)) pa_nil)))) pa_nil)))
  (pss_one (ps_ret (pe_call (ok_Lgoes T) (hr.mono (by decide)) (by rfl) T.mg_Lgoes T.kp_Lgoes T.b_Lgoes .nil pass0 (pa_cons (pv 0) pa_nil))))))))), ?_⟩
    have hm2 := hR.m2
    have hlen := hM.len hR
    have hkl : ks.length < 64 := by rw [← List.length_map (f := (·.1)), L.eq]; exact hlen
    refine ⟨_, rfl, s, _, rfl, L.get lk_receiver, rq, _, rfl, SqT.of L.rc, rfl, _, _, rfl, _, _, rfl, _, _, rfl, rfl, ?_⟩
    -- the number
    refine ⟨_, rfl, s, _, rfl, L.get lk_wanted, _, rfl, s, _, rfl, L.get lk_wanted, _, rfl, _, _, rfl, rfl, ?_⟩
    have e0 := Int.emod_nonneg (mark - S.w) (show R.mks ≠ 0 by omega)
    have e1 := Int.emod_lt_of_pos (mark - S.w) (show 0 < R.mks by omega)
    have hm32 := hR.m32
    refine ⟨_, _, rfl, by omega, fun D hD => lc_range (lo := S.w) (n := (S.w + R.mks - S.w).toNat) (fun j H' => Same H H' ∧ H' D = some (.lst (if ((mark - S.w) % R.mks).toNat < j then [.int (S.w + (mark - S.w) % R.mks)] else []))) ⟨Same.upd_new hD, by rw [if_neg (Nat.not_lt_zero _)]; exact upd_same⟩ ?_ ?_⟩
    · rintro j H1 hj ⟨s1, hD1⟩
      refine ⟨rfl, ⟨_, rfl, _, rfl, _, _, rfl, rfl, (by show 0 < R.mks; omega), _, rfl, rfl, _, rfl, ?_⟩⟩
      have hd := mark_one (w := S.w) (m := R.mks) (mk := mark) (by omega) h0 h1 j (by omega)
      by_cases q : j = ((mark - S.w) % R.mks).toNat
      · rw [decide_eq_true q, decide_eq_true_eq] at hd
        rw [if_neg (by omega)] at hD1
        refine iteT' (by rw [decide_eq_true_eq]; exact congrArg V.int hd) ⟨_, rfl, _, hD1, by show 0 < sizeLine; decide, s1.mut hD, ?_⟩
        rw [upd_same, if_pos (by omega), show S.w + (j : Int) = S.w + (mark - S.w) % R.mks by omega]
        rfl
      · rw [decide_eq_false q, decide_eq_false_iff_not] at hd
        refine iteF' (by rw [decide_eq_false_iff_not]; exact fun z => hd (V.int.inj z)) ⟨s1, ?_⟩
        rw [hD1]
        by_cases q2 : ((mark - S.w) % R.mks).toNat < j
        · rw [if_pos q2, if_pos (by omega)]
        · rw [if_neg q2, if_neg (by omega)]
    · rintro H1 ⟨s1, hD1⟩
      rw [if_pos (by omega)] at hD1
      refine ⟨D, _, _, _, rfl, rfl, SqL.of hD1, at0, ?_⟩
      have L1 := L.same s1
      refine ⟨_, rfl, _, rfl, s, _, rfl, L1.get lk_wanted, _, rfl, _, _, rfl, rfl, _, _, rfl, rfl, _, rfl, ?_⟩
      have hDft : ∀ {H2 : Hp} {a : Addr}, LAt H2 s h rq R S ks → H2 a = none → ¬ Ft h ks a := fun {H2 a} L' ha z => by
        obtain ⟨xs, e⟩ := L'.ft z
        rw [ha] at e
        cases e
      -- let be
      have rest : ∀ H2, Same H1 H2 → ((mark - S.w) % R.mks ≥ R.ah ∨ hasN S.hs (S.w + (mark - S.w) % R.mks) = true) → ∀ q : Addr, (upd H2 s (.dK (lkv rq h { S with old := S.old + 1 }))) q = none → Q (.ref q) (upd (upd H2 s (.dK (lkv rq h { S with old := S.old + 1 }))) q (.lst [])) := fun H2 s2 c q hq => by
        have e : comeM R S mark th = ([], { S with old := S.old + 1 }) := if_pos c
        rw [e] at k
        have L2 := (L1.same s2).setd (S' := { S with old := S.old + 1 }) rfl
        have s12 := s1.trans s2
        have qs : q ≠ s := fun z => by rw [z, upd_same] at hq; cases hq
        rw [upd_ne qs] at hq
        exact k q _ ks (s12.free hq) upd_same (L2.new (by rw [upd_ne qs]; exact hq)) (((Km.of s12).putp).mut (s12.free hq)) (fun a fa => .inl fa) (hDft (L1.same s2) hq)
      refine ite2 (fun hc => ?_) (fun hc => ?_)
      · have hc' := of_decide_eq_true hc
        refine iteT ⟨_, rfl, s, _, rfl, L1.get lk_dropped, _, _, rfl, rfl, _, rfl, s, _, rfl, L1.put (lp_dropped _), by show 0 ≤ sizeLine; decide, rest H1 (Same.refl _) (.inl (by omega))⟩
      · have hc' : ¬ S.w + R.ah ≤ S.w + (mark - S.w) % R.mks := fun z => hc (decide_eq_true z)
        refine ⟨_, rfl, _, rfl, s, _, rfl, L1.get lk_held, h, rfl, ⟨_, SqL.of L1.hd⟩, fun D2 hD2 => lc_fm (xs := ks) (r := fun x => V.ref x.2) (SqL.of L1.hd) hD2 (by omega) (fun _ => true) (fun x => V.int x.1.1) (fun x hx H' s' Z N hY hN => ?_) fun H2 s2 h2 => ?_⟩
        · exact ⟨rfl, lc_yes ⟨_, rfl, x.2, _, _, _, rfl, rfl, SqL.of ((L1.same s').en x hx), at0, hY rfl⟩⟩
        · have e2 : ((ks.filter fun _ => true).map fun x => V.int x.1.1) = (S.hs.map (·.1)).map V.int := by
            rw [List.filter_eq_self.mpr fun _ _ => rfl, ← L.eq, List.map_map, List.map_map]
            rfl
          rw [e2] at h2
          have L2 := L1.same s2
          have fl : ∀ x : List Int, (x.map V.int).all flatV = true := fun x => List.all_eq_true.mpr fun v hv => by
            obtain ⟨i, _, rfl⟩ := List.mem_map.mp hv
            rfl
          have hin : inV (.int (S.w + (mark - S.w) % R.mks)) ((S.hs.map (·.1)).map V.int) = hasN S.hs (S.w + (mark - S.w) % R.mks) := by
            rw [inV_int, Bool.eq_iff_iff, has_iff]
            simp
          refine ⟨D2, _, rfl, .inl (SqL.of h2), rfl, fl _, _, rfl, ?_⟩
          show (if inV (.int (S.w + (mark - S.w) % R.mks)) ((S.hs.map (·.1)).map V.int) = true then _ else _)
          rw [hin]
          cases hh : hasN S.hs (S.w + (mark - S.w) % R.mks) with
          | true => exact iteT ⟨_, rfl, s, _, rfl, L2.get lk_dropped, _, _, rfl, rfl, _, rfl, s, _, rfl, L2.put (lp_dropped _), by show 0 ≤ sizeLine; decide, rest H2 s2 (.inr hh)⟩
          | false =>
            refine iteF ⟨_, rfl, s, _, rfl, L2.get lk_held, .inl ⟨rfl, _, SqL.of L2.hd⟩, _, rfl, _, rfl, _, rfl, s, _, rfl, L2.get lk_now, by show 3 ≤ sizeLine; decide, fun t ht => ?_⟩
            have L3 := L2.new (o := .lst [.int (S.w + (mark - S.w) % R.mks), .int th, .int S.clk]) ht
            have nft := hDft L2 ht
            have s12 := s1.trans s2
            refine ⟨h, _, _, rfl, rfl, L3.hd, small1000 (by rw [List.length_map]; omega), ?_⟩
            have e3 : (ks ++ [((S.w + (mark - S.w) % R.mks, th, S.clk), t)]).map (·.1) = S.hs ++ [(S.w + (mark - S.w) % R.mks, th, S.clk)] := by rw [List.map_append, L.eq]; rfl
            have L4 := L3.seth (S' := { S with hs := S.hs ++ [(S.w + (mark - S.w) % R.mks, th, S.clk)] }) (ks' := ks ++ [((S.w + (mark - S.w) % R.mks, th, S.clk), t)]) e3 (fun x hx => by
                rcases List.mem_append.mp hx with hx | hx
                · exact L3.en x hx
                · rw [List.mem_singleton.mp hx]
                  exact upd_same) (fun x hx => by
                rcases List.mem_append.mp hx with hx | hx
                · exact L3.ne x hx
                · rw [List.mem_singleton.mp hx]
                  exact fun z => nft (.inl z)) rfl rfl rfl
            have e : comeM R S mark th = ((go S.w (S.hs ++ [(S.w + (mark - S.w) % R.mks, th, S.clk)])).1, { S with w := (go S.w (S.hs ++ [(S.w + (mark - S.w) % R.mks, th, S.clk)])).2.1, hs := (go S.w (S.hs ++ [(S.w + (mark - S.w) % R.mks, th, S.clk)])).2.2 }) := if_neg (by
              rintro (z | z)
              · omega
              · rw [hh] at z; cases z)
            rw [e] at k
            rw [List.map_append] at L4
            have nd4 : ((S.hs ++ [(S.w + (mark - S.w) % R.mks, th, S.clk)]).map (·.1)).Nodup := by
              rw [List.map_append, List.nodup_append]
              refine ⟨hM.nd, by simp, fun x hx y hy => ?_⟩
              rw [List.map_cons, List.map_nil, List.mem_singleton] at hy
              subst hy
              rintro rfl
              obtain ⟨e, he, h2⟩ := List.mem_map.mp hx
              rw [has_iff.mpr ⟨e, he, h2⟩] at hh
              cases hh
            have k4 : Km s h H (upd (upd H2 t (.lst [.int (S.w + (mark - S.w) % R.mks), .int th, .int S.clk])) h (.lst ((ks.map fun x => V.ref x.2) ++ [.ref t]))) := ((Km.of s12).new ht).putd
            refine ⟨_, rfl, s, h, rq, R, _, _, rfl, L4, by rw [List.length_append]; show S.hs.length + 1 ≤ 100; omega, nd4, fun q H' ks' hq hq' M' k' nw nf => ?_⟩
            have hqH : H q = none := by
              cases e : H q with
              | none => rfl
              | some o =>
                have e2 := s12 _ _ e
                have qh : q ≠ h := fun z => by rw [z, upd_same] at hq; cases hq
                rw [upd_ne qh, upd_ne (ne_of_none e2 ht), e2] at hq
                cases hq
            refine k q H' ks' hqH hq' M' (k4.trans k') (fun a fa => ?_) nf
            rcases nw a fa with fa | na
            · rcases fa with fa | ⟨x, hx, fa⟩
              · exact .inl (.inl fa)
              · rcases List.mem_append.mp hx with hx | hx
                · exact .inl (.inr ⟨x, hx, fa⟩)
                · rw [List.mem_singleton.mp hx] at fa
                  refine .inr ?_
                  rw [← fa]
                  exact s12.free ht
            · refine .inr ?_
              cases e : H a with
              | none => rfl
              | some o =>
                have e2 := s12 _ _ e
                have ah : a ≠ h := fun z => by rw [z, upd_same] at na; cases na
                rw [upd_ne ah, upd_ne (ne_of_none e2 ht), e2] at na
                cases na
end
/-! ### _law_close -/
def spLclose : Sp := fun vs H Q _ => ∃ (s h rq : Addr) (R : Rcv) (S : MS) (ks : List (E3 × Addr)), vs = [.ref s] ∧ LAt H s h rq R S ks ∧ MOk R S ∧ R.Ok ∧
  ∀ (q : Addr) (H' : Hp) (h' : Addr) (ks' : List (E3 × Addr)), H q = none → H' q = some (.lst ((closeM R S).1.map V.int)) → LAt H' s h' rq R (closeM R S).2 ks' → Km s h H H' → Nw H h ks h' ks' → ¬ Ft h' ks' q → Q (.ref q) H'
/-- the triple that a list at a place holds -/
def triL (H : Hp) (x : V) : Tri.I3 := match x with
  | .ref t => match H t with
    | some (.lst [.int i, .int j, .int l]) => (i, j, l)
    | _ => (0, 0, 0)
  | _ => (0, 0, 0)
section
variable {P : Program} {w : World} {K : PySem.W.Frag} {mg : Str → Option Value} {base : Heap}
theorem ok_Lclose (T : Txt K mg) : FnOk P w K mg base CX0 2 T.f_Lclose T.fd_Lclose P_Lclose spLclose := by
  refine T.F_Lclose.ok sc_Lclose (fun vs H Q E h => ?_) (fun cdv A outer s H vs Q E hr h => ?_)
  · obtain ⟨s, h, rq, R, S, ks, rfl, _⟩ := h
    rfl
  · obtain ⟨s, h, rq, R, S, ks, rfl, L, hM, hR, k⟩ := h
    refine ⟨_, ((pss_cons (ps_setLc (i := 1) (own := [("_law_one", 4)]) (g := gName 4) rfl sc_Lclose.nd rfl rfl (sw_true rfl rfl rfl (by decide +kernel)) (pi_list (pe_dget (hu_of hr) (pv 0) pe_str (fun _ _ => rfl))) (blkOk_by (N := N_Lclose) (sc := (defScope s_Lclose)) (own := [("_law_one", 4)]) (by decide +kernel)) (fun _ _ _ _ _ => (pg_name (i := 4) sc_Lclose.nd rfl (Or.inl rfl))) (fun _ _ _ _ _ => pts_one (pt_cmpR op_ge (pe_op op_sub (pe_dget (hu_of hr) (pv 0) pe_str (fun _ _ => rfl)) (pe_ix (ixK_list (K := K) rfl) (pv 4) pe_int (fun _ _ => rfl))) (pe_ix (ixK_tup (K := K) rfl) (pe_dget (hu_of hr) (pv 0) pe_str (fun _ _ => rfl)) pe_int (fun _ _ => rfl)) (nomark _))) (fun _ _ _ _ _ => (pe_ix (ixK_list (K := K) rfl) (pv 4) pe_int (fun _ _ => rfl))))
  (pss_cons (ps_dput (hu_of hr) (pv 0) pe_str (pe_op op_add (pe_dget (hu_of hr) (pv 0) pe_str (fun _ _ => rfl)) pe_int) rfl)
  (pss_cons (ps_if (pt_cmpR (op_eqD hr.units) (pv 1) (pe_lst pa_nil) (nomark _)) (pss_one (ps_ret (pe_lst pa_nil))) pss_nil)
  (pss_cons (ps_set (i := 2) sc_Lclose.nd rfl (Or.inr rfl) (pe_callB (cr_max rfl) (by rfl) T.z_max (by decide +kernel) (pa_cons (pv 1) pa_nil)))
  (pss_cons (ps_set (i := 3) sc_Lclose.nd rfl (Or.inl rfl) (pe_callB (cr_sortedL (hu70 hr)) (by rfl) T.z_sorted (by decide +kernel) (pa_cons (pe_lc (own := [("_law_one", 4)]) (g := gName 4) rfl sc_Lclose.nd (pi_list (pe_dget (hu_of hr) (pv 0) pe_str (fun _ _ => rfl))) (blkOk_by (N := N_Lclose) (sc := (defScope s_Lclose)) (own := [("_law_one", 4)]) (by decide +kernel)) (fun _ _ _ _ _ => (pg_name (i := 4) sc_Lclose.nd rfl (Or.inl rfl))) (fun _ _ _ _ _ => pts_one (pt_cmpR op_le (pe_ix (ixK_list (K := K) rfl) (pv 4) pe_int (fun _ _ => rfl)) (pv 2) (nomark _))) (fun _ _ _ _ _ => (pv 4))) pa_nil)))
  (pss_cons (ps_dput (hu_of hr) (pv 0) pe_str (pe_lc (own := [("_law_one", 4)]) (g := gName 4) rfl sc_Lclose.nd (pi_list (pe_dget (hu_of hr) (pv 0) pe_str (fun _ _ => rfl))) (blkOk_by (N := N_Lclose) (sc := (defScope s_Lclose)) (own := [("_law_one", 4)]) (by decide +kernel)) (fun _ _ _ _ _ => (pg_name (i := 4) sc_Lclose.nd rfl (Or.inl rfl))) (fun _ _ _ _ _ => pts_one (pt_cmpR op_gt (pe_ix (ixK_list (K := K) rfl) (pv 4) pe_int (fun _ _ => rfl)) (pv 2) (nomark _))) (fun _ _ _ _ _ => (pv 4))) rfl)
  (pss_cons (ps_dput (hu_of hr) (pv 0) pe_str (pe_op op_add (pv 2) pe_int) rfl)
  (pss_one (ps_ret (pe_op op_cat (pe_lc (own := [("_law_one", 4)]) (g := gName 4) (tt := tYes) rfl sc_Lclose.nd (pi_list (pv 3)) (blkOk_by (N := N_Lclose) (sc := (defScope s_Lclose)) (own := [("_law_one", 4)]) (by decide +kernel)) (fun _ _ _ _ _ => (pg_name (i := 4) sc_Lclose.nd rfl (Or.inl rfl))) (fun _ _ _ _ _ => pts_nil) (fun _ _ _ _ _ => (pe_ix (ixK_list (K := K) rfl) (pv 4) pe_int (fun _ _ => rfl)))) (pe_call (ok_Lgoes T) (hr.mono (by decide)) (by rfl) T.mg_Lgoes T.kp_Lgoes T.b_Lgoes .nil pass0 (pa_cons (pv 0) pa_nil))))))))))))), ?_⟩
    have hlen := hM.len hR
    have hkl : ks.length < 64 := by rw [← List.length_map (f := (·.1)), L.eq]; exact hlen
    have heq := L.eq
    have nof : ∀ {H2 : Hp} {h2 : Addr} {ks2 : List (E3 × Addr)} {S2 : MS} {a : Addr}, LAt H2 s h2 rq R S2 ks2 → H2 a = none → ¬ Ft h2 ks2 a := fun {H2 h2 ks2 S2 a} L' ha z => by
      obtain ⟨xs, e⟩ := L'.ft z
      rw [ha] at e
      cases e
    -- long
    refine ⟨_, rfl, s, _, rfl, L.get lk_held, h, rfl, ⟨_, SqL.of L.hd⟩, fun D hD => lc_fm (xs := ks) (r := fun x => V.ref x.2) (SqL.of L.hd) hD (by omega) (fun x => decide (S.clk - x.1.2.2 ≥ R.wt)) (fun x => V.int x.1.1) (fun x hx H' s' Z N hY hN => ?_) fun H1 s1 hD1 => ?_⟩
    · have L' := L.same s'
      refine ⟨rfl, _, rfl, s, _, rfl, L'.get lk_now, _, rfl, x.2, _, _, _, rfl, rfl, SqL.of (L'.en x hx), at2, _, _, rfl, rfl, _, rfl, s, _, rfl, L'.get lk_receiver, rq, _, _, _, rfl, rfl, SqT.of L'.rc, at2, _, _, rfl, rfl, _, rfl, ?_⟩
      by_cases q : S.clk - x.1.2.2 ≥ R.wt
      · exact iteD q ⟨_, rfl, x.2, _, _, _, rfl, rfl, SqL.of (L'.en x hx), at0, hY (decide_eq_true q)⟩
      · exact iteND q (hN (decide_eq_false q))
    · have L1 := L.same s1
      -- now + 1
      refine ⟨_, rfl, s, _, rfl, L1.get lk_now, _, _, rfl, rfl, _, rfl, s, _, rfl, L1.put (lp_now _), ?_⟩
      have L2 := L1.setd (S' := { S with clk := S.clk + 1 }) rfl
      have hD2 : (upd H1 s (.dK (lkv rq h { S with clk := S.clk + 1 }))) D = some (.lst ((ks.filter fun x => decide (S.clk - x.1.2.2 ≥ R.wt)).map fun x => V.int x.1.1)) := by
        rw [upd_ne (fun z => by have h1 := L1.ob; rw [← z, hD1] at h1; cases h1)]
        exact hD1
      have k2 : Km s h H (upd H1 s (.dK (lkv rq h { S with clk := S.clk + 1 }))) := (Km.of s1).putp
      revert L2 hD2 k2
      generalize (upd H1 s (.dK (lkv rq h { S with clk := S.clk + 1 }))) = H2
      intro L2 hD2 k2
      have eL : ((ks.filter fun x => decide (S.clk - x.1.2.2 ≥ R.wt)).map fun x => V.int x.1.1) = ((S.hs.filter fun e => decide (S.clk - e.2.2 ≥ R.wt)).map (·.1)).map V.int := by
        rw [← heq, List.filter_map, List.map_map, List.map_map]
        rfl
      rw [eL] at hD2
      have frH : ∀ {a : Addr}, H2 a = none → H a = none := fun {a} ha => by
        cases e : H a with
        | none => rfl
        | some o =>
          have as : a ≠ s := fun z => by rw [z, L2.ob] at ha; cases ha
          have ah : a ≠ h := fun z => by rw [z, L2.hd] at ha; cases ha
          rw [k2 a o as ah e] at ha
          cases ha
      -- if long == []
      refine ⟨_, rfl, by show 0 ≤ sizeLine; decide, fun l hl => ?_⟩
      have sl : Same H2 (upd H2 l (.lst [])) := Same.upd_new hl
      refine ⟨.list (((S.hs.filter fun e => decide (S.clk - e.2.2 ≥ R.wt)).map (·.1)).map PyData.int), .list [], .lst (SqL.of (sl _ _ hD2)) (dp_ints _), .lst (SqL.of upd_same) .nil, shaped_ints _, rfl, ?_⟩
      rw [eqv_ints]
      refine ⟨_, rfl, ?_⟩
      obtain ⟨law1, law2⟩ := closeM_law hM
      cases hlong : ((S.hs.filter fun e => decide (S.clk - e.2.2 ≥ R.wt)).map (·.1)) with
      | nil =>
        have hno : ∀ e ∈ S.hs, ¬ S.clk - e.2.2 ≥ R.wt := fun e he z => by
          have : e.1 ∈ ((S.hs.filter fun e => decide (S.clk - e.2.2 ≥ R.wt)).map (·.1)) := List.mem_map.mpr ⟨e, List.mem_filter.mpr ⟨he, decide_eq_true z⟩, rfl⟩
          rw [hlong] at this
          exact absurd this List.not_mem_nil
        rw [law1 hno] at k
        refine iteT ⟨by show 0 ≤ sizeLine; decide, fun q hq => ?_⟩
        have hq2 : H2 q = none := by
          cases e : H2 q with
          | none => rfl
          | some o => rw [upd_ne (ne_of_none e hl), e] at hq; cases hq
        exact k q _ h ks (frH hq2) upd_same ((L2.same sl).new hq) (((k2.trans (Km.of sl))).new hq) (fun a fa => .inl fa) (nof L2 hq2)
      | cons l0 ls =>
        refine iteF ?_
        rw [hlong] at hD2
        -- last
        refine ⟨_, rfl, D, l0 :: ls, rfl, SqL.of (sl _ _ hD2), Nat.zero_lt_succ _, fun last hlast hmax => ?_⟩
        have L3 := L2.same sl
        have k3 : Km s h H (upd H2 l (.lst [])) := k2.trans (Km.of sl)
        have fr3 : ∀ {a : Addr}, (upd H2 l (.lst [])) a = none → H a = none := fun {a} ha => frH (by
          cases e : H2 a with
          | none => rfl
          | some o => rw [sl _ _ e] at ha; cases ha)
        revert L3 k3 fr3
        generalize (upd H2 l (.lst [])) = H3
        intro L3 k3 fr3
        have hl1 : ∃ e ∈ S.hs, e.1 = last ∧ S.clk - e.2.2 ≥ R.wt := by
          rw [← hlong] at hlast
          obtain ⟨e, he, h1⟩ := List.mem_map.mp hlast
          obtain ⟨h2, h3⟩ := List.mem_filter.mp he
          exact ⟨e, h2, h1, of_decide_eq_true h3⟩
        have hl2 : ∀ e ∈ S.hs, S.clk - e.2.2 ≥ R.wt → e.1 ≤ last := fun e he z => hmax e.1 (by
          rw [← hlong]
          exact List.mem_map.mpr ⟨e, List.mem_filter.mpr ⟨he, decide_eq_true z⟩, rfl⟩)
        rw [law2 last hl1 hl2] at k
        -- sorted of those up to last
        refine ⟨_, rfl, s, _, rfl, L3.get lk_held, h, rfl, ⟨_, SqL.of L3.hd⟩, fun D4 hD4 => lc_fm (xs := ks) (r := fun x => V.ref x.2) (SqL.of L3.hd) hD4 (by omega) (fun x => decide (x.1.1 ≤ last)) (fun x => V.ref x.2) (fun x hx H' s' Z N hY hN => ?_) fun H4 s4 h4 => ?_⟩
        · have L' := L3.same s'
          refine ⟨rfl, _, rfl, x.2, _, _, _, rfl, rfl, SqL.of (L'.en x hx), at0, _, rfl, _, _, rfl, rfl, _, rfl, ?_⟩
          by_cases q : x.1.1 ≤ last
          · exact iteD q ⟨_, rfl, hY (decide_eq_true q)⟩
          · exact iteND q (hN (decide_eq_false q))
        · have L4 := L3.same s4
          have hk : ∀ x ∈ ks, triL H4 (.ref x.2) = x.1 := fun x hx => by
            unfold triL
            dsimp only
            rw [L4.en x hx]
          refine ⟨D4, _, triL H4, rfl, SqL.of h4, fun y hy => ?_, fun ys p hup hperm hp => ?_⟩
          · obtain ⟨x, hx, rfl⟩ := List.mem_map.mp hy
            have hx' := (List.mem_filter.mp hx).1
            exact ⟨x.2, rfl, by rw [hk x hx']; exact L4.en x hx'⟩
          · have hys : ∀ y ∈ ys, ∃ x ∈ ks, y = .ref x.2 := fun y hy => by
              obtain ⟨x, hx, e⟩ := List.mem_map.mp (hperm.mem_iff.mp hy)
              exact ⟨x, (List.mem_filter.mp hx).1, e.symm⟩
            have hsort : ys.map (triL H4) = sort3 (S.hs.filter fun e => decide (e.1 ≤ last)) := by
              refine sort3_eq (SrtO.srtd_map hup) ?_
              have e2 : ((ks.filter fun x => decide (x.1.1 ≤ last)).map fun x => V.ref x.2).map (triL H4) = S.hs.filter fun e => decide (e.1 ≤ last) := by
                rw [← heq, List.filter_map, List.map_map]
                exact List.map_congr_left fun x hx => hk x (List.mem_filter.mp hx).1
              have := hperm.map (triL H4)
              rw [e2] at this
              exact this
            have hylen : ys.length ≤ 64 := by
              have := hperm.length_eq
              have h2 := List.length_filter_le (fun x : E3 × Addr => decide (x.1.1 ≤ last)) ks
              rw [List.length_map] at this
              omega
            have s5 : Same H4 (upd H4 p (.lst ys)) := Same.upd_new hp
            have L5 := L4.same s5
            have hp5 : (upd H4 p (.lst ys)) p = some (.lst ys) := upd_same
            have k5 : Km s h H (upd H4 p (.lst ys)) := k3.trans (Km.of (s4.trans s5))
            have fr5 : ∀ {a : Addr}, (upd H4 p (.lst ys)) a = none → H a = none := fun {a} ha => fr3 ((s4.trans s5).free ha)
            have hpH : H p = none := fr3 (s4.free hp)
            have nfp := nof L4 hp
            revert L5 hp5 k5 fr5 s5
            generalize (upd H4 p (.lst ys)) = H5
            intro s5 L5 hp5 k5 fr5
            -- held = those above
            refine ⟨_, rfl, s, _, rfl, L5.get lk_held, h, rfl, ⟨_, SqL.of L5.hd⟩, fun D6 hD6 => lc_fm (xs := ks) (r := fun x => V.ref x.2) (SqL.of L5.hd) hD6 (by omega) (fun x => decide (last < x.1.1)) (fun x => V.ref x.2) (fun x hx H' s' Z N hY hN => ?_) fun H6 s6 h6 => ?_⟩
            · have L' := L5.same s'
              refine ⟨rfl, _, rfl, x.2, _, _, _, rfl, rfl, SqL.of (L'.en x hx), at0, _, rfl, _, _, rfl, rfl, _, rfl, ?_⟩
              by_cases q : last < x.1.1
              · exact iteD q ⟨_, rfl, hY (decide_eq_true q)⟩
              · exact iteND q (hN (decide_eq_false q))
            · have L6 := L5.same s6
              refine ⟨_, rfl, s, _, rfl, L6.put (lp_held D6), ?_⟩
              have nD6 : ∀ x ∈ ks.filter (fun x => decide (last < x.1.1)), x.2 ≠ D6 := fun x hx => ne_of_none (L5.en x (List.mem_filter.mp hx).1) hD6
              have e6 : (ks.filter fun x => decide (last < x.1.1)).map (·.1) = S.hs.filter fun e => decide (last < e.1) := by
                rw [← heq, List.filter_map]
                rfl
              have L7 := L6.seth2 (S' := { S with clk := S.clk + 1, hs := S.hs.filter fun e => decide (last < e.1) }) (h' := D6) (ks' := ks.filter fun x => decide (last < x.1.1)) h6 e6 (fun x hx => L6.en x (List.mem_filter.mp hx).1) nD6
              have hp6 := s6 _ _ hp5
              have hD6H : H D6 = none := fr5 hD6
              have ps : p ≠ s := fun z => by
                have h1 := L6.ob
                rw [← z, hp6] at h1; cases h1
              have hp7 : (upd H6 s (.dK (lkv rq D6 { S with clk := S.clk + 1, hs := S.hs.filter fun e => decide (last < e.1) }))) p = some (.lst ys) := by rw [upd_ne ps]; exact hp6
              have k7 : Km s h H (upd H6 s (.dK (lkv rq D6 { S with clk := S.clk + 1, hs := S.hs.filter fun e => decide (last < e.1) }))) := (k5.trans (Km.of s6)).putp
              have en7 : ∀ x ∈ ks, (upd H6 s (.dK (lkv rq D6 { S with clk := S.clk + 1, hs := S.hs.filter fun e => decide (last < e.1) }))) x.2 = some (.lst [.int x.1.1, .int x.1.2.1, .int x.1.2.2]) := fun x hx => by
                rw [upd_ne (fun z => by
                  have h1 := L6.ob
                  have h2 := L6.en x hx
                  rw [z, h1] at h2; cases h2)]
                exact L6.en x hx
              have fr7 : ∀ {a : Addr}, (upd H6 s (.dK (lkv rq D6 { S with clk := S.clk + 1, hs := S.hs.filter fun e => decide (last < e.1) }))) a = none → H a = none := fun {a} ha => fr5 (s6.free (by
                have as : a ≠ s := fun z => by rw [z, upd_same] at ha; cases ha
                rw [upd_ne as] at ha
                exact ha))
              have pD6 : p ≠ D6 := ne_of_none hp5 hD6
              have sp6 : ¬ Ft D6 (ks.filter fun x => decide (last < x.1.1)) p := fun z => by
                rcases z with z | ⟨x, hx, z⟩
                · exact pD6 z
                · exact nfp (.inr ⟨x, (List.mem_filter.mp hx).1, z⟩)
              revert L7 hp7 k7 en7 fr7
              show LAt (upd H6 s (.dK (lkv rq D6 { S with clk := S.clk + 1 }))) s D6 rq R { S with clk := S.clk + 1, hs := S.hs.filter fun e => decide (last < e.1) } (ks.filter fun x => decide (last < x.1.1)) → (upd H6 s (.dK (lkv rq D6 { S with clk := S.clk + 1 }))) p = some (.lst ys) → Km s h H (upd H6 s (.dK (lkv rq D6 { S with clk := S.clk + 1 }))) → (∀ x ∈ ks, (upd H6 s (.dK (lkv rq D6 { S with clk := S.clk + 1 }))) x.2 = some (.lst [.int x.1.1, .int x.1.2.1, .int x.1.2.2])) → (∀ {a : Addr}, (upd H6 s (.dK (lkv rq D6 { S with clk := S.clk + 1 }))) a = none → H a = none) → _
              generalize (upd H6 s (.dK (lkv rq D6 { S with clk := S.clk + 1 }))) = H7
              intro L7 hp7 k7 en7 fr7
              -- wanted = last + 1
              refine ⟨_, rfl, _, _, rfl, rfl, _, rfl, s, _, rfl, L7.put (lp_wanted _), ?_⟩
              have L8 := L7.setd (S' := { S with clk := S.clk + 1, hs := S.hs.filter fun e => decide (last < e.1), w := last + 1 }) rfl
              have ps7 : p ≠ s := fun z => by
                have h1 := L7.ob
                rw [← z, hp7] at h1; cases h1
              have hp8 : (upd H7 s (.dK (lkv rq D6 { S with clk := S.clk + 1, hs := S.hs.filter fun e => decide (last < e.1), w := last + 1 }))) p = some (.lst ys) := by rw [upd_ne ps7]; exact hp7
              have k8 : Km s h H (upd H7 s (.dK (lkv rq D6 { S with clk := S.clk + 1, hs := S.hs.filter fun e => decide (last < e.1), w := last + 1 }))) := k7.putp
              have en8 : ∀ x ∈ ks, (upd H7 s (.dK (lkv rq D6 { S with clk := S.clk + 1, hs := S.hs.filter fun e => decide (last < e.1), w := last + 1 }))) x.2 = some (.lst [.int x.1.1, .int x.1.2.1, .int x.1.2.2]) := fun x hx => by
                rw [upd_ne (fun z => by
                  have h1 := L7.ob
                  have h2 := en7 x hx
                  rw [z, h1] at h2; cases h2)]
                exact en7 x hx
              have fr8 : ∀ {a : Addr}, (upd H7 s (.dK (lkv rq D6 { S with clk := S.clk + 1, hs := S.hs.filter fun e => decide (last < e.1), w := last + 1 }))) a = none → H a = none := fun {a} ha => fr7 (by
                have as : a ≠ s := fun z => by rw [z, upd_same] at ha; cases ha
                rw [upd_ne as] at ha
                exact ha)
              revert L8 hp8 k8 en8 fr8
              show LAt (upd H7 s (.dK (lkv rq D6 { w := last + 1, clk := S.clk + 1, old := S.old, hs := S.hs.filter fun e => decide (last < e.1) }))) s D6 rq R { S with clk := S.clk + 1, hs := S.hs.filter fun e => decide (last < e.1), w := last + 1 } (ks.filter fun x => decide (last < x.1.1)) → (upd H7 s (.dK (lkv rq D6 { w := last + 1, clk := S.clk + 1, old := S.old, hs := S.hs.filter fun e => decide (last < e.1) }))) p = some (.lst ys) → Km s h H (upd H7 s (.dK (lkv rq D6 { w := last + 1, clk := S.clk + 1, old := S.old, hs := S.hs.filter fun e => decide (last < e.1) }))) → (∀ x ∈ ks, (upd H7 s (.dK (lkv rq D6 { w := last + 1, clk := S.clk + 1, old := S.old, hs := S.hs.filter fun e => decide (last < e.1) }))) x.2 = some (.lst [.int x.1.1, .int x.1.2.1, .int x.1.2.2])) → (∀ {a : Addr}, (upd H7 s (.dK (lkv rq D6 { w := last + 1, clk := S.clk + 1, old := S.old, hs := S.hs.filter fun e => decide (last < e.1) }))) a = none → H a = none) → _
              have eqg : (upd H7 s (.dK (lkv rq D6 { w := last + 1, clk := S.clk + 1, old := S.old, hs := S.hs.filter fun e => decide (last < e.1) }))) = (upd H7 s (.dK (lkv rq D6 { S with clk := S.clk + 1, hs := S.hs.filter fun e => decide (last < e.1), w := last + 1 }))) := rfl
              generalize (upd H7 s (.dK (lkv rq D6 { w := last + 1, clk := S.clk + 1, old := S.old, hs := S.hs.filter fun e => decide (last < e.1) }))) = H8
              intro L8 hp8 k8 en8 fr8
              -- the answer
              refine ⟨_, rfl, p, rfl, ⟨_, SqL.of hp8⟩, fun D9 hD9 => lc_fm (xs := ys) (r := fun y => y) (by rw [List.map_id']; exact SqL.of hp8) hD9 (by omega) (fun _ => true) (fun y => V.int (triL H4 y).2.1) (fun y hy H' s' Z N hY hN => ?_) fun H9 s9 h9 => ?_⟩
              · obtain ⟨x, hx, rfl⟩ := hys y hy
                refine ⟨rfl, lc_yes ⟨_, rfl, x.2, _, _, _, rfl, rfl, SqL.of (s' _ _ (en8 x hx)), at1, ?_⟩⟩
                have := hY rfl
                rw [hk x hx] at this
                exact this
              · have e9 : ((ys.filter fun _ => true).map fun y => V.int (triL H4 y).2.1) = ((sort3 (S.hs.filter fun e => decide (e.1 ≤ last))).map (·.2.1)).map V.int := by
                  rw [List.filter_eq_self.mpr fun _ _ => rfl, ← hsort, List.map_map, List.map_map]
                  rfl
                rw [e9] at h9
                have L9 := L8.same s9
                have hfl : (S.hs.filter fun e => decide (last < e.1)).length ≤ 100 := Nat.le_trans (List.length_filter_le _ _) (by omega)
                have hnd : ((S.hs.filter fun e => decide (last < e.1)).map (·.1)).Nodup := hM.nd.sublist ((List.filter_sublist (l := S.hs)).map _)
                have D9s : D9 ≠ s := (ne_of_none L8.ob hD9).symm
                have D96 : D9 ≠ D6 := (ne_of_none L8.hd hD9).symm
                refine ⟨_, rfl, s, D6, rq, R, _, _, rfl, L9, hfl, hnd, fun q H' ks' hq hq' M' k' nw nf => ?_⟩
                have hD9' : H' D9 = some (.lst (((sort3 (S.hs.filter fun e => decide (e.1 ≤ last))).map (·.2.1)).map V.int)) := k' _ _ D9s D96 h9
                have len1 : (((sort3 (S.hs.filter fun e => decide (e.1 ≤ last))).map (·.2.1)).map V.int).length ≤ 64 := by
                  rw [List.length_map, List.length_map, (sort3_perm _).length_eq]
                  exact Nat.le_trans (List.length_filter_le _ _) (by omega)
                have len2 : ((go (last + 1) (S.hs.filter fun e => decide (last < e.1))).1.map V.int).length ≤ 100 := by
                  have := go_len _ (last + 1) (S.hs.filter fun e => decide (last < e.1)) rfl
                  rw [List.length_map]
                  omega
                refine ⟨D9, q, _, _, rfl, rfl, hD9', hq', Nat.le_trans (Nat.add_le_add len1 len2) (by decide), fun c hc => ?_⟩
                have kall : Km s h H H' := by
                  intro b o n m hb
                  have b8 := k8 b o n m hb
                  have bD6 : b ≠ D6 := fun z => by rw [z, hD6H] at hb; cases hb
                  exact k' b o n bD6 (s9 _ _ b8)
                have frl : ∀ {a : Addr}, H' a = none → H a = none := fun {a} ha => by
                  cases e : H a with
                  | none => rfl
                  | some o =>
                    have as : a ≠ s := fun z => by rw [z, M'.ob] at ha; cases ha
                    by_cases ah : a = h
                    · cases e8 : H8 a with
                      | none =>
                        rw [fr8 e8] at e
                        cases e
                      | some o8 =>
                        have aD6 : a ≠ D6 := fun z => by rw [z, hD6H] at e; cases e
                        rw [k' a o8 as aD6 (s9 _ _ e8)] at ha
                        cases ha
                    · rw [kall a o as ah e] at ha
                      cases ha
                refine k c _ D6 ks' (frl hc) ?_ (M'.new hc) (kall.new hc) (fun a fa => ?_) (nof M' hc)
                · rw [upd_same]
                  unfold lawC
                  dsimp only
                  rw [List.map_append]
                · rcases nw a fa with fa | na
                  · rcases fa with fa | ⟨x, hx, fa⟩
                    · exact .inr (by rw [fa]; exact hD6H)
                    · exact .inl (.inr ⟨x, (List.mem_filter.mp hx).1, fa⟩)
                  · refine .inr ?_
                    exact fr8 (s9.free na)
end
/-! ### how far the wanted number goes up -/
theorem go_wle : ∀ (n : Nat) (w B : Int) (hs : List E3), hs.length = n → (∀ e ∈ hs, e.1 < B) → w ≤ B → (go w hs).2.1 ≤ B := by
  intro n
  induction n using Nat.strongRecOn with
  | _ n ih =>
    intro w B hs hn h hw
    cases q : hasN hs w with
    | false =>
      rw [go_none q]
      exact hw
    | true =>
      obtain ⟨e, he, h1, hf⟩ := find_some q
      have hd := dropN_len q
      rw [go_some hf]
      have := h e he
      exact ih _ (by omega) (w + 1) B (dropN hs w) rfl (fun x hx => h x (List.mem_filter.mp hx).1) (by omega)
theorem closeF_wle (wt clk B : Int) : ∀ (ns : List Int) (w : Int) (hs : List E3), (∀ e ∈ hs, e.1 < B) → w ≤ B → (closeF wt clk ns w hs).2.1 ≤ B
  | [], w, hs, _, hw => hw
  | n :: ns, w, hs, h, hw => by
    unfold closeF
    split
    · rename_i c
      obtain ⟨c1, c2⟩ := Bool.and_eq_true_iff.mp c
      obtain ⟨e, he, h1⟩ := has_iff.mp c1
      have := h e he
      exact closeF_wle wt clk B ns _ _ (fun x hx => h x ((go_end _ n hs rfl).2.2.1.subset hx)) (go_wle _ n B hs rfl h (by omega))
    · exact closeF_wle wt clk B ns w hs h hw
theorem come_wle {R : Rcv} (hR : R.Ok) {S : MS} (h : MOk R S) (mark th : Int) : S.w ≤ (comeM R S mark th).2.w ∧ (comeM R S mark th).2.w ≤ S.w + 32 := by
  have a := hR.am
  have b := hR.m32
  have a1 := hR.a1
  unfold comeM
  split
  · exact ⟨Int.le_refl _, by dsimp only; omega⟩
  · rename_i c
    have c1 : ¬ (mark - S.w) % R.mks ≥ R.ah := fun z => c (.inl z)
    have m0 : 0 ≤ (mark - S.w) % R.mks := Int.emod_nonneg _ (by omega)
    refine ⟨(go_end _ S.w (S.hs ++ [(S.w + (mark - S.w) % R.mks, th, S.clk)]) rfl).2.1, go_wle _ S.w (S.w + 32) _ rfl (fun e he => ?_) (by omega)⟩
    rcases List.mem_append.mp he with he | he
    · have := h.hi e he
      omega
    · rw [List.mem_singleton.mp he]
      dsimp only
      omega
theorem close_wle {R : Rcv} (hR : R.Ok) {S : MS} (h : MOk R S) : S.w ≤ (closeM R S).2.w ∧ (closeM R S).2.w ≤ S.w + 32 := by
  have a := hR.am
  have b := hR.m32
  obtain ⟨i1, i2, i3, i4⟩ := closeF_ok R.wt S.clk (keysN S.hs) S.w S.hs (keysN_lt h.nd) h.lo fun e he => .inl ((sortI_perm _).mem_iff.mpr (List.mem_map.mpr ⟨e, he, rfl⟩))
  exact ⟨i2, closeF_wle _ _ (S.w + 32) _ _ _ (fun e he => by have := h.hi e he; omega) (by omega)⟩
end Tp
/-! ### kinds.count(True) -/
namespace L2
open PySem PySem.Spec PyProof.Rows
def isBV : Value → Bool
  | .bool b => b
  | _ => false
def rCntB (K : PySem.W.Frag) : V → List V → Hp → VK → Prop := fun x xs H Q => ∃ (p : Addr) (R : List Bool), x = .ref p ∧ xs = [.bl true] ∧ SqL K H p (R.map V.bl) ∧ Q (.int (R.countP id : Nat)) H
theorem cntB_vals : ∀ {us : List Value} {R : List Bool}, Vals (R.map V.bl) us → us.countP isBV = R.countP id ∧ ∀ (A : Around) (s : Shared), ∀ y ∈ us, SeqAt.EqAt A s y (.bool true) (isBV y)
  | [], [], _ => ⟨rfl, fun _ _ y h => absurd h List.not_mem_nil⟩
  | u :: us, x :: R, h => by
    cases h with
    | cons h1 h2 =>
      obtain ⟨i1, i2⟩ := cntB_vals h2
      obtain rfl : u = Value.bool x := h1
      refine ⟨by rw [List.countP_cons, List.countP_cons, i1]; cases x <;> rfl, fun A s y hy => ?_⟩
      rcases List.mem_cons.mp hy with rfl | hy
      · cases x
        · exact SeqAt.EqAt.bool_bool false true
        · exact SeqAt.EqAt.bool_bool true true
      · exact i2 A s y hy
theorem mt_countB {X : Cx} : MtR X "list.count" (rCntB X.K) := by
  intro pins s σ H x xs v us Q I rx rxs h
  obtain ⟨p, R, rfl, rfl, hs, q⟩ := h
  cases rx
  obtain ⟨u, rfl, ru⟩ := rxs.one
  obtain rfl : u = Value.bool true := ru
  obtain ⟨its, rv, ⟨⟨cls, dd, data, sl⟩, n, ho, hc, hdn, hd⟩, hlen⟩ := I.list hs
  simp only at hc hd
  subst hc hd
  obtain ⟨c1, c2⟩ := cntB_vals rv
  refine call_meets PySem.F.slot_list_count ⟨_, ho, rfl⟩ PySem.F.entry_list_count (PySem.F.args_list_count_2 _ _)
    (SeqAt.list_countAt p its.toArray n dd sl (.bool true) isBV) ⟨ho, fun y hy => c2 _ _ y (by simpa using hy), .int (R.countP id : Nat), H, I.tok _, ⟨s.toks, ?_⟩, q⟩
  show Value.int ((its.countP isBV : Nat) : Int) s.toks = _
  rw [c1]
end L2
namespace Tp
open PySem L2
/-! ### come with a mark that there isn't -/
def spComeBad (C CB : Addr) : Sp := fun vs H _ E => ∃ (p d : Addr) (R : Rcv) (S : MS) (ks : List (E3 × Addr)) (mark th : Int), vs = [.ref p, .int mark, .int th] ∧ MAt C H p d R S ks ∧ ¬ (0 ≤ mark ∧ mark < R.mks) ∧ E (.ref CB) none H
section
variable {P : Program} {w : World} {K : PySem.W.Frag} {mg : Str → Option Value} {base : Heap}
theorem ok_come_bad (T : Txt K mg) : FnOk P w K mg base (L2.CX P w) 1 T.f_Merger_come T.fd_Merger_come P_Merger_come (spComeBad T.C_Merger T.C_BadMark) := by
  refine T.F_Merger_come.okX sc_Merger_come (fun vs H Q E h => ?_) (fun cdv A outer s H vs Q E hr h => ?_)
  · obtain ⟨p, d, R, S, ks, mark, th, rfl, _⟩ := h
    rfl
  · obtain ⟨p, d, R, S, ks, mark, th, rfl, M, hb, k⟩ := h
    refine ⟨_, ((pss_cons (ps_if (pt_not (pt_chain op_le op_lt pe_int (pv 1) (pe_fld (pv 0) rfl))) (pss_one (ps_raise rfl (takes_of rfl rfl rfl rfl) (pmk_own PySem.F.excBase_ValueError T.q_BadMark T.mg_BadMark T.kp_BadMark (raises_own T.ex_BadMark T.ty_BadMark) rfl))) pss_nil)
  pss_never)), ?_⟩
    obtain ⟨dx, hp⟩ := M.ob
    by_cases h0 : (0 : Int) ≤ mark
    · refine ⟨_, rfl, _, _, rfl, rfl, _, rfl, iteD h0 ⟨_, rfl, p, _, dx, _, _, rfl, hp, T.cl_Merger, T.n_marks, fl_marks, _, _, rfl, rfl, _, rfl, iteNN (fun z => hb ⟨h0, z⟩) k⟩⟩
    · exact ⟨_, rfl, _, _, rfl, rfl, _, rfl, iteND h0 ⟨_, rfl, iteT k⟩⟩
end
/-! ### _law_word, of a mark that there isn't -/
/-- the handler's block, where what is caught is of the class C and has no dict -/
def tsOf (X : Cx) (C : Addr) (body : List Stmt) : Addr → Value → Option Addr → TS := fun a cls d D σ H => cls = .ref C ∧ d = none ∧ ∀ (oe : Obj) (pn : List (Addr × Obj)), Zc (.ref C) none oe → (∃ vs, oe.data = .fields vs) → ∃ t : TS, PSs (X.suite a ((a, oe) :: pn)) body t ∧ (σ.length = X.N.length → t D σ H)
theorem ps_tryC {X : Cx} {C : Addr} {x n : Str} {np pos pos' : Pos} {body suite : List Stmt} {b₀ : Stmt} {c : Value} {i : Nat} {tb : WX → TS} (hs : X.stack = X.env :: X.outer) (hf : X.env.frame = some X.env.locals) (hN : X.N.Nodup) (hi : X.N[i]? = some n) (hln : X.env.kindOf n = some .local) (hc : Names X x c)
    (hb : ∀ (W : WX) (pn : List (Addr × Obj)) (xe : Value → Shared → Prop), Takes (X.tr pn xe) W → PassesOwn (model X.prog X.w) X.A X.env xe → PSs (X.tr pn xe) body (tb W)) :
    PS X (.Try body [.ExceptHandler (some (.Name x np)) (some n) (b₀ :: suite) pos'] [] [] pos) (fun D σ H => tb (wAs X.K c i (tsOf X C (b₀ :: suite)) (fun _ _ _ _ => False) D) D σ H) :=
  ps_try_as hs hf hN hi hln hc LamX.takes0 hb fun a oe cls d pn hz hf => ⟨fun pins s σ H D I ⟨e1, e2, h⟩ => by
    subst e1 e2
    obtain ⟨t, ht, h⟩ := h oe pn hz hf
    exact ht.run pins s σ H D I (h I.len)⟩
theorem len3w {α : Type} : ∀ {l : List α}, l.length = 3 → ∃ a b c, l = [a, b, c]
  | [a, b, c], _ => ⟨a, b, c, rfl⟩
def TTw (CB : Addr) : (XK → Hp → VK → Prop) → Hp → VK → Prop := fun tl H Q =>
  tl (fun cls d H' => cls = .ref CB ∧ d = none ∧ ∀ (t : Addr) (H'' : Hp), Same H' H'' → H' t = none → H'' t = some (.tup [.str "mark", .non]) → Q (.ref t) H'') H fun _ H1 => 2 ≤ sizeLine ∧ ∀ t, H1 t = none → Q (.ref t) (upd H1 t (.tup [.str "", .non]))
theorem word_gives {X : Cx} (T : Txt X.K X.mg) (cdg : Value) (q : Str) : LamX.GivesTo X N_Lword "_law_word" (defScope s_Lword) T.f_Lword cdg (defBody s_Lword) "_law_work" q (TTw T.C_BadMark) := by
  intro f c' s H Q tl act hc h
  have XC : ExcC (cxOf C8.CX0 X.prog X.w X.K X.mg X.base N_Lword "_law_word" (defScope s_Lword) T.f_Lword cdg X.A X.stack s H C8.E0).nox.K T.C_BadMark := ⟨T.xg_BadMark, T.xk_BadMark, T.ex_BadMark, T.hd_BadMark, T.xa_BadMark, T.xn_BadMark, T.xt_BadMark, T.xm_BadMark⟩
  refine ⟨_, pss_cons (ps_tryC (X := (cxOf C8.CX0 X.prog X.w X.K X.mg X.base N_Lword "_law_word" (defScope s_Lword) T.f_Lword cdg X.A X.stack s H C8.E0).nox) (C := T.C_BadMark) (c := .ref T.C_RoadError) (i := 1)
      (tb := fun W D σ H => ∃ Ech : XK, (∀ cls d σ' H', Ech cls d H' → W cls d σ' H') ∧ σ[0]? = some (some (.ref f)) ∧ H c' = some (LamX.CodeO c' q) ∧ tl Ech H fun _ H1 => D.nx σ H1)
      rfl rfl sc_Lword.nd rfl rfl ⟨rfl, by decide, .inl T.mg_RoadError⟩ (fun W pn xe tk _ => ?_)) (pss_one (ps_ret (pe_tup (pa_cons pe_str (pa_cons pe_non pa_nil))))), ?_⟩
  · refine ⟨fun pins s' σ H' D I h' => ?_⟩
    obtain ⟨Ech, hW, h1, h2, h3⟩ := h'
    exact (pss_one (ps_expr (act W pn xe Ech _ _ tk hW))).run pins s' σ H' D I ⟨h1, h2, h3⟩
  · refine ⟨_, fun cls d σ' H' ⟨e1, e2, k⟩ => ?_, rfl, hc, h⟩
    subst e1 e2
    refine ⟨true, T.m_BadMark, fun _ a ha => ⟨rfl, rfl, fun oe pn hz hf => ⟨_, (pss_cons (ps_set (i := 2) sc_Lword.nd rfl (Or.inl rfl) (pe_lst (pa_cons (pe_callB (call_isE XC hz hf) (by rfl) T.z_isinstance (by decide +kernel) (pa_cons (pv 1) (pa_cons (pe_glob rfl T.mg_BadMark (v := .ref T.C_BadMark) rfl) pa_nil))) (pa_cons (pe_callB (call_isE XC hz hf) (by rfl) T.z_isinstance (by decide +kernel) (pa_cons (pv 1) (pa_cons (pe_glob rfl T.mg_BadReceiver (v := .ref T.C_BadReceiver) rfl) pa_nil))) (pa_cons (pe_callB (call_isE XC hz hf) (by rfl) T.z_isinstance (by decide +kernel) (pa_cons (pv 1) (pa_cons (pe_glob rfl T.mg_BadRoads (v := .ref T.C_BadRoads) rfl) pa_nil))) (pa_cons (pe_callB (call_isE XC hz hf) (by rfl) T.z_isinstance (by decide +kernel) (pa_cons (pv 1) (pa_cons (pe_glob rfl T.mg_BadRows (v := .ref T.C_BadRows) rfl) pa_nil))) pa_nil))))))
  (pss_cons (ps_expr (pe_bm PySem.F.plainAttrs_list PySem.F.slot_list_append PySem.F.type_list_append mt_append (pv 2) (pa_cons (pe_callB (call_isE XC hz hf) (by rfl) T.z_isinstance (by decide +kernel) (pa_cons (pv 1) (pa_cons (pe_glob rfl T.mg_BadText (v := .ref T.C_BadText) rfl) pa_nil))) pa_nil)))
  (pss_cons (ps_if (PW.pt (pw_or (pt_not (pt_val (pe_callB (call_isE XC hz hf) (by rfl) T.z_isinstance (by decide +kernel) (pa_cons (pv 1) (pa_cons (pe_bltn (v := .ty "ValueError") rfl T.z_ValueError (by decide +kernel) rfl) pa_nil))))) (pw_or1 (pt_cmpR op_ne (pe_bm PySem.F.plainAttrs_list PySem.F.slot_list_count PySem.F.type_list_count mt_countB (pv 2) (pa_cons pe_bl pa_nil)) pe_int (nomark _))))) (pss_one (ps_ret pe_non)) pss_nil)
  (pss_cons (ps_if (pt_val (pe_ix ix_list (pv 2) pe_int (fun _ _ => rfl))) (pss_one (ps_ret (pe_tup (pa_cons pe_str (pa_cons pe_non pa_nil))))) pss_nil)
  pss_never)))), fun hl => ?_⟩⟩, fun z => by cases z⟩
    rw [List.length_set] at hl
    obtain ⟨y0, y1, y2, rfl⟩ := len3w hl
    have ecv : ∀ (C : Addr) (u : Value), RelV (.ref C) u → u = .ref C := fun C u r => r
    refine ⟨_, rfl, _, _, true, rfl, ecv _, T.i_BadMark_BadMark, _, rfl, _, _, false, rfl, ecv _, T.i_BadMark_BadReceiver, _, rfl, _, _, false, rfl, ecv _, T.i_BadMark_BadRoads, _, rfl, _, _, false, rfl, ecv _, T.i_BadMark_BadRows, by show 4 ≤ sizeLine; decide, fun l hl => ?_⟩
    generalize hH1 : upd H' l _ = H1
    have hl1 : H1 l = some (.lst [.bl true, .bl false, .bl false, .bl false]) := by rw [← hH1]; exact upd_same
    have s1 : Same H' H1 := by rw [← hH1]; exact Same.upd_new hl
    refine ⟨_, rfl, .inl ⟨rfl, _, SqL.of hl1⟩, _, rfl, _, _, false, rfl, ecv _, T.i_BadMark_BadText, l, _, _, rfl, rfl, hl1, by show 4 < sizeLine; decide, ?_⟩
    have s2 : Same H' (upd H1 l (.lst ([.bl true, .bl false, .bl false, .bl false] ++ [.bl false]))) := s1.mut hl
    have hl2 : (upd H1 l (.lst ([.bl true, .bl false, .bl false, .bl false] ++ [.bl false]))) l = some (.lst ([true, false, false, false, false].map V.bl)) := upd_same
    revert s2 hl2
    generalize (upd H1 l (.lst ([.bl true, .bl false, .bl false, .bl false] ++ [.bl false]))) = H2
    intro s2 hl2
    refine ⟨_, rfl, _, _, true, rfl, fun u r => r, T.i_BadMark_VE, _, rfl, iteF ?_⟩
    refine ⟨_, rfl, .inl ⟨rfl, _, SqL.of hl2⟩, l, _, rfl, rfl, SqL.of hl2, rfl, _, rfl, iteNS rfl ?_⟩
    refine ⟨_, rfl, l, _, _, _, rfl, rfl, SqL.of hl2, at0, _, rfl, iteT ?_⟩
    refine ⟨by show 2 ≤ sizeLine; decide, fun t ht => ?_⟩
    exact k t _ (s2.new ht) (s2.free ht) upd_same
/-! ### _law_word(lambda: ..) -/
theorem pe_word {X : Cx} (T : Txt X.K X.mg) {c P : Addr} {k : Nat} {params : Arguments} {body : Expr} {scope : Scope} {t : XK → TE} {p lpos pos : Pos} {q0 : Str} (hq : X.env.qual = q0) (hg : Gl X "_law_word") (TB : LamX.TabB X.base X.mg c P) (hcode : X.env.code = .ref c) (hr : Room (k + 2) X.A) (L : LamX.LamS X.env.scope scope) (hdef : defaultsOf params X.env = ([], []))
    (hbind : ∀ (q : Str) (cl : List (Str × Addr)) (pm cv ctv : Value), bindArgs (PySem.W.kla_fn "<lambda>" q params body scope cl pm cv ctv) ⟨[], []⟩ = pure [])
    (hbody : ∀ (A : Around) (outer : List Env) (s : Shared) (H : Hp) (E : XK) (f c' : Addr), Room k (A.deeper (LamX.lamEnv X scope s.heap.objs.size f c')) → PE (LamX.lamCx X A outer s H E scope f c') body (t E)) :
    PE X (.Call (.Name "_law_word" p) [.Lambda params body scope lpos] [] pos) (LamX.tLam [(P, q0 ++ ("<lambda>" : Str))] (TTw T.C_BadMark) t) := by
  subst hq
  obtain ⟨oc, od, kV, doc, pm, an, cdv, ct, osl, hfd, lk, hcd⟩ := T.F_Lword.ex
  have hb := T.b_Lword
  rw [hfd] at hb lk
  exact LamX.pe_lamcall hg T.mg_Lword T.kp_Lword lk hcd hb sc_Lword rfl (.inl rfl) (word_gives T cdv _) TB hcode (List.mem_singleton.mpr rfl) (fun q hq _ => by rw [List.mem_singleton.mp hq]) hr L hdef hbind hbody
/-! ### _law_deed -/
/-- all but what fp tells, and the tables, stands -/
def Fr (fp : Addr → Prop) (H H' : Hp) : Prop := ∀ b o, ¬ fp b → (∀ ps, o ≠ .tbl ps) → H b = some o → H' b = some o
theorem Fr.refl (fp : Addr → Prop) (H : Hp) : Fr fp H H := fun _ _ _ _ h => h
theorem Fr.trans {fp : Addr → Prop} {H H1 H2 : Hp} (a : Fr fp H H1) (b : Fr fp H1 H2) : Fr fp H H2 := fun c o n t h => b c o n t (a c o n t h)
theorem Fr.same {fp : Addr → Prop} {H H' : Hp} (s : Same H H') : Fr fp H H' := fun _ _ _ _ h => s _ _ h
theorem Fr.kp {fp : Addr → Prop} {r : Addr} {H H' : Hp} (k : Kp r H H') (hr : fp r) : Fr fp H H' := fun b o n _ h => k b o (fun z => n (z ▸ hr)) h
theorem Fr.km {fp : Addr → Prop} {p d : Addr} {H H' : Hp} (k : Km p d H H') (hp : fp p) (hd : fp d) : Fr fp H H' := fun b o n _ h => k b o (fun z => n (z ▸ hp)) (fun z => n (z ▸ hd)) h
theorem Fr.ext {fp : Addr → Prop} {H H' : Hp} (k : LamX.ExtN H H') : Fr fp H H' := fun b o _ t h => k b o h t
theorem Fr.mono {fp fq : Addr → Prop} {H H' : Hp} (k : Fr fp H H') (h : ∀ b, fp b → fq b) : Fr fq H H' := fun b o n t e => k b o (fun z => n (h b z)) t e
/-- tables and the code objects that they tell stand, whatever lists, dicts, objects do -/
theorem tabs_mv {T : List (Addr × Str)} {H H' : Hp} (t : LamX.Tabs T H) (k : ∀ b o, (∀ xs, o ≠ .lst xs) → (∀ C dx fs, o ≠ .ins C dx fs) → (∀ ks, o ≠ .dK ks) → H b = some o → H' b = some o) : LamX.Tabs T H' := fun p hp => by
  obtain ⟨ps, h1, h2, h3⟩ := t p hp
  refine ⟨ps, k _ _ (fun _ z => by cases z) (fun _ _ _ z => by cases z) (fun _ z => by cases z) h1, h2, fun pos cv hc => ?_⟩
  obtain ⟨c, e, h4⟩ := h3 pos cv hc
  exact ⟨c, e, k _ _ (fun _ z => by cases z) (fun _ _ _ z => by cases z) (fun _ z => by cases z) h4⟩
theorem tabs_same {T : List (Addr × Str)} {H H' : Hp} (t : LamX.Tabs T H) (s : Same H H') : LamX.Tabs T H' := t.ext s
theorem tabs_kp {K : PySem.W.Frag} {T : List (Addr × Str)} {r : Addr} {H H' : Hp} (t : LamX.Tabs T H) (w : RowAt K r H) (k : Kp r H H') : LamX.Tabs T H' := tabs_mv t fun b o h1 _ _ e => k b o (fun z => by
  obtain ⟨xs, h⟩ := w.lst
  rw [z, h] at e
  cases e
  exact h1 _ rfl) e
/-- a Merger and the law's dict, of one state -/
structure Pr where
  m : Addr
  d : Addr
  s : Addr
  h : Addr
  rq : Addr
  R : Rcv
  S : MS
  ks : List (E3 × Addr)
  ls : List (E3 × Addr)
def PrFp (q : Pr) (b : Addr) : Prop := b = q.m ∨ b = q.d ∨ b = q.s ∨ Ft q.h q.ls b
structure PrAt (C : Addr) (H : Hp) (q : Pr) : Prop where
  M : MAt C H q.m q.d q.R q.S q.ks
  L : LAt H q.s q.h q.rq q.R q.S q.ls
  ok : MOk q.R q.S
  rok : q.R.Ok
  ne : q.d ≠ q.s
  w0 : 0 ≤ q.S.w
theorem MAt.go {C : Addr} {H H' : Hp} {p d : Addr} {R : Rcv} {S : MS} {ks : List (E3 × Addr)} (M : MAt C H p d R S ks) (k : ∀ b o, (b = p ∨ b = d ∨ ∃ xs, o = .tup xs) → (∀ ps, o ≠ .tbl ps) → H b = some o → H' b = some o) : MAt C H' p d R S ks := by
  obtain ⟨⟨dx, h1⟩, h2, h3, h4⟩ := M
  exact ⟨⟨dx, k _ _ (.inl rfl) (fun _ z => by cases z) h1⟩, k _ _ (.inr (.inl rfl)) (fun _ z => by cases z) h2, fun x hx => k _ _ (.inr (.inr ⟨_, rfl⟩)) (fun _ z => by cases z) (h3 x hx), h4⟩
theorem LAt.go {H H' : Hp} {s h rq : Addr} {R : Rcv} {S : MS} {ks : List (E3 × Addr)} (L : LAt H s h rq R S ks) (k : ∀ b o, (b = s ∨ Ft h ks b ∨ ∃ xs, o = .tup xs) → (∀ ps, o ≠ .tbl ps) → H b = some o → H' b = some o) : LAt H' s h rq R S ks := by
  obtain ⟨h1, h2, h3, h4, h5, h6⟩ := L
  exact ⟨k _ _ (.inl rfl) (fun _ z => by cases z) h1, k _ _ (.inr (.inr ⟨_, rfl⟩)) (fun _ z => by cases z) h2, k _ _ (.inr (.inl (.inl rfl))) (fun _ z => by cases z) h3, fun x hx => k _ _ (.inr (.inl (.inr ⟨x, hx, rfl⟩))) (fun _ z => by cases z) (h4 x hx), h5, h6⟩
/-- a pair stands through what leaves its places and the tuples -/
theorem PrAt.fr {C : Addr} {H H' : Hp} {q : Pr} {fp : Addr → Prop} (P : PrAt C H q) (k : Fr fp H H') (n : ∀ b, PrFp q b → ¬ fp b) (t : ∀ b xs, fp b → H b ≠ some (.tup xs)) : PrAt C H' q := by
  refine ⟨P.M.go fun b o w nt e => ?_, P.L.go fun b o w nt e => ?_, P.ok, P.rok, P.ne, P.w0⟩
  · rcases w with w | w | ⟨xs, rfl⟩
    · exact k b o (n b (.inl w)) nt e
    · exact k b o (n b (.inr (.inl w))) nt e
    · exact k b _ (fun z => t b xs z e) nt e
  · rcases w with w | w | ⟨xs, rfl⟩
    · exact k b o (n b (.inr (.inr (.inl w)))) nt e
    · exact k b o (n b (.inr (.inr (.inr w)))) nt e
    · exact k b _ (fun z => t b xs z e) nt e
theorem PrAt.kind {C : Addr} {H : Hp} {q : Pr} (P : PrAt C H q) {b : Addr} (h : PrFp q b) : (∃ D dx fs, H b = some (.ins D dx fs)) ∨ (∃ ks, H b = some (.dK ks)) ∨ ∃ xs, H b = some (.lst xs) := by
  rcases h with rfl | rfl | rfl | rfl | ⟨x, hx, rfl⟩
  · obtain ⟨dx, e⟩ := P.M.ob
    exact .inl ⟨_, _, _, e⟩
  · exact .inr (.inl ⟨_, P.M.dc⟩)
  · exact .inr (.inl ⟨_, P.L.ob⟩)
  · exact .inr (.inr ⟨_, P.L.hd⟩)
  · exact .inr (.inr ⟨_, P.L.en x hx⟩)
theorem PrAt.notup {C : Addr} {H : Hp} {q : Pr} (P : PrAt C H q) {b : Addr} {xs : List V} (h : PrFp q b) : H b ≠ some (.tup xs) := fun z => by
  rcases P.kind h with ⟨_, _, _, e⟩ | ⟨_, e⟩ | ⟨_, e⟩ <;> (rw [z] at e; cases e)
def spLdeed (K : PySem.W.Frag) (C P : Addr) : Sp := fun vs H Q _ => ∃ (r : Addr) (q : Pr), vs = [.ref r, .ref q.m, .ref q.s] ∧ RowAt K r H ∧ PrAt C H q ∧ ¬ PrFp q r ∧ q.S.w ≤ 1000000 ∧ LamX.Tabs [(P, (("_law_deed" : Str) ++ (".<locals>." : Str)) ++ ("<lambda>" : Str))] H ∧
  ∀ (q' : Pr) (H' : Hp), q'.m = q.m → q'.d = q.d → q'.s = q.s → PrAt C H' q' → (∀ b, PrFp q' b → PrFp q b ∨ H b = none) → q'.S.w ≤ q.S.w + 32 → Fr (fun b => b = r ∨ PrFp q b) H H' → RowAt K r H' → LamX.Tabs [(P, (("_law_deed" : Str) ++ (".<locals>." : Str)) ++ ("<lambda>" : Str))] H' → Q (.bl true) H'
/-! ### what stands through a change of two places that are lists, dicts or objects -/
/-- a list, a dict or an object -/
def Kf (H : Hp) (a : Addr) : Prop := (∃ D dx fs, H a = some (.ins D dx fs)) ∨ (∃ ks, H a = some (.dK ks)) ∨ ∃ xs, H a = some (.lst xs)
theorem Kf.tup {H : Hp} {a : Addr} (h : Kf H a) (xs : List V) : H a ≠ some (.tup xs) := fun z => by
  rcases h with ⟨_, _, _, e⟩ | ⟨_, e⟩ | ⟨_, e⟩ <;> (rw [z] at e; cases e)
theorem Kf.frz {H : Hp} {a : Addr} (h : Kf H a) (o : Obj) (u : HO) : H a ≠ some (.frz o u) := fun z => by
  rcases h with ⟨_, _, _, e⟩ | ⟨_, e⟩ | ⟨_, e⟩ <;> (rw [z] at e; cases e)
theorem Kf.ne {H : Hp} {a : Addr} (h : Kf H a) : H a ≠ none := fun z => by
  rcases h with ⟨_, _, _, e⟩ | ⟨_, e⟩ | ⟨_, e⟩ <;> (rw [z] at e; cases e)
theorem Kf.inj {H : Hp} {a : Addr} (h : Kf H a) {o : HO} (e : H a = some o) (h1 : ∀ xs, o ≠ .lst xs) (h2 : ∀ C dx fs, o ≠ .ins C dx fs) (h3 : ∀ ks, o ≠ .dK ks) : False := by
  rcases h with ⟨_, _, _, q⟩ | ⟨_, q⟩ | ⟨_, q⟩ <;> (rw [e] at q; cases q)
  · exact h2 _ _ _ rfl
  · exact h3 _ rfl
  · exact h1 _ rfl
/-- all but a and b stands, which are lists, dicts, objects -/
structure Tw (a b : Addr) (H H' : Hp) : Prop where
  ka : Kf H a
  kb : Kf H b
  st : Km a b H H'
theorem Tw.tabs {T : List (Addr × Str)} {a b : Addr} {H H' : Hp} (k : Tw a b H H') (t : LamX.Tabs T H) : LamX.Tabs T H' := tabs_mv t fun c o h1 h2 h3 e =>
  k.st c o (fun z => by rw [z] at e; exact k.ka.inj e h1 h2 h3) (fun z => by rw [z] at e; exact k.kb.inj e h1 h2 h3) e
theorem Tw.row {K : PySem.W.Frag} {r a b : Addr} {H H' : Hp} (k : Tw a b H H') (n : r ≠ a) (m : r ≠ b) (w : RowAt K r H) : RowAt K r H' := w.move (fun o e => k.st _ _ n m e) fun c o u e =>
  k.st c _ (fun z => by rw [z] at e; exact k.ka.frz _ _ e) (fun z => by rw [z] at e; exact k.kb.frz _ _ e) e
theorem Tw.tup {a b c : Addr} {H H' : Hp} {xs : List V} (k : Tw a b H H') (e : H c = some (.tup xs)) : H' c = some (.tup xs) :=
  k.st c _ (fun z => by rw [z] at e; exact k.ka.tup _ e) (fun z => by rw [z] at e; exact k.kb.tup _ e) e
theorem Tw.mat {C : Addr} {a b p d : Addr} {R : Rcv} {S : MS} {ks : List (E3 × Addr)} {H H' : Hp} (k : Tw a b H H') (h1 : p ≠ a) (h2 : p ≠ b) (h3 : d ≠ a) (h4 : d ≠ b) (M : MAt C H p d R S ks) : MAt C H' p d R S ks := by
  obtain ⟨⟨dx, e1⟩, e2, e3, e4⟩ := M
  exact ⟨⟨dx, k.st _ _ h1 h2 e1⟩, k.st _ _ h3 h4 e2, fun x hx => k.tup (e3 x hx), e4⟩
theorem Tw.lat {a b s h rq : Addr} {R : Rcv} {S : MS} {ls : List (E3 × Addr)} {H H' : Hp} (k : Tw a b H H') (h1 : s ≠ a) (h2 : s ≠ b) (h3 : ¬ Ft h ls a) (h4 : ¬ Ft h ls b) (L : LAt H s h rq R S ls) : LAt H' s h rq R S ls := by
  obtain ⟨e1, e2, e3, e4, e5, e6⟩ := L
  exact ⟨k.st _ _ h1 h2 e1, k.tup e2, k.st _ _ (fun z => h3 (.inl z.symm)) (fun z => h4 (.inl z.symm)) e3, fun x hx => k.st _ _ (fun z => h3 (.inr ⟨x, hx, z⟩)) (fun z => h4 (.inr ⟨x, hx, z⟩)) (e4 x hx), e5, e6⟩
theorem Tw.mer {C p d : Addr} {R : Rcv} {S : MS} {ks : List (E3 × Addr)} {H H' : Hp} (M : MAt C H p d R S ks) (k : Km p d H H') : Tw p d H H' := ⟨.inl (let ⟨dx, e⟩ := M.ob; ⟨_, _, _, e⟩), .inr (.inl ⟨_, M.dc⟩), k⟩
theorem Tw.law {s h rq : Addr} {R : Rcv} {S : MS} {ls : List (E3 × Addr)} {H H' : Hp} (L : LAt H s h rq R S ls) (k : Km s h H H') : Tw s h H H' := ⟨.inr (.inl ⟨_, L.ob⟩), .inr (.inr ⟨_, L.hd⟩), k⟩
theorem PrAt.fo {C : Addr} {H : Hp} {q : Pr} (P : PrAt C H q) : ¬ Ft q.h q.ls q.m ∧ ¬ Ft q.h q.ls q.d ∧ q.m ≠ q.s ∧ q.m ≠ q.h ∧ q.d ≠ q.h := by
  obtain ⟨dx, e⟩ := P.M.ob
  refine ⟨fun z => ?_, fun z => ?_, fun z => ?_, fun z => ?_, fun z => ?_⟩
  · obtain ⟨xs, h⟩ := P.L.ft z
    rw [e] at h; cases h
  · obtain ⟨xs, h⟩ := P.L.ft z
    rw [P.M.dc] at h; cases h
  · have h := P.L.ob
    rw [← z, e] at h; cases h
  · have h := P.L.hd
    rw [← z, e] at h; cases h
  · have h := P.L.hd
    rw [← z, P.M.dc] at h; cases h
/-- a pair's two steps: the Merger's, then the law's -/
theorem PrAt.two {C : Addr} {H H1 H2 : Hp} {q : Pr} (P : PrAt C H q) {S' : MS} {ks' ls' : List (E3 × Addr)} {h' f g : Addr} {os : List V} (ok : MOk q.R S') (w0 : 0 ≤ S'.w)
    (M1 : MAt C H1 q.m q.d q.R S' ks') (k1 : Km q.m q.d H H1) (hf : H f = none) (hf1 : H1 f = some (.lst os))
    (L2 : LAt H2 q.s h' q.rq q.R S' ls') (k2 : Km q.s q.h H1 H2) (nw : Nw H1 q.h q.ls h' ls') (hg : H1 g = none) (hg2 : H2 g = some (.lst os)) :
    PrAt C (upd H2 f (.lst (os ++ [.int 0]))) { q with S := S', ks := ks', h := h', ls := ls' } ∧ (∀ b, PrFp { q with S := S', ks := ks', h := h', ls := ls' } b → PrFp q b ∨ H b = none) ∧ Fr (PrFp q) H (upd H2 f (.lst (os ++ [.int 0]))) ∧ f ≠ g ∧ H2 f = some (.lst os) := by
  obtain ⟨a1, a2, a3, a4, a5⟩ := P.fo
  have L1 := (Tw.mer P.M k1).lat a3.symm P.ne.symm a1 a2 P.L
  have t2 := Tw.law L1 k2
  have fs : f ≠ q.s := fun z => by
    have h := P.L.ob
    rw [← z, hf] at h; cases h
  have fh : f ≠ q.h := fun z => by
    have h := P.L.hd
    rw [← z, hf] at h; cases h
  have hf2 := k2 f _ fs fh hf1
  have nf : ¬ Ft h' ls' f := fun z => by
    rcases nw f z with z | z
    · obtain ⟨xs, h⟩ := P.L.ft z
      rw [hf] at h; cases h
    · rw [hf1] at z; cases z
  have M2 := t2.mat a3 a4 P.ne a5 M1
  have fg : f ≠ g := ne_of_none hf1 hg
  refine ⟨⟨M2.aside hf2, L2.aside hf2 nf, ok, P.rok, P.ne, w0⟩, fun b hb => ?_, fun b o n t e => ?_, fg, hf2⟩
  · rcases hb with h | h | h | h
    · exact .inl (.inl h)
    · exact .inl (.inr (.inl h))
    · exact .inl (.inr (.inr (.inl h)))
    · rcases nw b h with z | z
      · exact .inl (.inr (.inr (.inr z)))
      · by_cases bm : b = q.m
        · exact .inl (.inl bm)
        · by_cases bd : b = q.d
          · exact .inl (.inr (.inl bd))
          · refine .inr ?_
            cases e : H b with
            | none => rfl
            | some o =>
              rw [k1 b o bm bd e] at z
              cases z
  · rw [upd_ne (ne_of_none e hf)]
    exact k2 b o (fun z => n (.inr (.inr (.inl z)))) (fun z => n (.inr (.inr (.inr (.inl z))))) (k1 b o (fun z => n (.inl z)) (fun z => n (.inr (.inl z))) e)
theorem lk_intL {K : PySem.W.Frag} {H : Hp} {f g : Addr} {l : List Int} {n : Nat} (h1 : H f = some (.lst (l.map V.int))) (h2 : H g = some (.lst (l.map V.int))) (hl : l.length ≤ 100000) : Lk K H (n + 2) (.ref f) (.ref g) := by
  refine .lst (SqL.of h1) (SqL.of h2) rfl (by rw [List.length_map]; exact hl) fun i x y hx hy => ?_
  rw [hx] at hy
  cases hy
  rw [List.getElem?_map] at hx
  obtain ⟨t, ht, rfl⟩ := Option.map_eq_some_iff.mp hx
  exact .int _
theorem fun_okC {P : Program} {w : World} {K : PySem.W.Frag} {mg : Str → Option Value} {base : Heap} {x qual : Str} {st : Stmt} {f : Addr} {fd : FuncData} {N ps : List Str} {k : Nat} {sp : Sp} (F : Fun K x qual st f fd) (S : FnScope N ps (defScope st)) (len : ∀ vs H Q E, sp vs H Q E → vs.length = ps.length)
    (hbody : ∀ (cdv : Value), fd.code = cdv → ∀ (A : Around) (outer : List Env) (s : Shared) (H : Hp) (vs : List V) (Q : VK) (E : XK), Room k (A.deeper (PyProof.Rows.envOfC qual (defScope st) s.heap.objs.size f cdv)) → sp vs H Q E →
      ∃ t, PSs (cxOf CX0 P w K mg base N qual (defScope st) f cdv A outer s H E).nox (defBody st) t ∧ t { nx := fun _ H' => Q .non H', rt := Q } (L2.start N vs) H) : FnOk P w K mg base CX0 (k + 1) f fd ps sp := by
  obtain ⟨oc, od, kV, doc, pm, an, cdv, ct, osl, rfl, lk, hcd⟩ := F.ex
  refine fn_of lk hcd S len fun A outer s H vs Q E hr hsp => ?_
  obtain ⟨t, h, q⟩ := hbody cdv rfl A outer s H vs Q E hr hsp
  exact ⟨t, h.nox, q⟩
def Deed2 (K : PySem.W.Frag) (C P r : Addr) (q : Pr) (Q : VK) (H : Hp) (σ' : L2.St) (H4 : Hp) : Prop := ∃ (f g : Addr) (os : List Int), σ'[6]? = some (some (.ref f)) ∧ σ'[7]? = some (some (.ref g)) ∧ H4 f = some (.lst (os.map V.int)) ∧ H4 g = some (.lst (os.map V.int)) ∧ os.length ≤ 100 ∧
  ∀ H5, Same H4 H5 → Q (.bl true) (upd H5 f (.lst (os.map V.int ++ [.int 0])))
section
variable {P : Program} {w : World} {K : PySem.W.Frag} {mg : Str → Option Value} {base : Heap}
theorem ok_Ldeed (T : Txt K mg) (TB : LamX.TabB base mg T.cd_Ldeed T.tb_Ldeed) : FnOk P w K mg base CX0 5 T.f_Ldeed T.fd_Ldeed P_Ldeed (spLdeed K T.C_Merger T.tb_Ldeed) := by
  refine fun_okC T.F_Ldeed sc_Ldeed (fun vs H Q E h => ?_) (fun cdv hcd A outer s H vs Q E hr h => ?_)
  · obtain ⟨r, q, rfl, _⟩ := h
    rfl
  · obtain ⟨r, q, rfl, row, PA, nr, wmax, hT, k⟩ := h
    have hcode : cdv = .ref T.cd_Ldeed := hcd.symm.trans T.hc_Ldeed
    obtain ⟨t2, h2, q2⟩ : ∃ t2 : TS, PSs (cxOf CX0 P w K mg base N_Ldeed "_law_deed" (defScope s_Ldeed) T.f_Ldeed cdv A outer s H E).nox ((defBody s_Ldeed).drop 4) t2 ∧ ∀ (D : Ends) (σ' : L2.St) (H4 : Hp), D.rt = Q → Deed2 K T.C_Merger T.tb_Ldeed r q Q H σ' H4 → t2 D σ' H4 := by
      refine ⟨_, ((pss_cons (ps_if (pt_not (pt_val (pe_call (ok_Lalike T 2) (hr.mono (by decide)) (by rfl) T.mg_Lalike T.kp_Lalike T.b_Lalike .nil pass0 (pa_cons (pv 6) (pa_cons (pv 7) pa_nil))))) (pss_one (ps_ret pe_bl)) pss_nil)
  (pss_cons (ps_expr (pe_bm PySem.F.plainAttrs_list PySem.F.slot_list_append PySem.F.type_list_append mt_append (pv 6) (pa_cons pe_int pa_nil)))
  (pss_one (ps_ret pe_bl))))), ?_⟩
      rintro D σ' H4 rfl ⟨f, g, os, e6, e7, hf4, hg4, ol, kk⟩
      refine ⟨_, e6, _, e7, _, _, rfl, lk_intL (n := 0) hf4 hg4 (by omega), fun H5 s5 => ?_⟩
      refine ⟨_, rfl, iteF ?_⟩
      have hf5 := s5 _ _ hf4
      refine ⟨_, e6, .inl ⟨rfl, _, SqL.of hf5⟩, f, _, _, rfl, rfl, hf5, small1000 (by rw [List.length_map]; omega), ?_⟩
      exact kk H5 s5
    refine ⟨_, ((pss_cons (ps_set (i := 3) sc_Ldeed.nd rfl (Or.inl rfl) (pe_ix ix_tup (pe_dget (hu_of hr) (pv 2) pe_str (fun _ _ => rfl)) pe_int (fun _ _ => rfl)))
  (pss_cons (ps_set (i := 4) sc_Ldeed.nd rfl (Or.inl rfl) (pe_call (ok_Ltaken T) (hr.mono (by decide)) (by rfl) T.mg_Ltaken T.kp_Ltaken T.b_Ltaken .nil pass0 (pa_cons (pv 0) (pa_cons pe_int pa_nil))))
  (pss_cons (ps_if (pt_cmpR op_eq (pv 4) pe_int (nomark _)) (pss_cons (ps_set (i := 5) sc_Ldeed.nd rfl (Or.inr rfl) (pe_ix ix_list (pe_lst (pa_cons (pe_op op_sub pe_int pe_int) (pa_cons (pv 3) (pa_cons (pe_op op_add (pv 3) (pe_call (ok_Ltaken T) (hr.mono (by decide)) (by rfl) T.mg_Ltaken T.kp_Ltaken T.b_Ltaken .nil pass0 (pa_cons (pv 0) (pa_cons pe_int pa_nil)))) (pa_cons (pe_op op_sub (pe_op op_sub pe_int pe_int) (pe_call (ok_Ltaken T) (hr.mono (by decide)) (by rfl) T.mg_Ltaken T.kp_Ltaken T.b_Ltaken .nil pass0 (pa_cons (pv 0) (pa_cons pe_int pa_nil)))) pa_nil))))) (pe_call (ok_Ltaken T) (hr.mono (by decide)) (by rfl) T.mg_Ltaken T.kp_Ltaken T.b_Ltaken .nil pass0 (pa_cons (pv 0) (pa_cons pe_int pa_nil))) (fun _ _ => rfl)))
  (pss_one (ps_ret (pe_cmpR (op_eqD hr.units) (pe_word (k := 1) (q0 := ("_law_deed" : Str) ++ (".<locals>." : Str)) T rfl rfl TB hcode (hr.mono (by decide)) (show LamX.LamS (defScope s_Ldeed) _ from LamX.lamS_by (by decide +kernel)) rfl (fun _ _ _ _ _ => rfl) (fun A outer s H E f c' hr2 => pe_meth (pv 1) T.cl_Merger T.m_Merger_come (ok_come_bad T) (hr2.mono (by decide)) T.b_Merger_come .nil (passes_call (takes_of rfl rfl rfl rfl) fun _ _ _ _ h => h) (pa_cons (pv 5) (pa_cons pe_int pa_nil)))) (pe_tup (pa_cons pe_str (pa_cons pe_non pa_nil))) (nomark _))))) pss_nil)
  (pss_cons (ps_if (pt_cmpR op_lt (pv 4) pe_int (nomark _)) (pss_cons (ps_set (i := 6) sc_Ldeed.nd rfl (Or.inl rfl) (pe_meth0 (pv 1) T.cl_Merger T.m_Merger_close (ok_Merger_close T) (hr.mono (by decide)) T.b_Merger_close .nil pass0))
  (pss_one (ps_set (i := 7) sc_Ldeed.nd rfl (Or.inl rfl) (pe_call (ok_Lclose T) (hr.mono (by decide)) (by rfl) T.mg_Lclose T.kp_Lclose T.b_Lclose .nil pass0 (pa_cons (pv 2) pa_nil))))) (pss_cons (ps_set (i := 8) sc_Ldeed.nd rfl (Or.inl rfl) (pe_ix ix_list (pe_lst (pa_cons (pe_call (ok_Ltaken T) (hr.mono (by decide)) (by rfl) T.mg_Ltaken T.kp_Ltaken T.b_Ltaken .nil pass0 (pa_cons (pv 0) (pa_cons pe_int pa_nil))) (pa_cons (pe_call (ok_Ltaken T) (hr.mono (by decide)) (by rfl) T.mg_Ltaken T.kp_Ltaken T.b_Ltaken .nil pass0 (pa_cons (pv 0) (pa_cons (pv 3) pa_nil))) (pa_cons (pe_op op_sub pe_int (pe_call (ok_Ltaken T) (hr.mono (by decide)) (by rfl) T.mg_Ltaken T.kp_Ltaken T.b_Ltaken .nil pass0 (pa_cons (pv 0) (pa_cons pe_int pa_nil)))) pa_nil)))) (pe_call (ok_Ltaken T) (hr.mono (by decide)) (by rfl) T.mg_Ltaken T.kp_Ltaken T.b_Ltaken .nil pass0 (pa_cons (pv 0) (pa_cons pe_int pa_nil))) (fun _ _ => rfl)))
  (pss_cons (ps_set (i := 9) sc_Ldeed.nd rfl (Or.inl rfl) (pe_op op_mod (pe_op op_add (pe_dget (hu_of hr) (pv 2) pe_str (fun _ _ => rfl)) (pv 8)) (pv 3)))
  (pss_cons (ps_set (i := 10) sc_Ldeed.nd rfl (Or.inl rfl) (pe_ix ix_list (pe_lst (pa_cons (pe_call (ok_Ltaken T) (hr.mono (by decide)) (by rfl) T.mg_Ltaken T.kp_Ltaken T.b_Ltaken .nil pass0 (pa_cons (pv 0) (pa_cons pe_int pa_nil))) (pa_cons (pe_op op_sub pe_int (pe_call (ok_Ltaken T) (hr.mono (by decide)) (by rfl) T.mg_Ltaken T.kp_Ltaken T.b_Ltaken .nil pass0 (pa_cons (pv 0) (pa_cons pe_int pa_nil)))) (pa_cons (pe_op op_pow pe_int pe_int) pa_nil)))) (pe_call (ok_Ltaken T) (hr.mono (by decide)) (by rfl) T.mg_Ltaken T.kp_Ltaken T.b_Ltaken .nil pass0 (pa_cons (pv 0) (pa_cons pe_int pa_nil))) (fun _ _ => rfl)))
  (pss_cons (ps_set (i := 6) sc_Ldeed.nd rfl (Or.inl rfl) (pe_meth (pv 1) T.cl_Merger T.m_Merger_come (ok_Merger_come T) (hr.mono (by decide)) T.b_Merger_come .nil pass0 (pa_cons (pv 9) (pa_cons (pv 10) pa_nil))))
  (pss_one (ps_set (i := 7) sc_Ldeed.nd rfl (Or.inl rfl) (pe_call (ok_Lcome T) (hr.mono (by decide)) (by rfl) T.mg_Lcome T.kp_Lcome T.b_Lcome .nil pass0 (pa_cons (pv 2) (pa_cons (pv 9) (pa_cons (pv 10) pa_nil)))))))))))
  h2))))), ?_⟩
    have stepP : ∀ {Ha Hb : Hp}, PrAt T.C_Merger Ha q → RowAt K r Ha → Kp r Ha Hb → PrAt T.C_Merger Hb q := fun P w k => P.fr (Fr.kp (fp := fun b => b = r) k rfl) (fun b h z => nr (z ▸ h)) fun b xs z e => by
      obtain ⟨ys, h⟩ := w.lst
      rw [z, h] at e
      cases e
    have m0 : 0 < q.R.mks := by have := PA.rok.m2; omega
    refine ⟨_, rfl, q.s, _, rfl, PA.L.get lk_receiver, q.rq, _, _, _, rfl, rfl, SqT.of PA.L.rc, at0, ?_⟩
    refine ⟨_, rfl, r, _, rfl, by decide, row, fun way H1 z0 z1 row1 k1 => ?_⟩
    have PA1 := stepP PA row k1
    have hT1 := tabs_kp hT row k1
    refine ⟨_, rfl, rfl, _, rfl, ?_⟩
    by_cases c : V.int way = V.int 0
    · refine iteT' (decide_eq_true c) ?_
      refine ⟨_, _, rfl, rfl, _, rfl, _, rfl, _, rfl, r, _, rfl, by decide, row1, fun v2 H2 a0 a1 row2 k2 => ⟨_, _, rfl, rfl, _, _, rfl, rfl, _, rfl, r, _, rfl, by decide, row2, fun v3 H3 b0 b1 row3 k3 => ⟨_, _, rfl, rfl, by show 4 ≤ sizeLine; decide, fun l hl => ?_⟩⟩⟩
      have k13 := k2.trans k3
      have hT3 := tabs_kp (tabs_kp hT1 row1 k2) row2 k3
      have PA3 := stepP (stepP PA1 row1 k2) row2 k3
      generalize hH4 : upd H3 l _ = H4
      have hl4 : H4 l = some (.lst [.int (0 - 1), .int q.R.mks, .int (q.R.mks + v2), .int (0 - 1 - v3)]) := by rw [← hH4]; exact upd_same
      have s4 : Same H3 H4 := by rw [← hH4]; exact Same.upd_new hl
      have lr := row3.ne hl
      refine ⟨_, rfl, r, _, rfl, by decide, row3.same s4, fun v4 H5 c0 c1 row5 k5 => ?_⟩
      have hl5 := k5 _ _ lr hl4
      have PA5 := stepP (PA3.fr (Fr.same (fp := fun _ => False) s4) (fun _ _ z => z) fun _ _ z => z.elim) (row3.same s4) k5
      have hT5 := tabs_kp (tabs_same hT3 s4) (row3.same s4) k5
      have od : ∃ od : Int, atI ([.int (0 - 1), .int q.R.mks, .int (q.R.mks + v2), .int (0 - 1 - v3)] : List V) v4 = some (.int od) ∧ ¬ (0 ≤ od ∧ od < q.R.mks) := by
        have : v4 = 0 ∨ v4 = 1 ∨ v4 = 2 ∨ v4 = 3 := by omega
        rcases this with rfl | rfl | rfl | rfl
        · exact ⟨_, at0, by omega⟩
        · exact ⟨_, at1, by omega⟩
        · exact ⟨_, at2, by omega⟩
        · exact ⟨_, atI_nat (j := 3) rfl, by omega⟩
      obtain ⟨od, hod, hbad⟩ := od
      refine ⟨l, _, _, _, rfl, rfl, SqL.of hl5, hod, ?_⟩
      refine ⟨hT5, fun H6 ext T6 => ?_⟩
      have P6 : PrAt T.C_Merger H6 q := PA5.fr (Fr.ext (fp := fun _ => False) ext) (fun _ _ z => z) fun _ _ z => z.elim
      have row6 : RowAt K r H6 := row5.move (fun o e => by
        obtain ⟨xs, z⟩ := row5.lst
        rw [z] at e
        cases e
        exact ext _ _ z fun _ w => by cases w) fun b o u e => ext _ _ e fun _ w => by cases w
      obtain ⟨dx6, hm6⟩ := P6.M.ob
      refine ⟨_, rfl, q.m, dx6, _, rfl, hm6, fl_no (by decide +kernel), _, rfl, q.m, q.d, q.R, q.S, q.ks, _, _, rfl, P6.M, hbad, rfl, rfl, fun t H7 s7 ht0 ht => ?_⟩
      refine ⟨by show 2 ≤ sizeLine; decide, fun u hu => ?_⟩
      have s8 : Same H7 (upd H7 u (.tup [.str "mark", .non])) := Same.upd_new hu
      have sh : SeqAt.shaped (.tuple [.str "mark", .none]) = true := Sh.ok (n := 1) (Sh.tup fun d hd => by
        simp only [List.mem_cons, List.not_mem_nil, or_false] at hd
        rcases hd with rfl | rfl
        · exact ⟨by simp only [PyData.canLay0]; decide +kernel, Nat.zero_le _⟩
        · exact .non) (by decide)
      refine ⟨.tuple [.str "mark", .none], .tuple [.str "mark", .none], .tup (SqT.of (s8 _ _ ht)) (.cons (.str _) (.cons .non .nil)), .tup (SqT.of upd_same) (.cons (.str _) (.cons .non .nil)), sh, sh, ?_⟩
      rw [SeqAt.eqv_refl _ (SeqAt.canLay_of_shaped sh)]
      have s68 := s7.trans s8
      have hFr : Fr (fun b => b = r ∨ PrFp q b) H (upd H7 u (.tup [.str "mark", .non])) :=
        ((((((Fr.kp k1 (.inl rfl)).trans (Fr.kp k13 (.inl rfl))).trans (Fr.same s4)).trans (Fr.kp k5 (.inl rfl))).trans (Fr.ext ext)).trans (Fr.same s68))
      exact k q _ rfl rfl rfl (P6.fr (Fr.same (fp := fun _ => False) s68) (fun _ _ z => z) fun _ _ z => z.elim) (fun b hb => .inl hb) (by omega) hFr (row6.same s68) (tabs_same T6 s68)
    · refine iteF' (decide_eq_false c) ?_
      -- what stands behind both ways
      have rq_ : ∀ {b : Addr}, PrFp q b → r ≠ b := fun hb z => nr (z ▸ hb)
      have fin : ∀ {H2 H3 H4 : Hp} {f g h' : Addr} {S' : MS} {ks' ls' : List (E3 × Addr)} {os : List Int} {σ' : L2.St}, PrAt T.C_Merger H2 q → RowAt K r H2 → LamX.Tabs [(T.tb_Ldeed, (("_law_deed" : Str) ++ (".<locals>." : Str)) ++ ("<lambda>" : Str))] H2 → Kp r H H2 → MOk q.R S' → 0 ≤ S'.w → S'.w ≤ q.S.w + 32 → os.length ≤ 100 →
          σ'[6]? = some (some (.ref f)) → σ'[7]? = some (some (.ref g)) → MAt T.C_Merger H3 q.m q.d q.R S' ks' → Km q.m q.d H2 H3 → H2 f = none → H3 f = some (.lst (os.map V.int)) → LAt H4 q.s h' q.rq q.R S' ls' → Km q.s q.h H3 H4 → Nw H3 q.h q.ls h' ls' → H3 g = none → H4 g = some (.lst (os.map V.int)) →
          Deed2 K T.C_Merger T.tb_Ldeed r q Q H σ' H4 := by
        intro H2 H3 H4 f g h' S' ks' ls' os σ' P2 row2 T2 k2 ok w0 w1 ol e6 e7 M3 k3 hf hf3 L4 k4 nw hg hg4
        obtain ⟨a1, a2, a3, a4, a5⟩ := P2.fo
        refine ⟨f, g, os, e6, e7, (P2.two ok w0 M3 k3 hf hf3 L4 k4 nw hg hg4).2.2.2.2, hg4, ol, fun H5 s5 => ?_⟩
        obtain ⟨b1, b2, b3, b4, b5⟩ := P2.two ok w0 M3 k3 hf hf3 (L4.same s5) (k4.trans (Km.of s5)) nw hg (s5 _ _ hg4)
        have L3 := (Tw.mer P2.M k3).lat a3.symm P2.ne.symm a1 a2 P2.L
        have t3 := Tw.mer P2.M k3
        have t4 := Tw.law L3 (k4.trans (Km.of s5))
        have row5 := t4.row (rq_ (.inr (.inr (.inl rfl)))) (rq_ (.inr (.inr (.inr (.inl rfl))))) (t3.row (rq_ (.inl rfl)) (rq_ (.inr (.inl rfl))) row2)
        have T5 := t4.tabs (t3.tabs T2)
        have fr_ : f ≠ r := row2.ne hf
        have t6 : Tw f f H5 (upd H5 f (.lst (os.map V.int ++ [.int 0]))) := ⟨.inr (.inr ⟨_, b5⟩), .inr (.inr ⟨_, b5⟩), fun x o n _ e => by rw [upd_ne n]; exact e⟩
        refine k { q with S := S', ks := ks', h := h', ls := ls' } _ rfl rfl rfl b1 (fun b hb => (b2 b hb).imp id fun z => ?_) w1 ((Fr.kp k2 (.inl rfl)).trans (b3.mono fun b hb => .inr hb)) (row5.put fr_ b5) (t6.tabs T5)
        cases e : H b with
        | none => rfl
        | some o =>
          by_cases br : b = r
          · obtain ⟨xs, er⟩ := row2.lst
            rw [br, er] at z; cases z
          · rw [k2 b o br e] at z
            cases z
      · refine ⟨_, rfl, _, _, rfl, rfl, _, rfl, ?_⟩
        refine ite2 (fun hc => ?_) (fun hc => ?_)
        · obtain ⟨dx, hm⟩ := PA1.M.ob
          have hl := close_len q.R q.S
          have hk := PA1.ok.len PA1.rok
          obtain ⟨w0, w1⟩ := close_wle PA1.rok PA1.ok
          have q0 := PA1.w0
          refine ⟨_, rfl, q.m, dx, _, rfl, hm, fl_no (by decide +kernel), q.m, q.d, q.R, q.S, q.ks, rfl, PA1.M, PA1.ok, PA1.rok, fun f H3 ks' hf hf3 M3 k3 => ?_⟩
          obtain ⟨a1, a2, a3, a4, a5⟩ := PA1.fo
          have L3 := (Tw.mer PA1.M k3).lat a3.symm PA1.ne.symm a1 a2 PA1.L
          refine ⟨_, rfl, q.s, q.h, q.rq, q.R, q.S, q.ls, rfl, L3, PA1.ok, PA1.rok, fun g H4 h' ls' hg hg4 L4 k4 nw nf => ?_⟩
          exact q2 _ _ _ rfl <| fin PA1 row1 hT1 k1 (closeM_ok PA1.ok) (by omega) w1 (by omega) rfl rfl M3 k3 hf hf3 L4 k4 nw hg hg4
        · -- far
          refine ⟨_, rfl, r, _, rfl, by decide, row1, fun v2 H2 _ _ row2 k2 => ⟨_, rfl, _, rfl, r, _, rfl, m0, row2, fun v3 H3 _ _ row3 k3 => ⟨_, rfl, r, _, rfl, by decide, row3, fun v4 H4 _ _ row4 k4 => ⟨_, _, rfl, rfl, by show 3 ≤ sizeLine; decide, fun l hl => ?_⟩⟩⟩⟩
          have lr := row4.ne hl
          refine ⟨_, rfl, r, _, rfl, by decide, row4.new hl, fun i H5 i0 i1 row5 k5 => ?_⟩
          have hl5 : H5 l = some (.lst ([v2, v3, 0 - v4].map V.int)) := k5 _ _ lr upd_same
          obtain ⟨far, hfar⟩ := at_ints (ns := [v2, v3, 0 - v4]) (i := i) i0 i1
          refine ⟨l, _, _, _, rfl, rfl, SqL.of hl5, hfar, ?_⟩
          have k05 : Kp r H H5 := ((((k1.trans k2).trans k3).trans k4).new hl).trans k5
          have PA5 := stepP PA row k05
          -- mark
          refine ⟨_, rfl, q.s, _, rfl, PA5.L.get lk_wanted, _, rfl, _, _, rfl, rfl, _, rfl, _, _, rfl, rfl, m0, ?_⟩
          have mk0 : 0 ≤ (q.S.w + far) % q.R.mks := Int.emod_nonneg _ (by omega)
          have mk1 : (q.S.w + far) % q.R.mks < q.R.mks := Int.emod_lt_of_pos _ m0
          -- thing
          refine ⟨_, rfl, r, _, rfl, by decide, row5, fun v6 H6 _ _ row6 k6 => ⟨_, rfl, r, _, rfl, by decide, row6, fun v7 H7 _ _ row7 k7 => ⟨_, _, rfl, rfl, _, _, rfl, rfl, ⟨by decide, by decide, by decide⟩, by show 3 ≤ sizeLine; decide, fun l2 hl2 => ?_⟩⟩⟩
          have lr2 := row7.ne hl2
          refine ⟨_, rfl, r, _, rfl, by decide, row7.new hl2, fun j H8 j0 j1 row8 k8 => ?_⟩
          have hl8 : H8 l2 = some (.lst ([v6, 0 - v7, 10 ^ (9 : Int).toNat].map V.int)) := k8 _ _ lr2 upd_same
          obtain ⟨thing, hth⟩ := at_ints (ns := [v6, 0 - v7, 10 ^ (9 : Int).toNat]) (i := j) j0 j1
          refine ⟨l2, _, _, _, rfl, rfl, SqL.of hl8, hth, ?_⟩
          have k08 : Kp r H H8 := (((k05.trans k6).trans k7).new hl2).trans k8
          have PA8 := stepP PA row k08
          have hT8 := tabs_kp hT row k08
          obtain ⟨dx, hm⟩ := PA8.M.ob
          have hl' := come_len q.R q.S ((q.S.w + far) % q.R.mks) thing
          have hk := PA8.ok.len PA8.rok
          obtain ⟨w0, w1⟩ := come_wle PA8.rok PA8.ok ((q.S.w + far) % q.R.mks) thing
          have q0 := PA8.w0
          refine ⟨_, rfl, q.m, dx, _, rfl, hm, fl_no (by decide +kernel), _, rfl, _, rfl, q.m, q.d, q.R, q.S, q.ks, _, _, rfl, PA8.M, PA8.ok, PA8.rok, mk0, mk1, fun f H9 ks' hf hf9 M9 k9 => ?_⟩
          obtain ⟨a1, a2, a3, a4, a5⟩ := PA8.fo
          have L9 := (Tw.mer PA8.M k9).lat a3.symm PA8.ne.symm a1 a2 PA8.L
          refine ⟨_, rfl, _, rfl, _, rfl, q.s, q.h, q.rq, q.R, q.S, q.ls, _, _, rfl, L9, PA8.ok, PA8.rok, q0, by omega, mk0, mk1, fun g Ha ls' hg hga La ka nw nf => ?_⟩
          exact q2 _ _ _ rfl <| fin PA8 row8 hT8 k08 (comeM_ok PA8.rok PA8.ok ((q.S.w + far) % q.R.mks) thing) (by omega) w1 (by omega) rfl rfl M9 k9 hf hf9 La ka nw hg hga
end
/-! ### the end where defs make lambdas: tables; the script is locked -/
/-- the law's promise: True, where the tables are empty -/
def spLawT (K : PySem.W.Frag) (cs : List (Addr × Addr)) : Sp := fun vs H Q _ => ∃ (a : Addr) (ns : List Int), vs = [.ref a] ∧ Scr K H a ns ∧ (∀ p ∈ cs, H p.2 = some (.tbl #[])) ∧ ∀ H', Q (.bl true) H'
def spLawU (K : PySem.W.Frag) (cs : List (Addr × Addr)) : Sp := fun vs H Q _ => ∃ (a : Addr) (ns : List Int), vs = [.ref a] ∧ SqL K H a (ns.map V.int) ∧ (∀ p ∈ cs, H p.2 = some (.tbl #[])) ∧ ∀ H', Q (.bl true) H'
theorem un_lock {fs ex : List Addr} {H H' : Hp} {h h' : Heap} {a : Addr} {xs : List V} {ob : Obj} (e : H a = some (.lst xs)) (u : Un fs ex (upd H a (.frz ob (.lst xs))) H' h h') : Un fs ex H H' h h' := by
  have ne : ∀ {b : Addr}, H b = none → (upd H a (.frz ob (.lst xs))) b = none := fun {b} hb => by
    rw [upd_ne (fun z => by rw [z, e] at hb; cases hb)]
    exact hb
  have at_ : ∀ {b : Addr} {o : HO}, H b = some o → o ≠ .lst xs → (upd H a (.frz ob (.lst xs))) b = some o := fun {b o} hb n => by
    rw [upd_ne (fun z => by rw [z, e] at hb; cases hb; exact n rfl)]
    exact hb
  exact ⟨fun b o q n => u.keep b o q (ne n), fun b o q n => u.slot b o q (ne n), fun b o q n => u.free b o q (ne n), u.there, fun b ys q => u.tups b ys (at_ q fun z => by cases z), fun b o v q => u.frzs b o v (at_ q fun z => by cases z), fun b ps q => u.tbls b ps (at_ q fun z => by cases z)⟩
theorem env_lock {P : Program} {w : World} {K : PySem.W.Frag} {mg : Str → Option Value} {base : Heap} {A : Around} {outer : List Env} {s : Shared} {H : Hp} {a : Addr} {xs : List V} (e0 : Env0 P w K mg base A outer s H) (e : H a = some (.lst xs)) :
    ∃ ob : Obj, Env0 P w K mg base A outer s (upd H a (.frz ob (.lst xs))) := by
  obtain ⟨hl, its, n, rv, eg⟩ := e0.hok a _ e
  have ne : ∀ {b : Addr} {u : HO}, H b = none → (upd H a u) b = none := fun {b u} hb => by
    rw [upd_ne (fun z => by rw [z, e] at hb; cases hb)]
    exact hb
  refine ⟨{ cls := .type "list", data := .seq its.toArray n }, e0.frames, e0.mod, fun b o q => ⟨(e0.bs b o q).1, ne (e0.bs b o q).2⟩, e0.bsz, e0.funs, fun b hb => ne (e0.frf b hb), fun b o q => ?_, e0.bare⟩
  by_cases hb : b = a
  · rw [hb, upd_same] at q
    cases q
    rw [hb]
    exact ⟨eg, hl, its, n, rv, eg⟩
  · rw [upd_ne hb] at q
    refine (e0.hok b o q).stay (fun c u _ z => z) (fun c z => ?_) fun c ys z => ?_
    · rw [upd_ne (fun y => by rw [y, e] at z; cases z)]
      exact z
    · rw [upd_ne (fun y => by rw [y, e] at z; cases z)]
      exact z
theorem fn_lock {P : Program} {w : World} {K : PySem.W.Frag} {mg : Str → Option Value} {base : Heap} {k : Nat} {f : Addr} {fd : FuncData} {x : Str} {cs : List (Addr × Addr)} (F : FnOk P w K mg base CX0 k f fd [x] (spLawT K cs)) : FnOk P w K mg base CX0 k f fd [x] (spLawU K cs) := by
  refine ⟨fun vs H Q E h => ?_, fun A outer s H args us vs Q E hr e0 hb hv hs => ?_⟩
  · obtain ⟨a, ns, rfl, _⟩ := h
    rfl
  · obtain ⟨a, ns, rfl, hS, hT, q⟩ := hs
    rcases hS with (h | ⟨o, h⟩) | h
    · obtain ⟨ob, e2⟩ := env_lock e0 h
      refine codeAny_mono (F.run A outer s _ args us _ Q E hr e2 hb hv ⟨a, ns, rfl, .inl ⟨ob, upd_same⟩, fun p hp => ?_, q⟩) fun r s' hc => ?_
      · rw [upd_ne (fun z => by
          have := hT p hp
          rw [z, h] at this
          cases this)]
        exact hT p hp
      · cases r with
        | error e => exact (show False from hc).elim
        | ok fl =>
          cases fl with
          | ret u =>
            obtain ⟨v, H', os, bare, un, hok, rv, qq⟩ := hc
            exact ⟨v, H', os, bare, un_lock h un, hok, rv, qq⟩
          | next => exact False.elim hc
          | brk => exact False.elim hc
          | cont => exact False.elim hc
    · exact F.run A outer s H args us _ Q E hr e0 hb hv ⟨a, ns, rfl, .inl ⟨o, h⟩, hT, q⟩
    · exact F.run A outer s H args us _ Q E hr e0 hb hv ⟨a, ns, rfl, .inr fun _ => .inr h, hT, q⟩
theorem walkT {l : PySem.W.OpenLaw} {k : Nat} {q : Program} {loose : List Str} {XP : (Str → Option Value) → Heap → Prop} {YP : World → Heap → Prop} {d : DefRec} {K : Params → PySem.W.Frag} (names : List Str) (hrec : ∀ x ∈ names, ∃ e, (PyProof.Rows.recsOf q).find? (fun e => e.name == x) = some e)
    (hn : l.most = some 63) (hdf : d.params.defaults = []) (hr : Room k callerA) (hY : ∀ (w : World) (h : Heap), YP w h → (K w.params).In h)
    (F : ∀ (w : World) (mg : Str → Option Value) (fa : Addr) (h : Heap), (K w.params).In h → h.Ns mainGlobals mg → mg d.name = some (.ref fa) →
      ∃ (fd : FuncData) (cs : List (Addr × Addr)), (∀ (s : Shared) (u : Value), BindsTo s fd ⟨[u], []⟩ [("_law_script", u)]) ∧ (∀ p ∈ cs, ∃ x ∈ names, PySem.W.tabIn (K w.params) x = some p) ∧ (∀ p ∈ cs, (K w.params).lookup p.2 = none) ∧
        ∀ base : Heap, (K w.params).In base → base.Ns mainGlobals mg → (∀ p ∈ cs, LamX.TabB base mg p.1 p.2) → FnOk l.prog w (K w.params) mg base CX0 k fa fd ["_law_script"] (spLawT (K w.params) cs)) :
    PySem.W.WalkO q loose XP YP l.row.toRowW d [] (fun f vs => PySem.call f vs) := by
  refine Att.attach_callB hn hdf fun w s₀ s₁ mg mb fa o pm cd doc a vs ns G Y ho hd hcd hmg hobj hints hlen hbits hg => ?_
  have KX := hY w _ Y
  obtain ⟨fd, cs, hb, hc, nT, hF⟩ := F w mg fa _ KX G.T.g hmg
  have tabs : ∀ p ∈ cs, PySem.W.CodeHd s₁.heap p.1 p.2 ∧ s₁.heap.get? p.2 = some { cls := .none, data := .fields #[] } := fun p hp => by
    obtain ⟨x, hx, ht⟩ := hc p hp
    obtain ⟨e, he⟩ := hrec x hx
    exact PySem.W.tab_of G.T KX he ht
  exact LamX.law_callTs (CX := CX0) KX G.T.g G.T.b G.T.builtins G.T.nolimit hg (fun p hp => (tabs p hp).2) nT (fun p hp => (tabs p hp).1) G.T.bmain hobj hints (Nat.le_trans hlen (by decide)) hr (fun base h1 h2 h3 => fn_lock (hF base h1 h2 h3)) hb
    (fun H hH hS => ⟨a, ns, rfl, hS, hH, fun _ => rfl⟩) fun _ _ _ z => z
theorem tab_mk {K : PySem.W.Frag} {x : Str} {f c P : Addr} {oc ce : Value} {od co : Option Addr} {fd : FuncData} {sl cs : Array (Option Value)} {cv : Array Value} (a : PySem.W.nsIn K mainGlobals x = some (some (.ref f))) (l : K.lookup f = some ⟨oc, od, .func fd, sl⟩) (hc : fd.code = .ref c)
    (hk : K.lookup c = some ⟨ce, co, .fields cv, cs⟩) (hv : cv[11]? = some (.ref P)) : PySem.W.tabIn K x = some (c, P) := by
  unfold PySem.W.tabIn
  simp only [a, l, hc, hk, hv]
theorem rec_of {p : Program} {x : Str} (h : ((PyProof.Rows.recsOf p).find? (fun e => e.name == x)).isSome = true) : ∃ e, (PyProof.Rows.recsOf p).find? (fun e => e.name == x) = some e := Option.isSome_iff_exists.mp h
/-! ### waits -/
def spWaits (C : Addr) : Sp := fun vs H Q _ => ∃ (p d : Addr) (R : Rcv) (S : MS) (ks : List (E3 × Addr)), vs = [.ref p] ∧ MAt C H p d R S ks ∧ MOk R S ∧ R.Ok ∧ ∀ q : Addr, H q = none → Q (.ref q) (upd H q (.lst ((keysN S.hs).map V.int)))
section
variable {P : Program} {w : World} {K : PySem.W.Frag} {mg : Str → Option Value} {base : Heap}
theorem ok_Merger_waits (T : Txt K mg) : FnOk P w K mg base CX0 1 T.f_Merger_waits T.fd_Merger_waits P_Merger_waits (spWaits T.C_Merger) := by
  refine T.F_Merger_waits.ok sc_Merger_waits (fun vs H Q E h => ?_) (fun cdv A outer s H vs Q E hr h => ?_)
  · obtain ⟨p, d, R, S, ks, rfl, _⟩ := h
    rfl
  · obtain ⟨p, d, R, S, ks, rfl, M, hM, hR, k⟩ := h
    refine ⟨_, ((pss_one (ps_ret (pe_callB (call_sortedDI rfl) (by rfl) T.z_sorted (by decide +kernel) (pa_cons (pe_fld (pv 0) rfl) pa_nil))))), ?_⟩
    obtain ⟨dx, hp⟩ := M.ob
    have heq := M.eq
    have hlen := hM.len hR
    refine ⟨_, rfl, p, _, dx, _, _, rfl, hp, T.cl_Merger, T.n_held, fl_held, d, _, S.hs.map (·.1), rfl, .inl M.dc, by rw [keys_ks, heq], by rw [List.length_map]; exact hlen, fun ys sl hperm hup hs => ?_⟩
    have hys : ys = keysN S.hs := sortI_eq hup hperm
    subst hys
    exact k sl hs
end
/-! ### the law's pairs -/
structure Ps (K : PySem.W.Frag) (C r l : Addr) (H : Hp) (qs : List (Addr × Pr)) : Prop where
  row : RowAt K r H
  lr : l ≠ r
  li : H l = some (.lst (qs.map fun x => V.ref x.1))
  tp : ∀ (i : Nat) (x : Addr × Pr), qs[i]? = some x → H x.1 = some (.tup [.ref x.2.m, .ref x.2.s])
  pr : ∀ (i : Nat) (x : Addr × Pr), qs[i]? = some x → PrAt C H x.2
  nr : ∀ (i : Nat) (x : Addr × Pr), qs[i]? = some x → ¬ PrFp x.2 r ∧ ¬ PrFp x.2 l
  dj : ∀ (i j : Nat) (x y : Addr × Pr), qs[i]? = some x → qs[j]? = some y → i ≠ j → ∀ b, PrFp x.2 b → ¬ PrFp y.2 b
theorem PrAt.same {C : Addr} {H H' : Hp} {q : Pr} (P : PrAt C H q) (s : Same H H') : PrAt C H' q := P.fr (Fr.same (fp := fun _ => False) s) (fun _ _ z => z) fun _ _ z => z.elim
theorem PrAt.kp {K : PySem.W.Frag} {C r : Addr} {H H' : Hp} {q : Pr} (P : PrAt C H q) (w : RowAt K r H) (n : ¬ PrFp q r) (k : Kp r H H') : PrAt C H' q := P.fr (Fr.kp (fp := fun b => b = r) k rfl) (fun b h z => n (z ▸ h)) fun b xs z e => by
  obtain ⟨ys, h⟩ := w.lst
  rw [z, h] at e
  cases e
theorem PrAt.nn {C : Addr} {H : Hp} {q : Pr} (P : PrAt C H q) {b : Addr} (h : PrFp q b) : H b ≠ none := fun z => by
  rcases P.kind h with ⟨_, _, _, e⟩ | ⟨_, e⟩ | ⟨_, e⟩ <;> (rw [z] at e; cases e)
section
variable {K : PySem.W.Frag} {C r l : Addr} {H H' : Hp} {qs : List (Addr × Pr)}
theorem Ps.same (S : Ps K C r l H qs) (s : Same H H') : Ps K C r l H' qs := ⟨S.row.same s, S.lr, s _ _ S.li, fun i x h => s _ _ (S.tp i x h), fun i x h => (S.pr i x h).same s, S.nr, S.dj⟩
theorem Ps.kp (S : Ps K C r l H qs) (w : RowAt K r H') (k : Kp r H H') : Ps K C r l H' qs := ⟨w, S.lr, k _ _ S.lr S.li, fun i x h => k.tup S.row (S.tp i x h), fun i x h => (S.pr i x h).kp S.row (S.nr i x h).1 k, S.nr, S.dj⟩
/-- a new pair -/
theorem Ps.add (S : Ps K C r l H qs) (s : Same H H') {t : Addr} {q : Pr} (hq : PrAt C H' q) (ht : H' t = some (.tup [.ref q.m, .ref q.s])) (nw : ∀ b, PrFp q b → H b = none) : Ps K C r l (upd H' l (.lst ((qs.map fun x => V.ref x.1) ++ [.ref t]))) (qs ++ [(t, q)]) := by
  have S' := S.same s
  have lH : H l ≠ none := by rw [S.li]; simp
  have rH : H r ≠ none := by
    obtain ⟨ys, h⟩ := S.row.lst
    rw [h]; simp
  have tl : ∀ {b : Addr} {xs : List V}, H' b = some (.tup xs) → b ≠ l := fun {b xs} e z => by
    rw [z, S'.li] at e
    cases e
  have cas : ∀ {i : Nat} {x : Addr × Pr}, (qs ++ [(t, q)])[i]? = some x → (qs[i]? = some x ∧ i < qs.length) ∨ (i = qs.length ∧ x = (t, q)) := fun {i x} h => by
    by_cases c : i < qs.length
    · rw [List.getElem?_append_left c] at h
      exact .inl ⟨h, c⟩
    · rw [List.getElem?_append_right (by omega)] at h
      obtain ⟨h1, h2⟩ := List.getElem?_eq_some_iff.mp h
      have h1' : i - qs.length < 1 := h1
      refine .inr ⟨by omega, ?_⟩
      rw [← h2]
      simp
  have prl : ∀ {q' : Pr}, PrAt C H' q' → ¬ PrFp q' l → PrAt C (upd H' l (.lst ((qs.map fun x => V.ref x.1) ++ [.ref t]))) q' := fun {q'} P n =>
    P.fr (fp := fun b => b = l) (fun b o nb _ e => by rw [upd_ne nb]; exact e) (fun b h z => n (z ▸ h)) fun b xs z e => tl e z
  refine ⟨S'.row.put S.lr S'.li, S.lr, by rw [upd_same, List.map_append]; rfl, fun i x h => ?_, fun i x h => ?_, fun i x h => ?_, fun i j x y hx hy n b hb hb2 => ?_⟩
  · rcases cas h with ⟨h, _⟩ | ⟨_, rfl⟩
    · have := S'.tp i x h
      rw [upd_ne (tl this)]
      exact this
    · rw [upd_ne (tl ht)]
      exact ht
  · rcases cas h with ⟨h, _⟩ | ⟨_, rfl⟩
    · exact prl (S'.pr i x h) (S.nr i x h).2
    · exact prl hq fun z => lH (nw _ z)
  · rcases cas h with ⟨h, _⟩ | ⟨_, rfl⟩
    · exact S.nr i x h
    · exact ⟨fun z => rH (nw _ z), fun z => lH (nw _ z)⟩
  · rcases cas hx with ⟨hx, _⟩ | ⟨e1, rfl⟩
    · rcases cas hy with ⟨hy, _⟩ | ⟨e2, rfl⟩
      · exact S.dj i j x y hx hy n b hb hb2
      · exact (S.pr i x hx).nn hb (nw b hb2)
    · rcases cas hy with ⟨hy, _⟩ | ⟨e2, rfl⟩
      · exact (S.pr j y hy).nn hb2 (nw b hb)
      · omega
/-- a deed of one pair -/
theorem Ps.deed (S : Ps K C r l H qs) {j : Nat} {t : Addr} {q q' : Pr} (hj : qs[j]? = some (t, q)) (em : q'.m = q.m) (es : q'.s = q.s) (P' : PrAt C H' q') (sub : ∀ b, PrFp q' b → PrFp q b ∨ H b = none) (fr : Fr (fun b => b = r ∨ PrFp q b) H H') (w : RowAt K r H') : Ps K C r l H' (qs.set j (t, q')) := by
  have jl : j < qs.length := (List.getElem?_eq_some_iff.mp hj).1
  have lH : H l ≠ none := by rw [S.li]; simp
  have rH : H r ≠ none := by
    obtain ⟨ys, h⟩ := S.row.lst
    rw [h]; simp
  have nq := S.nr j _ hj
  have Pq := S.pr j _ hj
  have kt : ∀ {b : Addr} {xs : List V}, H b = some (.tup xs) → H' b = some (.tup xs) := fun {b xs} e => fr b _ (fun z => by
    rcases z with z | z
    · obtain ⟨ys, h⟩ := S.row.lst
      rw [z, h] at e
      cases e
    · exact Pq.notup z e) (fun _ z => by cases z) e
  have cas : ∀ {i : Nat} {x : Addr × Pr}, (qs.set j (t, q'))[i]? = some x → (i ≠ j ∧ qs[i]? = some x) ∨ (i = j ∧ x = (t, q')) := fun {i x} h => by
    rw [List.getElem?_set] at h
    by_cases c : j = i
    · rw [if_pos c, if_pos jl] at h
      exact .inr ⟨c.symm, (Option.some.inj h).symm⟩
    · rw [if_neg c] at h
      exact .inl ⟨fun z => c z.symm, h⟩
  have mp : (qs.set j (t, q')).map (fun x => V.ref x.1) = qs.map fun x => V.ref x.1 := by
    rw [List.map_set]
    refine List.ext_getElem? fun i => ?_
    rw [List.getElem?_set]
    by_cases c : j = i
    · rw [if_pos c, List.length_map, if_pos jl, ← c, List.getElem?_map, hj]
      rfl
    · rw [if_neg c]
  refine ⟨w, S.lr, by rw [mp]; exact fr l _ (fun z => z.elim S.lr nq.2) (fun _ z => by cases z) S.li, fun i x h => ?_, fun i x h => ?_, fun i x h => ?_, fun i k x y hx hy n b hb hb2 => ?_⟩
  · rcases cas h with ⟨_, h⟩ | ⟨_, rfl⟩
    · exact kt (S.tp i x h)
    · rw [em, es]
      exact kt (S.tp j _ hj)
  · rcases cas h with ⟨n, h⟩ | ⟨_, rfl⟩
    · exact (S.pr i x h).fr fr (fun b hb z => by
        rcases z with z | z
        · exact (S.nr i x h).1 (z ▸ hb)
        · exact S.dj i j x _ h hj n b hb z) fun b xs z e => by
        rcases z with z | z
        · obtain ⟨ys, h⟩ := S.row.lst
          rw [z, h] at e
          cases e
        · exact Pq.notup z e
    · exact P'
  · rcases cas h with ⟨_, h⟩ | ⟨_, rfl⟩
    · exact S.nr i x h
    · exact ⟨fun z => (sub r z).elim nq.1 rH, fun z => (sub l z).elim nq.2 lH⟩
  · rcases cas hx with ⟨n1, hx⟩ | ⟨e1, rfl⟩
    · rcases cas hy with ⟨n2, hy⟩ | ⟨e2, rfl⟩
      · exact S.dj i k x y hx hy n b hb hb2
      · exact (sub b hb2).elim (S.dj i j x _ hx hj n1 b hb) ((S.pr i x hx).nn hb)
    · rcases cas hy with ⟨n2, hy⟩ | ⟨e2, rfl⟩
      · exact (sub b hb).elim (fun z => S.dj k j y _ hy hj n2 b hb2 z) ((S.pr k y hy).nn hb2)
      · exact n (e1.trans e2.symm)
end
section
variable {P : Program} {w : World} {K : PySem.W.Frag} {mg : Str → Option Value} {base : Heap}
theorem ok_law (T : Txt K mg) (TB : LamX.TabB base mg T.cd_Ldeed T.tb_Ldeed) : FnOk P w K mg base CX0 6 T.f_law T.fd_law P_law (spLawT K [(T.cd_Ldeed, T.tb_Ldeed)]) := by
  refine T.F_law.ok sc_law (fun vs H Q E h => ?_) (fun cdv A outer s H vs Q E hr h => ?_)
  · obtain ⟨a, ns, rfl, _⟩ := h
    rfl
  · obtain ⟨a, ns, rfl, hS, hTb, k⟩ := h
    refine ⟨_, ((pss_cons (ps_set (i := 1) sc_law.nd rfl (Or.inl rfl) (pe_lst (pa_cons (pv 0) (pa_cons pe_int (pa_cons pe_int pa_nil)))))
  (pss_cons (ps_set (i := 2) sc_law.nd rfl (Or.inl rfl) (pe_lst pa_nil))
  (pss_cons (ps_for PassesOwn.never rfl (pi_range1 (by rfl) T.z_range (pa_cons pe_int pa_nil)) (pg_name (i := 3) sc_law.nd rfl (Or.inl rfl))
  (pss_cons (ps_set (i := 4) sc_law.nd rfl (Or.inl rfl) (pe_call (ok_Lreceiver T) (hr.mono (by decide)) (by rfl) T.mg_Lreceiver T.kp_Lreceiver T.b_Lreceiver .nil pass0 (pa_cons (pv 1) (pa_cons (pe_call (ok_Lroads T) (hr.mono (by decide)) (by rfl) T.mg_Lroads T.kp_Lroads T.b_Lroads .nil pass0 (pa_cons (pv 1) pa_nil)) pa_nil))))
  (pss_one (ps_expr (pe_bm PySem.F.plainAttrs_list PySem.F.slot_list_append PySem.F.type_list_append mt_append (pv 2) (pa_cons (pe_tup (pa_cons (pe_make T.mk_Merger (ok_Merger_init T) (hr.mono (by decide)) (by rfl) T.mg_Merger T.b_Merger_init .nil pass0 (pa_cons (pv 4) pa_nil)) (pa_cons (pe_call (ok_Lfresh T) (hr.mono (by decide)) (by rfl) T.mg_Lfresh T.kp_Lfresh T.b_Lfresh .nil pass0 (pa_cons (pv 4) pa_nil)) pa_nil))) pa_nil))))))
  (pss_cons (ps_for PassesOwn.never rfl (pi_range1 (by rfl) T.z_range (pa_cons (pe_op op_add pe_int (pe_call (ok_Ltaken T) (hr.mono (by decide)) (by rfl) T.mg_Ltaken T.kp_Ltaken T.b_Ltaken .nil pass0 (pa_cons (pv 1) (pa_cons (pe_ix ix_list (pe_lst (pa_cons pe_int (pa_cons pe_int (pa_cons pe_int pa_nil)))) (pe_call (ok_Ltaken T) (hr.mono (by decide)) (by rfl) T.mg_Ltaken T.kp_Ltaken T.b_Ltaken .nil pass0 (pa_cons (pv 1) (pa_cons pe_int pa_nil))) (fun _ _ => rfl)) pa_nil)))) pa_nil)) (pg_name (i := 5) sc_law.nd rfl (Or.inl rfl))
  (pss_cons (ps_asg (pe_ix ix_list (pv 2) (pe_call (ok_Ltaken T) (hr.mono (by decide)) (by rfl) T.mg_Ltaken T.kp_Ltaken T.b_Ltaken .nil pass0 (pa_cons (pv 1) (pa_cons pe_int pa_nil))) (fun _ _ => rfl)) (pg_tup rfl (pgs_cons (pg_name (i := 6) sc_law.nd rfl (Or.inl rfl)) (pgs_cons (pg_name (i := 7) sc_law.nd rfl (Or.inl rfl)) pgs_nil))))
  (pss_cons (ps_if (pt_not (pt_val (pe_call (ok_Ldeed T TB) (hr.mono (by decide)) (by rfl) T.mg_Ldeed T.kp_Ldeed T.b_Ldeed .nil pass0 (pa_cons (pv 1) (pa_cons (pv 6) (pa_cons (pv 7) pa_nil)))))) (pss_one (ps_ret pe_bl)) pss_nil)
  (pss_one (ps_for PassesOwn.never rfl (pi_list (pv 2)) (pg_tup rfl (pgs_cons (pg_name (i := 8) sc_law.nd rfl (Or.inl rfl)) (pgs_cons (pg_name (i := 9) sc_law.nd rfl (Or.inl rfl)) pgs_nil)))
  (pss_cons (ps_set (i := 10) sc_law.nd rfl (Or.inl rfl) (pe_meth0 (pv 8) T.cl_Merger T.m_Merger_waits (ok_Merger_waits T) (hr.mono (by decide)) T.b_Merger_waits .nil pass0))
  (pss_cons (ps_if (pt_not (pt_val (pe_call (ok_Lalike T 3) (hr.mono (by decide)) (by rfl) T.mg_Lalike T.kp_Lalike T.b_Lalike .nil pass0 (pa_cons (pv 10) (pa_cons (pe_callB cr_sortedI (by rfl) T.z_sorted (by decide +kernel) (pa_cons (pe_lc (own := [("_law_held", 11)]) (g := gName 11) (tt := tYes) rfl sc_law.nd (pi_list (pe_dget (hu_of hr) (pv 9) pe_str (fun _ _ => rfl))) (blkOk_by (N := N_law) (sc := (defScope s_law)) (own := [("_law_held", 11)]) (by decide +kernel)) (fun _ _ _ _ _ => (pg_name (i := 11) sc_law.nd rfl (Or.inl rfl))) (fun _ _ _ _ _ => pts_nil) (fun _ _ _ _ _ => (pe_ix (ixK_list (K := K) rfl) (pv 11) pe_int (fun _ _ => rfl)))) pa_nil)) pa_nil))))) (pss_one (ps_ret pe_bl)) pss_nil)
  (pss_cons (ps_expr (pe_bm PySem.F.plainAttrs_list PySem.F.slot_list_append PySem.F.type_list_append mt_append (pv 10) (pa_cons pe_int pa_nil)))
  (pss_one (ps_if (pt_not (pt_val (pe_call (ok_Lalike T 3) (hr.mono (by decide)) (by rfl) T.mg_Lalike T.kp_Lalike T.b_Lalike .nil pass0 (pa_cons (pe_meth0 (pv 8) T.cl_Merger T.m_Merger_dropped (ok_Merger_dropped T) (hr.mono (by decide)) T.b_Merger_dropped .nil pass0) (pa_cons (pe_dget (hu_of hr) (pv 9) pe_str (fun _ _ => rfl)) pa_nil))))) (pss_one (ps_ret pe_bl)) pss_nil))))))))))
  (pss_one (ps_ret pe_bl))))))), ?_⟩
    have tb0 : LamX.Tabs [(T.tb_Ldeed, (("_law_deed" : Str) ++ (".<locals>." : Str)) ++ ("<lambda>" : Str))] H := fun p hp => by
      rw [List.mem_singleton.mp hp]
      exact LamX.TabS.nil (hTb _ (List.mem_singleton.mpr rfl))
    refine ⟨_, rfl, by show 3 ≤ sizeLine; decide, fun r hr0 => ?_⟩
    have row0 := RowAt.start hS hr0
    have tb1 := tabs_same tb0 (Same.upd_new (o := .lst [.ref a, .int 0, .int 0]) hr0)
    revert row0 tb1
    generalize (upd H r (.lst [.ref a, .int 0, .int 0])) = H0
    intro row0 tb1
    refine ⟨by show 0 ≤ sizeLine; decide, fun l hl => ?_⟩
    have lr := row0.ne hl
    have S0 : Ps K T.C_Merger r l (upd H0 l (.lst [])) [] := ⟨row0.new hl, lr, upd_same, (fun i x h => nomatch h), (fun i x h => nomatch h), (fun i x h => nomatch h), (fun i j x y h => nomatch h)⟩
    have tb2 := tabs_same tb1 (Same.upd_new (o := .lst []) hl)
    revert S0 tb2
    generalize (upd H0 l (.lst [])) = H1
    intro S0 tb2
    refine ⟨_, rfl, by decide, by decide, for_range (n := 2) (fun i σ H' => ∃ (v3 v4 : Option V) (qs : List (Addr × Pr)), σ = [some (.ref a), some (.ref r), some (.ref l), v3, v4, none, none, none, none, none, none, none] ∧ qs.length = i ∧ Ps K T.C_Merger r l H' qs ∧ (∀ x ∈ qs, x.2.S = newM) ∧ LamX.Tabs [(T.tb_Ldeed, (("_law_deed" : Str) ++ (".<locals>." : Str)) ++ ("<lambda>" : Str))] H')
      ⟨_, _, [], rfl, rfl, S0, fun x hx => absurd hx List.not_mem_nil, tb2⟩ ?_ ?_⟩
    · rintro i σ H2 hi ⟨v3, v4, qs, rfl, ql, S, hnew, tb⟩
      refine ⟨_, rfl, _, rfl, r, rfl, S.row, fun p D H3 hp hD _ row3 k3 => ⟨r, p, D, rfl, row3, hp, hD, fun rq R H4 _ hrq hR row4 k4 => ?_⟩⟩
      have S3 := S.kp row3 k3
      have S4 := S3.kp row4 k4
      have tb4 := tabs_kp (tabs_kp tb S.row k3) row3 k4
      refine ⟨_, rfl, .inl ⟨rfl, _, SqL.of S4.li⟩, _, rfl, fun x dx nx ndx nex => ⟨x, rq, dx, R, rfl, upd_same, ?_, hR, fun d H5 hd M k5 => ⟨rfl, _, rfl, rq, R, rfl, ?_, fun s h H6 hs hh L s6 => ⟨by show 2 ≤ sizeLine; decide, fun t ht => ?_⟩⟩⟩⟩
      · show (upd _ x _) rq = _
        rw [upd_ne (ne_of_none hrq nx), upd_ne (ne_of_none hrq ndx)]
        exact hrq
      · exact k5 _ _ (by rw [upd_ne (ne_of_none hrq nx), upd_ne (ne_of_none hrq ndx)]; exact hrq) (ne_of_none hrq nx)
      have s45 : Same H4 H5 := fun b o e => k5 b o (by rw [upd_ne (ne_of_none e nx), upd_ne (ne_of_none e ndx)]; exact e) (ne_of_none e nx)
      have s47 : Same H4 (upd H6 t (.tup [.ref x, .ref s])) := (s45.trans s6).new ht
      have hd4 : H4 d = none := by
        cases e : H4 d with
        | none => rfl
        | some o =>
          rw [upd_ne (ne_of_none e nx), upd_ne (ne_of_none e ndx), e] at hd
          cases hd
      have S7 := S4.same s47
      have PP : PrAt T.C_Merger (upd H6 t (.tup [.ref x, .ref s])) ⟨x, d, s, h, rq, R, newM, [], []⟩ := ⟨(M.same s6).new ht, L.new ht, newM_ok R, hR, ne_of_none M.dc hs, Int.le_refl _⟩
      have S8 := S4.add s47 PP (t := t) upd_same (fun b hb => by
        rcases hb with rfl | rfl | rfl | rfl | ⟨y, hy, _⟩
        · exact nx
        · exact hd4
        · exact s45.free hs
        · exact s45.free hh
        · exact absurd hy List.not_mem_nil)
      refine ⟨l, _, _, rfl, rfl, S7.li, small1000 (by rw [List.length_map]; omega), ?_⟩
      refine ⟨_, _, _, rfl, by rw [List.length_append, ql]; rfl, S8, fun y hy => ?_, ?_⟩
      · rcases List.mem_append.mp hy with hy | hy
        · exact hnew y hy
        · rw [List.mem_singleton.mp hy]
      · have t6 : Tw l l (upd H6 t (.tup [.ref x, .ref s])) (upd (upd H6 t (.tup [.ref x, .ref s])) l (.lst ((qs.map fun x => V.ref x.1) ++ [.ref t]))) := ⟨.inr (.inr ⟨_, S7.li⟩), .inr (.inr ⟨_, S7.li⟩), fun x o n _ e => by rw [upd_ne n]; exact e⟩
        exact t6.tabs (tabs_same tb4 s47)
    · rintro σ H2 ⟨v3, v4, qs, rfl, ql, S, hnew, tb⟩
      -- how many turns
      refine ⟨_, rfl, by show 3 ≤ sizeLine; decide, fun p2 hp2 => ?_⟩
      refine ⟨_, rfl, r, _, rfl, by decide, S.row.new hp2, fun j H3 j0 j1 row3 k3 => ?_⟩
      have hz : ∃ z ∈ [(60 : Int), 60, 400], atI ([(60 : Int), 60, 400].map V.int) j = some (.int z) := at_menu j0 j1
      obtain ⟨z, hm, hz⟩ := hz
      have hz400 : 0 < z ∧ z ≤ 400 := by
        simp only [List.mem_cons, List.not_mem_nil, or_false] at hm
        omega
      refine ⟨p2, _, _, _, rfl, rfl, SqL.of (k3 _ _ (S.row.ne hp2) upd_same), hz, ?_⟩
      have S3 := (S.same (Same.upd_new (o := .lst [.int 60, .int 60, .int 400]) hp2)).kp row3 k3
      have tb3 := tabs_kp (tabs_same tb (Same.upd_new (o := .lst [.int 60, .int 60, .int 400]) hp2)) (S.row.new hp2) k3
      refine ⟨r, _, rfl, hz400.1, row3, fun v H4 v0 v1 row4 k4 => ⟨_, _, rfl, rfl, ?_⟩⟩
      have S4 := S3.kp row4 k4
      have tb4 := tabs_kp tb3 row3 k4
      refine ⟨_, rfl, by omega, by omega, for_range (n := (1 + v).toNat) (fun i σ H' => ∃ (v3 v4 v5 v6 v7 v8 v9 v10 : Option V) (qs : List (Addr × Pr)), σ = [some (.ref a), some (.ref r), some (.ref l), v3, v4, v5, v6, v7, v8, v9, v10, none] ∧ qs.length = 2 ∧ Ps K T.C_Merger r l H' qs ∧ (∀ x ∈ qs, x.2.S.w ≤ 32 * (i : Int)) ∧ LamX.Tabs [(T.tb_Ldeed, (("_law_deed" : Str) ++ (".<locals>." : Str)) ++ ("<lambda>" : Str))] H')
        ⟨_, _, _, _, _, _, _, _, qs, rfl, ql, S4, fun x hx => by rw [hnew x hx]; decide, tb4⟩ ?_ ?_⟩
      · rintro i σ H5 hi ⟨v3, v4, v5, v6, v7, v8, v9, v10, qs, rfl, ql, S, hw, tb⟩
        refine ⟨_, rfl, _, rfl, r, _, rfl, by decide, S.row, fun j H6 j0 j1 row6 k6 => ?_⟩
        have S6 := S.kp row6 k6
        have tb6 := tabs_kp tb S.row k6
        obtain ⟨jn, rfl⟩ := Int.eq_ofNat_of_zero_le j0
        have jl : jn < qs.length := by omega
        obtain ⟨⟨t, q⟩, hj⟩ : ∃ x, qs[jn]? = some x := ⟨_, List.getElem?_eq_getElem jl⟩
        have hjm : (t, q) ∈ qs := List.mem_of_getElem? hj
        refine ⟨l, _, _, _, rfl, rfl, SqL.of S6.li, atI_nat (by rw [List.getElem?_map, hj]; rfl), ?_⟩
        refine ⟨t, _, rfl, SqT.of (S6.tp jn _ hj), rfl, _, _, rfl, _, _, rfl, rfl, ?_⟩
        have hwq := hw _ hjm
        refine ⟨_, rfl, _, rfl, _, rfl, r, q, rfl, row6, S6.pr jn _ hj, (S6.nr jn _ hj).1, by dsimp only at hwq ⊢; omega, tb6, fun q' H7 em _ es P' sub ww fr row7 tb7 => ⟨_, rfl, iteF ?_⟩⟩
        have S7 := S6.deed hj em es P' sub fr row7
        have hw7 : ∀ x ∈ qs.set jn (t, q'), x.2.S.w ≤ 32 * ((i + 1 : Nat) : Int) := fun x hx => by
          rcases List.mem_or_eq_of_mem_set hx with hx | rfl
          · have := hw x hx
            omega
          · dsimp only at hwq ⊢
            omega
        have ql7 : (qs.set jn (t, q')).length = 2 := by rw [List.length_set]; exact ql
        revert S7 hw7 ql7
        generalize qs.set jn (t, q') = qs7
        intro S7 hw7 ql7
        -- waits and dropped of both
        refine ⟨_, rfl, l, rfl, ⟨_, SqL.of S7.li⟩, for_list (K := K) (a := l) (xs := qs7.map fun x => V.ref x.1) (fun _ σ H' => ∃ (v3 v4 v5 v6 v7 v8 v9 v10 : Option V), σ = [some (.ref a), some (.ref r), some (.ref l), v3, v4, v5, v6, v7, v8, v9, v10, none] ∧ Ps K T.C_Merger r l H' qs7 ∧ LamX.Tabs [(T.tb_Ldeed, (("_law_deed" : Str) ++ (".<locals>." : Str)) ++ ("<lambda>" : Str))] H')
          ⟨_, _, _, _, _, _, _, _, rfl, S7, tb7⟩ (fun _ σ H' _ ⟨_, _, _, _, _, _, _, _, _, z, _⟩ => SqL.of z.li) ?_ ?_⟩
        · rintro n y σ H8 hy ⟨v3, v4, v5, v6, v7, v8, v9, v10, rfl, S8, tb8⟩
          rw [List.getElem?_map] at hy
          obtain ⟨x, hx, rfl⟩ := Option.map_eq_some_iff.mp hy
          have P8 := S8.pr n x hx
          obtain ⟨dx, hm⟩ := P8.M.ob
          refine ⟨x.1, _, rfl, SqT.of (S8.tp n x hx), rfl, _, _, rfl, _, _, rfl, rfl, ?_⟩
          refine ⟨_, rfl, x.2.m, dx, _, rfl, hm, fl_no (by decide +kernel), x.2.m, x.2.d, x.2.R, x.2.S, x.2.ks, rfl, P8.M, P8.ok, P8.rok, fun wq hwq => ?_⟩
          have s9 : Same H8 (upd H8 wq (.lst ((keysN x.2.S.hs).map V.int))) := Same.upd_new hwq
          have hq9 : (upd H8 wq (.lst ((keysN x.2.S.hs).map V.int))) wq = some (.lst ((keysN x.2.S.hs).map V.int)) := upd_same
          revert s9 hq9
          generalize (upd H8 wq (.lst ((keysN x.2.S.hs).map V.int))) = H9
          intro s9 hq9
          have P9 := P8.same s9
          have lsl : x.2.ls.length < 64 := by
            have := P9.ok.len P9.rok
            rw [← P9.L.eq, List.length_map] at this
            exact this
          refine ⟨_, rfl, _, rfl, x.2.s, _, rfl, P9.L.get lk_held, x.2.h, rfl, ⟨_, SqL.of P9.L.hd⟩, fun D2 hD2 => lc_fm (xs := x.2.ls) (r := fun x => V.ref x.2) (SqL.of P9.L.hd) hD2 (by omega) (fun _ => true) (fun x => V.int x.1.1) (fun y hy H' s' Z N hY hN => ?_) fun H10 s10 h10 => ?_⟩
          · exact ⟨rfl, lc_yes ⟨_, rfl, y.2, _, _, _, rfl, rfl, SqL.of ((P9.L.same s').en y hy), at0, hY rfl⟩⟩
          · have e2 : ((x.2.ls.filter fun _ => true).map fun x => V.int x.1.1) = (x.2.S.hs.map (·.1)).map V.int := by
              rw [List.filter_eq_self.mpr fun _ _ => rfl, ← P9.L.eq, List.map_map, List.map_map]
              rfl
            rw [e2] at h10
            refine ⟨D2, _, rfl, SqL.of h10, fun ns' p perm up hp => ?_⟩
            have hns : ns' = keysN x.2.S.hs := sortI_eq up perm
            subst hns
            have s11 : Same H9 (upd H10 p (.lst ((keysN x.2.S.hs).map V.int))) := s10.new hp
            have kl : (keysN x.2.S.hs).length ≤ 100 := by
              have := P9.ok.len P9.rok
              show (sortI _).length ≤ 100
              rw [(sortI_perm _).length_eq, List.length_map]
              omega
            refine ⟨_, _, rfl, lk_intL (n := 1) (s11 _ _ hq9) upd_same (by omega), fun H12 s12 => ⟨_, rfl, iteF ?_⟩⟩
            have s912 := s11.trans s12
            have hq12 := s912 _ _ hq9
            refine ⟨_, rfl, .inl ⟨rfl, _, SqL.of hq12⟩, wq, _, _, rfl, rfl, hq12, small1000 (by rw [List.length_map]; omega), ?_⟩
            have s13 : Same H8 (upd H12 wq (.lst ((keysN x.2.S.hs).map V.int ++ [.int 0]))) := (s9.trans s912).mut hwq
            revert s13
            generalize (upd H12 wq (.lst ((keysN x.2.S.hs).map V.int ++ [.int 0]))) = H13
            intro s13
            have P13 := P8.same s13
            obtain ⟨dx3, hm3⟩ := P13.M.ob
            refine ⟨_, rfl, x.2.m, dx3, _, rfl, hm3, fl_no (by decide +kernel), x.2.m, x.2.d, x.2.R, x.2.S, x.2.ks, rfl, P13.M, _, rfl, x.2.s, _, rfl, P13.L.get lk_dropped, _, _, rfl, .int _, fun H14 s14 => ⟨_, rfl, iteF ?_⟩⟩
            exact ⟨_, _, _, _, _, _, _, _, rfl, S8.same (s13.trans s14), tabs_same tb8 (s13.trans s14)⟩
        · rintro σ H8 ⟨v3, v4, v5, v6, v7, v8, v9, v10, rfl, S8, tb8⟩
          exact ⟨_, _, _, _, _, _, _, _, qs7, rfl, ql7, S8, hw7, tb8⟩
      · rintro σ H5 _
        exact k _
end
end Tp
namespace Tp
open PySem L2
theorem all_mk {l : PySem.W.OpenLaw} {w : World} {K : PySem.W.Frag} {h : Heap} {mg : Str → Option Value} {fa : Addr} (X : K.In h) (G : h.Ns mainGlobals mg) (hfa : mg "law" = some (.ref fa))
    {f0 : Addr} {od0 an0 : Option Addr} {sl0 : Array (Option Value)} {oc0 kV0 dc0 pm0 cd0 ct0 : Value}
    {f1 : Addr} {od1 an1 : Option Addr} {sl1 : Array (Option Value)} {oc1 kV1 dc1 pm1 cd1 ct1 : Value}
    {f2 : Addr} {od2 an2 : Option Addr} {sl2 : Array (Option Value)} {oc2 kV2 dc2 pm2 cd2 ct2 : Value}
    {f3 : Addr} {od3 an3 : Option Addr} {sl3 : Array (Option Value)} {oc3 kV3 dc3 pm3 cd3 ct3 : Value}
    {f4 : Addr} {od4 an4 : Option Addr} {sl4 : Array (Option Value)} {oc4 kV4 dc4 pm4 cd4 ct4 : Value}
    {f5 : Addr} {od5 an5 : Option Addr} {sl5 : Array (Option Value)} {oc5 kV5 dc5 pm5 cd5 ct5 : Value}
    {f6 : Addr} {od6 an6 : Option Addr} {sl6 : Array (Option Value)} {oc6 kV6 dc6 pm6 cd6 ct6 : Value}
    {f7 : Addr} {od7 an7 : Option Addr} {sl7 : Array (Option Value)} {oc7 kV7 dc7 pm7 cd7 ct7 : Value}
    {f8 : Addr} {od8 an8 : Option Addr} {sl8 : Array (Option Value)} {oc8 kV8 dc8 pm8 cd8 ct8 : Value}
    {f9 : Addr} {od9 an9 : Option Addr} {sl9 : Array (Option Value)} {oc9 kV9 dc9 pm9 cd9 ct9 : Value}
    {f10 : Addr} {od10 an10 : Option Addr} {sl10 : Array (Option Value)} {oc10 kV10 dc10 pm10 cd10 ct10 : Value}
    {f11 : Addr} {od11 an11 : Option Addr} {sl11 : Array (Option Value)} {oc11 kV11 dc11 pm11 cd11 ct11 : Value}
    {f12 : Addr} {od12 an12 : Option Addr} {sl12 : Array (Option Value)} {oc12 kV12 dc12 pm12 cd12 ct12 : Value}
    {t_MOST_MARKS : Tok}
    {t_MOST_WAIT : Tok}
    {C_Merger : Addr}
    {C_RoadError : Addr}
    {C_BadRoads : Addr}
    {C_BadReceiver : Addr}
    {C_BadRows : Addr}
    {C_BadMark : Addr}
    {C_BadText : Addr}
    {cd_Ldeed tb_Ldeed : Addr} {ce_Ldeed : Value} {co_Ldeed : Option Addr} {cv_Ldeed : Array Value} {cs_Ldeed : Array (Option Value)}
    {fm0 : Addr} {odm0 anm0 : Option Addr} {slm0 : Array (Option Value)} {ocm0 kVm0 dcm0 pmm0 cdm0 ctm0 : Value}
    {fm1 : Addr} {odm1 anm1 : Option Addr} {slm1 : Array (Option Value)} {ocm1 kVm1 dcm1 pmm1 cdm1 ctm1 : Value}
    {fm2 : Addr} {odm2 anm2 : Option Addr} {slm2 : Array (Option Value)} {ocm2 kVm2 dcm2 pmm2 cdm2 ctm2 : Value}
    {fm3 : Addr} {odm3 anm3 : Option Addr} {slm3 : Array (Option Value)} {ocm3 kVm3 dcm3 pmm3 cdm3 ctm3 : Value}
    {fm4 : Addr} {odm4 anm4 : Option Addr} {slm4 : Array (Option Value)} {ocm4 kVm4 dcm4 pmm4 cdm4 ctm4 : Value}
    {fm5 : Addr} {odm5 anm5 : Option Addr} {slm5 : Array (Option Value)} {ocm5 kVm5 dcm5 pmm5 cdm5 ctm5 : Value}
    {fm6 : Addr} {odm6 anm6 : Option Addr} {slm6 : Array (Option Value)} {ocm6 kVm6 dcm6 pmm6 cdm6 ctm6 : Value}
    (a0 : PySem.W.nsIn K mainGlobals "need_receiver" = some (some (.ref f0))) (l0 : K.lookup f0 = some ⟨oc0, od0, .func (PySem.W.fnOf "need_receiver" "need_receiver" (defArgs s_need_receiver) (defBody s_need_receiver) (defScope s_need_receiver) .none kV0 dc0 pm0 an0 cd0 ct0), sl0⟩) (c0 : PySem.W.codeIn K cd0 "need_receiver" = true) (k0 : PySem.W.keepIn K (.ref f0) = true)
    (a1 : PySem.W.nsIn K mainGlobals "_law_taken" = some (some (.ref f1))) (l1 : K.lookup f1 = some ⟨oc1, od1, .func (PySem.W.fnOf "_law_taken" "_law_taken" (defArgs s_Ltaken) (defBody s_Ltaken) (defScope s_Ltaken) .none kV1 dc1 pm1 an1 cd1 ct1), sl1⟩) (c1 : PySem.W.codeIn K cd1 "_law_taken" = true) (k1 : PySem.W.keepIn K (.ref f1) = true)
    (a2 : PySem.W.nsIn K mainGlobals "_law_alike" = some (some (.ref f2))) (l2 : K.lookup f2 = some ⟨oc2, od2, .func (PySem.W.fnOf "_law_alike" "_law_alike" (defArgs s_Lalike) (defBody s_Lalike) (defScope s_Lalike) .none kV2 dc2 pm2 an2 cd2 ct2), sl2⟩) (c2 : PySem.W.codeIn K cd2 "_law_alike" = true) (k2 : PySem.W.keepIn K (.ref f2) = true)
    (a3 : PySem.W.nsIn K mainGlobals "_law_roads" = some (some (.ref f3))) (l3 : K.lookup f3 = some ⟨oc3, od3, .func (PySem.W.fnOf "_law_roads" "_law_roads" (defArgs s_Lroads) (defBody s_Lroads) (defScope s_Lroads) .none kV3 dc3 pm3 an3 cd3 ct3), sl3⟩) (c3 : PySem.W.codeIn K cd3 "_law_roads" = true) (k3 : PySem.W.keepIn K (.ref f3) = true)
    (a4 : PySem.W.nsIn K mainGlobals "_law_spread" = some (some (.ref f4))) (l4 : K.lookup f4 = some ⟨oc4, od4, .func (PySem.W.fnOf "_law_spread" "_law_spread" (defArgs s_Lspread) (defBody s_Lspread) (defScope s_Lspread) .none kV4 dc4 pm4 an4 cd4 ct4), sl4⟩) (c4 : PySem.W.codeIn K cd4 "_law_spread" = true) (k4 : PySem.W.keepIn K (.ref f4) = true)
    (a5 : PySem.W.nsIn K mainGlobals "_law_receiver" = some (some (.ref f5))) (l5 : K.lookup f5 = some ⟨oc5, od5, .func (PySem.W.fnOf "_law_receiver" "_law_receiver" (defArgs s_Lreceiver) (defBody s_Lreceiver) (defScope s_Lreceiver) .none kV5 dc5 pm5 an5 cd5 ct5), sl5⟩) (c5 : PySem.W.codeIn K cd5 "_law_receiver" = true) (k5 : PySem.W.keepIn K (.ref f5) = true)
    (a6 : PySem.W.nsIn K mainGlobals "_law_fresh" = some (some (.ref f6))) (l6 : K.lookup f6 = some ⟨oc6, od6, .func (PySem.W.fnOf "_law_fresh" "_law_fresh" (defArgs s_Lfresh) (defBody s_Lfresh) (defScope s_Lfresh) .none kV6 dc6 pm6 an6 cd6 ct6), sl6⟩) (c6 : PySem.W.codeIn K cd6 "_law_fresh" = true) (k6 : PySem.W.keepIn K (.ref f6) = true)
    (a7 : PySem.W.nsIn K mainGlobals "_law_goes" = some (some (.ref f7))) (l7 : K.lookup f7 = some ⟨oc7, od7, .func (PySem.W.fnOf "_law_goes" "_law_goes" (defArgs s_Lgoes) (defBody s_Lgoes) (defScope s_Lgoes) .none kV7 dc7 pm7 an7 cd7 ct7), sl7⟩) (c7 : PySem.W.codeIn K cd7 "_law_goes" = true) (k7 : PySem.W.keepIn K (.ref f7) = true)
    (a8 : PySem.W.nsIn K mainGlobals "_law_come" = some (some (.ref f8))) (l8 : K.lookup f8 = some ⟨oc8, od8, .func (PySem.W.fnOf "_law_come" "_law_come" (defArgs s_Lcome) (defBody s_Lcome) (defScope s_Lcome) .none kV8 dc8 pm8 an8 cd8 ct8), sl8⟩) (c8 : PySem.W.codeIn K cd8 "_law_come" = true) (k8 : PySem.W.keepIn K (.ref f8) = true)
    (a9 : PySem.W.nsIn K mainGlobals "_law_close" = some (some (.ref f9))) (l9 : K.lookup f9 = some ⟨oc9, od9, .func (PySem.W.fnOf "_law_close" "_law_close" (defArgs s_Lclose) (defBody s_Lclose) (defScope s_Lclose) .none kV9 dc9 pm9 an9 cd9 ct9), sl9⟩) (c9 : PySem.W.codeIn K cd9 "_law_close" = true) (k9 : PySem.W.keepIn K (.ref f9) = true)
    (a10 : PySem.W.nsIn K mainGlobals "_law_word" = some (some (.ref f10))) (l10 : K.lookup f10 = some ⟨oc10, od10, .func (PySem.W.fnOf "_law_word" "_law_word" (defArgs s_Lword) (defBody s_Lword) (defScope s_Lword) .none kV10 dc10 pm10 an10 cd10 ct10), sl10⟩) (c10 : PySem.W.codeIn K cd10 "_law_word" = true) (k10 : PySem.W.keepIn K (.ref f10) = true)
    (a11 : PySem.W.nsIn K mainGlobals "_law_deed" = some (some (.ref f11))) (l11 : K.lookup f11 = some ⟨oc11, od11, .func (PySem.W.fnOf "_law_deed" "_law_deed" (defArgs s_Ldeed) (defBody s_Ldeed) (defScope s_Ldeed) .none kV11 dc11 pm11 an11 cd11 ct11), sl11⟩) (c11 : PySem.W.codeIn K cd11 "_law_deed" = true) (k11 : PySem.W.keepIn K (.ref f11) = true)
    (a12 : PySem.W.nsIn K mainGlobals "law" = some (some (.ref f12))) (l12 : K.lookup f12 = some ⟨oc12, od12, .func (PySem.W.fnOf "law" "law" (defArgs s_law) (defBody s_law) (defScope s_law) .none kV12 dc12 pm12 an12 cd12 ct12), sl12⟩) (c12 : PySem.W.codeIn K cd12 "law" = true) (k12 : PySem.W.keepIn K (.ref f12) = true)
    (aC_Merger : PySem.W.nsIn K mainGlobals "Merger" = some (some (.ref C_Merger))) (pg_Merger : PySem.W.plainGet K C_Merger Str.empty = true) (hd_Merger : PySem.W.hasDictIn K C_Merger = true) (po_Merger : PySem.W.plainOver K C_Merger = true) (sa_Merger : PySem.W.findIn K (.ref C_Merger) "__setattr__" = some (some (.builtin "object.__setattr__"))) (mi_Merger : PySem.W.makesIn K C_Merger = true) (kc_Merger : PySem.W.keepIn K (.ref C_Merger) = true)
    (n_following : PySem.W.findIn K (.ref C_Merger) "following" = some none)
    (n_held : PySem.W.findIn K (.ref C_Merger) "held" = some none)
    (n_clock : PySem.W.findIn K (.ref C_Merger) "clock" = some none)
    (n_old : PySem.W.findIn K (.ref C_Merger) "old" = some none)
    (n_marks : PySem.W.findIn K (.ref C_Merger) "marks" = some none)
    (n_ahead : PySem.W.findIn K (.ref C_Merger) "ahead" = some none)
    (n_wait : PySem.W.findIn K (.ref C_Merger) "wait" = some none)
    (am0 : PySem.W.findIn K (.ref C_Merger) "__init__" = some (some (.ref fm0))) (im0 : PySem.W.isFn K (.ref fm0) = true) (lm0 : K.lookup fm0 = some ⟨ocm0, odm0, .func (PySem.W.fnOf "__init__" "Merger.__init__" (defArgs s_Merger_init) (defBody s_Merger_init) (defScope s_Merger_init) .none kVm0 dcm0 pmm0 anm0 cdm0 ctm0), slm0⟩) (cm0 : PySem.W.codeIn K cdm0 "Merger.__init__" = true) (km0 : PySem.W.keepIn K (.ref fm0) = true)
    (am1 : PySem.W.findIn K (.ref C_Merger) "come" = some (some (.ref fm1))) (im1 : PySem.W.isFn K (.ref fm1) = true) (lm1 : K.lookup fm1 = some ⟨ocm1, odm1, .func (PySem.W.fnOf "come" "Merger.come" (defArgs s_Merger_come) (defBody s_Merger_come) (defScope s_Merger_come) .none kVm1 dcm1 pmm1 anm1 cdm1 ctm1), slm1⟩) (cm1 : PySem.W.codeIn K cdm1 "Merger.come" = true) (km1 : PySem.W.keepIn K (.ref fm1) = true)
    (am2 : PySem.W.findIn K (.ref C_Merger) "go_out" = some (some (.ref fm2))) (im2 : PySem.W.isFn K (.ref fm2) = true) (lm2 : K.lookup fm2 = some ⟨ocm2, odm2, .func (PySem.W.fnOf "go_out" "Merger.go_out" (defArgs s_Merger_go_out) (defBody s_Merger_go_out) (defScope s_Merger_go_out) .none kVm2 dcm2 pmm2 anm2 cdm2 ctm2), slm2⟩) (cm2 : PySem.W.codeIn K cdm2 "Merger.go_out" = true) (km2 : PySem.W.keepIn K (.ref fm2) = true)
    (am3 : PySem.W.findIn K (.ref C_Merger) "close" = some (some (.ref fm3))) (im3 : PySem.W.isFn K (.ref fm3) = true) (lm3 : K.lookup fm3 = some ⟨ocm3, odm3, .func (PySem.W.fnOf "close" "Merger.close" (defArgs s_Merger_close) (defBody s_Merger_close) (defScope s_Merger_close) .none kVm3 dcm3 pmm3 anm3 cdm3 ctm3), slm3⟩) (cm3 : PySem.W.codeIn K cdm3 "Merger.close" = true) (km3 : PySem.W.keepIn K (.ref fm3) = true)
    (am4 : PySem.W.findIn K (.ref C_Merger) "is_wanted" = some (some (.ref fm4))) (im4 : PySem.W.isFn K (.ref fm4) = true) (lm4 : K.lookup fm4 = some ⟨ocm4, odm4, .func (PySem.W.fnOf "is_wanted" "Merger.is_wanted" (defArgs s_Merger_is_wanted) (defBody s_Merger_is_wanted) (defScope s_Merger_is_wanted) .none kVm4 dcm4 pmm4 anm4 cdm4 ctm4), slm4⟩) (cm4 : PySem.W.codeIn K cdm4 "Merger.is_wanted" = true) (km4 : PySem.W.keepIn K (.ref fm4) = true)
    (am5 : PySem.W.findIn K (.ref C_Merger) "waits" = some (some (.ref fm5))) (im5 : PySem.W.isFn K (.ref fm5) = true) (lm5 : K.lookup fm5 = some ⟨ocm5, odm5, .func (PySem.W.fnOf "waits" "Merger.waits" (defArgs s_Merger_waits) (defBody s_Merger_waits) (defScope s_Merger_waits) .none kVm5 dcm5 pmm5 anm5 cdm5 ctm5), slm5⟩) (cm5 : PySem.W.codeIn K cdm5 "Merger.waits" = true) (km5 : PySem.W.keepIn K (.ref fm5) = true)
    (am6 : PySem.W.findIn K (.ref C_Merger) "dropped" = some (some (.ref fm6))) (im6 : PySem.W.isFn K (.ref fm6) = true) (lm6 : K.lookup fm6 = some ⟨ocm6, odm6, .func (PySem.W.fnOf "dropped" "Merger.dropped" (defArgs s_Merger_dropped) (defBody s_Merger_dropped) (defScope s_Merger_dropped) .none kVm6 dcm6 pmm6 anm6 cdm6 ctm6), slm6⟩) (cm6 : PySem.W.codeIn K cdm6 "Merger.dropped" = true) (km6 : PySem.W.keepIn K (.ref fm6) = true)
    (g_MOST_MARKS : PySem.W.nsIn K mainGlobals "MOST_MARKS" = some (some (.int 32 t_MOST_MARKS)))
    (g_MOST_WAIT : PySem.W.nsIn K mainGlobals "MOST_WAIT" = some (some (.int 20 t_MOST_WAIT)))
    (z_ValueError : PySem.W.nsIn K mainGlobals "ValueError" = some none)
    (z_bool : PySem.W.nsIn K mainGlobals "bool" = some none)
    (z_int : PySem.W.nsIn K mainGlobals "int" = some none)
    (z_isinstance : PySem.W.nsIn K mainGlobals "isinstance" = some none)
    (z_len : PySem.W.nsIn K mainGlobals "len" = some none)
    (z_list : PySem.W.nsIn K mainGlobals "list" = some none)
    (z_max : PySem.W.nsIn K mainGlobals "max" = some none)
    (z_min : PySem.W.nsIn K mainGlobals "min" = some none)
    (z_range : PySem.W.nsIn K mainGlobals "range" = some none)
    (z_sorted : PySem.W.nsIn K mainGlobals "sorted" = some none)
    (z_str : PySem.W.nsIn K mainGlobals "str" = some none)
    (z_tuple : PySem.W.nsIn K mainGlobals "tuple" = some none)
    (aC_RoadError : PySem.W.nsIn K mainGlobals "RoadError" = some (some (.ref C_RoadError))) (kc_RoadError : PySem.W.keepIn K (.ref C_RoadError) = true) (ex_RoadError : PySem.W.subIn K (.ref C_RoadError) (.type "BaseException") = some true) (ty_RoadError : PySem.W.typeIn K (.ref C_RoadError) = some (.type "type")) (hd_RoadError : PySem.W.hasDictIn K C_RoadError = true)
    (aC_BadRoads : PySem.W.nsIn K mainGlobals "BadRoads" = some (some (.ref C_BadRoads))) (kc_BadRoads : PySem.W.keepIn K (.ref C_BadRoads) = true) (ex_BadRoads : PySem.W.subIn K (.ref C_BadRoads) (.type "BaseException") = some true) (ty_BadRoads : PySem.W.typeIn K (.ref C_BadRoads) = some (.type "type")) (hd_BadRoads : PySem.W.hasDictIn K C_BadRoads = true)
    (aC_BadReceiver : PySem.W.nsIn K mainGlobals "BadReceiver" = some (some (.ref C_BadReceiver))) (kc_BadReceiver : PySem.W.keepIn K (.ref C_BadReceiver) = true) (ex_BadReceiver : PySem.W.subIn K (.ref C_BadReceiver) (.type "BaseException") = some true) (ty_BadReceiver : PySem.W.typeIn K (.ref C_BadReceiver) = some (.type "type")) (hd_BadReceiver : PySem.W.hasDictIn K C_BadReceiver = true)
    (aC_BadRows : PySem.W.nsIn K mainGlobals "BadRows" = some (some (.ref C_BadRows))) (kc_BadRows : PySem.W.keepIn K (.ref C_BadRows) = true) (ex_BadRows : PySem.W.subIn K (.ref C_BadRows) (.type "BaseException") = some true) (ty_BadRows : PySem.W.typeIn K (.ref C_BadRows) = some (.type "type")) (hd_BadRows : PySem.W.hasDictIn K C_BadRows = true)
    (aC_BadMark : PySem.W.nsIn K mainGlobals "BadMark" = some (some (.ref C_BadMark))) (kc_BadMark : PySem.W.keepIn K (.ref C_BadMark) = true) (ex_BadMark : PySem.W.subIn K (.ref C_BadMark) (.type "BaseException") = some true) (ty_BadMark : PySem.W.typeIn K (.ref C_BadMark) = some (.type "type")) (hd_BadMark : PySem.W.hasDictIn K C_BadMark = true)
    (aC_BadText : PySem.W.nsIn K mainGlobals "BadText" = some (some (.ref C_BadText))) (kc_BadText : PySem.W.keepIn K (.ref C_BadText) = true) (ex_BadText : PySem.W.subIn K (.ref C_BadText) (.type "BaseException") = some true) (ty_BadText : PySem.W.typeIn K (.ref C_BadText) = some (.type "type")) (hd_BadText : PySem.W.hasDictIn K C_BadText = true)
    (xg_BadMark : PySem.W.findIn K (.ref C_BadMark) "__getattribute__" = some (some (.builtin "BaseException.__getattribute__")))
    (xk_BadMark : PySem.W.findIn K (.ref C_BadMark) "__getattr__" = some none)
    (xa_BadMark : PySem.W.findIn K (.ref C_BadMark) "__class__" = some (some (.builtin "object.__class__")))
    (xn_BadMark : PySem.W.specialIn K (.builtin "object.__class__") "__get__" = some (some (.builtin "getset_descriptor.__get__")))
    (xt_BadMark : PySem.W.takesIn K (.builtin "object.__class__") = some true)
    (xm_BadMark : PySem.W.mroIn K C_BadMark (.type "object") = some true)
    (i_BadMark_BadMark : PySem.W.kitOne K (.ref C_BadMark) (.ref C_BadMark) = some true)
    (i_BadMark_BadReceiver : PySem.W.kitOne K (.ref C_BadMark) (.ref C_BadReceiver) = some false)
    (i_BadMark_BadRoads : PySem.W.kitOne K (.ref C_BadMark) (.ref C_BadRoads) = some false)
    (i_BadMark_BadRows : PySem.W.kitOne K (.ref C_BadMark) (.ref C_BadRows) = some false)
    (i_BadMark_BadText : PySem.W.kitOne K (.ref C_BadMark) (.ref C_BadText) = some false)
    (i_BadMark_VE : PySem.W.kitOne K (.ref C_BadMark) (.type "ValueError") = some true)
    (m_BadMark : PySem.W.exmOne K (.ref C_BadMark) (.ref C_RoadError) = some true)
    (q_BadMark : PySem.W.excIn K C_BadMark [.type "ValueError", .type "Exception", .type "BaseException", .type "object"] "ValueError.__new__" = true)
    (hc_Ldeed : cd11 = .ref cd_Ldeed) (hk_Ldeed : K.lookup cd_Ldeed = some ⟨ce_Ldeed, co_Ldeed, .fields cv_Ldeed, cs_Ldeed⟩) (hv_Ldeed : cv_Ldeed[11]? = some (.ref tb_Ldeed)) (nt_Ldeed : K.lookup tb_Ldeed = none)
    : ∃ (fd : FuncData) (cs : List (Addr × Addr)), (∀ (s : Shared) (v : Value), BindsTo s fd ⟨[v], []⟩ [("_law_script", v)]) ∧ (∀ p ∈ cs, ∃ x ∈ (["_law_deed"] : List Str), PySem.W.tabIn K x = some p) ∧ (∀ p ∈ cs, K.lookup p.2 = none) ∧ ∀ base : Heap, K.In base → base.Ns mainGlobals mg → (∀ p ∈ cs, LamX.TabB base mg p.1 p.2) → FnOk l.prog w K mg base CX0 6 fa fd ["_law_script"] (spLawT K cs) := by
  have e := hfa.symm.trans (PySem.W.mg_of X G a12)
  cases e
  have F0 := fun_mk (st := s_need_receiver) l0 c0 k0
  have b0 := F0.binds (ps := P_need_receiver) fun _ _ _ _ _ _ us hl => match us, hl with | [_], _ => rfl
  have F1 := fun_mk (st := s_Ltaken) l1 c1 k1
  have b1 := F1.binds (ps := P_Ltaken) fun _ _ _ _ _ _ us hl => match us, hl with | [_, _], _ => rfl
  have F2 := fun_mk (st := s_Lalike) l2 c2 k2
  have b2 := F2.binds (ps := P_Lalike) fun _ _ _ _ _ _ us hl => match us, hl with | [_, _], _ => rfl
  have F3 := fun_mk (st := s_Lroads) l3 c3 k3
  have b3 := F3.binds (ps := P_Lroads) fun _ _ _ _ _ _ us hl => match us, hl with | [_], _ => rfl
  have F4 := fun_mk (st := s_Lspread) l4 c4 k4
  have b4 := F4.binds (ps := P_Lspread) fun _ _ _ _ _ _ us hl => match us, hl with | [_], _ => rfl
  have F5 := fun_mk (st := s_Lreceiver) l5 c5 k5
  have b5 := F5.binds (ps := P_Lreceiver) fun _ _ _ _ _ _ us hl => match us, hl with | [_, _], _ => rfl
  have F6 := fun_mk (st := s_Lfresh) l6 c6 k6
  have b6 := F6.binds (ps := P_Lfresh) fun _ _ _ _ _ _ us hl => match us, hl with | [_], _ => rfl
  have F7 := fun_mk (st := s_Lgoes) l7 c7 k7
  have b7 := F7.binds (ps := P_Lgoes) fun _ _ _ _ _ _ us hl => match us, hl with | [_], _ => rfl
  have F8 := fun_mk (st := s_Lcome) l8 c8 k8
  have b8 := F8.binds (ps := P_Lcome) fun _ _ _ _ _ _ us hl => match us, hl with | [_, _, _], _ => rfl
  have F9 := fun_mk (st := s_Lclose) l9 c9 k9
  have b9 := F9.binds (ps := P_Lclose) fun _ _ _ _ _ _ us hl => match us, hl with | [_], _ => rfl
  have F10 := fun_mk (st := s_Lword) l10 c10 k10
  have b10 := F10.binds (ps := P_Lword) fun _ _ _ _ _ _ us hl => match us, hl with | [_], _ => rfl
  have F11 := fun_mk (st := s_Ldeed) l11 c11 k11
  have b11 := F11.binds (ps := P_Ldeed) fun _ _ _ _ _ _ us hl => match us, hl with | [_, _, _], _ => rfl
  have F12 := fun_mk (st := s_law) l12 c12 k12
  have b12 := F12.binds (ps := P_law) fun _ _ _ _ _ _ us hl => match us, hl with | [_], _ => rfl
  have Fm0 := fun_mk (st := s_Merger_init) lm0 cm0 km0
  have bm0 := Fm0.binds (ps := P_Merger_init) fun _ _ _ _ _ _ us hl => match us, hl with | [_, _], _ => rfl
  have Fm1 := fun_mk (st := s_Merger_come) lm1 cm1 km1
  have bm1 := Fm1.binds (ps := P_Merger_come) fun _ _ _ _ _ _ us hl => match us, hl with | [_, _, _], _ => rfl
  have Fm2 := fun_mk (st := s_Merger_go_out) lm2 cm2 km2
  have bm2 := Fm2.binds (ps := P_Merger_go_out) fun _ _ _ _ _ _ us hl => match us, hl with | [_], _ => rfl
  have Fm3 := fun_mk (st := s_Merger_close) lm3 cm3 km3
  have bm3 := Fm3.binds (ps := P_Merger_close) fun _ _ _ _ _ _ us hl => match us, hl with | [_], _ => rfl
  have Fm4 := fun_mk (st := s_Merger_is_wanted) lm4 cm4 km4
  have bm4 := Fm4.binds (ps := P_Merger_is_wanted) fun _ _ _ _ _ _ us hl => match us, hl with | [_, _], _ => rfl
  have Fm5 := fun_mk (st := s_Merger_waits) lm5 cm5 km5
  have bm5 := Fm5.binds (ps := P_Merger_waits) fun _ _ _ _ _ _ us hl => match us, hl with | [_], _ => rfl
  have Fm6 := fun_mk (st := s_Merger_dropped) lm6 cm6 km6
  have bm6 := Fm6.binds (ps := P_Merger_dropped) fun _ _ _ _ _ _ us hl => match us, hl with | [_], _ => rfl
  let T : Txt K mg := {
    C_Merger := C_Merger, cl_Merger := ⟨pg_Merger, hd_Merger, po_Merger, sa_Merger⟩, mg_Merger := PySem.W.mg_of X G aC_Merger,
    n_following := n_following,
    n_held := n_held,
    n_clock := n_clock,
    n_old := n_old,
    n_marks := n_marks,
    n_ahead := n_ahead,
    n_wait := n_wait,
    f_Merger_init := fm0, fd_Merger_init := _, F_Merger_init := Fm0, b_Merger_init := bm0, mk_Merger := ⟨mi_Merger, am0, im0, kc_Merger⟩,
    f_Merger_come := fm1, fd_Merger_come := _, F_Merger_come := Fm1, b_Merger_come := bm1, m_Merger_come := ⟨am1, im1, km1⟩,
    f_Merger_go_out := fm2, fd_Merger_go_out := _, F_Merger_go_out := Fm2, b_Merger_go_out := bm2, m_Merger_go_out := ⟨am2, im2, km2⟩,
    f_Merger_close := fm3, fd_Merger_close := _, F_Merger_close := Fm3, b_Merger_close := bm3, m_Merger_close := ⟨am3, im3, km3⟩,
    f_Merger_is_wanted := fm4, fd_Merger_is_wanted := _, F_Merger_is_wanted := Fm4, b_Merger_is_wanted := bm4, m_Merger_is_wanted := ⟨am4, im4, km4⟩,
    f_Merger_waits := fm5, fd_Merger_waits := _, F_Merger_waits := Fm5, b_Merger_waits := bm5, m_Merger_waits := ⟨am5, im5, km5⟩,
    f_Merger_dropped := fm6, fd_Merger_dropped := _, F_Merger_dropped := Fm6, b_Merger_dropped := bm6, m_Merger_dropped := ⟨am6, im6, km6⟩,
    f_need_receiver := _, fd_need_receiver := _, F_need_receiver := F0, mg_need_receiver := PySem.W.mg_of X G a0, kp_need_receiver := k0, b_need_receiver := b0,
    f_Ltaken := _, fd_Ltaken := _, F_Ltaken := F1, mg_Ltaken := PySem.W.mg_of X G a1, kp_Ltaken := k1, b_Ltaken := b1,
    f_Lalike := _, fd_Lalike := _, F_Lalike := F2, mg_Lalike := PySem.W.mg_of X G a2, kp_Lalike := k2, b_Lalike := b2,
    f_Lroads := _, fd_Lroads := _, F_Lroads := F3, mg_Lroads := PySem.W.mg_of X G a3, kp_Lroads := k3, b_Lroads := b3,
    f_Lspread := _, fd_Lspread := _, F_Lspread := F4, mg_Lspread := PySem.W.mg_of X G a4, kp_Lspread := k4, b_Lspread := b4,
    f_Lreceiver := _, fd_Lreceiver := _, F_Lreceiver := F5, mg_Lreceiver := PySem.W.mg_of X G a5, kp_Lreceiver := k5, b_Lreceiver := b5,
    f_Lfresh := _, fd_Lfresh := _, F_Lfresh := F6, mg_Lfresh := PySem.W.mg_of X G a6, kp_Lfresh := k6, b_Lfresh := b6,
    f_Lgoes := _, fd_Lgoes := _, F_Lgoes := F7, mg_Lgoes := PySem.W.mg_of X G a7, kp_Lgoes := k7, b_Lgoes := b7,
    f_Lcome := _, fd_Lcome := _, F_Lcome := F8, mg_Lcome := PySem.W.mg_of X G a8, kp_Lcome := k8, b_Lcome := b8,
    f_Lclose := _, fd_Lclose := _, F_Lclose := F9, mg_Lclose := PySem.W.mg_of X G a9, kp_Lclose := k9, b_Lclose := b9,
    f_Lword := _, fd_Lword := _, F_Lword := F10, mg_Lword := PySem.W.mg_of X G a10, kp_Lword := k10, b_Lword := b10,
    f_Ldeed := _, fd_Ldeed := _, F_Ldeed := F11, mg_Ldeed := PySem.W.mg_of X G a11, kp_Ldeed := k11, b_Ldeed := b11,
    f_law := _, fd_law := _, F_law := F12, mg_law := PySem.W.mg_of X G a12, kp_law := k12, b_law := b12,
    u_MOST_MARKS := _, mg_MOST_MARKS := PySem.W.mg_of X G g_MOST_MARKS, rv_MOST_MARKS := ⟨_, rfl⟩,
    u_MOST_WAIT := _, mg_MOST_WAIT := PySem.W.mg_of X G g_MOST_WAIT, rv_MOST_WAIT := ⟨_, rfl⟩,
    z_ValueError := PySem.W.mg_none_of X G z_ValueError,
    z_bool := PySem.W.mg_none_of X G z_bool,
    z_int := PySem.W.mg_none_of X G z_int,
    z_isinstance := PySem.W.mg_none_of X G z_isinstance,
    z_len := PySem.W.mg_none_of X G z_len,
    z_list := PySem.W.mg_none_of X G z_list,
    z_max := PySem.W.mg_none_of X G z_max,
    z_min := PySem.W.mg_none_of X G z_min,
    z_range := PySem.W.mg_none_of X G z_range,
    z_sorted := PySem.W.mg_none_of X G z_sorted,
    z_str := PySem.W.mg_none_of X G z_str,
    z_tuple := PySem.W.mg_none_of X G z_tuple,
    C_RoadError := C_RoadError, mg_RoadError := PySem.W.mg_of X G aC_RoadError, kp_RoadError := kc_RoadError, ex_RoadError := ex_RoadError, ty_RoadError := ty_RoadError, hd_RoadError := hd_RoadError,
    C_BadRoads := C_BadRoads, mg_BadRoads := PySem.W.mg_of X G aC_BadRoads, kp_BadRoads := kc_BadRoads, ex_BadRoads := ex_BadRoads, ty_BadRoads := ty_BadRoads, hd_BadRoads := hd_BadRoads,
    C_BadReceiver := C_BadReceiver, mg_BadReceiver := PySem.W.mg_of X G aC_BadReceiver, kp_BadReceiver := kc_BadReceiver, ex_BadReceiver := ex_BadReceiver, ty_BadReceiver := ty_BadReceiver, hd_BadReceiver := hd_BadReceiver,
    C_BadRows := C_BadRows, mg_BadRows := PySem.W.mg_of X G aC_BadRows, kp_BadRows := kc_BadRows, ex_BadRows := ex_BadRows, ty_BadRows := ty_BadRows, hd_BadRows := hd_BadRows,
    C_BadMark := C_BadMark, mg_BadMark := PySem.W.mg_of X G aC_BadMark, kp_BadMark := kc_BadMark, ex_BadMark := ex_BadMark, ty_BadMark := ty_BadMark, hd_BadMark := hd_BadMark,
    C_BadText := C_BadText, mg_BadText := PySem.W.mg_of X G aC_BadText, kp_BadText := kc_BadText, ex_BadText := ex_BadText, ty_BadText := ty_BadText, hd_BadText := hd_BadText,
    xg_BadMark := xg_BadMark,
    xk_BadMark := xk_BadMark,
    xa_BadMark := xa_BadMark,
    xn_BadMark := xn_BadMark,
    xt_BadMark := xt_BadMark,
    xm_BadMark := xm_BadMark,
    i_BadMark_BadMark := i_BadMark_BadMark,
    i_BadMark_BadReceiver := i_BadMark_BadReceiver,
    i_BadMark_BadRoads := i_BadMark_BadRoads,
    i_BadMark_BadRows := i_BadMark_BadRows,
    i_BadMark_BadText := i_BadMark_BadText,
    i_BadMark_VE := i_BadMark_VE,
    m_BadMark := m_BadMark,
    q_BadMark := q_BadMark,
    cd_Ldeed := cd_Ldeed, tb_Ldeed := tb_Ldeed, ht_Ldeed := tab_mk a11 l11 hc_Ldeed hk_Ldeed hv_Ldeed, hc_Ldeed := hc_Ldeed, nt_Ldeed := nt_Ldeed }
  exact ⟨PySem.W.fnOf "law" "law" (defArgs s_law) (defBody s_law) (defScope s_law) .none kV12 dc12 pm12 an12 cd12 ct12, [(cd_Ldeed, tb_Ldeed)], fun s v => .of_eq rfl, (List.forall_mem_cons.mpr ⟨⟨"_law_deed", List.mem_cons_self, T.ht_Ldeed⟩, (fun _ h => nomatch h)⟩), (List.forall_mem_cons.mpr ⟨T.nt_Ldeed, (fun _ h => nomatch h)⟩), fun base _ _ hTB => ok_law T (hTB (cd_Ldeed, tb_Ldeed) List.mem_cons_self)⟩
end Tp
open PySem PySem.W PyProof.Rows
set_option maxRecDepth 100000 in
set_option maxHeartbeats 0 in
theorem PySem.Challenge.cw_twopaths_k03_receivers_by_deeds_holds : PySem.Challenge.rw_twopaths_k03_receivers_by_deeds.Holds := by
  w_on; o_law; k_head; (case hw => w_witness2)
  k_fill
  refine Tp.walkT (l := PySem.Challenge.rw_twopaths_k03_receivers_by_deeds) (k := 6) (["_law_deed"] : List Str) (fun x hx => Tp.rec_of (List.all_eq_true.mp (show (["_law_deed"] : List Str).all (fun x => ((PyProof.Rows.recsOf _).find? (fun e => e.name == x)).isSome) = true by kernel_rfl) x hx)) rfl rfl ⟨rfl, by decide, by decide⟩ (fun w h Y => PySem.W.km_in_of Y) ?F
  case F =>
    intro w mg fa h KX G hmg
    refine' Tp.all_mk KX G hmg ?a0 ?l0 ?c0 ?k0 ?a1 ?l1 ?c1 ?k1 ?a2 ?l2 ?c2 ?k2 ?a3 ?l3 ?c3 ?k3 ?a4 ?l4 ?c4 ?k4 ?a5 ?l5 ?c5 ?k5 ?a6 ?l6 ?c6 ?k6 ?a7 ?l7 ?c7 ?k7 ?a8 ?l8 ?c8 ?k8 ?a9 ?l9 ?c9 ?k9 ?a10 ?l10 ?c10 ?k10 ?a11 ?l11 ?c11 ?k11 ?a12 ?l12 ?c12 ?k12 ?aC_Merger ?pg_Merger ?hd_Merger ?po_Merger ?sa_Merger ?mi_Merger ?kc_Merger ?n_following ?n_held ?n_clock ?n_old ?n_marks ?n_ahead ?n_wait ?am0 ?im0 ?lm0 ?cm0 ?km0 ?am1 ?im1 ?lm1 ?cm1 ?km1 ?am2 ?im2 ?lm2 ?cm2 ?km2 ?am3 ?im3 ?lm3 ?cm3 ?km3 ?am4 ?im4 ?lm4 ?cm4 ?km4 ?am5 ?im5 ?lm5 ?cm5 ?km5 ?am6 ?im6 ?lm6 ?cm6 ?km6 ?g_MOST_MARKS ?g_MOST_WAIT ?z_ValueError ?z_bool ?z_int ?z_isinstance ?z_len ?z_list ?z_max ?z_min ?z_range ?z_sorted ?z_str ?z_tuple ?aC_RoadError ?kc_RoadError ?ex_RoadError ?ty_RoadError ?hd_RoadError ?aC_BadRoads ?kc_BadRoads ?ex_BadRoads ?ty_BadRoads ?hd_BadRoads ?aC_BadReceiver ?kc_BadReceiver ?ex_BadReceiver ?ty_BadReceiver ?hd_BadReceiver ?aC_BadRows ?kc_BadRows ?ex_BadRows ?ty_BadRows ?hd_BadRows ?aC_BadMark ?kc_BadMark ?ex_BadMark ?ty_BadMark ?hd_BadMark ?aC_BadText ?kc_BadText ?ex_BadText ?ty_BadText ?hd_BadText ?xg_BadMark ?xk_BadMark ?xa_BadMark ?xn_BadMark ?xt_BadMark ?xm_BadMark ?i_BadMark_BadMark ?i_BadMark_BadReceiver ?i_BadMark_BadRoads ?i_BadMark_BadRows ?i_BadMark_BadText ?i_BadMark_VE ?m_BadMark ?q_BadMark ?hc_Ldeed ?hk_Ldeed ?hv_Ldeed ?nt_Ldeed
    (case a0 => k_is); (case l0 => k_is); (case c0 => k_is); (case k0 => k_is); (case a1 => k_is); (case l1 => k_is)
    (case c1 => k_is); (case k1 => k_is); (case a2 => k_is); (case l2 => k_is); (case c2 => k_is); (case k2 => k_is)
    (case a3 => k_is); (case l3 => k_is); (case c3 => k_is); (case k3 => k_is); (case a4 => k_is); (case l4 => k_is)
    (case c4 => k_is); (case k4 => k_is); (case a5 => k_is); (case l5 => k_is); (case c5 => k_is); (case k5 => k_is)
    (case a6 => k_is); (case l6 => k_is); (case c6 => k_is); (case k6 => k_is); (case a7 => k_is); (case l7 => k_is)
    (case c7 => k_is); (case k7 => k_is); (case a8 => k_is); (case l8 => k_is); (case c8 => k_is); (case k8 => k_is)
    (case a9 => k_is); (case l9 => k_is); (case c9 => k_is); (case k9 => k_is); (case a10 => k_is); (case l10 => k_is)
    (case c10 => k_is); (case k10 => k_is); (case a11 => k_is); (case l11 => k_is); (case c11 => k_is); (case k11 => k_is)
    (case a12 => k_is); (case l12 => k_is); (case c12 => k_is); (case k12 => k_is); (case aC_Merger => k_is); (case pg_Merger => k_is)
    (case hd_Merger => k_is); (case po_Merger => k_is); (case sa_Merger => k_is); (case mi_Merger => k_is); (case kc_Merger => k_is); (case n_following => k_is)
    (case n_held => k_is); (case n_clock => k_is); (case n_old => k_is); (case n_marks => k_is); (case n_ahead => k_is); (case n_wait => k_is)
    (case am0 => k_is); (case im0 => k_is); (case lm0 => k_is); (case cm0 => k_is); (case km0 => k_is); (case am1 => k_is)
    (case im1 => k_is); (case lm1 => k_is); (case cm1 => k_is); (case km1 => k_is); (case am2 => k_is); (case im2 => k_is)
    (case lm2 => k_is); (case cm2 => k_is); (case km2 => k_is); (case am3 => k_is); (case im3 => k_is); (case lm3 => k_is)
    (case cm3 => k_is); (case km3 => k_is); (case am4 => k_is); (case im4 => k_is); (case lm4 => k_is); (case cm4 => k_is)
    (case km4 => k_is); (case am5 => k_is); (case im5 => k_is); (case lm5 => k_is); (case cm5 => k_is); (case km5 => k_is)
    (case am6 => k_is); (case im6 => k_is); (case lm6 => k_is); (case cm6 => k_is); (case km6 => k_is); (case g_MOST_MARKS => k_is)
    (case g_MOST_WAIT => k_is); (case z_ValueError => k_is); (case z_bool => k_is); (case z_int => k_is); (case z_isinstance => k_is); (case z_len => k_is)
    (case z_list => k_is); (case z_max => k_is); (case z_min => k_is); (case z_range => k_is); (case z_sorted => k_is); (case z_str => k_is)
    (case z_tuple => k_is); (case aC_RoadError => k_is); (case kc_RoadError => k_is); (case ex_RoadError => k_is); (case ty_RoadError => k_is); (case hd_RoadError => k_is)
    (case aC_BadRoads => k_is); (case kc_BadRoads => k_is); (case ex_BadRoads => k_is); (case ty_BadRoads => k_is); (case hd_BadRoads => k_is); (case aC_BadReceiver => k_is)
    (case kc_BadReceiver => k_is); (case ex_BadReceiver => k_is); (case ty_BadReceiver => k_is); (case hd_BadReceiver => k_is); (case aC_BadRows => k_is); (case kc_BadRows => k_is)
    (case ex_BadRows => k_is); (case ty_BadRows => k_is); (case hd_BadRows => k_is); (case aC_BadMark => k_is); (case kc_BadMark => k_is); (case ex_BadMark => k_is)
    (case ty_BadMark => k_is); (case hd_BadMark => k_is); (case aC_BadText => k_is); (case kc_BadText => k_is); (case ex_BadText => k_is); (case ty_BadText => k_is)
    (case hd_BadText => k_is); (case xg_BadMark => first | k_is | k_exc | kernel_rfl); (case xk_BadMark => first | k_is | k_exc | kernel_rfl); (case xa_BadMark => first | k_is | k_exc | kernel_rfl); (case xn_BadMark => first | k_is | k_exc | kernel_rfl); (case xt_BadMark => first | k_is | k_exc | kernel_rfl)
    (case xm_BadMark => first | k_is | k_exc | kernel_rfl); (case i_BadMark_BadMark => first | k_is | k_exc | kernel_rfl); (case i_BadMark_BadReceiver => first | k_is | k_exc | kernel_rfl); (case i_BadMark_BadRoads => first | k_is | k_exc | kernel_rfl); (case i_BadMark_BadRows => first | k_is | k_exc | kernel_rfl); (case i_BadMark_BadText => first | k_is | k_exc | kernel_rfl)
    (case i_BadMark_VE => first | k_is | k_exc | kernel_rfl); (case m_BadMark => first | k_is | k_exc | kernel_rfl); (case q_BadMark => first | k_is | k_exc | kernel_rfl); (case hc_Ldeed => rfl); (case hk_Ldeed => k_is); (case hv_Ldeed => rfl)
    (case nt_Ldeed => kernel_rfl)
