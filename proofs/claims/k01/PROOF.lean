import PyProof.Rows.All
import Wide.All
import OpenK.AllK
import Wide.FinOn
import PyProof.EqAt
import PyProof.EqKinds
import PyProof.TupleCall
import HandS.ForMost
import HandS.IsInst
import HandS.Evl
import HandS.Codes
import HandS.SortRule
import HandS.More
import HandS.SetFor
import HandS.SortInts
import HandS.SortKw
import HandS.Strs
import HandS.Conv
import KE.DataMinMax
import HandS.ForExc
import HandS.ExcIs
import HandS.ExcOwn
import HandS.Lambda
import HandS.EndTab
import HandS.WordsExc
import HandS.ExcInit
import HandS.ExcField
import HandS.FStr
import KE.KExcIs
import KE.KNestM
import PySem.Challenge.RW_twopaths_k01_roads_and_receivers_refused
set_option Elab.async false
set_option linter.all false
set_option maxRecDepth 100000
set_option maxHeartbeats 2000000
namespace Tp
open PySem L2
def top (i : Nat) : Stmt := PySem.Challenge.pw_twopaths_k01_roads_and_receivers_refused.main.body.getD i (.Pass ⟨0, 0, 0, 0⟩)
abbrev s__wall : Stmt := top 0
abbrev N__wall : List Str := ["k"]
abbrev P__wall : List Str := ["k"]
abbrev s_BadRoads_init : Stmt := inClass (top 3) 0
abbrev N_BadRoads_init : List Str := ["self", "number"]
abbrev P_BadRoads_init : List Str := ["self", "number"]
abbrev s_BadReceiver_init : Stmt := inClass (top 4) 0
abbrev N_BadReceiver_init : List Str := ["self", "word"]
abbrev P_BadReceiver_init : List Str := ["self", "word"]
abbrev s_BadRows_init : Stmt := inClass (top 5) 0
abbrev N_BadRows_init : List Str := ["self", "road", "at"]
abbrev P_BadRows_init : List Str := ["self", "road", "at"]
abbrev s_BadText_init : Stmt := inClass (top 7) 0
abbrev N_BadText_init : List Str := ["self", "row", "at"]
abbrev P_BadText_init : List Str := ["self", "row", "at"]
abbrev s_need_roads : Stmt := top 13
abbrev N_need_roads : List Str := ["roads", "number", "least", "most"]
abbrev P_need_roads : List Str := ["roads"]
abbrev s_need_receiver : Stmt := top 14
abbrev N_need_receiver : List Str := ["receiver", "marks", "ahead", "wait"]
abbrev P_need_receiver : List Str := ["receiver"]
abbrev s_need_rows : Stmt := top 15
abbrev N_need_rows : List Str := ["roads", "rows", "road", "least", "most", "at", "late"]
abbrev P_need_rows : List Str := ["roads", "rows"]
abbrev s_spread : Stmt := top 16
abbrev N_spread : List Str := ["roads", "least", "most"]
abbrev P_spread : List Str := ["roads"]
abbrev s_Merger_init : Stmt := inClass (top 18) 0
abbrev N_Merger_init : List Str := ["self", "receiver"]
abbrev P_Merger_init : List Str := ["self", "receiver"]
abbrev s_Merger_come : Stmt := inClass (top 18) 1
abbrev N_Merger_come : List Str := ["self", "mark", "thing", "far"]
abbrev P_Merger_come : List Str := ["self", "mark", "thing"]
abbrev s_Merger_go_out : Stmt := inClass (top 18) 2
abbrev N_Merger_go_out : List Str := ["self", "found"]
abbrev P_Merger_go_out : List Str := ["self"]
abbrev s_Merger_close : Stmt := inClass (top 18) 3
abbrev N_Merger_close : List Str := ["self", "found", "number"]
abbrev P_Merger_close : List Str := ["self"]
abbrev s_Merger_is_wanted : Stmt := inClass (top 18) 4
abbrev N_Merger_is_wanted : List Str := ["self", "number", "one"]
abbrev P_Merger_is_wanted : List Str := ["self", "number"]
abbrev s_Merger_waits : Stmt := inClass (top 18) 5
abbrev N_Merger_waits : List Str := ["self"]
abbrev P_Merger_waits : List Str := ["self"]
abbrev s_Merger_dropped : Stmt := inClass (top 18) 6
abbrev N_Merger_dropped : List Str := ["self"]
abbrev P_Merger_dropped : List Str := ["self"]
abbrev s_arrivals : Stmt := top 20
abbrev N_arrivals : List Str := ["rows", "found", "road", "thing"]
abbrev P_arrivals : List Str := ["rows"]
abbrev s_out_of : Stmt := top 21
abbrev N_out_of : List Str := ["receiver", "rows", "merger", "coming", "last", "found", "moment", "when", "thing", "road", "one"]
abbrev P_out_of : List Str := ["receiver", "rows"]
abbrev s_need_all : Stmt := top 22
abbrev N_need_all : List Str := ["roads", "receiver", "rows"]
abbrev P_need_all : List Str := ["roads", "receiver", "rows"]
abbrev s_run : Stmt := top 23
abbrev N_run : List Str := ["roads", "receiver", "rows"]
abbrev P_run : List Str := ["roads", "receiver", "rows"]
abbrev s_faults_of : Stmt := top 24
abbrev N_faults_of : List Str := ["receiver", "rows", "things", "lost", "twice", "turned", "moment", "thing", "k"]
abbrev P_faults_of : List Str := ["receiver", "rows"]
abbrev s_faults : Stmt := top 25
abbrev N_faults : List Str := ["roads", "receiver", "rows"]
abbrev P_faults : List Str := ["roads", "receiver", "rows"]
abbrev s_is_sure : Stmt := top 27
abbrev N_is_sure : List Str := ["roads", "receiver", "marks", "ahead", "wait", "far"]
abbrev P_is_sure : List Str := ["roads", "receiver"]
abbrev s_road_of : Stmt := top 28
abbrev N_road_of : List Str := ["roads", "late"]
abbrev P_road_of : List Str := ["roads", "late"]
abbrev s_with_hole : Stmt := top 29
abbrev N_with_hole : List Str := ["roads", "many", "least", "most", "far", "rows", "thing"]
abbrev P_with_hole : List Str := ["roads", "many"]
abbrev s_with_copies : Stmt := top 30
abbrev N_with_copies : List Str := ["roads", "many", "soon", "late", "slow", "rows"]
abbrev P_with_copies : List Str := ["roads", "many"]
abbrev s_tried : Stmt := top 31
abbrev N_tried : List Str := ["roads", "receiver", "most", "found", "many"]
abbrev P_tried : List Str := ["roads", "receiver"]
abbrev s_judged : Stmt := top 32
abbrev N_judged : List Str := ["roads", "receiver", "rows", "lost", "twice", "turned"]
abbrev P_judged : List Str := ["roads", "receiver"]
abbrev s_least_receiver : Stmt := top 33
abbrev N_least_receiver : List Str := ["roads", "far", "receiver", "papers", "less"]
abbrev P_least_receiver : List Str := ["roads"]
abbrev s_sign_of : Stmt := top 37
abbrev N_sign_of : List Str := ["late"]
abbrev P_sign_of : List Str := ["late"]
abbrev s_written : Stmt := top 38
abbrev N_written : List Str := ["roads", "rows", "row", "late"]
abbrev P_written : List Str := ["roads", "rows"]
abbrev s_row_of : Stmt := top 39
abbrev N_row_of : List Str := ["text", "number", "found", "at"]
abbrev P_row_of : List Str := ["text", "number"]
abbrev s_read : Stmt := top 40
abbrev N_read : List Str := ["roads", "text", "lines", "found", "number"]
abbrev P_read : List Str := ["roads", "text"]
abbrev s_Ltaken : Stmt := top 42
abbrev N_Ltaken : List Str := ["_law_row", "_law_many", "_law_cell"]
abbrev P_Ltaken : List Str := ["_law_row", "_law_many"]
abbrev s_Lroads : Stmt := top 43
abbrev N_Lroads : List Str := ["_law_row", "_law_found", "_law_road", "_law_least"]
abbrev P_Lroads : List Str := ["_law_row"]
abbrev s_Lspread : Stmt := top 44
abbrev N_Lspread : List Str := ["_law_roads_here", "_law_some"]
abbrev P_Lspread : List Str := ["_law_roads_here"]
abbrev s_Lreceiver : Stmt := top 45
abbrev N_Lreceiver : List Str := ["_law_row", "_law_roads_here", "_law_far", "_law_marks", "_law_ahead"]
abbrev P_Lreceiver : List Str := ["_law_row", "_law_roads_here"]
abbrev s_Lword : Stmt := top 46
abbrev N_Lword : List Str := ["_law_work", "e", "_law_kinds"]
abbrev P_Lword : List Str := ["_law_work"]
abbrev s_Lbad_road : Stmt := top 47
abbrev N_Lbad_road : List Str := ["_law_roads_here", "_law_number", "_law_one"]
abbrev P_Lbad_road : List Str := ["_law_roads_here"]
abbrev s_Lwhy : Stmt := top 48
abbrev N_Lwhy : List Str := ["_law_receiver_here", "_law_marks", "_law_ahead", "_law_wait"]
abbrev P_Lwhy : List Str := ["_law_receiver_here"]
abbrev s_Lodd_roads : Stmt := top 49
abbrev N_Lodd_roads : List Str := ["_law_row", "_law_roads_here", "_law_far", "_law_some", "_law_odd"]
abbrev P_Lodd_roads : List Str := ["_law_row", "_law_roads_here"]
abbrev s_Lodd_receiver : Stmt := top 50
abbrev N_Lodd_receiver : List Str := ["_law_row", "_law_receiver_here", "_law_marks", "_law_ahead", "_law_wait", "_law_far", "_law_some"]
abbrev P_Lodd_receiver : List Str := ["_law_row", "_law_receiver_here"]
abbrev s_Lworks : Stmt := top 51
abbrev N_Lworks : List Str := ["_law_roads_here", "_law_receiver_here", "_law_works_here"]
abbrev P_Lworks : List Str := ["_law_roads_here", "_law_receiver_here"]
abbrev s_Lothers : Stmt := top 52
abbrev N_Lothers : List Str := ["_law_roads_here", "_law_works_here"]
abbrev P_Lothers : List Str := ["_law_roads_here"]
abbrev s_law : Stmt := top 53
abbrev N_law : List Str := ["_law_script", "_law_row", "_law_turn", "_law_good", "_law_receiver_here", "_law_roads_here", "_law_odd", "_law_number", "_law_why_here", "_law_works_here", "_law_work"]
abbrev P_law : List Str := ["_law_script"]
/-- where the top has put what the proofs name -/
structure Txt (K : PySem.W.Frag) (mg : Str → Option Value) where
  f__wall : Addr
  fd__wall : FuncData
  F__wall : Fun K "_wall" "_wall" s__wall f__wall fd__wall
  mg__wall : mg "_wall" = some (.ref f__wall)
  kp__wall : PySem.W.keepIn K (.ref f__wall) = true
  b__wall : Binds K fd__wall P__wall []
  f_need_roads : Addr
  fd_need_roads : FuncData
  F_need_roads : Fun K "need_roads" "need_roads" s_need_roads f_need_roads fd_need_roads
  mg_need_roads : mg "need_roads" = some (.ref f_need_roads)
  kp_need_roads : PySem.W.keepIn K (.ref f_need_roads) = true
  b_need_roads : Binds K fd_need_roads P_need_roads []
  f_need_receiver : Addr
  fd_need_receiver : FuncData
  F_need_receiver : Fun K "need_receiver" "need_receiver" s_need_receiver f_need_receiver fd_need_receiver
  mg_need_receiver : mg "need_receiver" = some (.ref f_need_receiver)
  kp_need_receiver : PySem.W.keepIn K (.ref f_need_receiver) = true
  b_need_receiver : Binds K fd_need_receiver P_need_receiver []
  f_need_rows : Addr
  fd_need_rows : FuncData
  F_need_rows : Fun K "need_rows" "need_rows" s_need_rows f_need_rows fd_need_rows
  mg_need_rows : mg "need_rows" = some (.ref f_need_rows)
  kp_need_rows : PySem.W.keepIn K (.ref f_need_rows) = true
  b_need_rows : Binds K fd_need_rows P_need_rows []
  f_spread : Addr
  fd_spread : FuncData
  F_spread : Fun K "spread" "spread" s_spread f_spread fd_spread
  mg_spread : mg "spread" = some (.ref f_spread)
  kp_spread : PySem.W.keepIn K (.ref f_spread) = true
  b_spread : Binds K fd_spread P_spread []
  f_arrivals : Addr
  fd_arrivals : FuncData
  F_arrivals : Fun K "arrivals" "arrivals" s_arrivals f_arrivals fd_arrivals
  mg_arrivals : mg "arrivals" = some (.ref f_arrivals)
  kp_arrivals : PySem.W.keepIn K (.ref f_arrivals) = true
  b_arrivals : Binds K fd_arrivals P_arrivals []
  f_out_of : Addr
  fd_out_of : FuncData
  F_out_of : Fun K "out_of" "out_of" s_out_of f_out_of fd_out_of
  mg_out_of : mg "out_of" = some (.ref f_out_of)
  kp_out_of : PySem.W.keepIn K (.ref f_out_of) = true
  b_out_of : Binds K fd_out_of P_out_of []
  f_need_all : Addr
  fd_need_all : FuncData
  F_need_all : Fun K "need_all" "need_all" s_need_all f_need_all fd_need_all
  mg_need_all : mg "need_all" = some (.ref f_need_all)
  kp_need_all : PySem.W.keepIn K (.ref f_need_all) = true
  b_need_all : Binds K fd_need_all P_need_all []
  f_run : Addr
  fd_run : FuncData
  F_run : Fun K "run" "run" s_run f_run fd_run
  mg_run : mg "run" = some (.ref f_run)
  kp_run : PySem.W.keepIn K (.ref f_run) = true
  b_run : Binds K fd_run P_run []
  f_faults_of : Addr
  fd_faults_of : FuncData
  F_faults_of : Fun K "faults_of" "faults_of" s_faults_of f_faults_of fd_faults_of
  mg_faults_of : mg "faults_of" = some (.ref f_faults_of)
  kp_faults_of : PySem.W.keepIn K (.ref f_faults_of) = true
  b_faults_of : Binds K fd_faults_of P_faults_of []
  f_faults : Addr
  fd_faults : FuncData
  F_faults : Fun K "faults" "faults" s_faults f_faults fd_faults
  mg_faults : mg "faults" = some (.ref f_faults)
  kp_faults : PySem.W.keepIn K (.ref f_faults) = true
  b_faults : Binds K fd_faults P_faults []
  f_is_sure : Addr
  fd_is_sure : FuncData
  F_is_sure : Fun K "is_sure" "is_sure" s_is_sure f_is_sure fd_is_sure
  mg_is_sure : mg "is_sure" = some (.ref f_is_sure)
  kp_is_sure : PySem.W.keepIn K (.ref f_is_sure) = true
  b_is_sure : Binds K fd_is_sure P_is_sure []
  f_road_of : Addr
  fd_road_of : FuncData
  F_road_of : Fun K "road_of" "road_of" s_road_of f_road_of fd_road_of
  mg_road_of : mg "road_of" = some (.ref f_road_of)
  kp_road_of : PySem.W.keepIn K (.ref f_road_of) = true
  b_road_of : Binds K fd_road_of P_road_of []
  f_with_hole : Addr
  fd_with_hole : FuncData
  F_with_hole : Fun K "with_hole" "with_hole" s_with_hole f_with_hole fd_with_hole
  mg_with_hole : mg "with_hole" = some (.ref f_with_hole)
  kp_with_hole : PySem.W.keepIn K (.ref f_with_hole) = true
  b_with_hole : Binds K fd_with_hole P_with_hole []
  f_with_copies : Addr
  fd_with_copies : FuncData
  F_with_copies : Fun K "with_copies" "with_copies" s_with_copies f_with_copies fd_with_copies
  mg_with_copies : mg "with_copies" = some (.ref f_with_copies)
  kp_with_copies : PySem.W.keepIn K (.ref f_with_copies) = true
  b_with_copies : Binds K fd_with_copies P_with_copies []
  f_tried : Addr
  fd_tried : FuncData
  F_tried : Fun K "tried" "tried" s_tried f_tried fd_tried
  mg_tried : mg "tried" = some (.ref f_tried)
  kp_tried : PySem.W.keepIn K (.ref f_tried) = true
  b_tried : Binds K fd_tried P_tried []
  f_judged : Addr
  fd_judged : FuncData
  F_judged : Fun K "judged" "judged" s_judged f_judged fd_judged
  mg_judged : mg "judged" = some (.ref f_judged)
  kp_judged : PySem.W.keepIn K (.ref f_judged) = true
  b_judged : Binds K fd_judged P_judged []
  f_least_receiver : Addr
  fd_least_receiver : FuncData
  F_least_receiver : Fun K "least_receiver" "least_receiver" s_least_receiver f_least_receiver fd_least_receiver
  mg_least_receiver : mg "least_receiver" = some (.ref f_least_receiver)
  kp_least_receiver : PySem.W.keepIn K (.ref f_least_receiver) = true
  b_least_receiver : Binds K fd_least_receiver P_least_receiver []
  f_sign_of : Addr
  fd_sign_of : FuncData
  F_sign_of : Fun K "sign_of" "sign_of" s_sign_of f_sign_of fd_sign_of
  mg_sign_of : mg "sign_of" = some (.ref f_sign_of)
  kp_sign_of : PySem.W.keepIn K (.ref f_sign_of) = true
  b_sign_of : Binds K fd_sign_of P_sign_of []
  f_written : Addr
  fd_written : FuncData
  F_written : Fun K "written" "written" s_written f_written fd_written
  mg_written : mg "written" = some (.ref f_written)
  kp_written : PySem.W.keepIn K (.ref f_written) = true
  b_written : Binds K fd_written P_written []
  f_row_of : Addr
  fd_row_of : FuncData
  F_row_of : Fun K "row_of" "row_of" s_row_of f_row_of fd_row_of
  mg_row_of : mg "row_of" = some (.ref f_row_of)
  kp_row_of : PySem.W.keepIn K (.ref f_row_of) = true
  b_row_of : Binds K fd_row_of P_row_of []
  f_read : Addr
  fd_read : FuncData
  F_read : Fun K "read" "read" s_read f_read fd_read
  mg_read : mg "read" = some (.ref f_read)
  kp_read : PySem.W.keepIn K (.ref f_read) = true
  b_read : Binds K fd_read P_read []
  f_Ltaken : Addr
  fd_Ltaken : FuncData
  F_Ltaken : Fun K "_law_taken" "_law_taken" s_Ltaken f_Ltaken fd_Ltaken
  mg_Ltaken : mg "_law_taken" = some (.ref f_Ltaken)
  kp_Ltaken : PySem.W.keepIn K (.ref f_Ltaken) = true
  b_Ltaken : Binds K fd_Ltaken P_Ltaken []
  f_Lroads : Addr
  fd_Lroads : FuncData
  F_Lroads : Fun K "_law_roads" "_law_roads" s_Lroads f_Lroads fd_Lroads
  mg_Lroads : mg "_law_roads" = some (.ref f_Lroads)
  kp_Lroads : PySem.W.keepIn K (.ref f_Lroads) = true
  b_Lroads : Binds K fd_Lroads P_Lroads []
  f_Lspread : Addr
  fd_Lspread : FuncData
  F_Lspread : Fun K "_law_spread" "_law_spread" s_Lspread f_Lspread fd_Lspread
  mg_Lspread : mg "_law_spread" = some (.ref f_Lspread)
  kp_Lspread : PySem.W.keepIn K (.ref f_Lspread) = true
  b_Lspread : Binds K fd_Lspread P_Lspread []
  f_Lreceiver : Addr
  fd_Lreceiver : FuncData
  F_Lreceiver : Fun K "_law_receiver" "_law_receiver" s_Lreceiver f_Lreceiver fd_Lreceiver
  mg_Lreceiver : mg "_law_receiver" = some (.ref f_Lreceiver)
  kp_Lreceiver : PySem.W.keepIn K (.ref f_Lreceiver) = true
  b_Lreceiver : Binds K fd_Lreceiver P_Lreceiver []
  f_Lword : Addr
  fd_Lword : FuncData
  F_Lword : Fun K "_law_word" "_law_word" s_Lword f_Lword fd_Lword
  mg_Lword : mg "_law_word" = some (.ref f_Lword)
  kp_Lword : PySem.W.keepIn K (.ref f_Lword) = true
  b_Lword : Binds K fd_Lword P_Lword []
  f_Lbad_road : Addr
  fd_Lbad_road : FuncData
  F_Lbad_road : Fun K "_law_bad_road" "_law_bad_road" s_Lbad_road f_Lbad_road fd_Lbad_road
  mg_Lbad_road : mg "_law_bad_road" = some (.ref f_Lbad_road)
  kp_Lbad_road : PySem.W.keepIn K (.ref f_Lbad_road) = true
  b_Lbad_road : Binds K fd_Lbad_road P_Lbad_road []
  f_Lwhy : Addr
  fd_Lwhy : FuncData
  F_Lwhy : Fun K "_law_why" "_law_why" s_Lwhy f_Lwhy fd_Lwhy
  mg_Lwhy : mg "_law_why" = some (.ref f_Lwhy)
  kp_Lwhy : PySem.W.keepIn K (.ref f_Lwhy) = true
  b_Lwhy : Binds K fd_Lwhy P_Lwhy []
  f_Lodd_roads : Addr
  fd_Lodd_roads : FuncData
  F_Lodd_roads : Fun K "_law_odd_roads" "_law_odd_roads" s_Lodd_roads f_Lodd_roads fd_Lodd_roads
  mg_Lodd_roads : mg "_law_odd_roads" = some (.ref f_Lodd_roads)
  kp_Lodd_roads : PySem.W.keepIn K (.ref f_Lodd_roads) = true
  b_Lodd_roads : Binds K fd_Lodd_roads P_Lodd_roads []
  f_Lodd_receiver : Addr
  fd_Lodd_receiver : FuncData
  F_Lodd_receiver : Fun K "_law_odd_receiver" "_law_odd_receiver" s_Lodd_receiver f_Lodd_receiver fd_Lodd_receiver
  mg_Lodd_receiver : mg "_law_odd_receiver" = some (.ref f_Lodd_receiver)
  kp_Lodd_receiver : PySem.W.keepIn K (.ref f_Lodd_receiver) = true
  b_Lodd_receiver : Binds K fd_Lodd_receiver P_Lodd_receiver []
  f_Lworks : Addr
  fd_Lworks : FuncData
  F_Lworks : Fun K "_law_works" "_law_works" s_Lworks f_Lworks fd_Lworks
  mg_Lworks : mg "_law_works" = some (.ref f_Lworks)
  kp_Lworks : PySem.W.keepIn K (.ref f_Lworks) = true
  b_Lworks : Binds K fd_Lworks P_Lworks []
  f_Lothers : Addr
  fd_Lothers : FuncData
  F_Lothers : Fun K "_law_others" "_law_others" s_Lothers f_Lothers fd_Lothers
  mg_Lothers : mg "_law_others" = some (.ref f_Lothers)
  kp_Lothers : PySem.W.keepIn K (.ref f_Lothers) = true
  b_Lothers : Binds K fd_Lothers P_Lothers []
  f_law : Addr
  fd_law : FuncData
  F_law : Fun K "law" "law" s_law f_law fd_law
  mg_law : mg "law" = some (.ref f_law)
  kp_law : PySem.W.keepIn K (.ref f_law) = true
  b_law : Binds K fd_law P_law []
  C_Merger : Addr
  cl_Merger : Cls K C_Merger
  mg_Merger : mg "Merger" = some (.ref C_Merger)
  f_Merger_init : Addr
  fd_Merger_init : FuncData
  F_Merger_init : Fun K "__init__" "Merger.__init__" s_Merger_init f_Merger_init fd_Merger_init
  b_Merger_init : Binds K fd_Merger_init P_Merger_init []
  mk_Merger : Mk K C_Merger f_Merger_init
  f_Merger_come : Addr
  fd_Merger_come : FuncData
  F_Merger_come : Fun K "come" "Merger.come" s_Merger_come f_Merger_come fd_Merger_come
  b_Merger_come : Binds K fd_Merger_come P_Merger_come []
  m_Merger_come : Meth K C_Merger "come" f_Merger_come
  f_Merger_go_out : Addr
  fd_Merger_go_out : FuncData
  F_Merger_go_out : Fun K "go_out" "Merger.go_out" s_Merger_go_out f_Merger_go_out fd_Merger_go_out
  b_Merger_go_out : Binds K fd_Merger_go_out P_Merger_go_out []
  m_Merger_go_out : Meth K C_Merger "go_out" f_Merger_go_out
  f_Merger_close : Addr
  fd_Merger_close : FuncData
  F_Merger_close : Fun K "close" "Merger.close" s_Merger_close f_Merger_close fd_Merger_close
  b_Merger_close : Binds K fd_Merger_close P_Merger_close []
  m_Merger_close : Meth K C_Merger "close" f_Merger_close
  f_Merger_is_wanted : Addr
  fd_Merger_is_wanted : FuncData
  F_Merger_is_wanted : Fun K "is_wanted" "Merger.is_wanted" s_Merger_is_wanted f_Merger_is_wanted fd_Merger_is_wanted
  b_Merger_is_wanted : Binds K fd_Merger_is_wanted P_Merger_is_wanted []
  m_Merger_is_wanted : Meth K C_Merger "is_wanted" f_Merger_is_wanted
  f_Merger_waits : Addr
  fd_Merger_waits : FuncData
  F_Merger_waits : Fun K "waits" "Merger.waits" s_Merger_waits f_Merger_waits fd_Merger_waits
  b_Merger_waits : Binds K fd_Merger_waits P_Merger_waits []
  m_Merger_waits : Meth K C_Merger "waits" f_Merger_waits
  f_Merger_dropped : Addr
  fd_Merger_dropped : FuncData
  F_Merger_dropped : Fun K "dropped" "Merger.dropped" s_Merger_dropped f_Merger_dropped fd_Merger_dropped
  b_Merger_dropped : Binds K fd_Merger_dropped P_Merger_dropped []
  m_Merger_dropped : Meth K C_Merger "dropped" f_Merger_dropped
  n_following : NoAttr K C_Merger "following"
  n_held : NoAttr K C_Merger "held"
  n_clock : NoAttr K C_Merger "clock"
  n_old : NoAttr K C_Merger "old"
  n_marks : NoAttr K C_Merger "marks"
  n_ahead : NoAttr K C_Merger "ahead"
  n_wait : NoAttr K C_Merger "wait"
  u_MOST_LATE : Value
  mg_MOST_LATE : mg "MOST_LATE" = some u_MOST_LATE
  rv_MOST_LATE : RelV (.int 9) u_MOST_LATE
  u_MOST_MARKS : Value
  mg_MOST_MARKS : mg "MOST_MARKS" = some u_MOST_MARKS
  rv_MOST_MARKS : RelV (.int 32) u_MOST_MARKS
  u_MOST_WAIT : Value
  mg_MOST_WAIT : mg "MOST_WAIT" = some u_MOST_WAIT
  rv_MOST_WAIT : RelV (.int 20) u_MOST_WAIT
  u_MOST_THINGS : Value
  mg_MOST_THINGS : mg "MOST_THINGS" = some u_MOST_THINGS
  rv_MOST_THINGS : RelV (.int 80) u_MOST_THINGS
  u_FIGURES : Value
  mg_FIGURES : mg "FIGURES" = some u_FIGURES
  rv_FIGURES : RelV (.str "0123456789") u_FIGURES
  u_GONE : Value
  mg_GONE : mg "GONE" = some u_GONE
  rv_GONE : RelV (.str "-") u_GONE
  z_ValueError : mg "ValueError" = none
  z_int : mg "int" = none
  z_isinstance : mg "isinstance" = none
  z_len : mg "len" = none
  z_list : mg "list" = none
  z_max : mg "max" = none
  z_min : mg "min" = none
  z_range : mg "range" = none
  z_set : mg "set" = none
  z_sorted : mg "sorted" = none
  z_str : mg "str" = none
  C_RoadError : Addr
  mg_RoadError : mg "RoadError" = some (.ref C_RoadError)
  kp_RoadError : PySem.W.keepIn K (.ref C_RoadError) = true
  ex_RoadError : PySem.W.subIn K (.ref C_RoadError) (.type "BaseException") = some true
  ty_RoadError : PySem.W.typeIn K (.ref C_RoadError) = some (.type "type")
  hd_RoadError : PySem.W.hasDictIn K C_RoadError = true
  C_BadRoads : Addr
  mg_BadRoads : mg "BadRoads" = some (.ref C_BadRoads)
  kp_BadRoads : PySem.W.keepIn K (.ref C_BadRoads) = true
  ex_BadRoads : PySem.W.subIn K (.ref C_BadRoads) (.type "BaseException") = some true
  ty_BadRoads : PySem.W.typeIn K (.ref C_BadRoads) = some (.type "type")
  hd_BadRoads : PySem.W.hasDictIn K C_BadRoads = true
  C_BadReceiver : Addr
  mg_BadReceiver : mg "BadReceiver" = some (.ref C_BadReceiver)
  kp_BadReceiver : PySem.W.keepIn K (.ref C_BadReceiver) = true
  ex_BadReceiver : PySem.W.subIn K (.ref C_BadReceiver) (.type "BaseException") = some true
  ty_BadReceiver : PySem.W.typeIn K (.ref C_BadReceiver) = some (.type "type")
  hd_BadReceiver : PySem.W.hasDictIn K C_BadReceiver = true
  C_BadRows : Addr
  mg_BadRows : mg "BadRows" = some (.ref C_BadRows)
  kp_BadRows : PySem.W.keepIn K (.ref C_BadRows) = true
  ex_BadRows : PySem.W.subIn K (.ref C_BadRows) (.type "BaseException") = some true
  ty_BadRows : PySem.W.typeIn K (.ref C_BadRows) = some (.type "type")
  hd_BadRows : PySem.W.hasDictIn K C_BadRows = true
  C_BadMark : Addr
  mg_BadMark : mg "BadMark" = some (.ref C_BadMark)
  kp_BadMark : PySem.W.keepIn K (.ref C_BadMark) = true
  ex_BadMark : PySem.W.subIn K (.ref C_BadMark) (.type "BaseException") = some true
  ty_BadMark : PySem.W.typeIn K (.ref C_BadMark) = some (.type "type")
  hd_BadMark : PySem.W.hasDictIn K C_BadMark = true
  C_BadText : Addr
  mg_BadText : mg "BadText" = some (.ref C_BadText)
  kp_BadText : PySem.W.keepIn K (.ref C_BadText) = true
  ex_BadText : PySem.W.subIn K (.ref C_BadText) (.type "BaseException") = some true
  ty_BadText : PySem.W.typeIn K (.ref C_BadText) = some (.type "type")
  hd_BadText : PySem.W.hasDictIn K C_BadText = true
  f_BadRoads_init : Addr
  fd_BadRoads_init : FuncData
  F_BadRoads_init : Fun K "__init__" "BadRoads.__init__" s_BadRoads_init f_BadRoads_init fd_BadRoads_init
  b_BadRoads_init : Binds K fd_BadRoads_init P_BadRoads_init []
  iC_BadRoads : PySem.W.findIn K (.ref C_BadRoads) "__init__" = some (some (.ref f_BadRoads_init))
  tI_BadRoads : PySem.W.typeIn K (.ref f_BadRoads_init) = some (.type "function")
  ox_BadRoads : OexC K C_BadRoads
  nf_BadRoads_number : PySem.W.findIn K (.ref C_BadRoads) "number" = some none
  nf_BadRoads_word : PySem.W.findIn K (.ref C_BadRoads) "word" = some none
  f_BadReceiver_init : Addr
  fd_BadReceiver_init : FuncData
  F_BadReceiver_init : Fun K "__init__" "BadReceiver.__init__" s_BadReceiver_init f_BadReceiver_init fd_BadReceiver_init
  b_BadReceiver_init : Binds K fd_BadReceiver_init P_BadReceiver_init []
  iC_BadReceiver : PySem.W.findIn K (.ref C_BadReceiver) "__init__" = some (some (.ref f_BadReceiver_init))
  tI_BadReceiver : PySem.W.typeIn K (.ref f_BadReceiver_init) = some (.type "function")
  ox_BadReceiver : OexC K C_BadReceiver
  nf_BadReceiver_number : PySem.W.findIn K (.ref C_BadReceiver) "number" = some none
  nf_BadReceiver_word : PySem.W.findIn K (.ref C_BadReceiver) "word" = some none
  xg_BadRoads : PySem.W.findIn K (.ref C_BadRoads) "__getattribute__" = some (some (.builtin "BaseException.__getattribute__"))
  xk_BadRoads : PySem.W.findIn K (.ref C_BadRoads) "__getattr__" = some none
  xa_BadRoads : PySem.W.findIn K (.ref C_BadRoads) "__class__" = some (some (.builtin "object.__class__"))
  xn_BadRoads : PySem.W.specialIn K (.builtin "object.__class__") "__get__" = some (some (.builtin "getset_descriptor.__get__"))
  xt_BadRoads : PySem.W.takesIn K (.builtin "object.__class__") = some true
  xm_BadRoads : PySem.W.mroIn K C_BadRoads (.type "object") = some true
  i_BadRoads_BadMark : PySem.W.kitOne K (.ref C_BadRoads) (.ref C_BadMark) = some false
  i_BadRoads_BadReceiver : PySem.W.kitOne K (.ref C_BadRoads) (.ref C_BadReceiver) = some false
  i_BadRoads_BadRoads : PySem.W.kitOne K (.ref C_BadRoads) (.ref C_BadRoads) = some true
  i_BadRoads_BadRows : PySem.W.kitOne K (.ref C_BadRoads) (.ref C_BadRows) = some false
  i_BadRoads_BadText : PySem.W.kitOne K (.ref C_BadRoads) (.ref C_BadText) = some false
  i_BadRoads_VE : PySem.W.kitOne K (.ref C_BadRoads) (.type "ValueError") = some true
  m_BadRoads : PySem.W.exmOne K (.ref C_BadRoads) (.ref C_RoadError) = some true
  xg_BadReceiver : PySem.W.findIn K (.ref C_BadReceiver) "__getattribute__" = some (some (.builtin "BaseException.__getattribute__"))
  xk_BadReceiver : PySem.W.findIn K (.ref C_BadReceiver) "__getattr__" = some none
  xa_BadReceiver : PySem.W.findIn K (.ref C_BadReceiver) "__class__" = some (some (.builtin "object.__class__"))
  xn_BadReceiver : PySem.W.specialIn K (.builtin "object.__class__") "__get__" = some (some (.builtin "getset_descriptor.__get__"))
  xt_BadReceiver : PySem.W.takesIn K (.builtin "object.__class__") = some true
  xm_BadReceiver : PySem.W.mroIn K C_BadReceiver (.type "object") = some true
  i_BadReceiver_BadMark : PySem.W.kitOne K (.ref C_BadReceiver) (.ref C_BadMark) = some false
  i_BadReceiver_BadReceiver : PySem.W.kitOne K (.ref C_BadReceiver) (.ref C_BadReceiver) = some true
  i_BadReceiver_BadRoads : PySem.W.kitOne K (.ref C_BadReceiver) (.ref C_BadRoads) = some false
  i_BadReceiver_BadRows : PySem.W.kitOne K (.ref C_BadReceiver) (.ref C_BadRows) = some false
  i_BadReceiver_BadText : PySem.W.kitOne K (.ref C_BadReceiver) (.ref C_BadText) = some false
  i_BadReceiver_VE : PySem.W.kitOne K (.ref C_BadReceiver) (.type "ValueError") = some true
  m_BadReceiver : PySem.W.exmOne K (.ref C_BadReceiver) (.ref C_RoadError) = some true
  oi1_RoadError : PySem.W.specialIn K (.ref C_RoadError) "__getattribute__" = some (some (.builtin "type.__getattribute__"))
  oi2_RoadError : PySem.W.readsIn K C_RoadError (.type "type") = true
  oi3_RoadError : PySem.W.findCls K (.ref C_RoadError) (.type "type") "__init__" = some (.val (.builtin "ValueError.__init__"))
  cd_Lworks : Addr
  tb_Lworks : Addr
  ht_Lworks : PySem.W.tabIn K "_law_works" = some (cd_Lworks, tb_Lworks)
  hc_Lworks : fd_Lworks.code = .ref cd_Lworks
  nt_Lworks : K.lookup tb_Lworks = none
  cd_Lothers : Addr
  tb_Lothers : Addr
  ht_Lothers : PySem.W.tabIn K "_law_others" = some (cd_Lothers, tb_Lothers)
  hc_Lothers : fd_Lothers.code = .ref cd_Lothers
  nt_Lothers : K.lookup tb_Lothers = none
  cd_law : Addr
  tb_law : Addr
  ht_law : PySem.W.tabIn K "law" = some (cd_law, tb_law)
  hc_law : fd_law.code = .ref cd_law
  nt_law : K.lookup tb_law = none
section
variable {P : Program} {w : World} {K : PySem.W.Frag} {mg : Str → Option Value} {base : Heap}
theorem sc__wall : FnScope N__wall P__wall (defScope s__wall) := ⟨rfl, rfl, rfl, by decide +kernel, rfl, by decide +kernel, by decide +kernel⟩
theorem sc_BadRoads_init : FnScope N_BadRoads_init P_BadRoads_init (defScope s_BadRoads_init) := ⟨rfl, rfl, rfl, by decide +kernel, rfl, by decide +kernel, by decide +kernel⟩
theorem sc_BadReceiver_init : FnScope N_BadReceiver_init P_BadReceiver_init (defScope s_BadReceiver_init) := ⟨rfl, rfl, rfl, by decide +kernel, rfl, by decide +kernel, by decide +kernel⟩
theorem sc_need_roads : FnScope N_need_roads P_need_roads (defScope s_need_roads) := ⟨rfl, rfl, rfl, by decide +kernel, rfl, by decide +kernel, by decide +kernel⟩
theorem sc_need_receiver : FnScope N_need_receiver P_need_receiver (defScope s_need_receiver) := ⟨rfl, rfl, rfl, by decide +kernel, rfl, by decide +kernel, by decide +kernel⟩
theorem sc_need_rows : FnScope N_need_rows P_need_rows (defScope s_need_rows) := ⟨rfl, rfl, rfl, by decide +kernel, rfl, by decide +kernel, by decide +kernel⟩
theorem sc_spread : FnScope N_spread P_spread (defScope s_spread) := ⟨rfl, rfl, rfl, by decide +kernel, rfl, by decide +kernel, by decide +kernel⟩
theorem sc_Merger_init : FnScope N_Merger_init P_Merger_init (defScope s_Merger_init) := ⟨rfl, rfl, rfl, by decide +kernel, rfl, by decide +kernel, by decide +kernel⟩
theorem sc_Merger_come : FnScope N_Merger_come P_Merger_come (defScope s_Merger_come) := ⟨rfl, rfl, rfl, by decide +kernel, rfl, by decide +kernel, by decide +kernel⟩
theorem sc_Merger_go_out : FnScope N_Merger_go_out P_Merger_go_out (defScope s_Merger_go_out) := ⟨rfl, rfl, rfl, by decide +kernel, rfl, by decide +kernel, by decide +kernel⟩
theorem sc_Merger_close : FnScope N_Merger_close P_Merger_close (defScope s_Merger_close) := ⟨rfl, rfl, rfl, by decide +kernel, rfl, by decide +kernel, by decide +kernel⟩
theorem sc_Merger_is_wanted : FnScope N_Merger_is_wanted P_Merger_is_wanted (defScope s_Merger_is_wanted) := ⟨rfl, rfl, rfl, by decide +kernel, rfl, by decide +kernel, by decide +kernel⟩
theorem sc_Merger_waits : FnScope N_Merger_waits P_Merger_waits (defScope s_Merger_waits) := ⟨rfl, rfl, rfl, by decide +kernel, rfl, by decide +kernel, by decide +kernel⟩
theorem sc_Merger_dropped : FnScope N_Merger_dropped P_Merger_dropped (defScope s_Merger_dropped) := ⟨rfl, rfl, rfl, by decide +kernel, rfl, by decide +kernel, by decide +kernel⟩
theorem sc_arrivals : FnScope N_arrivals P_arrivals (defScope s_arrivals) := ⟨rfl, rfl, rfl, by decide +kernel, rfl, by decide +kernel, by decide +kernel⟩
theorem sc_out_of : FnScope N_out_of P_out_of (defScope s_out_of) := ⟨rfl, rfl, rfl, by decide +kernel, rfl, by decide +kernel, by decide +kernel⟩
theorem sc_need_all : FnScope N_need_all P_need_all (defScope s_need_all) := ⟨rfl, rfl, rfl, by decide +kernel, rfl, by decide +kernel, by decide +kernel⟩
theorem sc_run : FnScope N_run P_run (defScope s_run) := ⟨rfl, rfl, rfl, by decide +kernel, rfl, by decide +kernel, by decide +kernel⟩
theorem sc_faults_of : FnScope N_faults_of P_faults_of (defScope s_faults_of) := ⟨rfl, rfl, rfl, by decide +kernel, rfl, by decide +kernel, by decide +kernel⟩
theorem sc_faults : FnScope N_faults P_faults (defScope s_faults) := ⟨rfl, rfl, rfl, by decide +kernel, rfl, by decide +kernel, by decide +kernel⟩
theorem sc_is_sure : FnScope N_is_sure P_is_sure (defScope s_is_sure) := ⟨rfl, rfl, rfl, by decide +kernel, rfl, by decide +kernel, by decide +kernel⟩
theorem sc_road_of : FnScope N_road_of P_road_of (defScope s_road_of) := ⟨rfl, rfl, rfl, by decide +kernel, rfl, by decide +kernel, by decide +kernel⟩
theorem sc_with_hole : FnScope N_with_hole P_with_hole (defScope s_with_hole) := ⟨rfl, rfl, rfl, by decide +kernel, rfl, by decide +kernel, by decide +kernel⟩
theorem sc_with_copies : FnScope N_with_copies P_with_copies (defScope s_with_copies) := ⟨rfl, rfl, rfl, by decide +kernel, rfl, by decide +kernel, by decide +kernel⟩
theorem sc_tried : FnScope N_tried P_tried (defScope s_tried) := ⟨rfl, rfl, rfl, by decide +kernel, rfl, by decide +kernel, by decide +kernel⟩
theorem sc_judged : FnScope N_judged P_judged (defScope s_judged) := ⟨rfl, rfl, rfl, by decide +kernel, rfl, by decide +kernel, by decide +kernel⟩
theorem sc_least_receiver : FnScope N_least_receiver P_least_receiver (defScope s_least_receiver) := ⟨rfl, rfl, rfl, by decide +kernel, rfl, by decide +kernel, by decide +kernel⟩
theorem sc_sign_of : FnScope N_sign_of P_sign_of (defScope s_sign_of) := ⟨rfl, rfl, rfl, by decide +kernel, rfl, by decide +kernel, by decide +kernel⟩
theorem sc_written : FnScope N_written P_written (defScope s_written) := ⟨rfl, rfl, rfl, by decide +kernel, rfl, by decide +kernel, by decide +kernel⟩
theorem sc_row_of : FnScope N_row_of P_row_of (defScope s_row_of) := ⟨rfl, rfl, rfl, by decide +kernel, rfl, by decide +kernel, by decide +kernel⟩
theorem sc_read : FnScope N_read P_read (defScope s_read) := ⟨rfl, rfl, rfl, by decide +kernel, rfl, by decide +kernel, by decide +kernel⟩
theorem sc_Ltaken : FnScope N_Ltaken P_Ltaken (defScope s_Ltaken) := ⟨rfl, rfl, rfl, by decide +kernel, rfl, by decide +kernel, by decide +kernel⟩
theorem sc_Lroads : FnScope N_Lroads P_Lroads (defScope s_Lroads) := ⟨rfl, rfl, rfl, by decide +kernel, rfl, by decide +kernel, by decide +kernel⟩
theorem sc_Lspread : FnScope N_Lspread P_Lspread (defScope s_Lspread) := ⟨rfl, rfl, rfl, by decide +kernel, rfl, by decide +kernel, by decide +kernel⟩
theorem sc_Lreceiver : FnScope N_Lreceiver P_Lreceiver (defScope s_Lreceiver) := ⟨rfl, rfl, rfl, by decide +kernel, rfl, by decide +kernel, by decide +kernel⟩
theorem sc_Lword : FnScope N_Lword P_Lword (defScope s_Lword) := ⟨rfl, rfl, rfl, by decide +kernel, rfl, by decide +kernel, by decide +kernel⟩
theorem sc_Lbad_road : FnScope N_Lbad_road P_Lbad_road (defScope s_Lbad_road) := ⟨rfl, rfl, rfl, by decide +kernel, rfl, by decide +kernel, by decide +kernel⟩
theorem sc_Lwhy : FnScope N_Lwhy P_Lwhy (defScope s_Lwhy) := ⟨rfl, rfl, rfl, by decide +kernel, rfl, by decide +kernel, by decide +kernel⟩
theorem sc_Lodd_roads : FnScope N_Lodd_roads P_Lodd_roads (defScope s_Lodd_roads) := ⟨rfl, rfl, rfl, by decide +kernel, rfl, by decide +kernel, by decide +kernel⟩
theorem sc_Lodd_receiver : FnScope N_Lodd_receiver P_Lodd_receiver (defScope s_Lodd_receiver) := ⟨rfl, rfl, rfl, by decide +kernel, rfl, by decide +kernel, by decide +kernel⟩
theorem sc_Lworks : FnScope N_Lworks P_Lworks (defScope s_Lworks) := ⟨rfl, rfl, rfl, by decide +kernel, rfl, by decide +kernel, by decide +kernel⟩
theorem sc_Lothers : FnScope N_Lothers P_Lothers (defScope s_Lothers) := ⟨rfl, rfl, rfl, by decide +kernel, rfl, by decide +kernel, by decide +kernel⟩
theorem sc_law : FnScope N_law P_law (defScope s_law) := ⟨rfl, rfl, rfl, by decide +kernel, rfl, by decide +kernel, by decide +kernel⟩
end
/-! ### heaps: what is kept but for one place -/
/-- all but r stands -/
def Kp (r : Addr) (H H' : Hp) : Prop := ∀ b o, b ≠ r → H b = some o → H' b = some o
theorem Kp.refl (r : Addr) (H : Hp) : Kp r H H := fun _ _ _ h => h
theorem Kp.trans {r : Addr} {H H1 H2 : Hp} (a : Kp r H H1) (b : Kp r H1 H2) : Kp r H H2 := fun c o n h => b c o n (a c o n h)
theorem Kp.of {r : Addr} {H H' : Hp} (s : Same H H') : Kp r H H' := fun c o _ h => s c o h
theorem Kp.put {r : Addr} {H H' : Hp} {o : HO} (a : Kp r H H') : Kp r H (upd H' r o) := fun c u n h => by
  rw [upd_ne n]; exact a c u n h
theorem Kp.new {r : Addr} {H H' : Hp} {p : Addr} {o : HO} (a : Kp r H H') (hp : H' p = none) : Kp r H (upd H' p o) := fun c u n h => by
  have h1 := a c u n h
  rw [upd_ne (ne_of_none h1 hp)]; exact h1
theorem _root_.L2.Same.new {H H' : Hp} {p : Addr} {o : HO} (a : Same H H') (hp : H' p = none) : Same H (upd H' p o) := fun c u h => by
  have h1 := a c u h
  rw [upd_ne (ne_of_none h1 hp)]; exact h1
/-- a change at a place that was free at the start -/
theorem _root_.L2.Same.mut {H H' : Hp} {p : Addr} {o : HO} (a : Same H H') (hp : H p = none) : Same H (upd H' p o) := fun c u h => by
  rw [upd_ne (ne_of_none h hp)]; exact a c u h
theorem Kp.mut {r : Addr} {H H' : Hp} {p : Addr} {o : HO} (a : Kp r H H') (hp : H p = none) : Kp r H (upd H' p o) := fun c u n h => by
  rw [upd_ne (ne_of_none h hp)]; exact a c u n h
theorem _root_.L2.Same.upd_new {H : Hp} {p : Addr} {o : HO} (hp : H p = none) : Same H (upd H p o) := (Same.refl H).new hp
theorem Kp.free {r : Addr} {H H' : Hp} {x : Addr} (k : Kp r H H') (n : x ≠ r) (h : H' x = none) : H x = none := by
  cases e : H x with
  | none => rfl
  | some o =>
    rw [k x o n e] at h; cases h
theorem Kp.rd {r : Addr} {H H' : Hp} {a : Addr} {u : HO} (k : Kp r H H') (n : a ≠ r) (h : Rd H a u) : Rd H' a u := by
  rcases h with h | ⟨o, h⟩
  · exact .inl (k _ _ n h)
  · exact .inr ⟨o, k _ _ n h⟩
theorem Kp.sql {K : PySem.W.Frag} {r : Addr} {H H' : Hp} {a : Addr} {xs : List V} (k : Kp r H H') (n : a ≠ r) (h : SqL K H a xs) : SqL K H' a xs := by
  rcases h with h | h
  · exact .inl (k.rd n h)
  · exact .inr h
theorem Kp.sqt {K : PySem.W.Frag} {r : Addr} {H H' : Hp} {a : Addr} {xs ys : List V} (k : Kp r H H') (hr : H r = some (.lst ys)) (h : SqT K H a xs) : SqT K H' a xs := by
  rcases h with (h | ⟨o, h⟩) | h
  · exact .inl (.inl (k _ _ (fun z => by rw [z, hr] at h; cases h) h))
  · exact .inl (.inr ⟨o, k _ _ (fun z => by rw [z, hr] at h; cases h) h⟩)
  · exact .inr h
theorem _root_.L2.Same.sqt {K : PySem.W.Frag} {H H' : Hp} {a : Addr} {xs : List V} (e : Same H H') (h : SqT K H a xs) : SqT K H' a xs := by
  rcases h with (h | ⟨o, h⟩) | h
  · exact .inl (.inl (e _ _ h))
  · exact .inl (.inr ⟨o, e _ _ h⟩)
  · exact .inr h
theorem _root_.L2.Same.mx {H H1 H2 : Hp} (a : Same H H1) (b : Same H1 H2) : Same H H2 := a.trans b
theorem at0 {α : Type} {x : α} {l : List α} : atI (x :: l) 0 = some x := atI_nat (j := 0) rfl
theorem at1 {α : Type} {x y : α} {l : List α} : atI (x :: y :: l) 1 = some y := atI_nat (j := 1) rfl
theorem at2 {α : Type} {x y z : α} {l : List α} : atI (x :: y :: z :: l) 2 = some z := atI_nat (j := 2) rfl
theorem ixN_of {n : Nat} {i : Int} {j : Nat} (e : i = (j : Int)) (h : j < n) : ixN n i = some j := by
  subst e
  unfold ixN
  rw [if_pos (by omega), if_pos (by omega)]; simp
/-- ints by their place -/
theorem at_ints {ns : List Int} {i : Int} (h0 : 0 ≤ i) (h1 : i < ns.length) : ∃ z, atI (ns.map V.int) i = some (.int z) := by
  obtain ⟨j, rfl⟩ := Int.eq_ofNat_of_zero_le h0
  have hj : j < ns.length := by omega
  exact ⟨ns[j], atI_nat (by rw [List.getElem?_map, List.getElem?_eq_getElem hj]; rfl)⟩

/-! ### the row of a law: [script, place, mix]; the script is locked or stands in the written part -/
def Scr (K : PySem.W.Frag) (H : Hp) (a : Addr) (ns : List Int) : Prop := (∃ o, H a = some (.frz o (.lst (ns.map V.int)))) ∨ ∀ H', SqL K H' a (ns.map V.int)
theorem Scr.sql {K : PySem.W.Frag} {H : Hp} {a : Addr} {ns : List Int} (h : Scr K H a ns) : SqL K H a (ns.map V.int) := by
  rcases h with ⟨o, h⟩ | h
  · exact .inl (.inr ⟨o, h⟩)
  · exact h H
theorem Scr.move {K : PySem.W.Frag} {H H' : Hp} {a : Addr} {ns : List Int} (h : Scr K H a ns) (k : ∀ b o u, H b = some (.frz o u) → H' b = some (.frz o u)) : Scr K H' a ns := by
  rcases h with ⟨o, h⟩ | h
  · exact .inl ⟨o, k _ _ _ h⟩
  · exact .inr h
theorem Scr.of {K : PySem.W.Frag} {H : Hp} {a : Addr} {ns : List Int} (O : L2.Only H) (h : SqL K H a (ns.map V.int)) : Scr K H a ns := by
  rcases h with (h | ⟨o, h⟩) | h
  · rcases O a with z | ⟨o, xs, z⟩ <;> (rw [h] at z; cases z)
  · exact .inl ⟨o, h⟩
  · exact .inr fun _ => .inr h
structure RowAt (K : PySem.W.Frag) (r : Addr) (H : Hp) : Prop where
  ex : ∃ (a : Addr) (i m : Int) (ns : List Int), H r = some (.lst [.ref a, .int i, .int m]) ∧ Scr K H a ns ∧ 0 ≤ i ∧ 0 ≤ m ∧ m < 2147483647
theorem RowAt.lst {K : PySem.W.Frag} {r : Addr} {H : Hp} (h : RowAt K r H) : ∃ xs, H r = some (.lst xs) := by
  obtain ⟨a, i, m, ns, h, _⟩ := h.ex
  exact ⟨_, h⟩
theorem RowAt.move {K : PySem.W.Frag} {r : Addr} {H H' : Hp} (h : RowAt K r H) (e : ∀ o, H r = some o → H' r = some o) (k : ∀ b o u, H b = some (.frz o u) → H' b = some (.frz o u)) : RowAt K r H' := by
  obtain ⟨a, i, m, ns, h, q, z⟩ := h.ex
  exact ⟨a, i, m, ns, e _ h, q.move k, z⟩
theorem RowAt.same {K : PySem.W.Frag} {r : Addr} {H H' : Hp} (h : RowAt K r H) (s : Same H H') : RowAt K r H' := h.move (fun o e => s _ _ e) fun b o u e => s _ _ e
theorem RowAt.new {K : PySem.W.Frag} {r : Addr} {H : Hp} {p : Addr} {o : HO} (h : RowAt K r H) (hp : H p = none) : RowAt K r (upd H p o) := h.same (Same.upd_new hp)
/-- a change of a list beside the row -/
theorem RowAt.put {K : PySem.W.Frag} {r : Addr} {H : Hp} {p : Addr} {xs : List V} {o : HO} (h : RowAt K r H) (n : p ≠ r) (hp : H p = some (.lst xs)) : RowAt K r (upd H p o) :=
  h.move (fun u e => by rw [upd_ne n.symm]; exact e) fun b o u e => by
    rw [upd_ne (fun z => by rw [z, hp] at e; cases e)]
    exact e
/-- a new place is not the row's -/
theorem RowAt.ne {K : PySem.W.Frag} {r : Addr} {H : Hp} {p : Addr} (h : RowAt K r H) (hp : H p = none) : p ≠ r := by
  obtain ⟨xs, e⟩ := h.lst
  exact (ne_of_none e hp).symm
theorem RowAt.start {K : PySem.W.Frag} {H : Hp} {a r : Addr} {ns : List Int} (h : Scr K H a ns) (hr : H r = none) : RowAt K r (upd H r (.lst [.ref a, .int 0, .int 0])) :=
  ⟨a, 0, 0, ns, upd_same, h.move (fun b o u e => by rw [upd_ne (ne_of_none e hr)]; exact e), by decide, by decide, by decide⟩
/-- the law's own promise: True -/
def spLaw (K : PySem.W.Frag) : Sp := fun vs H Q _ => ∃ (a : Addr) (ns : List Int), vs = [.ref a] ∧ Scr K H a ns ∧ ∀ H', Q (.bl true) H'
/-! ### within a comprehension the written part is the def's own -/
section
variable {X : Cx} {K : PySem.W.Frag}
theorem ixK_list (h : X.K = K) : IxR X (rIxL K) := h ▸ ix_list
theorem ixK_tup (h : X.K = K) : IxR X (rIxT K) := h ▸ ix_tup
theorem ixK_seq (h : X.K = K) : IxR X (rIx K) := h ▸ ix_seq
theorem lenK (h : X.K = K) : CallR X (.builtin "len") (fun xs H Q => ∃ p ys, xs = [.ref p] ∧ (SqL K H p ys ∨ SqT K H p ys) ∧ Q (.int ys.length) H) := h ▸ call_len_seq
theorem eqDK (h : X.K = K) (hu : X.A.units + 64 < cLine) : OpR X (compareOp .Eq) (rEqD K) := h ▸ op_eqD hu
theorem neDK (h : X.K = K) (hu : X.A.units + 64 < cLine) : OpR X (compareOp .NotEq) (rNeD K) := h ▸ op_neD hu
theorem inK (h : X.K = K) : OpR X (compareOp .In) (rIn K false) := h ▸ op_in_seq
theorem notInK (h : X.K = K) : OpR X (compareOp .NotIn) (rIn K true) := h ▸ op_notIn_seq
theorem piK_list {tg l : Expr} {tl : TE} (h : X.K = K) (hl : PE X l tl) : PI X tg l (iList K tl) := h ▸ pi_list hl
theorem piK_tup {tg l : Expr} {tl : TE} (h : X.K = K) (hl : PE X l tl) : PI X tg l (iTup K tl) := h ▸ pi_tup hl
theorem isiK (h : X.K = K) : CallR X (.builtin "isinstance") (rIsi K) := h ▸ call_isi
theorem isiTK (h : X.K = K) : CallR X (.builtin "isinstance") (rIsiT K) := h ▸ call_isiT
theorem pgK_tup {pos : Pos} {es : List Expr} {k : Nat} {t : TGs} {n : Nat} (h : X.K = K) (hc : X.calm = true) (hp : PGs X es t)
    (hn : (assignEach es X.env).length = n := by rfl) (hst : (assignEach es X.env).findIdx? (·.1) = none := by rfl) : PG X (.Tuple es k pos) (gTup K n t) := h ▸ pg_tup hc hp hn hst
end
section
variable {X : Cx} {K : PySem.W.Frag} {o e : Expr} {to te : TE}
/-- sep.join(a list or tuple of texts) -/
def tJoin (K : PySem.W.Frag) (to te : TE) : TE := tM1 (fun x xs H Q => ∃ a p, ∃ ys : List Str, x = .str a ∧ xs = [.ref p] ∧ (SqL K H p (ys.map V.str) ∨ SqT K H p (ys.map V.str)) ∧
      (ys.map (·.length)).sum + ys.length * a.length ≤ 16777216 ∧ Q (.str (Txt.join a ys)) H) to te
theorem joinK {apos pos : Pos} (h : X.K = K) (ho : PE X o to) (he : PE X e te) (hs : starEach [e] X.env = [(false, eval e X.env)] := by rfl) (hbase : attributeBase o "join" X.env (eval o X.env) = eval o X.env := by rfl) (hline : (apos.endLine == pos.line) = true := by rfl) :
    PE X (.Call (.Attribute o "join" apos) [e] [] pos) (tJoin K to te) := h ▸ pe_join ho he hs hbase hline
end
/-! ### three comparisons in one -/
section
open PyProof.Rows
variable {X : Cx} {a b c d : Expr} {ta tb tc td : TE} {pos : Pos}
def tChain3 (r r' r'' : R2) (ta tb tc td : TE) : TE := fun σ H Q => ta σ H fun x H1 => tb σ H1 fun y H2 => r x y H2 fun z H3 => ∃ k, z = .bl k ∧
  (if k = true then tc σ H3 fun w' H4 => r' y w' H4 fun z2 H5 => ∃ k2, z2 = .bl k2 ∧ (if k2 = true then td σ H5 fun v' H6 => r'' w' v' H6 Q else Q (.bl false) H5) else Q (.bl false) H3)
theorem pt_chain3 {op op' op'' : CmpOp} {r r' r'' : R2} (ho : OpR X (compareOp op) r) (ho' : OpR X (compareOp op') r') (ho'' : OpR X (compareOp op'') r'') (ha : PE X a ta) (hb : PE X b tb) (hc : PE X c tc) (hd : PE X d td)
    (hm : lastMarks [op, op', op''] [b, c, d] = false := by with_unfolding_all rfl) : PT X (.Compare a [op, op', op''] [b, c, d] pos) (tTest (tChain3 r r' r'' ta tb tc td)) := by
  refine ⟨fun pins s σ H Q I h => ?_⟩
  refine isTrue_chain (thn (ha.run pins s σ H _ I h) fun v s1 ⟨x, H1, I1, r1, q1⟩ => test_link (thn (hb.run pins s1 σ H1 _ I1 q1) fun u s2 ⟨y, H2, I2, r2, q2⟩ =>
    thn (ho pins s2 σ H2 x y v u _ I2 r1 r2 q2) fun d0 s3 ⟨z, H3, I3, r3, k, e, q3⟩ => ?_)) hm
  subst e
  cases r3
  refine wpAny_truthy_bool ?_
  cases k with
  | false =>
    obtain ⟨k', e', q'⟩ := q3
    cases e'
    exact ite_ff ⟨H3, I3, q'⟩
  | true =>
    refine ite_tt (test_link (thn (hc.run pins s3 σ H3 _ I3 q3) fun w' s4 ⟨z', H4, I4, r4, q4⟩ => thn (ho' pins s4 σ H4 y z' u w' _ I4 r2 r4 q4) fun d' s5 ⟨z2, H5, I5, r5, k2, e2, q5⟩ => ?_))
    subst e2
    cases r5
    refine wpAny_truthy_bool ?_
    cases k2 with
    | false =>
      obtain ⟨k', e', q'⟩ := q5
      cases e'
      exact ite_ff ⟨H5, I5, q'⟩
    | true =>
      refine ite_tt (test_last (thn (hd.run pins s5 σ H5 _ I5 q5) fun w2 s6 ⟨z3, H6, I6, r6, q6⟩ => thn (ho'' pins s6 σ H6 z' z3 w' w2 _ I6 r4 r6 q6) fun d2 s7 ⟨z4, H7, I7, r7, k4, e4, q7⟩ => ?_))
      subst e4
      cases r7
      exact wpAny_truthy_bool ⟨H7, I7, q7⟩
end
theorem iteD {c A B : Prop} [Decidable c] (hc : c) (h : A) : if decide c = true then A else B := by
  rw [decide_eq_true hc]
  exact iteT h
theorem iteND {c A B : Prop} [Decidable c] (hc : ¬ c) (h : B) : if decide c = true then A else B := by
  rw [decide_eq_false hc]
  exact iteF h
theorem lc_yes {σ : L2.St} {H : Hp} {A B : Hp → Prop} (h : A H) : tYes σ H fun b H3 => if b = true then A H3 else B H3 := by
  show if true = true then A H else B H
  rw [if_pos rfl]
  exact h
theorem iteNN {c A B : Prop} [Decidable c] (hc : ¬ c) (h : A) : if (!decide c) = true then A else B := by
  rw [decide_eq_false hc]
  exact iteT h
section
variable {X : Cx} {K : PySem.W.Frag} {e o : Expr} {ta to : TE} {f : Str} {pos : Pos}
theorem fldK (h : X.K = K) (he : PE X e ta) (hb : attributeBase e f X.env (eval e X.env) = eval e X.env) : PE X (.Attribute e f pos) (tFld K ta f) := h ▸ pe_fld he hb
/-- the target o.f of a walk over a tuple -/
def gFld (K : PySem.W.Frag) (to : TE) (f : Str) : TG := fun v σ H Q => to σ H fun x H1 => ∃ a C dx fs, x = .ref a ∧ H1 a = some (.ins C dx fs) ∧ Cls K C ∧ NoAttr K C f ∧ fs.length < 1000 ∧ Q σ (upd H1 a (.ins C dx (putF f v fs)))
theorem pg_fld (ho : PE X o to) : PG X (.Attribute o f pos) (gFld X.K to f) := by
  refine ⟨fun pins s σ H v u Q I r h => ?_⟩
  rw [assign_Attribute]
  refine wpAny_bind (wpAny_holding (thn (ho.run pins s σ H _ I h) fun ov s1 ⟨x, H1, I1, rx, a, C, dx, fs, ex, ea, c, n, l, q⟩ => ?_))
  subst ex
  obtain rfl : ov = Value.ref a := rx
  refine wpAny_bind (wpAny_standAt (wpAny_bind (wpAny_holding (setattr_ok I1 ea c n l r fun s' I' => ?_))))
  exact PyProof.Rows.wpAny_release' ⟨σ, _, I', q⟩
end
/-! ### _law_taken: some number of 0 .. many - 1; the row turns -/
def spTaken (K : PySem.W.Frag) : Sp := fun vs H Q _ => ∃ (r : Addr) (n : Int), vs = [.ref r, .int n] ∧ 0 < n ∧ RowAt K r H ∧
  ∀ (v : Int) (H' : Hp), 0 ≤ v → v < n → RowAt K r H' → Kp r H H' → Q (.int v) H'
section
variable {P : Program} {w : World} {K : PySem.W.Frag} {mg : Str → Option Value} {base : Heap}
theorem ok_Ltaken (T : Txt K mg) : FnOk P w K mg base CX0 1 T.f_Ltaken T.fd_Ltaken P_Ltaken (spTaken K) := by
  refine T.F_Ltaken.ok sc_Ltaken (fun vs H Q E h => ?_) (fun cdv A outer s H vs Q E hr h => ?_)
  · obtain ⟨r, n, rfl, _⟩ := h
    rfl
  · obtain ⟨r, n, rfl, hn, ⟨a, i, m, ns, hrow, hScr, hi, hm0, hm⟩, k⟩ := h
    have hS := hScr.sql
    refine ⟨_, ((pss_cons (ps_asg (pe_op op_add (pe_ix ix_list (pv 0) pe_int (fun _ _ => rfl)) pe_int) (pg_sub (pv 0) pe_int set_list))
  (pss_cons (ps_if (pt_cmpR op_gt (pe_ix ix_list (pv 0) pe_int (fun _ _ => rfl)) (pe_callB call_len_seq (by rfl) T.z_len (by decide +kernel) (pa_cons (pe_ix ix_list (pv 0) pe_int (fun _ _ => rfl)) pa_nil)) (nomark _)) (pss_cons (ps_asg (pe_op op_mod (pe_op op_add (pe_op op_mul (pe_ix ix_list (pv 0) pe_int (fun _ _ => rfl)) pe_int) pe_int) pe_int) (pg_sub (pv 0) pe_int set_list))
  (pss_one (ps_ret (pe_op op_mod (pe_op op_fdiv (pe_ix ix_list (pv 0) pe_int (fun _ _ => rfl)) pe_int) (pv 1))))) pss_nil)
  (pss_cons (ps_set (i := 2) sc_Ltaken.nd rfl (Or.inl rfl) (pe_ix ix_list (pe_ix ix_list (pv 0) pe_int (fun _ _ => rfl)) (pe_op op_sub (pe_ix ix_list (pv 0) pe_int (fun _ _ => rfl)) pe_int) (fun _ _ => rfl)))
  (pss_cons (ps_asg (pe_op op_mod (pe_op op_add (pe_op op_add (pe_op op_mul (pe_ix ix_list (pv 0) pe_int (fun _ _ => rfl)) pe_int) (pv 2)) pe_int) pe_int) (pg_sub (pv 0) pe_int set_list))
  (pss_one (ps_ret (pe_op op_mod (pv 2) (pv 1))))))))), ?_⟩
    have key : ∀ (j m' : Int), 0 ≤ j → 0 ≤ m' → m' < 2147483647 → ∀ v, 0 ≤ v → v < n → ∀ H', H' r = some (.lst [.ref a, .int j, .int m']) → Kp r H H' → Q (.int v) H' :=
      fun j m' hj h0 h1 v v0 v1 H' e kp => k v H' v0 v1 ⟨a, j, m', ns, e, hScr.move fun b o u eb => kp _ _ (fun z => by rw [z, hrow] at eb; cases eb) eb, hj, h0, h1⟩ kp
    -- row[1] = row[1] + 1
    refine ⟨_, rfl, r, _, _, _, rfl, rfl, SqL.of hrow, at1, _, _, rfl, rfl, _, rfl, r, _, _, 1, rfl, rfl, hrow, rfl, ?_⟩
    generalize hH1 : upd H r _ = H1
    have k1 : Kp r H H1 := by rw [← hH1]; exact (Kp.refl r H).put
    have r1 : H1 r = some (.lst [.ref a, .int (i + 1), .int m]) := by rw [← hH1]; exact upd_same
    have s1 := (hScr.move (fun b o u eb => k1 _ _ (fun z => by rw [z, hrow] at eb; cases eb) eb)).sql
    -- if row[1] > len(row[0])
    refine ⟨_, rfl, r, _, _, _, rfl, rfl, SqL.of r1, at1, _, rfl, r, _, _, _, rfl, rfl, SqL.of r1, at0, a, _, rfl, .inl s1, _, _, rfl, rfl, _, rfl, ?_⟩
    rw [List.length_map]
    refine ite2 (fun hc => ?_) (fun hc => ?_)
    · refine ⟨_, rfl, r, _, _, _, rfl, rfl, SqL.of r1, at2, _, _, rfl, rfl, .inl ⟨by omega, by omega⟩, _, _, rfl, rfl, _, _, rfl, rfl, (by show (0 : Int) < 2147483647; decide), _, rfl, r, _, _, 2, rfl, rfl, r1, rfl, ?_⟩
      refine ⟨_, rfl, r, _, _, _, rfl, rfl, SqL.of upd_same, at2, _, _, rfl, rfl, ⟨by decide, by decide⟩, _, rfl, _, _, rfl, rfl, hn, ?_⟩
      refine key (i + 1) ((m * 48271 + 11) % 2147483647) (by omega) (Int.emod_nonneg _ (by decide)) (Int.emod_lt_of_pos _ (by decide)) _ (Int.emod_nonneg _ (by omega)) (Int.emod_lt_of_pos _ hn) _ upd_same k1.put
    · have hc' : ¬ (i + 1 > (ns.length : Int)) := fun z => hc (decide_eq_true z)
      obtain ⟨z, hz⟩ := at_ints (ns := ns) (i := i + 1 - 1) (by omega) (by omega)
      refine ⟨_, rfl, r, _, _, _, rfl, rfl, SqL.of r1, at0, _, rfl, r, _, _, _, rfl, rfl, SqL.of r1, at1, _, _, rfl, rfl, a, _, _, _, rfl, rfl, s1, hz, ?_⟩
      refine ⟨_, rfl, r, _, _, _, rfl, rfl, SqL.of r1, at2, _, _, rfl, rfl, .inl ⟨by omega, by omega⟩, _, rfl, _, _, rfl, rfl, _, _, rfl, rfl, _, _, rfl, rfl, (by show (0 : Int) < 2147483647; decide), _, rfl, r, _, _, 2, rfl, rfl, r1, rfl, ?_⟩
      refine ⟨_, rfl, _, rfl, _, _, rfl, rfl, hn, ?_⟩
      exact key (i + 1) ((m * 48271 + z + 11) % 2147483647) (by omega) (Int.emod_nonneg _ (by decide)) (Int.emod_lt_of_pos _ (by decide)) _ (Int.emod_nonneg _ (by omega)) (Int.emod_lt_of_pos _ hn) _ upd_same k1.put
end
/-! ### roads, rows -/
structure Rds where
  l0 : Int
  m0 : Int
  l1 : Int
  m1 : Int
def Rds.Ok (R : Rds) : Prop := (0 ≤ R.l0 ∧ R.l0 ≤ R.m0 ∧ R.m0 ≤ 9) ∧ (0 ≤ R.l1 ∧ R.l1 ≤ R.m1 ∧ R.m1 ≤ 9)
def RoadsAt (H : Hp) (p : Addr) (R : Rds) : Prop := ∃ t0 t1 : Addr, H p = some (.tup [.ref t0, .ref t1]) ∧ H t0 = some (.tup [.int R.l0, .int R.m0]) ∧ H t1 = some (.tup [.int R.l1, .int R.m1])
theorem RoadsAt.same {H H' : Hp} {p : Addr} {R : Rds} (s : Same H H') (h : RoadsAt H p R) : RoadsAt H' p R := by
  obtain ⟨t0, t1, h1, h2, h3⟩ := h
  exact ⟨t0, t1, s _ _ h1, s _ _ h2, s _ _ h3⟩
theorem tup_ne {H : Hp} {a b : Addr} {xs ys : List V} (ha : H a = some (.tup xs)) (hb : H b = some (.lst ys)) : a ≠ b := fun z => by
  rw [z, hb] at ha; cases ha
theorem Kp.tup {K : PySem.W.Frag} {r : Addr} {H H' : Hp} {a : Addr} {xs : List V} (k : Kp r H H') (w : RowAt K r H) (h : H a = some (.tup xs)) : H' a = some (.tup xs) := by
  obtain ⟨ys, hr⟩ := w.lst
  exact k _ _ (tup_ne h hr) h
theorem Kp.roads {K : PySem.W.Frag} {r : Addr} {H H' : Hp} {p : Addr} {R : Rds} (k : Kp r H H') (w : RowAt K r H) (h : RoadsAt H p R) : RoadsAt H' p R := by
  obtain ⟨t0, t1, h1, h2, h3⟩ := h
  exact ⟨t0, t1, k.tup w h1, k.tup w h2, k.tup w h3⟩
/-- a lateness or None -/
abbrev Lt := Option Int
def oV : Lt → V
  | none => .non
  | some i => .int i
structure RowsAt (H : Hp) (q a b : Addr) (R0 R1 : List Lt) : Prop where
  hq : H q = some (.tup [.ref a, .ref b])
  ha : H a = some (.lst (R0.map oV))
  hb : H b = some (.lst (R1.map oV))
  ne : a ≠ b
theorem RowsAt.same {H H' : Hp} {q a b : Addr} {R0 R1 : List Lt} (s : Same H H') (h : RowsAt H q a b R0 R1) : RowsAt H' q a b R0 R1 := ⟨s _ _ h.hq, s _ _ h.ha, s _ _ h.hb, h.ne⟩
theorem Kp.rows {K : PySem.W.Frag} {r : Addr} {H H' : Hp} {q a b : Addr} {R0 R1 : List Lt} (k : Kp r H H') (w : RowAt K r H) (na : a ≠ r) (nb : b ≠ r) (h : RowsAt H q a b R0 R1) : RowsAt H' q a b R0 R1 :=
  ⟨k.tup w h.hq, k _ _ na h.ha, k _ _ nb h.hb, h.ne⟩
/-- each lateness within a road's -/
def Fits (l m : Int) (R : List Lt) : Prop := ∀ x ∈ R, ∀ v, x = some v → l ≤ v ∧ v ≤ m
theorem Fits.nil {l m : Int} : Fits l m [] := fun _ h => absurd h (List.not_mem_nil)
theorem Fits.snoc {l m : Int} {R : List Lt} {x : Lt} (h : Fits l m R) (hx : ∀ v, x = some v → l ≤ v ∧ v ≤ m) : Fits l m (R ++ [x]) := fun y hy => by
  rcases List.mem_append.mp hy with hy | hy
  · exact h y hy
  · rw [List.mem_singleton.mp hy]; exact hx
/-- ints of a written list, the place within -/
theorem at_menu {ns : List Int} {i : Int} (h0 : 0 ≤ i) (h1 : i < ns.length) : ∃ z ∈ ns, atI (ns.map V.int) i = some (.int z) := by
  obtain ⟨j, rfl⟩ := Int.eq_ofNat_of_zero_le h0
  have hj : j < ns.length := by omega
  exact ⟨ns[j], List.getElem_mem hj, atI_nat (by rw [List.getElem?_map, List.getElem?_eq_getElem hj]; rfl)⟩
theorem sz1000 {n : Nat} (h : n ≤ 1000) : n ≤ sizeLine := Nat.le_of_lt (small1000 h)
theorem len2 {α : Type} : ∀ {l : List α}, l.length = 2 → ∃ a b, l = [a, b]
  | [a, b], _ => ⟨a, b, rfl⟩
/-- a lateness as data -/
def oD : Lt → PyData
  | none => .none
  | some i => .int i
theorem dp_o {K : PySem.W.Frag} {H : Hp} : ∀ x : Lt, Dp K H (oV x) (oD x)
  | none => .non
  | some i => .int i
theorem dp_all {K : PySem.W.Frag} {H : Hp} : ∀ xs : List Lt, DpAll K H (xs.map oV) (xs.map oD)
  | [] => .nil
  | x :: xs => .cons (dp_o x) (dp_all xs)
/-- the road at place j -/
def Rds.lo (R : Rds) (j : Nat) : Int := if j = 0 then R.l0 else R.l1
def Rds.hi (R : Rds) (j : Nat) : Int := if j = 0 then R.m0 else R.m1
theorem road_at {H : Hp} {t0 t1 : Addr} {R : Rds} (g2 : H t0 = some (.tup [.int R.l0, .int R.m0])) (g3 : H t1 = some (.tup [.int R.l1, .int R.m1])) {j : Nat} (hj : j < 2) :
    ∃ t : Addr, atI ([.ref t0, .ref t1] : List V) ((0 : Int) + (j : Int)) = some (.ref t) ∧ H t = some (.tup [.int (R.lo j), .int (R.hi j)]) := by
  have hj' : j = 0 ∨ j = 1 := by omega
  rcases hj' with rfl | rfl
  · exact ⟨t0, at0, g2⟩
  · exact ⟨t1, at1, g3⟩
theorem Rds.ok_at {R : Rds} (h : R.Ok) {j : Nat} : 0 ≤ R.lo j ∧ R.lo j ≤ R.hi j ∧ R.hi j ≤ 9 := by
  obtain ⟨h1, h2⟩ := h
  unfold Rds.lo Rds.hi
  by_cases c : j = 0
  · rw [if_pos c, if_pos c]; exact h1
  · rw [if_neg c, if_neg c]; exact h2
/-- the row at place j -/
theorem row_at {K : PySem.W.Frag} {H : Hp} {a b : Addr} {R0 R1 : List Lt} {R : Rds} (ha : SqL K H a (R0.map oV)) (hb : SqL K H b (R1.map oV)) (f0 : Fits R.l0 R.m0 R0) (f1 : Fits R.l1 R.m1 R1) (hl : R0.length = R1.length) {j : Nat} (hj : j < 2) :
    ∃ (c : Addr) (Y : List Lt), atI ([.ref a, .ref b] : List V) ((0 : Int) + (j : Int)) = some (.ref c) ∧ SqL K H c (Y.map oV) ∧ Fits (R.lo j) (R.hi j) Y ∧ Y.length = R0.length := by
  have hj' : j = 0 ∨ j = 1 := by omega
  rcases hj' with rfl | rfl
  · exact ⟨a, R0, at0, ha, f0, rfl⟩
  · exact ⟨b, R1, at1, hb, f1, hl.symm⟩
/-- an item of a row -/
theorem at_row {Y : List Lt} {i : Nat} (hi : i < Y.length) : ∃ x ∈ Y, atI (Y.map oV) ((0 : Int) + (i : Int)) = some (oV x) :=
  ⟨Y[i], List.getElem_mem hi, by rw [Int.zero_add]; exact atI_nat (by rw [List.getElem?_map, List.getElem?_eq_getElem hi]; rfl)⟩
/-- rows of roads, to be read -/
structure Rws (K : PySem.W.Frag) (H : Hp) (q a b : Addr) (R : Rds) (R0 R1 : List Lt) : Prop where
  q : SqT K H q [.ref a, .ref b]
  a : SqL K H a (R0.map oV)
  b : SqL K H b (R1.map oV)
  len : R0.length = R1.length
  most : R0.length ≤ 80
  f0 : Fits R.l0 R.m0 R0
  f1 : Fits R.l1 R.m1 R1
/-! ### _law_roads: two roads -/
def spRoads (K : PySem.W.Frag) : Sp := fun vs H Q _ => ∃ (r : Addr), vs = [.ref r] ∧ RowAt K r H ∧
  ∀ (p : Addr) (R : Rds) (H' : Hp), RoadsAt H' p R → R.Ok → H p = none → RowAt K r H' → Kp r H H' → Q (.ref p) H'
section
variable {P : Program} {w : World} {K : PySem.W.Frag} {mg : Str → Option Value} {base : Heap}
theorem ok_Lroads (T : Txt K mg) : FnOk P w K mg base CX0 2 T.f_Lroads T.fd_Lroads P_Lroads (spRoads K) := by
  refine T.F_Lroads.ok sc_Lroads (fun vs H Q E h => ?_) (fun cdv A outer s H vs Q E hr h => ?_)
  · obtain ⟨r, rfl, _⟩ := h
    rfl
  · obtain ⟨r, rfl, hrow, k⟩ := h
    refine ⟨_, ((pss_cons (ps_set (i := 1) sc_Lroads.nd rfl (Or.inl rfl) (pe_lst pa_nil))
  (pss_cons (ps_for PassesOwn.never rfl (pi_range1 (by rfl) T.z_range (pa_cons pe_int pa_nil)) (pg_name (i := 2) sc_Lroads.nd rfl (Or.inl rfl))
  (pss_cons (ps_set (i := 3) sc_Lroads.nd rfl (Or.inl rfl) (pe_call (ok_Ltaken T) (hr.mono (by decide)) (by rfl) T.mg_Ltaken T.kp_Ltaken T.b_Ltaken .nil pass0 (pa_cons (pv 0) (pa_cons (pe_ix ix_list (pe_lst (pa_cons pe_int (pa_cons pe_int pa_nil))) (pe_call (ok_Ltaken T) (hr.mono (by decide)) (by rfl) T.mg_Ltaken T.kp_Ltaken T.b_Ltaken .nil pass0 (pa_cons (pv 0) (pa_cons pe_int pa_nil))) (fun _ _ => rfl)) pa_nil))))
  (pss_one (ps_expr (pe_bm PySem.F.plainAttrs_list PySem.F.slot_list_append PySem.F.type_list_append mt_append (pv 1) (pa_cons (pe_tup (pa_cons (pv 3) (pa_cons (pe_callB (call_min2 rfl) (by rfl) T.z_min (by decide +kernel) (pa_cons pe_int (pa_cons (pe_op op_add (pv 3) (pe_ix ix_list (pe_lst (pa_cons pe_int (pa_cons (pe_call (ok_Ltaken T) (hr.mono (by decide)) (by rfl) T.mg_Ltaken T.kp_Ltaken T.b_Ltaken .nil pass0 (pa_cons (pv 0) (pa_cons pe_int pa_nil))) (pa_cons (pe_call (ok_Ltaken T) (hr.mono (by decide)) (by rfl) T.mg_Ltaken T.kp_Ltaken T.b_Ltaken .nil pass0 (pa_cons (pv 0) (pa_cons pe_int pa_nil))) pa_nil)))) (pe_call (ok_Ltaken T) (hr.mono (by decide)) (by rfl) T.mg_Ltaken T.kp_Ltaken T.b_Ltaken .nil pass0 (pa_cons (pv 0) (pa_cons pe_int pa_nil))) (fun _ _ => rfl))) pa_nil))) pa_nil))) pa_nil))))))
  (pss_one (ps_ret (pe_tup (pa_cons (pe_ix ix_list (pv 1) pe_int (fun _ _ => rfl)) (pa_cons (pe_ix ix_list (pv 1) pe_int (fun _ _ => rfl)) pa_nil)))))))), ?_⟩
    -- found = []
    refine ⟨by show 0 ≤ sizeLine; decide, fun f hf => ?_⟩
    have hfr : f ≠ r := hrow.ne hf
    have row0 := hrow.new (o := .lst []) hf
    have kp0 : Kp r H (upd H f (.lst [])) := (Kp.refl r H).new hf
    -- for road in range(2)
    refine ⟨_, rfl, by decide, by decide, for_range (n := 2) (fun i σ H' => ∃ (v2 v3 : Option V) (ts : List (Addr × Int × Int)), σ = [some (.ref r), some (.ref f), v2, v3] ∧ ts.length = i ∧
      H' f = some (.lst (ts.map fun t => V.ref t.1)) ∧ (∀ t ∈ ts, H' t.1 = some (.tup [.int t.2.1, .int t.2.2]) ∧ 0 ≤ t.2.1 ∧ t.2.1 ≤ t.2.2 ∧ t.2.2 ≤ 9) ∧ RowAt K r H' ∧ Kp r H H')
      ⟨none, none, [], rfl, rfl, upd_same, fun t ht => absurd ht List.not_mem_nil, row0, kp0⟩ ?_ ?_⟩
    · rintro i σ H1 hi ⟨v2, v3, ts, rfl, hl, hf1, hts, row1, k1⟩
      -- least = taken(row, [3, 10][taken(row, 2)])
      refine ⟨_, rfl, by show 2 ≤ sizeLine; decide, fun p hp => ?_⟩
      refine ⟨_, rfl, r, _, rfl, by decide, row1.new hp, fun j H2 j0 j1 row2 k2 => ?_⟩
      have hpr : p ≠ r := row1.ne hp
      have hz : ∃ z ∈ [(3 : Int), 10], atI ([(3 : Int), 10].map V.int) j = some (.int z) := at_menu j0 j1
      obtain ⟨z, hmem, hz⟩ := hz
      have hz3 : 3 ≤ z ∧ z ≤ 10 := by
        simp only [List.mem_cons, List.not_mem_nil, or_false] at hmem
        rcases hmem with h | h <;> omega
      refine ⟨p, _, j, _, rfl, rfl, SqL.of (k2 _ _ hpr upd_same), hz, ?_⟩
      refine ⟨r, _, rfl, by omega, row2, fun l H3 l0 l1 row3 k3 => ?_⟩
      have kk : Kp r H1 H3 := ((Kp.refl r H1).new hp).trans (k2.trans k3)
      -- found.append((least, min(9, least + [0, taken(row, 3), taken(row, 10)][taken(row, 3)])))
      have hf3 := kk _ _ hfr hf1
      refine ⟨_, rfl, .inl ⟨rfl, _, SqL.of hf3⟩, ?_⟩
      refine ⟨_, rfl, _, rfl, _, rfl, r, _, rfl, by decide, row3, fun x H4 x0 x1 row4 k4 => ?_⟩
      refine ⟨_, rfl, r, _, rfl, by decide, row4, fun y H5 y0 y1 row5 k5 => ?_⟩
      refine ⟨by show 3 ≤ sizeLine; decide, fun p2 hp2 => ?_⟩
      refine ⟨_, rfl, r, _, rfl, by decide, row5.new hp2, fun j2 H6 j20 j21 row6 k6 => ?_⟩
      have hp2r : p2 ≠ r := row5.ne hp2
      have hz2 : ∃ z ∈ [(0 : Int), x, y], atI ([(0 : Int), x, y].map V.int) j2 = some (.int z) := at_menu j20 j21
      obtain ⟨z2, hmem2, hz2⟩ := hz2
      have hz2r : 0 ≤ z2 := by
        simp only [List.mem_cons, List.not_mem_nil, or_false] at hmem2
        rcases hmem2 with h | h | h <;> omega
      refine ⟨p2, _, j2, _, rfl, rfl, SqL.of (k6 _ _ hp2r upd_same), hz2, ?_⟩
      refine ⟨_, _, rfl, rfl, _, _, rfl, ?_⟩
      refine ⟨by show 2 ≤ sizeLine; decide, fun t ht => ?_⟩
      have k36 : Kp r H3 H6 := k4.trans (k5.trans (((Kp.refl r H5).new hp2).trans k6))
      have htr : t ≠ r := row6.ne ht
      have hf6 := k36 _ _ hfr hf3
      have hft : f ≠ t := ne_of_none hf6 ht
      have row7 := row6.new (o := .tup [.int l, .int (if l + z2 < 9 then l + z2 else 9)]) ht
      refine ⟨f, _, _, rfl, rfl, by rw [upd_ne hft]; exact hf6, small1000 (by rw [List.length_map]; omega), ?_⟩
      have old : ∀ b o, b ≠ r → b ≠ f → H1 b = some o → (upd (upd H6 t (.tup [.int l, .int (if l + z2 < 9 then l + z2 else 9)])) f (.lst (ts.map (fun t => V.ref t.1) ++ [.ref t]))) b = some o := fun b o br bf hb => by
        rw [upd_ne bf]
        exact ((kk.trans k36).new ht) b o br hb
      refine ⟨_, _, ts ++ [(t, l, if l + z2 < 9 then l + z2 else 9)], rfl, by rw [List.length_append, hl]; rfl, by rw [upd_same, List.map_append]; rfl, fun u hu => ?_, ?_, ?_⟩
      · rcases List.mem_append.mp hu with hu | hu
        · obtain ⟨e1, e2⟩ := hts u hu
          exact ⟨old _ _ (tup_ne e1 row1.lst.choose_spec) (tup_ne e1 hf1) e1, e2⟩
        · rw [List.mem_singleton.mp hu]
          refine ⟨by rw [upd_ne hft.symm]; exact upd_same, l0, ?_, ?_⟩
          · show l ≤ if l + z2 < 9 then l + z2 else 9
            split <;> omega
          · show (if l + z2 < 9 then l + z2 else 9) ≤ 9
            split <;> omega
      · exact row7.put hfr (by rw [upd_ne hft]; exact hf6)
      · exact (k1.trans ((kk.trans k36).new ht)).mut hf
    · -- return (found[0], found[1])
      rintro σ H1 ⟨v2, v3, ts, rfl, hl, hf1, hts, row1, k1⟩
      obtain ⟨t0, t1, rfl⟩ := len2 hl
      obtain ⟨a1, a2, a3, a4⟩ := hts t0 (by simp)
      obtain ⟨b1, b2, b3, b4⟩ := hts t1 (by simp)
      refine ⟨_, rfl, f, _, _, _, rfl, rfl, SqL.of hf1, at0, _, rfl, f, _, _, _, rfl, rfl, SqL.of hf1, at1, by show 2 ≤ sizeLine; decide, fun p hp => ?_⟩
      have hpH : H p = none := by
        cases e : H p with
        | none => rfl
        | some o =>
          have n : p ≠ r := row1.ne hp
          rw [k1 p o n e] at hp; cases hp
      exact k p ⟨t0.2.1, t0.2.2, t1.2.1, t1.2.2⟩ _ ⟨t0.1, t1.1, upd_same, by rw [upd_ne (ne_of_none a1 hp)]; exact a1, by rw [upd_ne (ne_of_none b1 hp)]; exact b1⟩ ⟨⟨a2, a3, a4⟩, ⟨b2, b3, b4⟩⟩ hpH (row1.new hp) (k1.new hp)
end
/-! ### need_roads, need_rows of good ones: nothing is refused -/
def spNeedRoads : Sp := fun vs H Q _ => ∃ (p : Addr) (R : Rds), vs = [.ref p] ∧ RoadsAt H p R ∧ R.Ok ∧ Q .non H
def spNeedRows (K : PySem.W.Frag) : Sp := fun vs H Q _ => ∃ (p q a b : Addr) (R : Rds) (R0 R1 : List Lt), vs = [.ref p, .ref q] ∧ RoadsAt H p R ∧ (SqL K H q [.ref a, .ref b] ∨ SqT K H q [.ref a, .ref b]) ∧
  SqL K H a (R0.map oV) ∧ SqL K H b (R1.map oV) ∧ R0.length = R1.length ∧ R0.length ≤ 80 ∧ Fits R.l0 R.m0 R0 ∧ Fits R.l1 R.m1 R1 ∧ Q .non H
section
variable {P : Program} {w : World} {K : PySem.W.Frag} {mg : Str → Option Value} {base : Heap}
theorem ok_need_roads (T : Txt K mg) : FnOk P w K mg base CX0 1 T.f_need_roads T.fd_need_roads P_need_roads spNeedRoads := by
  refine T.F_need_roads.ok sc_need_roads (fun vs H Q E h => ?_) (fun cdv A outer s H vs Q E hr h => ?_)
  · obtain ⟨p, R, rfl, _⟩ := h
    rfl
  · obtain ⟨p, R, rfl, ⟨t0, t1, g1, g2, g3⟩, ⟨⟨q1, q2, q3⟩, q4, q5, q6⟩, k⟩ := h
    refine ⟨_, ((pss_one (ps_for PassesOwn.never rfl (pi_range1 (by rfl) T.z_range (pa_cons pe_int pa_nil)) (pg_name (i := 1) sc_need_roads.nd rfl (Or.inl rfl))
  (pss_cons (ps_asg (pe_ix ix_tup (pv 0) (pv 1) (fun _ _ => rfl)) (pg_tup rfl (pgs_cons (pg_name (i := 2) sc_need_roads.nd rfl (Or.inl rfl)) (pgs_cons (pg_name (i := 3) sc_need_roads.nd rfl (Or.inl rfl)) pgs_nil))))
  (pss_one (ps_if (pt_not (pt_chain3 op_le op_le op_le pe_int (pv 2) (pv 3) (pe_glob rfl T.mg_MOST_LATE T.rv_MOST_LATE))) (pss_one ps_never) pss_nil)))))), ?_⟩
    refine ⟨_, rfl, by decide, by decide, for_range (n := 2) (fun i σ H' => H' = H ∧ ∃ v1 v2 v3 : Option V, σ = [some (.ref p), v1, v2, v3]) ⟨rfl, none, none, none, rfl⟩ ?_ ?_⟩
    · rintro i σ H1 hi ⟨rfl, v1, v2, v3, rfl⟩
      obtain ⟨t, ha, ht⟩ := road_at (R := R) g2 g3 hi
      obtain ⟨h0, h1, h2⟩ := Rds.ok_at (j := i) ⟨⟨q1, q2, q3⟩, q4, q5, q6⟩
      refine ⟨_, rfl, _, rfl, p, _, _, _, rfl, rfl, SqT.of g1, ha, t, _, rfl, SqT.of ht, rfl, _, _, rfl, _, _, rfl, rfl, ?_⟩
      exact ⟨_, rfl, _, _, rfl, rfl, _, rfl, iteD h0 ⟨_, rfl, _, _, rfl, rfl, _, rfl, iteD h1 ⟨_, _, rfl, rfl, _, rfl, iteNS h2 ⟨rfl, _, _, _, rfl⟩⟩⟩⟩
    · rintro σ H1 ⟨rfl, v1, v2, v3, rfl⟩
      exact k
theorem ok_need_rows (T : Txt K mg) : FnOk P w K mg base CX0 1 T.f_need_rows T.fd_need_rows P_need_rows (spNeedRows K) := by
  refine T.F_need_rows.ok sc_need_rows (fun vs H Q E h => ?_) (fun cdv A outer s H vs Q E hr h => ?_)
  · obtain ⟨p, q, a, b, R, R0, R1, rfl, _⟩ := h
    rfl
  · obtain ⟨p, q, a, b, R, R0, R1, rfl, ⟨t0, t1, g1, g2, g3⟩, hq, ha, hb, hl, h80, f0, f1, k⟩ := h
    refine ⟨_, ((pss_cons (ps_for PassesOwn.never rfl (pi_range1 (by rfl) T.z_range (pa_cons pe_int pa_nil)) (pg_name (i := 2) sc_need_rows.nd rfl (Or.inl rfl))
  (pss_cons (ps_asg (pe_ix ix_tup (pv 0) (pv 2) (fun _ _ => rfl)) (pg_tup rfl (pgs_cons (pg_name (i := 3) sc_need_rows.nd rfl (Or.inl rfl)) (pgs_cons (pg_name (i := 4) sc_need_rows.nd rfl (Or.inl rfl)) pgs_nil))))
  (pss_one (ps_for PassesOwn.never rfl (pi_range1 (by rfl) T.z_range (pa_cons (pe_callB call_len_seq (by rfl) T.z_len (by decide +kernel) (pa_cons (pe_ix ix_seq (pv 1) (pv 2) (fun _ _ => rfl)) pa_nil)) pa_nil)) (pg_name (i := 5) sc_need_rows.nd rfl (Or.inl rfl))
  (pss_cons (ps_set (i := 6) sc_need_rows.nd rfl (Or.inl rfl) (pe_ix ix_list (pe_ix ix_seq (pv 1) (pv 2) (fun _ _ => rfl)) (pv 5) (fun _ _ => rfl)))
  (pss_one (ps_if (PW.pt (pw_or (pt_cmpR op_ge (pv 5) (pe_glob rfl T.mg_MOST_THINGS T.rv_MOST_THINGS) (nomark _)) (pw_or1 (PW.pt (pw_and (pt_cmp (pc_notN (pv 6))) (pw_and1 (pt_not (pt_chain op_le op_le (pv 3) (pv 6) (pv 4))))))))) (pss_one ps_never) pss_nil)))))))
  (pss_one (ps_if (pt_cmpR op_ne (pe_callB call_len_seq (by rfl) T.z_len (by decide +kernel) (pa_cons (pe_ix ix_seq (pv 1) pe_int (fun _ _ => rfl)) pa_nil)) (pe_callB call_len_seq (by rfl) T.z_len (by decide +kernel) (pa_cons (pe_ix ix_seq (pv 1) pe_int (fun _ _ => rfl)) pa_nil)) (nomark _)) (pss_one ps_never) pss_nil)))), ?_⟩
    have ixq : ∀ {j : Int} {v : V} {Q : VK}, atI ([.ref a, .ref b] : List V) j = some v → Q v H → rIx K (.ref q) (.int j) H Q := fun hat q => by
      rcases hq with hq | hq
      · exact .inl ⟨_, _, _, _, rfl, rfl, hq, hat, q⟩
      · exact .inr (.inl ⟨_, _, _, _, rfl, rfl, hq, hat, q⟩)
    refine ⟨_, rfl, by decide, by decide, for_range (n := 2) (fun i σ H' => H' = H ∧ ∃ v2 v3 v4 v5 v6 : Option V, σ = [some (.ref p), some (.ref q), v2, v3, v4, v5, v6]) ⟨rfl, none, none, none, none, none, rfl⟩ ?_ ?_⟩
    · rintro i σ H1 hi ⟨rfl, v2, v3, v4, v5, v6, rfl⟩
      obtain ⟨t, hat, ht⟩ := road_at (R := R) g2 g3 hi
      obtain ⟨c, Y, hc, hY, fY, lY⟩ := row_at ha hb f0 f1 hl hi
      refine ⟨_, rfl, _, rfl, p, _, _, _, rfl, rfl, SqT.of g1, hat, t, _, rfl, SqT.of ht, rfl, _, _, rfl, _, _, rfl, rfl, ?_⟩
      refine ⟨_, rfl, _, rfl, ixq hc ⟨c, _, rfl, .inl hY, _, rfl, by omega, ?_, for_range (n := ((Y.map oV).length : Int).toNat) (fun i2 σ H' => H' = H1 ∧ ∃ v5 v6 : Option V, σ = [some (.ref p), some (.ref q), some (.int (0 + i)), some (.int (R.lo i)), some (.int (R.hi i)), v5, v6]) ⟨rfl, v5, v6, rfl⟩ ?_ ?_⟩⟩
      · rw [List.length_map]; omega
      · rintro j σ H2 hj ⟨rfl, v5, v6, rfl⟩
        have hj2 : j < Y.length := by rw [List.length_map] at hj; omega
        obtain ⟨x, hx, hax⟩ := at_row hj2
        refine ⟨_, rfl, _, rfl, ixq hc ⟨_, rfl, c, _, _, _, rfl, rfl, hY, hax, ?_⟩⟩
        refine ⟨_, rfl, _, _, rfl, rfl, _, rfl, iteND (by show ¬ ((80 : Int) ≤ 0 + j); omega) ?_⟩
        cases x with
        | none => exact ⟨_, rfl, _, rfl, iteF (iteF ⟨rfl, _, _, rfl⟩)⟩
        | some z =>
          obtain ⟨z0, z1⟩ := fY _ hx z rfl
          exact ⟨_, rfl, _, rfl, iteT ⟨_, rfl, _, rfl, _, _, rfl, rfl, _, rfl, iteD z0 ⟨_, rfl, _, _, rfl, rfl, _, rfl, iteNS z1 ⟨rfl, _, _, rfl⟩⟩⟩⟩
      · rintro σ H2 ⟨rfl, v5, v6, rfl⟩
        exact ⟨rfl, _, _, _, _, _, rfl⟩
    · rintro σ H1 ⟨rfl, v2, v3, v4, v5, v6, rfl⟩
      refine ⟨_, rfl, ixq at0 ⟨a, _, rfl, .inl ha, _, rfl, ixq at1 ⟨b, _, rfl, .inl hb, ?_⟩⟩⟩
      rw [List.length_map, List.length_map, hl]
      exact ⟨rfl, _, rfl, iteNS rfl k⟩
end
end Tp
/-! ### sorted of triples of whole numbers, any number of them -/
namespace Tri
open PySem PyProof.Rows Srt SrtO
section
variable {prog : Program} {w : World} {A : Around} {E : Value → Shared → Prop} {s : Shared}
abbrev I3 := Int × Int × Int
def IsTri (h : Heap) (v : Value) (k : I3) : Prop := ∃ a o t u z n, v = .ref a ∧ h.get? a = some o ∧ o.cls = .type "tuple" ∧ o.data = .seq #[.int k.1 t, .int k.2.1 u, .int k.2.2 z] n
theorem IsTri.keep {h h' : Heap} {v : Value} {k : I3} (p : IsTri h v k) (kp : ∀ b o, h.get? b = some o → o.cls = .type "tuple" → h'.get? b = some o) : IsTri h' v k := by
  obtain ⟨a, o, t, u, z, n, e, ho, hc, hd⟩ := p
  exact ⟨a, o, t, u, z, n, e, kp _ _ ho hc, hc, hd⟩
theorem heads {h : Heap} {k : Value → I3} : ∀ {vs : List Value}, (∀ v ∈ vs, IsTri h v (k v)) → ∃ fs : List Value, PySem.W.KatTups h vs fs ∧ fs.length = vs.length ∧ ∀ f ∈ fs, ∃ x t, f = Value.int x t
  | [], _ => ⟨[], .nil, rfl, fun _ m => absurd m List.not_mem_nil⟩
  | v :: vs, hp => by
    obtain ⟨fs, h1, h2, h3⟩ := heads (vs := vs) fun v' m => hp v' (List.mem_cons_of_mem _ m)
    obtain ⟨a, o, t, u, z, n, e, ho, hc, hd⟩ := hp v List.mem_cons_self
    refine ⟨.int (k v).1 t :: fs, ?_, by rw [List.length_cons, List.length_cons, h2], fun f m => ?_⟩
    · rw [e] at hd ⊢
      exact .cons ho hc hd rfl h1
    · rcases List.mem_cons.mp m with rfl | m
      · exact ⟨_, _, rfl⟩
      · exact h3 f m
def lex3 (p q : I3) : Bool := if p.1 = q.1 then (if p.2.1 = q.2.1 then decide (p.2.2 < q.2.2) else decide (p.2.1 < q.2.1)) else decide (p.1 < q.1)
theorem lex3_iff {p q : I3} : lex3 p q = true ↔ p.1 < q.1 ∨ (p.1 = q.1 ∧ (p.2.1 < q.2.1 ∨ (p.2.1 = q.2.1 ∧ p.2.2 < q.2.2))) := by
  unfold lex3
  by_cases e : p.1 = q.1
  · rw [if_pos e]
    by_cases e2 : p.2.1 = q.2.1
    · rw [if_pos e2, decide_eq_true_eq]; omega
    · rw [if_neg e2, decide_eq_true_eq]; omega
  · rw [if_neg e, decide_eq_true_eq]; omega
theorem lex3_no {p q : I3} : lex3 p q = false ↔ ¬ (p.1 < q.1 ∨ (p.1 = q.1 ∧ (p.2.1 < q.2.1 ∨ (p.2.1 = q.2.1 ∧ p.2.2 < q.2.2)))) := by
  rw [← lex3_iff]
  cases lex3 p q <;> simp
theorem swo3 {α : Type} (k : α → I3) : Swo fun v u => lex3 (k v) (k u) := by
  refine ⟨fun x y h => ?_, fun x y z h1 h2 => ?_⟩
  · have a := lex3_iff.mp h
    exact lex3_no.mpr (by omega)
  · have a := lex3_no.mp h1
    have b := lex3_no.mp h2
    exact lex3_no.mpr (by omega)
theorem cmp3 {vs : List Value} {k : Value → I3} (hp : ∀ v ∈ vs, IsTri s.heap v (k v)) : SrtO.Cmp prog w A s (tuples' true) (fun p => p.1 ∈ vs) (lt2 fun v u => lex3 (k v) (k u)) := by
  intro p q m m'
  have h1 := hp _ m
  have h2 := hp _ m'
  show wpAny (model prog w) A (keyLt' (tuples' true) p.1 q.1) (fun r s' => s' = s ∧ r = lex3 (k p.1) (k q.1)) (fun _ _ => False) s
  unfold lex3
  generalize k p.1 = x at h1 ⊢
  generalize k q.1 = y at h2 ⊢
  obtain ⟨x1, x2, x3⟩ := x
  obtain ⟨y1, y2, y3⟩ := y
  obtain ⟨a, o, t, u, z, n, e, ho, hc, hd⟩ := h1
  obtain ⟨a', o', t', u', z', n', e', ho', hc', hd'⟩ := h2
  rw [e, e']
  refine PySem.W.kat_lt ho hd ho' hd' ?_
  show PySem.W.KatLex prog w A true (decide (3 < 3)) _ [(.int x1 t, .int y1 t'), (.int x2 u, .int y2 u'), (.int x3 z, .int y3 z')] 0 s
  dsimp only
  refine PySem.W.kat_cons (SeqAt.EqAt.int_int x1 t y1 t' prog w _ _ ?_)
  refine PySem.W.kat_go (fun e1 => ?_) (fun e1 => ?_)
  · have g1 : x1 = y1 := by simpa using e1
    rw [if_pos g1]
    refine PySem.W.kat_yes (PySem.W.kat_cons (SeqAt.EqAt.int_int x2 u y2 u' prog w _ _ ?_))
    refine PySem.W.kat_go (fun e2 => ?_) (fun e2 => ?_)
    · have g2 : x2 = y2 := by simpa using e2
      rw [if_pos g2]
      refine PySem.W.kat_yes (PySem.W.kat_cons (SeqAt.EqAt.int_int x3 z y3 z' prog w _ _ ?_))
      refine PySem.W.kat_go (fun e3 => ?_) (fun e3 => ?_)
      · have g3 : x3 = y3 := by simpa using e3
        refine PySem.W.kat_yes (PySem.W.kat_nil ⟨rfl, ?_⟩)
        rw [g3]
        exact (decide_eq_false (Int.lt_irrefl _)).symm
      · exact PySem.W.kat_no (PySem.W.kat_one _ _ (PyProof.Rows.lt_int ⟨rfl, rfl⟩))
    · have g2 : ¬ x2 = y2 := by simpa using e2
      rw [if_neg g2]
      exact PySem.W.kat_no (PySem.W.kat_one _ _ (PyProof.Rows.lt_int ⟨rfl, rfl⟩))
  · have g1 : ¬ x1 = y1 := by simpa using e1
    rw [if_neg g1]
    exact PySem.W.kat_no (oneLt_int ⟨rfl, rfl⟩)
theorem sortable3 {a : Addr} {vs : List Value} {k : Value → I3} (h0 : 0 < vs.length) (hp : ∀ v ∈ vs, IsTri s.heap v (k v)) (ha : ∀ o, s.heap.get? a = some o → o.cls ≠ .type "tuple") : SortableO prog w A s a vs fun v u => lex3 (k v) (k u) := by
  intro h' kp
  have hp' : ∀ v ∈ vs, IsTri h' v (k v) := fun v m => (hp v m).keep fun b o e c => kp b o (fun z => by subst z; exact ha o e c) e
  obtain ⟨fs, h1, h2, h3⟩ := heads hp'
  refine ⟨tuples' true, fun Q E hq => ?_, cmp3 hp'⟩
  refine PySem.W.kat_kind (T := .type "int") h1 (by omega) (fun f m => ?_) (by rfl) ?_
  · obtain ⟨x, t, rfl⟩ := h3 f m
    exact PySem.W.Looks.now
  · rw [show (Value.type "int" != Value.type "tuple") = true by decide +kernel]
    exact hq
theorem sorted3 {l : Addr} {vs : List Value} {k : Value → I3} {Q : Value → Shared → Prop} (hl : s.heap.IsList l vs.toArray) (hz : vs.length ≤ sizeLine) (hp : ∀ v ∈ vs, IsTri s.heap v (k v))
    (h : ∀ (h' : Heap) (d : Addr) (out : List Value), Srtd (fun v u => lex3 (k v) (k u)) out → Stb (fun v u => lex3 (k v) (k u)) out vs → (∀ b o, s.heap.get? b = some o → h'.get? b = some o) → s.heap.objs.size ≤ d →
      (∃ n, h'.get? d = some (seqObj "list" out.toArray n)) → Q (.ref d) { s with heap := h' }) :
    wpAny (model prog w) A (call (.builtin "sorted") [.ref l]) Q E s := by
  refine sorted_ord (swo3 k) hl hz (fun h2 h₁ a ha kk => ?_) fun out hs hb => ?_
  · refine sortable3 (s := { s with heap := h₁ }) (by omega) (fun v m => (hp v m).keep fun b o e _ => (kk b o e).2) fun o e => ?_
    have e' := Option.some.inj (e.symm.trans ha)
    subst e'
    intro c
    exact absurd (Value.type.inj c) (by decide)
  · exact h _ _ out hs hb (fun b o e => sortedAll_old e) (Nat.le_succ _) (sortedAll_at s.heap vs out.toArray)
end
end Tri
namespace L2
open PySem PySem.Spec PyProof.Rows
def rSorted3 (K : PySem.W.Frag) : List V → Hp → VK → Prop := fun vs H Q => ∃ (a : Addr) (xs : List V) (k : V → Tri.I3), vs = [V.ref a] ∧ SqL K H a xs ∧ (∀ x ∈ xs, ∃ t, x = V.ref t ∧ H t = some (.tup [.int (k x).1, .int (k x).2.1, .int (k x).2.2])) ∧
  ∀ ys p, SrtO.Srtd (fun x y => Tri.lex3 (k x) (k y)) ys → ys.Perm xs → H p = none → Q (.ref p) (upd H p (.lst ys))
theorem cr_sorted3 {X : Cx} : CallR X (.builtin "sorted") (rSorted3 X.K) := by
  intro pins s σ H vs us Q I r h
  obtain ⟨a, xs, k, rfl, hs, hx, q⟩ := h
  obtain ⟨its, rv, hl, hz⟩ := I.list hs
  obtain ⟨u, rfl, ru⟩ := vals1 r
  obtain rfl : u = Value.ref a := ru
  obtain ⟨e1, e2⟩ := refs_back rv fun x m => (hx x m).imp fun _ z => z.1
  refine Tri.sorted3 (k := fun u => k (backV u)) hl.isList (by rw [← rv.length]; exact hz) (fun v hv => ?_) fun h' d out h1 h2 kp hd hn => ?_
  · obtain ⟨t, rfl⟩ := e2 v hv
    have hm : V.ref t ∈ xs := e1 ▸ List.mem_map.mpr ⟨_, hv, rfl⟩
    obtain ⟨t', e, ht⟩ := hx _ hm
    cases e
    obtain ⟨_, its2, r2, o, ho, hc, n, hd⟩ := I.hok _ _ ht
    cases r2 with
    | cons r1 r2 =>
      cases r2 with
      | cons r3 r4 =>
        cases r4 with
        | cons r5 r6 =>
          cases r6
          obtain ⟨t1, rfl⟩ := r1
          obtain ⟨t2, rfl⟩ := r3
          obtain ⟨t3, rfl⟩ := r5
          exact ⟨t, o, t1, t2, t3, n, rfl, ho, hc, hd⟩
  · have h3 : ∀ u ∈ out, ∃ a, u = Value.ref a := fun u hu => e2 u (h2.perm.mem_iff.mp hu)
    obtain ⟨n, hn⟩ := hn
    have hb : (out.map backV).Perm xs := by
      rw [e1]
      exact h2.perm.map _
    refine ⟨.ref d, upd H d (.lst (out.map backV)), I.laid (t' := s.toks) kp hd ⟨?_, out, n, vals_back h3, hn⟩, rfl, q _ d (SrtO.srtd_map h1) hb (I.hok.fresh hd)⟩
    rw [hb.length_eq]
    exact hz
end L2
namespace Tp
open PySem L2
/-! ### a receiver, plainly -/
/-- a held thing: its number, the thing, since when -/
abbrev E3 := Int × Int × Int
structure Rcv where
  mks : Int
  ah : Int
  wt : Int
structure Rcv.Ok (R : Rcv) : Prop where
  m2 : 2 ≤ R.mks
  m32 : R.mks ≤ 32
  a1 : 1 ≤ R.ah
  am : R.ah < R.mks
  w0 : 0 ≤ R.wt
  w20 : R.wt ≤ 20
structure MS where
  w : Int
  clk : Int
  old : Int
  hs : List E3
def hasN (hs : List E3) (n : Int) : Bool := hs.any fun e => decide (e.1 = n)
def dropN (hs : List E3) (n : Int) : List E3 := hs.filter fun e => decide (e.1 ≠ n)
def goF : Nat → Int → List E3 → List Int × Int × List E3
  | 0, w, hs => ([], w, hs)
  | f + 1, w, hs => match hs.find? fun e => decide (e.1 = w) with
    | none => ([], w, hs)
    | some e => (e.2.1 :: (goF f (w + 1) (dropN hs w)).1, (goF f (w + 1) (dropN hs w)).2)
def go (w : Int) (hs : List E3) : List Int × Int × List E3 := goF hs.length w hs
def comeM (R : Rcv) (S : MS) (mark th : Int) : List Int × MS :=
  if (mark - S.w) % R.mks ≥ R.ah ∨ hasN S.hs (S.w + (mark - S.w) % R.mks) = true then ([], { S with old := S.old + 1 })
  else ((go S.w (S.hs ++ [(S.w + (mark - S.w) % R.mks, th, S.clk)])).1, { S with w := (go S.w (S.hs ++ [(S.w + (mark - S.w) % R.mks, th, S.clk)])).2.1, hs := (go S.w (S.hs ++ [(S.w + (mark - S.w) % R.mks, th, S.clk)])).2.2 })
/-- one from n on was held long enough -/
def longN (wt clk : Int) (hs : List E3) (n : Int) : Bool := hs.any fun e => decide (n ≤ e.1) && decide (clk - e.2.2 ≥ wt)
def wantedN (wt clk : Int) (hs : List E3) (n : Int) : Bool := hasN hs n && longN wt clk hs n
def closeF (wt clk : Int) : List Int → Int → List E3 → List Int × Int × List E3
  | [], w, hs => ([], w, hs)
  | n :: ns, w, hs => if wantedN wt clk hs n = true then ((go n hs).1 ++ (closeF wt clk ns (go n hs).2.1 (go n hs).2.2).1, (closeF wt clk ns (go n hs).2.1 (go n hs).2.2).2) else closeF wt clk ns w hs
/-- whole numbers by insertion -/
def insI (x : Int) : List Int → List Int
  | [] => [x]
  | y :: l => if x ≤ y then x :: y :: l else y :: insI x l
def sortI : List Int → List Int
  | [] => []
  | x :: l => insI x (sortI l)
def keysN (hs : List E3) : List Int := sortI (hs.map (·.1))
def closeM (R : Rcv) (S : MS) : List Int × MS :=
  ((closeF R.wt S.clk (keysN S.hs) S.w S.hs).1, { S with w := (closeF R.wt S.clk (keysN S.hs) S.w S.hs).2.1, hs := (closeF R.wt S.clk (keysN S.hs) S.w S.hs).2.2, clk := S.clk + 1 })
theorem insI_perm (x : Int) : ∀ l, (insI x l).Perm (x :: l)
  | [] => .refl _
  | y :: l => by
    unfold insI
    split
    · exact .refl _
    · exact ((insI_perm x l).cons y).trans (.swap x y l)
theorem sortI_perm : ∀ l, (sortI l).Perm l
  | [] => .refl _
  | x :: l => (insI_perm x _).trans ((sortI_perm l).cons x)
theorem insI_up (x : Int) : ∀ {l : List Int}, l.Pairwise (· ≤ ·) → (insI x l).Pairwise (· ≤ ·)
  | [], _ => List.pairwise_singleton _ _
  | y :: l, h => by
    obtain ⟨h1, h2⟩ := List.pairwise_cons.mp h
    unfold insI
    split
    · rename_i c
      refine List.pairwise_cons.mpr ⟨fun z hz => ?_, h⟩
      rcases List.mem_cons.mp hz with rfl | hz
      · exact c
      · exact Int.le_trans c (h1 z hz)
    · rename_i c
      refine List.pairwise_cons.mpr ⟨fun z hz => ?_, insI_up x h2⟩
      rcases List.mem_cons.mp ((insI_perm x l).mem_iff.mp hz) with rfl | hz
      · omega
      · exact h1 z hz
theorem sortI_up : ∀ l, (sortI l).Pairwise (· ≤ ·)
  | [] => .nil
  | x :: l => insI_up x (sortI_up l)
/-- two rising lists of the same numbers are one -/
theorem up_uniq : ∀ {l m : List Int}, l.Pairwise (· ≤ ·) → m.Pairwise (· ≤ ·) → l.Perm m → l = m
  | [], m, _, _, h => (List.Perm.eq_nil h.symm).symm
  | x :: l, [], _, _, h => absurd h.length_eq (by simp)
  | x :: l, y :: m, hl, hm, h => by
    obtain ⟨l1, l2⟩ := List.pairwise_cons.mp hl
    obtain ⟨m1, m2⟩ := List.pairwise_cons.mp hm
    have e : x = y := by
      have hx : x ∈ y :: m := h.mem_iff.mp List.mem_cons_self
      have hy : y ∈ x :: l := h.mem_iff.mpr List.mem_cons_self
      rcases List.mem_cons.mp hx with e | hx
      · exact e
      · rcases List.mem_cons.mp hy with e | hy
        · exact e.symm
        · have := m1 x hx
          have := l1 y hy
          omega
    subst e
    rw [up_uniq l2 m2 h.cons_inv]
theorem sortI_eq {l m : List Int} (hm : m.Pairwise (· ≤ ·)) (h : m.Perm l) : m = sortI l := up_uniq hm (sortI_up l) (h.trans (sortI_perm l).symm)

theorem find_none {hs : List E3} {n : Int} (h : hasN hs n = false) : hs.find? (fun e => decide (e.1 = n)) = none := by
  rw [List.find?_eq_none]
  intro e he
  unfold hasN at h
  rw [List.any_eq_false] at h
  exact h e he
theorem find_some {hs : List E3} {n : Int} (h : hasN hs n = true) : ∃ e ∈ hs, e.1 = n ∧ hs.find? (fun e => decide (e.1 = n)) = some e := by
  cases q : hs.find? (fun e => decide (e.1 = n)) with
  | none =>
    rw [List.find?_eq_none] at q
    unfold hasN at h
    obtain ⟨e, he, h2⟩ := List.any_eq_true.mp h
    exact absurd h2 (q e he)
  | some e => exact ⟨e, List.mem_of_find?_eq_some q, by simpa using List.find?_some q, rfl⟩
theorem has_iff {hs : List E3} {n : Int} : hasN hs n = true ↔ ∃ e ∈ hs, e.1 = n := by
  unfold hasN
  rw [List.any_eq_true]
  simp
theorem dropN_len {hs : List E3} {n : Int} (h : hasN hs n = true) : (dropN hs n).length < hs.length := by
  obtain ⟨e, he, h1⟩ := has_iff.mp h
  refine Nat.lt_of_le_of_ne (List.length_filter_le _ _) fun z => ?_
  have := (List.length_filter_eq_length_iff.mp z) e he
  simp [h1] at this
theorem dropN_le (hs : List E3) (n : Int) : (dropN hs n).length ≤ hs.length := List.length_filter_le _ _
theorem goF_more : ∀ (f : Nat) (w : Int) (hs : List E3), hs.length ≤ f → goF f w hs = goF hs.length w hs
  | 0, w, hs, h => by
    have e : hs = [] := List.eq_nil_of_length_eq_zero (by omega)
    subst e
    rfl
  | f + 1, w, hs, h => by
    cases q : hasN hs w with
    | false =>
      have e := find_none q
      cases hl : hs.length with
      | zero =>
        unfold goF
        rw [e]
      | succ k =>
        unfold goF
        rw [e]
    | true =>
      obtain ⟨e, he, h1, hf⟩ := find_some q
      have hd := dropN_len q
      cases hl : hs.length with
      | zero =>
        rw [hl] at hd
        omega
      | succ k =>
        have e1 := goF_more f (w + 1) (dropN hs w) (by omega)
        have e2 := goF_more k (w + 1) (dropN hs w) (by omega)
        unfold goF
        rw [hf]
        dsimp only
        rw [e1, e2]
theorem go_none {w : Int} {hs : List E3} (h : hasN hs w = false) : go w hs = ([], w, hs) := by
  unfold go
  cases hl : hs.length with
  | zero => rfl
  | succ k =>
    unfold goF
    rw [find_none h]
theorem go_some {w : Int} {hs : List E3} {e : E3} (h : hs.find? (fun e => decide (e.1 = w)) = some e) : go w hs = (e.2.1 :: (go (w + 1) (dropN hs w)).1, (go (w + 1) (dropN hs w)).2) := by
  have hh : hasN hs w = true := has_iff.mpr ⟨e, List.mem_of_find?_eq_some h, by simpa using List.find?_some h⟩
  have hd := dropN_len hh
  unfold go
  cases hl : hs.length with
  | zero => rw [hl] at hd; omega
  | succ k =>
    conv => lhs; unfold goF
    rw [h]
    dsimp only
    rw [goF_more k (w + 1) (dropN hs w) (by omega)]
/-- nothing of the wanted number is left; what is left was there -/
theorem go_end : ∀ (n : Nat) (w : Int) (hs : List E3), hs.length = n → hasN (go w hs).2.2 (go w hs).2.1 = false ∧ w ≤ (go w hs).2.1 ∧ (go w hs).2.2.Sublist hs ∧ (∀ e ∈ hs, (e ∈ (go w hs).2.2 ↔ ¬ (w ≤ e.1 ∧ e.1 < (go w hs).2.1))) := by
  intro n
  induction n using Nat.strongRecOn with
  | _ n ih =>
    intro w hs hn
    cases q : hasN hs w with
    | false =>
      rw [go_none q]
      exact ⟨q, Int.le_refl _, List.Sublist.refl _, fun e he => ⟨fun _ h => by have := h.1; have := h.2; dsimp only at *; omega, fun _ => he⟩⟩
    | true =>
      obtain ⟨e, he, h1, hf⟩ := find_some q
      have hd := dropN_len q
      obtain ⟨i1, i2, i3, i4⟩ := ih _ (by omega) (w + 1) (dropN hs w) rfl
      rw [go_some hf]
      dsimp only
      refine ⟨i1, by omega, i3.trans List.filter_sublist, fun x hx => ?_⟩
      by_cases c : x.1 = w
      · refine ⟨fun hm => ?_, fun z => absurd ⟨by omega, by omega⟩ z⟩
        have := i3.subset hm
        rw [dropN, List.mem_filter] at this
        simp [c] at this
      · have hx' : x ∈ dropN hs w := by rw [dropN, List.mem_filter]; exact ⟨hx, by simpa using c⟩
        rw [i4 x hx']
        constructor
        · intro z y
          exact z ⟨by omega, y.2⟩
        · intro z y
          exact z ⟨by omega, y.2⟩

/-- what holds of a receiver between two deeds -/
structure MOk (R : Rcv) (S : MS) : Prop where
  nd : (S.hs.map (·.1)).Nodup
  lo : ∀ e ∈ S.hs, S.w < e.1
  hi : ∀ e ∈ S.hs, e.1 < S.w + R.ah
theorem nodup_len : ∀ (n : Nat) (a : Int) (l : List Int), l.Nodup → (∀ x ∈ l, a ≤ x ∧ x < a + n) → l.length ≤ n
  | 0, a, l, _, h => by
    cases l with
    | nil => exact Nat.le_refl _
    | cons x l =>
      have := h x List.mem_cons_self
      omega
  | n + 1, a, l, hd, h => by
    have e : l.length ≤ (l.filter fun x => decide (x ≠ a + n)).length + 1 := by
      clear h
      induction l with
      | nil => exact Nat.zero_le _
      | cons x l ih =>
        obtain ⟨h1, h2⟩ := List.nodup_cons.mp hd
        by_cases c : x = a + n
        · have e2 : (x :: l).filter (fun x => decide (x ≠ a + n)) = l := by
            rw [List.filter_cons_of_neg (by simp [c])]
            refine List.filter_eq_self.mpr fun y hy => ?_
            have : y ≠ x := fun z => h1 (by rw [← z]; exact hy)
            simpa [c] using (by rw [c] at this; exact this : y ≠ a + n)
          rw [e2]
          exact Nat.le_refl _
        · rw [List.filter_cons_of_pos (by simpa using c)]
          have := ih h2
          rw [List.length_cons, List.length_cons]
          omega
    have i := nodup_len n a (l.filter fun x => decide (x ≠ a + n)) (hd.sublist List.filter_sublist) fun x hx => by
      obtain ⟨h1, h2⟩ := List.mem_filter.mp hx
      have := h x h1
      have h3 : x ≠ a + n := by simpa using h2
      omega
    omega
theorem MOk.len {R : Rcv} {S : MS} (h : MOk R S) (hR : R.Ok) : S.hs.length < 64 := by
  have z := nodup_len R.ah.toNat S.w (S.hs.map (·.1)) h.nd fun x hx => by
    obtain ⟨e, he, rfl⟩ := List.mem_map.mp hx
    have := h.lo e he
    have := h.hi e he
    have := hR.a1
    omega
  rw [List.length_map] at z
  have := hR.am
  have := hR.m32
  have := hR.a1
  omega
/-- sublists keep it, with the wanted one gone up -/
theorem MOk.down {R : Rcv} {S : MS} (h : MOk R S) {w : Int} {hs : List E3} (s : hs.Sublist S.hs) (hw : S.w ≤ w) (lo : ∀ e ∈ hs, w < e.1) (clk old : Int) : MOk R ⟨w, clk, old, hs⟩ :=
  ⟨h.nd.sublist (s.map _), lo, fun e he => by
    have := h.hi e (s.subset he)
    show e.1 < w + R.ah
    omega⟩
theorem go_lo {w : Int} {hs : List E3} (h : ∀ e ∈ hs, w ≤ e.1) : ∀ e ∈ (go w hs).2.2, (go w hs).2.1 < e.1 := fun e he => by
  obtain ⟨g1, g2, g3, g4⟩ := go_end _ w hs rfl
  have hm := g3.subset he
  have := h e hm
  have h2 := (g4 e hm).mp he
  have h3 : e.1 ≠ (go w hs).2.1 := fun z => by
    have := has_iff.mpr ⟨e, he, z⟩
    rw [g1] at this
    cases this
  omega
theorem comeM_ok {R : Rcv} {S : MS} (hR : R.Ok) (h : MOk R S) (mark th : Int) : MOk R (comeM R S mark th).2 := by
  unfold comeM
  split
  · exact ⟨h.nd, h.lo, h.hi⟩
  · rename_i c
    have c1 : ¬ (mark - S.w) % R.mks ≥ R.ah := fun z => c (.inl z)
    have c2 : ¬ hasN S.hs (S.w + (mark - S.w) % R.mks) = true := fun z => c (.inr z)
    have m0 : 0 ≤ (mark - S.w) % R.mks := Int.emod_nonneg _ (by have := hR.m2; omega)
    generalize (mark - S.w) % R.mks = far at *
    obtain ⟨g1, g2, g3, g4⟩ := go_end _ S.w (S.hs ++ [(S.w + far, th, S.clk)]) rfl
    have lo : ∀ e ∈ S.hs ++ [(S.w + far, th, S.clk)], S.w ≤ e.1 := fun e he => by
      rcases List.mem_append.mp he with he | he
      · have := h.lo e he
        omega
      · rw [List.mem_singleton.mp he]
        show S.w ≤ S.w + far
        omega
    have hi : ∀ e ∈ S.hs ++ [(S.w + far, th, S.clk)], e.1 < S.w + R.ah := fun e he => by
      rcases List.mem_append.mp he with he | he
      · exact h.hi e he
      · rw [List.mem_singleton.mp he]
        show S.w + far < S.w + R.ah
        omega
    have nd : ((S.hs ++ [(S.w + far, th, S.clk)]).map (·.1)).Nodup := by
      rw [List.map_append, List.nodup_append]
      refine ⟨h.nd, by simp, fun x hx y hy => ?_⟩
      rw [List.map_cons, List.map_nil, List.mem_singleton] at hy
      subst hy
      rintro rfl
      obtain ⟨e, he, h2⟩ := List.mem_map.mp hx
      exact c2 (has_iff.mpr ⟨e, he, h2⟩)
    exact ⟨nd.sublist (g3.map _), go_lo lo, fun e he => by
      have := hi e (g3.subset he)
      show e.1 < (go S.w (S.hs ++ [(S.w + far, th, S.clk)])).2.1 + R.ah
      omega⟩
theorem long_sub {wt clk n : Int} {hs hs' : List E3} (s : hs'.Sublist hs) (h : longN wt clk hs n = false) : longN wt clk hs' n = false := by
  unfold longN at *
  rw [List.any_eq_false] at *
  exact fun e he => h e (s.subset he)
theorem long_up {wt clk n m : Int} {hs : List E3} (hnm : n ≤ m) (h : longN wt clk hs m = true) : longN wt clk hs n = true := by
  unfold longN at *
  obtain ⟨e, he, h2⟩ := List.any_eq_true.mp h
  refine List.any_eq_true.mpr ⟨e, he, ?_⟩
  simp only [Bool.and_eq_true, decide_eq_true_eq] at *
  exact ⟨by omega, h2.2⟩
/-- a walk over the keys, in their order -/
theorem closeF_ok (wt clk : Int) : ∀ (ns : List Int) (w : Int) (hs : List E3), ns.Pairwise (· < ·) → (∀ e ∈ hs, w < e.1) → (∀ e ∈ hs, e.1 ∈ ns ∨ longN wt clk hs e.1 = false) →
    (closeF wt clk ns w hs).2.2.Sublist hs ∧ w ≤ (closeF wt clk ns w hs).2.1 ∧ (∀ e ∈ (closeF wt clk ns w hs).2.2, (closeF wt clk ns w hs).2.1 < e.1) ∧ ∀ e ∈ (closeF wt clk ns w hs).2.2, longN wt clk (closeF wt clk ns w hs).2.2 e.1 = false := by
  intro ns
  induction ns with
  | nil =>
    intro w hs _ h1 h2
    exact ⟨List.Sublist.refl _, Int.le_refl _, h1, fun e he => by
      rcases h2 e he with h | h
      · exact absurd h List.not_mem_nil
      · exact h⟩
  | cons n ns ih =>
    intro w hs hp h1 h2
    obtain ⟨p1, p2⟩ := List.pairwise_cons.mp hp
    unfold closeF
    by_cases c : wantedN wt clk hs n = true
    · rw [if_pos c]
      dsimp only
      obtain ⟨c1, c2⟩ := Bool.and_eq_true_iff.mp c
      have lo : ∀ e ∈ hs, n ≤ e.1 := fun e he => by
        by_cases q : n ≤ e.1
        · exact q
        · exfalso
          rcases h2 e he with h | h
          · rcases List.mem_cons.mp h with h | h
            · omega
            · have := p1 _ h
              omega
          · rw [long_up (by omega) c2] at h
            cases h
      obtain ⟨g1, g2, g3, g4⟩ := go_end _ n hs rfl
      have lo' := go_lo lo
      obtain ⟨i1, i2, i3, i4⟩ := ih (go n hs).2.1 (go n hs).2.2 p2 lo' fun e he => by
        have hm := g3.subset he
        rcases h2 e hm with h | h
        · rcases List.mem_cons.mp h with h | h
          · have := lo' e he
            omega
          · exact .inl h
        · exact .inr (long_sub g3 h)
      obtain ⟨e, he, hen⟩ := has_iff.mp c1
      have := h1 e he
      exact ⟨i1.trans g3, by omega, i3, i4⟩
    · rw [if_neg c]
      refine ih w hs p2 h1 fun e he => ?_
      rcases h2 e he with h | h
      · rcases List.mem_cons.mp h with h | h
        · refine .inr ?_
          cases q : longN wt clk hs e.1 with
          | false => rfl
          | true =>
            refine absurd (Bool.and_eq_true_iff.mpr ⟨?_, ?_⟩) c
            · exact has_iff.mpr ⟨e, he, h⟩
            · rw [← h]; exact q
        · exact .inl h
      · exact .inr h
theorem keysN_lt {hs : List E3} (nd : (hs.map (·.1)).Nodup) : (keysN hs).Pairwise (· < ·) := by
  have h1 := sortI_up (hs.map (·.1))
  have h2 : (keysN hs).Nodup := (sortI_perm _).nodup_iff.mpr nd
  unfold keysN at h2
  exact (h1.and h2).imp fun z => by have := z.1; have := z.2; omega
theorem closeM_ok {R : Rcv} {S : MS} (h : MOk R S) : MOk R (closeM R S).2 := by
  obtain ⟨i1, i2, i3, i4⟩ := closeF_ok R.wt S.clk (keysN S.hs) S.w S.hs (keysN_lt h.nd) h.lo fun e he => .inl ((sortI_perm _).mem_iff.mpr (List.mem_map.mpr ⟨e, he, rfl⟩))
  exact h.down i1 i2 i3 _ _
def newM : MS := ⟨0, 0, 0, []⟩
theorem newM_ok (R : Rcv) : MOk R newM := ⟨List.nodup_nil, fun e h => absurd h List.not_mem_nil, fun e h => absurd h List.not_mem_nil⟩
theorem go_len : ∀ (n : Nat) (w : Int) (hs : List E3), hs.length = n → (go w hs).1.length + (go w hs).2.2.length ≤ hs.length := by
  intro n
  induction n using Nat.strongRecOn with
  | _ n ih =>
    intro w hs hn
    cases q : hasN hs w with
    | false =>
      rw [go_none q]
      exact Nat.le_of_eq (Nat.zero_add _)
    | true =>
      obtain ⟨e, he, h1, hf⟩ := find_some q
      have hd := dropN_len q
      have := ih _ (by omega) (w + 1) (dropN hs w) rfl
      rw [go_some hf]
      dsimp only
      rw [List.length_cons]
      omega
/-! ### rows as texts -/
open SX in
/-- a lateness' sign -/
def cd : Lt → Nat
  | none => 45
  | some i => 48 + i.toNat
abbrev sgT (x : Lt) : Str := SX.S [cd x]
abbrev rowT (R : List Lt) : Str := SX.S (R.map cd)
abbrev rowsT (R0 R1 : List Lt) : Str := SX.S (R0.map cd ++ 10 :: R1.map cd)
theorem str_dig {v : Int} (h0 : 0 ≤ v) (h9 : v ≤ 9) : Str.ofString (toString v) = SX.S [48 + v.toNat] := by
  obtain ⟨n, rfl⟩ := Int.eq_ofNat_of_zero_le h0
  have hn : n < 10 := by omega
  refine TL.ext_tl ((TL.tl_num n).trans ?_)
  rw [TL.numL_lt hn]
  rfl
theorem int_dig {v : Int} (h0 : 0 ≤ v) (h9 : v ≤ 9) : PySem.intText? (SX.S [48 + v.toNat]) = some v := by
  obtain ⟨n, rfl⟩ := Int.eq_ofNat_of_zero_le h0
  have hn : n < 10 := by omega
  have e := TL.int_num (n := n) (by rw [TL.numL_lt hn]; show 1 ≤ 4300; decide)
  rw [str_dig (v := (n : Int)) (by omega) (by omega)] at e
  exact e
theorem joinL_nil : ∀ l : List Nat, TL.joinL [] (l.map fun c => [c]) = l
  | [] => rfl
  | [c] => rfl
  | c :: d :: r => by
    show [c] ++ ([] ++ TL.joinL [] ((d :: r).map fun c => [c])) = c :: d :: r
    rw [joinL_nil (d :: r)]
    rfl
theorem join_row (R : List Lt) : Txt.join (SX.S []) (R.map sgT) = rowT R := by
  have e : R.map sgT = ((R.map cd).map fun c => [c]).map SX.S := by rw [List.map_map, List.map_map]; rfl
  rw [e, SX.join_S, joinL_nil]
theorem join_rows (R0 R1 : List Lt) : Txt.join (SX.S [10]) [rowT R0, rowT R1] = rowsT R0 R1 := SX.join_S [10] [R0.map cd, R1.map cd]
theorem split_rows {R0 R1 : List Lt} (h0 : 10 ∉ R0.map cd) (h1 : 10 ∉ R1.map cd) : Txt.split (rowsT R0 R1) (SX.S [10]) = [rowT R0, rowT R1] := by
  rw [← join_rows]
  refine TL.split_join (s := 10) (S := []) rfl (SX.all256 (b := [10]) (by decide)) (by simp) fun p hp => ?_
  simp only [List.mem_cons, List.not_mem_nil, or_false] at hp
  rcases hp with rfl | rfl
  · exact h0
  · exact h1
theorem cd_ne {l m : Int} {R : List Lt} (h : Fits l m R) (hl : 0 ≤ l) : 10 ∉ R.map cd := fun hm => by
  obtain ⟨x, hx, e⟩ := List.mem_map.mp hm
  cases x with
  | none => cases e
  | some v =>
    have := h _ hx v rfl
    have e' : 48 + v.toNat = 10 := e
    omega
theorem row_len (R : List Lt) : (rowT R).length = R.length := by rw [SX.S_len, List.length_map]
theorem sg_sum (R : List Lt) : ((R.map sgT).map (·.length)).sum = R.length := by
  induction R with
  | nil => rfl
  | cons x R ih =>
    rw [List.map_cons, List.map_cons, List.sum_cons, ih, SX.S_len, List.length_cons]
    show 1 + R.length = R.length + 1
    omega
theorem str_nl : Str.ofString "\n" = SX.S [10] := by decide +kernel
theorem str_no : Str.ofString "" = SX.S [] := by decide +kernel
theorem take_succ_of {α : Type} {l : List α} {i : Nat} {x : α} (h : l[i]? = some x) : l.take (i + 1) = l.take i ++ [x] := by
  rw [List.take_succ, h]; rfl
/-- the sizes of a row's signs joined -/
theorem sg_room {R : List Lt} (h : R.length ≤ 80) : ((R.map sgT).map (·.length)).sum + (R.map sgT).length * (SX.S []).length ≤ 16777216 := by
  rw [sg_sum, SX.S_len]
  show R.length + _ * 0 ≤ _
  omega
theorem rows_room {R0 R1 : List Lt} (h : R0.length ≤ 80) (h1 : R1.length ≤ 80) : (([rowT R0, rowT R1] : List Str).map (·.length)).sum + ([rowT R0, rowT R1] : List Str).length * (SX.S [10]).length ≤ 16777216 := by
  rw [List.map_cons, List.map_cons, List.map_nil, row_len, row_len, SX.S_len]
  show R0.length + (R1.length + 0) + 2 * 1 ≤ _
  omega
theorem str_gone : Str.ofString "-" = SX.S [45] := by decide +kernel
theorem str_figs : (Str.ofString "0123456789").cps.toList = [48, 49, 50, 51, 52, 53, 54, 55, 56, 57] := by decide +kernel
theorem small_dig {v : Int} (v0 : 0 ≤ v) (v1 : v ≤ 9) : v.natAbs.log2 < 1920 := by
  have : v.natAbs.log2 ≤ v.natAbs := Nat.log2_le_self _
  omega
theorem fig_mem {v : Int} (v0 : 0 ≤ v) (v1 : v ≤ 9) : 48 + v.toNat ∈ (Str.ofString "0123456789").cps.toList := by
  rw [str_figs]
  have h : v.toNat = 0 ∨ v.toNat = 1 ∨ v.toNat = 2 ∨ v.toNat = 3 ∨ v.toNat = 4 ∨ v.toNat = 5 ∨ v.toNat = 6 ∨ v.toNat = 7 ∨ v.toNat = 8 ∨ v.toNat = 9 := by omega
  rcases h with h | h | h | h | h | h | h | h | h | h <;> (rw [h]; decide)
theorem not_gone (v : Int) : ¬ (V.str (⟨#[48 + v.toNat]⟩ : Str) = V.str (Str.ofString "-")) := fun e => by
  rw [str_gone] at e
  have e2 := SX.S_inj (V.str.inj e)
  have e3 : 48 + v.toNat = 45 := (List.cons.inj e2).1
  omega
theorem is_gone : V.str (⟨#[45]⟩ : Str) = V.str (Str.ofString "-") := congrArg V.str str_gone.symm
theorem rowT_at {R : List Lt} {i : Nat} (hi : i < R.length) : ∃ x ∈ R, R[i]? = some x ∧ atI (rowT R).cps.toList ((0 : Int) + (i : Int)) = some (cd x) :=
  ⟨R[i], List.getElem_mem hi, List.getElem?_eq_getElem hi, by
    rw [Int.zero_add]
    refine atI_nat ?_
    show (R.map cd)[i]? = _
    rw [List.getElem?_map, List.getElem?_eq_getElem hi]
    rfl⟩
/-! ### data that == may be asked of -/
theorem lay_all : ∀ {ds : List PyData}, (∀ d ∈ ds, d.canLay0 = true) → PyData.canLayAll0 ds = true
  | [], _ => rfl
  | d :: ds, h => by
    show (d.canLay0 && PyData.canLayAll0 ds) = true
    rw [h d List.mem_cons_self, lay_all fun x hx => h x (List.mem_cons_of_mem _ hx)]
    rfl
theorem dep_all {n : Nat} : ∀ {ds : List PyData}, (∀ d ∈ ds, d.depth ≤ n) → PyData.depthAll ds ≤ n
  | [], _ => Nat.zero_le _
  | d :: ds, h => by
    show max d.depth (PyData.depthAll ds) ≤ n
    exact Nat.max_le.mpr ⟨h d List.mem_cons_self, dep_all fun x hx => h x (List.mem_cons_of_mem _ hx)⟩
/-- d may be laid, less than n deep -/
def Sh (n : Nat) (d : PyData) : Prop := d.canLay0 = true ∧ d.depth ≤ n
theorem Sh.lst {n : Nat} {ds : List PyData} (h : ∀ d ∈ ds, Sh n d) : Sh (n + 1) (.list ds) := ⟨lay_all fun d hd => (h d hd).1, Nat.succ_le_succ (dep_all fun d hd => (h d hd).2)⟩
theorem Sh.tup {n : Nat} {ds : List PyData} (h : ∀ d ∈ ds, Sh n d) : Sh (n + 1) (.tuple ds) := ⟨lay_all fun d hd => (h d hd).1, Nat.succ_le_succ (dep_all fun d hd => (h d hd).2)⟩
theorem Sh.int {n : Nat} (i : Int) : Sh n (.int i) := ⟨rfl, Nat.zero_le _⟩
theorem Sh.non {n : Nat} : Sh n .none := ⟨rfl, Nat.zero_le _⟩
theorem Sh.o {n : Nat} : ∀ x : Lt, Sh n (oD x)
  | none => .non
  | some i => .int i
theorem Sh.ok {n : Nat} {d : PyData} (h : Sh n d) (hn : n ≤ 64) : SeqAt.shaped d = true := by
  unfold SeqAt.shaped
  rw [h.1, decide_eq_true (Nat.le_trans h.2 hn)]
  rfl
theorem shaped_ints (l : List Int) : SeqAt.shaped (.list (l.map PyData.int)) = true := Sh.ok (n := 1) (Sh.lst fun d hd => by
  obtain ⟨i, _, rfl⟩ := List.mem_map.mp hd
  exact .int i) (by decide)
theorem eqv_ints : ∀ l : List Int, PyData.eqv (.list (l.map PyData.int)) (.list []) = l.isEmpty
  | [] => rfl
  | _ :: _ => rfl
theorem dp_ints {K : PySem.W.Frag} {H : Hp} : ∀ l : List Int, DpAll K H (l.map V.int) (l.map PyData.int)
  | [] => .nil
  | i :: l => .cons (.int i) (dp_ints l)
/-! ### run, plainly -/
/-- what comes by a road: (moment, thing, road) -/
def arrGo (road : Int) : Int → List Lt → List Tri.I3
  | _, [] => []
  | i, none :: r => arrGo road (i + 1) r
  | i, some l :: r => (i + l, i, road) :: arrGo road (i + 1) r
def ins3 (x : Tri.I3) : List Tri.I3 → List Tri.I3
  | [] => [x]
  | y :: l => if Tri.lex3 y x = false then x :: y :: l else y :: ins3 x l
def sort3 : List Tri.I3 → List Tri.I3
  | [] => []
  | x :: l => ins3 x (sort3 l)
def comes (R0 R1 : List Lt) : List Tri.I3 := sort3 (arrGo 0 0 R0 ++ arrGo 1 0 R1)
def tag (m : Int) (os : List Int) : List (Int × Int) := os.map fun o => (m, o)
def inStep (R : Rcv) (m : Int) (st : MS × List (Int × Int)) (c : Tri.I3) : MS × List (Int × Int) :=
  if c.1 = m then ((comeM R st.1 (c.2.1 % R.mks) c.2.1).2, st.2 ++ tag m (comeM R st.1 (c.2.1 % R.mks) c.2.1).1) else st
def momM (R : Rcv) (cs : List Tri.I3) (st : MS × List (Int × Int)) (m : Int) : MS × List (Int × Int) :=
  ((closeM R (cs.foldl (inStep R m) st).1).2, (cs.foldl (inStep R m) st).2 ++ tag m (closeM R (cs.foldl (inStep R m) st).1).1)
def runM (R : Rcv) (cs : List Tri.I3) : Nat → MS × List (Int × Int)
  | 0 => (newM, [])
  | n + 1 => momM R cs (runM R cs n) (n : Int)
def lastM (R : Rcv) (cs : List Tri.I3) : Int := match cs.getLast? with
  | none => -1
  | some c => c.1 + R.wt
def outM (R : Rcv) (R0 R1 : List Lt) : List (Int × Int) × Int := ((runM R (comes R0 R1) (lastM R (comes R0 R1) + 1).toNat).2, (runM R (comes R0 R1) (lastM R (comes R0 R1) + 1).toNat).1.old)
theorem arrGo_app (road : Int) : ∀ (a b : List Lt) (i : Int), arrGo road i (a ++ b) = arrGo road i a ++ arrGo road (i + a.length) b
  | [], b, i => by
    show arrGo road i b = [] ++ arrGo road (i + ((0 : Nat) : Int)) b
    rw [List.nil_append, Int.natCast_zero, Int.add_zero]
  | none :: a, b, i => by
    show arrGo road (i + 1) (a ++ b) = arrGo road (i + 1) a ++ _
    rw [arrGo_app road a b (i + 1), List.length_cons]
    congr 2
    omega
  | some l :: a, b, i => by
    show (i + l, i, road) :: arrGo road (i + 1) (a ++ b) = (i + l, i, road) :: arrGo road (i + 1) a ++ _
    rw [arrGo_app road a b (i + 1), List.length_cons, List.cons_append]
    congr 3
    omega
theorem arrGo_len (road : Int) : ∀ (a : List Lt) (i : Int), (arrGo road i a).length ≤ a.length
  | [], _ => Nat.le_refl _
  | none :: a, i => Nat.le_trans (arrGo_len road a (i + 1)) (Nat.le_succ _)
  | some l :: a, i => Nat.succ_le_succ (arrGo_len road a (i + 1))
theorem arrGo_mem {road : Int} {c : Tri.I3} : ∀ {a : List Lt} {i : Int}, c ∈ arrGo road i a → ∃ (j : Nat) (l : Int), a[j]? = some (some l) ∧ c = (i + j + l, i + j, road)
  | [], i, h => absurd h List.not_mem_nil
  | none :: a, i, h => by
    obtain ⟨j, l, h1, h2⟩ := arrGo_mem (a := a) (i := i + 1) h
    refine ⟨j + 1, l, h1, ?_⟩
    rw [h2]
    simp only [Prod.mk.injEq, Int.natCast_add]
    refine ⟨by omega, by omega, trivial⟩
  | some l :: a, i, h => by
    rcases List.mem_cons.mp h with h | h
    · refine ⟨0, l, rfl, ?_⟩
      rw [h]
      simp
    · obtain ⟨j, l', h1, h2⟩ := arrGo_mem (a := a) (i := i + 1) h
      refine ⟨j + 1, l', h1, ?_⟩
      rw [h2]
      simp only [Prod.mk.injEq, Int.natCast_add]
      refine ⟨by omega, by omega, trivial⟩
theorem ins3_perm (x : Tri.I3) : ∀ l, (ins3 x l).Perm (x :: l)
  | [] => .refl _
  | y :: l => by
    unfold ins3
    split
    · exact .refl _
    · exact ((ins3_perm x l).cons y).trans (.swap x y l)
theorem sort3_perm : ∀ l, (sort3 l).Perm l
  | [] => .refl _
  | x :: l => (ins3_perm x _).trans ((sort3_perm l).cons x)
/-- rising: none is behind a greater one -/
abbrev Up3 (l : List Tri.I3) : Prop := l.Pairwise fun x y => Tri.lex3 y x = false
theorem lex3_tr {x y z : Tri.I3} (h1 : Tri.lex3 y x = false) (h2 : Tri.lex3 z y = false) : Tri.lex3 z x = false := by
  rw [Tri.lex3_no] at *
  omega
theorem ins3_up (x : Tri.I3) : ∀ {l : List Tri.I3}, Up3 l → Up3 (ins3 x l)
  | [], _ => List.pairwise_singleton _ _
  | y :: l, h => by
    obtain ⟨h1, h2⟩ := List.pairwise_cons.mp h
    unfold ins3
    split
    · rename_i c
      refine List.pairwise_cons.mpr ⟨fun z hz => ?_, h⟩
      rcases List.mem_cons.mp hz with rfl | hz
      · exact c
      · exact lex3_tr c (h1 z hz)
    · rename_i c
      refine List.pairwise_cons.mpr ⟨fun z hz => ?_, ins3_up x h2⟩
      rcases List.mem_cons.mp ((ins3_perm x l).mem_iff.mp hz) with rfl | hz
      · have c2 : Tri.lex3 y z = true := by simpa using c
        have := Tri.lex3_iff.mp c2
        exact Tri.lex3_no.mpr (by omega)
      · exact h1 z hz
theorem sort3_up : ∀ l, Up3 (sort3 l)
  | [] => .nil
  | x :: l => ins3_up x (sort3_up l)
theorem up3_uniq : ∀ {l m : List Tri.I3}, Up3 l → Up3 m → l.Perm m → l = m
  | [], m, _, _, h => (List.Perm.eq_nil h.symm).symm
  | x :: l, [], _, _, h => absurd h.length_eq (by simp)
  | x :: l, y :: m, hl, hm, h => by
    obtain ⟨l1, l2⟩ := List.pairwise_cons.mp hl
    obtain ⟨m1, m2⟩ := List.pairwise_cons.mp hm
    have e : x = y := by
      have hx : x ∈ y :: m := h.mem_iff.mp List.mem_cons_self
      have hy : y ∈ x :: l := h.mem_iff.mpr List.mem_cons_self
      rcases List.mem_cons.mp hx with e | hx
      · exact e
      · rcases List.mem_cons.mp hy with e | hy
        · exact e.symm
        · have a := Tri.lex3_no.mp (m1 x hx)
          have b := Tri.lex3_no.mp (l1 y hy)
          obtain ⟨x1, x2, x3⟩ := x
          obtain ⟨y1, y2, y3⟩ := y
          dsimp only at a b
          have e1 : x1 = y1 := by omega
          have e2 : x2 = y2 := by omega
          have e3 : x3 = y3 := by omega
          rw [e1, e2, e3]
    subst e
    rw [up3_uniq l2 m2 h.cons_inv]
theorem sort3_eq {l m : List Tri.I3} (hm : Up3 m) (h : m.Perm l) : m = sort3 l := up3_uniq hm (sort3_up l) (h.trans (sort3_perm l).symm)
theorem comes_mem {R0 R1 : List Lt} {c : Tri.I3} (h : c ∈ comes R0 R1) : ∃ (j : Nat) (l : Int), (R0[j]? = some (some l) ∨ R1[j]? = some (some l)) ∧ c.1 = j + l ∧ c.2.1 = j := by
  have h1 := (sort3_perm _).mem_iff.mp h
  rcases List.mem_append.mp h1 with h1 | h1
  · obtain ⟨j, l, h2, h3⟩ := arrGo_mem h1
    rw [h3]
    exact ⟨j, l, .inl h2, by simp, by simp⟩
  · obtain ⟨j, l, h2, h3⟩ := arrGo_mem h1
    rw [h3]
    exact ⟨j, l, .inr h2, by simp, by simp⟩
theorem comes_len (R0 R1 : List Lt) : (comes R0 R1).length ≤ R0.length + R1.length := by
  have h := (sort3_perm (arrGo 0 0 R0 ++ arrGo 1 0 R1)).length_eq
  unfold comes
  rw [h, List.length_append]
  have := arrGo_len 0 R0 0
  have := arrGo_len 1 R1 0
  omega
theorem come_len (R : Rcv) (S : MS) (mark th : Int) : (comeM R S mark th).1.length + (comeM R S mark th).2.hs.length ≤ S.hs.length + 1 := by
  unfold comeM
  split
  · show 0 + S.hs.length ≤ _
    omega
  · have := go_len _ S.w (S.hs ++ [(S.w + (mark - S.w) % R.mks, th, S.clk)]) rfl
    rw [List.length_append] at this
    exact this
theorem closeF_len (wt clk : Int) : ∀ (ns : List Int) (w : Int) (hs : List E3), (closeF wt clk ns w hs).1.length + (closeF wt clk ns w hs).2.2.length ≤ hs.length
  | [], w, hs => by
    show 0 + hs.length ≤ _
    omega
  | n :: ns, w, hs => by
    unfold closeF
    split
    · dsimp only
      have h1 := go_len _ n hs rfl
      have h2 := closeF_len wt clk ns (go n hs).2.1 (go n hs).2.2
      rw [List.length_append]
      omega
    · exact closeF_len wt clk ns w hs
theorem close_len (R : Rcv) (S : MS) : (closeM R S).1.length + (closeM R S).2.hs.length ≤ S.hs.length := closeF_len _ _ _ _ _
theorem runM_succ (R : Rcv) (cs : List Tri.I3) (n : Nat) : runM R cs (n + 1) = momM R cs (runM R cs n) (n : Int) := rfl
/-! ### a Merger in the heap -/
theorem look_put (f g : Str) (y : V) (fs : List (Str × V)) : ((f, y) :: fs).lookup g = if g = f then some y else fs.lookup g := by
  by_cases h : g = f
  · subst h
    simp [List.lookup]
  · rw [if_neg h]
    have e : (g == f) = false := by simpa using h
    simp [List.lookup, e]
def flds (R : Rcv) (S : MS) (d : Addr) : List (Str × V) :=
  [("marks", .int R.mks), ("ahead", .int R.ah), ("wait", .int R.wt), ("following", .int S.w), ("held", .ref d), ("clock", .int S.clk), ("old", .int S.old)]
section
variable {R : Rcv} {S : MS} {d : Addr}
theorem fl_marks : (flds R S d).lookup ("marks" : Str) = some (.int R.mks) := by
  unfold flds; rw [look_put, if_pos rfl]
theorem fl_ahead : (flds R S d).lookup ("ahead" : Str) = some (.int R.ah) := by
  unfold flds; rw [look_put, if_neg (by decide +kernel), look_put, if_pos rfl]
theorem fl_wait : (flds R S d).lookup ("wait" : Str) = some (.int R.wt) := by
  unfold flds; rw [look_put, if_neg (by decide +kernel), look_put, if_neg (by decide +kernel), look_put, if_pos rfl]
theorem fl_following : (flds R S d).lookup ("following" : Str) = some (.int S.w) := by
  unfold flds; rw [look_put, if_neg (by decide +kernel), look_put, if_neg (by decide +kernel), look_put, if_neg (by decide +kernel), look_put, if_pos rfl]
theorem fl_held : (flds R S d).lookup ("held" : Str) = some (.ref d) := by
  unfold flds; rw [look_put, if_neg (by decide +kernel), look_put, if_neg (by decide +kernel), look_put, if_neg (by decide +kernel), look_put, if_neg (by decide +kernel), look_put, if_pos rfl]
theorem fl_clock : (flds R S d).lookup ("clock" : Str) = some (.int S.clk) := by
  unfold flds; rw [look_put, if_neg (by decide +kernel), look_put, if_neg (by decide +kernel), look_put, if_neg (by decide +kernel), look_put, if_neg (by decide +kernel), look_put, if_neg (by decide +kernel), look_put, if_pos rfl]
theorem fl_old : (flds R S d).lookup ("old" : Str) = some (.int S.old) := by
  unfold flds; rw [look_put, if_neg (by decide +kernel), look_put, if_neg (by decide +kernel), look_put, if_neg (by decide +kernel), look_put, if_neg (by decide +kernel), look_put, if_neg (by decide +kernel), look_put, if_neg (by decide +kernel), look_put, if_pos rfl]
theorem fl_no {m : Str} (h : ([("marks" : Str), "ahead", "wait", "following", "held", "clock", "old"].all fun x => decide (m ≠ x)) = true) : (flds R S d).lookup m = none := by
  simp only [List.all_cons, List.all_nil, Bool.and_true, Bool.and_eq_true, decide_eq_true_eq] at h
  obtain ⟨h1, h2, h3, h4, h5, h6, h7⟩ := h
  unfold flds
  rw [look_put, if_neg h1, look_put, if_neg h2, look_put, if_neg h3, look_put, if_neg h4, look_put, if_neg h5, look_put, if_neg h6, look_put, if_neg h7]
  rfl
theorem putF_cons (f g : Str) (v y : V) (fs : List (Str × V)) : putF f v ((g, y) :: fs) = if g = f then (g, v) :: fs else (g, y) :: putF f v fs := rfl
theorem fp_following (w : Int) : putF "following" (.int w) (flds R S d) = flds R { S with w := w } d := by
  unfold flds; rw [putF_cons, if_neg (by decide +kernel), putF_cons, if_neg (by decide +kernel), putF_cons, if_neg (by decide +kernel), putF_cons, if_pos rfl]
theorem fp_clock (w : Int) : putF "clock" (.int w) (flds R S d) = flds R { S with clk := w } d := by
  unfold flds; rw [putF_cons, if_neg (by decide +kernel), putF_cons, if_neg (by decide +kernel), putF_cons, if_neg (by decide +kernel), putF_cons, if_neg (by decide +kernel), putF_cons, if_neg (by decide +kernel), putF_cons, if_pos rfl]
theorem fp_old (w : Int) : putF "old" (.int w) (flds R S d) = flds R { S with old := w } d := by
  unfold flds; rw [putF_cons, if_neg (by decide +kernel), putF_cons, if_neg (by decide +kernel), putF_cons, if_neg (by decide +kernel), putF_cons, if_neg (by decide +kernel), putF_cons, if_neg (by decide +kernel), putF_cons, if_neg (by decide +kernel), putF_cons, if_pos rfl]
end
/-- the dict's pairs: the numbers, and where the tuples stand -/
def kvsOf (ks : List (E3 × Addr)) : List (Key × V) := ks.map fun x => (Sum.inl x.1.1, V.ref x.2)
structure MAt (C : Addr) (H : Hp) (p d : Addr) (R : Rcv) (S : MS) (ks : List (E3 × Addr)) : Prop where
  ob : ∃ dx, H p = some (.ins C dx (flds R S d))
  dc : H d = some (.dK (kvsOf ks))
  en : ∀ x ∈ ks, H x.2 = some (.tup [.int x.1.2.1, .int x.1.2.2])
  eq : ks.map (·.1) = S.hs
/-- all but the Merger's two places stand -/
def Km (p d : Addr) (H H' : Hp) : Prop := ∀ b o, b ≠ p → b ≠ d → H b = some o → H' b = some o
theorem Km.refl (p d : Addr) (H : Hp) : Km p d H H := fun _ _ _ _ h => h
theorem Km.trans {p d : Addr} {H H1 H2 : Hp} (a : Km p d H H1) (b : Km p d H1 H2) : Km p d H H2 := fun c o n m h => b c o n m (a c o n m h)
theorem Km.of {p d : Addr} {H H' : Hp} (s : Same H H') : Km p d H H' := fun c o _ _ h => s c o h
theorem Km.putp {p d : Addr} {H H' : Hp} {o : HO} (a : Km p d H H') : Km p d H (upd H' p o) := fun c u n m h => by rw [upd_ne n]; exact a c u n m h
theorem Km.putd {p d : Addr} {H H' : Hp} {o : HO} (a : Km p d H H') : Km p d H (upd H' d o) := fun c u n m h => by rw [upd_ne m]; exact a c u n m h
theorem Km.mut {p d x : Addr} {H H' : Hp} {o : HO} (a : Km p d H H') (hx : H x = none) : Km p d H (upd H' x o) := fun c u n m h => by rw [upd_ne (ne_of_none h hx)]; exact a c u n m h
theorem Km.new {p d x : Addr} {H H' : Hp} {o : HO} (a : Km p d H H') (hx : H' x = none) : Km p d H (upd H' x o) := fun c u n m h => by
  have h1 := a c u n m h
  rw [upd_ne (ne_of_none h1 hx)]; exact h1
section
variable {C p d x : Addr} {H H' : Hp} {R : Rcv} {S : MS} {ks : List (E3 × Addr)}
theorem MAt.pd (M : MAt C H p d R S ks) : p ≠ d := fun z => by
  obtain ⟨dx, h⟩ := M.ob
  rw [z, M.dc] at h; cases h
theorem MAt.np {xs : List V} (M : MAt C H p d R S ks) (h : H x = some (.lst xs)) : x ≠ p := fun z => by
  obtain ⟨dx, h1⟩ := M.ob
  rw [← z, h] at h1; cases h1
theorem MAt.nd {xs : List V} (M : MAt C H p d R S ks) (h : H x = some (.lst xs)) : x ≠ d := fun z => by
  have h1 := M.dc
  rw [← z, h] at h1; cases h1
theorem MAt.tp {xs : List V} (M : MAt C H p d R S ks) (h : H x = some (.tup xs)) : x ≠ p := fun z => by
  obtain ⟨dx, h1⟩ := M.ob
  rw [← z, h] at h1; cases h1
theorem MAt.td {xs : List V} (M : MAt C H p d R S ks) (h : H x = some (.tup xs)) : x ≠ d := fun z => by
  have h1 := M.dc
  rw [← z, h] at h1; cases h1
theorem MAt.fp {o : HO} (M : MAt C H p d R S ks) (h : H x = none) : x ≠ p ∧ x ≠ d := by
  obtain ⟨dx, h1⟩ := M.ob
  exact ⟨(ne_of_none h1 h).symm, (ne_of_none M.dc h).symm⟩
theorem MAt.same (M : MAt C H p d R S ks) (s : Same H H') : MAt C H' p d R S ks := by
  obtain ⟨dx, h1⟩ := M.ob
  exact ⟨⟨dx, s _ _ h1⟩, s _ _ M.dc, fun x hx => s _ _ (M.en x hx), M.eq⟩
theorem MAt.new {o : HO} (M : MAt C H p d R S ks) (h : H x = none) : MAt C (upd H x o) p d R S ks := M.same (Same.upd_new h)
/-- a list beside it is changed -/
theorem MAt.aside {xs : List V} {o : HO} (M : MAt C H p d R S ks) (h : H x = some (.lst xs)) : MAt C (upd H x o) p d R S ks := by
  obtain ⟨dx, h1⟩ := M.ob
  exact ⟨⟨dx, by rw [upd_ne (M.np h).symm]; exact h1⟩, by rw [upd_ne (M.nd h).symm]; exact M.dc, fun x hx => by rw [upd_ne (tup_ne (M.en x hx) h)]; exact M.en x hx, M.eq⟩
/-- its fields are changed -/
theorem MAt.setp {S' : MS} {dx : Addr} (M : MAt C H p d R S ks) (he : S'.hs = S.hs) : MAt C (upd H p (.ins C dx (flds R S' d))) p d R S' ks :=
  ⟨⟨dx, upd_same⟩, by rw [upd_ne M.pd.symm]; exact M.dc, fun x hx => by rw [upd_ne (M.tp (M.en x hx))]; exact M.en x hx, by rw [M.eq, he]⟩
/-- its dict is changed -/
theorem MAt.setd {ks' : List (E3 × Addr)} (M : MAt C H p d R S ks) (he : ∀ x ∈ ks', H x.2 = some (.tup [.int x.1.2.1, .int x.1.2.2])) : MAt C (upd H d (.dK (kvsOf ks'))) p d R { S with hs := ks'.map (·.1) } ks' := by
  obtain ⟨dx, h1⟩ := M.ob
  exact ⟨⟨dx, by rw [upd_ne M.pd]; exact h1⟩, upd_same, fun x hx => by rw [upd_ne (M.td (he x hx))]; exact he x hx, rfl⟩
end
theorem val_none {ks : List (E3 × Addr)} {n : Int} (h : hasN (ks.map (·.1)) n = false) : valV (kvsOf ks) (Sum.inl n : Key) = none := by
  unfold valV kvsOf
  rw [Option.map_eq_none_iff, List.find?_eq_none]
  intro z hz
  obtain ⟨x, hx, rfl⟩ := List.mem_map.mp hz
  unfold hasN at h
  rw [List.any_eq_false] at h
  have := h x.1 (List.mem_map.mpr ⟨x, hx, rfl⟩)
  simpa using this
theorem val_some : ∀ {ks : List (E3 × Addr)} {n : Int}, hasN (ks.map (·.1)) n = true → ∃ x ∈ ks, x.1.1 = n ∧ valV (kvsOf ks) (Sum.inl n : Key) = some (.ref x.2) ∧ (ks.map (·.1)).find? (fun e => decide (e.1 = n)) = some x.1
  | [], n, h => by cases h
  | y :: ks, n, h => by
    by_cases c : y.1.1 = n
    · refine ⟨y, List.mem_cons_self, c, ?_, ?_⟩
      · show ((((Sum.inl y.1.1 : Key), V.ref y.2) :: kvsOf ks).find? _).map _ = _
        rw [List.find?_cons_of_pos (by simp [c])]
        rfl
      · rw [List.map_cons, List.find?_cons_of_pos (by simp [c])]
    · have h' : hasN (ks.map (·.1)) n = true := by
        obtain ⟨e, he, h1⟩ := has_iff.mp h
        rcases List.mem_cons.mp he with rfl | he
        · exact absurd h1 c
        · exact has_iff.mpr ⟨e, he, h1⟩
      obtain ⟨x, hx, h1, h2, h3⟩ := val_some h'
      refine ⟨x, List.mem_cons_of_mem _ hx, h1, ?_, ?_⟩
      · show ((((Sum.inl y.1.1 : Key), V.ref y.2) :: kvsOf ks).find? _).map _ = _
        rw [List.find?_cons_of_neg (by simp [c])]
        exact h2
      · rw [List.map_cons, List.find?_cons_of_neg (by simp [c])]
        exact h3
theorem drop_ks (ks : List (E3 × Addr)) (n : Int) : dropK (kvsOf ks) (Sum.inl n : Key) = kvsOf (ks.filter fun x => decide (x.1.1 ≠ n)) := by
  unfold dropK kvsOf
  rw [List.filter_map]
  congr 1
  apply List.filter_congr
  intro x _
  simp
theorem drop_hs (ks : List (E3 × Addr)) (n : Int) : (ks.filter fun x => decide (x.1.1 ≠ n)).map (·.1) = dropN (ks.map (·.1)) n := by
  unfold dropN
  rw [List.filter_map]
  rfl
theorem put_ks {ks : List (E3 × Addr)} {n : Int} {e : E3} {a : Addr} (he : e.1 = n) (h : hasN (ks.map (·.1)) n = false) : putK (kvsOf ks) (Sum.inl n : Key) (.ref a) = kvsOf (ks ++ [(e, a)]) := by
  rw [putK_new _ (val_none h)]
  unfold kvsOf
  rw [List.map_append, ← he]
  rfl
theorem keys_ks (ks : List (E3 × Addr)) : (kvsOf ks).map (·.1) = ((ks.map (·.1)).map (·.1)).map Sum.inl := by
  unfold kvsOf
  rw [List.map_map, List.map_map, List.map_map]
  rfl
theorem kvs_len (ks : List (E3 × Addr)) : (kvsOf ks).length = (ks.map (·.1)).length := by
  unfold kvsOf
  rw [List.length_map, List.length_map]
/-! ### go_out -/
def spGoOut (C : Addr) : Sp := fun vs H Q _ => ∃ (p d : Addr) (R : Rcv) (S : MS) (ks : List (E3 × Addr)), vs = [.ref p] ∧ MAt C H p d R S ks ∧ S.hs.length ≤ 100 ∧
  ∀ (q : Addr) (H' : Hp) (ks' : List (E3 × Addr)), H q = none → H' q = some (.lst ((go S.w S.hs).1.map V.int)) → MAt C H' p d R { S with w := (go S.w S.hs).2.1, hs := (go S.w S.hs).2.2 } ks' → Km p d H H' → Q (.ref q) H'
section
variable {P : Program} {w : World} {K : PySem.W.Frag} {mg : Str → Option Value} {base : Heap}
theorem ok_Merger_go_out (T : Txt K mg) : FnOk P w K mg base CX0 1 T.f_Merger_go_out T.fd_Merger_go_out P_Merger_go_out (spGoOut T.C_Merger) := by
  refine T.F_Merger_go_out.ok sc_Merger_go_out (fun vs H Q E h => ?_) (fun cdv A outer s H vs Q E hr h => ?_)
  · obtain ⟨p, d, R, S, ks, rfl, _⟩ := h
    rfl
  · obtain ⟨p, d, R, S, ks, rfl, M, hlen, k⟩ := h
    refine ⟨_, ((pss_cons (ps_set (i := 1) sc_Merger_go_out.nd rfl (Or.inl rfl) (pe_lst pa_nil))
  (pss_cons (ps_while PassesOwn.never (pt_cmp (pc_din (hu_of hr) (pe_fld (pv 0) rfl) (pe_fld (pv 0) rfl))) (pss_cons (ps_expr (pe_bm PySem.F.plainAttrs_list PySem.F.slot_list_append PySem.F.type_list_append mt_append (pv 1) (pa_cons (pe_ix ix_tup (pe_dpop1 (pe_fld (pv 0) rfl) (pe_fld (pv 0) rfl) ⟨rfl, rfl, rfl, rfl⟩) pe_int (fun _ _ => rfl)) pa_nil)))
  (pss_one (ps_fld (pv 0) (pe_op op_add (pe_fld (pv 0) rfl) pe_int) rfl))))
  (pss_one (ps_ret (pv 1)))))), ?_⟩
    refine ⟨by show 0 ≤ sizeLine; decide, fun f hf => ?_⟩
    refine ⟨fun m σ H' => ∃ (outs : List Int) (S' : MS) (ks' : List (E3 × Addr)), σ = [some (.ref p), some (.ref f)] ∧ m = S'.hs.length ∧ outs.length + m ≤ 100 ∧ S'.clk = S.clk ∧ S'.old = S.old ∧ H' f = some (.lst (outs.map V.int)) ∧ MAt T.C_Merger H' p d R S' ks' ∧
      go S.w S.hs = (outs ++ (go S'.w S'.hs).1, (go S'.w S'.hs).2) ∧ Km p d H H', ⟨_, [], S, ks, rfl, rfl, by simpa using hlen, rfl, rfl, upd_same, M.new hf, rfl, (Km.refl p d H).new hf⟩, ?_⟩
    rintro m σ H1 ⟨outs, S1, ks1, rfl, rfl, hsz, hck, hol, hf1, M1, hgo, k1⟩
    obtain ⟨dx, hp1⟩ := M1.ob
    have hd1 := M1.dc
    refine ⟨_, rfl, p, _, dx, _, _, rfl, hp1, T.cl_Merger, T.n_following, fl_following, _, rfl, p, _, dx, _, _, rfl, hp1, T.cl_Merger, T.n_held, fl_held, d, _, rfl, DGet.k (k := Sum.inl S1.w) hd1, _, rfl, ?_⟩
    have heq := M1.eq
    cases hh : hasN S1.hs S1.w with
    | false =>
      rw [val_none (by rw [heq]; exact hh)]
      refine iteF ⟨_, rfl, ?_⟩
      rw [go_none hh, List.append_nil] at hgo
      rw [hgo] at k
      exact k f H1 ks1 hf hf1 (by
        obtain ⟨w1, c1, o1, h1⟩ := S1
        dsimp only at *
        subst hck hol
        exact M1) k1
    | true =>
      obtain ⟨x, hx, hxn, hval, hfind⟩ := val_some (ks := ks1) (n := S1.w) (by rw [heq]; exact hh)
      rw [hval]
      rw [heq] at hfind
      refine iteT ⟨fun σ' H' => ∃ m', m' < S1.hs.length ∧ ∃ (outs : List Int) (S' : MS) (ks' : List (E3 × Addr)), σ' = [some (.ref p), some (.ref f)] ∧ m' = S'.hs.length ∧ outs.length + m' ≤ 100 ∧ S'.clk = S.clk ∧ S'.old = S.old ∧ H' f = some (.lst (outs.map V.int)) ∧ MAt T.C_Merger H' p d R S' ks' ∧
        go S.w S.hs = (outs ++ (go S'.w S'.hs).1, (go S'.w S'.hs).2) ∧ Km p d H H', fun σ' H' h => h, ?_⟩
      -- found.append(self.held.pop(self.following)[0])
      refine ⟨_, rfl, .inl ⟨rfl, _, SqL.of hf1⟩, ?_⟩
      refine ⟨_, rfl, p, _, dx, _, _, rfl, hp1, T.cl_Merger, T.n_held, fl_held, d, rfl, .inl ⟨_, .inl hd1⟩, _, rfl, p, _, dx, _, _, rfl, hp1, T.cl_Merger, T.n_following, fl_following, _, Sum.inl S1.w, _, hd1, rfl, hval, ?_⟩
      rw [drop_ks]
      have M2 := M1.setd (ks' := ks1.filter fun x => decide (x.1.1 ≠ S1.w)) fun x hx => M1.en x (List.mem_filter.mp hx).1
      have hxe : (upd H1 d (.dK (kvsOf (ks1.filter fun x => decide (x.1.1 ≠ S1.w))))) x.2 = some (.tup [.int x.1.2.1, .int x.1.2.2]) := by rw [upd_ne (M1.td (M1.en x hx))]; exact M1.en x hx
      refine ⟨x.2, _, _, _, rfl, rfl, SqT.of hxe, at0, ?_⟩
      have hf2 : (upd H1 d (.dK (kvsOf (ks1.filter fun x => decide (x.1.1 ≠ S1.w))))) f = some (.lst (outs.map V.int)) := by rw [upd_ne (M1.nd hf1)]; exact hf1
      refine ⟨f, _, _, rfl, rfl, hf2, small1000 (by rw [List.length_map]; omega), ?_⟩
      have M3 := M2.aside (o := .lst (outs.map V.int ++ [.int x.1.2.1])) hf2
      obtain ⟨dx3, hp3⟩ := M3.ob
      refine ⟨_, rfl, p, _, dx3, _, _, rfl, hp3, T.cl_Merger, T.n_following, fl_following, _, _, rfl, rfl, _, rfl, p, _, dx3, _, rfl, hp3, T.cl_Merger, T.n_following, by show 7 < 1000; decide, ?_⟩
      rw [fp_following]
      have M4 := M3.setp (S' := { S1 with w := S1.w + 1, hs := (ks1.filter fun x => decide (x.1.1 ≠ S1.w)).map (·.1) }) (dx := dx3) rfl
      have hlt : (dropN S1.hs S1.w).length < S1.hs.length := dropN_len hh
      have hds : (ks1.filter fun x => decide (x.1.1 ≠ S1.w)).map (·.1) = dropN S1.hs S1.w := by rw [drop_hs, heq]
      have k2 : Km p d H (upd (upd (upd H1 d (.dK (kvsOf (ks1.filter fun x => decide (x.1.1 ≠ S1.w))))) f (.lst (outs.map V.int ++ [.int x.1.2.1]))) p (.ins T.C_Merger dx3 (flds R { S1 with w := S1.w + 1, hs := (ks1.filter fun x => decide (x.1.1 ≠ S1.w)).map (·.1) } d))) := ((k1.putd).mut hf).putp
      refine ⟨(dropN S1.hs S1.w).length, hlt, outs ++ [x.1.2.1], { S1 with w := S1.w + 1, hs := (ks1.filter fun x => decide (x.1.1 ≠ S1.w)).map (·.1) }, _, rfl, by rw [hds], by rw [List.length_append]; show outs.length + 1 + _ ≤ 100; omega, hck, hol, ?_, M4, ?_, k2⟩
      · rw [upd_ne (M3.np upd_same), upd_same, List.map_append]
        rfl
      · rw [hgo, go_some hfind]
        dsimp only
        rw [hds, List.append_assoc]
        rfl
end
/-! ### need_receiver, __init__, come -/
def RcvAt (H : Hp) (q : Addr) (R : Rcv) : Prop := H q = some (.tup [.int R.mks, .int R.ah, .int R.wt])
def spNeedRcv : Sp := fun vs H Q _ => ∃ (q : Addr) (R : Rcv), vs = [.ref q] ∧ RcvAt H q R ∧ R.Ok ∧ Q .non H
def spMInit (C : Addr) : Sp := fun vs H Q _ => ∃ (p q dx : Addr) (R : Rcv), vs = [.ref p, .ref q] ∧ H p = some (.ins C dx []) ∧ RcvAt H q R ∧ R.Ok ∧
  ∀ (d : Addr) (H' : Hp), H d = none → MAt C H' p d R newM [] → (∀ b o, H b = some o → b ≠ p → H' b = some o) → Q .non H'
def spCome (C : Addr) : Sp := fun vs H Q _ => ∃ (p d : Addr) (R : Rcv) (S : MS) (ks : List (E3 × Addr)) (mark th : Int), vs = [.ref p, .int mark, .int th] ∧ MAt C H p d R S ks ∧ MOk R S ∧ R.Ok ∧ 0 ≤ mark ∧ mark < R.mks ∧
  ∀ (q : Addr) (H' : Hp) (ks' : List (E3 × Addr)), H q = none → H' q = some (.lst ((comeM R S mark th).1.map V.int)) → MAt C H' p d R (comeM R S mark th).2 ks' → Km p d H H' → Q (.ref q) H'
theorem flds_start (R : Rcv) (d : Addr) : putF "old" (.int 0) (putF "clock" (.int 0) (putF "held" (.ref d) (putF "following" (.int 0) (putF "wait" (.int R.wt) (putF "ahead" (.int R.ah) (putF "marks" (.int R.mks) [])))))) = flds R newM d := by
  have e0 : ∀ (f : Str) (v : V), putF f v [] = [(f, v)] := fun _ _ => rfl
  have s0 : putF "marks" (V.int R.mks) ([] : List (Str × V)) = [(("marks" : Str), (V.int R.mks))] := by
    rfl
  have s1 : putF "ahead" (V.int R.ah) ([(("marks" : Str), (V.int R.mks))] : List (Str × V)) = [(("marks" : Str), (V.int R.mks)), (("ahead" : Str), (V.int R.ah))] := by
    rw [putF_cons, if_neg (by decide +kernel), e0]
  have s2 : putF "wait" (V.int R.wt) ([(("marks" : Str), (V.int R.mks)), (("ahead" : Str), (V.int R.ah))] : List (Str × V)) = [(("marks" : Str), (V.int R.mks)), (("ahead" : Str), (V.int R.ah)), (("wait" : Str), (V.int R.wt))] := by
    rw [putF_cons, if_neg (by decide +kernel), putF_cons, if_neg (by decide +kernel), e0]
  have s3 : putF "following" (V.int 0) ([(("marks" : Str), (V.int R.mks)), (("ahead" : Str), (V.int R.ah)), (("wait" : Str), (V.int R.wt))] : List (Str × V)) = [(("marks" : Str), (V.int R.mks)), (("ahead" : Str), (V.int R.ah)), (("wait" : Str), (V.int R.wt)), (("following" : Str), (V.int 0))] := by
    rw [putF_cons, if_neg (by decide +kernel), putF_cons, if_neg (by decide +kernel), putF_cons, if_neg (by decide +kernel), e0]
  have s4 : putF "held" (V.ref d) ([(("marks" : Str), (V.int R.mks)), (("ahead" : Str), (V.int R.ah)), (("wait" : Str), (V.int R.wt)), (("following" : Str), (V.int 0))] : List (Str × V)) = [(("marks" : Str), (V.int R.mks)), (("ahead" : Str), (V.int R.ah)), (("wait" : Str), (V.int R.wt)), (("following" : Str), (V.int 0)), (("held" : Str), (V.ref d))] := by
    rw [putF_cons, if_neg (by decide +kernel), putF_cons, if_neg (by decide +kernel), putF_cons, if_neg (by decide +kernel), putF_cons, if_neg (by decide +kernel), e0]
  have s5 : putF "clock" (V.int 0) ([(("marks" : Str), (V.int R.mks)), (("ahead" : Str), (V.int R.ah)), (("wait" : Str), (V.int R.wt)), (("following" : Str), (V.int 0)), (("held" : Str), (V.ref d))] : List (Str × V)) = [(("marks" : Str), (V.int R.mks)), (("ahead" : Str), (V.int R.ah)), (("wait" : Str), (V.int R.wt)), (("following" : Str), (V.int 0)), (("held" : Str), (V.ref d)), (("clock" : Str), (V.int 0))] := by
    rw [putF_cons, if_neg (by decide +kernel), putF_cons, if_neg (by decide +kernel), putF_cons, if_neg (by decide +kernel), putF_cons, if_neg (by decide +kernel), putF_cons, if_neg (by decide +kernel), e0]
  have s6 : putF "old" (V.int 0) ([(("marks" : Str), (V.int R.mks)), (("ahead" : Str), (V.int R.ah)), (("wait" : Str), (V.int R.wt)), (("following" : Str), (V.int 0)), (("held" : Str), (V.ref d)), (("clock" : Str), (V.int 0))] : List (Str × V)) = [(("marks" : Str), (V.int R.mks)), (("ahead" : Str), (V.int R.ah)), (("wait" : Str), (V.int R.wt)), (("following" : Str), (V.int 0)), (("held" : Str), (V.ref d)), (("clock" : Str), (V.int 0)), (("old" : Str), (V.int 0))] := by
    rw [putF_cons, if_neg (by decide +kernel), putF_cons, if_neg (by decide +kernel), putF_cons, if_neg (by decide +kernel), putF_cons, if_neg (by decide +kernel), putF_cons, if_neg (by decide +kernel), putF_cons, if_neg (by decide +kernel), e0]
  rw [s0, s1, s2, s3, s4, s5, s6]
  rfl
theorem putF_len (f : Str) (v : V) : ∀ fs : List (Str × V), (putF f v fs).length ≤ fs.length + 1
  | [] => Nat.le_refl _
  | (g, y) :: fs => by
    rw [putF_cons]
    split
    · exact Nat.le_succ _
    · have := putF_len f v fs
      rw [List.length_cons, List.length_cons]
      omega
section
variable {P : Program} {w : World} {K : PySem.W.Frag} {mg : Str → Option Value} {base : Heap}
theorem ok_need_receiver (T : Txt K mg) : FnOk P w K mg base CX0 1 T.f_need_receiver T.fd_need_receiver P_need_receiver spNeedRcv := by
  refine T.F_need_receiver.ok sc_need_receiver (fun vs H Q E h => ?_) (fun cdv A outer s H vs Q E hr h => ?_)
  · obtain ⟨q, R, rfl, _⟩ := h
    rfl
  · obtain ⟨q, R, rfl, hq, hR, k⟩ := h
    refine ⟨_, ((pss_cons (ps_asg (pv 0) (pg_tup rfl (pgs_cons (pg_name (i := 1) sc_need_receiver.nd rfl (Or.inl rfl)) (pgs_cons (pg_name (i := 2) sc_need_receiver.nd rfl (Or.inl rfl)) (pgs_cons (pg_name (i := 3) sc_need_receiver.nd rfl (Or.inl rfl)) pgs_nil)))))
  (pss_cons (ps_if (pt_not (pt_chain op_le op_le pe_int (pv 1) (pe_glob rfl T.mg_MOST_MARKS T.rv_MOST_MARKS))) (pss_one ps_never) pss_nil)
  (pss_cons (ps_if (pt_not (pt_chain op_le op_lt pe_int (pv 2) (pv 1))) (pss_one ps_never) pss_nil)
  (pss_one (ps_if (pt_not (pt_chain op_le op_le pe_int (pv 3) (pe_glob rfl T.mg_MOST_WAIT T.rv_MOST_WAIT))) (pss_one ps_never) pss_nil)))))), ?_⟩
    refine ⟨_, rfl, q, _, rfl, SqT.of hq, rfl, _, _, rfl, _, _, rfl, _, _, rfl, rfl, ?_⟩
    refine ⟨_, rfl, _, _, rfl, rfl, _, rfl, iteD hR.m2 ⟨_, _, rfl, rfl, _, rfl, iteNS hR.m32 ?_⟩⟩
    refine ⟨_, rfl, _, _, rfl, rfl, _, rfl, iteD hR.a1 ⟨_, rfl, _, _, rfl, rfl, _, rfl, iteNS hR.am ?_⟩⟩
    refine ⟨_, rfl, _, _, rfl, rfl, _, rfl, iteD hR.w0 ⟨_, _, rfl, rfl, _, rfl, iteNS hR.w20 ?_⟩⟩
    exact k
theorem ok_Merger_init (T : Txt K mg) : FnOk P w K mg base CX0 2 T.f_Merger_init T.fd_Merger_init P_Merger_init (spMInit T.C_Merger) := by
  refine T.F_Merger_init.ok sc_Merger_init (fun vs H Q E h => ?_) (fun cdv A outer s H vs Q E hr h => ?_)
  · obtain ⟨p, q, dx, R, rfl, _⟩ := h
    rfl
  · obtain ⟨p, q, dx, R, rfl, hp, hq, hR, k⟩ := h
    refine ⟨_, ((pss_cons (ps_expr (pe_call (ok_need_receiver T) (hr.mono (by decide)) (by rfl) T.mg_need_receiver T.kp_need_receiver T.b_need_receiver .nil pass0 (pa_cons (pv 1) pa_nil)))
  (pss_cons (ps_asg (pv 1) (pg_tup rfl (pgs_cons (pg_fld (pv 0)) (pgs_cons (pg_fld (pv 0)) (pgs_cons (pg_fld (pv 0)) pgs_nil)))))
  (pss_cons (ps_fld (pv 0) pe_int rfl)
  (pss_cons (ps_fld (pv 0) pe_dnewK rfl)
  (pss_cons (ps_fld (pv 0) pe_int rfl)
  (pss_one (ps_fld (pv 0) pe_int rfl)))))))), ?_⟩
    refine ⟨_, rfl, q, R, rfl, hq, hR, ?_⟩
    refine ⟨_, rfl, q, _, rfl, SqT.of hq, rfl, _, _, rfl, _, rfl, p, T.C_Merger, dx, _, rfl, hp, T.cl_Merger, T.n_marks, by show 0 < 1000; decide, _, _, rfl, _, rfl, p, T.C_Merger, dx, _, rfl, upd_same, T.cl_Merger, T.n_ahead, by show 1 < 1000; decide,
      _, _, rfl, _, rfl, p, T.C_Merger, dx, _, rfl, upd_same, T.cl_Merger, T.n_wait, ?_, rfl, ?_⟩
    · exact Nat.lt_of_le_of_lt (putF_len _ _ _) (by show 2 < 1000; decide)
    · have l3 : (putF "wait" (.int R.wt) (putF "ahead" (.int R.ah) (putF "marks" (.int R.mks) []))).length ≤ 3 := Nat.le_trans (putF_len _ _ _) (Nat.succ_le_succ (Nat.le_trans (putF_len _ _ _) (Nat.le_refl 2)))
      have l4 := Nat.le_trans (putF_len "following" (.int 0) (putF "wait" (.int R.wt) (putF "ahead" (.int R.ah) (putF "marks" (.int R.mks) [])))) (Nat.succ_le_succ l3)
      refine ⟨_, rfl, p, T.C_Merger, dx, _, rfl, upd_same, T.cl_Merger, T.n_following, Nat.lt_of_le_of_lt l3 (by decide), ?_⟩
      intro d hd
      have hpd : p ≠ d := ne_of_none (o := .ins T.C_Merger dx (putF "following" (.int 0) (putF "wait" (.int R.wt) (putF "ahead" (.int R.ah) (putF "marks" (.int R.mks) []))))) upd_same hd
      have l5 := Nat.le_trans (putF_len "held" (.ref d) _) (Nat.succ_le_succ l4)
      have l6 := Nat.le_trans (putF_len "clock" (.int 0) _) (Nat.succ_le_succ l5)
      refine ⟨_, rfl, p, T.C_Merger, dx, _, rfl, (by rw [upd_ne hpd]; exact upd_same), T.cl_Merger, T.n_held, Nat.lt_of_le_of_lt l4 (by decide), ?_⟩
      refine ⟨_, rfl, p, T.C_Merger, dx, _, rfl, upd_same, T.cl_Merger, T.n_clock, Nat.lt_of_le_of_lt l5 (by decide), ?_⟩
      refine ⟨_, rfl, p, T.C_Merger, dx, _, rfl, upd_same, T.cl_Merger, T.n_old, Nat.lt_of_le_of_lt l6 (by decide), ?_⟩
      rw [flds_start]
      have hd0 : H d = none := by
        cases e : H d with
        | none => rfl
        | some o =>
          rw [upd_ne hpd.symm, upd_ne hpd.symm, upd_ne hpd.symm, upd_ne hpd.symm, e] at hd
          cases hd
      refine k d _ hd0 ⟨⟨dx, upd_same⟩, ?_, fun x hx => absurd hx List.not_mem_nil, rfl⟩ fun b o hb hn => ?_
      · rw [upd_ne hpd.symm, upd_ne hpd.symm, upd_ne hpd.symm]
        exact upd_same
      · rw [upd_ne hn, upd_ne hn, upd_ne hn, upd_ne (ne_of_none hb hd0), upd_ne hn, upd_ne hn, upd_ne hn, upd_ne hn]
        exact hb
theorem ok_Merger_come (T : Txt K mg) : FnOk P w K mg base CX0 2 T.f_Merger_come T.fd_Merger_come P_Merger_come (spCome T.C_Merger) := by
  refine T.F_Merger_come.ok sc_Merger_come (fun vs H Q E h => ?_) (fun cdv A outer s H vs Q E hr h => ?_)
  · obtain ⟨p, d, R, S, ks, mark, th, rfl, _⟩ := h
    rfl
  · obtain ⟨p, d, R, S, ks, mark, th, rfl, M, hM, hR, h0, h1, k⟩ := h
    refine ⟨_, ((pss_cons (ps_if (pt_not (pt_chain op_le op_lt pe_int (pv 1) (pe_fld (pv 0) rfl))) (pss_one ps_never) pss_nil)
  (pss_cons (ps_set (i := 3) sc_Merger_come.nd rfl (Or.inl rfl) (pe_op op_mod (pe_op op_sub (pv 1) (pe_fld (pv 0) rfl)) (pe_fld (pv 0) rfl)))
  (pss_cons (ps_if (PW.pt (pw_or (pt_cmpR op_ge (pv 3) (pe_fld (pv 0) rfl) (nomark _)) (pw_or1 (pt_cmp (pc_din (hu_of hr) (pe_op op_add (pe_fld (pv 0) rfl) (pv 3)) (pe_fld (pv 0) rfl)))))) (pss_cons (ps_fld (pv 0) (pe_op op_add (pe_fld (pv 0) rfl) pe_int) rfl)
  (pss_one (ps_ret (pe_lst pa_nil)))) pss_nil)
  (pss_cons (ps_dput (hu_of hr) (pe_fld (pv 0) rfl) (pe_op op_add (pe_fld (pv 0) rfl) (pv 3)) (pe_tup (pa_cons (pv 2) (pa_cons (pe_fld (pv 0) rfl) pa_nil))) rfl)
  (pss_one (ps_ret (pe_meth0 (pv 0) T.cl_Merger T.m_Merger_go_out (ok_Merger_go_out T) (hr.mono (by decide)) T.b_Merger_go_out .nil pass0)))))))), ?_⟩
    obtain ⟨dx, hp⟩ := M.ob
    have hd := M.dc
    have heq := M.eq
    have hlen := hM.len hR
    refine ⟨_, rfl, _, _, rfl, rfl, _, rfl, iteD h0 ⟨_, rfl, p, _, dx, _, _, rfl, hp, T.cl_Merger, T.n_marks, fl_marks, _, _, rfl, rfl, _, rfl, iteNS h1 ?_⟩⟩
    refine ⟨_, rfl, _, rfl, p, _, dx, _, _, rfl, hp, T.cl_Merger, T.n_following, fl_following, _, _, rfl, rfl, _, rfl, p, _, dx, _, _, rfl, hp, T.cl_Merger, T.n_marks, fl_marks, _, _, rfl, rfl, (by have := hR.m2; show 0 < R.mks; omega), ?_⟩
    -- let be
    have rest : ∀ c : (mark - S.w) % R.mks ≥ R.ah ∨ hasN S.hs (S.w + (mark - S.w) % R.mks) = true, ∀ q : Addr, (upd H p (.ins T.C_Merger dx (putF "old" (.int (S.old + 1)) (flds R S d)))) q = none →
        Q (.ref q) (upd (upd H p (.ins T.C_Merger dx (putF "old" (.int (S.old + 1)) (flds R S d)))) q (.lst [])) := fun c q hq => by
      rw [fp_old] at hq ⊢
      have e : comeM R S mark th = ([], { S with old := S.old + 1 }) := if_pos c
      rw [e] at k
      have qp : q ≠ p := fun z => by rw [z, upd_same] at hq; cases hq
      rw [upd_ne qp] at hq
      have M2 : MAt T.C_Merger (upd H p (.ins T.C_Merger dx (flds R { S with old := S.old + 1 } d))) p d R { S with old := S.old + 1 } ks := M.setp rfl
      exact k q _ ks hq upd_same (M2.new (by rw [upd_ne qp]; exact hq)) (((Km.refl p d H).putp).mut hq)
    refine ⟨_, rfl, _, rfl, p, _, dx, _, _, rfl, hp, T.cl_Merger, T.n_ahead, fl_ahead, _, _, rfl, rfl, _, rfl, ?_⟩
    refine ite2 (fun hc => ?_) (fun hc => ?_)
    · refine iteT ⟨_, rfl, p, _, dx, _, _, rfl, hp, T.cl_Merger, T.n_old, fl_old, _, _, rfl, rfl, _, rfl, p, _, dx, _, rfl, hp, T.cl_Merger, T.n_old, by show 7 < 1000; decide, by show 0 ≤ sizeLine; decide, rest (.inl (of_decide_eq_true hc))⟩
    · have c1 : ¬ (mark - S.w) % R.mks ≥ R.ah := fun z => hc (decide_eq_true z)
      refine ⟨_, rfl, p, _, dx, _, _, rfl, hp, T.cl_Merger, T.n_following, fl_following, _, rfl, _, _, rfl, rfl, _, rfl, p, _, dx, _, _, rfl, hp, T.cl_Merger, T.n_held, fl_held, d, _, rfl, DGet.k (k := Sum.inl (S.w + (mark - S.w) % R.mks)) hd, _, rfl, ?_⟩
      cases hh : hasN S.hs (S.w + (mark - S.w) % R.mks) with
      | true =>
        obtain ⟨x, hx, hxn, hval, hfind⟩ := val_some (ks := ks) (n := S.w + (mark - S.w) % R.mks) (by rw [heq]; exact hh)
        rw [hval]
        refine iteT ⟨_, rfl, p, _, dx, _, _, rfl, hp, T.cl_Merger, T.n_old, fl_old, _, _, rfl, rfl, _, rfl, p, _, dx, _, rfl, hp, T.cl_Merger, T.n_old, by show 7 < 1000; decide, by show 0 ≤ sizeLine; decide, rest (.inr hh)⟩
      | false =>
        rw [val_none (by rw [heq]; exact hh)]
        refine iteF ?_
        refine ⟨_, rfl, _, rfl, p, _, dx, _, _, rfl, hp, T.cl_Merger, T.n_clock, fl_clock, by show 2 ≤ sizeLine; decide, fun t ht => ?_⟩
        have Mt := M.new (o := .tup [.int th, .int S.clk]) ht
        obtain ⟨dx2, hp2⟩ := Mt.ob
        have hd2 := Mt.dc
        refine ⟨_, rfl, p, _, dx2, _, _, rfl, hp2, T.cl_Merger, T.n_held, fl_held, _, rfl, p, _, dx2, _, _, rfl, hp2, T.cl_Merger, T.n_following, fl_following, _, rfl, _, _, rfl, rfl, d, _, rfl, DPut.k (k := Sum.inl (S.w + (mark - S.w) % R.mks)) hd2 (small1000 (by rw [kvs_len, heq]; omega)), ?_⟩
        rw [put_ks (e := (S.w + (mark - S.w) % R.mks, th, S.clk)) rfl (by rw [heq]; exact hh)]
        have M3 := Mt.setd (ks' := ks ++ [((S.w + (mark - S.w) % R.mks, th, S.clk), t)]) fun x hx => by
          rcases List.mem_append.mp hx with hx | hx
          · exact Mt.en x hx
          · rw [List.mem_singleton.mp hx]
            exact upd_same
        have e3 : (ks ++ [((S.w + (mark - S.w) % R.mks, th, S.clk), t)]).map (·.1) = S.hs ++ [(S.w + (mark - S.w) % R.mks, th, S.clk)] := by rw [List.map_append, heq]; rfl
        rw [e3] at M3
        obtain ⟨dx3, hp3⟩ := M3.ob
        have e : comeM R S mark th = ((go S.w (S.hs ++ [(S.w + (mark - S.w) % R.mks, th, S.clk)])).1, { S with w := (go S.w (S.hs ++ [(S.w + (mark - S.w) % R.mks, th, S.clk)])).2.1, hs := (go S.w (S.hs ++ [(S.w + (mark - S.w) % R.mks, th, S.clk)])).2.2 }) := if_neg (by
          rintro (z | z)
          · exact c1 z
          · rw [hh] at z; cases z)
        rw [e] at k
        have k3 : Km p d H (upd (upd H t (.tup [.int th, .int S.clk])) d (.dK (kvsOf (ks ++ [((S.w + (mark - S.w) % R.mks, th, S.clk), t)])))) := ((Km.refl p d H).new ht).putd
        refine ⟨_, rfl, p, dx3, _, rfl, hp3, fl_no (by decide +kernel), p, d, R, _, _, rfl, M3, by rw [List.length_append]; show S.hs.length + 1 ≤ 100; omega, fun q H' ks' hq hq' M' k' => ?_⟩
        have hqH : H q = none := by
          cases e : H q with
          | none => rfl
          | some o =>
            have qd := (M3.fp (o := .lst []) hq).2
            have qt : q ≠ t := ne_of_none e ht
            rw [upd_ne qd, upd_ne qt, e] at hq
            cases hq
        exact k q H' ks' hqH hq' M' (k3.trans k')
end
/-! ### a comprehension over a locked dict's keys -/
theorem lc_keys {d : Addr} {o : Obj} {kvs : List (Key × V)} {g : TG} {tt : TT} {te : TE} {vs : List Nat} {σ : L2.St} {H1 : Hp} {D : Addr} {Qd : Hp → Prop} (Pv : Nat → Hp → Prop) (h0 : Pv 0 (upd H1 D (.lst [])))
    (hl : ∀ i H, i ≤ kvs.length → Pv i H → H d = some (.frz o (.dK kvs)))
    (hs : ∀ i k v H, kvs[i]? = some (k, v) → Pv i H → g (kV k) (wipe σ vs) H fun σ2 H2 => wipe σ2 vs = wipe σ vs ∧ tt σ2 H2 fun b H3 =>
      if b = true then te σ2 H3 fun y H4 => ∃ acc, H4 D = some (.lst acc) ∧ acc.length < sizeLine ∧ Pv (i + 1) (upd H4 D (.lst (acc ++ [y]))) else Pv (i + 1) H3) (hd : ∀ H, Pv kvs.length H → Qd H) :
    ∃ W : Nat → Nat → Hp → Prop, (∃ m, W 0 m (upd H1 D (.lst []))) ∧ ∀ i m H, W i m H →
      ((Itk d o kvs).stop i H ∧ Qd H) ∨ ((Itk d o kvs).go i H ∧ ∃ Nx : Hp → Prop, (∀ H', Nx H' → ∃ m', m' < m ∧ W (i + 1) m' H') ∧ ∀ x H', (Itk d o kvs).yld i H x H' → g x (wipe σ vs) H' fun σ2 H2 => wipe σ2 vs = wipe σ vs ∧ tt σ2 H2 fun b H3 =>
        if b = true then te σ2 H3 fun y H4 => ∃ acc, H4 D = some (.lst acc) ∧ acc.length < sizeLine ∧ Nx (upd H4 D (.lst (acc ++ [y]))) else Nx H3) := by
  refine ⟨fun i m H => m = kvs.length - i ∧ i ≤ kvs.length ∧ Pv i H, ⟨kvs.length, by simp, Nat.zero_le _, h0⟩, ?_⟩
  rintro i m H ⟨rfl, hi, p⟩
  have q := hl i H hi p
  by_cases hlt : i < kvs.length
  · refine .inr ⟨⟨q, hlt⟩, Pv (i + 1), fun H' p' => ⟨kvs.length - (i + 1), by omega, rfl, hlt, p'⟩, fun x H' y => ?_⟩
    obtain ⟨e, k, v, h1, h2⟩ := y
    subst e
    subst h2
    exact hs i k v _ h1 p
  · have e : i = kvs.length := by omega
    subst e
    exact .inl ⟨⟨q, Nat.le_refl _⟩, hd H p⟩
/-! ### is_wanted, close -/
def spWanted (C : Addr) : Sp := fun vs H Q _ => ∃ (p d : Addr) (R : Rcv) (S : MS) (ks : List (E3 × Addr)) (n : Int), vs = [.ref p, .int n] ∧ MAt C H p d R S ks ∧ (S.hs.map (·.1)).Nodup ∧ S.hs.length < 64 ∧ ∀ H', Same H H' → Q (.bl (wantedN R.wt S.clk S.hs n)) H'
def spClose (C : Addr) : Sp := fun vs H Q _ => ∃ (p d : Addr) (R : Rcv) (S : MS) (ks : List (E3 × Addr)), vs = [.ref p] ∧ MAt C H p d R S ks ∧ MOk R S ∧ R.Ok ∧
  ∀ (q : Addr) (H' : Hp) (ks' : List (E3 × Addr)), H q = none → H' q = some (.lst ((closeM R S).1.map V.int)) → MAt C H' p d R (closeM R S).2 ks' → Km p d H H' → Q (.ref q) H'
def spDropped (C : Addr) : Sp := fun vs H Q _ => ∃ (p d : Addr) (R : Rcv) (S : MS) (ks : List (E3 × Addr)), vs = [.ref p] ∧ MAt C H p d R S ks ∧ Q (.int S.old) H
/-- the pairs' place by place -/
theorem kvs_at {ks : List (E3 × Addr)} {i : Nat} {k : Key} {v : V} (h : (kvsOf ks)[i]? = some (k, v)) : ∃ x ∈ ks, ks[i]? = some x ∧ k = Sum.inl x.1.1 ∧ v = .ref x.2 := by
  unfold kvsOf at h
  rw [List.getElem?_map] at h
  obtain ⟨x, hx, e⟩ := Option.map_eq_some_iff.mp h
  cases e
  exact ⟨x, List.mem_of_getElem? hx, hx, rfl, rfl⟩
theorem val_at {ks : List (E3 × Addr)} (nd : ((ks.map (·.1)).map (·.1)).Nodup) {x : E3 × Addr} (hx : x ∈ ks) : valV (kvsOf ks) (Sum.inl x.1.1 : Key) = some (.ref x.2) := by
  obtain ⟨y, hy, h1, h2, h3⟩ := val_some (ks := ks) (n := x.1.1) (has_iff.mpr ⟨x.1, List.mem_map.mpr ⟨x, hx, rfl⟩, rfl⟩)
  rw [h2]
  have : y = x := by
    rw [List.map_map] at nd
    obtain ⟨i, hi⟩ := List.getElem?_of_mem hx
    obtain ⟨j, hj⟩ := List.getElem?_of_mem hy
    have ei : (ks.map ((fun e : E3 => e.1) ∘ fun z : E3 × Addr => z.1))[i]? = some x.1.1 := by rw [List.getElem?_map, hi]; rfl
    have ej : (ks.map ((fun e : E3 => e.1) ∘ fun z : E3 × Addr => z.1))[j]? = some x.1.1 := by rw [List.getElem?_map, hj]; exact congrArg some h1
    have := nd_ix nd ei ej
    subst this
    rw [hi] at hj
    exact (Option.some.inj hj).symm
  rw [this]
section
variable {P : Program} {w : World} {K : PySem.W.Frag} {mg : Str → Option Value} {base : Heap}
theorem ok_Merger_is_wanted (T : Txt K mg) : FnOk P w K mg base CX0 1 T.f_Merger_is_wanted T.fd_Merger_is_wanted P_Merger_is_wanted (spWanted T.C_Merger) := by
  refine T.F_Merger_is_wanted.ok sc_Merger_is_wanted (fun vs H Q E h => ?_) (fun cdv A outer s H vs Q E hr h => ?_)
  · obtain ⟨p, d, R, S, ks, n, rfl, _⟩ := h
    rfl
  · obtain ⟨p, d, R, S, ks, n, rfl, M, hM, hlen, k⟩ := h
    refine ⟨_, ((pss_cons (ps_if (pt_cmp (pc_dnotin (hu_of hr) (pv 1) (pe_fld (pv 0) rfl))) (pss_one (ps_ret pe_bl)) pss_nil)
  (pss_one (ps_ret (pe_cmpR (op_neD hr.units) (pe_lock (pe_lc (own := [("one", 2)]) (g := gName 2) rfl sc_Merger_is_wanted.nd (pi_keys (pe_fld (pv 0) rfl)) (blkOk_by (N := N_Merger_is_wanted) (sc := (defScope s_Merger_is_wanted)) (own := [("one", 2)]) (by decide +kernel)) (fun _ _ _ _ _ => (pg_name (i := 2) sc_Merger_is_wanted.nd rfl (Or.inl rfl))) (fun _ _ _ _ _ => pts_one (PW.pt (pw_and (pt_cmpR op_ge (pv 2) (pv 1) (nomark _)) (pw_and1 (pt_cmpR op_ge (pe_op op_sub (fldK (K := K) rfl (pv 0) rfl) (pe_ix (ixK_tup (K := K) rfl) (pe_dget (hu_of hr) (fldK (K := K) rfl (pv 0) rfl) (pv 2) (fun _ _ => rfl)) pe_int (fun _ _ => rfl))) (fldK (K := K) rfl (pv 0) rfl) (nomark _)))))) (fun _ _ _ _ _ => (pv 2)))) (pe_lst pa_nil) (nomark _)))))), ?_⟩
    obtain ⟨dx, hp⟩ := M.ob
    have hd := M.dc
    have heq := M.eq
    refine ⟨_, rfl, _, rfl, p, _, dx, _, _, rfl, hp, T.cl_Merger, T.n_held, fl_held, d, _, rfl, DGet.k (k := Sum.inl n) hd, _, rfl, ?_⟩
    cases hh : hasN S.hs n with
    | false =>
      rw [val_none (by rw [heq]; exact hh)]
      have e : wantedN R.wt S.clk S.hs n = false := by unfold wantedN; rw [hh]; rfl
      rw [e] at k
      exact iteT (k H (Same.refl H))
    | true =>
      obtain ⟨x0, hx0, hxn, hval, hfind⟩ := val_some (ks := ks) (n := n) (by rw [heq]; exact hh)
      rw [hval]
      refine iteF ?_
      refine ⟨d, _, hd, True.intro, fun od => ?_⟩
      have hpd := M.pd
      have L : ∀ b o, b ≠ d → H b = some o → (upd H d (.frz od (.dK (kvsOf ks)))) b = some o := fun b o n h => by rw [upd_ne n]; exact h
      have Ld : (upd H d (.frz od (.dK (kvsOf ks)))) d = some (.frz od (.dK (kvsOf ks))) := upd_same
      have Lf : ∀ b, (upd H d (.frz od (.dK (kvsOf ks)))) b = none → H b = none ∧ b ≠ d := fun b hb => by
        have n : b ≠ d := fun z => by rw [z, upd_same] at hb; cases hb
        rw [upd_ne n] at hb
        exact ⟨hb, n⟩
      revert L Ld Lf
      generalize (upd H d (.frz od (.dK (kvsOf ks)))) = HL
      intro L Ld Lf
      have hpL := L _ _ hpd hp
      let pass : E3 × Addr → Bool := fun x => decide (n ≤ x.1.1) && decide (S.clk - x.1.2.2 ≥ R.wt)
      refine ⟨_, rfl, p, _, dx, _, _, rfl, hpL, T.cl_Merger, T.n_held, fl_held, d, od, rfl, .inl ⟨_, Ld, fun D hD => lc_keys (d := d) (o := od) (kvs := kvsOf ks) (fun i H' => Same HL H' ∧ H' D = some (.lst ((((ks.take i).filter pass).map fun x => x.1.1).map V.int))) ⟨Same.upd_new hD, upd_same⟩ (fun i H' _ z => z.1 _ _ Ld) ?_ ?_⟩⟩
      · rintro i kk v H1 hi ⟨s1, h1⟩
        obtain ⟨x, hx, hxi, rfl, rfl⟩ := kvs_at hi
        have hpx := s1 _ _ hpL
        have hvx := val_at (ks := ks) (by rw [heq]; exact hM) hx
        have hxe : H1 x.2 = some (.tup [.int x.1.2.1, .int x.1.2.2]) := s1 _ _ (L _ _ (M.td (M.en x hx)) (M.en x hx))
        have et : (ks.take (i + 1)).filter pass = if pass x = true then (ks.take i).filter pass ++ [x] else (ks.take i).filter pass := by
          rw [take_succ_of hxi, List.filter_append]
          cases hpx : pass x with
          | true => rw [if_pos rfl, List.filter_cons_of_pos hpx]; rfl
          | false => rw [if_neg (by decide), List.filter_cons_of_neg (by rw [hpx]; decide)]; exact List.append_nil _
        rw [et]
        refine ⟨rfl, _, rfl, _, rfl, _, _, rfl, rfl, _, rfl, ?_⟩
        refine ite2 (fun hc => ?_) (fun hc => ?_)
        · refine ⟨_, rfl, p, _, dx, _, _, rfl, hpx, T.cl_Merger, T.n_clock, fl_clock, _, rfl, p, _, dx, _, _, rfl, hpx, T.cl_Merger, T.n_held, fl_held, _, rfl, d, _, rfl, .inl ⟨_, Sum.inl x.1.1, .inr ⟨od, s1 _ _ Ld⟩, rfl, hvx.symm⟩, x.2, _, _, _, rfl, rfl, SqT.of hxe, at1, _, _, rfl, rfl, _, rfl, p, _, dx, _, _, rfl, hpx, T.cl_Merger, T.n_wait, fl_wait, _, _, rfl, rfl, _, rfl, ?_⟩
          refine ite2 (fun hc2 => ?_) (fun hc2 => ?_)
          · have e : pass x = true := by
              show (decide (n ≤ x.1.1) && decide (S.clk - x.1.2.2 ≥ R.wt)) = true
              rw [Bool.and_eq_true]; exact ⟨hc, hc2⟩
            rw [if_pos e]
            refine ⟨_, rfl, _, h1, ?_, s1.mut hD, ?_⟩
            · have l1 : ((ks.take i).filter pass).length ≤ ks.length := Nat.le_trans (List.length_filter_le _ _) (by rw [List.length_take]; omega)
              have l2 : ks.length = S.hs.length := by rw [← heq, List.length_map]
              exact small1000 (by rw [List.length_map, List.length_map]; omega)
            · rw [List.map_append, List.map_append]
              exact upd_same
          · have e : ¬ pass x = true := fun z => by
              have z : (decide (n ≤ x.1.1) && decide (S.clk - x.1.2.2 ≥ R.wt)) = true := z
              rw [Bool.and_eq_true] at z
              exact hc2 z.2
            rw [if_neg e]
            exact ⟨s1, h1⟩
        · have e : ¬ pass x = true := fun z => by
            have z : (decide (n ≤ x.1.1) && decide (S.clk - x.1.2.2 ≥ R.wt)) = true := z
            rw [Bool.and_eq_true] at z
            exact hc z.1
          rw [if_neg e]
          exact iteF ⟨s1, h1⟩
      · rintro H1 ⟨s1, h1⟩
        have hkl : (kvsOf ks).length = ks.length := by unfold kvsOf; rw [List.length_map]
        rw [hkl, List.take_length] at h1
        refine ⟨s1 _ _ Ld, by show 0 ≤ sizeLine; decide, fun l hl => ?_⟩
        have hDd : D ≠ d := (Lf D hD).2
        have hld : l ≠ d := fun z => by rw [z, upd_same] at hl; cases hl
        have hD2 : (upd (upd H1 d (.dK (kvsOf ks))) l (.lst [])) D = some (.lst (((ks.filter pass).map fun x => x.1.1).map V.int)) := by
          rw [upd_ne (fun z => by rw [← z, upd_ne hDd, h1] at hl; cases hl), upd_ne hDd]
          exact h1
        refine ⟨.list (((ks.filter pass).map fun x => x.1.1).map PyData.int), .list [], .lst (SqL.of hD2) (dp_ints _), .lst (SqL.of upd_same) .nil, shaped_ints _, rfl, ?_⟩
        rw [eqv_ints]
        have e : (!((ks.filter pass).map fun x => x.1.1).isEmpty) = wantedN R.wt S.clk S.hs n := by
          unfold wantedN
          rw [hh, Bool.true_and, ← heq]
          unfold longN
          rw [List.any_map]
          cases hq : ks.any ((fun e : E3 => decide (n ≤ e.1) && decide (S.clk - e.2.2 ≥ R.wt)) ∘ fun x => x.1) with
          | true =>
            obtain ⟨x, hx, hx2⟩ := List.any_eq_true.mp hq
            have hm : x ∈ ks.filter pass := List.mem_filter.mpr ⟨hx, hx2⟩
            cases hf : ks.filter pass with
            | nil => rw [hf] at hm; cases hm
            | cons y l => rfl
          | false =>
            rw [List.any_eq_false] at hq
            have hf : ks.filter pass = [] := List.filter_eq_nil_iff.mpr fun x hx => hq x hx
            rw [hf]
            rfl
        rw [e]
        refine k _ fun b o hb => ?_
        by_cases hbd : b = d
        · rw [hbd] at hb ⊢
          rw [upd_ne hld.symm, upd_same]
          rw [hd] at hb
          exact hb
        · have hb1 := s1 _ _ (L b o hbd hb)
          rw [upd_ne (fun z => by rw [← z, upd_ne hbd, hb1] at hl; cases hl), upd_ne hbd]
          exact hb1
theorem ok_Merger_close (T : Txt K mg) : FnOk P w K mg base CX0 2 T.f_Merger_close T.fd_Merger_close P_Merger_close (spClose T.C_Merger) := by
  refine T.F_Merger_close.ok sc_Merger_close (fun vs H Q E h => ?_) (fun cdv A outer s H vs Q E hr h => ?_)
  · obtain ⟨p, d, R, S, ks, rfl, _⟩ := h
    rfl
  · obtain ⟨p, d, R, S, ks, rfl, M, hM, hR, k⟩ := h
    refine ⟨_, ((pss_cons (ps_set (i := 1) sc_Merger_close.nd rfl (Or.inl rfl) (pe_lst pa_nil))
  (pss_cons (ps_for PassesOwn.never rfl (pi_list (pe_callB (call_sortedDI rfl) (by rfl) T.z_sorted (by decide +kernel) (pa_cons (pe_fld (pv 0) rfl) pa_nil))) (pg_name (i := 2) sc_Merger_close.nd rfl (Or.inl rfl))
  (pss_one (ps_if (pt_val (pe_meth (pv 0) T.cl_Merger T.m_Merger_is_wanted (ok_Merger_is_wanted T) (hr.mono (by decide)) T.b_Merger_is_wanted .nil pass0 (pa_cons (pv 2) pa_nil))) (pss_cons (ps_fld (pv 0) (pv 2) rfl)
  (pss_one (ps_expr (pe_bm PySem.F.plainAttrs_list PySem.F.slot_list_extend PySem.F.type_list_extend mt_extend (pv 1) (pa_cons (pe_meth0 (pv 0) T.cl_Merger T.m_Merger_go_out (ok_Merger_go_out T) (hr.mono (by decide)) T.b_Merger_go_out .nil pass0) pa_nil))))) pss_nil)))
  (pss_cons (ps_fld (pv 0) (pe_op op_add (pe_fld (pv 0) rfl) pe_int) rfl)
  (pss_one (ps_ret (pv 1))))))), ?_⟩
    obtain ⟨dx, hp⟩ := M.ob
    have hd := M.dc
    have heq := M.eq
    have hlen := hM.len hR
    refine ⟨by show 0 ≤ sizeLine; decide, fun f hf => ?_⟩
    have Mf := M.new (o := .lst []) hf
    have hpf : (upd H f (.lst [])) p = some (.ins T.C_Merger dx (flds R S d)) := by rw [upd_ne (ne_of_none hp hf)]; exact hp
    refine ⟨_, rfl, p, _, dx, _, _, rfl, hpf, T.cl_Merger, T.n_held, fl_held, d, _, S.hs.map (·.1), rfl, .inl Mf.dc, by rw [keys_ks, heq], by rw [List.length_map]; exact hlen, fun ys sl hperm hup hs => ?_⟩
    have hys : ys = keysN S.hs := sortI_eq hup hperm
    subst hys
    have k0 : Km p d H (upd (upd H f (.lst [])) sl (.lst ((keysN S.hs).map V.int))) := ((Km.refl p d H).new hf).new hs
    have M0 := Mf.new (o := .lst ((keysN S.hs).map V.int)) hs
    have hf0 : (upd (upd H f (.lst [])) sl (.lst ((keysN S.hs).map V.int))) f = some (.lst (([] : List Int).map V.int)) := by rw [upd_ne (ne_of_none (o := .lst []) upd_same hs)]; exact upd_same
    have hs0 : (upd (upd H f (.lst [])) sl (.lst ((keysN S.hs).map V.int))) sl = some (.lst ((keysN S.hs).map V.int)) := upd_same
    have sp := M0.np hs0
    have sd := M0.nd hs0
    have sf : sl ≠ f := (ne_of_none (o := .lst []) upd_same hs).symm
    revert k0 M0 hf0 hs0
    generalize (upd (upd H f (.lst [])) sl (.lst ((keysN S.hs).map V.int))) = H0
    intro k0 M0 hf0 hs0
    refine ⟨sl, rfl, ⟨_, SqL.of hs0⟩, for_list (K := K) (a := sl) (xs := (keysN S.hs).map V.int) (fun i σ H' => ∃ (v2 : Option V) (outs : List Int) (S' : MS) (ks' : List (E3 × Addr)), σ = [some (.ref p), some (.ref f), v2] ∧ S'.clk = S.clk ∧ S'.old = S.old ∧ S'.hs.Sublist S.hs ∧ outs.length + S'.hs.length ≤ 100 ∧
      H' f = some (.lst (outs.map V.int)) ∧ H' sl = some (.lst ((keysN S.hs).map V.int)) ∧ MAt T.C_Merger H' p d R S' ks' ∧ Km p d H H' ∧
      closeF R.wt S.clk (keysN S.hs) S.w S.hs = (outs ++ (closeF R.wt S.clk ((keysN S.hs).drop i) S'.w S'.hs).1, (closeF R.wt S.clk ((keysN S.hs).drop i) S'.w S'.hs).2))
      ⟨none, [], S, ks, rfl, rfl, rfl, List.Sublist.refl _, by show 0 + S.hs.length ≤ 100; omega, hf0, hs0, M0, k0, rfl⟩ (fun i σ H' _ ⟨_, _, _, _, _, _, _, _, _, _, z, _⟩ => SqL.of z) ?_ ?_⟩
    · rintro i x σ H1 hi ⟨v2, outs, S1, ks1, rfl, hck, hol, hsub, hsz, hf1, hs1, M1, k1, hcl⟩
      rw [List.getElem?_map] at hi
      obtain ⟨n, hn, rfl⟩ := Option.map_eq_some_iff.mp hi
      have hdrop : (keysN S.hs).drop i = n :: (keysN S.hs).drop (i + 1) := by
        obtain ⟨h1, h2⟩ := List.getElem?_eq_some_iff.mp hn
        rw [List.drop_eq_getElem_cons h1, h2]
      rw [hdrop] at hcl
      refine ⟨_, rfl, p, ?_⟩
      obtain ⟨dx1, hp1⟩ := M1.ob
      have hl1 : S1.hs.length < 64 := Nat.lt_of_le_of_lt hsub.length_le hlen
      refine ⟨dx1, _, rfl, hp1, fl_no (by decide +kernel), _, rfl, p, d, R, S1, ks1, n, rfl, M1, hM.nd.sublist (hsub.map _), hl1, fun H2 s2 => ⟨_, rfl, ?_⟩⟩
      have M2 := M1.same s2
      have hf2 := s2 _ _ hf1
      have hs2 := s2 _ _ hs1
      have k2 := k1.trans (Km.of s2)
      rw [hck]
      refine ite2 (fun hc => ?_) (fun hc => ?_)
      · obtain ⟨dx2, hp2⟩ := M2.ob
        refine ⟨_, rfl, _, rfl, p, _, dx2, _, rfl, hp2, T.cl_Merger, T.n_following, by show 7 < 1000; decide, ?_⟩
        rw [fp_following]
        have M3 : MAt T.C_Merger (upd H2 p (.ins T.C_Merger dx2 (flds R { S1 with w := n } d))) p d R { S1 with w := n } ks1 := M2.setp rfl
        have hf3 : (upd H2 p (.ins T.C_Merger dx2 (flds R { S1 with w := n } d))) f = some (.lst (outs.map V.int)) := by rw [upd_ne (M2.np hf2)]; exact hf2
        have hs3 : (upd H2 p (.ins T.C_Merger dx2 (flds R { S1 with w := n } d))) sl = some (.lst ((keysN S.hs).map V.int)) := by rw [upd_ne (M2.np hs2)]; exact hs2
        have k3 := k2.putp (o := .ins T.C_Merger dx2 (flds R { S1 with w := n } d))
        obtain ⟨dx3, hp3⟩ := M3.ob
        refine ⟨_, rfl, .inl ⟨rfl, _, SqL.of hf3⟩, _, rfl, p, dx3, _, rfl, hp3, fl_no (by decide +kernel), p, d, R, _, ks1, rfl, M3, by show S1.hs.length ≤ 100; omega, fun q H4 ks4 hq hq4 M4 k4 => ?_⟩
        have hfp := M3.np hf3
        have hfd := M3.nd hf3
        have hsp := M3.np hs3
        have hsd := M3.nd hs3
        have hf4 := k4 _ _ hfp hfd hf3
        have hs4 := k4 _ _ hsp hsd hs3
        obtain ⟨g1, g2, g3, g4⟩ := go_end _ n S1.hs rfl
        have hgl : (go n S1.hs).1.length + (go n S1.hs).2.2.length ≤ S1.hs.length := go_len _ n S1.hs rfl
        refine ⟨f, q, _, _, rfl, rfl, hf4, hq4, by rw [List.length_map, List.length_map]; exact sz1000 (by show outs.length + (go n S1.hs).1.length ≤ 1000; omega), ?_⟩
        have M5 := M4.aside (o := .lst (outs.map V.int ++ (go n S1.hs).1.map V.int)) hf4
        refine ⟨_, outs ++ (go n S1.hs).1, { S1 with w := (go n S1.hs).2.1, hs := (go n S1.hs).2.2 }, ks4, rfl, hck, hol, g3.trans hsub, by rw [List.length_append]; show outs.length + (go n S1.hs).1.length + (go n S1.hs).2.2.length ≤ 100; omega, by rw [upd_same, List.map_append], by rw [upd_ne sf]; exact hs4, M5, (k3.trans k4).mut hf, ?_⟩
        rw [hcl]
        conv => lhs; unfold closeF
        rw [if_pos hc, List.append_assoc]
      · refine ⟨_, outs, S1, ks1, rfl, hck, hol, hsub, hsz, hf2, hs2, M2, k2, ?_⟩
        rw [hcl]
        conv => lhs; unfold closeF
        rw [if_neg hc]
    · rintro σ H1 ⟨v2, outs, S1, ks1, rfl, hck, hol, hsub, hsz, hf1, hs1, M1, k1, hcl⟩
      rw [List.length_map, List.drop_length] at hcl
      obtain ⟨dx1, hp1⟩ := M1.ob
      refine ⟨_, rfl, p, _, dx1, _, _, rfl, hp1, T.cl_Merger, T.n_clock, fl_clock, _, _, rfl, rfl, _, rfl, p, _, dx1, _, rfl, hp1, T.cl_Merger, T.n_clock, by show 7 < 1000; decide, _, rfl, ?_⟩
      rw [fp_clock]
      have e : closeM R S = (outs, { S1 with clk := S1.clk + 1 }) := by
        unfold closeM
        rw [hcl]
        show (outs ++ [], _) = _
        rw [List.append_nil]
        obtain ⟨w1, c1, o1, h1⟩ := S1
        dsimp only at *
        subst hck hol
        rfl
      rw [e] at k
      have M2 : MAt T.C_Merger (upd H1 p (.ins T.C_Merger dx1 (flds R { S1 with clk := S1.clk + 1 } d))) p d R { S1 with clk := S1.clk + 1 } ks1 := M1.setp rfl
      exact k f _ ks1 hf (by rw [upd_ne (M1.np hf1)]; exact hf1) M2 (k1.putp)
theorem ok_Merger_dropped (T : Txt K mg) : FnOk P w K mg base CX0 1 T.f_Merger_dropped T.fd_Merger_dropped P_Merger_dropped (spDropped T.C_Merger) := by
  refine T.F_Merger_dropped.ok sc_Merger_dropped (fun vs H Q E h => ?_) (fun cdv A outer s H vs Q E hr h => ?_)
  · obtain ⟨p, d, R, S, ks, rfl, _⟩ := h
    rfl
  · obtain ⟨p, d, R, S, ks, rfl, M, k⟩ := h
    refine ⟨_, ((pss_one (ps_ret (pe_fld (pv 0) rfl)))), ?_⟩
    obtain ⟨dx, hp⟩ := M.ob
    exact ⟨_, rfl, p, _, dx, _, _, rfl, hp, T.cl_Merger, T.n_old, fl_old, k⟩
end
/-! ### arrivals, out_of, run -/
/-- a list of triples in the heap -/
def ComAt (H : Hp) (s : Addr) (cs : List Tri.I3) : Prop := ∃ ts : List (Tri.I3 × Addr), H s = some (.lst (ts.map fun x => V.ref x.2)) ∧ (∀ x ∈ ts, H x.2 = some (.tup [.int x.1.1, .int x.1.2.1, .int x.1.2.2])) ∧ ts.map (·.1) = cs
/-- a list of pairs in the heap -/
def PrsAt (H : Hp) (f : Addr) (os : List (Int × Int)) : Prop := ∃ ts : List ((Int × Int) × Addr), H f = some (.lst (ts.map fun x => V.ref x.2)) ∧ (∀ x ∈ ts, H x.2 = some (.tup [.int x.1.1, .int x.1.2])) ∧ ts.map (·.1) = os
theorem ComAt.same {H H' : Hp} {s : Addr} {cs : List Tri.I3} (h : ComAt H s cs) (k : Same H H') : ComAt H' s cs := by
  obtain ⟨ts, h1, h2, h3⟩ := h
  exact ⟨ts, k _ _ h1, fun x hx => k _ _ (h2 x hx), h3⟩
theorem PrsAt.same {H H' : Hp} {s : Addr} {cs : List (Int × Int)} (h : PrsAt H s cs) (k : Same H H') : PrsAt H' s cs := by
  obtain ⟨ts, h1, h2, h3⟩ := h
  exact ⟨ts, k _ _ h1, fun x hx => k _ _ (h2 x hx), h3⟩
def spArrivals (K : PySem.W.Frag) : Sp := fun vs H Q _ => ∃ (q a b : Addr) (R0 R1 : List Lt), vs = [.ref q] ∧ SqT K H q [.ref a, .ref b] ∧ SqL K H a (R0.map oV) ∧ SqL K H b (R1.map oV) ∧ R0.length ≤ 80 ∧ R1.length ≤ 80 ∧
  ∀ (s : Addr) (H' : Hp), H s = none → ComAt H' s (comes R0 R1) → Same H H' → Q (.ref s) H'
def addrOf : V → Addr
  | .ref a => a
  | _ => 0
theorem map_fix {α : Type} {f : α → α} : ∀ {l : List α}, (∀ y ∈ l, f y = y) → l.map f = l
  | [], _ => rfl
  | y :: l, h => by
    rw [List.map_cons, h y List.mem_cons_self, map_fix fun z hz => h z (List.mem_cons_of_mem _ hz)]
/-- the triple that stands at a place -/
def triAt (H : Hp) (x : V) : Tri.I3 := match x with
  | .ref t => match H t with
    | some (.tup [.int i, .int j, .int l]) => (i, j, l)
    | _ => (0, 0, 0)
  | _ => (0, 0, 0)
section
variable {P : Program} {w : World} {K : PySem.W.Frag} {mg : Str → Option Value} {base : Heap}
theorem ok_arrivals (T : Txt K mg) : FnOk P w K mg base CX0 1 T.f_arrivals T.fd_arrivals P_arrivals (spArrivals K) := by
  refine T.F_arrivals.ok sc_arrivals (fun vs H Q E h => ?_) (fun cdv A outer s H vs Q E hr h => ?_)
  · obtain ⟨q, a, b, R0, R1, rfl, _⟩ := h
    rfl
  · obtain ⟨q, a, b, R0, R1, rfl, hq, ha, hb, l0, l1, k⟩ := h
    refine ⟨_, ((pss_cons (ps_set (i := 1) sc_arrivals.nd rfl (Or.inl rfl) (pe_lst pa_nil))
  (pss_cons (ps_for PassesOwn.never rfl (pi_range1 (by rfl) T.z_range (pa_cons pe_int pa_nil)) (pg_name (i := 2) sc_arrivals.nd rfl (Or.inl rfl))
  (pss_one (ps_for PassesOwn.never rfl (pi_range1 (by rfl) T.z_range (pa_cons (pe_callB call_len_seq (by rfl) T.z_len (by decide +kernel) (pa_cons (pe_ix ix_tup (pv 0) (pv 2) (fun _ _ => rfl)) pa_nil)) pa_nil)) (pg_name (i := 3) sc_arrivals.nd rfl (Or.inl rfl))
  (pss_one (ps_if (pt_cmp (pc_notN (pe_ix ix_list (pe_ix ix_tup (pv 0) (pv 2) (fun _ _ => rfl)) (pv 3) (fun _ _ => rfl)))) (pss_one (ps_expr (pe_bm PySem.F.plainAttrs_list PySem.F.slot_list_append PySem.F.type_list_append mt_append (pv 1) (pa_cons (pe_tup (pa_cons (pe_op op_add (pv 3) (pe_ix ix_list (pe_ix ix_tup (pv 0) (pv 2) (fun _ _ => rfl)) (pv 3) (fun _ _ => rfl))) (pa_cons (pv 3) (pa_cons (pv 2) pa_nil)))) pa_nil)))) pss_nil)))))
  (pss_one (ps_ret (pe_callB cr_sorted3 (by rfl) T.z_sorted (by decide +kernel) (pa_cons (pv 1) pa_nil))))))), ?_⟩
    refine ⟨by show 0 ≤ sizeLine; decide, fun f hf => ?_⟩
    have row : ∀ {i : Nat}, i < 2 → ∃ (c : Addr) (Y : List Lt), atI ([.ref a, .ref b] : List V) ((0 : Int) + (i : Int)) = some (.ref c) ∧ SqL K H c (Y.map oV) ∧ Y.length ≤ 80 ∧ ((i = 0 ∧ Y = R0) ∨ (i = 1 ∧ Y = R1)) := fun {i} hi => by
      have hi' : i = 0 ∨ i = 1 := by omega
      rcases hi' with rfl | rfl
      · exact ⟨a, R0, at0, ha, l0, .inl ⟨rfl, rfl⟩⟩
      · exact ⟨b, R1, at1, hb, l1, .inr ⟨rfl, rfl⟩⟩
    let pre : Nat → List Tri.I3 := fun i => if i = 0 then [] else if i = 1 then arrGo 0 0 R0 else arrGo 0 0 R0 ++ arrGo 1 0 R1
    refine ⟨_, rfl, by decide, by decide, for_range (n := 2) (fun i σ H' => ∃ (v2 v3 : Option V) (ts : List (Tri.I3 × Addr)), σ = [some (.ref q), some (.ref f), v2, v3] ∧ Same H H' ∧ H' f = some (.lst (ts.map fun x => V.ref x.2)) ∧
      (∀ x ∈ ts, H' x.2 = some (.tup [.int x.1.1, .int x.1.2.1, .int x.1.2.2])) ∧ ts.map (·.1) = pre i) ⟨none, none, [], rfl, Same.upd_new hf, upd_same, fun x h => absurd h List.not_mem_nil, rfl⟩ ?_ ?_⟩
    · rintro i σ H1 hi ⟨v2, v3, ts0, rfl, s1, h1, hts0, he0⟩
      obtain ⟨c, Y, hat, hc, lY, way⟩ := row hi
      have ep : pre (i + 1) = pre i ++ arrGo (i : Int) 0 Y := by
        rcases way with ⟨rfl, rfl⟩ | ⟨rfl, rfl⟩
        · rfl
        · rfl
      refine ⟨_, rfl, _, rfl, q, _, _, _, rfl, rfl, s1.sqt hq, hat, c, _, rfl, .inl (s1.seq hc), _, rfl, by omega, by rw [List.length_map]; omega, for_range (n := ((Y.map oV).length : Int).toNat) (fun j σ H' => ∃ (v3 : Option V) (ts : List (Tri.I3 × Addr)), σ = [some (.ref q), some (.ref f), some (.int ((0 : Int) + (i : Int))), v3] ∧ Same H H' ∧ H' f = some (.lst (ts.map fun x => V.ref x.2)) ∧
        (∀ x ∈ ts, H' x.2 = some (.tup [.int x.1.1, .int x.1.2.1, .int x.1.2.2])) ∧ ts.map (·.1) = pre i ++ arrGo (i : Int) 0 (Y.take j)) ⟨v3, ts0, rfl, s1, h1, hts0, by rw [he0]; exact (List.append_nil _).symm⟩ ?_ ?_⟩
      · rintro j σ H2 hj ⟨v3, ts, rfl, s2, h2, hts, he⟩
        have hj2 : j < Y.length := by rw [List.length_map] at hj; omega
        have hy : Y[j]? = some Y[j] := List.getElem?_eq_getElem hj2
        have hay : atI (Y.map oV) ((0 : Int) + (j : Int)) = some (oV Y[j]) := by rw [Int.zero_add]; exact atI_nat (by rw [List.getElem?_map, hy]; rfl)
        have et : arrGo (i : Int) 0 (Y.take (j + 1)) = arrGo (i : Int) 0 (Y.take j) ++ arrGo (i : Int) ((j : Nat) : Int) [Y[j]] := by
          rw [take_succ_of hy, arrGo_app, List.length_take, Int.zero_add]
          congr 2
          omega
        rw [et]
        have rd : ∀ {Q : VK}, Q (oV Y[j]) H2 → tOp (rIxL K) (tOp (rIxT K) (tVar 0) (tVar 2)) (tVar 3) ([some (.ref q), some (.ref f), some (.int ((0 : Int) + (i : Int))), some (.int ((0 : Int) + (j : Int)))] : L2.St) H2 Q := fun k2 =>
          ⟨_, rfl, _, rfl, q, _, _, _, rfl, rfl, s2.sqt hq, hat, _, rfl, c, _, _, _, rfl, rfl, s2.seq hc, hay, k2⟩
        refine rd ⟨_, rfl, ?_⟩
        cases hyj : Y[j] with
        | none =>
          refine iteF ⟨_, ts, rfl, s2, h2, hts, ?_⟩
          rw [he]
          show _ = _ ++ (_ ++ [])
          rw [List.append_nil]
        | some l =>
          refine iteT ?_
          rw [hyj] at rd
          refine ⟨_, rfl, .inl ⟨rfl, _, SqL.of h2⟩, _, rfl, rd ⟨_, _, rfl, rfl, _, rfl, _, rfl, by show 3 ≤ sizeLine; decide, fun t ht => ?_⟩⟩
          have hft : f ≠ t := ne_of_none h2 ht
          have h3 : (upd H2 t (.tup [.int ((0 : Int) + (j : Int) + l), .int ((0 : Int) + (j : Int)), .int ((0 : Int) + (i : Int))])) f = some (.lst (ts.map fun x => V.ref x.2)) := by rw [upd_ne hft]; exact h2
          have tl : ts.length ≤ 1000 := by
            have e := congrArg List.length he
            rw [List.length_map, List.length_append] at e
            have b1 := arrGo_len (i : Int) (Y.take j) 0
            have b2 : (pre i).length ≤ 160 := by
              rcases way with ⟨rfl, _⟩ | ⟨rfl, _⟩
              · exact Nat.zero_le _
              · exact Nat.le_trans (arrGo_len 0 R0 0) (by omega)
            rw [List.length_take] at b1
            omega
          refine ⟨f, _, _, rfl, rfl, h3, small1000 (by rw [List.length_map]; exact tl), ?_⟩
          refine ⟨_, ts ++ [(((0 : Int) + (j : Int) + l, (0 : Int) + (j : Int), (0 : Int) + (i : Int)), t)], rfl, (s2.new ht).mut hf, by rw [upd_same, List.map_append]; rfl, fun x hx => ?_, ?_⟩
          · rcases List.mem_append.mp hx with hx | hx
            · have g := hts x hx
              rw [upd_ne (tup_ne g h2), upd_ne (ne_of_none g ht)]
              exact g
            · rw [List.mem_singleton.mp hx, upd_ne hft.symm]
              exact upd_same
          · rw [List.map_append, he, List.append_assoc]
            show _ ++ (_ ++ [((0 : Int) + (j : Int) + l, (0 : Int) + (j : Int), (0 : Int) + (i : Int))]) = _ ++ (_ ++ [((j : Int) + l, (j : Int), (i : Int))])
            rw [Int.zero_add, Int.zero_add]
      · rintro σ H2 ⟨v3, ts, rfl, s2, h2, hts, he⟩
        refine ⟨_, _, ts, rfl, s2, h2, hts, ?_⟩
        rw [he, ep]
        rw [show (((Y.map oV).length : Int).toNat) = Y.length by rw [List.length_map]; omega, List.take_length]
    · rintro σ H1 ⟨v2, v3, ts, rfl, s1, h1, hts, he⟩
      have hk : ∀ x ∈ ts, triAt H1 (.ref x.2) = x.1 := fun x hx => by
        unfold triAt
        dsimp only
        rw [hts x hx]
      refine ⟨_, rfl, f, _, triAt H1, rfl, SqL.of h1, fun x hx => ?_, fun ys s hup hperm hs => ?_⟩
      · obtain ⟨y, hy, rfl⟩ := List.mem_map.mp hx
        exact ⟨y.2, rfl, by rw [hk y hy]; exact hts y hy⟩
      · have hys : ∀ y ∈ ys, ∃ x ∈ ts, y = .ref x.2 := fun y hy => by
          obtain ⟨x, hx, e⟩ := List.mem_map.mp (hperm.mem_iff.mp hy)
          exact ⟨x, hx, e.symm⟩
        have hfs : ∀ y ∈ ys, y = .ref (addrOf y) := fun y hy => by
          obtain ⟨x, hx, rfl⟩ := hys y hy
          rfl
        refine k s _ (s1.free hs) ⟨ys.map fun y => (triAt H1 y, addrOf y), ?_, fun x hx => ?_, ?_⟩ (s1.new hs)
        · rw [upd_same, List.map_map]
          exact congrArg (fun l => some (HO.lst l)) (map_fix fun y hy => (hfs y hy).symm).symm
        · obtain ⟨y, hy, rfl⟩ := List.mem_map.mp hx
          obtain ⟨z, hz, rfl⟩ := hys y hy
          have g := hts z hz
          show (upd H1 s _) z.2 = _
          rw [upd_ne (ne_of_none g hs), hk z hz]
          exact g
        · rw [List.map_map]
          show ys.map (triAt H1) = _
          refine sort3_eq (SrtO.srtd_map hup) ?_
          have e2 : (ts.map fun x => V.ref x.2).map (triAt H1) = ts.map (·.1) := by
            rw [List.map_map]
            exact List.map_congr_left fun x hx => hk x hx
          have := hperm.map (triAt H1)
          rw [e2, he] at this
          exact this
end
/-- rows in the heap, latenesses within 0 .. 9 -/
structure RwsR (K : PySem.W.Frag) (H : Hp) (q a b : Addr) (R0 R1 : List Lt) : Prop where
  q : SqT K H q [.ref a, .ref b]
  a : SqL K H a (R0.map oV)
  b : SqL K H b (R1.map oV)
  l0 : R0.length ≤ 80
  l1 : R1.length ≤ 80
  f0 : Fits 0 9 R0
  f1 : Fits 0 9 R1
/-- lists (but one) and tuples stand -/
structure Ks (f : Addr) (H H' : Hp) : Prop where
  l : ∀ b xs, b ≠ f → H b = some (.lst xs) → H' b = some (.lst xs)
  t : ∀ b xs, H b = some (.tup xs) → H' b = some (.tup xs)
theorem Ks.of {f : Addr} {H H' : Hp} (s : Same H H') : Ks f H H' := ⟨fun b xs _ h => s _ _ h, fun b xs h => s _ _ h⟩
theorem Ks.km {C f p d : Addr} {H H' : Hp} {R : Rcv} {S : MS} {ks : List (E3 × Addr)} (M : MAt C H p d R S ks) (k : Km p d H H') : Ks f H H' := ⟨fun b xs _ h => k _ _ (M.np h) (M.nd h) h, fun b xs h => k _ _ (M.tp h) (M.td h) h⟩
theorem Ks.put {f : Addr} {H : Hp} {xs : List V} {o : HO} (h : H f = some (.lst xs)) : Ks f H (upd H f o) := ⟨fun b ys n e => by rw [upd_ne n]; exact e, fun b ys e => by rw [upd_ne (tup_ne e h)]; exact e⟩
theorem Ks.trans {f : Addr} {H H1 H2 : Hp} (a : Ks f H H1) (b : Ks f H1 H2) : Ks f H H2 := ⟨fun c xs n h => b.l c xs n (a.l c xs n h), fun c xs h => b.t c xs (a.t c xs h)⟩
theorem ComAt.ks {f : Addr} {H H' : Hp} {s : Addr} {cs : List Tri.I3} (n : s ≠ f) (k : Ks f H H') (h : ComAt H s cs) : ComAt H' s cs := by
  obtain ⟨ts, h1, h2, h3⟩ := h
  exact ⟨ts, k.l _ _ n h1, fun x hx => k.t _ _ (h2 x hx), h3⟩
theorem PrsAt.put {f : Addr} {H : Hp} {os ps : List (Int × Int)} {D : Addr} (h : PrsAt H f os) (hD : PrsAt H D ps) : ∃ xs ys : List V, H f = some (.lst xs) ∧ H D = some (.lst ys) ∧ xs.length = os.length ∧ ys.length = ps.length ∧ PrsAt (upd H f (.lst (xs ++ ys))) f (os ++ ps) := by
  obtain ⟨ts, h1, h2, h3⟩ := h
  obtain ⟨us, g1, g2, g3⟩ := hD
  refine ⟨_, _, h1, g1, by rw [← h3, List.length_map, List.length_map], by rw [← g3, List.length_map, List.length_map], ts ++ us, by rw [upd_same, List.map_append], fun x hx => ?_, by rw [List.map_append, h3, g3]⟩
  rcases List.mem_append.mp hx with hx | hx
  · rw [upd_ne (tup_ne (h2 x hx) h1)]
    exact h2 x hx
  · rw [upd_ne (tup_ne (g2 x hx) h1)]
    exact g2 x hx
/-- a comprehension's turns, as its reading asks for them -/
def LcW (J : It) (g : TG) (tt : TT) (te : TE) (vs : List Nat) (σ : L2.St) (H1 : Hp) (D : Addr) (Qd : Hp → Prop) : Prop :=
  ∃ W : Nat → Nat → Hp → Prop, (∃ m, W 0 m (upd H1 D (.lst []))) ∧ ∀ i m H, W i m H →
    (J.stop i H ∧ Qd H) ∨ (J.go i H ∧ ∃ Nx : Hp → Prop, (∀ H', Nx H' → ∃ m', m' < m ∧ W (i + 1) m' H') ∧ ∀ x H', J.yld i H x H' → g x (wipe σ vs) H' fun σ2 H2 => wipe σ2 vs = wipe σ vs ∧ tt σ2 H2 fun b H3 =>
      if b = true then te σ2 H3 fun y H4 => ∃ acc, H4 D = some (.lst acc) ∧ acc.length < sizeLine ∧ Nx (upd H4 D (.lst (acc ++ [y]))) else Nx H3)
/-- [(moment, one) for one in ..] -/
theorem lc_tag {K : PySem.W.Frag} {a0 a1 a2 a3 a4 a5 a7 a8 a9 a10 : Option V} {m : Int} {q D : Addr} {os : List Int} {H1 : Hp} {Qd : Hp → Prop} (hq : H1 q = some (.lst (os.map V.int))) (hD : H1 D = none) (hl : os.length ≤ 1000)
    (h : ∀ H2, Same H1 H2 → PrsAt H2 D (tag m os) → Qd H2) :
    LcW (Itl K q) (gName 10) tYes (tTup (tCons (tVar 6) (tCons (tVar 10) tNil))) [10] [a0, a1, a2, a3, a4, a5, some (.int m), a7, a8, a9, a10] H1 D Qd := by
  refine lc_list (K := K) (a := q) (xs := os.map V.int) (fun j H' => Same H1 H' ∧ ∃ ts : List ((Int × Int) × Addr), H' D = some (.lst (ts.map fun x => V.ref x.2)) ∧ (∀ x ∈ ts, H' x.2 = some (.tup [.int x.1.1, .int x.1.2])) ∧ ts.map (·.1) = tag m (os.take j))
    ⟨Same.upd_new hD, [], upd_same, fun x hx => absurd hx List.not_mem_nil, rfl⟩ (fun j H' _ z => SqL.of (z.1 _ _ hq)) ?_ ?_
  · rintro j x H' hj ⟨s1, ts, h1, h2, h3⟩
    rw [List.getElem?_map] at hj
    obtain ⟨o, ho, rfl⟩ := Option.map_eq_some_iff.mp hj
    refine ⟨rfl, lc_yes ⟨_, rfl, _, rfl, by show 2 ≤ sizeLine; decide, fun t ht => ?_⟩⟩
    have hDt : D ≠ t := ne_of_none h1 ht
    have tl : ts.length ≤ 1000 := by
      have e := congrArg List.length h3
      unfold tag at e
      rw [List.length_map, List.length_map, List.length_take] at e
      omega
    refine ⟨_, by rw [upd_ne hDt]; exact h1, small1000 (by rw [List.length_map]; exact tl), (s1.new ht).mut hD, ts ++ [((m, o), t)], by rw [upd_same, List.map_append]; rfl, fun x hx => ?_, ?_⟩
    · rcases List.mem_append.mp hx with hx | hx
      · have g := h2 x hx
        rw [upd_ne (tup_ne g h1), upd_ne (ne_of_none g ht)]
        exact g
      · rw [List.mem_singleton.mp hx, upd_ne hDt.symm]
        exact upd_same
    · rw [List.map_append, h3, take_succ_of ho]
      unfold tag
      rw [List.map_append]
      rfl
  · rintro H' ⟨s1, ts, h1, h2, h3⟩
    rw [List.length_map, List.take_length] at h3
    exact h H' s1 ⟨ts, h1, h2, h3⟩
theorem eqv_nil : ∀ ds : List PyData, PyData.eqv (.list ds) (.list []) = ds.isEmpty
  | [] => rfl
  | _ :: _ => rfl
/-- a triple as data -/
def d3 (c : Tri.I3) : PyData := .tuple [.int c.1, .int c.2.1, .int c.2.2]
theorem dp_com {K : PySem.W.Frag} {H : Hp} : ∀ ts : List (Tri.I3 × Addr), (∀ x ∈ ts, H x.2 = some (.tup [.int x.1.1, .int x.1.2.1, .int x.1.2.2])) → DpAll K H (ts.map fun x => V.ref x.2) (ts.map fun x => d3 x.1)
  | [], _ => .nil
  | x :: ts, h => .cons (.tup (SqT.of (h x List.mem_cons_self)) (.cons (.int _) (.cons (.int _) (.cons (.int _) .nil)))) (dp_com ts fun y hy => h y (List.mem_cons_of_mem _ hy))
theorem sh_com (l : List PyData) (h : ∀ d ∈ l, ∃ c, d = d3 c) : SeqAt.shaped (.list l) = true := Sh.ok (n := 2) (Sh.lst fun d hd => by
  obtain ⟨c, rfl⟩ := h d hd
  refine Sh.tup fun e he => ?_
  simp only [List.mem_cons, List.not_mem_nil, or_false] at he
  rcases he with rfl | rfl | rfl <;> exact .int _) (by decide)
theorem lastM_bd {R : Rcv} (hR : R.Ok) {R0 R1 : List Lt} (l0 : R0.length ≤ 80) (l1 : R1.length ≤ 80) (f0 : Fits 0 9 R0) (f1 : Fits 0 9 R1) : -1 ≤ lastM R (comes R0 R1) ∧ lastM R (comes R0 R1) ≤ 120 := by
  unfold lastM
  cases h : (comes R0 R1).getLast? with
  | none => exact ⟨by show (-1 : Int) ≤ -1; decide, by show (-1 : Int) ≤ 120; decide⟩
  | some c =>
    obtain ⟨j, l, h1, h2, _⟩ := comes_mem (List.mem_of_getLast? h)
    have hw := hR.w0
    have hw2 := hR.w20
    show -1 ≤ c.1 + R.wt ∧ c.1 + R.wt ≤ 120
    rcases h1 with h1 | h1
    · have hj := (List.getElem?_eq_some_iff.mp h1).1
      have := f0 _ (List.mem_of_getElem? h1) l rfl
      omega
    · have hj := (List.getElem?_eq_some_iff.mp h1).1
      have := f1 _ (List.mem_of_getElem? h1) l rfl
      omega
theorem run_ok {R : Rcv} (hR : R.Ok) (cs : List Tri.I3) (m : Int) (st : MS × List (Int × Int)) (h : MOk R st.1) : ∀ l : List Tri.I3, MOk R (l.foldl (inStep R m) st).1 := by
  intro l
  induction l generalizing st with
  | nil => exact h
  | cons c l ih =>
    refine ih _ ?_
    unfold inStep
    split
    · exact comeM_ok hR h _ _
    · exact h
theorem runM_ok {R : Rcv} (hR : R.Ok) (cs : List Tri.I3) : ∀ n, MOk R (runM R cs n).1
  | 0 => newM_ok R
  | n + 1 => closeM_ok (run_ok hR cs n _ (runM_ok hR cs n) cs)
theorem inStep_len (R : Rcv) (m : Int) (st : MS × List (Int × Int)) (c : Tri.I3) : (inStep R m st c).2.length + (inStep R m st c).1.hs.length ≤ st.2.length + st.1.hs.length + 1 := by
  unfold inStep
  split
  · have := come_len R st.1 (c.2.1 % R.mks) c.2.1
    dsimp only
    unfold tag
    rw [List.length_append, List.length_map]
    omega
  · exact Nat.le_succ _
theorem fold_len (R : Rcv) (m : Int) : ∀ (l : List Tri.I3) (st : MS × List (Int × Int)), (l.foldl (inStep R m) st).2.length + (l.foldl (inStep R m) st).1.hs.length ≤ st.2.length + st.1.hs.length + l.length
  | [], st => Nat.le_refl _
  | c :: l, st => by
    have h1 := fold_len R m l (inStep R m st c)
    have h2 := inStep_len R m st c
    rw [List.foldl_cons, List.length_cons]
    omega
theorem runM_len (R : Rcv) (cs : List Tri.I3) : ∀ n, (runM R cs n).2.length + (runM R cs n).1.hs.length ≤ n * cs.length
  | 0 => Nat.zero_le _
  | n + 1 => by
    have h1 := runM_len R cs n
    have h2 := fold_len R n cs (runM R cs n)
    have h3 := close_len R (cs.foldl (inStep R n) (runM R cs n)).1
    rw [runM_succ]
    unfold momM
    dsimp only
    unfold tag
    rw [List.length_append, List.length_map, Nat.succ_mul]
    omega
theorem outM_len {R : Rcv} (hR : R.Ok) {R0 R1 : List Lt} (l0 : R0.length ≤ 80) (l1 : R1.length ≤ 80) (f0 : Fits 0 9 R0) (f1 : Fits 0 9 R1) : (outM R R0 R1).1.length ≤ 20000 := by
  obtain ⟨b1, b2⟩ := lastM_bd hR l0 l1 f0 f1
  have hcl := comes_len R0 R1
  have h2 := runM_len R (comes R0 R1) (lastM R (comes R0 R1) + 1).toNat
  have h3 : (lastM R (comes R0 R1) + 1).toNat * (comes R0 R1).length ≤ 121 * 160 := Nat.mul_le_mul (by omega) (by omega)
  unfold outM
  dsimp only
  omega
/-! ### out_of, run -/
def spOutOf (K : PySem.W.Frag) : Sp := fun vs H Q _ => ∃ (rq q a b : Addr) (R : Rcv) (R0 R1 : List Lt), vs = [.ref rq, .ref q] ∧ RcvAt H rq R ∧ R.Ok ∧ RwsR K H q a b R0 R1 ∧
  ∀ (p f : Addr) (H' : Hp), H p = none → H f = none → H' p = some (.tup [.ref f, .int (outM R R0 R1).2]) → PrsAt H' f (outM R R0 R1).1 → Same H H' → Q (.ref p) H'
/-- what stands between two moments -/
structure OoI (K : PySem.W.Frag) (C : Addr) (H : Hp) (x d s f : Addr) (R : Rcv) (cs : List Tri.I3) (st : MS × List (Int × Int)) (H' : Hp) : Prop where
  same : Same H H'
  com : ComAt H' s cs
  out : PrsAt H' f st.2
  mer : ∃ ks, MAt C H' x d R st.1 ks
section
variable {P : Program} {w : World} {K : PySem.W.Frag} {mg : Str → Option Value} {base : Heap}
theorem ok_out_of (T : Txt K mg) : FnOk P w K mg base CX0 4 T.f_out_of T.fd_out_of P_out_of (spOutOf K) := by
  refine T.F_out_of.ok sc_out_of (fun vs H Q E h => ?_) (fun cdv A outer s H vs Q E hr h => ?_)
  · obtain ⟨rq, q, a, b, R, R0, R1, rfl, _⟩ := h
    rfl
  · obtain ⟨rq, q, a, b, R, R0, R1, rfl, hrq, hR, W, k⟩ := h
    refine ⟨_, ((pss_cons (ps_set (i := 2) sc_out_of.nd rfl (Or.inl rfl) (pe_make T.mk_Merger (ok_Merger_init T) (hr.mono (by decide)) (by rfl) T.mg_Merger T.b_Merger_init .nil pass0 (pa_cons (pv 0) pa_nil)))
  (pss_cons (ps_set (i := 3) sc_out_of.nd rfl (Or.inl rfl) (pe_call (ok_arrivals T) (hr.mono (by decide)) (by rfl) T.mg_arrivals T.kp_arrivals T.b_arrivals .nil pass0 (pa_cons (pv 1) pa_nil)))
  (Evl.pss_cut (ps_set (i := 4) sc_out_of.nd rfl (Or.inl rfl) (pe_ifExp (pt_cmpR (op_neD hr.units) (pv 3) (pe_lst pa_nil) (nomark _)) (pe_op op_add (pe_ix ix_tup (pe_ix ix_list (pv 3) (pe_un un_neg pe_int) (fun _ _ => rfl)) pe_int (fun _ _ => rfl)) (pe_ix ix_tup (pv 0) pe_int (fun _ _ => rfl))) (pe_un un_neg pe_int)))
  (pss_cons (ps_set (i := 5) sc_out_of.nd rfl (Or.inl rfl) (pe_lst pa_nil))
  (pss_cons (ps_for PassesOwn.never rfl (pi_range1 (by rfl) T.z_range (pa_cons (pe_op op_add (pv 4) pe_int) pa_nil)) (pg_name (i := 6) sc_out_of.nd rfl (Or.inr rfl))
  (pss_cons (ps_for PassesOwn.never rfl (pi_list (pv 3)) (pg_tup rfl (pgs_cons (pg_name (i := 7) sc_out_of.nd rfl (Or.inl rfl)) (pgs_cons (pg_name (i := 8) sc_out_of.nd rfl (Or.inl rfl)) (pgs_cons (pg_name (i := 9) sc_out_of.nd rfl (Or.inl rfl)) pgs_nil))))
  (pss_one (ps_if (pt_cmpR op_eq (pv 7) (pv 6) (nomark _)) (pss_one (ps_expr (pe_bm PySem.F.plainAttrs_list PySem.F.slot_list_extend PySem.F.type_list_extend mt_extend (pv 5) (pa_cons (pe_lc (own := [("one", 10)]) (g := gName 10) (tt := tYes) rfl sc_out_of.nd (pi_list (pe_meth (pv 2) T.cl_Merger T.m_Merger_come (ok_Merger_come T) (hr.mono (by decide)) T.b_Merger_come .nil pass0 (pa_cons (pe_op op_mod (pv 8) (pe_ix ix_tup (pv 0) pe_int (fun _ _ => rfl))) (pa_cons (pv 8) pa_nil)))) (blkOk_by (N := N_out_of) (sc := (defScope s_out_of)) (own := [("one", 10)]) (by decide +kernel)) (fun _ _ _ _ _ => (pg_name (i := 10) sc_out_of.nd rfl (Or.inl rfl))) (fun _ _ _ _ _ => pts_nil) (fun _ _ _ _ _ => (pe_tup (pa_cons (pv 6) (pa_cons (pv 10) pa_nil))))) pa_nil)))) pss_nil)))
  (pss_one (ps_expr (pe_bm PySem.F.plainAttrs_list PySem.F.slot_list_extend PySem.F.type_list_extend mt_extend (pv 5) (pa_cons (pe_lc (own := [("one", 10)]) (g := gName 10) (tt := tYes) rfl sc_out_of.nd (pi_list (pe_meth0 (pv 2) T.cl_Merger T.m_Merger_close (ok_Merger_close T) (hr.mono (by decide)) T.b_Merger_close .nil pass0)) (blkOk_by (N := N_out_of) (sc := (defScope s_out_of)) (own := [("one", 10)]) (by decide +kernel)) (fun _ _ _ _ _ => (pg_name (i := 10) sc_out_of.nd rfl (Or.inl rfl))) (fun _ _ _ _ _ => pts_nil) (fun _ _ _ _ _ => (pe_tup (pa_cons (pv 6) (pa_cons (pv 10) pa_nil))))) pa_nil))))))
  (pss_one (ps_ret (pe_tup (pa_cons (pv 5) (pa_cons (pe_meth0 (pv 2) T.cl_Merger T.m_Merger_dropped (ok_Merger_dropped T) (hr.mono (by decide)) T.b_Merger_dropped .nil pass0) pa_nil))))))))))), ?_⟩
    -- merger
    refine ⟨_, rfl, fun x dx nx ndx nex => ?_⟩
    have hrq1 : (upd (upd H dx (.own x)) x (.ins T.C_Merger dx [])) rq = some (.tup [.int R.mks, .int R.ah, .int R.wt]) := by rw [upd_ne (ne_of_none hrq nx), upd_ne (ne_of_none hrq ndx)]; exact hrq
    refine ⟨x, rq, dx, R, rfl, upd_same, hrq1, hR, fun d H1 hd M1 kp => ⟨rfl, ?_⟩⟩
    have s1 : Same H H1 := Same.made nx ndx kp
    have hdH : H d = none := by
      cases e : H d with
      | none => rfl
      | some o =>
        rw [upd_ne (ne_of_none e nx), upd_ne (ne_of_none e ndx), e] at hd
        cases hd
    -- coming
    refine ⟨_, rfl, q, a, b, R0, R1, rfl, s1.sqt W.q, s1.seq W.a, s1.seq W.b, W.l0, W.l1, fun s H2 hs C2 s2 => ?_⟩
    have M2 := M1.same s2
    have s02 := s1.trans s2
    obtain ⟨b1, b2⟩ := lastM_bd hR W.l0 W.l1 W.f0 W.f1
    have hcl : (comes R0 R1).length ≤ 160 := Nat.le_trans (comes_len R0 R1) (by have := W.l0; have := W.l1; omega)
    generalize hcs : comes R0 R1 = cs at *
    -- last
    refine ⟨fun σ' H' => σ' = [some (.ref rq), some (.ref q), some (.ref x), some (.ref s), some (.int (lastM R cs)), none, none, none, none, none, none] ∧ Same H2 H', ?_, ?_⟩
    · obtain ⟨ts, h1, h2, h3⟩ := id C2
      refine ⟨_, rfl, by show 0 ≤ sizeLine; decide, fun l hl => ?_⟩
      have s3 : Same H2 (upd H2 l (.lst [])) := Same.upd_new hl
      refine ⟨.list (ts.map fun x => d3 x.1), .list [], .lst (SqL.of (s3 _ _ h1)) (dp_com ts fun x hx => s3 _ _ (h2 x hx)), .lst (SqL.of upd_same) .nil, sh_com _ (fun d hd => by
        obtain ⟨y, _, rfl⟩ := List.mem_map.mp hd
        exact ⟨_, rfl⟩), rfl, ?_⟩
      rw [eqv_nil]
      refine ⟨_, rfl, ?_⟩
      cases hts : ts.getLast? with
      | none =>
        have e : ts = [] := List.getLast?_eq_none_iff.mp hts
        subst e
        refine iteF ⟨1, rfl, ?_⟩
        have e2 : lastM R cs = -1 := by rw [← h3]; rfl
        exact ⟨by rw [e2]; rfl, s3⟩
      | some y =>
        obtain ⟨us, rfl⟩ := List.getLast?_eq_some_iff.mp hts
        have hne : (!(((us ++ [y]).map fun x => d3 x.1).isEmpty)) = true := by
          rw [List.map_append]
          cases us <;> rfl
        rw [hne]
        refine iteT ?_
        have e2 : lastM R cs = y.1.1 + R.wt := by
          unfold lastM
          rw [← h3, List.map_append]
          show (match ((us.map (·.1)) ++ [y.1]).getLast? with | none => -1 | some c => c.1 + R.wt) = _
          rw [List.getLast?_append]
          rfl
        have h1' := s3 _ _ h1
        rw [List.map_append] at h1'
        have hy := s3 _ _ (h2 y (by simp))
        refine ⟨_, rfl, 1, rfl, s, _, _, _, rfl, rfl, SqL.of h1', atI_last _ _, y.2, _, _, _, rfl, rfl, SqT.of hy, at0, _, rfl, rq, _, _, _, rfl, rfl, SqT.of ((s02.trans s3) _ _ hrq), at2, _, _, rfl, rfl, ?_⟩
        exact ⟨by rw [e2]; rfl, s3⟩
    · rintro σ' H3 ⟨rfl, s3⟩
      have M3 := M2.same s3
      have C3 := C2.same s3
      have s03 := s02.trans s3
      refine ⟨by show 0 ≤ sizeLine; decide, fun f hf => ?_⟩
      have hfH : H f = none := s03.free hf
      have hsf : s ≠ f := by
        obtain ⟨ts, h1, _⟩ := C3
        exact ne_of_none h1 hf
      have I0 : OoI K T.C_Merger H x d s f R cs (newM, []) (upd H3 f (.lst [])) := ⟨s03.new hf, C3.same (Same.upd_new hf), ⟨[], upd_same, fun x hx => absurd hx List.not_mem_nil, rfl⟩, [], M3.new hf⟩
      have hrqf : ∀ H', Same H H' → H' rq = some (.tup [.int R.mks, .int R.ah, .int R.wt]) := fun H' z => z _ _ hrq
      refine ⟨_, rfl, _, _, rfl, rfl, _, rfl, by omega, by omega, for_range (n := (lastM R cs + 1).toNat) (fun i σ H' => ∃ (v6 v7 v8 v9 : Option V), σ = [some (.ref rq), some (.ref q), some (.ref x), some (.ref s), some (.int (lastM R cs)), some (.ref f), v6, v7, v8, v9, none] ∧ OoI K T.C_Merger H x d s f R cs (runM R cs i) H')
        ⟨none, none, none, none, rfl, I0⟩ ?_ ?_⟩
      · rintro i σ H4 hi ⟨v6, v7, v8, v9, rfl, I4⟩
        have hi2 : i < 121 := by omega
        have outl : ∀ j, j ≤ cs.length → ((cs.take j).foldl (inStep R (i : Int)) (runM R cs i)).2.length + ((cs.take j).foldl (inStep R (i : Int)) (runM R cs i)).1.hs.length ≤ 20000 := fun j hj => by
          have h1 := fold_len R (i : Int) (cs.take j) (runM R cs i)
          have h2 := runM_len R cs i
          have h3 : i * cs.length ≤ 121 * 160 := Nat.mul_le_mul (by omega) hcl
          rw [List.length_take] at h1
          omega
        obtain ⟨tc, hc1, hc2, hc3⟩ := id I4.com
        have e0 : (0 : Int) + (i : Int) = (i : Int) := Int.zero_add _
        -- for when, thing, road in coming
        refine ⟨_, rfl, s, rfl, ⟨_, SqL.of hc1⟩, for_list (K := K) (a := s) (xs := tc.map fun x => V.ref x.2) (fun j σ H' => ∃ (v7 v8 v9 : Option V), σ = [some (.ref rq), some (.ref q), some (.ref x), some (.ref s), some (.int (lastM R cs)), some (.ref f), some (.int ((0 : Int) + (i : Int))), v7, v8, v9, none] ∧ (H' s = some (.lst (tc.map fun x => V.ref x.2)) ∧ ∀ x ∈ tc, H' x.2 = some (.tup [.int x.1.1, .int x.1.2.1, .int x.1.2.2])) ∧
          OoI K T.C_Merger H x d s f R cs ((cs.take j).foldl (inStep R (i : Int)) (runM R cs i)) H') ⟨v7, v8, v9, rfl, ⟨hc1, hc2⟩, I4⟩ (fun j σ H' _ ⟨_, _, _, _, z, _⟩ => SqL.of z.1) ?_ ?_⟩
        · rintro j xv σ H5 hj ⟨v7, v8, v9, rfl, ⟨g1, g2⟩, I5⟩
          rw [List.getElem?_map] at hj
          obtain ⟨y, hy, rfl⟩ := Option.map_eq_some_iff.mp hj
          have hym := List.mem_of_getElem? hy
          have hcy : cs[j]? = some y.1 := by rw [← hc3, List.getElem?_map, hy]; rfl
          have hjl := (List.getElem?_eq_some_iff.mp hcy).1
          have ef : (cs.take (j + 1)).foldl (inStep R (i : Int)) (runM R cs i) = inStep R (i : Int) ((cs.take j).foldl (inStep R (i : Int)) (runM R cs i)) y.1 := by rw [take_succ_of hcy, List.foldl_append]; rfl
          rw [ef]
          have ol := outl j (by omega)
          have sok := run_ok hR cs (i : Int) (runM R cs i) (runM_ok hR cs i) (cs.take j)
          generalize (cs.take j).foldl (inStep R (i : Int)) (runM R cs i) = st at *
          refine ⟨y.2, _, rfl, SqT.of (g2 y hym), rfl, _, _, rfl, _, _, rfl, _, _, rfl, rfl, ?_⟩
          refine ⟨_, rfl, _, rfl, rfl, _, rfl, ?_⟩
          refine ite2 (fun hc => ?_) (fun hc => ?_)
          · have hcm : y.1.1 = (i : Int) := by
              have := V.int.inj (of_decide_eq_true hc)
              omega
            have eS : inStep R (i : Int) st y.1 = ((comeM R st.1 (y.1.2.1 % R.mks) y.1.2.1).2, st.2 ++ tag (i : Int) (comeM R st.1 (y.1.2.1 % R.mks) y.1.2.1).1) := if_pos hcm
            rw [eS]
            obtain ⟨tf, hf1, _⟩ := id I5.out
            obtain ⟨ks5, M5⟩ := I5.mer
            obtain ⟨dx5, hp5⟩ := M5.ob
            have m0 : 0 < R.mks := by have := hR.m2; omega
            refine ⟨_, rfl, .inl ⟨rfl, _, SqL.of hf1⟩, _, rfl, x, dx5, _, rfl, hp5, fl_no (by decide +kernel), _, rfl, _, rfl, rq, _, _, _, rfl, rfl, SqT.of (hrqf _ I5.same), at0, _, _, rfl, rfl, m0, _, rfl, ?_⟩
            refine ⟨x, d, R, st.1, ks5, _, _, rfl, M5, sok, hR, Int.emod_nonneg _ (by omega), Int.emod_lt_of_pos _ m0, fun u H6 ks6 hu hu6 M6 k6 => ⟨u, rfl, ⟨_, SqL.of hu6⟩, fun D hD => ?_⟩⟩
            have c1 := come_len R st.1 (y.1.2.1 % R.mks) y.1.2.1
            have I6s : Same H H6 := fun b o hb => k6 b o (ne_of_none hb nx) (ne_of_none hb hdH) (I5.same b o hb)
            have kss : Ks f H5 H6 := Ks.km M5 k6
            have sl : H5 f = some (.lst (tf.map fun x => V.ref x.2)) := hf1
            refine lc_tag hu6 hD (by have := sok.len hR; omega) fun H7 s7 P7 => ?_
            have O7 : PrsAt H7 f st.2 := by
              obtain ⟨ts, z1, z2, z3⟩ := I5.out
              exact ⟨ts, s7 _ _ (k6 _ _ (M5.np z1) (M5.nd z1) z1), fun x hx => s7 _ _ (k6 _ _ (M5.tp (z2 x hx)) (M5.td (z2 x hx)) (z2 x hx)), z3⟩
            obtain ⟨xs, ys, z1, z2, z3, z4, z5⟩ := O7.put P7
            rw [e0] at z4 z5
            have tl : (tag (i : Int) (comeM R st.1 (y.1.2.1 % R.mks) y.1.2.1).1).length = (comeM R st.1 (y.1.2.1 % R.mks) y.1.2.1).1.length := List.length_map _
            refine ⟨f, D, xs, ys, rfl, rfl, z1, z2, Nat.le_trans (m := 40000) (by omega) (by decide), ?_⟩
            have kf : Ks f H5 (upd H7 f (.lst (xs ++ ys))) := (kss.trans (Ks.of s7)).trans (Ks.put z1)
            refine ⟨_, _, _, by rw [e0]; rfl, ⟨kf.l _ _ hsf g1, fun x hx => kf.t _ _ (g2 x hx)⟩, (I6s.trans s7).mut hfH, I5.com.ks hsf kf, z5, ks6, (M6.same s7).aside z1⟩
          · have hcm : ¬ y.1.1 = (i : Int) := fun z => hc (decide_eq_true (by rw [z, e0]))
            have eS : inStep R (i : Int) st y.1 = st := if_neg hcm
            rw [eS]
            exact ⟨_, _, _, rfl, ⟨g1, g2⟩, I5⟩
        · rintro σ H5 ⟨v7, v8, v9, rfl, ⟨g1, g2⟩, I5⟩
          have el : (tc.map fun x => V.ref x.2).length = cs.length := by rw [List.length_map, ← hc3, List.length_map]
          rw [el, List.take_length] at I5
          have ol := outl cs.length (Nat.le_refl _)
          rw [List.take_length] at ol
          have sok := run_ok hR cs (i : Int) (runM R cs i) (runM_ok hR cs i) cs
          have er : runM R cs (i + 1) = ((closeM R (cs.foldl (inStep R (i : Int)) (runM R cs i)).1).2, (cs.foldl (inStep R (i : Int)) (runM R cs i)).2 ++ tag (i : Int) (closeM R (cs.foldl (inStep R (i : Int)) (runM R cs i)).1).1) := rfl
          rw [er]
          generalize cs.foldl (inStep R (i : Int)) (runM R cs i) = st at *
          obtain ⟨tf, hf1, _⟩ := id I5.out
          obtain ⟨ks5, M5⟩ := I5.mer
          obtain ⟨dx5, hp5⟩ := M5.ob
          refine ⟨_, rfl, .inl ⟨rfl, _, SqL.of hf1⟩, _, rfl, x, dx5, _, rfl, hp5, fl_no (by decide +kernel), x, d, R, st.1, ks5, rfl, M5, sok, hR, fun u H6 ks6 hu hu6 M6 k6 => ⟨u, rfl, ⟨_, SqL.of hu6⟩, fun D hD => ?_⟩⟩
          have c1 := close_len R st.1
          have I6s : Same H H6 := fun b o hb => k6 b o (ne_of_none hb nx) (ne_of_none hb hdH) (I5.same b o hb)
          have kss : Ks f H5 H6 := Ks.km M5 k6
          refine lc_tag hu6 hD (by have := sok.len hR; omega) fun H7 s7 P7 => ?_
          have O7 : PrsAt H7 f st.2 := by
            obtain ⟨ts, z1, z2, z3⟩ := I5.out
            exact ⟨ts, s7 _ _ (k6 _ _ (M5.np z1) (M5.nd z1) z1), fun x hx => s7 _ _ (k6 _ _ (M5.tp (z2 x hx)) (M5.td (z2 x hx)) (z2 x hx)), z3⟩
          obtain ⟨xs, ys, z1, z2, z3, z4, z5⟩ := O7.put P7
          rw [e0] at z4 z5
          have tl : (tag (i : Int) (closeM R st.1).1).length = (closeM R st.1).1.length := List.length_map _
          refine ⟨f, D, xs, ys, rfl, rfl, z1, z2, Nat.le_trans (m := 40000) (by omega) (by decide), ?_⟩
          have kf : Ks f H5 (upd H7 f (.lst (xs ++ ys))) := (kss.trans (Ks.of s7)).trans (Ks.put z1)
          exact ⟨_, _, _, _, rfl, (I6s.trans s7).mut hfH, I5.com.ks hsf kf, z5, ks6, (M6.same s7).aside z1⟩
      · rintro σ H4 ⟨v6, v7, v8, v9, rfl, I4⟩
        obtain ⟨ks4, M4⟩ := I4.mer
        obtain ⟨dx4, hp4⟩ := M4.ob
        refine ⟨_, rfl, _, rfl, x, dx4, _, rfl, hp4, fl_no (by decide +kernel), x, d, R, _, ks4, rfl, M4, by show 2 ≤ sizeLine; decide, fun p hp => ?_⟩
        have eo : outM R R0 R1 = ((runM R cs (lastM R cs + 1).toNat).2, (runM R cs (lastM R cs + 1).toNat).1.old) := by unfold outM; rw [hcs]
        rw [eo] at k
        exact k p f _ (I4.same.free hp) hfH upd_same (I4.out.same (Same.upd_new hp)) (I4.same.new hp)
end
section
variable {P : Program} {w : World} {K : PySem.W.Frag} {mg : Str → Option Value} {base : Heap}
def spNeedAll (K : PySem.W.Frag) : Sp := fun vs H Q _ => ∃ (p rq q a b : Addr) (D : Rds) (R : Rcv) (R0 R1 : List Lt), vs = [.ref p, .ref rq, .ref q] ∧ RoadsAt H p D ∧ D.Ok ∧ RcvAt H rq R ∧ R.Ok ∧ Rws K H q a b D R0 R1 ∧ Q .non H
theorem ok_need_all (T : Txt K mg) : FnOk P w K mg base CX0 2 T.f_need_all T.fd_need_all P_need_all (spNeedAll K) := by
  refine T.F_need_all.ok sc_need_all (fun vs H Q E h => ?_) (fun cdv A outer s H vs Q E hr h => ?_)
  · obtain ⟨p, rq, q, a, b, D, R, R0, R1, rfl, _⟩ := h
    rfl
  · obtain ⟨p, rq, q, a, b, D, R, R0, R1, rfl, hp, hD, hq, hR, W, k⟩ := h
    refine ⟨_, ((pss_cons (ps_expr (pe_call (ok_need_roads T) (hr.mono (by decide)) (by rfl) T.mg_need_roads T.kp_need_roads T.b_need_roads .nil pass0 (pa_cons (pv 0) pa_nil)))
  (pss_cons (ps_expr (pe_call (ok_need_receiver T) (hr.mono (by decide)) (by rfl) T.mg_need_receiver T.kp_need_receiver T.b_need_receiver .nil pass0 (pa_cons (pv 1) pa_nil)))
  (pss_one (ps_expr (pe_call (ok_need_rows T) (hr.mono (by decide)) (by rfl) T.mg_need_rows T.kp_need_rows T.b_need_rows .nil pass0 (pa_cons (pv 0) (pa_cons (pv 2) pa_nil)))))))), ?_⟩
    exact ⟨_, rfl, p, D, rfl, hp, hD, _, rfl, rq, R, rfl, hq, hR, _, rfl, _, rfl, p, q, a, b, D, R0, R1, rfl, hp, .inr W.q, W.a, W.b, W.len, W.most, W.f0, W.f1, k⟩
def spRun (K : PySem.W.Frag) : Sp := fun vs H Q _ => ∃ (p rq q a b : Addr) (D : Rds) (R : Rcv) (R0 R1 : List Lt), vs = [.ref p, .ref rq, .ref q] ∧ RoadsAt H p D ∧ D.Ok ∧ RcvAt H rq R ∧ R.Ok ∧ Rws K H q a b D R0 R1 ∧
  ∀ (p f : Addr) (H' : Hp), H p = none → H f = none → H' p = some (.tup [.ref f, .int (outM R R0 R1).2]) → PrsAt H' f (outM R R0 R1).1 → Same H H' → Q (.ref p) H'
theorem Rws.r {K : PySem.W.Frag} {H : Hp} {q a b : Addr} {D : Rds} {R0 R1 : List Lt} (W : Rws K H q a b D R0 R1) (hD : D.Ok) : RwsR K H q a b R0 R1 := by
  obtain ⟨⟨u1, u2, u3⟩, u4, u5, u6⟩ := hD
  exact ⟨W.q, W.a, W.b, W.most, by rw [← W.len]; exact W.most, fun y hy v e => by have := W.f0 y hy v e; omega, fun y hy v e => by have := W.f1 y hy v e; omega⟩
theorem ok_run (T : Txt K mg) : FnOk P w K mg base CX0 5 T.f_run T.fd_run P_run (spRun K) := by
  refine T.F_run.ok sc_run (fun vs H Q E h => ?_) (fun cdv A outer s H vs Q E hr h => ?_)
  · obtain ⟨p, rq, q, a, b, D, R, R0, R1, rfl, _⟩ := h
    rfl
  · obtain ⟨p, rq, q, a, b, D, R, R0, R1, rfl, hp, hD, hq, hR, W, k⟩ := h
    refine ⟨_, ((pss_cons (ps_expr (pe_call (ok_need_all T) (hr.mono (by decide)) (by rfl) T.mg_need_all T.kp_need_all T.b_need_all .nil pass0 (pa_cons (pv 0) (pa_cons (pv 1) (pa_cons (pv 2) pa_nil)))))
  (pss_one (ps_ret (pe_call (ok_out_of T) (hr.mono (by decide)) (by rfl) T.mg_out_of T.kp_out_of T.b_out_of .nil pass0 (pa_cons (pv 1) (pa_cons (pv 2) pa_nil))))))), ?_⟩
    exact ⟨_, rfl, _, rfl, _, rfl, p, rq, q, a, b, D, R, R0, R1, rfl, hp, hD, hq, hR, W, _, rfl, _, rfl, rq, q, a, b, R, R0, R1, rfl, hq, hR, W.r hD, k⟩
end
/-! ### _law_spread, _law_receiver -/
def Rds.lo2 (R : Rds) : Int := if R.l1 < R.l0 then R.l1 else R.l0
def Rds.hi2 (R : Rds) : Int := if R.m1 > R.m0 then R.m1 else R.m0
theorem Rds.bd2 {R : Rds} (h : R.Ok) : 0 ≤ R.lo2 ∧ R.lo2 ≤ R.hi2 ∧ R.hi2 ≤ 9 ∧ R.lo2 ≤ R.l0 ∧ R.lo2 ≤ R.l1 ∧ R.m0 ≤ R.hi2 ∧ R.m1 ≤ R.hi2 := by
  obtain ⟨⟨h1, h2, h3⟩, h4, h5, h6⟩ := h
  unfold Rds.lo2 Rds.hi2
  refine ⟨?_, ?_, ?_, ?_, ?_, ?_, ?_⟩ <;> (repeat' split) <;> omega
def spLspread : Sp := fun vs H Q _ => ∃ (p : Addr) (R : Rds), vs = [.ref p] ∧ RoadsAt H p R ∧ R.Ok ∧ ∀ (t : Addr) (H' : Hp), H t = none → H' t = some (.tup [.int R.lo2, .int R.hi2, .int (R.hi2 - R.lo2)]) → Same H H' → Q (.ref t) H'
section
variable {P : Program} {w : World} {K : PySem.W.Frag} {mg : Str → Option Value} {base : Heap}
theorem ok_Lspread (T : Txt K mg) : FnOk P w K mg base CX0 1 T.f_Lspread T.fd_Lspread P_Lspread spLspread := by
  refine T.F_Lspread.ok sc_Lspread (fun vs H Q E h => ?_) (fun cdv A outer s H vs Q E hr h => ?_)
  · obtain ⟨p, R, rfl, _⟩ := h
    rfl
  · obtain ⟨p, R, rfl, ⟨t0, t1, g1, g2, g3⟩, hR, k⟩ := h
    refine ⟨_, ((pss_cons (ps_set (i := 1) sc_Lspread.nd rfl (Or.inl rfl) (pe_op op_cat (pe_callTy call_list_of (by rfl) T.z_list (by decide +kernel) (pa_cons (pe_ix ix_tup (pv 0) pe_int (fun _ _ => rfl)) pa_nil)) (pe_callTy call_list_of (by rfl) T.z_list (by decide +kernel) (pa_cons (pe_ix ix_tup (pv 0) pe_int (fun _ _ => rfl)) pa_nil))))
  (pss_one (ps_ret (pe_tup (pa_cons (pe_callB (cr_min rfl) (by rfl) T.z_min (by decide +kernel) (pa_cons (pv 1) pa_nil)) (pa_cons (pe_callB (cr_max rfl) (by rfl) T.z_max (by decide +kernel) (pa_cons (pv 1) pa_nil)) (pa_cons (pe_op op_sub (pe_callB (cr_max rfl) (by rfl) T.z_max (by decide +kernel) (pa_cons (pv 1) pa_nil)) (pe_callB (cr_min rfl) (by rfl) T.z_min (by decide +kernel) (pa_cons (pv 1) pa_nil))) pa_nil)))))))), ?_⟩
    obtain ⟨⟨u1, u2, u3⟩, u4, u5, u6⟩ := id hR
    refine ⟨_, rfl, p, _, _, _, rfl, rfl, SqT.of g1, at0, t0, _, rfl, .inr (SqT.of g2), fun a ha => ?_⟩
    have s1 : Same H (upd H a (.lst [.int R.l0, .int R.m0])) := Same.upd_new ha
    refine ⟨_, rfl, p, _, _, _, rfl, rfl, SqT.of (s1 _ _ g1), at1, t1, _, rfl, .inr (SqT.of (s1 _ _ g3)), fun b hb => ?_⟩
    have s2 : Same H (upd (upd H a (.lst [.int R.l0, .int R.m0])) b (.lst [.int R.l1, .int R.m1])) := s1.new hb
    have hab : a ≠ b := ne_of_none (o := .lst [.int R.l0, .int R.m0]) upd_same hb
    refine ⟨a, b, _, _, rfl, rfl, by rw [upd_ne hab]; exact upd_same, upd_same, by show 2 + 2 ≤ sizeLine; decide, fun c hc => ?_⟩
    have s3 := s2.new (o := .lst ([.int R.l0, .int R.m0] ++ [.int R.l1, .int R.m1])) hc
    have hcc : (upd (upd (upd H a (.lst [.int R.l0, .int R.m0])) b (.lst [.int R.l1, .int R.m1])) c (.lst ([.int R.l0, .int R.m0] ++ [.int R.l1, .int R.m1]))) c = some (.lst (([R.l0, R.m0, R.l1, R.m1]).map V.int)) := upd_same
    revert s3 hcc
    generalize (upd (upd (upd H a (.lst [.int R.l0, .int R.m0])) b (.lst [.int R.l1, .int R.m1])) c (.lst ([.int R.l0, .int R.m0] ++ [.int R.l1, .int R.m1]))) = H1
    intro s3 hcc
    have emin : ∀ m, m ∈ [R.l0, R.m0, R.l1, R.m1] → (∀ y, y ∈ [R.l0, R.m0, R.l1, R.m1] → m ≤ y) → m = R.lo2 := fun m hm hy => by
      have a1 := hy R.l0 (by simp)
      have a2 := hy R.l1 (by simp)
      simp only [List.mem_cons, List.not_mem_nil, or_false] at hm
      unfold Rds.lo2
      split <;> omega
    have emax : ∀ m, m ∈ [R.l0, R.m0, R.l1, R.m1] → (∀ y, y ∈ [R.l0, R.m0, R.l1, R.m1] → y ≤ m) → m = R.hi2 := fun m hm hy => by
      have a1 := hy R.m0 (by simp)
      have a2 := hy R.m1 (by simp)
      simp only [List.mem_cons, List.not_mem_nil, or_false] at hm
      unfold Rds.hi2
      split <;> omega
    refine ⟨_, rfl, c, _, rfl, SqL.of hcc, (by show 0 < 4; decide), fun m hm hy => ?_⟩
    rw [emin m hm hy]
    refine ⟨_, rfl, c, _, rfl, SqL.of hcc, (by show 0 < 4; decide), fun m2 hm2 hy2 => ?_⟩
    rw [emax m2 hm2 hy2]
    refine ⟨_, rfl, c, _, rfl, SqL.of hcc, (by show 0 < 4; decide), fun m3 hm3 hy3 => ?_⟩
    rw [emax m3 hm3 hy3]
    refine ⟨_, rfl, c, _, rfl, SqL.of hcc, (by show 0 < 4; decide), fun m4 hm4 hy4 => ?_⟩
    rw [emin m4 hm4 hy4]
    refine ⟨_, _, rfl, rfl, by show 3 ≤ sizeLine; decide, fun t ht => ?_⟩
    exact k t _ (s3.free ht) upd_same (s3.new ht)
end
def spLreceiver (K : PySem.W.Frag) : Sp := fun vs H Q _ => ∃ (r p : Addr) (R : Rds), vs = [.ref r, .ref p] ∧ RowAt K r H ∧ RoadsAt H p R ∧ R.Ok ∧ ∀ (q : Addr) (Rc : Rcv) (H' : Hp), H q = none → RcvAt H' q Rc → Rc.Ok → RowAt K r H' → Kp r H H' → Q (.ref q) H'
section
variable {P : Program} {w : World} {K : PySem.W.Frag} {mg : Str → Option Value} {base : Heap}
theorem ok_Lreceiver (T : Txt K mg) : FnOk P w K mg base CX0 2 T.f_Lreceiver T.fd_Lreceiver P_Lreceiver (spLreceiver K) := by
  refine T.F_Lreceiver.ok sc_Lreceiver (fun vs H Q E h => ?_) (fun cdv A outer s H vs Q E hr h => ?_)
  · obtain ⟨r, p, R, rfl, _⟩ := h
    rfl
  · obtain ⟨r, p, R, rfl, hrow, hp, hR, k⟩ := h
    refine ⟨_, ((pss_cons (ps_set (i := 2) sc_Lreceiver.nd rfl (Or.inl rfl) (pe_ix ix_tup (pe_call (ok_Lspread T) (hr.mono (by decide)) (by rfl) T.mg_Lspread T.kp_Lspread T.b_Lspread .nil pass0 (pa_cons (pv 1) pa_nil)) pe_int (fun _ _ => rfl)))
  (pss_cons (ps_if (pt_cmpR op_eq (pe_call (ok_Ltaken T) (hr.mono (by decide)) (by rfl) T.mg_Ltaken T.kp_Ltaken T.b_Ltaken .nil pass0 (pa_cons (pv 0) (pa_cons pe_int pa_nil))) pe_int (nomark _)) (pss_cons (ps_set (i := 3) sc_Lreceiver.nd rfl (Or.inl rfl) (pe_op op_add pe_int (pe_call (ok_Ltaken T) (hr.mono (by decide)) (by rfl) T.mg_Ltaken T.kp_Ltaken T.b_Ltaken .nil pass0 (pa_cons (pv 0) (pa_cons pe_int pa_nil)))))
  (pss_one (ps_ret (pe_tup (pa_cons (pv 3) (pa_cons (pe_op op_add pe_int (pe_call (ok_Ltaken T) (hr.mono (by decide)) (by rfl) T.mg_Ltaken T.kp_Ltaken T.b_Ltaken .nil pass0 (pa_cons (pv 0) (pa_cons (pe_op op_sub (pv 3) pe_int) pa_nil)))) (pa_cons (pe_call (ok_Ltaken T) (hr.mono (by decide)) (by rfl) T.mg_Ltaken T.kp_Ltaken T.b_Ltaken .nil pass0 (pa_cons (pv 0) (pa_cons pe_int pa_nil))) pa_nil))))))) pss_nil)
  (pss_cons (ps_set (i := 4) sc_Lreceiver.nd rfl (Or.inl rfl) (pe_callB (call_max2 rfl) (by rfl) T.z_max (by decide +kernel) (pa_cons pe_int (pa_cons (pe_op op_add (pv 2) (pe_ix ix_list (pe_lst (pa_cons pe_int (pa_cons pe_int (pa_cons pe_int (pa_cons (pe_op op_sub pe_int pe_int) pa_nil))))) (pe_call (ok_Ltaken T) (hr.mono (by decide)) (by rfl) T.mg_Ltaken T.kp_Ltaken T.b_Ltaken .nil pass0 (pa_cons (pv 0) (pa_cons pe_int pa_nil))) (fun _ _ => rfl))) pa_nil))))
  (pss_cons (ps_set (i := 3) sc_Lreceiver.nd rfl (Or.inl rfl) (pe_callB (call_max2 rfl) (by rfl) T.z_max (by decide +kernel) (pa_cons (pe_op op_add (pv 4) pe_int) (pa_cons (pe_op op_add (pe_op op_add (pv 4) (pv 2)) (pe_ix ix_list (pe_lst (pa_cons pe_int (pa_cons pe_int (pa_cons pe_int (pa_cons (pe_op op_sub pe_int pe_int) pa_nil))))) (pe_call (ok_Ltaken T) (hr.mono (by decide)) (by rfl) T.mg_Ltaken T.kp_Ltaken T.b_Ltaken .nil pass0 (pa_cons (pv 0) (pa_cons pe_int pa_nil))) (fun _ _ => rfl))) pa_nil))))
  (pss_one (ps_ret (pe_tup (pa_cons (pv 3) (pa_cons (pv 4) (pa_cons (pe_callB (call_max2 rfl) (by rfl) T.z_max (by decide +kernel) (pa_cons pe_int (pa_cons (pe_op op_add (pe_op op_sub (pv 2) pe_int) (pe_ix ix_list (pe_lst (pa_cons pe_int (pa_cons pe_int (pa_cons pe_int (pa_cons (pe_op op_sub pe_int pe_int) pa_nil))))) (pe_call (ok_Ltaken T) (hr.mono (by decide)) (by rfl) T.mg_Ltaken T.kp_Ltaken T.b_Ltaken .nil pass0 (pa_cons (pv 0) (pa_cons pe_int pa_nil))) (fun _ _ => rfl))) pa_nil))) pa_nil))))))))))), ?_⟩
    obtain ⟨b0, b1, b2, _⟩ := Rds.bd2 hR
    have fin : ∀ (q : Addr) (H1 : Hp) (m a wt : Int), H1 q = none → RowAt K r H1 → Kp r H H1 → 2 ≤ m → m ≤ 32 → 1 ≤ a → a < m → 0 ≤ wt → wt ≤ 20 → Q (.ref q) (upd H1 q (.tup [.int m, .int a, .int wt])) := fun q H1 m a wt hq rw1 k1 h1 h2 h3 h4 h5 h6 =>
      k q ⟨m, a, wt⟩ _ (k1.free (rw1.ne hq) hq) upd_same ⟨h1, h2, h3, h4, h5, h6⟩ (rw1.new hq) (k1.new hq)
    -- a menu of four
    have menu : ∀ (p2 : Addr) (H1 H2 : Hp) (i : Int), H1 p2 = none → RowAt K r H1 → Kp r (upd H1 p2 (.lst [.int 0, .int 0, .int 1, .int (0 - 1)])) H2 → 0 ≤ i → i < 4 → ∃ z : Int, -1 ≤ z ∧ z ≤ 1 ∧ SqL K H2 p2 [.int 0, .int 0, .int 1, .int (0 - 1)] ∧ atI ([.int 0, .int 0, .int 1, .int (0 - 1)] : List V) i = some (.int z) := fun p2 H1 H2 i hp2 rw1 k2 i0 i1 => by
      have hz : ∃ z ∈ [(0 : Int), 0, 1, 0 - 1], atI ([(0 : Int), 0, 1, 0 - 1].map V.int) i = some (.int z) := at_menu i0 i1
      obtain ⟨z, hm, hz⟩ := hz
      refine ⟨z, ?_, ?_, SqL.of (k2 _ _ (rw1.ne hp2) upd_same), hz⟩ <;> (simp only [List.mem_cons, List.not_mem_nil, or_false] at hm; omega)
    -- far
    refine ⟨_, rfl, p, R, rfl, hp, hR, fun t H1 ht ht1 s1 => ⟨t, _, _, _, rfl, rfl, SqT.of ht1, at2, ?_⟩⟩
    have rw1 := hrow.same s1
    have k1 : Kp r H H1 := Kp.of s1
    -- if taken(row, 4) == 3
    refine ⟨_, rfl, r, _, rfl, by decide, rw1, fun v H2 v0 v1 rw2 k2 => ⟨rfl, _, rfl, ?_⟩⟩
    have k02 := k1.trans k2
    refine ite2 (fun hc => ?_) (fun hc => ?_)
    · refine ⟨_, rfl, r, _, rfl, by decide, rw2, fun m H3 m0 m1 rw3 k3 => ⟨_, _, rfl, rfl, ?_⟩⟩
      refine ⟨_, rfl, _, rfl, _, rfl, _, _, rfl, rfl, r, _, rfl, by omega, rw3, fun a H4 a0 a1 rw4 k4 => ⟨_, _, rfl, rfl, ?_⟩⟩
      refine ⟨_, rfl, r, _, rfl, by decide, rw4, fun wt H5 w0 w1 rw5 k5 => ⟨by show 3 ≤ sizeLine; decide, fun q hq => ?_⟩⟩
      exact fin q H5 _ _ _ hq rw5 (k02.trans (k3.trans (k4.trans k5))) (by omega) (by omega) (by omega) (by omega) w0 (by omega)
    · refine ⟨_, rfl, _, _, rfl, rfl, by show 4 ≤ sizeLine; decide, fun p2 hp2 => ?_⟩
      refine ⟨_, rfl, r, _, rfl, by decide, rw2.new hp2, fun i H3 i0 i1 rw3 k3 => ?_⟩
      obtain ⟨z, z0, z1, hz1, hz2⟩ := menu p2 H2 H3 i hp2 rw2 k3 i0 i1
      refine ⟨p2, _, _, _, rfl, rfl, hz1, hz2, _, _, rfl, rfl, _, _, rfl, ?_⟩
      have k03 := (k02.new hp2).trans k3
      generalize ha : (if R.hi2 - R.lo2 + z > 1 then R.hi2 - R.lo2 + z else 1) = ahead
      have ha1 : 1 ≤ ahead ∧ ahead ≤ 10 := by rw [← ha]; split <;> omega
      refine ⟨_, rfl, _, _, rfl, rfl, _, rfl, _, rfl, _, _, rfl, rfl, _, _, rfl, rfl, by show 4 ≤ sizeLine; decide, fun p3 hp3 => ?_⟩
      refine ⟨_, rfl, r, _, rfl, by decide, rw3.new hp3, fun j H4 j0 j1 rw4 k4 => ?_⟩
      obtain ⟨y, y0, y1, hy1, hy2⟩ := menu p3 H3 H4 j hp3 rw3 k4 j0 j1
      refine ⟨p3, _, _, _, rfl, rfl, hy1, hy2, _, _, rfl, rfl, _, _, rfl, ?_⟩
      have k04 := (k03.new hp3).trans k4
      generalize hm : (if ahead + (R.hi2 - R.lo2) + y > ahead + 1 then ahead + (R.hi2 - R.lo2) + y else ahead + 1) = marks
      have hm1 : ahead < marks ∧ marks ≤ 20 := by rw [← hm]; split <;> omega
      refine ⟨_, rfl, _, rfl, _, rfl, _, _, rfl, rfl, _, _, rfl, rfl, by show 4 ≤ sizeLine; decide, fun p4 hp4 => ?_⟩
      refine ⟨_, rfl, r, _, rfl, by decide, rw4.new hp4, fun l H5 l0 l1 rw5 k5 => ?_⟩
      obtain ⟨x, x0, x1, hx1, hx2⟩ := menu p4 H4 H5 l hp4 rw4 k5 l0 l1
      refine ⟨p4, _, _, _, rfl, rfl, hx1, hx2, _, _, rfl, rfl, _, _, rfl, ?_⟩
      have k05 := (k04.new hp4).trans k5
      refine ⟨by show 3 ≤ sizeLine; decide, fun q hq => ?_⟩
      exact fin q H5 _ _ _ hq rw5 k05 (by omega) (by omega) (by omega) (by omega) (by split <;> omega) (by split <;> omega)
end
/-! ### what goes out, and how many -/
theorem go_things : ∀ (n : Nat) (w : Int) (hs : List E3), hs.length = n → ∀ th ∈ (go w hs).1, ∃ e ∈ hs, e.2.1 = th := by
  intro n
  induction n using Nat.strongRecOn with
  | _ n ih =>
    intro w hs hn th hth
    cases q : hasN hs w with
    | false =>
      rw [go_none q] at hth
      exact absurd hth List.not_mem_nil
    | true =>
      obtain ⟨e, he, h1, hf⟩ := find_some q
      have hd := dropN_len q
      rw [go_some hf] at hth
      rcases List.mem_cons.mp hth with h | h
      · exact ⟨e, he, h.symm⟩
      · obtain ⟨e', he', h2⟩ := ih _ (by omega) (w + 1) (dropN hs w) rfl th h
        exact ⟨e', (List.mem_filter.mp he').1, h2⟩
theorem closeF_things (wt clk : Int) : ∀ (ns : List Int) (w : Int) (hs : List E3), ∀ th ∈ (closeF wt clk ns w hs).1, ∃ e ∈ hs, e.2.1 = th
  | [], w, hs, th, h => absurd h List.not_mem_nil
  | n :: ns, w, hs, th, h => by
    unfold closeF at h
    split at h
    · rcases List.mem_append.mp h with h | h
      · exact go_things _ n hs rfl th h
      · obtain ⟨e, he, h2⟩ := closeF_things wt clk ns _ _ th h
        exact ⟨e, (go_end _ n hs rfl).2.2.1.subset he, h2⟩
    · exact closeF_things wt clk ns w hs th h
/-- exactly one is taken out -/
theorem dropN_one : ∀ {hs : List E3} {n : Int}, (hs.map (·.1)).Nodup → hasN hs n = true → (dropN hs n).length + 1 = hs.length
  | [], n, _, h => by cases h
  | e :: hs, n, nd, h => by
    obtain ⟨n1, n2⟩ := List.nodup_cons.mp (show (e.1 :: hs.map (·.1)).Nodup from nd)
    by_cases c : e.1 = n
    · have e2 : dropN (e :: hs) n = hs := by
        unfold dropN
        rw [List.filter_cons_of_neg (by simp [c])]
        refine List.filter_eq_self.mpr fun y hy => ?_
        have : y.1 ≠ e.1 := fun z => n1 (by rw [← z]; exact List.mem_map.mpr ⟨y, hy, rfl⟩)
        rw [c] at this
        simpa using this
      rw [e2]
      rfl
    · have h' : hasN hs n = true := by
        obtain ⟨x, hx, h1⟩ := has_iff.mp h
        rcases List.mem_cons.mp hx with rfl | hx
        · exact absurd h1 c
        · exact has_iff.mpr ⟨x, hx, h1⟩
      have e2 : dropN (e :: hs) n = e :: dropN hs n := by
        unfold dropN
        rw [List.filter_cons_of_pos (by simpa using c)]
      rw [e2, List.length_cons, List.length_cons, dropN_one n2 h']
theorem dropN_nd {hs : List E3} {n : Int} (nd : (hs.map (·.1)).Nodup) : ((dropN hs n).map (·.1)).Nodup := nd.sublist ((List.filter_sublist (l := hs)).map _)
theorem go_cnt : ∀ (n : Nat) (w : Int) (hs : List E3), hs.length = n → (hs.map (·.1)).Nodup → (go w hs).1.length + (go w hs).2.2.length = hs.length := by
  intro n
  induction n using Nat.strongRecOn with
  | _ n ih =>
    intro w hs hn nd
    cases q : hasN hs w with
    | false =>
      rw [go_none q]
      exact Nat.zero_add _
    | true =>
      obtain ⟨e, he, h1, hf⟩ := find_some q
      have hd := dropN_one nd q
      have := ih _ (by omega) (w + 1) (dropN hs w) rfl (dropN_nd nd)
      rw [go_some hf]
      dsimp only
      rw [List.length_cons]
      omega
theorem closeF_cnt (wt clk : Int) : ∀ (ns : List Int) (w : Int) (hs : List E3), (hs.map (·.1)).Nodup → (closeF wt clk ns w hs).1.length + (closeF wt clk ns w hs).2.2.length = hs.length
  | [], w, hs, _ => Nat.zero_add _
  | n :: ns, w, hs, nd => by
    unfold closeF
    split
    · dsimp only
      have h1 := go_cnt _ n hs rfl nd
      have h2 := closeF_cnt wt clk ns (go n hs).2.1 (go n hs).2.2 (nd.sublist ((go_end _ n hs rfl).2.2.1.map _))
      rw [List.length_append]
      omega
    · exact closeF_cnt wt clk ns w hs nd
theorem come_cnt {R : Rcv} {S : MS} (h : MOk R S) (mark th : Int) : ((comeM R S mark th).1.length : Int) + (comeM R S mark th).2.hs.length + (comeM R S mark th).2.old = S.hs.length + S.old + 1 := by
  unfold comeM
  split
  · show ((0 : Nat) : Int) + S.hs.length + (S.old + 1) = _
    omega
  · rename_i c
    have c2 : ¬ hasN S.hs (S.w + (mark - S.w) % R.mks) = true := fun z => c (.inr z)
    have nd : ((S.hs ++ [(S.w + (mark - S.w) % R.mks, th, S.clk)]).map (·.1)).Nodup := by
      rw [List.map_append, List.nodup_append]
      refine ⟨h.nd, by simp, fun x hx y hy => ?_⟩
      rw [List.map_cons, List.map_nil, List.mem_singleton] at hy
      subst hy
      rintro rfl
      obtain ⟨e, he, h2⟩ := List.mem_map.mp hx
      exact c2 (has_iff.mpr ⟨e, he, h2⟩)
    have := go_cnt _ S.w _ rfl nd
    rw [List.length_append] at this
    dsimp only
    have e1 : [((S.w + (mark - S.w) % R.mks, th, S.clk) : E3)].length = 1 := rfl
    omega
/-- what is held: as late as the roads let, held since at most wait -/
structure Hld (lo hi wt : Int) (m : Int) (S : MS) : Prop where
  clk : S.clk = m
  late : ∀ e ∈ S.hs, lo ≤ e.2.2 - e.2.1 ∧ e.2.2 - e.2.1 ≤ hi
  since : ∀ e ∈ S.hs, e.2.2 ≤ m ∧ m - e.2.2 ≤ wt
theorem come_hld {R : Rcv} {S : MS} {lo hi m : Int} (w0 : 0 ≤ R.wt) (h : Hld lo hi R.wt m S) {mark th : Int} (hl : lo ≤ m - th ∧ m - th ≤ hi) :
    Hld lo hi R.wt m (comeM R S mark th).2 ∧ ∀ t ∈ (comeM R S mark th).1, lo ≤ m - t ∧ m - t ≤ hi + R.wt := by
  unfold comeM
  split
  · exact ⟨⟨h.clk, h.late, h.since⟩, fun t ht => absurd ht List.not_mem_nil⟩
  · have late : ∀ e ∈ S.hs ++ [(S.w + (mark - S.w) % R.mks, th, S.clk)], (lo ≤ e.2.2 - e.2.1 ∧ e.2.2 - e.2.1 ≤ hi) ∧ e.2.2 ≤ m ∧ m - e.2.2 ≤ R.wt := fun e he => by
      rcases List.mem_append.mp he with he | he
      · exact ⟨h.late e he, h.since e he⟩
      · rw [List.mem_singleton.mp he]
        dsimp only
        have := h.clk
        refine ⟨⟨by omega, by omega⟩, by omega, by omega⟩
    have g3 := (go_end _ S.w (S.hs ++ [(S.w + (mark - S.w) % R.mks, th, S.clk)]) rfl).2.2.1
    refine ⟨⟨h.clk, fun e he => (late e (g3.subset he)).1, fun e he => (late e (g3.subset he)).2⟩, fun t ht => ?_⟩
    obtain ⟨e, he, rfl⟩ := go_things _ _ _ rfl t ht
    have := late e he
    omega
theorem close_hld {R : Rcv} {S : MS} {lo hi m : Int} (hM : MOk R S) (h : Hld lo hi R.wt m S) :
    Hld lo hi R.wt (m + 1) (closeM R S).2 ∧ (∀ t ∈ (closeM R S).1, lo ≤ m - t ∧ m - t ≤ hi + R.wt) ∧ ∀ e ∈ (closeM R S).2.hs, e ∈ S.hs ∧ m - e.2.2 < R.wt := by
  obtain ⟨i1, i2, i3, i4⟩ := closeF_ok R.wt S.clk (keysN S.hs) S.w S.hs (keysN_lt hM.nd) hM.lo fun e he => .inl ((sortI_perm _).mem_iff.mpr (List.mem_map.mpr ⟨e, he, rfl⟩))
  have short : ∀ e ∈ (closeM R S).2.hs, e ∈ S.hs ∧ m - e.2.2 < R.wt := fun e he => by
    have q := i4 e he
    unfold longN at q
    rw [List.any_eq_false] at q
    have q2 := q e he
    have := h.clk
    simp only [Bool.and_eq_true, decide_eq_true_eq] at q2
    refine ⟨i1.subset he, ?_⟩
    have : ¬ (S.clk - e.2.2 ≥ R.wt) := fun z => q2 ⟨Int.le_refl _, z⟩
    omega
  refine ⟨⟨?_, fun e he => h.late e (i1.subset he), fun e he => ?_⟩, fun t ht => ?_, short⟩
  · show S.clk + 1 = m + 1
    rw [h.clk]
  · have a := h.since e (i1.subset he)
    have b := (short e he).2
    omega
  · obtain ⟨e, he, rfl⟩ := closeF_things _ _ _ _ _ t ht
    have a := h.late e he
    have b := h.since e he
    omega
/-- what the moments so far have told -/
structure Told (lo hi : Int) (R : Rcv) (cs : List Tri.I3) (n : Nat) (st : MS × List (Int × Int)) : Prop where
  ok : MOk R st.1
  hld : Hld lo hi R.wt n st.1
  out : ∀ o ∈ st.2, lo ≤ o.1 - o.2 ∧ o.1 - o.2 ≤ hi + R.wt
  cnt : (st.2.length : Int) + st.1.hs.length + st.1.old = ((cs.filter fun c => decide (c.1 < (n : Int))).length : Nat)
  bel : ∀ o ∈ st.2, o.1 < n
  up : (st.2.map (·.1)).Pairwise (· ≤ ·)
  old : ∀ e ∈ st.1.hs, (∃ c ∈ cs, e.2.2 = c.1) ∧ (n : Int) - 1 - e.2.2 < R.wt
structure Mid (lo hi : Int) (R : Rcv) (cs : List Tri.I3) (n : Nat) (k : Nat) (st : MS × List (Int × Int)) : Prop where
  ok : MOk R st.1
  hld : Hld lo hi R.wt n st.1
  out : ∀ o ∈ st.2, lo ≤ o.1 - o.2 ∧ o.1 - o.2 ≤ hi + R.wt
  cnt : (st.2.length : Int) + st.1.hs.length + st.1.old = ((cs.filter fun c => decide (c.1 < (n : Int))).length : Nat) + (k : Int)
  bel : ∀ o ∈ st.2, o.1 ≤ n
  up : (st.2.map (·.1)).Pairwise (· ≤ ·)
  old : ∀ e ∈ st.1.hs, ∃ c ∈ cs, e.2.2 = c.1
theorem up_tag {os : List (Int × Int)} {m : Int} (ts : List Int) (h : (os.map (·.1)).Pairwise (· ≤ ·)) (hb : ∀ o ∈ os, o.1 ≤ m) : ((os ++ tag m ts).map (·.1)).Pairwise (· ≤ ·) := by
  rw [List.map_append, List.pairwise_append]
  refine ⟨h, ?_, fun x hx y hy => ?_⟩
  · unfold tag
    rw [List.map_map]
    induction ts with
    | nil => exact .nil
    | cons t ts ih =>
      rw [List.map_cons, List.pairwise_cons]
      refine ⟨fun y hy => ?_, ih⟩
      obtain ⟨z, _, rfl⟩ := List.mem_map.mp hy
      exact Int.le_refl _
  · obtain ⟨o, ho, rfl⟩ := List.mem_map.mp hx
    obtain ⟨p, hp, rfl⟩ := List.mem_map.mp hy
    unfold tag at hp
    obtain ⟨t, _, rfl⟩ := List.mem_map.mp hp
    exact hb o ho
theorem mem_tag {m : Int} {ts : List Int} {o : Int × Int} (h : o ∈ tag m ts) : o.1 = m ∧ o.2 ∈ ts := by
  unfold tag at h
  obtain ⟨t, ht, rfl⟩ := List.mem_map.mp h
  exact ⟨rfl, ht⟩
theorem mid_fold {lo hi : Int} {R : Rcv} (hR : R.Ok) {cs : List Tri.I3} {n : Nat} : ∀ (l : List Tri.I3) (k : Nat) (st : MS × List (Int × Int)), (∀ c ∈ l, c ∈ cs ∧ lo ≤ c.1 - c.2.1 ∧ c.1 - c.2.1 ≤ hi) → Mid lo hi R cs n k st →
    Mid lo hi R cs n (k + (l.filter fun c => decide (c.1 = (n : Int))).length) (l.foldl (inStep R n) st)
  | [], k, st, _, h => h
  | c :: l, k, st, hl, h => by
    rw [List.foldl_cons]
    obtain ⟨hc, hlt⟩ := hl c List.mem_cons_self
    by_cases e : c.1 = n
    · have e1 : (c :: l).filter (fun c => decide (c.1 = (n : Int))) = c :: l.filter (fun c => decide (c.1 = (n : Int))) := List.filter_cons_of_pos (by simpa using e)
      have e2 : inStep R n st c = ((comeM R st.1 (c.2.1 % R.mks) c.2.1).2, st.2 ++ tag n (comeM R st.1 (c.2.1 % R.mks) c.2.1).1) := if_pos e
      have z1 := come_hld (R := R) hR.w0 h.hld (mark := c.2.1 % R.mks) (th := c.2.1) (by omega)
      have z2 := come_cnt h.ok (c.2.1 % R.mks) c.2.1
      have := mid_fold hR l (k + 1) (inStep R n st c) (fun x hx => hl x (List.mem_cons_of_mem _ hx)) (by
        rw [e2]
        refine ⟨comeM_ok hR h.ok _ _, z1.1, fun o ho => ?_, ?_, fun o ho => ?_, up_tag _ h.up h.bel, fun x hx => ?_⟩
        · rcases List.mem_append.mp ho with ho | ho
          · exact h.out o ho
          · obtain ⟨o1, o2⟩ := mem_tag ho
            have := z1.2 _ o2
            rw [o1]
            exact this
        · have hcnt := h.cnt
          dsimp only
          unfold tag
          rw [List.length_append, List.length_map]
          omega
        · rcases List.mem_append.mp ho with ho | ho
          · exact h.bel o ho
          · exact Int.le_of_eq (mem_tag ho).1
        · revert hx
          unfold comeM
          split
          · exact fun hx => h.old x hx
          · intro hx
            have g3 := (go_end _ st.1.w (st.1.hs ++ [(st.1.w + (c.2.1 % R.mks - st.1.w) % R.mks, c.2.1, st.1.clk)]) rfl).2.2.1
            rcases List.mem_append.mp (g3.subset hx) with hx | hx
            · exact h.old x hx
            · rw [List.mem_singleton.mp hx]
              exact ⟨c, hc, by show st.1.clk = c.1; rw [h.hld.clk, e]⟩)
      rw [e1, List.length_cons]
      rw [show k + ((l.filter fun c => decide (c.1 = (n : Int))).length + 1) = k + 1 + (l.filter fun c => decide (c.1 = (n : Int))).length by omega]
      exact this
    · have e1 : (c :: l).filter (fun c => decide (c.1 = (n : Int))) = l.filter (fun c => decide (c.1 = (n : Int))) := List.filter_cons_of_neg (by simpa using e)
      have e2 : inStep R n st c = st := if_neg e
      rw [e1, e2]
      exact mid_fold hR l k st (fun x hx => hl x (List.mem_cons_of_mem _ hx)) h
theorem filt_succ (n : Nat) : ∀ cs : List Tri.I3, (cs.filter fun c => decide (c.1 < ((n + 1 : Nat) : Int))).length = (cs.filter fun c => decide (c.1 < (n : Int))).length + (cs.filter fun c => decide (c.1 = (n : Int))).length
  | [] => rfl
  | c :: cs => by
    have ih := filt_succ n cs
    rcases Int.lt_trichotomy c.1 n with h | h | h
    · rw [List.filter_cons_of_pos (by simp; omega), List.filter_cons_of_pos (by simpa using h), List.filter_cons_of_neg (by simp; omega), List.length_cons, List.length_cons, ih]
      omega
    · rw [List.filter_cons_of_pos (by simp; omega), List.filter_cons_of_neg (by simp; omega), List.filter_cons_of_pos (by simpa using h), List.length_cons, List.length_cons, ih]
      omega
    · rw [List.filter_cons_of_neg (by simp; omega), List.filter_cons_of_neg (by simp; omega), List.filter_cons_of_neg (by simp; omega), ih]
theorem told {lo hi : Int} {R : Rcv} (hR : R.Ok) {cs : List Tri.I3} (hc : ∀ c ∈ cs, 0 ≤ c.1 ∧ lo ≤ c.1 - c.2.1 ∧ c.1 - c.2.1 ≤ hi) : ∀ n : Nat, Told lo hi R cs n (runM R cs n)
  | 0 => by
    refine ⟨newM_ok R, ⟨rfl, fun e h => absurd h List.not_mem_nil, fun e h => absurd h List.not_mem_nil⟩, fun e h => absurd h List.not_mem_nil, ?_, fun e h => absurd h List.not_mem_nil, .nil, fun e h => absurd h List.not_mem_nil⟩
    have e : (cs.filter fun c => decide (c.1 < ((0 : Nat) : Int))) = [] := List.filter_eq_nil_iff.mpr fun c hm => by
      have := (hc c hm).1
      simp
      omega
    rw [e]
    rfl
  | n + 1 => by
    have T := told hR hc n
    have M := mid_fold (lo := lo) (hi := hi) hR (cs := cs) (n := n) cs 0 (runM R cs n) (fun c hm => ⟨hm, (hc c hm).2⟩) ⟨T.ok, T.hld, T.out, by have := T.cnt; omega, fun o ho => Int.le_of_lt (T.bel o ho), T.up, fun e he => (T.old e he).1⟩
    rw [runM_succ]
    unfold momM
    generalize cs.foldl (inStep R n) (runM R cs n) = st at *
    obtain ⟨z1, z2, z3⟩ := close_hld M.ok M.hld
    have z4 : ((closeM R st.1).1.length : Int) + (closeM R st.1).2.hs.length = st.1.hs.length := by
      have := closeF_cnt R.wt st.1.clk (keysN st.1.hs) st.1.w st.1.hs M.ok.nd
      unfold closeM
      dsimp only
      omega
    refine ⟨closeM_ok M.ok, by exact_mod_cast z1, fun o ho => ?_, ?_, fun o ho => ?_, up_tag _ M.up M.bel, fun e he => ?_⟩
    · rcases List.mem_append.mp ho with ho | ho
      · exact M.out o ho
      · obtain ⟨o1, o2⟩ := mem_tag ho
        have := z2 _ o2
        rw [o1]
        exact this
    · have h1 := M.cnt
      have h2 := filt_succ n cs
      have h3 : (closeM R st.1).2.old = st.1.old := rfl
      dsimp only
      unfold tag
      rw [List.length_append, List.length_map, h2, h3]
      omega
    · rcases List.mem_append.mp ho with ho | ho
      · have := M.bel o ho
        omega
      · have := (mem_tag ho).1
        omega
    · obtain ⟨y1, y2⟩ := z3 e he
      exact ⟨M.old e y1, by omega⟩
theorem last_max {R : Rcv} {R0 R1 : List Lt} {c : Tri.I3} (h : c ∈ comes R0 R1) : c.1 + R.wt ≤ lastM R (comes R0 R1) := by
  have hu : Up3 (comes R0 R1) := sort3_up _
  unfold lastM
  generalize comes R0 R1 = cs at *
  cases hl : cs.getLast? with
  | none =>
    rw [List.getLast?_eq_none_iff.mp hl] at h
    exact absurd h List.not_mem_nil
  | some d =>
    obtain ⟨us, rfl⟩ := List.getLast?_eq_some_iff.mp hl
    show c.1 + R.wt ≤ d.1 + R.wt
    rcases List.mem_append.mp h with h | h
    · have := (List.pairwise_append.mp hu).2.2 c h d (by simp)
      have := Tri.lex3_no.mp this
      omega
    · rw [List.mem_singleton.mp h]
      exact Int.le_refl _
theorem arrGo_cnt (road : Int) : ∀ (R : List Lt) (i : Int), ((arrGo road i R).length : Int) = R.length - R.countP (·.isNone)
  | [], _ => rfl
  | none :: R, i => by
    have := arrGo_cnt road R (i + 1)
    show ((arrGo road (i + 1) R).length : Int) = _
    rw [List.length_cons, List.countP_cons_of_pos rfl]
    omega
  | some l :: R, i => by
    have := arrGo_cnt road R (i + 1)
    show (((i + l, i, road) :: arrGo road (i + 1) R).length : Int) = _
    rw [List.length_cons, List.length_cons, List.countP_cons_of_neg (by intro z; cases z)]
    omega
/-- the whole: k08's three -/
theorem out08 {lo hi : Int} {R : Rcv} (hR : R.Ok) {R0 R1 : List Lt} (h0 : 0 ≤ lo) (f0 : Fits lo hi R0) (f1 : Fits lo hi R1) :
    (∀ o ∈ (outM R R0 R1).1, lo ≤ o.1 - o.2 ∧ o.1 - o.2 ≤ hi + R.wt) ∧ ((outM R R0 R1).1.length : Int) + (outM R R0 R1).2 = R0.length - R0.countP (·.isNone) + (R1.length - R1.countP (·.isNone)) ∧ ((outM R R0 R1).1.map (·.1)).Pairwise (· ≤ ·) := by
  have hc : ∀ c ∈ comes R0 R1, 0 ≤ c.1 ∧ lo ≤ c.1 - c.2.1 ∧ c.1 - c.2.1 ≤ hi := fun c hm => by
    obtain ⟨j, l, h1, h2, h3⟩ := comes_mem hm
    have hl : lo ≤ l ∧ l ≤ hi := by
      rcases h1 with h1 | h1
      · exact f0 _ (List.mem_of_getElem? h1) l rfl
      · exact f1 _ (List.mem_of_getElem? h1) l rfl
    rw [h2, h3]
    refine ⟨by omega, by omega, by omega⟩
  have T := told (lo := lo) (hi := hi) hR hc (lastM R (comes R0 R1) + 1).toNat
  have hw := hR.w0
  have hall : ∀ c ∈ comes R0 R1, c.1 < ((lastM R (comes R0 R1) + 1).toNat : Int) := fun c hm => by
    have := last_max (R := R) hm
    have := (hc c hm).1
    omega
  have hnil : (runM R (comes R0 R1) (lastM R (comes R0 R1) + 1).toNat).1.hs = [] := by
    refine List.eq_nil_iff_forall_not_mem.mpr fun e he => ?_
    obtain ⟨⟨c, hm, h1⟩, h2⟩ := T.old e he
    have := last_max (R := R) hm
    have := (hc c hm).1
    omega
  have hf : (comes R0 R1).filter (fun c => decide (c.1 < ((lastM R (comes R0 R1) + 1).toNat : Int))) = comes R0 R1 := List.filter_eq_self.mpr fun c hm => by simpa using hall c hm
  refine ⟨T.out, ?_, T.up⟩
  have hcnt := T.cnt
  rw [hf, hnil] at hcnt
  have hcl : ((comes R0 R1).length : Int) = (arrGo 0 0 R0).length + (arrGo 1 0 R1).length := by
    have := (sort3_perm (arrGo 0 0 R0 ++ arrGo 1 0 R1)).length_eq
    unfold comes
    rw [this, List.length_append]
    omega
  rw [arrGo_cnt, arrGo_cnt] at hcl
  have e0 : (([] : List E3).length : Int) = 0 := rfl
  unfold outM
  dsimp only
  omega
end Tp
/-! ### set(xs), xs a list of ints; sorted of a set of any size; max(xs, default=d) -/
namespace L2
open PySem PySem.Spec PyProof.Rows
/-- a new empty set -/
abbrev eSet (w : World) : Obj := { cls := .type "set", dict := none, data := .set #[] 0 (.fresh 0 0 (!w.params.followText "set-order")) }
section
variable {P : Program} {w : World} {A : Around} {E : Value → Shared → Prop} {s : Shared}
set_option maxRecDepth 100000 in
set_option maxHeartbeats 3200000 in
theorem setOfInts {l : Addr} {its : Array Value} (ns : List Int) {Q : Value → Shared → Prop} (hh : A.handled = none) (hl : s.heap.IsList l its) (hi : IntsAre its.toList ns) (hb : ns.length + 1 < scanBound)
    (h : ∀ (h' : Heap) (tk c : Nat), SetR w h' s.heap.objs.size (fun j => decide (j ∈ ns)) c → c ≤ ns.length → (∀ b o, s.heap.get? b = some o → h'.get? b = some o) → Q (.ref s.heap.objs.size) { s with heap := h', toks := tk }) :
    wpAny (model P w) A (call (.type "set") [.ref l]) Q E s := by
  have hn : its.size = ns.length := Array.length_toList.symm.trans (IntsAre.length hi)
  obtain ⟨c, tl, hmro⟩ := F.called_set.mro
  have g1 := F.called_set.made
  have g2 := F.called_set.sub
  refine wpAny_call (codeAny_of_tree (show wpAny _ _ (callAny (.type "set") _) _ _ _ from wpAny_pure ⟨Code.quiet_builtin _ (by decide +kernel), codeAny_builtin F.entry_type_call ?_⟩))
  rw [Around.under_plain (weight_type_call_type "set" [.ref l] []) rfl]
  have g3 := F.called_set.notType
  have g4 := F.called_set.canCreate
  have g5 := F.typeCall_set_1 (.ref l)
  repeat (any_goals (first | assumption | wp_step))

  refine codeAny_mono (code_set_led1 (.ref l) (E := E) (Q₁ := fun obj s₁ => obj = .ref s.heap.objs.size ∧ s₁ = { s with heap := s.heap.push (eSet w) }) ⟨rfl, rfl⟩) fun r s₁ hr => ?_
  rcases r with e | fl
  · exact hr
  cases fl with
  | ret obj =>
    obtain ⟨rfl, rfl⟩ := hr
    have hS : (s.heap.push (eSet w)).get? s.heap.objs.size = some (eSet w) := Heap.get?_push_size _ rfl
    have hT : Shared.TypeIs { s with heap := s.heap.push (eSet w) } (.ref s.heap.objs.size) "set" := ⟨_, hS, rfl⟩
    have g6 := F.called_set.init.lookup
    have g7 := F.called_set.init.bind (.ref s.heap.objs.size)
    repeat (any_goals (first | assumption | wp_step))

    refine codeAny_mono (codeAny_call_builtin (R := wants (fun r s₂ => r = .none ∧ ∃ h' tk c, s₂ = { s with heap := h', toks := tk } ∧ SetR w h' s.heap.objs.size (fun j => decide (j ∈ ns)) c ∧ c ≤ ns.length ∧
        (∀ b o, s.heap.get? b = some o → h'.get? b = some o)) E) F.called_set.init.plain F.entry_set_init (check_set_init_1 hT ?_)) fun r₂ s₂ hr₂ => ?_
    · obtain ⟨⟨cls, dd, data, sl⟩, ho, hc, n, hd⟩ := hl
      simp only at hc hd
      subst hc; subst hd
      have g8 := F.sub_list_set
      have g9 := F.sub_list_frozenset
      have ga : (Value.type "list" == Value.type "dict") = false := by decide
      have ho1 : (s.heap.push (eSet w)).get? l = some { cls := .type "list", dict := dd, data := .seq its n, slots := sl } := Heap.get?_push_of_some _ ho
      have hl1 : (s.heap.push (eSet w)).IsList l its := ⟨_, ho1, rfl, n, rfl⟩
      have hlt : l < s.heap.objs.size := Heap.lt_size ho
      have hz : (s.heap.push (eSet w)).objs.size = s.heap.objs.size + 1 := Heap.size_push ..
      unfold Builtin.«set.__init__» noKeywords Builtin.Frozenset.updateFrom
      generalize hPI : pyIter = PI
      wp_walk
      subst hPI

      refine wpAny_pyIter_list hl1 (wpAny_bind (wpAny_runValue ?_))
      have hh3 : A.in1.in1.in1.handled = none := by simp [hh]
      have d1 : l ≠ (s.heap.push (eSet w)).objs.size := by rw [hz]; exact Nat.ne_of_lt (Nat.lt_succ_of_lt hlt)
      have d2 : s.heap.objs.size ∉ [(s.heap.push (eSet w)).objs.size, l] := by
        rw [hz]
        simp only [List.mem_cons, List.not_mem_nil, or_false, not_or]
        exact ⟨Nat.ne_of_lt (Nat.lt_succ_self _), Nat.ne_of_gt hlt⟩
      refine set_update_ints ((Walks.list hh3 _ l d1 its).toS) s.heap.objs.size d2 ns hn hb (fun i v hv => ?_) (its.size - 0) 0 _ (by omega) (Nat.zero_le _)
        ⟨⟨_, Heap.get?_push_size _ rfl, rfl, rfl⟩, (hl1.push _)⟩ ⟨0, Nat.le_refl 0, setR_new_at (Heap.get?_push_of_some _ hS)⟩ ?_
      · have hi2 : i < ns.length := by rw [← hn]; exact (Array.getElem?_eq_some_iff.mp hv).1
        obtain ⟨t, e⟩ := IntsAre.int_at hi i v (by rw [Array.getElem?_toList]; exact hv)
        exact ⟨ns[i], t, List.getElem?_eq_getElem hi2, by rw [e, List.getD_eq_getElem?_getD, List.getElem?_eq_getElem hi2] <;> rfl⟩
      · intro s' c' hm hc' hS'
        obtain ⟨h', u1, u2, tk', u3⟩ := s'
        obtain rfl : u1 = s.gens := hm.gens
        obtain rfl : u2 = s.drawn := hm.drawn
        obtain rfl : u3 = s.os := hm.os
        refine wpAny_pure (show wpAny _ _ (ret Value.none) _ _ _ from wpAny_pure ⟨rfl, h', tk', c', rfl, hS', by omega, fun b o e => ?_⟩)
        have hb0 := Heap.lt_size e
        refine hm.heap b o ?_ (Heap.get?_push_of_some _ (Heap.get?_push_of_some _ e))
        rw [hz]
        simp only [List.mem_cons, List.not_mem_nil, or_false, not_or]
        exact ⟨Nat.ne_of_lt hb0, Nat.ne_of_lt (Nat.lt_succ_of_lt hb0)⟩
    · rcases r₂ with e | fl₂
      · exact hr₂
      cases fl₂ with
      | ret r =>
        obtain ⟨rfl, h', tk, c', rfl, hS', hc', hk'⟩ := hr₂
        repeat (any_goals (first | assumption | wp_step))
        exact h _ _ _ hS' hc' hk'
      | _ => exact hr₂.elim
  | _ => exact hr.elim
/-- sorted of a set of ints, any number of them -/
theorem sortedSetAny {a : Addr} {S : Int → Bool} {n : Nat} {Q : Value → Shared → Prop} (R : SetR w s.heap a S n) (hh : A.handled = none)
    (hQ : ∀ s' p (out : Array Value) (c : Nat) (ns : List Int), (∀ b o, s.heap.get? b = some o → s'.heap.get? b = some o) → s'.gens = s.gens → s'.os = s.os → s.heap.objs.size ≤ p →
      s'.heap.get? p = some (seqObj "list" out c) → IntsAre out.toList ns → ns.Pairwise (· < ·) → (∀ k, k ∈ ns ↔ S k = true) → ns.length = n → Q (.ref p) s') :
    wpAny (model P w) A (call (.builtin "sorted") [.ref a]) Q E s := by
  obtain ⟨o, es, ep, t, ho, hex, hd, g, nd, hm, hb, hf, hn, hr, hl⟩ := R
  have hbz : n ≤ sizeLine := Nat.le_trans (Nat.le_of_lt (by rw [← hn]; exact hb)) (by decide)
  refine Calls.call_function_entry kind_sorted plain_sorted entry_sorted (args_sorted1 _) ?_
  unfold Builtin.«sorted»
  refine wpAny_bind (m := checkCount "sorted" 1 1 _) (wpAny_pure (wpAny_bind (collect_set (A := A.in1) hh ⟨o, ho, hex.1, hd⟩ hf hb hr hl fun s1 vs k1 hz g1 o1 pm => ?_)))
  have hv : vs.length = n := by rw [pm.length_eq, List.length_map, Array.length_toList]; exact hn
  have hI : IntsAre vs (vs.map Builtin.Re.reRawOf) := ints_of vs fun v hv => by
    obtain ⟨e, he, q⟩ := List.mem_map.mp (pm.mem_iff.mp hv)
    obtain ⟨k, tk, h1, _⟩ := g e he
    exact ⟨k, tk, q.symm.trans h1⟩
  have pk : (vs.map Builtin.Re.reRawOf).Perm (es.toList.map keyOf) := by
    have q := pm.map Builtin.Re.reRawOf
    rw [List.map_map] at q
    exact q
  refine wpAny_bind (wpAny_newList ?_ (by rw [hv]; exact hbz))
  have hoL : (s1.heap.push (seqObj "list" vs.toArray 0)).get? s1.heap.objs.size = some (seqObj "list" vs.toArray 0) := Heap.get?_push_size _ rfl
  refine wpAny_bind (wpAny_holding (wpAny_call_entry slot_list_sort ⟨_, hoL, rfl⟩ entry_list_sort
    (SrtO.list_sort_ord SrtO.swo_int hoL (by rw [hv]; exact hbz) (fun h2 => SrtO.ints_sortable hI h2) fun out b1 b2 => ⟨_, rfl, ?_⟩) (args_list_sort _)))
  obtain ⟨a1, a2, a3⟩ := SrtO.ints_out hI b1 b2
  obtain ⟨c, hc⟩ := sortedHeap_at (vs := vs) (out := out.toArray) hoL
  have pn : (out.map SrtO.iv).Perm (es.toList.map keyOf) := a2.trans pk
  refine wpAny_pure ⟨_, rfl, hQ _ s1.heap.objs.size out.toArray c (out.map SrtO.iv) (fun b u e => ?_) g1 o1 hz hc a1 (lt_of_le_nodup _ a3 (pn.nodup_iff.mpr nd)) (fun k => by rw [pn.mem_iff, ← hm k]) ?_⟩
  · have q := k1 b u e
    have hlt := Heap.lt_size q
    rw [show (sortedHeap (s1.heap.push (seqObj "list" vs.toArray 0)) s1.heap.objs.size vs out.toArray).get? b = _ from sortedHeap_old (Nat.ne_of_lt hlt) (by rw [size_push']; exact Nat.lt_succ_of_lt hlt)]
    exact Heap.get?_push_of_some _ q
  · rw [pn.length_eq, List.length_map, Array.length_toList]; exact hn
end
/-- set(xs) of a list of ints -/
def rSetLI (K : PySem.W.Frag) (w : World) : List V → Hp → VK → Prop := fun vs H Q => ∃ (p : Addr) (ns : List Int), vs = [.ref p] ∧ SqL K H p (ns.map V.int) ∧ ns.length ≤ 4000 ∧
  ∀ (a : Addr) (c : Nat), c ≤ ns.length → H a = none → Q (.ref a) (upd H a (SetO w a (fun j => decide (j ∈ ns)) c))
/-- sorted(a set of ints) -/
def rSortedSetA (w : World) : List V → Hp → VK → Prop := fun vs H Q => ∃ (a : Addr) (S : Int → Bool) (n : Nat), vs = [V.ref a] ∧ H a = some (SetO w a S n) ∧ n ≤ 4000 ∧
  ∀ (ns : List Int) (p : Addr), ns.Pairwise (· < ·) → (∀ k : Int, k ∈ ns ↔ S k = true) → H p = none → Q (.ref p) (upd H p (.lst (ns.map V.int)))
/-- max(xs, default=d) of a list of ints -/
def rMaxD (K : PySem.W.Frag) : List V → List V → Hp → VK → Prop := fun vs zs H Q => ∃ (p : Addr) (ns : List Int) (d : Int), vs = [.ref p] ∧ zs = [.int d] ∧ SqL K H p (ns.map V.int) ∧ Q (.int (match ns with | [] => d | x :: xs => xs.foldl max x)) H
section
variable {X : Cx} {K : PySem.W.Frag}
theorem cr_setL (hc : X.calm = true) : CallR X (.type "set") (rSetLI X.K X.w) := by
  intro pins s σ H vs us Q I r h
  obtain ⟨p, ns, rfl, hs, hn, q⟩ := h
  obtain ⟨its, rv, hl, hz⟩ := I.list hs
  rw [Vals.ref1 r]
  have hi : IntsAre its.toArray.toList ns := by
    have := rv.ints
    simpa using this
  refine setOfInts ns (I.ok.hd hc) hl.isList hi (by unfold scanBound; omega) fun h' tk c R hcn k => ?_
  exact ⟨.ref _, upd H s.heap.objs.size (SetO X.w s.heap.objs.size (fun j => decide (j ∈ ns)) c), I.laid (t' := tk) k (Nat.le_refl _) (setO_new R), rfl, q _ c hcn (I.hok.fresh (Nat.le_refl _))⟩
theorem cr_sortedSetA (hc : X.calm = true) : CallR X (.builtin "sorted") (rSortedSetA X.w) := by
  intro pins s σ H vs us Q I r h
  obtain ⟨a, S, n, rfl, ha, hn, q⟩ := h
  rw [Vals.ref1 r]
  refine sortedSetAny (setO_get I ha) (I.ok.hd hc) fun s' p out c ns k g o hp hg hi hs hm hl => ?_
  have hlen : (ns.map V.int).length ≤ sizeLine := by rw [List.length_map, hl]; exact Nat.le_trans hn (by decide)
  have hnn : H p = none := I.hok.fresh hp
  have J : Inv X pins σ (upd H p (.lst (ns.map V.int))) { s with heap := s'.heap, gens := s'.gens, drawn := s'.drawn, toks := s'.toks } :=
    I.call (ch := []) (Un.laid k hp hnn) (I.hok.laid k hp ⟨hlen, out.toList, c, vals_of_ints hi, hg⟩) (by rw [g]; exact I.bare) (fun _ z => nomatch z)
  have e : s' = { s with heap := s'.heap, gens := s'.gens, drawn := s'.drawn, toks := s'.toks } := by
    cases s'
    cases s
    cases o
    rfl
  rw [e]
  exact ⟨.ref p, _, J, rfl, q ns p hs hm hnn⟩
theorem dpInts {K : PySem.W.Frag} {H : Hp} : ∀ l : List Int, DpAll K H (l.map V.int) (l.map PyData.int)
  | [] => .nil
  | i :: l => .cons (.int i) (dpInts l)
theorem alikeInts (ns : List Int) : PySem.W.AlikeAll (ns.map PyData.int) := by
  refine ⟨fun x hx y hy => ?_, fun x hx => ?_⟩
  · obtain ⟨i, _, rfl⟩ := List.mem_map.mp hx
    obtain ⟨j, _, rfl⟩ := List.mem_map.mp hy
    rfl
  · obtain ⟨i, _, rfl⟩ := List.mem_map.mp hx
    intro z
    cases z
theorem cr_maxD (hc : X.calm = true) (hu : X.A.units + 64 < cLine) : CallRK X (.builtin "max") [Str.ofString "default"] (rMaxD X.K) := by
  intro pins s σ H vs zs us ws Q I r rz h
  obtain ⟨p, ns, d, rfl, rfl, hs, q⟩ := h
  obtain ⟨its, rv, hl, hz⟩ := I.list hs
  rw [Vals.ref1 r]
  obtain ⟨u, rfl, t, rfl⟩ := rz.one
  obtain ⟨as, ra⟩ := Dp.readsAll I _ _ _ (dpInts ns) rv
  refine PySem.W.max_list_default (xs := ns.map PyData.int) (as := as) (I.ok.hd hc) hl.isList (by simpa using ra) (alikeInts ns) ?_ (fun hx h' tk k => ?_) (fun y ys i v h' tk bs hx hv rd k => ?_)
  · rw [depthAll_ints]
    omega
  · obtain rfl : ns = [] := List.map_eq_nil_iff.mp hx
    exact ⟨.int d, H, I.kept (t' := tk) k, ⟨_, rfl⟩, q⟩
  · cases ns with
    | nil => cases hx
    | cons n ns =>
      obtain ⟨rfl, rfl⟩ := List.cons.inj hx
      rw [PySem.W.maxD_ints] at rd
      cases rd
      exact ⟨.int (ns.foldl max n), H, I.kept (t' := tk) k, ⟨_, rfl⟩, q⟩
theorem maxDK (h : X.K = K) (hc : X.calm = true) (hu : X.A.units + 64 < cLine) : CallRK X (.builtin "max") [Str.ofString "default"] (rMaxD K) := h ▸ cr_maxD hc hu
theorem lcountK (h : X.K = K) : MtR X "list.count" (rCntI K) := h ▸ mt_lcount
theorem bmK {T name id : String} {o e : Expr} {es : List Expr} {to : TE} {t : TA} {apos cpos : Pos} {r : V → List V → Hp → VK → Prop} (h : X.K = K) (pa : PlainAttrs T) (slot : Slot T name id) (hty : typeOf (.builtin id) = pure (.type "method_descriptor")) (hm : MtR X id r) (ho : PE X o to) (ha : PA X (e :: es) t)
    (hbase : attributeBase o name X.env (eval o X.env) = eval o X.env := by rfl)
    (hfew : ((backTo cpos (starEach (e :: es) X.env)).all (fun x => !x.1) && (backToKw cpos (keywordEach [] X.env)).all (fun x => x.1.isSome)
      && decide ((e :: es).length + ([] : List Keyword).length + (if ([] : List Keyword).isEmpty then 0 else 1) < 30)) = true := by rfl)
    (hline : (apos.endLine == cpos.line) = true := by rfl) (hs : starEach (e :: es) X.env = (false, eval e X.env) :: starEach es X.env := by rfl) (hplain : (backTo cpos (starEach es X.env)).any (·.1) = false := by rfl) :
    PE X (.Call (.Attribute o name apos) (e :: es) [] cpos) (tBM K T r to t) := h ▸ pe_bm pa slot hty hm ho ha hbase hfew hline hs hplain
theorem slK_list (h : X.K = K) : SlR X (rSlL K) := h ▸ sl_list
end
end L2
namespace Tp
open PySem L2
/-! ### faults -/
def maxD0 : List Int → Int
  | [] => 0
  | x :: xs => xs.foldl max x
def nubI : List Int → List Int
  | [] => []
  | x :: l => if x ∈ nubI l then nubI l else x :: nubI l
theorem nubI_mem {x : Int} : ∀ {l : List Int}, x ∈ nubI l ↔ x ∈ l
  | [] => Iff.rfl
  | y :: l => by
    have ih := nubI_mem (x := x) (l := l)
    unfold nubI
    split
    · rename_i h
      rw [ih, List.mem_cons]
      refine ⟨.inr, fun z => z.elim (fun e => ?_) id⟩
      subst e
      exact ih.mp h
    · rw [List.mem_cons, List.mem_cons, ih]
theorem nubI_nd : ∀ l : List Int, (nubI l).Nodup
  | [] => List.nodup_nil
  | y :: l => by
    unfold nubI
    split
    · exact nubI_nd l
    · rename_i h
      exact List.nodup_cons.mpr ⟨h, nubI_nd l⟩
theorem nubI_len : ∀ l : List Int, (nubI l).length ≤ l.length
  | [] => Nat.le_refl _
  | y :: l => by
    unfold nubI
    split
    · exact Nat.le_succ_of_le (nubI_len l)
    · exact Nat.succ_le_succ (nubI_len l)
def setI (ts : List Int) : List Int := sortI (nubI ts)
def lostM (n : Nat) (ts : List Int) : List Int := ((List.range n).map fun i : Nat => (i : Int)).filter fun i => !ts.contains i
def twiceM (ts : List Int) : List Int := (setI ts).filter fun i => decide ((1 : Int) < (ts.count i : Nat))
def turnL (ts : List Int) (n : Nat) : List Int := (List.range n).filterMap fun k => if ts.getD k 0 < maxD0 (ts.take k) then some (ts.getD k 0) else none
def turnM (ts : List Int) : List Int := setI (turnL ts ts.length)
theorem rise_uniq : ∀ {l m : List Int}, l.Pairwise (· < ·) → m.Pairwise (· < ·) → (∀ x, x ∈ l ↔ x ∈ m) → l = m
  | [], [], _, _, _ => rfl
  | [], y :: m, _, _, h => absurd ((h y).mpr List.mem_cons_self) List.not_mem_nil
  | x :: l, [], _, _, h => absurd ((h x).mp List.mem_cons_self) List.not_mem_nil
  | x :: l, y :: m, hl, hm, h => by
    obtain ⟨l1, l2⟩ := List.pairwise_cons.mp hl
    obtain ⟨m1, m2⟩ := List.pairwise_cons.mp hm
    have e : x = y := by
      rcases List.mem_cons.mp ((h x).mp List.mem_cons_self) with e | e
      · exact e
      · rcases List.mem_cons.mp ((h y).mpr List.mem_cons_self) with e2 | e2
        · exact e2.symm
        · have := l1 y e2
          have := m1 x e
          omega
    subst e
    rw [rise_uniq l2 m2 fun z => ⟨fun q => ?_, fun q => ?_⟩]
    · rcases List.mem_cons.mp ((h z).mp (List.mem_cons_of_mem _ q)) with e | e
      · subst e
        exact absurd (l1 z q) (Int.lt_irrefl z)
      · exact e
    · rcases List.mem_cons.mp ((h z).mpr (List.mem_cons_of_mem _ q)) with e | e
      · subst e
        exact absurd (m1 z q) (Int.lt_irrefl z)
      · exact e
theorem setI_mem {ts : List Int} {x : Int} : x ∈ setI ts ↔ x ∈ ts := by
  unfold setI
  rw [(sortI_perm _).mem_iff, nubI_mem]
theorem setI_rise (ts : List Int) : (setI ts).Pairwise (· < ·) := L2.lt_of_le_nodup _ (sortI_up _) ((sortI_perm _).nodup_iff.mpr (nubI_nd _))
theorem setI_eq {ts ns : List Int} (h : ns.Pairwise (· < ·)) (hm : ∀ k : Int, k ∈ ns ↔ k ∈ ts) : ns = setI ts := rise_uniq h (setI_rise ts) fun x => (hm x).trans setI_mem.symm
theorem setI_len (ts : List Int) : (setI ts).length ≤ ts.length := by
  unfold setI
  rw [(sortI_perm _).length_eq]
  exact nubI_len ts
theorem turnL_succ (ts : List Int) (k : Nat) : turnL ts (k + 1) = turnL ts k ++ (if ts.getD k 0 < maxD0 (ts.take k) then [ts.getD k 0] else []) := by
  unfold turnL
  rw [List.range_succ, List.filterMap_append]
  congr 1
  show List.filterMap _ [k] = _
  split
  · rename_i h
    rw [List.filterMap_cons, if_pos h]
    rfl
  · rename_i h
    rw [List.filterMap_cons, if_neg h]
    rfl
theorem turnL_len (ts : List Int) (n : Nat) : (turnL ts n).length ≤ n := Nat.le_trans (List.length_filterMap_le _ _) (by rw [List.length_range]; exact Nat.le_refl _)
theorem come_old {R : Rcv} {S : MS} (h : 0 ≤ S.old) (mark th : Int) : 0 ≤ (comeM R S mark th).2.old := by
  unfold comeM
  split
  · show 0 ≤ S.old + 1
    omega
  · exact h
theorem inStep_old {R : Rcv} {m : Int} : ∀ (l : List Tri.I3) (st : MS × List (Int × Int)), 0 ≤ st.1.old → 0 ≤ (l.foldl (inStep R m) st).1.old
  | [], _, h => h
  | c :: l, st, h => by
    rw [List.foldl_cons]
    refine inStep_old l _ ?_
    unfold inStep
    split
    · exact come_old h _ _
    · exact h
theorem runM_old (R : Rcv) (cs : List Tri.I3) : ∀ n, 0 ≤ (runM R cs n).1.old
  | 0 => Int.le_refl _
  | n + 1 => inStep_old cs _ (runM_old R cs n)
theorem outM_le {R : Rcv} (hR : R.Ok) {R0 R1 : List Lt} (l0 : R0.length ≤ 80) (l1 : R1.length ≤ 80) (f0 : Fits 0 9 R0) (f1 : Fits 0 9 R1) : (outM R R0 R1).1.length ≤ 160 := by
  have h1 := (out08 hR (R0 := R0) (R1 := R1) (Int.le_refl 0) f0 f1).2.1
  have h2 : 0 ≤ (outM R R0 R1).2 := runM_old R _ _
  omega
theorem cutV_take (xs : List V) (i : Nat) (h : i ≤ xs.length) : cutV xs none (some (i : Int)) = xs.take i := by
  unfold cutV
  rw [HT.sIx_none, HT.sIx_nat, Nat.min_eq_left h]
  rfl
theorem inV_int (k : Int) : ∀ th : List Int, inV (.int k) (th.map V.int) = th.contains k
  | [] => rfl
  | x :: th => by
    have ih := inV_int k th
    unfold inV at *
    rw [List.map_cons, List.any_cons, ih, List.contains_cons]
    congr 1
    show decide (x = k) = (k == x)
    rw [Bool.eq_iff_iff, decide_eq_true_eq, beq_iff_eq]
    exact eq_comm
/-- a list of ints in the heap -/
def IntsAt (H : Hp) (a : Addr) (l : List Int) : Prop := H a = some (.lst (l.map V.int))
def spFaultsOf (K : PySem.W.Frag) : Sp := fun vs H Q _ => ∃ (rq q a b : Addr) (R : Rcv) (R0 R1 : List Lt), vs = [.ref rq, .ref q] ∧ RcvAt H rq R ∧ R.Ok ∧ RwsR K H q a b R0 R1 ∧
  ∀ (p l1 l2 l3 : Addr) (H' : Hp), H p = none → H l1 = none → H l2 = none → H l3 = none → l1 ≠ l2 → l1 ≠ l3 → l2 ≠ l3 → H' p = some (.tup [.ref l1, .ref l2, .ref l3]) →
    IntsAt H' l1 (lostM R0.length ((outM R R0 R1).1.map (·.2))) → IntsAt H' l2 (twiceM ((outM R R0 R1).1.map (·.2))) → IntsAt H' l3 (turnM ((outM R R0 R1).1.map (·.2))) → Same H H' → Q (.ref p) H'
section
variable {P : Program} {w : World} {K : PySem.W.Frag} {mg : Str → Option Value} {base : Heap}
theorem ok_faults_of (T : Txt K mg) : FnOk P w K mg base CX0 5 T.f_faults_of T.fd_faults_of P_faults_of (spFaultsOf K) := by
  refine T.F_faults_of.ok sc_faults_of (fun vs H Q E h => ?_) (fun cdv A outer s H vs Q E hr h => ?_)
  · obtain ⟨rq, q, a, b, R, R0, R1, rfl, _⟩ := h
    rfl
  · obtain ⟨rq, q, a, b, R, R0, R1, rfl, hrq, hR, W, k⟩ := h
    refine ⟨_, ((pss_cons (ps_set (i := 2) sc_faults_of.nd rfl (Or.inr rfl) (pe_lc (own := [("moment", 6), ("thing", 7)]) (tt := tYes) rfl sc_faults_of.nd (pi_list (pe_ix ix_tup (pe_call (ok_out_of T) (hr.mono (by decide)) (by rfl) T.mg_out_of T.kp_out_of T.b_out_of .nil pass0 (pa_cons (pv 0) (pa_cons (pv 1) pa_nil))) pe_int (fun _ _ => rfl))) (blkOk_by (N := N_faults_of) (sc := (defScope s_faults_of)) (own := [("moment", 6), ("thing", 7)]) (by decide +kernel)) (fun _ _ _ _ _ => (pgK_tup (K := K) (n := 2) rfl rfl (pgs_cons (pg_name (i := 6) sc_faults_of.nd rfl (Or.inl rfl)) (pgs_cons (pg_name (i := 7) sc_faults_of.nd rfl (Or.inl rfl)) pgs_nil)))) (fun _ _ _ _ _ => pts_nil) (fun _ _ _ _ _ => (pv 7))))
  (pss_cons (ps_setLc (i := 3) (own := [("thing", 7)]) (g := gName 7) rfl sc_faults_of.nd rfl rfl (sw_true rfl rfl rfl (by decide +kernel)) (pi_range1 (by rfl) T.z_range (pa_cons (pe_callB call_len_seq (by rfl) T.z_len (by decide +kernel) (pa_cons (pe_ix ix_tup (pv 1) pe_int (fun _ _ => rfl)) pa_nil)) pa_nil)) (blkOk_by (N := N_faults_of) (sc := (defScope s_faults_of)) (own := [("thing", 7)]) (by decide +kernel)) (fun _ _ _ _ _ => (pg_name (i := 7) sc_faults_of.nd rfl (Or.inl rfl))) (fun _ _ _ _ _ => pts_one (pt_cmpR (notInK (K := K) rfl) (pv 7) (pv 2) (by rfl))) (fun _ _ _ _ _ => (pv 7)))
  (pss_cons (ps_setLc (i := 4) (own := [("thing", 7)]) (g := gName 7) rfl sc_faults_of.nd rfl rfl (sw_true rfl rfl rfl (by decide +kernel)) (pi_list (pe_callB (cr_sortedSetA rfl) (by rfl) T.z_sorted (by decide +kernel) (pa_cons (pe_callTy (cr_setL rfl) (by rfl) T.z_set (by decide +kernel) (pa_cons (pv 2) pa_nil)) pa_nil))) (blkOk_by (N := N_faults_of) (sc := (defScope s_faults_of)) (own := [("thing", 7)]) (by decide +kernel)) (fun _ _ _ _ _ => (pg_name (i := 7) sc_faults_of.nd rfl (Or.inl rfl))) (fun _ _ _ _ _ => pts_one (pt_cmpR op_gt (bmK (K := K) rfl PySem.F.plainAttrs_list PySem.F.slot_list_count PySem.F.type_list_count (lcountK (K := K) rfl) (pv 2) (pa_cons (pv 7) pa_nil)) pe_int (nomark _))) (fun _ _ _ _ _ => (pv 7)))
  (pss_cons (ps_setLc (i := 5) (own := [("k", 8)]) (g := gName 8) rfl sc_faults_of.nd rfl rfl (sw_true rfl rfl rfl (by decide +kernel)) (pi_range1 (by rfl) T.z_range (pa_cons (pe_callB call_len_seq (by rfl) T.z_len (by decide +kernel) (pa_cons (pv 2) pa_nil)) pa_nil)) (blkOk_by (N := N_faults_of) (sc := (defScope s_faults_of)) (own := [("k", 8)]) (by decide +kernel)) (fun _ _ _ _ _ => (pg_name (i := 8) sc_faults_of.nd rfl (Or.inl rfl))) (fun _ _ _ _ _ => pts_one (pt_cmpR op_lt (pe_ix (ixK_list (K := K) rfl) (pv 2) (pv 8) (fun _ _ => rfl)) (pe_callBK (maxDK (K := K) rfl rfl hr.units) (by rfl) T.z_max (by decide +kernel) (pa_cons (pe_slice (slK_list (K := K) rfl) (pv 2) po_none (po_some (pv 8))) pa_nil) (pk_cons pe_int pk_nil)) (nomark _))) (fun _ _ _ _ _ => (pe_ix (ixK_list (K := K) rfl) (pv 2) (pv 8) (fun _ _ => rfl))))
  (pss_one (ps_ret (pe_tup (pa_cons (pv 3) (pa_cons (pv 4) (pa_cons (pe_callB (cr_sortedSetA rfl) (by rfl) T.z_sorted (by decide +kernel) (pa_cons (pe_callTy (cr_setL rfl) (by rfl) T.z_set (by decide +kernel) (pa_cons (pv 5) pa_nil)) pa_nil)) pa_nil))))))))))), ?_⟩
    refine ⟨_, rfl, _, rfl, rq, q, a, b, R, R0, R1, rfl, hrq, hR, W, fun p0 f H1 hp0 hf0 hp1 hf1 s1 => ?_⟩
    have f0 := W.f0
    have f1 := W.f1
    have hle := outM_le hR W.l0 W.l1 f0 f1
    generalize hom : (outM R R0 R1).1 = os at *
    obtain ⟨ts, h1, h2, h3⟩ := hf1
    have hol : ts.length = os.length := by rw [← h3, List.length_map]
    refine ⟨p0, _, _, _, rfl, rfl, SqT.of hp1, at0, f, rfl, ⟨_, SqL.of h1⟩, fun D hD => lc_list (K := K) (a := f) (xs := ts.map fun x => V.ref x.2) (fun j H' => Same H1 H' ∧ H' D = some (.lst (((os.take j).map (·.2)).map V.int))) ⟨Same.upd_new hD, upd_same⟩ (fun _ H' _ z => SqL.of (z.1 _ _ h1)) ?_ ?_⟩
    · rintro j x H2 hj ⟨s2, hD2⟩
      rw [List.getElem?_map] at hj
      obtain ⟨y, hy, rfl⟩ := Option.map_eq_some_iff.mp hj
      have hym := List.mem_of_getElem? hy
      have hoy : os[j]? = some y.1 := by rw [← h3, List.getElem?_map, hy]; rfl
      refine ⟨y.2, _, rfl, SqT.of (s2 _ _ (h2 y hym)), rfl, _, _, rfl, _, _, rfl, rfl, ?_⟩
      refine ⟨rfl, lc_yes ⟨_, rfl, _, hD2, small1000 (by rw [List.length_map, List.length_map, List.length_take]; omega), s2.mut hD, ?_⟩⟩
      rw [upd_same, take_succ_of hoy, List.map_append, List.map_append]
      rfl
    · rintro H2 ⟨s2, hD2⟩
      rw [List.length_map, hol, List.take_length] at hD2
      generalize hth : os.map (·.2) = th at *
      have htl : th.length ≤ 160 := by rw [← hth, List.length_map]; exact hle
      have s02 := s1.trans s2
      -- lost
      have el : (R0.map oV).length = R0.length := List.length_map _
      have en : ((R0.map oV).length : Int).toNat = R0.length := by rw [el]; exact Int.toNat_natCast _
      have rl0 := W.l0
      have fl : ∀ x : List Int, (x.map V.int).all flatV = true := fun x => List.all_eq_true.mpr fun v hv => by
        obtain ⟨i, _, rfl⟩ := List.mem_map.mp hv
        rfl
      refine ⟨_, rfl, q, _, _, _, rfl, rfl, s02.sqt W.q, at0, a, _, rfl, .inl (s02.seq W.a), _, rfl, by omega, by omega, fun D2 hDD2 => lc_range (lo := 0) (n := ((R0.map oV).length : Int).toNat) (fun j H' => Same H2 H' ∧ H' D2 = some (.lst ((lostM j th).map V.int))) ⟨Same.upd_new hDD2, upd_same⟩ ?_ ?_⟩
      · rintro i H3 hi ⟨s3, hD3⟩
        have hi' : i < R0.length := by omega
        have e0 : (0 : Int) + (i : Int) = (i : Int) := Int.zero_add _
        have es : lostM (i + 1) th = lostM i th ++ (if th.contains (i : Int) then [] else [(i : Int)]) := by
          unfold lostM
          rw [List.range_succ, List.map_append, List.filter_append, List.map_cons, List.map_nil]
          congr 1
          cases hc : th.contains (i : Int) with
          | true => rw [List.filter_cons_of_neg (by rw [hc]; decide)]; rfl
          | false => rw [List.filter_cons_of_pos (by rw [hc]; rfl)]; rfl
        have hll : (lostM i th).length ≤ 80 := Nat.le_trans (List.length_filter_le _ _) (by rw [List.length_map, List.length_range]; omega)
        have hin : inV (.int (i : Int)) (th.map V.int) = th.contains (i : Int) := inV_int _ th
        refine ⟨rfl, ⟨_, rfl, _, rfl, D, _, rfl, .inl (SqL.of (s3 _ _ hD2)), rfl, fl th, _, rfl, ?_⟩⟩
        rw [e0]
        show (if (!inV (.int (i : Int)) (th.map V.int)) = true then _ else _)
        rw [hin]
        cases hc : th.contains (i : Int) with
        | true =>
          rw [hc, if_pos rfl, List.append_nil] at es
          refine iteF ⟨s3, ?_⟩
          rw [es]
          exact hD3
        | false =>
          rw [hc, if_neg (by decide)] at es
          refine iteT ⟨_, rfl, _, hD3, small1000 (by rw [List.length_map]; omega), s3.mut hDD2, ?_⟩
          rw [upd_same, es, List.map_append]
          rfl
      · rintro H3 ⟨s3, hD3⟩
        rw [en] at hD3
        -- twice
        have hne2 : D ≠ D2 := ne_of_none hD2 hDD2
        refine ⟨_, rfl, D, th, rfl, SqL.of (s3 _ _ hD2), by omega, fun S c hcl hS => ?_⟩
        have sS : Same H3 (upd H3 S (SetO w S (fun j => decide (j ∈ th)) c)) := Same.upd_new hS
        refine ⟨S, _, _, rfl, upd_same, by omega, fun ns p4 hpw hmem hp4 => ?_⟩
        obtain rfl : ns = setI th := setI_eq hpw fun k => (hmem k).trans decide_eq_true_iff
        have snl := setI_len th
        have s5 := sS.trans (Same.upd_new (o := .lst ((setI th).map V.int)) hp4)
        refine ⟨p4, rfl, ⟨_, SqL.of upd_same⟩, fun D3 hD3n => lc_list (K := K) (a := p4) (xs := (setI th).map V.int) (fun j H' => Same H3 H' ∧ H' p4 = some (.lst ((setI th).map V.int)) ∧ H' D3 = some (.lst ((((setI th).take j).filter fun i => decide ((1 : Int) < (th.count i : Nat))).map V.int))) ⟨s5.new hD3n, by rw [upd_ne (ne_of_none upd_same hD3n)]; exact upd_same, upd_same⟩ (fun _ H' _ z => SqL.of z.2.1) ?_ ?_⟩
        · rintro j x H6 hj ⟨s6, hp6, hD6⟩
          have hD3f : H3 D3 = none := s5.free hD3n
          have hp4D : p4 ≠ D3 := ne_of_none upd_same hD3n
          rw [List.getElem?_map] at hj
          obtain ⟨y, hy, rfl⟩ := Option.map_eq_some_iff.mp hj
          have hth6 : H6 D = some (.lst (th.map V.int)) := s6 _ _ (s3 _ _ hD2)
          have flen : (((setI th).take j).filter fun i => decide ((1 : Int) < (th.count i : Nat))).length ≤ 160 := Nat.le_trans (List.length_filter_le _ _) (by rw [List.length_take]; omega)
          refine ⟨rfl, ⟨_, rfl, .inl ⟨rfl, _, SqL.of hth6⟩, _, rfl, D, th, y, rfl, rfl, SqL.of hth6, _, _, rfl, rfl, _, rfl, ?_⟩⟩
          by_cases hc : (1 : Int) < (th.count y : Nat)
          · refine iteD hc ⟨_, rfl, _, hD6, small1000 (by rw [List.length_map]; omega), s6.mut hD3f, by rw [upd_ne hp4D]; exact hp6, ?_⟩
            rw [upd_same, take_succ_of hy, List.filter_append, List.filter_cons_of_pos (by exact decide_eq_true hc), List.filter_nil, List.map_append]
            rfl
          · refine iteND hc ⟨s6, hp6, ?_⟩
            rw [take_succ_of hy, List.filter_append, List.filter_cons_of_neg (by simpa using hc), List.filter_nil, List.append_nil]
            exact hD6
        · rintro H6 ⟨s6, hp6, hD6⟩
          have hD3f : H3 D3 = none := s5.free hD3n
          rw [List.length_map, List.take_length] at hD6
          have sH : Same H2 H6 := s3.trans s6
          have hth6 : H6 D = some (.lst (th.map V.int)) := sH _ _ hD2
          have h26 : H6 D2 = some (.lst ((lostM R0.length th).map V.int)) := s6 _ _ hD3
          have hD32 : D2 ≠ D3 := ne_of_none hD3 hD3f
          -- turned
          have tl : (th.map V.int).length = th.length := List.length_map _
          refine ⟨_, rfl, D, _, rfl, .inl (SqL.of hth6), _, rfl, by omega, by omega, fun D4 hD4n => lc_range (lo := 0) (n := ((th.map V.int).length : Int).toNat) (fun j H' => Same H6 H' ∧ H' D4 = some (.lst ((turnL th j).map V.int))) ⟨Same.upd_new hD4n, upd_same⟩ ?_ ?_⟩
          · rintro i H7 hi ⟨s7, hD7⟩
            have hi' : i < th.length := by omega
            have e0 : (0 : Int) + (i : Int) = (i : Int) := Int.zero_add _
            have hth7 := s7 _ _ hth6
            have q1 : (th.map V.int)[i]? = some (.int (th.getD i 0)) := by rw [List.getElem?_map, List.getD_eq_getElem?_getD, List.getElem?_eq_getElem hi']; rfl
            have tlen := turnL_len th i
            refine ⟨rfl, ⟨_, rfl, _, rfl, D, _, _, _, rfl, rfl, SqL.of hth7, at_of e0 q1, _, rfl, _, rfl, _, rfl, D, _, rfl, SqL.of hth7, fun p7 hp7 => ?_⟩⟩
            have ecut : cutV (th.map V.int) none (some ((0 : Int) + (i : Int))) = (th.take i).map V.int := by
              rw [e0, cutV_take _ _ (by omega), List.map_take]
            refine ⟨p7, th.take i, 0, rfl, rfl, by rw [← ecut]; exact SqL.of upd_same, _, _, rfl, rfl, _, rfl, ?_⟩
            have s8 : Same H7 (upd H7 p7 (.lst (cutV (th.map V.int) none (some ((0 : Int) + (i : Int)))))) := Same.upd_new hp7
            have hD48 : upd H7 p7 (.lst (cutV (th.map V.int) none (some ((0 : Int) + (i : Int))))) D4 = some (.lst ((turnL th i).map V.int)) := s8 _ _ hD7
            by_cases hc : th.getD i 0 < maxD0 (th.take i)
            · refine iteD hc ⟨_, rfl, _, rfl, D, _, _, _, rfl, rfl, SqL.of (s8 _ _ hth7), at_of e0 q1, _, hD48, small1000 (by rw [List.length_map]; omega), (s7.trans s8).mut hD4n, ?_⟩
              rw [upd_same, turnL_succ, if_pos hc, List.map_append]
              rfl
            · refine iteND hc ⟨s7.trans s8, ?_⟩
              rw [turnL_succ, if_neg hc, List.append_nil]
              exact hD48
          · rintro H7 ⟨s7, hD7⟩
            have en2 : ((th.map V.int).length : Int).toNat = th.length := by rw [tl]; exact Int.toNat_natCast _
            rw [en2] at hD7
            have tlen := turnL_len th th.length
            have sH7 := sH.trans s7
            refine ⟨_, rfl, _, rfl, _, rfl, D4, _, rfl, SqL.of hD7, by omega, fun S2 c2 hcl2 hS2 => ?_⟩
            have sS2 := Same.upd_new (o := SetO w S2 (fun j => decide (j ∈ turnL th th.length)) c2) hS2
            refine ⟨S2, _, _, rfl, upd_same, by omega, fun ns2 p8 hpw2 hmem2 hp8 => ?_⟩
            obtain rfl : ns2 = turnM th := setI_eq hpw2 fun k => (hmem2 k).trans decide_eq_true_iff
            have s8 := sS2.trans (Same.upd_new (o := .lst ((turnM th).map V.int)) hp8)
            refine ⟨by show 3 ≤ sizeLine; decide, fun p9 hp9 => ?_⟩
            have s9 := s8.new (o := .tup [.ref D2, .ref D3, .ref p8]) hp9
            have sAll := (s02.trans sH7).trans s9
            have h39 := s9 _ _ (s7 _ _ hD6)
            have h29 := s9 _ _ (s7 _ _ h26)
            have hp89 : p8 ≠ p9 := ne_of_none upd_same hp9
            have g2 := sS2 _ _ (s7 _ _ h26)
            have g3 := sS2 _ _ (s7 _ _ hD6)
            exact k p9 D2 D3 p8 _ (((s02.trans sH7).trans s8).free hp9) (s02.free hDD2) ((s02.trans s3).free hD3f) (((s02.trans sH7).trans sS2).free hp8) hD32 (ne_of_none g2 hp8) (ne_of_none g3 hp8) upd_same h29 h39 (by rw [IntsAt, upd_ne hp89]; exact upd_same) sAll
def spFaults (K : PySem.W.Frag) : Sp := fun vs H Q _ => ∃ (p rq q a b : Addr) (D : Rds) (R : Rcv) (R0 R1 : List Lt), vs = [.ref p, .ref rq, .ref q] ∧ RoadsAt H p D ∧ D.Ok ∧ RcvAt H rq R ∧ R.Ok ∧ Rws K H q a b D R0 R1 ∧
  ∀ (p l1 l2 l3 : Addr) (H' : Hp), H p = none → H l1 = none → H l2 = none → H l3 = none → l1 ≠ l2 → l1 ≠ l3 → l2 ≠ l3 → H' p = some (.tup [.ref l1, .ref l2, .ref l3]) →
    IntsAt H' l1 (lostM R0.length ((outM R R0 R1).1.map (·.2))) → IntsAt H' l2 (twiceM ((outM R R0 R1).1.map (·.2))) → IntsAt H' l3 (turnM ((outM R R0 R1).1.map (·.2))) → Same H H' → Q (.ref p) H'
theorem ok_faults (T : Txt K mg) : FnOk P w K mg base CX0 6 T.f_faults T.fd_faults P_faults (spFaults K) := by
  refine T.F_faults.ok sc_faults (fun vs H Q E h => ?_) (fun cdv A outer s H vs Q E hr h => ?_)
  · obtain ⟨p, rq, q, a, b, D, R, R0, R1, rfl, _⟩ := h
    rfl
  · obtain ⟨p, rq, q, a, b, D, R, R0, R1, rfl, hp, hD, hq, hR, W, k⟩ := h
    refine ⟨_, ((pss_cons (ps_expr (pe_call (ok_need_all T) (hr.mono (by decide)) (by rfl) T.mg_need_all T.kp_need_all T.b_need_all .nil pass0 (pa_cons (pv 0) (pa_cons (pv 1) (pa_cons (pv 2) pa_nil)))))
  (pss_one (ps_ret (pe_call (ok_faults_of T) (hr.mono (by decide)) (by rfl) T.mg_faults_of T.kp_faults_of T.b_faults_of .nil pass0 (pa_cons (pv 1) (pa_cons (pv 2) pa_nil))))))), ?_⟩
    exact ⟨_, rfl, _, rfl, _, rfl, p, rq, q, a, b, D, R, R0, R1, rfl, hp, hD, hq, hR, W, _, rfl, _, rfl, rq, q, a, b, R, R0, R1, rfl, hq, hR, W.r hD, k⟩
end
/-! ### sure receivers, plainly -/
/-- the greatest of the first k -/
def mxA (A : Int → Int) : Nat → Int
  | 0 => 0
  | k + 1 => max (mxA A k) (A k)
def moms (A : Int → Int) (k : Nat) : List (Int × Int) := (List.range k).map fun i => (mxA A (i + 1), (i : Int))
theorem moms_succ (A : Int → Int) (k : Nat) : moms A (k + 1) = moms A k ++ [(mxA A (k + 1), (k : Int))] := by
  unfold moms
  rw [List.range_succ, List.map_append]
  rfl
theorem mxA_le {A : Int → Int} {m : Int} (m0 : 0 ≤ m) : ∀ k : Nat, (∀ j : Nat, j < k → A j ≤ m) → mxA A k ≤ m
  | 0, _ => m0
  | k + 1, h => Int.max_le.mpr ⟨mxA_le m0 k fun j hj => h j (by omega), h k (by omega)⟩
theorem mxA_ge {A : Int → Int} : ∀ (k j : Nat), j < k → A j ≤ mxA A k
  | 0, j, h => absurd h (by omega)
  | k + 1, j, h => by
    show A j ≤ max (mxA A k) (A k)
    by_cases e : j = k
    · subst e
      exact Int.le_max_right _ _
    · exact Int.le_trans (mxA_ge k j (by omega)) (Int.le_max_left _ _)
/-- what goes out in turn, where each thing is its number -/
theorem go_seq : ∀ (n : Nat) (W : Nat) (hs : List E3), hs.length = n → (∀ e ∈ hs, e.2.1 = e.1) →
    ∃ k : Nat, (go W hs).2.1 = (W : Int) + k ∧ (go W hs).1 = (List.range k).map (fun i : Nat => (W : Int) + i) ∧ ∀ i : Nat, i < k → hasN hs ((W : Int) + i) = true := by
  intro n
  induction n using Nat.strongRecOn with
  | _ n ih =>
    intro W hs hn hth
    cases q : hasN hs (W : Int) with
    | false =>
      rw [go_none q]
      exact ⟨0, (Int.add_zero _).symm, rfl, fun i hi => absurd hi (by omega)⟩
    | true =>
      obtain ⟨e, he, h1, hf⟩ := find_some q
      have hd := dropN_len q
      obtain ⟨k, i1, i2, i3⟩ := ih _ (by omega) (W + 1) (dropN hs W) rfl (fun x hx => hth x (List.mem_filter.mp hx).1)
      rw [go_some hf]
      dsimp only
      have ew : ((W : Int) + 1) = ((W + 1 : Nat) : Int) := by omega
      rw [ew]
      refine ⟨k + 1, by rw [i1]; omega, ?_, fun i hi => ?_⟩
      · rw [i2, List.range_succ_eq_map, List.map_cons, List.map_map]
        congr 1
        · rw [hth e he, h1]
          omega
        · refine List.map_congr_left fun i _ => ?_
          show ((W + 1 : Nat) : Int) + (i : Int) = (W : Int) + ((i + 1 : Nat) : Int)
          omega
      · cases i with
        | zero => rw [show (W : Int) + ((0 : Nat) : Int) = W by omega]; exact q
        | succ i =>
          have := i3 i (by omega)
          obtain ⟨x, hx, h2⟩ := has_iff.mp this
          exact has_iff.mpr ⟨x, (List.mem_filter.mp hx).1, by rw [h2]; omega⟩
theorem closeF_idle (wt clk : Int) : ∀ (ns : List Int) (w : Int) (hs : List E3), (∀ n, wantedN wt clk hs n = false) → closeF wt clk ns w hs = ([], w, hs)
  | [], _, _, _ => rfl
  | n :: ns, w, hs, h => by
    unfold closeF
    rw [h n, if_neg (by decide)]
    exact closeF_idle wt clk ns w hs h
/-- the roads' events: each thing once at least -/
structure Evs (cs : List Tri.I3) (n : Nat) (lo hi : Int) (A : Int → Int) : Prop where
  up : Up3 cs
  lo0 : 0 ≤ lo
  mem : ∀ c ∈ cs, 0 ≤ c.2.1 ∧ c.2.1 < n ∧ c.2.1 + lo ≤ c.1 ∧ c.1 ≤ c.2.1 + hi ∧ A c.2.1 ≤ c.1
  one : ∀ j : Int, 0 ≤ j → j < n → ∃ c ∈ cs, c.2.1 = j ∧ c.1 = A j
structure SureR (R : Rcv) (lo hi : Int) : Prop where
  a1 : 1 ≤ R.ah
  af : hi - lo ≤ R.ah
  m1 : R.ah + 1 ≤ R.mks
  mf : R.ah + (hi - lo) ≤ R.mks
  wf : hi - lo - 1 ≤ R.wt
/-- all of it but how far old copies may lag -/
structure SureW (R : Rcv) (lo hi : Int) : Prop where
  a1 : 1 ≤ R.ah
  af : hi - lo ≤ R.ah
  m1 : R.ah + 1 ≤ R.mks
  wf : hi - lo - 1 ≤ R.wt
structure I5 (cs : List Tri.I3) (n : Nat) (lo : Int) (A : Int → Int) (ps : Tri.I3 → Prop) (m : Int) (st : MS × List (Int × Int)) (W : Nat) : Prop where
  w : st.1.w = W
  nd : (st.1.hs.map (·.1)).Nodup
  clk : st.1.clk = m
  wn : W ≤ n
  low : ∀ j : Int, 0 ≤ j → j < W → ∃ p ∈ cs, ps p ∧ p.2.1 = j
  now : ∀ p ∈ cs, ps p → p.2.1 ≠ W
  held : ∀ e ∈ st.1.hs, e.2.1 = e.1 ∧ (W : Int) < e.1 ∧ e.1 < n ∧ (∃ p ∈ cs, ps p ∧ p.2.1 = e.1) ∧ e.1 + lo ≤ e.2.2
  all : ∀ p ∈ cs, ps p → (W : Int) < p.2.1 → hasN st.1.hs p.2.1 = true
  out : st.2 = moms A W
  bel : ∀ p ∈ cs, ps p → p.1 ≤ m
theorem I5.congr {cs : List Tri.I3} {n : Nat} {lo : Int} {A : Int → Int} {ps ps' : Tri.I3 → Prop} {m : Int} {st : MS × List (Int × Int)} {W : Nat} (h : I5 cs n lo A ps m st W) (e : ∀ p ∈ cs, ps p ↔ ps' p) : I5 cs n lo A ps' m st W :=
  ⟨h.w, h.nd, h.clk, h.wn, fun j a b => let ⟨p, x, y, z⟩ := h.low j a b; ⟨p, x, (e p x).mp y, z⟩, fun p x y => h.now p x ((e p x).mpr y),
    fun q hq => let ⟨a, b, c, ⟨p, x, y, z⟩, d⟩ := h.held q hq; ⟨a, b, c, ⟨p, x, (e p x).mp y, z⟩, d⟩, fun p x y => h.all p x ((e p x).mpr y), h.out, fun p x y => h.bel p x ((e p x).mpr y)⟩
theorem emod_sub (t w M : Int) : (t % M - w) % M = (t - w) % M := by rw [Int.sub_emod, Int.emod_emod, ← Int.sub_emod]
theorem step5 {cs : List Tri.I3} {n : Nat} {lo hi : Int} {A : Int → Int} {R : Rcv} (V : Evs cs n lo hi A) (S : SureW R lo hi) {ps : Tri.I3 → Prop} {m : Int} {st : MS × List (Int × Int)} {W : Nat} (I : I5 cs n lo A ps m st W)
    {c : Tri.I3} (hc : c ∈ cs) (hm : c.1 = m) (hb : c.2.1 < W → (W : Int) - c.2.1 ≤ R.mks - R.ah) (o1 : ∀ p ∈ cs, ps p → Tri.lex3 c p = false) (o2 : ∀ p ∈ cs, ¬ ps p → Tri.lex3 p c = false) :
    ∃ W', I5 cs n lo A (fun p => ps p ∨ p = c) m (inStep R m st c) W' := by
  obtain ⟨ms, out⟩ := st
  obtain ⟨w, clk, old, hs⟩ := ms
  obtain ⟨Iw, Ind, Iclk, Iwn, Ilow, Inow, Iheld, Iall, Iout, Ibel⟩ := I
  dsimp only at Iw Ind Iclk Iheld Iall Iout
  subst Iw
  subst Iclk
  subst Iout
  obtain ⟨c0, cn, cl, ch, ca⟩ := V.mem c hc
  obtain ⟨a1, af, m1, wf⟩ := S
  have lo0 := V.lo0
  unfold inStep
  rw [if_pos hm]
  -- things processed lie near the wanted one
  have near : ∀ p ∈ cs, (ps p ∨ p = c) → (W : Int) < p.2.1 → p.2.1 - W ≤ hi - lo - 1 := fun p hp hps hw => by
    obtain ⟨p0, pn, pl, ph, pa⟩ := V.mem p hp
    obtain ⟨e, he, e1, e2⟩ := V.one W (by omega) (by omega)
    obtain ⟨_, _, _, eh, _⟩ := V.mem e he
    have ne : ¬ ps e := fun z => Inow e he z e1
    have q := Tri.lex3_no.mp (o2 e he ne)
    rcases hps with hps | rfl
    · have q2 := Tri.lex3_no.mp (o1 p hp hps)
      omega
    · omega
  by_cases htw : c.2.1 < W
  · -- an old one
    have b1 : (W : Int) - c.2.1 ≤ R.mks - R.ah := hb htw
    have b2 : (c.2.1 % R.mks - (W : Int)) % R.mks = c.2.1 - W + R.mks := by
      rw [emod_sub, ← Int.add_emod_right, Int.emod_eq_of_lt (by omega) (by omega)]
    have ec : comeM R ⟨W, clk, old, hs⟩ (c.2.1 % R.mks) c.2.1 = ([], ⟨W, clk, old + 1, hs⟩) := by
      unfold comeM
      rw [if_pos (.inl (by dsimp only; rw [b2]; omega))]
    rw [ec]
    refine ⟨W, rfl, Ind, rfl, Iwn, fun j x y => ?_, fun p hp hps => ?_, fun e he => ?_, fun p hp hps hw => ?_, ?_, fun p hp hps => ?_⟩
    · obtain ⟨p, a, b, d⟩ := Ilow j x y
      exact ⟨p, a, .inl b, d⟩
    · rcases hps with hps | rfl
      · exact Inow p hp hps
      · omega
    · obtain ⟨x1, x2, x3, ⟨p, a, b, d⟩, x5⟩ := Iheld e he
      exact ⟨x1, x2, x3, ⟨p, a, .inl b, d⟩, x5⟩
    · rcases hps with hps | rfl
      · exact Iall p hp hps hw
      · omega
    · unfold tag
      exact List.append_nil _
    · rcases hps with hps | rfl
      · exact Ibel p hp hps
      · exact Int.le_of_eq hm
  · have htr : c.2.1 - W < R.ah := by
      by_cases e : c.2.1 = W
      · omega
      · have := near c hc (.inr rfl) (by omega)
        omega
    have b2 : (c.2.1 % R.mks - (W : Int)) % R.mks = c.2.1 - W := by rw [emod_sub, Int.emod_eq_of_lt (by omega) (by omega)]
    have b3 : (W : Int) + (c.2.1 - W) = c.2.1 := by omega
    cases hh : hasN hs c.2.1 with
    | true =>
      -- held already
      have ec : comeM R ⟨W, clk, old, hs⟩ (c.2.1 % R.mks) c.2.1 = ([], ⟨W, clk, old + 1, hs⟩) := by
        unfold comeM
        rw [if_pos (.inr (by dsimp only; rw [b2, b3]; exact hh))]
      rw [ec]
      obtain ⟨y, hy, hy1⟩ := has_iff.mp hh
      have hyw := (Iheld y hy).2.1
      refine ⟨W, rfl, Ind, rfl, Iwn, fun j x y => ?_, fun p hp hps => ?_, fun e he => ?_, fun p hp hps hw => ?_, ?_, fun p hp hps => ?_⟩
      · obtain ⟨p, a, b, d⟩ := Ilow j x y
        exact ⟨p, a, .inl b, d⟩
      · rcases hps with hps | rfl
        · exact Inow p hp hps
        · omega
      · obtain ⟨x1, x2, x3, ⟨p, a, b, d⟩, x5⟩ := Iheld e he
        exact ⟨x1, x2, x3, ⟨p, a, .inl b, d⟩, x5⟩
      · rcases hps with hps | rfl
        · exact Iall p hp hps hw
        · exact hh
      · unfold tag
        exact List.append_nil _
      · rcases hps with hps | rfl
        · exact Ibel p hp hps
        · exact Int.le_of_eq hm
    | false =>
      have ec : comeM R ⟨W, clk, old, hs⟩ (c.2.1 % R.mks) c.2.1 = ((go W (hs ++ [(c.2.1, c.2.1, clk)])).1, ⟨(go W (hs ++ [(c.2.1, c.2.1, clk)])).2.1, clk, old, (go W (hs ++ [(c.2.1, c.2.1, clk)])).2.2⟩) := by
        unfold comeM
        rw [if_neg (by dsimp only; rw [b2, b3, hh]; intro z; rcases z with z | z; omega; cases z)]
        dsimp only
        rw [b2, b3]
      rw [ec]
      have hth : ∀ e ∈ hs ++ [(c.2.1, c.2.1, clk)], e.2.1 = e.1 ∧ (W : Int) ≤ e.1 ∧ e.1 < n ∧ (∃ p ∈ cs, (ps p ∨ p = c) ∧ p.2.1 = e.1) ∧ e.1 + lo ≤ e.2.2 := fun e he => by
        rcases List.mem_append.mp he with he | he
        · obtain ⟨x1, x2, x3, ⟨p, a, b, d⟩, x5⟩ := Iheld e he
          exact ⟨x1, by omega, x3, ⟨p, a, .inl b, d⟩, x5⟩
        · rw [List.mem_singleton.mp he]
          exact ⟨rfl, by show (W : Int) ≤ c.2.1; omega, cn, ⟨c, hc, .inr rfl, rfl⟩, by show c.2.1 + lo ≤ clk; omega⟩
      have hal : ∀ p ∈ cs, (ps p ∨ p = c) → (W : Int) ≤ p.2.1 → hasN (hs ++ [(c.2.1, c.2.1, clk)]) p.2.1 = true := fun p hp hps hw => by
        rcases hps with hps | rfl
        · have := Inow p hp hps
          obtain ⟨y, hy, hy1⟩ := has_iff.mp (Iall p hp hps (by omega))
          exact has_iff.mpr ⟨y, List.mem_append_left _ hy, hy1⟩
        · exact has_iff.mpr ⟨_, List.mem_append_right _ (List.mem_singleton.mpr rfl), rfl⟩
      have hnd : ((hs ++ [(c.2.1, c.2.1, clk)]).map (·.1)).Nodup := by
        rw [List.map_append, List.nodup_append]
        refine ⟨Ind, by simp, fun x hx y hy => ?_⟩
        rw [List.map_cons, List.map_nil, List.mem_singleton] at hy
        subst hy
        rintro rfl
        obtain ⟨e, he, h2⟩ := List.mem_map.mp hx
        rw [has_iff.mpr ⟨e, he, h2⟩] at hh
        cases hh
      have hone : ∀ e ∈ hs ++ [(c.2.1, c.2.1, clk)], e.1 = W → c.2.1 = W := fun e he h1 => by
        rcases List.mem_append.mp he with he | he
        · have := (Iheld e he).2.1
          omega
        · rw [List.mem_singleton.mp he] at h1
          exact h1
      generalize hs ++ [(c.2.1, c.2.1, clk)] = hs2 at *
      obtain ⟨k, g1, g2, g3⟩ := go_seq _ W hs2 rfl fun e he => (hth e he).1
      obtain ⟨e1, e2, e3, e4⟩ := go_end _ (W : Int) hs2 rfl
      rw [g1] at e1 e2 e4
      refine ⟨W + k, by dsimp only; rw [g1]; omega, hnd.sublist (e3.map _), rfl, ?_, fun j x y => ?_, fun p hp hps hz => ?_, fun e he => ?_, fun p hp hps hw => ?_, ?_, fun p hp hps => ?_⟩
      · cases k with
        | zero => exact Iwn
        | succ k =>
          obtain ⟨e, he, h1⟩ := has_iff.mp (g3 k (by omega))
          have := (hth e he).2.2.1
          omega
      · by_cases hj : j < W
        · obtain ⟨p, a, b, d⟩ := Ilow j x hj
          exact ⟨p, a, .inl b, d⟩
        · obtain ⟨e, he, h1⟩ := has_iff.mp (g3 (j - W).toNat (by omega))
          obtain ⟨_, _, _, ⟨p, a, b, d⟩, _⟩ := hth e he
          exact ⟨p, a, b, by omega⟩
      · obtain ⟨e, he, h1⟩ := has_iff.mp (hal p hp hps (by omega))
        have := (e4 e he).mpr (by omega)
        rw [has_iff.mpr ⟨e, this, by omega⟩] at e1
        cases e1
      · have hem := e3.subset he
        obtain ⟨x1, x2, x3, x4, x5⟩ := hth e hem
        have hno := (e4 e hem).mp he
        have hne : e.1 ≠ (W : Int) + k := fun z => by
          rw [has_iff.mpr ⟨e, he, z⟩] at e1
          cases e1
        exact ⟨x1, by omega, x3, x4, x5⟩
      · obtain ⟨e, he, h1⟩ := has_iff.mp (hal p hp hps (by omega))
        exact has_iff.mpr ⟨e, (e4 e he).mpr (by omega), h1⟩
      · dsimp only
        rw [g2]
        cases k with
        | zero =>
          unfold tag
          rw [List.range_zero, List.map_nil, List.map_nil, List.append_nil]
          rfl
        | succ k =>
          obtain ⟨e0, he0, h0⟩ := has_iff.mp (g3 0 (by omega))
          have ct : c.2.1 = W := hone e0 he0 (by omega)
          have aw : A W = clk := by
            obtain ⟨e, he, x1, x2⟩ := V.one W (by omega) (by omega)
            have q := Tri.lex3_no.mp (o2 e he fun z => Inow e he z x1)
            rw [ct] at ca
            omega
          have below : ∀ j : Nat, j < W + (k + 1) → A j ≤ clk := fun j hj => by
            by_cases hjw : j < W
            · obtain ⟨p, a, b, d⟩ := Ilow j (by omega) (by omega)
              have z1 := Ibel p a b
              have z2 := (V.mem p a).2.2.2.2
              rw [d] at z2
              omega
            · obtain ⟨e, he, h1⟩ := has_iff.mp (g3 (j - W) (by omega))
              obtain ⟨_, _, _, ⟨p, a, b, d⟩, _⟩ := hth e he
              have z2 := (V.mem p a).2.2.2.2
              have z3 : p.1 ≤ clk := by
                rcases b with b | rfl
                · exact Ibel p a b
                · exact Int.le_of_eq hm
              rw [show p.2.1 = (j : Int) by omega] at z2
              omega
          have mx : ∀ i : Nat, i < k + 1 → mxA A (W + i + 1) = clk := fun i hi => by
            have z1 := mxA_le (A := A) (m := clk) (by omega) (W + i + 1) fun j hj => below j (by omega)
            have z2 := mxA_ge (A := A) (W + i + 1) W (by omega)
            rw [aw] at z2
            omega
          have step : ∀ i : Nat, i ≤ k + 1 → moms A W ++ tag clk ((List.range i).map fun x : Nat => (W : Int) + x) = moms A (W + i) := by
            intro i
            induction i with
            | zero =>
              intro _
              unfold tag
              rw [List.range_zero, List.map_nil, List.map_nil, List.append_nil]
              rfl
            | succ i ih =>
              intro hi
              rw [show W + (i + 1) = W + i + 1 by omega, moms_succ, ← ih (by omega), mx i (by omega), List.range_succ, List.map_append]
              unfold tag
              rw [List.map_append, List.append_assoc]
              congr 3
          exact step (k + 1) (Nat.le_refl _)
      · rcases hps with hps | rfl
        · exact Ibel p hp hps
        · exact Int.le_of_eq hm
/-- an event may come: it lags little, or its thing has not come before -/
def Good5 (cs : List Tri.I3) (R : Rcv) (n : Nat) (c : Tri.I3) (ps : Tri.I3 → Prop) : Prop := (∀ W : Nat, W ≤ n → (∀ j : Int, 0 ≤ j → j < W → ∃ p ∈ cs, ps p ∧ p.2.1 = j) → c.2.1 < W → (W : Int) - c.2.1 ≤ R.mks - R.ah)
theorem fold5 {cs : List Tri.I3} {n : Nat} {lo hi : Int} {A : Int → Int} {R : Rcv} (V : Evs cs n lo hi A) (S : SureW R lo hi) {m : Int} : ∀ (l pre post : List Tri.I3) (st : MS × List (Int × Int)) (W : Nat), cs = pre ++ (l ++ post) →
    (∀ (pre' l' : List Tri.I3) (c : Tri.I3), pre ++ l = pre' ++ c :: l' → c.1 = m → Good5 cs R n c fun p => p.1 < m ∨ (p.1 = m ∧ p ∈ pre')) →
    I5 cs n lo A (fun p => p.1 < m ∨ (p.1 = m ∧ p ∈ pre)) m st W → ∃ W', I5 cs n lo A (fun p => p.1 < m ∨ (p.1 = m ∧ p ∈ pre ++ l)) m (l.foldl (inStep R m) st) W'
  | [], pre, post, st, W, e, hg, I => by
    rw [List.append_nil]
    exact ⟨W, I⟩
  | c :: l, pre, post, st, W, e, hg, I => by
    have hup : Up3 (pre ++ c :: (l ++ post)) := e ▸ V.up
    obtain ⟨u1, u2, u3⟩ := List.pairwise_append.mp hup
    obtain ⟨u4, u5⟩ := List.pairwise_cons.mp u2
    have hc : c ∈ cs := by rw [e]; simp
    have e' : cs = (pre ++ [c]) ++ (l ++ post) := by rw [e, List.append_assoc]; rfl
    have e2 : pre ++ c :: l = (pre ++ [c]) ++ l := by rw [List.append_assoc]; rfl
    have hg' : ∀ (pre' l' : List Tri.I3) (c' : Tri.I3), (pre ++ [c]) ++ l = pre' ++ c' :: l' → c'.1 = m → Good5 cs R n c' fun p => p.1 < m ∨ (p.1 = m ∧ p ∈ pre') := fun pre' l' c' h => hg pre' l' c' (e2.trans h)
    rw [List.foldl_cons, e2]
    by_cases hm : c.1 = m
    · have g1 : ∀ p ∈ cs, (p.1 < m ∨ (p.1 = m ∧ p ∈ pre)) → Tri.lex3 c p = false := fun p hp hps => by
        rcases hps with h | ⟨h1, h2⟩
        · exact Tri.lex3_no.mpr (by omega)
        · exact u3 p h2 c (by simp)
      have g2 : ∀ p ∈ cs, ¬ (p.1 < m ∨ (p.1 = m ∧ p ∈ pre)) → Tri.lex3 p c = false := fun p hp hps => by
        rw [e] at hp
        rcases List.mem_append.mp hp with hp | hp
        · exact Tri.lex3_no.mpr (by
            have z1 : ¬ p.1 < m := fun z => hps (.inl z)
            have z2 : ¬ p.1 = m := fun z => hps (.inr ⟨z, hp⟩)
            omega)
        · rcases List.mem_cons.mp hp with rfl | hp
          · exact Tri.lex3_no.mpr (by omega)
          · exact u4 p hp
      obtain ⟨W', I'⟩ := step5 V S I hc hm (hg pre l c rfl hm W I.wn I.low) g1 g2
      refine fold5 V S l (pre ++ [c]) post _ W' e' hg' (I'.congr fun p hp => ?_)
      rw [List.mem_append, List.mem_singleton]
      constructor
      · rintro ((h | ⟨h1, h2⟩) | rfl)
        · exact .inl h
        · exact .inr ⟨h1, .inl h2⟩
        · exact .inr ⟨hm, .inr rfl⟩
      · rintro (h | ⟨h1, h2 | h2⟩)
        · exact .inl (.inl h)
        · exact .inl (.inr ⟨h1, h2⟩)
        · exact .inr h2
    · have es : inStep R m st c = st := if_neg hm
      rw [es]
      refine fold5 V S l (pre ++ [c]) post st W e' hg' (I.congr fun p hp => ?_)
      rw [List.mem_append, List.mem_singleton]
      constructor
      · rintro (h | ⟨h1, h2⟩)
        · exact .inl h
        · exact .inr ⟨h1, .inl h2⟩
      · rintro (h | ⟨h1, h2 | h2⟩)
        · exact .inl h
        · exact .inr ⟨h1, h2⟩
        · rw [h2] at h1
          exact absurd h1 hm
theorem run5 {cs : List Tri.I3} {n : Nat} {lo hi : Int} {A : Int → Int} {R : Rcv} (V : Evs cs n lo hi A) (S : SureW R lo hi) : ∀ k : Nat, (∀ m : Nat, m < k → ∀ (pre l : List Tri.I3) (c : Tri.I3), cs = pre ++ c :: l → c.1 = m → Good5 cs R n c fun p => p.1 < (m : Int) ∨ (p.1 = m ∧ p ∈ pre)) → ∃ W, I5 cs n lo A (fun p => p.1 < (k : Int)) k (runM R cs k) W
  | 0 => fun _ => ⟨0, rfl, List.nodup_nil, rfl, Nat.zero_le _, fun j x y => absurd y (by omega), fun p hp h => by
      obtain ⟨a, _, b, _, _⟩ := V.mem p hp
      have := V.lo0
      omega, fun e he => absurd he List.not_mem_nil, fun p hp h _ => by
      obtain ⟨a, _, b, _, _⟩ := V.mem p hp
      have := V.lo0
      omega, rfl, fun p hp h => Int.le_of_lt h⟩
  | k + 1 => fun hg => by
    obtain ⟨W, I⟩ := run5 V S k fun m hm => hg m (by omega)
    obtain ⟨W', J⟩ := fold5 V S (m := (k : Int)) cs [] [] (runM R cs k) W (List.append_nil _).symm (fun pre' l' c h => hg k (Nat.lt_succ_self k) pre' l' c h) (I.congr fun p hp => ⟨.inl, fun z => z.elim id fun z => absurd z.2 List.not_mem_nil⟩)
    rw [runM_succ]
    unfold momM
    generalize cs.foldl (inStep R (k : Int)) (runM R cs k) = st at *
    obtain ⟨Jw, Jnd, Jclk, Jwn, Jlow, Jnow, Jheld, Jall, Jout, Jbel⟩ := J
    have quiet : ∀ x, wantedN R.wt st.1.clk st.1.hs x = false := fun x => by
      unfold wantedN
      have : longN R.wt st.1.clk st.1.hs x = false := by
        unfold longN
        rw [List.any_eq_false]
        intro e he
        obtain ⟨x1, x2, x3, x4, x5⟩ := Jheld e he
        obtain ⟨p, hp, p1, p2⟩ := V.one W' (by omega) (by omega)
        obtain ⟨_, _, _, ph, _⟩ := V.mem p hp
        have hlt : ¬ (p.1 < (k : Int) ∨ (p.1 = k ∧ p ∈ cs)) := fun z => Jnow p hp z p1
        have hk : (k : Int) < p.1 := by
          rcases Int.lt_trichotomy p.1 k with z | z | z
          · exact absurd (.inl z) hlt
          · exact absurd (.inr ⟨z, hp⟩) hlt
          · exact z
        have hwf := S.wf
        simp only [Bool.and_eq_true, decide_eq_true_eq, not_and]
        intro _
        rw [Jclk]
        omega
      rw [this, Bool.and_false]
    have ec : closeM R st.1 = ([], { st.1 with clk := st.1.clk + 1 }) := by
      unfold closeM
      rw [closeF_idle _ _ _ _ _ quiet]
    rw [ec]
    refine ⟨W', Jw, Jnd, by show st.1.clk + 1 = _; rw [Jclk]; omega, Jwn, fun j x y => ?_, fun p hp h => Jnow p hp ?_, fun e he => ?_, fun p hp h => Jall p hp ?_, ?_, fun p hp h => by omega⟩
    · obtain ⟨p, a, b, d⟩ := Jlow j x y
      have := Jbel p a b
      exact ⟨p, a, by omega, d⟩
    · rcases Int.lt_trichotomy p.1 k with z | z | z
      · exact .inl z
      · exact .inr ⟨z, hp⟩
      · omega
    · obtain ⟨x1, x2, x3, ⟨p, a, b, d⟩, x5⟩ := Jheld e he
      have := Jbel p a b
      exact ⟨x1, x2, x3, ⟨p, a, by omega, d⟩, x5⟩
    · rcases Int.lt_trichotomy p.1 k with z | z | z
      · exact .inl z
      · exact .inr ⟨z, hp⟩
      · omega
    · show st.2 ++ tag (k : Int) [] = _
      unfold tag
      rw [List.map_nil, List.append_nil]
      exact Jout
theorem SureR.w {R : Rcv} {lo hi : Int} (S : SureR R lo hi) : SureW R lo hi := ⟨S.a1, S.af, S.m1, S.wf⟩
theorem good_of {cs : List Tri.I3} {n : Nat} {lo hi : Int} {A : Int → Int} {R : Rcv} (V : Evs cs n lo hi A) (S : SureR R lo hi) (k : Nat) : ∀ m : Nat, m < k → ∀ (pre l : List Tri.I3) (c : Tri.I3), cs = pre ++ c :: l → c.1 = m → Good5 cs R n c fun p => p.1 < (m : Int) ∨ (p.1 = m ∧ p ∈ pre) := by
  intro m _ pre l c e hm W hW low htw
  have hc : c ∈ cs := by rw [e]; simp
  obtain ⟨c0, cn, cl, ch, ca⟩ := V.mem c hc
  obtain ⟨p, hp, hps, hpw⟩ := low ((W : Int) - 1) (by omega) (by omega)
  obtain ⟨_, _, pl, _, _⟩ := V.mem p hp
  have mf := S.mf
  have m1 := S.m1
  rcases hps with h | ⟨h1, h2⟩
  · omega
  · have hup : Up3 (pre ++ c :: l) := e ▸ V.up
    have q := Tri.lex3_no.mp ((List.pairwise_append.mp hup).2.2 p h2 c (by simp))
    omega
/-- when a thing comes first -/
def firstA (R0 R1 : List Lt) (j : Int) : Int := match R0.getD j.toNat none, R1.getD j.toNat none with
  | some a, some b => j + min a b
  | some a, none => j + a
  | none, some b => j + b
  | none, none => 0
theorem arrGo_has {road : Int} : ∀ {a : List Lt} {i : Int} {j : Nat} {l : Int}, a[j]? = some (some l) → (i + j + l, i + j, road) ∈ arrGo road i a
  | [], i, j, l, h => by cases h
  | none :: a, i, 0, l, h => by cases h
  | none :: a, i, j + 1, l, h => by
    have := arrGo_has (road := road) (a := a) (i := i + 1) (j := j) (l := l) h
    show _ ∈ arrGo road (i + 1) a
    rw [show i + ((j + 1 : Nat) : Int) = i + 1 + j by omega]
    exact this
  | some x :: a, i, 0, l, h => by
    cases h
    show _ ∈ (i + x, i, road) :: arrGo road (i + 1) a
    rw [show i + ((0 : Nat) : Int) = i by omega]
    exact List.mem_cons_self
  | some x :: a, i, j + 1, l, h => by
    have := arrGo_has (road := road) (a := a) (i := i + 1) (j := j) (l := l) h
    show _ ∈ (i + x, i, road) :: arrGo road (i + 1) a
    rw [show i + ((j + 1 : Nat) : Int) = i + 1 + j by omega]
    exact List.mem_cons_of_mem _ this
theorem comes_has {R0 R1 : List Lt} {j : Nat} {l : Int} (h : R0[j]? = some (some l) ∨ R1[j]? = some (some l)) : ∃ c ∈ comes R0 R1, c.1 = j + l ∧ c.2.1 = j := by
  have e : ∀ r : Int, ((0 : Int) + j + l, (0 : Int) + j, r) = ((j : Int) + l, (j : Int), r) := fun r => by rw [Int.zero_add]
  rcases h with h | h
  · refine ⟨(j + l, j, 0), (sort3_perm _).mem_iff.mpr (List.mem_append_left _ ?_), rfl, rfl⟩
    rw [← e]
    exact arrGo_has h
  · refine ⟨(j + l, j, 1), (sort3_perm _).mem_iff.mpr (List.mem_append_right _ ?_), rfl, rfl⟩
    rw [← e]
    exact arrGo_has h
/-- each thing by some road -/
def Each (R0 R1 : List Lt) : Prop := ∀ j : Nat, j < R0.length → ∃ l : Int, R0[j]? = some (some l) ∨ R1[j]? = some (some l)
theorem evs_of {R0 R1 : List Lt} {lo hi : Int} (h0 : 0 ≤ lo) (hl : R0.length = R1.length) (f0 : Fits lo hi R0) (f1 : Fits lo hi R1) (he : Each R0 R1) : Evs (comes R0 R1) R0.length lo hi (firstA R0 R1) := by
  have gd : ∀ (R : List Lt) (j : Nat) (l : Int), R[j]? = some (some l) → R.getD j none = some l := fun R j l h => by rw [List.getD_eq_getElem?_getD, h]; rfl
  refine ⟨sort3_up _, h0, fun c hc => ?_, fun j j0 jn => ?_⟩
  · obtain ⟨j, l, h1, h2, h3⟩ := comes_mem hc
    have hjn : j < R0.length := by
      rcases h1 with h1 | h1
      · exact (List.getElem?_eq_some_iff.mp h1).1
      · rw [hl]
        exact (List.getElem?_eq_some_iff.mp h1).1
    have hlb : lo ≤ l ∧ l ≤ hi := by
      rcases h1 with h1 | h1
      · exact f0 _ (List.mem_of_getElem? h1) l rfl
      · exact f1 _ (List.mem_of_getElem? h1) l rfl
    refine ⟨by omega, by omega, by omega, by omega, ?_⟩
    rw [h2, h3]
    unfold firstA
    rw [Int.toNat_natCast]
    rcases h1 with h1 | h1
    · rw [gd _ _ _ h1]
      cases R1.getD j none with
      | none => exact Int.le_refl _
      | some b => dsimp only; omega
    · rw [gd _ _ _ h1]
      cases R0.getD j none with
      | none => exact Int.le_refl _
      | some b => dsimp only; omega
  · obtain ⟨i, rfl⟩ : ∃ i : Nat, j = i := ⟨j.toNat, by omega⟩
    have hi : i < R0.length := by omega
    obtain ⟨l, h⟩ := he i hi
    unfold firstA
    rw [Int.toNat_natCast]
    have g0 : ∀ a, R0.getD i none = some a → R0[i]? = some (some a) := fun a h => by
      rw [List.getD_eq_getElem?_getD, List.getElem?_eq_getElem hi] at h
      rw [List.getElem?_eq_getElem hi]
      exact congrArg some h
    have g1 : ∀ a, R1.getD i none = some a → R1[i]? = some (some a) := fun a h => by
      rw [List.getD_eq_getElem?_getD, List.getElem?_eq_getElem (hl ▸ hi)] at h
      rw [List.getElem?_eq_getElem (hl ▸ hi)]
      exact congrArg some h
    cases q0 : R0.getD i none with
    | none =>
      cases q1 : R1.getD i none with
      | none =>
        rcases h with h | h
        · rw [gd _ _ _ h] at q0
          cases q0
        · rw [gd _ _ _ h] at q1
          cases q1
      | some b =>
        obtain ⟨c, hc, c1, c2⟩ := comes_has (.inr (g1 b q1))
        exact ⟨c, hc, c2, c1⟩
    | some a =>
      cases q1 : R1.getD i none with
      | none =>
        obtain ⟨c, hc, c1, c2⟩ := comes_has (.inl (g0 a q0))
        exact ⟨c, hc, c2, c1⟩
      | some b =>
        dsimp only
        by_cases hab : a ≤ b
        · obtain ⟨c, hc, c1, c2⟩ := comes_has (.inl (g0 a q0))
          exact ⟨c, hc, c2, by omega⟩
        · obtain ⟨c, hc, c1, c2⟩ := comes_has (.inr (g1 b q1))
          exact ⟨c, hc, c2, by omega⟩
/-- a sure receiver: what goes out -/
theorem out05 {lo hi : Int} {R : Rcv} (hR : R.Ok) (S : SureR R lo hi) {R0 R1 : List Lt} (h0 : 0 ≤ lo) (hl : R0.length = R1.length) (f0 : Fits lo hi R0) (f1 : Fits lo hi R1) (he : Each R0 R1) :
    (outM R R0 R1).1 = moms (firstA R0 R1) R0.length := by
  have V := evs_of h0 hl f0 f1 he
  obtain ⟨W, I⟩ := run5 V S.w (lastM R (comes R0 R1) + 1).toNat (good_of V S _)
  have hw := hR.w0
  have eW : W = R0.length := by
    have := I.wn
    by_cases h : W = R0.length
    · exact h
    · obtain ⟨p, hp, p1, p2⟩ := V.one W (by omega) (by omega)
      have z1 := last_max (R := R) hp
      obtain ⟨a, _, b, _, _⟩ := V.mem p hp
      exact absurd p1 (I.now p hp (by omega))
  rw [← eW]
  exact I.out
/-! ### receivers that are not sure: rows by which they fail -/
theorem nodup_sub : ∀ {l m : List Int}, l.Nodup → (∀ x ∈ l, x ∈ m) → l.length ≤ m.length
  | [], m, _, _ => Nat.zero_le _
  | x :: l, m, nd, h => by
    obtain ⟨n1, n2⟩ := List.nodup_cons.mp nd
    have hx := h x List.mem_cons_self
    have := nodup_sub (m := m.erase x) n2 fun y hy => by
      have hne : y ≠ x := fun z => n1 (by rw [← z]; exact hy)
      exact (List.mem_erase_of_ne hne).mpr (h y (List.mem_cons_of_mem _ hy))
    rw [List.length_erase_of_mem hx] at this
    have := List.length_pos_of_mem hx
    rw [List.length_cons]
    omega
/-- whether something is lost, twice or turned -/
def failsM (R : Rcv) (R0 R1 : List Lt) : Bool :=
  !(lostM R0.length ((outM R R0 R1).1.map (·.2))).isEmpty || (!(twiceM ((outM R R0 R1).1.map (·.2))).isEmpty || !(turnM ((outM R R0 R1).1.map (·.2))).isEmpty)
structure Fine (n : Nat) (ts : List Int) : Prop where
  all : ∀ i : Nat, i < n → (i : Int) ∈ ts
  one : ts.Nodup
  up : ∀ k : Nat, k < ts.length → maxD0 (ts.take k) ≤ ts.getD k 0
theorem count_one {ts : List Int} (h : ∀ x ∈ ts, ts.count x ≤ 1) : ts.Nodup := List.nodup_iff_count.mpr fun a => by
  by_cases q : a ∈ ts
  · exact h a q
  · rw [List.count_eq_zero.mpr q]
    exact Nat.zero_le _
theorem fine_of {R : Rcv} {R0 R1 : List Lt} (h : failsM R R0 R1 = false) : Fine R0.length ((outM R R0 R1).1.map (·.2)) := by
  unfold failsM at h
  generalize (outM R R0 R1).1.map (·.2) = ts at *
  rw [Bool.or_eq_false_iff, Bool.or_eq_false_iff] at h
  obtain ⟨h1, h2, h3⟩ := h
  have e1 : lostM R0.length ts = [] := by simpa using h1
  have e2 : twiceM ts = [] := by simpa using h2
  have e3 : turnM ts = [] := by simpa using h3
  refine ⟨fun i hi => ?_, count_one fun x hx => ?_, fun k hk => ?_⟩
  · unfold lostM at e1
    have := List.filter_eq_nil_iff.mp e1 (i : Int) (List.mem_map.mpr ⟨i, List.mem_range.mpr hi, rfl⟩)
    simpa using this
  · unfold twiceM at e2
    have := List.filter_eq_nil_iff.mp e2 x (setI_mem.mpr hx)
    simp only [decide_eq_true_eq] at this
    omega
  · by_cases q : ts.getD k 0 < maxD0 (ts.take k)
    · have : ts.getD k 0 ∈ turnM ts := by
        unfold turnM
        rw [setI_mem]
        unfold turnL
        exact List.mem_filterMap.mpr ⟨k, List.mem_range.mpr hk, if_pos q⟩
      rw [e3] at this
      exact absurd this List.not_mem_nil
    · omega
/-! what stands comes of what came -/
theorem come_keep {R : Rcv} {S : MS} (mark th : Int) : (comeM R S mark th).2.clk = S.clk ∧ S.old ≤ (comeM R S mark th).2.old ∧ ∀ e ∈ (comeM R S mark th).2.hs, e ∈ S.hs ∨ (e.2.1 = th ∧ e.2.2 = S.clk) := by
  unfold comeM
  split
  · exact ⟨rfl, by dsimp only; omega, fun e he => .inl he⟩
  · refine ⟨rfl, Int.le_refl _, fun e he => ?_⟩
    have hm := (go_end _ S.w (S.hs ++ [(S.w + (mark - S.w) % R.mks, th, S.clk)]) rfl).2.2.1.subset he
    rcases List.mem_append.mp hm with h | h
    · exact .inl h
    · rw [List.mem_singleton.mp h]
      exact .inr ⟨rfl, rfl⟩
theorem come_out {R : Rcv} {S : MS} (mark th : Int) : ∀ t ∈ (comeM R S mark th).1, t = th ∨ ∃ e ∈ S.hs, e.2.1 = t := by
  unfold comeM
  split
  · exact fun t h => absurd h List.not_mem_nil
  · intro t h
    obtain ⟨e, he, rfl⟩ := go_things _ _ _ rfl t h
    rcases List.mem_append.mp he with h | h
    · exact .inr ⟨e, h, rfl⟩
    · rw [List.mem_singleton.mp h]
      exact .inl rfl
/-- what is held and what went out came before -/
structure From (cs : List Tri.I3) (ok : Tri.I3 → Prop) (m : Int) (st : MS × List (Int × Int)) : Prop where
  clk : st.1.clk = m
  held : ∀ e ∈ st.1.hs, ∃ c ∈ cs, ok c ∧ c.2.1 = e.2.1 ∧ c.1 = e.2.2
  out : ∀ o ∈ st.2, ∃ c ∈ cs, ok c ∧ c.2.1 = o.2
theorem From.fold {R : Rcv} {cs : List Tri.I3} {ok : Tri.I3 → Prop} {m : Int} : ∀ (l : List Tri.I3) (st : MS × List (Int × Int)), (∀ c ∈ l, c ∈ cs ∧ (c.1 = m → ok c)) → From cs ok m st → From cs ok m (l.foldl (inStep R m) st)
  | [], _, _, h => h
  | c :: l, st, hl, h => by
    rw [List.foldl_cons]
    refine From.fold l _ (fun x hx => hl x (List.mem_cons_of_mem _ hx)) ?_
    obtain ⟨hc, hok⟩ := hl c List.mem_cons_self
    unfold inStep
    split
    · rename_i e
      obtain ⟨k1, k2, k3⟩ := come_keep (R := R) (S := st.1) (c.2.1 % R.mks) c.2.1
      refine ⟨k1.trans h.clk, fun x hx => ?_, fun o ho => ?_⟩
      · rcases k3 x hx with q | ⟨q1, q2⟩
        · exact h.held x q
        · exact ⟨c, hc, hok e, q1.symm, by rw [q2, h.clk, e]⟩
      · rcases List.mem_append.mp ho with ho | ho
        · exact h.out o ho
        · obtain ⟨o1, o2⟩ := mem_tag ho
          rcases come_out _ _ _ o2 with q | ⟨x, hx, q⟩
          · exact ⟨c, hc, hok e, q.symm⟩
          · obtain ⟨d, hd, d1, d2, d3⟩ := h.held x hx
            exact ⟨d, hd, d1, d2.trans q⟩
    · exact h
theorem close_sub (R : Rcv) (S : MS) : (∀ e ∈ (closeM R S).2.hs, e ∈ S.hs) ∧ ∀ t ∈ (closeM R S).1, ∃ e ∈ S.hs, e.2.1 = t := by
  refine ⟨fun e he => ?_, fun t ht => closeF_things _ _ _ _ _ t ht⟩
  have : ∀ (ns : List Int) (w : Int) (hs : List E3), (closeF R.wt S.clk ns w hs).2.2.Sublist hs := by
    intro ns
    induction ns with
    | nil => exact fun w hs => List.Sublist.refl _
    | cons n ns ih =>
      intro w hs
      unfold closeF
      split
      · exact (ih _ _).trans (go_end _ n hs rfl).2.2.1
      · exact ih w hs
  exact (this _ _ _).subset he
theorem From.mom {R : Rcv} {cs : List Tri.I3} {ok ok' : Tri.I3 → Prop} {m : Int} {st : MS × List (Int × Int)} (h : From cs ok m st) (h1 : ∀ c, ok c → ok' c) : From cs ok' (m + 1) ((closeM R st.1).2, st.2 ++ tag m (closeM R st.1).1) := by
  obtain ⟨s1, s2⟩ := close_sub R st.1
  refine ⟨?_, fun e he => ?_, fun o ho => ?_⟩
  · show st.1.clk + 1 = m + 1
    rw [h.clk]
  · obtain ⟨c, hc, c1, c2⟩ := h.held e (s1 e he)
    exact ⟨c, hc, h1 c c1, c2⟩
  · rcases List.mem_append.mp ho with ho | ho
    · obtain ⟨c, hc, c1, c2⟩ := h.out o ho
      exact ⟨c, hc, h1 c c1, c2⟩
    · obtain ⟨o1, o2⟩ := mem_tag ho
      obtain ⟨e, he, q⟩ := s2 _ o2
      obtain ⟨c, hc, c1, c2, c3⟩ := h.held e he
      exact ⟨c, hc, h1 c c1, c2.trans q⟩
theorem From.run (R : Rcv) (cs : List Tri.I3) : ∀ k : Nat, From cs (fun c => c.1 < (k : Int)) k (runM R cs k)
  | 0 => ⟨rfl, fun e h => absurd h List.not_mem_nil, fun e h => absurd h List.not_mem_nil⟩
  | k + 1 => by
    have h := From.run R cs k
    have h0 : From cs (fun c => c.1 < ((k + 1 : Nat) : Int)) k (runM R cs k) := ⟨h.clk, fun e he => by
      obtain ⟨c, hc, c1, c2⟩ := h.held e he
      exact ⟨c, hc, by omega, c2⟩, fun o ho => by
      obtain ⟨c, hc, c1, c2⟩ := h.out o ho
      exact ⟨c, hc, by omega, c2⟩⟩
    have h2 := (From.fold (R := R) cs _ (fun c hc => ⟨hc, fun e => by omega⟩) h0).mom (R := R) (ok' := fun c => c.1 < ((k + 1 : Nat) : Int)) fun c z => z
    rw [runM_succ]
    exact h2
/-- what went out stays so; what was let be only grows; what is taken only grows -/
structure Grow (st st' : MS × List (Int × Int)) : Prop where
  out : ∃ more, st'.2 = st.2 ++ more
  old : st.1.old ≤ st'.1.old
  tk : st.2.length + st.1.hs.length ≤ st'.2.length + st'.1.hs.length
  nd : (st.1.hs.map (·.1)).Nodup → (st'.1.hs.map (·.1)).Nodup
theorem Grow.refl (st : MS × List (Int × Int)) : Grow st st := ⟨⟨[], (List.append_nil _).symm⟩, Int.le_refl _, Nat.le_refl _, id⟩
theorem tag_len (m : Int) (ts : List Int) : (tag m ts).length = ts.length := by
  unfold tag
  exact List.length_map _
theorem Grow.step {R : Rcv} {m : Int} {st st' : MS × List (Int × Int)} (hR : R.Ok) (ok : MOk R st'.1) (h : Grow st st') (c : Tri.I3) : Grow st (inStep R m st' c) ∧ MOk R (inStep R m st' c).1 := by
  unfold inStep
  split
  · have ok2 := comeM_ok hR ok (c.2.1 % R.mks) c.2.1
    obtain ⟨k1, k2, k3⟩ := come_keep (R := R) (S := st'.1) (c.2.1 % R.mks) c.2.1
    obtain ⟨more, hm⟩ := h.out
    refine ⟨⟨⟨more ++ tag m (comeM R st'.1 (c.2.1 % R.mks) c.2.1).1, ?_⟩, Int.le_trans h.old k2, ?_, fun _ => ok2.nd⟩, ok2⟩
    · dsimp only
      rw [hm, List.append_assoc]
    · have h1 := h.tk
      have h2 := come_cnt ok (c.2.1 % R.mks) c.2.1
      have h3 : (comeM R st'.1 (c.2.1 % R.mks) c.2.1).2.old ≤ st'.1.old + 1 := by
        unfold comeM
        split
        · exact Int.le_refl _
        · dsimp only; omega
      dsimp only
      rw [List.length_append, tag_len]
      omega
  · exact ⟨h, ok⟩
theorem Grow.fold {R : Rcv} {m : Int} (hR : R.Ok) : ∀ (l : List Tri.I3) (st st' : MS × List (Int × Int)), MOk R st'.1 → Grow st st' → Grow st (l.foldl (inStep R m) st') ∧ MOk R (l.foldl (inStep R m) st').1
  | [], _, _, ok, h => ⟨h, ok⟩
  | c :: l, st, st', ok, h => by
    obtain ⟨h1, ok1⟩ := Grow.step (m := m) hR ok h c
    exact Grow.fold hR l st _ ok1 h1
theorem Grow.mom {R : Rcv} {m : Int} {st st' : MS × List (Int × Int)} (ok : MOk R st'.1) (h : Grow st st') : Grow st ((closeM R st'.1).2, st'.2 ++ tag m (closeM R st'.1).1) := by
  obtain ⟨more, hm⟩ := h.out
  refine ⟨⟨more ++ tag m (closeM R st'.1).1, ?_⟩, h.old, ?_, fun _ => (closeM_ok ok).nd⟩
  · dsimp only
    rw [hm, List.append_assoc]
  · have h1 := h.tk
    have h2 := closeF_cnt R.wt st'.1.clk (keysN st'.1.hs) st'.1.w st'.1.hs ok.nd
    show _ ≤ (st'.2 ++ tag m (closeF R.wt st'.1.clk (keysN st'.1.hs) st'.1.w st'.1.hs).1).length + (closeF R.wt st'.1.clk (keysN st'.1.hs) st'.1.w st'.1.hs).2.2.length
    rw [List.length_append, tag_len]
    omega
theorem Grow.run {R : Rcv} (hR : R.Ok) {cs : List Tri.I3} {st : MS × List (Int × Int)} {k : Nat} (h : Grow st (runM R cs k)) : ∀ j : Nat, Grow st (runM R cs (k + j))
  | 0 => h
  | j + 1 => by
    have ih := Grow.run hR h j
    obtain ⟨h1, ok1⟩ := Grow.fold (m := ((k + j : Nat) : Int)) hR cs st _ (runM_ok hR cs (k + j)) ih
    exact Grow.mom ok1 h1
/-- as long as nothing goes out number 0 is wanted -/
theorem go_w {w : Int} {hs : List E3} (h : (go w hs).1 = []) : (go w hs).2.1 = w := by
  cases q : hasN hs w with
  | false => rw [go_none q]
  | true =>
    obtain ⟨e, he, h1, hf⟩ := find_some q
    rw [go_some hf] at h
    cases h
theorem come_w {R : Rcv} {S : MS} {mark th : Int} (h : (comeM R S mark th).1 = []) : (comeM R S mark th).2.w = S.w := by
  unfold comeM at *
  split
  · rfl
  · rename_i c
    rw [if_neg c] at h
    exact go_w h
theorem closeF_w (wt clk : Int) : ∀ (ns : List Int) (w : Int) (hs : List E3), (closeF wt clk ns w hs).1 = [] → (closeF wt clk ns w hs).2.1 = w
  | [], _, _, _ => rfl
  | n :: ns, w, hs, h => by
    unfold closeF at *
    split
    · rename_i c
      rw [if_pos c] at h
      obtain ⟨c1, c2⟩ := Bool.and_eq_true_iff.mp c
      obtain ⟨e, he, h1, hf⟩ := find_some c1
      rw [go_some hf] at h
      cases h
    · rename_i c
      rw [if_neg c] at h
      exact closeF_w wt clk ns w hs h
theorem fold_w {R : Rcv} {m : Int} (hR : R.Ok) : ∀ (l : List Tri.I3) (st : MS × List (Int × Int)), MOk R st.1 → (l.foldl (inStep R m) st).2 = [] → (st.2 = [] → st.1.w = 0) → (l.foldl (inStep R m) st).1.w = 0
  | [], st, _, h, h0 => h0 h
  | c :: l, st, ok, h, h0 => by
    obtain ⟨g1, ok1⟩ := Grow.step (m := m) hR ok (Grow.refl st) c
    refine fold_w hR l _ ok1 h fun hn => ?_
    unfold inStep at hn ⊢
    split
    · rename_i e
      rw [if_pos e] at hn
      obtain ⟨a, b⟩ := List.append_eq_nil_iff.mp hn
      have b' : (comeM R st.1 (c.2.1 % R.mks) c.2.1).1 = [] := List.map_eq_nil_iff.mp b
      exact (come_w b').trans (h0 a)
    · rename_i e
      rw [if_neg e] at hn
      exact h0 hn
theorem run_w {R : Rcv} (hR : R.Ok) (cs : List Tri.I3) : ∀ k : Nat, (runM R cs k).2 = [] → (runM R cs k).1.w = 0
  | 0, _ => rfl
  | k + 1, h => by
    have ih := run_w hR cs k
    rw [runM_succ] at h ⊢
    unfold momM at h ⊢
    obtain ⟨a, b⟩ := List.append_eq_nil_iff.mp h
    have b' : (closeM R (cs.foldl (inStep R (k : Int)) (runM R cs k)).1).1 = [] := List.map_eq_nil_iff.mp b
    have hw := fold_w hR cs (runM R cs k) (runM_ok hR cs k) a ih
    exact (closeF_w _ _ _ _ _ b').trans hw
/-! ### rows with a hole, rows with old copies -/
/-- the first road that may be just so late is road 0 -/
def road0 (D : Rds) (late : Int) : Bool := decide (D.l0 ≤ late) && decide (late ≤ D.m0)
def holeR (slow quick : Bool) (hi lo : Int) (n : Nat) : List Lt := (List.range n).map fun k => if k = 0 then (if slow then some hi else none) else (if quick then some lo else none)
def holeM (D : Rds) (n : Nat) : List Lt × List Lt := (holeR (road0 D D.hi2) (road0 D D.lo2) D.hi2 D.lo2 n, holeR (!road0 D D.hi2) (!road0 D D.lo2) D.hi2 D.lo2 n)
def copR (slow : Bool) (l m : Int) (n : Nat) : List Lt := (List.range n).map fun k => if k = 0 ∧ slow = true then some m else some l
def copM (D : Rds) (n : Nat) : List Lt × List Lt := (copR (!decide (D.m1 > D.m0)) D.l0 D.m0 n, copR (decide (D.m1 > D.m0)) D.l1 D.m1 n)
theorem holeR_len (slow quick : Bool) (hi lo : Int) (n : Nat) : (holeR slow quick hi lo n).length = n := by
  unfold holeR
  rw [List.length_map, List.length_range]
theorem copR_len (slow : Bool) (l m : Int) (n : Nat) : (copR slow l m n).length = n := by
  unfold copR
  rw [List.length_map, List.length_range]
theorem holeR_at {slow quick : Bool} {hi lo : Int} {n k : Nat} (h : k < n) : (holeR slow quick hi lo n)[k]? = some (if k = 0 then (if slow then some hi else none) else (if quick then some lo else none)) := by
  unfold holeR
  rw [List.getElem?_map, List.getElem?_range h]
  rfl
theorem copR_at {slow : Bool} {l m : Int} {n k : Nat} (h : k < n) : (copR slow l m n)[k]? = some (if k = 0 ∧ slow = true then some m else some l) := by
  unfold copR
  rw [List.getElem?_map, List.getElem?_range h]
  rfl
theorem road_lo {D : Rds} (h : D.Ok) : (road0 D D.lo2 = true → D.l0 ≤ D.lo2 ∧ D.lo2 ≤ D.m0) ∧ (road0 D D.lo2 = false → D.l1 ≤ D.lo2 ∧ D.lo2 ≤ D.m1) := by
  obtain ⟨⟨h1, h2, h3⟩, h4, h5, h6⟩ := h
  unfold road0
  constructor
  · intro q
    rw [Bool.and_eq_true, decide_eq_true_eq, decide_eq_true_eq] at q
    exact q
  · intro q
    have q2 : ¬ (D.l0 ≤ D.lo2 ∧ D.lo2 ≤ D.m0) := fun z => by
      rw [decide_eq_true z.1, decide_eq_true z.2] at q
      cases q
    unfold Rds.lo2 at *
    split <;> rename_i c <;> simp only [c, if_true, if_false] at q2 <;> omega
theorem road_hi {D : Rds} (h : D.Ok) : (road0 D D.hi2 = true → D.l0 ≤ D.hi2 ∧ D.hi2 ≤ D.m0) ∧ (road0 D D.hi2 = false → D.l1 ≤ D.hi2 ∧ D.hi2 ≤ D.m1) := by
  obtain ⟨⟨h1, h2, h3⟩, h4, h5, h6⟩ := h
  unfold road0
  constructor
  · intro q
    rw [Bool.and_eq_true, decide_eq_true_eq, decide_eq_true_eq] at q
    exact q
  · intro q
    have q2 : ¬ (D.l0 ≤ D.hi2 ∧ D.hi2 ≤ D.m0) := fun z => by
      rw [decide_eq_true z.1, decide_eq_true z.2] at q
      cases q
    unfold Rds.hi2 at *
    split <;> rename_i c <;> simp only [c, if_true, if_false] at q2 <;> omega
/-- rows that the roads can do, each thing by some road -/
structure Can (D : Rds) (R0 R1 : List Lt) : Prop where
  len : R0.length = R1.length
  f0 : Fits D.l0 D.m0 R0
  f1 : Fits D.l1 D.m1 R1
  each : Each R0 R1
theorem hole_can {D : Rds} (h : D.Ok) (n : Nat) : Can D (holeM D n).1 (holeM D n).2 := by
  obtain ⟨a1, a2⟩ := road_lo h
  obtain ⟨b1, b2⟩ := road_hi h
  refine ⟨by rw [holeM, holeR_len, holeR_len], fun x hx v e => ?_, fun x hx v e => ?_, fun j hj => ?_⟩
  · subst e
    obtain ⟨k, _, hk⟩ := List.mem_map.mp hx
    split at hk
    · split at hk
      · rename_i q
        cases hk
        exact b1 q
      · cases hk
    · split at hk
      · rename_i q
        cases hk
        exact a1 q
      · cases hk
  · subst e
    obtain ⟨k, _, hk⟩ := List.mem_map.mp hx
    split at hk
    · split at hk
      · rename_i q
        cases hk
        exact b2 (by simpa using q)
      · cases hk
    · split at hk
      · rename_i q
        cases hk
        exact a2 (by simpa using q)
      · cases hk
  · rw [holeM, holeR_len] at hj
    unfold holeM
    dsimp only
    rw [holeR_at hj, holeR_at hj]
    by_cases k0 : j = 0
    · rw [if_pos k0, if_pos k0]
      cases road0 D D.hi2
      · exact ⟨_, .inr rfl⟩
      · exact ⟨_, .inl rfl⟩
    · rw [if_neg k0, if_neg k0]
      cases road0 D D.lo2
      · exact ⟨_, .inr rfl⟩
      · exact ⟨_, .inl rfl⟩
theorem cop_can {D : Rds} (h : D.Ok) (n : Nat) : Can D (copM D n).1 (copM D n).2 := by
  obtain ⟨⟨h1, h2, h3⟩, h4, h5, h6⟩ := h
  refine ⟨by rw [copM, copR_len, copR_len], fun x hx v e => ?_, fun x hx v e => ?_, fun j hj => ?_⟩
  · subst e
    obtain ⟨k, _, hk⟩ := List.mem_map.mp hx
    split at hk <;> cases hk
    · exact ⟨h2, Int.le_refl _⟩
    · exact ⟨Int.le_refl _, h2⟩
  · subst e
    obtain ⟨k, _, hk⟩ := List.mem_map.mp hx
    split at hk <;> cases hk
    · exact ⟨h5, Int.le_refl _⟩
    · exact ⟨Int.le_refl _, h5⟩
  · rw [copM, copR_len] at hj
    unfold copM
    dsimp only
    rw [copR_at hj]
    split
    · exact ⟨_, .inl rfl⟩
    · exact ⟨_, .inl rfl⟩
/-- what comes of a hole: thing 0 at the end, the others at once -/
theorem hole_ev {D : Rds} {n : Nat} {c : Tri.I3} (hc : c ∈ comes (holeM D n).1 (holeM D n).2) : (c.1 = D.hi2 ∧ c.2.1 = 0) ∨ (1 ≤ c.2.1 ∧ c.2.1 < n ∧ c.1 = c.2.1 + D.lo2) := by
  obtain ⟨j, l, h1, h2, h3⟩ := comes_mem hc
  have gen : ∀ (s q : Bool), (holeR s q D.hi2 D.lo2 n)[j]? = some (some l) → (l = D.hi2 ∧ j = 0) ∨ (1 ≤ j ∧ j < n ∧ l = D.lo2) := fun s q h => by
    have hj : j < n := by
      have := (List.getElem?_eq_some_iff.mp h).1
      rw [holeR_len] at this
      exact this
    rw [holeR_at hj] at h
    by_cases k0 : j = 0
    · rw [if_pos k0] at h
      split at h
      · cases h
        exact .inl ⟨rfl, k0⟩
      · cases h
    · rw [if_neg k0] at h
      split at h
      · cases h
        exact .inr ⟨by omega, hj, rfl⟩
      · cases h
  have := h1.elim (gen _ _) (gen _ _)
  omega
theorem hole_none (s q : Bool) (hi lo : Int) (n : Nat) : (holeR s q hi lo n).countP (·.isNone) + (holeR (!s) (!q) hi lo n).countP (·.isNone) = n := by
  unfold holeR
  induction n with
  | zero => rfl
  | succ n ih =>
    rw [List.range_succ, List.map_append, List.map_append, List.countP_append, List.countP_append]
    have : ∀ k : Nat, List.countP (fun x : Lt => x.isNone) (List.map (fun k => if k = 0 then (if s = true then some hi else none) else (if q = true then some lo else none)) [k]) + List.countP (fun x : Lt => x.isNone) (List.map (fun k => if k = 0 then (if (!s) = true then some hi else none) else (if (!q) = true then some lo else none)) [k]) = 1 := fun k => by
      by_cases k0 : k = 0 <;> cases s <;> cases q <;> simp [k0]
    have := this n
    omega
/-- as many come as there are things -/
theorem hole_cnt {R : Rcv} (hR : R.Ok) {D : Rds} (h : D.Ok) (n : Nat) : ((outM R (holeM D n).1 (holeM D n).2).1.length : Int) + (outM R (holeM D n).1 (holeM D n).2).2 = n := by
  obtain ⟨b0, b1, b2, b3, b4, b5, b6⟩ := Rds.bd2 h
  have C := hole_can h n
  have := (out08 hR (lo := D.lo2) (hi := D.hi2) b0 (R0 := (holeM D n).1) (R1 := (holeM D n).2) (fun x hx v e => by have := C.f0 x hx v e; omega) (fun x hx v e => by have := C.f1 x hx v e; omega)).2.1
  rw [this]
  have e := hole_none (road0 D D.hi2) (road0 D D.lo2) D.hi2 D.lo2 n
  unfold holeM
  dsimp only
  rw [holeR_len, holeR_len]
  omega
theorem rng_nd (a : Int) (n : Nat) : ((List.range n).map fun i : Nat => (i : Int) + a).Nodup := List.Pairwise.map _ (fun x y h => by omega) (List.nodup_range (n := n))
theorem rng_nd0 (n : Nat) : ((List.range n).map fun i : Nat => (i : Int)).Nodup := List.Pairwise.map _ (fun x y h => by omega) (List.nodup_range (n := n))
theorem things_all {R : Rcv} {R0 R1 : List Lt} (h : failsM R R0 R1 = false) : R0.length ≤ (outM R R0 R1).1.length := by
  have F := fine_of h
  have := nodup_sub (l := (List.range R0.length).map fun i : Nat => (i : Int)) (m := (outM R R0 R1).1.map (·.2)) ?_ ?_
  · rw [List.length_map, List.length_range, List.length_map] at this
    exact this
  · exact rng_nd0 _
  · intro x hx
    obtain ⟨i, hi, rfl⟩ := List.mem_map.mp hx
    exact F.all i (List.mem_range.mp hi)
/-- the moments' state at one of them is where all goes on from -/
theorem run_more {R : Rcv} (hR : R.Ok) {R0 R1 : List Lt} {k : Nat} (hk : (k : Int) ≤ lastM R (comes R0 R1) + 1) : Grow (runM R (comes R0 R1) k) ((runM R (comes R0 R1) (lastM R (comes R0 R1) + 1).toNat)) := by
  have := Grow.run hR (cs := comes R0 R1) (k := k) (Grow.refl _) ((lastM R (comes R0 R1) + 1).toNat - k)
  rw [show k + ((lastM R (comes R0 R1) + 1).toNat - k) = (lastM R (comes R0 R1) + 1).toNat by omega] at this
  exact this
theorem foldl_max_ge : ∀ (xs : List Int) (a : Int), a ≤ xs.foldl max a
  | [], a => Int.le_refl _
  | x :: xs, a => Int.le_trans (Int.le_max_left a x) (foldl_max_ge xs (max a x))
/-- if a thing beside 0 goes out first, something fails -/
theorem early {R : Rcv} {R0 R1 : List Lt} (hn : 0 < R0.length) {o : Int × Int} {rest : List (Int × Int)} (he : (outM R R0 R1).1 = o :: rest) (ho : 1 ≤ o.2) : failsM R R0 R1 = true := by
  cases q : failsM R R0 R1 with
  | true => rfl
  | false =>
    have F := fine_of q
    have h0 := F.all 0 hn
    rw [he] at h0
    obtain ⟨j, hj⟩ := List.getElem?_of_mem h0
    have hj0 : j ≠ 0 := fun z => by
      subst z
      have : o.2 = ((0 : Nat) : Int) := Option.some.inj hj
      omega
    have hlt := (List.getElem?_eq_some_iff.mp hj).1
    have up := F.up j (by rw [he]; exact hlt)
    rw [he, List.getD_eq_getElem?_getD, hj] at up
    have e : ((o :: rest).map (·.2)).take j = o.2 :: (rest.map (·.2)).take (j - 1) := by
      obtain ⟨i, rfl⟩ : ∃ i, j = i + 1 := ⟨j - 1, by omega⟩
      rfl
    rw [e] at up
    have h1 : o.2 ≤ maxD0 (o.2 :: (rest.map (·.2)).take (j - 1)) := foldl_max_ge _ _
    have h2 : maxD0 (o.2 :: (rest.map (·.2)).take (j - 1)) ≤ ((0 : Nat) : Int) := up
    omega
/-- rows with a hole, where the things ahead of its end are too many to be held, or are held too long -/
theorem hole_fails {R : Rcv} (hR : R.Ok) {D : Rds} (h : D.Ok) {n : Nat} (hn : 1 ≤ n) (hlt : (n : Int) - 1 + D.lo2 < D.hi2) (hw : R.ah ≤ (n : Int) - 1 ∨ (2 ≤ n ∧ R.wt ≤ D.hi2 - D.lo2 - n)) : failsM R (holeM D n).1 (holeM D n).2 = true := by
  cases q : failsM R (holeM D n).1 (holeM D n).2 with
  | true => rfl
  | false =>
    exfalso
    obtain ⟨b0, b1, b2, b3, b4, b5, b6⟩ := Rds.bd2 h
    have C := hole_can h n
    have hlen : (holeM D n).1.length = n := holeR_len _ _ _ _ _
    have hcnt := hole_cnt hR h n
    have hall := things_all q
    rw [hlen] at hall
    have hev : ∀ c ∈ comes (holeM D n).1 (holeM D n).2, (c.1 = D.hi2 ∧ c.2.1 = 0) ∨ (1 ≤ c.2.1 ∧ c.2.1 < n ∧ c.1 = c.2.1 + D.lo2) := fun c hc => hole_ev hc
    have hlast : D.hi2 ≤ lastM R (comes (holeM D n).1 (holeM D n).2) + 1 := by
      obtain ⟨l, hl⟩ := C.each 0 (by rw [hlen]; omega)
      obtain ⟨c, hc, c1, c2⟩ := comes_has hl
      have := last_max (R := R) hc
      have := hR.w0
      rcases hev c hc with z | z <;> omega
    have hold : 0 ≤ (outM R (holeM D n).1 (holeM D n).2).2 := runM_old R _ _
    have G := run_more hR (R0 := (holeM D n).1) (R1 := (holeM D n).2) (k := D.hi2.toNat) (by omega)
    have T := told (lo := D.lo2) (hi := D.hi2) hR (cs := comes (holeM D n).1 (holeM D n).2) (fun c hc => by rcases hev c hc with z | z <;> omega) D.hi2.toNat
    have F := From.run R (comes (holeM D n).1 (holeM D n).2) D.hi2.toNat
    have hW := run_w hR (comes (holeM D n).1 (holeM D n).2) D.hi2.toNat
    have hold0 := runM_old R (comes (holeM D n).1 (holeM D n).2) D.hi2.toNat
    have eout : (outM R (holeM D n).1 (holeM D n).2) = ((runM R (comes (holeM D n).1 (holeM D n).2) (lastM R (comes (holeM D n).1 (holeM D n).2) + 1).toNat).2, (runM R (comes (holeM D n).1 (holeM D n).2) (lastM R (comes (holeM D n).1 (holeM D n).2) + 1).toNat).1.old) := rfl
    have hearly : ∀ o rest, (outM R (holeM D n).1 (holeM D n).2).1 = o :: rest → ¬ 1 ≤ o.2 := fun o rest he ho => by
      rw [early (by rw [hlen]; omega) he ho] at q
      cases q
    have hhas : ∀ j : Nat, j < n → ∃ c ∈ comes (holeM D n).1 (holeM D n).2, c.2.1 = j := fun j hj => by
      obtain ⟨l, hl⟩ := C.each j (by rw [hlen]; exact hj)
      obtain ⟨c, hc, c1, c2⟩ := comes_has hl
      exact ⟨c, hc, c2⟩
    generalize outM R (holeM D n).1 (holeM D n).2 = om at *
    generalize comes (holeM D n).1 (holeM D n).2 = cs at *
    obtain ⟨more, hmore⟩ := G.out
    have ho : (runM R cs D.hi2.toNat).2 = [] := by
      cases e : (runM R cs D.hi2.toNat).2 with
      | nil => rfl
      | cons o rest =>
        exfalso
        obtain ⟨c, hc, c1, c2⟩ := F.out o (by rw [e]; exact List.mem_cons_self)
        refine hearly o (rest ++ more) (by rw [eout]; dsimp only; rw [hmore, e]; rfl) ?_
        rcases hev c hc with z | z <;> omega
    have hfl : n - 1 ≤ (cs.filter fun c => decide (c.1 < (D.hi2.toNat : Int))).length := by
      have := nodup_sub (l := (List.range (n - 1)).map fun i : Nat => ((i : Int) + 1)) (m := (cs.filter fun c => decide (c.1 < (D.hi2.toNat : Int))).map (·.2.1)) ?_ ?_
      · rw [List.length_map, List.length_range, List.length_map] at this
        exact this
      · exact rng_nd 1 _
      · intro x hx
        obtain ⟨i, hi, rfl⟩ := List.mem_map.mp hx
        have hi' := List.mem_range.mp hi
        obtain ⟨c, hc, c1⟩ := hhas (i + 1) (by omega)
        refine List.mem_map.mpr ⟨c, List.mem_filter.mpr ⟨hc, decide_eq_true ?_⟩, by omega⟩
        rcases hev c hc with z | z <;> omega
    have h0 := G.old
    rw [eout] at hcnt hall hold
    dsimp only at hcnt hall hold
    have hc2 := T.cnt
    rw [ho] at hc2
    have e0 : (([] : List (Int × Int)).length : Int) = 0 := rfl
    have hs : n - 1 ≤ (runM R cs D.hi2.toNat).1.hs.length := by omega
    rcases hw with hw | ⟨h2, hw⟩
    · have ok := T.ok
      have := nodup_len (R.ah - 1).toNat 1 ((runM R cs D.hi2.toNat).1.hs.map (·.1)) ok.nd fun x hx => by
        obtain ⟨e, he, rfl⟩ := List.mem_map.mp hx
        have z1 := ok.lo e he
        have z2 := ok.hi e he
        rw [hW ho] at z1 z2
        have := hR.a1
        omega
      rw [List.length_map] at this
      have := hR.a1
      omega
    · -- one is held since its coming
      cases e : (runM R cs D.hi2.toNat).1.hs with
      | nil =>
        rw [e] at hs
        have : ([] : List E3).length = 0 := rfl
        omega
      | cons x xs =>
        have hx : x ∈ (runM R cs D.hi2.toNat).1.hs := by rw [e]; exact List.mem_cons_self
        obtain ⟨c, hc, c1, c2, c3⟩ := F.held x hx
        have z := (T.old x hx).2
        rcases hev c hc with y | y <;> omega
/-! ### old copies taken as new ones -/
theorem comes_mem3 {R0 R1 : List Lt} {c : Tri.I3} (h : c ∈ comes R0 R1) : ∃ (j : Nat) (l : Int), (R0[j]? = some (some l) ∧ c = ((j : Int) + l, (j : Int), 0)) ∨ (R1[j]? = some (some l) ∧ c = ((j : Int) + l, (j : Int), 1)) := by
  have h1 := (sort3_perm _).mem_iff.mp h
  rcases List.mem_append.mp h1 with h1 | h1
  · obtain ⟨j, l, h2, h3⟩ := arrGo_mem h1
    rw [Int.zero_add] at h3
    exact ⟨j, l, .inl ⟨h2, h3⟩⟩
  · obtain ⟨j, l, h2, h3⟩ := arrGo_mem h1
    rw [Int.zero_add] at h3
    exact ⟨j, l, .inr ⟨h2, h3⟩⟩
theorem comes_has3 {R0 R1 : List Lt} {j : Nat} {l : Int} : (R0[j]? = some (some l) → ((j : Int) + l, (j : Int), (0 : Int)) ∈ comes R0 R1) ∧ (R1[j]? = some (some l) → ((j : Int) + l, (j : Int), (1 : Int)) ∈ comes R0 R1) := by
  have e : ∀ r : Int, ((0 : Int) + j + l, (0 : Int) + j, r) = ((j : Int) + l, (j : Int), r) := fun r => by rw [Int.zero_add]
  refine ⟨fun h => (sort3_perm _).mem_iff.mpr (List.mem_append_left _ ?_), fun h => (sort3_perm _).mem_iff.mpr (List.mem_append_right _ ?_)⟩
  · rw [← e]; exact arrGo_has h
  · rw [← e]; exact arrGo_has h
theorem arrGo_nd (road : Int) : ∀ (a : List Lt) (i : Int), (arrGo road i a).Nodup
  | [], _ => List.nodup_nil
  | none :: a, i => arrGo_nd road a (i + 1)
  | some l :: a, i => by
    refine List.nodup_cons.mpr ⟨fun h => ?_, arrGo_nd road a (i + 1)⟩
    obtain ⟨j, l', _, e⟩ := arrGo_mem h
    have e2 : i = i + 1 + j := congrArg (fun c : Tri.I3 => c.2.1) e
    omega
theorem comes_nd (R0 R1 : List Lt) : (comes R0 R1).Nodup := by
  refine (sort3_perm _).nodup_iff.mpr (List.nodup_append.mpr ⟨arrGo_nd _ _ _, arrGo_nd _ _ _, fun x hx y hy e => ?_⟩)
  obtain ⟨j, l, _, e1⟩ := arrGo_mem hx
  obtain ⟨j', l', _, e2⟩ := arrGo_mem hy
  have : (0 : Int) = 1 := by
    have a1 : x.2.2 = 0 := congrArg (fun c : Tri.I3 => c.2.2) e1
    have a2 : y.2.2 = 1 := congrArg (fun c : Tri.I3 => c.2.2) e2
    rw [← a1, e, a2]
  exact absurd this (by decide)
theorem nd_split {α : Type} {a : α} {x y : List α} (h : (x ++ a :: y).Nodup) : a ∉ x := fun z => by
  have := (List.nodup_append.mp h).2.2 a z a List.mem_cons_self
  exact this rfl
/-- the old copy of thing 0 that is taken as a new one -/
theorem cop_core {cs : List Tri.I3} {n : Nat} {lo hi : Int} {A : Int → Int} {R : Rcv} (hR : R.Ok) (V : Evs cs n lo hi A) (S : SureW R lo hi) (hn : (n : Int) = R.mks - R.ah + 1) (hf : (n : Int) ≤ hi - lo) (a2 : 2 ≤ R.ah) (nd : cs.Nodup) {first bad : Tri.I3}
    (f1 : first ∈ cs) (b1 : bad ∈ cs) (bh : bad.1 = hi) (b0 : bad.2.1 = 0) (f0 : first.2.1 = 0) (fb : Tri.lex3 first bad = true) (h0 : ∀ c ∈ cs, c.2.1 = 0 → c = first ∨ c = bad) (hq : ∀ j : Nat, 1 ≤ j → j < n → ∃ c ∈ cs, c.2.1 = j ∧ c.1 = j + lo) :
    n + 1 ≤ (runM R cs (hi.toNat + 1)).2.length + (runM R cs (hi.toNat + 1)).1.hs.length := by
  have lo0 := V.lo0
  have n1 : 1 ≤ n := by have := hR.am; omega
  obtain ⟨pre, post, e, hb⟩ := List.eq_append_cons_of_mem b1
  have ehi : ((hi.toNat : Nat) : Int) = hi := by omega
  have hne : first ≠ bad := fun z => by
    rw [z] at fb
    have := Tri.lex3_iff.mp fb
    omega
  have hfh : first.1 ≤ hi := by have := Tri.lex3_iff.mp fb; omega
  -- before the moment
  have g1 : ∀ m : Nat, m < hi.toNat → ∀ (pre l : List Tri.I3) (c : Tri.I3), cs = pre ++ c :: l → c.1 = m → Good5 cs R n c fun p => p.1 < (m : Int) ∨ (p.1 = m ∧ p ∈ pre) := by
    intro m hm pre' l' c e' hcm W hW low htw
    have hc : c ∈ cs := by rw [e']; simp
    obtain ⟨c0, cn, cl, ch, ca⟩ := V.mem c hc
    by_cases k : c.2.1 = 0
    · exfalso
      have hcf : c = first := by
        rcases h0 c hc k with z | z
        · exact z
        · rw [z, bh] at hcm; omega
      obtain ⟨p, hp, hps, hp0⟩ := low 0 (by omega) (by omega)
      rcases h0 p hp hp0 with z | z
      · rcases hps with y | ⟨_, y⟩
        · rw [z, ← hcf] at y; omega
        · rw [z, ← hcf] at y
          exact nd_split (e' ▸ nd) y
      · rcases hps with y | ⟨y, _⟩ <;> (rw [z, bh] at y; omega)
    · omega
  obtain ⟨W0, I0⟩ := run5 V S hi.toNat g1
  -- within it, up to the old copy
  have g2 : ∀ (pre' l' : List Tri.I3) (c : Tri.I3), [] ++ pre = pre' ++ c :: l' → c.1 = hi → Good5 cs R n c fun p => p.1 < hi ∨ (p.1 = hi ∧ p ∈ pre') := by
    intro pre' l' c e' hcm W hW low htw
    rw [List.nil_append] at e'
    have hcp : c ∈ pre := by rw [e']; simp
    have hc : c ∈ cs := by rw [e]; exact List.mem_append_left _ hcp
    obtain ⟨c0, cn, cl, ch, ca⟩ := V.mem c hc
    by_cases k : c.2.1 = 0
    · exfalso
      have hcf : c = first := by
        rcases h0 c hc k with z | z
        · exact z
        · exact absurd (z ▸ hcp) hb
      obtain ⟨p, hp, hps, hp0⟩ := low 0 (by omega) (by omega)
      have sub : ∀ x ∈ pre', x ∈ pre := fun x hx => by rw [e']; exact List.mem_append_left _ hx
      rcases h0 p hp hp0 with z | z
      · rcases hps with y | ⟨_, y⟩
        · rw [z, ← hcf] at y; omega
        · rw [z, ← hcf] at y
          have ndp : pre.Nodup := nd.sublist (by rw [e]; exact List.sublist_append_left _ _)
          exact nd_split (e' ▸ ndp) y
      · rcases hps with y | ⟨_, y⟩
        · rw [z, bh] at y; omega
        · exact hb (z ▸ sub _ y)
    · omega
  obtain ⟨W, I⟩ := fold5 V S (m := hi) pre [] (bad :: post) (runM R cs hi.toNat) W0 (by rw [List.nil_append]; exact e) g2 (by
    have := I0.congr (ps' := fun p => p.1 < hi ∨ (p.1 = hi ∧ p ∈ [])) fun p hp => ⟨fun z => .inl (by omega), fun z => by rcases z with z | z; omega; exact absurd z.2 List.not_mem_nil⟩
    rw [ehi] at this
    exact this)
  rw [List.nil_append] at I
  have eW : W = n := by
    have := I.wn
    by_cases h : W = n
    · exact h
    · exfalso
      by_cases k : W = 0
      · refine I.now first f1 ?_ (by omega)
        by_cases q : first.1 < hi
        · exact .inl q
        · refine .inr ⟨by omega, ?_⟩
          have hm : first ∈ pre ++ bad :: post := e ▸ f1
          rcases List.mem_append.mp hm with z | z
          · exact z
          · exfalso
            rcases List.mem_cons.mp z with z | z
            · exact hne z
            · have hup : Up3 (pre ++ bad :: post) := e ▸ V.up
              have := (List.pairwise_cons.mp (List.pairwise_append.mp hup).2.1).1 first z
              rw [fb] at this
              cases this
      · obtain ⟨c, hc, c1, c2⟩ := hq W (by omega) (by omega)
        exact I.now c hc (.inl (by omega)) c1
  subst eW
  -- the old copy
  have ok0 := run_ok hR cs hi _ (runM_ok hR cs hi.toNat) pre
  generalize hst : pre.foldl (inStep R hi) (runM R cs hi.toNat) = st at *
  have hs0 : st.1.hs = [] := by
    cases q : st.1.hs with
    | nil => rfl
    | cons x xs =>
      have := I.held x (by rw [q]; exact List.mem_cons_self)
      omega
  have olen : st.2.length = W := by
    rw [I.out]
    unfold moms
    rw [List.length_map, List.length_range]
  have hmod : (bad.2.1 % R.mks - st.1.w) % R.mks = R.mks - W := by
    have := hR.am
    rw [I.w, b0, emod_sub, ← Int.add_emod_right, Int.emod_eq_of_lt (by omega) (by omega)]
    omega
  have hstep : inStep R hi st bad = ((comeM R st.1 (bad.2.1 % R.mks) bad.2.1).2, st.2 ++ tag hi (comeM R st.1 (bad.2.1 % R.mks) bad.2.1).1) := if_pos bh
  have tk : W + 1 ≤ (inStep R hi st bad).2.length + (inStep R hi st bad).1.hs.length := by
    rw [hstep]
    dsimp only
    rw [List.length_append, tag_len, olen]
    have c2 := come_cnt ok0 (bad.2.1 % R.mks) bad.2.1
    have c3 : (comeM R st.1 (bad.2.1 % R.mks) bad.2.1).2.old = st.1.old := by
      unfold comeM
      rw [if_neg]
      rintro (z | z)
      · rw [hmod] at z
        omega
      · rw [hs0] at z
        cases z
    omega
  obtain ⟨_, ok1⟩ := Grow.step (m := hi) hR ok0 (Grow.refl st) bad
  obtain ⟨G, ok2⟩ := Grow.fold (m := hi) hR post (inStep R hi st bad) _ ok1 (Grow.refl _)
  have G2 := Grow.mom (R := R) (m := hi) ok2 G
  have efold : cs.foldl (inStep R hi) (runM R cs hi.toNat) = post.foldl (inStep R hi) (inStep R hi st bad) := by
    have g : ∀ s0, cs.foldl (inStep R hi) s0 = post.foldl (inStep R hi) (inStep R hi (pre.foldl (inStep R hi) s0) bad) := fun s0 => by rw [e, List.foldl_append, List.foldl_cons]
    rw [g, hst]
  have e3 : runM R cs (hi.toNat + 1) = ((closeM R (post.foldl (inStep R hi) (inStep R hi st bad)).1).2, (post.foldl (inStep R hi) (inStep R hi st bad)).2 ++ tag hi (closeM R (post.foldl (inStep R hi) (inStep R hi st bad)).1).1) := by
    rw [runM_succ]
    unfold momM
    rw [ehi, efold]
  rw [e3]
  have := G2.tk
  omega
/-! ### sure receivers -/
def mx1 (far : Int) : Int := if far > 1 then far else 1
def isSure (R : Rcv) (D : Rds) : Bool := decide (R.ah ≥ mx1 (D.hi2 - D.lo2)) && (decide (R.mks ≥ R.ah + mx1 (D.hi2 - D.lo2)) && decide (R.wt ≥ D.hi2 - D.lo2 - 1))
theorem isSure_iff {R : Rcv} {D : Rds} : isSure R D = true ↔ R.ah ≥ mx1 (D.hi2 - D.lo2) ∧ R.mks ≥ R.ah + mx1 (D.hi2 - D.lo2) ∧ R.wt ≥ D.hi2 - D.lo2 - 1 := by
  unfold isSure
  rw [Bool.and_eq_true, Bool.and_eq_true, decide_eq_true_eq, decide_eq_true_eq, decide_eq_true_eq]
theorem sureR_of {R : Rcv} {D : Rds} (h : isSure R D = true) : SureR R D.lo2 D.hi2 := by
  obtain ⟨h1, h2, h3⟩ := isSure_iff.mp h
  unfold mx1 at h1 h2
  refine ⟨?_, ?_, ?_, ?_, ?_⟩ <;> split at h1 <;> omega
/-- rows with old copies, where there are too few marks -/
theorem cop_fails {R : Rcv} (hR : R.Ok) {D : Rds} (h : D.Ok) (ha : D.hi2 - D.lo2 ≤ R.ah) (hm : R.mks < R.ah + (D.hi2 - D.lo2)) (hw : D.hi2 - D.lo2 - 1 ≤ R.wt) : failsM R (copM D (R.mks - R.ah + 1).toNat).1 (copM D (R.mks - R.ah + 1).toNat).2 = true := by
  have ham := hR.am
  have hw0 := hR.w0
  generalize hn : (R.mks - R.ah + 1).toNat = n
  have hn2 : (n : Int) = R.mks - R.ah + 1 := by omega
  cases q : failsM R (copM D n).1 (copM D n).2 with
  | true => rfl
  | false =>
    exfalso
    obtain ⟨y0, y1, y2, y3, y4, y5, y6⟩ := Rds.bd2 h
    have C := cop_can h n
    have hl0 : (copM D n).1.length = n := copR_len _ _ _ _
    have V := evs_of y0 C.len (fun x hx v e => by have := C.f0 x hx v e; omega) (fun x hx v e => by have := C.f1 x hx v e; omega) C.each (lo := D.lo2) (hi := D.hi2)
    rw [hl0] at V
    have S : SureW R D.lo2 D.hi2 := ⟨hR.a1, ha, by omega, hw⟩
    obtain ⟨⟨r1, r2, r3⟩, r4, r5, r6⟩ := id h
    -- thing 0
    have at0 : ∀ (s : Bool) (l m : Int), (copR s l m n)[0]? = some (some (if s = true then m else l)) := fun s l m => by
      rw [copR_at (by omega)]
      cases s <;> rfl
    have atj : ∀ (s : Bool) (l m : Int) (j : Nat), 1 ≤ j → j < n → (copR s l m n)[j]? = some (some l) := fun s l m j j1 jn => by
      rw [copR_at jn, if_neg (by omega)]
    have e0 : ((0 : Int) + (0 : Int)) = 0 := rfl
    have ev0 : (0 + (if D.m1 > D.m0 then D.l0 else D.m0), (0 : Int), (0 : Int)) ∈ comes (copM D n).1 (copM D n).2 := by
      have := (comes_has3 (R0 := (copM D n).1) (R1 := (copM D n).2) (j := 0) (l := if D.m1 > D.m0 then D.l0 else D.m0)).1 (by
        unfold copM
        dsimp only
        rw [at0]
        by_cases c : D.m1 > D.m0
        · rw [if_pos c, decide_eq_true c]; rfl
        · rw [if_neg c, decide_eq_false c]; rfl)
      exact this
    have ev1 : (0 + (if D.m1 > D.m0 then D.m1 else D.l1), (0 : Int), (1 : Int)) ∈ comes (copM D n).1 (copM D n).2 := by
      have := (comes_has3 (R0 := (copM D n).1) (R1 := (copM D n).2) (j := 0) (l := if D.m1 > D.m0 then D.m1 else D.l1)).2 (by
        unfold copM
        dsimp only
        rw [at0]
        by_cases c : D.m1 > D.m0
        · rw [if_pos c, decide_eq_true c]; rfl
        · rw [if_neg c, decide_eq_false c]; rfl)
      exact this
    have only : ∀ c ∈ comes (copM D n).1 (copM D n).2, c.2.1 = 0 → c = (0 + (if D.m1 > D.m0 then D.l0 else D.m0), (0 : Int), (0 : Int)) ∨ c = (0 + (if D.m1 > D.m0 then D.m1 else D.l1), (0 : Int), (1 : Int)) := fun c hc hc0 => by
      obtain ⟨j, l, hl⟩ := comes_mem3 hc
      rcases hl with ⟨hl, rfl⟩ | ⟨hl, rfl⟩
      · have hj : j = 0 := by
          have : (j : Int) = 0 := hc0
          omega
        subst hj
        left
        unfold copM at hl
        dsimp only at hl
        rw [at0] at hl
        have hl' := Option.some.inj (Option.some.inj hl)
        rw [← hl']
        by_cases c : D.m1 > D.m0
        · rw [if_pos c, decide_eq_true c]; rfl
        · rw [if_neg c, decide_eq_false c]; rfl
      · have hj : j = 0 := by
          have : (j : Int) = 0 := hc0
          omega
        subst hj
        right
        unfold copM at hl
        dsimp only at hl
        rw [at0] at hl
        have hl' := Option.some.inj (Option.some.inj hl)
        rw [← hl']
        by_cases c : D.m1 > D.m0
        · rw [if_pos c, decide_eq_true c]; rfl
        · rw [if_neg c, decide_eq_false c]; rfl
    have hq : ∀ j : Nat, 1 ≤ j → j < n → ∃ c ∈ comes (copM D n).1 (copM D n).2, c.2.1 = j ∧ c.1 = j + D.lo2 := fun j j1 jn => by
      have hlo : D.lo2 = D.l0 ∨ D.lo2 = D.l1 := by unfold Rds.lo2; split <;> simp
      rcases hlo with z | z
      · exact ⟨_, (comes_has3 (j := j) (l := D.l0)).1 (by unfold copM; exact atj _ _ _ j j1 jn), rfl, by rw [z]⟩
      · exact ⟨_, (comes_has3 (j := j) (l := D.l1)).2 (by unfold copM; exact atj _ _ _ j j1 jn), rfl, by rw [z]⟩
    have nd := comes_nd (copM D n).1 (copM D n).2
    have hhi : D.hi2 = if D.m1 > D.m0 then D.m1 else D.m0 := rfl
    have key : n + 1 ≤ (runM R (comes (copM D n).1 (copM D n).2) (D.hi2.toNat + 1)).2.length + (runM R (comes (copM D n).1 (copM D n).2) (D.hi2.toNat + 1)).1.hs.length := by
      by_cases c : D.m1 > D.m0
      · simp only [if_pos c] at *
        exact cop_core hR V S hn2 (by omega) (by omega) nd ev0 ev1 (by rw [hhi]; exact Int.zero_add _) rfl rfl (Tri.lex3_iff.mpr (by dsimp only; omega)) only hq
      · simp only [if_neg c] at *
        by_cases c2 : D.l1 < D.hi2
        · exact cop_core hR V S hn2 (by omega) (by omega) nd ev1 ev0 (by rw [hhi]; exact Int.zero_add _) rfl rfl (Tri.lex3_iff.mpr (by dsimp only; omega)) (fun x hx h0 => (only x hx h0).symm) hq
        · exact cop_core hR V S hn2 (by omega) (by omega) nd ev0 ev1 (by dsimp only; omega) rfl rfl (Tri.lex3_iff.mpr (by dsimp only; omega)) only hq
    -- the end
    have hlast : D.hi2 + R.wt ≤ lastM R (comes (copM D n).1 (copM D n).2) := by
      by_cases c : D.m1 > D.m0
      · have := last_max (R := R) ev1
        rw [if_pos c] at this
        rw [hhi, if_pos c]
        dsimp only at this
        omega
      · have := last_max (R := R) ev0
        rw [if_neg c] at this
        rw [hhi, if_neg c]
        dsimp only at this
        omega
    have G := run_more hR (R0 := (copM D n).1) (R1 := (copM D n).2) (k := D.hi2.toNat + 1) (by omega)
    have hnil : (runM R (comes (copM D n).1 (copM D n).2) (lastM R (comes (copM D n).1 (copM D n).2) + 1).toNat).1.hs = [] := by
      have T := told (lo := D.lo2) (hi := D.hi2) hR (cs := comes (copM D n).1 (copM D n).2) (fun c hc => by have := V.mem c hc; omega) (lastM R (comes (copM D n).1 (copM D n).2) + 1).toNat
      refine List.eq_nil_iff_forall_not_mem.mpr fun e he => ?_
      obtain ⟨⟨c, hc, z1⟩, z2⟩ := T.old e he
      have := last_max (R := R) hc
      have := V.mem c hc
      omega
    have htk := G.tk
    rw [hnil] at htk
    have F := fine_of q
    have hfrom := (From.run R (comes (copM D n).1 (copM D n).2) (lastM R (comes (copM D n).1 (copM D n).2) + 1).toNat).out
    have := nodup_len n 0 ((outM R (copM D n).1 (copM D n).2).1.map (·.2)) F.one fun x hx => by
      obtain ⟨o, ho, rfl⟩ := List.mem_map.mp hx
      obtain ⟨c, hc, _, c2⟩ := hfrom o ho
      have := V.mem c hc
      omega
    rw [List.length_map] at this
    have e1 : ([] : List E3).length = 0 := rfl
    have e2 : (outM R (copM D n).1 (copM D n).2).1 = (runM R (comes (copM D n).1 (copM D n).2) (lastM R (comes (copM D n).1 (copM D n).2) + 1).toNat).2 := rfl
    rw [e2] at this
    omega
/-- all rows that are tried -/
def triedM (R : Rcv) (D : Rds) : List (List Lt × List Lt) := (List.range (R.mks + (D.hi2 - D.lo2) + 2).toNat).flatMap fun k => [holeM D (k + 1), copM D (k + 1)]
theorem tried_hole {R : Rcv} {D : Rds} {n : Nat} (h1 : 1 ≤ n) (h2 : (n : Int) ≤ R.mks + (D.hi2 - D.lo2) + 2) : holeM D n ∈ triedM R D ∧ copM D n ∈ triedM R D := by
  unfold triedM
  have e : n - 1 + 1 = n := by omega
  exact ⟨List.mem_flatMap.mpr ⟨n - 1, List.mem_range.mpr (by omega), by rw [e]; exact List.mem_cons_self⟩, List.mem_flatMap.mpr ⟨n - 1, List.mem_range.mpr (by omega), by rw [e]; exact List.mem_cons_of_mem _ List.mem_cons_self⟩⟩
theorem tried_can {R : Rcv} (hR : R.Ok) {D : Rds} (h : D.Ok) {x : List Lt × List Lt} (hx : x ∈ triedM R D) : Can D x.1 x.2 ∧ x.1.length ≤ 43 := by
  obtain ⟨y0, y1, y2, y3, y4, y5, y6⟩ := Rds.bd2 h
  have := hR.m32
  obtain ⟨k, hk, hx⟩ := List.mem_flatMap.mp hx
  have hk' := List.mem_range.mp hk
  rcases List.mem_cons.mp hx with rfl | hx
  · exact ⟨hole_can h _, by rw [holeM, holeR_len]; omega⟩
  · rw [List.mem_singleton.mp hx]
    exact ⟨cop_can h _, by rw [copM, copR_len]; omega⟩
/-- a receiver that is not sure fails by some of them -/
theorem notsure_fails {R : Rcv} (hR : R.Ok) {D : Rds} (h : D.Ok) (hs : isSure R D = false) : ∃ x ∈ triedM R D, failsM R x.1 x.2 = true := by
  obtain ⟨y0, y1, y2, y3, y4, y5, y6⟩ := Rds.bd2 h
  have a1 := hR.a1
  have am := hR.am
  have w0 := hR.w0
  have m2 := hR.m2
  have hns : ¬ (R.ah ≥ mx1 (D.hi2 - D.lo2) ∧ R.mks ≥ R.ah + mx1 (D.hi2 - D.lo2) ∧ R.wt ≥ D.hi2 - D.lo2 - 1) := fun z => by
    rw [isSure_iff.mpr z] at hs
    cases hs
  by_cases cw : R.wt ≥ D.hi2 - D.lo2 - 1
  · by_cases ca : R.ah ≥ D.hi2 - D.lo2
    · have hf : R.mks < R.ah + (D.hi2 - D.lo2) := by
        unfold mx1 at hns
        split at hns <;> omega
      exact ⟨_, (tried_hole (n := (R.mks - R.ah + 1).toNat) (by omega) (by omega)).2, cop_fails hR h ca hf cw⟩
    · exact ⟨_, (tried_hole (n := (R.ah + 1).toNat) (by omega) (by omega)).1, hole_fails hR h (by omega) (by omega) (.inl (by omega))⟩
  · exact ⟨_, (tried_hole (n := 2) (by omega) (by omega)).1, hole_fails hR h (by omega) (by omega) (.inr ⟨by omega, by omega⟩)⟩
/-- the first rows that fail, and the word -/
def judM (R : Rcv) (D : Rds) : Option (List Lt × List Lt) := (triedM R D).find? fun x => failsM R x.1 x.2
theorem judM_some {R : Rcv} (hR : R.Ok) {D : Rds} (h : D.Ok) (hs : isSure R D = false) : ∃ x, judM R D = some x ∧ x ∈ triedM R D ∧ failsM R x.1 x.2 = true := by
  obtain ⟨x, hx, hf⟩ := notsure_fails hR h hs
  unfold judM
  cases q : (triedM R D).find? fun x => failsM R x.1 x.2 with
  | none => exact absurd hf (List.find?_eq_none.mp q x hx)
  | some y => exact ⟨y, rfl, List.mem_of_find?_eq_some q, by simpa using List.find?_some q⟩

/-! ### spread, is_sure, judged -/
def spIsSure : Sp := fun vs H Q _ => ∃ (p q : Addr) (D : Rds) (R : Rcv), vs = [.ref p, .ref q] ∧ RoadsAt H p D ∧ RcvAt H q R ∧ ∀ H', Same H H' → Q (.bl (isSure R D)) H'
def spSpread : Sp := fun vs H Q _ => ∃ (p : Addr) (R : Rds), vs = [.ref p] ∧ RoadsAt H p R ∧ ∀ (t : Addr) (H' : Hp), H t = none → H' t = some (.tup [.int R.lo2, .int R.hi2, .int (R.hi2 - R.lo2)]) → Same H H' → Q (.ref t) H'
section
variable {P : Program} {w : World} {K : PySem.W.Frag} {mg : Str → Option Value} {base : Heap}
theorem ok_spread (T : Txt K mg) : FnOk P w K mg base CX0 1 T.f_spread T.fd_spread P_spread spSpread := by
  refine T.F_spread.ok sc_spread (fun vs H Q E h => ?_) (fun cdv A outer s H vs Q E hr h => ?_)
  · obtain ⟨p, R, rfl, _⟩ := h
    rfl
  · obtain ⟨p, R, rfl, ⟨t0, t1, g1, g2, g3⟩, k⟩ := h
    refine ⟨_, ((pss_cons (ps_set (i := 1) sc_spread.nd rfl (Or.inl rfl) (pe_callB (call_min2 rfl) (by rfl) T.z_min (by decide +kernel) (pa_cons (pe_ix ix_tup (pe_ix ix_tup (pv 0) pe_int (fun _ _ => rfl)) pe_int (fun _ _ => rfl)) (pa_cons (pe_ix ix_tup (pe_ix ix_tup (pv 0) pe_int (fun _ _ => rfl)) pe_int (fun _ _ => rfl)) pa_nil))))
  (pss_cons (ps_set (i := 2) sc_spread.nd rfl (Or.inl rfl) (pe_callB (call_max2 rfl) (by rfl) T.z_max (by decide +kernel) (pa_cons (pe_ix ix_tup (pe_ix ix_tup (pv 0) pe_int (fun _ _ => rfl)) pe_int (fun _ _ => rfl)) (pa_cons (pe_ix ix_tup (pe_ix ix_tup (pv 0) pe_int (fun _ _ => rfl)) pe_int (fun _ _ => rfl)) pa_nil))))
  (pss_one (ps_ret (pe_tup (pa_cons (pv 1) (pa_cons (pv 2) (pa_cons (pe_op op_sub (pv 2) (pv 1)) pa_nil))))))))), ?_⟩
    refine ⟨_, rfl, p, _, _, _, rfl, rfl, SqT.of g1, at0, t0, _, _, _, rfl, rfl, SqT.of g2, at0, _, rfl, p, _, _, _, rfl, rfl, SqT.of g1, at1, t1, _, _, _, rfl, rfl, SqT.of g3, at0, _, _, rfl, ?_⟩
    refine ⟨_, rfl, p, _, _, _, rfl, rfl, SqT.of g1, at0, t0, _, _, _, rfl, rfl, SqT.of g2, at1, _, rfl, p, _, _, _, rfl, rfl, SqT.of g1, at1, t1, _, _, _, rfl, rfl, SqT.of g3, at1, _, _, rfl, ?_⟩
    refine ⟨_, rfl, _, rfl, _, rfl, _, rfl, _, _, rfl, rfl, by show 3 ≤ sizeLine; decide, fun t ht => ?_⟩
    exact k t _ ht upd_same (Same.upd_new ht)
theorem ok_is_sure (T : Txt K mg) : FnOk P w K mg base CX0 2 T.f_is_sure T.fd_is_sure P_is_sure spIsSure := by
  refine T.F_is_sure.ok sc_is_sure (fun vs H Q E h => ?_) (fun cdv A outer s H vs Q E hr h => ?_)
  · obtain ⟨p, q, D, R, rfl, _⟩ := h
    rfl
  · obtain ⟨p, q, D, R, rfl, hp, hq, k⟩ := h
    refine ⟨_, ((pss_cons (ps_asg (pv 1) (pg_tup rfl (pgs_cons (pg_name (i := 2) sc_is_sure.nd rfl (Or.inl rfl)) (pgs_cons (pg_name (i := 3) sc_is_sure.nd rfl (Or.inl rfl)) (pgs_cons (pg_name (i := 4) sc_is_sure.nd rfl (Or.inl rfl)) pgs_nil)))))
  (pss_cons (ps_set (i := 5) sc_is_sure.nd rfl (Or.inl rfl) (pe_ix ix_tup (pe_call (ok_spread T) (hr.mono (by decide)) (by rfl) T.mg_spread T.kp_spread T.b_spread .nil pass0 (pa_cons (pv 0) pa_nil)) pe_int (fun _ _ => rfl)))
  (pss_one (ps_ret (pe_and (pe_cmpR op_ge (pv 3) (pe_callB (call_max2 rfl) (by rfl) T.z_max (by decide +kernel) (pa_cons pe_int (pa_cons (pv 5) pa_nil))) (nomark _)) (pe_and (pe_cmpR op_ge (pv 2) (pe_op op_add (pv 3) (pe_callB (call_max2 rfl) (by rfl) T.z_max (by decide +kernel) (pa_cons pe_int (pa_cons (pv 5) pa_nil)))) (nomark _)) (pe_one (pe_cmpR op_ge (pv 4) (pe_op op_sub (pv 5) pe_int) (nomark _)))))))))), ?_⟩
    refine ⟨_, rfl, q, _, rfl, SqT.of hq, rfl, _, _, rfl, _, _, rfl, _, _, rfl, rfl, ?_⟩
    refine ⟨_, rfl, p, D, rfl, hp, fun t H1 ht ht1 s1 => ⟨t, _, _, _, rfl, rfl, SqT.of ht1, at2, ?_⟩⟩
    have k' := k H1 s1
    unfold isSure at k'
    refine ⟨_, rfl, _, rfl, _, _, rfl, _, _, rfl, rfl, _, rfl, ?_⟩
    by_cases c1 : R.ah ≥ mx1 (D.hi2 - D.lo2)
    · rw [decide_eq_true c1, Bool.true_and] at k'
      refine iteD c1 ⟨_, rfl, _, rfl, _, rfl, _, _, rfl, _, _, rfl, rfl, _, _, rfl, rfl, _, rfl, ?_⟩
      by_cases c2 : R.mks ≥ R.ah + mx1 (D.hi2 - D.lo2)
      · rw [decide_eq_true c2, Bool.true_and] at k'
        exact iteD c2 ⟨_, rfl, _, rfl, _, _, rfl, rfl, _, _, rfl, rfl, k'⟩
      · rw [decide_eq_false c2, Bool.false_and] at k'
        exact iteND c2 k'
    · rw [decide_eq_false c1, Bool.false_and] at k'
      exact iteND c1 k'
end
/-! ### rows that are tried -/
def spRoadOf : Sp := fun vs H Q _ => ∃ (p : Addr) (D : Rds) (late : Int), vs = [.ref p, .int late] ∧ RoadsAt H p D ∧ Q (.int (if road0 D late = true then 0 else 1)) H
def spHole : Sp := fun vs H Q _ => ∃ (p : Addr) (D : Rds) (n : Nat) (m : Int), vs = [.ref p, .int m] ∧ m = (n : Int) ∧ RoadsAt H p D ∧ 1 ≤ n ∧ n ≤ 100 ∧
  ∀ (q a b : Addr) (H' : Hp), H q = none → H a = none → H b = none → RowsAt H' q a b (holeM D n).1 (holeM D n).2 → Same H H' → Q (.ref q) H'
def spCop : Sp := fun vs H Q _ => ∃ (p : Addr) (D : Rds) (n : Nat) (m : Int), vs = [.ref p, .int m] ∧ m = (n : Int) ∧ RoadsAt H p D ∧ 1 ≤ n ∧ n ≤ 100 ∧
  ∀ (q a b : Addr) (H' : Hp), H q = none → H a = none → H b = none → RowsAt H' q a b (copM D n).1 (copM D n).2 → Same H H' → Q (.ref q) H'
/-- one of two rows is changed -/
theorem RowsAt.setA {H : Hp} {q a b : Addr} {X Y : List Lt} (h : RowsAt H q a b X Y) (X' : List Lt) : RowsAt (upd H a (.lst (X'.map oV))) q a b X' Y :=
  ⟨by rw [upd_ne (tup_ne h.hq h.ha)]; exact h.hq, upd_same, by rw [upd_ne h.ne.symm]; exact h.hb, h.ne⟩
theorem RowsAt.setB {H : Hp} {q a b : Addr} {X Y : List Lt} (h : RowsAt H q a b X Y) (Y' : List Lt) : RowsAt (upd H b (.lst (Y'.map oV))) q a b X Y' :=
  ⟨by rw [upd_ne (tup_ne h.hq h.hb)]; exact h.hq, by rw [upd_ne h.ne]; exact h.ha, upd_same, h.ne⟩
def holeP (slow quick : Bool) (hi lo : Int) (n k : Nat) : List Lt := (List.range n).map fun j => if j = 0 then (if slow then some hi else none) else if j < k ∧ quick = true then some lo else none
theorem holeP_at {slow quick : Bool} {hi lo : Int} {n k j : Nat} (h : j < n) : (holeP slow quick hi lo n k)[j]? = some (if j = 0 then (if slow then some hi else none) else if j < k ∧ quick = true then some lo else none) := by
  unfold holeP
  rw [List.getElem?_map, List.getElem?_range h]
  rfl
theorem holeP_len (slow quick : Bool) (hi lo : Int) (n k : Nat) : (holeP slow quick hi lo n k).length = n := by
  unfold holeP
  rw [List.length_map, List.length_range]
theorem holeP_end (slow quick : Bool) (hi lo : Int) (n : Nat) : holeP slow quick hi lo n n = holeR slow quick hi lo n := by
  unfold holeP holeR
  refine List.map_congr_left fun j hj => ?_
  have := List.mem_range.mp hj
  by_cases h : j = 0
  · rw [if_pos h, if_pos h]
  · rw [if_neg h, if_neg h]
    cases quick <;> simp [this]
theorem ext_at {X Y : List Lt} (hl : X.length = Y.length) (h : ∀ j, j < X.length → X[j]? = Y[j]?) : X = Y := List.ext_getElem? fun j => by
  by_cases q : j < X.length
  · exact h j q
  · rw [List.getElem?_eq_none (by omega), List.getElem?_eq_none (by omega)]
theorem holeP_set {slow : Bool} {hi lo : Int} {n k : Nat} (h0 : 1 ≤ k) (hk : k < n) : (holeP slow true hi lo n k).set k (some lo) = holeP slow true hi lo n (k + 1) := by
  refine ext_at (by rw [List.length_set, holeP_len, holeP_len]) fun j hj => ?_
  rw [List.length_set, holeP_len] at hj
  rw [holeP_at hj]
  by_cases e : k = j
  · subst e
    rw [List.getElem?_set_self (by rw [holeP_len]; exact hj), if_neg (by omega), if_pos ⟨by omega, rfl⟩]
  · rw [List.getElem?_set_ne e, holeP_at hj]
    by_cases z : j = 0
    · rw [if_pos z, if_pos z]
    · rw [if_neg z, if_neg z]
      by_cases y : j < k
      · rw [if_pos ⟨y, rfl⟩, if_pos ⟨by omega, rfl⟩]
      · rw [if_neg (fun q => y q.1), if_neg (fun q => by have := q.1; omega)]
theorem holeP_not {slow : Bool} {hi lo : Int} {n k : Nat} : holeP slow false hi lo n k = holeP slow false hi lo n (k + 1) := by
  unfold holeP
  refine List.map_congr_left fun j _ => ?_
  simp
theorem hole_start {quick : Bool} {hi lo : Int} {n : Nat} : List.replicate n (none : Lt) = holeP false quick hi lo n 1 := by
  refine ext_at (by rw [List.length_replicate, holeP_len]) fun j hj => ?_
  rw [List.length_replicate] at hj
  rw [holeP_at hj, List.getElem?_replicate_of_lt hj]
  by_cases z : j = 0
  · rw [if_pos z]; rfl
  · rw [if_neg z, if_neg (fun q => by have := q.1; omega)]
theorem hole_start1 {quick : Bool} {hi lo : Int} {n : Nat} : (List.replicate n (none : Lt)).set 0 (some hi) = holeP true quick hi lo n 1 := by
  refine ext_at (by rw [List.length_set, List.length_replicate, holeP_len]) fun j hj => ?_
  rw [List.length_set, List.length_replicate] at hj
  rw [holeP_at hj]
  by_cases z : j = 0
  · subst z
    rw [List.getElem?_set_self (by rw [List.length_replicate]; exact hj)]
    rfl
  · rw [List.getElem?_set_ne (fun e => z e.symm), List.getElem?_replicate_of_lt hj, if_neg z, if_neg (fun q => by have := q.1; omega)]
theorem cop_set {l m : Int} {n : Nat} : (List.replicate n (some l : Lt)).set 0 (some m) = copR true l m n := by
  refine ext_at (by rw [List.length_set, List.length_replicate, copR_len]) fun j hj => ?_
  rw [List.length_set, List.length_replicate] at hj
  rw [copR_at hj]
  by_cases z : j = 0
  · subst z
    rw [List.getElem?_set_self (by rw [List.length_replicate]; exact hj), if_pos ⟨rfl, rfl⟩]
  · rw [List.getElem?_set_ne (fun e => z e.symm), List.getElem?_replicate_of_lt hj, if_neg (fun q => z q.1)]
theorem cop_not {l m : Int} {n : Nat} : List.replicate n (some l : Lt) = copR false l m n := by
  refine ext_at (by rw [List.length_replicate, copR_len]) fun j hj => ?_
  rw [List.length_replicate] at hj
  rw [copR_at hj, List.getElem?_replicate_of_lt hj, if_neg (fun q => by cases q.2)]
theorem rep_o (n : Nat) (x : Lt) : (List.replicate n [oV x]).flatten = (List.replicate n x).map oV := by
  induction n with
  | zero => rfl
  | succ n ih =>
    rw [List.replicate_succ, List.flatten_cons, ih, List.replicate_succ, List.map_cons]
    rfl
section
variable {P : Program} {w : World} {K : PySem.W.Frag} {mg : Str → Option Value} {base : Heap}
theorem ok_road_of (T : Txt K mg) : FnOk P w K mg base CX0 1 T.f_road_of T.fd_road_of P_road_of spRoadOf := by
  refine T.F_road_of.ok sc_road_of (fun vs H Q E h => ?_) (fun cdv A outer s H vs Q E hr h => ?_)
  · obtain ⟨p, D, late, rfl, _⟩ := h
    rfl
  · obtain ⟨p, D, late, rfl, ⟨t0, t1, g1, g2, g3⟩, k⟩ := h
    refine ⟨_, ((pss_one (ps_ret (pe_ifExp (pt_chain op_le op_le (pe_ix ix_tup (pe_ix ix_tup (pv 0) pe_int (fun _ _ => rfl)) pe_int (fun _ _ => rfl)) (pv 1) (pe_ix ix_tup (pe_ix ix_tup (pv 0) pe_int (fun _ _ => rfl)) pe_int (fun _ _ => rfl))) pe_int pe_int)))), ?_⟩
    refine ⟨_, rfl, p, _, _, _, rfl, rfl, SqT.of g1, at0, t0, _, _, _, rfl, rfl, SqT.of g2, at0, _, rfl, _, _, rfl, rfl, _, rfl, ?_⟩
    unfold road0 at k
    by_cases c1 : D.l0 ≤ late
    · rw [decide_eq_true c1, Bool.true_and] at k
      refine iteD c1 ⟨_, rfl, p, _, _, _, rfl, rfl, SqT.of g1, at0, t0, _, _, _, rfl, rfl, SqT.of g2, at1, _, _, rfl, rfl, _, rfl, ?_⟩
      by_cases c2 : late ≤ D.m0
      · rw [decide_eq_true c2, if_pos rfl] at k
        exact iteD c2 k
      · rw [decide_eq_false c2, if_neg (by decide)] at k
        exact iteND c2 k
    · rw [decide_eq_false c1, Bool.false_and, if_neg (by decide)] at k
      exact iteND c1 ⟨_, rfl, iteF k⟩
theorem ok_with_hole (T : Txt K mg) : FnOk P w K mg base CX0 2 T.f_with_hole T.fd_with_hole P_with_hole spHole := by
  refine T.F_with_hole.ok sc_with_hole (fun vs H Q E h => ?_) (fun cdv A outer s H vs Q E hr h => ?_)
  · obtain ⟨p, D, n, m, rfl, _⟩ := h
    rfl
  · obtain ⟨p, D, n, _, rfl, rfl, hp, hn1, hn2, k⟩ := h
    refine ⟨_, ((pss_cons (ps_asg (pe_call (ok_spread T) (hr.mono (by decide)) (by rfl) T.mg_spread T.kp_spread T.b_spread .nil pass0 (pa_cons (pv 0) pa_nil)) (pg_tup rfl (pgs_cons (pg_name (i := 2) sc_with_hole.nd rfl (Or.inl rfl)) (pgs_cons (pg_name (i := 3) sc_with_hole.nd rfl (Or.inl rfl)) (pgs_cons (pg_name (i := 4) sc_with_hole.nd rfl (Or.inl rfl)) pgs_nil)))))
  (pss_cons (ps_set (i := 5) sc_with_hole.nd rfl (Or.inl rfl) (pe_tup (pa_cons (pe_op op_rep (pe_lst (pa_cons pe_non pa_nil)) (pv 1)) (pa_cons (pe_op op_rep (pe_lst (pa_cons pe_non pa_nil)) (pv 1)) pa_nil))))
  (pss_cons (ps_asg (pv 3) (pg_sub (pe_ix ix_tup (pv 5) (pe_call (ok_road_of T) (hr.mono (by decide)) (by rfl) T.mg_road_of T.kp_road_of T.b_road_of .nil pass0 (pa_cons (pv 0) (pa_cons (pv 3) pa_nil))) (fun _ _ => rfl)) pe_int set_list))
  (pss_cons (ps_for PassesOwn.never rfl (pi_range2 (by rfl) T.z_range (pa_cons pe_int (pa_cons (pv 1) pa_nil))) (pg_name (i := 6) sc_with_hole.nd rfl (Or.inl rfl))
  (pss_one (ps_asg (pv 2) (pg_sub (pe_ix ix_tup (pv 5) (pe_call (ok_road_of T) (hr.mono (by decide)) (by rfl) T.mg_road_of T.kp_road_of T.b_road_of .nil pass0 (pa_cons (pv 0) (pa_cons (pv 2) pa_nil))) (fun _ _ => rfl)) (pv 6) set_list))))
  (pss_one (ps_ret (pv 5)))))))), ?_⟩
    refine ⟨_, rfl, p, D, rfl, hp, fun t H1 ht ht1 s1 => ?_⟩
    refine ⟨t, _, rfl, SqT.of ht1, rfl, _, _, rfl, _, _, rfl, _, _, rfl, rfl, ?_⟩
    refine ⟨by show 1 ≤ sizeLine; decide, fun x0 hx0 => ?_⟩
    refine ⟨_, rfl, x0, _, _, rfl, rfl, upd_same, by omega, by omega, ?_, fun a ha => ?_⟩
    · exact Nat.le_trans (m := 100) (by show 1 * ((n : Int)).toNat ≤ 100; omega) (by decide)
    have er : (List.replicate ((n : Int)).toNat [V.non]).flatten = (List.replicate n (none : Lt)).map oV := by rw [Int.toNat_natCast]; exact rep_o n none
    rw [er]
    have sa : Same H1 (upd (upd H1 x0 (.lst [.non])) a (.lst ((List.replicate n (none : Lt)).map oV))) := (Same.upd_new hx0).new ha
    have haa : (upd (upd H1 x0 (.lst [.non])) a (.lst ((List.replicate n (none : Lt)).map oV))) a = some (.lst ((List.replicate n (none : Lt)).map oV)) := upd_same
    have haH : H1 a = none := (Same.upd_new hx0).free ha
    revert sa haa
    generalize (upd (upd H1 x0 (.lst [.non])) a (.lst ((List.replicate n (none : Lt)).map oV))) = H2
    intro sa haa
    refine ⟨by show 1 ≤ sizeLine; decide, fun y0 hy0 => ?_⟩
    refine ⟨_, rfl, y0, _, _, rfl, rfl, upd_same, by omega, by omega, ?_, fun b hb => ?_⟩
    · exact Nat.le_trans (m := 100) (by show 1 * ((n : Int)).toNat ≤ 100; omega) (by decide)
    rw [er]
    have sb : Same H2 (upd (upd H2 y0 (.lst [.non])) b (.lst ((List.replicate n (none : Lt)).map oV))) := (Same.upd_new hy0).new hb
    have hbb : (upd (upd H2 y0 (.lst [.non])) b (.lst ((List.replicate n (none : Lt)).map oV))) b = some (.lst ((List.replicate n (none : Lt)).map oV)) := upd_same
    have hbH : H2 b = none := (Same.upd_new hy0).free hb
    have hab : a ≠ b := ne_of_none haa hbH
    revert sb hbb
    generalize (upd (upd H2 y0 (.lst [.non])) b (.lst ((List.replicate n (none : Lt)).map oV))) = H3
    intro sb hbb
    refine ⟨by show 2 ≤ sizeLine; decide, fun q hq => ?_⟩
    have ha3 := sb _ _ haa
    have W4 : RowsAt (upd H3 q (.tup [.ref a, .ref b])) q a b (List.replicate n none) (List.replicate n none) := ⟨upd_same, by rw [upd_ne (ne_of_none ha3 hq)]; exact ha3, by rw [upd_ne (ne_of_none hbb hq)]; exact hbb, hab⟩
    have s4 : Same H (upd H3 q (.tup [.ref a, .ref b])) := ((s1.trans sa).trans sb).new hq
    have haF : H a = none := s1.free haH
    have hbF : H b = none := s1.free (sa.free hbH)
    have hqF : H q = none := ((s1.trans sa).trans sb).free hq
    revert W4 s4
    generalize (upd H3 q (.tup [.ref a, .ref b])) = H4
    intro W4 s4
    have hp4 := RoadsAt.same s4 hp
    -- the road at a place of the rows
    have rows_at : ∀ {c : Bool}, atI ([.ref a, .ref b] : List V) (if c = true then 0 else 1) = some (.ref (if c = true then a else b)) := fun {c} => by
      cases c
      · exact at1
      · exact at0
    -- rows[road_of(roads, most)][0] = most
    refine ⟨_, rfl, _, rfl, _, rfl, _, rfl, p, D, _, rfl, hp4, q, _, _, _, rfl, rfl, SqT.of W4.hq, rows_at, ?_⟩
    have one : ∀ (c : Bool) {H5 : Hp} {X Y : List Lt} {j : Nat} {i : Int} (v : Lt) {Qd : Hp → Prop}, RowsAt H5 q a b X Y → X.length = n → Y.length = n → i = (j : Int) → j < n → (RowsAt (upd H5 (if c = true then a else b) (.lst ((if c = true then X.set j v else Y.set j v).map oV))) q a b (if c = true then X.set j v else X) (if c = true then Y else Y.set j v) → Qd (upd H5 (if c = true then a else b) (.lst ((if c = true then X.set j v else Y.set j v).map oV)))) →
        rSetL (.ref (if c = true then a else b)) (.int i) (oV v) H5 Qd := fun c {H5 X Y j i v Qd} W lX lY e hj k' => by
      cases c with
      | true => exact ⟨a, _, _, j, rfl, rfl, W.ha, ixN_of e (by rw [List.length_map, lX]; exact hj), by
          have := k' (W.setA (X.set j v))
          rw [if_pos rfl, if_pos rfl, List.map_set] at this
          exact this⟩
      | false => exact ⟨b, _, _, j, rfl, rfl, W.hb, ixN_of e (by rw [List.length_map, lY]; exact hj), by
          have := k' (W.setB (Y.set j v))
          rw [if_neg (by decide), if_neg (by decide), List.map_set] at this
          exact this⟩
    have lr : (List.replicate n (none : Lt)).length = n := List.length_replicate
    refine one (road0 D D.hi2) (j := 0) (some D.hi2) W4 lr lr rfl (by omega) fun W5 => ?_
    have W5' : RowsAt (upd H4 (if road0 D D.hi2 = true then a else b) (.lst ((if road0 D D.hi2 = true then (List.replicate n (none : Lt)).set 0 (some D.hi2) else (List.replicate n (none : Lt)).set 0 (some D.hi2)).map oV))) q a b (holeP (road0 D D.hi2) (road0 D D.lo2) D.hi2 D.lo2 n 1) (holeP (!road0 D D.hi2) (!road0 D D.lo2) D.hi2 D.lo2 n 1) := by
      revert W5
      cases road0 D D.hi2 with
      | true =>
        intro W5
        rw [if_pos rfl, if_pos rfl, hole_start1 (quick := road0 D D.lo2) (lo := D.lo2), hole_start (quick := !road0 D D.lo2) (hi := D.hi2) (lo := D.lo2)] at W5
        rw [if_pos rfl, hole_start1 (quick := road0 D D.lo2) (lo := D.lo2)]
        exact W5
      | false =>
        intro W5
        rw [if_neg (by decide), if_neg (by decide), hole_start1 (quick := !road0 D D.lo2) (lo := D.lo2), hole_start (quick := road0 D D.lo2) (hi := D.hi2) (lo := D.lo2)] at W5
        rw [if_neg (by decide), hole_start1 (quick := !road0 D D.lo2) (lo := D.lo2)]
        exact W5
    have s5 : Same H (upd H4 (if road0 D D.hi2 = true then a else b) (.lst ((if road0 D D.hi2 = true then (List.replicate n (none : Lt)).set 0 (some D.hi2) else (List.replicate n (none : Lt)).set 0 (some D.hi2)).map oV))) := s4.mut (by split <;> assumption)
    revert W5' s5
    generalize (upd H4 (if road0 D D.hi2 = true then a else b) (.lst ((if road0 D D.hi2 = true then (List.replicate n (none : Lt)).set 0 (some D.hi2) else (List.replicate n (none : Lt)).set 0 (some D.hi2)).map oV))) = H5
    intro W5' s5
    -- the others
    refine ⟨_, rfl, _, _, rfl, by omega, for_range (lo := 1) (n := ((n : Int) - 1).toNat) (fun i σ H' => ∃ v6 : Option V, σ = [some (.ref p), some (.int (n : Int)), some (.int D.lo2), some (.int D.hi2), some (.int (D.hi2 - D.lo2)), some (.ref q), v6] ∧ Same H H' ∧ RowsAt H' q a b (holeP (road0 D D.hi2) (road0 D D.lo2) D.hi2 D.lo2 n (1 + i)) (holeP (!road0 D D.hi2) (!road0 D D.lo2) D.hi2 D.lo2 n (1 + i))) ⟨none, rfl, s5, W5'⟩ ?_ ?_⟩
    · rintro i σ H6 hi ⟨v6, rfl, s6, W6⟩
      have hp6 := RoadsAt.same s6 hp
      refine ⟨_, rfl, _, rfl, _, rfl, _, rfl, p, D, _, rfl, hp6, q, _, _, _, rfl, rfl, SqT.of W6.hq, rows_at, _, rfl, ?_⟩
      refine one (road0 D D.lo2) (j := 1 + i) (some D.lo2) W6 (holeP_len _ _ _ _ _ _) (holeP_len _ _ _ _ _ _) (by omega) (by omega) fun W7 => ⟨_, rfl, s6.mut (by split <;> assumption), ?_⟩
      revert W7
      cases road0 D D.lo2 with
      | true =>
        intro W7
        rw [if_pos rfl, if_pos rfl, holeP_set (by omega) (by omega)] at W7
        rw [if_pos rfl, holeP_set (by omega) (by omega)]
        have := holeP_not (slow := !road0 D D.hi2) (hi := D.hi2) (lo := D.lo2) (n := n) (k := 1 + i)
        rw [show (!true) = false from rfl] at *
        rw [this] at W7
        exact W7
      | false =>
        intro W7
        rw [if_neg (by decide), if_neg (by decide), show (!false) = true from rfl, holeP_set (by omega) (by omega)] at W7
        rw [if_neg (by decide), show (!false) = true from rfl, holeP_set (by omega) (by omega)]
        have := holeP_not (slow := road0 D D.hi2) (hi := D.hi2) (lo := D.lo2) (n := n) (k := 1 + i)
        rw [this] at W7
        exact W7
    · rintro σ H6 ⟨v6, rfl, s6, W6⟩
      rw [show 1 + ((n : Int) - 1).toNat = n by omega, holeP_end, holeP_end] at W6
      exact ⟨_, rfl, k q a b H6 hqF haF hbF W6 s6⟩
theorem ok_with_copies (T : Txt K mg) : FnOk P w K mg base CX0 1 T.f_with_copies T.fd_with_copies P_with_copies spCop := by
  refine T.F_with_copies.ok sc_with_copies (fun vs H Q E h => ?_) (fun cdv A outer s H vs Q E hr h => ?_)
  · obtain ⟨p, D, n, m, rfl, _⟩ := h
    rfl
  · obtain ⟨p, D, n, _, rfl, rfl, hp, hn1, hn2, k⟩ := h
    refine ⟨_, ((pss_cons (ps_set (i := 2) sc_with_copies.nd rfl (Or.inl rfl) (pe_lst (pa_cons (pe_ix ix_tup (pe_ix ix_tup (pv 0) pe_int (fun _ _ => rfl)) pe_int (fun _ _ => rfl)) (pa_cons (pe_ix ix_tup (pe_ix ix_tup (pv 0) pe_int (fun _ _ => rfl)) pe_int (fun _ _ => rfl)) pa_nil))))
  (pss_cons (ps_set (i := 3) sc_with_copies.nd rfl (Or.inl rfl) (pe_lst (pa_cons (pe_ix ix_tup (pe_ix ix_tup (pv 0) pe_int (fun _ _ => rfl)) pe_int (fun _ _ => rfl)) (pa_cons (pe_ix ix_tup (pe_ix ix_tup (pv 0) pe_int (fun _ _ => rfl)) pe_int (fun _ _ => rfl)) pa_nil))))
  (pss_cons (ps_set (i := 4) sc_with_copies.nd rfl (Or.inl rfl) (pe_callTy call_int1 (by rfl) T.z_int (by decide +kernel) (pa_cons (pe_cmpR op_gt (pe_ix ix_list (pv 3) pe_int (fun _ _ => rfl)) (pe_ix ix_list (pv 3) pe_int (fun _ _ => rfl)) (nomark _)) pa_nil)))
  (pss_cons (ps_set (i := 5) sc_with_copies.nd rfl (Or.inl rfl) (pe_tup (pa_cons (pe_op op_rep (pe_lst (pa_cons (pe_ix ix_list (pv 2) pe_int (fun _ _ => rfl)) pa_nil)) (pv 1)) (pa_cons (pe_op op_rep (pe_lst (pa_cons (pe_ix ix_list (pv 2) pe_int (fun _ _ => rfl)) pa_nil)) (pv 1)) pa_nil))))
  (pss_cons (ps_asg (pe_ix ix_list (pv 3) (pv 4) (fun _ _ => rfl)) (pg_sub (pe_ix ix_tup (pv 5) (pv 4) (fun _ _ => rfl)) pe_int set_list))
  (pss_one (ps_ret (pv 5))))))))), ?_⟩
    obtain ⟨t0, t1, g1, g2, g3⟩ := id hp
    refine ⟨_, rfl, p, _, _, _, rfl, rfl, SqT.of g1, at0, t0, _, _, _, rfl, rfl, SqT.of g2, at0, _, rfl, p, _, _, _, rfl, rfl, SqT.of g1, at1, t1, _, _, _, rfl, rfl, SqT.of g3, at0, by show 2 ≤ sizeLine; decide, fun x hx => ?_⟩
    have s1 : Same H (upd H x (.lst [.int D.l0, .int D.l1])) := Same.upd_new hx
    have hxx : (upd H x (.lst [.int D.l0, .int D.l1])) x = some (.lst [.int D.l0, .int D.l1]) := upd_same
    revert s1 hxx
    generalize (upd H x (.lst [.int D.l0, .int D.l1])) = H1
    intro s1 hxx
    refine ⟨_, rfl, p, _, _, _, rfl, rfl, SqT.of (s1 _ _ g1), at0, t0, _, _, _, rfl, rfl, SqT.of (s1 _ _ g2), at1, _, rfl, p, _, _, _, rfl, rfl, SqT.of (s1 _ _ g1), at1, t1, _, _, _, rfl, rfl, SqT.of (s1 _ _ g3), at1, by show 2 ≤ sizeLine; decide, fun y hy => ?_⟩
    have s2 : Same H1 (upd H1 y (.lst [.int D.m0, .int D.m1])) := Same.upd_new hy
    have hyy : (upd H1 y (.lst [.int D.m0, .int D.m1])) y = some (.lst [.int D.m0, .int D.m1]) := upd_same
    revert s2 hyy
    generalize (upd H1 y (.lst [.int D.m0, .int D.m1])) = H2
    intro s2 hyy
    have hx2 := s2 _ _ hxx
    refine ⟨_, rfl, y, _, _, _, rfl, rfl, SqL.of hyy, at1, _, rfl, y, _, _, _, rfl, rfl, SqL.of hyy, at0, _, _, rfl, rfl, .inr ⟨_, rfl, ?_⟩⟩
    refine ⟨_, rfl, x, _, _, _, rfl, rfl, SqL.of hx2, at0, by show 1 ≤ sizeLine; decide, fun x0 hx0 => ?_⟩
    refine ⟨_, rfl, x0, _, _, rfl, rfl, upd_same, by omega, by omega, ?_, fun a ha => ?_⟩
    · exact Nat.le_trans (m := 100) (by show 1 * ((n : Int)).toNat ≤ 100; omega) (by decide)
    have er : ∀ v : Int, (List.replicate ((n : Int)).toNat [V.int v]).flatten = (List.replicate n (some v : Lt)).map oV := fun v => by rw [Int.toNat_natCast]; exact rep_o n (some v)
    rw [er]
    have sa : Same H2 (upd (upd H2 x0 (.lst [.int D.l0])) a (.lst ((List.replicate n (some D.l0 : Lt)).map oV))) := (Same.upd_new hx0).new ha
    have haa : (upd (upd H2 x0 (.lst [.int D.l0])) a (.lst ((List.replicate n (some D.l0 : Lt)).map oV))) a = some (.lst ((List.replicate n (some D.l0 : Lt)).map oV)) := upd_same
    have haH : H2 a = none := (Same.upd_new hx0).free ha
    revert sa haa
    generalize (upd (upd H2 x0 (.lst [.int D.l0])) a (.lst ((List.replicate n (some D.l0 : Lt)).map oV))) = H3
    intro sa haa
    refine ⟨_, rfl, x, _, _, _, rfl, rfl, SqL.of (sa _ _ hx2), at1, by show 1 ≤ sizeLine; decide, fun y0 hy0 => ?_⟩
    refine ⟨_, rfl, y0, _, _, rfl, rfl, upd_same, by omega, by omega, ?_, fun b hb => ?_⟩
    · exact Nat.le_trans (m := 100) (by show 1 * ((n : Int)).toNat ≤ 100; omega) (by decide)
    rw [er]
    have sb : Same H3 (upd (upd H3 y0 (.lst [.int D.l1])) b (.lst ((List.replicate n (some D.l1 : Lt)).map oV))) := (Same.upd_new hy0).new hb
    have hbb : (upd (upd H3 y0 (.lst [.int D.l1])) b (.lst ((List.replicate n (some D.l1 : Lt)).map oV))) b = some (.lst ((List.replicate n (some D.l1 : Lt)).map oV)) := upd_same
    have hbH : H3 b = none := (Same.upd_new hy0).free hb
    have hab : a ≠ b := ne_of_none haa hbH
    revert sb hbb
    generalize (upd (upd H3 y0 (.lst [.int D.l1])) b (.lst ((List.replicate n (some D.l1 : Lt)).map oV))) = H4
    intro sb hbb
    refine ⟨by show 2 ≤ sizeLine; decide, fun q hq => ?_⟩
    have ha4 := sb _ _ haa
    have W5 : RowsAt (upd H4 q (.tup [.ref a, .ref b])) q a b (List.replicate n (some D.l0)) (List.replicate n (some D.l1)) := ⟨upd_same, by rw [upd_ne (ne_of_none ha4 hq)]; exact ha4, by rw [upd_ne (ne_of_none hbb hq)]; exact hbb, hab⟩
    have s12 := s1.trans s2
    have s5 : Same H (upd H4 q (.tup [.ref a, .ref b])) := ((s12.trans sa).trans sb).new hq
    have haF : H a = none := s12.free haH
    have hbF : H b = none := (s12.trans sa).free hbH
    have hqF : H q = none := ((s12.trans sa).trans sb).free hq
    have hy5 : (upd H4 q (.tup [.ref a, .ref b])) y = some (.lst [.int D.m0, .int D.m1]) := by
      rw [upd_ne (ne_of_none (sb _ _ (sa _ _ hyy)) hq)]
      exact sb _ _ (sa _ _ hyy)
    revert W5 s5 hy5
    generalize (upd H4 q (.tup [.ref a, .ref b])) = H5
    intro W5 s5 hy5
    have lr : ∀ v : Lt, (List.replicate n v).length = n := fun v => List.length_replicate
    by_cases c : D.m0 < D.m1
    · rw [decide_eq_true c]
      have e1 : copM D n = (copR false D.l0 D.m0 n, copR true D.l1 D.m1 n) := by unfold copM; rw [decide_eq_true (show D.m1 > D.m0 from c)]; rfl
      rw [e1] at k
      refine ⟨_, rfl, _, rfl, y, _, _, _, rfl, rfl, SqL.of hy5, at1, _, rfl, _, rfl, q, _, _, _, rfl, rfl, SqT.of W5.hq, at1, b, _, _, 0, rfl, rfl, W5.hb, ixN_of rfl (by rw [List.length_map, lr]; omega), ?_⟩
      have W6 := W5.setB ((List.replicate n (some D.l1 : Lt)).set 0 (some D.m1))
      have em : ((List.replicate n (some D.l1 : Lt)).set 0 (some D.m1)).map oV = ((List.replicate n (some D.l1 : Lt)).map oV).set 0 (.int D.m1) := List.map_set
      rw [← em]
      rw [cop_set, cop_not (m := D.m0)] at W6
      rw [cop_set]
      exact ⟨_, rfl, k q a b _ hqF haF hbF W6 (s5.mut hbF)⟩
    · rw [decide_eq_false c]
      have e1 : copM D n = (copR true D.l0 D.m0 n, copR false D.l1 D.m1 n) := by unfold copM; rw [decide_eq_false (show ¬ D.m1 > D.m0 from c)]; rfl
      rw [e1] at k
      refine ⟨_, rfl, _, rfl, y, _, _, _, rfl, rfl, SqL.of hy5, at0, _, rfl, _, rfl, q, _, _, _, rfl, rfl, SqT.of W5.hq, at0, a, _, _, 0, rfl, rfl, W5.ha, ixN_of rfl (by rw [List.length_map, lr]; omega), ?_⟩
      have W6 := W5.setA ((List.replicate n (some D.l0 : Lt)).set 0 (some D.m0))
      have em : ((List.replicate n (some D.l0 : Lt)).set 0 (some D.m0)).map oV = ((List.replicate n (some D.l0 : Lt)).map oV).set 0 (.int D.m0) := List.map_set
      rw [← em]
      rw [cop_set, cop_not (l := D.l1) (m := D.m1)] at W6
      rw [cop_set]
      exact ⟨_, rfl, k q a b _ hqF haF hbF W6 (s5.mut haF)⟩
end
/-- rows in a list, all of them new -/
def RsAt (H0 H : Hp) (f : Addr) (l : List (List Lt × List Lt)) : Prop := ∃ ts : List ((List Lt × List Lt) × Addr × Addr × Addr), H f = some (.lst (ts.map fun x => V.ref x.2.1)) ∧
  (∀ x ∈ ts, RowsAt H x.2.1 x.2.2.1 x.2.2.2 x.1.1 x.1.2 ∧ H0 x.2.1 = none ∧ H0 x.2.2.1 = none ∧ H0 x.2.2.2 = none ∧ x.2.2.1 ≠ f ∧ x.2.2.2 ≠ f) ∧ ts.map (·.1) = l
def spTried : Sp := fun vs H Q _ => ∃ (p q : Addr) (D : Rds) (R : Rcv), vs = [.ref p, .ref q] ∧ RoadsAt H p D ∧ D.Ok ∧ RcvAt H q R ∧ R.Ok ∧ ∀ (f : Addr) (H' : Hp), H f = none → RsAt H H' f (triedM R D) → Same H H' → Q (.ref f) H'
/-- rows are put to the list -/
theorem RsAt.app {H0 H H1 : Hp} {f q a b : Addr} {l : List (List Lt × List Lt)} {X Y : List Lt} (s0 : Same H0 H) (h : RsAt H0 H f l) (s : Same H H1) (hq : H q = none) (ha : H a = none) (hb : H b = none) (W : RowsAt H1 q a b X Y) :
    ∃ xs : List V, H1 f = some (.lst xs) ∧ xs.length = l.length ∧ RsAt H0 (upd H1 f (.lst (xs ++ [.ref q]))) f (l ++ [(X, Y)]) := by
  obtain ⟨ts, h1, h2, h3⟩ := h
  have hf1 := s _ _ h1
  have aside : ∀ {q a b : Addr} {X Y : List Lt}, RowsAt H1 q a b X Y → a ≠ f → b ≠ f → RowsAt (upd H1 f (.lst ((ts.map fun x => V.ref x.2.1) ++ [.ref q]))) q a b X Y := fun {q a b X Y} W na nb => ⟨by rw [upd_ne (tup_ne W.hq hf1)]; exact W.hq, by rw [upd_ne na]; exact W.ha, by rw [upd_ne nb]; exact W.hb, W.ne⟩
  have naf : a ≠ f := (ne_of_none h1 ha).symm
  have nbf : b ≠ f := (ne_of_none h1 hb).symm
  refine ⟨_, hf1, by rw [← h3, List.length_map, List.length_map], ts ++ [((X, Y), q, a, b)], by rw [upd_same, List.map_append]; rfl, fun x hx => ?_, by rw [List.map_append, h3]; rfl⟩
  rcases List.mem_append.mp hx with hx | hx
  · obtain ⟨g1, g2, g3, g4, g5, g6⟩ := h2 x hx
    have g1' := g1.same s
    exact ⟨⟨by rw [upd_ne (tup_ne g1'.hq hf1)]; exact g1'.hq, by rw [upd_ne g5]; exact g1'.ha, by rw [upd_ne g6]; exact g1'.hb, g1'.ne⟩, g2, g3, g4, g5, g6⟩
  · rw [List.mem_singleton.mp hx]
    exact ⟨⟨by rw [upd_ne (tup_ne W.hq hf1)]; exact W.hq, by rw [upd_ne naf]; exact W.ha, by rw [upd_ne nbf]; exact W.hb, W.ne⟩, s0.free hq, s0.free ha, s0.free hb, naf, nbf⟩
/-- xs != [] of a list of ints -/
theorem ne_nil {K : PySem.W.Frag} {σ : L2.St} {H : Hp} {i : Nat} {l : Addr} {xs : List Int} {Q : VK} (hσ : σ[i]? = some (some (.ref l))) (h : IntsAt H l xs) (k : ∀ H', Same H H' → Q (.bl (!xs.isEmpty)) H') : tOp (rNeD K) (tVar i) (tLst tNil) σ H Q := by
  refine ⟨_, hσ, by show 0 ≤ sizeLine; decide, fun p hp => ?_⟩
  have s := Same.upd_new (o := .lst []) hp
  refine ⟨.list (xs.map PyData.int), .list [], .lst (SqL.of (s _ _ h)) (dp_ints _), .lst (SqL.of upd_same) .nil, shaped_ints _, rfl, ?_⟩
  rw [eqv_ints]
  exact k _ s
def wordM (R : Rcv) (R0 R1 : List Lt) : Str := if (lostM R0.length ((outM R R0 R1).1.map (·.2))).isEmpty = false then "lost" else if (twiceM ((outM R R0 R1).1.map (·.2))).isEmpty = false then "twice" else "turned"
def spJudged : Sp := fun vs H Q _ => ∃ (p q : Addr) (D : Rds) (R : Rcv), vs = [.ref p, .ref q] ∧ RoadsAt H p D ∧ D.Ok ∧ RcvAt H q R ∧ R.Ok ∧
  (isSure R D = true → ∀ (t : Addr) (H' : Hp), H t = none → H' t = some (.tup [.str "sure", .int D.hi2]) → Same H H' → Q (.ref t) H') ∧
  (isSure R D = false → ∀ (x : List Lt × List Lt) (t rq a b : Addr) (H' : Hp), judM R D = some x → x ∈ triedM R D → failsM R x.1 x.2 = true → H t = none → H rq = none → H a = none → H b = none → H' t = some (.tup [.str (wordM R x.1 x.2), .ref rq]) → RowsAt H' rq a b x.1 x.2 → Same H H' → Q (.ref t) H')
theorem tried_len (D : Rds) : ∀ i : Nat, ((List.range i).flatMap fun k => [holeM D (k + 1), copM D (k + 1)]).length = 2 * i
  | 0 => rfl
  | i + 1 => by
    rw [List.range_succ, List.flatMap_append, List.length_append, tried_len D i]
    rfl
theorem find_at {α : Type} {p : α → Bool} : ∀ {l : List α} {i : Nat} {x : α}, l[i]? = some x → (∀ y ∈ l.take i, p y = false) → p x = true → l.find? p = some x
  | [], i, x, h, _, _ => by cases h
  | y :: l, 0, x, h, _, hp => by
    cases h
    exact List.find?_cons_of_pos hp
  | y :: l, i + 1, x, h, hb, hp => by
    have hy := hb y (by rw [List.take_succ_cons]; exact List.mem_cons_self)
    rw [List.find?_cons_of_neg (by rw [hy]; decide)]
    exact find_at (show l[i]? = some x from h) (fun z hz => hb z (by rw [List.take_succ_cons]; exact List.mem_cons_of_mem _ hz)) hp
section
variable {P : Program} {w : World} {K : PySem.W.Frag} {mg : Str → Option Value} {base : Heap}
theorem ok_tried (T : Txt K mg) : FnOk P w K mg base CX0 3 T.f_tried T.fd_tried P_tried spTried := by
  refine T.F_tried.ok sc_tried (fun vs H Q E h => ?_) (fun cdv A outer s H vs Q E hr h => ?_)
  · obtain ⟨p, q, D, R, rfl, _⟩ := h
    rfl
  · obtain ⟨p, q, D, R, rfl, hp, hD, hq, hR, k⟩ := h
    refine ⟨_, ((pss_cons (ps_set (i := 2) sc_tried.nd rfl (Or.inl rfl) (pe_op op_add (pe_op op_add (pe_ix ix_tup (pv 1) pe_int (fun _ _ => rfl)) (pe_ix ix_tup (pe_call (ok_spread T) (hr.mono (by decide)) (by rfl) T.mg_spread T.kp_spread T.b_spread .nil pass0 (pa_cons (pv 0) pa_nil)) pe_int (fun _ _ => rfl))) pe_int))
  (pss_cons (ps_set (i := 3) sc_tried.nd rfl (Or.inl rfl) (pe_lst pa_nil))
  (pss_cons (ps_for PassesOwn.never rfl (pi_range2 (by rfl) T.z_range (pa_cons pe_int (pa_cons (pe_op op_add (pv 2) pe_int) pa_nil))) (pg_name (i := 4) sc_tried.nd rfl (Or.inl rfl))
  (pss_cons (ps_expr (pe_bm PySem.F.plainAttrs_list PySem.F.slot_list_append PySem.F.type_list_append mt_append (pv 3) (pa_cons (pe_call (ok_with_hole T) (hr.mono (by decide)) (by rfl) T.mg_with_hole T.kp_with_hole T.b_with_hole .nil pass0 (pa_cons (pv 0) (pa_cons (pv 4) pa_nil))) pa_nil)))
  (pss_one (ps_expr (pe_bm PySem.F.plainAttrs_list PySem.F.slot_list_append PySem.F.type_list_append mt_append (pv 3) (pa_cons (pe_call (ok_with_copies T) (hr.mono (by decide)) (by rfl) T.mg_with_copies T.kp_with_copies T.b_with_copies .nil pass0 (pa_cons (pv 0) (pa_cons (pv 4) pa_nil))) pa_nil))))))
  (pss_one (ps_ret (pv 3))))))), ?_⟩
    obtain ⟨y0, y1, y2, y3, y4, y5, y6⟩ := Rds.bd2 hD
    have m2 := hR.m2
    have m32 := hR.m32
    refine ⟨_, rfl, q, _, _, _, rfl, rfl, SqT.of hq, at0, _, rfl, p, D, rfl, hp, fun t H1 ht ht1 s1 => ⟨t, _, _, _, rfl, rfl, SqT.of ht1, at2, _, _, rfl, rfl, _, _, rfl, rfl, ?_⟩⟩
    refine ⟨by show 0 ≤ sizeLine; decide, fun f hf => ?_⟩
    have I0 : RsAt H (upd H1 f (.lst [])) f [] := ⟨[], upd_same, fun x hx => absurd hx List.not_mem_nil, rfl⟩
    refine ⟨_, rfl, _, _, rfl, rfl, _, _, rfl, by omega, for_range (lo := 1) (n := (R.mks + (D.hi2 - D.lo2) + 2 + 1 - 1).toNat) (fun i σ H' => ∃ v4 : Option V, σ = [some (.ref p), some (.ref q), some (.int (R.mks + (D.hi2 - D.lo2) + 2)), some (.ref f), v4] ∧ Same H H' ∧ RsAt H H' f ((List.range i).flatMap fun k => [holeM D (k + 1), copM D (k + 1)])) ⟨none, rfl, s1.new hf, I0⟩ ?_ ?_⟩
    · rintro i σ H2 hi ⟨v4, rfl, s2, I2⟩
      have hi2 : i < 44 := by omega
      have hp2 := RoadsAt.same s2 hp
      obtain ⟨ts, h1, _⟩ := id I2
      have flen : ((List.range i).flatMap fun k => [holeM D (k + 1), copM D (k + 1)]).length ≤ 100 := by
        have := tried_len D i
        omega
      have hfF : H f = none := s1.free hf
      refine ⟨_, rfl, .inl ⟨rfl, _, SqL.of h1⟩, _, rfl, _, rfl, p, D, i + 1, _, rfl, by omega, hp2, by omega, by omega, fun q3 a3 b3 H3 nq na nb W3 s3 => ?_⟩
      obtain ⟨xs, z1, z2, I4⟩ := I2.app s2 s3 nq na nb W3
      refine ⟨f, _, _, rfl, rfl, z1, small1000 (by omega), ?_⟩
      have s4 := (s2.trans s3).mut (o := .lst (xs ++ [.ref q3])) hfF
      revert I4 s4
      generalize (upd H3 f (.lst (xs ++ [.ref q3]))) = H4
      intro I4 s4
      have hp4 := RoadsAt.same s4 hp
      obtain ⟨ts4, h4, _⟩ := id I4
      refine ⟨_, rfl, .inl ⟨rfl, _, SqL.of h4⟩, _, rfl, _, rfl, p, D, i + 1, _, rfl, by omega, hp4, by omega, by omega, fun q5 a5 b5 H5 nq5 na5 nb5 W5 s5 => ?_⟩
      obtain ⟨ys, w1, w2, I6⟩ := I4.app s4 s5 nq5 na5 nb5 W5
      refine ⟨f, _, _, rfl, rfl, w1, small1000 (by rw [w2, List.length_append]; show _ + 1 ≤ _; omega), ?_⟩
      refine ⟨_, rfl, (s4.trans s5).mut hfF, ?_⟩
      have e : ((List.range (i + 1)).flatMap fun k => [holeM D (k + 1), copM D (k + 1)]) = ((List.range i).flatMap fun k => [holeM D (k + 1), copM D (k + 1)]) ++ [holeM D (i + 1)] ++ [copM D (i + 1)] := by
        rw [List.range_succ, List.flatMap_append, List.append_assoc]
        rfl
      rw [e]
      exact I6
    · rintro σ H2 ⟨v4, rfl, s2, I2⟩
      have e : (R.mks + (D.hi2 - D.lo2) + 2 + 1 - 1).toNat = (R.mks + (D.hi2 - D.lo2) + 2).toNat := by omega
      rw [e] at I2
      exact ⟨_, rfl, k f H2 (s1.free hf) I2 s2⟩
theorem ok_judged (T : Txt K mg) : FnOk P w K mg base CX0 6 T.f_judged T.fd_judged P_judged spJudged := by
  refine T.F_judged.ok sc_judged (fun vs H Q E h => ?_) (fun cdv A outer s H vs Q E hr h => ?_)
  · obtain ⟨p, q, D, R, rfl, _⟩ := h
    rfl
  · obtain ⟨p, q, D, R, rfl, hp, hD, hq, hR, ks, kn⟩ := h
    refine ⟨_, ((pss_cons (ps_expr (pe_call (ok_need_roads T) (hr.mono (by decide)) (by rfl) T.mg_need_roads T.kp_need_roads T.b_need_roads .nil pass0 (pa_cons (pv 0) pa_nil)))
  (pss_cons (ps_expr (pe_call (ok_need_receiver T) (hr.mono (by decide)) (by rfl) T.mg_need_receiver T.kp_need_receiver T.b_need_receiver .nil pass0 (pa_cons (pv 1) pa_nil)))
  (pss_cons (ps_if (pt_val (pe_call (ok_is_sure T) (hr.mono (by decide)) (by rfl) T.mg_is_sure T.kp_is_sure T.b_is_sure .nil pass0 (pa_cons (pv 0) (pa_cons (pv 1) pa_nil)))) (pss_one (ps_ret (pe_tup (pa_cons pe_str (pa_cons (pe_ix ix_tup (pe_call (ok_spread T) (hr.mono (by decide)) (by rfl) T.mg_spread T.kp_spread T.b_spread .nil pass0 (pa_cons (pv 0) pa_nil)) pe_int (fun _ _ => rfl)) pa_nil))))) pss_nil)
  (pss_cons (ps_for PassesOwn.never rfl (pi_list (pe_call (ok_tried T) (hr.mono (by decide)) (by rfl) T.mg_tried T.kp_tried T.b_tried .nil pass0 (pa_cons (pv 0) (pa_cons (pv 1) pa_nil)))) (pg_name (i := 2) sc_judged.nd rfl (Or.inl rfl))
  (pss_cons (ps_asg (pe_call (ok_faults_of T) (hr.mono (by decide)) (by rfl) T.mg_faults_of T.kp_faults_of T.b_faults_of .nil pass0 (pa_cons (pv 1) (pa_cons (pv 2) pa_nil))) (pg_tup rfl (pgs_cons (pg_name (i := 3) sc_judged.nd rfl (Or.inl rfl)) (pgs_cons (pg_name (i := 4) sc_judged.nd rfl (Or.inl rfl)) (pgs_cons (pg_name (i := 5) sc_judged.nd rfl (Or.inl rfl)) pgs_nil)))))
  (pss_one (ps_if (PW.pt (pw_or (pt_cmpR (op_neD hr.units) (pv 3) (pe_lst pa_nil) (nomark _)) (pw_or (pt_cmpR (op_neD hr.units) (pv 4) (pe_lst pa_nil) (nomark _)) (pw_or1 (pt_cmpR (op_neD hr.units) (pv 5) (pe_lst pa_nil) (nomark _)))))) (pss_one (ps_ret (pe_tup (pa_cons (pe_ifExp (pt_cmpR (op_neD hr.units) (pv 3) (pe_lst pa_nil) (nomark _)) pe_str (pe_ifExp (pt_cmpR (op_neD hr.units) (pv 4) (pe_lst pa_nil) (nomark _)) pe_str pe_str)) (pa_cons (pv 2) pa_nil))))) pss_nil))))
  (pss_one (ps_ret pe_non))))))), ?_⟩
    refine ⟨_, rfl, p, D, rfl, hp, hD, _, rfl, q, R, rfl, hq, hR, _, rfl, _, rfl, p, q, D, R, rfl, hp, hq, fun H1 s1 => ?_⟩
    cases hs : isSure R D with
    | true =>
      refine ⟨_, rfl, iteT ?_⟩
      refine ⟨_, rfl, p, D, rfl, RoadsAt.same s1 hp, fun t H2 ht ht2 s2 => ⟨t, _, _, _, rfl, rfl, SqT.of ht2, at1, by show 2 ≤ sizeLine; decide, fun t2 ht2 => ?_⟩⟩
      exact ks hs t2 _ ((s1.trans s2).free ht2) upd_same ((s1.trans s2).new ht2)
    | false =>
      refine ⟨_, rfl, iteF ?_⟩
      refine ⟨_, rfl, _, rfl, p, q, D, R, rfl, RoadsAt.same s1 hp, hD, s1 _ _ hq, hR, fun f H2 hf I2 s2 => ?_⟩
      obtain ⟨ts, h1, h2, h3⟩ := I2
      have t2 := s1.trans s2
      refine ⟨f, rfl, ⟨_, SqL.of h1⟩, for_list (K := K) (a := f) (xs := ts.map fun x => V.ref x.2.1) (fun i σ H' => ∃ (v2 v3 v4 v5 : Option V), σ = [some (.ref p), some (.ref q), v2, v3, v4, v5] ∧ Same H2 H' ∧ ∀ y ∈ (triedM R D).take i, failsM R y.1 y.2 = false) ⟨_, _, _, _, rfl, Same.refl _, fun y hy => absurd hy (by rw [List.take_zero]; exact List.not_mem_nil)⟩ (fun _ _ H' _ ⟨_, _, _, _, _, z, _⟩ => SqL.of (z _ _ h1)) ?_ ?_⟩
      · rintro i v σ H3 hi ⟨v2, v3, v4, v5, rfl, s3, hbef⟩
        rw [List.getElem?_map] at hi
        obtain ⟨y, hy, rfl⟩ := Option.map_eq_some_iff.mp hi
        have hym := List.mem_of_getElem? hy
        have hty : (triedM R D)[i]? = some y.1 := by rw [← h3, List.getElem?_map, hy]; rfl
        have htm := List.mem_of_getElem? hty
        obtain ⟨g1, g2, g3, g4, _⟩ := h2 y hym
        obtain ⟨can, clen⟩ := tried_can hR hD htm
        have t3 := t2.trans s3
        have g1' := g1.same s3
        obtain ⟨u1, u2, u3⟩ := hD.1
        obtain ⟨u4, u5, u6⟩ := hD.2
        have W3 : RwsR K H3 y.2.1 y.2.2.1 y.2.2.2 y.1.1 y.1.2 := ⟨SqT.of g1'.hq, SqL.of g1'.ha, SqL.of g1'.hb, by omega, by rw [← can.len]; omega, fun x hx v e => by have := can.f0 x hx v e; omega, fun x hx v e => by have := can.f1 x hx v e; omega⟩
        refine ⟨_, rfl, _, rfl, q, y.2.1, y.2.2.1, y.2.2.2, R, y.1.1, y.1.2, rfl, t3 _ _ hq, hR, W3, fun p4 l1 l2 l3 H4 np4 nl1 nl2 nl3 n12 n13 n23 hp4 hl1 hl2 hl3 s4 => ?_⟩
        refine ⟨p4, _, rfl, SqT.of hp4, rfl, _, _, rfl, _, _, rfl, _, _, rfl, rfl, ?_⟩
        have t4 := t3.trans s4
        have W4 := g1'.same s4
        -- what is told
        have tell : ∀ (H' : Hp), Same H4 H' → failsM R y.1.1 y.1.2 = true → (tTup (tCons (tIf (tTest (tOp (rNeD K) (tVar 3) (tLst tNil))) (tC (.str "lost")) (tIf (tTest (tOp (rNeD K) (tVar 4) (tLst tNil))) (tC (.str "twice")) (tC (.str "turned")))) (tCons (tVar 2) tNil))) [some (.ref p), some (.ref q), some (.ref y.2.1), some (.ref l1), some (.ref l2), some (.ref l3)] H' Q := fun H' s' hf => by
          have fin : ∀ H6, Same H4 H6 → ∀ t, H6 t = none → Q (.ref t) (upd H6 t (.tup [.str (wordM R y.1.1 y.1.2), .ref y.2.1])) := fun H6 s6 t ht => by
            have hj : judM R D = some y.1 := find_at hty hbef hf
            refine kn hs y.1 t y.2.1 y.2.2.1 y.2.2.2 _ hj htm hf ((t4.trans s6).free ht) (s1.free g2) (s1.free g3) (s1.free g4) upd_same ((W4.same s6).same (Same.upd_new ht)) ((t4.trans s6).new ht)
          unfold wordM at fin
          refine ne_nil (i := 3) rfl (s' _ _ hl1) fun H5 s5 => ⟨_, rfl, ?_⟩
          have s45 := s'.trans s5
          cases hc1 : (lostM y.1.1.length ((outM R y.1.1 y.1.2).1.map (·.2))).isEmpty with
          | false =>
            rw [if_pos hc1] at fin
            exact iteT ⟨_, rfl, by show 2 ≤ sizeLine; decide, fun t ht => fin H5 s45 t ht⟩
          | true =>
            rw [if_neg (by rw [hc1]; decide)] at fin
            refine iteF (ne_nil (i := 4) rfl (s45 _ _ hl2) fun H6 s6 => ⟨_, rfl, ?_⟩)
            cases hc2 : (twiceM ((outM R y.1.1 y.1.2).1.map (·.2))).isEmpty with
            | false =>
              rw [if_pos hc2] at fin
              exact iteT ⟨_, rfl, by show 2 ≤ sizeLine; decide, fun t ht => fin H6 (s45.trans s6) t ht⟩
            | true =>
              rw [if_neg (by rw [hc2]; decide)] at fin
              exact iteF ⟨_, rfl, by show 2 ≤ sizeLine; decide, fun t ht => fin H6 (s45.trans s6) t ht⟩
        have efail : failsM R y.1.1 y.1.2 = (!(lostM y.1.1.length ((outM R y.1.1 y.1.2).1.map (·.2))).isEmpty || (!(twiceM ((outM R y.1.1 y.1.2).1.map (·.2))).isEmpty || !(turnM ((outM R y.1.1 y.1.2).1.map (·.2))).isEmpty)) := rfl
        refine ne_nil (i := 3) rfl hl1 fun H5 s5 => ⟨_, rfl, ?_⟩
        cases hc1 : (lostM y.1.1.length ((outM R y.1.1 y.1.2).1.map (·.2))).isEmpty with
        | false => exact iteT (iteT (tell H5 s5 (by rw [efail, hc1]; rfl)))
        | true =>
          refine iteF (ne_nil (i := 4) rfl (s5 _ _ hl2) fun H6 s6 => ⟨_, rfl, ?_⟩)
          have s56 := s5.trans s6
          cases hc2 : (twiceM ((outM R y.1.1 y.1.2).1.map (·.2))).isEmpty with
          | false => exact iteT (iteT (tell H6 s56 (by rw [efail, hc1, hc2]; rfl)))
          | true =>
            refine iteF (ne_nil (i := 5) rfl (s56 _ _ hl3) fun H7 s7 => ⟨_, rfl, ?_⟩)
            have s57 := s56.trans s7
            cases hc3 : (turnM ((outM R y.1.1 y.1.2).1.map (·.2))).isEmpty with
            | false => exact iteT (tell H7 s57 (by rw [efail, hc1, hc2, hc3]; rfl))
            | true =>
              refine iteF ⟨_, _, _, _, rfl, (s3.trans s4).trans s57, fun z hz => ?_⟩
              rw [take_succ_of hty] at hz
              rcases List.mem_append.mp hz with hz | hz
              · exact hbef z hz
              · rw [List.mem_singleton.mp hz, efail, hc1, hc2, hc3]
                rfl
      · rintro σ H3 ⟨v2, v3, v4, v5, rfl, s3, hbef⟩
        exfalso
        obtain ⟨x, hx, hm, hf⟩ := judM_some hR hD hs
        have := hbef x (by
          have e : (ts.map fun x => V.ref x.2.1).length = (triedM R D).length := by rw [← h3, List.length_map, List.length_map]
          rw [e, List.take_length]
          exact hm)
        rw [hf] at this
        cases this
end
theorem iteT' {c : Bool} {A B : Prop} (hc : c = true) (h : A) : if c = true then A else B := by
  rw [hc]
  exact iteT h
theorem iteF' {c : Bool} {A B : Prop} (hc : c = false) (h : B) : if c = true then A else B := by
  rw [hc]
  exact iteF h
/-- a list comprehension that only reads: what is kept, and what is made of it -/
theorem lc_fm {α : Type} {K : PySem.W.Frag} {h D : Addr} {xs : List α} {r : α → V} {g0 : TG} {tt : TT} {te : TE} {vs : List Nat} {σ : L2.St} {H1 : Hp} {Qd : Hp → Prop} (hh : SqL K H1 h (xs.map r)) (hD : H1 D = none) (hl : xs.length ≤ 100000) (f : α → Bool) (g : α → V)
    (hs : ∀ x ∈ xs, ∀ H', Same H1 H' → ∀ (Z : V → Hp → Prop) (N : Hp → Prop), (f x = true → Z (g x) H') → (f x = false → N H') → g0 (r x) (wipe σ vs) H' fun σ2 H2 => wipe σ2 vs = wipe σ vs ∧ tt σ2 H2 fun b H3 => if b = true then te σ2 H3 Z else N H3)
    (hd : ∀ H2, Same H1 H2 → H2 D = some (.lst ((xs.filter f).map g)) → Qd H2) : LcW (Itl K h) g0 tt te vs σ H1 D Qd := by
  refine lc_list (K := K) (a := h) (xs := xs.map r) (fun j H' => Same H1 H' ∧ H' D = some (.lst (((xs.take j).filter f).map g))) ⟨Same.upd_new hD, upd_same⟩ (fun _ H' _ z => z.1.seq hh) ?_ ?_
  · rintro j y H' hj ⟨s1, h1⟩
    rw [List.getElem?_map] at hj
    obtain ⟨x, hx, rfl⟩ := Option.map_eq_some_iff.mp hj
    have hm := List.mem_of_getElem? hx
    refine hs x hm H' s1 _ _ (fun q => ?_) fun q => ?_
    · refine ⟨_, h1, Nat.lt_of_le_of_lt (m := 100000) ?_ (by decide), s1.mut hD, ?_⟩
      · have := List.length_filter_le f (xs.take j)
        rw [List.length_take] at this
        rw [List.length_map]
        omega
      · rw [upd_same, take_succ_of hx, List.filter_append, List.filter_cons_of_pos q, List.filter_nil, List.map_append]
        rfl
    · refine ⟨s1, ?_⟩
      rw [h1, take_succ_of hx, List.filter_append, List.filter_cons_of_neg (by rw [q]; decide), List.filter_nil, List.append_nil]
  · rintro H' ⟨s1, h1⟩
    rw [List.length_map, List.take_length] at h1
    exact hd H' s1 h1
/-! ### least_receiver -/
def leastR (D : Rds) : Rcv := ⟨2 * mx1 (D.hi2 - D.lo2), mx1 (D.hi2 - D.lo2), if D.hi2 - D.lo2 - 1 > 0 then D.hi2 - D.lo2 - 1 else 0⟩
def lessA (D : Rds) : Rcv := ⟨(leastR D).mks - 1, (leastR D).ah, (leastR D).wt⟩
def lessB (D : Rds) : Rcv := ⟨(leastR D).mks, (leastR D).ah - 1, (leastR D).wt⟩
def lessC (D : Rds) : Rcv := ⟨(leastR D).mks, (leastR D).ah, (leastR D).wt - 1⟩
def lessM (D : Rds) : List Rcv := (if 1 ≤ (lessA D).ah ∧ (lessA D).ah < (lessA D).mks then [lessA D] else []) ++ (if 1 ≤ (lessB D).ah ∧ (lessB D).ah < (lessB D).mks then [lessB D] else []) ++ (if (leastR D).wt > 0 then [lessC D] else [])
theorem mx1_bd {far : Int} (h0 : 0 ≤ far) (h9 : far ≤ 9) : 1 ≤ mx1 far ∧ mx1 far ≤ 9 ∧ far ≤ mx1 far := by
  unfold mx1
  split <;> omega
theorem least_ok {D : Rds} (h : D.Ok) : (leastR D).Ok ∧ isSure (leastR D) D = true := by
  obtain ⟨y0, y1, y2, y3, y4, y5, y6⟩ := Rds.bd2 h
  obtain ⟨b1, b2, b3⟩ := mx1_bd (far := D.hi2 - D.lo2) (by omega) (by omega)
  have w0 : 0 ≤ (leastR D).wt ∧ (leastR D).wt ≤ 20 ∧ (leastR D).wt ≥ D.hi2 - D.lo2 - 1 := by
    show 0 ≤ (if D.hi2 - D.lo2 - 1 > 0 then D.hi2 - D.lo2 - 1 else 0) ∧ (if D.hi2 - D.lo2 - 1 > 0 then D.hi2 - D.lo2 - 1 else 0) ≤ 20 ∧ (if D.hi2 - D.lo2 - 1 > 0 then D.hi2 - D.lo2 - 1 else 0) ≥ D.hi2 - D.lo2 - 1
    split <;> omega
  refine ⟨⟨?_, ?_, b1, ?_, w0.1, w0.2.1⟩, isSure_iff.mpr ⟨Int.le_refl _, ?_, w0.2.2⟩⟩
  · show 2 ≤ 2 * mx1 (D.hi2 - D.lo2); omega
  · show 2 * mx1 (D.hi2 - D.lo2) ≤ 32; omega
  · show mx1 (D.hi2 - D.lo2) < 2 * mx1 (D.hi2 - D.lo2); omega
  · show 2 * mx1 (D.hi2 - D.lo2) ≥ mx1 (D.hi2 - D.lo2) + mx1 (D.hi2 - D.lo2); omega
theorem lessA_ok {D : Rds} (h : D.Ok) (h1 : 1 ≤ (lessA D).ah) (h2 : (lessA D).ah < (lessA D).mks) : (lessA D).Ok ∧ isSure (lessA D) D = false := by
  have L := (least_ok h).1
  have e1 : (lessA D).mks = (leastR D).mks - 1 := rfl
  have e2 : (lessA D).ah = (leastR D).ah := rfl
  have e3 : (leastR D).mks = 2 * mx1 (D.hi2 - D.lo2) := rfl
  have e4 : (leastR D).ah = mx1 (D.hi2 - D.lo2) := rfl
  have := L.m32
  refine ⟨⟨by omega, by omega, h1, h2, L.w0, L.w20⟩, ?_⟩
  cases q : isSure (lessA D) D with
  | false => rfl
  | true =>
    obtain ⟨a, b, c⟩ := isSure_iff.mp q
    omega
theorem lessB_ok {D : Rds} (h : D.Ok) (h1 : 1 ≤ (lessB D).ah) (h2 : (lessB D).ah < (lessB D).mks) : (lessB D).Ok ∧ isSure (lessB D) D = false := by
  have L := (least_ok h).1
  have e2 : (lessB D).ah = mx1 (D.hi2 - D.lo2) - 1 := rfl
  refine ⟨⟨L.m2, L.m32, h1, h2, L.w0, L.w20⟩, ?_⟩
  cases q : isSure (lessB D) D with
  | false => rfl
  | true =>
    obtain ⟨a, b, c⟩ := isSure_iff.mp q
    omega
theorem lessC_ok {D : Rds} (h : D.Ok) (h1 : (leastR D).wt > 0) : (lessC D).Ok ∧ isSure (lessC D) D = false := by
  have L := (least_ok h).1
  have e2 : (lessC D).wt = (leastR D).wt - 1 := rfl
  have e3 : (leastR D).wt = if D.hi2 - D.lo2 - 1 > 0 then D.hi2 - D.lo2 - 1 else 0 := rfl
  have := L.w20
  refine ⟨⟨L.m2, L.m32, L.a1, L.am, by omega, by omega⟩, ?_⟩
  cases q : isSure (lessC D) D with
  | false => rfl
  | true =>
    obtain ⟨a, b, c⟩ := isSure_iff.mp q
    rw [e3] at e2 h1
    split at e2 <;> rename_i z
    · omega
    · rw [if_neg z] at h1
      omega
/-- what judged has told of a receiver that is not sure -/
def JudAt (H0 H : Hp) (pl t : Addr) (R : Rcv) (D : Rds) : Prop := ∃ (y : List Lt × List Lt) (rq a b : Addr), judM R D = some y ∧ y ∈ triedM R D ∧ failsM R y.1 y.2 = true ∧ H t = some (.tup [.str (wordM R y.1 y.2), .ref rq]) ∧ RowsAt H rq a b y.1 y.2 ∧ H0 t = none ∧ H0 rq = none ∧ H0 a = none ∧ H0 b = none ∧ a ≠ pl ∧ b ≠ pl
theorem JudAt.same {H0 H H' : Hp} {pl t : Addr} {R : Rcv} {D : Rds} (h : JudAt H0 H pl t R D) (s : Same H H') : JudAt H0 H' pl t R D := by
  obtain ⟨y, rq, a, b, h1, h2, h3, h4, h5, h6⟩ := h
  exact ⟨y, rq, a, b, h1, h2, h3, s _ _ h4, h5.same s, h6⟩
theorem JudAt.put {H0 H : Hp} {pl t : Addr} {R : Rcv} {D : Rds} {xs : List V} {o : HO} (h : JudAt H0 H pl t R D) (hp : H pl = some (.lst xs)) : JudAt H0 (upd H pl o) pl t R D := by
  obtain ⟨y, rq, a, b, h1, h2, h3, h4, h5, h6, h7, h8, h9, h10, h11⟩ := h
  exact ⟨y, rq, a, b, h1, h2, h3, by rw [upd_ne (tup_ne h4 hp)]; exact h4, ⟨by rw [upd_ne (tup_ne h5.hq hp)]; exact h5.hq, by rw [upd_ne h10]; exact h5.ha, by rw [upd_ne h11]; exact h5.hb, h5.ne⟩, h6, h7, h8, h9, h10, h11⟩
/-- the papers: (a lesser receiver, what judged tells of it) -/
def PapAt (H0 H : Hp) (pl : Addr) (D : Rds) (l : List Rcv) : Prop := ∃ ts : List (Rcv × Addr × Addr × Addr), H pl = some (.lst (ts.map fun x => V.ref x.2.1)) ∧
  (∀ x ∈ ts, H x.2.1 = some (.tup [.ref x.2.2.1, .ref x.2.2.2]) ∧ RcvAt H x.2.2.1 x.1 ∧ JudAt H0 H pl x.2.2.2 x.1 D) ∧ ts.map (·.1) = l
theorem PapAt.same {H0 H H' : Hp} {pl : Addr} {D : Rds} {l : List Rcv} (h : PapAt H0 H pl D l) (s : Same H H') : PapAt H0 H' pl D l := by
  obtain ⟨ts, h1, h2, h3⟩ := h
  refine ⟨ts, s _ _ h1, fun x hx => ?_, h3⟩
  obtain ⟨g1, g2, g3⟩ := h2 x hx
  exact ⟨s _ _ g1, s _ _ g2, g3.same s⟩
def spLeast : Sp := fun vs H Q _ => ∃ (p : Addr) (D : Rds), vs = [.ref p] ∧ RoadsAt H p D ∧ D.Ok ∧ ∀ (t rt pl : Addr) (H' : Hp), H t = none → H rt = none → H pl = none → H' t = some (.tup [.ref rt, .ref pl]) → RcvAt H' rt (leastR D) → PapAt H H' pl D (lessM D) → Same H H' → Q (.ref t) H'
section
variable {P : Program} {w : World} {K : PySem.W.Frag} {mg : Str → Option Value} {base : Heap}
theorem ok_least_receiver (T : Txt K mg) : FnOk P w K mg base CX0 7 T.f_least_receiver T.fd_least_receiver P_least_receiver spLeast := by
  refine T.F_least_receiver.ok sc_least_receiver (fun vs H Q E h => ?_) (fun cdv A outer s H vs Q E hr h => ?_)
  · obtain ⟨p, D, rfl, _⟩ := h
    rfl
  · obtain ⟨p, D, rfl, hp, hD, k⟩ := h
    refine ⟨_, ((pss_cons (ps_expr (pe_call (ok_need_roads T) (hr.mono (by decide)) (by rfl) T.mg_need_roads T.kp_need_roads T.b_need_roads .nil pass0 (pa_cons (pv 0) pa_nil)))
  (pss_cons (ps_set (i := 1) sc_least_receiver.nd rfl (Or.inl rfl) (pe_ix ix_tup (pe_call (ok_spread T) (hr.mono (by decide)) (by rfl) T.mg_spread T.kp_spread T.b_spread .nil pass0 (pa_cons (pv 0) pa_nil)) pe_int (fun _ _ => rfl)))
  (pss_cons (ps_set (i := 2) sc_least_receiver.nd rfl (Or.inl rfl) (pe_tup (pa_cons (pe_op op_mul pe_int (pe_callB (call_max2 rfl) (by rfl) T.z_max (by decide +kernel) (pa_cons pe_int (pa_cons (pv 1) pa_nil)))) (pa_cons (pe_callB (call_max2 rfl) (by rfl) T.z_max (by decide +kernel) (pa_cons pe_int (pa_cons (pv 1) pa_nil))) (pa_cons (pe_callB (call_max2 rfl) (by rfl) T.z_max (by decide +kernel) (pa_cons pe_int (pa_cons (pe_op op_sub (pv 1) pe_int) pa_nil))) pa_nil)))))
  (pss_cons (ps_set (i := 3) sc_least_receiver.nd rfl (Or.inl rfl) (pe_lst pa_nil))
  (pss_cons (ps_for PassesOwn.never rfl (pi_list (pe_lst (pa_cons (pe_tup (pa_cons (pe_op op_sub (pe_ix ix_tup (pv 2) pe_int (fun _ _ => rfl)) pe_int) (pa_cons (pe_ix ix_tup (pv 2) pe_int (fun _ _ => rfl)) (pa_cons (pe_ix ix_tup (pv 2) pe_int (fun _ _ => rfl)) pa_nil)))) (pa_cons (pe_tup (pa_cons (pe_ix ix_tup (pv 2) pe_int (fun _ _ => rfl)) (pa_cons (pe_op op_sub (pe_ix ix_tup (pv 2) pe_int (fun _ _ => rfl)) pe_int) (pa_cons (pe_ix ix_tup (pv 2) pe_int (fun _ _ => rfl)) pa_nil)))) pa_nil)))) (pg_name (i := 4) sc_least_receiver.nd rfl (Or.inl rfl))
  (pss_one (ps_if (pt_chain op_le op_lt pe_int (pe_ix ix_tup (pv 4) pe_int (fun _ _ => rfl)) (pe_ix ix_tup (pv 4) pe_int (fun _ _ => rfl))) (pss_one (ps_expr (pe_bm PySem.F.plainAttrs_list PySem.F.slot_list_append PySem.F.type_list_append mt_append (pv 3) (pa_cons (pe_tup (pa_cons (pv 4) (pa_cons (pe_call (ok_judged T) (hr.mono (by decide)) (by rfl) T.mg_judged T.kp_judged T.b_judged .nil pass0 (pa_cons (pv 0) (pa_cons (pv 4) pa_nil))) pa_nil))) pa_nil)))) pss_nil)))
  (pss_cons (ps_if (pt_cmpR op_gt (pe_ix ix_tup (pv 2) pe_int (fun _ _ => rfl)) pe_int (nomark _)) (pss_cons (ps_set (i := 4) sc_least_receiver.nd rfl (Or.inl rfl) (pe_tup (pa_cons (pe_ix ix_tup (pv 2) pe_int (fun _ _ => rfl)) (pa_cons (pe_ix ix_tup (pv 2) pe_int (fun _ _ => rfl)) (pa_cons (pe_op op_sub (pe_ix ix_tup (pv 2) pe_int (fun _ _ => rfl)) pe_int) pa_nil)))))
  (pss_one (ps_expr (pe_bm PySem.F.plainAttrs_list PySem.F.slot_list_append PySem.F.type_list_append mt_append (pv 3) (pa_cons (pe_tup (pa_cons (pv 4) (pa_cons (pe_call (ok_judged T) (hr.mono (by decide)) (by rfl) T.mg_judged T.kp_judged T.b_judged .nil pass0 (pa_cons (pv 0) (pa_cons (pv 4) pa_nil))) pa_nil))) pa_nil))))) pss_nil)
  (pss_one (ps_ret (pe_tup (pa_cons (pv 2) (pa_cons (pv 3) pa_nil)))))))))))), ?_⟩
    obtain ⟨y0, y1, y2, y3, y4, y5, y6⟩ := Rds.bd2 hD
    obtain ⟨b1, b2, b3⟩ := mx1_bd (far := D.hi2 - D.lo2) (by omega) (by omega)
    have L := (least_ok hD).1
    refine ⟨_, rfl, p, D, rfl, hp, hD, _, rfl, p, D, rfl, hp, fun t H1 ht ht1 s1 => ⟨t, _, _, _, rfl, rfl, SqT.of ht1, at2, ?_⟩⟩
    refine ⟨_, rfl, _, _, rfl, _, _, rfl, rfl, .inl ⟨by decide, by decide⟩, _, rfl, _, _, rfl, _, rfl, _, _, rfl, rfl, _, _, rfl, by show 3 ≤ sizeLine; decide, fun rt hrt => ?_⟩
    generalize hH2 : upd H1 rt _ = H2
    have hr2 : RcvAt H2 rt (leastR D) := by rw [← hH2]; exact upd_same
    have s2 : Same H H2 := by rw [← hH2]; exact s1.new hrt
    have hrtF := s1.free hrt
    refine ⟨by show 0 ≤ sizeLine; decide, fun pl hpl => ?_⟩
    have hplF := s2.free hpl
    have I3 : PapAt H (upd H2 pl (.lst [])) pl D [] := ⟨[], upd_same, fun x hx => absurd hx List.not_mem_nil, rfl⟩
    have s3 := s2.new (o := .lst []) hpl
    have hr3 : RcvAt (upd H2 pl (.lst [])) rt (leastR D) := (Same.upd_new hpl) _ _ hr2
    revert I3 s3 hr3
    generalize (upd H2 pl (.lst [])) = H3
    intro I3 s3 hr3
    -- a paper is put
    have put : ∀ (H4 : Hp) (l : List Rcv) (t4 : Addr) (Rl : Rcv) (En : Ends), Same H H4 → PapAt H H4 pl D l → l.length ≤ 10 → RcvAt H4 t4 Rl → Rl.Ok → isSure Rl D = false →
        (∀ H5, Same H H5 → PapAt H H5 pl D (l ++ [Rl]) → (∀ b xs, H4 b = some (.tup xs) → H5 b = some (.tup xs)) → (∀ b xs, b ≠ pl → H4 b = some (.lst xs) → H5 b = some (.lst xs)) → En.nx [some (.ref p), some (.int (D.hi2 - D.lo2)), some (.ref rt), some (.ref pl), some (.ref t4)] H5) →
        tDrop (tBM K "list" rAppend (tVar 3) (tCons (tTup (tCons (tVar 4) (tCons (tCall spJudged [] E0 (tCons (tVar 0) (tCons (tVar 4) tNil))) tNil))) tNil)) En [some (.ref p), some (.int (D.hi2 - D.lo2)), some (.ref rt), some (.ref pl), some (.ref t4)] H4 := fun H4 l t4 Rl En s4 I4 hl4 ht4 ok4 ns4 fin => by
      obtain ⟨ts, h1, h2, h3⟩ := I4
      have tl : ts.length = l.length := by rw [← h3, List.length_map]
      refine ⟨_, rfl, .inl ⟨rfl, _, SqL.of h1⟩, _, rfl, _, rfl, _, rfl, p, t4, D, Rl, rfl, RoadsAt.same s4 hp, hD, ht4, ok4, fun z => ?_, fun _ y t5 rq a b H5 hj htm hfl nt nrq na nb h5 W5 s5 => ?_⟩
      · rw [ns4] at z; cases z
      refine ⟨by show 2 ≤ sizeLine; decide, fun t6 ht6 => ?_⟩
      have s6 := s5.new (o := .tup [.ref t4, .ref t5]) ht6
      have hpl6 : (upd H5 t6 (.tup [.ref t4, .ref t5])) pl = some (.lst (ts.map fun x => V.ref x.2.1)) := s6 _ _ h1
      have J6 : JudAt H (upd H5 t6 (.tup [.ref t4, .ref t5])) pl t5 Rl D := ⟨y, rq, a, b, hj, htm, hfl, (Same.upd_new ht6) _ _ h5, W5.same (Same.upd_new ht6), s4.free nt, s4.free nrq, s4.free na, s4.free nb, (ne_of_none h1 na).symm, (ne_of_none h1 nb).symm⟩
      have h66 : (upd H5 t6 (.tup [.ref t4, .ref t5])) t6 = some (.tup [.ref t4, .ref t5]) := upd_same
      revert s6 hpl6 J6 h66
      generalize (upd H5 t6 (.tup [.ref t4, .ref t5])) = H6
      intro s6 hpl6 J6 h66
      refine ⟨pl, _, _, rfl, rfl, hpl6, small1000 (by rw [List.length_map]; omega), ?_⟩
      refine fin _ ((s4.trans s6).mut hplF) ⟨ts ++ [(Rl, t6, t4, t5)], by rw [upd_same, List.map_append]; rfl, fun x hx => ?_, by rw [List.map_append, h3]; rfl⟩ (fun b xs hb => by rw [upd_ne (tup_ne hb h1)]; exact s6 _ _ hb) (fun b xs nb hb => by rw [upd_ne nb]; exact s6 _ _ hb)
      rcases List.mem_append.mp hx with hx | hx
      · obtain ⟨g1, g2, g3⟩ := h2 x hx
        have g1' := s6 _ _ g1
        have g2' : RcvAt H6 x.2.2.1 x.1 := s6 _ _ g2
        exact ⟨by rw [upd_ne (tup_ne g1' hpl6)]; exact g1', by show (upd H6 pl _) x.2.2.1 = _; rw [upd_ne (tup_ne g2' hpl6)]; exact g2', (g3.same s6).put hpl6⟩
      · rw [List.mem_singleton.mp hx]
        have ht46 : RcvAt H6 t4 Rl := s6 _ _ ht4
        exact ⟨by rw [upd_ne (tup_ne h66 hpl6)]; exact h66, by show (upd H6 pl _) t4 = _; rw [upd_ne (tup_ne ht46 hpl6)]; exact ht46, J6.put hpl6⟩
    -- the two to be looked at
    refine ⟨_, rfl, rt, _, _, _, rfl, rfl, SqT.of hr3, at0, _, _, rfl, rfl, _, rfl, rt, _, _, _, rfl, rfl, SqT.of hr3, at1, _, rfl, rt, _, _, _, rfl, rfl, SqT.of hr3, at2, by show 3 ≤ sizeLine; decide, fun t1 ht1 => ?_⟩
    have sa := Same.upd_new (o := .tup [.int ((leastR D).mks - 1), .int (leastR D).ah, .int (leastR D).wt]) ht1
    have h1a : RcvAt (upd H3 t1 (.tup [.int ((leastR D).mks - 1), .int (leastR D).ah, .int (leastR D).wt])) t1 (lessA D) := upd_same
    have hra : RcvAt (upd H3 t1 (.tup [.int ((leastR D).mks - 1), .int (leastR D).ah, .int (leastR D).wt])) rt (leastR D) := sa _ _ hr3
    revert sa h1a hra
    generalize (upd H3 t1 (.tup [.int ((leastR D).mks - 1), .int (leastR D).ah, .int (leastR D).wt])) = Ha
    intro sa h1a hra
    refine ⟨_, rfl, rt, _, _, _, rfl, rfl, SqT.of hra, at0, _, rfl, rt, _, _, _, rfl, rfl, SqT.of hra, at1, _, _, rfl, rfl, _, rfl, rt, _, _, _, rfl, rfl, SqT.of hra, at2, by show 3 ≤ sizeLine; decide, fun t2 ht2 => ?_⟩
    have sb := Same.upd_new (o := .tup [.int (leastR D).mks, .int ((leastR D).ah - 1), .int (leastR D).wt]) ht2
    have h2b : RcvAt (upd Ha t2 (.tup [.int (leastR D).mks, .int ((leastR D).ah - 1), .int (leastR D).wt])) t2 (lessB D) := upd_same
    have h1b : RcvAt (upd Ha t2 (.tup [.int (leastR D).mks, .int ((leastR D).ah - 1), .int (leastR D).wt])) t1 (lessA D) := sb _ _ h1a
    revert sb h1b h2b
    generalize (upd Ha t2 (.tup [.int (leastR D).mks, .int ((leastR D).ah - 1), .int (leastR D).wt])) = Hb
    intro sb h2b h1b
    refine ⟨by show 2 ≤ sizeLine; decide, fun l hl => ?_⟩
    have sc := Same.upd_new (o := .lst [.ref t1, .ref t2]) hl
    have hlc : (upd Hb l (.lst [.ref t1, .ref t2])) l = some (.lst [.ref t1, .ref t2]) := upd_same
    have sac := (sa.trans sb).trans sc
    have I4 := I3.same sac
    have s4 := s3.trans sac
    have h1c : RcvAt (upd Hb l (.lst [.ref t1, .ref t2])) t1 (lessA D) := sc _ _ h1b
    have h2c : RcvAt (upd Hb l (.lst [.ref t1, .ref t2])) t2 (lessB D) := sc _ _ h2b
    have hrc : RcvAt (upd Hb l (.lst [.ref t1, .ref t2])) rt (leastR D) := sac _ _ hr3
    have lpl : l ≠ pl := by
      obtain ⟨ts, z, _⟩ := I3
      exact (ne_of_none ((sa.trans sb) _ _ z) hl).symm
    revert hlc I4 s4 h1c h2c hrc
    generalize (upd Hb l (.lst [.ref t1, .ref t2])) = H4
    intro hlc I4 s4 h1c h2c hrc
    let pre : Nat → List Rcv := fun i => (if 0 < i then (if 1 ≤ (lessA D).ah ∧ (lessA D).ah < (lessA D).mks then [lessA D] else []) else []) ++ (if 1 < i then (if 1 ≤ (lessB D).ah ∧ (lessB D).ah < (lessB D).mks then [lessB D] else []) else [])
    have prelen : ∀ i, (pre i).length ≤ 2 := fun i => by
      show ((if 0 < i then (if 1 ≤ (lessA D).ah ∧ (lessA D).ah < (lessA D).mks then [lessA D] else []) else []) ++ (if 1 < i then (if 1 ≤ (lessB D).ah ∧ (lessB D).ah < (lessB D).mks then [lessB D] else []) else [])).length ≤ 2
      rw [List.length_append]
      (repeat' split) <;> simp
    refine ⟨l, rfl, ⟨_, SqL.of hlc⟩, for_list (K := K) (a := l) (xs := [.ref t1, .ref t2]) (fun i σ H' => ∃ v4 : Option V, σ = [some (.ref p), some (.int (D.hi2 - D.lo2)), some (.ref rt), some (.ref pl), v4] ∧ Same H H' ∧ PapAt H H' pl D (pre i) ∧ H' l = some (.lst [.ref t1, .ref t2]) ∧ RcvAt H' t1 (lessA D) ∧ RcvAt H' t2 (lessB D) ∧ RcvAt H' rt (leastR D))
      ⟨none, rfl, s4, I4, hlc, h1c, h2c, hrc⟩ (fun _ _ H' _ ⟨_, _, _, _, z, _⟩ => SqL.of z) ?_ ?_⟩
    · rintro i v σ H5 hi ⟨v4, rfl, s5, I5, hl5, h15, h25, hr5⟩
      have hi2 : i < 2 := (List.getElem?_eq_some_iff.mp hi).1
      have pick : ∃ (t5 : Addr) (Rl : Rcv), v = .ref t5 ∧ RcvAt H5 t5 Rl ∧ pre (i + 1) = pre i ++ (if 1 ≤ Rl.ah ∧ Rl.ah < Rl.mks then [Rl] else []) ∧ (1 ≤ Rl.ah → Rl.ah < Rl.mks → Rl.Ok ∧ isSure Rl D = false) := by
        have hi' : i = 0 ∨ i = 1 := by omega
        rcases hi' with rfl | rfl
        · cases hi
          exact ⟨t1, lessA D, rfl, h15, by show (if 1 ≤ (lessA D).ah ∧ (lessA D).ah < (lessA D).mks then [lessA D] else []) ++ [] = [] ++ _; rw [List.append_nil, List.nil_append], lessA_ok hD⟩
        · cases hi
          exact ⟨t2, lessB D, rfl, h25, by show _ ++ _ = (_ ++ []) ++ _; rw [List.append_nil]; rfl, lessB_ok hD⟩
      obtain ⟨t5, Rl, rfl, ht5, hpre, hok⟩ := pick
      refine ⟨_, rfl, t5, _, _, _, rfl, rfl, SqT.of ht5, at1, _, _, rfl, rfl, _, rfl, ?_⟩
      rw [hpre]
      by_cases c1 : (1 : Int) ≤ Rl.ah
      · refine iteD c1 ⟨_, rfl, t5, _, _, _, rfl, rfl, SqT.of ht5, at0, _, _, rfl, rfl, _, rfl, ?_⟩
        by_cases c2 : Rl.ah < Rl.mks
        · rw [if_pos ⟨c1, c2⟩]
          obtain ⟨ok5, ns5⟩ := hok c1 c2
          refine iteD c2 (put H5 (pre i) t5 Rl _ s5 I5 (by have := prelen i; omega) ht5 ok5 ns5 fun H6 s6 I6 kt kl => ?_)
          exact ⟨_, rfl, s6, I6, kl _ _ lpl hl5, kt _ _ h15, kt _ _ h25, kt _ _ hr5⟩
        · have e0 : (if 1 ≤ Rl.ah ∧ Rl.ah < Rl.mks then [Rl] else []) = ([] : List Rcv) := if_neg fun z => c2 z.2
          rw [e0, List.append_nil]
          exact iteND c2 ⟨_, rfl, s5, I5, hl5, h15, h25, hr5⟩
      · have e0 : (if 1 ≤ Rl.ah ∧ Rl.ah < Rl.mks then [Rl] else []) = ([] : List Rcv) := if_neg fun z => c1 z.1
        rw [e0, List.append_nil]
        exact iteND c1 ⟨_, rfl, iteF ⟨_, rfl, s5, I5, hl5, h15, h25, hr5⟩⟩
    · rintro σ H5 ⟨v4, rfl, s5, I5, hl5, h15, h25, hr5⟩
      have epre : pre ([.ref t1, .ref t2] : List V).length ++ (if (leastR D).wt > 0 then [lessC D] else []) = lessM D := rfl
      have fin : ∀ (H6 : Hp) (v : Option V), Same H H6 → RcvAt H6 rt (leastR D) → PapAt H H6 pl D (lessM D) → (tRet (tTup (tCons (tVar 2) (tCons (tVar 3) tNil)))) { nx := fun _ H' => Q .non H', rt := Q } [some (.ref p), some (.int (D.hi2 - D.lo2)), some (.ref rt), some (.ref pl), v] H6 := fun H6 v s6 hr6 I6 => by
        refine ⟨_, rfl, _, rfl, by show 2 ≤ sizeLine; decide, fun t7 ht7 => ?_⟩
        exact k t7 rt pl _ (s6.free ht7) hrtF hplF upd_same ((Same.upd_new ht7) _ _ hr6) (I6.same (Same.upd_new ht7)) (s6.new ht7)
      refine ⟨_, rfl, rt, _, _, _, rfl, rfl, SqT.of hr5, at2, _, _, rfl, rfl, _, rfl, ?_⟩
      by_cases c : (0 : Int) < (leastR D).wt
      · rw [if_pos c] at epre
        refine iteD c ⟨_, rfl, rt, _, _, _, rfl, rfl, SqT.of hr5, at0, _, rfl, rt, _, _, _, rfl, rfl, SqT.of hr5, at1, _, rfl, rt, _, _, _, rfl, rfl, SqT.of hr5, at2, _, _, rfl, rfl, by show 3 ≤ sizeLine; decide, fun t6 ht6 => ?_⟩
        have s6 := Same.upd_new (o := .tup [.int (leastR D).mks, .int (leastR D).ah, .int ((leastR D).wt - 1)]) ht6
        obtain ⟨ok6, ns6⟩ := lessC_ok hD c
        refine put _ (pre 2) t6 (lessC D) _ (s5.trans s6) (I5.same s6) (by have := prelen 2; omega) upd_same ok6 ns6 fun H7 s7 I7 kt kl => ?_
        exact fin H7 _ s7 (kt _ _ (s6 _ _ hr5)) (epre ▸ I7)
      · rw [if_neg c, List.append_nil] at epre
        exact iteND c (fin H5 _ s5 hr5 (epre ▸ I5))
end
end Tp
/-! ### kinds.count(True) -/
namespace L2
open PySem PySem.Spec PyProof.Rows
def isBV : Value → Bool
  | .bool b => b
  | _ => false
def rCntB (K : PySem.W.Frag) : V → List V → Hp → VK → Prop := fun x xs H Q => ∃ (p : Addr) (R : List Bool), x = .ref p ∧ xs = [.bl true] ∧ SqL K H p (R.map V.bl) ∧ Q (.int (R.countP id : Nat)) H
theorem cntB_vals : ∀ {us : List Value} {R : List Bool}, Vals (R.map V.bl) us → us.countP isBV = R.countP id ∧ ∀ (A : Around) (s : Shared), ∀ y ∈ us, SeqAt.EqAt A s y (.bool true) (isBV y)
  | [], [], _ => ⟨rfl, fun _ _ y h => absurd h List.not_mem_nil⟩
  | u :: us, x :: R, h => by
    cases h with
    | cons h1 h2 =>
      obtain ⟨i1, i2⟩ := cntB_vals h2
      obtain rfl : u = Value.bool x := h1
      refine ⟨by rw [List.countP_cons, List.countP_cons, i1]; cases x <;> rfl, fun A s y hy => ?_⟩
      rcases List.mem_cons.mp hy with rfl | hy
      · cases x
        · exact SeqAt.EqAt.bool_bool false true
        · exact SeqAt.EqAt.bool_bool true true
      · exact i2 A s y hy
theorem mt_countB {X : Cx} : MtR X "list.count" (rCntB X.K) := by
  intro pins s σ H x xs v us Q I rx rxs h
  obtain ⟨p, R, rfl, rfl, hs, q⟩ := h
  cases rx
  obtain ⟨u, rfl, ru⟩ := rxs.one
  obtain rfl : u = Value.bool true := ru
  obtain ⟨its, rv, ⟨⟨cls, dd, data, sl⟩, n, ho, hc, hdn, hd⟩, hlen⟩ := I.list hs
  simp only at hc hd
  subst hc hd
  obtain ⟨c1, c2⟩ := cntB_vals rv
  refine call_meets PySem.F.slot_list_count ⟨_, ho, rfl⟩ PySem.F.entry_list_count (PySem.F.args_list_count_2 _ _)
    (SeqAt.list_countAt p its.toArray n dd sl (.bool true) isBV) ⟨ho, fun y hy => c2 _ _ y (by simpa using hy), .int (R.countP id : Nat), H, I.tok _, ⟨s.toks, ?_⟩, q⟩
  show Value.int ((its.countP isBV : Nat) : Int) s.toks = _
  rw [c1]
end L2
namespace Tp
open PySem L2
end Tp
/-! ### Own.__init__(self, ..), Own a class of the program over ValueError without an own __init__ -/
namespace L2
open PySem PySem.Spec PyProof.Rows
section
variable {X : Cx} {e : Expr} {es : List Expr} {ta : TA} {p1 p2 pos : Pos}
theorem pe_oinit {pl : Sem Bool} {nm : Str} {C0 : Addr} {mc : Value} (hg : Gl X nm) (hm : X.mg nm = some (.ref C0)) (h1 : PySem.W.specialIn X.K (.ref C0) "__getattribute__" = some (some (.builtin "type.__getattribute__"))) (h2 : PySem.W.readsIn X.K C0 mc = true)
    (vV : PySem.W.findCls X.K (.ref C0) mc "__init__" = some (.val (.builtin "ValueError.__init__"))) (ha : PA X (e :: es) ta)
    (hc : eval (.Call (.Attribute (.Name nm p1) "__init__" p2) (e :: es) [] pos) X.env = (do
      let ov ← eval (.Name nm p1) X.env
      standAt p2.atName
      let (f, first) ← holding [ov] (getMethod ov "__init__" pl)
      callWith pos f first (backTo pos (starEach (e :: es) X.env)) (backToKw pos (keywordEach [] X.env))) := by rfl)
    (hdb : (nm == ("__debug__" : Str)) = false := by decide)
    (he : starEach (e :: es) X.env = (false, eval e X.env) :: starEach es X.env := by rfl) (hpl : (backTo pos (starEach es X.env)).any (·.1) = false := by rfl) :
    PE X (.Call (.Attribute (.Name nm p1) "__init__" p2) (e :: es) [] pos) (tVeI X.K ta) := by
  refine ⟨fun pins s σ H Q I h => ?_⟩
  refine PySem.W.methodCall_KW (ld_glob I hg hm ?_ hdb) hc
  refine PySem.W.method_cls I.kIn h1 (PySem.W.cls_value I.kIn h2 vV (by decide +kernel) ?_)
  show wpAny _ _ (callWith pos (Value.builtin "ValueError.__init__") [] (backTo pos (starEach (e :: es) X.env)) []) _ _ _
  refine PyProof.Rows.callWith_method1 (thn (ha.run pos pins _ σ H _ (I.tok _) h) fun us s1 ⟨vs, H1, I1, r1, a, C, ws, ev, hl, T, ea, q⟩ => ?_) he hpl
  subst ev
  cases r1 with
  | @cons _ u0 _ ur ra rw' =>
    obtain rfl : u0 = Value.ref a := ra
    have hlen : ur.length ≤ sizeLine := by
      rw [← Paired.length rw', sizeLine_eq]
      omega
    exact oinit_ok T I1 ea hlen fun s' J => ⟨.non, H1, J, rfl, q⟩
end
end L2
namespace Tp
open PySem L2
end Tp
/-! ### isinstance of a caught error that has a dict -/
namespace L2
open PySem PySem.Spec PyProof.Rows
def rIsX (K : PySem.W.Frag) (D a dd : Addr) : List V → Hp → VK → Prop := fun xs H Q => ∃ (c : V) (cv : Value) (b : Bool) (fs : List (Str × V)), xs = [.ref a, c] ∧ (∀ u, RelV c u → u = cv) ∧ H dd = some (.xd fs) ∧ PySem.W.kitOne K (.ref D) cv = some b ∧ Q (.bl b) H
def rIsXT (K : PySem.W.Frag) (D a dd : Addr) : List V → Hp → VK → Prop := fun xs H Q => ∃ (t : Addr) (Cs : List Addr) (b : Bool) (fs : List (Str × V)), xs = [.ref a, .ref t] ∧ H t = some (.tup (Cs.map V.ref)) ∧ H dd = some (.xd fs) ∧ PySem.W.kitAny K (.ref D) (Cs.map Value.ref) = some b ∧ Q (.bl b) H
theorem refs_vals : ∀ {Cs : List Addr} {us : List Value}, Vals (Cs.map V.ref) us → us = Cs.map Value.ref
  | [], _, .nil => rfl
  | c :: Cs, _, .cons r h => by
    cases r
    rw [refs_vals h]
    rfl
section
variable {X : Cx} {a D dd : Addr} {oe : Obj} {pn : List (Addr × Obj)}
theorem kit_caught (C : ExcC X.K D) {ox : Obj} {od : Option Obj} : PySem.W.KitX X.K (.ref a) (.ref D) (fun h => PySem.W.InstAt h a ox D od) :=
  PySem.W.kitx_exc (by obtain ⟨cd, hc, _⟩ := PySem.W.any_some C.hd; rw [hc]; rfl) C.hg C.hk C.hs C.ha C.hn C.ht C.hm
theorem caught_at {pins : List (Addr × Obj)} {σ : St} {H : Hp} {s : Shared} {fs : List (Str × V)} (I : Inv (X.suite a ((a, oe) :: pn)) pins σ H s) (hz : Zc (.ref D) (some dd) oe) (hf : ∃ vs, oe.data = .fields vs) (hd : H dd = some (.xd fs)) : ∃ od, PySem.W.InstAt s.heap a oe D (some od) := by
  obtain ⟨ga, _⟩ := I.pin (a, oe) (List.mem_append.mpr (.inl List.mem_cons_self))
  obtain ⟨vs, hv⟩ := hf
  have hx : ObjOk X.prog X.w H s.heap dd (.xd fs) := I.hok dd _ hd
  obtain ⟨mA, hns, _⟩ := hx
  obtain ⟨od, ho, _⟩ := lookIn_ns hns
  exact ⟨od, ga, hz.1, by unfold PySem.W.notCls; rw [hv] <;> rfl, by rw [hz.2]; exact ho⟩
theorem call_isX (C : ExcC X.K D) (hz : Zc (.ref D) (some dd) oe) (hf : ∃ vs, oe.data = .fields vs) : CallR (X.suite a ((a, oe) :: pn)) (.builtin "isinstance") (rIsX X.K D a dd) := by
  intro pins s σ H xs us Q I r h
  obtain ⟨c, cv, b, fs, rfl, hcv, hd, e, q⟩ := h
  obtain ⟨od, J⟩ := caught_at I hz hf hd
  match us, r with
  | _, .cons r1 (.cons r2 .nil) =>
    cases r1
    obtain rfl := hcv _ r2
    exact PySem.W.kia_one (kit_caught C) I.kIn J e (fun z => nomatch z) fun tk => ⟨.bl b, H, I.kept (t' := tk) fun _ _ z => z, rfl, q⟩
theorem call_isXT (C : ExcC X.K D) (hz : Zc (.ref D) (some dd) oe) (hf : ∃ vs, oe.data = .fields vs) : CallR (X.suite a ((a, oe) :: pn)) (.builtin "isinstance") (rIsXT X.K D a dd) := by
  intro pins s σ H xs us Q I r h
  obtain ⟨t, Cs, b, fs, rfl, ht, hd, e, q⟩ := h
  obtain ⟨od, J⟩ := caught_at I hz hf hd
  match us, r with
  | _, .cons r1 (.cons r2 .nil) =>
    cases r1
    cases r2
    have hT : ObjOk X.prog X.w H s.heap t (.tup (Cs.map V.ref)) := I.hok t _ ht
    obtain ⟨_, its, rv, o, h1, h2, n, h3⟩ := hT
    obtain rfl := refs_vals rv
    obtain ⟨oc, od', dt, sl⟩ := o
    dsimp only at h2 h3
    subst h2 h3
    exact PySem.W.kia_tup (kit_caught C) I.kIn J h1 e (fun z => nomatch z) fun tk => ⟨.bl b, H, I.kept (t' := tk) fun _ _ z => z, rfl, q⟩
end
end L2
namespace Tp
open PySem L2
/-- the handler's block, whatever is caught -/
def tsX (X : Cx) (body : List Stmt) : Addr → Value → Option Addr → TS := fun a cls d D σ H => ∀ (oe : Obj) (pn : List (Addr × Obj)), Zc cls d oe → (∃ vs, oe.data = .fields vs) → ∃ t : TS, PSs (X.suite a ((a, oe) :: pn)) body t ∧ (σ.length = X.N.length → t D σ H)
theorem ps_tryX {X : Cx} {x n : Str} {np pos pos' : Pos} {body suite : List Stmt} {b₀ : Stmt} {c : Value} {i : Nat} {tb : WX → TS} (hs : X.stack = X.env :: X.outer) (hf : X.env.frame = some X.env.locals) (hN : X.N.Nodup) (hi : X.N[i]? = some n) (hln : X.env.kindOf n = some .local) (hc : Names X x c)
    (hb : ∀ (W : WX) (pn : List (Addr × Obj)) (xe : Value → Shared → Prop), Takes (X.tr pn xe) W → PassesOwn (model X.prog X.w) X.A X.env xe → PSs (X.tr pn xe) body (tb W)) :
    PS X (.Try body [.ExceptHandler (some (.Name x np)) (some n) (b₀ :: suite) pos'] [] [] pos) (fun D σ H => tb (wAs X.K c i (tsX X (b₀ :: suite)) (fun _ _ _ _ => False) D) D σ H) :=
  ps_try_as hs hf hN hi hln hc L2.takes0 hb fun a oe cls d pn hz hf => ⟨fun pins s σ H D I h => by
    obtain ⟨t, ht, h⟩ := h oe pn hz hf
    exact ht.run pins s σ H D I (h I.len)⟩
end Tp
/-! ### lambdas that are kept: their objects and their cells are told in the heap -/
namespace L2
open PySem PySem.Spec PyProof.Rows
/-- at f: the function that a lambda made -/
def LamO (f : Addr) (q : Str) (p : Arguments) (b : Expr) (sc : Scope) (cl : List (Str × Addr)) (c' : Addr) : HO := .ext fun h => ∃ pm ctv : Value, h.get? f = some (PySem.W.kla_obj "<lambda>" q p b sc cl pm c' ctv)
/-- at c: a cell of a def that has ended; it holds v -/
def CelO (c : Addr) (v : V) : HO := .ext fun h => ∃ u : Value, h.IsCell c (some u) ∧ RelV v u
theorem LamO.tup {f : Addr} {q : Str} {p : Arguments} {b : Expr} {sc : Scope} {cl : List (Str × Addr)} {c' : Addr} {xs : List V} : LamO f q p b sc cl c' ≠ .tup xs := fun z => by
  have z' : HO.ext _ = HO.tup xs := z
  cases z'
theorem CelO.own {c x : Addr} {v : V} : CelO c v ≠ .own x := fun z => by
  have z' : HO.ext _ = HO.own x := z
  cases z'
theorem CelO.tup {c : Addr} {v : V} {xs : List V} : CelO c v ≠ .tup xs := fun z => by
  have z' : HO.ext _ = HO.tup xs := z
  cases z'
theorem CelO.frz {c : Addr} {v : V} {o : Obj} {u : HO} : CelO c v ≠ .frz o u := fun z => by
  have z' : HO.ext _ = HO.frz o u := z
  cases z'
theorem CelO.tbl {c : Addr} {v : V} {ps : Array Value} : CelO c v ≠ .tbl ps := fun z => by
  have z' : HO.ext _ = HO.tbl ps := z
  cases z'
theorem celO_ok {P : Program} {w : World} {H : Hp} {h : Heap} {c : Addr} {v : V} {u : Value} (hc : h.IsCell c (some u)) (r : RelV v u) : ObjOk P w H h c (CelO c v) := by
  obtain ⟨o, e, d⟩ := hc
  refine ⟨⟨u, ⟨o, e, d⟩, r⟩, ⟨o, e⟩, fun h1 h2 ⟨u', ⟨o', e', d'⟩, r'⟩ k => ⟨u', ⟨o', k _ e', d'⟩, r'⟩⟩
theorem lamO_ok {P : Program} {w : World} {H : Hp} {h : Heap} {f : Addr} {q : Str} {p : Arguments} {b : Expr} {sc : Scope} {cl : List (Str × Addr)} {c' : Addr} {pm ctv : Value} (e : h.get? f = some (PySem.W.kla_obj "<lambda>" q p b sc cl pm c' ctv)) : ObjOk P w H h f (LamO f q p b sc cl c') :=
  ⟨⟨pm, ctv, e⟩, ⟨_, e⟩, fun h1 h2 ⟨pm', ctv', e'⟩ k => ⟨pm', ctv', k _ e'⟩⟩
def tLamN (T : List (Addr × Str)) (q : Str) (p : Arguments) (b : Expr) (sc : Scope) (cells : List (Str × Addr)) : TE := fun _ H Q => LamX.Tabs T H ∧ ∀ (f c' : Addr) (H1 : Hp), LamX.ExtN H H1 → LamX.Tabs T H1 → H f = none → H1 f = some (LamO f q p b sc (cloFrom cells sc.names []) c') → H1 c' = some (LamX.CodeO c' q) → Q (.ref f) H1
section
variable {X : Cx}
/-- a lambda is made, to be kept -/
theorem pe_lamN {T : List (Addr × Str)} {c P : Addr} {params : Arguments} {body : Expr} {scope : Scope} {pos : Pos} {q0 : Str} (hq : X.env.qual = q0) (TB : LamX.TabB X.base X.mg c P) (hcode : X.env.code = .ref c) (hm : (P, q0 ++ ("<lambda>" : Str)) ∈ T) (hu : ∀ p ∈ T, p.1 = P → p.2 = q0 ++ ("<lambda>" : Str))
    (hdef : defaultsOf params X.env = ([], [])) (hfr : ∀ y ∈ scope.names, y.2 = .free → ∃ c, X.env.cells.lookup y.1 = some c) : PE X (.Lambda params body scope pos) (tLamN T (q0 ++ ("<lambda>" : Str)) params body scope X.env.cells) := by
  subst hq
  refine ⟨fun pins s σ H Q I h => ?_⟩
  obtain ⟨hT, h⟩ := h
  obtain ⟨ps, gP, tri, am⟩ := hT _ hm
  have oP : s.heap.get? P = some { cls := .none, data := .fields ps } := I.hok P _ gP
  have bi : s.heap.BuiltinsAt X.mg P := TB.bm.keeps I.bk
  refine PySem.W.kla_eval hdef ?_
  -- the end: the function is laid at the place f
  have fin : ∀ (f c' : Addr) (pm ctv : Value) (H1 : Hp) (hp : Heap) (tk : Nat), Inv X pins σ H1 { s with heap := hp, toks := tk } → LamX.ExtN H H1 → LamX.Tabs T H1 → hp.objs.size = f → s.heap.objs.size ≤ hp.objs.size → H1 c' = some (LamX.CodeO c' (X.env.qual ++ ("<lambda>" : Str))) →
      EP X pins σ Q (.ref f) { s with heap := hp.push (PySem.W.kla_obj "<lambda>" (X.env.qual ++ ("<lambda>" : Str)) params body scope (cloFrom X.env.cells scope.names []) pm c' ctv), toks := tk } := by
    rintro f c' pm ctv H1 hp tk I1 eN T1 rfl le hc
    have nf : H1 hp.objs.size = none := I1.hok.fresh (Nat.le_refl _)
    have nfH : H hp.objs.size = none := I.hok.fresh le
    have gf : (hp.push (PySem.W.kla_obj "<lambda>" (X.env.qual ++ ("<lambda>" : Str)) params body scope (cloFrom X.env.cells scope.names []) pm c' ctv)).get? hp.objs.size = some (PySem.W.kla_obj "<lambda>" (X.env.qual ++ ("<lambda>" : Str)) params body scope (cloFrom X.env.cells scope.names []) pm c' ctv) := Heap.get?_push_size _ rfl
    have J := I1.laid (t' := tk) (o := LamO hp.objs.size (X.env.qual ++ ("<lambda>" : Str)) params body scope (cloFrom X.env.cells scope.names []) c') (fun b o e => Heap.get?_push_of_some _ e) (Nat.le_refl _) (lamO_ok gf)
    refine ⟨.ref hp.objs.size, _, J, rfl, h _ c' _ (fun b o e n => ?_) (T1.ext fun b o e => by rw [upd_ne (ne_of_none e nf)]; exact e) nfH upd_same (by rw [upd_ne (ne_of_none hc nf)]; exact hc)⟩
    have e1 := eN b o e n
    rw [upd_ne (ne_of_none e1 nf)]
    exact e1
  cases hc : codeAmong pos ps.toList with
  | none =>
    refine PySem.W.kla_makeFunction (mg := X.mg) (c := c) (P := P) (ps := ps) (closure_ok hfr) I.ok.glob (I.mod.glob.keeps I.bk) hcode (TB.code.keeps I.bk) oP tri hc TB.gP bi fun c' ctv h' tk hx ge lt rec tb => ?_
    obtain ⟨c2, oc, vs, t, e2, goc, doc, vq⟩ := rec
    cases e2
    have nC : H c' = none := I.hok.fresh ge
    have J := LamX.inv_table (t' := tk) (more := #[rawInt pos.line, rawInt pos.col, .ref c']) (h' := h') (q := X.env.qual ++ ("<lambda>" : Str)) I gP (fun b o n e => hx b o n e) tb ge ⟨oc, vs, t, goc, doc, vq⟩
    have eE : LamX.ExtN H (upd (upd H P (.tbl (ps ++ #[rawInt pos.line, rawInt pos.col, .ref c']))) c' (LamX.CodeO c' (X.env.qual ++ ("<lambda>" : Str)))) := fun b o e n => by
      have bP : b ≠ P := fun z => by
        rw [z, gP] at e
        exact n ps (Option.some.inj e).symm
      rw [upd_ne (ne_of_none e nC), upd_ne bP]
      exact e
    refine fin _ c' _ ctv _ h' tk J eE (fun p hp => ?_) rfl (Nat.le_trans ge (Nat.le_of_lt lt)) upd_same
    by_cases hb : p.1 = P
    · rw [hu p hp hb, hb]
      have eL : (ps ++ #[rawInt pos.line, rawInt pos.col, .ref c']).toList = ps.toList ++ [rawInt pos.line, rawInt pos.col, .ref c'] := by simp
      refine ⟨_, (upd_ne (ne_of_none gP nC)).trans upd_same, by rw [eL]; exact PySem.TriplesOk_snoc _ _ _ _ tri, fun p' cv hcv => ?_⟩
      rw [eL] at hcv
      rcases LamX.among_app _ tri hcv with z | z
      · obtain ⟨c0, w1, w2⟩ := am p' cv z
        exact ⟨c0, w1, eE _ _ w2 LamX.codeO_ne⟩
      · exact ⟨c', z, upd_same⟩
    · obtain ⟨ps', a1, a2, a3⟩ := hT p hp
      refine ⟨ps', (upd_ne (ne_of_none a1 nC)).trans ((upd_ne hb).trans a1), a2, fun p' cv hcv => ?_⟩
      obtain ⟨c0, w1, w2⟩ := a3 p' cv hcv
      exact ⟨c0, w1, eE _ _ w2 LamX.codeO_ne⟩
  | some cv =>
    obtain ⟨c', e, hco⟩ := am pos cv hc
    subst e
    refine PySem.W.kla_makeFunctionHit (mg := X.mg) (c := c) (P := P) (ps := ps) (closure_ok hfr) I.ok.glob (I.mod.glob.keeps I.bk) hcode (TB.code.keeps I.bk) oP tri hc bi fun ctv h' tk hx le => ?_
    exact fin _ c' _ ctv H h' tk (I.kept hx) (LamX.ExtN.refl H) hT rfl le hco
end
end L2
namespace Tp
open PySem L2
end Tp
/-! ### a kept lambda is called -/
namespace L2
open PySem PySem.Spec PyProof.Rows
def offC (H : Hp) (cs : List Addr) : Hp := fun b => if b ∈ cs then none else H b
def backC (H : Hp) (cs : List Addr) (H' : Hp) : Hp := fun b => if b ∈ cs then H b else H' b
def Cels (H : Hp) (cs : List Addr) : Prop := ∀ b ∈ cs, ∃ v, H b = some (CelO b v)
section
variable {P : Program} {w : World} {H H' : Hp} {h h' B : Heap} {cs fs : List Addr} {b : Addr} {o : HO}
theorem off_in (hb : b ∈ cs) : offC H cs b = none := if_pos hb
theorem off_out (hb : b ∉ cs) : offC H cs b = H b := if_neg hb
theorem back_in (hb : b ∈ cs) : backC H cs H' b = H b := if_pos hb
theorem back_out (hb : b ∉ cs) : backC H cs H' b = H' b := if_neg hb
theorem off_some (e : offC H cs b = some o) : b ∉ cs ∧ H b = some o := by
  by_cases c : b ∈ cs
  · rw [off_in c] at e
    cases e
  · rw [off_out c] at e
    exact ⟨c, e⟩
theorem Cels.out (C : Cels H cs) (e : H b = some o) (n : ∀ v, o ≠ CelO b v) : b ∉ cs := fun z => by
  obtain ⟨v, e'⟩ := C b z
  rw [e] at e'
  cases e'
  exact n v rfl
theorem hok_off (x : HOk P w H h) (C : Cels H cs) : HOk P w (offC H cs) h := fun b o e => by
  obtain ⟨_, e1⟩ := off_some e
  refine (x b o e1).stay (fun _ _ _ z => z) (fun c z => ?_) fun c xs z => ?_
  · rw [off_out (C.out z fun v y => CelO.own y.symm)]
    exact z
  · rw [off_out (C.out z fun v y => CelO.tup y.symm)]
    exact z
/-- the cells are told again -/
theorem hok_back (C : Cels H cs) (n : ∀ b ∈ cs, H' b = none) (x : HOk P w H' h') (k : ∀ c ∈ cs, ∀ v, H c = some (CelO c v) → ObjOk P w (backC H cs H') h' c (CelO c v)) : HOk P w (backC H cs H') h' := fun b o e => by
  by_cases c : b ∈ cs
  · rw [back_in c] at e
    obtain ⟨v, e'⟩ := C b c
    rw [e] at e'
    cases e'
    exact k b c v e
  · rw [back_out c] at e
    have nc : ∀ {d : Addr} {u : HO}, H' d = some u → d ∉ cs := fun {d u} z y => by rw [n d y] at z; cases z
    exact (x b o e).stay (fun _ _ _ z => z) (fun d z => by rw [back_out (nc z)]; exact z) fun d xs z => by rw [back_out (nc z)]; exact z
theorem cel_at (x : HOk P w H h) {v : V} (e : H b = some (CelO b v)) : ∃ u, h.IsCell b (some u) ∧ RelV v u := by
  obtain ⟨⟨u, hc, r⟩, _⟩ := x b _ e
  exact ⟨u, hc, r⟩
theorem un_back (C : Cels H cs) (x : HOk P w H h) (nf : ∀ b ∈ fs, H b = none) (u : Un fs [] (offC H cs) H' h h') (x' : HOk P w H' h') : Un fs [] H (backC H cs H') h h' ∧ HOk P w (backC H cs H') h' := by
  have nfs : ∀ b ∈ cs, b ∉ fs := fun b hb z => by
    obtain ⟨v, e⟩ := C b hb
    rw [nf b z] at e
    cases e
  have ne : ∀ {b : Addr}, b ∉ ([] : List Addr) := fun {b} z => nomatch z
  have nb : ∀ {b : Addr}, H b = none → b ∉ cs := fun {b} e z => by
    obtain ⟨v, e'⟩ := C b z
    rw [e] at e'
    cases e'
  have old : ∀ b ∈ cs, ∃ o, h.get? b = some o := fun b hb => by
    obtain ⟨v, e⟩ := C b hb
    obtain ⟨u, ⟨o, g, _⟩, _⟩ := cel_at x e
    exact ⟨o, g⟩
  have off' : ∀ b ∈ cs, H' b = none := fun b hb => by
    obtain ⟨o, g⟩ := old b hb
    exact u.free b o g (off_in hb) ne
  refine ⟨⟨fun b o e n => u.keep b o e ((off_out (nb n)).trans n), fun b o e n => u.slot b o e ((off_out (nb n)).trans n), fun b o e n q => (back_out (nb n)).trans (u.free b o e ((off_out (nb n)).trans n) q), u.there, fun b xs e => ?_, fun b o v e => ?_, fun b ps e => ?_⟩, hok_back C off' x' fun c hc v e => ?_⟩
  · have c := C.out e fun v y => CelO.tup y.symm
    exact (back_out c).trans (u.tups b xs ((off_out c).trans e))
  · have c := C.out e fun v y => CelO.frz y.symm
    exact (back_out c).trans (u.frzs b o v ((off_out c).trans e))
  · have c := C.out e fun v y => CelO.tbl y.symm
    obtain ⟨more, z⟩ := u.tbls b ps ((off_out c).trans e)
    exact ⟨more, (back_out c).trans z⟩
  · obtain ⟨u', ⟨o, g, d⟩, r⟩ := cel_at x e
    exact celO_ok ⟨o, u.keep c o g (off_in hc) (nfs c hc) ne, d⟩ r
theorem ub_back (C : Cels H cs) (x : HOk P w H h) (nf : ∀ b ∈ fs, H b = none) (u : UB fs (offC H cs) H' h B h') (x' : HOk P w H' B) : UB fs H (backC H cs H') h B h' ∧ HOk P w (backC H cs H') B := by
  have nfs : ∀ b ∈ cs, b ∉ fs := fun b hb z => by
    obtain ⟨v, e⟩ := C b hb
    rw [nf b z] at e
    cases e
  have nb : ∀ {b : Addr}, H b = none → b ∉ cs := fun {b} e z => by
    obtain ⟨v, e'⟩ := C b z
    rw [e] at e'
    cases e'
  have off' : ∀ b ∈ cs, H' b = none := fun b hb => by
    obtain ⟨v, e⟩ := C b hb
    obtain ⟨u1, ⟨o, g, _⟩, _⟩ := cel_at x e
    exact u.free b o g (off_in hb)
  refine ⟨⟨fun b o e n => u.keep b o e ((off_out (nb n)).trans n), u.slot, fun b o e n => (back_out (nb n)).trans (u.free b o e ((off_out (nb n)).trans n)), u.there, fun b xs e => ?_, fun b o v e => ?_, fun b ps e => ?_⟩, hok_back C off' x' fun c hc v e => ?_⟩
  · have c := C.out e fun v y => CelO.tup y.symm
    exact (back_out c).trans (u.tups b xs ((off_out c).trans e))
  · have c := C.out e fun v y => CelO.frz y.symm
    exact (back_out c).trans (u.frzs b o v ((off_out c).trans e))
  · have c := C.out e fun v y => CelO.tbl y.symm
    obtain ⟨more, z⟩ := u.tbls b ps ((off_out c).trans e)
    exact ⟨more, (back_out c).trans z⟩
  · obtain ⟨u', ⟨o, g, d⟩, r⟩ := cel_at x e
    exact celO_ok ⟨o, u.keep c o g (off_in hc) (nfs c hc), d⟩ r
end
/-- the context of a kept lambda's body -/
abbrev lamC (P : Program) (w : World) (K : PySem.W.Frag) (mg : Str → Option Value) (base : Heap) (N : List Str) (q : Str) (scope : Scope) (cl : List (Str × Addr)) (A : Around) (outer : List Env) (s : Shared) (H : Hp) (E : XK) (f c' : Addr) : Cx where
  prog := P
  w := w
  K := K
  mg := mg
  base := base
  A := A.deeper (PySem.W.envX q scope s.heap.objs.size f (.ref c') cl)
  N := N
  s_0 := s
  H_0 := H
  env := PySem.W.envX q scope s.heap.objs.size f (.ref c') cl
  outer := outer
  stack := PySem.W.envX q scope s.heap.objs.size f (.ref c') cl :: outer
  ex := []
  fn := fun _ => false
  calm := true
  pn := []
  xe := fun e s' => wpAny (model P w) (A.deeper (PySem.W.envX q scope s.heap.objs.size f (.ref c') cl)) (leaving (PySem.W.envX q scope s.heap.objs.size f (.ref c') cl) e) (fun _ s'' => L2.CX P w outer H s E e s'') (fun e' s'' => L2.CX P w outer H s E e' s'') s'
/-- the lambda's names: captured ones and globals -/
structure LamN (scope : Scope) : Prop where
  kind : scope.kind = .function
  co : scope.isCoroutine = false
  gen : scope.isGenerator = false
  own : ∀ y ∈ scope.names, y.2 ≠ .local ∧ y.2 ≠ .cell
  uniq : ∀ y ∈ scope.names, scope.names.lookup y.1 = some y.2
def lamNB (scope : Scope) : Bool := decide (scope.kind = .function) && (!scope.isCoroutine && (!scope.isGenerator && (scope.names.all (fun y => decide (y.2 ≠ .local) && decide (y.2 ≠ .cell)) && scope.names.all (fun y => decide (scope.names.lookup y.1 = some y.2)))))
theorem lamN_by {scope : Scope} (h : lamNB scope = true) : LamN scope := by
  unfold lamNB at h
  simp only [Bool.and_eq_true, Bool.not_eq_true', decide_eq_true_eq, List.all_eq_true] at h
  exact ⟨h.1, h.2.1, h.2.2.1, h.2.2.2.1, h.2.2.2.2⟩
theorem lam_run {P : Program} {w : World} {K : PySem.W.Frag} {mg : Str → Option Value} {base : Heap} {k : Nat} {N : List Str} {f c' : Addr} {q : Str} {params : Arguments} {body : Expr} {scope : Scope} {cl0 : List (Str × Addr)} {A : Around} {outer : List Env} {s : Shared} {H : Hp} {Q : VK} {E : XK} {σ : L2.St} {te : XK → TE}
    (hr : Room (k + 1) A) (e0 : Env0 P w K mg base A outer s H) (hL : H f = some (LamO f q params body scope (cloFrom cl0 scope.names []) c')) (hc : H c' = some (LamX.CodeO c' q)) (L : LamN scope) (hbind : ∀ (cl : List (Str × Addr)) (pm cv ctv : Value), bindArgs (PySem.W.kla_fn "<lambda>" q params body scope cl pm cv ctv) ⟨[], []⟩ = pure [])
    (cells : ∀ y ∈ scope.names, y.2 = .free → ∃ c v, cl0.lookup y.1 = some c ∧ H c = some (CelO c v)) (inj : ∀ x y c, cl0.lookup x = some c → cl0.lookup y = some c → x = y) (slots : ∀ (i : Nat) (x : Str) (v : V), N[i]? = some x → σ[i]? = some (some v) → ∃ c, cl0.lookup x = some c ∧ H c = some (CelO c v)) (len : σ.length = N.length)
    (hbody : ∀ (A : Around) (s : Shared) (H : Hp) (E : XK), Room k (A.deeper (PySem.W.envX q scope s.heap.objs.size f (.ref c') (cloFrom cl0 scope.names []))) → PE (lamC P w K mg base N q scope (cloFrom cl0 scope.names []) A outer s H E f c') body (te E))
    (ht : ∀ cs : List Addr, Cels H cs → te (fun cls d H' => (∀ b ∈ cs, H' b = none) → E cls d (backC H cs H')) σ (offC H cs) fun v H' => (∀ b ∈ cs, H' b = none) → Q v (backC H cs H')) :
    codeAny (model P w) A (.call (.ref f) ⟨[], []⟩) (CR (L2.CX P w) outer P w H s Q E) s := by
  obtain ⟨⟨pm, ctv, gf⟩, _⟩ := e0.hok f _ hL
  obtain ⟨⟨oc, vs, t, goc, doc, vq⟩, _⟩ := e0.hok c' _ hc
  generalize hcl : cloFrom cl0 scope.names [] = cl at *
  -- what the closure tells
  have cm : ∀ {y : Str} {c : Addr}, cl.lookup y = some c → (y, NameKind.free) ∈ scope.names ∧ cl0.lookup y = some c := fun {y c} e => by
    rw [← hcl] at e
    rcases cloFrom_mem (PySem.mem_of_lookup e) with z | ⟨z1, z2⟩
    · cases z
    · obtain ⟨c1, v, h1, _⟩ := cells _ z1 rfl
      have h1 : cl0.lookup y = some c1 := h1
      rw [z2, h1]
      exact ⟨z1, rfl⟩
  have look : ∀ {y : Str}, (y, NameKind.free) ∈ scope.names → ∃ c, cl.lookup y = some c := fun {y} hy => by
    rw [← hcl]
    exact mem_lookup (cloFrom_has (cells := cl0) (acc := []) hy)
  have celAt : ∀ {y : Str} {c : Addr}, cl.lookup y = some c → ∃ v, H c = some (CelO c v) := fun {y c} e => by
    obtain ⟨z1, z2⟩ := cm e
    obtain ⟨c1, v, h1, h2⟩ := cells _ z1 rfl
    have h1 : cl0.lookup y = some c1 := h1
    rw [z2] at h1
    cases h1
    exact ⟨v, h2⟩
  obtain ⟨cs, hcs⟩ : ∃ cs : List Addr, ∀ c, c ∈ cs ↔ ∃ y, cl.lookup y = some c := ⟨scope.names.filterMap fun y => cl.lookup y.1, fun c => by
    rw [List.mem_filterMap]
    constructor
    · rintro ⟨y, _, e⟩
      exact ⟨y.1, e⟩
    · rintro ⟨y, e⟩
      exact ⟨(y, .free), (cm e).1, e⟩⟩
  have C : Cels H cs := fun c hc => by
    obtain ⟨y, e⟩ := (hcs c).mp hc
    exact celAt e
  have tq := ht cs C
  have hokM := hok_off e0.hok C
  have lim : s.heap.NoLimit := e0.mod.nolimit.keeps fun b o e => (e0.bs b o e).1
  have offn : ∀ {b : Addr}, H b = none → offC H cs b = none := fun {b} e => by
    by_cases c : b ∈ cs
    · exact off_in c
    · rw [off_out c]
      exact e
  have run : codeAny (model P w) A (.call (.ref f) ⟨[], []⟩) (CR (L2.CX P w) outer P w (offC H cs) s (fun v H' => (∀ b ∈ cs, H' b = none) → Q v (backC H cs H')) fun cls d H' => (∀ b ∈ cs, H' b = none) → E cls d (backC H cs H')) s := by
    refine PySem.W.kla_callFunE hr.depth gf rfl L.co L.gen rfl ⟨c', oc, vs, t, rfl, goc, doc, vq⟩ ?_
    rw [hbind]
    refine wpAny_pure (wpAny_newFunctionEnv (fun y hy => (L.own y hy).2) (fun y hy => absurd hy (by simp)) (fun h₁ hns hsb => ⟨lim.fresh _ hsb, ?_⟩) L.kind)
    show codeAny _ _ (.expr body (PySem.W.envX q scope s.heap.objs.size f (.ref c') cl)) _ _
    have kp : ∀ b o, s.heap.get? b = some o → h₁.get? b = some o := fun b o e => hsb.extBut b o (Nat.ne_of_lt (Heap.lt_size e)) (Heap.get?_push_of_some _ e)
    have J : Inv (lamC P w K mg base N q scope cl A outer s (offC H cs) (fun cls d H' => (∀ b ∈ cs, H' b = none) → E cls d (backC H cs H')) f c') [] σ (offC H cs) { s with heap := h₁, toks := s.toks + ([] : List (Str × Value)).length } := by
      have noA : ∀ b : Addr, b ∉ ([] : List Addr) := fun b z => nomatch z
      refine ⟨⟨e0.mod, L.kind, rfl, rfl, Nat.le_refl _, fun y z c e1 e2 => inj y z c (cm e1).2 (cm e2).2, fun y hy => ?_, fun y c z _ => ?_, fun _ => hr.hd, Around.frames_deeper e0.frames, .inr ⟨rfl, rfl⟩, fun b z => absurd z (noA b), fun b o e => ⟨(e0.bs b o e).1, offn (e0.bs b o e).2⟩, e0.bsz, fun b _ _ => noA b, fun b z => absurd z (noA b), e0.funs, fun b hb => offn (e0.frf b hb)⟩,
        rfl, e0.bare, Un.kept kp, ⟨_, hns, fun i y v e1 e2 e3 => ?_⟩, fun y c e => ?_, hokM.fresh (Nat.le_refl _), fun y c e => off_in ((hcs c).mpr ⟨y, e⟩), fun p hp => absurd (show p ∈ ([] : List (Addr × Obj)) ++ [] from hp) (by simp), hokM.kept kp, len⟩
      · have hy : scope.names.lookup y = some .cell ∨ scope.names.lookup y = some .free := hy
        rcases hy with hy | hy
        · exact absurd rfl (L.own _ (PySem.mem_of_lookup hy)).2
        · exact look (PySem.mem_of_lookup hy)
      · have z : false = true := z
        cases z
      · have e3 : Vis scope y := e3
        rcases e3 with z | z | z
        · exact absurd rfl (L.own _ (PySem.mem_of_lookup z)).1
        · exact absurd rfl (L.own _ (PySem.mem_of_lookup z)).2
        · obtain ⟨c, h1⟩ := look (PySem.mem_of_lookup z)
          obtain ⟨c2, h2, h3⟩ := slots i y v e1 e2
          rw [(cm h1).2] at h2
          cases h2
          obtain ⟨u, hu, r⟩ := cel_at e0.hok h3
          exact ⟨u, r, .inr ⟨.inr z, c, h1, hu.keeps kp⟩⟩
      · have e : cl.lookup y = some c := e
        obtain ⟨v, hv⟩ := celAt e
        obtain ⟨u, hu, _⟩ := cel_at e0.hok hv
        exact ⟨_, hu.keeps kp⟩
    refine PySem.W.kla_codeExpr (wpAny_mono ((hbody A s (offC H cs) _ (hr.deeper _)).run [] _ σ (offC H cs) _ J tq) (fun u s' hq => ?_) fun e s' hq => hq)
    obtain ⟨v, H', J', rv, q'⟩ := hq
    exact ⟨v, H', J'.os, J'.bare, J'.base, J'.hok, rv, q'⟩
  refine codeAny_mono run fun r s' hq => ?_
  cases r with
  | error e =>
    obtain ⟨a, B, H', cls, d, rfl, fly, hok', ub, na, os, ag, hE⟩ := hq
    obtain ⟨b1, b2⟩ := ub_back C e0.hok e0.frf ub hok'
    have aC : a ∉ cs := fun z => by
      obtain ⟨v, hv⟩ := C a z
      obtain ⟨u, ⟨o, g, _⟩, _⟩ := cel_at e0.hok hv
      have fr : a ∉ frs outer := fun y => by
        rw [e0.frf a y] at hv
        cases hv
      have gB := ub.keep a o g (off_in z) fr
      rw [fly.2.1] at gB
      cases gB
    exact ⟨a, B, backC H cs H', cls, d, rfl, fly, b2, b1, (back_out aC).trans na, os, ag, hE fun b hb => by
      obtain ⟨v, hv⟩ := C b hb
      obtain ⟨u, ⟨o, g, _⟩, _⟩ := cel_at e0.hok hv
      exact ub.free b o g (off_in hb)⟩
  | ok fl =>
    cases fl with
    | ret u =>
      obtain ⟨v, H', os, bare, un, hok', rv, q'⟩ := hq
      obtain ⟨b1, b2⟩ := un_back C e0.hok e0.frf un hok'
      exact ⟨v, backC H cs H', os, bare, b1, b2, rv, q' fun b hb => by
        obtain ⟨v, hv⟩ := C b hb
        obtain ⟨u, ⟨o, g, _⟩, _⟩ := cel_at e0.hok hv
        exact un.free b o g (off_in hb) (fun z => nomatch z)⟩
    | next => exact False.elim hq
    | brk => exact False.elim hq
    | cont => exact False.elim hq
/-- x(), x a name whose value is a kept lambda -/
theorem pe_callLam {X : Cx} {k i : Nat} {x : Str} {p1 p2 : Pos} {spL : Addr → Hp → VK → XK → Prop} {E : L2.St → XK} (hfun : ∀ f H Q E, spL f H Q E → ∃ q p b sc cl c', H f = some (LamO f q p b sc cl c'))
    (hrun : ∀ (A : Around) (outer : List Env) (s : Shared) (H : Hp) (Q : VK) (E : XK) (f : Addr), Room k A → Env0 X.prog X.w X.K X.mg X.base A outer s H → spL f H Q E → codeAny (model X.prog X.w) A (.call (.ref f) ⟨[], []⟩) (CR (L2.CX X.prog X.w) outer X.prog X.w H s Q E) s)
    (hr : Room k X.A) (hN : X.N[i]? = some x) (hv : Vis X.env.scope x) (hx : ∀ σ, PassesAt (L2.CX X.prog X.w) X σ (E σ)) (hd : (x == ("__debug__" : Str)) = false := by decide) (hcd : (x == ("__classdict__" : Str)) = false := by decide) :
    PE X (.Call (.Name x p1) [] [] p2) (fun σ H Q => ∃ f, σ[i]? = some (some (.ref f)) ∧ spL f H Q (E σ)) := by
  refine ⟨fun pins s σ H Q I h => ?_⟩
  obtain ⟨f, hs, h⟩ := h
  refine wpAny_Call_Name_kw (thn ((pe_var (pos := p1) (i := i) hN hv hd hcd).run pins s σ H (fun v H1 => v = .ref f ∧ H1 = H) I ⟨.ref f, hs, rfl, rfl⟩) fun u s1 ⟨v, H1, I1, r1, q1⟩ => ?_)
  obtain ⟨rfl, rfl⟩ := q1
  obtain rfl : u = Value.ref f := r1
  obtain ⟨q, p, b, sc, cl, c', hL⟩ := hfun f _ _ _ h
  obtain ⟨⟨pm, ctv, gf⟩, _⟩ := I1.hok f _ hL
  refine PySem.W.callWith_F0 ⟨_, _, _, _, gf⟩ (wpAny_call (codeAny_mono (hrun X.A X.stack s1 H1 Q (E σ) f hr I1.env0 h) fun r s' hq => ?_))
  cases r with
  | error e => exact hx σ pins H1 s1 e s' I1 hq
  | ok fl =>
    cases fl with
    | ret u => exact I1.after hq
    | next => exact False.elim hq
    | brk => exact False.elim hq
    | cont => exact False.elim hq
end L2
namespace Tp
open PySem L2
end Tp
/-! ### a def that ends, whose cells are kept by lambdas -/
namespace L2
open PySem PySem.Spec PyProof.Rows
def addC : List (Addr × V) → Hp → Hp
  | [], H => H
  | (c, v) :: r, H => upd (addC r H) c (CelO c v)
theorem addC_out {H : Hp} {b : Addr} : ∀ {l : List (Addr × V)}, b ∉ l.map (·.1) → addC l H b = H b
  | [], _ => rfl
  | (c, v) :: r, h => by
    rw [List.map_cons, List.mem_cons, not_or] at h
    show upd (addC r H) c (CelO c v) b = H b
    rw [upd_ne h.1]
    exact addC_out h.2
theorem addC_in {H : Hp} {c : Addr} {v : V} : ∀ {l : List (Addr × V)}, (l.map (·.1)).Nodup → (c, v) ∈ l → addC l H c = some (CelO c v)
  | (c', v') :: r, nd, h => by
    rw [List.map_cons, List.nodup_cons] at nd
    show upd (addC r H) c' (CelO c' v') c = _
    rcases List.mem_cons.mp h with e | h
    · cases e
      exact upd_same
    · rw [upd_ne (fun z => nd.1 (by rw [← z]; exact List.mem_map.mpr ⟨(c, v), h, rfl⟩))]
      exact addC_in nd.2 h
theorem execs_app {M : Model} {A : Around} {env : Env} {rest : List Stmt} {Q : Flow → Shared → Prop} {E : Value → Shared → Prop} {init : List Stmt} {s : Shared}
    (h : wpAny M A (execs init env) (fun f s' => match f with | .next => wpAny M A (execs rest env) Q E s' | f => Q f s') E s) : wpAny M A (execs (init ++ rest) env) Q E s := by
  intro Γ p hΓ
  have key : ∀ (init : List Stmt) (p : Pos) (s : Shared), Sem.wp M Γ (execs init env) (fun f p' s' => match f with | .next => Sem.wp M Γ (execs rest env) (fun a _ s' => Q a s') (fun e _ s' => E e s') p' s' | f => Q f s') (fun e _ s' => E e s') p s →
      Sem.wp M Γ (execs (init ++ rest) env) (fun a _ s' => Q a s') (fun e _ s' => E e s') p s := by
    intro init
    induction init with
    | nil =>
      intro p s h
      have e0 : execs [] env = pure Flow.next := by rfl
      rw [e0, Sem.wp_pure'] at h
      exact h
    | cons a l ih =>
      intro p s h
      rw [List.cons_append, execs_cons, Sem.wp_bind']
      rw [execs_cons, Sem.wp_bind'] at h
      refine Sem.wp_mono M Γ _ (fun f p' s' h' => ?_) (fun _ _ _ h' => h') _ _ h
      cases f with
      | next => exact ih p' s' h'
      | brk => exact h'
      | cont => exact h'
      | ret u => exact h'
  refine key init p s (Sem.wp_mono M Γ _ (fun f p' s' h' => ?_) (fun _ _ _ h' => h') _ _ (h Γ p hΓ))
  cases f with
  | next => exact h' Γ p' hΓ
  | brk => exact h'
  | cont => exact h'
  | ret u => exact h'
theorem cells_told {P : Program} {w : World} {fs : List Addr} {H H' : Hp} {h h' : Heap} {l : List (Addr × V)} (nd : (l.map (·.1)).Nodup) (u : Un fs [] H H' h h') (x : HOk P w H' h') (a : ∀ c v, (c, v) ∈ l → H' c = none ∧ h.objs.size ≤ c ∧ ∃ z, h'.IsCell c (some z) ∧ RelV v z) :
    Un fs [] H (addC l H') h h' ∧ HOk P w (addC l H') h' := by
  have inL : ∀ {b : Addr}, b ∈ l.map (·.1) → ∃ v, (b, v) ∈ l := fun {b} hb => by
    obtain ⟨⟨c, v⟩, h1, h2⟩ := List.mem_map.mp hb
    cases h2
    exact ⟨v, h1⟩
  have out : ∀ {b : Addr} {o : HO}, H' b = some o → b ∉ l.map (·.1) := fun {b o} e z => by
    obtain ⟨v, hv⟩ := inL z
    rw [(a b v hv).1] at e
    cases e
  have keep : ∀ {b : Addr} {o : HO}, H' b = some o → addC l H' b = some o := fun {b o} e => (addC_out (out e)).trans e
  refine ⟨⟨u.keep, u.slot, fun b o e n q => ?_, u.there, fun b xs e => keep (u.tups b xs e), fun b o v e => keep (u.frzs b o v e), fun b ps e => ?_⟩, fun b o e => ?_⟩
  · refine (addC_out fun z => ?_).trans (u.free b o e n q)
    obtain ⟨v, hv⟩ := inL z
    exact absurd (Nat.lt_of_lt_of_le (Heap.lt_size e) (a b v hv).2.1) (Nat.lt_irrefl _)
  · obtain ⟨more, z⟩ := u.tbls b ps e
    exact ⟨more, keep z⟩
  · by_cases c : b ∈ l.map (·.1)
    · obtain ⟨v, hv⟩ := inL c
      rw [addC_in nd hv] at e
      cases e
      obtain ⟨_, _, z, hz, r⟩ := a b v hv
      exact celO_ok hz r
    · rw [addC_out c] at e
      exact (x b o e).stay (fun _ _ _ z => z) (fun _ z => keep z) fun _ _ z => keep z
/-- a def whose parameters' cells outlive it -/
theorem fn_cells {P : Program} {w : World} {K : PySem.W.Frag} {mg : Str → Option Value} {base : Heap} {x qual y : Str} {st : Stmt} {f : Addr} {fd : FuncData} {N ps : List Str} {k j : Nat} {sp : Sp} {init : List Stmt} {p1 p2 : Pos} (F : Fun K x qual st f fd) (S : FnScope N ps (defScope st)) (len : ∀ vs H Q E, sp vs H Q E → vs.length = ps.length)
    (xs : List (Str × Nat)) (hxs : ∀ p ∈ xs, N[p.2]? = some p.1 ∧ (defScope st).names.lookup p.1 = some .cell) (nd : (xs.map (·.1)).Nodup) (hb : defBody st = init ++ [.Return (some (.Name y p1)) p2]) (hy : N[j]? = some y) (hvy : Vis (defScope st) y)
    (hbody : ∀ (cdv : Value), fd.code = cdv → ∀ (A : Around) (outer : List Env) (s : Shared) (H : Hp) (vs : List V) (Q : VK) (E : XK), Room k (A.deeper (PyProof.Rows.envOfC qual (defScope st) s.heap.objs.size f cdv)) → sp vs H Q E →
      ∃ t, PSs (cxOf CX0 P w K mg base N qual (defScope st) f cdv A outer s H E).nox init t ∧ t { nx := fun σ' H' => ∃ (v : V) (ws : List V), σ'[j]? = some (some v) ∧ ws.length = xs.length ∧ (∀ (i : Nat) p u, xs[i]? = some p → ws[i]? = some u → σ'[p.2]? = some (some u)) ∧
        ∀ (ad : List Addr), ad.length = xs.length → (∀ (i : Nat) p c, xs[i]? = some p → ad[i]? = some c → (cellsFrom (s.heap.objs.size + 1) (defScope st).names []).lookup p.1 = some c ∧ H' c = none) → ad.Nodup → (∀ x y c, (cellsFrom (s.heap.objs.size + 1) (defScope st).names []).lookup x = some c → (cellsFrom (s.heap.objs.size + 1) (defScope st).names []).lookup y = some c → x = y) → Q v (addC (ad.zip ws) H'), rt := fun _ _ => False } (L2.start N vs) H)
    (hdy : (y == ("__debug__" : Str)) = false := by decide) (hcy : (y == ("__classdict__" : Str)) = false := by decide) : FnOk P w K mg base CX0 (k + 1) f fd ps sp := by
  obtain ⟨oc, od, kV, doc, pm, an, cdv, ct, osl, rfl, lk, hcd⟩ := F.ex
  refine ⟨len, fun A outer s H args us vs Q E hr e0 hbi r hsp => ?_⟩
  have hl := len _ _ _ _ hsp
  have KX : K.In s.heap := e0.mod.kin.keeps fun b o e => (e0.bs b o e).1
  have lim : s.heap.NoLimit := e0.mod.nolimit.keeps fun b o e => (e0.bs b o e).1
  have kinds : ∀ z ∈ ps.zip us, (defScope st).names.lookup z.1 = some .local ∨ ((defScope st).names.lookup z.1 = some .cell ∧ ((cellsFrom (s.heap.objs.size + 1) (defScope st).names []).lookup z.1).isSome = true) := fun ⟨n, v⟩ hz =>
    (S.par n (List.of_mem_zip hz).1).imp (fun q => q) fun q => ⟨q, PySem.W.cellsFrom_some _ _ _ (.inl q)⟩
  refine codeAny_call_function hr.depth (KX _ _ lk) rfl S.co S.gen rfl (PySem.W.codeRec_of KX hcd) (hbi _ _ _ _ ?_)
  refine wpAny_newFunctionEnv_cells S.kind kinds fun env he s1 xc => ?_
  subst he
  refine ⟨lim.keeps xc.toInCall.keep, codeAny_func ?_⟩
  obtain ⟨t, ht, hq⟩ := hbody cdv rfl A outer s H vs Q E (hr.deeper _) hsp
  have I : Inv (cxOf CX0 P w K mg base N qual (defScope st) f cdv A outer s H E) [] (L2.start N vs) H s1 := inv_start S hr.hd e0 hl r xc
  rw [hb]
  refine execs_app (wpAny_mono (ht.nox.run [] s1 (L2.start N vs) H _ I hq) (fun fl s2 hs => ?_) fun e s' hs => hs)
  cases fl with
  | ret u =>
    obtain ⟨_, _, _, _, _, z⟩ := hs
    exact False.elim z
  | brk =>
    obtain ⟨_, _, _, z⟩ := hs
    exact False.elim z
  | cont =>
    obtain ⟨_, _, _, z⟩ := hs
    exact False.elim z
  | next =>
    obtain ⟨σ', H', J, v, ws, hv, hw, hσ, hQ⟩ := hs
    refine wpAny_execs_cons (wpAny_Return_some (thn ((pe_var (X := cxOf CX0 P w K mg base N qual (defScope st) f cdv A outer s H E) (pos := p1) (i := j) hy hvy hdy hcy).run [] s2 σ' H' (fun v' H1 => v' = v ∧ H1 = H') J ⟨v, hv, rfl, rfl⟩) fun u s3 ⟨v', H1, J3, r3, e3⟩ => ?_))
    obtain ⟨rfl, rfl⟩ := e3
    -- the cells
    obtain ⟨m, _, look⟩ := J3.loc
    have cel : ∀ p ∈ xs, ∀ u', σ'[p.2]? = some (some u') → ∃ c, (cellsFrom (s.heap.objs.size + 1) (defScope st).names []).lookup p.1 = some c ∧ ∃ z, s3.heap.IsCell c (some z) ∧ RelV u' z := fun p hp u' hu => by
      obtain ⟨h1, h2⟩ := hxs p hp
      obtain ⟨z, rz, q⟩ := look p.2 p.1 u' h1 hu (.inr (.inl h2))
      rcases q with ⟨q, _⟩ | ⟨_, c, q1, q2⟩
      · have q : (defScope st).names.lookup p.1 = some .local := q
        rw [h2] at q
        cases q
      · exact ⟨c, q1, z, q2, rz⟩
    obtain ⟨ad, hal, had⟩ : ∃ ad : List Addr, ad.length = xs.length ∧ ∀ (i : Nat) p, xs[i]? = some p → ad[i]? = (cellsFrom (s.heap.objs.size + 1) (defScope st).names []).lookup p.1 ∧ ((cellsFrom (s.heap.objs.size + 1) (defScope st).names []).lookup p.1).isSome = true := by
      refine ⟨xs.map fun p => ((cellsFrom (s.heap.objs.size + 1) (defScope st).names []).lookup p.1).getD 0, List.length_map _, fun i p hp => ?_⟩
      obtain ⟨u', hu'⟩ : ∃ u', ws[i]? = some u' := ⟨_, List.getElem?_eq_getElem (by rw [hw]; exact (List.getElem?_eq_some_iff.mp hp).1)⟩
      obtain ⟨c, hc, _⟩ := cel p (List.mem_of_getElem? hp) u' (hσ i p u' hp hu')
      refine ⟨?_, by rw [hc]; rfl⟩
      rw [List.getElem?_map, hp, Option.map_some, hc]
      rfl
    have adc : ∀ (i : Nat) p c, xs[i]? = some p → ad[i]? = some c → (cellsFrom (s.heap.objs.size + 1) (defScope st).names []).lookup p.1 = some c := fun i p c hp hc => by
      rw [← (had i p hp).1]
      exact hc
    have adn : ad.Nodup := by
      rw [List.nodup_iff_pairwise_ne, List.pairwise_iff_getElem]
      intro i i' hi hi' lt e
      obtain ⟨p, hp⟩ : ∃ p, xs[i]? = some p := ⟨_, List.getElem?_eq_getElem (by omega)⟩
      obtain ⟨p', hp'⟩ : ∃ p, xs[i']? = some p := ⟨_, List.getElem?_eq_getElem (by omega)⟩
      have c1 := adc i p _ hp (List.getElem?_eq_getElem hi)
      have c2 := adc i' p' _ hp' (List.getElem?_eq_getElem hi')
      rw [← e] at c2
      have e1 : p.1 = p'.1 := J3.ok.inj _ _ _ c1 c2
      have n1 : (xs.map (·.1))[i]? = some p.1 := by rw [List.getElem?_map, hp]; rfl
      have n2 : (xs.map (·.1))[i']? = some p.1 := by rw [List.getElem?_map, hp', e1]; rfl
      rw [List.nodup_iff_pairwise_ne, List.pairwise_iff_getElem] at nd
      obtain ⟨a1, b1⟩ := List.getElem?_eq_some_iff.mp n1
      obtain ⟨a2, b2⟩ := List.getElem?_eq_some_iff.mp n2
      exact nd i i' a1 a2 lt (b1.trans b2.symm)
    have free : ∀ (i : Nat) p c, xs[i]? = some p → ad[i]? = some c → H1 c = none := fun i p c hp hc => J3.freeC p.1 c (adc i p c hp hc)
    have mp : (ad.zip ws).map (·.1) = ad := by
      rw [List.map_fst_zip]
      omega
    have each : ∀ c u', (c, u') ∈ ad.zip ws → H1 c = none ∧ s.heap.objs.size ≤ c ∧ ∃ z, s3.heap.IsCell c (some z) ∧ RelV u' z := fun c u' hcu => by
      obtain ⟨i, hi⟩ := List.mem_iff_getElem?.mp hcu
      rw [List.getElem?_zip_eq_some] at hi
      obtain ⟨p, hp⟩ : ∃ p, xs[i]? = some p := ⟨_, List.getElem?_eq_getElem (by rw [← hal]; exact (List.getElem?_eq_some_iff.mp hi.1).1)⟩
      have h1 := adc i p c hp hi.1
      obtain ⟨c', hc', z, q1, q2⟩ := cel p (List.mem_of_getElem? hp) u' (hσ i p u' hp hi.2)
      rw [h1] at hc'
      cases hc'
      exact ⟨free i p c hp hi.1, J3.ok.cab p.1 c rfl h1, z, q1, q2⟩
    obtain ⟨b1, b2⟩ := cells_told (by rw [mp]; exact adn) J3.base J3.hok each
    exact ⟨v', addC (ad.zip ws) H1, J3.os, J3.bare, b1, b2, r3, hQ ad hal (fun i p c hp hc => ⟨adc i p c hp hc, free i p c hp hc⟩) adn fun x y c => J3.ok.inj x y c⟩
end L2
namespace Tp
open PySem L2
/-! ### __init__ of BadRoads, BadReceiver -/
def spInit1 (C : Addr) (f1 : Str) : Sp := fun vs H Q _ => ∃ (a : Addr) (x : V), vs = [.ref a, x] ∧ H a = some (exo a C none) ∧ ∀ d, H d = none → d ≠ a → Q .non (upd (upd H d (exd d [(f1, x)])) a (exo a C (some d)))
section
variable {P : Program} {w : World} {K : PySem.W.Frag} {mg : Str → Option Value} {base : Heap}
theorem ok_BadRoads_init (T : Txt K mg) : FnOk P w K mg base CX0 1 T.f_BadRoads_init T.fd_BadRoads_init P_BadRoads_init (spInit1 T.C_BadRoads "number") := by
  refine T.F_BadRoads_init.ok sc_BadRoads_init (fun vs H Q E h => ?_) (fun cdv A outer s H vs Q E hr h => ?_)
  · obtain ⟨a, x, rfl, _⟩ := h
    rfl
  · obtain ⟨a, x, rfl, ha, k⟩ := h
    refine ⟨_, ((pss_cons (ps_expr (pe_oinit (by rfl) T.mg_RoadError T.oi1_RoadError T.oi2_RoadError T.oi3_RoadError (pa_cons (pv 0) (pa_cons (pv 1) pa_nil))))
  (pss_one (ps_ost (pv 0) (pv 1))))), ?_⟩
    refine ⟨_, rfl, _, rfl, a, T.C_BadRoads, _, rfl, by show 1 ≤ 1000; decide, T.ox_BadRoads, ha, ?_⟩
    refine ⟨_, rfl, _, rfl, a, T.C_BadRoads, rfl, T.ox_BadRoads, T.nf_BadRoads_number, .inl ⟨ha, fun d hd na => ?_⟩⟩
    exact k d hd na
theorem ok_BadReceiver_init (T : Txt K mg) : FnOk P w K mg base CX0 1 T.f_BadReceiver_init T.fd_BadReceiver_init P_BadReceiver_init (spInit1 T.C_BadReceiver "word") := by
  refine T.F_BadReceiver_init.ok sc_BadReceiver_init (fun vs H Q E h => ?_) (fun cdv A outer s H vs Q E hr h => ?_)
  · obtain ⟨a, x, rfl, _⟩ := h
    rfl
  · obtain ⟨a, x, rfl, ha, k⟩ := h
    refine ⟨_, ((pss_cons (ps_expr (pe_oinit (by rfl) T.mg_RoadError T.oi1_RoadError T.oi2_RoadError T.oi3_RoadError (pa_cons (pv 0) (pa_cons (pv 1) pa_nil))))
  (pss_one (ps_ost (pv 0) (pv 1))))), ?_⟩
    refine ⟨_, rfl, _, rfl, a, T.C_BadReceiver, _, rfl, by show 1 ≤ 1000; decide, T.ox_BadReceiver, ha, ?_⟩
    refine ⟨_, rfl, _, rfl, a, T.C_BadReceiver, rfl, T.ox_BadReceiver, T.nf_BadReceiver_word, .inl ⟨ha, fun d hd na => ?_⟩⟩
    exact k d hd na
end
theorem raise1 {C : Addr} {f1 : Str} {x : V} {H1 : Hp} {Q : XK} (k : ∀ (d : Addr) (H' : Hp), Same H1 H' → H1 d = none → H' d = some (.xd [(f1, x)]) → Q (.ref C) (some d) H') :
    ∀ a, H1 a = none → spInit1 C f1 [.ref a, x] (upd H1 a (exo a C none)) (fun v H2 => v = .non ∧ ∃ (d : Addr) (fs : List (Str × V)), H2 a = some (exo a C (some d)) ∧ H2 d = some (exd d fs) ∧ H1 d = none ∧ Q (.ref C) (some d) (upd (del H2 a) d (.xd fs))) (fun _ _ _ => False) := fun a na => by
  refine ⟨a, x, rfl, upd_same, fun d hd da => ?_⟩
  have hd1 : H1 d = none := by rw [upd_ne da] at hd; exact hd
  refine ⟨rfl, d, _, upd_same, by rw [upd_ne da]; exact upd_same, hd1, k d _ (fun b o e => ?_) hd1 upd_same⟩
  have ba := ne_of_none e na
  have bd := ne_of_none e hd1
  rw [upd_ne bd, del_ne ba, upd_ne ba, upd_ne bd, upd_ne ba]
  exact e
/-! ### bad roads, bad receivers -/
def okR (R : Rds) (j : Nat) : Prop := 0 ≤ R.lo j ∧ R.lo j ≤ R.hi j ∧ R.hi j ≤ 9
def BadAt (R : Rds) (j : Nat) : Prop := j < 2 ∧ (∀ j', j' < j → okR R j') ∧ ¬ okR R j
def whyR (R : Rcv) : Option Str :=
  if 2 ≤ R.mks ∧ R.mks ≤ 32 then
    if 1 ≤ R.ah ∧ R.ah < R.mks then
      if 0 ≤ R.wt ∧ R.wt ≤ 20 then none else some "wait"
    else some "ahead"
  else some "marks"
theorem BadAt.no {R : Rds} {j : Nat} (h : BadAt R j) (o : R.Ok) : False := by
  obtain ⟨hj, _, n⟩ := h
  exact n (Rds.ok_at (j := j) o)
def XOut (H : Hp) (E : XK) (C : Addr) (f : Str) (x : V) : Prop := ∀ (d : Addr) (H' : Hp), Same H H' → H d = none → H' d = some (.xd [(f, x)]) → E (.ref C) (some d) H'
/-- roads are let by, or refused -/
def RdOut (CR : Addr) (H : Hp) (Q : VK) (E : XK) (R : Rds) : Prop := (R.Ok ∧ Q .non H) ∨ ∃ j : Nat, BadAt R j ∧ XOut H E CR "number" (.int j)
def RvOut (CV : Addr) (H : Hp) (Q : VK) (E : XK) (R : Rcv) : Prop := (whyR R = none ∧ Q .non H) ∨ ∃ x : Str, whyR R = some x ∧ XOut H E CV "word" (.str x)
/-- roads or a receiver are refused -/
def Refd (CR CV : Addr) (H : Hp) (E : XK) (D : Rds) (R : Rcv) : Prop := (∃ j : Nat, BadAt D j ∧ XOut H E CR "number" (.int j)) ∨ (D.Ok ∧ ∃ x : Str, whyR R = some x ∧ XOut H E CV "word" (.str x))
def spNeedRoadsX (CR : Addr) : Sp := fun vs H Q E => ∃ (p : Addr) (R : Rds), vs = [.ref p] ∧ RoadsAt H p R ∧ RdOut CR H Q E R
def spNeedRcvX (CV : Addr) : Sp := fun vs H Q E => ∃ (q : Addr) (R : Rcv), vs = [.ref q] ∧ RcvAt H q R ∧ RvOut CV H Q E R
def spAllX (CR CV : Addr) : Sp := fun vs H _ E => ∃ (p rq : Addr) (D : Rds) (R : Rcv) (x : V), vs = [.ref p, .ref rq, x] ∧ RoadsAt H p D ∧ RcvAt H rq R ∧ Refd CR CV H E D R
def spJudX (CR CV : Addr) : Sp := fun vs H _ E => ∃ (p rq : Addr) (D : Rds) (R : Rcv), vs = [.ref p, .ref rq] ∧ RoadsAt H p D ∧ RcvAt H rq R ∧ Refd CR CV H E D R
def spRd1X (CR : Addr) : Sp := fun vs H _ E => ∃ (p : Addr) (D : Rds) (j : Nat), vs = [.ref p] ∧ RoadsAt H p D ∧ BadAt D j ∧ XOut H E CR "number" (.int j)
def spRd2X (CR : Addr) : Sp := fun vs H _ E => ∃ (p : Addr) (D : Rds) (j : Nat) (x : V), vs = [.ref p, x] ∧ RoadsAt H p D ∧ BadAt D j ∧ XOut H E CR "number" (.int j)
def spMkX (CV : Addr) : Sp := fun vs H _ E => ∃ (m q : Addr) (R : Rcv) (x : Str), vs = [.ref m, .ref q] ∧ RcvAt H q R ∧ whyR R = some x ∧ XOut H E CV "word" (.str x)
section
variable {P : Program} {w : World} {K : PySem.W.Frag} {mg : Str → Option Value} {base : Heap}
theorem okx_need_roads (T : Txt K mg) : FnOk P w K mg base (L2.CX P w) 3 T.f_need_roads T.fd_need_roads P_need_roads (spNeedRoadsX T.C_BadRoads) := by
  refine T.F_need_roads.okX sc_need_roads (fun vs H Q E h => ?_) (fun cdv A outer s H vs Q E hr h => ?_)
  · obtain ⟨p, R, rfl, _⟩ := h
    rfl
  · obtain ⟨p, R, rfl, ⟨t0, t1, g1, g2, g3⟩, k⟩ := h
    refine ⟨_, ((pss_one (ps_for (passes_of rfl) rfl (pi_range1 (by rfl) T.z_range (pa_cons pe_int pa_nil)) (pg_name (i := 1) sc_need_roads.nd rfl (Or.inl rfl))
  (pss_cons (ps_asg (pe_ix ix_tup (pv 0) (pv 1) (fun _ _ => rfl)) (pg_tup rfl (pgs_cons (pg_name (i := 2) sc_need_roads.nd rfl (Or.inl rfl)) (pgs_cons (pg_name (i := 3) sc_need_roads.nd rfl (Or.inl rfl)) pgs_nil))))
  (pss_one (ps_if (pt_not (pt_chain3 op_le op_le op_le pe_int (pv 2) (pv 3) (pe_glob rfl T.mg_MOST_LATE T.rv_MOST_LATE))) (pss_one (ps_raise rfl (takes_of rfl rfl rfl rfl) (pmk_oex T.ox_BadRoads T.iC_BadRoads T.tI_BadRoads (ok_BadRoads_init T) (hr.mono (by decide)) T.b_BadRoads_init .nil pass0 (by rfl) T.mg_BadRoads (pa_cons (pv 1) pa_nil)))) pss_nil)))))), ?_⟩
    refine ⟨_, rfl, by decide, by decide, for_range (n := 2) (fun i σ H' => H' = H ∧ (∀ j, BadAt R j → i ≤ j) ∧ ∃ v1 v2 v3 : Option V, σ = [some (.ref p), v1, v2, v3]) ⟨rfl, fun j _ => Nat.zero_le _, none, none, none, rfl⟩ ?_ ?_⟩
    · rintro i σ H1 hi ⟨rfl, hb, v1, v2, v3, rfl⟩
      obtain ⟨t, ha, ht⟩ := road_at (R := R) g2 g3 hi
      have good : okR R i → (∀ j, BadAt R j → i + 1 ≤ j) := fun h j hj => by
        have := hb j hj
        have : j ≠ i := fun z => hj.2.2 (z ▸ h)
        omega
      have bad : ¬ okR R i → ∀ a', H1 a' = none → spInit1 T.C_BadRoads "number" [.ref a', .int (0 + i)] (upd H1 a' (exo a' T.C_BadRoads none)) (fun v H2 => v = .non ∧ ∃ (d : Addr) (fs : List (Str × V)), H2 a' = some (exo a' T.C_BadRoads (some d)) ∧ H2 d = some (exd d fs) ∧ H1 d = none ∧ E (.ref T.C_BadRoads) (some d) (upd (del H2 a') d (.xd fs))) (fun _ _ _ => False) := fun h => by
        rcases k with ⟨ok, _⟩ | ⟨j, hj, k⟩
        · exact absurd (Rds.ok_at (j := i) ok) h
        · have e1 := hb j hj
          have e2 : ¬ i < j := fun z => h (hj.2.1 i z)
          obtain rfl : j = i := by omega
          refine raise1 fun d H' s1 hd e => k d H' s1 hd ?_
          rw [e, Int.zero_add]
      refine ⟨_, rfl, _, rfl, p, _, _, _, rfl, rfl, SqT.of g1, ha, t, _, rfl, SqT.of ht, rfl, _, _, rfl, _, _, rfl, rfl, ?_⟩
      refine ⟨_, rfl, _, _, rfl, rfl, _, rfl, ?_⟩
      by_cases c0 : 0 ≤ R.lo i
      · refine iteD c0 ⟨_, rfl, _, _, rfl, rfl, _, rfl, ?_⟩
        by_cases c1 : R.lo i ≤ R.hi i
        · refine iteD c1 ⟨_, _, rfl, rfl, _, rfl, ?_⟩
          by_cases c2 : R.hi i ≤ 9
          · exact iteNS c2 ⟨rfl, good ⟨c0, c1, c2⟩, _, _, _, rfl⟩
          · refine iteNN c2 ⟨_, rfl, by show 1 ≤ 1000; decide, bad fun z => c2 z.2.2⟩
        · exact iteND c1 ⟨_, rfl, iteT ⟨_, rfl, by show 1 ≤ 1000; decide, bad fun z => c1 z.2.1⟩⟩
      · exact iteND c0 ⟨_, rfl, iteT ⟨_, rfl, by show 1 ≤ 1000; decide, bad fun z => c0 z.1⟩⟩
    · rintro σ H1 ⟨rfl, hb, v1, v2, v3, rfl⟩
      rcases k with ⟨_, k⟩ | ⟨j, hj, _⟩
      · exact k
      · have := hb j hj
        have := hj.1
        omega
theorem okx_need_receiver (T : Txt K mg) : FnOk P w K mg base (L2.CX P w) 3 T.f_need_receiver T.fd_need_receiver P_need_receiver (spNeedRcvX T.C_BadReceiver) := by
  refine T.F_need_receiver.okX sc_need_receiver (fun vs H Q E h => ?_) (fun cdv A outer s H vs Q E hr h => ?_)
  · obtain ⟨q, R, rfl, _⟩ := h
    rfl
  · obtain ⟨q, R, rfl, hq, k⟩ := h
    refine ⟨_, ((pss_cons (ps_asg (pv 0) (pg_tup rfl (pgs_cons (pg_name (i := 1) sc_need_receiver.nd rfl (Or.inl rfl)) (pgs_cons (pg_name (i := 2) sc_need_receiver.nd rfl (Or.inl rfl)) (pgs_cons (pg_name (i := 3) sc_need_receiver.nd rfl (Or.inl rfl)) pgs_nil)))))
  (pss_cons (ps_if (pt_not (pt_chain op_le op_le pe_int (pv 1) (pe_glob rfl T.mg_MOST_MARKS T.rv_MOST_MARKS))) (pss_one (ps_raise rfl (takes_of rfl rfl rfl rfl) (pmk_oex T.ox_BadReceiver T.iC_BadReceiver T.tI_BadReceiver (ok_BadReceiver_init T) (hr.mono (by decide)) T.b_BadReceiver_init .nil pass0 (by rfl) T.mg_BadReceiver (pa_cons pe_str pa_nil)))) pss_nil)
  (pss_cons (ps_if (pt_not (pt_chain op_le op_lt pe_int (pv 2) (pv 1))) (pss_one (ps_raise rfl (takes_of rfl rfl rfl rfl) (pmk_oex T.ox_BadReceiver T.iC_BadReceiver T.tI_BadReceiver (ok_BadReceiver_init T) (hr.mono (by decide)) T.b_BadReceiver_init .nil pass0 (by rfl) T.mg_BadReceiver (pa_cons pe_str pa_nil)))) pss_nil)
  (pss_one (ps_if (pt_not (pt_chain op_le op_le pe_int (pv 3) (pe_glob rfl T.mg_MOST_WAIT T.rv_MOST_WAIT))) (pss_one (ps_raise rfl (takes_of rfl rfl rfl rfl) (pmk_oex T.ox_BadReceiver T.iC_BadReceiver T.tI_BadReceiver (ok_BadReceiver_init T) (hr.mono (by decide)) T.b_BadReceiver_init .nil pass0 (by rfl) T.mg_BadReceiver (pa_cons pe_str pa_nil)))) pss_nil)))))), ?_⟩
    have bad : ∀ x : Str, whyR R = some x → ∀ a', H a' = none → spInit1 T.C_BadReceiver "word" [.ref a', .str x] (upd H a' (exo a' T.C_BadReceiver none)) (fun v H2 => v = .non ∧ ∃ (d : Addr) (fs : List (Str × V)), H2 a' = some (exo a' T.C_BadReceiver (some d)) ∧ H2 d = some (exd d fs) ∧ H d = none ∧ E (.ref T.C_BadReceiver) (some d) (upd (del H2 a') d (.xd fs))) (fun _ _ _ => False) := fun x h => by
      rcases k with ⟨e, _⟩ | ⟨y, e, k⟩
      · rw [h] at e
        cases e
      · rw [h] at e
        cases e
        exact raise1 k
    refine ⟨_, rfl, q, _, rfl, SqT.of hq, rfl, _, _, rfl, _, _, rfl, _, _, rfl, rfl, ?_⟩
    refine ⟨_, rfl, _, _, rfl, rfl, _, rfl, ?_⟩
    by_cases c0 : 2 ≤ R.mks
    · refine iteD c0 ⟨_, _, rfl, rfl, _, rfl, ?_⟩
      by_cases c1 : R.mks ≤ 32
      · refine iteNS c1 ⟨_, rfl, _, _, rfl, rfl, _, rfl, ?_⟩
        by_cases c2 : 1 ≤ R.ah
        · refine iteD c2 ⟨_, rfl, _, _, rfl, rfl, _, rfl, ?_⟩
          by_cases c3 : R.ah < R.mks
          · refine iteNS c3 ⟨_, rfl, _, _, rfl, rfl, _, rfl, ?_⟩
            by_cases c4 : 0 ≤ R.wt
            · refine iteD c4 ⟨_, _, rfl, rfl, _, rfl, ?_⟩
              by_cases c5 : R.wt ≤ 20
              · refine iteNS c5 ?_
                rcases k with ⟨_, k⟩ | ⟨x, e, _⟩
                · exact k
                · unfold whyR at e
                  rw [if_pos ⟨c0, c1⟩, if_pos ⟨c2, c3⟩, if_pos ⟨c4, c5⟩] at e
                  cases e
              · exact iteNN c5 ⟨by show 1 ≤ 1000; decide, bad "wait" (by unfold whyR; rw [if_pos ⟨c0, c1⟩, if_pos ⟨c2, c3⟩, if_neg fun z => c5 z.2])⟩
            · exact iteND c4 ⟨_, rfl, iteT ⟨by show 1 ≤ 1000; decide, bad "wait" (by unfold whyR; rw [if_pos ⟨c0, c1⟩, if_pos ⟨c2, c3⟩, if_neg fun z => c4 z.1])⟩⟩
          · exact iteNN c3 ⟨by show 1 ≤ 1000; decide, bad "ahead" (by unfold whyR; rw [if_pos ⟨c0, c1⟩, if_neg fun z => c3 z.2])⟩
        · exact iteND c2 ⟨_, rfl, iteT ⟨by show 1 ≤ 1000; decide, bad "ahead" (by unfold whyR; rw [if_pos ⟨c0, c1⟩, if_neg fun z => c2 z.1])⟩⟩
      · exact iteNN c1 ⟨by show 1 ≤ 1000; decide, bad "marks" (by unfold whyR; rw [if_neg fun z => c1 z.2])⟩
    · exact iteND c0 ⟨_, rfl, iteT ⟨by show 1 ≤ 1000; decide, bad "marks" (by unfold whyR; rw [if_neg fun z => c0 z.1])⟩⟩
theorem okx_need_all (T : Txt K mg) : FnOk P w K mg base (L2.CX P w) 4 T.f_need_all T.fd_need_all P_need_all (spAllX T.C_BadRoads T.C_BadReceiver) := by
  refine T.F_need_all.okX sc_need_all (fun vs H Q E h => ?_) (fun cdv A outer s H vs Q E hr h => ?_)
  · obtain ⟨p, rq, D, R, x, rfl, _⟩ := h
    rfl
  · obtain ⟨p, rq, D, R, x, rfl, hp, hq, k⟩ := h
    refine ⟨_, ((pss_cons (ps_expr (pe_call (okx_need_roads T) (hr.mono (by decide)) (by rfl) T.mg_need_roads T.kp_need_roads T.b_need_roads .nil (passes_call (takes_of rfl rfl rfl rfl) fun _ _ _ _ h => h) (pa_cons (pv 0) pa_nil)))
  (pss_cons (ps_expr (pe_call (okx_need_receiver T) (hr.mono (by decide)) (by rfl) T.mg_need_receiver T.kp_need_receiver T.b_need_receiver .nil (passes_call (takes_of rfl rfl rfl rfl) fun _ _ _ _ h => h) (pa_cons (pv 1) pa_nil)))
  pss_never))), ?_⟩
    rcases k with ⟨j, hj, k⟩ | ⟨ok, y, e, k⟩
    · exact ⟨_, rfl, p, D, rfl, hp, .inr ⟨j, hj, k⟩⟩
    · exact ⟨_, rfl, p, D, rfl, hp, .inl ⟨ok, _, rfl, rq, R, rfl, hq, .inr ⟨y, e, k⟩⟩⟩
theorem okx_run (T : Txt K mg) : FnOk P w K mg base (L2.CX P w) 5 T.f_run T.fd_run P_run (spAllX T.C_BadRoads T.C_BadReceiver) := by
  refine T.F_run.okX sc_run (fun vs H Q E h => ?_) (fun cdv A outer s H vs Q E hr h => ?_)
  · obtain ⟨p, rq, D, R, x, rfl, _⟩ := h
    rfl
  · obtain ⟨p, rq, D, R, x, rfl, hp, hq, k⟩ := h
    exact ⟨_, ((pss_cons (ps_expr (pe_call (okx_need_all T) (hr.mono (by decide)) (by rfl) T.mg_need_all T.kp_need_all T.b_need_all .nil (passes_call (takes_of rfl rfl rfl rfl) fun _ _ _ _ h => h) (pa_cons (pv 0) (pa_cons (pv 1) (pa_cons (pv 2) pa_nil)))))
  pss_never)), _, rfl, _, rfl, _, rfl, p, rq, D, R, x, rfl, hp, hq, k⟩
theorem okx_faults (T : Txt K mg) : FnOk P w K mg base (L2.CX P w) 5 T.f_faults T.fd_faults P_faults (spAllX T.C_BadRoads T.C_BadReceiver) := by
  refine T.F_faults.okX sc_faults (fun vs H Q E h => ?_) (fun cdv A outer s H vs Q E hr h => ?_)
  · obtain ⟨p, rq, D, R, x, rfl, _⟩ := h
    rfl
  · obtain ⟨p, rq, D, R, x, rfl, hp, hq, k⟩ := h
    exact ⟨_, ((pss_cons (ps_expr (pe_call (okx_need_all T) (hr.mono (by decide)) (by rfl) T.mg_need_all T.kp_need_all T.b_need_all .nil (passes_call (takes_of rfl rfl rfl rfl) fun _ _ _ _ h => h) (pa_cons (pv 0) (pa_cons (pv 1) (pa_cons (pv 2) pa_nil)))))
  pss_never)), _, rfl, _, rfl, _, rfl, p, rq, D, R, x, rfl, hp, hq, k⟩
theorem okx_judged (T : Txt K mg) : FnOk P w K mg base (L2.CX P w) 4 T.f_judged T.fd_judged P_judged (spJudX T.C_BadRoads T.C_BadReceiver) := by
  refine T.F_judged.okX sc_judged (fun vs H Q E h => ?_) (fun cdv A outer s H vs Q E hr h => ?_)
  · obtain ⟨p, rq, D, R, rfl, _⟩ := h
    rfl
  · obtain ⟨p, rq, D, R, rfl, hp, hq, k⟩ := h
    refine ⟨_, ((pss_cons (ps_expr (pe_call (okx_need_roads T) (hr.mono (by decide)) (by rfl) T.mg_need_roads T.kp_need_roads T.b_need_roads .nil (passes_call (takes_of rfl rfl rfl rfl) fun _ _ _ _ h => h) (pa_cons (pv 0) pa_nil)))
  (pss_cons (ps_expr (pe_call (okx_need_receiver T) (hr.mono (by decide)) (by rfl) T.mg_need_receiver T.kp_need_receiver T.b_need_receiver .nil (passes_call (takes_of rfl rfl rfl rfl) fun _ _ _ _ h => h) (pa_cons (pv 1) pa_nil)))
  pss_never))), ?_⟩
    rcases k with ⟨j, hj, k⟩ | ⟨ok, y, e, k⟩
    · exact ⟨_, rfl, p, D, rfl, hp, .inr ⟨j, hj, k⟩⟩
    · exact ⟨_, rfl, p, D, rfl, hp, .inl ⟨ok, _, rfl, rq, R, rfl, hq, .inr ⟨y, e, k⟩⟩⟩
theorem okx_least_receiver (T : Txt K mg) : FnOk P w K mg base (L2.CX P w) 4 T.f_least_receiver T.fd_least_receiver P_least_receiver (spRd1X T.C_BadRoads) := by
  refine T.F_least_receiver.okX sc_least_receiver (fun vs H Q E h => ?_) (fun cdv A outer s H vs Q E hr h => ?_)
  · obtain ⟨p, D, j, rfl, _⟩ := h
    rfl
  · obtain ⟨p, D, j, rfl, hp, hj, k⟩ := h
    exact ⟨_, ((pss_cons (ps_expr (pe_call (okx_need_roads T) (hr.mono (by decide)) (by rfl) T.mg_need_roads T.kp_need_roads T.b_need_roads .nil (passes_call (takes_of rfl rfl rfl rfl) fun _ _ _ _ h => h) (pa_cons (pv 0) pa_nil)))
  pss_never)), _, rfl, p, D, rfl, hp, .inr ⟨j, hj, k⟩⟩
theorem okx_written (T : Txt K mg) : FnOk P w K mg base (L2.CX P w) 4 T.f_written T.fd_written P_written (spRd2X T.C_BadRoads) := by
  refine T.F_written.okX sc_written (fun vs H Q E h => ?_) (fun cdv A outer s H vs Q E hr h => ?_)
  · obtain ⟨p, D, j, x, rfl, _⟩ := h
    rfl
  · obtain ⟨p, D, j, x, rfl, hp, hj, k⟩ := h
    exact ⟨_, ((pss_cons (ps_expr (pe_call (okx_need_roads T) (hr.mono (by decide)) (by rfl) T.mg_need_roads T.kp_need_roads T.b_need_roads .nil (passes_call (takes_of rfl rfl rfl rfl) fun _ _ _ _ h => h) (pa_cons (pv 0) pa_nil)))
  pss_never)), _, rfl, p, D, rfl, hp, .inr ⟨j, hj, k⟩⟩
theorem okx_read (T : Txt K mg) : FnOk P w K mg base (L2.CX P w) 4 T.f_read T.fd_read P_read (spRd2X T.C_BadRoads) := by
  refine T.F_read.okX sc_read (fun vs H Q E h => ?_) (fun cdv A outer s H vs Q E hr h => ?_)
  · obtain ⟨p, D, j, x, rfl, _⟩ := h
    rfl
  · obtain ⟨p, D, j, x, rfl, hp, hj, k⟩ := h
    exact ⟨_, ((pss_cons (ps_expr (pe_call (okx_need_roads T) (hr.mono (by decide)) (by rfl) T.mg_need_roads T.kp_need_roads T.b_need_roads .nil (passes_call (takes_of rfl rfl rfl rfl) fun _ _ _ _ h => h) (pa_cons (pv 0) pa_nil)))
  pss_never)), _, rfl, p, D, rfl, hp, .inr ⟨j, hj, k⟩⟩
theorem okx_Merger_init (T : Txt K mg) : FnOk P w K mg base (L2.CX P w) 4 T.f_Merger_init T.fd_Merger_init P_Merger_init (spMkX T.C_BadReceiver) := by
  refine T.F_Merger_init.okX sc_Merger_init (fun vs H Q E h => ?_) (fun cdv A outer s H vs Q E hr h => ?_)
  · obtain ⟨m, q, R, x, rfl, _⟩ := h
    rfl
  · obtain ⟨m, q, R, x, rfl, hq, e, k⟩ := h
    exact ⟨_, ((pss_cons (ps_expr (pe_call (okx_need_receiver T) (hr.mono (by decide)) (by rfl) T.mg_need_receiver T.kp_need_receiver T.b_need_receiver .nil (passes_call (takes_of rfl rfl rfl rfl) fun _ _ _ _ h => h) (pa_cons (pv 1) pa_nil)))
  pss_never)), _, rfl, q, R, rfl, hq, .inr ⟨x, e, k⟩⟩
end
/-! ### lambdas in lists -/
theorem lam_free {sc scope : Scope} {n : Nat} (h : (scope.names.all fun y => !decide (y.2 = .free) || decide (sc.names.lookup y.1 = some .cell)) = true) : ∀ y ∈ scope.names, y.2 = .free → ∃ c, (cellsFrom n sc.names []).lookup y.1 = some c := fun y hy e => by
  have := List.all_eq_true.mp h y hy
  rw [e] at this
  exact cell_has (by simpa using this)
theorem LamO.tbl {f : Addr} {q : Str} {p : Arguments} {b : Expr} {sc : Scope} {cl : List (Str × Addr)} {c' : Addr} (ps : Array Value) : LamO f q p b sc cl c' ≠ .tbl ps := fun z => by
  have z' : HO.ext _ = HO.tbl ps := z
  cases z'
theorem LamO.lst {f : Addr} {q : Str} {p : Arguments} {b : Expr} {sc : Scope} {cl : List (Str × Addr)} {c' : Addr} {xs : List V} : LamO f q p b sc cl c' ≠ .lst xs := fun z => by
  have z' : HO.ext _ = HO.lst xs := z
  cases z'
theorem CodeO.lst {c : Addr} {q : Str} {xs : List V} : LamX.CodeO c q ≠ .lst xs := fun z => by
  have z' : HO.ext _ = HO.lst xs := z
  cases z'
theorem tabs_lst {T : List (Addr × Str)} {H : Hp} {l : Addr} {xs : List V} {o : HO} (t : LamX.Tabs T H) (hl : H l = some (.lst xs)) : LamX.Tabs T (upd H l o) := fun p hp => by
  obtain ⟨ps, h1, h2, h3⟩ := t p hp
  refine ⟨ps, (upd_ne fun z => by rw [z, hl] at h1; cases h1).trans h1, h2, fun pos cv hc => ?_⟩
  obtain ⟨c, e, h4⟩ := h3 pos cv hc
  exact ⟨c, e, (upd_ne fun z => by rw [z, hl] at h4; exact CodeO.lst (Option.some.inj h4).symm).trans h4⟩
theorem len3w {α : Type} : ∀ {l : List α}, l.length = 3 → ∃ a b c, l = [a, b, c]
  | [a, b, c], _ => ⟨a, b, c, rfl⟩
def lamP : Expr → Arguments
  | .Lambda p _ _ _ => p
  | _ => defArgs s_Lword
def lamB : Expr → Expr
  | .Lambda _ b _ _ => b
  | e => e
def lamSc : Expr → Scope
  | .Lambda _ _ s _ => s
  | _ => defScope s_Lword
def lamAt : Stmt → Expr
  | .Assign _ (.List (e :: _) _) _ => e
  | .Expr (.Call _ (e :: _) _ _) _ => e
  | _ => .Name "" ⟨0, 0, 0, 0⟩
abbrev lamW (i : Nat) : Expr := lamAt ((defBody s_Lworks).getD i (.Pass ⟨0, 0, 0, 0⟩))
abbrev lamT (i : Nat) : Expr := lamAt ((defBody s_Lothers).getD i (.Pass ⟨0, 0, 0, 0⟩))
abbrev qW : Str := (("_law_works" : Str) ++ (".<locals>." : Str)) ++ ("<lambda>" : Str)
abbrev qO : Str := (("_law_others" : Str) ++ (".<locals>." : Str)) ++ ("<lambda>" : Str)
abbrev qL : Str := (("law" : Str) ++ (".<locals>." : Str)) ++ ("<lambda>" : Str)
abbrev TT3 (a b c : Addr) : List (Addr × Str) := [(a, qW), (b, qO), (c, qL)]
structure NE3 (a b c : Addr) : Prop where
  ab : (a == b) = false
  ac : (a == c) = false
  bc : (b == c) = false
theorem ne_b {a b : Addr} (h : (a == b) = false) : a ≠ b := fun z => by
  rw [z] at h
  simp at h
theorem uniW {a b c : Addr} (n : NE3 a b c) : ∀ p ∈ TT3 a b c, p.1 = a → p.2 = qW := fun p hp e => by
  simp only [List.mem_cons, List.not_mem_nil, or_false] at hp
  rcases hp with rfl | rfl | rfl
  · rfl
  · exact absurd e.symm (ne_b n.ab)
  · exact absurd e.symm (ne_b n.ac)
theorem uniO {a b c : Addr} (n : NE3 a b c) : ∀ p ∈ TT3 a b c, p.1 = b → p.2 = qO := fun p hp e => by
  simp only [List.mem_cons, List.not_mem_nil, or_false] at hp
  rcases hp with rfl | rfl | rfl
  · exact absurd e (ne_b n.ab)
  · rfl
  · exact absurd e.symm (ne_b n.bc)
theorem uniL {a b c : Addr} (n : NE3 a b c) : ∀ p ∈ TT3 a b c, p.1 = c → p.2 = qL := fun p hp e => by
  simp only [List.mem_cons, List.not_mem_nil, or_false] at hp
  rcases hp with rfl | rfl | rfl
  · exact absurd e (ne_b n.ac)
  · exact absurd e (ne_b n.bc)
  · rfl
def Lam1 (H : Hp) (q : Str) (e : Expr) (cl0 : List (Str × Addr)) (f : Addr) : Prop := ∃ c' : Addr, H f = some (LamO f q (lamP e) (lamB e) (lamSc e) (cloFrom cl0 (lamSc e).names []) c') ∧ H c' = some (LamX.CodeO c' q)
def Cel1 (H : Hp) (cl0 : List (Str × Addr)) (x : Str) (v : V) : Prop := ∃ c : Addr, cl0.lookup x = some c ∧ H c = some (CelO c v)
structure Cl2 (H : Hp) (cl0 : List (Str × Addr)) (p rq : Addr) : Prop where
  c0 : Cel1 H cl0 "_law_roads_here" (.ref p)
  c1 : Cel1 H cl0 "_law_receiver_here" (.ref rq)
  inj : ∀ x y c, cl0.lookup x = some c → cl0.lookup y = some c → x = y
structure Cl1 (H : Hp) (cl0 : List (Str × Addr)) (p : Addr) : Prop where
  c0 : Cel1 H cl0 "_law_roads_here" (.ref p)
  inj : ∀ x y c, cl0.lookup x = some c → cl0.lookup y = some c → x = y
def spLworks (T3 : List (Addr × Str)) : Sp := fun vs H Q _ => ∃ (p rq : Addr), vs = [.ref p, .ref rq] ∧ LamX.Tabs T3 H ∧ ∀ (l f0 f1 f2 : Addr) (cl0 : List (Str × Addr)) (H' : Hp), H' l = some (.lst [.ref f0, .ref f1, .ref f2]) →
  Lam1 H' qW (lamW 0) cl0 f0 → Lam1 H' qW (lamW 1) cl0 f1 → Lam1 H' qW (lamW 2) cl0 f2 → Cl2 H' cl0 p rq → LamX.ExtN H H' → LamX.Tabs T3 H' → Q (.ref l) H'
def spLothers (T3 : List (Addr × Str)) : Sp := fun vs H Q _ => ∃ (p : Addr), vs = [.ref p] ∧ LamX.Tabs T3 H ∧ ∀ (l f0 f1 f2 : Addr) (cl0 : List (Str × Addr)) (H' : Hp), H' l = some (.lst [.ref f0, .ref f1, .ref f2]) →
  Lam1 H' qO (lamT 0) cl0 f0 → Lam1 H' qO (lamT 1) cl0 f1 → Lam1 H' qO (lamT 2) cl0 f2 → Cl1 H' cl0 p → LamX.ExtN H H' → LamX.Tabs T3 H' → Q (.ref l) H'
theorem len1c {α : Type} : ∀ {l : List α}, l.length = 1 → ∃ a, l = [a]
  | [a], _ => ⟨a, rfl⟩
theorem len2c {α : Type} : ∀ {l : List α}, l.length = 2 → ∃ a b, l = [a, b]
  | [a, b], _ => ⟨a, b, rfl⟩
section
variable {P : Program} {w : World} {K : PySem.W.Frag} {mg : Str → Option Value} {base : Heap}
theorem Lam1.ext {H H' : Hp} {q : Str} {e : Expr} {cl0 : List (Str × Addr)} {f : Addr} (h : Lam1 H q e cl0 f) (x : LamX.ExtN H H') : Lam1 H' q e cl0 f := by
  obtain ⟨c', h1, h2⟩ := h
  exact ⟨c', x _ _ h1 fun ps => LamO.tbl ps, x _ _ h2 fun ps => LamX.codeO_ne ps⟩
/-- a list that is new to H is changed -/
theorem Lam1.put {H : Hp} {q : Str} {e : Expr} {cl0 : List (Str × Addr)} {f l : Addr} {xs : List V} {o : HO} (h : Lam1 H q e cl0 f) (hl : H l = some (.lst xs)) : Lam1 (upd H l o) q e cl0 f := by
  obtain ⟨c', h1, h2⟩ := h
  exact ⟨c', (upd_ne fun z => by rw [z, hl] at h1; exact LamO.lst (Option.some.inj h1).symm).trans h1, (upd_ne fun z => by rw [z, hl] at h2; exact CodeO.lst (Option.some.inj h2).symm).trans h2⟩
theorem ok_Lworks (T : Txt K mg) (TB : LamX.TabB base mg T.cd_Lworks T.tb_Lworks) (n : NE3 T.tb_Lworks T.tb_Lothers T.tb_law) : FnOk P w K mg base CX0 1 T.f_Lworks T.fd_Lworks P_Lworks (spLworks (TT3 T.tb_Lworks T.tb_Lothers T.tb_law)) := by
  refine fn_cells (j := 2) T.F_Lworks sc_Lworks (fun vs H Q E h => ?_) [("_law_roads_here", 0), ("_law_receiver_here", 1)] (fun p hp => ?_) (by decide +kernel) (init := (defBody s_Lworks).take 3) rfl rfl (.inl rfl) (fun cdv hcd A outer s H vs Q E hr h => ?_)
  · obtain ⟨p, rq, rfl, _⟩ := h
    rfl
  · simp only [List.mem_cons, List.not_mem_nil, or_false] at hp
    rcases hp with rfl | rfl <;> exact ⟨rfl, rfl⟩
  · obtain ⟨p, rq, rfl, hT, k⟩ := h
    have hcode : cdv = .ref T.cd_Lworks := hcd.symm.trans T.hc_Lworks
    refine ⟨_, ((pss_cons (ps_set (i := 2) sc_Lworks.nd rfl (Or.inl rfl) (pe_lst (pa_cons (pe_lamN (q0 := ("_law_works" : Str) ++ (".<locals>." : Str)) rfl TB hcode List.mem_cons_self (uniW n) rfl (lam_free (sc := defScope s_Lworks) (by decide +kernel))) pa_nil)))
  (pss_cons (ps_expr (pe_bm PySem.F.plainAttrs_list PySem.F.slot_list_append PySem.F.type_list_append mt_append (pv 2) (pa_cons (pe_lamN (q0 := ("_law_works" : Str) ++ (".<locals>." : Str)) rfl TB hcode List.mem_cons_self (uniW n) rfl (lam_free (sc := defScope s_Lworks) (by decide +kernel))) pa_nil)))
  (pss_one (ps_expr (pe_bm PySem.F.plainAttrs_list PySem.F.slot_list_append PySem.F.type_list_append mt_append (pv 2) (pa_cons (pe_lamN (q0 := ("_law_works" : Str) ++ (".<locals>." : Str)) rfl TB hcode List.mem_cons_self (uniW n) rfl (lam_free (sc := defScope s_Lworks) (by decide +kernel))) pa_nil))))))), ?_⟩
    refine ⟨hT, fun f0 c0 H1 e1 T1 _ hf0 hc0 => ⟨by show 1 ≤ sizeLine; decide, fun l hl => ?_⟩⟩
    generalize hcl0 : cellsFrom (s.heap.objs.size + 1) (defScope s_Lworks).names [] = cl0
    have nl : ∀ o, H l = some o → (∀ ps, o ≠ .tbl ps) → False := fun o e n => by
      rw [e1 l o e n] at hl
      cases hl
    have xl : ∀ {Ha Hb : Hp}, LamX.ExtN H Ha → (∀ b o, b ≠ l → Ha b = some o → Hb b = some o) → LamX.ExtN H Hb := fun x k b o e n => k b o (fun z => nl o (z ▸ e) n) (x b o e n)
    have x2 : LamX.ExtN H (upd H1 l (.lst [.ref f0])) := xl e1 fun b o n e => (upd_ne n).trans e
    have T2 : LamX.Tabs (TT3 T.tb_Lworks T.tb_Lothers T.tb_law) (upd H1 l (.lst [.ref f0])) := LamX.Tabs.ext T1 (Same.upd_new (o := .lst [.ref f0]) hl)
    have L0 : Lam1 (upd H1 l (.lst [.ref f0])) qW (lamW 0) cl0 f0 := by
      rw [← hcl0]
      exact ⟨c0, (Same.upd_new (o := .lst [.ref f0]) hl) _ _ hf0, (Same.upd_new (o := .lst [.ref f0]) hl) _ _ hc0⟩
    have hl2 : (upd H1 l (.lst [.ref f0])) l = some (.lst [.ref f0]) := upd_same
    revert x2 T2 L0 hl2
    generalize (upd H1 l (.lst [.ref f0])) = H2
    intro x2 T2 L0 hl2
    refine ⟨_, rfl, .inl ⟨rfl, _, SqL.of hl2⟩, T2, fun f1 c1 H3 e3 T3' _ hf1 hc1 => ⟨l, _, _, rfl, rfl, e3 _ _ hl2 (fun _ z => by cases z), by show 1 < sizeLine; decide, ?_⟩⟩
    have hl3 := e3 _ _ hl2 (fun _ z => by cases z)
    generalize hH4 : upd H3 l _ = H4
    have x4 : LamX.ExtN H H4 := by rw [← hH4]; exact xl (x2.trans e3) fun b o n e => (upd_ne n).trans e
    have T4 : LamX.Tabs (TT3 T.tb_Lworks T.tb_Lothers T.tb_law) H4 := by rw [← hH4]; exact tabs_lst T3' hl3
    have L0' : Lam1 H4 qW (lamW 0) cl0 f0 := by rw [← hH4]; exact (L0.ext e3).put hl3
    have L1 : Lam1 H4 qW (lamW 1) cl0 f1 := by rw [← hH4]; exact Lam1.put (by rw [← hcl0]; exact ⟨c1, hf1, hc1⟩) hl3
    have hl4 : H4 l = some (.lst [.ref f0, .ref f1]) := by rw [← hH4]; exact upd_same
    refine ⟨_, rfl, .inl ⟨rfl, _, SqL.of hl4⟩, T4, fun f2 c2 H5 e5 T5 _ hf2 hc2 => ⟨l, _, _, rfl, rfl, e5 _ _ hl4 (fun _ z => by cases z), by show 2 < sizeLine; decide, ?_⟩⟩
    have hl5 := e5 _ _ hl4 (fun _ z => by cases z)
    generalize hH6 : upd H5 l _ = H6
    have x6 : LamX.ExtN H H6 := by rw [← hH6]; exact xl (x4.trans e5) fun b o n e => (upd_ne n).trans e
    have T6 : LamX.Tabs (TT3 T.tb_Lworks T.tb_Lothers T.tb_law) H6 := by rw [← hH6]; exact tabs_lst T5 hl5
    have M0 : Lam1 H6 qW (lamW 0) cl0 f0 := by rw [← hH6]; exact (L0'.ext e5).put hl5
    have M1 : Lam1 H6 qW (lamW 1) cl0 f1 := by rw [← hH6]; exact (L1.ext e5).put hl5
    have M2 : Lam1 H6 qW (lamW 2) cl0 f2 := by rw [← hH6]; exact Lam1.put (by rw [← hcl0]; exact ⟨c2, hf2, hc2⟩) hl5
    have hl6 : H6 l = some (.lst [.ref f0, .ref f1, .ref f2]) := by rw [← hH6]; exact upd_same
    refine ⟨.ref l, [.ref p, .ref rq], rfl, rfl, fun i p' u hp' hu => ?_, fun ad hal had nd inj => ?_⟩
    · match i, hp', hu with
      | 0, hp', hu =>
        cases hp'
        cases hu
        rfl
      | 1, hp', hu =>
        cases hp'
        cases hu
        rfl
    · obtain ⟨a0, a1, rfl⟩ := len2c hal
      obtain ⟨k0, n0⟩ := had 0 _ a0 rfl rfl
      obtain ⟨k1, n1⟩ := had 1 _ a1 rfl rfl
      have mp : (([a0, a1].zip [V.ref p, V.ref rq]).map (·.1)) = [a0, a1] := rfl
      have keep : ∀ b o, H6 b = some o → addC ([a0, a1].zip [V.ref p, V.ref rq]) H6 b = some o := fun b o e => (addC_out (by
        rw [mp]
        simp only [List.mem_cons, List.not_mem_nil, or_false, not_or]
        exact ⟨ne_of_none e n0, ne_of_none e n1⟩)).trans e
      have ex : LamX.ExtN H6 (addC ([a0, a1].zip [V.ref p, V.ref rq]) H6) := LamX.ExtN.of keep
      have cel : ∀ c v, (c, v) ∈ [a0, a1].zip [V.ref p, V.ref rq] → addC ([a0, a1].zip [V.ref p, V.ref rq]) H6 c = some (CelO c v) := fun c v h => addC_in (by rw [mp]; exact nd) h
      exact k l f0 f1 f2 cl0 _ (keep _ _ hl6) (M0.ext ex) (M1.ext ex) (M2.ext ex) ⟨⟨a0, k0, cel _ _ (by simp)⟩, ⟨a1, k1, cel _ _ (by simp)⟩, inj⟩ (x6.trans ex) (T6.ext keep)
theorem ok_Lothers (T : Txt K mg) (TB : LamX.TabB base mg T.cd_Lothers T.tb_Lothers) (n : NE3 T.tb_Lworks T.tb_Lothers T.tb_law) : FnOk P w K mg base CX0 1 T.f_Lothers T.fd_Lothers P_Lothers (spLothers (TT3 T.tb_Lworks T.tb_Lothers T.tb_law)) := by
  refine fn_cells (j := 1) T.F_Lothers sc_Lothers (fun vs H Q E h => ?_) [("_law_roads_here", 0)] (fun p hp => ?_) (by decide +kernel) (init := (defBody s_Lothers).take 3) rfl rfl (.inl rfl) (fun cdv hcd A outer s H vs Q E hr h => ?_)
  · obtain ⟨p, rfl, _⟩ := h
    rfl
  · simp only [List.mem_cons, List.not_mem_nil, or_false] at hp
    rcases hp with rfl <;> exact ⟨rfl, rfl⟩
  · obtain ⟨p, rfl, hT, k⟩ := h
    have hcode : cdv = .ref T.cd_Lothers := hcd.symm.trans T.hc_Lothers
    refine ⟨_, ((pss_cons (ps_set (i := 1) sc_Lothers.nd rfl (Or.inl rfl) (pe_lst (pa_cons (pe_lamN (q0 := ("_law_others" : Str) ++ (".<locals>." : Str)) rfl TB hcode (List.mem_cons_of_mem _ List.mem_cons_self) (uniO n) rfl (lam_free (sc := defScope s_Lothers) (by decide +kernel))) pa_nil)))
  (pss_cons (ps_expr (pe_bm PySem.F.plainAttrs_list PySem.F.slot_list_append PySem.F.type_list_append mt_append (pv 1) (pa_cons (pe_lamN (q0 := ("_law_others" : Str) ++ (".<locals>." : Str)) rfl TB hcode (List.mem_cons_of_mem _ List.mem_cons_self) (uniO n) rfl (lam_free (sc := defScope s_Lothers) (by decide +kernel))) pa_nil)))
  (pss_one (ps_expr (pe_bm PySem.F.plainAttrs_list PySem.F.slot_list_append PySem.F.type_list_append mt_append (pv 1) (pa_cons (pe_lamN (q0 := ("_law_others" : Str) ++ (".<locals>." : Str)) rfl TB hcode (List.mem_cons_of_mem _ List.mem_cons_self) (uniO n) rfl (lam_free (sc := defScope s_Lothers) (by decide +kernel))) pa_nil))))))), ?_⟩
    refine ⟨hT, fun f0 c0 H1 e1 T1 _ hf0 hc0 => ⟨by show 1 ≤ sizeLine; decide, fun l hl => ?_⟩⟩
    generalize hcl0 : cellsFrom (s.heap.objs.size + 1) (defScope s_Lothers).names [] = cl0
    have nl : ∀ o, H l = some o → (∀ ps, o ≠ .tbl ps) → False := fun o e n => by
      rw [e1 l o e n] at hl
      cases hl
    have xl : ∀ {Ha Hb : Hp}, LamX.ExtN H Ha → (∀ b o, b ≠ l → Ha b = some o → Hb b = some o) → LamX.ExtN H Hb := fun x k b o e n => k b o (fun z => nl o (z ▸ e) n) (x b o e n)
    have x2 : LamX.ExtN H (upd H1 l (.lst [.ref f0])) := xl e1 fun b o n e => (upd_ne n).trans e
    have T2 : LamX.Tabs (TT3 T.tb_Lworks T.tb_Lothers T.tb_law) (upd H1 l (.lst [.ref f0])) := LamX.Tabs.ext T1 (Same.upd_new (o := .lst [.ref f0]) hl)
    have L0 : Lam1 (upd H1 l (.lst [.ref f0])) qO (lamT 0) cl0 f0 := by
      rw [← hcl0]
      exact ⟨c0, (Same.upd_new (o := .lst [.ref f0]) hl) _ _ hf0, (Same.upd_new (o := .lst [.ref f0]) hl) _ _ hc0⟩
    have hl2 : (upd H1 l (.lst [.ref f0])) l = some (.lst [.ref f0]) := upd_same
    revert x2 T2 L0 hl2
    generalize (upd H1 l (.lst [.ref f0])) = H2
    intro x2 T2 L0 hl2
    refine ⟨_, rfl, .inl ⟨rfl, _, SqL.of hl2⟩, T2, fun f1 c1 H3 e3 T3' _ hf1 hc1 => ⟨l, _, _, rfl, rfl, e3 _ _ hl2 (fun _ z => by cases z), by show 1 < sizeLine; decide, ?_⟩⟩
    have hl3 := e3 _ _ hl2 (fun _ z => by cases z)
    generalize hH4 : upd H3 l _ = H4
    have x4 : LamX.ExtN H H4 := by rw [← hH4]; exact xl (x2.trans e3) fun b o n e => (upd_ne n).trans e
    have T4 : LamX.Tabs (TT3 T.tb_Lworks T.tb_Lothers T.tb_law) H4 := by rw [← hH4]; exact tabs_lst T3' hl3
    have L0' : Lam1 H4 qO (lamT 0) cl0 f0 := by rw [← hH4]; exact (L0.ext e3).put hl3
    have L1 : Lam1 H4 qO (lamT 1) cl0 f1 := by rw [← hH4]; exact Lam1.put (by rw [← hcl0]; exact ⟨c1, hf1, hc1⟩) hl3
    have hl4 : H4 l = some (.lst [.ref f0, .ref f1]) := by rw [← hH4]; exact upd_same
    refine ⟨_, rfl, .inl ⟨rfl, _, SqL.of hl4⟩, T4, fun f2 c2 H5 e5 T5 _ hf2 hc2 => ⟨l, _, _, rfl, rfl, e5 _ _ hl4 (fun _ z => by cases z), by show 2 < sizeLine; decide, ?_⟩⟩
    have hl5 := e5 _ _ hl4 (fun _ z => by cases z)
    generalize hH6 : upd H5 l _ = H6
    have x6 : LamX.ExtN H H6 := by rw [← hH6]; exact xl (x4.trans e5) fun b o n e => (upd_ne n).trans e
    have T6 : LamX.Tabs (TT3 T.tb_Lworks T.tb_Lothers T.tb_law) H6 := by rw [← hH6]; exact tabs_lst T5 hl5
    have M0 : Lam1 H6 qO (lamT 0) cl0 f0 := by rw [← hH6]; exact (L0'.ext e5).put hl5
    have M1 : Lam1 H6 qO (lamT 1) cl0 f1 := by rw [← hH6]; exact (L1.ext e5).put hl5
    have M2 : Lam1 H6 qO (lamT 2) cl0 f2 := by rw [← hH6]; exact Lam1.put (by rw [← hcl0]; exact ⟨c2, hf2, hc2⟩) hl5
    have hl6 : H6 l = some (.lst [.ref f0, .ref f1, .ref f2]) := by rw [← hH6]; exact upd_same
    refine ⟨.ref l, [.ref p], rfl, rfl, fun i p' u hp' hu => ?_, fun ad hal had nd inj => ?_⟩
    · match i, hp', hu with
      | 0, hp', hu =>
        cases hp'
        cases hu
        rfl
    · obtain ⟨a0, rfl⟩ := len1c hal
      obtain ⟨k0, n0⟩ := had 0 _ a0 rfl rfl
      have mp : (([a0].zip [V.ref p]).map (·.1)) = [a0] := rfl
      have keep : ∀ b o, H6 b = some o → addC ([a0].zip [V.ref p]) H6 b = some o := fun b o e => (addC_out (by
        rw [mp]
        simp only [List.mem_cons, List.not_mem_nil, or_false, not_or]
        exact ne_of_none e n0)).trans e
      have ex : LamX.ExtN H6 (addC ([a0].zip [V.ref p]) H6) := LamX.ExtN.of keep
      have cel : ∀ c v, (c, v) ∈ [a0].zip [V.ref p] → addC ([a0].zip [V.ref p]) H6 c = some (CelO c v) := fun c v h => addC_in (by rw [mp]; exact nd) h
      exact k l f0 f1 f2 cl0 _ (keep _ _ hl6) (M0.ext ex) (M1.ext ex) (M2.ext ex) ⟨⟨a0, k0, cel _ _ (by simp)⟩, inj⟩ (x6.trans ex) (T6.ext keep)
end
/-! ### the lambdas run; _law_word -/
theorem pe_nev {X : Cx} {e : Expr} : PE X e (fun _ _ _ => False) := ⟨fun pins s σ H Q I h => h.elim⟩
theorem offK {H : Hp} {cs : List Addr} {b : Addr} {o : HO} (C : Cels H cs) (e : H b = some o) (n : ∀ v, o ≠ CelO b v) : offC H cs b = some o := (off_out (C.out e n)).trans e
theorem offT {H : Hp} {cs : List Addr} {b : Addr} {xs : List V} (C : Cels H cs) (e : H b = some (.tup xs)) : offC H cs b = some (.tup xs) := offK C e fun v z => CelO.tup z.symm
theorem offRoads {H : Hp} {cs : List Addr} {p : Addr} {D : Rds} (C : Cels H cs) (h : RoadsAt H p D) : RoadsAt (offC H cs) p D := by
  obtain ⟨t0, t1, h1, h2, h3⟩ := h
  exact ⟨t0, t1, offT C h1, offT C h2, offT C h3⟩
theorem sameBack {H H' : Hp} {cs : List Addr} (s : Same (offC H cs) H') : Same H (backC H cs H') := fun b o e => by
  by_cases c : b ∈ cs
  · rw [back_in c]
    exact e
  · rw [back_out c]
    exact s _ _ ((off_out c).trans e)
theorem XOut.same {H H2 : Hp} {E : XK} {C : Addr} {f : Str} {x : V} (k : XOut H E C f x) (s : Same H H2) : XOut H2 E C f x := fun d H' s2 hd hx => k d H' (s.trans s2) (s.free hd) hx
theorem XOut.off {H : Hp} {cs : List Addr} {E : XK} {C : Addr} {f : Str} {x : V} (k : XOut H E C f x) : XOut (offC H cs) (fun cls d H' => (∀ b ∈ cs, H' b = none) → E cls d (backC H cs H')) C f x := fun d H' s hd hx off' => by
  have dc : d ∉ cs := fun z => by rw [off' d z] at hx; cases hx
  exact k d _ (sameBack s) (by rw [← off_out (H := H) dc]; exact hd) ((back_out dc).trans hx)
theorem Refd.same {CR CV : Addr} {H H2 : Hp} {E : XK} {D : Rds} {R : Rcv} (k : Refd CR CV H E D R) (s : Same H H2) : Refd CR CV H2 E D R := by
  rcases k with ⟨j, hj, k⟩ | ⟨ok, x, e, k⟩
  · exact .inl ⟨j, hj, k.same s⟩
  · exact .inr ⟨ok, x, e, k.same s⟩
theorem Refd.off {CR CV : Addr} {H : Hp} {cs : List Addr} {E : XK} {D : Rds} {R : Rcv} (k : Refd CR CV H E D R) : Refd CR CV (offC H cs) (fun cls d H' => (∀ b ∈ cs, H' b = none) → E cls d (backC H cs H')) D R := by
  rcases k with ⟨j, hj, k⟩ | ⟨ok, x, e, k⟩
  · exact .inl ⟨j, hj, k.off⟩
  · exact .inr ⟨ok, x, e, k.off⟩
theorem Refd.mono {CR CV : Addr} {H : Hp} {E E' : XK} {D : Rds} {R : Rcv} (k : Refd CR CV H E D R) (h : ∀ cls d H', E cls d H' → E' cls d H') : Refd CR CV H E' D R := by
  rcases k with ⟨j, hj, k⟩ | ⟨ok, x, e, k⟩
  · exact .inl ⟨j, hj, fun d H' s a b => h _ _ _ (k d H' s a b)⟩
  · exact .inr ⟨ok, x, e, fun d H' s a b => h _ _ _ (k d H' s a b)⟩
def LamW (CR CV f : Addr) (H : Hp) (E : XK) : Prop := ∃ (i : Nat) (cl0 : List (Str × Addr)) (p rq : Addr) (D : Rds) (R : Rcv), i < 3 ∧ Lam1 H qW (lamW i) cl0 f ∧ Cl2 H cl0 p rq ∧ RoadsAt H p D ∧ RcvAt H rq R ∧ Refd CR CV H E D R
def LamT (CR f : Addr) (H : Hp) (E : XK) : Prop := ∃ (i : Nat) (cl0 : List (Str × Addr)) (p : Addr) (D : Rds) (j : Nat), i < 3 ∧ Lam1 H qO (lamT i) cl0 f ∧ Cl1 H cl0 p ∧ RoadsAt H p D ∧ BadAt D j ∧ XOut H E CR "number" (.int j)
def LamCall (CR CV f : Addr) (H : Hp) (E : XK) : Prop := LamW CR CV f H E ∨ LamT CR f H E
theorem LamCall.fn {CR CV f : Addr} {H : Hp} {E : XK} (k : LamCall CR CV f H E) : ∃ q p b sc cl c', H f = some (LamO f q p b sc cl c') := by
  rcases k with ⟨i, cl0, p, rq, D, R, h1, ⟨c', h2, _⟩, _⟩ | ⟨i, cl0, p, D, j, h1, ⟨c', h2, _⟩, _⟩
  · exact ⟨_, _, _, _, _, c', h2⟩
  · exact ⟨_, _, _, _, _, c', h2⟩
theorem LamCall.mono {CR CV f : Addr} {H : Hp} {E E' : XK} (k : LamCall CR CV f H E) (h : ∀ cls d H', E cls d H' → E' cls d H') : LamCall CR CV f H E' := by
  rcases k with ⟨i, cl0, p, rq, D, R, h1, h2, h3, h4, h5, k⟩ | ⟨i, cl0, p, D, j, h1, h2, h3, h4, h5, k⟩
  · exact .inl ⟨i, cl0, p, rq, D, R, h1, h2, h3, h4, h5, k.mono h⟩
  · exact .inr ⟨i, cl0, p, D, j, h1, h2, h3, h4, h5, fun d H' s a b => h _ _ _ (k d H' s a b)⟩
theorem Cl2.at_ {H : Hp} {cl0 : List (Str × Addr)} {p rq : Addr} (C : Cl2 H cl0 p rq) {x : Str} (h : x ∈ [("_law_roads_here" : Str), "_law_receiver_here"]) : ∃ c v, cl0.lookup x = some c ∧ H c = some (CelO c v) := by
  simp only [List.mem_cons, List.not_mem_nil, or_false] at h
  rcases h with rfl | rfl
  · obtain ⟨c, h1, h2⟩ := C.c0
    exact ⟨c, _, h1, h2⟩
  · obtain ⟨c, h1, h2⟩ := C.c1
    exact ⟨c, _, h1, h2⟩
theorem Cl1.at_ {H : Hp} {cl0 : List (Str × Addr)} {p : Addr} (C : Cl1 H cl0 p) {x : Str} (h : x ∈ [("_law_roads_here" : Str)]) : ∃ c v, cl0.lookup x = some c ∧ H c = some (CelO c v) := by
  simp only [List.mem_cons, List.not_mem_nil, or_false] at h
  subst h
  obtain ⟨c, h1, h2⟩ := C.c0
  exact ⟨c, _, h1, h2⟩
abbrev NW : List Str := [("_law_roads_here" : Str), "_law_receiver_here"]
abbrev NO : List Str := [("_law_roads_here" : Str)]
section
variable {P : Program} {w : World} {K : PySem.W.Frag} {mg : Str → Option Value} {base : Heap}
theorem lam_goW (T : Txt K mg) (A : Around) (outer : List Env) (s : Shared) (H : Hp) (Q : VK) (E : XK) (f : Addr) (hr : Room 7 A) (e0 : Env0 P w K mg base A outer s H) (k : LamW T.C_BadRoads T.C_BadReceiver f H E) : codeAny (model P w) A (.call (.ref f) ⟨[], []⟩) (CR (L2.CX P w) outer P w H s Q E) s := by
  obtain ⟨i, cl0, p, rq, D, R, h1, ⟨c', hL, hc⟩, C2, hp, hq, k⟩ := k
  have slots : ∀ (i : Nat) (x : Str) (v : V), NW[i]? = some x → ([some (.ref p), some (.ref rq)] : L2.St)[i]? = some (some v) → ∃ c, cl0.lookup x = some c ∧ H c = some (CelO c v) := fun i x v hx hv => by
    match i, hx, hv with
    | 0, hx, hv =>
      cases hx
      cases hv
      exact C2.c0
    | 1, hx, hv =>
      cases hx
      cases hv
      exact C2.c1
  have cells : ∀ {sc : Scope}, (sc.names.all fun y => !decide (y.2 = .free) || decide (y.1 ∈ NW)) = true → ∀ y ∈ sc.names, y.2 = .free → ∃ c v, cl0.lookup y.1 = some c ∧ H c = some (CelO c v) := fun {sc} h y hy e => by
    have := List.all_eq_true.mp h y hy
    rw [e] at this
    exact C2.at_ (by simpa using this)
  match i, h1, hL, hc with
  | 0, _, hL, hc =>
    refine lam_run (k := 6) (N := NW) (σ := [some (.ref p), some (.ref rq)]) hr e0 hL hc (lamN_by (by decide +kernel)) (fun _ _ _ _ => rfl) (cells (by decide +kernel)) C2.inj slots rfl
      (fun A s H E hr2 => pe_call (okx_run T) (hr2.mono (by decide)) (by rfl) T.mg_run T.kp_run T.b_run .nil (passes_call (takes_of rfl rfl rfl rfl) fun _ _ _ _ h => h) (pa_cons (pv 0) (pa_cons (pv 1) (pa_cons (pe_tup (pa_cons (pe_lst (pa_cons pe_int pa_nil)) (pa_cons (pe_lst pa_nil) pa_nil))) pa_nil)))) fun cs C => ?_
    refine ⟨_, rfl, _, rfl, by show 1 ≤ sizeLine; decide, fun x1 n1 => ⟨by show 0 ≤ sizeLine; decide, fun x2 n2 => ⟨by show 2 ≤ sizeLine; decide, fun x3 n3 => ?_⟩⟩⟩
    have s1 := ((Same.upd_new (o := .lst [.int 99]) n1).new (o := .lst []) n2).new (o := .tup [.ref x1, .ref x2]) n3
    exact ⟨p, rq, D, R, .ref x3, rfl, RoadsAt.same s1 (offRoads C hp), s1 _ _ (offT C hq), k.off.same s1⟩
  | 1, _, hL, hc =>
    refine lam_run (k := 6) (N := NW) (σ := [some (.ref p), some (.ref rq)]) hr e0 hL hc (lamN_by (by decide +kernel)) (fun _ _ _ _ => rfl) (cells (by decide +kernel)) C2.inj slots rfl
      (fun A s H E hr2 => pe_call (okx_faults T) (hr2.mono (by decide)) (by rfl) T.mg_faults T.kp_faults T.b_faults .nil (passes_call (takes_of rfl rfl rfl rfl) fun _ _ _ _ h => h) (pa_cons (pv 0) (pa_cons (pv 1) (pa_cons (pe_tup (pa_cons (pe_lst (pa_cons pe_int pa_nil)) (pa_cons (pe_lst pa_nil) pa_nil))) pa_nil)))) fun cs C => ?_
    refine ⟨_, rfl, _, rfl, by show 1 ≤ sizeLine; decide, fun x1 n1 => ⟨by show 0 ≤ sizeLine; decide, fun x2 n2 => ⟨by show 2 ≤ sizeLine; decide, fun x3 n3 => ?_⟩⟩⟩
    have s1 := ((Same.upd_new (o := .lst [.int 99]) n1).new (o := .lst []) n2).new (o := .tup [.ref x1, .ref x2]) n3
    exact ⟨p, rq, D, R, .ref x3, rfl, RoadsAt.same s1 (offRoads C hp), s1 _ _ (offT C hq), k.off.same s1⟩
  | 2, _, hL, hc =>
    refine lam_run (k := 6) (N := NW) (σ := [some (.ref p), some (.ref rq)]) hr e0 hL hc (lamN_by (by decide +kernel)) (fun _ _ _ _ => rfl) (cells (by decide +kernel)) C2.inj slots rfl
      (fun A s H E hr2 => pe_call (okx_judged T) (hr2.mono (by decide)) (by rfl) T.mg_judged T.kp_judged T.b_judged .nil (passes_call (takes_of rfl rfl rfl rfl) fun _ _ _ _ h => h) (pa_cons (pv 0) (pa_cons (pv 1) pa_nil))) fun cs C => ?_
    exact ⟨_, rfl, _, rfl, p, rq, D, R, rfl, offRoads C hp, offT C hq, k.off⟩
theorem lam_goT (T : Txt K mg) (A : Around) (outer : List Env) (s : Shared) (H : Hp) (Q : VK) (E : XK) (f : Addr) (hr : Room 7 A) (e0 : Env0 P w K mg base A outer s H) (k : LamT T.C_BadRoads f H E) : codeAny (model P w) A (.call (.ref f) ⟨[], []⟩) (CR (L2.CX P w) outer P w H s Q E) s := by
  obtain ⟨i, cl0, p, D, j, h1, ⟨c', hL, hc⟩, C2, hp, hj, k⟩ := k
  have slots : ∀ (i : Nat) (x : Str) (v : V), NO[i]? = some x → ([some (.ref p)] : L2.St)[i]? = some (some v) → ∃ c, cl0.lookup x = some c ∧ H c = some (CelO c v) := fun i x v hx hv => by
    match i, hx, hv with
    | 0, hx, hv =>
      cases hx
      cases hv
      exact C2.c0
  have cells : ∀ {sc : Scope}, (sc.names.all fun y => !decide (y.2 = .free) || decide (y.1 ∈ NO)) = true → ∀ y ∈ sc.names, y.2 = .free → ∃ c v, cl0.lookup y.1 = some c ∧ H c = some (CelO c v) := fun {sc} h y hy e => by
    have := List.all_eq_true.mp h y hy
    rw [e] at this
    exact C2.at_ (by simpa using this)
  match i, h1, hL, hc with
  | 0, _, hL, hc =>
    refine lam_run (k := 6) (N := NO) (σ := [some (.ref p)]) hr e0 hL hc (lamN_by (by decide +kernel)) (fun _ _ _ _ => rfl) (cells (by decide +kernel)) C2.inj slots rfl
      (fun A s H E hr2 => pe_call (okx_least_receiver T) (hr2.mono (by decide)) (by rfl) T.mg_least_receiver T.kp_least_receiver T.b_least_receiver .nil (passes_call (takes_of rfl rfl rfl rfl) fun _ _ _ _ h => h) (pa_cons (pv 0) pa_nil)) fun cs C => ?_
    exact ⟨_, rfl, p, D, j, rfl, offRoads C hp, hj, k.off⟩
  | 1, _, hL, hc =>
    refine lam_run (k := 6) (N := NO) (σ := [some (.ref p)]) hr e0 hL hc (lamN_by (by decide +kernel)) (fun _ _ _ _ => rfl) (cells (by decide +kernel)) C2.inj slots rfl
      (fun A s H E hr2 => pe_call (okx_written T) (hr2.mono (by decide)) (by rfl) T.mg_written T.kp_written T.b_written .nil (passes_call (takes_of rfl rfl rfl rfl) fun _ _ _ _ h => h) (pa_cons (pv 0) (pa_cons (pe_tup (pa_cons (pe_lst (pa_cons pe_int pa_nil)) (pa_cons (pe_lst pa_nil) pa_nil))) pa_nil))) fun cs C => ?_
    refine ⟨_, rfl, by show 1 ≤ sizeLine; decide, fun x1 n1 => ⟨by show 0 ≤ sizeLine; decide, fun x2 n2 => ⟨by show 2 ≤ sizeLine; decide, fun x3 n3 => ?_⟩⟩⟩
    have s1 := ((Same.upd_new (o := .lst [.int 99]) n1).new (o := .lst []) n2).new (o := .tup [.ref x1, .ref x2]) n3
    exact ⟨p, D, j, .ref x3, rfl, RoadsAt.same s1 (offRoads C hp), hj, k.off.same s1⟩
  | 2, _, hL, hc =>
    refine lam_run (k := 6) (N := NO) (σ := [some (.ref p)]) hr e0 hL hc (lamN_by (by decide +kernel)) (fun _ _ _ _ => rfl) (cells (by decide +kernel)) C2.inj slots rfl
      (fun A s H E hr2 => pe_call (okx_read T) (hr2.mono (by decide)) (by rfl) T.mg_read T.kp_read T.b_read .nil (passes_call (takes_of rfl rfl rfl rfl) fun _ _ _ _ h => h) (pa_cons (pv 0) (pa_cons pe_str pa_nil))) fun cs C => ?_
    exact ⟨_, rfl, p, D, j, _, rfl, offRoads C hp, hj, k.off⟩
theorem lam_go (T : Txt K mg) (A : Around) (outer : List Env) (s : Shared) (H : Hp) (Q : VK) (E : XK) (f : Addr) (hr : Room 7 A) (e0 : Env0 P w K mg base A outer s H) (k : LamCall T.C_BadRoads T.C_BadReceiver f H E) : codeAny (model P w) A (.call (.ref f) ⟨[], []⟩) (CR (L2.CX P w) outer P w H s Q E) s := by
  rcases k with k | k
  · exact lam_goW T A outer s H Q E f hr e0 k
  · exact lam_goT T A outer s H Q E f hr e0 k
end
def noE (CR CV : Addr) (Q : VK) : XK := fun cls d H' => (∃ (dd : Addr) (j : Int), d = some dd ∧ cls = .ref CR ∧ H' dd = some (.xd [("number", .int j)]) ∧ ∀ (t : Addr) (H'' : Hp), Same H' H'' → H'' t = some (.tup [.str "roads", .int j]) → Q (.ref t) H'') ∨
  (∃ (dd : Addr) (x : Str), d = some dd ∧ cls = .ref CV ∧ H' dd = some (.xd [("word", .str x)]) ∧ ∀ (t : Addr) (H'' : Hp), Same H' H'' → H'' t = some (.tup [.str "receiver", .str x]) → Q (.ref t) H'')
def spLword (CR CV : Addr) : Sp := fun vs H Q _ => ∃ f : Addr, vs = [.ref f] ∧ LamCall CR CV f H (noE CR CV Q)
theorem look_1 {f : Str} {x : V} : ([(f, x)] : List (Str × V)).lookup f = some x := by
  rw [List.lookup_cons]
  simp
section
variable {P : Program} {w : World} {K : PySem.W.Frag} {mg : Str → Option Value} {base : Heap}
theorem ok_Lword (T : Txt K mg) : FnOk P w K mg base CX0 9 T.f_Lword T.fd_Lword P_Lword (spLword T.C_BadRoads T.C_BadReceiver) := by
  refine T.F_Lword.ok sc_Lword (fun vs H Q E h => ?_) (fun cdv A outer s H vs Q E hr h => ?_)
  · obtain ⟨f, rfl, _⟩ := h
    rfl
  · obtain ⟨f, rfl, k⟩ := h
    refine ⟨_, ((pss_cons (ps_tryX (c := .ref T.C_RoadError) (i := 1) rfl rfl sc_Lword.nd rfl rfl ⟨rfl, by decide, .inl T.mg_RoadError⟩ (fun W pn xe tk _ => (pss_one (ps_expr (pe_callLam (i := 0) (k := 7) (spL := fun f H Q E => LamCall T.C_BadRoads T.C_BadReceiver f H E) (fun _ _ _ _ k => k.fn) (fun A outer s H Q E f hr e0 k => lam_go T A outer s H Q E f hr e0 k) (hr.mono (by decide)) rfl (.inl rfl) (fun σ => passAt tk σ))))))
  (pss_one (ps_ret (pe_tup (pa_cons pe_str (pa_cons pe_non pa_nil))))))), ?_⟩
    have ecv : ∀ (C : Addr) (u : Value), RelV (.ref C) u → u = .ref C := fun C u r => r
    refine ⟨f, rfl, k.mono fun cls dO H1 q => ?_⟩
    rcases q with ⟨d, j, rfl, rfl, hx, k⟩ | ⟨d, j, rfl, rfl, hx, k⟩
    · skip
      have XC : ExcC K T.C_BadRoads := ⟨T.xg_BadRoads, T.xk_BadRoads, T.ex_BadRoads, T.hd_BadRoads, T.xa_BadRoads, T.xn_BadRoads, T.xt_BadRoads, T.xm_BadRoads⟩
      refine ⟨true, T.m_BadRoads, fun _ a ha => fun oe pn hz hf => ⟨_, (pss_cons (ps_set (i := 2) sc_Lword.nd rfl (Or.inl rfl) (pe_lst (pa_cons (pe_callB (call_isX XC hz hf) (by rfl) T.z_isinstance (by decide +kernel) (pa_cons (pv 1) (pa_cons (pe_glob rfl T.mg_BadMark (v := .ref T.C_BadMark) rfl) pa_nil))) (pa_cons (pe_callB (call_isX XC hz hf) (by rfl) T.z_isinstance (by decide +kernel) (pa_cons (pv 1) (pa_cons (pe_glob rfl T.mg_BadReceiver (v := .ref T.C_BadReceiver) rfl) pa_nil))) (pa_cons (pe_callB (call_isX XC hz hf) (by rfl) T.z_isinstance (by decide +kernel) (pa_cons (pv 1) (pa_cons (pe_glob rfl T.mg_BadRoads (v := .ref T.C_BadRoads) rfl) pa_nil))) (pa_cons (pe_callB (call_isX XC hz hf) (by rfl) T.z_isinstance (by decide +kernel) (pa_cons (pv 1) (pa_cons (pe_glob rfl T.mg_BadRows (v := .ref T.C_BadRows) rfl) pa_nil))) pa_nil))))))
  (pss_cons (ps_expr (pe_bm PySem.F.plainAttrs_list PySem.F.slot_list_append PySem.F.type_list_append mt_append (pv 2) (pa_cons (pe_callB (call_isX XC hz hf) (by rfl) T.z_isinstance (by decide +kernel) (pa_cons (pv 1) (pa_cons (pe_glob rfl T.mg_BadText (v := .ref T.C_BadText) rfl) pa_nil))) pa_nil)))
  (pss_cons (ps_if (PW.pt (pw_or (pt_not (pt_val (pe_callB (call_isX XC hz hf) (by rfl) T.z_isinstance (by decide +kernel) (pa_cons (pv 1) (pa_cons (pe_bltn (v := .ty "ValueError") rfl T.z_ValueError (by decide +kernel) rfl) pa_nil))))) (pw_or1 (pt_cmpR op_ne (pe_bm PySem.F.plainAttrs_list PySem.F.slot_list_count PySem.F.type_list_count mt_countB (pv 2) (pa_cons pe_bl pa_nil)) pe_int (nomark _))))) (pss_one (ps_ret pe_non)) pss_nil)
  (pss_cons (ps_if (pt_val (pe_ix ix_list (pv 2) pe_int (fun _ _ => rfl))) (pss_one (ps_ret (pe_tup (pa_cons pe_str (pa_cons pe_non pa_nil))))) pss_nil)
  (pss_cons (ps_if (PW.pt (pw_or (pt_val (pe_ix ix_list (pv 2) pe_int (fun _ _ => rfl))) (pw_or1 (pt_val (pe_ix ix_list (pv 2) pe_int (fun _ _ => rfl)))))) (pss_one (ps_ret (pe_ifExp (pt_val (pe_ix ix_list (pv 2) pe_int (fun _ _ => rfl))) pe_nev (pe_tup (pa_cons pe_str (pa_cons (pe_xf (XfC.mk T.xg_BadRoads T.xk_BadRoads T.ex_BadRoads T.hd_BadRoads) T.nf_BadRoads_number hz hf (pv 1)) pa_nil)))))) pss_nil)
  pss_never))))), fun hl => ?_⟩, fun z => by cases z⟩
      rw [List.length_set] at hl
      obtain ⟨y0, y1, y2, hσ⟩ := len3w hl
      refine ⟨_, rfl, _, _, false, _, rfl, ecv _, hx, T.i_BadRoads_BadMark, _, rfl, _, _, false, _, rfl, ecv _, hx, T.i_BadRoads_BadReceiver, _, rfl, _, _, true, _, rfl, ecv _, hx, T.i_BadRoads_BadRoads, _, rfl, _, _, false, _, rfl, ecv _, hx, T.i_BadRoads_BadRows, by show 4 ≤ sizeLine; decide, fun l hl => ?_⟩
      generalize hH2 : upd H1 l _ = H2
      have hl2 : H2 l = some (.lst [.bl false, .bl false, .bl true, .bl false]) := by rw [← hH2]; exact upd_same
      have s1 : Same H1 H2 := by rw [← hH2]; exact Same.upd_new hl
      have hx1 := s1 _ _ hx
      refine ⟨_, rfl, .inl ⟨rfl, _, SqL.of hl2⟩, _, rfl, _, _, false, _, rfl, ecv _, hx1, T.i_BadRoads_BadText, l, _, _, rfl, rfl, hl2, by show 4 < sizeLine; decide, ?_⟩
      have s2 : Same H1 (upd H2 l (.lst ([.bl false, .bl false, .bl true, .bl false] ++ [.bl false]))) := s1.mut hl
      have hl3 : (upd H2 l (.lst ([.bl false, .bl false, .bl true, .bl false] ++ [.bl false]))) l = some (.lst ([false, false, true, false, false].map V.bl)) := upd_same
      revert s2 hl3
      generalize (upd H2 l (.lst ([.bl false, .bl false, .bl true, .bl false] ++ [.bl false]))) = H3
      intro s2 hl3
      have hx2 := s2 _ _ hx
      refine ⟨_, rfl, _, _, true, _, rfl, fun u r => r, hx2, T.i_BadRoads_VE, _, rfl, iteF ?_⟩
      refine ⟨_, rfl, .inl ⟨rfl, _, SqL.of hl3⟩, l, _, rfl, rfl, SqL.of hl3, rfl, _, rfl, iteNS rfl ?_⟩
      refine ⟨_, rfl, l, _, _, _, rfl, rfl, SqL.of hl3, at0, _, rfl, iteF ?_⟩
      refine ⟨_, rfl, l, _, _, _, rfl, rfl, SqL.of hl3, at1, _, rfl, iteF ?_⟩
      refine ⟨_, rfl, l, _, _, _, rfl, rfl, SqL.of hl3, at2, _, rfl, iteT ?_⟩
      refine ⟨_, rfl, l, _, _, _, rfl, rfl, SqL.of hl3, at1, _, rfl, iteF ?_⟩
      refine ⟨_, rfl, rfl, rfl, d, _, _, rfl, hx2, look_1, by show 2 ≤ sizeLine; decide, fun t ht => ?_⟩
      exact k t _ (s2.new ht) upd_same
    · skip
      have XC : ExcC K T.C_BadReceiver := ⟨T.xg_BadReceiver, T.xk_BadReceiver, T.ex_BadReceiver, T.hd_BadReceiver, T.xa_BadReceiver, T.xn_BadReceiver, T.xt_BadReceiver, T.xm_BadReceiver⟩
      refine ⟨true, T.m_BadReceiver, fun _ a ha => fun oe pn hz hf => ⟨_, (pss_cons (ps_set (i := 2) sc_Lword.nd rfl (Or.inl rfl) (pe_lst (pa_cons (pe_callB (call_isX XC hz hf) (by rfl) T.z_isinstance (by decide +kernel) (pa_cons (pv 1) (pa_cons (pe_glob rfl T.mg_BadMark (v := .ref T.C_BadMark) rfl) pa_nil))) (pa_cons (pe_callB (call_isX XC hz hf) (by rfl) T.z_isinstance (by decide +kernel) (pa_cons (pv 1) (pa_cons (pe_glob rfl T.mg_BadReceiver (v := .ref T.C_BadReceiver) rfl) pa_nil))) (pa_cons (pe_callB (call_isX XC hz hf) (by rfl) T.z_isinstance (by decide +kernel) (pa_cons (pv 1) (pa_cons (pe_glob rfl T.mg_BadRoads (v := .ref T.C_BadRoads) rfl) pa_nil))) (pa_cons (pe_callB (call_isX XC hz hf) (by rfl) T.z_isinstance (by decide +kernel) (pa_cons (pv 1) (pa_cons (pe_glob rfl T.mg_BadRows (v := .ref T.C_BadRows) rfl) pa_nil))) pa_nil))))))
  (pss_cons (ps_expr (pe_bm PySem.F.plainAttrs_list PySem.F.slot_list_append PySem.F.type_list_append mt_append (pv 2) (pa_cons (pe_callB (call_isX XC hz hf) (by rfl) T.z_isinstance (by decide +kernel) (pa_cons (pv 1) (pa_cons (pe_glob rfl T.mg_BadText (v := .ref T.C_BadText) rfl) pa_nil))) pa_nil)))
  (pss_cons (ps_if (PW.pt (pw_or (pt_not (pt_val (pe_callB (call_isX XC hz hf) (by rfl) T.z_isinstance (by decide +kernel) (pa_cons (pv 1) (pa_cons (pe_bltn (v := .ty "ValueError") rfl T.z_ValueError (by decide +kernel) rfl) pa_nil))))) (pw_or1 (pt_cmpR op_ne (pe_bm PySem.F.plainAttrs_list PySem.F.slot_list_count PySem.F.type_list_count mt_countB (pv 2) (pa_cons pe_bl pa_nil)) pe_int (nomark _))))) (pss_one (ps_ret pe_non)) pss_nil)
  (pss_cons (ps_if (pt_val (pe_ix ix_list (pv 2) pe_int (fun _ _ => rfl))) (pss_one (ps_ret (pe_tup (pa_cons pe_str (pa_cons pe_non pa_nil))))) pss_nil)
  (pss_cons (ps_if (PW.pt (pw_or (pt_val (pe_ix ix_list (pv 2) pe_int (fun _ _ => rfl))) (pw_or1 (pt_val (pe_ix ix_list (pv 2) pe_int (fun _ _ => rfl)))))) (pss_one (ps_ret (pe_ifExp (pt_val (pe_ix ix_list (pv 2) pe_int (fun _ _ => rfl))) (pe_tup (pa_cons pe_str (pa_cons (pe_xf (XfC.mk T.xg_BadReceiver T.xk_BadReceiver T.ex_BadReceiver T.hd_BadReceiver) T.nf_BadReceiver_word hz hf (pv 1)) pa_nil))) pe_nev))) pss_nil)
  pss_never))))), fun hl => ?_⟩, fun z => by cases z⟩
      rw [List.length_set] at hl
      obtain ⟨y0, y1, y2, hσ⟩ := len3w hl
      refine ⟨_, rfl, _, _, false, _, rfl, ecv _, hx, T.i_BadReceiver_BadMark, _, rfl, _, _, true, _, rfl, ecv _, hx, T.i_BadReceiver_BadReceiver, _, rfl, _, _, false, _, rfl, ecv _, hx, T.i_BadReceiver_BadRoads, _, rfl, _, _, false, _, rfl, ecv _, hx, T.i_BadReceiver_BadRows, by show 4 ≤ sizeLine; decide, fun l hl => ?_⟩
      generalize hH2 : upd H1 l _ = H2
      have hl2 : H2 l = some (.lst [.bl false, .bl true, .bl false, .bl false]) := by rw [← hH2]; exact upd_same
      have s1 : Same H1 H2 := by rw [← hH2]; exact Same.upd_new hl
      have hx1 := s1 _ _ hx
      refine ⟨_, rfl, .inl ⟨rfl, _, SqL.of hl2⟩, _, rfl, _, _, false, _, rfl, ecv _, hx1, T.i_BadReceiver_BadText, l, _, _, rfl, rfl, hl2, by show 4 < sizeLine; decide, ?_⟩
      have s2 : Same H1 (upd H2 l (.lst ([.bl false, .bl true, .bl false, .bl false] ++ [.bl false]))) := s1.mut hl
      have hl3 : (upd H2 l (.lst ([.bl false, .bl true, .bl false, .bl false] ++ [.bl false]))) l = some (.lst ([false, true, false, false, false].map V.bl)) := upd_same
      revert s2 hl3
      generalize (upd H2 l (.lst ([.bl false, .bl true, .bl false, .bl false] ++ [.bl false]))) = H3
      intro s2 hl3
      have hx2 := s2 _ _ hx
      refine ⟨_, rfl, _, _, true, _, rfl, fun u r => r, hx2, T.i_BadReceiver_VE, _, rfl, iteF ?_⟩
      refine ⟨_, rfl, .inl ⟨rfl, _, SqL.of hl3⟩, l, _, rfl, rfl, SqL.of hl3, rfl, _, rfl, iteNS rfl ?_⟩
      refine ⟨_, rfl, l, _, _, _, rfl, rfl, SqL.of hl3, at0, _, rfl, iteF ?_⟩
      refine ⟨_, rfl, l, _, _, _, rfl, rfl, SqL.of hl3, at1, _, rfl, iteT (iteT ?_)⟩
      refine ⟨_, rfl, l, _, _, _, rfl, rfl, SqL.of hl3, at1, _, rfl, iteT ?_⟩
      refine ⟨_, rfl, rfl, rfl, d, _, _, rfl, hx2, look_1, by show 2 ≤ sizeLine; decide, fun t ht => ?_⟩
      exact k t _ (s2.new ht) upd_same
end
/-! ### _law_bad_road, _law_why, odd roads, odd receivers -/
def spOddRoads (K : PySem.W.Frag) : Sp := fun vs H Q _ => ∃ (r p : Addr) (D : Rds), vs = [.ref r, .ref p] ∧ RowAt K r H ∧ RoadsAt H p D ∧ ∀ (p' : Addr) (D' : Rds) (H' : Hp), RoadsAt H' p' D' → RowAt K r H' → Kp r H H' → Q (.ref p') H'
def spOddRcv (K : PySem.W.Frag) : Sp := fun vs H Q _ => ∃ (r q : Addr) (R : Rcv), vs = [.ref r, .ref q] ∧ RowAt K r H ∧ RcvAt H q R ∧ ∀ (q' : Addr) (R' : Rcv) (H' : Hp), RcvAt H' q' R' → RowAt K r H' → Kp r H H' → Q (.ref q') H'
def RdV (D : Rds) (v : V) : Prop := (D.Ok ∧ v = .non) ∨ ∃ j : Nat, BadAt D j ∧ v = .int j
def spBadRoad : Sp := fun vs H Q _ => ∃ (p : Addr) (D : Rds), vs = [.ref p] ∧ RoadsAt H p D ∧ ∀ v H', Same H H' → RdV D v → Q v H'
def wordR (R : Rcv) : Str := match whyR R with
  | some x => x
  | none => ""
def spWhy : Sp := fun vs H Q _ => ∃ (q : Addr) (R : Rcv), vs = [.ref q] ∧ RcvAt H q R ∧ ∀ H', Same H H' → Q (.str (wordR R)) H'
theorem inV_rg (i a b : Int) : inV (.int i) (rgV a b) = decide (a ≤ i ∧ i < b) := by
  rw [Bool.eq_iff_iff, decide_eq_true_eq]
  unfold inV rgV
  rw [List.any_eq_true]
  constructor
  · rintro ⟨y, hy, e⟩
    obtain ⟨n, hn, rfl⟩ := List.mem_map.mp hy
    have hn := List.mem_range.mp hn
    have e' : a + (n : Int) = i := by simpa [eqV] using e
    omega
  · rintro ⟨h1, h2⟩
    refine ⟨.int (a + ((i - a).toNat : Nat)), List.mem_map.mpr ⟨_, List.mem_range.mpr (by omega), rfl⟩, ?_⟩
    have e' : a + (((i - a).toNat : Nat) : Int) = i := by omega
    rw [e']
    simp [eqV]
theorem flat_rg (a b : Int) : (rgV a b).all flatV = true := by
  rw [List.all_eq_true]
  intro y hy
  obtain ⟨n, hn, rfl⟩ := List.mem_map.mp hy
  rfl
/-- tuples of n ints -/
def AllX (n : Nat) (H : Hp) (xs : List V) : Prop := ∀ v ∈ xs, ∃ (x : Addr) (is : List Int), v = .ref x ∧ is.length = n ∧ H x = some (.tup (is.map V.int))
theorem AllX.nil (n : Nat) (H : Hp) : AllX n H [] := fun v h => absurd h List.not_mem_nil
theorem AllX.same {n : Nat} {H H' : Hp} {xs : List V} (a : AllX n H xs) (s : Same H H') : AllX n H' xs := fun v h => by
  obtain ⟨x, is, e, l, g⟩ := a v h
  exact ⟨x, is, e, l, s _ _ g⟩
theorem AllX.add2 {H : Hp} {xs : List V} {x : Addr} {a b : Int} (h : AllX 2 H xs) (n : H x = none) : AllX 2 (upd H x (.tup [.int a, .int b])) (xs ++ [.ref x]) := fun v hv => by
  rcases List.mem_append.mp hv with hv | hv
  · exact (h.same (Same.upd_new n)) v hv
  · rw [List.mem_singleton.mp hv]
    exact ⟨x, [a, b], rfl, rfl, upd_same⟩
theorem AllX.add3 {H : Hp} {xs : List V} {x : Addr} {a b c : Int} (h : AllX 3 H xs) (n : H x = none) : AllX 3 (upd H x (.tup [.int a, .int b, .int c])) (xs ++ [.ref x]) := fun v hv => by
  rcases List.mem_append.mp hv with hv | hv
  · exact (h.same (Same.upd_new n)) v hv
  · rw [List.mem_singleton.mp hv]
    exact ⟨x, [a, b, c], rfl, rfl, upd_same⟩
theorem AllX.get {n : Nat} {H : Hp} {xs : List V} (a : AllX n H xs) {v : Int} (h0 : 0 ≤ v) (h1 : v < xs.length) : ∃ (x : Addr) (is : List Int), atI xs v = some (.ref x) ∧ is.length = n ∧ H x = some (.tup (is.map V.int)) := by
  obtain ⟨j, rfl⟩ := Int.eq_ofNat_of_zero_le h0
  have hj : j < xs.length := by omega
  obtain ⟨x, is, e, l, g⟩ := a xs[j] (List.getElem_mem hj)
  exact ⟨x, is, by rw [atI_nat (List.getElem?_eq_getElem hj), e], l, g⟩
theorem len2i {is : List Int} (h : is.length = 2) : ∃ a b, is = [a, b] := by
  match is, h with
  | [a, b], _ => exact ⟨a, b, rfl⟩
theorem len3i {is : List Int} (h : is.length = 3) : ∃ a b c, is = [a, b, c] := by
  match is, h with
  | [a, b, c], _ => exact ⟨a, b, c, rfl⟩
section
variable {P : Program} {w : World} {K : PySem.W.Frag} {mg : Str → Option Value} {base : Heap}
theorem ok_Lwhy (T : Txt K mg) : FnOk P w K mg base CX0 1 T.f_Lwhy T.fd_Lwhy P_Lwhy spWhy := by
  refine T.F_Lwhy.ok sc_Lwhy (fun vs H Q E h => ?_) (fun cdv A outer s H vs Q E hr h => ?_)
  · obtain ⟨q, R, rfl, _⟩ := h
    rfl
  · obtain ⟨q, R, rfl, hq, k⟩ := h
    refine ⟨_, ((pss_cons (ps_asg (pv 0) (pg_tup rfl (pgs_cons (pg_name (i := 1) sc_Lwhy.nd rfl (Or.inl rfl)) (pgs_cons (pg_name (i := 2) sc_Lwhy.nd rfl (Or.inl rfl)) (pgs_cons (pg_name (i := 3) sc_Lwhy.nd rfl (Or.inl rfl)) pgs_nil)))))
  (pss_cons (ps_if (pt_cmpR op_notIn_seq (pv 1) (pe_listRg rfl (by rfl) T.z_list (prg_2 (by rfl) T.z_range pe_int pe_int)) (by rfl)) (pss_one (ps_ret pe_str)) pss_nil)
  (pss_cons (ps_if (pt_cmpR op_notIn_seq (pv 2) (pe_listRg rfl (by rfl) T.z_list (prg_2 (by rfl) T.z_range pe_int (pv 1))) (by rfl)) (pss_one (ps_ret pe_str)) pss_nil)
  (pss_one (ps_ret (pe_ifExp (pt_cmpR op_in_seq (pv 3) (pe_listRg rfl (by rfl) T.z_list (prg_1 (by rfl) T.z_range pe_int)) (by rfl)) pe_str pe_str))))))), ?_⟩
    refine ⟨_, rfl, q, _, rfl, SqT.of hq, rfl, _, _, rfl, _, _, rfl, _, _, rfl, rfl, ?_⟩
    unfold wordR whyR at k
    refine ⟨_, rfl, _, _, rfl, rfl, RgOk.of_le (by decide) (by decide) (by decide) (by decide), fun a na => ⟨a, _, rfl, .inl (SqL.of upd_same), rfl, flat_rg _ _, _, rfl, ?_⟩⟩
    rw [inV_rg]
    by_cases c0 : 2 ≤ R.mks ∧ R.mks < 33
    · rw [if_pos (show 2 ≤ R.mks ∧ R.mks ≤ 32 by omega)] at k
      refine iteNS c0 ?_
      have s1 : Same H (upd H a (.lst (rgV 2 33))) := Same.upd_new na
      refine ⟨_, rfl, _, rfl, _, _, rfl, rfl, RgOk.of_le (by decide) (by omega) (by decide) (by omega), fun b nb => ⟨b, _, rfl, .inl (SqL.of upd_same), rfl, flat_rg _ _, _, rfl, ?_⟩⟩
      rw [inV_rg]
      by_cases c1 : 1 ≤ R.ah ∧ R.ah < R.mks
      · rw [if_pos c1] at k
        refine iteNS c1 ?_
        refine ⟨_, rfl, _, rfl, RgOk.of_le (by decide) (by decide) (by decide) (by decide), fun c nc => ⟨c, _, rfl, .inl (SqL.of upd_same), rfl, flat_rg _ _, _, rfl, ?_⟩⟩
        rw [inV_rg]
        by_cases c2 : 0 ≤ R.wt ∧ R.wt < 21
        · rw [if_pos (show 0 ≤ R.wt ∧ R.wt ≤ 20 by omega)] at k
          exact iteD c2 (k _ ((s1.new nb).new nc))
        · rw [if_neg (show ¬ (0 ≤ R.wt ∧ R.wt ≤ 20) by omega)] at k
          exact iteND c2 (k _ ((s1.new nb).new nc))
      · rw [if_neg c1] at k
        exact iteNN c1 (k _ (s1.new nb))
    · rw [if_neg (show ¬ (2 ≤ R.mks ∧ R.mks ≤ 32) by omega)] at k
      exact iteNN c0 (k _ (Same.upd_new na))
theorem ok_Lodd_roads (T : Txt K mg) : FnOk P w K mg base CX0 2 T.f_Lodd_roads T.fd_Lodd_roads P_Lodd_roads (spOddRoads K) := by
  refine T.F_Lodd_roads.ok sc_Lodd_roads (fun vs H Q E h => ?_) (fun cdv A outer s H vs Q E hr h => ?_)
  · obtain ⟨r, p, D, rfl, _⟩ := h
    rfl
  · obtain ⟨r, p, D, rfl, row0, hp, k⟩ := h
    refine ⟨_, ((pss_cons (ps_set (i := 2) sc_Lodd_roads.nd rfl (Or.inl rfl) (pe_call (ok_Ltaken T) (hr.mono (by decide)) (by rfl) T.mg_Ltaken T.kp_Ltaken T.b_Ltaken .nil pass0 (pa_cons (pv 0) (pa_cons pe_int pa_nil))))
  (pss_cons (ps_set (i := 3) sc_Lodd_roads.nd rfl (Or.inl rfl) (pe_lst (pa_cons (pe_tup (pa_cons (pe_op op_sub (pe_op op_sub pe_int pe_int) (pv 2)) (pa_cons pe_int pa_nil))) (pa_cons (pe_tup (pa_cons pe_int (pa_cons (pe_op op_add pe_int (pv 2)) pa_nil))) (pa_cons (pe_tup (pa_cons pe_int (pa_cons pe_int pa_nil))) (pa_cons (pe_tup (pa_cons pe_int (pa_cons pe_int pa_nil))) (pa_cons (pe_tup (pa_cons pe_int (pa_cons pe_int pa_nil))) (pa_cons (pe_tup (pa_cons pe_int (pa_cons (pe_op op_sub pe_int (pv 2)) pa_nil))) (pa_cons (pe_tup (pa_cons (pe_op op_add pe_int (pv 2)) (pa_cons (pe_op op_add pe_int (pv 2)) pa_nil))) pa_nil)))))))))
  (pss_cons (ps_set (i := 4) sc_Lodd_roads.nd rfl (Or.inl rfl) (pe_ix ix_list (pv 3) (pe_call (ok_Ltaken T) (hr.mono (by decide)) (by rfl) T.mg_Ltaken T.kp_Ltaken T.b_Ltaken .nil pass0 (pa_cons (pv 0) (pa_cons pe_int pa_nil))) (fun _ _ => rfl)))
  (pss_one (ps_ret (pe_ix ix_list (pe_lst (pa_cons (pe_tup (pa_cons (pv 4) (pa_cons (pe_ix ix_tup (pv 1) pe_int (fun _ _ => rfl)) pa_nil))) (pa_cons (pe_tup (pa_cons (pe_ix ix_tup (pv 1) pe_int (fun _ _ => rfl)) (pa_cons (pv 4) pa_nil))) (pa_cons (pe_tup (pa_cons (pv 4) (pa_cons (pv 4) pa_nil))) pa_nil)))) (pe_call (ok_Ltaken T) (hr.mono (by decide)) (by rfl) T.mg_Ltaken T.kp_Ltaken T.b_Ltaken .nil pass0 (pa_cons (pv 0) (pa_cons pe_int pa_nil))) (fun _ _ => rfl)))))))), ?_⟩
    refine ⟨_, rfl, r, _, rfl, by decide, row0, fun far H1 f0 f1 row1 k1 => ?_⟩
    have hp1 := k1.roads row0 hp
    have n2 : 2 ≤ sizeLine := by decide
    refine ⟨_, _, rfl, rfl, _, rfl, _, _, rfl, rfl, n2, fun x1 m1 => ⟨_, rfl, _, _, rfl, rfl, n2, fun x2 m2 => ⟨n2, fun x3 m3 => ⟨n2, fun x4 m4 => ⟨n2, fun x5 m5 => ⟨_, rfl, _, _, rfl, rfl, n2, fun x6 m6 => ⟨_, rfl, _, _, rfl, rfl, _, rfl, _, _, rfl, rfl, n2, fun x7 m7 => ⟨by show 7 ≤ sizeLine; decide, fun l nl => ?_⟩⟩⟩⟩⟩⟩⟩⟩
    have al := ((((((((AllX.nil 2 H1).add2 m1).add2 m2).add2 m3).add2 m4).add2 m5).add2 m6).add2 m7).same (Same.upd_new (o := .lst [.ref x1, .ref x2, .ref x3, .ref x4, .ref x5, .ref x6, .ref x7]) nl)
    have sl := (((((((Same.upd_new m1).new m2).new m3).new m4).new m5).new m6).new m7).new (o := .lst [.ref x1, .ref x2, .ref x3, .ref x4, .ref x5, .ref x6, .ref x7]) nl
    have row2 := row1.same sl
    have hp2 := RoadsAt.same sl hp1
    have k2 := k1.trans (Kp.of (r := r) sl)
    have nr := ((((((((row1.new m1).new m2).new m3).new m4).new m5).new m6).new m7)).ne nl
    refine ⟨_, rfl, _, rfl, r, _, rfl, by decide, row2, fun v H3 v0 v1 row3 k3 => ?_⟩
    obtain ⟨o, is, hat, lis, ho⟩ := al.get v0 (show v < ((7 : Nat) : Int) from v1)
    obtain ⟨a, b, rfl⟩ := len2i lis
    refine ⟨l, _, _, _, rfl, rfl, SqL.of (k3 _ _ nr upd_same), hat, ?_⟩
    have ho3 := k3.tup row2 ho
    have hp3 := k3.roads row2 hp2
    have k03 := k2.trans k3
    obtain ⟨t0, t1, g1, g2, g3⟩ := hp3
    refine ⟨_, rfl, _, rfl, p, _, _, _, rfl, rfl, SqT.of g1, at1, n2, fun y1 w1 => ⟨_, rfl, p, _, _, _, rfl, rfl, SqT.of ((Same.upd_new w1) _ _ g1), at0, _, rfl, n2, fun y2 w2 => ⟨_, rfl, _, rfl, n2, fun y3 w3 => ⟨by show 3 ≤ sizeLine; decide, fun l2 nl2 => ?_⟩⟩⟩⟩
    have s4 := (((Same.upd_new (o := .tup [.ref o, .ref t1]) w1).new (o := .tup [.ref t0, .ref o]) w2).new (o := .tup [.ref o, .ref o]) w3).new (o := .lst [.ref y1, .ref y2, .ref y3]) nl2
    have e1 := (Same.upd_new (o := .lst [.ref y1, .ref y2, .ref y3]) nl2) _ _ ((Same.upd_new (o := .tup [.ref o, .ref o]) w3) _ _ ((Same.upd_new (o := .tup [.ref t0, .ref o]) w2) _ _ (upd_same (o := .tup [.ref o, .ref t1]))))
    have e2 := (Same.upd_new (o := .lst [.ref y1, .ref y2, .ref y3]) nl2) _ _ ((Same.upd_new (o := .tup [.ref o, .ref o]) w3) _ _ (upd_same (o := .tup [.ref t0, .ref o])))
    have e3 := (Same.upd_new (o := .lst [.ref y1, .ref y2, .ref y3]) nl2) _ _ (upd_same (o := .tup [.ref o, .ref o]))
    have row4 := row3.same s4
    have nr2 := (((row3.new (o := .tup [.ref o, .ref t1]) w1).new (o := .tup [.ref t0, .ref o]) w2).new (o := .tup [.ref o, .ref o]) w3).ne nl2
    refine ⟨_, rfl, r, _, rfl, by decide, row4, fun u H5 u0 u1 row5 k5 => ?_⟩
    have kk := (k03.trans (Kp.of s4)).trans k5
    have f0 := k5.tup row4 (s4 _ _ ho3)
    have f1 := k5.tup row4 (s4 _ _ g2)
    have f2 := k5.tup row4 (s4 _ _ g3)
    have h : u = 0 ∨ u = 1 ∨ u = 2 := by omega
    rcases h with rfl | rfl | rfl
    · exact ⟨l2, _, _, _, rfl, rfl, SqL.of (k5 _ _ nr2 upd_same), at0, k y1 ⟨a, b, D.l1, D.m1⟩ H5 ⟨o, t1, k5.tup row4 e1, f0, f2⟩ row5 kk⟩
    · exact ⟨l2, _, _, _, rfl, rfl, SqL.of (k5 _ _ nr2 upd_same), at1, k y2 ⟨D.l0, D.m0, a, b⟩ H5 ⟨t0, o, k5.tup row4 e2, f1, f0⟩ row5 kk⟩
    · exact ⟨l2, _, _, _, rfl, rfl, SqL.of (k5 _ _ nr2 upd_same), at2, k y3 ⟨a, b, a, b⟩ H5 ⟨o, o, k5.tup row4 e3, f0, f0⟩ row5 kk⟩
theorem ok_Lodd_receiver (T : Txt K mg) : FnOk P w K mg base CX0 2 T.f_Lodd_receiver T.fd_Lodd_receiver P_Lodd_receiver (spOddRcv K) := by
  refine T.F_Lodd_receiver.ok sc_Lodd_receiver (fun vs H Q E h => ?_) (fun cdv A outer s H vs Q E hr h => ?_)
  · obtain ⟨r, q, R, rfl, _⟩ := h
    rfl
  · obtain ⟨r, q, R, rfl, row0, hq, k⟩ := h
    refine ⟨_, ((pss_cons (ps_asg (pv 1) (pg_tup rfl (pgs_cons (pg_name (i := 2) sc_Lodd_receiver.nd rfl (Or.inl rfl)) (pgs_cons (pg_name (i := 3) sc_Lodd_receiver.nd rfl (Or.inl rfl)) (pgs_cons (pg_name (i := 4) sc_Lodd_receiver.nd rfl (Or.inl rfl)) pgs_nil)))))
  (pss_cons (ps_set (i := 5) sc_Lodd_receiver.nd rfl (Or.inl rfl) (pe_call (ok_Ltaken T) (hr.mono (by decide)) (by rfl) T.mg_Ltaken T.kp_Ltaken T.b_Ltaken .nil pass0 (pa_cons (pv 0) (pa_cons pe_int pa_nil))))
  (pss_cons (ps_set (i := 6) sc_Lodd_receiver.nd rfl (Or.inl rfl) (pe_lst (pa_cons (pe_tup (pa_cons pe_int (pa_cons (pv 3) (pa_cons (pv 4) pa_nil)))) (pa_cons (pe_tup (pa_cons (pe_op op_add pe_int (pv 5)) (pa_cons (pv 3) (pa_cons (pv 4) pa_nil)))) (pa_cons (pe_tup (pa_cons (pe_op op_sub pe_int (pv 5)) (pa_cons pe_int (pa_cons pe_int pa_nil)))) (pa_cons (pe_tup (pa_cons (pv 2) (pa_cons pe_int (pa_cons (pv 4) pa_nil)))) (pa_cons (pe_tup (pa_cons (pv 2) (pa_cons (pe_op op_add (pv 2) (pv 5)) (pa_cons (pv 4) pa_nil)))) pa_nil)))))))
  (pss_cons (ps_set (i := 6) sc_Lodd_receiver.nd rfl (Or.inl rfl) (pe_op op_cat (pv 6) (pe_lst (pa_cons (pe_tup (pa_cons (pv 2) (pa_cons (pe_op op_sub pe_int (pv 5)) (pa_cons pe_int pa_nil)))) (pa_cons (pe_tup (pa_cons (pv 2) (pa_cons (pv 3) (pa_cons (pe_op op_add pe_int (pv 5)) pa_nil)))) (pa_cons (pe_tup (pa_cons (pv 2) (pa_cons (pv 3) (pa_cons (pe_op op_sub (pe_op op_sub pe_int pe_int) (pv 5)) pa_nil)))) (pa_cons (pe_tup (pa_cons pe_int (pa_cons pe_int (pa_cons pe_int pa_nil)))) pa_nil)))))))
  (pss_one (ps_ret (pe_ix ix_list (pe_op op_cat (pv 6) (pe_lst (pa_cons (pe_tup (pa_cons pe_int (pa_cons pe_int (pa_cons pe_int pa_nil)))) (pa_cons (pe_tup (pa_cons (pv 2) (pa_cons (pv 2) (pa_cons pe_int pa_nil)))) pa_nil)))) (pe_call (ok_Ltaken T) (hr.mono (by decide)) (by rfl) T.mg_Ltaken T.kp_Ltaken T.b_Ltaken .nil pass0 (pa_cons (pv 0) (pa_cons pe_int pa_nil))) (fun _ _ => rfl))))))))), ?_⟩
    refine ⟨_, rfl, q, _, rfl, SqT.of hq, rfl, _, _, rfl, _, _, rfl, _, _, rfl, rfl, ?_⟩
    refine ⟨_, rfl, r, _, rfl, by decide, row0, fun far H1 f0 f1 row1 k1 => ?_⟩
    have n3 : 3 ≤ sizeLine := by decide
    refine ⟨_, rfl, _, rfl, n3, fun x1 m1 => ⟨_, rfl, _, _, rfl, rfl, _, rfl, _, rfl, n3, fun x2 m2 => ⟨_, rfl, _, _, rfl, rfl, n3, fun x3 m3 => ⟨_, rfl, _, rfl, n3, fun x4 m4 => ⟨_, rfl, _, rfl, _, rfl, _, _, rfl, rfl, _, rfl, n3, fun x5 m5 => ⟨by show 5 ≤ sizeLine; decide, fun l1 nl1 => ?_⟩⟩⟩⟩⟩⟩
    have al1 := ((((((AllX.nil 3 H1).add3 m1).add3 m2).add3 m3).add3 m4).add3 m5).same (Same.upd_new (o := .lst [.ref x1, .ref x2, .ref x3, .ref x4, .ref x5]) nl1)
    have s1 := (((((Same.upd_new m1).new m2).new m3).new m4).new m5).new (o := .lst [.ref x1, .ref x2, .ref x3, .ref x4, .ref x5]) nl1
    refine ⟨_, rfl, _, rfl, _, rfl, _, _, rfl, rfl, n3, fun x6 m6 => ⟨_, rfl, _, rfl, _, rfl, _, _, rfl, rfl, n3, fun x7 m7 => ⟨_, rfl, _, rfl, _, _, rfl, rfl, _, rfl, _, _, rfl, rfl, n3, fun x8 m8 => ⟨n3, fun x9 m9 => ⟨by show 4 ≤ sizeLine; decide, fun l2 nl2 => ?_⟩⟩⟩⟩⟩
    have al2 := ((((al1.add3 m6).add3 m7).add3 m8).add3 m9).same (Same.upd_new (o := .lst [.ref x6, .ref x7, .ref x8, .ref x9]) nl2)
    have s2 := ((((Same.upd_new m6).new m7).new m8).new m9).new (o := .lst [.ref x6, .ref x7, .ref x8, .ref x9]) nl2
    refine ⟨l1, l2, _, _, rfl, rfl, s2 _ _ upd_same, upd_same, by show 9 ≤ sizeLine; decide, fun l3 nl3 => ?_⟩
    have al3 := al2.same (Same.upd_new (o := .lst ([.ref x1, .ref x2, .ref x3, .ref x4, .ref x5] ++ [.ref x6, .ref x7, .ref x8, .ref x9])) nl3)
    have s3 := (s1.trans s2).new (o := .lst ([.ref x1, .ref x2, .ref x3, .ref x4, .ref x5] ++ [.ref x6, .ref x7, .ref x8, .ref x9])) nl3
    refine ⟨_, rfl, n3, fun x10 m10 => ⟨_, rfl, _, rfl, n3, fun x11 m11 => ⟨by show 2 ≤ sizeLine; decide, fun l4 nl4 => ?_⟩⟩⟩
    have al4 := ((al3.add3 m10).add3 m11).same (Same.upd_new (o := .lst [.ref x10, .ref x11]) nl4)
    have s4 := ((Same.upd_new m10).new m11).new (o := .lst [.ref x10, .ref x11]) nl4
    refine ⟨l3, l4, _, _, rfl, rfl, s4 _ _ upd_same, upd_same, by show 11 ≤ sizeLine; decide, fun l5 nl5 => ?_⟩
    have al5 := al4.same (Same.upd_new (o := .lst (([.ref x1, .ref x2, .ref x3, .ref x4, .ref x5] ++ [.ref x6, .ref x7, .ref x8, .ref x9]) ++ [.ref x10, .ref x11])) nl5)
    have s5 := (s3.trans s4).new (o := .lst (([.ref x1, .ref x2, .ref x3, .ref x4, .ref x5] ++ [.ref x6, .ref x7, .ref x8, .ref x9]) ++ [.ref x10, .ref x11])) nl5
    have row5 := row1.same s5
    have nr := (row1.same (s3.trans s4)).ne nl5
    refine ⟨_, rfl, r, _, rfl, by decide, row5, fun v H6 v0 v1 row6 k6 => ?_⟩
    obtain ⟨o, is, hat, lis, ho⟩ := al5.get v0 (show v < ((11 : Nat) : Int) from v1)
    obtain ⟨a, b, c, rfl⟩ := len3i lis
    exact ⟨l5, _, _, _, rfl, rfl, SqL.of (k6 _ _ nr upd_same), hat, k o ⟨a, b, c⟩ H6 (k6.tup row5 ho) row6 ((k1.trans (Kp.of s5)).trans k6)⟩
theorem ok_Lbad_road (T : Txt K mg) : FnOk P w K mg base CX0 1 T.f_Lbad_road T.fd_Lbad_road P_Lbad_road spBadRoad := by
  refine T.F_Lbad_road.ok sc_Lbad_road (fun vs H Q E h => ?_) (fun cdv A outer s H vs Q E hr h => ?_)
  · obtain ⟨p, D, rfl, _⟩ := h
    rfl
  · obtain ⟨p, D, rfl, ⟨t0, t1, g1, g2, g3⟩, k⟩ := h
    refine ⟨_, ((pss_cons (ps_for PassesOwn.never rfl (pi_range1 (by rfl) T.z_range (pa_cons pe_int pa_nil)) (pg_name (i := 1) sc_Lbad_road.nd rfl (Or.inl rfl))
  (pss_one (ps_if (PW.pt (pw_or (pt_cmpR (op_neD hr.units) (pe_lc (own := [("_law_one", 2)]) (g := gName 2) rfl sc_Lbad_road.nd (pi_tup (pe_ix ix_tup (pv 0) (pv 1) (fun _ _ => rfl))) (blkOk_by (N := N_Lbad_road) (sc := (defScope s_Lbad_road)) (own := [("_law_one", 2)]) (by decide +kernel)) (fun _ _ _ _ _ => (pg_name (i := 2) sc_Lbad_road.nd rfl (Or.inl rfl))) (fun _ _ _ _ _ => pts_one (pt_cmpR (notInK (K := K) rfl) (pv 2) (pe_listRg rfl (by rfl) T.z_list (prg_1 (by rfl) T.z_range pe_int)) (by rfl))) (fun _ _ _ _ _ => (pv 2))) (pe_lst pa_nil) (nomark _)) (pw_or1 (pt_cmpR op_gt (pe_ix ix_tup (pe_ix ix_tup (pv 0) (pv 1) (fun _ _ => rfl)) pe_int (fun _ _ => rfl)) (pe_ix ix_tup (pe_ix ix_tup (pv 0) (pv 1) (fun _ _ => rfl)) pe_int (fun _ _ => rfl)) (nomark _))))) (pss_one (ps_ret (pv 1))) pss_nil)))
  (pss_one (ps_ret pe_non)))), ?_⟩
    refine ⟨_, rfl, by decide, by decide, for_range (n := 2) (fun i σ H' => Same H H' ∧ (∀ j, j < i → okR D j) ∧ ∃ v1 v2 : Option V, σ = [some (.ref p), v1, v2]) ⟨Same.refl H, fun j h => absurd h (Nat.not_lt_zero _), none, none, rfl⟩ ?_ ?_⟩
    · rintro i σ H1 hi ⟨s1, hb, v1, v2, rfl⟩
      obtain ⟨t, ha, ht⟩ := road_at (R := D) g2 g3 hi
      have g1' := s1 _ _ g1
      have ht' := s1 _ _ ht
      have step : okR D i → (∀ j, j < i + 1 → okR D j) := fun h j hj => by
        by_cases c : j = i
        · rw [c]
          exact h
        · exact hb j (by omega)
      have bad : ∀ H' : Hp, Same H1 H' → ¬ okR D i → Q (.int (0 + i)) H' := fun H' s' h => k _ H' (s1.trans s') (.inr ⟨i, ⟨hi, hb, h⟩, by rw [Int.zero_add]⟩)
      refine ⟨_, rfl, _, rfl, p, _, _, _, rfl, rfl, SqT.of g1', ha, t, rfl, ⟨_, SqT.of ht'⟩, fun L hL => lc_tup (K := K) (a := t) (xs := ([D.lo i, D.hi i] : List Int).map V.int) (fun j H' => Same H1 H' ∧ H' L = some (.lst (((([D.lo i, D.hi i] : List Int).take j).filter fun z => !decide (0 ≤ z ∧ z < 10)).map V.int))) ⟨Same.upd_new hL, upd_same⟩ (fun _ H' _ z => z.1.sqt (SqT.of ht')) ?_ ?_⟩
      · rintro j y H2 hj ⟨s2, h2⟩
        rw [List.getElem?_map] at hj
        obtain ⟨z, hz, rfl⟩ := Option.map_eq_some_iff.mp hj
        refine ⟨rfl, _, rfl, _, rfl, RgOk.of_le (by decide) (by decide) (by decide) (by decide), fun c nc => ⟨c, _, rfl, .inl (SqL.of upd_same), rfl, flat_rg _ _, _, rfl, ?_⟩⟩
        rw [inV_rg, take_succ_of hz, List.filter_append]
        have h3 := (Same.upd_new (o := .lst (rgV 0 10)) nc) _ _ h2
        have s3 := s2.new (o := .lst (rgV 0 10)) nc
        by_cases cz : 0 ≤ z ∧ z < 10
        · refine iteNS cz ⟨s3, ?_⟩
          rw [h3, show ([z].filter fun z => !decide (0 ≤ z ∧ z < 10)) = [] from by rw [List.filter_cons, decide_eq_true cz]; rfl, List.append_nil]
        · refine iteNN cz ⟨_, rfl, _, h3, ?_, s3.mut hL, ?_⟩
          · refine small1000 ?_
            rw [List.length_map]
            have := List.length_filter_le (fun z => !decide (0 ≤ z ∧ z < 10)) (([D.lo i, D.hi i] : List Int).take j)
            rw [List.length_take] at this
            have h2l : ([D.lo i, D.hi i] : List Int).length = 2 := rfl
            omega
          · rw [show ([z].filter fun z => !decide (0 ≤ z ∧ z < 10)) = [z] from by rw [List.filter_cons, decide_eq_false cz]; rfl, List.map_append]
            exact upd_same
      · rintro H2 ⟨s2, h2⟩
        have h2' : H2 L = some (.lst ((([D.lo i, D.hi i] : List Int).filter fun z => !decide (0 ≤ z ∧ z < 10)).map V.int)) := h2
        have hin : ∀ z : Int, z = D.lo i ∨ z = D.hi i → (z ∈ ([D.lo i, D.hi i] : List Int).filter fun z => !decide (0 ≤ z ∧ z < 10)) ∨ (0 ≤ z ∧ z < 10) := fun z hz => by
          by_cases c : 0 ≤ z ∧ z < 10
          · exact .inr c
          · refine .inl (List.mem_filter.mpr ⟨?_, by rw [decide_eq_false c]; rfl⟩)
            rcases hz with rfl | rfl <;> simp
        have hout : ∀ z : Int, (z ∈ ([D.lo i, D.hi i] : List Int).filter fun z => !decide (0 ≤ z ∧ z < 10)) → (z = D.lo i ∨ z = D.hi i) ∧ ¬ (0 ≤ z ∧ z < 10) := fun z hz => by
          obtain ⟨h1, h2⟩ := List.mem_filter.mp hz
          refine ⟨by simpa using h1, fun c => ?_⟩
          rw [decide_eq_true c] at h2
          cases h2
        revert h2' hin hout
        generalize (([D.lo i, D.hi i] : List Int).filter fun z => !decide (0 ≤ z ∧ z < 10)) = B
        intro h2' hin hout
        refine ⟨by show 0 ≤ sizeLine; decide, fun e0 ne0 => ⟨.list (B.map PyData.int), .list [], .lst (SqL.of ((Same.upd_new ne0) _ _ h2')) (dp_ints _), .lst (SqL.of upd_same) .nil, shaped_ints _, rfl, ?_⟩⟩
        rw [eqv_ints]
        have s3 := s2.new (o := .lst []) ne0
        cases B with
        | cons z zs =>
          obtain ⟨q1, q2⟩ := hout z List.mem_cons_self
          exact ⟨_, rfl, iteT (iteT ⟨_, rfl, bad _ s3 fun ok => q2 (by
            obtain ⟨o1, o2, o3⟩ := ok
            rcases q1 with rfl | rfl <;> omega)⟩)⟩
        | nil =>
          have r0 := (hin (D.lo i) (.inl rfl)).resolve_left List.not_mem_nil
          have r1 := (hin (D.hi i) (.inr rfl)).resolve_left List.not_mem_nil
          refine ⟨_, rfl, iteF ⟨_, rfl, _, rfl, p, _, _, _, rfl, rfl, SqT.of (s3 _ _ g1'), ha, t, _, _, _, rfl, rfl, SqT.of (s3 _ _ ht'), at0, _, rfl, _, rfl, p, _, _, _, rfl, rfl, SqT.of (s3 _ _ g1'), ha, t, _, _, _, rfl, rfl, SqT.of (s3 _ _ ht'), at1, _, _, rfl, rfl, _, rfl, ?_⟩⟩
          by_cases c : D.hi i < D.lo i
          · exact iteD c ⟨_, rfl, bad _ s3 fun ok => by
              obtain ⟨o1, o2, o3⟩ := ok
              omega⟩
          · exact iteND c ⟨s1.trans s3, step ⟨r0.1, by omega, by omega⟩, _, _, rfl⟩
    · rintro σ H1 ⟨s1, hb, v1, v2, rfl⟩
      refine k _ _ s1 (.inl ⟨?_, rfl⟩)
      obtain ⟨a0, a1, a2⟩ := hb 0 (by decide)
      obtain ⟨b0, b1, b2⟩ := hb 1 (by decide)
      exact ⟨⟨a0, a1, a2⟩, b0, b1, b2⟩
end
/-! ### the end where defs make lambdas: tables; the script is locked -/
/-- the law's promise: True, where the tables are empty -/
def spLawT (K : PySem.W.Frag) (cs : List (Addr × Addr)) : Sp := fun vs H Q _ => ∃ (a : Addr) (ns : List Int), vs = [.ref a] ∧ Scr K H a ns ∧ (∀ p ∈ cs, H p.2 = some (.tbl #[])) ∧ ∀ H', Q (.bl true) H'
def spLawU (K : PySem.W.Frag) (cs : List (Addr × Addr)) : Sp := fun vs H Q _ => ∃ (a : Addr) (ns : List Int), vs = [.ref a] ∧ SqL K H a (ns.map V.int) ∧ (∀ p ∈ cs, H p.2 = some (.tbl #[])) ∧ ∀ H', Q (.bl true) H'
theorem un_lock {fs ex : List Addr} {H H' : Hp} {h h' : Heap} {a : Addr} {xs : List V} {ob : Obj} (e : H a = some (.lst xs)) (u : Un fs ex (upd H a (.frz ob (.lst xs))) H' h h') : Un fs ex H H' h h' := by
  have ne : ∀ {b : Addr}, H b = none → (upd H a (.frz ob (.lst xs))) b = none := fun {b} hb => by
    rw [upd_ne (fun z => by rw [z, e] at hb; cases hb)]
    exact hb
  have at_ : ∀ {b : Addr} {o : HO}, H b = some o → o ≠ .lst xs → (upd H a (.frz ob (.lst xs))) b = some o := fun {b o} hb n => by
    rw [upd_ne (fun z => by rw [z, e] at hb; cases hb; exact n rfl)]
    exact hb
  exact ⟨fun b o q n => u.keep b o q (ne n), fun b o q n => u.slot b o q (ne n), fun b o q n => u.free b o q (ne n), u.there, fun b ys q => u.tups b ys (at_ q fun z => by cases z), fun b o v q => u.frzs b o v (at_ q fun z => by cases z), fun b ps q => u.tbls b ps (at_ q fun z => by cases z)⟩
theorem env_lock {P : Program} {w : World} {K : PySem.W.Frag} {mg : Str → Option Value} {base : Heap} {A : Around} {outer : List Env} {s : Shared} {H : Hp} {a : Addr} {xs : List V} (e0 : Env0 P w K mg base A outer s H) (e : H a = some (.lst xs)) :
    ∃ ob : Obj, Env0 P w K mg base A outer s (upd H a (.frz ob (.lst xs))) := by
  obtain ⟨hl, its, n, rv, eg⟩ := e0.hok a _ e
  have ne : ∀ {b : Addr} {u : HO}, H b = none → (upd H a u) b = none := fun {b u} hb => by
    rw [upd_ne (fun z => by rw [z, e] at hb; cases hb)]
    exact hb
  refine ⟨{ cls := .type "list", data := .seq its.toArray n }, e0.frames, e0.mod, fun b o q => ⟨(e0.bs b o q).1, ne (e0.bs b o q).2⟩, e0.bsz, e0.funs, fun b hb => ne (e0.frf b hb), fun b o q => ?_, e0.bare⟩
  by_cases hb : b = a
  · rw [hb, upd_same] at q
    cases q
    rw [hb]
    exact ⟨eg, hl, its, n, rv, eg⟩
  · rw [upd_ne hb] at q
    refine (e0.hok b o q).stay (fun c u _ z => z) (fun c z => ?_) fun c ys z => ?_
    · rw [upd_ne (fun y => by rw [y, e] at z; cases z)]
      exact z
    · rw [upd_ne (fun y => by rw [y, e] at z; cases z)]
      exact z
theorem fn_lock {P : Program} {w : World} {K : PySem.W.Frag} {mg : Str → Option Value} {base : Heap} {k : Nat} {f : Addr} {fd : FuncData} {x : Str} {cs : List (Addr × Addr)} (F : FnOk P w K mg base CX0 k f fd [x] (spLawT K cs)) : FnOk P w K mg base CX0 k f fd [x] (spLawU K cs) := by
  refine ⟨fun vs H Q E h => ?_, fun A outer s H args us vs Q E hr e0 hb hv hs => ?_⟩
  · obtain ⟨a, ns, rfl, _⟩ := h
    rfl
  · obtain ⟨a, ns, rfl, hS, hT, q⟩ := hs
    rcases hS with (h | ⟨o, h⟩) | h
    · obtain ⟨ob, e2⟩ := env_lock e0 h
      refine codeAny_mono (F.run A outer s _ args us _ Q E hr e2 hb hv ⟨a, ns, rfl, .inl ⟨ob, upd_same⟩, fun p hp => ?_, q⟩) fun r s' hc => ?_
      · rw [upd_ne (fun z => by
          have := hT p hp
          rw [z, h] at this
          cases this)]
        exact hT p hp
      · cases r with
        | error e => exact (show False from hc).elim
        | ok fl =>
          cases fl with
          | ret u =>
            obtain ⟨v, H', os, bare, un, hok, rv, qq⟩ := hc
            exact ⟨v, H', os, bare, un_lock h un, hok, rv, qq⟩
          | next => exact False.elim hc
          | brk => exact False.elim hc
          | cont => exact False.elim hc
    · exact F.run A outer s H args us _ Q E hr e0 hb hv ⟨a, ns, rfl, .inl ⟨o, h⟩, hT, q⟩
    · exact F.run A outer s H args us _ Q E hr e0 hb hv ⟨a, ns, rfl, .inr fun _ => .inr h, hT, q⟩
theorem walkT {l : PySem.W.OpenLaw} {k : Nat} {q : Program} {loose : List Str} {XP : (Str → Option Value) → Heap → Prop} {YP : World → Heap → Prop} {d : DefRec} {K : Params → PySem.W.Frag} (names : List Str) (hrec : ∀ x ∈ names, ∃ e, (PyProof.Rows.recsOf q).find? (fun e => e.name == x) = some e)
    (hn : l.most = some 63) (hdf : d.params.defaults = []) (hr : Room k callerA) (hY : ∀ (w : World) (h : Heap), YP w h → (K w.params).In h)
    (F : ∀ (w : World) (mg : Str → Option Value) (fa : Addr) (h : Heap), (K w.params).In h → h.Ns mainGlobals mg → mg d.name = some (.ref fa) →
      ∃ (fd : FuncData) (cs : List (Addr × Addr)), (∀ (s : Shared) (u : Value), BindsTo s fd ⟨[u], []⟩ [("_law_script", u)]) ∧ (∀ p ∈ cs, ∃ x ∈ names, PySem.W.tabIn (K w.params) x = some p) ∧ (∀ p ∈ cs, (K w.params).lookup p.2 = none) ∧
        ∀ base : Heap, (K w.params).In base → base.Ns mainGlobals mg → (∀ p ∈ cs, LamX.TabB base mg p.1 p.2) → FnOk l.prog w (K w.params) mg base CX0 k fa fd ["_law_script"] (spLawT (K w.params) cs)) :
    PySem.W.WalkO q loose XP YP l.row.toRowW d [] (fun f vs => PySem.call f vs) := by
  refine Att.attach_callB hn hdf fun w s₀ s₁ mg mb fa o pm cd doc a vs ns G Y ho hd hcd hmg hobj hints hlen hbits hg => ?_
  have KX := hY w _ Y
  obtain ⟨fd, cs, hb, hc, nT, hF⟩ := F w mg fa _ KX G.T.g hmg
  have tabs : ∀ p ∈ cs, PySem.W.CodeHd s₁.heap p.1 p.2 ∧ s₁.heap.get? p.2 = some { cls := .none, data := .fields #[] } := fun p hp => by
    obtain ⟨x, hx, ht⟩ := hc p hp
    obtain ⟨e, he⟩ := hrec x hx
    exact PySem.W.tab_of G.T KX he ht
  exact LamX.law_callTs (CX := CX0) KX G.T.g G.T.b G.T.builtins G.T.nolimit hg (fun p hp => (tabs p hp).2) nT (fun p hp => (tabs p hp).1) G.T.bmain hobj hints (Nat.le_trans hlen (by decide)) hr (fun base h1 h2 h3 => fn_lock (hF base h1 h2 h3)) hb
    (fun H hH hS => ⟨a, ns, rfl, hS, hH, fun _ => rfl⟩) fun _ _ _ z => z
theorem tab_mk {K : PySem.W.Frag} {x : Str} {f c P : Addr} {oc ce : Value} {od co : Option Addr} {fd : FuncData} {sl cs : Array (Option Value)} {cv : Array Value} (a : PySem.W.nsIn K mainGlobals x = some (some (.ref f))) (l : K.lookup f = some ⟨oc, od, .func fd, sl⟩) (hc : fd.code = .ref c)
    (hk : K.lookup c = some ⟨ce, co, .fields cv, cs⟩) (hv : cv[11]? = some (.ref P)) : PySem.W.tabIn K x = some (c, P) := by
  unfold PySem.W.tabIn
  simp only [a, l, hc, hk, hv]
theorem rec_of {p : Program} {x : Str} (h : ((PyProof.Rows.recsOf p).find? (fun e => e.name == x)).isSome = true) : ∃ e, (PyProof.Rows.recsOf p).find? (fun e => e.name == x) = some e := Option.isSome_iff_exists.mp h
/-! ### a lambda of a def that still runs, kept in a variable, handed on to _law_word -/
end Tp
namespace L2
open PySem PySem.Spec PyProof.Rows LamX
section
variable {X : Cx} {pins : List (Addr × Obj)} {σ : St} {H : Hp} {s : Shared}
theorem pe_alt {e : Expr} {t1 t2 : TE} (h1 : PE X e t1) (h2 : PE X e t2) : PE X e (fun σ H Q => t1 σ H Q ∨ t2 σ H Q) := ⟨fun pins s σ H Q I h => by
  rcases h with h | h
  · exact h1.run pins s σ H Q I h
  · exact h2.run pins s σ H Q I h⟩
theorem pe_actV {CXg : CXT} {Eg : XK} {Ng : List Str} {qg : Str} {sg : Scope} {g f c' : Addr} {cdg : Value} {params : Arguments} {body : Expr} {scope : Scope} {k i : Nat} {a : Str} {pn : List (Addr × Obj)} {xe : Value → Shared → Prop} {W : WX} {E : XK} {tb : TE} {p1 p2 : Pos}
    (I : Inv X pins σ H s) (L : LamS X.env.scope scope) (hbind : ∀ pm ctv : Value, bindArgs (PySem.W.kla_fn "<lambda>" (X.env.qual ++ "<lambda>") params body scope (cloFrom X.env.cells scope.names []) pm (.ref c') ctv) ⟨[], []⟩ = pure [])
    (tk : Takes ((cxOf CXg X.prog X.w X.K X.mg X.base Ng qg sg g cdg X.A X.stack s H Eg).tr pn xe) W) (hW : ∀ cls d σ' H', E cls d H' → W cls d σ' H') (hr : Room (k + 1) (X.A.deeper (envOfC qg sg s.heap.objs.size g cdg)))
    (hbody : ∀ (A : Around) (outer : List Env) (s : Shared) (H : Hp), Room k (A.deeper (lamEnv X scope s.heap.objs.size f c')) → PE (lamCx X A outer s H E scope f c') body tb)
    (hN : Ng[i]? = some a) (hv : Vis sg a) (hd : (a == ("__debug__" : Str)) = false := by decide) (hcd : (a == ("__classdict__" : Str)) = false := by decide) :
    PE ((cxOf CXg X.prog X.w X.K X.mg X.base Ng qg sg g cdg X.A X.stack s H Eg).tr pn xe) (.Call (.Name a p1) [] [] p2)
      (fun σZ HZ Q => σZ[i]? = some (some (.ref f)) ∧ HZ c' = some (CodeO c' (X.env.qual ++ "<lambda>")) ∧ HZ f = some (LamO f (X.env.qual ++ "<lambda>") params body scope (cloFrom X.env.cells scope.names []) c') ∧ tb σ HZ Q) := by
  refine ⟨fun pinsZ sZ σZ HZ Q IZ h => ?_⟩
  obtain ⟨hs, hc, hL, ht⟩ := h
  refine wpAny_Call_Name_kw (thn ((pe_var (pos := p1) (i := i) hN hv hd hcd).run pinsZ sZ σZ HZ (fun v H1 => v = .ref f ∧ H1 = HZ) IZ ⟨.ref f, hs, rfl, rfl⟩) fun u s1 ⟨v, H1, I1, r1, q1⟩ => ?_)
  obtain ⟨ev, eH⟩ := q1
  subst ev
  rw [eH] at I1
  obtain rfl : u = Value.ref f := r1
  obtain ⟨⟨pm, ctv, of1⟩, _⟩ := I1.hok f _ hL
  refine PySem.W.callWith_F0 ⟨_, _, _, _, of1⟩ ?_
  have un : Un (frs X.stack) [] H HZ s.heap s1.heap := I1.base
  obtain ⟨⟨oc, vs, t, hoc, hdc, hvc⟩, _, _⟩ := I1.hok c' _ hc
  have rc : codeAny (model X.prog X.w) (X.A.deeper (envOfC qg sg s.heap.objs.size g cdg)) (.call (.ref f) ⟨[], []⟩) (CR (L2.CX X.prog X.w) (envOfC qg sg s.heap.objs.size g cdg :: X.stack) X.prog X.w HZ s1 Q E) s1 := by
    refine PySem.W.kla_callFunE hr.depth of1 rfl L.co L.gen rfl ⟨c', oc, vs, t, rfl, hoc, hdc, hvc⟩ ?_
    rw [hbind]
    refine wpAny_pure (wpAny_newFunctionEnv (fun y hy => (L.own y hy).2) (fun y hy => absurd hy (by simp)) (fun h₁ hns hsb => ⟨I1.nolimit.fresh _ hsb, ?_⟩) L.kind)
    show codeAny _ _ (.expr body (lamEnv X scope s1.heap.objs.size f c')) _ _
    have kp : ∀ b o, s1.heap.get? b = some o → h₁.get? b = some o := fun b o e => hsb.extBut b o (Nat.ne_of_lt (Heap.lt_size e)) (Heap.get?_push_of_some _ e)
    have J : Inv (lamCx X (X.A.deeper (envOfC qg sg s.heap.objs.size g cdg)) (envOfC qg sg s.heap.objs.size g cdg :: X.stack) s1 HZ E scope f c') [] σ HZ { s1 with heap := h₁, toks := s1.toks + ([] : List (Str × Value)).length } :=
      lam_start2 I L I1.env0 hr.hd un hns kp
    refine PySem.W.kla_codeExpr (wpAny_mono ((hbody _ _ s1 HZ (hr.deeper _)).run [] _ _ HZ Q J ht) (fun v s' hq => ?_) fun e s' hq => hq)
    obtain ⟨w', H', J', rv, q⟩ := hq
    exact ⟨w', H', J'.os, J'.bare, J'.base, J'.hok, rv, q⟩
  have hx : Passes (L2.CX X.prog X.w) ((cxOf CXg X.prog X.w X.K X.mg X.base Ng qg sg g cdg X.A X.stack s H Eg).tr pn xe) E := passes_call tk hW
  refine wpAny_call (codeAny_mono rc fun r s' hq => ?_)
  cases r with
  | error e => exact hx pinsZ σZ HZ s1 e s' I1 hq
  | ok fl =>
    cases fl with
    | ret u => exact I1.after hq
    | next => exact False.elim hq
    | brk => exact False.elim hq
    | cont => exact False.elim hq
/-- x(v), v a kept lambda of this very def -/
theorem pe_lamvar {TT : (XK → Hp → VK → Prop) → Hp → VK → Prop} {x a v : Str} {g : Addr} {k i : Nat} {pg : Arguments} {bg : List Stmt} {sg : Scope} {dV kV doc pm cdv ct oc : Value} {an od : Option Addr} {osl : Array (Option Value)} {Ng : List Str}
    {params : Arguments} {body : Expr} {scope : Scope} {t : XK → TE} {p lpos pos : Pos} {q0 : Str} (hq0 : X.env.qual = q0) (hg : Gl X x) (hm : X.mg x = some (.ref g)) (hk : PySem.W.keepIn X.K (.ref g) = true)
    (lk : X.K.lookup g = some ⟨oc, od, .func (PySem.W.fnOf x x pg bg sg dV kV doc pm an cdv ct), osl⟩) (hcg : PySem.W.codeIn X.K cdv x = true) (hb : L2.Binds X.K (PySem.W.fnOf x x pg bg sg dV kV doc pm an cdv ct) [a] []) (Sg : FnScope Ng [a] sg) (hNg : Ng[0]? = some a) (hva : Vis sg a)
    (hG : GivesTo X Ng x sg g cdv bg a (X.env.qual ++ "<lambda>") TT) (hr : Room (k + 2) X.A) (L : LamS X.env.scope scope)
    (hbind : ∀ (q : Str) (cl : List (Str × Addr)) (pm cv ctv : Value), bindArgs (PySem.W.kla_fn "<lambda>" q params body scope cl pm cv ctv) ⟨[], []⟩ = pure [])
    (hbody : ∀ (A : Around) (outer : List Env) (s : Shared) (H : Hp) (E : XK) (f c' : Addr), Room k (A.deeper (lamEnv X scope s.heap.objs.size f c')) → PE (lamCx X A outer s H E scope f c') body (t E))
    (hN : X.N[i]? = some v) (hv : Vis X.env.scope v)
    (hdb : (x == ("__debug__" : Str)) = false := by decide) (hd : (a == ("__debug__" : Str)) = false := by decide) (hcd : (a == ("__classdict__" : Str)) = false := by decide) (hd2 : (v == ("__debug__" : Str)) = false := by decide) (hcd2 : (v == ("__classdict__" : Str)) = false := by decide) :
    PE X (.Call (.Name x p) [.Name v lpos] [] pos) (fun σ H Q => ∃ f c', σ[i]? = some (some (.ref f)) ∧ H f = some (LamO f (q0 ++ "<lambda>") params body scope (cloFrom X.env.cells scope.names []) c') ∧ H c' = some (CodeO c' (q0 ++ "<lambda>")) ∧
      TT (fun E H' Q' => H' f = some (LamO f (q0 ++ "<lambda>") params body scope (cloFrom X.env.cells scope.names []) c') ∧ t E σ H' Q') H Q) := by
  subst hq0
  refine ⟨fun pins s σ H Q I h => ?_⟩
  obtain ⟨f, c', hs, hL, hc, h⟩ := h
  refine wpAny_Call_Name_kw (ld_glob I hg hm ?_ hdb)
  refine PySem.W.callWith_K (h₀ := X.base) I.ok.mod.kin hk ?_ (by rfl) (by rfl)
  show wpAny _ _ (spliced ((false, eval (.Name v lpos) X.env) :: backTo pos (starEach [] X.env))) _ _ _
  refine Calls.spliced_cons (thn ((pe_var (pos := lpos) (i := i) hN hv hd2 hcd2).run pins _ σ H (fun v H1 => v = .ref f ∧ H1 = H) I ⟨.ref f, hs, rfl, rfl⟩) fun u s1 ⟨v', H1, I1, r1, q1⟩ => ?_)
  obtain ⟨ev, eH⟩ := q1
  subst ev
  rw [eH] at I1
  obtain rfl : u = Value.ref f := r1
  refine Calls.spliced_nil ⟨I1.kIn, ?_⟩
  have rc : codeAny (model X.prog X.w) X.A (.call (.ref g) ⟨[.ref f], []⟩) (CR C8.CX0 X.stack X.prog X.w H s1 Q C8.E0) s1 := by
    refine run_ofS (N := Ng) (ps := [a]) (us := [.ref f]) (vs := [.ref f]) lk hcg Sg hr I1.env0 (hb s1 [.ref f] I1.kIn rfl) (.cons rfl .nil) rfl fun hr' => ?_
    obtain ⟨t', ht', hq'⟩ := hG f c' s1 H Q (fun E H' Q' => H' f = some (LamO f (X.env.qual ++ "<lambda>") params body scope (cloFrom X.env.cells scope.names []) c') ∧ t E σ H' Q') (fun W pn xe E p1 p2 tk hW => pe_actV (i := 0) I1 L (fun _ _ => hbind _ _ _ _ _) tk hW hr' (fun A outer s H hr2 => hbody A outer s H E f c' hr2) hNg hva hd hcd) hc h
    exact ⟨t', ht'.nox, hq'⟩
  refine wpAny_call (codeAny_mono rc fun r s2 hq => ?_)
  cases r with
  | error e => exact (show False from hq).elim
  | ok fl =>
    cases fl with
    | ret u => exact I1.after hq
    | next => exact False.elim hq
    | brk => exact False.elim hq
    | cont => exact False.elim hq
end
end L2
namespace Tp
open PySem L2
/-! ### _law_word of a lambda of a def that runs -/
def TTw (CR CV : Addr) : (XK → Hp → VK → Prop) → Hp → VK → Prop := fun tl H Q =>
  tl (noE CR CV Q) H fun _ H1 => 2 ≤ sizeLine ∧ ∀ t, H1 t = none → Q (.ref t) (upd H1 t (.tup [.str "", .non]))
theorem word_gives {X : Cx} (T : Txt X.K X.mg) (cdg : Value) (q : Str) : LamX.GivesTo X N_Lword "_law_word" (defScope s_Lword) T.f_Lword cdg (defBody s_Lword) "_law_work" q (TTw T.C_BadRoads T.C_BadReceiver) := by
  intro f c' s H Q tl act hc h
  have ecv : ∀ (C : Addr) (u : Value), RelV (.ref C) u → u = .ref C := fun C u r => r
  refine ⟨_, pss_cons (ps_tryX (X := (cxOf C8.CX0 X.prog X.w X.K X.mg X.base N_Lword "_law_word" (defScope s_Lword) T.f_Lword cdg X.A X.stack s H C8.E0).nox) (c := .ref T.C_RoadError) (i := 1)
      (tb := fun W D σ H => ∃ Ech : XK, (∀ cls d σ' H', Ech cls d H' → W cls d σ' H') ∧ σ[0]? = some (some (.ref f)) ∧ H c' = some (LamX.CodeO c' q) ∧ tl Ech H fun _ H1 => D.nx σ H1)
      rfl rfl sc_Lword.nd rfl rfl ⟨rfl, by decide, .inl T.mg_RoadError⟩ (fun W pn xe tk _ => ?_)) (pss_one (ps_ret (pe_tup (pa_cons pe_str (pa_cons pe_non pa_nil))))), ?_⟩
  · refine ⟨fun pins s' σ H' D I h' => ?_⟩
    obtain ⟨Ech, hW, h1, h2, h3⟩ := h'
    exact (pss_one (ps_expr (act W pn xe Ech _ _ tk hW))).run pins s' σ H' D I ⟨h1, h2, h3⟩
  · refine ⟨_, fun cls dO σ' H1 q => ?_, rfl, hc, h⟩
    rcases q with ⟨d, j, e1, e2, hx, k⟩ | ⟨d, j, e1, e2, hx, k⟩
    · subst e1 e2
      have XC : ExcC (cxOf C8.CX0 X.prog X.w X.K X.mg X.base N_Lword "_law_word" (defScope s_Lword) T.f_Lword cdg X.A X.stack s H C8.E0).nox.K T.C_BadRoads := ⟨T.xg_BadRoads, T.xk_BadRoads, T.ex_BadRoads, T.hd_BadRoads, T.xa_BadRoads, T.xn_BadRoads, T.xt_BadRoads, T.xm_BadRoads⟩
      refine ⟨true, T.m_BadRoads, fun _ a ha => fun oe pn hz hf => ⟨_, (pss_cons (ps_set (i := 2) sc_Lword.nd rfl (Or.inl rfl) (pe_lst (pa_cons (pe_callB (call_isX XC hz hf) (by rfl) T.z_isinstance (by decide +kernel) (pa_cons (pv 1) (pa_cons (pe_glob rfl T.mg_BadMark (v := .ref T.C_BadMark) rfl) pa_nil))) (pa_cons (pe_callB (call_isX XC hz hf) (by rfl) T.z_isinstance (by decide +kernel) (pa_cons (pv 1) (pa_cons (pe_glob rfl T.mg_BadReceiver (v := .ref T.C_BadReceiver) rfl) pa_nil))) (pa_cons (pe_callB (call_isX XC hz hf) (by rfl) T.z_isinstance (by decide +kernel) (pa_cons (pv 1) (pa_cons (pe_glob rfl T.mg_BadRoads (v := .ref T.C_BadRoads) rfl) pa_nil))) (pa_cons (pe_callB (call_isX XC hz hf) (by rfl) T.z_isinstance (by decide +kernel) (pa_cons (pv 1) (pa_cons (pe_glob rfl T.mg_BadRows (v := .ref T.C_BadRows) rfl) pa_nil))) pa_nil))))))
  (pss_cons (ps_expr (pe_bm PySem.F.plainAttrs_list PySem.F.slot_list_append PySem.F.type_list_append mt_append (pv 2) (pa_cons (pe_callB (call_isX XC hz hf) (by rfl) T.z_isinstance (by decide +kernel) (pa_cons (pv 1) (pa_cons (pe_glob rfl T.mg_BadText (v := .ref T.C_BadText) rfl) pa_nil))) pa_nil)))
  (pss_cons (ps_if (PW.pt (pw_or (pt_not (pt_val (pe_callB (call_isX XC hz hf) (by rfl) T.z_isinstance (by decide +kernel) (pa_cons (pv 1) (pa_cons (pe_bltn (v := .ty "ValueError") rfl T.z_ValueError (by decide +kernel) rfl) pa_nil))))) (pw_or1 (pt_cmpR op_ne (pe_bm PySem.F.plainAttrs_list PySem.F.slot_list_count PySem.F.type_list_count mt_countB (pv 2) (pa_cons pe_bl pa_nil)) pe_int (nomark _))))) (pss_one (ps_ret pe_non)) pss_nil)
  (pss_cons (ps_if (pt_val (pe_ix ix_list (pv 2) pe_int (fun _ _ => rfl))) (pss_one (ps_ret (pe_tup (pa_cons pe_str (pa_cons pe_non pa_nil))))) pss_nil)
  (pss_cons (ps_if (PW.pt (pw_or (pt_val (pe_ix ix_list (pv 2) pe_int (fun _ _ => rfl))) (pw_or1 (pt_val (pe_ix ix_list (pv 2) pe_int (fun _ _ => rfl)))))) (pss_one (ps_ret (pe_ifExp (pt_val (pe_ix ix_list (pv 2) pe_int (fun _ _ => rfl))) pe_nev (pe_tup (pa_cons pe_str (pa_cons (pe_xf (XfC.mk T.xg_BadRoads T.xk_BadRoads T.ex_BadRoads T.hd_BadRoads) T.nf_BadRoads_number hz hf (pv 1)) pa_nil)))))) pss_nil)
  pss_never))))), fun hl => ?_⟩, fun z => by cases z⟩
      rw [List.length_set] at hl
      obtain ⟨y0, y1, y2, rfl⟩ := len3w hl
      refine ⟨_, rfl, _, _, false, _, rfl, ecv _, hx, T.i_BadRoads_BadMark, _, rfl, _, _, false, _, rfl, ecv _, hx, T.i_BadRoads_BadReceiver, _, rfl, _, _, true, _, rfl, ecv _, hx, T.i_BadRoads_BadRoads, _, rfl, _, _, false, _, rfl, ecv _, hx, T.i_BadRoads_BadRows, by show 4 ≤ sizeLine; decide, fun l hl => ?_⟩
      generalize hH2 : upd H1 l _ = H2
      have hl2 : H2 l = some (.lst [.bl false, .bl false, .bl true, .bl false]) := by rw [← hH2]; exact upd_same
      have s1 : Same H1 H2 := by rw [← hH2]; exact Same.upd_new hl
      have hx1 := s1 _ _ hx
      refine ⟨_, rfl, .inl ⟨rfl, _, SqL.of hl2⟩, _, rfl, _, _, false, _, rfl, ecv _, hx1, T.i_BadRoads_BadText, l, _, _, rfl, rfl, hl2, by show 4 < sizeLine; decide, ?_⟩
      have s2 : Same H1 (upd H2 l (.lst ([.bl false, .bl false, .bl true, .bl false] ++ [.bl false]))) := s1.mut hl
      have hl3 : (upd H2 l (.lst ([.bl false, .bl false, .bl true, .bl false] ++ [.bl false]))) l = some (.lst ([false, false, true, false, false].map V.bl)) := upd_same
      revert s2 hl3
      generalize (upd H2 l (.lst ([.bl false, .bl false, .bl true, .bl false] ++ [.bl false]))) = H3
      intro s2 hl3
      have hx2 := s2 _ _ hx
      refine ⟨_, rfl, _, _, true, _, rfl, fun u r => r, hx2, T.i_BadRoads_VE, _, rfl, iteF ?_⟩
      refine ⟨_, rfl, .inl ⟨rfl, _, SqL.of hl3⟩, l, _, rfl, rfl, SqL.of hl3, rfl, _, rfl, iteNS rfl ?_⟩
      refine ⟨_, rfl, l, _, _, _, rfl, rfl, SqL.of hl3, at0, _, rfl, iteF ?_⟩
      refine ⟨_, rfl, l, _, _, _, rfl, rfl, SqL.of hl3, at1, _, rfl, iteF ?_⟩
      refine ⟨_, rfl, l, _, _, _, rfl, rfl, SqL.of hl3, at2, _, rfl, iteT ?_⟩
      refine ⟨_, rfl, l, _, _, _, rfl, rfl, SqL.of hl3, at1, _, rfl, iteF ?_⟩
      refine ⟨_, rfl, rfl, rfl, d, _, _, rfl, hx2, look_1, by show 2 ≤ sizeLine; decide, fun t ht => ?_⟩
      exact k t _ (s2.new ht) upd_same
    · subst e1 e2
      have XC : ExcC (cxOf C8.CX0 X.prog X.w X.K X.mg X.base N_Lword "_law_word" (defScope s_Lword) T.f_Lword cdg X.A X.stack s H C8.E0).nox.K T.C_BadReceiver := ⟨T.xg_BadReceiver, T.xk_BadReceiver, T.ex_BadReceiver, T.hd_BadReceiver, T.xa_BadReceiver, T.xn_BadReceiver, T.xt_BadReceiver, T.xm_BadReceiver⟩
      refine ⟨true, T.m_BadReceiver, fun _ a ha => fun oe pn hz hf => ⟨_, (pss_cons (ps_set (i := 2) sc_Lword.nd rfl (Or.inl rfl) (pe_lst (pa_cons (pe_callB (call_isX XC hz hf) (by rfl) T.z_isinstance (by decide +kernel) (pa_cons (pv 1) (pa_cons (pe_glob rfl T.mg_BadMark (v := .ref T.C_BadMark) rfl) pa_nil))) (pa_cons (pe_callB (call_isX XC hz hf) (by rfl) T.z_isinstance (by decide +kernel) (pa_cons (pv 1) (pa_cons (pe_glob rfl T.mg_BadReceiver (v := .ref T.C_BadReceiver) rfl) pa_nil))) (pa_cons (pe_callB (call_isX XC hz hf) (by rfl) T.z_isinstance (by decide +kernel) (pa_cons (pv 1) (pa_cons (pe_glob rfl T.mg_BadRoads (v := .ref T.C_BadRoads) rfl) pa_nil))) (pa_cons (pe_callB (call_isX XC hz hf) (by rfl) T.z_isinstance (by decide +kernel) (pa_cons (pv 1) (pa_cons (pe_glob rfl T.mg_BadRows (v := .ref T.C_BadRows) rfl) pa_nil))) pa_nil))))))
  (pss_cons (ps_expr (pe_bm PySem.F.plainAttrs_list PySem.F.slot_list_append PySem.F.type_list_append mt_append (pv 2) (pa_cons (pe_callB (call_isX XC hz hf) (by rfl) T.z_isinstance (by decide +kernel) (pa_cons (pv 1) (pa_cons (pe_glob rfl T.mg_BadText (v := .ref T.C_BadText) rfl) pa_nil))) pa_nil)))
  (pss_cons (ps_if (PW.pt (pw_or (pt_not (pt_val (pe_callB (call_isX XC hz hf) (by rfl) T.z_isinstance (by decide +kernel) (pa_cons (pv 1) (pa_cons (pe_bltn (v := .ty "ValueError") rfl T.z_ValueError (by decide +kernel) rfl) pa_nil))))) (pw_or1 (pt_cmpR op_ne (pe_bm PySem.F.plainAttrs_list PySem.F.slot_list_count PySem.F.type_list_count mt_countB (pv 2) (pa_cons pe_bl pa_nil)) pe_int (nomark _))))) (pss_one (ps_ret pe_non)) pss_nil)
  (pss_cons (ps_if (pt_val (pe_ix ix_list (pv 2) pe_int (fun _ _ => rfl))) (pss_one (ps_ret (pe_tup (pa_cons pe_str (pa_cons pe_non pa_nil))))) pss_nil)
  (pss_cons (ps_if (PW.pt (pw_or (pt_val (pe_ix ix_list (pv 2) pe_int (fun _ _ => rfl))) (pw_or1 (pt_val (pe_ix ix_list (pv 2) pe_int (fun _ _ => rfl)))))) (pss_one (ps_ret (pe_ifExp (pt_val (pe_ix ix_list (pv 2) pe_int (fun _ _ => rfl))) (pe_tup (pa_cons pe_str (pa_cons (pe_xf (XfC.mk T.xg_BadReceiver T.xk_BadReceiver T.ex_BadReceiver T.hd_BadReceiver) T.nf_BadReceiver_word hz hf (pv 1)) pa_nil))) pe_nev))) pss_nil)
  pss_never))))), fun hl => ?_⟩, fun z => by cases z⟩
      rw [List.length_set] at hl
      obtain ⟨y0, y1, y2, rfl⟩ := len3w hl
      refine ⟨_, rfl, _, _, false, _, rfl, ecv _, hx, T.i_BadReceiver_BadMark, _, rfl, _, _, true, _, rfl, ecv _, hx, T.i_BadReceiver_BadReceiver, _, rfl, _, _, false, _, rfl, ecv _, hx, T.i_BadReceiver_BadRoads, _, rfl, _, _, false, _, rfl, ecv _, hx, T.i_BadReceiver_BadRows, by show 4 ≤ sizeLine; decide, fun l hl => ?_⟩
      generalize hH2 : upd H1 l _ = H2
      have hl2 : H2 l = some (.lst [.bl false, .bl true, .bl false, .bl false]) := by rw [← hH2]; exact upd_same
      have s1 : Same H1 H2 := by rw [← hH2]; exact Same.upd_new hl
      have hx1 := s1 _ _ hx
      refine ⟨_, rfl, .inl ⟨rfl, _, SqL.of hl2⟩, _, rfl, _, _, false, _, rfl, ecv _, hx1, T.i_BadReceiver_BadText, l, _, _, rfl, rfl, hl2, by show 4 < sizeLine; decide, ?_⟩
      have s2 : Same H1 (upd H2 l (.lst ([.bl false, .bl true, .bl false, .bl false] ++ [.bl false]))) := s1.mut hl
      have hl3 : (upd H2 l (.lst ([.bl false, .bl true, .bl false, .bl false] ++ [.bl false]))) l = some (.lst ([false, true, false, false, false].map V.bl)) := upd_same
      revert s2 hl3
      generalize (upd H2 l (.lst ([.bl false, .bl true, .bl false, .bl false] ++ [.bl false]))) = H3
      intro s2 hl3
      have hx2 := s2 _ _ hx
      refine ⟨_, rfl, _, _, true, _, rfl, fun u r => r, hx2, T.i_BadReceiver_VE, _, rfl, iteF ?_⟩
      refine ⟨_, rfl, .inl ⟨rfl, _, SqL.of hl3⟩, l, _, rfl, rfl, SqL.of hl3, rfl, _, rfl, iteNS rfl ?_⟩
      refine ⟨_, rfl, l, _, _, _, rfl, rfl, SqL.of hl3, at0, _, rfl, iteF ?_⟩
      refine ⟨_, rfl, l, _, _, _, rfl, rfl, SqL.of hl3, at1, _, rfl, iteT (iteT ?_)⟩
      refine ⟨_, rfl, l, _, _, _, rfl, rfl, SqL.of hl3, at1, _, rfl, iteT ?_⟩
      refine ⟨_, rfl, rfl, rfl, d, _, _, rfl, hx2, look_1, by show 2 ≤ sizeLine; decide, fun t ht => ?_⟩
      exact k t _ (s2.new ht) upd_same
theorem pe_word {X : Cx} (T : Txt X.K X.mg) {T3 : List (Addr × Str)} {c P : Addr} {k : Nat} {params : Arguments} {body : Expr} {scope : Scope} {t : XK → TE} {p lpos pos : Pos} {q0 : Str} (hq : X.env.qual = q0) (hg : Gl X "_law_word") (TB : LamX.TabB X.base X.mg c P) (hcode : X.env.code = .ref c) (hmT : (P, q0 ++ ("<lambda>" : Str)) ∈ T3) (hu : ∀ p ∈ T3, p.1 = P → p.2 = q0 ++ ("<lambda>" : Str)) (hr : Room (k + 2) X.A) (L : LamX.LamS X.env.scope scope) (hdef : defaultsOf params X.env = ([], []))
    (hbind : ∀ (q : Str) (cl : List (Str × Addr)) (pm cv ctv : Value), bindArgs (PySem.W.kla_fn "<lambda>" q params body scope cl pm cv ctv) ⟨[], []⟩ = pure [])
    (hbody : ∀ (A : Around) (outer : List Env) (s : Shared) (H : Hp) (E : XK) (f c' : Addr), Room k (A.deeper (LamX.lamEnv X scope s.heap.objs.size f c')) → PE (LamX.lamCx X A outer s H E scope f c') body (t E)) :
    PE X (.Call (.Name "_law_word" p) [.Lambda params body scope lpos] [] pos) (LamX.tLam T3 (TTw T.C_BadRoads T.C_BadReceiver) t) := by
  subst hq
  obtain ⟨oc, od, kV, doc, pm, an, cdv, ct, osl, hfd, lk, hcd⟩ := T.F_Lword.ex
  have hb := T.b_Lword
  rw [hfd] at hb lk
  exact LamX.pe_lamcall hg T.mg_Lword T.kp_Lword lk hcd hb sc_Lword rfl (.inl rfl) (word_gives T cdv _) TB hcode hmT hu hr L hdef hbind hbody
theorem pe_wordV {X : Cx} (T : Txt X.K X.mg) {k i : Nat} {v : Str} {params : Arguments} {body : Expr} {scope : Scope} {t : XK → TE} {p lpos pos : Pos} {q0 : Str} (hq : X.env.qual = q0) (hg : Gl X "_law_word") (hr : Room (k + 2) X.A) (L : LamX.LamS X.env.scope scope)
    (hbind : ∀ (q : Str) (cl : List (Str × Addr)) (pm cv ctv : Value), bindArgs (PySem.W.kla_fn "<lambda>" q params body scope cl pm cv ctv) ⟨[], []⟩ = pure [])
    (hbody : ∀ (A : Around) (outer : List Env) (s : Shared) (H : Hp) (E : XK) (f c' : Addr), Room k (A.deeper (LamX.lamEnv X scope s.heap.objs.size f c')) → PE (LamX.lamCx X A outer s H E scope f c') body (t E)) (hN : X.N[i]? = some v) (hv : Vis X.env.scope v)
    (hd2 : (v == ("__debug__" : Str)) = false := by decide) (hcd2 : (v == ("__classdict__" : Str)) = false := by decide) :
    PE X (.Call (.Name "_law_word" p) [.Name v lpos] [] pos) (fun σ H Q => ∃ f c', σ[i]? = some (some (.ref f)) ∧ H f = some (LamO f (q0 ++ "<lambda>") params body scope (cloFrom X.env.cells scope.names []) c') ∧ H c' = some (LamX.CodeO c' (q0 ++ "<lambda>")) ∧
      TTw T.C_BadRoads T.C_BadReceiver (fun E H' Q' => H' f = some (LamO f (q0 ++ "<lambda>") params body scope (cloFrom X.env.cells scope.names []) c') ∧ t E σ H' Q') H Q) := by
  obtain ⟨oc, od, kV, doc, pm, an, cdv, ct, osl, hfd, lk, hcd⟩ := T.F_Lword.ex
  have hb := T.b_Lword
  rw [hfd] at hb lk
  exact pe_lamvar hq hg T.mg_Lword T.kp_Lword lk hcd hb sc_Lword rfl (.inl rfl) (word_gives T cdv _) hr L hbind hbody hN hv (hd2 := hd2) (hcd2 := hcd2)
theorem fun_okC {P : Program} {w : World} {K : PySem.W.Frag} {mg : Str → Option Value} {base : Heap} {x qual : Str} {st : Stmt} {f : Addr} {fd : FuncData} {N ps : List Str} {k : Nat} {sp : Sp} (F : Fun K x qual st f fd) (S : FnScope N ps (defScope st)) (len : ∀ vs H Q E, sp vs H Q E → vs.length = ps.length)
    (hbody : ∀ (cdv : Value), fd.code = cdv → ∀ (A : Around) (outer : List Env) (s : Shared) (H : Hp) (vs : List V) (Q : VK) (E : XK), Room k (A.deeper (PyProof.Rows.envOfC qual (defScope st) s.heap.objs.size f cdv)) → sp vs H Q E →
      ∃ t, PSs (cxOf CX0 P w K mg base N qual (defScope st) f cdv A outer s H E).nox (defBody st) t ∧ t { nx := fun _ H' => Q .non H', rt := Q } (L2.start N vs) H) : FnOk P w K mg base CX0 (k + 1) f fd ps sp := by
  obtain ⟨oc, od, kV, doc, pm, an, cdv, ct, osl, rfl, lk, hcd⟩ := F.ex
  refine fn_of lk hcd S len fun A outer s H vs Q E hr hsp => ?_
  obtain ⟨t, h, q⟩ := hbody cdv rfl A outer s H vs Q E hr hsp
  exact ⟨t, h.nox, q⟩
/-! ### the law -/
theorem tabs_mv {T : List (Addr × Str)} {H H' : Hp} (t : LamX.Tabs T H) (k : ∀ b o, (∀ xs, o ≠ .lst xs) → (∀ C dx fs, o ≠ .ins C dx fs) → (∀ ks, o ≠ .dK ks) → H b = some o → H' b = some o) : LamX.Tabs T H' := fun p hp => by
  obtain ⟨ps, h1, h2, h3⟩ := t p hp
  refine ⟨ps, k _ _ (fun _ z => by cases z) (fun _ _ _ z => by cases z) (fun _ z => by cases z) h1, h2, fun pos cv hc => ?_⟩
  obtain ⟨c, e, h4⟩ := h3 pos cv hc
  exact ⟨c, e, k _ _ (fun _ z => by cases z) (fun _ _ _ z => by cases z) (fun _ z => by cases z) h4⟩
theorem tabs_same {T : List (Addr × Str)} {H H' : Hp} (t : LamX.Tabs T H) (s : Same H H') : LamX.Tabs T H' := t.ext s
theorem tabs_kp {K : PySem.W.Frag} {T : List (Addr × Str)} {r : Addr} {H H' : Hp} (t : LamX.Tabs T H) (w : RowAt K r H) (k : Kp r H H') : LamX.Tabs T H' := tabs_mv t fun b o h1 _ _ e => k b o (fun z => by
  obtain ⟨xs, h⟩ := w.lst
  rw [z, h] at e
  cases e
  exact h1 _ rfl) e
theorem row_xn {K : PySem.W.Frag} {r : Addr} {H H' : Hp} (w : RowAt K r H) (x : LamX.ExtN H H') : RowAt K r H' := w.move (fun o e => x _ _ e fun ps z => by
    obtain ⟨xs, h⟩ := w.lst
    rw [h] at e
    cases e
    cases z) fun b o u e => x _ _ e fun ps z => by cases z
theorem tup_xn {a : Addr} {xs : List V} {H H' : Hp} (e : H a = some (.tup xs)) (x : LamX.ExtN H H') : H' a = some (.tup xs) := x _ _ e fun ps z => by cases z
theorem lst_xn {a : Addr} {xs : List V} {H H' : Hp} (e : H a = some (.lst xs)) (x : LamX.ExtN H H') : H' a = some (.lst xs) := x _ _ e fun ps z => by cases z
theorem roads_xn {p : Addr} {D : Rds} {H H' : Hp} (h : RoadsAt H p D) (x : LamX.ExtN H H') : RoadsAt H' p D := by
  obtain ⟨t0, t1, g1, g2, g3⟩ := h
  exact ⟨t0, t1, tup_xn g1 x, tup_xn g2 x, tup_xn g3 x⟩
theorem eqv_same {d : PyData} (h : SeqAt.shaped d = true) : PyData.eqv d d = true := SeqAt.eqv_refl d (SeqAt.canLay_of_shaped h)
theorem dp_one {K : PySem.W.Frag} {H : Hp} {t : Addr} {x : Str} {i : Int} (h : H t = some (.tup [.str x, .int i])) : Dp K H (.ref t) (.tuple [.str x, .int i]) := .tup (SqT.of h) (.cons (.str _) (.cons (.int _) .nil))
theorem dp_strs {K : PySem.W.Frag} {H : Hp} {t : Addr} {x y : Str} (h : H t = some (.tup [.str x, .str y])) : Dp K H (.ref t) (.tuple [.str x, .str y]) := .tup (SqT.of h) (.cons (.str _) (.cons (.str _) .nil))
theorem dp_non {K : PySem.W.Frag} {H : Hp} {t : Addr} (h : H t = some (.tup [.str "", .non])) : Dp K H (.ref t) (.tuple [.str "", .none]) := .tup (SqT.of h) (.cons (.str _) (.cons .non .nil))
theorem shs {n : Nat} {x : Str} (h : x ∈ [("roads" : Str), "receiver", "marks", "ahead", "wait", ""]) : Sh n (.str x) := by
  simp only [List.mem_cons, List.not_mem_nil, or_false] at h
  rcases h with rfl | rfl | rfl | rfl | rfl | rfl <;> exact ⟨by decide +kernel, Nat.zero_le _⟩
theorem sh_one (i : Int) : SeqAt.shaped (.tuple [.str "roads", .int i]) = true := Sh.ok (n := 1) (Sh.tup fun d hd => by
  simp only [List.mem_cons, List.not_mem_nil, or_false] at hd
  rcases hd with rfl | rfl
  · exact shs (by simp)
  · exact .int _) (by decide)
theorem sh_strs {y : Str} (h : y ∈ [("roads" : Str), "receiver", "marks", "ahead", "wait", ""]) : SeqAt.shaped (.tuple [.str "receiver", .str y]) = true := Sh.ok (n := 1) (Sh.tup fun d hd => by
  simp only [List.mem_cons, List.not_mem_nil, or_false] at hd
  rcases hd with rfl | rfl
  · exact shs (by simp)
  · exact shs h) (by decide)
theorem sh_non : SeqAt.shaped (.tuple [.str "", .none]) = true := Sh.ok (n := 1) (Sh.tup fun d hd => by
  simp only [List.mem_cons, List.not_mem_nil, or_false] at hd
  rcases hd with rfl | rfl
  · exact shs (by simp)
  · exact .non) (by decide)
theorem why_in {R : Rcv} {x : Str} (h : whyR R = some x) : x ∈ [("roads" : Str), "receiver", "marks", "ahead", "wait", ""] := by
  unfold whyR at h
  split at h
  · split at h
    · split at h
      · cases h
      · cases h; simp
    · cases h; simp
  · cases h; simp
theorem why_ne {R : Rcv} {x : Str} (h : whyR R = some x) : x ≠ ("" : Str) := by
  unfold whyR at h
  split at h
  · split at h
    · split at h
      · cases h
      · cases h; decide +kernel
    · cases h; decide +kernel
  · cases h; decide +kernel
theorem no_num {CR CV : Addr} {H : Hp} {Q : VK} {j : Int} (h : ∀ t H', Same H H' → H' t = some (.tup [.str "roads", .int j]) → Q (.ref t) H') : XOut H (noE CR CV Q) CR "number" (.int j) := fun d H' s hd hx => .inl ⟨d, j, rfl, rfl, hx, fun t H'' s2 ht => h t H'' (s.trans s2) ht⟩
theorem no_word {CR CV : Addr} {H : Hp} {Q : VK} {x : Str} (h : ∀ t H', Same H H' → H' t = some (.tup [.str "receiver", .str x]) → Q (.ref t) H') : XOut H (noE CR CV Q) CV "word" (.str x) := fun d H' s hd hx => .inr ⟨d, x, rfl, rfl, hx, fun t H'' s2 ht => h t H'' (s.trans s2) ht⟩
theorem Cl2.same {H H' : Hp} {cl0 : List (Str × Addr)} {p rq : Addr} (C : Cl2 H cl0 p rq) (s : LamX.ExtN H H') : Cl2 H' cl0 p rq := by
  obtain ⟨⟨c0, a0, b0⟩, ⟨c1, a1, b1⟩, inj⟩ := C
  exact ⟨⟨c0, a0, s _ _ b0 fun ps z => CelO.tbl z⟩, ⟨c1, a1, s _ _ b1 fun ps z => CelO.tbl z⟩, inj⟩
theorem Cl1.same {H H' : Hp} {cl0 : List (Str × Addr)} {p : Addr} (C : Cl1 H cl0 p) (s : LamX.ExtN H H') : Cl1 H' cl0 p := by
  obtain ⟨⟨c0, a0, b0⟩, inj⟩ := C
  exact ⟨⟨c0, a0, s _ _ b0 fun ps z => CelO.tbl z⟩, inj⟩
structure Fx (K : PySem.W.Frag) (T3 : List (Addr × Str)) (r p p' oq : Addr) (D D' : Rds) (O : Rcv) (H : Hp) : Prop where
  row : RowAt K r H
  hp : RoadsAt H p D
  hp' : RoadsAt H p' D'
  ho : RcvAt H oq O
  tb : LamX.Tabs T3 H
theorem Fx.same {K : PySem.W.Frag} {T3 : List (Addr × Str)} {r p p' oq : Addr} {D D' : Rds} {O : Rcv} {H H' : Hp} (f : Fx K T3 r p p' oq D D' O H) (s : Same H H') : Fx K T3 r p p' oq D D' O H' := ⟨f.row.same s, RoadsAt.same s f.hp, RoadsAt.same s f.hp', s _ _ f.ho, tabs_same f.tb s⟩
theorem Fx.xn {K : PySem.W.Frag} {T3 : List (Addr × Str)} {r p p' oq : Addr} {D D' : Rds} {O : Rcv} {H H' : Hp} (f : Fx K T3 r p p' oq D D' O H) (x : LamX.ExtN H H') (t : LamX.Tabs T3 H') : Fx K T3 r p p' oq D D' O H' := ⟨row_xn f.row x, roads_xn f.hp x, roads_xn f.hp' x, tup_xn f.ho x, t⟩
theorem cutV_tk (xs : List V) (i : Nat) (h : i ≤ xs.length) : cutV xs none (some (i : Int)) = xs.take i := by
  unfold cutV
  rw [HT.sIx_none, HT.sIx_nat, Nat.min_eq_left h]
  rfl
theorem rcv_ok {R : Rcv} (h : whyR R = none) : R.Ok := by
  unfold whyR at h
  split at h
  · split at h
    · split at h
      · rename_i h1 h2 h3
        exact ⟨h1.1, h1.2, h2.1, h2.2, h3.1, h3.2⟩
      · cases h
    · cases h
  · cases h
/-- the lambda that law keeps -/
def forBody : List Stmt → List Stmt
  | _ :: .For _ _ b _ _ :: _ => b
  | _ => []
def sumRight : Stmt → Expr
  | .Assign _ (.BinOp _ _ (.List (e :: _) _) _) _ => e
  | _ => .Name "" ⟨0, 0, 0, 0⟩
abbrev LM : Expr := sumRight ((forBody (defBody s_law)).getD 7 (.Pass ⟨0, 0, 0, 0⟩))
section
variable {P : Program} {w : World} {K : PySem.W.Frag} {mg : Str → Option Value} {base : Heap}
theorem ok_law (T : Txt K mg) (TB1 : LamX.TabB base mg T.cd_Lworks T.tb_Lworks) (TB2 : LamX.TabB base mg T.cd_Lothers T.tb_Lothers) (TB : LamX.TabB base mg T.cd_law T.tb_law) (n1 : (T.tb_Lworks == T.tb_Lothers) = false) (n2 : (T.tb_Lworks == T.tb_law) = false) (n3 : (T.tb_Lothers == T.tb_law) = false) :
    FnOk P w K mg base CX0 14 T.f_law T.fd_law P_law (spLawT K [(T.cd_Lworks, T.tb_Lworks), (T.cd_Lothers, T.tb_Lothers), (T.cd_law, T.tb_law)]) := by
  have n : NE3 T.tb_Lworks T.tb_Lothers T.tb_law := ⟨n1, n2, n3⟩
  refine fun_okC T.F_law sc_law (fun vs H Q E h => ?_) (fun cdv hcd A outer s H vs Q E hr h => ?_)
  · obtain ⟨a, ns, rfl, _⟩ := h
    rfl
  · obtain ⟨a, ns, rfl, hS, hTb, k⟩ := h
    have hcode : cdv = .ref T.cd_law := hcd.symm.trans T.hc_law
    refine ⟨_, ((pss_cons (ps_set (i := 1) sc_law.nd rfl (Or.inl rfl) (pe_lst (pa_cons (pv 0) (pa_cons pe_int (pa_cons pe_int pa_nil)))))
  (pss_cons (ps_for PassesOwn.never rfl (pi_range1 (by rfl) T.z_range (pa_cons pe_int pa_nil)) (pg_name (i := 2) sc_law.nd rfl (Or.inl rfl))
  (pss_cons (ps_set (i := 3) sc_law.nd rfl (Or.inr rfl) (pe_call (ok_Lroads T) (hr.mono (by decide)) (by rfl) T.mg_Lroads T.kp_Lroads T.b_Lroads .nil pass0 (pa_cons (pv 1) pa_nil)))
  (pss_cons (ps_set (i := 4) sc_law.nd rfl (Or.inl rfl) (pe_call (ok_Lreceiver T) (hr.mono (by decide)) (by rfl) T.mg_Lreceiver T.kp_Lreceiver T.b_Lreceiver .nil pass0 (pa_cons (pv 1) (pa_cons (pv 3) pa_nil))))
  (pss_cons (ps_set (i := 5) sc_law.nd rfl (Or.inr rfl) (pe_call (ok_Lodd_roads T) (hr.mono (by decide)) (by rfl) T.mg_Lodd_roads T.kp_Lodd_roads T.b_Lodd_roads .nil pass0 (pa_cons (pv 1) (pa_cons (pv 3) pa_nil))))
  (pss_cons (ps_set (i := 6) sc_law.nd rfl (Or.inr rfl) (pe_call (ok_Lodd_receiver T) (hr.mono (by decide)) (by rfl) T.mg_Lodd_receiver T.kp_Lodd_receiver T.b_Lodd_receiver .nil pass0 (pa_cons (pv 1) (pa_cons (pv 4) pa_nil))))
  (pss_cons (ps_set (i := 7) sc_law.nd rfl (Or.inr rfl) (pe_call (ok_Lbad_road T) (hr.mono (by decide)) (by rfl) T.mg_Lbad_road T.kp_Lbad_road T.b_Lbad_road .nil pass0 (pa_cons (pv 5) pa_nil)))
  (pss_cons (ps_set (i := 8) sc_law.nd rfl (Or.inl rfl) (pe_call (ok_Lwhy T) (hr.mono (by decide)) (by rfl) T.mg_Lwhy T.kp_Lwhy T.b_Lwhy .nil pass0 (pa_cons (pv 6) pa_nil)))
  (Evl.pss_cut (ps_if (pt_cmp (pc_notN (pv 7))) (pss_cons (ps_set (i := 9) sc_law.nd rfl (Or.inl rfl) (pe_op op_cat (pe_call (ok_Lworks T TB1 n) (hr.mono (by decide)) (by rfl) T.mg_Lworks T.kp_Lworks T.b_Lworks .nil pass0 (pa_cons (pv 5) (pa_cons (pv 6) pa_nil))) (pe_call (ok_Lothers T TB2 n) (hr.mono (by decide)) (by rfl) T.mg_Lothers T.kp_Lothers T.b_Lothers .nil pass0 (pa_cons (pv 5) pa_nil))))
  (pss_one (ps_if (pt_cmpR (op_neD hr.units) (pe_lc (own := [("_law_work", 10)]) (g := gName 10) rfl sc_law.nd (pi_list (pv 9)) (blkOk_by (N := N_law) (sc := (defScope s_law)) (own := [("_law_work", 10)]) (by decide +kernel)) (fun _ _ _ _ _ => (pg_name (i := 10) sc_law.nd rfl (Or.inl rfl))) (fun _ _ _ _ _ => pts_one (pt_cmpR (neDK (K := K) rfl hr.units) (pe_call (ok_Lword T) (hr.mono (by decide)) (by rfl) T.mg_Lword T.kp_Lword T.b_Lword .nil pass0 (pa_cons (pv 10) pa_nil)) (pe_tup (pa_cons pe_str (pa_cons (pv 7) pa_nil))) (nomark _))) (fun _ _ _ _ _ => (pv 10))) (pe_lst pa_nil) (nomark _)) (pss_one (ps_ret pe_bl)) pss_nil))) (pss_one (ps_if (pt_cmpR (op_neD hr.units) (pe_word (k := 8) (q0 := ("law" : Str) ++ (".<locals>." : Str)) T rfl rfl TB hcode (List.mem_cons_of_mem _ (List.mem_cons_of_mem _ List.mem_cons_self)) (uniL n) (hr.mono (by decide)) (show LamX.LamS (defScope s_law) _ from LamX.lamS_by (by decide +kernel)) rfl (fun _ _ _ _ _ => rfl) (fun A outer s H E f c' hr2 => pe_call (ok_least_receiver T) (hr2.mono (by decide)) (by rfl) T.mg_least_receiver T.kp_least_receiver T.b_least_receiver .nil pass0 (pa_cons (pv 5) pa_nil))) (pe_tup (pa_cons pe_str (pa_cons pe_non pa_nil))) (nomark _)) (pss_one (ps_ret pe_bl)) pss_nil)))
  (pss_cons (ps_set (i := 9) sc_law.nd rfl (Or.inl rfl) (pe_op op_cat (pe_slice sl_list (pe_call (ok_Lworks T TB1 n) (hr.mono (by decide)) (by rfl) T.mg_Lworks T.kp_Lworks T.b_Lworks .nil pass0 (pa_cons (pv 3) (pa_cons (pv 6) pa_nil))) po_none (po_some (pe_op op_add pe_int (pe_callTy call_int1 (by rfl) T.z_int (by decide +kernel) (pa_cons (pe_cmpR op_ne (pv 8) pe_str (nomark _)) pa_nil))))) (pe_lst (pa_cons (pe_lamN (q0 := ("law" : Str) ++ (".<locals>." : Str)) rfl TB hcode (List.mem_cons_of_mem _ (List.mem_cons_of_mem _ List.mem_cons_self)) (uniL n) rfl (lam_free (sc := defScope s_law) (by decide +kernel))) pa_nil))))
  (pss_cons (ps_for PassesOwn.never rfl (pi_list (pv 9)) (pg_name (i := 10) sc_law.nd rfl (Or.inl rfl))
  (pss_one (ps_if (PW.pt (pw_and (pt_cmpR op_ne (pv 8) pe_str (nomark _)) (pw_and1 (pt_cmpR (op_neD hr.units) (pe_alt (pe_call (ok_Lword T) (hr.mono (by decide)) (by rfl) T.mg_Lword T.kp_Lword T.b_Lword .nil pass0 (pa_cons (pv 10) pa_nil)) (pe_wordV (k := 8) (i := 10) (q0 := ("law" : Str) ++ (".<locals>." : Str)) (params := lamP LM) (body := lamB LM) (scope := lamSc LM) T rfl rfl (hr.mono (by decide)) (show LamX.LamS (defScope s_law) _ from LamX.lamS_by (by decide +kernel)) (fun _ _ _ _ _ => rfl) (fun A outer s H E f c' hr2 => pe_make T.mk_Merger (okx_Merger_init T) (hr2.mono (by decide)) (by rfl) T.mg_Merger T.b_Merger_init .nil (passes_call (takes_of rfl rfl rfl rfl) fun _ _ _ _ h => h) (pa_cons (pv 6) pa_nil)) rfl (.inl rfl))) (pe_tup (pa_cons pe_str (pa_cons (pv 8) pa_nil))) (nomark _))))) (pss_one (ps_ret pe_bl)) pss_nil)))
  (pss_one (ps_if (PW.pt (pw_and (pt_cmpR op_eq (pv 8) pe_str (nomark _)) (pw_and1 (pt_cmpR (op_neD hr.units) (pe_word (k := 8) (q0 := ("law" : Str) ++ (".<locals>." : Str)) T rfl rfl TB hcode (List.mem_cons_of_mem _ (List.mem_cons_of_mem _ List.mem_cons_self)) (uniL n) (hr.mono (by decide)) (show LamX.LamS (defScope s_law) _ from LamX.lamS_by (by decide +kernel)) rfl (fun _ _ _ _ _ => rfl) (fun A outer s H E f c' hr2 => pe_call (ok_run T) (hr2.mono (by decide)) (by rfl) T.mg_run T.kp_run T.b_run .nil pass0 (pa_cons (pv 3) (pa_cons (pv 6) (pa_cons (pe_tup (pa_cons (pe_lst pa_nil) (pa_cons (pe_lst pa_nil) pa_nil))) pa_nil))))) (pe_tup (pa_cons pe_str (pa_cons pe_non pa_nil))) (nomark _))))) (pss_one (ps_ret pe_bl)) pss_nil))))))))))))
  (pss_one (ps_ret pe_bl))))), ?_⟩
    have tb0 : LamX.Tabs (TT3 T.tb_Lworks T.tb_Lothers T.tb_law) H := fun p hp => by
      simp only [List.mem_cons, List.not_mem_nil, or_false] at hp
      rcases hp with rfl | rfl | rfl
      · exact LamX.TabS.nil (hTb (T.cd_Lworks, T.tb_Lworks) (by simp))
      · exact LamX.TabS.nil (hTb (T.cd_Lothers, T.tb_Lothers) (by simp))
      · exact LamX.TabS.nil (hTb (T.cd_law, T.tb_law) (by simp))
    have n2 : 2 ≤ sizeLine := by decide
    refine ⟨_, rfl, by show 3 ≤ sizeLine; decide, fun r hr0 => ?_⟩
    have row0 := RowAt.start hS hr0
    have tb1 := tabs_same tb0 (Same.upd_new (o := .lst [.ref a, .int 0, .int 0]) hr0)
    revert row0 tb1
    generalize (upd H r (.lst [.ref a, .int 0, .int 0])) = H0
    intro row0 tb1
    refine ⟨_, rfl, by decide, by decide, for_range (n := 6) (fun i σ H' => ∃ (v2 v3 v4 v5 v6 v7 v8 v9 v10 : Option V), σ = [some (.ref a), some (.ref r), v2, v3, v4, v5, v6, v7, v8, v9, v10] ∧ RowAt K r H' ∧ LamX.Tabs (TT3 T.tb_Lworks T.tb_Lothers T.tb_law) H')
      ⟨_, _, _, _, _, _, _, _, _, rfl, row0, tb1⟩ ?_ ?_⟩
    · rintro i σ H2 hi ⟨v2, v3, v4, v5, v6, v7, v8, v9, v10, rfl, row2, tb2⟩
      refine ⟨_, rfl, r, rfl, row2, fun p D H3 hp hD _ row3 k3 => ?_⟩
      have tb3 := tabs_kp tb2 row2 k3
      refine ⟨_, rfl, _, rfl, r, p, D, rfl, row3, hp, hD, fun rq R H4 _ hrq hR row4 k4 => ?_⟩
      have hp4 := k4.roads row3 hp
      have tb4 := tabs_kp tb3 row3 k4
      refine ⟨_, rfl, _, rfl, r, p, D, rfl, row4, hp4, fun p' D' H5 hp' row5 k5 => ?_⟩
      have hp5 := k5.roads row4 hp4
      have hrq5 : RcvAt H5 rq R := k5.tup row4 hrq
      have tb5 := tabs_kp tb4 row4 k5
      refine ⟨_, rfl, _, rfl, r, rq, R, rfl, row5, hrq5, fun oq O H6 hO row6 k6 => ?_⟩
      have F6 : Fx K (TT3 T.tb_Lworks T.tb_Lothers T.tb_law) r p p' oq D D' O H6 := ⟨row6, k6.roads row5 hp5, k6.roads row5 hp', hO, tabs_kp tb5 row5 k6⟩
      refine ⟨_, rfl, p', D', rfl, F6.hp', fun vn H7 s7 hvn => ⟨_, rfl, oq, O, rfl, s7 _ _ hO, fun H8 s8 => ?_⟩⟩
      have F8 := F6.same (s7.trans s8)
      refine ⟨fun σ' H' => ∃ v9 v10 : Option V, σ' = [some (.ref a), some (.ref r), some (.int (0 + i)), some (.ref p), some (.ref rq), some (.ref p'), some (.ref oq), some vn, some (.str (wordR O)), v9, v10] ∧ Fx K (TT3 T.tb_Lworks T.tb_Lothers T.tb_law) r p p' oq D D' O H', ?_, ?_⟩
      · rcases hvn with ⟨okD, rfl⟩ | ⟨j, hj, rfl⟩
        · refine ⟨_, rfl, _, rfl, iteNS rfl ?_⟩
          refine ⟨F8.tb, fun H9 x9 T9 => ?_⟩
          have F9 := F8.xn x9 T9
          refine ⟨_, rfl, p', D', rfl, F9.hp', okD, fun t rt pl Ha _ _ _ _ _ _ sa => ⟨n2, fun t2 m2 => ⟨n2, fun t3 m3 => ?_⟩⟩⟩
          have sb := (sa.new (o := .tup [.str "", .non]) m2).new (o := .tup [.str "", .non]) m3
          refine ⟨_, _, dp_non ((Same.upd_new m3) _ _ upd_same), dp_non upd_same, sh_non, sh_non, ?_⟩
          rw [eqv_same sh_non]
          exact ⟨_, rfl, iteF ⟨_, _, rfl, F9.same sb⟩⟩
        · refine ⟨_, rfl, _, rfl, iteNN (fun z => by cases z) ?_⟩
          refine ⟨_, rfl, _, rfl, p', oq, rfl, F8.tb, fun l f0 f1 f2 cl0 Ha hl L0 L1 L2 C2 xa Ta => ?_⟩
          have Fa := F8.xn xa Ta
          refine ⟨_, rfl, p', rfl, Ta, fun l' g0 g1 g2 cl1 Hb hl' M0 M1 M2 C1 xb Tb => ?_⟩
          have Fb := Fa.xn xb Tb
          refine ⟨l, l', _, _, rfl, rfl, lst_xn hl xb, hl', by show 6 ≤ sizeLine; decide, fun m nm => ?_⟩
          have sm : Same Hb (upd Hb m (.lst ([.ref f0, .ref f1, .ref f2] ++ [.ref g0, .ref g1, .ref g2]))) := Same.upd_new nm
          have hm : (upd Hb m (.lst ([.ref f0, .ref f1, .ref f2] ++ [.ref g0, .ref g1, .ref g2]))) m = some (.lst [.ref f0, .ref f1, .ref f2, .ref g0, .ref g1, .ref g2]) := upd_same
          revert sm hm
          generalize (upd Hb m (.lst ([.ref f0, .ref f1, .ref f2] ++ [.ref g0, .ref g1, .ref g2]))) = Hc
          intro sm hm
          have Fc := Fb.same sm
          have call : ∀ (H' : Hp), Same Hc H' → ∀ (y : V), y ∈ ([.ref f0, .ref f1, .ref f2, .ref g0, .ref g1, .ref g2] : List V) → ∀ (Q : VK), (∀ t H'', Same H' H'' → H'' t = some (.tup [.str "roads", .int j]) → Q (.ref t) H'') → ∃ f : Addr, y = .ref f ∧ LamCall T.C_BadRoads T.C_BadReceiver f H' (noE T.C_BadRoads T.C_BadReceiver Q) := fun H' s' y hy Q hQ => by
            have Fd := Fc.same s'
            have xc : LamX.ExtN Hb H' := LamX.ExtN.of (sm.trans s')
            have w : ∀ (i : Nat) (f : Addr), i < 3 → Lam1 Ha qW (lamW i) cl0 f → LamCall T.C_BadRoads T.C_BadReceiver f H' (noE T.C_BadRoads T.C_BadReceiver Q) := fun i f hi L => .inl ⟨i, cl0, p', oq, D', O, hi, L.ext (xb.trans xc), C2.same (xb.trans xc), Fd.hp', Fd.ho, .inl ⟨j, hj, no_num hQ⟩⟩
            have u : ∀ (i : Nat) (f : Addr), i < 3 → Lam1 Hb qO (lamT i) cl1 f → LamCall T.C_BadRoads T.C_BadReceiver f H' (noE T.C_BadRoads T.C_BadReceiver Q) := fun i f hi L => .inr ⟨i, cl1, p', D', j, hi, L.ext xc, C1.same xc, Fd.hp', hj, no_num hQ⟩
            simp only [List.mem_cons, List.not_mem_nil, or_false] at hy
            rcases hy with rfl | rfl | rfl | rfl | rfl | rfl
            · exact ⟨f0, rfl, w 0 f0 (by decide) L0⟩
            · exact ⟨f1, rfl, w 1 f1 (by decide) L1⟩
            · exact ⟨f2, rfl, w 2 f2 (by decide) L2⟩
            · exact ⟨g0, rfl, u 0 g0 (by decide) M0⟩
            · exact ⟨g1, rfl, u 1 g1 (by decide) M1⟩
            · exact ⟨g2, rfl, u 2 g2 (by decide) M2⟩
          refine ⟨_, rfl, m, rfl, ⟨_, SqL.of hm⟩, fun L hL => lc_list (K := K) (a := m) (xs := [.ref f0, .ref f1, .ref f2, .ref g0, .ref g1, .ref g2]) (fun _ H' => Same Hc H' ∧ H' L = some (.lst [])) ⟨Same.upd_new hL, upd_same⟩ (fun _ H' _ z => SqL.of (z.1 _ _ hm)) ?_ ?_⟩
          · rintro jj y Hd hy ⟨sd, hd⟩
            refine ⟨rfl, _, rfl, ?_⟩
            refine Exists.elim (call Hd sd y (List.mem_of_getElem? hy) _ ?_) fun f hf => ⟨f, congrArg (fun z => [z]) hf.1, hf.2⟩
            intro t He se ht
            refine ⟨_, rfl, n2, fun t3 m3 => ⟨_, _, dp_one ((Same.upd_new m3) _ _ ht), dp_one upd_same, sh_one _, sh_one _, ?_⟩⟩
            rw [eqv_same (sh_one _)]
            exact ⟨_, rfl, iteF ⟨(sd.trans se).new m3, (Same.upd_new m3) _ _ (se _ _ hd)⟩⟩
          · rintro Hd ⟨sd, hd⟩
            refine ⟨by show 0 ≤ sizeLine; decide, fun e0 ne0 => ⟨.list (([] : List Int).map PyData.int), .list [], .lst (SqL.of ((Same.upd_new ne0) _ _ hd)) .nil, .lst (SqL.of upd_same) .nil, rfl, rfl, ?_⟩⟩
            rw [eqv_ints]
            exact ⟨_, rfl, iteF ⟨_, _, rfl, Fc.same (sd.new ne0)⟩⟩
      · rintro σ' H9 ⟨v9', v10', rfl, F9⟩
        refine ⟨_, rfl, _, rfl, p, oq, rfl, F9.tb, fun l f0 f1 f2 cl0 Ha hl L0 L1 L2 C2 xa Ta => ?_⟩
        have Fa := F9.xn xa Ta
        refine ⟨_, rfl, rfl, .inr ⟨_, rfl, _, _, rfl, rfl, _, rfl, l, _, rfl, SqL.of hl, fun l2 nl2 => ?_⟩⟩
        have hwO : (whyR O = none ∧ wordR O = "") ∨ ∃ x, whyR O = some x ∧ wordR O = x := by
          unfold wordR
          cases e : whyR O with
          | none => exact .inl ⟨rfl, rfl⟩
          | some x => exact .inr ⟨x, rfl, rfl⟩
        rcases hwO with ⟨ew, e⟩ | ⟨x, ew, e⟩
        · have hd : decide (V.str (wordR O) = V.str "") = true := decide_eq_true (by rw [e])
          have hcut : cutV ([.ref f0, .ref f1, .ref f2] : List V) none (some (2 + if (!decide (V.str (wordR O) = V.str "")) = true then 1 else 0)) = [.ref f0, .ref f1] := by
            rw [hd]
            exact cutV_tk _ 2 (by show 2 ≤ 3; decide)
          rw [hcut]
          have s2 : Same Ha (upd Ha l2 (.lst [.ref f0, .ref f1])) := Same.upd_new nl2
          have hl2 : (upd Ha l2 (.lst [.ref f0, .ref f1])) l2 = some (.lst [.ref f0, .ref f1]) := upd_same
          revert s2 hl2
          generalize (upd Ha l2 (.lst [.ref f0, .ref f1])) = Hb
          intro s2 hl2
          have Fb := Fa.same s2
          refine ⟨Fb.tb, fun f c' Hc xc Tc _ hf hc => ⟨by show 1 ≤ sizeLine; decide, fun l3 nl3 => ⟨l2, l3, _, _, rfl, rfl, (Same.upd_new nl3) _ _ (lst_xn hl2 xc), upd_same, by show 3 ≤ sizeLine; decide, fun m nm => ?_⟩⟩⟩
          have Fc := Fb.xn xc Tc
          have sm : Same Hc (upd (upd Hc l3 (.lst [.ref f])) m (.lst ([.ref f0, .ref f1] ++ [.ref f]))) := (Same.upd_new nl3).new nm
          have hm : (upd (upd Hc l3 (.lst [.ref f])) m (.lst ([.ref f0, .ref f1] ++ [.ref f]))) m = some (.lst [.ref f0, .ref f1, .ref f]) := upd_same
          revert sm hm
          generalize (upd (upd Hc l3 (.lst [.ref f])) m (.lst ([.ref f0, .ref f1] ++ [.ref f]))) = Hd
          intro sm hm
          have Fd := Fc.same sm
          refine ⟨_, rfl, m, rfl, ⟨_, SqL.of hm⟩, for_list (K := K) (a := m) (xs := [.ref f0, .ref f1, .ref f]) (fun _ σ H' => ∃ v10 : Option V, σ = [some (.ref a), some (.ref r), some (.int (0 + i)), some (.ref p), some (.ref rq), some (.ref p'), some (.ref oq), some vn, some (.str (wordR O)), some (.ref m), v10] ∧ Same Hd H') ⟨_, rfl, Same.refl Hd⟩ (fun _ σ H' _ ⟨_, _, s⟩ => SqL.of (s _ _ hm)) ?_ ?_⟩
          · rintro nn y σ He hy ⟨v10, rfl, se⟩
            exact ⟨_, rfl, rfl, _, rfl, iteNS (by rw [e]) (iteF ⟨_, rfl, se⟩)⟩
          · rintro σ He ⟨v10, rfl, se⟩
            have Fe := Fd.same se
            refine ⟨_, rfl, rfl, _, rfl, iteD (by rw [e]) ?_⟩
            refine ⟨Fe.tb, fun Hg xg Tg => ?_⟩
            have Fg := Fe.xn xg Tg
            refine ⟨_, rfl, _, rfl, by show 0 ≤ sizeLine; decide, fun a1 na => ⟨by show 0 ≤ sizeLine; decide, fun b1 nb => ⟨n2, fun q1 nq => ?_⟩⟩⟩
            have sq := ((Same.upd_new (o := .lst []) na).new (o := .lst []) nb).new (o := .tup [.ref a1, .ref b1]) nq
            have Fq := Fg.same sq
            refine ⟨p, oq, q1, a1, b1, D, O, [], [], rfl, Fq.hp, hD, Fq.ho, rcv_ok ew, ⟨SqT.of upd_same, SqL.of ((Same.upd_new nq) _ _ ((Same.upd_new nb) _ _ upd_same)), SqL.of ((Same.upd_new nq) _ _ upd_same), rfl, by decide, fun x hx => absurd hx List.not_mem_nil, fun x hx => absurd hx List.not_mem_nil⟩, fun pp ff Hh _ _ _ _ sh => ⟨n2, fun t2 m2 => ⟨n2, fun t3 m3 => ?_⟩⟩⟩
            have sk := (sh.new (o := .tup [.str "", .non]) m2).new (o := .tup [.str "", .non]) m3
            have Fk := Fq.same sk
            refine ⟨_, _, dp_non ((Same.upd_new m3) _ _ upd_same), dp_non upd_same, sh_non, sh_non, ?_⟩
            rw [eqv_same sh_non]
            exact ⟨_, rfl, iteF ⟨_, _, _, _, _, _, _, _, _, rfl, Fk.row, Fk.tb⟩⟩
        · have hne : ¬ (V.str (wordR O) = V.str "") := fun z => why_ne ew (by rw [← e]; exact V.str.inj z)
          have hd : decide (V.str (wordR O) = V.str "") = false := decide_eq_false hne
          have hcut : cutV ([.ref f0, .ref f1, .ref f2] : List V) none (some (2 + if (!decide (V.str (wordR O) = V.str "")) = true then 1 else 0)) = [.ref f0, .ref f1, .ref f2] := by
            rw [hd]
            exact cutV_tk _ 3 (by show 3 ≤ 3; decide)
          rw [hcut]
          have s2 : Same Ha (upd Ha l2 (.lst [.ref f0, .ref f1, .ref f2])) := Same.upd_new nl2
          have hl2 : (upd Ha l2 (.lst [.ref f0, .ref f1, .ref f2])) l2 = some (.lst [.ref f0, .ref f1, .ref f2]) := upd_same
          revert s2 hl2
          generalize (upd Ha l2 (.lst [.ref f0, .ref f1, .ref f2])) = Hb
          intro s2 hl2
          have Fb := Fa.same s2
          refine ⟨Fb.tb, fun f c' Hc xc Tc _ hf hc => ⟨by show 1 ≤ sizeLine; decide, fun l3 nl3 => ⟨l2, l3, _, _, rfl, rfl, (Same.upd_new nl3) _ _ (lst_xn hl2 xc), upd_same, by show 4 ≤ sizeLine; decide, fun m nm => ?_⟩⟩⟩
          have Fc := Fb.xn xc Tc
          have sm : Same Hc (upd (upd Hc l3 (.lst [.ref f])) m (.lst ([.ref f0, .ref f1, .ref f2] ++ [.ref f]))) := (Same.upd_new nl3).new nm
          have hm : (upd (upd Hc l3 (.lst [.ref f])) m (.lst ([.ref f0, .ref f1, .ref f2] ++ [.ref f]))) m = some (.lst [.ref f0, .ref f1, .ref f2, .ref f]) := upd_same
          revert sm hm
          generalize (upd (upd Hc l3 (.lst [.ref f])) m (.lst ([.ref f0, .ref f1, .ref f2] ++ [.ref f]))) = Hd
          intro sm hm
          have Fd := Fc.same sm
          have xd : LamX.ExtN Ha Hd := ((LamX.ExtN.of s2).trans xc).trans (LamX.ExtN.of sm)
          refine ⟨_, rfl, m, rfl, ⟨_, SqL.of hm⟩, for_list (K := K) (a := m) (xs := [.ref f0, .ref f1, .ref f2, .ref f]) (fun _ σ H' => ∃ v10 : Option V, σ = [some (.ref a), some (.ref r), some (.int (0 + i)), some (.ref p), some (.ref rq), some (.ref p'), some (.ref oq), some vn, some (.str (wordR O)), some (.ref m), v10] ∧ Same Hd H') ⟨_, rfl, Same.refl Hd⟩ (fun _ σ H' _ ⟨_, _, s⟩ => SqL.of (s _ _ hm)) ?_ ?_⟩
          · rintro nn y σ He hy ⟨v10, rfl, se⟩
            have Fe := Fd.same se
            refine ⟨_, rfl, rfl, _, rfl, iteNN hne ?_⟩
            have kept : ∀ (i : Nat) (g : Addr), i < 3 → Lam1 Ha qW (lamW i) cl0 g → ∀ Q : VK, (∀ t Hg, Same He Hg → Hg t = some (.tup [.str "receiver", .str x]) → Q (.ref t) Hg) → LamCall T.C_BadRoads T.C_BadReceiver g He (noE T.C_BadRoads T.C_BadReceiver Q) := fun i g hi L Q hQ => by
              have xe := xd.trans (LamX.ExtN.of se)
              exact .inl ⟨i, cl0, p, oq, D, O, hi, L.ext xe, C2.same xe, Fe.hp, Fe.ho, .inr ⟨hD, x, ew, no_word hQ⟩⟩
            match nn, hy with
            | 0, hy =>
              cases hy
              refine .inl ⟨_, rfl, f0, rfl, kept 0 f0 (by decide) L0 _ fun t Hg sg ht => ?_⟩
              refine ⟨_, rfl, n2, fun t3 m3 => ⟨_, _, dp_strs ((Same.upd_new m3) _ _ ht), dp_strs (by rw [← e]; exact upd_same), sh_strs (why_in ew), sh_strs (why_in ew), ?_⟩⟩
              rw [eqv_same (sh_strs (why_in ew))]
              exact ⟨_, rfl, iteF ⟨_, rfl, (se.trans sg).new m3⟩⟩
            | 1, hy =>
              cases hy
              refine .inl ⟨_, rfl, f1, rfl, kept 1 f1 (by decide) L1 _ fun t Hg sg ht => ?_⟩
              refine ⟨_, rfl, n2, fun t3 m3 => ⟨_, _, dp_strs ((Same.upd_new m3) _ _ ht), dp_strs (by rw [← e]; exact upd_same), sh_strs (why_in ew), sh_strs (why_in ew), ?_⟩⟩
              rw [eqv_same (sh_strs (why_in ew))]
              exact ⟨_, rfl, iteF ⟨_, rfl, (se.trans sg).new m3⟩⟩
            | 2, hy =>
              cases hy
              refine .inl ⟨_, rfl, f2, rfl, kept 2 f2 (by decide) L2 _ fun t Hg sg ht => ?_⟩
              refine ⟨_, rfl, n2, fun t3 m3 => ⟨_, _, dp_strs ((Same.upd_new m3) _ _ ht), dp_strs (by rw [← e]; exact upd_same), sh_strs (why_in ew), sh_strs (why_in ew), ?_⟩⟩
              rw [eqv_same (sh_strs (why_in ew))]
              exact ⟨_, rfl, iteF ⟨_, rfl, (se.trans sg).new m3⟩⟩
            | 3, hy =>
              cases hy
              refine .inr ⟨f, c', rfl, (sm.trans se) _ _ hf, (sm.trans se) _ _ hc, (sm.trans se) _ _ hf, _, rfl, fun mx dx nx ndx nex => ⟨mx, oq, O, x, rfl, ?_, ew, no_word fun t Hg sg ht => ?_⟩⟩
              · show (upd _ mx _) oq = _
                rw [upd_ne (ne_of_none Fe.ho nx), upd_ne (ne_of_none Fe.ho ndx)]
                exact Fe.ho
              · have sx : Same He Hg := fun b o eb => sg b o (by rw [upd_ne (ne_of_none eb nx), upd_ne (ne_of_none eb ndx)]; exact eb)
                refine ⟨_, rfl, n2, fun t3 m3 => ⟨_, _, dp_strs ((Same.upd_new m3) _ _ ht), dp_strs (by rw [← e]; exact upd_same), sh_strs (why_in ew), sh_strs (why_in ew), ?_⟩⟩
                rw [eqv_same (sh_strs (why_in ew))]
                exact ⟨_, rfl, iteF ⟨_, rfl, (se.trans sx).new m3⟩⟩
          · rintro σ He ⟨v10, rfl, se⟩
            have Fe := Fd.same se
            exact ⟨_, rfl, rfl, _, rfl, iteND hne (iteF ⟨_, _, _, _, _, _, _, _, _, rfl, Fe.row, Fe.tb⟩)⟩
    · rintro σ H4 _
      exact k _
end
end Tp
namespace Tp
open PySem L2
theorem all_mk {l : PySem.W.OpenLaw} {w : World} {K : PySem.W.Frag} {h : Heap} {mg : Str → Option Value} {fa : Addr} (X : K.In h) (G : h.Ns mainGlobals mg) (hfa : mg "law" = some (.ref fa))
    {f0 : Addr} {od0 an0 : Option Addr} {sl0 : Array (Option Value)} {oc0 kV0 dc0 pm0 cd0 ct0 : Value}
    {f1 : Addr} {od1 an1 : Option Addr} {sl1 : Array (Option Value)} {oc1 kV1 dc1 pm1 cd1 ct1 : Value}
    {f2 : Addr} {od2 an2 : Option Addr} {sl2 : Array (Option Value)} {oc2 kV2 dc2 pm2 cd2 ct2 : Value}
    {f3 : Addr} {od3 an3 : Option Addr} {sl3 : Array (Option Value)} {oc3 kV3 dc3 pm3 cd3 ct3 : Value}
    {f4 : Addr} {od4 an4 : Option Addr} {sl4 : Array (Option Value)} {oc4 kV4 dc4 pm4 cd4 ct4 : Value}
    {f5 : Addr} {od5 an5 : Option Addr} {sl5 : Array (Option Value)} {oc5 kV5 dc5 pm5 cd5 ct5 : Value}
    {f6 : Addr} {od6 an6 : Option Addr} {sl6 : Array (Option Value)} {oc6 kV6 dc6 pm6 cd6 ct6 : Value}
    {f7 : Addr} {od7 an7 : Option Addr} {sl7 : Array (Option Value)} {oc7 kV7 dc7 pm7 cd7 ct7 : Value}
    {f8 : Addr} {od8 an8 : Option Addr} {sl8 : Array (Option Value)} {oc8 kV8 dc8 pm8 cd8 ct8 : Value}
    {f9 : Addr} {od9 an9 : Option Addr} {sl9 : Array (Option Value)} {oc9 kV9 dc9 pm9 cd9 ct9 : Value}
    {f10 : Addr} {od10 an10 : Option Addr} {sl10 : Array (Option Value)} {oc10 kV10 dc10 pm10 cd10 ct10 : Value}
    {f11 : Addr} {od11 an11 : Option Addr} {sl11 : Array (Option Value)} {oc11 kV11 dc11 pm11 cd11 ct11 : Value}
    {f12 : Addr} {od12 an12 : Option Addr} {sl12 : Array (Option Value)} {oc12 kV12 dc12 pm12 cd12 ct12 : Value}
    {f13 : Addr} {od13 an13 : Option Addr} {sl13 : Array (Option Value)} {oc13 kV13 dc13 pm13 cd13 ct13 : Value}
    {f14 : Addr} {od14 an14 : Option Addr} {sl14 : Array (Option Value)} {oc14 kV14 dc14 pm14 cd14 ct14 : Value}
    {f15 : Addr} {od15 an15 : Option Addr} {sl15 : Array (Option Value)} {oc15 kV15 dc15 pm15 cd15 ct15 : Value}
    {f16 : Addr} {od16 an16 : Option Addr} {sl16 : Array (Option Value)} {oc16 kV16 dc16 pm16 cd16 ct16 : Value}
    {f17 : Addr} {od17 an17 : Option Addr} {sl17 : Array (Option Value)} {oc17 kV17 dc17 pm17 cd17 ct17 : Value}
    {f18 : Addr} {od18 an18 : Option Addr} {sl18 : Array (Option Value)} {oc18 kV18 dc18 pm18 cd18 ct18 : Value}
    {f19 : Addr} {od19 an19 : Option Addr} {sl19 : Array (Option Value)} {oc19 kV19 dc19 pm19 cd19 ct19 : Value}
    {f20 : Addr} {od20 an20 : Option Addr} {sl20 : Array (Option Value)} {oc20 kV20 dc20 pm20 cd20 ct20 : Value}
    {f21 : Addr} {od21 an21 : Option Addr} {sl21 : Array (Option Value)} {oc21 kV21 dc21 pm21 cd21 ct21 : Value}
    {f22 : Addr} {od22 an22 : Option Addr} {sl22 : Array (Option Value)} {oc22 kV22 dc22 pm22 cd22 ct22 : Value}
    {f23 : Addr} {od23 an23 : Option Addr} {sl23 : Array (Option Value)} {oc23 kV23 dc23 pm23 cd23 ct23 : Value}
    {f24 : Addr} {od24 an24 : Option Addr} {sl24 : Array (Option Value)} {oc24 kV24 dc24 pm24 cd24 ct24 : Value}
    {f25 : Addr} {od25 an25 : Option Addr} {sl25 : Array (Option Value)} {oc25 kV25 dc25 pm25 cd25 ct25 : Value}
    {f26 : Addr} {od26 an26 : Option Addr} {sl26 : Array (Option Value)} {oc26 kV26 dc26 pm26 cd26 ct26 : Value}
    {f27 : Addr} {od27 an27 : Option Addr} {sl27 : Array (Option Value)} {oc27 kV27 dc27 pm27 cd27 ct27 : Value}
    {f28 : Addr} {od28 an28 : Option Addr} {sl28 : Array (Option Value)} {oc28 kV28 dc28 pm28 cd28 ct28 : Value}
    {f29 : Addr} {od29 an29 : Option Addr} {sl29 : Array (Option Value)} {oc29 kV29 dc29 pm29 cd29 ct29 : Value}
    {f30 : Addr} {od30 an30 : Option Addr} {sl30 : Array (Option Value)} {oc30 kV30 dc30 pm30 cd30 ct30 : Value}
    {f31 : Addr} {od31 an31 : Option Addr} {sl31 : Array (Option Value)} {oc31 kV31 dc31 pm31 cd31 ct31 : Value}
    {f32 : Addr} {od32 an32 : Option Addr} {sl32 : Array (Option Value)} {oc32 kV32 dc32 pm32 cd32 ct32 : Value}
    {f33 : Addr} {od33 an33 : Option Addr} {sl33 : Array (Option Value)} {oc33 kV33 dc33 pm33 cd33 ct33 : Value}
    {t_MOST_LATE : Tok}
    {t_MOST_MARKS : Tok}
    {t_MOST_WAIT : Tok}
    {t_MOST_THINGS : Tok}
    {t_FIGURES : Tok}
    {t_GONE : Tok}
    {C_Merger : Addr}
    {C_RoadError : Addr}
    {C_BadRoads : Addr}
    {C_BadReceiver : Addr}
    {C_BadRows : Addr}
    {C_BadMark : Addr}
    {C_BadText : Addr}
    {fi_BadRoads : Addr} {odi_BadRoads ani_BadRoads : Option Addr} {sli_BadRoads : Array (Option Value)} {oci_BadRoads kVi_BadRoads dci_BadRoads pmi_BadRoads cdi_BadRoads cti_BadRoads : Value} {nm_BadRoads qn_BadRoads : Str} {N_BadRoads : Addr} {bs_BadRoads bm_BadRoads : List Value} {sn_BadRoads : List Str} {sub_BadRoads : List Value} {ab_BadRoads : Bool} {col_BadRoads : Option Bool} {dd_BadRoads : Option Addr} {m0_BadRoads m1_BadRoads m2_BadRoads m3_BadRoads m5_BadRoads : Option Value}
    {fi_BadReceiver : Addr} {odi_BadReceiver ani_BadReceiver : Option Addr} {sli_BadReceiver : Array (Option Value)} {oci_BadReceiver kVi_BadReceiver dci_BadReceiver pmi_BadReceiver cdi_BadReceiver cti_BadReceiver : Value} {nm_BadReceiver qn_BadReceiver : Str} {N_BadReceiver : Addr} {bs_BadReceiver bm_BadReceiver : List Value} {sn_BadReceiver : List Str} {sub_BadReceiver : List Value} {ab_BadReceiver : Bool} {col_BadReceiver : Option Bool} {dd_BadReceiver : Option Addr} {m0_BadReceiver m1_BadReceiver m2_BadReceiver m3_BadReceiver m5_BadReceiver : Option Value}
    {cd_Lworks tb_Lworks : Addr} {ce_Lworks : Value} {co_Lworks : Option Addr} {cv_Lworks : Array Value} {cs_Lworks : Array (Option Value)}
    {cd_Lothers tb_Lothers : Addr} {ce_Lothers : Value} {co_Lothers : Option Addr} {cv_Lothers : Array Value} {cs_Lothers : Array (Option Value)}
    {cd_law tb_law : Addr} {ce_law : Value} {co_law : Option Addr} {cv_law : Array Value} {cs_law : Array (Option Value)}
    {fm0 : Addr} {odm0 anm0 : Option Addr} {slm0 : Array (Option Value)} {ocm0 kVm0 dcm0 pmm0 cdm0 ctm0 : Value}
    {fm1 : Addr} {odm1 anm1 : Option Addr} {slm1 : Array (Option Value)} {ocm1 kVm1 dcm1 pmm1 cdm1 ctm1 : Value}
    {fm2 : Addr} {odm2 anm2 : Option Addr} {slm2 : Array (Option Value)} {ocm2 kVm2 dcm2 pmm2 cdm2 ctm2 : Value}
    {fm3 : Addr} {odm3 anm3 : Option Addr} {slm3 : Array (Option Value)} {ocm3 kVm3 dcm3 pmm3 cdm3 ctm3 : Value}
    {fm4 : Addr} {odm4 anm4 : Option Addr} {slm4 : Array (Option Value)} {ocm4 kVm4 dcm4 pmm4 cdm4 ctm4 : Value}
    {fm5 : Addr} {odm5 anm5 : Option Addr} {slm5 : Array (Option Value)} {ocm5 kVm5 dcm5 pmm5 cdm5 ctm5 : Value}
    {fm6 : Addr} {odm6 anm6 : Option Addr} {slm6 : Array (Option Value)} {ocm6 kVm6 dcm6 pmm6 cdm6 ctm6 : Value}
    (a0 : PySem.W.nsIn K mainGlobals "_wall" = some (some (.ref f0))) (l0 : K.lookup f0 = some ⟨oc0, od0, .func (PySem.W.fnOf "_wall" "_wall" (defArgs s__wall) (defBody s__wall) (defScope s__wall) .none kV0 dc0 pm0 an0 cd0 ct0), sl0⟩) (c0 : PySem.W.codeIn K cd0 "_wall" = true) (k0 : PySem.W.keepIn K (.ref f0) = true)
    (a1 : PySem.W.nsIn K mainGlobals "need_roads" = some (some (.ref f1))) (l1 : K.lookup f1 = some ⟨oc1, od1, .func (PySem.W.fnOf "need_roads" "need_roads" (defArgs s_need_roads) (defBody s_need_roads) (defScope s_need_roads) .none kV1 dc1 pm1 an1 cd1 ct1), sl1⟩) (c1 : PySem.W.codeIn K cd1 "need_roads" = true) (k1 : PySem.W.keepIn K (.ref f1) = true)
    (a2 : PySem.W.nsIn K mainGlobals "need_receiver" = some (some (.ref f2))) (l2 : K.lookup f2 = some ⟨oc2, od2, .func (PySem.W.fnOf "need_receiver" "need_receiver" (defArgs s_need_receiver) (defBody s_need_receiver) (defScope s_need_receiver) .none kV2 dc2 pm2 an2 cd2 ct2), sl2⟩) (c2 : PySem.W.codeIn K cd2 "need_receiver" = true) (k2 : PySem.W.keepIn K (.ref f2) = true)
    (a3 : PySem.W.nsIn K mainGlobals "need_rows" = some (some (.ref f3))) (l3 : K.lookup f3 = some ⟨oc3, od3, .func (PySem.W.fnOf "need_rows" "need_rows" (defArgs s_need_rows) (defBody s_need_rows) (defScope s_need_rows) .none kV3 dc3 pm3 an3 cd3 ct3), sl3⟩) (c3 : PySem.W.codeIn K cd3 "need_rows" = true) (k3 : PySem.W.keepIn K (.ref f3) = true)
    (a4 : PySem.W.nsIn K mainGlobals "spread" = some (some (.ref f4))) (l4 : K.lookup f4 = some ⟨oc4, od4, .func (PySem.W.fnOf "spread" "spread" (defArgs s_spread) (defBody s_spread) (defScope s_spread) .none kV4 dc4 pm4 an4 cd4 ct4), sl4⟩) (c4 : PySem.W.codeIn K cd4 "spread" = true) (k4 : PySem.W.keepIn K (.ref f4) = true)
    (a5 : PySem.W.nsIn K mainGlobals "arrivals" = some (some (.ref f5))) (l5 : K.lookup f5 = some ⟨oc5, od5, .func (PySem.W.fnOf "arrivals" "arrivals" (defArgs s_arrivals) (defBody s_arrivals) (defScope s_arrivals) .none kV5 dc5 pm5 an5 cd5 ct5), sl5⟩) (c5 : PySem.W.codeIn K cd5 "arrivals" = true) (k5 : PySem.W.keepIn K (.ref f5) = true)
    (a6 : PySem.W.nsIn K mainGlobals "out_of" = some (some (.ref f6))) (l6 : K.lookup f6 = some ⟨oc6, od6, .func (PySem.W.fnOf "out_of" "out_of" (defArgs s_out_of) (defBody s_out_of) (defScope s_out_of) .none kV6 dc6 pm6 an6 cd6 ct6), sl6⟩) (c6 : PySem.W.codeIn K cd6 "out_of" = true) (k6 : PySem.W.keepIn K (.ref f6) = true)
    (a7 : PySem.W.nsIn K mainGlobals "need_all" = some (some (.ref f7))) (l7 : K.lookup f7 = some ⟨oc7, od7, .func (PySem.W.fnOf "need_all" "need_all" (defArgs s_need_all) (defBody s_need_all) (defScope s_need_all) .none kV7 dc7 pm7 an7 cd7 ct7), sl7⟩) (c7 : PySem.W.codeIn K cd7 "need_all" = true) (k7 : PySem.W.keepIn K (.ref f7) = true)
    (a8 : PySem.W.nsIn K mainGlobals "run" = some (some (.ref f8))) (l8 : K.lookup f8 = some ⟨oc8, od8, .func (PySem.W.fnOf "run" "run" (defArgs s_run) (defBody s_run) (defScope s_run) .none kV8 dc8 pm8 an8 cd8 ct8), sl8⟩) (c8 : PySem.W.codeIn K cd8 "run" = true) (k8 : PySem.W.keepIn K (.ref f8) = true)
    (a9 : PySem.W.nsIn K mainGlobals "faults_of" = some (some (.ref f9))) (l9 : K.lookup f9 = some ⟨oc9, od9, .func (PySem.W.fnOf "faults_of" "faults_of" (defArgs s_faults_of) (defBody s_faults_of) (defScope s_faults_of) .none kV9 dc9 pm9 an9 cd9 ct9), sl9⟩) (c9 : PySem.W.codeIn K cd9 "faults_of" = true) (k9 : PySem.W.keepIn K (.ref f9) = true)
    (a10 : PySem.W.nsIn K mainGlobals "faults" = some (some (.ref f10))) (l10 : K.lookup f10 = some ⟨oc10, od10, .func (PySem.W.fnOf "faults" "faults" (defArgs s_faults) (defBody s_faults) (defScope s_faults) .none kV10 dc10 pm10 an10 cd10 ct10), sl10⟩) (c10 : PySem.W.codeIn K cd10 "faults" = true) (k10 : PySem.W.keepIn K (.ref f10) = true)
    (a11 : PySem.W.nsIn K mainGlobals "is_sure" = some (some (.ref f11))) (l11 : K.lookup f11 = some ⟨oc11, od11, .func (PySem.W.fnOf "is_sure" "is_sure" (defArgs s_is_sure) (defBody s_is_sure) (defScope s_is_sure) .none kV11 dc11 pm11 an11 cd11 ct11), sl11⟩) (c11 : PySem.W.codeIn K cd11 "is_sure" = true) (k11 : PySem.W.keepIn K (.ref f11) = true)
    (a12 : PySem.W.nsIn K mainGlobals "road_of" = some (some (.ref f12))) (l12 : K.lookup f12 = some ⟨oc12, od12, .func (PySem.W.fnOf "road_of" "road_of" (defArgs s_road_of) (defBody s_road_of) (defScope s_road_of) .none kV12 dc12 pm12 an12 cd12 ct12), sl12⟩) (c12 : PySem.W.codeIn K cd12 "road_of" = true) (k12 : PySem.W.keepIn K (.ref f12) = true)
    (a13 : PySem.W.nsIn K mainGlobals "with_hole" = some (some (.ref f13))) (l13 : K.lookup f13 = some ⟨oc13, od13, .func (PySem.W.fnOf "with_hole" "with_hole" (defArgs s_with_hole) (defBody s_with_hole) (defScope s_with_hole) .none kV13 dc13 pm13 an13 cd13 ct13), sl13⟩) (c13 : PySem.W.codeIn K cd13 "with_hole" = true) (k13 : PySem.W.keepIn K (.ref f13) = true)
    (a14 : PySem.W.nsIn K mainGlobals "with_copies" = some (some (.ref f14))) (l14 : K.lookup f14 = some ⟨oc14, od14, .func (PySem.W.fnOf "with_copies" "with_copies" (defArgs s_with_copies) (defBody s_with_copies) (defScope s_with_copies) .none kV14 dc14 pm14 an14 cd14 ct14), sl14⟩) (c14 : PySem.W.codeIn K cd14 "with_copies" = true) (k14 : PySem.W.keepIn K (.ref f14) = true)
    (a15 : PySem.W.nsIn K mainGlobals "tried" = some (some (.ref f15))) (l15 : K.lookup f15 = some ⟨oc15, od15, .func (PySem.W.fnOf "tried" "tried" (defArgs s_tried) (defBody s_tried) (defScope s_tried) .none kV15 dc15 pm15 an15 cd15 ct15), sl15⟩) (c15 : PySem.W.codeIn K cd15 "tried" = true) (k15 : PySem.W.keepIn K (.ref f15) = true)
    (a16 : PySem.W.nsIn K mainGlobals "judged" = some (some (.ref f16))) (l16 : K.lookup f16 = some ⟨oc16, od16, .func (PySem.W.fnOf "judged" "judged" (defArgs s_judged) (defBody s_judged) (defScope s_judged) .none kV16 dc16 pm16 an16 cd16 ct16), sl16⟩) (c16 : PySem.W.codeIn K cd16 "judged" = true) (k16 : PySem.W.keepIn K (.ref f16) = true)
    (a17 : PySem.W.nsIn K mainGlobals "least_receiver" = some (some (.ref f17))) (l17 : K.lookup f17 = some ⟨oc17, od17, .func (PySem.W.fnOf "least_receiver" "least_receiver" (defArgs s_least_receiver) (defBody s_least_receiver) (defScope s_least_receiver) .none kV17 dc17 pm17 an17 cd17 ct17), sl17⟩) (c17 : PySem.W.codeIn K cd17 "least_receiver" = true) (k17 : PySem.W.keepIn K (.ref f17) = true)
    (a18 : PySem.W.nsIn K mainGlobals "sign_of" = some (some (.ref f18))) (l18 : K.lookup f18 = some ⟨oc18, od18, .func (PySem.W.fnOf "sign_of" "sign_of" (defArgs s_sign_of) (defBody s_sign_of) (defScope s_sign_of) .none kV18 dc18 pm18 an18 cd18 ct18), sl18⟩) (c18 : PySem.W.codeIn K cd18 "sign_of" = true) (k18 : PySem.W.keepIn K (.ref f18) = true)
    (a19 : PySem.W.nsIn K mainGlobals "written" = some (some (.ref f19))) (l19 : K.lookup f19 = some ⟨oc19, od19, .func (PySem.W.fnOf "written" "written" (defArgs s_written) (defBody s_written) (defScope s_written) .none kV19 dc19 pm19 an19 cd19 ct19), sl19⟩) (c19 : PySem.W.codeIn K cd19 "written" = true) (k19 : PySem.W.keepIn K (.ref f19) = true)
    (a20 : PySem.W.nsIn K mainGlobals "row_of" = some (some (.ref f20))) (l20 : K.lookup f20 = some ⟨oc20, od20, .func (PySem.W.fnOf "row_of" "row_of" (defArgs s_row_of) (defBody s_row_of) (defScope s_row_of) .none kV20 dc20 pm20 an20 cd20 ct20), sl20⟩) (c20 : PySem.W.codeIn K cd20 "row_of" = true) (k20 : PySem.W.keepIn K (.ref f20) = true)
    (a21 : PySem.W.nsIn K mainGlobals "read" = some (some (.ref f21))) (l21 : K.lookup f21 = some ⟨oc21, od21, .func (PySem.W.fnOf "read" "read" (defArgs s_read) (defBody s_read) (defScope s_read) .none kV21 dc21 pm21 an21 cd21 ct21), sl21⟩) (c21 : PySem.W.codeIn K cd21 "read" = true) (k21 : PySem.W.keepIn K (.ref f21) = true)
    (a22 : PySem.W.nsIn K mainGlobals "_law_taken" = some (some (.ref f22))) (l22 : K.lookup f22 = some ⟨oc22, od22, .func (PySem.W.fnOf "_law_taken" "_law_taken" (defArgs s_Ltaken) (defBody s_Ltaken) (defScope s_Ltaken) .none kV22 dc22 pm22 an22 cd22 ct22), sl22⟩) (c22 : PySem.W.codeIn K cd22 "_law_taken" = true) (k22 : PySem.W.keepIn K (.ref f22) = true)
    (a23 : PySem.W.nsIn K mainGlobals "_law_roads" = some (some (.ref f23))) (l23 : K.lookup f23 = some ⟨oc23, od23, .func (PySem.W.fnOf "_law_roads" "_law_roads" (defArgs s_Lroads) (defBody s_Lroads) (defScope s_Lroads) .none kV23 dc23 pm23 an23 cd23 ct23), sl23⟩) (c23 : PySem.W.codeIn K cd23 "_law_roads" = true) (k23 : PySem.W.keepIn K (.ref f23) = true)
    (a24 : PySem.W.nsIn K mainGlobals "_law_spread" = some (some (.ref f24))) (l24 : K.lookup f24 = some ⟨oc24, od24, .func (PySem.W.fnOf "_law_spread" "_law_spread" (defArgs s_Lspread) (defBody s_Lspread) (defScope s_Lspread) .none kV24 dc24 pm24 an24 cd24 ct24), sl24⟩) (c24 : PySem.W.codeIn K cd24 "_law_spread" = true) (k24 : PySem.W.keepIn K (.ref f24) = true)
    (a25 : PySem.W.nsIn K mainGlobals "_law_receiver" = some (some (.ref f25))) (l25 : K.lookup f25 = some ⟨oc25, od25, .func (PySem.W.fnOf "_law_receiver" "_law_receiver" (defArgs s_Lreceiver) (defBody s_Lreceiver) (defScope s_Lreceiver) .none kV25 dc25 pm25 an25 cd25 ct25), sl25⟩) (c25 : PySem.W.codeIn K cd25 "_law_receiver" = true) (k25 : PySem.W.keepIn K (.ref f25) = true)
    (a26 : PySem.W.nsIn K mainGlobals "_law_word" = some (some (.ref f26))) (l26 : K.lookup f26 = some ⟨oc26, od26, .func (PySem.W.fnOf "_law_word" "_law_word" (defArgs s_Lword) (defBody s_Lword) (defScope s_Lword) .none kV26 dc26 pm26 an26 cd26 ct26), sl26⟩) (c26 : PySem.W.codeIn K cd26 "_law_word" = true) (k26 : PySem.W.keepIn K (.ref f26) = true)
    (a27 : PySem.W.nsIn K mainGlobals "_law_bad_road" = some (some (.ref f27))) (l27 : K.lookup f27 = some ⟨oc27, od27, .func (PySem.W.fnOf "_law_bad_road" "_law_bad_road" (defArgs s_Lbad_road) (defBody s_Lbad_road) (defScope s_Lbad_road) .none kV27 dc27 pm27 an27 cd27 ct27), sl27⟩) (c27 : PySem.W.codeIn K cd27 "_law_bad_road" = true) (k27 : PySem.W.keepIn K (.ref f27) = true)
    (a28 : PySem.W.nsIn K mainGlobals "_law_why" = some (some (.ref f28))) (l28 : K.lookup f28 = some ⟨oc28, od28, .func (PySem.W.fnOf "_law_why" "_law_why" (defArgs s_Lwhy) (defBody s_Lwhy) (defScope s_Lwhy) .none kV28 dc28 pm28 an28 cd28 ct28), sl28⟩) (c28 : PySem.W.codeIn K cd28 "_law_why" = true) (k28 : PySem.W.keepIn K (.ref f28) = true)
    (a29 : PySem.W.nsIn K mainGlobals "_law_odd_roads" = some (some (.ref f29))) (l29 : K.lookup f29 = some ⟨oc29, od29, .func (PySem.W.fnOf "_law_odd_roads" "_law_odd_roads" (defArgs s_Lodd_roads) (defBody s_Lodd_roads) (defScope s_Lodd_roads) .none kV29 dc29 pm29 an29 cd29 ct29), sl29⟩) (c29 : PySem.W.codeIn K cd29 "_law_odd_roads" = true) (k29 : PySem.W.keepIn K (.ref f29) = true)
    (a30 : PySem.W.nsIn K mainGlobals "_law_odd_receiver" = some (some (.ref f30))) (l30 : K.lookup f30 = some ⟨oc30, od30, .func (PySem.W.fnOf "_law_odd_receiver" "_law_odd_receiver" (defArgs s_Lodd_receiver) (defBody s_Lodd_receiver) (defScope s_Lodd_receiver) .none kV30 dc30 pm30 an30 cd30 ct30), sl30⟩) (c30 : PySem.W.codeIn K cd30 "_law_odd_receiver" = true) (k30 : PySem.W.keepIn K (.ref f30) = true)
    (a31 : PySem.W.nsIn K mainGlobals "_law_works" = some (some (.ref f31))) (l31 : K.lookup f31 = some ⟨oc31, od31, .func (PySem.W.fnOf "_law_works" "_law_works" (defArgs s_Lworks) (defBody s_Lworks) (defScope s_Lworks) .none kV31 dc31 pm31 an31 cd31 ct31), sl31⟩) (c31 : PySem.W.codeIn K cd31 "_law_works" = true) (k31 : PySem.W.keepIn K (.ref f31) = true)
    (a32 : PySem.W.nsIn K mainGlobals "_law_others" = some (some (.ref f32))) (l32 : K.lookup f32 = some ⟨oc32, od32, .func (PySem.W.fnOf "_law_others" "_law_others" (defArgs s_Lothers) (defBody s_Lothers) (defScope s_Lothers) .none kV32 dc32 pm32 an32 cd32 ct32), sl32⟩) (c32 : PySem.W.codeIn K cd32 "_law_others" = true) (k32 : PySem.W.keepIn K (.ref f32) = true)
    (a33 : PySem.W.nsIn K mainGlobals "law" = some (some (.ref f33))) (l33 : K.lookup f33 = some ⟨oc33, od33, .func (PySem.W.fnOf "law" "law" (defArgs s_law) (defBody s_law) (defScope s_law) .none kV33 dc33 pm33 an33 cd33 ct33), sl33⟩) (c33 : PySem.W.codeIn K cd33 "law" = true) (k33 : PySem.W.keepIn K (.ref f33) = true)
    (aC_Merger : PySem.W.nsIn K mainGlobals "Merger" = some (some (.ref C_Merger))) (pg_Merger : PySem.W.plainGet K C_Merger Str.empty = true) (hd_Merger : PySem.W.hasDictIn K C_Merger = true) (po_Merger : PySem.W.plainOver K C_Merger = true) (sa_Merger : PySem.W.findIn K (.ref C_Merger) "__setattr__" = some (some (.builtin "object.__setattr__"))) (mi_Merger : PySem.W.makesIn K C_Merger = true) (kc_Merger : PySem.W.keepIn K (.ref C_Merger) = true)
    (n_following : PySem.W.findIn K (.ref C_Merger) "following" = some none)
    (n_held : PySem.W.findIn K (.ref C_Merger) "held" = some none)
    (n_clock : PySem.W.findIn K (.ref C_Merger) "clock" = some none)
    (n_old : PySem.W.findIn K (.ref C_Merger) "old" = some none)
    (n_marks : PySem.W.findIn K (.ref C_Merger) "marks" = some none)
    (n_ahead : PySem.W.findIn K (.ref C_Merger) "ahead" = some none)
    (n_wait : PySem.W.findIn K (.ref C_Merger) "wait" = some none)
    (am0 : PySem.W.findIn K (.ref C_Merger) "__init__" = some (some (.ref fm0))) (im0 : PySem.W.isFn K (.ref fm0) = true) (lm0 : K.lookup fm0 = some ⟨ocm0, odm0, .func (PySem.W.fnOf "__init__" "Merger.__init__" (defArgs s_Merger_init) (defBody s_Merger_init) (defScope s_Merger_init) .none kVm0 dcm0 pmm0 anm0 cdm0 ctm0), slm0⟩) (cm0 : PySem.W.codeIn K cdm0 "Merger.__init__" = true) (km0 : PySem.W.keepIn K (.ref fm0) = true)
    (am1 : PySem.W.findIn K (.ref C_Merger) "come" = some (some (.ref fm1))) (im1 : PySem.W.isFn K (.ref fm1) = true) (lm1 : K.lookup fm1 = some ⟨ocm1, odm1, .func (PySem.W.fnOf "come" "Merger.come" (defArgs s_Merger_come) (defBody s_Merger_come) (defScope s_Merger_come) .none kVm1 dcm1 pmm1 anm1 cdm1 ctm1), slm1⟩) (cm1 : PySem.W.codeIn K cdm1 "Merger.come" = true) (km1 : PySem.W.keepIn K (.ref fm1) = true)
    (am2 : PySem.W.findIn K (.ref C_Merger) "go_out" = some (some (.ref fm2))) (im2 : PySem.W.isFn K (.ref fm2) = true) (lm2 : K.lookup fm2 = some ⟨ocm2, odm2, .func (PySem.W.fnOf "go_out" "Merger.go_out" (defArgs s_Merger_go_out) (defBody s_Merger_go_out) (defScope s_Merger_go_out) .none kVm2 dcm2 pmm2 anm2 cdm2 ctm2), slm2⟩) (cm2 : PySem.W.codeIn K cdm2 "Merger.go_out" = true) (km2 : PySem.W.keepIn K (.ref fm2) = true)
    (am3 : PySem.W.findIn K (.ref C_Merger) "close" = some (some (.ref fm3))) (im3 : PySem.W.isFn K (.ref fm3) = true) (lm3 : K.lookup fm3 = some ⟨ocm3, odm3, .func (PySem.W.fnOf "close" "Merger.close" (defArgs s_Merger_close) (defBody s_Merger_close) (defScope s_Merger_close) .none kVm3 dcm3 pmm3 anm3 cdm3 ctm3), slm3⟩) (cm3 : PySem.W.codeIn K cdm3 "Merger.close" = true) (km3 : PySem.W.keepIn K (.ref fm3) = true)
    (am4 : PySem.W.findIn K (.ref C_Merger) "is_wanted" = some (some (.ref fm4))) (im4 : PySem.W.isFn K (.ref fm4) = true) (lm4 : K.lookup fm4 = some ⟨ocm4, odm4, .func (PySem.W.fnOf "is_wanted" "Merger.is_wanted" (defArgs s_Merger_is_wanted) (defBody s_Merger_is_wanted) (defScope s_Merger_is_wanted) .none kVm4 dcm4 pmm4 anm4 cdm4 ctm4), slm4⟩) (cm4 : PySem.W.codeIn K cdm4 "Merger.is_wanted" = true) (km4 : PySem.W.keepIn K (.ref fm4) = true)
    (am5 : PySem.W.findIn K (.ref C_Merger) "waits" = some (some (.ref fm5))) (im5 : PySem.W.isFn K (.ref fm5) = true) (lm5 : K.lookup fm5 = some ⟨ocm5, odm5, .func (PySem.W.fnOf "waits" "Merger.waits" (defArgs s_Merger_waits) (defBody s_Merger_waits) (defScope s_Merger_waits) .none kVm5 dcm5 pmm5 anm5 cdm5 ctm5), slm5⟩) (cm5 : PySem.W.codeIn K cdm5 "Merger.waits" = true) (km5 : PySem.W.keepIn K (.ref fm5) = true)
    (am6 : PySem.W.findIn K (.ref C_Merger) "dropped" = some (some (.ref fm6))) (im6 : PySem.W.isFn K (.ref fm6) = true) (lm6 : K.lookup fm6 = some ⟨ocm6, odm6, .func (PySem.W.fnOf "dropped" "Merger.dropped" (defArgs s_Merger_dropped) (defBody s_Merger_dropped) (defScope s_Merger_dropped) .none kVm6 dcm6 pmm6 anm6 cdm6 ctm6), slm6⟩) (cm6 : PySem.W.codeIn K cdm6 "Merger.dropped" = true) (km6 : PySem.W.keepIn K (.ref fm6) = true)
    (g_MOST_LATE : PySem.W.nsIn K mainGlobals "MOST_LATE" = some (some (.int 9 t_MOST_LATE)))
    (g_MOST_MARKS : PySem.W.nsIn K mainGlobals "MOST_MARKS" = some (some (.int 32 t_MOST_MARKS)))
    (g_MOST_WAIT : PySem.W.nsIn K mainGlobals "MOST_WAIT" = some (some (.int 20 t_MOST_WAIT)))
    (g_MOST_THINGS : PySem.W.nsIn K mainGlobals "MOST_THINGS" = some (some (.int 80 t_MOST_THINGS)))
    (g_FIGURES : PySem.W.nsIn K mainGlobals "FIGURES" = some (some (.str "0123456789" t_FIGURES)))
    (g_GONE : PySem.W.nsIn K mainGlobals "GONE" = some (some (.str "-" t_GONE)))
    (z_ValueError : PySem.W.nsIn K mainGlobals "ValueError" = some none)
    (z_int : PySem.W.nsIn K mainGlobals "int" = some none)
    (z_isinstance : PySem.W.nsIn K mainGlobals "isinstance" = some none)
    (z_len : PySem.W.nsIn K mainGlobals "len" = some none)
    (z_list : PySem.W.nsIn K mainGlobals "list" = some none)
    (z_max : PySem.W.nsIn K mainGlobals "max" = some none)
    (z_min : PySem.W.nsIn K mainGlobals "min" = some none)
    (z_range : PySem.W.nsIn K mainGlobals "range" = some none)
    (z_set : PySem.W.nsIn K mainGlobals "set" = some none)
    (z_sorted : PySem.W.nsIn K mainGlobals "sorted" = some none)
    (z_str : PySem.W.nsIn K mainGlobals "str" = some none)
    (aC_RoadError : PySem.W.nsIn K mainGlobals "RoadError" = some (some (.ref C_RoadError))) (kc_RoadError : PySem.W.keepIn K (.ref C_RoadError) = true) (ex_RoadError : PySem.W.subIn K (.ref C_RoadError) (.type "BaseException") = some true) (ty_RoadError : PySem.W.typeIn K (.ref C_RoadError) = some (.type "type")) (hd_RoadError : PySem.W.hasDictIn K C_RoadError = true)
    (aC_BadRoads : PySem.W.nsIn K mainGlobals "BadRoads" = some (some (.ref C_BadRoads))) (kc_BadRoads : PySem.W.keepIn K (.ref C_BadRoads) = true) (ex_BadRoads : PySem.W.subIn K (.ref C_BadRoads) (.type "BaseException") = some true) (ty_BadRoads : PySem.W.typeIn K (.ref C_BadRoads) = some (.type "type")) (hd_BadRoads : PySem.W.hasDictIn K C_BadRoads = true)
    (aC_BadReceiver : PySem.W.nsIn K mainGlobals "BadReceiver" = some (some (.ref C_BadReceiver))) (kc_BadReceiver : PySem.W.keepIn K (.ref C_BadReceiver) = true) (ex_BadReceiver : PySem.W.subIn K (.ref C_BadReceiver) (.type "BaseException") = some true) (ty_BadReceiver : PySem.W.typeIn K (.ref C_BadReceiver) = some (.type "type")) (hd_BadReceiver : PySem.W.hasDictIn K C_BadReceiver = true)
    (aC_BadRows : PySem.W.nsIn K mainGlobals "BadRows" = some (some (.ref C_BadRows))) (kc_BadRows : PySem.W.keepIn K (.ref C_BadRows) = true) (ex_BadRows : PySem.W.subIn K (.ref C_BadRows) (.type "BaseException") = some true) (ty_BadRows : PySem.W.typeIn K (.ref C_BadRows) = some (.type "type")) (hd_BadRows : PySem.W.hasDictIn K C_BadRows = true)
    (aC_BadMark : PySem.W.nsIn K mainGlobals "BadMark" = some (some (.ref C_BadMark))) (kc_BadMark : PySem.W.keepIn K (.ref C_BadMark) = true) (ex_BadMark : PySem.W.subIn K (.ref C_BadMark) (.type "BaseException") = some true) (ty_BadMark : PySem.W.typeIn K (.ref C_BadMark) = some (.type "type")) (hd_BadMark : PySem.W.hasDictIn K C_BadMark = true)
    (aC_BadText : PySem.W.nsIn K mainGlobals "BadText" = some (some (.ref C_BadText))) (kc_BadText : PySem.W.keepIn K (.ref C_BadText) = true) (ex_BadText : PySem.W.subIn K (.ref C_BadText) (.type "BaseException") = some true) (ty_BadText : PySem.W.typeIn K (.ref C_BadText) = some (.type "type")) (hd_BadText : PySem.W.hasDictIn K C_BadText = true)
    (xL_BadRoads : K.lookup C_BadRoads = some (excClassObj nm_BadRoads qn_BadRoads C_BadRoads N_BadRoads bs_BadRoads bm_BadRoads true sn_BadRoads sub_BadRoads ab_BadRoads col_BadRoads dd_BadRoads m0_BadRoads m1_BadRoads m2_BadRoads m3_BadRoads m5_BadRoads "ValueError.__new__")) (rf_BadRoads : PySem.HandSPX.refsVE bm_BadRoads = true) (st_BadRoads : PySem.W.findIn K (.ref C_BadRoads) "__setattr__" = some (some (.builtin "object.__setattr__"))) (ai_BadRoads : PySem.W.findIn K (.ref C_BadRoads) "__init__" = some (some (.ref fi_BadRoads))) (ti_BadRoads : PySem.W.typeIn K (.ref fi_BadRoads) = some (.type "function"))
    (li_BadRoads : K.lookup fi_BadRoads = some ⟨oci_BadRoads, odi_BadRoads, .func (PySem.W.fnOf "__init__" "BadRoads.__init__" (defArgs s_BadRoads_init) (defBody s_BadRoads_init) (defScope s_BadRoads_init) .none kVi_BadRoads dci_BadRoads pmi_BadRoads ani_BadRoads cdi_BadRoads cti_BadRoads), sli_BadRoads⟩) (ci_BadRoads : PySem.W.codeIn K cdi_BadRoads "BadRoads.__init__" = true) (ki_BadRoads : PySem.W.keepIn K (.ref fi_BadRoads) = true)
    (nf_BadRoads_number : PySem.W.findIn K (.ref C_BadRoads) "number" = some none)
    (nf_BadRoads_word : PySem.W.findIn K (.ref C_BadRoads) "word" = some none)
    (xL_BadReceiver : K.lookup C_BadReceiver = some (excClassObj nm_BadReceiver qn_BadReceiver C_BadReceiver N_BadReceiver bs_BadReceiver bm_BadReceiver true sn_BadReceiver sub_BadReceiver ab_BadReceiver col_BadReceiver dd_BadReceiver m0_BadReceiver m1_BadReceiver m2_BadReceiver m3_BadReceiver m5_BadReceiver "ValueError.__new__")) (rf_BadReceiver : PySem.HandSPX.refsVE bm_BadReceiver = true) (st_BadReceiver : PySem.W.findIn K (.ref C_BadReceiver) "__setattr__" = some (some (.builtin "object.__setattr__"))) (ai_BadReceiver : PySem.W.findIn K (.ref C_BadReceiver) "__init__" = some (some (.ref fi_BadReceiver))) (ti_BadReceiver : PySem.W.typeIn K (.ref fi_BadReceiver) = some (.type "function"))
    (li_BadReceiver : K.lookup fi_BadReceiver = some ⟨oci_BadReceiver, odi_BadReceiver, .func (PySem.W.fnOf "__init__" "BadReceiver.__init__" (defArgs s_BadReceiver_init) (defBody s_BadReceiver_init) (defScope s_BadReceiver_init) .none kVi_BadReceiver dci_BadReceiver pmi_BadReceiver ani_BadReceiver cdi_BadReceiver cti_BadReceiver), sli_BadReceiver⟩) (ci_BadReceiver : PySem.W.codeIn K cdi_BadReceiver "BadReceiver.__init__" = true) (ki_BadReceiver : PySem.W.keepIn K (.ref fi_BadReceiver) = true)
    (nf_BadReceiver_number : PySem.W.findIn K (.ref C_BadReceiver) "number" = some none)
    (nf_BadReceiver_word : PySem.W.findIn K (.ref C_BadReceiver) "word" = some none)
    (xg_BadRoads : PySem.W.findIn K (.ref C_BadRoads) "__getattribute__" = some (some (.builtin "BaseException.__getattribute__")))
    (xk_BadRoads : PySem.W.findIn K (.ref C_BadRoads) "__getattr__" = some none)
    (xa_BadRoads : PySem.W.findIn K (.ref C_BadRoads) "__class__" = some (some (.builtin "object.__class__")))
    (xn_BadRoads : PySem.W.specialIn K (.builtin "object.__class__") "__get__" = some (some (.builtin "getset_descriptor.__get__")))
    (xt_BadRoads : PySem.W.takesIn K (.builtin "object.__class__") = some true)
    (xm_BadRoads : PySem.W.mroIn K C_BadRoads (.type "object") = some true)
    (i_BadRoads_BadMark : PySem.W.kitOne K (.ref C_BadRoads) (.ref C_BadMark) = some false)
    (i_BadRoads_BadReceiver : PySem.W.kitOne K (.ref C_BadRoads) (.ref C_BadReceiver) = some false)
    (i_BadRoads_BadRoads : PySem.W.kitOne K (.ref C_BadRoads) (.ref C_BadRoads) = some true)
    (i_BadRoads_BadRows : PySem.W.kitOne K (.ref C_BadRoads) (.ref C_BadRows) = some false)
    (i_BadRoads_BadText : PySem.W.kitOne K (.ref C_BadRoads) (.ref C_BadText) = some false)
    (i_BadRoads_VE : PySem.W.kitOne K (.ref C_BadRoads) (.type "ValueError") = some true)
    (m_BadRoads : PySem.W.exmOne K (.ref C_BadRoads) (.ref C_RoadError) = some true)
    (xg_BadReceiver : PySem.W.findIn K (.ref C_BadReceiver) "__getattribute__" = some (some (.builtin "BaseException.__getattribute__")))
    (xk_BadReceiver : PySem.W.findIn K (.ref C_BadReceiver) "__getattr__" = some none)
    (xa_BadReceiver : PySem.W.findIn K (.ref C_BadReceiver) "__class__" = some (some (.builtin "object.__class__")))
    (xn_BadReceiver : PySem.W.specialIn K (.builtin "object.__class__") "__get__" = some (some (.builtin "getset_descriptor.__get__")))
    (xt_BadReceiver : PySem.W.takesIn K (.builtin "object.__class__") = some true)
    (xm_BadReceiver : PySem.W.mroIn K C_BadReceiver (.type "object") = some true)
    (i_BadReceiver_BadMark : PySem.W.kitOne K (.ref C_BadReceiver) (.ref C_BadMark) = some false)
    (i_BadReceiver_BadReceiver : PySem.W.kitOne K (.ref C_BadReceiver) (.ref C_BadReceiver) = some true)
    (i_BadReceiver_BadRoads : PySem.W.kitOne K (.ref C_BadReceiver) (.ref C_BadRoads) = some false)
    (i_BadReceiver_BadRows : PySem.W.kitOne K (.ref C_BadReceiver) (.ref C_BadRows) = some false)
    (i_BadReceiver_BadText : PySem.W.kitOne K (.ref C_BadReceiver) (.ref C_BadText) = some false)
    (i_BadReceiver_VE : PySem.W.kitOne K (.ref C_BadReceiver) (.type "ValueError") = some true)
    (m_BadReceiver : PySem.W.exmOne K (.ref C_BadReceiver) (.ref C_RoadError) = some true)
    (oi1_RoadError : PySem.W.specialIn K (.ref C_RoadError) "__getattribute__" = some (some (.builtin "type.__getattribute__")))
    (oi2_RoadError : PySem.W.readsIn K C_RoadError (.type "type") = true)
    (oi3_RoadError : PySem.W.findCls K (.ref C_RoadError) (.type "type") "__init__" = some (.val (.builtin "ValueError.__init__")))
    (hc_Lworks : cd31 = .ref cd_Lworks) (hk_Lworks : K.lookup cd_Lworks = some ⟨ce_Lworks, co_Lworks, .fields cv_Lworks, cs_Lworks⟩) (hv_Lworks : cv_Lworks[11]? = some (.ref tb_Lworks)) (nt_Lworks : K.lookup tb_Lworks = none)
    (hc_Lothers : cd32 = .ref cd_Lothers) (hk_Lothers : K.lookup cd_Lothers = some ⟨ce_Lothers, co_Lothers, .fields cv_Lothers, cs_Lothers⟩) (hv_Lothers : cv_Lothers[11]? = some (.ref tb_Lothers)) (nt_Lothers : K.lookup tb_Lothers = none)
    (hc_law : cd33 = .ref cd_law) (hk_law : K.lookup cd_law = some ⟨ce_law, co_law, .fields cv_law, cs_law⟩) (hv_law : cv_law[11]? = some (.ref tb_law)) (nt_law : K.lookup tb_law = none)
    (ne_Lworks_Lothers : (tb_Lworks == tb_Lothers) = false)
    (ne_Lworks_law : (tb_Lworks == tb_law) = false)
    (ne_Lothers_law : (tb_Lothers == tb_law) = false)
    : ∃ (fd : FuncData) (cs : List (Addr × Addr)), (∀ (s : Shared) (v : Value), BindsTo s fd ⟨[v], []⟩ [("_law_script", v)]) ∧ (∀ p ∈ cs, ∃ x ∈ (["_law_works", "_law_others", "law"] : List Str), PySem.W.tabIn K x = some p) ∧ (∀ p ∈ cs, K.lookup p.2 = none) ∧ ∀ base : Heap, K.In base → base.Ns mainGlobals mg → (∀ p ∈ cs, LamX.TabB base mg p.1 p.2) → FnOk l.prog w K mg base CX0 14 fa fd ["_law_script"] (spLawT K cs) := by
  have e := hfa.symm.trans (PySem.W.mg_of X G a33)
  cases e
  have F0 := fun_mk (st := s__wall) l0 c0 k0
  have b0 := F0.binds (ps := P__wall) fun _ _ _ _ _ _ us hl => match us, hl with | [_], _ => rfl
  have F1 := fun_mk (st := s_need_roads) l1 c1 k1
  have b1 := F1.binds (ps := P_need_roads) fun _ _ _ _ _ _ us hl => match us, hl with | [_], _ => rfl
  have F2 := fun_mk (st := s_need_receiver) l2 c2 k2
  have b2 := F2.binds (ps := P_need_receiver) fun _ _ _ _ _ _ us hl => match us, hl with | [_], _ => rfl
  have F3 := fun_mk (st := s_need_rows) l3 c3 k3
  have b3 := F3.binds (ps := P_need_rows) fun _ _ _ _ _ _ us hl => match us, hl with | [_, _], _ => rfl
  have F4 := fun_mk (st := s_spread) l4 c4 k4
  have b4 := F4.binds (ps := P_spread) fun _ _ _ _ _ _ us hl => match us, hl with | [_], _ => rfl
  have F5 := fun_mk (st := s_arrivals) l5 c5 k5
  have b5 := F5.binds (ps := P_arrivals) fun _ _ _ _ _ _ us hl => match us, hl with | [_], _ => rfl
  have F6 := fun_mk (st := s_out_of) l6 c6 k6
  have b6 := F6.binds (ps := P_out_of) fun _ _ _ _ _ _ us hl => match us, hl with | [_, _], _ => rfl
  have F7 := fun_mk (st := s_need_all) l7 c7 k7
  have b7 := F7.binds (ps := P_need_all) fun _ _ _ _ _ _ us hl => match us, hl with | [_, _, _], _ => rfl
  have F8 := fun_mk (st := s_run) l8 c8 k8
  have b8 := F8.binds (ps := P_run) fun _ _ _ _ _ _ us hl => match us, hl with | [_, _, _], _ => rfl
  have F9 := fun_mk (st := s_faults_of) l9 c9 k9
  have b9 := F9.binds (ps := P_faults_of) fun _ _ _ _ _ _ us hl => match us, hl with | [_, _], _ => rfl
  have F10 := fun_mk (st := s_faults) l10 c10 k10
  have b10 := F10.binds (ps := P_faults) fun _ _ _ _ _ _ us hl => match us, hl with | [_, _, _], _ => rfl
  have F11 := fun_mk (st := s_is_sure) l11 c11 k11
  have b11 := F11.binds (ps := P_is_sure) fun _ _ _ _ _ _ us hl => match us, hl with | [_, _], _ => rfl
  have F12 := fun_mk (st := s_road_of) l12 c12 k12
  have b12 := F12.binds (ps := P_road_of) fun _ _ _ _ _ _ us hl => match us, hl with | [_, _], _ => rfl
  have F13 := fun_mk (st := s_with_hole) l13 c13 k13
  have b13 := F13.binds (ps := P_with_hole) fun _ _ _ _ _ _ us hl => match us, hl with | [_, _], _ => rfl
  have F14 := fun_mk (st := s_with_copies) l14 c14 k14
  have b14 := F14.binds (ps := P_with_copies) fun _ _ _ _ _ _ us hl => match us, hl with | [_, _], _ => rfl
  have F15 := fun_mk (st := s_tried) l15 c15 k15
  have b15 := F15.binds (ps := P_tried) fun _ _ _ _ _ _ us hl => match us, hl with | [_, _], _ => rfl
  have F16 := fun_mk (st := s_judged) l16 c16 k16
  have b16 := F16.binds (ps := P_judged) fun _ _ _ _ _ _ us hl => match us, hl with | [_, _], _ => rfl
  have F17 := fun_mk (st := s_least_receiver) l17 c17 k17
  have b17 := F17.binds (ps := P_least_receiver) fun _ _ _ _ _ _ us hl => match us, hl with | [_], _ => rfl
  have F18 := fun_mk (st := s_sign_of) l18 c18 k18
  have b18 := F18.binds (ps := P_sign_of) fun _ _ _ _ _ _ us hl => match us, hl with | [_], _ => rfl
  have F19 := fun_mk (st := s_written) l19 c19 k19
  have b19 := F19.binds (ps := P_written) fun _ _ _ _ _ _ us hl => match us, hl with | [_, _], _ => rfl
  have F20 := fun_mk (st := s_row_of) l20 c20 k20
  have b20 := F20.binds (ps := P_row_of) fun _ _ _ _ _ _ us hl => match us, hl with | [_, _], _ => rfl
  have F21 := fun_mk (st := s_read) l21 c21 k21
  have b21 := F21.binds (ps := P_read) fun _ _ _ _ _ _ us hl => match us, hl with | [_, _], _ => rfl
  have F22 := fun_mk (st := s_Ltaken) l22 c22 k22
  have b22 := F22.binds (ps := P_Ltaken) fun _ _ _ _ _ _ us hl => match us, hl with | [_, _], _ => rfl
  have F23 := fun_mk (st := s_Lroads) l23 c23 k23
  have b23 := F23.binds (ps := P_Lroads) fun _ _ _ _ _ _ us hl => match us, hl with | [_], _ => rfl
  have F24 := fun_mk (st := s_Lspread) l24 c24 k24
  have b24 := F24.binds (ps := P_Lspread) fun _ _ _ _ _ _ us hl => match us, hl with | [_], _ => rfl
  have F25 := fun_mk (st := s_Lreceiver) l25 c25 k25
  have b25 := F25.binds (ps := P_Lreceiver) fun _ _ _ _ _ _ us hl => match us, hl with | [_, _], _ => rfl
  have F26 := fun_mk (st := s_Lword) l26 c26 k26
  have b26 := F26.binds (ps := P_Lword) fun _ _ _ _ _ _ us hl => match us, hl with | [_], _ => rfl
  have F27 := fun_mk (st := s_Lbad_road) l27 c27 k27
  have b27 := F27.binds (ps := P_Lbad_road) fun _ _ _ _ _ _ us hl => match us, hl with | [_], _ => rfl
  have F28 := fun_mk (st := s_Lwhy) l28 c28 k28
  have b28 := F28.binds (ps := P_Lwhy) fun _ _ _ _ _ _ us hl => match us, hl with | [_], _ => rfl
  have F29 := fun_mk (st := s_Lodd_roads) l29 c29 k29
  have b29 := F29.binds (ps := P_Lodd_roads) fun _ _ _ _ _ _ us hl => match us, hl with | [_, _], _ => rfl
  have F30 := fun_mk (st := s_Lodd_receiver) l30 c30 k30
  have b30 := F30.binds (ps := P_Lodd_receiver) fun _ _ _ _ _ _ us hl => match us, hl with | [_, _], _ => rfl
  have F31 := fun_mk (st := s_Lworks) l31 c31 k31
  have b31 := F31.binds (ps := P_Lworks) fun _ _ _ _ _ _ us hl => match us, hl with | [_, _], _ => rfl
  have F32 := fun_mk (st := s_Lothers) l32 c32 k32
  have b32 := F32.binds (ps := P_Lothers) fun _ _ _ _ _ _ us hl => match us, hl with | [_], _ => rfl
  have F33 := fun_mk (st := s_law) l33 c33 k33
  have b33 := F33.binds (ps := P_law) fun _ _ _ _ _ _ us hl => match us, hl with | [_], _ => rfl
  have Fm0 := fun_mk (st := s_Merger_init) lm0 cm0 km0
  have bm0 := Fm0.binds (ps := P_Merger_init) fun _ _ _ _ _ _ us hl => match us, hl with | [_, _], _ => rfl
  have Fm1 := fun_mk (st := s_Merger_come) lm1 cm1 km1
  have bm1 := Fm1.binds (ps := P_Merger_come) fun _ _ _ _ _ _ us hl => match us, hl with | [_, _, _], _ => rfl
  have Fm2 := fun_mk (st := s_Merger_go_out) lm2 cm2 km2
  have bm2 := Fm2.binds (ps := P_Merger_go_out) fun _ _ _ _ _ _ us hl => match us, hl with | [_], _ => rfl
  have Fm3 := fun_mk (st := s_Merger_close) lm3 cm3 km3
  have bm3 := Fm3.binds (ps := P_Merger_close) fun _ _ _ _ _ _ us hl => match us, hl with | [_], _ => rfl
  have Fm4 := fun_mk (st := s_Merger_is_wanted) lm4 cm4 km4
  have bm4 := Fm4.binds (ps := P_Merger_is_wanted) fun _ _ _ _ _ _ us hl => match us, hl with | [_, _], _ => rfl
  have Fm5 := fun_mk (st := s_Merger_waits) lm5 cm5 km5
  have bm5 := Fm5.binds (ps := P_Merger_waits) fun _ _ _ _ _ _ us hl => match us, hl with | [_], _ => rfl
  have Fm6 := fun_mk (st := s_Merger_dropped) lm6 cm6 km6
  have bm6 := Fm6.binds (ps := P_Merger_dropped) fun _ _ _ _ _ _ us hl => match us, hl with | [_], _ => rfl
  have Fi_BadRoads := fun_mk (st := s_BadRoads_init) li_BadRoads ci_BadRoads ki_BadRoads
  have bi_BadRoads := Fi_BadRoads.binds (ps := P_BadRoads_init) fun _ _ _ _ _ _ us hl => match us, hl with | [_, _], _ => rfl
  have Fi_BadReceiver := fun_mk (st := s_BadReceiver_init) li_BadReceiver ci_BadReceiver ki_BadReceiver
  have bi_BadReceiver := Fi_BadReceiver.binds (ps := P_BadReceiver_init) fun _ _ _ _ _ _ us hl => match us, hl with | [_, _], _ => rfl
  let T : Txt K mg := {
    C_Merger := C_Merger, cl_Merger := ⟨pg_Merger, hd_Merger, po_Merger, sa_Merger⟩, mg_Merger := PySem.W.mg_of X G aC_Merger,
    n_following := n_following,
    n_held := n_held,
    n_clock := n_clock,
    n_old := n_old,
    n_marks := n_marks,
    n_ahead := n_ahead,
    n_wait := n_wait,
    f_Merger_init := fm0, fd_Merger_init := _, F_Merger_init := Fm0, b_Merger_init := bm0, mk_Merger := ⟨mi_Merger, am0, im0, kc_Merger⟩,
    f_Merger_come := fm1, fd_Merger_come := _, F_Merger_come := Fm1, b_Merger_come := bm1, m_Merger_come := ⟨am1, im1, km1⟩,
    f_Merger_go_out := fm2, fd_Merger_go_out := _, F_Merger_go_out := Fm2, b_Merger_go_out := bm2, m_Merger_go_out := ⟨am2, im2, km2⟩,
    f_Merger_close := fm3, fd_Merger_close := _, F_Merger_close := Fm3, b_Merger_close := bm3, m_Merger_close := ⟨am3, im3, km3⟩,
    f_Merger_is_wanted := fm4, fd_Merger_is_wanted := _, F_Merger_is_wanted := Fm4, b_Merger_is_wanted := bm4, m_Merger_is_wanted := ⟨am4, im4, km4⟩,
    f_Merger_waits := fm5, fd_Merger_waits := _, F_Merger_waits := Fm5, b_Merger_waits := bm5, m_Merger_waits := ⟨am5, im5, km5⟩,
    f_Merger_dropped := fm6, fd_Merger_dropped := _, F_Merger_dropped := Fm6, b_Merger_dropped := bm6, m_Merger_dropped := ⟨am6, im6, km6⟩,
    f__wall := _, fd__wall := _, F__wall := F0, mg__wall := PySem.W.mg_of X G a0, kp__wall := k0, b__wall := b0,
    f_need_roads := _, fd_need_roads := _, F_need_roads := F1, mg_need_roads := PySem.W.mg_of X G a1, kp_need_roads := k1, b_need_roads := b1,
    f_need_receiver := _, fd_need_receiver := _, F_need_receiver := F2, mg_need_receiver := PySem.W.mg_of X G a2, kp_need_receiver := k2, b_need_receiver := b2,
    f_need_rows := _, fd_need_rows := _, F_need_rows := F3, mg_need_rows := PySem.W.mg_of X G a3, kp_need_rows := k3, b_need_rows := b3,
    f_spread := _, fd_spread := _, F_spread := F4, mg_spread := PySem.W.mg_of X G a4, kp_spread := k4, b_spread := b4,
    f_arrivals := _, fd_arrivals := _, F_arrivals := F5, mg_arrivals := PySem.W.mg_of X G a5, kp_arrivals := k5, b_arrivals := b5,
    f_out_of := _, fd_out_of := _, F_out_of := F6, mg_out_of := PySem.W.mg_of X G a6, kp_out_of := k6, b_out_of := b6,
    f_need_all := _, fd_need_all := _, F_need_all := F7, mg_need_all := PySem.W.mg_of X G a7, kp_need_all := k7, b_need_all := b7,
    f_run := _, fd_run := _, F_run := F8, mg_run := PySem.W.mg_of X G a8, kp_run := k8, b_run := b8,
    f_faults_of := _, fd_faults_of := _, F_faults_of := F9, mg_faults_of := PySem.W.mg_of X G a9, kp_faults_of := k9, b_faults_of := b9,
    f_faults := _, fd_faults := _, F_faults := F10, mg_faults := PySem.W.mg_of X G a10, kp_faults := k10, b_faults := b10,
    f_is_sure := _, fd_is_sure := _, F_is_sure := F11, mg_is_sure := PySem.W.mg_of X G a11, kp_is_sure := k11, b_is_sure := b11,
    f_road_of := _, fd_road_of := _, F_road_of := F12, mg_road_of := PySem.W.mg_of X G a12, kp_road_of := k12, b_road_of := b12,
    f_with_hole := _, fd_with_hole := _, F_with_hole := F13, mg_with_hole := PySem.W.mg_of X G a13, kp_with_hole := k13, b_with_hole := b13,
    f_with_copies := _, fd_with_copies := _, F_with_copies := F14, mg_with_copies := PySem.W.mg_of X G a14, kp_with_copies := k14, b_with_copies := b14,
    f_tried := _, fd_tried := _, F_tried := F15, mg_tried := PySem.W.mg_of X G a15, kp_tried := k15, b_tried := b15,
    f_judged := _, fd_judged := _, F_judged := F16, mg_judged := PySem.W.mg_of X G a16, kp_judged := k16, b_judged := b16,
    f_least_receiver := _, fd_least_receiver := _, F_least_receiver := F17, mg_least_receiver := PySem.W.mg_of X G a17, kp_least_receiver := k17, b_least_receiver := b17,
    f_sign_of := _, fd_sign_of := _, F_sign_of := F18, mg_sign_of := PySem.W.mg_of X G a18, kp_sign_of := k18, b_sign_of := b18,
    f_written := _, fd_written := _, F_written := F19, mg_written := PySem.W.mg_of X G a19, kp_written := k19, b_written := b19,
    f_row_of := _, fd_row_of := _, F_row_of := F20, mg_row_of := PySem.W.mg_of X G a20, kp_row_of := k20, b_row_of := b20,
    f_read := _, fd_read := _, F_read := F21, mg_read := PySem.W.mg_of X G a21, kp_read := k21, b_read := b21,
    f_Ltaken := _, fd_Ltaken := _, F_Ltaken := F22, mg_Ltaken := PySem.W.mg_of X G a22, kp_Ltaken := k22, b_Ltaken := b22,
    f_Lroads := _, fd_Lroads := _, F_Lroads := F23, mg_Lroads := PySem.W.mg_of X G a23, kp_Lroads := k23, b_Lroads := b23,
    f_Lspread := _, fd_Lspread := _, F_Lspread := F24, mg_Lspread := PySem.W.mg_of X G a24, kp_Lspread := k24, b_Lspread := b24,
    f_Lreceiver := _, fd_Lreceiver := _, F_Lreceiver := F25, mg_Lreceiver := PySem.W.mg_of X G a25, kp_Lreceiver := k25, b_Lreceiver := b25,
    f_Lword := _, fd_Lword := _, F_Lword := F26, mg_Lword := PySem.W.mg_of X G a26, kp_Lword := k26, b_Lword := b26,
    f_Lbad_road := _, fd_Lbad_road := _, F_Lbad_road := F27, mg_Lbad_road := PySem.W.mg_of X G a27, kp_Lbad_road := k27, b_Lbad_road := b27,
    f_Lwhy := _, fd_Lwhy := _, F_Lwhy := F28, mg_Lwhy := PySem.W.mg_of X G a28, kp_Lwhy := k28, b_Lwhy := b28,
    f_Lodd_roads := _, fd_Lodd_roads := _, F_Lodd_roads := F29, mg_Lodd_roads := PySem.W.mg_of X G a29, kp_Lodd_roads := k29, b_Lodd_roads := b29,
    f_Lodd_receiver := _, fd_Lodd_receiver := _, F_Lodd_receiver := F30, mg_Lodd_receiver := PySem.W.mg_of X G a30, kp_Lodd_receiver := k30, b_Lodd_receiver := b30,
    f_Lworks := _, fd_Lworks := _, F_Lworks := F31, mg_Lworks := PySem.W.mg_of X G a31, kp_Lworks := k31, b_Lworks := b31,
    f_Lothers := _, fd_Lothers := _, F_Lothers := F32, mg_Lothers := PySem.W.mg_of X G a32, kp_Lothers := k32, b_Lothers := b32,
    f_law := _, fd_law := _, F_law := F33, mg_law := PySem.W.mg_of X G a33, kp_law := k33, b_law := b33,
    u_MOST_LATE := _, mg_MOST_LATE := PySem.W.mg_of X G g_MOST_LATE, rv_MOST_LATE := ⟨_, rfl⟩,
    u_MOST_MARKS := _, mg_MOST_MARKS := PySem.W.mg_of X G g_MOST_MARKS, rv_MOST_MARKS := ⟨_, rfl⟩,
    u_MOST_WAIT := _, mg_MOST_WAIT := PySem.W.mg_of X G g_MOST_WAIT, rv_MOST_WAIT := ⟨_, rfl⟩,
    u_MOST_THINGS := _, mg_MOST_THINGS := PySem.W.mg_of X G g_MOST_THINGS, rv_MOST_THINGS := ⟨_, rfl⟩,
    u_FIGURES := _, mg_FIGURES := PySem.W.mg_of X G g_FIGURES, rv_FIGURES := ⟨_, rfl⟩,
    u_GONE := _, mg_GONE := PySem.W.mg_of X G g_GONE, rv_GONE := ⟨_, rfl⟩,
    z_ValueError := PySem.W.mg_none_of X G z_ValueError,
    z_int := PySem.W.mg_none_of X G z_int,
    z_isinstance := PySem.W.mg_none_of X G z_isinstance,
    z_len := PySem.W.mg_none_of X G z_len,
    z_list := PySem.W.mg_none_of X G z_list,
    z_max := PySem.W.mg_none_of X G z_max,
    z_min := PySem.W.mg_none_of X G z_min,
    z_range := PySem.W.mg_none_of X G z_range,
    z_set := PySem.W.mg_none_of X G z_set,
    z_sorted := PySem.W.mg_none_of X G z_sorted,
    z_str := PySem.W.mg_none_of X G z_str,
    C_RoadError := C_RoadError, mg_RoadError := PySem.W.mg_of X G aC_RoadError, kp_RoadError := kc_RoadError, ex_RoadError := ex_RoadError, ty_RoadError := ty_RoadError, hd_RoadError := hd_RoadError,
    C_BadRoads := C_BadRoads, mg_BadRoads := PySem.W.mg_of X G aC_BadRoads, kp_BadRoads := kc_BadRoads, ex_BadRoads := ex_BadRoads, ty_BadRoads := ty_BadRoads, hd_BadRoads := hd_BadRoads,
    C_BadReceiver := C_BadReceiver, mg_BadReceiver := PySem.W.mg_of X G aC_BadReceiver, kp_BadReceiver := kc_BadReceiver, ex_BadReceiver := ex_BadReceiver, ty_BadReceiver := ty_BadReceiver, hd_BadReceiver := hd_BadReceiver,
    C_BadRows := C_BadRows, mg_BadRows := PySem.W.mg_of X G aC_BadRows, kp_BadRows := kc_BadRows, ex_BadRows := ex_BadRows, ty_BadRows := ty_BadRows, hd_BadRows := hd_BadRows,
    C_BadMark := C_BadMark, mg_BadMark := PySem.W.mg_of X G aC_BadMark, kp_BadMark := kc_BadMark, ex_BadMark := ex_BadMark, ty_BadMark := ty_BadMark, hd_BadMark := hd_BadMark,
    C_BadText := C_BadText, mg_BadText := PySem.W.mg_of X G aC_BadText, kp_BadText := kc_BadText, ex_BadText := ex_BadText, ty_BadText := ty_BadText, hd_BadText := hd_BadText,
    f_BadRoads_init := fi_BadRoads, fd_BadRoads_init := _, F_BadRoads_init := Fi_BadRoads, b_BadRoads_init := bi_BadRoads, iC_BadRoads := ai_BadRoads, tI_BadRoads := ti_BadRoads, ox_BadRoads := ⟨⟨nm_BadRoads, qn_BadRoads, N_BadRoads, bs_BadRoads, bm_BadRoads, sn_BadRoads, sub_BadRoads, ab_BadRoads, col_BadRoads, dd_BadRoads, m0_BadRoads, m1_BadRoads, m2_BadRoads, m3_BadRoads, m5_BadRoads, xL_BadRoads, rf_BadRoads⟩, st_BadRoads, ex_BadRoads, ty_BadRoads, kc_BadRoads⟩,
    nf_BadRoads_number := nf_BadRoads_number,
    nf_BadRoads_word := nf_BadRoads_word,
    f_BadReceiver_init := fi_BadReceiver, fd_BadReceiver_init := _, F_BadReceiver_init := Fi_BadReceiver, b_BadReceiver_init := bi_BadReceiver, iC_BadReceiver := ai_BadReceiver, tI_BadReceiver := ti_BadReceiver, ox_BadReceiver := ⟨⟨nm_BadReceiver, qn_BadReceiver, N_BadReceiver, bs_BadReceiver, bm_BadReceiver, sn_BadReceiver, sub_BadReceiver, ab_BadReceiver, col_BadReceiver, dd_BadReceiver, m0_BadReceiver, m1_BadReceiver, m2_BadReceiver, m3_BadReceiver, m5_BadReceiver, xL_BadReceiver, rf_BadReceiver⟩, st_BadReceiver, ex_BadReceiver, ty_BadReceiver, kc_BadReceiver⟩,
    nf_BadReceiver_number := nf_BadReceiver_number,
    nf_BadReceiver_word := nf_BadReceiver_word,
    xg_BadRoads := xg_BadRoads,
    xk_BadRoads := xk_BadRoads,
    xa_BadRoads := xa_BadRoads,
    xn_BadRoads := xn_BadRoads,
    xt_BadRoads := xt_BadRoads,
    xm_BadRoads := xm_BadRoads,
    i_BadRoads_BadMark := i_BadRoads_BadMark,
    i_BadRoads_BadReceiver := i_BadRoads_BadReceiver,
    i_BadRoads_BadRoads := i_BadRoads_BadRoads,
    i_BadRoads_BadRows := i_BadRoads_BadRows,
    i_BadRoads_BadText := i_BadRoads_BadText,
    i_BadRoads_VE := i_BadRoads_VE,
    m_BadRoads := m_BadRoads,
    xg_BadReceiver := xg_BadReceiver,
    xk_BadReceiver := xk_BadReceiver,
    xa_BadReceiver := xa_BadReceiver,
    xn_BadReceiver := xn_BadReceiver,
    xt_BadReceiver := xt_BadReceiver,
    xm_BadReceiver := xm_BadReceiver,
    i_BadReceiver_BadMark := i_BadReceiver_BadMark,
    i_BadReceiver_BadReceiver := i_BadReceiver_BadReceiver,
    i_BadReceiver_BadRoads := i_BadReceiver_BadRoads,
    i_BadReceiver_BadRows := i_BadReceiver_BadRows,
    i_BadReceiver_BadText := i_BadReceiver_BadText,
    i_BadReceiver_VE := i_BadReceiver_VE,
    m_BadReceiver := m_BadReceiver,
    oi1_RoadError := oi1_RoadError,
    oi2_RoadError := oi2_RoadError,
    oi3_RoadError := oi3_RoadError,
    cd_Lworks := cd_Lworks, tb_Lworks := tb_Lworks, ht_Lworks := tab_mk a31 l31 hc_Lworks hk_Lworks hv_Lworks, hc_Lworks := hc_Lworks, nt_Lworks := nt_Lworks,
    cd_Lothers := cd_Lothers, tb_Lothers := tb_Lothers, ht_Lothers := tab_mk a32 l32 hc_Lothers hk_Lothers hv_Lothers, hc_Lothers := hc_Lothers, nt_Lothers := nt_Lothers,
    cd_law := cd_law, tb_law := tb_law, ht_law := tab_mk a33 l33 hc_law hk_law hv_law, hc_law := hc_law, nt_law := nt_law }
  exact ⟨PySem.W.fnOf "law" "law" (defArgs s_law) (defBody s_law) (defScope s_law) .none kV33 dc33 pm33 an33 cd33 ct33, [(cd_Lworks, tb_Lworks), (cd_Lothers, tb_Lothers), (cd_law, tb_law)], fun s v => .of_eq rfl, (List.forall_mem_cons.mpr ⟨⟨"_law_works", List.mem_cons_self, T.ht_Lworks⟩, (List.forall_mem_cons.mpr ⟨⟨"_law_others", (List.mem_cons_of_mem _ List.mem_cons_self), T.ht_Lothers⟩, (List.forall_mem_cons.mpr ⟨⟨"law", (List.mem_cons_of_mem _ (List.mem_cons_of_mem _ List.mem_cons_self)), T.ht_law⟩, (fun _ h => nomatch h)⟩)⟩)⟩), (List.forall_mem_cons.mpr ⟨T.nt_Lworks, (List.forall_mem_cons.mpr ⟨T.nt_Lothers, (List.forall_mem_cons.mpr ⟨T.nt_law, (fun _ h => nomatch h)⟩)⟩)⟩), fun base _ _ hTB => ok_law T (hTB (cd_Lworks, tb_Lworks) List.mem_cons_self) (hTB (cd_Lothers, tb_Lothers) (List.mem_cons_of_mem _ List.mem_cons_self)) (hTB (cd_law, tb_law) (List.mem_cons_of_mem _ (List.mem_cons_of_mem _ List.mem_cons_self))) ne_Lworks_Lothers ne_Lworks_law ne_Lothers_law⟩
end Tp
open PySem PySem.W PyProof.Rows
set_option maxRecDepth 100000 in
set_option maxHeartbeats 0 in
theorem PySem.Challenge.cw_twopaths_k01_roads_and_receivers_refused_holds : PySem.Challenge.rw_twopaths_k01_roads_and_receivers_refused.Holds := by
  w_on; o_law; k_head; (case hw => w_witness2)
  k_fill
  refine Tp.walkT (l := PySem.Challenge.rw_twopaths_k01_roads_and_receivers_refused) (k := 14) (["_law_works", "_law_others", "law"] : List Str) (fun x hx => Tp.rec_of (List.all_eq_true.mp (show (["_law_works", "_law_others", "law"] : List Str).all (fun x => ((PyProof.Rows.recsOf _).find? (fun e => e.name == x)).isSome) = true by kernel_rfl) x hx)) rfl rfl ⟨rfl, by decide, by decide⟩ (fun w h Y => PySem.W.km_in_of Y) ?F
  case F =>
    intro w mg fa h KX G hmg
    refine' Tp.all_mk KX G hmg ?a0 ?l0 ?c0 ?k0 ?a1 ?l1 ?c1 ?k1 ?a2 ?l2 ?c2 ?k2 ?a3 ?l3 ?c3 ?k3 ?a4 ?l4 ?c4 ?k4 ?a5 ?l5 ?c5 ?k5 ?a6 ?l6 ?c6 ?k6 ?a7 ?l7 ?c7 ?k7 ?a8 ?l8 ?c8 ?k8 ?a9 ?l9 ?c9 ?k9 ?a10 ?l10 ?c10 ?k10 ?a11 ?l11 ?c11 ?k11 ?a12 ?l12 ?c12 ?k12 ?a13 ?l13 ?c13 ?k13 ?a14 ?l14 ?c14 ?k14 ?a15 ?l15 ?c15 ?k15 ?a16 ?l16 ?c16 ?k16 ?a17 ?l17 ?c17 ?k17 ?a18 ?l18 ?c18 ?k18 ?a19 ?l19 ?c19 ?k19 ?a20 ?l20 ?c20 ?k20 ?a21 ?l21 ?c21 ?k21 ?a22 ?l22 ?c22 ?k22 ?a23 ?l23 ?c23 ?k23 ?a24 ?l24 ?c24 ?k24 ?a25 ?l25 ?c25 ?k25 ?a26 ?l26 ?c26 ?k26 ?a27 ?l27 ?c27 ?k27 ?a28 ?l28 ?c28 ?k28 ?a29 ?l29 ?c29 ?k29 ?a30 ?l30 ?c30 ?k30 ?a31 ?l31 ?c31 ?k31 ?a32 ?l32 ?c32 ?k32 ?a33 ?l33 ?c33 ?k33 ?aC_Merger ?pg_Merger ?hd_Merger ?po_Merger ?sa_Merger ?mi_Merger ?kc_Merger ?n_following ?n_held ?n_clock ?n_old ?n_marks ?n_ahead ?n_wait ?am0 ?im0 ?lm0 ?cm0 ?km0 ?am1 ?im1 ?lm1 ?cm1 ?km1 ?am2 ?im2 ?lm2 ?cm2 ?km2 ?am3 ?im3 ?lm3 ?cm3 ?km3 ?am4 ?im4 ?lm4 ?cm4 ?km4 ?am5 ?im5 ?lm5 ?cm5 ?km5 ?am6 ?im6 ?lm6 ?cm6 ?km6 ?g_MOST_LATE ?g_MOST_MARKS ?g_MOST_WAIT ?g_MOST_THINGS ?g_FIGURES ?g_GONE ?z_ValueError ?z_int ?z_isinstance ?z_len ?z_list ?z_max ?z_min ?z_range ?z_set ?z_sorted ?z_str ?aC_RoadError ?kc_RoadError ?ex_RoadError ?ty_RoadError ?hd_RoadError ?aC_BadRoads ?kc_BadRoads ?ex_BadRoads ?ty_BadRoads ?hd_BadRoads ?aC_BadReceiver ?kc_BadReceiver ?ex_BadReceiver ?ty_BadReceiver ?hd_BadReceiver ?aC_BadRows ?kc_BadRows ?ex_BadRows ?ty_BadRows ?hd_BadRows ?aC_BadMark ?kc_BadMark ?ex_BadMark ?ty_BadMark ?hd_BadMark ?aC_BadText ?kc_BadText ?ex_BadText ?ty_BadText ?hd_BadText ?xL_BadRoads ?rf_BadRoads ?st_BadRoads ?ai_BadRoads ?ti_BadRoads ?li_BadRoads ?ci_BadRoads ?ki_BadRoads ?nf_BadRoads_number ?nf_BadRoads_word ?xL_BadReceiver ?rf_BadReceiver ?st_BadReceiver ?ai_BadReceiver ?ti_BadReceiver ?li_BadReceiver ?ci_BadReceiver ?ki_BadReceiver ?nf_BadReceiver_number ?nf_BadReceiver_word ?xg_BadRoads ?xk_BadRoads ?xa_BadRoads ?xn_BadRoads ?xt_BadRoads ?xm_BadRoads ?i_BadRoads_BadMark ?i_BadRoads_BadReceiver ?i_BadRoads_BadRoads ?i_BadRoads_BadRows ?i_BadRoads_BadText ?i_BadRoads_VE ?m_BadRoads ?xg_BadReceiver ?xk_BadReceiver ?xa_BadReceiver ?xn_BadReceiver ?xt_BadReceiver ?xm_BadReceiver ?i_BadReceiver_BadMark ?i_BadReceiver_BadReceiver ?i_BadReceiver_BadRoads ?i_BadReceiver_BadRows ?i_BadReceiver_BadText ?i_BadReceiver_VE ?m_BadReceiver ?oi1_RoadError ?oi2_RoadError ?oi3_RoadError ?hc_Lworks ?hk_Lworks ?hv_Lworks ?nt_Lworks ?hc_Lothers ?hk_Lothers ?hv_Lothers ?nt_Lothers ?hc_law ?hk_law ?hv_law ?nt_law ?ne_Lworks_Lothers ?ne_Lworks_law ?ne_Lothers_law
    (case a0 => k_is); (case l0 => k_is); (case c0 => k_is); (case k0 => k_is); (case a1 => k_is); (case l1 => k_is)
    (case c1 => k_is); (case k1 => k_is); (case a2 => k_is); (case l2 => k_is); (case c2 => k_is); (case k2 => k_is)
    (case a3 => k_is); (case l3 => k_is); (case c3 => k_is); (case k3 => k_is); (case a4 => k_is); (case l4 => k_is)
    (case c4 => k_is); (case k4 => k_is); (case a5 => k_is); (case l5 => k_is); (case c5 => k_is); (case k5 => k_is)
    (case a6 => k_is); (case l6 => k_is); (case c6 => k_is); (case k6 => k_is); (case a7 => k_is); (case l7 => k_is)
    (case c7 => k_is); (case k7 => k_is); (case a8 => k_is); (case l8 => k_is); (case c8 => k_is); (case k8 => k_is)
    (case a9 => k_is); (case l9 => k_is); (case c9 => k_is); (case k9 => k_is); (case a10 => k_is); (case l10 => k_is)
    (case c10 => k_is); (case k10 => k_is); (case a11 => k_is); (case l11 => k_is); (case c11 => k_is); (case k11 => k_is)
    (case a12 => k_is); (case l12 => k_is); (case c12 => k_is); (case k12 => k_is); (case a13 => k_is); (case l13 => k_is)
    (case c13 => k_is); (case k13 => k_is); (case a14 => k_is); (case l14 => k_is); (case c14 => k_is); (case k14 => k_is)
    (case a15 => k_is); (case l15 => k_is); (case c15 => k_is); (case k15 => k_is); (case a16 => k_is); (case l16 => k_is)
    (case c16 => k_is); (case k16 => k_is); (case a17 => k_is); (case l17 => k_is); (case c17 => k_is); (case k17 => k_is)
    (case a18 => k_is); (case l18 => k_is); (case c18 => k_is); (case k18 => k_is); (case a19 => k_is); (case l19 => k_is)
    (case c19 => k_is); (case k19 => k_is); (case a20 => k_is); (case l20 => k_is); (case c20 => k_is); (case k20 => k_is)
    (case a21 => k_is); (case l21 => k_is); (case c21 => k_is); (case k21 => k_is); (case a22 => k_is); (case l22 => k_is)
    (case c22 => k_is); (case k22 => k_is); (case a23 => k_is); (case l23 => k_is); (case c23 => k_is); (case k23 => k_is)
    (case a24 => k_is); (case l24 => k_is); (case c24 => k_is); (case k24 => k_is); (case a25 => k_is); (case l25 => k_is)
    (case c25 => k_is); (case k25 => k_is); (case a26 => k_is); (case l26 => k_is); (case c26 => k_is); (case k26 => k_is)
    (case a27 => k_is); (case l27 => k_is); (case c27 => k_is); (case k27 => k_is); (case a28 => k_is); (case l28 => k_is)
    (case c28 => k_is); (case k28 => k_is); (case a29 => k_is); (case l29 => k_is); (case c29 => k_is); (case k29 => k_is)
    (case a30 => k_is); (case l30 => k_is); (case c30 => k_is); (case k30 => k_is); (case a31 => k_is); (case l31 => k_is)
    (case c31 => k_is); (case k31 => k_is); (case a32 => k_is); (case l32 => k_is); (case c32 => k_is); (case k32 => k_is)
    (case a33 => k_is); (case l33 => k_is); (case c33 => k_is); (case k33 => k_is); (case aC_Merger => k_is); (case pg_Merger => k_is)
    (case hd_Merger => k_is); (case po_Merger => k_is); (case sa_Merger => k_is); (case mi_Merger => k_is); (case kc_Merger => k_is); (case n_following => k_is)
    (case n_held => k_is); (case n_clock => k_is); (case n_old => k_is); (case n_marks => k_is); (case n_ahead => k_is); (case n_wait => k_is)
    (case am0 => k_is); (case im0 => k_is); (case lm0 => k_is); (case cm0 => k_is); (case km0 => k_is); (case am1 => k_is)
    (case im1 => k_is); (case lm1 => k_is); (case cm1 => k_is); (case km1 => k_is); (case am2 => k_is); (case im2 => k_is)
    (case lm2 => k_is); (case cm2 => k_is); (case km2 => k_is); (case am3 => k_is); (case im3 => k_is); (case lm3 => k_is)
    (case cm3 => k_is); (case km3 => k_is); (case am4 => k_is); (case im4 => k_is); (case lm4 => k_is); (case cm4 => k_is)
    (case km4 => k_is); (case am5 => k_is); (case im5 => k_is); (case lm5 => k_is); (case cm5 => k_is); (case km5 => k_is)
    (case am6 => k_is); (case im6 => k_is); (case lm6 => k_is); (case cm6 => k_is); (case km6 => k_is); (case g_MOST_LATE => k_is)
    (case g_MOST_MARKS => k_is); (case g_MOST_WAIT => k_is); (case g_MOST_THINGS => k_is); (case g_FIGURES => k_is); (case g_GONE => k_is); (case z_ValueError => k_is)
    (case z_int => k_is); (case z_isinstance => k_is); (case z_len => k_is); (case z_list => k_is); (case z_max => k_is); (case z_min => k_is)
    (case z_range => k_is); (case z_set => k_is); (case z_sorted => k_is); (case z_str => k_is); (case aC_RoadError => k_is); (case kc_RoadError => k_is)
    (case ex_RoadError => k_is); (case ty_RoadError => k_is); (case hd_RoadError => k_is); (case aC_BadRoads => k_is); (case kc_BadRoads => k_is); (case ex_BadRoads => k_is)
    (case ty_BadRoads => k_is); (case hd_BadRoads => k_is); (case aC_BadReceiver => k_is); (case kc_BadReceiver => k_is); (case ex_BadReceiver => k_is); (case ty_BadReceiver => k_is)
    (case hd_BadReceiver => k_is); (case aC_BadRows => k_is); (case kc_BadRows => k_is); (case ex_BadRows => k_is); (case ty_BadRows => k_is); (case hd_BadRows => k_is)
    (case aC_BadMark => k_is); (case kc_BadMark => k_is); (case ex_BadMark => k_is); (case ty_BadMark => k_is); (case hd_BadMark => k_is); (case aC_BadText => k_is)
    (case kc_BadText => k_is); (case ex_BadText => k_is); (case ty_BadText => k_is); (case hd_BadText => k_is); (case xL_BadRoads => k_is); (case rf_BadRoads => rfl)
    (case st_BadRoads => k_is); (case ai_BadRoads => k_is); (case ti_BadRoads => k_is); (case li_BadRoads => k_is); (case ci_BadRoads => k_is); (case ki_BadRoads => k_is)
    (case nf_BadRoads_number => k_is); (case nf_BadRoads_word => k_is); (case xL_BadReceiver => k_is); (case rf_BadReceiver => rfl); (case st_BadReceiver => k_is); (case ai_BadReceiver => k_is)
    (case ti_BadReceiver => k_is); (case li_BadReceiver => k_is); (case ci_BadReceiver => k_is); (case ki_BadReceiver => k_is); (case nf_BadReceiver_number => k_is); (case nf_BadReceiver_word => k_is)
    (case xg_BadRoads => first | k_is | k_exc | kernel_rfl); (case xk_BadRoads => first | k_is | k_exc | kernel_rfl); (case xa_BadRoads => first | k_is | k_exc | kernel_rfl); (case xn_BadRoads => first | k_is | k_exc | kernel_rfl); (case xt_BadRoads => first | k_is | k_exc | kernel_rfl); (case xm_BadRoads => first | k_is | k_exc | kernel_rfl)
    (case i_BadRoads_BadMark => first | k_is | k_exc | kernel_rfl); (case i_BadRoads_BadReceiver => first | k_is | k_exc | kernel_rfl); (case i_BadRoads_BadRoads => first | k_is | k_exc | kernel_rfl); (case i_BadRoads_BadRows => first | k_is | k_exc | kernel_rfl); (case i_BadRoads_BadText => first | k_is | k_exc | kernel_rfl); (case i_BadRoads_VE => first | k_is | k_exc | kernel_rfl)
    (case m_BadRoads => first | k_is | k_exc | kernel_rfl); (case xg_BadReceiver => first | k_is | k_exc | kernel_rfl); (case xk_BadReceiver => first | k_is | k_exc | kernel_rfl); (case xa_BadReceiver => first | k_is | k_exc | kernel_rfl); (case xn_BadReceiver => first | k_is | k_exc | kernel_rfl); (case xt_BadReceiver => first | k_is | k_exc | kernel_rfl)
    (case xm_BadReceiver => first | k_is | k_exc | kernel_rfl); (case i_BadReceiver_BadMark => first | k_is | k_exc | kernel_rfl); (case i_BadReceiver_BadReceiver => first | k_is | k_exc | kernel_rfl); (case i_BadReceiver_BadRoads => first | k_is | k_exc | kernel_rfl); (case i_BadReceiver_BadRows => first | k_is | k_exc | kernel_rfl); (case i_BadReceiver_BadText => first | k_is | k_exc | kernel_rfl)
    (case i_BadReceiver_VE => first | k_is | k_exc | kernel_rfl); (case m_BadReceiver => first | k_is | k_exc | kernel_rfl); (case oi1_RoadError => first | k_is | k_exc | kernel_rfl); (case oi2_RoadError => first | k_is | k_exc | kernel_rfl); (case oi3_RoadError => first | k_is | k_exc | kernel_rfl); (case hc_Lworks => rfl)
    (case hk_Lworks => k_is); (case hv_Lworks => rfl); (case nt_Lworks => kernel_rfl); (case hc_Lothers => rfl); (case hk_Lothers => k_is); (case hv_Lothers => rfl)
    (case nt_Lothers => kernel_rfl); (case hc_law => rfl); (case hk_law => k_is); (case hv_law => rfl); (case nt_law => kernel_rfl); (case ne_Lworks_Lothers => kernel_rfl)
    (case ne_Lworks_law => kernel_rfl); (case ne_Lothers_law => kernel_rfl)
