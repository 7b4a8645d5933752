import PyProof.Rows.All
import Wide.All
import OpenK.AllK
import Wide.FinOn
import PyProof.EqAt
import PyProof.EqKinds
import PyProof.TupleCall
import HandS.ForMost
import HandS.IsInst
import HandS.Evl
import HandS.Codes
import HandS.SortRule
import HandS.More
import HandS.SetFor
import HandS.SortInts
import HandS.SortKw
import HandS.Strs
import HandS.Conv
import KE.DataMinMax
import HandS.ForExc
import HandS.ExcIs
import HandS.ExcOwn
import HandS.WordsExc
import HandS.ExcInit
import HandS.ExcField
import HandS.FStr
import KE.KExcIs
import HandS.Sort
import PyProof.StrBlock2
import PySem.Challenge.RW_twopaths_k12_texts_that_tell_no_rows
set_option Elab.async false
set_option linter.all false
set_option maxRecDepth 100000
set_option maxHeartbeats 2000000
namespace Tp
open PySem L2
def top (i : Nat) : Stmt := PySem.Challenge.pw_twopaths_k12_texts_that_tell_no_rows.main.body.getD i (.Pass ⟨0, 0, 0, 0⟩)
abbrev s_BadRoads_init : Stmt := inClass (top 2) 0
abbrev N_BadRoads_init : List Str := ["self", "number"]
abbrev P_BadRoads_init : List Str := ["self", "number"]
abbrev s_BadReceiver_init : Stmt := inClass (top 3) 0
abbrev N_BadReceiver_init : List Str := ["self", "word"]
abbrev P_BadReceiver_init : List Str := ["self", "word"]
abbrev s_BadRows_init : Stmt := inClass (top 4) 0
abbrev N_BadRows_init : List Str := ["self", "road", "at"]
abbrev P_BadRows_init : List Str := ["self", "road", "at"]
abbrev s_BadText_init : Stmt := inClass (top 6) 0
abbrev N_BadText_init : List Str := ["self", "row", "at"]
abbrev P_BadText_init : List Str := ["self", "row", "at"]
abbrev s_need_roads : Stmt := top 10
abbrev N_need_roads : List Str := ["roads", "number", "least", "most"]
abbrev P_need_roads : List Str := ["roads"]
abbrev s_need_rows : Stmt := top 11
abbrev N_need_rows : List Str := ["roads", "rows", "road", "least", "most", "at", "late"]
abbrev P_need_rows : List Str := ["roads", "rows"]
abbrev s_row_of : Stmt := top 15
abbrev N_row_of : List Str := ["text", "number", "found", "at"]
abbrev P_row_of : List Str := ["text", "number"]
abbrev s_read : Stmt := top 16
abbrev N_read : List Str := ["roads", "text", "lines", "found", "number"]
abbrev P_read : List Str := ["roads", "text"]
abbrev s_Ltaken : Stmt := top 18
abbrev N_Ltaken : List Str := ["_law_row", "_law_many", "_law_cell"]
abbrev P_Ltaken : List Str := ["_law_row", "_law_many"]
abbrev s_Lalike : Stmt := top 19
abbrev N_Lalike : List Str := ["_law_found", "_law_due_here", "_law_k"]
abbrev P_Lalike : List Str := ["_law_found", "_law_due_here"]
abbrev s_Lroads : Stmt := top 20
abbrev N_Lroads : List Str := ["_law_row", "_law_found", "_law_road", "_law_least"]
abbrev P_Lroads : List Str := ["_law_row"]
abbrev s_Llate : Stmt := top 21
abbrev N_Llate : List Str := ["_law_row", "_law_road", "_law_least", "_law_most"]
abbrev P_Llate : List Str := ["_law_row", "_law_road"]
abbrev s_Lrows : Stmt := top 22
abbrev N_Lrows : List Str := ["_law_row", "_law_roads_here", "_law_most", "_law_one", "_law_many", "_law_often", "_law_found", "_law_down", "_law_steady", "_law_loose", "_law_thing", "_law_lates", "_law_road", "_law_late_here"]
abbrev P_Lrows : List Str := ["_law_row", "_law_roads_here", "_law_most", "_law_one"]
abbrev s_Ltext : Stmt := top 23
abbrev N_Ltext : List Str := ["_law_rows_here", "_law_line", "_law_late_here"]
abbrev P_Ltext : List Str := ["_law_rows_here"]
abbrev s_Ldue : Stmt := top 24
abbrev N_Ldue : List Str := ["_law_roads_here", "_law_text_here", "_law_lines", "_law_number", "_law_odd", "_law_rows_here", "_law_road", "_law_at", "_law_late_here"]
abbrev P_Ldue : List Str := ["_law_roads_here", "_law_text_here"]
abbrev s_Lreading : Stmt := top 25
abbrev N_Lreading : List Str := ["_law_roads_here", "_law_text_here", "e", "_law_kinds"]
abbrev P_Lreading : List Str := ["_law_roads_here", "_law_text_here"]
abbrev s_Lspoilt : Stmt := top 26
abbrev N_Lspoilt : List Str := ["_law_row", "_law_text_here", "_law_way", "_law_at", "_law_whole", "_law_signs", "_law_sign", "_law_lines", "_law_k"]
abbrev P_Lspoilt : List Str := ["_law_row", "_law_text_here"]
abbrev s_law : Stmt := top 27
abbrev N_law : List Str := ["_law_script", "_law_row", "_law_odd", "_law_turn", "_law_roads_here", "_law_text_here", "_law_change", "_law_some"]
abbrev P_law : List Str := ["_law_script"]
/-- where the top has put what the proofs name -/
structure Txt (K : PySem.W.Frag) (mg : Str → Option Value) where
  f_need_roads : Addr
  fd_need_roads : FuncData
  F_need_roads : Fun K "need_roads" "need_roads" s_need_roads f_need_roads fd_need_roads
  mg_need_roads : mg "need_roads" = some (.ref f_need_roads)
  kp_need_roads : PySem.W.keepIn K (.ref f_need_roads) = true
  b_need_roads : Binds K fd_need_roads P_need_roads []
  f_need_rows : Addr
  fd_need_rows : FuncData
  F_need_rows : Fun K "need_rows" "need_rows" s_need_rows f_need_rows fd_need_rows
  mg_need_rows : mg "need_rows" = some (.ref f_need_rows)
  kp_need_rows : PySem.W.keepIn K (.ref f_need_rows) = true
  b_need_rows : Binds K fd_need_rows P_need_rows []
  f_row_of : Addr
  fd_row_of : FuncData
  F_row_of : Fun K "row_of" "row_of" s_row_of f_row_of fd_row_of
  mg_row_of : mg "row_of" = some (.ref f_row_of)
  kp_row_of : PySem.W.keepIn K (.ref f_row_of) = true
  b_row_of : Binds K fd_row_of P_row_of []
  f_read : Addr
  fd_read : FuncData
  F_read : Fun K "read" "read" s_read f_read fd_read
  mg_read : mg "read" = some (.ref f_read)
  kp_read : PySem.W.keepIn K (.ref f_read) = true
  b_read : Binds K fd_read P_read []
  f_Ltaken : Addr
  fd_Ltaken : FuncData
  F_Ltaken : Fun K "_law_taken" "_law_taken" s_Ltaken f_Ltaken fd_Ltaken
  mg_Ltaken : mg "_law_taken" = some (.ref f_Ltaken)
  kp_Ltaken : PySem.W.keepIn K (.ref f_Ltaken) = true
  b_Ltaken : Binds K fd_Ltaken P_Ltaken []
  f_Lalike : Addr
  fd_Lalike : FuncData
  F_Lalike : Fun K "_law_alike" "_law_alike" s_Lalike f_Lalike fd_Lalike
  mg_Lalike : mg "_law_alike" = some (.ref f_Lalike)
  kp_Lalike : PySem.W.keepIn K (.ref f_Lalike) = true
  b_Lalike : Binds K fd_Lalike P_Lalike []
  f_Lroads : Addr
  fd_Lroads : FuncData
  F_Lroads : Fun K "_law_roads" "_law_roads" s_Lroads f_Lroads fd_Lroads
  mg_Lroads : mg "_law_roads" = some (.ref f_Lroads)
  kp_Lroads : PySem.W.keepIn K (.ref f_Lroads) = true
  b_Lroads : Binds K fd_Lroads P_Lroads []
  f_Llate : Addr
  fd_Llate : FuncData
  F_Llate : Fun K "_law_late" "_law_late" s_Llate f_Llate fd_Llate
  mg_Llate : mg "_law_late" = some (.ref f_Llate)
  kp_Llate : PySem.W.keepIn K (.ref f_Llate) = true
  b_Llate : Binds K fd_Llate P_Llate []
  f_Lrows : Addr
  fd_Lrows : FuncData
  F_Lrows : Fun K "_law_rows" "_law_rows" s_Lrows f_Lrows fd_Lrows
  mg_Lrows : mg "_law_rows" = some (.ref f_Lrows)
  kp_Lrows : PySem.W.keepIn K (.ref f_Lrows) = true
  b_Lrows : Binds K fd_Lrows P_Lrows []
  f_Ltext : Addr
  fd_Ltext : FuncData
  F_Ltext : Fun K "_law_text" "_law_text" s_Ltext f_Ltext fd_Ltext
  mg_Ltext : mg "_law_text" = some (.ref f_Ltext)
  kp_Ltext : PySem.W.keepIn K (.ref f_Ltext) = true
  b_Ltext : Binds K fd_Ltext P_Ltext []
  f_Ldue : Addr
  fd_Ldue : FuncData
  F_Ldue : Fun K "_law_due" "_law_due" s_Ldue f_Ldue fd_Ldue
  mg_Ldue : mg "_law_due" = some (.ref f_Ldue)
  kp_Ldue : PySem.W.keepIn K (.ref f_Ldue) = true
  b_Ldue : Binds K fd_Ldue P_Ldue []
  f_Lreading : Addr
  fd_Lreading : FuncData
  F_Lreading : Fun K "_law_reading" "_law_reading" s_Lreading f_Lreading fd_Lreading
  mg_Lreading : mg "_law_reading" = some (.ref f_Lreading)
  kp_Lreading : PySem.W.keepIn K (.ref f_Lreading) = true
  b_Lreading : Binds K fd_Lreading P_Lreading []
  f_Lspoilt : Addr
  fd_Lspoilt : FuncData
  F_Lspoilt : Fun K "_law_spoilt" "_law_spoilt" s_Lspoilt f_Lspoilt fd_Lspoilt
  mg_Lspoilt : mg "_law_spoilt" = some (.ref f_Lspoilt)
  kp_Lspoilt : PySem.W.keepIn K (.ref f_Lspoilt) = true
  b_Lspoilt : Binds K fd_Lspoilt P_Lspoilt []
  f_law : Addr
  fd_law : FuncData
  F_law : Fun K "law" "law" s_law f_law fd_law
  mg_law : mg "law" = some (.ref f_law)
  kp_law : PySem.W.keepIn K (.ref f_law) = true
  b_law : Binds K fd_law P_law []
  u_MOST_LATE : Value
  mg_MOST_LATE : mg "MOST_LATE" = some u_MOST_LATE
  rv_MOST_LATE : RelV (.int 9) u_MOST_LATE
  u_MOST_THINGS : Value
  mg_MOST_THINGS : mg "MOST_THINGS" = some u_MOST_THINGS
  rv_MOST_THINGS : RelV (.int 80) u_MOST_THINGS
  u_FIGURES : Value
  mg_FIGURES : mg "FIGURES" = some u_FIGURES
  rv_FIGURES : RelV (.str "0123456789") u_FIGURES
  u_GONE : Value
  mg_GONE : mg "GONE" = some u_GONE
  rv_GONE : RelV (.str "-") u_GONE
  z_ValueError : mg "ValueError" = none
  z_bool : mg "bool" = none
  z_int : mg "int" = none
  z_isinstance : mg "isinstance" = none
  z_len : mg "len" = none
  z_list : mg "list" = none
  z_max : mg "max" = none
  z_min : mg "min" = none
  z_range : mg "range" = none
  z_str : mg "str" = none
  z_tuple : mg "tuple" = none
  C_RoadError : Addr
  mg_RoadError : mg "RoadError" = some (.ref C_RoadError)
  kp_RoadError : PySem.W.keepIn K (.ref C_RoadError) = true
  ex_RoadError : PySem.W.subIn K (.ref C_RoadError) (.type "BaseException") = some true
  ty_RoadError : PySem.W.typeIn K (.ref C_RoadError) = some (.type "type")
  hd_RoadError : PySem.W.hasDictIn K C_RoadError = true
  C_BadRoads : Addr
  mg_BadRoads : mg "BadRoads" = some (.ref C_BadRoads)
  kp_BadRoads : PySem.W.keepIn K (.ref C_BadRoads) = true
  ex_BadRoads : PySem.W.subIn K (.ref C_BadRoads) (.type "BaseException") = some true
  ty_BadRoads : PySem.W.typeIn K (.ref C_BadRoads) = some (.type "type")
  hd_BadRoads : PySem.W.hasDictIn K C_BadRoads = true
  C_BadReceiver : Addr
  mg_BadReceiver : mg "BadReceiver" = some (.ref C_BadReceiver)
  kp_BadReceiver : PySem.W.keepIn K (.ref C_BadReceiver) = true
  ex_BadReceiver : PySem.W.subIn K (.ref C_BadReceiver) (.type "BaseException") = some true
  ty_BadReceiver : PySem.W.typeIn K (.ref C_BadReceiver) = some (.type "type")
  hd_BadReceiver : PySem.W.hasDictIn K C_BadReceiver = true
  C_BadRows : Addr
  mg_BadRows : mg "BadRows" = some (.ref C_BadRows)
  kp_BadRows : PySem.W.keepIn K (.ref C_BadRows) = true
  ex_BadRows : PySem.W.subIn K (.ref C_BadRows) (.type "BaseException") = some true
  ty_BadRows : PySem.W.typeIn K (.ref C_BadRows) = some (.type "type")
  hd_BadRows : PySem.W.hasDictIn K C_BadRows = true
  C_BadMark : Addr
  mg_BadMark : mg "BadMark" = some (.ref C_BadMark)
  kp_BadMark : PySem.W.keepIn K (.ref C_BadMark) = true
  ex_BadMark : PySem.W.subIn K (.ref C_BadMark) (.type "BaseException") = some true
  ty_BadMark : PySem.W.typeIn K (.ref C_BadMark) = some (.type "type")
  hd_BadMark : PySem.W.hasDictIn K C_BadMark = true
  C_BadText : Addr
  mg_BadText : mg "BadText" = some (.ref C_BadText)
  kp_BadText : PySem.W.keepIn K (.ref C_BadText) = true
  ex_BadText : PySem.W.subIn K (.ref C_BadText) (.type "BaseException") = some true
  ty_BadText : PySem.W.typeIn K (.ref C_BadText) = some (.type "type")
  hd_BadText : PySem.W.hasDictIn K C_BadText = true
  f_BadRows_init : Addr
  fd_BadRows_init : FuncData
  F_BadRows_init : Fun K "__init__" "BadRows.__init__" s_BadRows_init f_BadRows_init fd_BadRows_init
  b_BadRows_init : Binds K fd_BadRows_init P_BadRows_init []
  iC_BadRows : PySem.W.findIn K (.ref C_BadRows) "__init__" = some (some (.ref f_BadRows_init))
  tI_BadRows : PySem.W.typeIn K (.ref f_BadRows_init) = some (.type "function")
  ox_BadRows : OexC K C_BadRows
  nf_BadRows_road : PySem.W.findIn K (.ref C_BadRows) "road" = some none
  nf_BadRows_at : PySem.W.findIn K (.ref C_BadRows) "at" = some none
  nf_BadRows_row : PySem.W.findIn K (.ref C_BadRows) "row" = some none
  f_BadText_init : Addr
  fd_BadText_init : FuncData
  F_BadText_init : Fun K "__init__" "BadText.__init__" s_BadText_init f_BadText_init fd_BadText_init
  b_BadText_init : Binds K fd_BadText_init P_BadText_init []
  iC_BadText : PySem.W.findIn K (.ref C_BadText) "__init__" = some (some (.ref f_BadText_init))
  tI_BadText : PySem.W.typeIn K (.ref f_BadText_init) = some (.type "function")
  ox_BadText : OexC K C_BadText
  nf_BadText_road : PySem.W.findIn K (.ref C_BadText) "road" = some none
  nf_BadText_at : PySem.W.findIn K (.ref C_BadText) "at" = some none
  nf_BadText_row : PySem.W.findIn K (.ref C_BadText) "row" = some none
  xg_BadText : PySem.W.findIn K (.ref C_BadText) "__getattribute__" = some (some (.builtin "BaseException.__getattribute__"))
  xk_BadText : PySem.W.findIn K (.ref C_BadText) "__getattr__" = some none
  xa_BadText : PySem.W.findIn K (.ref C_BadText) "__class__" = some (some (.builtin "object.__class__"))
  xn_BadText : PySem.W.specialIn K (.builtin "object.__class__") "__get__" = some (some (.builtin "getset_descriptor.__get__"))
  xt_BadText : PySem.W.takesIn K (.builtin "object.__class__") = some true
  xm_BadText : PySem.W.mroIn K C_BadText (.type "object") = some true
  i_BadText_BadMark : PySem.W.kitOne K (.ref C_BadText) (.ref C_BadMark) = some false
  i_BadText_BadReceiver : PySem.W.kitOne K (.ref C_BadText) (.ref C_BadReceiver) = some false
  i_BadText_BadRoads : PySem.W.kitOne K (.ref C_BadText) (.ref C_BadRoads) = some false
  i_BadText_BadRows : PySem.W.kitOne K (.ref C_BadText) (.ref C_BadRows) = some false
  i_BadText_BadText : PySem.W.kitOne K (.ref C_BadText) (.ref C_BadText) = some true
  i_BadText_VE : PySem.W.kitOne K (.ref C_BadText) (.type "ValueError") = some true
  m_BadText : PySem.W.exmOne K (.ref C_BadText) (.ref C_RoadError) = some true
  xg_BadRows : PySem.W.findIn K (.ref C_BadRows) "__getattribute__" = some (some (.builtin "BaseException.__getattribute__"))
  xk_BadRows : PySem.W.findIn K (.ref C_BadRows) "__getattr__" = some none
  xa_BadRows : PySem.W.findIn K (.ref C_BadRows) "__class__" = some (some (.builtin "object.__class__"))
  xn_BadRows : PySem.W.specialIn K (.builtin "object.__class__") "__get__" = some (some (.builtin "getset_descriptor.__get__"))
  xt_BadRows : PySem.W.takesIn K (.builtin "object.__class__") = some true
  xm_BadRows : PySem.W.mroIn K C_BadRows (.type "object") = some true
  i_BadRows_BadMark : PySem.W.kitOne K (.ref C_BadRows) (.ref C_BadMark) = some false
  i_BadRows_BadReceiver : PySem.W.kitOne K (.ref C_BadRows) (.ref C_BadReceiver) = some false
  i_BadRows_BadRoads : PySem.W.kitOne K (.ref C_BadRows) (.ref C_BadRoads) = some false
  i_BadRows_BadRows : PySem.W.kitOne K (.ref C_BadRows) (.ref C_BadRows) = some true
  i_BadRows_BadText : PySem.W.kitOne K (.ref C_BadRows) (.ref C_BadText) = some false
  i_BadRows_VE : PySem.W.kitOne K (.ref C_BadRows) (.type "ValueError") = some true
  m_BadRows : PySem.W.exmOne K (.ref C_BadRows) (.ref C_RoadError) = some true
  oi1_RoadError : PySem.W.specialIn K (.ref C_RoadError) "__getattribute__" = some (some (.builtin "type.__getattribute__"))
  oi2_RoadError : PySem.W.readsIn K C_RoadError (.type "type") = true
  oi3_RoadError : PySem.W.findCls K (.ref C_RoadError) (.type "type") "__init__" = some (.val (.builtin "ValueError.__init__"))
section
variable {P : Program} {w : World} {K : PySem.W.Frag} {mg : Str → Option Value} {base : Heap}
theorem sc_BadRows_init : FnScope N_BadRows_init P_BadRows_init (defScope s_BadRows_init) := ⟨rfl, rfl, rfl, by decide +kernel, rfl, by decide +kernel, by decide +kernel⟩
theorem sc_BadText_init : FnScope N_BadText_init P_BadText_init (defScope s_BadText_init) := ⟨rfl, rfl, rfl, by decide +kernel, rfl, by decide +kernel, by decide +kernel⟩
theorem sc_need_roads : FnScope N_need_roads P_need_roads (defScope s_need_roads) := ⟨rfl, rfl, rfl, by decide +kernel, rfl, by decide +kernel, by decide +kernel⟩
theorem sc_need_rows : FnScope N_need_rows P_need_rows (defScope s_need_rows) := ⟨rfl, rfl, rfl, by decide +kernel, rfl, by decide +kernel, by decide +kernel⟩
theorem sc_row_of : FnScope N_row_of P_row_of (defScope s_row_of) := ⟨rfl, rfl, rfl, by decide +kernel, rfl, by decide +kernel, by decide +kernel⟩
theorem sc_read : FnScope N_read P_read (defScope s_read) := ⟨rfl, rfl, rfl, by decide +kernel, rfl, by decide +kernel, by decide +kernel⟩
theorem sc_Ltaken : FnScope N_Ltaken P_Ltaken (defScope s_Ltaken) := ⟨rfl, rfl, rfl, by decide +kernel, rfl, by decide +kernel, by decide +kernel⟩
theorem sc_Lalike : FnScope N_Lalike P_Lalike (defScope s_Lalike) := ⟨rfl, rfl, rfl, by decide +kernel, rfl, by decide +kernel, by decide +kernel⟩
theorem sc_Lroads : FnScope N_Lroads P_Lroads (defScope s_Lroads) := ⟨rfl, rfl, rfl, by decide +kernel, rfl, by decide +kernel, by decide +kernel⟩
theorem sc_Llate : FnScope N_Llate P_Llate (defScope s_Llate) := ⟨rfl, rfl, rfl, by decide +kernel, rfl, by decide +kernel, by decide +kernel⟩
theorem sc_Lrows : FnScope N_Lrows P_Lrows (defScope s_Lrows) := ⟨rfl, rfl, rfl, by decide +kernel, rfl, by decide +kernel, by decide +kernel⟩
theorem sc_Ltext : FnScope N_Ltext P_Ltext (defScope s_Ltext) := ⟨rfl, rfl, rfl, by decide +kernel, rfl, by decide +kernel, by decide +kernel⟩
theorem sc_Ldue : FnScope N_Ldue P_Ldue (defScope s_Ldue) := ⟨rfl, rfl, rfl, by decide +kernel, rfl, by decide +kernel, by decide +kernel⟩
theorem sc_Lreading : FnScope N_Lreading P_Lreading (defScope s_Lreading) := ⟨rfl, rfl, rfl, by decide +kernel, rfl, by decide +kernel, by decide +kernel⟩
theorem sc_Lspoilt : FnScope N_Lspoilt P_Lspoilt (defScope s_Lspoilt) := ⟨rfl, rfl, rfl, by decide +kernel, rfl, by decide +kernel, by decide +kernel⟩
theorem sc_law : FnScope N_law P_law (defScope s_law) := ⟨rfl, rfl, rfl, by decide +kernel, rfl, by decide +kernel, by decide +kernel⟩
end
/-! ### heaps: what is kept but for one place -/
/-- all but r stands -/
def Kp (r : Addr) (H H' : Hp) : Prop := ∀ b o, b ≠ r → H b = some o → H' b = some o
theorem Kp.refl (r : Addr) (H : Hp) : Kp r H H := fun _ _ _ h => h
theorem Kp.trans {r : Addr} {H H1 H2 : Hp} (a : Kp r H H1) (b : Kp r H1 H2) : Kp r H H2 := fun c o n h => b c o n (a c o n h)
theorem Kp.of {r : Addr} {H H' : Hp} (s : Same H H') : Kp r H H' := fun c o _ h => s c o h
theorem Kp.put {r : Addr} {H H' : Hp} {o : HO} (a : Kp r H H') : Kp r H (upd H' r o) := fun c u n h => by
  rw [upd_ne n]; exact a c u n h
theorem Kp.new {r : Addr} {H H' : Hp} {p : Addr} {o : HO} (a : Kp r H H') (hp : H' p = none) : Kp r H (upd H' p o) := fun c u n h => by
  have h1 := a c u n h
  rw [upd_ne (ne_of_none h1 hp)]; exact h1
theorem _root_.L2.Same.new {H H' : Hp} {p : Addr} {o : HO} (a : Same H H') (hp : H' p = none) : Same H (upd H' p o) := fun c u h => by
  have h1 := a c u h
  rw [upd_ne (ne_of_none h1 hp)]; exact h1
/-- a change at a place that was free at the start -/
theorem _root_.L2.Same.mut {H H' : Hp} {p : Addr} {o : HO} (a : Same H H') (hp : H p = none) : Same H (upd H' p o) := fun c u h => by
  rw [upd_ne (ne_of_none h hp)]; exact a c u h
theorem Kp.mut {r : Addr} {H H' : Hp} {p : Addr} {o : HO} (a : Kp r H H') (hp : H p = none) : Kp r H (upd H' p o) := fun c u n h => by
  rw [upd_ne (ne_of_none h hp)]; exact a c u n h
theorem _root_.L2.Same.upd_new {H : Hp} {p : Addr} {o : HO} (hp : H p = none) : Same H (upd H p o) := (Same.refl H).new hp
theorem Kp.free {r : Addr} {H H' : Hp} {x : Addr} (k : Kp r H H') (n : x ≠ r) (h : H' x = none) : H x = none := by
  cases e : H x with
  | none => rfl
  | some o =>
    rw [k x o n e] at h; cases h
theorem Kp.rd {r : Addr} {H H' : Hp} {a : Addr} {u : HO} (k : Kp r H H') (n : a ≠ r) (h : Rd H a u) : Rd H' a u := by
  rcases h with h | ⟨o, h⟩
  · exact .inl (k _ _ n h)
  · exact .inr ⟨o, k _ _ n h⟩
theorem Kp.sql {K : PySem.W.Frag} {r : Addr} {H H' : Hp} {a : Addr} {xs : List V} (k : Kp r H H') (n : a ≠ r) (h : SqL K H a xs) : SqL K H' a xs := by
  rcases h with h | h
  · exact .inl (k.rd n h)
  · exact .inr h
theorem Kp.sqt {K : PySem.W.Frag} {r : Addr} {H H' : Hp} {a : Addr} {xs ys : List V} (k : Kp r H H') (hr : H r = some (.lst ys)) (h : SqT K H a xs) : SqT K H' a xs := by
  rcases h with (h | ⟨o, h⟩) | h
  · exact .inl (.inl (k _ _ (fun z => by rw [z, hr] at h; cases h) h))
  · exact .inl (.inr ⟨o, k _ _ (fun z => by rw [z, hr] at h; cases h) h⟩)
  · exact .inr h
theorem _root_.L2.Same.sqt {K : PySem.W.Frag} {H H' : Hp} {a : Addr} {xs : List V} (e : Same H H') (h : SqT K H a xs) : SqT K H' a xs := by
  rcases h with (h | ⟨o, h⟩) | h
  · exact .inl (.inl (e _ _ h))
  · exact .inl (.inr ⟨o, e _ _ h⟩)
  · exact .inr h
theorem _root_.L2.Same.mx {H H1 H2 : Hp} (a : Same H H1) (b : Same H1 H2) : Same H H2 := a.trans b
theorem at0 {α : Type} {x : α} {l : List α} : atI (x :: l) 0 = some x := atI_nat (j := 0) rfl
theorem at1 {α : Type} {x y : α} {l : List α} : atI (x :: y :: l) 1 = some y := atI_nat (j := 1) rfl
theorem at2 {α : Type} {x y z : α} {l : List α} : atI (x :: y :: z :: l) 2 = some z := atI_nat (j := 2) rfl
theorem ixN_of {n : Nat} {i : Int} {j : Nat} (e : i = (j : Int)) (h : j < n) : ixN n i = some j := by
  subst e
  unfold ixN
  rw [if_pos (by omega), if_pos (by omega)]; simp
/-- ints by their place -/
theorem at_ints {ns : List Int} {i : Int} (h0 : 0 ≤ i) (h1 : i < ns.length) : ∃ z, atI (ns.map V.int) i = some (.int z) := by
  obtain ⟨j, rfl⟩ := Int.eq_ofNat_of_zero_le h0
  have hj : j < ns.length := by omega
  exact ⟨ns[j], atI_nat (by rw [List.getElem?_map, List.getElem?_eq_getElem hj]; rfl)⟩

/-! ### the row of a law: [script, place, mix]; the script is locked or stands in the written part -/
def Scr (K : PySem.W.Frag) (H : Hp) (a : Addr) (ns : List Int) : Prop := (∃ o, H a = some (.frz o (.lst (ns.map V.int)))) ∨ ∀ H', SqL K H' a (ns.map V.int)
theorem Scr.sql {K : PySem.W.Frag} {H : Hp} {a : Addr} {ns : List Int} (h : Scr K H a ns) : SqL K H a (ns.map V.int) := by
  rcases h with ⟨o, h⟩ | h
  · exact .inl (.inr ⟨o, h⟩)
  · exact h H
theorem Scr.move {K : PySem.W.Frag} {H H' : Hp} {a : Addr} {ns : List Int} (h : Scr K H a ns) (k : ∀ b o u, H b = some (.frz o u) → H' b = some (.frz o u)) : Scr K H' a ns := by
  rcases h with ⟨o, h⟩ | h
  · exact .inl ⟨o, k _ _ _ h⟩
  · exact .inr h
theorem Scr.of {K : PySem.W.Frag} {H : Hp} {a : Addr} {ns : List Int} (O : L2.Only H) (h : SqL K H a (ns.map V.int)) : Scr K H a ns := by
  rcases h with (h | ⟨o, h⟩) | h
  · rcases O a with z | ⟨o, xs, z⟩ <;> (rw [h] at z; cases z)
  · exact .inl ⟨o, h⟩
  · exact .inr fun _ => .inr h
structure RowAt (K : PySem.W.Frag) (r : Addr) (H : Hp) : Prop where
  ex : ∃ (a : Addr) (i m : Int) (ns : List Int), H r = some (.lst [.ref a, .int i, .int m]) ∧ Scr K H a ns ∧ 0 ≤ i ∧ 0 ≤ m ∧ m < 2147483647
theorem RowAt.lst {K : PySem.W.Frag} {r : Addr} {H : Hp} (h : RowAt K r H) : ∃ xs, H r = some (.lst xs) := by
  obtain ⟨a, i, m, ns, h, _⟩ := h.ex
  exact ⟨_, h⟩
theorem RowAt.move {K : PySem.W.Frag} {r : Addr} {H H' : Hp} (h : RowAt K r H) (e : ∀ o, H r = some o → H' r = some o) (k : ∀ b o u, H b = some (.frz o u) → H' b = some (.frz o u)) : RowAt K r H' := by
  obtain ⟨a, i, m, ns, h, q, z⟩ := h.ex
  exact ⟨a, i, m, ns, e _ h, q.move k, z⟩
theorem RowAt.same {K : PySem.W.Frag} {r : Addr} {H H' : Hp} (h : RowAt K r H) (s : Same H H') : RowAt K r H' := h.move (fun o e => s _ _ e) fun b o u e => s _ _ e
theorem RowAt.new {K : PySem.W.Frag} {r : Addr} {H : Hp} {p : Addr} {o : HO} (h : RowAt K r H) (hp : H p = none) : RowAt K r (upd H p o) := h.same (Same.upd_new hp)
/-- a change of a list beside the row -/
theorem RowAt.put {K : PySem.W.Frag} {r : Addr} {H : Hp} {p : Addr} {xs : List V} {o : HO} (h : RowAt K r H) (n : p ≠ r) (hp : H p = some (.lst xs)) : RowAt K r (upd H p o) :=
  h.move (fun u e => by rw [upd_ne n.symm]; exact e) fun b o u e => by
    rw [upd_ne (fun z => by rw [z, hp] at e; cases e)]
    exact e
/-- a new place is not the row's -/
theorem RowAt.ne {K : PySem.W.Frag} {r : Addr} {H : Hp} {p : Addr} (h : RowAt K r H) (hp : H p = none) : p ≠ r := by
  obtain ⟨xs, e⟩ := h.lst
  exact (ne_of_none e hp).symm
theorem RowAt.start {K : PySem.W.Frag} {H : Hp} {a r : Addr} {ns : List Int} (h : Scr K H a ns) (hr : H r = none) : RowAt K r (upd H r (.lst [.ref a, .int 0, .int 0])) :=
  ⟨a, 0, 0, ns, upd_same, h.move (fun b o u e => by rw [upd_ne (ne_of_none e hr)]; exact e), by decide, by decide, by decide⟩
/-- the law's own promise: True -/
def spLaw (K : PySem.W.Frag) : Sp := fun vs H Q _ => ∃ (a : Addr) (ns : List Int), vs = [.ref a] ∧ Scr K H a ns ∧ ∀ H', Q (.bl true) H'
/-! ### within a comprehension the written part is the def's own -/
section
variable {X : Cx} {K : PySem.W.Frag}
theorem ixK_list (h : X.K = K) : IxR X (rIxL K) := h ▸ ix_list
theorem ixK_tup (h : X.K = K) : IxR X (rIxT K) := h ▸ ix_tup
theorem ixK_seq (h : X.K = K) : IxR X (rIx K) := h ▸ ix_seq
theorem lenK (h : X.K = K) : CallR X (.builtin "len") (fun xs H Q => ∃ p ys, xs = [.ref p] ∧ (SqL K H p ys ∨ SqT K H p ys) ∧ Q (.int ys.length) H) := h ▸ call_len_seq
theorem eqDK (h : X.K = K) (hu : X.A.units + 64 < cLine) : OpR X (compareOp .Eq) (rEqD K) := h ▸ op_eqD hu
theorem neDK (h : X.K = K) (hu : X.A.units + 64 < cLine) : OpR X (compareOp .NotEq) (rNeD K) := h ▸ op_neD hu
theorem inK (h : X.K = K) : OpR X (compareOp .In) (rIn K false) := h ▸ op_in_seq
theorem notInK (h : X.K = K) : OpR X (compareOp .NotIn) (rIn K true) := h ▸ op_notIn_seq
theorem piK_list {tg l : Expr} {tl : TE} (h : X.K = K) (hl : PE X l tl) : PI X tg l (iList K tl) := h ▸ pi_list hl
theorem piK_tup {tg l : Expr} {tl : TE} (h : X.K = K) (hl : PE X l tl) : PI X tg l (iTup K tl) := h ▸ pi_tup hl
theorem isiK (h : X.K = K) : CallR X (.builtin "isinstance") (rIsi K) := h ▸ call_isi
theorem isiTK (h : X.K = K) : CallR X (.builtin "isinstance") (rIsiT K) := h ▸ call_isiT
theorem pgK_tup {pos : Pos} {es : List Expr} {k : Nat} {t : TGs} {n : Nat} (h : X.K = K) (hc : X.calm = true) (hp : PGs X es t)
    (hn : (assignEach es X.env).length = n := by rfl) (hst : (assignEach es X.env).findIdx? (·.1) = none := by rfl) : PG X (.Tuple es k pos) (gTup K n t) := h ▸ pg_tup hc hp hn hst
end
section
variable {X : Cx} {K : PySem.W.Frag} {o e : Expr} {to te : TE}
/-- sep.join(a list or tuple of texts) -/
def tJoin (K : PySem.W.Frag) (to te : TE) : TE := tM1 (fun x xs H Q => ∃ a p, ∃ ys : List Str, x = .str a ∧ xs = [.ref p] ∧ (SqL K H p (ys.map V.str) ∨ SqT K H p (ys.map V.str)) ∧
      (ys.map (·.length)).sum + ys.length * a.length ≤ 16777216 ∧ Q (.str (Txt.join a ys)) H) to te
theorem joinK {apos pos : Pos} (h : X.K = K) (ho : PE X o to) (he : PE X e te) (hs : starEach [e] X.env = [(false, eval e X.env)] := by rfl) (hbase : attributeBase o "join" X.env (eval o X.env) = eval o X.env := by rfl) (hline : (apos.endLine == pos.line) = true := by rfl) :
    PE X (.Call (.Attribute o "join" apos) [e] [] pos) (tJoin K to te) := h ▸ pe_join ho he hs hbase hline
end
/-! ### three comparisons in one -/
section
open PyProof.Rows
variable {X : Cx} {a b c d : Expr} {ta tb tc td : TE} {pos : Pos}
def tChain3 (r r' r'' : R2) (ta tb tc td : TE) : TE := fun σ H Q => ta σ H fun x H1 => tb σ H1 fun y H2 => r x y H2 fun z H3 => ∃ k, z = .bl k ∧
  (if k = true then tc σ H3 fun w' H4 => r' y w' H4 fun z2 H5 => ∃ k2, z2 = .bl k2 ∧ (if k2 = true then td σ H5 fun v' H6 => r'' w' v' H6 Q else Q (.bl false) H5) else Q (.bl false) H3)
theorem pt_chain3 {op op' op'' : CmpOp} {r r' r'' : R2} (ho : OpR X (compareOp op) r) (ho' : OpR X (compareOp op') r') (ho'' : OpR X (compareOp op'') r'') (ha : PE X a ta) (hb : PE X b tb) (hc : PE X c tc) (hd : PE X d td)
    (hm : lastMarks [op, op', op''] [b, c, d] = false := by with_unfolding_all rfl) : PT X (.Compare a [op, op', op''] [b, c, d] pos) (tTest (tChain3 r r' r'' ta tb tc td)) := by
  refine ⟨fun pins s σ H Q I h => ?_⟩
  refine isTrue_chain (thn (ha.run pins s σ H _ I h) fun v s1 ⟨x, H1, I1, r1, q1⟩ => test_link (thn (hb.run pins s1 σ H1 _ I1 q1) fun u s2 ⟨y, H2, I2, r2, q2⟩ =>
    thn (ho pins s2 σ H2 x y v u _ I2 r1 r2 q2) fun d0 s3 ⟨z, H3, I3, r3, k, e, q3⟩ => ?_)) hm
  subst e
  cases r3
  refine wpAny_truthy_bool ?_
  cases k with
  | false =>
    obtain ⟨k', e', q'⟩ := q3
    cases e'
    exact ite_ff ⟨H3, I3, q'⟩
  | true =>
    refine ite_tt (test_link (thn (hc.run pins s3 σ H3 _ I3 q3) fun w' s4 ⟨z', H4, I4, r4, q4⟩ => thn (ho' pins s4 σ H4 y z' u w' _ I4 r2 r4 q4) fun d' s5 ⟨z2, H5, I5, r5, k2, e2, q5⟩ => ?_))
    subst e2
    cases r5
    refine wpAny_truthy_bool ?_
    cases k2 with
    | false =>
      obtain ⟨k', e', q'⟩ := q5
      cases e'
      exact ite_ff ⟨H5, I5, q'⟩
    | true =>
      refine ite_tt (test_last (thn (hd.run pins s5 σ H5 _ I5 q5) fun w2 s6 ⟨z3, H6, I6, r6, q6⟩ => thn (ho'' pins s6 σ H6 z' z3 w' w2 _ I6 r4 r6 q6) fun d2 s7 ⟨z4, H7, I7, r7, k4, e4, q7⟩ => ?_))
      subst e4
      cases r7
      exact wpAny_truthy_bool ⟨H7, I7, q7⟩
end
theorem iteD {c A B : Prop} [Decidable c] (hc : c) (h : A) : if decide c = true then A else B := by
  rw [decide_eq_true hc]
  exact iteT h
theorem iteND {c A B : Prop} [Decidable c] (hc : ¬ c) (h : B) : if decide c = true then A else B := by
  rw [decide_eq_false hc]
  exact iteF h
theorem lc_yes {σ : L2.St} {H : Hp} {A B : Hp → Prop} (h : A H) : tYes σ H fun b H3 => if b = true then A H3 else B H3 := by
  show if true = true then A H else B H
  rw [if_pos rfl]
  exact h
theorem iteNN {c A B : Prop} [Decidable c] (hc : ¬ c) (h : A) : if (!decide c) = true then A else B := by
  rw [decide_eq_false hc]
  exact iteT h
section
variable {X : Cx} {K : PySem.W.Frag} {e o : Expr} {ta to : TE} {f : Str} {pos : Pos}
theorem fldK (h : X.K = K) (he : PE X e ta) (hb : attributeBase e f X.env (eval e X.env) = eval e X.env) : PE X (.Attribute e f pos) (tFld K ta f) := h ▸ pe_fld he hb
/-- the target o.f of a walk over a tuple -/
def gFld (K : PySem.W.Frag) (to : TE) (f : Str) : TG := fun v σ H Q => to σ H fun x H1 => ∃ a C dx fs, x = .ref a ∧ H1 a = some (.ins C dx fs) ∧ Cls K C ∧ NoAttr K C f ∧ fs.length < 1000 ∧ Q σ (upd H1 a (.ins C dx (putF f v fs)))
theorem pg_fld (ho : PE X o to) : PG X (.Attribute o f pos) (gFld X.K to f) := by
  refine ⟨fun pins s σ H v u Q I r h => ?_⟩
  rw [assign_Attribute]
  refine wpAny_bind (wpAny_holding (thn (ho.run pins s σ H _ I h) fun ov s1 ⟨x, H1, I1, rx, a, C, dx, fs, ex, ea, c, n, l, q⟩ => ?_))
  subst ex
  obtain rfl : ov = Value.ref a := rx
  refine wpAny_bind (wpAny_standAt (wpAny_bind (wpAny_holding (setattr_ok I1 ea c n l r fun s' I' => ?_))))
  exact PyProof.Rows.wpAny_release' ⟨σ, _, I', q⟩
end
/-! ### _law_taken: some number of 0 .. many - 1; the row turns -/
def spTaken (K : PySem.W.Frag) : Sp := fun vs H Q _ => ∃ (r : Addr) (n : Int), vs = [.ref r, .int n] ∧ 0 < n ∧ RowAt K r H ∧
  ∀ (v : Int) (H' : Hp), 0 ≤ v → v < n → RowAt K r H' → Kp r H H' → Q (.int v) H'
section
variable {P : Program} {w : World} {K : PySem.W.Frag} {mg : Str → Option Value} {base : Heap}
theorem ok_Ltaken (T : Txt K mg) : FnOk P w K mg base CX0 1 T.f_Ltaken T.fd_Ltaken P_Ltaken (spTaken K) := by
  refine T.F_Ltaken.ok sc_Ltaken (fun vs H Q E h => ?_) (fun cdv A outer s H vs Q E hr h => ?_)
  · obtain ⟨r, n, rfl, _⟩ := h
    rfl
  · obtain ⟨r, n, rfl, hn, ⟨a, i, m, ns, hrow, hScr, hi, hm0, hm⟩, k⟩ := h
    have hS := hScr.sql
    refine ⟨_, ((pss_cons (ps_asg (pe_op op_add (pe_ix ix_list (pv 0) pe_int (fun _ _ => rfl)) pe_int) (pg_sub (pv 0) pe_int set_list))
  (pss_cons (ps_if (pt_cmpR op_gt (pe_ix ix_list (pv 0) pe_int (fun _ _ => rfl)) (pe_callB call_len_seq (by rfl) T.z_len (by decide +kernel) (pa_cons (pe_ix ix_list (pv 0) pe_int (fun _ _ => rfl)) pa_nil)) (nomark _)) (pss_cons (ps_asg (pe_op op_mod (pe_op op_add (pe_op op_mul (pe_ix ix_list (pv 0) pe_int (fun _ _ => rfl)) pe_int) pe_int) pe_int) (pg_sub (pv 0) pe_int set_list))
  (pss_one (ps_ret (pe_op op_mod (pe_op op_fdiv (pe_ix ix_list (pv 0) pe_int (fun _ _ => rfl)) pe_int) (pv 1))))) pss_nil)
  (pss_cons (ps_set (i := 2) sc_Ltaken.nd rfl (Or.inl rfl) (pe_ix ix_list (pe_ix ix_list (pv 0) pe_int (fun _ _ => rfl)) (pe_op op_sub (pe_ix ix_list (pv 0) pe_int (fun _ _ => rfl)) pe_int) (fun _ _ => rfl)))
  (pss_cons (ps_asg (pe_op op_mod (pe_op op_add (pe_op op_add (pe_op op_mul (pe_ix ix_list (pv 0) pe_int (fun _ _ => rfl)) pe_int) (pv 2)) pe_int) pe_int) (pg_sub (pv 0) pe_int set_list))
  (pss_one (ps_ret (pe_op op_mod (pv 2) (pv 1))))))))), ?_⟩
    have key : ∀ (j m' : Int), 0 ≤ j → 0 ≤ m' → m' < 2147483647 → ∀ v, 0 ≤ v → v < n → ∀ H', H' r = some (.lst [.ref a, .int j, .int m']) → Kp r H H' → Q (.int v) H' :=
      fun j m' hj h0 h1 v v0 v1 H' e kp => k v H' v0 v1 ⟨a, j, m', ns, e, hScr.move fun b o u eb => kp _ _ (fun z => by rw [z, hrow] at eb; cases eb) eb, hj, h0, h1⟩ kp
    -- row[1] = row[1] + 1
    refine ⟨_, rfl, r, _, _, _, rfl, rfl, SqL.of hrow, at1, _, _, rfl, rfl, _, rfl, r, _, _, 1, rfl, rfl, hrow, rfl, ?_⟩
    generalize hH1 : upd H r _ = H1
    have k1 : Kp r H H1 := by rw [← hH1]; exact (Kp.refl r H).put
    have r1 : H1 r = some (.lst [.ref a, .int (i + 1), .int m]) := by rw [← hH1]; exact upd_same
    have s1 := (hScr.move (fun b o u eb => k1 _ _ (fun z => by rw [z, hrow] at eb; cases eb) eb)).sql
    -- if row[1] > len(row[0])
    refine ⟨_, rfl, r, _, _, _, rfl, rfl, SqL.of r1, at1, _, rfl, r, _, _, _, rfl, rfl, SqL.of r1, at0, a, _, rfl, .inl s1, _, _, rfl, rfl, _, rfl, ?_⟩
    rw [List.length_map]
    refine ite2 (fun hc => ?_) (fun hc => ?_)
    · refine ⟨_, rfl, r, _, _, _, rfl, rfl, SqL.of r1, at2, _, _, rfl, rfl, .inl ⟨by omega, by omega⟩, _, _, rfl, rfl, _, _, rfl, rfl, (by show (0 : Int) < 2147483647; decide), _, rfl, r, _, _, 2, rfl, rfl, r1, rfl, ?_⟩
      refine ⟨_, rfl, r, _, _, _, rfl, rfl, SqL.of upd_same, at2, _, _, rfl, rfl, ⟨by decide, by decide⟩, _, rfl, _, _, rfl, rfl, hn, ?_⟩
      refine key (i + 1) ((m * 48271 + 11) % 2147483647) (by omega) (Int.emod_nonneg _ (by decide)) (Int.emod_lt_of_pos _ (by decide)) _ (Int.emod_nonneg _ (by omega)) (Int.emod_lt_of_pos _ hn) _ upd_same k1.put
    · have hc' : ¬ (i + 1 > (ns.length : Int)) := fun z => hc (decide_eq_true z)
      obtain ⟨z, hz⟩ := at_ints (ns := ns) (i := i + 1 - 1) (by omega) (by omega)
      refine ⟨_, rfl, r, _, _, _, rfl, rfl, SqL.of r1, at0, _, rfl, r, _, _, _, rfl, rfl, SqL.of r1, at1, _, _, rfl, rfl, a, _, _, _, rfl, rfl, s1, hz, ?_⟩
      refine ⟨_, rfl, r, _, _, _, rfl, rfl, SqL.of r1, at2, _, _, rfl, rfl, .inl ⟨by omega, by omega⟩, _, rfl, _, _, rfl, rfl, _, _, rfl, rfl, _, _, rfl, rfl, (by show (0 : Int) < 2147483647; decide), _, rfl, r, _, _, 2, rfl, rfl, r1, rfl, ?_⟩
      refine ⟨_, rfl, _, rfl, _, _, rfl, rfl, hn, ?_⟩
      exact key (i + 1) ((m * 48271 + z + 11) % 2147483647) (by omega) (Int.emod_nonneg _ (by decide)) (Int.emod_lt_of_pos _ (by decide)) _ (Int.emod_nonneg _ (by omega)) (Int.emod_lt_of_pos _ hn) _ upd_same k1.put
end
/-! ### roads, rows -/
structure Rds where
  l0 : Int
  m0 : Int
  l1 : Int
  m1 : Int
def Rds.Ok (R : Rds) : Prop := (0 ≤ R.l0 ∧ R.l0 ≤ R.m0 ∧ R.m0 ≤ 9) ∧ (0 ≤ R.l1 ∧ R.l1 ≤ R.m1 ∧ R.m1 ≤ 9)
def RoadsAt (H : Hp) (p : Addr) (R : Rds) : Prop := ∃ t0 t1 : Addr, H p = some (.tup [.ref t0, .ref t1]) ∧ H t0 = some (.tup [.int R.l0, .int R.m0]) ∧ H t1 = some (.tup [.int R.l1, .int R.m1])
theorem RoadsAt.same {H H' : Hp} {p : Addr} {R : Rds} (s : Same H H') (h : RoadsAt H p R) : RoadsAt H' p R := by
  obtain ⟨t0, t1, h1, h2, h3⟩ := h
  exact ⟨t0, t1, s _ _ h1, s _ _ h2, s _ _ h3⟩
theorem tup_ne {H : Hp} {a b : Addr} {xs ys : List V} (ha : H a = some (.tup xs)) (hb : H b = some (.lst ys)) : a ≠ b := fun z => by
  rw [z, hb] at ha; cases ha
theorem Kp.tup {K : PySem.W.Frag} {r : Addr} {H H' : Hp} {a : Addr} {xs : List V} (k : Kp r H H') (w : RowAt K r H) (h : H a = some (.tup xs)) : H' a = some (.tup xs) := by
  obtain ⟨ys, hr⟩ := w.lst
  exact k _ _ (tup_ne h hr) h
theorem Kp.roads {K : PySem.W.Frag} {r : Addr} {H H' : Hp} {p : Addr} {R : Rds} (k : Kp r H H') (w : RowAt K r H) (h : RoadsAt H p R) : RoadsAt H' p R := by
  obtain ⟨t0, t1, h1, h2, h3⟩ := h
  exact ⟨t0, t1, k.tup w h1, k.tup w h2, k.tup w h3⟩
/-- a lateness or None -/
abbrev Lt := Option Int
def oV : Lt → V
  | none => .non
  | some i => .int i
structure RowsAt (H : Hp) (q a b : Addr) (R0 R1 : List Lt) : Prop where
  hq : H q = some (.tup [.ref a, .ref b])
  ha : H a = some (.lst (R0.map oV))
  hb : H b = some (.lst (R1.map oV))
  ne : a ≠ b
theorem RowsAt.same {H H' : Hp} {q a b : Addr} {R0 R1 : List Lt} (s : Same H H') (h : RowsAt H q a b R0 R1) : RowsAt H' q a b R0 R1 := ⟨s _ _ h.hq, s _ _ h.ha, s _ _ h.hb, h.ne⟩
theorem Kp.rows {K : PySem.W.Frag} {r : Addr} {H H' : Hp} {q a b : Addr} {R0 R1 : List Lt} (k : Kp r H H') (w : RowAt K r H) (na : a ≠ r) (nb : b ≠ r) (h : RowsAt H q a b R0 R1) : RowsAt H' q a b R0 R1 :=
  ⟨k.tup w h.hq, k _ _ na h.ha, k _ _ nb h.hb, h.ne⟩
/-- each lateness within a road's -/
def Fits (l m : Int) (R : List Lt) : Prop := ∀ x ∈ R, ∀ v, x = some v → l ≤ v ∧ v ≤ m
theorem Fits.nil {l m : Int} : Fits l m [] := fun _ h => absurd h (List.not_mem_nil)
theorem Fits.snoc {l m : Int} {R : List Lt} {x : Lt} (h : Fits l m R) (hx : ∀ v, x = some v → l ≤ v ∧ v ≤ m) : Fits l m (R ++ [x]) := fun y hy => by
  rcases List.mem_append.mp hy with hy | hy
  · exact h y hy
  · rw [List.mem_singleton.mp hy]; exact hx
/-- ints of a written list, the place within -/
theorem at_menu {ns : List Int} {i : Int} (h0 : 0 ≤ i) (h1 : i < ns.length) : ∃ z ∈ ns, atI (ns.map V.int) i = some (.int z) := by
  obtain ⟨j, rfl⟩ := Int.eq_ofNat_of_zero_le h0
  have hj : j < ns.length := by omega
  exact ⟨ns[j], List.getElem_mem hj, atI_nat (by rw [List.getElem?_map, List.getElem?_eq_getElem hj]; rfl)⟩
theorem sz1000 {n : Nat} (h : n ≤ 1000) : n ≤ sizeLine := Nat.le_of_lt (small1000 h)
theorem len2 {α : Type} : ∀ {l : List α}, l.length = 2 → ∃ a b, l = [a, b]
  | [a, b], _ => ⟨a, b, rfl⟩
/-- a lateness as data -/
def oD : Lt → PyData
  | none => .none
  | some i => .int i
theorem dp_o {K : PySem.W.Frag} {H : Hp} : ∀ x : Lt, Dp K H (oV x) (oD x)
  | none => .non
  | some i => .int i
theorem dp_all {K : PySem.W.Frag} {H : Hp} : ∀ xs : List Lt, DpAll K H (xs.map oV) (xs.map oD)
  | [] => .nil
  | x :: xs => .cons (dp_o x) (dp_all xs)
/-- the road at place j -/
def Rds.lo (R : Rds) (j : Nat) : Int := if j = 0 then R.l0 else R.l1
def Rds.hi (R : Rds) (j : Nat) : Int := if j = 0 then R.m0 else R.m1
theorem road_at {H : Hp} {t0 t1 : Addr} {R : Rds} (g2 : H t0 = some (.tup [.int R.l0, .int R.m0])) (g3 : H t1 = some (.tup [.int R.l1, .int R.m1])) {j : Nat} (hj : j < 2) :
    ∃ t : Addr, atI ([.ref t0, .ref t1] : List V) ((0 : Int) + (j : Int)) = some (.ref t) ∧ H t = some (.tup [.int (R.lo j), .int (R.hi j)]) := by
  have hj' : j = 0 ∨ j = 1 := by omega
  rcases hj' with rfl | rfl
  · exact ⟨t0, at0, g2⟩
  · exact ⟨t1, at1, g3⟩
theorem Rds.ok_at {R : Rds} (h : R.Ok) {j : Nat} : 0 ≤ R.lo j ∧ R.lo j ≤ R.hi j ∧ R.hi j ≤ 9 := by
  obtain ⟨h1, h2⟩ := h
  unfold Rds.lo Rds.hi
  by_cases c : j = 0
  · rw [if_pos c, if_pos c]; exact h1
  · rw [if_neg c, if_neg c]; exact h2
/-- the row at place j -/
theorem row_at {K : PySem.W.Frag} {H : Hp} {a b : Addr} {R0 R1 : List Lt} {R : Rds} (ha : SqL K H a (R0.map oV)) (hb : SqL K H b (R1.map oV)) (f0 : Fits R.l0 R.m0 R0) (f1 : Fits R.l1 R.m1 R1) (hl : R0.length = R1.length) {j : Nat} (hj : j < 2) :
    ∃ (c : Addr) (Y : List Lt), atI ([.ref a, .ref b] : List V) ((0 : Int) + (j : Int)) = some (.ref c) ∧ SqL K H c (Y.map oV) ∧ Fits (R.lo j) (R.hi j) Y ∧ Y.length = R0.length := by
  have hj' : j = 0 ∨ j = 1 := by omega
  rcases hj' with rfl | rfl
  · exact ⟨a, R0, at0, ha, f0, rfl⟩
  · exact ⟨b, R1, at1, hb, f1, hl.symm⟩
/-- an item of a row -/
theorem at_row {Y : List Lt} {i : Nat} (hi : i < Y.length) : ∃ x ∈ Y, atI (Y.map oV) ((0 : Int) + (i : Int)) = some (oV x) :=
  ⟨Y[i], List.getElem_mem hi, by rw [Int.zero_add]; exact atI_nat (by rw [List.getElem?_map, List.getElem?_eq_getElem hi]; rfl)⟩
/-- rows of roads, to be read -/
structure Rws (K : PySem.W.Frag) (H : Hp) (q a b : Addr) (R : Rds) (R0 R1 : List Lt) : Prop where
  q : SqT K H q [.ref a, .ref b]
  a : SqL K H a (R0.map oV)
  b : SqL K H b (R1.map oV)
  len : R0.length = R1.length
  most : R0.length ≤ 80
  f0 : Fits R.l0 R.m0 R0
  f1 : Fits R.l1 R.m1 R1
/-! ### _law_late: a lateness of a road -/
def spLate (K : PySem.W.Frag) : Sp := fun vs H Q _ => ∃ (r t : Addr) (l m : Int), vs = [.ref r, .ref t] ∧ RowAt K r H ∧ H t = some (.tup [.int l, .int m]) ∧ l ≤ m ∧
  ∀ (v : Int) (H' : Hp), l ≤ v → v ≤ m → RowAt K r H' → Kp r H H' → Q (.int v) H'
section
variable {P : Program} {w : World} {K : PySem.W.Frag} {mg : Str → Option Value} {base : Heap}
theorem ok_Llate (T : Txt K mg) : FnOk P w K mg base CX0 2 T.f_Llate T.fd_Llate P_Llate (spLate K) := by
  refine T.F_Llate.ok sc_Llate (fun vs H Q E h => ?_) (fun cdv A outer s H vs Q E hr h => ?_)
  · obtain ⟨r, t, l, m, rfl, _⟩ := h
    rfl
  · obtain ⟨r, t, l, m, rfl, hrow, hT, hlm, k⟩ := h
    refine ⟨_, ((pss_cons (ps_asg (pv 1) (pg_tup rfl (pgs_cons (pg_name (i := 2) sc_Llate.nd rfl (Or.inl rfl)) (pgs_cons (pg_name (i := 3) sc_Llate.nd rfl (Or.inl rfl)) pgs_nil))))
  (pss_one (ps_ret (pe_ix ix_list (pe_lst (pa_cons (pv 2) (pa_cons (pv 3) (pa_cons (pe_op op_add (pv 2) (pe_call (ok_Ltaken T) (hr.mono (by decide)) (by rfl) T.mg_Ltaken T.kp_Ltaken T.b_Ltaken .nil pass0 (pa_cons (pv 0) (pa_cons (pe_op op_add (pe_op op_sub (pv 3) (pv 2)) pe_int) pa_nil)))) pa_nil)))) (pe_call (ok_Ltaken T) (hr.mono (by decide)) (by rfl) T.mg_Ltaken T.kp_Ltaken T.b_Ltaken .nil pass0 (pa_cons (pv 0) (pa_cons pe_int pa_nil))) (fun _ _ => rfl)))))), ?_⟩
    refine ⟨_, rfl, t, _, rfl, SqT.of hT, rfl, _, _, rfl, _, _, rfl, rfl, ?_⟩
    refine ⟨_, rfl, _, rfl, _, rfl, _, rfl, _, rfl, _, rfl, _, _, rfl, rfl, _, _, rfl, rfl, r, _, rfl, by omega, hrow, fun v H1 v0 v1 row1 k1 => ?_⟩
    refine ⟨_, _, rfl, rfl, by show 3 ≤ sizeLine; decide, fun p hp => ?_⟩
    refine ⟨_, rfl, r, _, rfl, by decide, row1.new hp, fun i H2 i0 i1 row2 k2 => ?_⟩
    have hpr : p ≠ r := row1.ne hp
    have hz : ∃ z ∈ [l, m, l + v], atI ([l, m, l + v].map V.int) i = some (.int z) := at_menu i0 i1
    obtain ⟨z, hmem, hz⟩ := hz
    have hzr : l ≤ z ∧ z ≤ m := by
      simp only [List.mem_cons, List.not_mem_nil, or_false] at hmem
      rcases hmem with h | h | h <;> omega
    refine ⟨p, _, i, _, rfl, rfl, SqL.of (k2 _ _ hpr upd_same), hz, ?_⟩
    exact k z H2 hzr.1 hzr.2 row2 ((k1.new hp).trans k2)
end
/-! ### _law_roads: two roads -/
def spRoads (K : PySem.W.Frag) : Sp := fun vs H Q _ => ∃ (r : Addr), vs = [.ref r] ∧ RowAt K r H ∧
  ∀ (p : Addr) (R : Rds) (H' : Hp), RoadsAt H' p R → R.Ok → H p = none → RowAt K r H' → Kp r H H' → Q (.ref p) H'
section
variable {P : Program} {w : World} {K : PySem.W.Frag} {mg : Str → Option Value} {base : Heap}
theorem ok_Lroads (T : Txt K mg) : FnOk P w K mg base CX0 2 T.f_Lroads T.fd_Lroads P_Lroads (spRoads K) := by
  refine T.F_Lroads.ok sc_Lroads (fun vs H Q E h => ?_) (fun cdv A outer s H vs Q E hr h => ?_)
  · obtain ⟨r, rfl, _⟩ := h
    rfl
  · obtain ⟨r, rfl, hrow, k⟩ := h
    refine ⟨_, ((pss_cons (ps_set (i := 1) sc_Lroads.nd rfl (Or.inl rfl) (pe_lst pa_nil))
  (pss_cons (ps_for PassesOwn.never rfl (pi_range1 (by rfl) T.z_range (pa_cons pe_int pa_nil)) (pg_name (i := 2) sc_Lroads.nd rfl (Or.inl rfl))
  (pss_cons (ps_set (i := 3) sc_Lroads.nd rfl (Or.inl rfl) (pe_call (ok_Ltaken T) (hr.mono (by decide)) (by rfl) T.mg_Ltaken T.kp_Ltaken T.b_Ltaken .nil pass0 (pa_cons (pv 0) (pa_cons (pe_ix ix_list (pe_lst (pa_cons pe_int (pa_cons pe_int pa_nil))) (pe_call (ok_Ltaken T) (hr.mono (by decide)) (by rfl) T.mg_Ltaken T.kp_Ltaken T.b_Ltaken .nil pass0 (pa_cons (pv 0) (pa_cons pe_int pa_nil))) (fun _ _ => rfl)) pa_nil))))
  (pss_one (ps_expr (pe_bm PySem.F.plainAttrs_list PySem.F.slot_list_append PySem.F.type_list_append mt_append (pv 1) (pa_cons (pe_tup (pa_cons (pv 3) (pa_cons (pe_callB (call_min2 rfl) (by rfl) T.z_min (by decide +kernel) (pa_cons pe_int (pa_cons (pe_op op_add (pv 3) (pe_ix ix_list (pe_lst (pa_cons pe_int (pa_cons (pe_call (ok_Ltaken T) (hr.mono (by decide)) (by rfl) T.mg_Ltaken T.kp_Ltaken T.b_Ltaken .nil pass0 (pa_cons (pv 0) (pa_cons pe_int pa_nil))) (pa_cons (pe_call (ok_Ltaken T) (hr.mono (by decide)) (by rfl) T.mg_Ltaken T.kp_Ltaken T.b_Ltaken .nil pass0 (pa_cons (pv 0) (pa_cons pe_int pa_nil))) pa_nil)))) (pe_call (ok_Ltaken T) (hr.mono (by decide)) (by rfl) T.mg_Ltaken T.kp_Ltaken T.b_Ltaken .nil pass0 (pa_cons (pv 0) (pa_cons pe_int pa_nil))) (fun _ _ => rfl))) pa_nil))) pa_nil))) pa_nil))))))
  (pss_one (ps_ret (pe_tup (pa_cons (pe_ix ix_list (pv 1) pe_int (fun _ _ => rfl)) (pa_cons (pe_ix ix_list (pv 1) pe_int (fun _ _ => rfl)) pa_nil)))))))), ?_⟩
    -- found = []
    refine ⟨by show 0 ≤ sizeLine; decide, fun f hf => ?_⟩
    have hfr : f ≠ r := hrow.ne hf
    have row0 := hrow.new (o := .lst []) hf
    have kp0 : Kp r H (upd H f (.lst [])) := (Kp.refl r H).new hf
    -- for road in range(2)
    refine ⟨_, rfl, by decide, by decide, for_range (n := 2) (fun i σ H' => ∃ (v2 v3 : Option V) (ts : List (Addr × Int × Int)), σ = [some (.ref r), some (.ref f), v2, v3] ∧ ts.length = i ∧
      H' f = some (.lst (ts.map fun t => V.ref t.1)) ∧ (∀ t ∈ ts, H' t.1 = some (.tup [.int t.2.1, .int t.2.2]) ∧ 0 ≤ t.2.1 ∧ t.2.1 ≤ t.2.2 ∧ t.2.2 ≤ 9) ∧ RowAt K r H' ∧ Kp r H H')
      ⟨none, none, [], rfl, rfl, upd_same, fun t ht => absurd ht List.not_mem_nil, row0, kp0⟩ ?_ ?_⟩
    · rintro i σ H1 hi ⟨v2, v3, ts, rfl, hl, hf1, hts, row1, k1⟩
      -- least = taken(row, [3, 10][taken(row, 2)])
      refine ⟨_, rfl, by show 2 ≤ sizeLine; decide, fun p hp => ?_⟩
      refine ⟨_, rfl, r, _, rfl, by decide, row1.new hp, fun j H2 j0 j1 row2 k2 => ?_⟩
      have hpr : p ≠ r := row1.ne hp
      have hz : ∃ z ∈ [(3 : Int), 10], atI ([(3 : Int), 10].map V.int) j = some (.int z) := at_menu j0 j1
      obtain ⟨z, hmem, hz⟩ := hz
      have hz3 : 3 ≤ z ∧ z ≤ 10 := by
        simp only [List.mem_cons, List.not_mem_nil, or_false] at hmem
        rcases hmem with h | h <;> omega
      refine ⟨p, _, j, _, rfl, rfl, SqL.of (k2 _ _ hpr upd_same), hz, ?_⟩
      refine ⟨r, _, rfl, by omega, row2, fun l H3 l0 l1 row3 k3 => ?_⟩
      have kk : Kp r H1 H3 := ((Kp.refl r H1).new hp).trans (k2.trans k3)
      -- found.append((least, min(9, least + [0, taken(row, 3), taken(row, 10)][taken(row, 3)])))
      have hf3 := kk _ _ hfr hf1
      refine ⟨_, rfl, .inl ⟨rfl, _, SqL.of hf3⟩, ?_⟩
      refine ⟨_, rfl, _, rfl, _, rfl, r, _, rfl, by decide, row3, fun x H4 x0 x1 row4 k4 => ?_⟩
      refine ⟨_, rfl, r, _, rfl, by decide, row4, fun y H5 y0 y1 row5 k5 => ?_⟩
      refine ⟨by show 3 ≤ sizeLine; decide, fun p2 hp2 => ?_⟩
      refine ⟨_, rfl, r, _, rfl, by decide, row5.new hp2, fun j2 H6 j20 j21 row6 k6 => ?_⟩
      have hp2r : p2 ≠ r := row5.ne hp2
      have hz2 : ∃ z ∈ [(0 : Int), x, y], atI ([(0 : Int), x, y].map V.int) j2 = some (.int z) := at_menu j20 j21
      obtain ⟨z2, hmem2, hz2⟩ := hz2
      have hz2r : 0 ≤ z2 := by
        simp only [List.mem_cons, List.not_mem_nil, or_false] at hmem2
        rcases hmem2 with h | h | h <;> omega
      refine ⟨p2, _, j2, _, rfl, rfl, SqL.of (k6 _ _ hp2r upd_same), hz2, ?_⟩
      refine ⟨_, _, rfl, rfl, _, _, rfl, ?_⟩
      refine ⟨by show 2 ≤ sizeLine; decide, fun t ht => ?_⟩
      have k36 : Kp r H3 H6 := k4.trans (k5.trans (((Kp.refl r H5).new hp2).trans k6))
      have htr : t ≠ r := row6.ne ht
      have hf6 := k36 _ _ hfr hf3
      have hft : f ≠ t := ne_of_none hf6 ht
      have row7 := row6.new (o := .tup [.int l, .int (if l + z2 < 9 then l + z2 else 9)]) ht
      refine ⟨f, _, _, rfl, rfl, by rw [upd_ne hft]; exact hf6, small1000 (by rw [List.length_map]; omega), ?_⟩
      have old : ∀ b o, b ≠ r → b ≠ f → H1 b = some o → (upd (upd H6 t (.tup [.int l, .int (if l + z2 < 9 then l + z2 else 9)])) f (.lst (ts.map (fun t => V.ref t.1) ++ [.ref t]))) b = some o := fun b o br bf hb => by
        rw [upd_ne bf]
        exact ((kk.trans k36).new ht) b o br hb
      refine ⟨_, _, ts ++ [(t, l, if l + z2 < 9 then l + z2 else 9)], rfl, by rw [List.length_append, hl]; rfl, by rw [upd_same, List.map_append]; rfl, fun u hu => ?_, ?_, ?_⟩
      · rcases List.mem_append.mp hu with hu | hu
        · obtain ⟨e1, e2⟩ := hts u hu
          exact ⟨old _ _ (tup_ne e1 row1.lst.choose_spec) (tup_ne e1 hf1) e1, e2⟩
        · rw [List.mem_singleton.mp hu]
          refine ⟨by rw [upd_ne hft.symm]; exact upd_same, l0, ?_, ?_⟩
          · show l ≤ if l + z2 < 9 then l + z2 else 9
            split <;> omega
          · show (if l + z2 < 9 then l + z2 else 9) ≤ 9
            split <;> omega
      · exact row7.put hfr (by rw [upd_ne hft]; exact hf6)
      · exact (k1.trans ((kk.trans k36).new ht)).mut hf
    · -- return (found[0], found[1])
      rintro σ H1 ⟨v2, v3, ts, rfl, hl, hf1, hts, row1, k1⟩
      obtain ⟨t0, t1, rfl⟩ := len2 hl
      obtain ⟨a1, a2, a3, a4⟩ := hts t0 (by simp)
      obtain ⟨b1, b2, b3, b4⟩ := hts t1 (by simp)
      refine ⟨_, rfl, f, _, _, _, rfl, rfl, SqL.of hf1, at0, _, rfl, f, _, _, _, rfl, rfl, SqL.of hf1, at1, by show 2 ≤ sizeLine; decide, fun p hp => ?_⟩
      have hpH : H p = none := by
        cases e : H p with
        | none => rfl
        | some o =>
          have n : p ≠ r := row1.ne hp
          rw [k1 p o n e] at hp; cases hp
      exact k p ⟨t0.2.1, t0.2.2, t1.2.1, t1.2.2⟩ _ ⟨t0.1, t1.1, upd_same, by rw [upd_ne (ne_of_none a1 hp)]; exact a1, by rw [upd_ne (ne_of_none b1 hp)]; exact b1⟩ ⟨⟨a2, a3, a4⟩, ⟨b2, b3, b4⟩⟩ hpH (row1.new hp) (k1.new hp)
end
/-! ### _law_rows: rows that the roads can do -/
def spRows (K : PySem.W.Frag) : Sp := fun vs H Q _ => ∃ (r p : Addr) (R : Rds) (most : Int) (one : Bool), vs = [.ref r, .ref p, .int most, .bl one] ∧ RowAt K r H ∧ RoadsAt H p R ∧ R.Ok ∧ 0 ≤ most ∧ most ≤ 80 ∧
  ∀ (q a b : Addr) (R0 R1 : List Lt) (H' : Hp), RowsAt H' q a b R0 R1 → R0.length = R1.length → (R0.length : Int) ≤ most → Fits R.l0 R.m0 R0 → Fits R.l1 R.m1 R1 →
    (one = true → ∀ k : Nat, R0[k]? = some none → R1[k]? = some none → False) → H q = none → H a = none → H b = none → RowAt K r H' → Kp r H H' → Q (.ref q) H'
/-- what stands through the loop: the found rows at q (a, b), the downs at d, the steady ones at s -/
structure RwI (K : PySem.W.Frag) (r : Addr) (H0 : Hp) (p : Addr) (R : Rds) (q a b d s : Addr) (s0 s1 : Int) (H : Hp) (R0 R1 : List Lt) (d0 d1 : Int) : Prop where
  row : RowAt K r H
  kp : Kp r H0 H
  rd : RoadsAt H p R
  hq : H q = some (.tup [.ref a, .ref b])
  ha : H a = some (.lst (R0.map oV))
  hb : H b = some (.lst (R1.map oV))
  hd : H d = some (.lst [.int d0, .int d1])
  hs : H s = some (.lst [.int s0, .int s1])
  nd0 : 0 ≤ d0
  nd1 : 0 ≤ d1
structure RwS (r : Addr) (H0 : Hp) (a b d s : Addr) : Prop where
  ar : a ≠ r
  br : b ≠ r
  dr : d ≠ r
  sr : s ≠ r
  ab : a ≠ b
  ad : a ≠ d
  as : a ≠ s
  bd : b ≠ d
  bs : b ≠ s
  ds : d ≠ s
  fa : H0 a = none
  fb : H0 b = none
  fd : H0 d = none
section
variable {K : PySem.W.Frag} {r : Addr} {H0 : Hp} {p : Addr} {R : Rds} {q a b d s : Addr} {s0 s1 : Int} {H H' : Hp} {R0 R1 : List Lt} {d0 d1 : Int}
theorem RwI.go (S : RwS r H0 a b d s) (I : RwI K r H0 p R q a b d s s0 s1 H R0 R1 d0 d1) (w : RowAt K r H') (k : Kp r H H') : RwI K r H0 p R q a b d s s0 s1 H' R0 R1 d0 d1 :=
  ⟨w, I.kp.trans k, k.roads I.row I.rd, k.tup I.row I.hq, k _ _ S.ar I.ha, k _ _ S.br I.hb, k _ _ S.dr I.hd, k _ _ S.sr I.hs, I.nd0, I.nd1⟩
theorem RwI.new {x : Addr} {o : HO} (S : RwS r H0 a b d s) (I : RwI K r H0 p R q a b d s s0 s1 H R0 R1 d0 d1) (hx : H x = none) : RwI K r H0 p R q a b d s s0 s1 (upd H x o) R0 R1 d0 d1 :=
  I.go S (I.row.new hx) ((Kp.refl r H).new hx)
/-- a list made in this turn is changed -/
theorem RwI.put {x : Addr} {xs : List V} {o : HO} (S : RwS r H0 a b d s) (I : RwI K r H0 p R q a b d s s0 s1 H R0 R1 d0 d1) (hx : H x = some (.lst xs)) (h0 : H0 x = none) (xr : x ≠ r) (xa : x ≠ a) (xb : x ≠ b) (xd : x ≠ d) (xs' : x ≠ s) :
    RwI K r H0 p R q a b d s s0 s1 (upd H x o) R0 R1 d0 d1 := by
  obtain ⟨t0, t1, h1, h2, h3⟩ := I.rd
  exact ⟨I.row.put xr hx, I.kp.mut h0, ⟨t0, t1, by rw [upd_ne (tup_ne h1 hx)]; exact h1, by rw [upd_ne (tup_ne h2 hx)]; exact h2, by rw [upd_ne (tup_ne h3 hx)]; exact h3⟩,
    by rw [upd_ne (tup_ne I.hq hx)]; exact I.hq, by rw [upd_ne xa.symm]; exact I.ha, by rw [upd_ne xb.symm]; exact I.hb, by rw [upd_ne xd.symm]; exact I.hd, by rw [upd_ne xs'.symm]; exact I.hs, I.nd0, I.nd1⟩
theorem RwI.setd {e0 e1 : Int} (S : RwS r H0 a b d s) (I : RwI K r H0 p R q a b d s s0 s1 H R0 R1 d0 d1) (h0 : 0 ≤ e0) (h1 : 0 ≤ e1) : RwI K r H0 p R q a b d s s0 s1 (upd H d (.lst [.int e0, .int e1])) R0 R1 e0 e1 := by
  obtain ⟨t0, t1, g1, g2, g3⟩ := I.rd
  exact ⟨I.row.put S.dr I.hd, I.kp.mut S.fd, ⟨t0, t1, by rw [upd_ne (tup_ne g1 I.hd)]; exact g1, by rw [upd_ne (tup_ne g2 I.hd)]; exact g2, by rw [upd_ne (tup_ne g3 I.hd)]; exact g3⟩,
    by rw [upd_ne (tup_ne I.hq I.hd)]; exact I.hq, by rw [upd_ne S.ad]; exact I.ha, by rw [upd_ne S.bd]; exact I.hb, upd_same, by rw [upd_ne S.ds.symm]; exact I.hs, h0, h1⟩
theorem RwI.seta {Y : List Lt} (S : RwS r H0 a b d s) (I : RwI K r H0 p R q a b d s s0 s1 H R0 R1 d0 d1) : RwI K r H0 p R q a b d s s0 s1 (upd H a (.lst (Y.map oV))) Y R1 d0 d1 := by
  obtain ⟨t0, t1, g1, g2, g3⟩ := I.rd
  exact ⟨I.row.put S.ar I.ha, I.kp.mut S.fa, ⟨t0, t1, by rw [upd_ne (tup_ne g1 I.ha)]; exact g1, by rw [upd_ne (tup_ne g2 I.ha)]; exact g2, by rw [upd_ne (tup_ne g3 I.ha)]; exact g3⟩,
    by rw [upd_ne (tup_ne I.hq I.ha)]; exact I.hq, upd_same, by rw [upd_ne S.ab.symm]; exact I.hb, by rw [upd_ne S.ad.symm]; exact I.hd, by rw [upd_ne S.as.symm]; exact I.hs, I.nd0, I.nd1⟩
theorem RwI.setb {Y : List Lt} (S : RwS r H0 a b d s) (I : RwI K r H0 p R q a b d s s0 s1 H R0 R1 d0 d1) : RwI K r H0 p R q a b d s s0 s1 (upd H b (.lst (Y.map oV))) R0 Y d0 d1 := by
  obtain ⟨t0, t1, g1, g2, g3⟩ := I.rd
  exact ⟨I.row.put S.br I.hb, I.kp.mut S.fb, ⟨t0, t1, by rw [upd_ne (tup_ne g1 I.hb)]; exact g1, by rw [upd_ne (tup_ne g2 I.hb)]; exact g2, by rw [upd_ne (tup_ne g3 I.hb)]; exact g3⟩,
    by rw [upd_ne (tup_ne I.hq I.hb)]; exact I.hq, by rw [upd_ne S.ab]; exact I.ha, upd_same, by rw [upd_ne S.bd.symm]; exact I.hd, by rw [upd_ne S.bs.symm]; exact I.hs, I.nd0, I.nd1⟩
/-- the road j's tuple, steady lateness and down -/
theorem RwI.road (I : RwI K r H0 p R q a b d s s0 s1 H R0 R1 d0 d1) {j : Nat} (hj : j < 2) : ∃ (t tj : Addr) (u : Addr) (l m dj sj : Int), H p = some (.tup [.ref t, .ref u]) ∧ atI ([.ref t, .ref u] : List V) (j : Int) = some (.ref tj) ∧ H tj = some (.tup [.int l, .int m]) ∧
    atI ([.int d0, .int d1] : List V) (j : Int) = some (.int dj) ∧ 0 ≤ dj ∧ atI ([.int s0, .int s1] : List V) (j : Int) = some (.int sj) ∧ ((j = 0 ∧ l = R.l0 ∧ m = R.m0 ∧ sj = s0 ∧ dj = d0) ∨ (j = 1 ∧ l = R.l1 ∧ m = R.m1 ∧ sj = s1 ∧ dj = d1)) := by
  obtain ⟨t0, t1, h1, h2, h3⟩ := I.rd
  have hj' : j = 0 ∨ j = 1 := by omega
  rcases hj' with rfl | rfl
  · exact ⟨t0, t0, t1, _, _, d0, s0, h1, at0, h2, at0, I.nd0, at0, .inl ⟨rfl, rfl, rfl, rfl, rfl⟩⟩
  · exact ⟨t0, t1, t1, _, _, d1, s1, h1, at1, h3, at1, I.nd1, at1, .inr ⟨rfl, rfl, rfl, rfl, rfl⟩⟩
end
/-- the steady ones and the roads -/
structure RwF (R : Rds) (s0 s1 : Int) : Prop where
  s0 : R.l0 ≤ s0 ∧ s0 ≤ R.m0
  s1 : R.l1 ≤ s1 ∧ s1 ≤ R.m1
  r0 : R.l0 ≤ R.m0
  r1 : R.l1 ≤ R.m1
section
variable {P : Program} {w : World} {K : PySem.W.Frag} {mg : Str → Option Value} {base : Heap}
theorem ok_Lrows (T : Txt K mg) : FnOk P w K mg base CX0 3 T.f_Lrows T.fd_Lrows P_Lrows (spRows K) := by
  refine T.F_Lrows.ok sc_Lrows (fun vs H Q E h => ?_) (fun cdv A outer s H vs Q E hr h => ?_)
  · obtain ⟨r, p, R, most, one, rfl, _⟩ := h
    rfl
  · obtain ⟨r, p, R, most, one, rfl, hrow, hrd, hR, hm0, hm1, k⟩ := h
    refine ⟨_, ((pss_cons (ps_set (i := 4) sc_Lrows.nd rfl (Or.inl rfl) (pe_call (ok_Ltaken T) (hr.mono (by decide)) (by rfl) T.mg_Ltaken T.kp_Ltaken T.b_Ltaken .nil pass0 (pa_cons (pv 0) (pa_cons (pe_op op_add (pv 2) pe_int) pa_nil))))
  (pss_cons (ps_set (i := 5) sc_Lrows.nd rfl (Or.inl rfl) (pe_ix ix_list (pe_lst (pa_cons pe_int (pa_cons pe_int (pa_cons pe_int pa_nil)))) (pe_call (ok_Ltaken T) (hr.mono (by decide)) (by rfl) T.mg_Ltaken T.kp_Ltaken T.b_Ltaken .nil pass0 (pa_cons (pv 0) (pa_cons pe_int pa_nil))) (fun _ _ => rfl)))
  (pss_cons (ps_set (i := 6) sc_Lrows.nd rfl (Or.inl rfl) (pe_tup (pa_cons (pe_lst pa_nil) (pa_cons (pe_lst pa_nil) pa_nil))))
  (pss_cons (ps_set (i := 7) sc_Lrows.nd rfl (Or.inl rfl) (pe_lst (pa_cons pe_int (pa_cons pe_int pa_nil))))
  (pss_cons (ps_set (i := 8) sc_Lrows.nd rfl (Or.inl rfl) (pe_lst (pa_cons (pe_call (ok_Llate T) (hr.mono (by decide)) (by rfl) T.mg_Llate T.kp_Llate T.b_Llate .nil pass0 (pa_cons (pv 0) (pa_cons (pe_ix ix_tup (pv 1) pe_int (fun _ _ => rfl)) pa_nil))) (pa_cons (pe_call (ok_Llate T) (hr.mono (by decide)) (by rfl) T.mg_Llate T.kp_Llate T.b_Llate .nil pass0 (pa_cons (pv 0) (pa_cons (pe_ix ix_tup (pv 1) pe_int (fun _ _ => rfl)) pa_nil))) pa_nil))))
  (pss_cons (ps_set (i := 9) sc_Lrows.nd rfl (Or.inl rfl) (pe_call (ok_Ltaken T) (hr.mono (by decide)) (by rfl) T.mg_Ltaken T.kp_Ltaken T.b_Ltaken .nil pass0 (pa_cons (pv 0) (pa_cons pe_int pa_nil))))
  (pss_cons (ps_for PassesOwn.never rfl (pi_range1 (by rfl) T.z_range (pa_cons (pv 4) pa_nil)) (pg_name (i := 10) sc_Lrows.nd rfl (Or.inl rfl))
  (pss_cons (ps_set (i := 11) sc_Lrows.nd rfl (Or.inl rfl) (pe_lst pa_nil))
  (pss_cons (ps_for PassesOwn.never rfl (pi_range1 (by rfl) T.z_range (pa_cons pe_int pa_nil)) (pg_name (i := 12) sc_Lrows.nd rfl (Or.inl rfl))
  (Evl.pss_cut (ps_if (PW.pt (pw_and (pt_cmpR op_eq (pe_ix ix_list (pv 7) (pv 12) (fun _ _ => rfl)) pe_int (nomark _)) (pw_and1 (pt_cmpR op_eq (pe_call (ok_Ltaken T) (hr.mono (by decide)) (by rfl) T.mg_Ltaken T.kp_Ltaken T.b_Ltaken .nil pass0 (pa_cons (pv 0) (pa_cons pe_int pa_nil))) pe_int (nomark _))))) (pss_one (ps_asg (pe_op op_add pe_int (pe_call (ok_Ltaken T) (hr.mono (by decide)) (by rfl) T.mg_Ltaken T.kp_Ltaken T.b_Ltaken .nil pass0 (pa_cons (pv 0) (pa_cons pe_int pa_nil)))) (pg_sub (pv 7) (pv 12) set_list))) pss_nil)
  (Evl.pss_cut (ps_set (i := 13) sc_Lrows.nd rfl (Or.inl rfl) (pe_ifExp (pt_cmpR op_eq (pv 9) pe_int (nomark _)) (pe_call (ok_Llate T) (hr.mono (by decide)) (by rfl) T.mg_Llate T.kp_Llate T.b_Llate .nil pass0 (pa_cons (pv 0) (pa_cons (pe_ix ix_tup (pv 1) (pv 12) (fun _ _ => rfl)) pa_nil))) (pe_ix ix_list (pv 8) (pv 12) (fun _ _ => rfl))))
  (Evl.pss_cut (ps_expr (pe_bm PySem.F.plainAttrs_list PySem.F.slot_list_append PySem.F.type_list_append mt_append (pv 11) (pa_cons (pe_ifExp (PW.pt (pw_or (pt_cmpR op_gt (pe_ix ix_list (pv 7) (pv 12) (fun _ _ => rfl)) pe_int (nomark _)) (pw_or1 (pt_cmpR op_eq (pe_call (ok_Ltaken T) (hr.mono (by decide)) (by rfl) T.mg_Ltaken T.kp_Ltaken T.b_Ltaken .nil pass0 (pa_cons (pv 0) (pa_cons (pv 5) pa_nil))) pe_int (nomark _))))) pe_non (pv 13)) pa_nil)))
  (pss_one (ps_asg (pe_callB (call_max2 rfl) (by rfl) T.z_max (by decide +kernel) (pa_cons pe_int (pa_cons (pe_op op_sub (pe_ix ix_list (pv 7) (pv 12) (fun _ _ => rfl)) pe_int) pa_nil))) (pg_sub (pv 7) (pv 12) set_list)))))))
  (Evl.pss_cut (ps_if (PW.pt (pw_and (pt_val (pv 3)) (pw_and1 (pt_cmpR (op_eqD hr.units) (pv 11) (pe_lst (pa_cons pe_non (pa_cons pe_non pa_nil))) (nomark _))))) (pss_cons (ps_set (i := 12) sc_Lrows.nd rfl (Or.inl rfl) (pe_call (ok_Ltaken T) (hr.mono (by decide)) (by rfl) T.mg_Ltaken T.kp_Ltaken T.b_Ltaken .nil pass0 (pa_cons (pv 0) (pa_cons pe_int pa_nil))))
  (pss_one (ps_asg (pe_call (ok_Llate T) (hr.mono (by decide)) (by rfl) T.mg_Llate T.kp_Llate T.b_Llate .nil pass0 (pa_cons (pv 0) (pa_cons (pe_ix ix_tup (pv 1) (pv 12) (fun _ _ => rfl)) pa_nil))) (pg_sub (pv 11) (pv 12) set_list)))) pss_nil)
  (pss_cons (ps_expr (pe_bm PySem.F.plainAttrs_list PySem.F.slot_list_append PySem.F.type_list_append mt_append (pe_ix ix_tup (pv 6) pe_int (fun _ _ => rfl)) (pa_cons (pe_ix ix_list (pv 11) pe_int (fun _ _ => rfl)) pa_nil)))
  (pss_one (ps_expr (pe_bm PySem.F.plainAttrs_list PySem.F.slot_list_append PySem.F.type_list_append mt_append (pe_ix ix_tup (pv 6) pe_int (fun _ _ => rfl)) (pa_cons (pe_ix ix_list (pv 11) pe_int (fun _ _ => rfl)) pa_nil)))))))))
  (pss_one (ps_ret (pv 6))))))))))), ?_⟩
    obtain ⟨⟨q1, q2, q3⟩, q4, q5, q6⟩ := id hR
    -- many
    refine ⟨_, rfl, _, rfl, _, _, rfl, rfl, r, _, rfl, by omega, hrow, fun many H1 many0 many1 row1 k1 => ?_⟩
    -- often
    refine ⟨by show 3 ≤ sizeLine; decide, fun p2 hp2 => ?_⟩
    refine ⟨_, rfl, r, _, rfl, by decide, row1.new hp2, fun i H2 i0 i1 row2 k2 => ?_⟩
    have hz : ∃ z ∈ [(2 : Int), 6, 100], atI ([(2 : Int), 6, 100].map V.int) i = some (.int z) := at_menu i0 i1
    obtain ⟨often, hmem, hz⟩ := hz
    have often0 : 0 < often := by
      simp only [List.mem_cons, List.not_mem_nil, or_false] at hmem
      rcases hmem with h | h | h <;> omega
    refine ⟨p2, _, i, _, rfl, rfl, SqL.of (k2 _ _ (row1.ne hp2) upd_same), hz, ?_⟩
    have k02 : Kp r H H2 := (k1.new hp2).trans k2
    -- found, down
    refine ⟨by show 0 ≤ sizeLine; decide, fun a ha => ?_⟩
    refine ⟨by show 0 ≤ sizeLine; decide, fun b hb => ?_⟩
    refine ⟨by show 2 ≤ sizeLine; decide, fun q hq => ?_⟩
    refine ⟨by show 2 ≤ sizeLine; decide, fun d hd => ?_⟩
    have ra := row2.new (o := .lst []) ha
    have rb := ra.new (o := .lst []) hb
    have rq := rb.new (o := .tup [.ref a, .ref b]) hq
    have rdd := rq.new (o := .lst [.int 0, .int 0]) hd
    have ar := row2.ne ha
    have br := ra.ne hb
    have qr := rb.ne hq
    have dr := rq.ne hd
    have k03 : Kp r H (upd (upd (upd (upd H2 a (.lst [])) b (.lst [])) q (.tup [.ref a, .ref b])) d (.lst [.int 0, .int 0])) := (((k02.new ha).new hb).new hq).new hd
    have ab : a ≠ b := ne_of_none (o := .lst []) upd_same hb
    have aq : a ≠ q := ne_of_none (H := upd (upd H2 a (.lst [])) b (.lst [])) (o := .lst []) (by rw [upd_ne ab]; exact upd_same) hq
    have bq : b ≠ q := ne_of_none (o := .lst []) upd_same hq
    have ga : (upd (upd (upd H2 a (.lst [])) b (.lst [])) q (.tup [.ref a, .ref b])) a = some (.lst []) := by rw [upd_ne aq, upd_ne ab]; exact upd_same
    have gb : (upd (upd (upd H2 a (.lst [])) b (.lst [])) q (.tup [.ref a, .ref b])) b = some (.lst []) := by rw [upd_ne bq]; exact upd_same
    have gq : (upd (upd (upd H2 a (.lst [])) b (.lst [])) q (.tup [.ref a, .ref b])) q = some (.tup [.ref a, .ref b]) := upd_same
    have ad := ne_of_none ga hd
    have bd := ne_of_none gb hd
    have qd := ne_of_none gq hd
    have ga3 := (Eq.trans (upd_ne (o := .lst [.int 0, .int 0]) ad) ga)
    have gb3 := (Eq.trans (upd_ne (o := .lst [.int 0, .int 0]) bd) gb)
    have gq3 := (Eq.trans (upd_ne (o := .lst [.int 0, .int 0]) qd) gq)
    have gd3 : (upd (upd (upd (upd H2 a (.lst [])) b (.lst [])) q (.tup [.ref a, .ref b])) d (.lst [.int 0, .int 0])) d = some (.lst [.int 0, .int 0]) := upd_same
    have fa : H a = none := k02.free ar ha
    have fb : H b = none := (k02.new ha).free br hb
    have fq : H q = none := ((k02.new ha).new hb).free qr hq
    have fd : H d = none := (((k02.new ha).new hb).new hq).free dr hd
    revert rdd k03 ga3 gb3 gq3 gd3
    generalize (upd (upd (upd (upd H2 a (.lst [])) b (.lst [])) q (.tup [.ref a, .ref b])) d (.lst [.int 0, .int 0])) = H3
    intro rdd k03 ga3 gb3 gq3 gd3
    have rd3 := k03.roads hrow hrd
    obtain ⟨t0, t1, g1, g2, g3⟩ := id rd3
    -- steady
    refine ⟨_, rfl, _, rfl, p, _, _, _, rfl, rfl, SqT.of g1, at0, r, t0, _, _, rfl, rdd, g2, q2, fun s0 H4 s00 s01 row4 k4 => ?_⟩
    have g1' := k4.tup rdd g1
    have g3' := k4.tup rdd g3
    refine ⟨_, rfl, _, rfl, p, _, _, _, rfl, rfl, SqT.of g1', at1, r, t1, _, _, rfl, row4, g3', q5, fun s1 H5 s10 s11 row5 k5 => ?_⟩
    refine ⟨by show 2 ≤ sizeLine; decide, fun st hst => ?_⟩
    have k35 := k4.trans k5
    have str := row5.ne hst
    have h6 : ∀ x o, x ≠ r → H3 x = some o → (upd H5 st (.lst [.int s0, .int s1])) x = some o := (k35.new hst)
    have nst : ∀ x o, x ≠ r → H3 x = some o → x ≠ st := fun x o n e => ne_of_none (k35 x o n e) hst
    -- loose
    refine ⟨_, rfl, r, _, rfl, by decide, row5.new hst, fun loose H7 lo0 lo1 row7 k7 => ?_⟩
    have k37 : Kp r H3 H7 := (k35.new hst).trans k7
    have S : RwS r H a b d st := ⟨ar, br, dr, str, ab, ad, nst _ _ ar ga3, bd, nst _ _ br gb3, nst _ _ dr gd3, fa, fb, fd⟩
    have FF : RwF R s0 s1 := ⟨⟨s00, s01⟩, ⟨s10, s11⟩, q2, q5⟩
    have I0 : RwI K r H p R q a b d st s0 s1 H7 [] [] 0 0 := ⟨row7, k03.trans k37, k37.roads rdd rd3, k37.tup rdd gq3, k37 _ _ ar ga3, k37 _ _ br gb3, k37 _ _ dr gd3, k7 _ _ str upd_same, Int.le_refl _, Int.le_refl _⟩
    -- the loop
    refine ⟨_, rfl, many, rfl, by omega, by omega, for_range (n := many.toNat) (fun i σ H' => ∃ (R0 R1 : List Lt) (d0 d1 : Int) (v10 v11 v12 v13 : Option V),
      σ = [some (.ref r), some (.ref p), some (.int most), some (.bl one), some (.int many), some (.int often), some (.ref q), some (.ref d), some (.ref st), some (.int loose), v10, v11, v12, v13] ∧
      R0.length = i ∧ R1.length = i ∧ Fits R.l0 R.m0 R0 ∧ Fits R.l1 R.m1 R1 ∧ (one = true → ∀ k : Nat, R0[k]? = some none → R1[k]? = some none → False) ∧ RwI K r H p R q a b d st s0 s1 H' R0 R1 d0 d1)
      ⟨[], [], 0, 0, none, none, none, none, rfl, rfl, rfl, Fits.nil, Fits.nil, fun _ k h => by simp at h, I0⟩ ?_ ?_⟩
    · rintro i σ H8 hi ⟨R0, R1, d0, d1, v10, v11, v12, v13, rfl, hl0, hl1, f0, f1, hone, I8⟩
      -- lates = []
      refine ⟨by show 0 ≤ sizeLine; decide, fun e he => ?_⟩
      have er := I8.row.ne he
      have fe : H e = none := I8.kp.free er he
      have ea := (ne_of_none I8.ha he).symm
      have eb := (ne_of_none I8.hb he).symm
      have ed := (ne_of_none I8.hd he).symm
      have es := (ne_of_none I8.hs he).symm
      have I9 := I8.new (o := .lst []) S he
      refine ⟨_, rfl, by decide, by decide, for_range (n := 2) (fun j σ H' => ∃ (xs : List Lt) (d0 d1 : Int) (v12 v13 : Option V),
        σ = [some (.ref r), some (.ref p), some (.int most), some (.bl one), some (.int many), some (.int often), some (.ref q), some (.ref d), some (.ref st), some (.int loose), some (.int (0 + i)), some (.ref e), v12, v13] ∧
        xs.length = j ∧ H' e = some (.lst (xs.map oV)) ∧ (∀ v, xs[0]? = some (some v) → R.l0 ≤ v ∧ v ≤ R.m0) ∧ (∀ v, xs[1]? = some (some v) → R.l1 ≤ v ∧ v ≤ R.m1) ∧ RwI K r H p R q a b d st s0 s1 H' R0 R1 d0 d1)
        ⟨[], d0, d1, v12, v13, rfl, rfl, upd_same, fun v h => by simp at h, fun v h => by simp at h, I9⟩ ?_ ?_⟩
      · rintro j σ H10 hj ⟨xs, d0, d1, v12, v13, rfl, hxl, hxe, hx0, hx1, I10⟩
        obtain ⟨t, tj, u, l, m, dj, sj, g1, gt, gtj, gd, dj0, gs, way⟩ := I10.road hj
        have e0 : (0 : Int) + (j : Int) = (j : Int) := Int.zero_add _
        have slm : l ≤ sj ∧ sj ≤ m ∧ l ≤ m := by
          rcases way with ⟨_, rfl, rfl, rfl, _⟩ | ⟨_, rfl, rfl, rfl, _⟩
          · exact ⟨FF.s0.1, FF.s0.2, FF.r0⟩
          · exact ⟨FF.s1.1, FF.s1.2, FF.r1⟩
        show Evl.tCut _ _ _ ([some (.ref r), some (.ref p), some (.int most), some (.bl one), some (.int many), some (.int often), some (.ref q), some (.ref d), some (.ref st), some (.int loose), some (.int (0 + i)), some (.ref e), some (.int (0 + (j : Int))), v13] : L2.St) _
        rw [e0]
        -- if down[road] == 0 and taken(row, 12) == 11: down[road] = 1 + taken(row, 12)
        refine ⟨fun σ' H' => ∃ (d0 d1 : Int), σ' = [some (.ref r), some (.ref p), some (.int most), some (.bl one), some (.int many), some (.int often), some (.ref q), some (.ref d), some (.ref st), some (.int loose), some (.int (0 + i)), some (.ref e), some (.int (j : Int)), v13] ∧
          H' e = some (.lst (xs.map oV)) ∧ RwI K r H p R q a b d st s0 s1 H' R0 R1 d0 d1, ?_, ?_⟩
        · refine ⟨_, rfl, _, rfl, d, _, _, _, rfl, rfl, SqL.of I10.hd, gd, rfl, _, rfl, ?_⟩
          refine ite2 (fun hc => ?_) (fun hc => iteF ⟨d0, d1, rfl, hxe, I10⟩)
          refine ⟨_, rfl, r, _, rfl, by decide, I10.row, fun x H11 x0 x1 row11 k11 => ?_⟩
          have I11 := I10.go S row11 k11
          refine ⟨rfl, _, rfl, ?_⟩
          refine ite2 (fun hc2 => ?_) (fun hc2 => ⟨d0, d1, rfl, k11 _ _ er hxe, I11⟩)
          refine ⟨_, rfl, r, _, rfl, by decide, I11.row, fun y H12 y0 y1 row12 k12 => ?_⟩
          have I12 := I11.go S row12 k12
          refine ⟨_, _, rfl, rfl, _, rfl, _, rfl, d, _, _, j, rfl, rfl, I12.hd, ixN_of rfl hj, ?_⟩
          have hj' : j = 0 ∨ j = 1 := by omega
          have he12 := k12 _ _ er (k11 _ _ er hxe)
          rcases hj' with rfl | rfl
          · exact ⟨1 + y, d1, rfl, by rw [upd_ne ed]; exact he12, I12.setd S (by omega) I12.nd1⟩
          · exact ⟨d0, 1 + y, rfl, by rw [upd_ne ed]; exact he12, I12.setd S I12.nd0 (by omega)⟩
        · rintro σ' H13 ⟨d0, d1, rfl, he13, I13⟩
          obtain ⟨t2, tj2, u2, l', m', dj2, sj', g12, gt2, gtj2, gd2, dj02, gs2, way'⟩ := I13.road hj
          have hlm' : l' = l ∧ m' = m ∧ sj' = sj := by
            rcases way with ⟨w1, w2, w3, w4, _⟩ | ⟨w1, w2, w3, w4, _⟩ <;> rcases way' with ⟨u1, u2, u3, u4, _⟩ | ⟨u1, u2, u3, u4, _⟩ <;> first | omega | exact ⟨by rw [u2, w2], by rw [u3, w3], by rw [u4, w4]⟩
          obtain ⟨rfl, rfl, rfl⟩ := hlm'
          -- late_here
          refine ⟨fun σ' H' => ∃ (x : Int), σ' = [some (.ref r), some (.ref p), some (.int most), some (.bl one), some (.int many), some (.int often), some (.ref q), some (.ref d), some (.ref st), some (.int loose), some (.int (0 + i)), some (.ref e), some (.int (j : Int)), some (.int x)] ∧
            H' e = some (.lst (xs.map oV)) ∧ l' ≤ x ∧ x ≤ m' ∧ RwI K r H p R q a b d st s0 s1 H' R0 R1 d0 d1, ?_, ?_⟩
          · refine ⟨_, rfl, rfl, _, rfl, ?_⟩
            refine ite2 (fun hc => ?_) (fun hc => ?_)
            · refine ⟨_, rfl, _, rfl, _, rfl, p, _, _, _, rfl, rfl, SqT.of g12, gt2, r, tj2, _, _, rfl, I13.row, gtj2, slm.2.2, fun x H14 x0 x1 row14 k14 => ?_⟩
              exact ⟨x, rfl, k14 _ _ er he13, x0, x1, I13.go S row14 k14⟩
            · refine ⟨_, rfl, _, rfl, st, _, _, _, rfl, rfl, SqL.of I13.hs, gs2, ?_⟩
              exact ⟨sj', rfl, he13, slm.1, slm.2.1, I13⟩
          · rintro σ' H14 ⟨x, rfl, he14, x0, x1, I14⟩
            -- lates.append(..)
            refine ⟨fun σ' H' => ∃ (y : Lt), σ' = [some (.ref r), some (.ref p), some (.int most), some (.bl one), some (.int many), some (.int often), some (.ref q), some (.ref d), some (.ref st), some (.int loose), some (.int (0 + i)), some (.ref e), some (.int (j : Int)), some (.int x)] ∧
              H' e = some (.lst ((xs ++ [y]).map oV)) ∧ (∀ v, y = some v → l' ≤ v ∧ v ≤ m') ∧ RwI K r H p R q a b d st s0 s1 H' R0 R1 d0 d1, ?_, ?_⟩
            · have put : ∀ (y : Lt) H', H' e = some (.lst (xs.map oV)) → (∀ v, y = some v → l' ≤ v ∧ v ≤ m') → RwI K r H p R q a b d st s0 s1 H' R0 R1 d0 d1 →
                  ∃ (y' : Lt), ([some (.ref r), some (.ref p), some (.int most), some (.bl one), some (.int many), some (.int often), some (.ref q), some (.ref d), some (.ref st), some (.int loose), some (.int (0 + i)), some (.ref e), some (.int (j : Int)), some (.int x)] : L2.St) = [some (.ref r), some (.ref p), some (.int most), some (.bl one), some (.int many), some (.int often), some (.ref q), some (.ref d), some (.ref st), some (.int loose), some (.int (0 + i)), some (.ref e), some (.int (j : Int)), some (.int x)] ∧
                  (upd H' e (.lst (xs.map oV ++ [oV y]))) e = some (.lst ((xs ++ [y']).map oV)) ∧ (∀ v, y' = some v → l' ≤ v ∧ v ≤ m') ∧ RwI K r H p R q a b d st s0 s1 (upd H' e (.lst (xs.map oV ++ [oV y]))) R0 R1 d0 d1 :=
                fun y H' g hy I => ⟨y, rfl, by rw [upd_same, List.map_append]; rfl, hy, I.put S g fe er ea eb ed es⟩
              have len : (xs.map oV).length < sizeLine := small1000 (by rw [List.length_map]; omega)
              refine ⟨_, rfl, .inl ⟨rfl, _, SqL.of he14⟩, ?_⟩
              refine ⟨_, rfl, _, rfl, d, _, _, _, rfl, rfl, SqL.of I14.hd, gd2, _, _, rfl, rfl, _, rfl, ?_⟩
              refine ite2 (fun hc => ?_) (fun hc => ?_)
              · refine iteT ⟨e, _, _, rfl, rfl, he14, len, put none _ he14 (fun v h => by cases h) I14⟩
              · refine ⟨_, rfl, _, rfl, r, _, rfl, often0, I14.row, fun z H15 z0 z1 row15 k15 => ?_⟩
                have I15 := I14.go S row15 k15
                have he15 := k15 _ _ er he14
                refine ⟨rfl, _, rfl, ?_⟩
                refine ite2 (fun hc2 => ?_) (fun hc2 => ?_)
                · exact ⟨e, _, _, rfl, rfl, he15, len, put none _ he15 (fun v h => by cases h) I15⟩
                · exact ⟨_, rfl, e, _, _, rfl, rfl, he15, len, put (some x) _ he15 (fun v h => by cases h; exact ⟨x0, x1⟩) I15⟩
            · rintro σ' H15 ⟨y, rfl, he15, hy, I15⟩
              -- down[road] = max(0, down[road] - 1)
              refine ⟨_, rfl, _, rfl, d, _, _, _, rfl, rfl, SqL.of I15.hd, gd2, _, _, rfl, rfl, _, _, rfl, _, rfl, _, rfl, d, _, _, j, rfl, rfl, I15.hd, ixN_of rfl hj, ?_⟩
              have g0 : 0 ≤ (if dj2 - 1 > 0 then dj2 - 1 else 0) := by split <;> omega
              have hxs : ∀ (kk : Nat) v, (xs ++ [y])[kk]? = some (some v) → (kk < j ∧ xs[kk]? = some (some v)) ∨ (kk = j ∧ y = some v) := fun kk v h => by
                by_cases hk : kk < xs.length
                · rw [List.getElem?_append_left hk] at h
                  exact .inl ⟨by omega, h⟩
                · rw [List.getElem?_append_right (by omega)] at h
                  have : kk - xs.length = 0 := by
                    cases hz : kk - xs.length with
                    | zero => rfl
                    | succ n => rw [hz] at h; simp at h
                  rw [this] at h
                  exact .inr ⟨by omega, by simpa using h⟩
              have h0 : ∀ v, (xs ++ [y])[0]? = some (some v) → R.l0 ≤ v ∧ v ≤ R.m0 := fun v h => by
                rcases hxs 0 v h with ⟨_, h⟩ | ⟨h1, h2⟩
                · exact hx0 v h
                · rcases way with ⟨w1, w2, w3, _⟩ | ⟨w1, _⟩
                  · rw [← w2, ← w3]; exact hy v h2
                  · omega
              have h1 : ∀ v, (xs ++ [y])[1]? = some (some v) → R.l1 ≤ v ∧ v ≤ R.m1 := fun v h => by
                rcases hxs 1 v h with ⟨_, h⟩ | ⟨h1, h2⟩
                · exact hx1 v h
                · rcases way with ⟨w1, _⟩ | ⟨w1, w2, w3, _⟩
                  · omega
                  · rw [← w2, ← w3]; exact hy v h2
              have hj' : j = 0 ∨ j = 1 := by omega
              rcases hj' with rfl | rfl
              · exact ⟨xs ++ [y], _, d1, _, _, rfl, by rw [List.length_append, hxl]; rfl, by rw [upd_ne ed]; exact he15, h0, h1, I15.setd S g0 I15.nd1⟩
              · exact ⟨xs ++ [y], d0, _, _, _, rfl, by rw [List.length_append, hxl]; rfl, by rw [upd_ne ed]; exact he15, h0, h1, I15.setd S I15.nd0 g0⟩
      · rintro σ H10 ⟨xs, d0, d1, v12, v13, rfl, hxl, hxe, hx0, hx1, I10⟩
        obtain ⟨x, y, rfl⟩ := len2 hxl
        have x0 : ∀ v, x = some v → R.l0 ≤ v ∧ v ≤ R.m0 := fun v h => hx0 v (by rw [h]; rfl)
        have y0 : ∀ v, y = some v → R.l1 ≤ v ∧ v ≤ R.m1 := fun v h => hx1 v (by rw [h]; rfl)
        -- if one and lates == [None, None]: ..
        refine ⟨fun σ' H' => ∃ (x y : Lt) (v12 : Option V), σ' = [some (.ref r), some (.ref p), some (.int most), some (.bl one), some (.int many), some (.int often), some (.ref q), some (.ref d), some (.ref st), some (.int loose), some (.int (0 + i)), some (.ref e), v12, v13] ∧
          H' e = some (.lst [oV x, oV y]) ∧ (∀ v, x = some v → R.l0 ≤ v ∧ v ≤ R.m0) ∧ (∀ v, y = some v → R.l1 ≤ v ∧ v ≤ R.m1) ∧ (one = true → x = none → y = none → False) ∧ RwI K r H p R q a b d st s0 s1 H' R0 R1 d0 d1, ?_, ?_⟩
        · refine ⟨_, rfl, _, rfl, ?_⟩
          refine ite2 (fun hc => ?_) (fun hc => ?_)
          · refine ⟨_, rfl, by show 2 ≤ sizeLine; decide, fun pn hpn => ?_⟩
            have I11 := I10.new (o := .lst [.non, .non]) S hpn
            have he11 : (upd H10 pn (.lst [.non, .non])) e = some (.lst [oV x, oV y]) := by rw [upd_ne (ne_of_none hxe hpn)]; exact hxe
            have hsh : SeqAt.shaped (.list [oD x, oD y]) = true := by cases x <;> cases y <;> rfl
            have hev : PyData.eqv (.list [oD x, oD y]) (.list [.none, .none]) = true → (x = none ∧ y = none) := by cases x <;> cases y <;> first | (intro _; exact ⟨rfl, rfl⟩) | (intro z; exact absurd (show false = true from z) Bool.false_ne_true)
            have hev2 : PyData.eqv (.list [oD x, oD y]) (.list [.none, .none]) = false → ¬ (x = none ∧ y = none) := fun z h => by
              rw [h.1, h.2] at z
              revert z
              decide
            refine ⟨.list [oD x, oD y], .list [.none, .none], .lst (SqL.of he11) (.cons (dp_o x) (.cons (dp_o y) .nil)), .lst (SqL.of upd_same) (.cons .non (.cons .non .nil)), hsh, rfl, _, rfl, ?_⟩
            cases hb : PyData.eqv (.list [oD x, oD y]) (.list [.none, .none]) with
            | false =>
              refine iteF ⟨x, y, v12, rfl, he11, x0, y0, fun _ a b => hev2 hb ⟨a, b⟩, I11⟩
            | true =>
              obtain ⟨rfl, rfl⟩ := hev hb
              refine iteT ?_
              refine ⟨_, rfl, r, _, rfl, by decide, I11.row, fun ji H12 ji0 ji1 row12 k12 => ?_⟩
              have I12 := I11.go S row12 k12
              obtain ⟨j, rfl⟩ := Int.eq_ofNat_of_zero_le ji0
              have hj : j < 2 := by omega
              obtain ⟨t, tj, u, l, m, dj, sj, g1, gt, gtj, gd, dj0, gs, way⟩ := I12.road hj
              have slm : l ≤ m := by
                rcases way with ⟨_, rfl, rfl, _⟩ | ⟨_, rfl, rfl, _⟩
                · exact FF.r0
                · exact FF.r1
              refine ⟨_, rfl, _, rfl, _, rfl, p, _, _, _, rfl, rfl, SqT.of g1, gt, r, tj, _, _, rfl, I12.row, gtj, slm, fun z H13 z0 z1 row13 k13 => ?_⟩
              have I13 := I12.go S row13 k13
              have he13 := k13 _ _ er (k12 _ _ er he11)
              refine ⟨_, rfl, _, rfl, e, _, _, j, rfl, rfl, he13, ixN_of rfl hj, ?_⟩
              have I14 := I13.put (o := .lst ([oV none, oV none].set j (.int z))) S he13 fe er ea eb ed es
              have hj' : j = 0 ∨ j = 1 := by omega
              rcases hj' with rfl | rfl
              · rcases way with ⟨_, rfl, rfl, _⟩ | ⟨w, _⟩
                · exact ⟨some z, none, _, rfl, upd_same, fun v h => (by cases h; exact ⟨z0, z1⟩), y0, fun _ h _ => (by cases h), I14⟩
                · omega
              · rcases way with ⟨w, _⟩ | ⟨_, rfl, rfl, _⟩
                · omega
                · exact ⟨none, some z, _, rfl, upd_same, x0, fun v h => (by cases h; exact ⟨z0, z1⟩), fun _ _ h => (by cases h), I14⟩
          · exact iteF ⟨x, y, v12, rfl, hxe, x0, y0, fun h => absurd h hc, I10⟩
        · rintro σ' H11 ⟨x, y, v12, rfl, he11, x0, y0, hxy, I11⟩
          refine ⟨_, rfl, q, _, _, _, rfl, rfl, SqT.of I11.hq, at0, .inl ⟨rfl, _, SqL.of I11.ha⟩, _, rfl, e, _, _, _, rfl, rfl, SqL.of he11, at0, a, _, _, rfl, rfl, I11.ha, small1000 (by rw [List.length_map]; omega), ?_⟩
          have ea0 : R0.map oV ++ [oV x] = (R0 ++ [x]).map oV := by rw [List.map_append]; rfl
          rw [ea0]
          have I12 := I11.seta (Y := R0 ++ [x]) S
          have he12 : (upd H11 a (.lst ((R0 ++ [x]).map oV))) e = some (.lst [oV x, oV y]) := by rw [upd_ne ea]; exact he11
          refine ⟨_, rfl, q, _, _, _, rfl, rfl, SqT.of I12.hq, at1, .inl ⟨rfl, _, SqL.of I12.hb⟩, _, rfl, e, _, _, _, rfl, rfl, SqL.of he12, at1, b, _, _, rfl, rfl, I12.hb, small1000 (by rw [List.length_map]; omega), ?_⟩
          have eb0 : R1.map oV ++ [oV y] = (R1 ++ [y]).map oV := by rw [List.map_append]; rfl
          rw [eb0]
          have I13 := I12.setb (Y := R1 ++ [y]) S
          refine ⟨R0 ++ [x], R1 ++ [y], d0, d1, _, _, _, _, rfl, by rw [List.length_append, hl0]; rfl, by rw [List.length_append, hl1]; rfl, f0.snoc x0, f1.snoc y0, fun h1 kk g0 g1 => ?_, I13⟩
          by_cases hk : kk < i
          · rw [List.getElem?_append_left (by omega)] at g0 g1
            exact hone h1 kk g0 g1
          · have hk2 : kk = i := by
              have := (List.getElem?_eq_some_iff.mp g0).1
              rw [List.length_append, hl0] at this
              have h2 : [x].length = 1 := rfl
              omega
            subst hk2
            rw [List.getElem?_append_right (by omega), hl0, Nat.sub_self] at g0
            rw [List.getElem?_append_right (by omega), hl1, Nat.sub_self] at g1
            exact hxy h1 (Option.some.inj g0) (Option.some.inj g1)
    · -- return found
      rintro σ H8 ⟨R0, R1, d0, d1, v10, v11, v12, v13, rfl, hl0, hl1, f0, f1, hone, I8⟩
      refine ⟨_, rfl, ?_⟩
      exact k q a b R0 R1 H8 ⟨I8.hq, I8.ha, I8.hb, S.ab⟩ (by rw [hl0, hl1]) (by rw [hl0]; omega) f0 f1 hone fq fa fb I8.row I8.kp
end
/-! ### _law_alike: two values of one shape -/
inductive Lk (K : PySem.W.Frag) (H : Hp) : Nat → V → V → Prop
  | non {n : Nat} : Lk K H (n + 1) .non .non
  | bl {n : Nat} (b : Bool) : Lk K H (n + 1) (.bl b) (.bl b)
  | int {n : Nat} (i : Int) : Lk K H (n + 1) (.int i) (.int i)
  | str {n : Nat} (x : Str) : Lk K H (n + 1) (.str x) (.str x)
  | lst {n : Nat} {a b : Addr} {xs ys : List V} : SqL K H a xs → SqL K H b ys → xs.length = ys.length → xs.length ≤ 100000 → (∀ (i : Nat) x y, xs[i]? = some x → ys[i]? = some y → Lk K H n x y) → Lk K H (n + 1) (.ref a) (.ref b)
  | tup {n : Nat} {a b : Addr} {xs ys : List V} : SqT K H a xs → SqT K H b ys → xs.length = ys.length → xs.length ≤ 100000 → (∀ (i : Nat) x y, xs[i]? = some x → ys[i]? = some y → Lk K H n x y) → Lk K H (n + 1) (.ref a) (.ref b)
theorem Lk.same {K : PySem.W.Frag} {H H' : Hp} (s : Same H H') : ∀ {n : Nat} {x y : V}, Lk K H n x y → Lk K H' n x y := by
  intro n x y h
  induction h with
  | non => exact .non
  | bl b => exact .bl b
  | int i => exact .int i
  | str z => exact .str z
  | lst h1 h2 h3 h4 h5 ih => exact .lst (s.seq h1) (s.seq h2) h3 h4 ih
  | tup h1 h2 h3 h4 h5 ih => exact .tup (s.sqt h1) (s.sqt h2) h3 h4 ih
theorem tyx_l {K : PySem.W.Frag} {H : Hp} {a : Addr} {xs : List V} (h : SqL K H a xs) : TyX K H (.ref a) (.type "list") := by
  rcases h with (h | ⟨o, h⟩) | ⟨o, its, n, h, c, _⟩
  · exact .base (.lst h)
  · exact .base (.frz h)
  · exact .kList h c
theorem tyx_t {K : PySem.W.Frag} {H : Hp} {a : Addr} {xs : List V} (h : SqT K H a xs) : TyX K H (.ref a) (.type "tuple") := by
  rcases h with (h | ⟨o, h⟩) | ⟨o, its, n, h, c, _⟩
  · exact .base (.tup h)
  · exact .fTuple h
  · exact .kTuple h c
def spAlike (K : PySem.W.Frag) (n : Nat) : Sp := fun vs H Q _ => ∃ x y : V, vs = [x, y] ∧ Lk K H n x y ∧ ∀ H', Same H H' → Q (.bl true) H'
section
variable {P : Program} {w : World} {K : PySem.W.Frag} {mg : Str → Option Value} {base : Heap}
theorem ok_alike0 (T : Txt K mg) : FnOk P w K mg base CX0 1 T.f_Lalike T.fd_Lalike P_Lalike (spAlike K 0) :=
  ⟨fun vs H Q E h => (by
    obtain ⟨x, y, _, h, _⟩ := h
    cases h), fun A outer s H args us vs Q E hr he hb hv h => (by
    obtain ⟨x, y, _, h, _⟩ := h
    cases h)⟩
theorem kit2 {K : PySem.W.Frag} {a : String} {r1 r2 : Bool} (h1 : kitB a "tuple" = some r1) (h2 : kitB a "list" = some r2) : PySem.W.kitAny K (.type a) [.type "tuple", .type "list"] = some (r1 || r2) :=
  kitAny_cons (kit_ty h1) (fun e => kitAny_cons (kit_ty h2) (fun e2 => by rw [e, e2]; exact kitAny_nil) (fun e2 => by rw [e2, Bool.or_true])) fun e => by rw [e, Bool.true_or]
theorem ok_alikeS (T : Txt K mg) {n : Nat} (IH : FnOk P w K mg base CX0 (n + 1) T.f_Lalike T.fd_Lalike P_Lalike (spAlike K n)) : FnOk P w K mg base CX0 (n + 2) T.f_Lalike T.fd_Lalike P_Lalike (spAlike K (n + 1)) := by
  refine T.F_Lalike.ok (k := n + 1) sc_Lalike (fun vs H Q E h => ?_) (fun cdv A outer s H vs Q E hr h => ?_)
  · obtain ⟨x, y, rfl, _⟩ := h
    rfl
  · obtain ⟨x, y, rfl, hk, k⟩ := h
    refine ⟨_, ((pss_cons (ps_if (PW.pt (pw_or (pt_val (pe_callB call_isi (by rfl) T.z_isinstance (by decide +kernel) (pa_cons (pv 1) (pa_cons (pe_bltn (v := .ty "tuple") rfl T.z_tuple (by decide +kernel) rfl) pa_nil)))) (pw_or1 (pt_val (pe_callB call_isi (by rfl) T.z_isinstance (by decide +kernel) (pa_cons (pv 1) (pa_cons (pe_bltn (v := .ty "list") rfl T.z_list (by decide +kernel) rfl) pa_nil))))))) (pss_cons (ps_if (PW.pt (pw_or (pt_cmpR op_ne (pe_callB call_isi (by rfl) T.z_isinstance (by decide +kernel) (pa_cons (pv 0) (pa_cons (pe_bltn (v := .ty "tuple") rfl T.z_tuple (by decide +kernel) rfl) pa_nil))) (pe_callB call_isi (by rfl) T.z_isinstance (by decide +kernel) (pa_cons (pv 1) (pa_cons (pe_bltn (v := .ty "tuple") rfl T.z_tuple (by decide +kernel) rfl) pa_nil))) (nomark _)) (pw_or1 (pt_not (pt_val (pe_callB call_isiT (by rfl) T.z_isinstance (by decide +kernel) (pa_cons (pv 0) (pa_cons (pe_tup (pa_cons (pe_bltn (v := .ty "tuple") rfl T.z_tuple (by decide +kernel) rfl) (pa_cons (pe_bltn (v := .ty "list") rfl T.z_list (by decide +kernel) rfl) pa_nil))) pa_nil)))))))) (pss_one (ps_ret pe_bl)) pss_nil)
  (pss_cons (ps_if (pt_cmpR op_ne (pe_callB call_len_seq (by rfl) T.z_len (by decide +kernel) (pa_cons (pv 0) pa_nil)) (pe_callB call_len_seq (by rfl) T.z_len (by decide +kernel) (pa_cons (pv 1) pa_nil)) (nomark _)) (pss_one (ps_ret pe_bl)) pss_nil)
  (pss_one (ps_ret (pe_cmpR (op_eqD hr.units) (pe_lc (own := [("_law_k", 2)]) (g := gName 2) rfl sc_Lalike.nd (pi_range1 (by rfl) T.z_range (pa_cons (pe_callB call_len_seq (by rfl) T.z_len (by decide +kernel) (pa_cons (pv 1) pa_nil)) pa_nil)) (blkOk_by (N := N_Lalike) (sc := (defScope s_Lalike)) (own := [("_law_k", 2)]) (by decide +kernel)) (fun _ _ _ _ _ => (pg_name (i := 2) sc_Lalike.nd rfl (Or.inl rfl))) (fun _ _ _ _ _ => pts_one (pt_not (pt_val (pe_call IH hr (by rfl) T.mg_Lalike T.kp_Lalike T.b_Lalike .nil pass0 (pa_cons (pe_ix (ixK_seq (K := K) rfl) (pv 0) (pv 2) (fun _ _ => rfl)) (pa_cons (pe_ix (ixK_seq (K := K) rfl) (pv 1) (pv 2) (fun _ _ => rfl)) pa_nil)))))) (fun _ _ _ _ _ => (pv 2))) (pe_lst pa_nil) (nomark _)))))) pss_nil)
  (pss_cons (ps_if (PW.pt (pw_or (pt_cmp (pc_isN (pv 1))) (pw_or1 (pt_cmp (pc_isN (pv 0)))))) (pss_one (ps_ret (pe_and (pe_cmp (pc_isN (pv 1)) rfl) (pe_one (pe_cmp (pc_isN (pv 0)) rfl))))) pss_nil)
  (pss_cons (ps_if (PW.pt (pw_or (pt_val (pe_callB call_isi (by rfl) T.z_isinstance (by decide +kernel) (pa_cons (pv 1) (pa_cons (pe_bltn (v := .ty "bool") rfl T.z_bool (by decide +kernel) rfl) pa_nil)))) (pw_or1 (pt_val (pe_callB call_isi (by rfl) T.z_isinstance (by decide +kernel) (pa_cons (pv 0) (pa_cons (pe_bltn (v := .ty "bool") rfl T.z_bool (by decide +kernel) rfl) pa_nil))))))) (pss_one (ps_ret (pe_and (pe_callB call_isi (by rfl) T.z_isinstance (by decide +kernel) (pa_cons (pv 1) (pa_cons (pe_bltn (v := .ty "bool") rfl T.z_bool (by decide +kernel) rfl) pa_nil))) (pe_and (pe_callB call_isi (by rfl) T.z_isinstance (by decide +kernel) (pa_cons (pv 0) (pa_cons (pe_bltn (v := .ty "bool") rfl T.z_bool (by decide +kernel) rfl) pa_nil))) (pe_one (pe_cmpR op_eq (pv 0) (pv 1) (nomark _))))))) pss_nil)
  (pss_cons (ps_if (pt_val (pe_callB call_isi (by rfl) T.z_isinstance (by decide +kernel) (pa_cons (pv 1) (pa_cons (pe_bltn (v := .ty "str") rfl T.z_str (by decide +kernel) rfl) pa_nil)))) (pss_one (ps_ret (pe_and (pe_callB call_isi (by rfl) T.z_isinstance (by decide +kernel) (pa_cons (pv 0) (pa_cons (pe_bltn (v := .ty "str") rfl T.z_str (by decide +kernel) rfl) pa_nil))) (pe_one (pe_cmpR op_eq (pv 0) (pv 1) (nomark _)))))) pss_nil)
  (pss_one (ps_ret (pe_and (pe_callB call_isi (by rfl) T.z_isinstance (by decide +kernel) (pa_cons (pv 0) (pa_cons (pe_bltn (v := .ty "int") rfl T.z_int (by decide +kernel) rfl) pa_nil))) (pe_one (pe_cmpR op_eq (pv 0) (pv 1) (nomark _))))))))))), ?_⟩
    cases hk with
    | non =>
      refine ⟨_, rfl, _, _, _, _, false, rfl, .ty _, .base .non, kit_ty (by decide +kernel), _, rfl, iteF ?_⟩
      refine ⟨_, rfl, _, _, _, _, false, rfl, .ty _, .base .non, kit_ty (by decide +kernel), _, rfl, iteF ?_⟩
      refine ⟨_, rfl, _, rfl, iteT (iteT ?_)⟩
      exact ⟨_, rfl, _, rfl, iteT ⟨_, rfl, k H (Same.refl H)⟩⟩
    | bl b =>
      refine ⟨_, rfl, _, _, _, _, false, rfl, .ty _, .base (.bl _), kit_ty (by decide +kernel), _, rfl, iteF ?_⟩
      refine ⟨_, rfl, _, _, _, _, false, rfl, .ty _, .base (.bl _), kit_ty (by decide +kernel), _, rfl, iteF ?_⟩
      refine ⟨_, rfl, _, rfl, iteF ⟨_, rfl, _, rfl, iteF ?_⟩⟩
      refine ⟨_, rfl, _, _, _, _, true, rfl, .ty _, .base (.bl _), kit_ty (by decide +kernel), _, rfl, iteT (iteT ?_)⟩
      refine ⟨_, rfl, _, _, _, _, true, rfl, .ty _, .base (.bl _), kit_ty (by decide +kernel), _, rfl, iteT ?_⟩
      refine ⟨_, rfl, _, _, _, _, true, rfl, .ty _, .base (.bl _), kit_ty (by decide +kernel), _, rfl, iteT ?_⟩
      refine ⟨_, rfl, _, rfl, rfl, ?_⟩
      rw [decide_eq_true rfl]
      exact k H (Same.refl H)
    | int i =>
      refine ⟨_, rfl, _, _, _, _, false, rfl, .ty _, .base (.int _), kit_ty (by decide +kernel), _, rfl, iteF ?_⟩
      refine ⟨_, rfl, _, _, _, _, false, rfl, .ty _, .base (.int _), kit_ty (by decide +kernel), _, rfl, iteF ?_⟩
      refine ⟨_, rfl, _, rfl, iteF ⟨_, rfl, _, rfl, iteF ?_⟩⟩
      refine ⟨_, rfl, _, _, _, _, false, rfl, .ty _, .base (.int _), kit_ty (by decide +kernel), _, rfl, iteF ?_⟩
      refine ⟨_, rfl, _, _, _, _, false, rfl, .ty _, .base (.int _), kit_ty (by decide +kernel), _, rfl, iteF ?_⟩
      refine ⟨_, rfl, _, _, _, _, false, rfl, .ty _, .base (.int _), kit_ty (by decide +kernel), _, rfl, iteF ?_⟩
      refine ⟨_, rfl, _, _, _, _, true, rfl, .ty _, .base (.int _), kit_ty (by decide +kernel), _, rfl, iteT ?_⟩
      refine ⟨_, rfl, _, rfl, rfl, ?_⟩
      rw [decide_eq_true rfl]
      exact k H (Same.refl H)
    | str i =>
      refine ⟨_, rfl, _, _, _, _, false, rfl, .ty _, .base (.str _), kit_ty (by decide +kernel), _, rfl, iteF ?_⟩
      refine ⟨_, rfl, _, _, _, _, false, rfl, .ty _, .base (.str _), kit_ty (by decide +kernel), _, rfl, iteF ?_⟩
      refine ⟨_, rfl, _, rfl, iteF ⟨_, rfl, _, rfl, iteF ?_⟩⟩
      refine ⟨_, rfl, _, _, _, _, false, rfl, .ty _, .base (.str _), kit_ty (by decide +kernel), _, rfl, iteF ?_⟩
      refine ⟨_, rfl, _, _, _, _, false, rfl, .ty _, .base (.str _), kit_ty (by decide +kernel), _, rfl, iteF ?_⟩
      refine ⟨_, rfl, _, _, _, _, true, rfl, .ty _, .base (.str _), kit_ty (by decide +kernel), _, rfl, iteT ?_⟩
      refine ⟨_, rfl, _, _, _, _, true, rfl, .ty _, .base (.str _), kit_ty (by decide +kernel), _, rfl, iteT ?_⟩
      refine ⟨_, rfl, _, rfl, rfl, ?_⟩
      rw [decide_eq_true rfl]
      exact k H (Same.refl H)
    | @lst _ a b xs ys h1 h2 h3 h4 h5 =>
      refine ⟨_, rfl, _, _, _, _, false, rfl, .ty _, tyx_l h2, kit_ty (by decide +kernel), _, rfl, iteF ?_⟩
      refine ⟨_, rfl, _, _, _, _, true, rfl, .ty _, tyx_l h2, kit_ty (by decide +kernel), _, rfl, iteT ?_⟩
      refine ⟨_, rfl, _, _, _, _, false, rfl, .ty _, tyx_l h1, kit_ty (by decide +kernel), ?_⟩
      refine ⟨_, rfl, _, _, _, _, false, rfl, .ty _, tyx_l h2, kit_ty (by decide +kernel), rfl, _, rfl, iteF ?_⟩
      refine ⟨_, rfl, by show 2 ≤ sizeLine; decide, fun tp htp => ?_⟩
      have s1 : Same H (upd H tp (.tup [.ty "tuple", .ty "list"])) := Same.upd_new htp
      refine ⟨_, tp, _, _, _, true, rfl, upd_same, .cons (.ty _) (.cons (.ty _) .nil), tyx_l (s1.seq h1), kit2 (r1 := false) (r2 := true) (by decide +kernel) (by decide +kernel), _, rfl, iteF ?_⟩
      have g1 := s1.seq h1
      have g2 := s1.seq h2
      refine ⟨_, rfl, a, _, rfl, .inl g1, _, rfl, b, _, rfl, .inl g2, rfl, _, rfl, iteNS (by rw [h3]) ?_⟩
      refine ⟨_, rfl, b, _, rfl, .inl g2, _, rfl, by omega, by omega, fun D hD => lc_range (lo := 0) (n := ((ys.length : Int)).toNat) (fun i H' => Same H H' ∧ H' D = some (.lst [])) ⟨s1.new hD, upd_same⟩ ?_ ?_⟩
      · rintro i H2 hi ⟨s2, hD2⟩
        have hi' : i < ys.length := by omega
        have e0 : (0 : Int) + (i : Int) = (i : Int) := Int.zero_add _
        have q1 : xs[i]? = some xs[i] := List.getElem?_eq_getElem (by omega)
        have q2 : ys[i]? = some ys[i] := List.getElem?_eq_getElem (by omega)
        refine ⟨rfl, ⟨_, rfl, _, rfl, .inl ⟨a, _, _, _, rfl, rfl, s2.seq h1, at_of e0 q1, _, rfl, _, rfl, .inl ⟨b, _, _, _, rfl, rfl, s2.seq h2, at_of e0 q2, _, _, rfl, (h5 i _ _ q1 q2).same s2, fun H3 s3 => ⟨_, rfl, iteF ⟨s2.trans s3, s3 _ _ hD2⟩⟩⟩⟩⟩⟩
      · rintro H2 ⟨s2, hD2⟩
        refine ⟨by show 0 ≤ sizeLine; decide, fun l hl => ?_⟩
        refine ⟨.list [], .list [], .lst (SqL.of (by rw [upd_ne (ne_of_none hD2 hl)]; exact hD2)) .nil, .lst (SqL.of upd_same) .nil, rfl, rfl, ?_⟩
        exact k _ (s2.new hl)
    | @tup _ a b xs ys h1 h2 h3 h4 h5 =>
      refine ⟨_, rfl, _, _, _, _, true, rfl, .ty _, tyx_t h2, kit_ty (by decide +kernel), _, rfl, iteT (iteT ?_)⟩
      refine ⟨_, rfl, _, _, _, _, true, rfl, .ty _, tyx_t h1, kit_ty (by decide +kernel), ?_⟩
      refine ⟨_, rfl, _, _, _, _, true, rfl, .ty _, tyx_t h2, kit_ty (by decide +kernel), rfl, _, rfl, iteF ?_⟩
      refine ⟨_, rfl, by show 2 ≤ sizeLine; decide, fun tp htp => ?_⟩
      have s1 : Same H (upd H tp (.tup [.ty "tuple", .ty "list"])) := Same.upd_new htp
      refine ⟨_, tp, _, _, _, true, rfl, upd_same, .cons (.ty _) (.cons (.ty _) .nil), tyx_t (s1.sqt h1), kit2 (r1 := true) (r2 := false) (by decide +kernel) (by decide +kernel), _, rfl, iteF ?_⟩
      have g1 := s1.sqt h1
      have g2 := s1.sqt h2
      refine ⟨_, rfl, a, _, rfl, .inr g1, _, rfl, b, _, rfl, .inr g2, rfl, _, rfl, iteNS (by rw [h3]) ?_⟩
      refine ⟨_, rfl, b, _, rfl, .inr g2, _, rfl, by omega, by omega, fun D hD => lc_range (lo := 0) (n := ((ys.length : Int)).toNat) (fun i H' => Same H H' ∧ H' D = some (.lst [])) ⟨s1.new hD, upd_same⟩ ?_ ?_⟩
      · rintro i H2 hi ⟨s2, hD2⟩
        have hi' : i < ys.length := by omega
        have e0 : (0 : Int) + (i : Int) = (i : Int) := Int.zero_add _
        have q1 : xs[i]? = some xs[i] := List.getElem?_eq_getElem (by omega)
        have q2 : ys[i]? = some ys[i] := List.getElem?_eq_getElem (by omega)
        refine ⟨rfl, ⟨_, rfl, _, rfl, .inr (.inl ⟨a, _, _, _, rfl, rfl, s2.sqt h1, at_of e0 q1, _, rfl, _, rfl, .inr (.inl ⟨b, _, _, _, rfl, rfl, s2.sqt h2, at_of e0 q2, _, _, rfl, (h5 i _ _ q1 q2).same s2, fun H3 s3 => ⟨_, rfl, iteF ⟨s2.trans s3, s3 _ _ hD2⟩⟩⟩)⟩)⟩⟩
      · rintro H2 ⟨s2, hD2⟩
        refine ⟨by show 0 ≤ sizeLine; decide, fun l hl => ?_⟩
        refine ⟨.list [], .list [], .lst (SqL.of (by rw [upd_ne (ne_of_none hD2 hl)]; exact hD2)) .nil, .lst (SqL.of upd_same) .nil, rfl, rfl, ?_⟩
        exact k _ (s2.new hl)
theorem ok_Lalike (T : Txt K mg) : ∀ n : Nat, FnOk P w K mg base CX0 (n + 1) T.f_Lalike T.fd_Lalike P_Lalike (spAlike K n)
  | 0 => ok_alike0 T
  | n + 1 => ok_alikeS T (ok_Lalike T n)
end
/-! ### need_roads, need_rows of good ones: nothing is refused -/
def spNeedRoads : Sp := fun vs H Q _ => ∃ (p : Addr) (R : Rds), vs = [.ref p] ∧ RoadsAt H p R ∧ R.Ok ∧ Q .non H
def spNeedRows (K : PySem.W.Frag) : Sp := fun vs H Q _ => ∃ (p q a b : Addr) (R : Rds) (R0 R1 : List Lt), vs = [.ref p, .ref q] ∧ RoadsAt H p R ∧ (SqL K H q [.ref a, .ref b] ∨ SqT K H q [.ref a, .ref b]) ∧
  SqL K H a (R0.map oV) ∧ SqL K H b (R1.map oV) ∧ R0.length = R1.length ∧ R0.length ≤ 80 ∧ Fits R.l0 R.m0 R0 ∧ Fits R.l1 R.m1 R1 ∧ Q .non H
section
variable {P : Program} {w : World} {K : PySem.W.Frag} {mg : Str → Option Value} {base : Heap}
theorem ok_need_roads (T : Txt K mg) : FnOk P w K mg base CX0 1 T.f_need_roads T.fd_need_roads P_need_roads spNeedRoads := by
  refine T.F_need_roads.ok sc_need_roads (fun vs H Q E h => ?_) (fun cdv A outer s H vs Q E hr h => ?_)
  · obtain ⟨p, R, rfl, _⟩ := h
    rfl
  · obtain ⟨p, R, rfl, ⟨t0, t1, g1, g2, g3⟩, ⟨⟨q1, q2, q3⟩, q4, q5, q6⟩, k⟩ := h
    refine ⟨_, ((pss_one (ps_for PassesOwn.never rfl (pi_range1 (by rfl) T.z_range (pa_cons pe_int pa_nil)) (pg_name (i := 1) sc_need_roads.nd rfl (Or.inl rfl))
  (pss_cons (ps_asg (pe_ix ix_tup (pv 0) (pv 1) (fun _ _ => rfl)) (pg_tup rfl (pgs_cons (pg_name (i := 2) sc_need_roads.nd rfl (Or.inl rfl)) (pgs_cons (pg_name (i := 3) sc_need_roads.nd rfl (Or.inl rfl)) pgs_nil))))
  (pss_one (ps_if (pt_not (pt_chain3 op_le op_le op_le pe_int (pv 2) (pv 3) (pe_glob rfl T.mg_MOST_LATE T.rv_MOST_LATE))) (pss_one ps_never) pss_nil)))))), ?_⟩
    refine ⟨_, rfl, by decide, by decide, for_range (n := 2) (fun i σ H' => H' = H ∧ ∃ v1 v2 v3 : Option V, σ = [some (.ref p), v1, v2, v3]) ⟨rfl, none, none, none, rfl⟩ ?_ ?_⟩
    · rintro i σ H1 hi ⟨rfl, v1, v2, v3, rfl⟩
      obtain ⟨t, ha, ht⟩ := road_at (R := R) g2 g3 hi
      obtain ⟨h0, h1, h2⟩ := Rds.ok_at (j := i) ⟨⟨q1, q2, q3⟩, q4, q5, q6⟩
      refine ⟨_, rfl, _, rfl, p, _, _, _, rfl, rfl, SqT.of g1, ha, t, _, rfl, SqT.of ht, rfl, _, _, rfl, _, _, rfl, rfl, ?_⟩
      exact ⟨_, rfl, _, _, rfl, rfl, _, rfl, iteD h0 ⟨_, rfl, _, _, rfl, rfl, _, rfl, iteD h1 ⟨_, _, rfl, rfl, _, rfl, iteNS h2 ⟨rfl, _, _, _, rfl⟩⟩⟩⟩
    · rintro σ H1 ⟨rfl, v1, v2, v3, rfl⟩
      exact k
theorem ok_need_rows (T : Txt K mg) : FnOk P w K mg base CX0 1 T.f_need_rows T.fd_need_rows P_need_rows (spNeedRows K) := by
  refine T.F_need_rows.ok sc_need_rows (fun vs H Q E h => ?_) (fun cdv A outer s H vs Q E hr h => ?_)
  · obtain ⟨p, q, a, b, R, R0, R1, rfl, _⟩ := h
    rfl
  · obtain ⟨p, q, a, b, R, R0, R1, rfl, ⟨t0, t1, g1, g2, g3⟩, hq, ha, hb, hl, h80, f0, f1, k⟩ := h
    refine ⟨_, ((pss_cons (ps_for PassesOwn.never rfl (pi_range1 (by rfl) T.z_range (pa_cons pe_int pa_nil)) (pg_name (i := 2) sc_need_rows.nd rfl (Or.inl rfl))
  (pss_cons (ps_asg (pe_ix ix_tup (pv 0) (pv 2) (fun _ _ => rfl)) (pg_tup rfl (pgs_cons (pg_name (i := 3) sc_need_rows.nd rfl (Or.inl rfl)) (pgs_cons (pg_name (i := 4) sc_need_rows.nd rfl (Or.inl rfl)) pgs_nil))))
  (pss_one (ps_for PassesOwn.never rfl (pi_range1 (by rfl) T.z_range (pa_cons (pe_callB call_len_seq (by rfl) T.z_len (by decide +kernel) (pa_cons (pe_ix ix_seq (pv 1) (pv 2) (fun _ _ => rfl)) pa_nil)) pa_nil)) (pg_name (i := 5) sc_need_rows.nd rfl (Or.inl rfl))
  (pss_cons (ps_set (i := 6) sc_need_rows.nd rfl (Or.inl rfl) (pe_ix ix_list (pe_ix ix_seq (pv 1) (pv 2) (fun _ _ => rfl)) (pv 5) (fun _ _ => rfl)))
  (pss_one (ps_if (PW.pt (pw_or (pt_cmpR op_ge (pv 5) (pe_glob rfl T.mg_MOST_THINGS T.rv_MOST_THINGS) (nomark _)) (pw_or1 (PW.pt (pw_and (pt_cmp (pc_notN (pv 6))) (pw_and1 (pt_not (pt_chain op_le op_le (pv 3) (pv 6) (pv 4))))))))) (pss_one ps_never) pss_nil)))))))
  (pss_one (ps_if (pt_cmpR op_ne (pe_callB call_len_seq (by rfl) T.z_len (by decide +kernel) (pa_cons (pe_ix ix_seq (pv 1) pe_int (fun _ _ => rfl)) pa_nil)) (pe_callB call_len_seq (by rfl) T.z_len (by decide +kernel) (pa_cons (pe_ix ix_seq (pv 1) pe_int (fun _ _ => rfl)) pa_nil)) (nomark _)) (pss_one ps_never) pss_nil)))), ?_⟩
    have ixq : ∀ {j : Int} {v : V} {Q : VK}, atI ([.ref a, .ref b] : List V) j = some v → Q v H → rIx K (.ref q) (.int j) H Q := fun hat q => by
      rcases hq with hq | hq
      · exact .inl ⟨_, _, _, _, rfl, rfl, hq, hat, q⟩
      · exact .inr (.inl ⟨_, _, _, _, rfl, rfl, hq, hat, q⟩)
    refine ⟨_, rfl, by decide, by decide, for_range (n := 2) (fun i σ H' => H' = H ∧ ∃ v2 v3 v4 v5 v6 : Option V, σ = [some (.ref p), some (.ref q), v2, v3, v4, v5, v6]) ⟨rfl, none, none, none, none, none, rfl⟩ ?_ ?_⟩
    · rintro i σ H1 hi ⟨rfl, v2, v3, v4, v5, v6, rfl⟩
      obtain ⟨t, hat, ht⟩ := road_at (R := R) g2 g3 hi
      obtain ⟨c, Y, hc, hY, fY, lY⟩ := row_at ha hb f0 f1 hl hi
      refine ⟨_, rfl, _, rfl, p, _, _, _, rfl, rfl, SqT.of g1, hat, t, _, rfl, SqT.of ht, rfl, _, _, rfl, _, _, rfl, rfl, ?_⟩
      refine ⟨_, rfl, _, rfl, ixq hc ⟨c, _, rfl, .inl hY, _, rfl, by omega, ?_, for_range (n := ((Y.map oV).length : Int).toNat) (fun i2 σ H' => H' = H1 ∧ ∃ v5 v6 : Option V, σ = [some (.ref p), some (.ref q), some (.int (0 + i)), some (.int (R.lo i)), some (.int (R.hi i)), v5, v6]) ⟨rfl, v5, v6, rfl⟩ ?_ ?_⟩⟩
      · rw [List.length_map]; omega
      · rintro j σ H2 hj ⟨rfl, v5, v6, rfl⟩
        have hj2 : j < Y.length := by rw [List.length_map] at hj; omega
        obtain ⟨x, hx, hax⟩ := at_row hj2
        refine ⟨_, rfl, _, rfl, ixq hc ⟨_, rfl, c, _, _, _, rfl, rfl, hY, hax, ?_⟩⟩
        refine ⟨_, rfl, _, _, rfl, rfl, _, rfl, iteND (by show ¬ ((80 : Int) ≤ 0 + j); omega) ?_⟩
        cases x with
        | none => exact ⟨_, rfl, _, rfl, iteF (iteF ⟨rfl, _, _, rfl⟩)⟩
        | some z =>
          obtain ⟨z0, z1⟩ := fY _ hx z rfl
          exact ⟨_, rfl, _, rfl, iteT ⟨_, rfl, _, rfl, _, _, rfl, rfl, _, rfl, iteD z0 ⟨_, rfl, _, _, rfl, rfl, _, rfl, iteNS z1 ⟨rfl, _, _, rfl⟩⟩⟩⟩
      · rintro σ H2 ⟨rfl, v5, v6, rfl⟩
        exact ⟨rfl, _, _, _, _, _, rfl⟩
    · rintro σ H1 ⟨rfl, v2, v3, v4, v5, v6, rfl⟩
      refine ⟨_, rfl, ixq at0 ⟨a, _, rfl, .inl ha, _, rfl, ixq at1 ⟨b, _, rfl, .inl hb, ?_⟩⟩⟩
      rw [List.length_map, List.length_map, hl]
      exact ⟨rfl, _, rfl, iteNS rfl k⟩
end
/-! ### rows as texts -/
open SX in
/-- a lateness' sign -/
def cd : Lt → Nat
  | none => 45
  | some i => 48 + i.toNat
abbrev sgT (x : Lt) : Str := SX.S [cd x]
abbrev rowT (R : List Lt) : Str := SX.S (R.map cd)
abbrev rowsT (R0 R1 : List Lt) : Str := SX.S (R0.map cd ++ 10 :: R1.map cd)
theorem str_dig {v : Int} (h0 : 0 ≤ v) (h9 : v ≤ 9) : Str.ofString (toString v) = SX.S [48 + v.toNat] := by
  obtain ⟨n, rfl⟩ := Int.eq_ofNat_of_zero_le h0
  have hn : n < 10 := by omega
  refine TL.ext_tl ((TL.tl_num n).trans ?_)
  rw [TL.numL_lt hn]
  rfl
theorem int_dig {v : Int} (h0 : 0 ≤ v) (h9 : v ≤ 9) : PySem.intText? (SX.S [48 + v.toNat]) = some v := by
  obtain ⟨n, rfl⟩ := Int.eq_ofNat_of_zero_le h0
  have hn : n < 10 := by omega
  have e := TL.int_num (n := n) (by rw [TL.numL_lt hn]; show 1 ≤ 4300; decide)
  rw [str_dig (v := (n : Int)) (by omega) (by omega)] at e
  exact e
theorem joinL_nil : ∀ l : List Nat, TL.joinL [] (l.map fun c => [c]) = l
  | [] => rfl
  | [c] => rfl
  | c :: d :: r => by
    show [c] ++ ([] ++ TL.joinL [] ((d :: r).map fun c => [c])) = c :: d :: r
    rw [joinL_nil (d :: r)]
    rfl
theorem join_row (R : List Lt) : Txt.join (SX.S []) (R.map sgT) = rowT R := by
  have e : R.map sgT = ((R.map cd).map fun c => [c]).map SX.S := by rw [List.map_map, List.map_map]; rfl
  rw [e, SX.join_S, joinL_nil]
theorem join_rows (R0 R1 : List Lt) : Txt.join (SX.S [10]) [rowT R0, rowT R1] = rowsT R0 R1 := SX.join_S [10] [R0.map cd, R1.map cd]
theorem split_rows {R0 R1 : List Lt} (h0 : 10 ∉ R0.map cd) (h1 : 10 ∉ R1.map cd) : Txt.split (rowsT R0 R1) (SX.S [10]) = [rowT R0, rowT R1] := by
  rw [← join_rows]
  refine TL.split_join (s := 10) (S := []) rfl (SX.all256 (b := [10]) (by decide)) (by simp) fun p hp => ?_
  simp only [List.mem_cons, List.not_mem_nil, or_false] at hp
  rcases hp with rfl | rfl
  · exact h0
  · exact h1
theorem cd_ne {l m : Int} {R : List Lt} (h : Fits l m R) (hl : 0 ≤ l) : 10 ∉ R.map cd := fun hm => by
  obtain ⟨x, hx, e⟩ := List.mem_map.mp hm
  cases x with
  | none => cases e
  | some v =>
    have := h _ hx v rfl
    have e' : 48 + v.toNat = 10 := e
    omega
theorem row_len (R : List Lt) : (rowT R).length = R.length := by rw [SX.S_len, List.length_map]
theorem sg_sum (R : List Lt) : ((R.map sgT).map (·.length)).sum = R.length := by
  induction R with
  | nil => rfl
  | cons x R ih =>
    rw [List.map_cons, List.map_cons, List.sum_cons, ih, SX.S_len, List.length_cons]
    show 1 + R.length = R.length + 1
    omega
theorem str_nl : Str.ofString "\n" = SX.S [10] := by decide +kernel
theorem str_no : Str.ofString "" = SX.S [] := by decide +kernel
theorem take_succ_of {α : Type} {l : List α} {i : Nat} {x : α} (h : l[i]? = some x) : l.take (i + 1) = l.take i ++ [x] := by
  rw [List.take_succ, h]; rfl
/-- the sizes of a row's signs joined -/
theorem sg_room {R : List Lt} (h : R.length ≤ 80) : ((R.map sgT).map (·.length)).sum + (R.map sgT).length * (SX.S []).length ≤ 16777216 := by
  rw [sg_sum, SX.S_len]
  show R.length + _ * 0 ≤ _
  omega
theorem rows_room {R0 R1 : List Lt} (h : R0.length ≤ 80) (h1 : R1.length ≤ 80) : (([rowT R0, rowT R1] : List Str).map (·.length)).sum + ([rowT R0, rowT R1] : List Str).length * (SX.S [10]).length ≤ 16777216 := by
  rw [List.map_cons, List.map_cons, List.map_nil, row_len, row_len, SX.S_len]
  show R0.length + (R1.length + 0) + 2 * 1 ≤ _
  omega
theorem str_gone : Str.ofString "-" = SX.S [45] := by decide +kernel
theorem str_figs : (Str.ofString "0123456789").cps.toList = [48, 49, 50, 51, 52, 53, 54, 55, 56, 57] := by decide +kernel
theorem small_dig {v : Int} (v0 : 0 ≤ v) (v1 : v ≤ 9) : v.natAbs.log2 < 1920 := by
  have : v.natAbs.log2 ≤ v.natAbs := Nat.log2_le_self _
  omega
theorem fig_mem {v : Int} (v0 : 0 ≤ v) (v1 : v ≤ 9) : 48 + v.toNat ∈ (Str.ofString "0123456789").cps.toList := by
  rw [str_figs]
  have h : v.toNat = 0 ∨ v.toNat = 1 ∨ v.toNat = 2 ∨ v.toNat = 3 ∨ v.toNat = 4 ∨ v.toNat = 5 ∨ v.toNat = 6 ∨ v.toNat = 7 ∨ v.toNat = 8 ∨ v.toNat = 9 := by omega
  rcases h with h | h | h | h | h | h | h | h | h | h <;> (rw [h]; decide)
theorem not_gone (v : Int) : ¬ (V.str (⟨#[48 + v.toNat]⟩ : Str) = V.str (Str.ofString "-")) := fun e => by
  rw [str_gone] at e
  have e2 := SX.S_inj (V.str.inj e)
  have e3 : 48 + v.toNat = 45 := (List.cons.inj e2).1
  omega
theorem is_gone : V.str (⟨#[45]⟩ : Str) = V.str (Str.ofString "-") := congrArg V.str str_gone.symm
theorem rowT_at {R : List Lt} {i : Nat} (hi : i < R.length) : ∃ x ∈ R, R[i]? = some x ∧ atI (rowT R).cps.toList ((0 : Int) + (i : Int)) = some (cd x) :=
  ⟨R[i], List.getElem_mem hi, List.getElem?_eq_getElem hi, by
    rw [Int.zero_add]
    refine atI_nat ?_
    show (R.map cd)[i]? = _
    rw [List.getElem?_map, List.getElem?_eq_getElem hi]
    rfl⟩
/-! ### _law_text -/
def spText (K : PySem.W.Frag) : Sp := fun vs H Q _ => ∃ (q a b : Addr) (R : Rds) (R0 R1 : List Lt), vs = [.ref q] ∧ R.Ok ∧ Rws K H q a b R R0 R1 ∧ ∀ H', Same H H' → Q (.str (rowsT R0 R1)) H'
section
variable {P : Program} {w : World} {K : PySem.W.Frag} {mg : Str → Option Value} {base : Heap}
theorem ok_Ltext (T : Txt K mg) : FnOk P w K mg base CX0 1 T.f_Ltext T.fd_Ltext P_Ltext (spText K) := by
  refine T.F_Ltext.ok sc_Ltext (fun vs H Q E h => ?_) (fun cdv A outer s H vs Q E hr h => ?_)
  · obtain ⟨q, a, b, R, R0, R1, rfl, _⟩ := h
    rfl
  · obtain ⟨q, a, b, R, R0, R1, rfl, hR, W, k⟩ := h
    refine ⟨_, ((pss_one (ps_ret (joinK (K := K) rfl pe_str (pe_lc (own := [("_law_line", 1)]) (g := gName 1) (tt := tYes) rfl sc_Ltext.nd (pi_tup (pv 0)) (blkOk_by (N := N_Ltext) (sc := (defScope s_Ltext)) (own := [("_law_line", 1)]) (by decide +kernel)) (fun _ _ _ _ _ => (pg_name (i := 1) sc_Ltext.nd rfl (Or.inl rfl))) (fun _ _ _ _ _ => pts_nil) (fun _ _ _ _ _ => (joinK (K := K) rfl pe_str (pe_lc (own := [("_law_late_here", 2)]) (g := gName 2) (tt := tYes) rfl sc_Ltext.nd (piK_list (K := K) rfl (pv 1)) (show BlkOk N_Ltext (relS _ (defScope s_Ltext)) _ [("_law_late_here", 2)] from blkOk_by (by decide +kernel)) (fun _ _ _ _ _ => (pg_name (i := 2) sc_Ltext.nd rfl (Or.inl rfl))) (fun _ _ _ _ _ => pts_nil) (fun _ _ _ _ _ => (pe_ifExp (pt_cmp (pc_isN (pv 2))) pe_str (pe_callTy call_str_int (by rfl) T.z_str (by decide +kernel) (pa_cons (pv 2) pa_nil)))))))))))), ?_⟩
    rw [← join_rows] at k
    -- the lines
    refine ⟨⟨_, rfl⟩, _, rfl, q, rfl, ⟨_, W.q⟩, fun D hD => lc_tup (K := K) (a := q) (xs := [.ref a, .ref b]) (fun i H' => Same H H' ∧ H' D = some (.lst (([rowT R0, rowT R1].take i).map V.str))) ⟨Same.upd_new hD, upd_same⟩ (fun i H' _ z => z.1.sqt W.q) ?_ ?_⟩
    · rintro i x H1 hi ⟨s1, h1⟩
      obtain ⟨c, Y, rfl, hc, fY, hY, lY⟩ : ∃ (c : Addr) (Y : List Lt), x = .ref c ∧ SqL K H c (Y.map oV) ∧ Fits 0 9 Y ∧ [rowT R0, rowT R1][i]? = some (rowT Y) ∧ Y.length ≤ 80 := by
        obtain ⟨⟨u1, u2, u3⟩, u4, u5, u6⟩ := hR
        have hi2 : i < 2 := (List.getElem?_eq_some_iff.mp hi).1
        have hi' : i = 0 ∨ i = 1 := by omega
        rcases hi' with rfl | rfl
        · exact ⟨a, R0, (Option.some.inj hi).symm, W.a, fun y hy v e => by have := W.f0 y hy v e; omega, rfl, W.most⟩
        · exact ⟨b, R1, (Option.some.inj hi).symm, W.b, fun y hy v e => by have := W.f1 y hy v e; omega, rfl, by rw [← W.len]; exact W.most⟩
      refine ⟨rfl, lc_yes ⟨⟨_, rfl⟩, _, rfl, c, rfl, ⟨_, s1.seq hc⟩, fun D2 hD2 => lc_list (K := K) (a := c) (xs := Y.map oV) (fun j H' => Same H1 H' ∧ H' D2 = some (.lst ((Y.take j).map fun x => V.str (sgT x)))) ⟨Same.upd_new hD2, upd_same⟩ (fun j H' _ z => (s1.trans z.1).seq hc) ?_ ?_⟩⟩
      · rintro j y H2 hj ⟨s2, h2⟩
        rw [List.getElem?_map] at hj
        obtain ⟨z, hz, rfl⟩ := Option.map_eq_some_iff.mp hj
        have hmem : z ∈ Y := List.mem_of_getElem? hz
        have hjl : (Y.take j).length ≤ 80 := by rw [List.length_take]; omega
        have fin : ∀ y : V, y = .str (sgT z) → ∃ acc, H2 D2 = some (.lst acc) ∧ acc.length < sizeLine ∧ Same H1 (upd H2 D2 (.lst (acc ++ [y]))) ∧ (upd H2 D2 (.lst (acc ++ [y]))) D2 = some (.lst ((Y.take (j + 1)).map fun x => V.str (sgT x))) := by
          rintro y rfl
          refine ⟨_, h2, small1000 (by rw [List.length_map]; omega), s2.mut hD2, ?_⟩
          rw [take_succ_of hz, List.map_append]
          exact upd_same
        refine ⟨rfl, lc_yes ?_⟩
        cases z with
        | none => exact ⟨_, rfl, _, rfl, iteT (fin _ (congrArg V.str str_gone))⟩
        | some v =>
          obtain ⟨v0, v1⟩ := fY _ hmem v rfl
          refine ⟨_, rfl, _, rfl, iteF ⟨_, rfl, _, rfl, small_dig v0 v1, fin _ (congrArg V.str (str_dig v0 v1))⟩⟩
      · rintro H2 ⟨s2, h2⟩
        rw [List.length_map, List.take_length] at h2
        refine ⟨_, D2, Y.map sgT, rfl, rfl, .inl (SqL.of (by rw [List.map_map]; exact h2)), ?_, ?_⟩
        · rw [str_no]; exact sg_room lY
        · rw [str_no, join_row]
          refine ⟨_, s2 _ _ h1, small1000 (by rw [List.length_map, List.length_take]; show min i 2 ≤ 1000; omega), (s1.trans s2).mut hD, ?_⟩
          rw [take_succ_of hY, List.map_append]
          exact upd_same
    · rintro H1 ⟨s1, h1⟩
      refine ⟨_, D, [rowT R0, rowT R1], rfl, rfl, .inl (SqL.of h1), ?_, ?_⟩
      · rw [str_nl]; exact rows_room W.most (by rw [← W.len]; exact W.most)
      · rw [str_nl]; exact k H1 s1
end
end Tp
/-! ### kinds.count(True) -/
namespace L2
open PySem PySem.Spec PyProof.Rows
def isBV : Value → Bool
  | .bool b => b
  | _ => false
def rCntB (K : PySem.W.Frag) : V → List V → Hp → VK → Prop := fun x xs H Q => ∃ (p : Addr) (R : List Bool), x = .ref p ∧ xs = [.bl true] ∧ SqL K H p (R.map V.bl) ∧ Q (.int (R.countP id : Nat)) H
theorem cntB_vals : ∀ {us : List Value} {R : List Bool}, Vals (R.map V.bl) us → us.countP isBV = R.countP id ∧ ∀ (A : Around) (s : Shared), ∀ y ∈ us, SeqAt.EqAt A s y (.bool true) (isBV y)
  | [], [], _ => ⟨rfl, fun _ _ y h => absurd h List.not_mem_nil⟩
  | u :: us, x :: R, h => by
    cases h with
    | cons h1 h2 =>
      obtain ⟨i1, i2⟩ := cntB_vals h2
      obtain rfl : u = Value.bool x := h1
      refine ⟨by rw [List.countP_cons, List.countP_cons, i1]; cases x <;> rfl, fun A s y hy => ?_⟩
      rcases List.mem_cons.mp hy with rfl | hy
      · cases x
        · exact SeqAt.EqAt.bool_bool false true
        · exact SeqAt.EqAt.bool_bool true true
      · exact i2 A s y hy
theorem mt_countB {X : Cx} : MtR X "list.count" (rCntB X.K) := by
  intro pins s σ H x xs v us Q I rx rxs h
  obtain ⟨p, R, rfl, rfl, hs, q⟩ := h
  cases rx
  obtain ⟨u, rfl, ru⟩ := rxs.one
  obtain rfl : u = Value.bool true := ru
  obtain ⟨its, rv, ⟨⟨cls, dd, data, sl⟩, n, ho, hc, hdn, hd⟩, hlen⟩ := I.list hs
  simp only at hc hd
  subst hc hd
  obtain ⟨c1, c2⟩ := cntB_vals rv
  refine call_meets PySem.F.slot_list_count ⟨_, ho, rfl⟩ PySem.F.entry_list_count (PySem.F.args_list_count_2 _ _)
    (SeqAt.list_countAt p its.toArray n dd sl (.bool true) isBV) ⟨ho, fun y hy => c2 _ _ y (by simpa using hy), .int (R.countP id : Nat), H, I.tok _, ⟨s.toks, ?_⟩, q⟩
  show Value.int ((its.countP isBV : Nat) : Int) s.toks = _
  rw [c1]
end L2
namespace Tp
open PySem L2
end Tp
/-! ### Own.__init__(self, ..), Own a class of the program over ValueError without an own __init__ -/
namespace L2
open PySem PySem.Spec PyProof.Rows
section
variable {X : Cx} {e : Expr} {es : List Expr} {ta : TA} {p1 p2 pos : Pos}
theorem pe_oinit {pl : Sem Bool} {nm : Str} {C0 : Addr} {mc : Value} (hg : Gl X nm) (hm : X.mg nm = some (.ref C0)) (h1 : PySem.W.specialIn X.K (.ref C0) "__getattribute__" = some (some (.builtin "type.__getattribute__"))) (h2 : PySem.W.readsIn X.K C0 mc = true)
    (vV : PySem.W.findCls X.K (.ref C0) mc "__init__" = some (.val (.builtin "ValueError.__init__"))) (ha : PA X (e :: es) ta)
    (hc : eval (.Call (.Attribute (.Name nm p1) "__init__" p2) (e :: es) [] pos) X.env = (do
      let ov ← eval (.Name nm p1) X.env
      standAt p2.atName
      let (f, first) ← holding [ov] (getMethod ov "__init__" pl)
      callWith pos f first (backTo pos (starEach (e :: es) X.env)) (backToKw pos (keywordEach [] X.env))) := by rfl)
    (hdb : (nm == ("__debug__" : Str)) = false := by decide)
    (he : starEach (e :: es) X.env = (false, eval e X.env) :: starEach es X.env := by rfl) (hpl : (backTo pos (starEach es X.env)).any (·.1) = false := by rfl) :
    PE X (.Call (.Attribute (.Name nm p1) "__init__" p2) (e :: es) [] pos) (tVeI X.K ta) := by
  refine ⟨fun pins s σ H Q I h => ?_⟩
  refine PySem.W.methodCall_KW (ld_glob I hg hm ?_ hdb) hc
  refine PySem.W.method_cls I.kIn h1 (PySem.W.cls_value I.kIn h2 vV (by decide +kernel) ?_)
  show wpAny _ _ (callWith pos (Value.builtin "ValueError.__init__") [] (backTo pos (starEach (e :: es) X.env)) []) _ _ _
  refine PyProof.Rows.callWith_method1 (thn (ha.run pos pins _ σ H _ (I.tok _) h) fun us s1 ⟨vs, H1, I1, r1, a, C, ws, ev, hl, T, ea, q⟩ => ?_) he hpl
  subst ev
  cases r1 with
  | @cons _ u0 _ ur ra rw' =>
    obtain rfl : u0 = Value.ref a := ra
    have hlen : ur.length ≤ sizeLine := by
      rw [← Paired.length rw', sizeLine_eq]
      omega
    exact oinit_ok T I1 ea hlen fun s' J => ⟨.non, H1, J, rfl, q⟩
end
end L2
namespace Tp
open PySem L2
end Tp
/-! ### isinstance of a caught error that has a dict -/
namespace L2
open PySem PySem.Spec PyProof.Rows
def rIsX (K : PySem.W.Frag) (D a dd : Addr) : List V → Hp → VK → Prop := fun xs H Q => ∃ (c : V) (cv : Value) (b : Bool) (fs : List (Str × V)), xs = [.ref a, c] ∧ (∀ u, RelV c u → u = cv) ∧ H dd = some (.xd fs) ∧ PySem.W.kitOne K (.ref D) cv = some b ∧ Q (.bl b) H
def rIsXT (K : PySem.W.Frag) (D a dd : Addr) : List V → Hp → VK → Prop := fun xs H Q => ∃ (t : Addr) (Cs : List Addr) (b : Bool) (fs : List (Str × V)), xs = [.ref a, .ref t] ∧ H t = some (.tup (Cs.map V.ref)) ∧ H dd = some (.xd fs) ∧ PySem.W.kitAny K (.ref D) (Cs.map Value.ref) = some b ∧ Q (.bl b) H
theorem refs_vals : ∀ {Cs : List Addr} {us : List Value}, Vals (Cs.map V.ref) us → us = Cs.map Value.ref
  | [], _, .nil => rfl
  | c :: Cs, _, .cons r h => by
    cases r
    rw [refs_vals h]
    rfl
section
variable {X : Cx} {a D dd : Addr} {oe : Obj} {pn : List (Addr × Obj)}
theorem kit_caught (C : ExcC X.K D) {ox : Obj} {od : Option Obj} : PySem.W.KitX X.K (.ref a) (.ref D) (fun h => PySem.W.InstAt h a ox D od) :=
  PySem.W.kitx_exc (by obtain ⟨cd, hc, _⟩ := PySem.W.any_some C.hd; rw [hc]; rfl) C.hg C.hk C.hs C.ha C.hn C.ht C.hm
theorem caught_at {pins : List (Addr × Obj)} {σ : St} {H : Hp} {s : Shared} {fs : List (Str × V)} (I : Inv (X.suite a ((a, oe) :: pn)) pins σ H s) (hz : Zc (.ref D) (some dd) oe) (hf : ∃ vs, oe.data = .fields vs) (hd : H dd = some (.xd fs)) : ∃ od, PySem.W.InstAt s.heap a oe D (some od) := by
  obtain ⟨ga, _⟩ := I.pin (a, oe) (List.mem_append.mpr (.inl List.mem_cons_self))
  obtain ⟨vs, hv⟩ := hf
  have hx : ObjOk X.prog X.w H s.heap dd (.xd fs) := I.hok dd _ hd
  obtain ⟨mA, hns, _⟩ := hx
  obtain ⟨od, ho, _⟩ := lookIn_ns hns
  exact ⟨od, ga, hz.1, by unfold PySem.W.notCls; rw [hv] <;> rfl, by rw [hz.2]; exact ho⟩
theorem call_isX (C : ExcC X.K D) (hz : Zc (.ref D) (some dd) oe) (hf : ∃ vs, oe.data = .fields vs) : CallR (X.suite a ((a, oe) :: pn)) (.builtin "isinstance") (rIsX X.K D a dd) := by
  intro pins s σ H xs us Q I r h
  obtain ⟨c, cv, b, fs, rfl, hcv, hd, e, q⟩ := h
  obtain ⟨od, J⟩ := caught_at I hz hf hd
  match us, r with
  | _, .cons r1 (.cons r2 .nil) =>
    cases r1
    obtain rfl := hcv _ r2
    exact PySem.W.kia_one (kit_caught C) I.kIn J e (fun z => nomatch z) fun tk => ⟨.bl b, H, I.kept (t' := tk) fun _ _ z => z, rfl, q⟩
theorem call_isXT (C : ExcC X.K D) (hz : Zc (.ref D) (some dd) oe) (hf : ∃ vs, oe.data = .fields vs) : CallR (X.suite a ((a, oe) :: pn)) (.builtin "isinstance") (rIsXT X.K D a dd) := by
  intro pins s σ H xs us Q I r h
  obtain ⟨t, Cs, b, fs, rfl, ht, hd, e, q⟩ := h
  obtain ⟨od, J⟩ := caught_at I hz hf hd
  match us, r with
  | _, .cons r1 (.cons r2 .nil) =>
    cases r1
    cases r2
    have hT : ObjOk X.prog X.w H s.heap t (.tup (Cs.map V.ref)) := I.hok t _ ht
    obtain ⟨_, its, rv, o, h1, h2, n, h3⟩ := hT
    obtain rfl := refs_vals rv
    obtain ⟨oc, od', dt, sl⟩ := o
    dsimp only at h2 h3
    subst h2 h3
    exact PySem.W.kia_tup (kit_caught C) I.kIn J h1 e (fun z => nomatch z) fun tk => ⟨.bl b, H, I.kept (t' := tk) fun _ _ z => z, rfl, q⟩
end
end L2
namespace Tp
open PySem L2
/-- the handler's block, whatever is caught -/
def tsX (X : Cx) (body : List Stmt) : Addr → Value → Option Addr → TS := fun a cls d D σ H => ∀ (oe : Obj) (pn : List (Addr × Obj)), Zc cls d oe → (∃ vs, oe.data = .fields vs) → ∃ t : TS, PSs (X.suite a ((a, oe) :: pn)) body t ∧ (σ.length = X.N.length → t D σ H)
theorem ps_tryX {X : Cx} {x n : Str} {np pos pos' : Pos} {body suite : List Stmt} {b₀ : Stmt} {c : Value} {i : Nat} {tb : WX → TS} (hs : X.stack = X.env :: X.outer) (hf : X.env.frame = some X.env.locals) (hN : X.N.Nodup) (hi : X.N[i]? = some n) (hln : X.env.kindOf n = some .local) (hc : Names X x c)
    (hb : ∀ (W : WX) (pn : List (Addr × Obj)) (xe : Value → Shared → Prop), Takes (X.tr pn xe) W → PassesOwn (model X.prog X.w) X.A X.env xe → PSs (X.tr pn xe) body (tb W)) :
    PS X (.Try body [.ExceptHandler (some (.Name x np)) (some n) (b₀ :: suite) pos'] [] [] pos) (fun D σ H => tb (wAs X.K c i (tsX X (b₀ :: suite)) (fun _ _ _ _ => False) D) D σ H) :=
  ps_try_as hs hf hN hi hln hc L2.takes0 hb fun a oe cls d pn hz hf => ⟨fun pins s σ H D I h => by
    obtain ⟨t, ht, h⟩ := h oe pn hz hf
    exact ht.run pins s σ H D I (h I.len)⟩
end Tp
/-! ### a list comprehension out of which an exception leaves (the def's own context, no tests) -/
namespace L2
open PySem PySem.Spec PyProof.Rows
theorem frame_only {u : Value} {e1 e2 : Env} (h : e1.frame = e2.frame) : noteFrame u e1 = noteFrame u e2 := by
  unfold noteFrame PySem.frameOf
  rw [h]
/-- an exception that was noted, its flight set to anything, is noted by the frame at hand -/
theorem note_any {M : Model} {A : Around} {E : Value → Shared → Prop} {s : Shared} {Z : Obj → Prop} {B : Heap} {env : Env} {outer : List Env} {L a : Addr} {fl : Value} {Q : Unit → Shared → Prop} (hZ : HandSPX.Steady Z) (hfr : A.frames = some (env :: outer)) (hf : env.frame = some L)
    (k1 : B.StaysIn s.heap) (k2 : B.get? a = none) (k3 : s.heap.FunFrames B (env :: outer)) (k4 : HandSPX.TracedZ s.heap B a Z fl) (hQ : ∀ h', HandSPX.HeldZ B (env :: outer) a Z L h' → s.heap.UpToSlots h' → Q () { s with heap := h' }) : wpAny M A (noteFrame (.ref a) env) Q E s := by
  by_cases c : fl = rawInt L
  · subst c
    exact HandSPX.againZ hf k4 (hQ s.heap ⟨k1, k2, k3, k4⟩ (Heap.UpToSlots.refl _))
  · obtain ⟨oe, vs, T, oT, ts, ge, ze, de, i1, nT, nTa, gT, dT, i3⟩ := k4
    have far : ∀ b, b ≠ T → (s.heap.update T (Obj.mapFields (·.setIfInBounds 3 Value.none))).get? b = s.heap.get? b := fun b q => Heap.get?_update_other _ _ (fun z => q z.symm)
    have plain : ∀ b o, s.heap.get? b = some o → (∀ w, o.data ≠ .fields w) → b ≠ T := fun b o e n z => by
      rw [z, gT] at e
      cases e
      exact n ts dT
    have c1 : (Value.ref T != Value.none) = true := by simp
    have c2 : ¬ (fl == rawInt L) = true := by simpa using c
    have w3 : 3 < ts.size := (Array.getElem?_eq_some_iff.mp i3).1
    have w1 : 1 < vs.size := (Array.getElem?_eq_some_iff.mp i1).1
    unfold noteFrame
    simp only [hf]
    refine wpAny_bind (wpAny_field ge de i1 ?_)
    rw [if_pos c1]
    refine wpAny_bind (wpAny_field gT dT i3 ?_)
    rw [if_neg c2]
    refine wpAny_bind (wpAny_setField gT dT w3 ?_)
    exact HandSPX.wpAny_entryZ hZ hfr (k3.of_keeps fun b o e n => ⟨o, (far b (plain b o e n)).trans e, rfl⟩) hf ((far a (Ne.symm nTa)).trans ge)
      (fun b o e => (far b fun z => by rw [z, nT] at e; cases e).trans (k1 b o e)) k2 de w1 ze fun h' ⟨x1, x2, x3, x4⟩ => hQ h' ⟨x1, k2, x2, x3⟩ fun b o e n => x4 b o ((far b (plain b o e n)).trans e) n
/-- the context of a comprehension's block out of which E may leave -/
abbrev Cx.blkE (X : Cx) (s : Shared) (H : Hp) (scope : Scope) (ce : Env) (fp : List Addr) (E : XK) : Cx := { X.blk s H scope ce fp with xe := fun u s' => ∃ (pins : List (Addr × Obj)) (σ : St) (Hc : Hp) (sc : Shared), Inv (X.blk s H scope ce fp) pins σ Hc sc ∧ CX X.prog X.w X.stack Hc sc E u s' }
section
variable {X : Cx} {pins pb : List (Addr × Obj)} {σ σb : St} {H H3 Hc : Hp} {s s3 sc : Shared} {scope : Scope} {ce : Env} {fp : List Addr} {E : XK}
theorem Inv.toE (I : Inv (X.blk s3 H3 scope ce fp) pins σ H s) : Inv (X.blkE s3 H3 scope ce fp E) pins σ H s := by
  obtain ⟨⟨a1, a2, a3, a4, a5, a6, a7, a8, a9, a10, a11, a12, a13, a14, a15, a16, a17, a18⟩, b1, b2, b3, b4, b5, b6, b7, b8, b9, b10⟩ := I
  exact ⟨⟨a1, a2, a3, a4, a5, a6, a7, a8, a9, a10, a11, a12, a13, a14, a15, a16, a17, a18⟩, b1, b2, b3, b4, b5, b6, b7, b8, b9, b10⟩
theorem Inv.ofE (I : Inv (X.blkE s3 H3 scope ce fp E) pins σ H s) : Inv (X.blk s3 H3 scope ce fp) pins σ H s := by
  obtain ⟨⟨a1, a2, a3, a4, a5, a6, a7, a8, a9, a10, a11, a12, a13, a14, a15, a16, a17, a18⟩, b1, b2, b3, b4, b5, b6, b7, b8, b9, b10⟩ := I
  exact ⟨⟨a1, a2, a3, a4, a5, a6, a7, a8, a9, a10, a11, a12, a13, a14, a15, a16, a17, a18⟩, b1, b2, b3, b4, b5, b6, b7, b8, b9, b10⟩
theorem passE : Passes (CX X.prog X.w) (X.blkE s3 H3 scope ce fp E) E := fun pins σ H s _ _ I c => ⟨pins, σ, H, s, I.ofE, c⟩
/-- what a callee let out in the block leaves the def -/
theorem blk_raise {E₁ : Value → Shared → Prop} (hs : X.stack = X.env :: X.outer) (hf : X.env.frame = some X.env.locals) (hex : X.ex = []) (hx : X.xe = fun e s' => wpAny (model X.prog X.w) X.A (leaving X.env e) (fun _ s'' => CX X.prog X.w X.outer X.H_0 X.s_0 E e s'') E₁ s')
    (I3 : Inv X pins σ H3 s3) (f3 : ∀ b ∈ fp, FpOk X pins H3 b ∧ b < s3.heap.objs.size) (Ib : Inv (X.blk s3 H3 scope ce fp) pb σb Hc sc) (cL : ce.locals = s3.heap.objs.size) (cF : ce.frame = X.env.frame) {use : Option (Value → Sem Unit)} {Qf : Value → Shared → Prop} {D u : Value} {s' : Shared}
    (c : CX X.prog X.w X.stack Hc sc E u s') : notedBy (model X.prog X.w) X.A ce (fun e s1 => compPost (model X.prog X.w) X.A X.xe use Qf D s3.heap.objs.size (.error e) s1) u s' := by
  obtain ⟨a, B, H', cls, d, rfl, fly, hok, ub, na, os, ag, hE⟩ := c
  generalize hC : s3.heap.objs.size = C at cL ⊢
  obtain ⟨m, ⟨oC, es, ep, eC, dC, rC⟩, _⟩ := Ib.loc
  have nC : C ∉ frs X.stack := fun z => by
    obtain ⟨_, o, e, _⟩ := I3.stack.mem z
    have := Heap.lt_size e
    rw [hC] at this
    exact Nat.lt_irrefl _ this
  have eC : sc.heap.get? C = some oC := by rw [← cL]; exact eC
  have fC : Hc C = none := by rw [← cL]; exact Ib.free
  have bC : B.get? C = some oC := ub.keep C oC eC fC nC
  have h'C : H' C = none := ub.free C oC eC fC
  have hfr : X.A.frames = some (X.env :: X.outer) := by rw [I3.ok.frames, hs]
  obtain ⟨G, g1, g2⟩ := restrict B fun b => decide (b ≠ C)
  have gC : G.get? C = none := g2 C (by simp)
  have gN : ∀ {b : Addr}, b ≠ C → G.get? b = B.get? b := fun {b} n => g1 b (by simpa using n)
  have gB : ∀ {b : Addr} {o : Obj}, G.get? b = some o → b ≠ C ∧ B.get? b = some o := fun {b o} e => by
    have n : b ≠ C := fun z => by rw [z, gC] at e; cases e
    exact ⟨n, (gN n).symm.trans e⟩
  show wpAny _ _ (noteFrame (.ref a) ce) _ _ _
  rw [frame_only cF]
  rw [hs] at fly
  refine HandSPX.looks_onZ Zc.steady hfr hf fly fun h1 held up1 => ?_
  obtain ⟨k1, k2, k3, oe, vs, T, oT, ts, ge, ze, de, i1, nT, nTa, gT, dT, i3⟩ := held
  refine ⟨m, ⟨oC, es, ep, k1 C oC bC, dC, rC⟩, fun h' sb cenv _ => ?_⟩
  have aC : a ≠ C := fun z => by rw [z, bC] at k2; cases k2
  have TC : T ≠ C := fun z => by rw [z, bC] at nT; cases nT
  have far : ∀ {b : Addr}, b ≠ C → h'.get? b = h1.get? b := fun {b} n => sb.2 b n
  have fc : ∀ b ∈ frs (X.env :: X.outer), b ≠ C := fun b hb z => nC (by rw [hs, ← z]; exact hb)
  have t1 : G.StaysIn h' := fun b o e => (far (gB e).1).trans (k1 b o (gB e).2)
  have t2 : G.get? a = none := (gN aC).trans k2
  have up2 : ∀ b o, b ≠ C → h1.get? b = some o → h'.get? b = some o := fun b o n e => (far n).trans e
  have t3 : h'.FunFrames G (X.env :: X.outer) := by
    have key : ∀ l : List Env, (∀ b ∈ frs l, b ≠ C) → h1.FunFrames B l → h'.FunFrames G l := by
      intro l
      induction l with
      | nil => exact fun _ _ => trivial
      | cons e l ih =>
        rintro n ⟨q1, ⟨L, o, q2, q3, q4, q5⟩, q6⟩
        have LC : L ≠ C := n L (List.mem_filterMap.mpr ⟨e, List.mem_cons_self, q2⟩)
        refine ⟨q1, ⟨L, o, q2, (gN LC).trans q3, up2 L o LC q4, q5⟩, ih (fun b hb => n b ?_) q6⟩
        obtain ⟨e', he', q⟩ := List.mem_filterMap.mp hb
        exact List.mem_filterMap.mpr ⟨e', List.mem_cons_of_mem _ he', q⟩
    exact key _ fc k3
  have t4 : HandSPX.TracedZ h' G a (Zc cls d) (rawInt X.env.locals) := ⟨oe, vs, T, oT, ts, up2 a oe aC ge, ze, de, i1, (gN TC).trans nT, nTa, up2 T oT TC gT, dT, i3⟩
  have c1 : ¬ (Value.ref T == Value.none) = true := by simp
  have ga' := up2 a oe aC ge
  show wpAny _ _ (PySem.passOn "comprehension.variables-let-go" (.ref a) cenv : Sem Value) _ _ _
  unfold PySem.passOn
  refine wpAny_bind (wpAny_field ga' de i1 ?_)
  rw [if_neg c1]
  refine wpAny_bind (HandSPX.setFlight_anyZ t1 t3 t4 fun h2 j1 j3 j4 up3 => wpAny_throw ?_)
  rw [hx]
  show wpAny _ _ (leaving X.env (.ref a)) _ _ _
  unfold leaving
  refine wpAny_bind (note_any Zc.steady hfr hf j1 t2 j3 j4 fun h3 held3 up4 => HandSPX.landsZ held3 fun h4 fly4 up5 => ?_)
  obtain ⟨m1, m2, ⟨_, _, m3⟩, m4⟩ := fly4
  have nx : ∀ b, b ∉ X.ex := fun b hb => by rw [hex] at hb; cases hb
  have old : ∀ b o, X.s_0.heap.get? b = some o → b ∉ fp ∧ b ≠ C := fun b o e => by
    have l0 := Heap.lt_size e
    refine ⟨fun hb => ?_, fun z => ?_⟩
    · rcases (f3 b hb).1.2.2.2.1 with z | z
      · exact nx b z
      · exact absurd (Nat.lt_of_lt_of_le l0 z) (Nat.lt_irrefl _)
    · obtain ⟨o', e'⟩ := I3.base.there b o e (nx b)
      have := Heap.lt_size e'
      rw [hC, z] at this
      exact Nat.lt_irrefl _ this
  have nst : ∀ b o, X.s_0.heap.get? b = some o → b ∉ frs X.outer → b ∉ frs X.stack := fun b o e hb hm => by
    rcases List.mem_cons.mp (I3.stkSub b hm) with z | z
    · have l1 := Heap.lt_size e
      rw [z] at l1
      exact Nat.lt_irrefl _ (Nat.lt_of_lt_of_le l1 I3.ok.above)
    · exact hb z
  have sub : ∀ b ∈ frs X.outer, b ∈ frs X.stack := fun b hb => by
    rw [hs]
    obtain ⟨e', he', q⟩ := List.mem_filterMap.mp hb
    exact List.mem_filterMap.mpr ⟨e', List.mem_cons_of_mem _ he', q⟩
  have to4 : ∀ b o, s'.heap.get? b = some o → (∀ v, o.data ≠ .fields v) → b ≠ C → ∃ sl, h4.get? b = some { o with slots := sl } := fun b o e n bn => by
    obtain ⟨s1, e1⟩ := up1 b o e n
    obtain ⟨s2, e2⟩ := up3 b _ (up2 b _ bn e1) n
    obtain ⟨s3, e3⟩ := up4 b _ e2 n
    obtain ⟨s4, e4⟩ := up5 b _ e3 n
    exact ⟨s4, e4⟩
  have hokG : HOk X.prog X.w H' G := fun b o e => (hok b o e).stay (fun x v hx q => (gN fun z => by
      rcases hx with hx | hx
      · rw [← hx, z, h'C] at e; cases e
      · rw [z, h'C] at hx; cases hx).trans q) (fun _ q => q) fun _ _ q => q
  refine ⟨a, G, H', cls, d, rfl, ⟨m1, m2, m3, m4⟩, hokG, ⟨fun b o e n hb => ?_, fun b o e hb => ?_, fun b o e n => ?_, fun b o e hb => ?_, fun b xs e => ub.tups b xs (Ib.base.tups b xs (I3.base.tups b xs e)), fun b o v e => ub.frzs b o v (Ib.base.frzs b o v (I3.base.frzs b o v e)), fun b ps e => ?_⟩, na, os.trans (Ib.os.trans I3.os), ag, hE⟩
  · obtain ⟨q1, q2⟩ := old b o e
    have e3 := I3.base.keep b o e n hb (nx b)
    have n3 := I3.base.free b o e n (nx b)
    have ns := nst b o e hb
    exact (gN q2).trans (ub.keep b o (Ib.base.keep b o e3 n3 ns q1) (Ib.base.free b o e3 n3 q1) ns)
  · obtain ⟨q1, q2⟩ := old b o e
    obtain ⟨_, o0, e0, hnf⟩ := I3.ok.funs.mem hb
    rw [e] at e0
    cases e0
    have n0 := I3.ok.frf b hb
    obtain ⟨s1, e1⟩ := I3.base.slot b o e n0 hb (nx b)
    have n1 := I3.base.free b o e n0 (nx b)
    obtain ⟨s2, e2⟩ := Ib.base.slot b _ e1 n1 (sub b hb) q1
    obtain ⟨s3, e3⟩ := ub.slot b _ e2 (sub b hb)
    obtain ⟨s4, e4⟩ := to4 b _ e3 hnf q2
    exact ⟨s4, e4⟩
  · obtain ⟨q1, q2⟩ := old b o e
    obtain ⟨o1, e1⟩ := I3.base.there b o e (nx b)
    have n1 := I3.base.free b o e n (nx b)
    obtain ⟨o2, e2⟩ := Ib.base.there b o1 e1 q1
    exact ub.free b o2 e2 (Ib.base.free b o1 e1 n1 q1)
  · obtain ⟨q1, q2⟩ := old b o e
    obtain ⟨o1, e1⟩ := I3.base.there b o e (nx b)
    obtain ⟨o2, e2⟩ := Ib.base.there b o1 e1 q1
    obtain ⟨o3, e3⟩ := ub.there b o2 e2 (nst b o e hb)
    exact ⟨o3, (gN q2).trans e3⟩
  · obtain ⟨p1, e1⟩ := I3.base.tbls b ps e
    obtain ⟨p2, e2⟩ := Ib.base.tbls b _ e1
    obtain ⟨p3, e3⟩ := ub.tbls b _ e2
    exact ⟨p1 ++ p2 ++ p3, by rw [e3]; simp only [Array.append_assoc]⟩
end
section
variable {X : Cx}
theorem lcX_core {pins : List (Addr × Obj)} {s : Shared} {σ : St} {H : Hp} {Q : VK} {elt tg iter : Expr} {scope : Scope} {own : List (Str × Nat)} {pos pos' : Pos} {wi : TI} {g : TG} {te : TE} {use : Option (Value → Sem Unit)} {Qf : Value → Shared → Prop} {E : XK} {E₁ : Value → Shared → Prop}
    (hs : X.stack = X.env :: X.outer) (hf : X.env.frame = some X.env.locals) (hex : X.ex = []) (hx : X.xe = fun e s' => wpAny (model X.prog X.w) X.A (leaving X.env e) (fun _ s'' => CX X.prog X.w X.outer X.H_0 X.s_0 E e s'') E₁ s')
    (hc : X.calm = true) (hN : X.N.Nodup) (I : Inv X pins σ H s) (hi : PI X tg iter wi) (ok : BlkOk X.N X.env.scope scope own) (hg : ∀ (s : Shared) (H : Hp) (C : Addr) (cl : List (Str × Addr)) (fp : List Addr), PG (X.blk s H scope (compEnvC scope cl C X.env) fp) tg g)
    (he : ∀ (s : Shared) (H : Hp) (C : Addr) (cl : List (Str × Addr)) (fp : List Addr), PE (X.blkE s H scope (compEnvC scope cl C X.env) fp E) elt te) (hset : ∀ x, foldedSetIterable iter X.env x = pure x) (h : tLc wi g tYes te (own.map (·.2)) σ H Q)
    (hend : ∀ D C s' m H', Inv X pins σ H' s' → Q (.ref D) H' → s'.heap.Ns C m → FpOk X pins H' C → compPost (model X.prog X.w) X.A X.xe use Qf (.ref D) C (.ok .next) s') :
    wpAny (model X.prog X.w) X.A (comprehension (.ListComp elt [⟨tg, iter, [], 0⟩] scope pos) scope X.env pos' (newList []) false (eval iter X.env) use) Qf X.xe s := by
  have closed : ∀ y ∈ scope.names, y.2 = .free → ∃ c, X.env.cells.lookup y.1 = some c := fun y hy e => I.ok.has _ ((ok.free y hy e).imp (fun k => k) (fun k => k))
  refine wpAny_comprehension_free (use := use) rfl hset (closure_ok closed) ok.kind (fun y hy e => (ok.uniq y hy).trans (by rw [e])) (thn (hi.run pins s σ H _ I h) fun xv sa ha => thn ha fun iv sb hb => ?_)
  obtain ⟨it, fp, tn, J, H2, rfl, I2, T, st2, fpk, q⟩ := hb
  refine wpAny_newObj_type (newEnv_comp ?_) (by show 0 ≤ sizeLine; decide)
  generalize hD : sb.heap.objs.size = D
  have D0 : H2 D = none := I2.hok.fresh (Nat.le_of_eq hD)
  obtain ⟨W, ⟨n0, w0⟩, turns⟩ := q D D0
  generalize e3 : ({ sb with heap := sb.heap.push { cls := .type "list", data := .seq ([] : List Value).toArray } } : Shared) = s3
  have I3 : Inv X pins σ (upd H2 D (.lst [])) s3 := by
    rw [← e3]
    exact I2.laid (t' := sb.toks) (fun b o e => Heap.get?_push_of_some _ e) (Nat.le_of_eq hD) ⟨Nat.zero_le _, [], 0, .nil, by rw [← hD]; exact Heap.get?_push_size _ rfl⟩
  have heap3 : s3.heap = sb.heap.push { cls := .type "list", data := .seq ([] : List Value).toArray } := by rw [← e3]
  have k23 : ∀ b o, sb.heap.get? b = some o → s3.heap.get? b = some o := fun b o e => by rw [heap3]; exact Heap.get?_push_of_some _ e
  have f3 : ∀ b ∈ fp, FpOk X pins (upd H2 D (.lst [])) b ∧ b < s3.heap.objs.size := fun b hb => by
    obtain ⟨o, e, _⟩ := T.obj _ _ st2 b hb
    have lt := Heap.lt_size e
    refine ⟨⟨(upd_ne (fun z => Nat.lt_irrefl _ (by rw [hD, z] at lt; exact lt))).trans (fpk b hb).1, (fpk b hb).2⟩, Heap.lt_size (k23 b o e)⟩
  have st3 : tn 0 s3.heap := T.keep _ _ _ st2 fun b _ o e => k23 b o e
  have I4 := block_start I3 ok hN f3
  generalize hcl : cellsFrom (s3.heap.objs.size + 1) scope.names (cloFrom X.env.cells scope.names []) = cl at I4
  have pg := hg s3 (upd H2 D (.lst [])) s3.heap.objs.size cl fp
  have pe := he s3 (upd H2 D (.lst [])) s3.heap.objs.size cl fp
  show codeAny _ _ (.compStart (.ListComp elt [⟨tg, iter, [], 0⟩] scope pos) 0 (.ref it) (.ref D) (compEnvC scope cl s3.heap.objs.size X.env)) (compPost (model X.prog X.w) X.A X.xe use Qf (.ref D) s3.heap.objs.size) { s3 with heap := pushCells (s3.heap.push { cls := .type "dict", data := .dict #[] }) scope.names }
  generalize hce : compEnvC scope cl s3.heap.objs.size X.env = ce at I4 pg pe ⊢
  have cL : ce.locals = s3.heap.objs.size := by rw [← hce]; rfl
  have cF : ce.frame = X.env.frame := by rw [← hce]; rfl
  generalize hH3 : upd H2 D (.lst []) = H3 at I3 I4 pg pe w0 f3
  generalize e4 : ({ s3 with heap := pushCells (s3.heap.push { cls := .type "dict", data := .dict #[] }) scope.names } : Shared) = s4 at I4 ⊢
  have st4 : tn 0 s4.heap := T.keep _ _ _ st3 fun b _ o e => by rw [← e4]; exact pushCells_keeps _ _ _ _ (Heap.get?_push_of_some _ e)
  have stat : ∀ {σ' : St} {H' : Hp} {s' : Shared}, Inv (X.blk s3 H3 scope ce fp) [] σ' H' s' → (∀ b ∈ fp, H' b = none) → ∀ b ∈ fp, FpOk (X.blk s3 H3 scope ce fp) [] H' b := fun {σ' H' s'} J n b hb =>
    ⟨n b hb, (J.ok.exf b hb).1, J.ok.exfs b hb, .inl hb, (J.ok.exf b hb).2, fun p hp => absurd (show p ∈ ([] : List (Addr × Obj)) ++ [] from hp) (by simp)⟩
  have run : codeAny (model X.prog X.w) X.A (.compLoop (.ListComp elt [⟨tg, iter, [], 0⟩] scope pos) 0 (.ref it) (.ref D) ce) (compPost (model X.prog X.w) X.A X.xe use Qf (.ref D) s3.heap.objs.size) s4 := by
    refine compLoop_any (fun n s' => ∃ i H', Inv (X.blk s3 H3 scope ce fp) [] (wipe σ (own.map (·.2))) H' s' ∧ tn i s'.heap ∧ (∀ b ∈ fp, H' b = none) ∧ W i n H') ?_ n0 ⟨0, H3, I4, st4, fun b hb => (f3 b hb).1.1, w0⟩
    rintro n s5 ⟨i, H5, I5, st5, n5, w5⟩
    rcases turns i n H5 w5 with ⟨stop, qq⟩ | ⟨go, Nx, hNx, step⟩
    · refine thnF (T.done (X.blk s3 H3 scope ce fp) rfl rfl rfl hc i [] s5 _ H5 (fun _ _ => False) I5 (stat I5 n5) st5 stop) fun r s6 ⟨er, I6⟩ => ?_
      subst er
      have I7 : Inv X pins σ H5 s6 := I3.call' (ch := fp) I6.os I6.base I6.hok I6.bare fun b hb => ⟨(f3 b hb).1.2.2.2.1, (f3 b hb).1.2.1, (f3 b hb).1.2.2.2.2.1, (f3 b hb).1.2.2.2.2.2⟩
      obtain ⟨m, hn, _⟩ := I6.loc
      exact hend D _ s6 m H5 I7 qq (by rw [← cL]; exact hn) (I3.fpOk (Nat.le_refl _) (by rw [← cL]; exact I6.free))
    · refine thnF (T.item (X.blk s3 H3 scope ce fp) rfl rfl rfl hc i [] s5 _ H5 (fun _ _ => False) I5 (stat I5 n5) st5 go) fun r s6 ⟨u, er, h6⟩ => ?_
      subst er
      refine thnF h6 fun _ s7 ⟨x, H7, I7, r7, y7, st7, n7⟩ => ?_
      refine thnF (pg.run _ s7 _ H7 x u _ (I7.pinned (stat I7 n7) (T.obj _ _ st7)) r7 (step x H7 y7)) fun _ s8 ⟨σ8, H8, I8, hw, q8⟩ => ?_
      refine wpAny_tests_nil ?_
      have q8 : te σ8 H8 fun y H4 => ∃ acc, H4 D = some (.lst acc) ∧ acc.length < sizeLine ∧ Nx (upd H4 D (.lst (acc ++ [y]))) := q8
      show wpAny _ _ (eval elt ce) _ _ _
      refine wpAny_mono (pe.run _ s8 σ8 H8 _ I8.toE q8) (fun z s10 ⟨yv, H10, I10, r10, acc, hD10, hz10, nx⟩ => ?_) fun u s9 ⟨pn, σ9, Hc, sc, Ic, c⟩ => blk_raise hs hf hex hx I3 f3 Ic cL cF c
      refine app_ok (X := X.blk s3 H3 scope ce fp) I10.ofE hD10 hz10 r10 fun s11 I11 => ?_
      obtain ⟨m', hm, w'⟩ := hNx _ nx
      have pinned : ∀ b ∈ fp, ∀ o, s7.heap.get? b = some o → s11.heap.get? b = some o ∧ (upd H10 D (.lst (acc ++ [yv]))) b = none := fun b hb o e =>
        let z := I11.pin (b, o) (List.mem_append_right _ (List.mem_append_right _ (mem_pinsAt hb e)))
        ⟨z.1, z.2.1⟩
      refine ⟨m', hm, i + 1, _, (I11.unpinned (pins := [])).weak (by rw [← hw, wipe_length]) (fun j v e => ?_), T.keep _ _ _ st7 fun b hb o e => (pinned b hb o e).1, fun b hb => ?_, w'⟩
      · rw [← hw] at e
        exact (wipe_some e).1
      · obtain ⟨o, e, _⟩ := T.obj _ _ st7 b hb
        exact (pinned b hb o e).2
  exact codeAny_compStart_list run (T.self X.A 0 _ _ _ st4 run)
/-- name = [..], the name a local; an exception may leave -/
theorem ps_setLcX {i : Nat} {y : Str} {py : Pos} {elt tg iter : Expr} {scope : Scope} {own : List (Str × Nat)} {pos spos : Pos} {wi : TI} {g : TG} {te : TE} {E : XK} {E₁ : Value → Shared → Prop}
    (hs : X.stack = X.env :: X.outer) (hf : X.env.frame = some X.env.locals) (hex : X.ex = []) (hx : X.xe = fun e s' => wpAny (model X.prog X.w) X.A (leaving X.env e) (fun _ s'' => CX X.prog X.w X.outer X.H_0 X.s_0 E e s'') E₁ s')
    (hc : X.calm = true) (hN : X.N.Nodup) (hy : X.N[i]? = some y) (hyl : X.env.scope.names.lookup y = some .local) (hsw : swapsWith (.ListComp elt [⟨tg, iter, [], 0⟩] scope pos) (some (.Name y py)) spos.line X.env = pure true) (hi : PI X tg iter wi) (ok : BlkOk X.N X.env.scope scope own)
    (hg : ∀ (s : Shared) (H : Hp) (C : Addr) (cl : List (Str × Addr)) (fp : List Addr), PG (X.blk s H scope (compEnvC scope cl C X.env) fp) tg g)
    (he : ∀ (s : Shared) (H : Hp) (C : Addr) (cl : List (Str × Addr)) (fp : List Addr), PE (X.blkE s H scope (compEnvC scope cl C X.env) fp E) elt te) (hset : ∀ x, foldedSetIterable iter X.env x = pure x := by intro _; rfl) :
    PS X (.Assign [.Name y py] (.ListComp elt [⟨tg, iter, [], 0⟩] scope pos) spos) (tAsg (tLc wi g tYes te (own.map (·.2))) (gName i)) := by
  refine ⟨fun pins s σ H D I h => ?_⟩
  have h : tLc wi g tYes te (own.map (·.2)) σ H (fun x H1 => gName i x σ H1 D.nx) := h
  rw [exec_Assign_Name_used _ _ _ _ hsw]
  refine wpAny_bind (wpAny_standAt (wpAny_bind ?_))
  refine wpAny_bind (thn (lcX_core (pos' := firstIterPos [⟨tg, iter, [], 0⟩] pos) (use := some (assign (.Name y py) X.env)) (Qf := fun _ s' => SP X pins D .next s') hs hf hex hx hc hN I hi ok hg he hset h fun L C s' m H' J q hn f => ?_) fun _ s' z => wpAny_pure (wpAny_pure z))
  show wpAny _ _ (assign (.Name y py) X.env (.ref L)) _ _ _
  obtain ⟨a0, a1, a2, a3, a4, a5⟩ := f
  refine wpAny_assign_Name (store_ok2 (v := V.ref L) J hN hy (.inl hyl) rfl (fun s2 J2 ⟨a, sb, ha⟩ => ?_) (.inr hyl))
  have Ca : C ≠ a := fun z => ha.elim (fun w => a1 (z.trans w)) fun w => a4 y a w z.symm
  exact ⟨m, hn.sameBut sb Ca, fun h3 sb3 => ⟨_, H', J2.turned (t' := s2.toks) (fun b o hb e => (sb3.2 b hb).trans e) a0 a1 a3 a4 a5, q⟩⟩
end
end L2
namespace Tp
open PySem L2
/-- a comprehension's turns, as its reading asks for them -/
def LcW (J : It) (g : TG) (tt : TT) (te : TE) (vs : List Nat) (σ : L2.St) (H1 : Hp) (D : Addr) (Qd : Hp → Prop) : Prop :=
  ∃ W : Nat → Nat → Hp → Prop, (∃ m, W 0 m (upd H1 D (.lst []))) ∧ ∀ i m H, W i m H →
    (J.stop i H ∧ Qd H) ∨ (J.go i H ∧ ∃ Nx : Hp → Prop, (∀ H', Nx H' → ∃ m', m' < m ∧ W (i + 1) m' H') ∧ ∀ x H', J.yld i H x H' → g x (wipe σ vs) H' fun σ2 H2 => wipe σ2 vs = wipe σ vs ∧ tt σ2 H2 fun b H3 =>
      if b = true then te σ2 H3 fun y H4 => ∃ acc, H4 D = some (.lst acc) ∧ acc.length < sizeLine ∧ Nx (upd H4 D (.lst (acc ++ [y]))) else Nx H3)
theorem iteT' {c : Bool} {A B : Prop} (hc : c = true) (h : A) : if c = true then A else B := by
  rw [hc]
  exact iteT h
theorem iteF' {c : Bool} {A B : Prop} (hc : c = false) (h : B) : if c = true then A else B := by
  rw [hc]
  exact iteF h
/-- a list comprehension that only reads: what is kept, and what is made of it -/
theorem lc_fm {α : Type} {K : PySem.W.Frag} {h D : Addr} {xs : List α} {r : α → V} {g0 : TG} {tt : TT} {te : TE} {vs : List Nat} {σ : L2.St} {H1 : Hp} {Qd : Hp → Prop} (hh : SqL K H1 h (xs.map r)) (hD : H1 D = none) (hl : xs.length ≤ 100000) (f : α → Bool) (g : α → V)
    (hs : ∀ x ∈ xs, ∀ H', Same H1 H' → ∀ (Z : V → Hp → Prop) (N : Hp → Prop), (f x = true → Z (g x) H') → (f x = false → N H') → g0 (r x) (wipe σ vs) H' fun σ2 H2 => wipe σ2 vs = wipe σ vs ∧ tt σ2 H2 fun b H3 => if b = true then te σ2 H3 Z else N H3)
    (hd : ∀ H2, Same H1 H2 → H2 D = some (.lst ((xs.filter f).map g)) → Qd H2) : LcW (Itl K h) g0 tt te vs σ H1 D Qd := by
  refine lc_list (K := K) (a := h) (xs := xs.map r) (fun j H' => Same H1 H' ∧ H' D = some (.lst (((xs.take j).filter f).map g))) ⟨Same.upd_new hD, upd_same⟩ (fun _ H' _ z => z.1.seq hh) ?_ ?_
  · rintro j y H' hj ⟨s1, h1⟩
    rw [List.getElem?_map] at hj
    obtain ⟨x, hx, rfl⟩ := Option.map_eq_some_iff.mp hj
    have hm := List.mem_of_getElem? hx
    refine hs x hm H' s1 _ _ (fun q => ?_) fun q => ?_
    · refine ⟨_, h1, Nat.lt_of_le_of_lt (m := 100000) ?_ (by decide), s1.mut hD, ?_⟩
      · have := List.length_filter_le f (xs.take j)
        rw [List.length_take] at this
        rw [List.length_map]
        omega
      · rw [upd_same, take_succ_of hx, List.filter_append, List.filter_cons_of_pos q, List.filter_nil, List.map_append]
        rfl
    · refine ⟨s1, ?_⟩
      rw [h1, take_succ_of hx, List.filter_append, List.filter_cons_of_neg (by rw [q]; decide), List.filter_nil, List.append_nil]
  · rintro H' ⟨s1, h1⟩
    rw [List.length_map, List.take_length] at h1
    exact hd H' s1 h1
/-! ### data that == may be asked of -/
theorem lay_all : ∀ {ds : List PyData}, (∀ d ∈ ds, d.canLay0 = true) → PyData.canLayAll0 ds = true
  | [], _ => rfl
  | d :: ds, h => by
    show (d.canLay0 && PyData.canLayAll0 ds) = true
    rw [h d List.mem_cons_self, lay_all fun x hx => h x (List.mem_cons_of_mem _ hx)]
    rfl
theorem dep_all {n : Nat} : ∀ {ds : List PyData}, (∀ d ∈ ds, d.depth ≤ n) → PyData.depthAll ds ≤ n
  | [], _ => Nat.zero_le _
  | d :: ds, h => by
    show max d.depth (PyData.depthAll ds) ≤ n
    exact Nat.max_le.mpr ⟨h d List.mem_cons_self, dep_all fun x hx => h x (List.mem_cons_of_mem _ hx)⟩
/-- d may be laid, less than n deep -/
def Sh (n : Nat) (d : PyData) : Prop := d.canLay0 = true ∧ d.depth ≤ n
theorem Sh.lst {n : Nat} {ds : List PyData} (h : ∀ d ∈ ds, Sh n d) : Sh (n + 1) (.list ds) := ⟨lay_all fun d hd => (h d hd).1, Nat.succ_le_succ (dep_all fun d hd => (h d hd).2)⟩
theorem Sh.tup {n : Nat} {ds : List PyData} (h : ∀ d ∈ ds, Sh n d) : Sh (n + 1) (.tuple ds) := ⟨lay_all fun d hd => (h d hd).1, Nat.succ_le_succ (dep_all fun d hd => (h d hd).2)⟩
theorem Sh.int {n : Nat} (i : Int) : Sh n (.int i) := ⟨rfl, Nat.zero_le _⟩
theorem Sh.non {n : Nat} : Sh n .none := ⟨rfl, Nat.zero_le _⟩
theorem Sh.o {n : Nat} : ∀ x : Lt, Sh n (oD x)
  | none => .non
  | some i => .int i
theorem Sh.ok {n : Nat} {d : PyData} (h : Sh n d) (hn : n ≤ 64) : SeqAt.shaped d = true := by
  unfold SeqAt.shaped
  rw [h.1, decide_eq_true (Nat.le_trans h.2 hn)]
  rfl
theorem shaped_ints (l : List Int) : SeqAt.shaped (.list (l.map PyData.int)) = true := Sh.ok (n := 1) (Sh.lst fun d hd => by
  obtain ⟨i, _, rfl⟩ := List.mem_map.mp hd
  exact .int i) (by decide)
theorem eqv_ints : ∀ l : List Int, PyData.eqv (.list (l.map PyData.int)) (.list []) = l.isEmpty
  | [] => rfl
  | _ :: _ => rfl
theorem dp_ints {K : PySem.W.Frag} {H : Hp} : ∀ l : List Int, DpAll K H (l.map V.int) (l.map PyData.int)
  | [] => .nil
  | i :: l => .cons (.int i) (dp_ints l)
/-! ### what rows and texts are, plainly -/
inductive Ans where
  | text (n k : Int)
  | rows (r k : Int)
  | good (R0 R1 : List Lt)
/-- the first place below n of which p holds -/
def fstN (p : Nat → Bool) (n : Nat) : Option Nat := (List.range n).find? p
theorem fstN_some {p : Nat → Bool} {n i : Nat} (hi : i < n) (hp : p i = true) (hb : ∀ j, j < i → p j = false) : fstN p n = some i := by
  unfold fstN
  rw [List.find?_eq_some_iff_append]
  refine ⟨hp, List.range i, (List.range (n - i - 1)).map (· + (i + 1)), ?_, fun j hj => by rw [hb j (List.mem_range.mp hj)]; rfl⟩
  refine List.ext_getElem (by simp; omega) fun k h1 h2 => ?_
  rw [List.getElem_range]
  by_cases c : k < i
  · rw [List.getElem_append_left (by simpa using c), List.getElem_range]
  · rw [List.getElem_append_right (by simpa using c)]
    by_cases c2 : k = i
    · subst c2
      simp
    · rw [List.getElem_cons]
      rw [dif_neg (by simp; omega)]
      simp
      omega
theorem fstN_none {p : Nat → Bool} {n : Nat} (h : ∀ j, j < n → p j = false) : fstN p n = none := by
  unfold fstN
  rw [List.find?_eq_none]
  intro j hj
  rw [h j (List.mem_range.mp hj)]
  decide
/-- what a lateness at the place j may not be -/
def badP (lo hi : Int) (Y : List Lt) (j : Nat) : Bool := decide (80 ≤ j) || match Y[j]? with
  | some (some v) => !(decide (lo ≤ v) && decide (v ≤ hi))
  | _ => false
def rowI (Y0 Y1 : List Lt) (i : Nat) : List Lt := if i = 0 then Y0 else Y1
def badI (R : Rds) (Y0 Y1 : List Lt) (i : Nat) : Option Nat := fstN (badP (R.lo i) (R.hi i) (rowI Y0 Y1 i)) (rowI Y0 Y1 i).length
def ansR (R : Rds) (Y0 Y1 : List Lt) : Ans := match badI R Y0 Y1 0 with
  | some k => .rows 0 k
  | none => match badI R Y0 Y1 1 with
    | some k => .rows 1 k
    | none => if Y0.length = Y1.length then .good Y0 Y1 else .rows (if Y1.length < Y0.length then 1 else 0) (if Y0.length < Y1.length then Y0.length else Y1.length : Nat)
/-- the signs that may stand in a line -/
def okC (c : Nat) : Bool := decide (c ∈ [45, 48, 49, 50, 51, 52, 53, 54, 55, 56, 57])
def ltC (c : Nat) : Lt := if c = 45 then none else some ((c - 48 : Nat) : Int)
def oddP (cs : List Nat) (j : Nat) : Bool := match cs[j]? with
  | some c => !okC c
  | none => false
def oddI (cs : List Nat) : Option Nat := fstN (oddP cs) cs.length
def ansT (R : Rds) : List (List Nat) → Ans
  | [] => .text 1 0
  | [a] => match oddI a with
    | some k => .text 0 k
    | none => .text 1 0
  | a :: b :: r => match oddI a with
    | some k => .text 0 k
    | none => match oddI b with
      | some k => .text 1 k
      | none => match r with
        | _ :: _ => .text 2 0
        | [] => ansR R (a.map ltC) (b.map ltC)
theorem badP_hi {lo hi : Int} {Y : List Lt} {j : Nat} (h : 80 ≤ j) : badP lo hi Y j = true := by
  unfold badP
  rw [decide_eq_true h]
  rfl
theorem badP_non {lo hi : Int} {Y : List Lt} {j : Nat} (h : ¬ 80 ≤ j) (e : Y[j]? = some none) : badP lo hi Y j = false := by
  unfold badP
  rw [decide_eq_false h, e]
  rfl
theorem badP_som {lo hi v : Int} {Y : List Lt} {j : Nat} (h : ¬ 80 ≤ j) (e : Y[j]? = some (some v)) : badP lo hi Y j = !(decide (lo ≤ v) && decide (v ≤ hi)) := by
  unfold badP
  rw [decide_eq_false h, e]
  rfl
/-! ### __init__ of BadText, BadRows -/
def spInit2 (C : Addr) (f1 f2 : Str) : Sp := fun vs H Q _ => ∃ (a : Addr) (x y : Int), vs = [.ref a, .int x, .int y] ∧ 0 ≤ x ∧ x ≤ 1000000 ∧ 0 ≤ y ∧ y ≤ 1000000 ∧ H a = some (exo a C none) ∧
  ∀ d, H d = none → d ≠ a → Q .non (upd (upd (upd H d (exd d [(f1, .int x)])) a (exo a C (some d))) d (exd d [(f2, .int y), (f1, .int x)]))
theorem log_small {x : Int} (h0 : 0 ≤ x) (h1 : x ≤ 1000000) : x.natAbs.log2 < 1920 := by
  by_cases c : x.natAbs = 0
  · rw [c]
    decide
  · rw [Nat.log2_lt c]
    exact Nat.lt_of_le_of_lt (show x.natAbs ≤ 1000000 by omega) (Nat.lt_of_lt_of_le (show 1000000 < 2 ^ 20 by decide) (Nat.pow_le_pow_right (by decide) (by decide)))
theorem str_cat (a b : Str) : (a ++ b).length = a.length + b.length := Array.size_append
theorem two_nums {x y : Int} (x0 : 0 ≤ x) (x1 : x ≤ 1000000) (y0 : 0 ≤ y) (y1 : y ≤ 1000000) : (Str.empty ++ Str.ofString (toString x)).length ≤ sizeLine ∧ (Str.empty ++ Str.ofString (toString x) ++ Str.ofString " ").length ≤ sizeLine ∧ (Str.empty ++ Str.ofString (toString x) ++ Str.ofString " " ++ Str.ofString (toString y)).length ≤ sizeLine := by
  have hx := PyProof.Rows.toString_length_le (v := x) x0 (k := 7) (by decide) (by omega)
  have hy := PyProof.Rows.toString_length_le (v := y) y0 (k := 7) (by decide) (by omega)
  have e0 : Str.empty.length = 0 := rfl
  have e1 : (Str.ofString " ").length = 1 := by decide +kernel
  simp only [str_cat, e0, e1]
  exact ⟨sz1000 (by omega), sz1000 (by omega), sz1000 (by omega)⟩
section
variable {P : Program} {w : World} {K : PySem.W.Frag} {mg : Str → Option Value} {base : Heap}
theorem ok_BadText_init (T : Txt K mg) : FnOk P w K mg base CX0 1 T.f_BadText_init T.fd_BadText_init P_BadText_init (spInit2 T.C_BadText "row" "at") := by
  refine T.F_BadText_init.ok sc_BadText_init (fun vs H Q E h => ?_) (fun cdv A outer s H vs Q E hr h => ?_)
  · obtain ⟨a, x, y, rfl, _⟩ := h
    rfl
  · obtain ⟨a, x, y, rfl, x0, x1, y0, y1, ha, k⟩ := h
    refine ⟨_, ((pss_cons (ps_expr (pe_oinit (by rfl) T.mg_RoadError T.oi1_RoadError T.oi2_RoadError T.oi3_RoadError (pa_cons (pv 0) (pa_cons (pe_joined (.cons (pe_fmt (pv 1)) (.cons pe_str (.cons (pe_fmt (pv 2)) .nil)))) pa_nil))))
  (pss_cons (ps_ost (pv 0) (pv 1))
  (pss_one (ps_ost (pv 0) (pv 2)))))), ?_⟩
    obtain ⟨z1, z2, z3⟩ := two_nums x0 x1 y0 y1
    refine ⟨_, rfl, _, rfl, .inr ⟨x, rfl, log_small x0 x1, _, rfl, z1, _, rfl, z2, _, rfl, .inr ⟨y, rfl, log_small y0 y1, _, rfl, z3, ?_⟩⟩⟩
    refine ⟨a, T.C_BadText, _, rfl, by show 1 ≤ 1000; decide, T.ox_BadText, ha, ?_⟩
    refine ⟨_, rfl, _, rfl, a, T.C_BadText, rfl, T.ox_BadText, T.nf_BadText_row, .inl ⟨ha, fun d hd na => ?_⟩⟩
    have da : a ≠ d := fun z => na z.symm
    refine ⟨_, rfl, _, rfl, a, T.C_BadText, rfl, T.ox_BadText, T.nf_BadText_at, .inr ⟨d, _, upd_same, by rw [upd_ne na]; exact upd_same, by show 1 ≤ 900; decide, ?_⟩⟩
    exact k d hd na
theorem ok_BadRows_init (T : Txt K mg) : FnOk P w K mg base CX0 1 T.f_BadRows_init T.fd_BadRows_init P_BadRows_init (spInit2 T.C_BadRows "road" "at") := by
  refine T.F_BadRows_init.ok sc_BadRows_init (fun vs H Q E h => ?_) (fun cdv A outer s H vs Q E hr h => ?_)
  · obtain ⟨a, x, y, rfl, _⟩ := h
    rfl
  · obtain ⟨a, x, y, rfl, x0, x1, y0, y1, ha, k⟩ := h
    refine ⟨_, ((pss_cons (ps_expr (pe_oinit (by rfl) T.mg_RoadError T.oi1_RoadError T.oi2_RoadError T.oi3_RoadError (pa_cons (pv 0) (pa_cons (pe_joined (.cons (pe_fmt (pv 1)) (.cons pe_str (.cons (pe_fmt (pv 2)) .nil)))) pa_nil))))
  (pss_cons (ps_ost (pv 0) (pv 1))
  (pss_one (ps_ost (pv 0) (pv 2)))))), ?_⟩
    obtain ⟨z1, z2, z3⟩ := two_nums x0 x1 y0 y1
    refine ⟨_, rfl, _, rfl, .inr ⟨x, rfl, log_small x0 x1, _, rfl, z1, _, rfl, z2, _, rfl, .inr ⟨y, rfl, log_small y0 y1, _, rfl, z3, ?_⟩⟩⟩
    refine ⟨a, T.C_BadRows, _, rfl, by show 1 ≤ 1000; decide, T.ox_BadRows, ha, ?_⟩
    refine ⟨_, rfl, _, rfl, a, T.C_BadRows, rfl, T.ox_BadRows, T.nf_BadRows_road, .inl ⟨ha, fun d hd na => ?_⟩⟩
    have da : a ≠ d := fun z => na z.symm
    refine ⟨_, rfl, _, rfl, a, T.C_BadRows, rfl, T.ox_BadRows, T.nf_BadRows_at, .inr ⟨d, _, upd_same, by rw [upd_ne na]; exact upd_same, by show 1 ≤ 900; decide, ?_⟩⟩
    exact k d hd na
end
/-! ### need_rows, row_of, read: what is refused -/
theorem raise2 {C : Addr} {f1 f2 : Str} {x y : Int} {H1 : Hp} {Q : XK} (x0 : 0 ≤ x) (x1 : x ≤ 1000000) (y0 : 0 ≤ y) (y1 : y ≤ 1000000) (k : ∀ (d : Addr) (H' : Hp), Same H1 H' → H1 d = none → H' d = some (.xd [(f2, .int y), (f1, .int x)]) → Q (.ref C) (some d) H') :
    ∀ a, H1 a = none → spInit2 C f1 f2 [.ref a, .int x, .int y] (upd H1 a (exo a C none)) (fun v H2 => v = .non ∧ ∃ (d : Addr) (fs : List (Str × V)), H2 a = some (exo a C (some d)) ∧ H2 d = some (exd d fs) ∧ H1 d = none ∧ Q (.ref C) (some d) (upd (del H2 a) d (.xd fs))) (fun _ _ _ => False) := fun a na => by
  refine ⟨a, x, y, rfl, x0, x1, y0, y1, upd_same, fun d hd da => ?_⟩
  have hd1 : H1 d = none := by rw [upd_ne da] at hd; exact hd
  refine ⟨rfl, d, _, by rw [upd_ne (fun z => da z.symm)]; exact upd_same, upd_same, hd1, k d _ (fun b o e => ?_) hd1 upd_same⟩
  have ba := ne_of_none e na
  have bd := ne_of_none e hd1
  rw [upd_ne bd, del_ne ba, upd_ne bd, upd_ne ba, upd_ne bd, upd_ne ba]
  exact e
def NrOut (CB : Addr) (H : Hp) (Q : VK) (E : XK) : Ans → Prop
  | .rows r k => ∀ (d : Addr) (H' : Hp), Same H H' → H d = none → H' d = some (.xd [("at", .int k), ("road", .int r)]) → E (.ref CB) (some d) H'
  | _ => Q .non H
def spNeedRowsX (K : PySem.W.Frag) (CB : Addr) : Sp := fun vs H Q E => ∃ (p q a b : Addr) (R : Rds) (Y0 Y1 : List Lt), vs = [.ref p, .ref q] ∧ RoadsAt H p R ∧ (SqL K H q [.ref a, .ref b] ∨ SqT K H q [.ref a, .ref b]) ∧
  SqL K H a (Y0.map oV) ∧ SqL K H b (Y1.map oV) ∧ Y0.length ≤ 100000 ∧ Y1.length ≤ 100000 ∧ NrOut CB H Q E (ansR R Y0 Y1)
theorem ansR_bad {R : Rds} {Y0 Y1 : List Lt} {i j : Nat} (hi : i < 2) (hb : ∀ i', i' < i → badI R Y0 Y1 i' = none) (h : badI R Y0 Y1 i = some j) : ansR R Y0 Y1 = .rows (i : Nat) (j : Nat) := by
  have hi' : i = 0 ∨ i = 1 := by omega
  unfold ansR
  rcases hi' with rfl | rfl
  · rw [h]
    rfl
  · rw [hb 0 (by omega), h]
    rfl
theorem ansR_end {R : Rds} {Y0 Y1 : List Lt} (h : ∀ i, i < 2 → badI R Y0 Y1 i = none) : ansR R Y0 Y1 = if Y0.length = Y1.length then .good Y0 Y1 else .rows (if Y1.length < Y0.length then 1 else 0) (if Y0.length < Y1.length then Y0.length else Y1.length : Nat) := by
  unfold ansR
  rw [h 0 (by omega), h 1 (by omega)]
theorem row_atX {K : PySem.W.Frag} {H : Hp} {a b : Addr} {Y0 Y1 : List Lt} (ha : SqL K H a (Y0.map oV)) (hb : SqL K H b (Y1.map oV)) {i : Nat} (hi : i < 2) : ∃ c : Addr, atI ([.ref a, .ref b] : List V) ((0 : Int) + (i : Int)) = some (.ref c) ∧ SqL K H c ((rowI Y0 Y1 i).map oV) := by
  have hi' : i = 0 ∨ i = 1 := by omega
  rcases hi' with rfl | rfl
  · exact ⟨a, at0, ha⟩
  · exact ⟨b, at1, hb⟩
theorem at_rowX {Y : List Lt} {i : Nat} (hi : i < Y.length) : ∃ x, Y[i]? = some x ∧ atI (Y.map oV) ((0 : Int) + (i : Int)) = some (oV x) :=
  ⟨Y[i], List.getElem?_eq_getElem hi, by rw [Int.zero_add]; exact atI_nat (by rw [List.getElem?_map, List.getElem?_eq_getElem hi]; rfl)⟩
section
variable {P : Program} {w : World} {K : PySem.W.Frag} {mg : Str → Option Value} {base : Heap}
theorem okx_need_rows (T : Txt K mg) : FnOk P w K mg base (L2.CX P w) 3 T.f_need_rows T.fd_need_rows P_need_rows (spNeedRowsX K T.C_BadRows) := by
  refine T.F_need_rows.okX sc_need_rows (fun vs H Q E h => ?_) (fun cdv A outer s H vs Q E hr h => ?_)
  · obtain ⟨p, q, a, b, R, Y0, Y1, rfl, _⟩ := h
    rfl
  · obtain ⟨p, q, a, b, R, Y0, Y1, rfl, ⟨t0, t1, g1, g2, g3⟩, hq, ha, hb, l0, l1, k⟩ := h
    refine ⟨_, ((pss_cons (ps_for (passes_of rfl) rfl (pi_range1 (by rfl) T.z_range (pa_cons pe_int pa_nil)) (pg_name (i := 2) sc_need_rows.nd rfl (Or.inl rfl))
  (pss_cons (ps_asg (pe_ix ix_tup (pv 0) (pv 2) (fun _ _ => rfl)) (pg_tup rfl (pgs_cons (pg_name (i := 3) sc_need_rows.nd rfl (Or.inl rfl)) (pgs_cons (pg_name (i := 4) sc_need_rows.nd rfl (Or.inl rfl)) pgs_nil))))
  (pss_one (ps_for (passes_of rfl) rfl (pi_range1 (by rfl) T.z_range (pa_cons (pe_callB call_len_seq (by rfl) T.z_len (by decide +kernel) (pa_cons (pe_ix ix_seq (pv 1) (pv 2) (fun _ _ => rfl)) pa_nil)) pa_nil)) (pg_name (i := 5) sc_need_rows.nd rfl (Or.inl rfl))
  (pss_cons (ps_set (i := 6) sc_need_rows.nd rfl (Or.inl rfl) (pe_ix ix_list (pe_ix ix_seq (pv 1) (pv 2) (fun _ _ => rfl)) (pv 5) (fun _ _ => rfl)))
  (pss_one (ps_if (PW.pt (pw_or (pt_cmpR op_ge (pv 5) (pe_glob rfl T.mg_MOST_THINGS T.rv_MOST_THINGS) (nomark _)) (pw_or1 (PW.pt (pw_and (pt_cmp (pc_notN (pv 6))) (pw_and1 (pt_not (pt_chain op_le op_le (pv 3) (pv 6) (pv 4))))))))) (pss_one (ps_raise rfl (takes_of rfl rfl rfl rfl) (pmk_oex T.ox_BadRows T.iC_BadRows T.tI_BadRows (ok_BadRows_init T) (hr.mono (by decide)) T.b_BadRows_init .nil pass0 (by rfl) T.mg_BadRows (pa_cons (pv 2) (pa_cons (pv 5) pa_nil))))) pss_nil)))))))
  (pss_one (ps_if (pt_cmpR op_ne (pe_callB call_len_seq (by rfl) T.z_len (by decide +kernel) (pa_cons (pe_ix ix_seq (pv 1) pe_int (fun _ _ => rfl)) pa_nil)) (pe_callB call_len_seq (by rfl) T.z_len (by decide +kernel) (pa_cons (pe_ix ix_seq (pv 1) pe_int (fun _ _ => rfl)) pa_nil)) (nomark _)) (pss_one (ps_raise rfl (takes_of rfl rfl rfl rfl) (pmk_oex T.ox_BadRows T.iC_BadRows T.tI_BadRows (ok_BadRows_init T) (hr.mono (by decide)) T.b_BadRows_init .nil pass0 (by rfl) T.mg_BadRows (pa_cons (pe_callTy call_int1 (by rfl) T.z_int (by decide +kernel) (pa_cons (pe_cmpR op_lt (pe_callB call_len_seq (by rfl) T.z_len (by decide +kernel) (pa_cons (pe_ix ix_seq (pv 1) pe_int (fun _ _ => rfl)) pa_nil)) (pe_callB call_len_seq (by rfl) T.z_len (by decide +kernel) (pa_cons (pe_ix ix_seq (pv 1) pe_int (fun _ _ => rfl)) pa_nil)) (nomark _)) pa_nil)) (pa_cons (pe_callB (call_min2 rfl) (by rfl) T.z_min (by decide +kernel) (pa_cons (pe_callB call_len_seq (by rfl) T.z_len (by decide +kernel) (pa_cons (pe_ix ix_seq (pv 1) pe_int (fun _ _ => rfl)) pa_nil)) (pa_cons (pe_callB call_len_seq (by rfl) T.z_len (by decide +kernel) (pa_cons (pe_ix ix_seq (pv 1) pe_int (fun _ _ => rfl)) pa_nil)) pa_nil))) pa_nil))))) pss_nil)))), ?_⟩
    have ixq : ∀ {j : Int} {v : V} {Q : VK}, atI ([.ref a, .ref b] : List V) j = some v → Q v H → rIx K (.ref q) (.int j) H Q := fun hat q => by
      rcases hq with hq | hq
      · exact .inl ⟨_, _, _, _, rfl, rfl, hq, hat, q⟩
      · exact .inr (.inl ⟨_, _, _, _, rfl, rfl, hq, hat, q⟩)
    have ll : ∀ i, (rowI Y0 Y1 i).length ≤ 100000 := fun i => by unfold rowI; split <;> assumption
    refine ⟨_, rfl, by decide, by decide, for_range (n := 2) (fun i σ H' => H' = H ∧ (∀ i', i' < i → badI R Y0 Y1 i' = none) ∧ ∃ v2 v3 v4 v5 v6 : Option V, σ = [some (.ref p), some (.ref q), v2, v3, v4, v5, v6]) ⟨rfl, fun i h => absurd h (Nat.not_lt_zero _), none, none, none, none, none, rfl⟩ ?_ ?_⟩
    · rintro i σ H1 hi ⟨rfl, hbef, v2, v3, v4, v5, v6, rfl⟩
      obtain ⟨t, hat, ht⟩ := road_at (R := R) g2 g3 hi
      obtain ⟨c, hc, hY⟩ := row_atX ha hb hi
      have lY := ll i
      refine ⟨_, rfl, _, rfl, p, _, _, _, rfl, rfl, SqT.of g1, hat, t, _, rfl, SqT.of ht, rfl, _, _, rfl, _, _, rfl, rfl, ?_⟩
      refine ⟨_, rfl, _, rfl, ixq hc ⟨c, _, rfl, .inl hY, _, rfl, by omega, ?_, for_range (n := (((rowI Y0 Y1 i).map oV).length : Int).toNat) (fun j σ H' => H' = H1 ∧ (∀ j', j' < j → badP (R.lo i) (R.hi i) (rowI Y0 Y1 i) j' = false) ∧ ∃ v5 v6 : Option V, σ = [some (.ref p), some (.ref q), some (.int (0 + i)), some (.int (R.lo i)), some (.int (R.hi i)), v5, v6]) ⟨rfl, fun j h => absurd h (Nat.not_lt_zero _), v5, v6, rfl⟩ ?_ ?_⟩⟩
      · rw [List.length_map]; omega
      · rintro j σ H2 hj ⟨rfl, hbj, v5, v6, rfl⟩
        have hj2 : j < (rowI Y0 Y1 i).length := by rw [List.length_map] at hj; omega
        obtain ⟨x, hx, hax⟩ := at_rowX hj2
        have bad : badP (R.lo i) (R.hi i) (rowI Y0 Y1 i) j = true → ∀ (a' : Addr), H2 a' = none → spInit2 T.C_BadRows "road" "at" [.ref a', .int (0 + i), .int (0 + j)] (upd H2 a' (exo a' T.C_BadRows none)) (fun v H3 => v = .non ∧ ∃ (d : Addr) (fs : List (Str × V)), H3 a' = some (exo a' T.C_BadRows (some d)) ∧ H3 d = some (exd d fs) ∧ H2 d = none ∧ E (.ref T.C_BadRows) (some d) (upd (del H3 a') d (.xd fs))) (fun _ _ _ => False) := fun hb => by
          have e := ansR_bad hi hbef (fstN_some hj2 hb hbj)
          rw [e] at k
          have k' : ∀ (d : Addr) (H' : Hp), Same H2 H' → H2 d = none → H' d = some (.xd [("at", .int (0 + j)), ("road", .int (0 + i))]) → E (.ref T.C_BadRows) (some d) H' := by
            intro d H' s1 hd h
            rw [Int.zero_add, Int.zero_add] at h
            exact k d H' s1 hd h
          exact raise2 (by omega) (by omega) (by omega) (by omega) k'
        have good : badP (R.lo i) (R.hi i) (rowI Y0 Y1 i) j = false → ∀ j', j' < j + 1 → badP (R.lo i) (R.hi i) (rowI Y0 Y1 i) j' = false := fun h j' hj' => by
          by_cases c : j' = j
          · rw [c]
            exact h
          · exact hbj j' (by omega)
        refine ⟨_, rfl, _, rfl, ixq hc ⟨_, rfl, c, _, _, _, rfl, rfl, hY, hax, ?_⟩⟩
        refine ⟨_, rfl, _, _, rfl, rfl, _, rfl, ?_⟩
        by_cases h80 : 80 ≤ j
        · refine iteD (by show (80 : Int) ≤ 0 + j; omega) (iteT ⟨_, rfl, _, rfl, by show 2 ≤ 1000; decide, bad (badP_hi h80)⟩)
        · refine iteND (by show ¬ ((80 : Int) ≤ 0 + j); omega) ?_
          cases x with
          | none => exact ⟨_, rfl, _, rfl, iteF (iteF ⟨rfl, good (badP_non h80 hx), _, _, rfl⟩)⟩
          | some z =>
            have e := badP_som (lo := R.lo i) (hi := R.hi i) h80 hx
            refine ⟨_, rfl, _, rfl, iteT ⟨_, rfl, _, rfl, _, _, rfl, rfl, _, rfl, ?_⟩⟩
            by_cases c1 : R.lo i ≤ z
            · refine iteD c1 ⟨_, rfl, _, _, rfl, rfl, _, rfl, ?_⟩
              by_cases c2 : z ≤ R.hi i
              · rw [decide_eq_true c1, decide_eq_true c2] at e
                exact iteNS c2 ⟨rfl, good e, _, _, rfl⟩
              · rw [decide_eq_false c2, Bool.and_false] at e
                exact iteNN c2 ⟨_, rfl, _, rfl, by show 2 ≤ 1000; decide, bad e⟩
            · rw [decide_eq_false c1] at e
              exact iteND c1 ⟨_, rfl, iteT ⟨_, rfl, _, rfl, by show 2 ≤ 1000; decide, bad e⟩⟩
      · rintro σ H2 ⟨rfl, hbj, v5, v6, rfl⟩
        refine ⟨rfl, fun i' hi' => ?_, _, _, _, _, _, rfl⟩
        by_cases c : i' = i
        · rw [c]
          exact fstN_none fun j hj => hbj j (by rw [List.length_map]; omega)
        · exact hbef i' (by omega)
    · rintro σ H1 ⟨rfl, hbef, v2, v3, v4, v5, v6, rfl⟩
      rw [ansR_end hbef] at k
      refine ⟨_, rfl, ixq at0 ⟨a, _, rfl, .inl ha, _, rfl, ixq at1 ⟨b, _, rfl, .inl hb, ?_⟩⟩⟩
      rw [List.length_map, List.length_map]
      by_cases hl : Y0.length = Y1.length
      · rw [if_pos hl] at k
        exact ⟨rfl, _, rfl, iteNS (congrArg (fun n : Nat => V.int (n : Int)) hl) k⟩
      · rw [if_neg hl] at k
        refine ⟨rfl, _, rfl, iteNN (fun z => hl (by have := V.int.inj z; omega)) ⟨_, rfl, ixq at1 ⟨b, _, rfl, .inl hb, _, rfl, ixq at0 ⟨a, _, rfl, .inl ha, ?_⟩⟩⟩⟩
        rw [List.length_map, List.length_map]
        refine ⟨_, _, rfl, rfl, .inr ⟨_, rfl, ?_⟩⟩
        refine ⟨_, rfl, ixq at0 ⟨a, _, rfl, .inl ha, _, rfl, ixq at1 ⟨b, _, rfl, .inl hb, ?_⟩⟩⟩
        rw [List.length_map, List.length_map]
        have ex : (if decide ((Y1.length : Int) < (Y0.length : Int)) = true then (1 : Int) else 0) = if Y1.length < Y0.length then 1 else 0 := by
          by_cases c : Y1.length < Y0.length
          · rw [if_pos c, decide_eq_true (by omega : (Y1.length : Int) < (Y0.length : Int))]
            rfl
          · rw [if_neg c, decide_eq_false (by omega : ¬ (Y1.length : Int) < (Y0.length : Int))]
            rfl
        have ey : (if (Y1.length : Int) < (Y0.length : Int) then (Y1.length : Int) else (Y0.length : Int)) = ((if Y0.length < Y1.length then Y0.length else Y1.length : Nat) : Int) := by
          by_cases c : Y1.length < Y0.length
          · rw [if_pos (by omega), if_neg (by omega)]
          · rw [if_neg (by omega), if_pos (by omega)]
        refine ⟨_, _, rfl, by show 2 ≤ 1000; decide, raise2 ?_ ?_ ?_ ?_ ?_⟩
        · rw [ex]; split <;> decide
        · rw [ex]; split <;> decide
        · rw [ey]; omega
        · rw [ey]; split <;> omega
        · rw [ex, ey]
          exact k
def RoOut (CT : Addr) (H : Hp) (Q : VK) (E : XK) (cs : List Nat) (n : Int) : Option Nat → Prop
  | some k => ∀ (d : Addr) (H' : Hp), Same H H' → H d = none → H' d = some (.xd [("at", .int k), ("row", .int n)]) → E (.ref CT) (some d) H'
  | none => ∀ (p : Addr) (H' : Hp), H p = none → Same H H' → H' p = some (.lst ((cs.map ltC).map oV)) → Q (.ref p) H'
def spRowOfX (CT : Addr) : Sp := fun vs H Q E => ∃ (cs : List Nat) (n : Int), vs = [.str (SX.S cs), .int n] ∧ 0 ≤ n ∧ n ≤ 10 ∧ cs.length ≤ 100000 ∧ RoOut CT H Q E cs n (oddI cs)
theorem okC_iff {c : Nat} : okC c = true ↔ c = 45 ∨ (48 ≤ c ∧ c ≤ 57) := by
  unfold okC
  rw [decide_eq_true_eq]
  simp only [List.mem_cons, List.not_mem_nil, or_false]
  omega
theorem fig_iff {c : Nat} : c ∈ (Str.ofString "0123456789").cps.toList ↔ 48 ≤ c ∧ c ≤ 57 := by
  rw [str_figs]
  simp only [List.mem_cons, List.not_mem_nil, or_false]
  omega
theorem gone_iff {c : Nat} : V.str (⟨#[c]⟩ : Str) = V.str (Str.ofString "-") ↔ c = 45 := by
  rw [str_gone]
  constructor
  · intro e
    exact (List.cons.inj (SX.S_inj (a := [c]) (b := [45]) (V.str.inj e))).1
  · rintro rfl
    rfl
theorem S_at {cs : List Nat} {i c : Nat} (h : cs[i]? = some c) : atI (SX.S cs).cps.toList ((0 : Int) + (i : Int)) = some c := by
  rw [Int.zero_add]
  exact atI_nat h
theorem int_code {c : Nat} (h : 48 ≤ c ∧ c ≤ 57) : PySem.intText? (⟨#[c]⟩ : Str) = some ((c - 48 : Nat) : Int) := by
  have := int_dig (v := ((c - 48 : Nat) : Int)) (by omega) (by omega)
  rw [show 48 + ((c - 48 : Nat) : Int).toNat = c by omega] at this
  exact this
theorem okx_row_of (T : Txt K mg) : FnOk P w K mg base (L2.CX P w) 3 T.f_row_of T.fd_row_of P_row_of (spRowOfX T.C_BadText) := by
  refine T.F_row_of.okX sc_row_of (fun vs H Q E h => ?_) (fun cdv A outer s H vs Q E hr h => ?_)
  · obtain ⟨cs, n, rfl, _⟩ := h
    rfl
  · obtain ⟨cs, n, rfl, n0, n1, hl, k⟩ := h
    refine ⟨_, ((pss_cons (ps_set (i := 2) sc_row_of.nd rfl (Or.inl rfl) (pe_lst pa_nil))
  (pss_cons (ps_for (passes_of rfl) rfl (pi_range1 (by rfl) T.z_range (pa_cons (pe_callB call_len_str (by rfl) T.z_len (by decide +kernel) (pa_cons (pv 0) pa_nil)) pa_nil)) (pg_name (i := 3) sc_row_of.nd rfl (Or.inl rfl))
  (pss_cons (ps_if (PW.pt (pw_and (pt_cmpR op_ne (pe_ix ix_str (pv 0) (pv 3) (fun _ _ => rfl)) (pe_glob rfl T.mg_GONE T.rv_GONE) (nomark _)) (pw_and1 (pt_cmpR op_notIn_sign (pe_ix ix_str (pv 0) (pv 3) (fun _ _ => rfl)) (pe_glob rfl T.mg_FIGURES T.rv_FIGURES) (by rfl))))) (pss_one (ps_raise rfl (takes_of rfl rfl rfl rfl) (pmk_oex T.ox_BadText T.iC_BadText T.tI_BadText (ok_BadText_init T) (hr.mono (by decide)) T.b_BadText_init .nil pass0 (by rfl) T.mg_BadText (pa_cons (pv 1) (pa_cons (pv 3) pa_nil))))) pss_nil)
  (pss_one (ps_expr (pe_bm PySem.F.plainAttrs_list PySem.F.slot_list_append PySem.F.type_list_append mt_append (pv 2) (pa_cons (pe_ifExp (pt_cmpR op_eq (pe_ix ix_str (pv 0) (pv 3) (fun _ _ => rfl)) (pe_glob rfl T.mg_GONE T.rv_GONE) (nomark _)) pe_non (pe_callTy call_int_str (by rfl) T.z_int (by decide +kernel) (pa_cons (pe_ix ix_str (pv 0) (pv 3) (fun _ _ => rfl)) pa_nil))) pa_nil))))))
  (pss_one (ps_ret (pv 2)))))), ?_⟩
    have hlen : (SX.S cs).length = cs.length := SX.S_len _
    have szl : cs.length ≤ sizeLine := Nat.le_trans hl (by decide)
    refine ⟨by show 0 ≤ sizeLine; decide, fun p hp => ?_⟩
    refine ⟨_, rfl, _, rfl, by rw [hlen]; exact szl, _, rfl, by omega, by omega, for_range (n := ((SX.S cs).length : Int).toNat) (fun i σ H' => ∃ v3 : Option V, σ = [some (.str (SX.S cs)), some (.int n), some (.ref p), v3] ∧ Same H H' ∧ H' p = some (.lst (((cs.take i).map ltC).map oV)) ∧ ∀ j, j < i → oddP cs j = false) ⟨none, rfl, Same.upd_new hp, upd_same, fun j h => absurd h (Nat.not_lt_zero _)⟩ ?_ ?_⟩
    · rintro i σ H1 hi ⟨v3, rfl, s1, h1, hb⟩
      have hi2 : i < cs.length := by omega
      obtain ⟨c, hc⟩ : ∃ c, cs[i]? = some c := ⟨_, List.getElem?_eq_getElem hi2⟩
      have hat := S_at hc
      have eo : oddP cs i = !okC c := by unfold oddP; rw [hc]
      have fin : okC c = true → ∀ y : V, y = oV (ltC c) → (fun (_ : V) (H' : Hp) => ∃ v3 : Option V, ([some (.str (SX.S cs)), some (.int n), some (.ref p), some (.int (0 + i))] : L2.St) = [some (.str (SX.S cs)), some (.int n), some (.ref p), v3] ∧ Same H H' ∧ H' p = some (.lst (((cs.take (i + 1)).map ltC).map oV)) ∧ ∀ j, j < i + 1 → oddP cs j = false) .non (upd H1 p (.lst (((cs.take i).map ltC).map oV ++ [y]))) := by
        rintro ho y rfl
        refine ⟨_, rfl, s1.mut hp, ?_, fun j hj => ?_⟩
        · rw [take_succ_of hc, List.map_append, List.map_append]
          exact upd_same
        · by_cases q : j = i
          · rw [q, eo, ho]
            rfl
          · exact hb j (by omega)
      have sz : (((cs.take i).map ltC).map oV).length < sizeLine := by
        rw [List.length_map, List.length_map, List.length_take]
        exact Nat.lt_of_le_of_lt (Nat.min_le_right _ _) (Nat.lt_of_le_of_lt hl (by decide))
      refine ⟨_, rfl, _, rfl, _, _, _, rfl, rfl, by rw [hlen]; exact szl, hat, rfl, _, rfl, ?_⟩
      by_cases c45 : c = 45
      · have cg := gone_iff.mpr c45
        refine iteNS cg (iteF ?_)
        refine ⟨_, rfl, .inl ⟨rfl, _, SqL.of h1⟩, _, rfl, _, rfl, _, _, _, rfl, rfl, by rw [hlen]; exact szl, hat, rfl, _, rfl, iteD cg ?_⟩
        exact ⟨p, _, _, rfl, rfl, h1, sz, fin (okC_iff.mpr (.inl c45)) _ (by rw [ltC, if_pos c45]; rfl)⟩
      · have cg : ¬ V.str (⟨#[c]⟩ : Str) = V.str (Str.ofString "-") := fun z => c45 (gone_iff.mp z)
        refine iteNN cg ⟨_, rfl, _, rfl, _, _, _, rfl, rfl, by rw [hlen]; exact szl, hat, _, _, rfl, rfl, _, rfl, ?_⟩
        by_cases cf : 48 ≤ c ∧ c ≤ 57
        · refine iteNS (fig_iff.mpr cf) ?_
          refine ⟨_, rfl, .inl ⟨rfl, _, SqL.of h1⟩, _, rfl, _, rfl, _, _, _, rfl, rfl, by rw [hlen]; exact szl, hat, rfl, _, rfl, iteND cg ?_⟩
          exact ⟨_, rfl, _, rfl, _, _, _, rfl, rfl, by rw [hlen]; exact szl, hat, _, _, rfl, int_code cf, by show 1 ≤ 640; decide, p, _, _, rfl, rfl, h1, sz, fin (okC_iff.mpr (.inr cf)) _ (by rw [ltC, if_neg c45]; rfl)⟩
        · refine iteNN (fun z => cf (fig_iff.mp z)) ?_
          have ho : oddP cs i = true := by
            rw [eo]
            cases q : okC c with
            | false => rfl
            | true => exact absurd ((okC_iff.mp q).resolve_left c45) cf
          have e : oddI cs = some i := fstN_some hi2 ho hb
          rw [e] at k
          refine ⟨_, rfl, _, rfl, by show 2 ≤ 1000; decide, raise2 n0 (by omega) (by omega) (by omega) fun d H' s' hd hx => ?_⟩
          rw [Int.zero_add] at hx
          exact k d H' (s1.trans s') (s1.free hd) hx
    · rintro σ H1 ⟨v3, rfl, s1, h1, hb⟩
      have e : cs.take (((SX.S cs).length : Int).toNat) = cs := by rw [hlen]; exact List.take_length
      rw [e] at h1
      have e : oddI cs = none := fstN_none fun j hj => hb j (by omega)
      rw [e] at k
      exact ⟨_, rfl, k p H1 hp s1 h1⟩
def RdOut (CT CB : Addr) (H : Hp) (Q : VK) (E : XK) : Ans → Prop
  | .text n k => ∀ (d : Addr) (H' : Hp), Same H H' → H d = none → H' d = some (.xd [("at", .int k), ("row", .int n)]) → E (.ref CT) (some d) H'
  | .rows r k => ∀ (d : Addr) (H' : Hp), Same H H' → H d = none → H' d = some (.xd [("at", .int k), ("road", .int r)]) → E (.ref CB) (some d) H'
  | .good R0 R1 => ∀ (q a b : Addr) (H' : Hp), H q = none → H a = none → H b = none → RowsAt H' q a b R0 R1 → Same H H' → Q (.ref q) H'
def spReadX (CT CB : Addr) : Sp := fun vs H Q E => ∃ (p : Addr) (R : Rds) (cs : List Nat), vs = [.ref p, .str (SX.S cs)] ∧ RoadsAt H p R ∧ R.Ok ∧ cs.length ≤ 10000 ∧ RdOut CT CB H Q E (ansT R (TL.spl [10] 0 [] cs))
theorem spl_ne (S : List Nat) : ∀ (l : List Nat) (k : Nat) (acc : List Nat), TL.spl S k acc l ≠ []
  | [], k, acc => by rw [TL.spl_nil]; simp
  | c :: r, 0, acc => by
    unfold TL.spl
    split
    · simp
    · exact spl_ne S r 0 _
  | c :: r, k + 1, acc => spl_ne S r k acc
/-- the signs of the parts, and one for each -/
def mea (l : List (List Nat)) : Nat := (l.map fun p => p.length + 1).sum
theorem spl_mea (s : Nat) : ∀ (l acc : List Nat), mea (TL.spl [s] 0 acc l) ≤ acc.length + l.length + 1
  | [], acc => by
    rw [TL.spl_nil]
    simp [mea]
  | c :: r, acc => by
    unfold TL.spl
    split
    · have := spl_mea s r []
      show acc.length + 1 + mea (TL.spl [s] 0 [] r) ≤ _
      rw [List.length_cons]
      rw [List.length_nil] at this
      omega
    · have := spl_mea s r (acc ++ [c])
      rw [List.length_append, List.length_singleton] at this
      rw [List.length_cons]
      omega
theorem mea_mem {l : List (List Nat)} {p : List Nat} (h : p ∈ l) : p.length + 1 ≤ mea l := by
  induction l with
  | nil => cases h
  | cons x l ih =>
    have e : mea (x :: l) = x.length + 1 + mea l := rfl
    rw [e]
    rcases List.mem_cons.mp h with rfl | h
    · omega
    · have := ih h
      omega
theorem mea_len : ∀ l : List (List Nat), l.length ≤ mea l
  | [] => Nat.zero_le _
  | x :: l => by
    have e : mea (x :: l) = x.length + 1 + mea l := rfl
    have := mea_len l
    rw [e, List.length_cons]
    omega
theorem ansT_1s {R : Rds} {a : List Nat} {j : Nat} (e : oddI a = some j) : ansT R [a] = .text 0 j := by
  show (match oddI a with | some k => Ans.text 0 k | none => Ans.text 1 0) = _
  rw [e]
theorem ansT_1n {R : Rds} {a : List Nat} (e : oddI a = none) : ansT R [a] = .text 1 0 := by
  show (match oddI a with | some k => Ans.text 0 k | none => Ans.text 1 0) = _
  rw [e]
theorem ansT_at {R : Rds} {a b : List Nat} {r : List (List Nat)} {i j : Nat} {l : List Nat} (hl : [a, b][i]? = some l) (hb : ∀ i' l', i' < i → [a, b][i']? = some l' → oddI l' = none) (e : oddI l = some j) : ansT R (a :: b :: r) = .text (i : Nat) j := by
  show (match oddI a with | some k => Ans.text 0 k | none => match oddI b with | some k => Ans.text 1 k | none => match r with | _ :: _ => .text 2 0 | [] => ansR R (a.map ltC) (b.map ltC)) = _
  match i, hl, hb with
  | 0, hl, hb =>
    cases hl
    rw [e]
    rfl
  | 1, hl, hb =>
    cases hl
    rw [hb 0 a (by decide) rfl]
    dsimp only
    rw [e]
    rfl
theorem ansT_many {R : Rds} {a b c : List Nat} {r : List (List Nat)} (e0 : oddI a = none) (e1 : oddI b = none) : ansT R (a :: b :: c :: r) = .text 2 0 := by
  show (match oddI a with | some k => Ans.text 0 k | none => match oddI b with | some k => Ans.text 1 k | none => Ans.text 2 0) = _
  rw [e0]
  dsimp only
  rw [e1]
theorem ansT_two {R : Rds} {a b : List Nat} (e0 : oddI a = none) (e1 : oddI b = none) : ansT R [a, b] = ansR R (a.map ltC) (b.map ltC) := by
  show (match oddI a with | some k => Ans.text 0 k | none => match oddI b with | some k => Ans.text 1 k | none => ansR R (a.map ltC) (b.map ltC)) = _
  rw [e0]
  dsimp only
  rw [e1]
theorem ansR_cases (R : Rds) (Y0 Y1 : List Lt) : (∃ r k : Int, ansR R Y0 Y1 = .rows r k) ∨ (ansR R Y0 Y1 = .good Y0 Y1) := by
  unfold ansR
  split
  · exact .inl ⟨_, _, rfl⟩
  · split
    · exact .inl ⟨_, _, rfl⟩
    · split
      · exact .inr rfl
      · exact .inl ⟨_, _, rfl⟩
theorem okx_read (T : Txt K mg) : FnOk P w K mg base (L2.CX P w) 5 T.f_read T.fd_read P_read (spReadX T.C_BadText T.C_BadRows) := by
  refine T.F_read.okX sc_read (fun vs H Q E h => ?_) (fun cdv A outer s H vs Q E hr h => ?_)
  · obtain ⟨p, R, cs, rfl, _⟩ := h
    rfl
  · obtain ⟨p, R, cs, rfl, hp, hR, hl, k⟩ := h
    refine ⟨_, ((pss_cons (ps_expr (pe_call (ok_need_roads T) (hr.mono (by decide)) (by rfl) T.mg_need_roads T.kp_need_roads T.b_need_roads .nil pass0 (pa_cons (pv 0) pa_nil)))
  (pss_cons (ps_set (i := 2) sc_read.nd rfl (Or.inr rfl) (pe_split (pv 1) pe_str))
  (pss_cons (ps_if (pt_cmpR op_lt (pe_callB call_len_seq (by rfl) T.z_len (by decide +kernel) (pa_cons (pv 2) pa_nil)) pe_int (nomark _)) (pss_cons (ps_expr (pe_call (okx_row_of T) (hr.mono (by decide)) (by rfl) T.mg_row_of T.kp_row_of T.b_row_of .nil (passes_call (takes_of rfl rfl rfl rfl) fun _ _ _ _ h => h) (pa_cons (pe_ix ix_list (pv 2) pe_int (fun _ _ => rfl)) (pa_cons pe_int pa_nil))))
  (pss_one (ps_raise rfl (takes_of rfl rfl rfl rfl) (pmk_oex T.ox_BadText T.iC_BadText T.tI_BadText (ok_BadText_init T) (hr.mono (by decide)) T.b_BadText_init .nil pass0 (by rfl) T.mg_BadText (pa_cons pe_int (pa_cons pe_int pa_nil)))))) pss_nil)
  (pss_cons (ps_setLcX (i := 3) (own := [("number", 4)]) (g := gName 4) rfl rfl rfl rfl rfl sc_read.nd rfl rfl (sw_true rfl rfl rfl (by decide +kernel)) (pi_range1 (by rfl) T.z_range (pa_cons pe_int pa_nil)) (blkOk_by (N := N_read) (sc := (defScope s_read)) (own := [("number", 4)]) (by decide +kernel)) (fun _ _ _ _ _ => (pg_name (i := 4) sc_read.nd rfl (Or.inl rfl))) (fun _ _ _ _ _ => (pe_call (okx_row_of T) (hr.mono (by decide)) (by rfl) T.mg_row_of T.kp_row_of T.b_row_of .nil passE (pa_cons (pe_ix (ixK_list (K := K) rfl) (pv 2) (pv 4) (fun _ _ => rfl)) (pa_cons (pv 4) pa_nil)))))
  (pss_cons (ps_if (pt_cmpR op_gt (pe_callB call_len_seq (by rfl) T.z_len (by decide +kernel) (pa_cons (pv 2) pa_nil)) pe_int (nomark _)) (pss_one (ps_raise rfl (takes_of rfl rfl rfl rfl) (pmk_oex T.ox_BadText T.iC_BadText T.tI_BadText (ok_BadText_init T) (hr.mono (by decide)) T.b_BadText_init .nil pass0 (by rfl) T.mg_BadText (pa_cons pe_int (pa_cons pe_int pa_nil))))) pss_nil)
  (pss_cons (ps_expr (pe_call (okx_need_rows T) (hr.mono (by decide)) (by rfl) T.mg_need_rows T.kp_need_rows T.b_need_rows .nil (passes_call (takes_of rfl rfl rfl rfl) fun _ _ _ _ h => h) (pa_cons (pv 0) (pa_cons (pv 3) pa_nil))))
  (pss_one (ps_ret (pe_tup (pa_cons (pe_ix ix_list (pv 3) pe_int (fun _ _ => rfl)) (pa_cons (pe_ix ix_list (pv 3) pe_int (fun _ _ => rfl)) pa_nil)))))))))))), ?_⟩
    have hlen : (SX.S cs).length = cs.length := SX.S_len _
    refine ⟨_, rfl, p, R, rfl, hp, hR, ?_⟩
    refine ⟨_, rfl, ⟨_, rfl⟩, _, _, rfl, rfl, (by rw [str_nl]; rfl), (by rw [hlen]; exact Nat.le_trans (Nat.add_le_add_right hl 2) (by decide)), fun ls hls => ?_⟩
    rw [str_nl, SX.split_S (by decide) (by decide)]
    have hne := spl_ne [10] cs 0 []
    have hme := spl_mea 10 cs []
    revert k hne hme
    generalize TL.spl [10] 0 [] cs = lns
    intro k hne hme
    rw [List.length_nil] at hme
    have s1 : Same H (upd H ls (.lst ((lns.map SX.S).map V.str))) := Same.upd_new hls
    have hl1 : (upd H ls (.lst ((lns.map SX.S).map V.str))) ls = some (.lst ((lns.map SX.S).map V.str)) := upd_same
    revert s1 hl1
    generalize (upd H ls (.lst ((lns.map SX.S).map V.str))) = H1
    intro s1 hl1
    refine ⟨_, rfl, ls, _, rfl, .inl (SqL.of hl1), _, _, rfl, rfl, _, rfl, ?_⟩
    rw [List.length_map, List.length_map]
    match lns, hne with
    | [a], _ =>
      have la := mea_mem (l := [a]) (p := a) List.mem_cons_self
      refine iteT ⟨_, rfl, ls, _, _, _, rfl, rfl, SqL.of hl1, at0, a, 0, rfl, by decide, by decide, by omega, ?_⟩
      cases e : oddI a with
      | some j =>
        rw [ansT_1s e] at k
        exact fun d H' s' hd hx => k d H' (s1.trans s') (s1.free hd) hx
      | none =>
        rw [ansT_1n e] at k
        intro q H2 hq s2 h2
        refine ⟨by show 2 ≤ 1000; decide, raise2 (by decide) (by decide) (by decide) (by decide) fun d H' s' hd hx => k d H' ((s1.trans s2).trans s') ((s1.trans s2).free hd) hx⟩
    | a :: b :: r, _ =>
      have la := mea_mem (l := a :: b :: r) (p := a) List.mem_cons_self
      have lb := mea_mem (l := a :: b :: r) (p := b) (List.mem_cons_of_mem _ List.mem_cons_self)
      refine iteF' (by rw [decide_eq_false_iff_not, List.length_cons, List.length_cons]; omega) ?_
      have at_l : ∀ {i : Nat} {l : List Nat}, [a, b][i]? = some l → atI (((a :: b :: r).map SX.S).map V.str) ((0 : Int) + (i : Int)) = some (.str (SX.S l)) := fun {i l} h => by
        match i, h with
        | 0, h =>
          cases h
          exact at0
        | 1, h =>
          cases h
          exact at1
      refine ⟨_, rfl, by decide, by decide, fun D hD => lc_range (n := 2) (fun i H' => Same H1 H' ∧ (∀ i' l', i' < i → [a, b][i']? = some l' → oddI l' = none) ∧ ∃ ps : List (Addr × List Lt), ps.length = i ∧ H' D = some (.lst (ps.map fun x => V.ref x.1)) ∧ (∀ x ∈ ps, H' x.1 = some (.lst (x.2.map oV)) ∧ H1 x.1 = none ∧ x.1 ≠ D) ∧ ps.map (·.2) = [a.map ltC, b.map ltC].take i ∧ (ps.map (·.1)).Nodup) ⟨Same.upd_new hD, fun i' l' h => absurd h (Nat.not_lt_zero _), [], rfl, upd_same, fun x h => absurd h List.not_mem_nil, rfl, .nil⟩ ?_ ?_⟩
      · rintro i H2 hi ⟨s2, hbef, ps, hpl, h2, hps, hpR, hnd⟩
        obtain ⟨l, hl⟩ : ∃ l, [a, b][i]? = some l := ⟨_, List.getElem?_eq_getElem (by exact hi)⟩
        have hlm : l ∈ a :: b :: r := by
          match i, hl with
          | 0, hl =>
            cases hl
            exact List.mem_cons_self
          | 1, hl =>
            cases hl
            exact List.mem_cons_of_mem _ List.mem_cons_self
        have ll := mea_mem hlm
        refine ⟨rfl, lc_yes ⟨_, rfl, _, rfl, ls, _, _, _, rfl, rfl, SqL.of (s2 _ _ hl1), at_l hl, _, rfl, l, _, rfl, by omega, by omega, by omega, ?_⟩⟩
        cases e : oddI l with
        | some j =>
          rw [ansT_at hl hbef e] at k
          intro d H' s' hd hx
          rw [Int.zero_add] at hx
          exact k d H' ((s1.trans s2).trans s') ((s1.trans s2).free hd) hx
        | none =>
          intro c H3 hc s3 h3
          have hDc : D ≠ c := ne_of_none h2 hc
          have h2' := s3 _ _ h2
          refine ⟨_, h2', small1000 (by rw [List.length_map]; omega), (s2.trans s3).mut hD, fun i' l' hi' hl' => ?_, ps ++ [(c, l.map ltC)], by rw [List.length_append, hpl]; rfl, by rw [upd_same, List.map_append]; rfl, fun x hx => ?_, ?_, ?_⟩
          · by_cases q : i' = i
            · rw [q, hl] at hl'
              cases hl'
              exact e
            · exact hbef i' l' (by omega) hl'
          · rcases List.mem_append.mp hx with hx | hx
            · obtain ⟨e1, e2⟩ := hps x hx
              exact ⟨by rw [upd_ne e2.2]; exact s3 _ _ e1, e2⟩
            · rw [List.mem_singleton.mp hx]
              exact ⟨by rw [upd_ne hDc.symm]; exact h3, s2.free hc, hDc.symm⟩
          · have eY : [a.map ltC, b.map ltC][i]? = some (l.map ltC) := by
              match i, hl with
              | 0, hl =>
                cases hl
                rfl
              | 1, hl =>
                cases hl
                rfl
            rw [List.map_append, hpR, take_succ_of eY]
            rfl
          · rw [List.map_append, List.nodup_append]
            refine ⟨hnd, by simp, fun x hx y hy => ?_⟩
            obtain ⟨z, hz, rfl⟩ := List.mem_map.mp hx
            rw [List.map_cons, List.map_nil, List.mem_singleton] at hy
            rw [hy]
            exact ne_of_none (hps z hz).1 hc
      · rintro H2 ⟨s2, hbef, ps, hpl, h2, hps, hpR, hnd⟩
        obtain ⟨⟨a', Y0⟩, ⟨b', Y1⟩, rfl⟩ := len2 hpl
        obtain ⟨e1, n1, _⟩ := hps (a', Y0) (by simp)
        obtain ⟨e2, n2, _⟩ := hps (b', Y1) (by simp)
        have eY := List.cons.inj hpR
        have eY0 : Y0 = a.map ltC := eY.1
        have eY1 : Y1 = b.map ltC := (List.cons.inj eY.2).1
        subst eY0
        subst eY1
        have hab : a' ≠ b' := by
          rw [List.map_cons, List.map_cons, List.nodup_cons] at hnd
          exact fun z => hnd.1 (by rw [z]; exact List.mem_cons_self)
        have o0 := hbef 0 a (by decide) rfl
        have o1 := hbef 1 b (by decide) rfl
        have s02 := s1.trans s2
        refine ⟨_, rfl, ls, _, rfl, .inl (SqL.of (s2 _ _ hl1)), _, _, rfl, rfl, _, rfl, ?_⟩
        rw [List.length_map, List.length_map]
        match r with
        | c :: r =>
          rw [ansT_many o0 o1] at k
          refine iteT' (by rw [decide_eq_true_eq, List.length_cons, List.length_cons, List.length_cons]; omega) ?_
          exact ⟨by show 2 ≤ 1000; decide, raise2 (by decide) (by decide) (by decide) (by decide) fun d H' s' hd hx => k d H' (s02.trans s') (s02.free hd) hx⟩
        | [] =>
          rw [ansT_two o0 o1] at k
          refine iteF' (decide_eq_false (by show ¬ ((2 : Int) < 2); decide)) ?_
          refine ⟨_, rfl, _, rfl, p, D, a', b', R, a.map ltC, b.map ltC, rfl, RoadsAt.same s02 hp, .inl (SqL.of h2), SqL.of e1, SqL.of e2, by rw [List.length_map]; omega, by rw [List.length_map]; omega, ?_⟩
          rcases ansR_cases R (a.map ltC) (b.map ltC) with ⟨r', j, ea⟩ | ea
          · rw [ea] at k ⊢
            exact fun d H' s' hd hx => k d H' (s02.trans s') (s02.free hd) hx
          · rw [ea] at k ⊢
            refine ⟨_, rfl, D, _, _, _, rfl, rfl, SqL.of h2, at0, _, rfl, D, _, _, _, rfl, rfl, SqL.of h2, at1, by show 2 ≤ sizeLine; decide, fun q hq => ?_⟩
            exact k q a' b' _ (s02.free hq) (s1.free n1) (s1.free n2) ⟨upd_same, by rw [upd_ne (ne_of_none e1 hq)]; exact e1, by rw [upd_ne (ne_of_none e2 hq)]; exact e2, hab⟩ (s02.new hq)
end
end Tp
namespace L2
open PySem PySem.Spec PyProof.Rows
section
variable {X : Cx}
theorem op_mulStr : OpR X (binaryOp .Mult) (fun x y H Q => ∃ (z : Str) (n : Int), x = .str z ∧ y = .int n ∧ MulOk z n ∧ Q (.str (Txt.mul z n)) H) := by
  intro pins s σ H x y v u Q I rx ry h
  obtain ⟨z, n, rfl, rfl, ok, q⟩ := h
  obtain ⟨t1, rfl⟩ := rx
  obtain ⟨t2, rfl⟩ := ry
  exact SB.mul ok fun t' k => ⟨.str (Txt.mul z n), H, I.tok _, ⟨_, rfl⟩, q⟩
theorem op_notIn_rng : OpR X (compareOp .NotIn) (fun x y H Q => ∃ i a lo hi, x = V.int i ∧ y = V.ref a ∧ H a = some (.rng lo hi) ∧ Q (.bl (!decide (lo ≤ i ∧ i < hi))) H) := by
  intro pins s σ H x y v u Q I rx ry h
  obtain ⟨i, a, lo, hi, rfl, rfl, ha, q⟩ := h
  obtain ⟨tk, rfl⟩ := rx
  obtain rfl : u = Value.ref a := ry
  obtain ⟨t1, t2, t3, hr⟩ := I.hok a _ ha
  show wpAny _ _ (do return Value.bool (!(← contains (Value.ref a) (Value.int i tk)))) _ _ s
  refine wpAny_bind (wpAny_contains_slot (T := "range") ⟨_, hr, rfl⟩ F.slot_range_contains (call_meets F.slot_range_contains ⟨_, hr, rfl⟩ F.entry_range_contains (F.args_range_contains_2 _ _) (q_contains a lo hi i t1 t2 t3 tk) ⟨hr, wpAny_truthy_bool (wpAny_pure ⟨.bl _, H, I, rfl, ?_⟩)⟩))
  rw [place1]
  exact q
end
end L2
namespace Tp
open PySem L2
/-! ### _law_reading -/
/-- a tuple that tells an answer -/
def DueAt (H : Hp) (t : Addr) : Ans → Prop
  | .text n k => ∃ u : Addr, H t = some (.tup [.str "text", .ref u]) ∧ H u = some (.tup [.int n, .int k])
  | .rows r k => ∃ u : Addr, H t = some (.tup [.str "rows", .ref u]) ∧ H u = some (.tup [.int r, .int k])
  | .good R0 R1 => ∃ q a b : Addr, H t = some (.tup [.str "read", .ref q]) ∧ RowsAt H q a b R0 R1
def spDue : Sp := fun vs H Q _ => ∃ (p : Addr) (R : Rds) (cs : List Nat), vs = [.ref p, .str (SX.S cs)] ∧ RoadsAt H p R ∧ R.Ok ∧ cs.length ≤ 10000 ∧ ∀ (t : Addr) (H' : Hp), Same H H' → DueAt H' t (ansT R (TL.spl [10] 0 [] cs)) → Q (.ref t) H'
theorem look_row {x y : V} : ([(("at" : Str), x), (("row" : Str), y)] : List (Str × V)).lookup ("row" : Str) = some y := by
  rw [List.lookup_cons, show ((("row" : Str) == ("at" : Str)) = false) by decide +kernel, List.lookup_cons]
  simp
theorem look_at {x y : V} : ([(("at" : Str), x), (("row" : Str), y)] : List (Str × V)).lookup ("at" : Str) = some x := by
  rw [List.lookup_cons]
  simp
theorem look_road {x y : V} : ([(("at" : Str), x), (("road" : Str), y)] : List (Str × V)).lookup ("road" : Str) = some y := by
  rw [List.lookup_cons, show ((("road" : Str) == ("at" : Str)) = false) by decide +kernel, List.lookup_cons]
  simp
theorem look_at2 {x y : V} : ([(("at" : Str), x), (("road" : Str), y)] : List (Str × V)).lookup ("at" : Str) = some x := by
  rw [List.lookup_cons]
  simp
theorem len4w {α : Type} : ∀ {l : List α}, l.length = 4 → ∃ a b c d, l = [a, b, c, d]
  | [a, b, c, d], _ => ⟨a, b, c, d, rfl⟩
section
variable {P : Program} {w : World} {K : PySem.W.Frag} {mg : Str → Option Value} {base : Heap}
theorem ok_Lreading (T : Txt K mg) : FnOk P w K mg base CX0 6 T.f_Lreading T.fd_Lreading P_Lreading spDue := by
  refine T.F_Lreading.ok sc_Lreading (fun vs H Q E h => ?_) (fun cdv A outer s H vs Q E hr h => ?_)
  · obtain ⟨p, R, cs, rfl, _⟩ := h
    rfl
  · obtain ⟨p, R, cs, rfl, hp, hR, hl, k⟩ := h
    refine ⟨_, ((pss_one (ps_tryX (c := .ref T.C_RoadError) (i := 2) rfl rfl sc_Lreading.nd rfl rfl ⟨rfl, by decide, .inl T.mg_RoadError⟩ (fun W pn xe tk _ => (pss_one (ps_ret (pe_tup (pa_cons pe_str (pa_cons (pe_callS (okx_read T) (hr.mono (by decide)) (by rfl) T.mg_read T.kp_read T.b_read (fun σ => passAt tk σ) (pa_cons (pv 0) (pa_cons (pv 1) pa_nil))) pa_nil))))))))), ?_⟩
    refine ⟨_, rfl, _, rfl, p, R, cs, rfl, hp, hR, hl, ?_⟩
    have ecv : ∀ (C : Addr) (u : Value), RelV (.ref C) u → u = .ref C := fun C u r => r
    cases e : ansT R (TL.spl [10] 0 [] cs) with
    | good R0 R1 =>
      rw [e] at k
      intro q a b H1 _ _ _ hrw s1
      refine ⟨by show 2 ≤ sizeLine; decide, fun t ht => ?_⟩
      exact k t _ (s1.new ht) ⟨q, a, b, upd_same, RowsAt.same (Same.upd_new ht) hrw⟩
    | text n j =>
      rw [e] at k
      intro d H1 s1 hd hx
      have XC : ExcC K T.C_BadText := ⟨T.xg_BadText, T.xk_BadText, T.ex_BadText, T.hd_BadText, T.xa_BadText, T.xn_BadText, T.xt_BadText, T.xm_BadText⟩
      refine ⟨true, T.m_BadText, fun _ a ha => fun oe pn hz hf => ⟨_, (pss_cons (ps_set (i := 3) sc_Lreading.nd rfl (Or.inl rfl) (pe_lst (pa_cons (pe_callB (call_isX XC hz hf) (by rfl) T.z_isinstance (by decide +kernel) (pa_cons (pv 2) (pa_cons (pe_glob rfl T.mg_BadText (v := .ref T.C_BadText) rfl) pa_nil))) (pa_cons (pe_callB (call_isX XC hz hf) (by rfl) T.z_isinstance (by decide +kernel) (pa_cons (pv 2) (pa_cons (pe_glob rfl T.mg_BadRows (v := .ref T.C_BadRows) rfl) pa_nil))) (pa_cons (pe_callB (call_isXT XC hz hf) (by rfl) T.z_isinstance (by decide +kernel) (pa_cons (pv 2) (pa_cons (pe_tup (pa_cons (pe_glob rfl T.mg_BadMark (v := .ref T.C_BadMark) rfl) (pa_cons (pe_glob rfl T.mg_BadReceiver (v := .ref T.C_BadReceiver) rfl) (pa_cons (pe_glob rfl T.mg_BadRoads (v := .ref T.C_BadRoads) rfl) pa_nil)))) pa_nil))) pa_nil)))))
  (pss_cons (ps_if (PW.pt (pw_or (pt_not (pt_val (pe_callB (call_isX XC hz hf) (by rfl) T.z_isinstance (by decide +kernel) (pa_cons (pv 2) (pa_cons (pe_bltn (v := .ty "ValueError") rfl T.z_ValueError (by decide +kernel) rfl) pa_nil))))) (pw_or (pt_cmpR op_ne (pe_bm PySem.F.plainAttrs_list PySem.F.slot_list_count PySem.F.type_list_count mt_countB (pv 3) (pa_cons pe_bl pa_nil)) pe_int (nomark _)) (pw_or1 (pt_val (pe_ix ix_list (pv 3) pe_int (fun _ _ => rfl))))))) (pss_one (ps_ret (pe_tup (pa_cons pe_str (pa_cons pe_non pa_nil))))) pss_nil)
  (pss_one (ps_ret (pe_ifExp (pt_val (pe_ix ix_list (pv 3) pe_int (fun _ _ => rfl))) (pe_tup (pa_cons pe_str (pa_cons (pe_tup (pa_cons (pe_xf (XfC.mk T.xg_BadText T.xk_BadText T.ex_BadText T.hd_BadText) T.nf_BadText_row hz hf (pv 2)) (pa_cons (pe_xf (XfC.mk T.xg_BadText T.xk_BadText T.ex_BadText T.hd_BadText) T.nf_BadText_at hz hf (pv 2)) pa_nil))) pa_nil))) (pe_tup (pa_cons pe_str (pa_cons (pe_tup (pa_cons (pe_xf (XfC.mk T.xg_BadText T.xk_BadText T.ex_BadText T.hd_BadText) T.nf_BadText_road hz hf (pv 2)) (pa_cons (pe_xf (XfC.mk T.xg_BadText T.xk_BadText T.ex_BadText T.hd_BadText) T.nf_BadText_at hz hf (pv 2)) pa_nil))) pa_nil)))))))), fun hl => ?_⟩, fun z => by cases z⟩
      refine ⟨_, rfl, _, _, true, _, rfl, ecv _, hx, T.i_BadText_BadText, _, rfl, _, _, false, _, rfl, ecv _, hx, T.i_BadText_BadRows, _, rfl, by show 3 ≤ sizeLine; decide, fun t3 ht3 => ?_⟩
      have kit3 : PySem.W.kitAny K (.ref T.C_BadText) ([T.C_BadMark, T.C_BadReceiver, T.C_BadRoads].map Value.ref) = some false := kitAny_cons T.i_BadText_BadMark (fun _ => kitAny_cons T.i_BadText_BadReceiver (fun _ => kitAny_cons T.i_BadText_BadRoads (fun _ => rfl) (fun z => by cases z)) (fun z => by cases z)) (fun z => by cases z)
      refine ⟨t3, [T.C_BadMark, T.C_BadReceiver, T.C_BadRoads], false, _, rfl, upd_same, (Same.upd_new ht3) _ _ hx, kit3, by show 3 ≤ sizeLine; decide, fun l hl0 => ?_⟩
      have s2 : Same H1 (upd (upd H1 t3 (.tup [.ref T.C_BadMark, .ref T.C_BadReceiver, .ref T.C_BadRoads])) l (.lst [.bl true, .bl false, .bl false])) := (Same.upd_new ht3).new hl0
      have hl2 : (upd (upd H1 t3 (.tup [.ref T.C_BadMark, .ref T.C_BadReceiver, .ref T.C_BadRoads])) l (.lst [.bl true, .bl false, .bl false])) l = some (.lst ([true, false, false].map V.bl)) := upd_same
      revert s2 hl2
      generalize (upd (upd H1 t3 (.tup [.ref T.C_BadMark, .ref T.C_BadReceiver, .ref T.C_BadRoads])) l (.lst [.bl true, .bl false, .bl false])) = H2
      intro s2 hl2
      have hx2 := s2 _ _ hx
      refine ⟨_, rfl, _, _, true, _, rfl, fun u r => r, hx2, T.i_BadText_VE, _, rfl, iteF ?_⟩
      refine ⟨_, rfl, .inl ⟨rfl, _, SqL.of hl2⟩, l, _, rfl, rfl, SqL.of hl2, rfl, _, rfl, iteNS rfl ?_⟩
      refine ⟨_, rfl, l, _, _, _, rfl, rfl, SqL.of hl2, at2, _, rfl, iteF ?_⟩
      refine ⟨_, rfl, l, _, _, _, rfl, rfl, SqL.of hl2, at0, _, rfl, iteT ?_⟩
      refine ⟨_, rfl, rfl, rfl, d, _, _, rfl, hx2, look_row, _, rfl, rfl, rfl, d, _, _, rfl, hx2, look_at, by show 2 ≤ sizeLine; decide, fun u hu => ⟨by show 2 ≤ sizeLine; decide, fun t ht => ?_⟩⟩
      have s3 := s1.trans s2
      exact k t _ ((s3.new hu).new ht) ⟨u, upd_same, by rw [upd_ne (ne_of_none (o := .tup _) upd_same ht)]; exact upd_same⟩
    | rows r j =>
      rw [e] at k
      intro d H1 s1 hd hx
      have XC : ExcC K T.C_BadRows := ⟨T.xg_BadRows, T.xk_BadRows, T.ex_BadRows, T.hd_BadRows, T.xa_BadRows, T.xn_BadRows, T.xt_BadRows, T.xm_BadRows⟩
      refine ⟨true, T.m_BadRows, fun _ a ha => fun oe pn hz hf => ⟨_, (pss_cons (ps_set (i := 3) sc_Lreading.nd rfl (Or.inl rfl) (pe_lst (pa_cons (pe_callB (call_isX XC hz hf) (by rfl) T.z_isinstance (by decide +kernel) (pa_cons (pv 2) (pa_cons (pe_glob rfl T.mg_BadText (v := .ref T.C_BadText) rfl) pa_nil))) (pa_cons (pe_callB (call_isX XC hz hf) (by rfl) T.z_isinstance (by decide +kernel) (pa_cons (pv 2) (pa_cons (pe_glob rfl T.mg_BadRows (v := .ref T.C_BadRows) rfl) pa_nil))) (pa_cons (pe_callB (call_isXT XC hz hf) (by rfl) T.z_isinstance (by decide +kernel) (pa_cons (pv 2) (pa_cons (pe_tup (pa_cons (pe_glob rfl T.mg_BadMark (v := .ref T.C_BadMark) rfl) (pa_cons (pe_glob rfl T.mg_BadReceiver (v := .ref T.C_BadReceiver) rfl) (pa_cons (pe_glob rfl T.mg_BadRoads (v := .ref T.C_BadRoads) rfl) pa_nil)))) pa_nil))) pa_nil)))))
  (pss_cons (ps_if (PW.pt (pw_or (pt_not (pt_val (pe_callB (call_isX XC hz hf) (by rfl) T.z_isinstance (by decide +kernel) (pa_cons (pv 2) (pa_cons (pe_bltn (v := .ty "ValueError") rfl T.z_ValueError (by decide +kernel) rfl) pa_nil))))) (pw_or (pt_cmpR op_ne (pe_bm PySem.F.plainAttrs_list PySem.F.slot_list_count PySem.F.type_list_count mt_countB (pv 3) (pa_cons pe_bl pa_nil)) pe_int (nomark _)) (pw_or1 (pt_val (pe_ix ix_list (pv 3) pe_int (fun _ _ => rfl))))))) (pss_one (ps_ret (pe_tup (pa_cons pe_str (pa_cons pe_non pa_nil))))) pss_nil)
  (pss_one (ps_ret (pe_ifExp (pt_val (pe_ix ix_list (pv 3) pe_int (fun _ _ => rfl))) (pe_tup (pa_cons pe_str (pa_cons (pe_tup (pa_cons (pe_xf (XfC.mk T.xg_BadRows T.xk_BadRows T.ex_BadRows T.hd_BadRows) T.nf_BadRows_row hz hf (pv 2)) (pa_cons (pe_xf (XfC.mk T.xg_BadRows T.xk_BadRows T.ex_BadRows T.hd_BadRows) T.nf_BadRows_at hz hf (pv 2)) pa_nil))) pa_nil))) (pe_tup (pa_cons pe_str (pa_cons (pe_tup (pa_cons (pe_xf (XfC.mk T.xg_BadRows T.xk_BadRows T.ex_BadRows T.hd_BadRows) T.nf_BadRows_road hz hf (pv 2)) (pa_cons (pe_xf (XfC.mk T.xg_BadRows T.xk_BadRows T.ex_BadRows T.hd_BadRows) T.nf_BadRows_at hz hf (pv 2)) pa_nil))) pa_nil)))))))), fun hl => ?_⟩, fun z => by cases z⟩
      refine ⟨_, rfl, _, _, false, _, rfl, ecv _, hx, T.i_BadRows_BadText, _, rfl, _, _, true, _, rfl, ecv _, hx, T.i_BadRows_BadRows, _, rfl, by show 3 ≤ sizeLine; decide, fun t3 ht3 => ?_⟩
      have kit3 : PySem.W.kitAny K (.ref T.C_BadRows) ([T.C_BadMark, T.C_BadReceiver, T.C_BadRoads].map Value.ref) = some false := kitAny_cons T.i_BadRows_BadMark (fun _ => kitAny_cons T.i_BadRows_BadReceiver (fun _ => kitAny_cons T.i_BadRows_BadRoads (fun _ => rfl) (fun z => by cases z)) (fun z => by cases z)) (fun z => by cases z)
      refine ⟨t3, [T.C_BadMark, T.C_BadReceiver, T.C_BadRoads], false, _, rfl, upd_same, (Same.upd_new ht3) _ _ hx, kit3, by show 3 ≤ sizeLine; decide, fun l hl0 => ?_⟩
      have s2 : Same H1 (upd (upd H1 t3 (.tup [.ref T.C_BadMark, .ref T.C_BadReceiver, .ref T.C_BadRoads])) l (.lst [.bl false, .bl true, .bl false])) := (Same.upd_new ht3).new hl0
      have hl2 : (upd (upd H1 t3 (.tup [.ref T.C_BadMark, .ref T.C_BadReceiver, .ref T.C_BadRoads])) l (.lst [.bl false, .bl true, .bl false])) l = some (.lst ([false, true, false].map V.bl)) := upd_same
      revert s2 hl2
      generalize (upd (upd H1 t3 (.tup [.ref T.C_BadMark, .ref T.C_BadReceiver, .ref T.C_BadRoads])) l (.lst [.bl false, .bl true, .bl false])) = H2
      intro s2 hl2
      have hx2 := s2 _ _ hx
      refine ⟨_, rfl, _, _, true, _, rfl, fun u r => r, hx2, T.i_BadRows_VE, _, rfl, iteF ?_⟩
      refine ⟨_, rfl, .inl ⟨rfl, _, SqL.of hl2⟩, l, _, rfl, rfl, SqL.of hl2, rfl, _, rfl, iteNS rfl ?_⟩
      refine ⟨_, rfl, l, _, _, _, rfl, rfl, SqL.of hl2, at2, _, rfl, iteF ?_⟩
      refine ⟨_, rfl, l, _, _, _, rfl, rfl, SqL.of hl2, at0, _, rfl, iteF ?_⟩
      refine ⟨_, rfl, rfl, rfl, d, _, _, rfl, hx2, look_road, _, rfl, rfl, rfl, d, _, _, rfl, hx2, look_at2, by show 2 ≤ sizeLine; decide, fun u hu => ⟨by show 2 ≤ sizeLine; decide, fun t ht => ?_⟩⟩
      have s3 := s1.trans s2
      exact k t _ ((s3.new hu).new ht) ⟨u, upd_same, by rw [upd_ne (ne_of_none (o := .tup _) upd_same ht)]; exact upd_same⟩
end
/-! ### _law_due -/
theorem ansT_gen {R : Rds} {lns : List (List Nat)} {i j : Nat} {l : List Nat} (hi : i < 2) (hl : lns[i]? = some l) (hb : ∀ i' l', i' < i → lns[i']? = some l' → oddI l' = none) (e : oddI l = some j) : ansT R lns = .text (i : Nat) j := by
  match lns with
  | [] => cases hl
  | [a] =>
    match i, hl with
    | 0, hl =>
      cases hl
      rw [ansT_1s e]
      rfl
  | a :: b :: r =>
    have h2 : ∀ i' l', i' < 2 → [a, b][i']? = some l' → (a :: b :: r)[i']? = some l' := fun i' l' h q => by
      match i', q with
      | 0, q => exact q
      | 1, q => exact q
    refine ansT_at (i := i) (l := l) ?_ (fun i' l' h q => hb i' l' h (h2 i' l' (by omega) q)) e
    match i, hl with
    | 0, hl => exact hl
    | 1, hl => exact hl
theorem ansT_not2 {R : Rds} {lns : List (List Nat)} (hne : lns ≠ []) (h2 : lns.length ≠ 2) (hb : ∀ i l, i < 2 → lns[i]? = some l → oddI l = none) : ansT R lns = .text (if 2 < lns.length then 2 else 1) 0 := by
  match lns, hne with
  | [a], _ =>
    rw [ansT_1n (hb 0 a (by decide) rfl)]
    rfl
  | [a, b], _ => exact absurd rfl h2
  | a :: b :: c :: r, _ =>
    rw [ansT_many (hb 0 a (by decide) rfl) (hb 1 b (by decide) rfl), if_pos (by simp)]
theorem odd_filter (cs : List Nat) : oddI cs = ((List.range cs.length).filter (oddP cs)).head? := by
  unfold oddI fstN
  rw [List.head?_filter]
theorem sg_iff {c : Nat} : c ∈ (Str.ofString "-0123456789").cps.toList ↔ okC c = true := by
  have e : (Str.ofString "-0123456789").cps.toList = [45, 48, 49, 50, 51, 52, 53, 54, 55, 56, 57] := by decide +kernel
  rw [e]
  unfold okC
  rw [decide_eq_true_eq]
section
variable {P : Program} {w : World} {K : PySem.W.Frag} {mg : Str → Option Value} {base : Heap}
theorem ok_Ldue (T : Txt K mg) : FnOk P w K mg base CX0 1 T.f_Ldue T.fd_Ldue P_Ldue spDue := by
  refine T.F_Ldue.ok sc_Ldue (fun vs H Q E h => ?_) (fun cdv A outer s H vs Q E hr h => ?_)
  · obtain ⟨p, R, cs, rfl, _⟩ := h
    rfl
  · obtain ⟨p, R, cs, rfl, hp, hR, hl, k⟩ := h
    refine ⟨_, ((pss_cons (ps_set (i := 2) sc_Ldue.nd rfl (Or.inr rfl) (pe_split (pv 1) pe_str))
  (pss_cons (ps_for PassesOwn.never rfl (pi_range1 (by rfl) T.z_range (pa_cons (pe_callB (call_min2 rfl) (by rfl) T.z_min (by decide +kernel) (pa_cons pe_int (pa_cons (pe_callB call_len_seq (by rfl) T.z_len (by decide +kernel) (pa_cons (pv 2) pa_nil)) pa_nil))) pa_nil)) (pg_name (i := 3) sc_Ldue.nd rfl (Or.inr rfl))
  (pss_cons (ps_setLc (i := 4) (own := [("_law_at", 7)]) (g := gName 7) rfl sc_Ldue.nd rfl rfl (sw_true rfl rfl rfl (by decide +kernel)) (pi_range1 (by rfl) T.z_range (pa_cons (pe_callB call_len_str (by rfl) T.z_len (by decide +kernel) (pa_cons (pe_ix ix_list (pv 2) (pv 3) (fun _ _ => rfl)) pa_nil)) pa_nil)) (blkOk_by (N := N_Ldue) (sc := (defScope s_Ldue)) (own := [("_law_at", 7)]) (by decide +kernel)) (fun _ _ _ _ _ => (pg_name (i := 7) sc_Ldue.nd rfl (Or.inl rfl))) (fun _ _ _ _ _ => pts_one (pt_cmpR op_notIn_sign (pe_ix ix_str (pe_ix (ixK_list (K := K) rfl) (pv 2) (pv 3) (fun _ _ => rfl)) (pv 7) (fun _ _ => rfl)) pe_str (by rfl))) (fun _ _ _ _ _ => (pv 7)))
  (pss_one (ps_if (pt_cmpR (op_neD hr.units) (pv 4) (pe_lst pa_nil) (nomark _)) (pss_one (ps_ret (pe_tup (pa_cons pe_str (pa_cons (pe_tup (pa_cons (pv 3) (pa_cons (pe_ix ix_list (pv 4) pe_int (fun _ _ => rfl)) pa_nil))) pa_nil))))) pss_nil))))
  (pss_cons (ps_if (pt_cmpR op_ne (pe_callB call_len_seq (by rfl) T.z_len (by decide +kernel) (pa_cons (pv 2) pa_nil)) pe_int (nomark _)) (pss_one (ps_ret (pe_tup (pa_cons pe_str (pa_cons (pe_tup (pa_cons (pe_ix ix_list (pe_lst (pa_cons pe_int (pa_cons pe_int pa_nil))) (pe_callTy call_int1 (by rfl) T.z_int (by decide +kernel) (pa_cons (pe_cmpR op_gt (pe_callB call_len_seq (by rfl) T.z_len (by decide +kernel) (pa_cons (pv 2) pa_nil)) pe_int (nomark _)) pa_nil)) (fun _ _ => rfl)) (pa_cons pe_int pa_nil))) pa_nil))))) pss_nil)
  (pss_cons (ps_set (i := 5) sc_Ldue.nd rfl (Or.inl rfl) (pe_tup (pa_cons (pe_lst pa_nil) (pa_cons (pe_lst pa_nil) pa_nil))))
  (pss_cons (ps_for PassesOwn.never rfl (pi_range1 (by rfl) T.z_range (pa_cons pe_int pa_nil)) (pg_name (i := 6) sc_Ldue.nd rfl (Or.inl rfl))
  (pss_one (ps_for PassesOwn.never rfl (pi_range1 (by rfl) T.z_range (pa_cons (pe_callB call_len_str (by rfl) T.z_len (by decide +kernel) (pa_cons (pe_ix ix_list (pv 2) (pv 6) (fun _ _ => rfl)) pa_nil)) pa_nil)) (pg_name (i := 7) sc_Ldue.nd rfl (Or.inl rfl))
  (pss_cons (ps_set (i := 8) sc_Ldue.nd rfl (Or.inl rfl) (pe_ifExp (pt_cmpR op_eq (pe_ix ix_str (pe_ix ix_list (pv 2) (pv 6) (fun _ _ => rfl)) (pv 7) (fun _ _ => rfl)) pe_str (nomark _)) pe_non (pe_callTy call_int_str (by rfl) T.z_int (by decide +kernel) (pa_cons (pe_ix ix_str (pe_ix ix_list (pv 2) (pv 6) (fun _ _ => rfl)) (pv 7) (fun _ _ => rfl)) pa_nil))))
  (pss_cons (ps_if (PW.pt (pw_or (pt_cmpR op_gt (pv 7) pe_int (nomark _)) (pw_or1 (PW.pt (pw_and (pt_cmp (pc_notN (pv 8))) (pw_and1 (pt_cmpR op_notIn_rng (pv 8) (pe_callTy cr_range2 (by rfl) T.z_range (by decide +kernel) (pa_cons (pe_ix ix_tup (pe_ix ix_tup (pv 0) (pv 6) (fun _ _ => rfl)) pe_int (fun _ _ => rfl)) (pa_cons (pe_op op_add (pe_ix ix_tup (pe_ix ix_tup (pv 0) (pv 6) (fun _ _ => rfl)) pe_int (fun _ _ => rfl)) pe_int) pa_nil))) (by rfl)))))))) (pss_one (ps_ret (pe_tup (pa_cons pe_str (pa_cons (pe_tup (pa_cons (pv 6) (pa_cons (pv 7) pa_nil))) pa_nil))))) pss_nil)
  (pss_one (ps_expr (pe_bm PySem.F.plainAttrs_list PySem.F.slot_list_append PySem.F.type_list_append mt_append (pe_ix ix_tup (pv 5) (pv 6) (fun _ _ => rfl)) (pa_cons (pv 8) pa_nil)))))))))
  (pss_cons (ps_if (pt_cmpR op_ne (pe_callB call_len_seq (by rfl) T.z_len (by decide +kernel) (pa_cons (pe_ix ix_tup (pv 5) pe_int (fun _ _ => rfl)) pa_nil)) (pe_callB call_len_seq (by rfl) T.z_len (by decide +kernel) (pa_cons (pe_ix ix_tup (pv 5) pe_int (fun _ _ => rfl)) pa_nil)) (nomark _)) (pss_one (ps_ret (pe_tup (pa_cons pe_str (pa_cons (pe_tup (pa_cons (pe_callTy call_int1 (by rfl) T.z_int (by decide +kernel) (pa_cons (pe_cmpR op_lt (pe_callB call_len_seq (by rfl) T.z_len (by decide +kernel) (pa_cons (pe_ix ix_tup (pv 5) pe_int (fun _ _ => rfl)) pa_nil)) (pe_callB call_len_seq (by rfl) T.z_len (by decide +kernel) (pa_cons (pe_ix ix_tup (pv 5) pe_int (fun _ _ => rfl)) pa_nil)) (nomark _)) pa_nil)) (pa_cons (pe_callB (call_min2 rfl) (by rfl) T.z_min (by decide +kernel) (pa_cons (pe_callB call_len_seq (by rfl) T.z_len (by decide +kernel) (pa_cons (pe_ix ix_tup (pv 5) pe_int (fun _ _ => rfl)) pa_nil)) (pa_cons (pe_callB call_len_seq (by rfl) T.z_len (by decide +kernel) (pa_cons (pe_ix ix_tup (pv 5) pe_int (fun _ _ => rfl)) pa_nil)) pa_nil))) pa_nil))) pa_nil))))) pss_nil)
  (pss_one (ps_ret (pe_tup (pa_cons pe_str (pa_cons (pv 5) pa_nil)))))))))))), ?_⟩
    have hlen : (SX.S cs).length = cs.length := SX.S_len _
    refine ⟨_, rfl, ⟨_, rfl⟩, _, _, rfl, rfl, (by rw [str_nl]; rfl), (by rw [hlen]; exact Nat.le_trans (Nat.add_le_add_right hl 2) (by decide)), fun ls hls => ?_⟩
    rw [str_nl, SX.split_S (by decide) (by decide)]
    have hne := spl_ne [10] cs 0 []
    have hme := spl_mea 10 cs []
    revert k hne hme
    generalize TL.spl [10] 0 [] cs = lns
    intro k hne hme
    rw [List.length_nil] at hme
    have s1 : Same H (upd H ls (.lst ((lns.map SX.S).map V.str))) := Same.upd_new hls
    have hl1 : (upd H ls (.lst ((lns.map SX.S).map V.str))) ls = some (.lst ((lns.map SX.S).map V.str)) := upd_same
    revert s1 hl1
    generalize (upd H ls (.lst ((lns.map SX.S).map V.str))) = H1
    intro s1 hl1
    have at_l : ∀ {i : Nat} {l : List Nat}, lns[i]? = some l → atI ((lns.map SX.S).map V.str) ((0 : Int) + (i : Int)) = some (.str (SX.S l)) := fun {i l} h => by
      rw [Int.zero_add]
      exact atI_nat (by rw [List.getElem?_map, List.getElem?_map, h]; rfl)
    have l_le : ∀ {i : Nat} {l : List Nat}, lns[i]? = some l → l.length ≤ 10000 := fun {i l} h => by
      have := mea_mem (List.mem_of_getElem? h)
      omega
    have lnn := mea_len lns
    refine ⟨_, rfl, ls, _, rfl, .inl (SqL.of hl1), ?_⟩
    rw [List.length_map, List.length_map]
    refine ⟨_, _, rfl, ?_⟩
    have hm : ∃ m : Nat, (if (lns.length : Int) < 2 then (lns.length : Int) else 2) = m ∧ m ≤ 2 ∧ m ≤ lns.length ∧ (m = 2 ∨ m = lns.length) := by
      by_cases c : lns.length < 2
      · exact ⟨lns.length, if_pos (by omega), by omega, by omega, .inr rfl⟩
      · exact ⟨2, if_neg (by omega), by omega, by omega, .inl rfl⟩
    obtain ⟨m, em, m2, ml, mc⟩ := hm
    rw [em]
    refine ⟨_, rfl, by omega, by omega, for_range (n := (m : Int).toNat) (fun i σ H' => ∃ v3 v4 : Option V, σ = [some (.ref p), some (.str (SX.S cs)), some (.ref ls), v3, v4, none, none, none, none] ∧ Same H1 H' ∧ ∀ i' l, i' < i → lns[i']? = some l → oddI l = none) ⟨none, none, rfl, Same.refl _, fun i' l h => absurd h (Nat.not_lt_zero _)⟩ ?_ ?_⟩
    · rintro i σ H2 hi ⟨v3, v4, rfl, s2, hb⟩
      have hi2 : i < lns.length := by omega
      obtain ⟨l, hl⟩ : ∃ l, lns[i]? = some l := ⟨_, List.getElem?_eq_getElem hi2⟩
      have ll := l_le hl
      have hls2 := s2 _ _ hl1
      have lS : (SX.S l).length = l.length := SX.S_len _
      refine ⟨_, rfl, _, rfl, ls, _, _, _, rfl, rfl, SqL.of hls2, at_l hl, _, rfl, by rw [lS]; exact Nat.le_trans ll (by decide), ?_⟩
      rw [lS]
      refine ⟨_, rfl, by omega, by omega, fun D hD => lc_range (n := (l.length : Int).toNat) (fun j H' => Same H2 H' ∧ H' D = some (.lst ((((List.range j).filter (oddP l)).map fun j : Nat => (j : Int)).map V.int))) ⟨Same.upd_new hD, upd_same⟩ ?_ ?_⟩
      · rintro j H3 hj ⟨s3, hD3⟩
        have hj2 : j < l.length := by omega
        obtain ⟨c, hc⟩ : ∃ c, l[j]? = some c := ⟨_, List.getElem?_eq_getElem hj2⟩
        have eo : oddP l j = !okC c := by unfold oddP; rw [hc]
        refine ⟨rfl, _, rfl, _, rfl, ls, _, _, _, rfl, rfl, SqL.of (s3 _ _ hls2), at_l hl, _, rfl, _, _, _, rfl, rfl, by rw [lS]; exact Nat.le_trans ll (by decide), S_at hc, _, _, rfl, rfl, _, rfl, ?_⟩
        cases ho : okC c with
        | true =>
          rw [ho] at eo
          refine iteNS (sg_iff.mpr ho) ⟨s3, ?_⟩
          rw [hD3, List.range_succ, List.filter_append, List.filter_cons, eo]
          simp
        | false =>
          rw [ho] at eo
          refine iteNN (fun z => by rw [sg_iff.mp z] at ho; cases ho) ⟨_, rfl, _, hD3, ?_, s3.mut hD, ?_⟩
          · rw [List.length_map, List.length_map]
            exact Nat.lt_of_le_of_lt (Nat.le_trans (List.length_filter_le _ _) (by rw [List.length_range]; exact Nat.le_trans (Nat.le_of_lt hj2) ll)) (by decide)
          · rw [upd_same, List.range_succ, List.filter_append, List.filter_cons, eo]
            simp
      · rintro H3 ⟨s3, hD3⟩
        rw [Int.toNat_natCast] at hD3
        have eo := odd_filter l
        refine ⟨_, rfl, by show 0 ≤ sizeLine; decide, fun e he => ?_⟩
        have se : Same H3 (upd H3 e (.lst [])) := Same.upd_new he
        refine ⟨.list ((((List.range l.length).filter (oddP l)).map fun j : Nat => (j : Int)).map PyData.int), .list [], .lst (SqL.of (se _ _ hD3)) (dp_ints _), .lst (SqL.of upd_same) .nil, shaped_ints _, rfl, ?_⟩
        rw [eqv_ints]
        refine ⟨_, rfl, ?_⟩
        have sA := (s2.trans s3).trans se
        have hDe := se _ _ hD3
        revert hDe sA
        generalize (upd H3 e (.lst [])) = H4
        intro sA hDe
        cases hf : (List.range l.length).filter (oddP l) with
        | nil =>
          rw [hf] at eo
          refine iteF' rfl ⟨_, _, rfl, sA, fun i' l' hi' hl' => ?_⟩
          by_cases q : i' = i
          · rw [q, hl] at hl'
            cases hl'
            exact eo
          · exact hb i' l' (by omega) hl'
        | cons x r =>
          rw [hf] at eo hDe
          rw [ansT_gen (by omega) hl hb eo] at k
          refine iteT' rfl ⟨_, rfl, _, rfl, D, _, _, _, rfl, rfl, SqL.of hDe, at0, by show 2 ≤ sizeLine; decide, fun u hu => ⟨by show 2 ≤ sizeLine; decide, fun t ht => ?_⟩⟩
          refine k t _ ((((s1.trans sA)).new hu).new ht) ⟨u, upd_same, ?_⟩
          rw [upd_ne (ne_of_none (o := .tup _) upd_same ht), Int.zero_add]
          exact upd_same
    · rintro σ H2 ⟨v3, v4, rfl, s2, hb⟩
      have hls2 := s2 _ _ hl1
      have s02 := s1.trans s2
      have hball : ∀ i l, i < 2 → lns[i]? = some l → oddI l = none := fun i l hi hl => hb i l (by
        have := (List.getElem?_eq_some_iff.mp hl).1
        omega) hl
      refine ⟨_, rfl, ls, _, rfl, .inl (SqL.of hls2), ?_⟩
      rw [List.length_map, List.length_map]
      refine ⟨rfl, _, rfl, ?_⟩
      by_cases h2 : lns.length = 2
      · refine iteNS (by rw [h2]; rfl) ?_
        obtain ⟨x, y, rfl⟩ := len2 h2
        rw [ansT_two (hball 0 x (by decide) rfl) (hball 1 y (by decide) rfl)] at k
        have hY0 : (x.map ltC).length = x.length := List.length_map _
        have hY1 : (y.map ltC).length = y.length := List.length_map _
        have ok_l : ∀ {i : Nat} {l : List Nat}, i < 2 → [x, y][i]? = some l → rowI (x.map ltC) (y.map ltC) i = l.map ltC ∧ ∀ j c, l[j]? = some c → okC c = true := fun {i l} hi hl => by
          refine ⟨?_, fun j c hc => ?_⟩
          · match i, hl with
            | 0, hl =>
              cases hl
              rfl
            | 1, hl =>
              cases hl
              rfl
          · have e := odd_filter l
            rw [hball i l hi hl] at e
            have e2 : (List.range l.length).filter (oddP l) = [] := List.head?_eq_none_iff.mp e.symm
            rw [List.filter_eq_nil_iff] at e2
            have := e2 j (List.mem_range.mpr (List.getElem?_eq_some_iff.mp hc).1)
            unfold oddP at this
            rw [hc] at this
            simpa using this
        revert k
        generalize hY0' : x.map ltC = Y0 at *
        generalize hY1' : y.map ltC = Y1 at *
        intro k
        refine ⟨by show 0 ≤ sizeLine; decide, fun a ha => ⟨by show 0 ≤ sizeLine; decide, fun b hb' => ⟨by show 2 ≤ sizeLine; decide, fun q hq => ?_⟩⟩⟩
        have ab : a ≠ b := ne_of_none (o := .lst []) upd_same hb'
        have ga : (upd (upd H2 a (.lst [])) b (.lst [])) a = some (.lst []) := by rw [upd_ne ab]; exact upd_same
        have gb : (upd (upd H2 a (.lst [])) b (.lst [])) b = some (.lst []) := upd_same
        have s3 : Same H2 (upd (upd (upd H2 a (.lst [])) b (.lst [])) q (.tup [.ref a, .ref b])) := ((Same.upd_new ha).new hb').new hq
        have g3a : (upd (upd (upd H2 a (.lst [])) b (.lst [])) q (.tup [.ref a, .ref b])) a = some (.lst []) := by rw [upd_ne (ne_of_none ga hq)]; exact ga
        have g3b : (upd (upd (upd H2 a (.lst [])) b (.lst [])) q (.tup [.ref a, .ref b])) b = some (.lst []) := by rw [upd_ne (ne_of_none gb hq)]; exact gb
        have g3q : (upd (upd (upd H2 a (.lst [])) b (.lst [])) q (.tup [.ref a, .ref b])) q = some (.tup [.ref a, .ref b]) := upd_same
        have fb : H2 b = none := by
          rw [upd_ne ab.symm] at hb'
          exact hb'
        revert s3 g3a g3b g3q
        generalize (upd (upd (upd H2 a (.lst [])) b (.lst [])) q (.tup [.ref a, .ref b])) = H3
        intro s3 g3a g3b g3q
        refine ⟨_, rfl, by decide, by decide, for_range (n := 2) (fun i σ H' => ∃ v6 v7 v8 : Option V, σ = [some (.ref p), some (.str (SX.S cs)), some (.ref ls), v3, v4, some (.ref q), v6, v7, v8] ∧ Same H2 H' ∧ H' q = some (.tup [.ref a, .ref b]) ∧ H' a = some (.lst ((if 0 < i then Y0 else []).map oV)) ∧ H' b = some (.lst ((if 1 < i then Y1 else []).map oV)) ∧ ∀ i', i' < i → badI R Y0 Y1 i' = none)
          ⟨none, none, none, rfl, s3, g3q, g3a, g3b, fun i h => absurd h (Nat.not_lt_zero _)⟩ ?_ ?_⟩
        · rintro i σ H4 hi ⟨v6, v7, v8, rfl, s4, q4, a4, b4, hbad⟩
          have s1' := s1.trans (s2.trans s4)
          have hls4 := s4 _ _ hls2
          obtain ⟨t0, t1, g1, g2, g3⟩ := RoadsAt.same s1' hp
          obtain ⟨l, hl⟩ : ∃ l, [x, y][i]? = some l := ⟨_, List.getElem?_eq_getElem (by exact hi)⟩
          obtain ⟨eY, hok⟩ := ok_l hi hl
          have ll := l_le hl
          have lS : (SX.S l).length = l.length := SX.S_len _
          obtain ⟨tr, hat, htr⟩ := road_at (R := R) g2 g3 hi
          -- the row that is made
          obtain ⟨c, hc, hcl, na⟩ : ∃ c, atI ([.ref a, .ref b] : List V) ((0 : Int) + (i : Int)) = some (.ref c) ∧ H4 c = some (.lst []) ∧ H2 c = none := by
            have hi' : i = 0 ∨ i = 1 := by omega
            rcases hi' with rfl | rfl
            · exact ⟨a, at0, a4, ha⟩
            · exact ⟨b, at1, b4, fb⟩
          have cq : q ≠ c := fun z => by rw [z, hcl] at q4; cases q4
          have lY : (rowI Y0 Y1 i).length = l.length := by rw [eY, List.length_map]
          refine ⟨_, rfl, _, rfl, ls, _, _, _, rfl, rfl, SqL.of hls4, at_l hl, _, rfl, by rw [lS]; exact Nat.le_trans ll (by decide), ?_⟩
          rw [lS]
          refine ⟨_, rfl, by omega, by omega, for_range (n := (l.length : Int).toNat) (fun j σ H' => ∃ v7 v8 : Option V, σ = [some (.ref p), some (.str (SX.S cs)), some (.ref ls), v3, v4, some (.ref q), some (.int (0 + i)), v7, v8] ∧ Same H2 H' ∧ Kp c H4 H' ∧ H' c = some (.lst (((rowI Y0 Y1 i).take j).map oV)) ∧ ∀ j', j' < j → badP (R.lo i) (R.hi i) (rowI Y0 Y1 i) j' = false)
            ⟨v7, v8, rfl, s4, Kp.refl _ _, hcl, fun j h => absurd h (Nat.not_lt_zero _)⟩ ?_ ?_⟩
          · rintro j σ H5 hj ⟨v7, v8, rfl, s5, k5, hc5, hbj⟩
            have hj2 : j < l.length := by omega
            obtain ⟨cc, hcc⟩ : ∃ c, l[j]? = some c := ⟨_, List.getElem?_eq_getElem hj2⟩
            have hokc := okC_iff.mp (hok j cc hcc)
            have hls5 := s5 _ _ hls2
            have hq5 := k5 _ _ cq q4
            have hxj : (rowI Y0 Y1 i)[j]? = some (ltC cc) := by rw [eY, List.getElem?_map, hcc]; rfl
            have s05 := s1.trans (s2.trans s5)
            have szl : (SX.S l).length ≤ sizeLine := by rw [lS]; exact Nat.le_trans ll (by decide)
            -- what follows the lateness
            have bad : badP (R.lo i) (R.hi i) (rowI Y0 Y1 i) j = true → ∀ (H6 : Hp), Same H5 H6 → ∀ (u : Addr), H6 u = none → ∀ t, (upd H6 u (.tup [.int (0 + i), .int (0 + j)])) t = none → Q (.ref t) (upd (upd H6 u (.tup [.int (0 + i), .int (0 + j)])) t (.tup [.str "rows", .ref u])) := fun hb H6 s6 u hu t ht => by
              have e := ansR_bad hi hbad (fstN_some (by rw [lY]; exact hj2) hb hbj)
              rw [e] at k
              refine k t _ (((s05.trans s6).new hu).new ht) ⟨u, upd_same, ?_⟩
              rw [upd_ne (ne_of_none (o := .tup _) upd_same ht), Int.zero_add, Int.zero_add]
              exact upd_same
            have good : badP (R.lo i) (R.hi i) (rowI Y0 Y1 i) j = false → ∀ H6, Same H5 H6 → ∀ (v8 : Option V), ∃ v7' v8' : Option V, ([some (.ref p), some (.str (SX.S cs)), some (.ref ls), v3, v4, some (.ref q), some (.int (0 + i)), some (.int (0 + j)), v8] : L2.St) = [some (.ref p), some (.str (SX.S cs)), some (.ref ls), v3, v4, some (.ref q), some (.int (0 + i)), v7', v8'] ∧ Same H2 (upd H6 c (.lst (((rowI Y0 Y1 i).take j).map oV ++ [oV (ltC cc)]))) ∧ Kp c H4 (upd H6 c (.lst (((rowI Y0 Y1 i).take j).map oV ++ [oV (ltC cc)]))) ∧
                (upd H6 c (.lst (((rowI Y0 Y1 i).take j).map oV ++ [oV (ltC cc)]))) c = some (.lst (((rowI Y0 Y1 i).take (j + 1)).map oV)) ∧ ∀ j', j' < j + 1 → badP (R.lo i) (R.hi i) (rowI Y0 Y1 i) j' = false := fun hg H6 s6 v8 => by
              refine ⟨_, _, rfl, (s5.trans s6).mut na, (k5.trans (Kp.of s6)).put, ?_, fun j' hj' => ?_⟩
              · rw [upd_same, take_succ_of hxj, List.map_append]
                rfl
              · by_cases z : j' = j
                · rw [z]
                  exact hg
                · exact hbj j' (by omega)
            have sz : ∀ H6, Same H5 H6 → (((rowI Y0 Y1 i).take j).map oV).length < sizeLine := fun _ _ => by
              rw [List.length_map, List.length_take]
              exact Nat.lt_of_le_of_lt (Nat.le_trans (Nat.min_le_left _ _) (Nat.le_trans (Nat.le_of_lt hj2) ll)) (by decide)
            refine ⟨_, rfl, _, rfl, ls, _, _, _, rfl, rfl, SqL.of hls5, at_l hl, _, rfl, _, _, _, rfl, rfl, szl, S_at hcc, rfl, _, rfl, ?_⟩
            rcases hokc with c45 | cf
            · have eL : ltC cc = none := by rw [ltC, if_pos c45]
              rw [eL] at good hxj
              refine iteD (gone_iff.mpr c45) ?_
              refine ⟨_, rfl, _, _, rfl, rfl, _, rfl, ?_⟩
              by_cases h80 : 80 ≤ j
              · refine iteD (by show (0 : Int) + j > 79; omega) (iteT ?_)
                exact ⟨_, rfl, _, rfl, by show 2 ≤ sizeLine; decide, fun u hu => ⟨by show 2 ≤ sizeLine; decide, fun t ht => bad (badP_hi h80) H5 (Same.refl _) u hu t ht⟩⟩
              · refine iteND (by show ¬ ((0 : Int) + j > 79); omega) ⟨_, rfl, _, rfl, iteF (iteF ?_)⟩
                exact ⟨_, rfl, _, rfl, q, _, _, _, rfl, rfl, SqT.of hq5, hc, .inl ⟨rfl, _, SqL.of hc5⟩, _, rfl, c, _, _, rfl, rfl, hc5, sz H5 (Same.refl _), good (badP_non h80 hxj) H5 (Same.refl _) _⟩
            · have c45 : ¬ cc = 45 := by omega
              have eL : ltC cc = some ((cc - 48 : Nat) : Int) := by rw [ltC, if_neg c45]
              rw [eL] at good hxj
              refine iteND (fun z => c45 (gone_iff.mp z)) ?_
              refine ⟨_, rfl, _, rfl, ls, _, _, _, rfl, rfl, SqL.of hls5, at_l hl, _, rfl, _, _, _, rfl, rfl, szl, S_at hcc, _, _, rfl, int_code cf, by show 1 ≤ 640; decide, ?_⟩
              refine ⟨_, rfl, _, _, rfl, rfl, _, rfl, ?_⟩
              by_cases h80 : 80 ≤ j
              · refine iteD (by show (0 : Int) + j > 79; omega) (iteT ?_)
                exact ⟨_, rfl, _, rfl, by show 2 ≤ sizeLine; decide, fun u hu => ⟨by show 2 ≤ sizeLine; decide, fun t ht => bad (badP_hi h80) H5 (Same.refl _) u hu t ht⟩⟩
              · have eb := badP_som (lo := R.lo i) (hi := R.hi i) h80 hxj
                obtain ⟨t0', t1', g1', g2', g3'⟩ := RoadsAt.same s05 hp
                obtain ⟨tr', hat', htr'⟩ := road_at (R := R) g2' g3' hi
                refine iteND (by show ¬ ((0 : Int) + j > 79); omega) ⟨_, rfl, _, rfl, iteT ?_⟩
                refine ⟨_, rfl, _, rfl, _, rfl, p, _, _, _, rfl, rfl, SqT.of g1', hat', tr', _, _, _, rfl, rfl, SqT.of htr', at0, _, rfl, _, rfl, p, _, _, _, rfl, rfl, SqT.of g1', hat', tr', _, _, _, rfl, rfl, SqT.of htr', at1, _, _, rfl, rfl, _, _, rfl, fun rg hrg => ⟨_, rg, _, _, rfl, rfl, upd_same, _, rfl, ?_⟩⟩
                have s6 : Same H5 (upd H5 rg (.rng (R.lo i) (R.hi i + 1))) := Same.upd_new hrg
                by_cases hin : R.lo i ≤ ((cc - 48 : Nat) : Int) ∧ ((cc - 48 : Nat) : Int) < R.hi i + 1
                · rw [decide_eq_true hin.1, decide_eq_true (show ((cc - 48 : Nat) : Int) ≤ R.hi i by omega)] at eb
                  refine iteNS hin ?_
                  exact ⟨_, rfl, _, rfl, q, _, _, _, rfl, rfl, SqT.of (s6 _ _ hq5), hc, .inl ⟨rfl, _, SqL.of (s6 _ _ hc5)⟩, _, rfl, c, _, _, rfl, rfl, s6 _ _ hc5, sz _ s6, good eb _ s6 _⟩
                · have eb2 : badP (R.lo i) (R.hi i) (rowI Y0 Y1 i) j = true := by
                    rw [eb]
                    by_cases q1 : R.lo i ≤ ((cc - 48 : Nat) : Int)
                    · rw [decide_eq_false (show ¬ ((cc - 48 : Nat) : Int) ≤ R.hi i by omega), Bool.and_false]
                      rfl
                    · rw [decide_eq_false q1]
                      rfl
                  refine iteNN hin ?_
                  exact ⟨_, rfl, _, rfl, by show 2 ≤ sizeLine; decide, fun u hu => ⟨by show 2 ≤ sizeLine; decide, fun t ht => bad eb2 _ s6 u hu t ht⟩⟩
          · rintro σ H5 ⟨v7, v8, rfl, s5, k5, hc5, hbj⟩
            have hbad' : ∀ i', i' < i + 1 → badI R Y0 Y1 i' = none := fun i' hi' => by
              by_cases z : i' = i
              · rw [z]
                exact fstN_none fun j hj => hbj j (by omega)
              · exact hbad i' (by omega)
            have ht : (rowI Y0 Y1 i).take ((l.length : Int).toNat) = rowI Y0 Y1 i := by rw [Int.toNat_natCast, ← lY]; exact List.take_length
            rw [ht] at hc5
            have hq5 := k5 _ _ cq q4
            refine ⟨_, _, _, rfl, s5, hq5, ?_, ?_, hbad'⟩
            · have hi' : i = 0 ∨ i = 1 := by omega
              rcases hi' with rfl | rfl
              · have : c = a := by cases hc; rfl
                rw [← this]
                exact hc5
              · have : c = b := by cases hc; rfl
                exact k5 _ _ (by rw [this]; exact ab) a4
            · have hi' : i = 0 ∨ i = 1 := by omega
              rcases hi' with rfl | rfl
              · have : c = a := by cases hc; rfl
                exact k5 _ _ (by rw [this]; exact ab.symm) b4
              · have : c = b := by cases hc; rfl
                rw [← this]
                exact hc5
        · rintro σ H4 ⟨v6, v7, v8, rfl, s4, q4, a4, b4, hbad⟩
          have a4 : H4 a = some (.lst (Y0.map oV)) := a4
          have b4 : H4 b = some (.lst (Y1.map oV)) := b4
          have s04 := s02.trans s4
          rw [ansR_end hbad] at k
          refine ⟨_, rfl, q, _, _, _, rfl, rfl, SqT.of q4, at0, a, _, rfl, .inl (SqL.of a4), _, rfl, q, _, _, _, rfl, rfl, SqT.of q4, at1, b, _, rfl, .inl (SqL.of b4), ?_⟩
          rw [List.length_map, List.length_map]
          refine ⟨rfl, _, rfl, ?_⟩
          by_cases hl : Y0.length = Y1.length
          · rw [if_pos hl] at k
            refine iteNS (congrArg (fun n : Nat => V.int (n : Int)) hl) ?_
            refine ⟨_, rfl, by show 2 ≤ sizeLine; decide, fun t ht => ?_⟩
            exact k t _ (s04.new ht) ⟨q, a, b, upd_same, RowsAt.same (Same.upd_new ht) ⟨q4, a4, b4, ab⟩⟩
          · rw [if_neg hl] at k
            refine iteNN (fun z => hl (by have := V.int.inj z; omega)) ?_
            refine ⟨_, rfl, q, _, _, _, rfl, rfl, SqT.of q4, at1, b, _, rfl, .inl (SqL.of b4), _, rfl, q, _, _, _, rfl, rfl, SqT.of q4, at0, a, _, rfl, .inl (SqL.of a4), ?_⟩
            rw [List.length_map, List.length_map]
            refine ⟨_, _, rfl, rfl, .inr ⟨_, rfl, ?_⟩⟩
            refine ⟨_, rfl, q, _, _, _, rfl, rfl, SqT.of q4, at0, a, _, rfl, .inl (SqL.of a4), _, rfl, q, _, _, _, rfl, rfl, SqT.of q4, at1, b, _, rfl, .inl (SqL.of b4), ?_⟩
            rw [List.length_map, List.length_map]
            have ex : (if decide ((Y1.length : Int) < (Y0.length : Int)) = true then (1 : Int) else 0) = if Y1.length < Y0.length then 1 else 0 := by
              by_cases c : Y1.length < Y0.length
              · rw [if_pos c, decide_eq_true (by omega : (Y1.length : Int) < (Y0.length : Int))]
                rfl
              · rw [if_neg c, decide_eq_false (by omega : ¬ (Y1.length : Int) < (Y0.length : Int))]
                rfl
            have ey : (if (Y1.length : Int) < (Y0.length : Int) then (Y1.length : Int) else (Y0.length : Int)) = ((if Y0.length < Y1.length then Y0.length else Y1.length : Nat) : Int) := by
              by_cases c : Y1.length < Y0.length
              · rw [if_pos (by omega), if_neg (by omega)]
              · rw [if_neg (by omega), if_pos (by omega)]
            refine ⟨_, _, rfl, ?_⟩
            rw [ex, ey]
            refine ⟨by show 2 ≤ sizeLine; decide, fun u hu => ⟨by show 2 ≤ sizeLine; decide, fun t ht => ?_⟩⟩
            refine k t _ ((s04.new hu).new ht) ⟨u, upd_same, ?_⟩
            rw [upd_ne (ne_of_none (o := .tup _) upd_same ht)]
            exact upd_same
      · rw [ansT_not2 hne h2 hball] at k
        refine iteNN (fun z => h2 (by have := V.int.inj z; omega)) ?_
        refine ⟨by show 2 ≤ sizeLine; decide, fun p2 hp2 => ?_⟩
        have sp : Same H2 (upd H2 p2 (.lst [.int 1, .int 2])) := Same.upd_new hp2
        have hp2' : (upd H2 p2 (.lst [.int 1, .int 2])) p2 = some (.lst [.int 1, .int 2]) := upd_same
        revert sp hp2'
        generalize (upd H2 p2 (.lst [.int 1, .int 2])) = H3
        intro sp hp2'
        refine ⟨_, rfl, ls, _, rfl, .inl (SqL.of (sp _ _ hls2)), ?_⟩
        rw [List.length_map, List.length_map]
        refine ⟨_, _, rfl, rfl, .inr ⟨_, rfl, ?_⟩⟩
        have s03 := s02.trans sp
        by_cases c : 2 < lns.length
        · rw [if_pos c] at k
          rw [decide_eq_true (show ((lns.length : Int) > 2) by omega)]
          refine ⟨p2, _, _, _, rfl, rfl, SqL.of hp2', at1, by show 2 ≤ sizeLine; decide, fun u hu => ⟨by show 2 ≤ sizeLine; decide, fun t ht => ?_⟩⟩
          refine k t _ ((s03.new hu).new ht) ⟨u, upd_same, ?_⟩
          rw [upd_ne (ne_of_none (o := .tup _) upd_same ht)]
          exact upd_same
        · rw [if_neg c] at k
          rw [decide_eq_false (show ¬ ((lns.length : Int) > 2) by omega)]
          refine ⟨p2, _, _, _, rfl, rfl, SqL.of hp2', at0, by show 2 ≤ sizeLine; decide, fun u hu => ⟨by show 2 ≤ sizeLine; decide, fun t ht => ?_⟩⟩
          refine k t _ ((s03.new hu).new ht) ⟨u, upd_same, ?_⟩
          rw [upd_ne (ne_of_none (o := .tup _) upd_same ht)]
          exact upd_same
end
/-! ### _law_spoilt -/
theorem S_of (z : Str) : z = SX.S z.cps.toList := by
  cases z
  rfl
theorem S_of_len (z : Str) : z.cps.toList.length = z.length := Array.length_toList
theorem cutV_tk (xs : List V) (i : Nat) (h : i ≤ xs.length) : cutV xs none (some (i : Int)) = xs.take i := by
  unfold cutV
  rw [HT.sIx_none, HT.sIx_nat, Nat.min_eq_left h]
  rfl
theorem cutV_dp (xs : List V) (i : Nat) (h : i ≤ xs.length) : cutV xs (some (i : Int)) none = xs.drop i := by
  unfold cutV
  rw [HT.sIx_none, HT.sIx_nat, Nat.min_eq_left h]
  exact List.take_of_length_le (by rw [List.length_drop]; exact Nat.le_refl _)
theorem str_at {z : Str} {i : Int} (h0 : 0 ≤ i) (h1 : i < z.length) : ∃ c, atI z.cps.toList i = some c := by
  obtain ⟨j, rfl⟩ := Int.eq_ofNat_of_zero_le h0
  have hj : j < z.cps.toList.length := by rw [S_of_len]; omega
  exact ⟨_, atI_nat (List.getElem?_eq_getElem hj)⟩
theorem joinL_mea : ∀ ps : List (List Nat), (TL.joinL [10] ps).length ≤ mea ps
  | [] => Nat.zero_le _
  | [p] => by
    show p.length ≤ p.length + 1 + 0
    omega
  | p :: q :: r => by
    have ih := joinL_mea (q :: r)
    have e : mea (p :: q :: r) = p.length + 1 + mea (q :: r) := rfl
    show (p ++ ([10] ++ TL.joinL [10] (q :: r))).length ≤ _
    rw [e, List.length_append, List.length_append, List.length_singleton]
    omega
theorem mea_app (a b : List (List Nat)) : mea (a ++ b) = mea a + mea b := by
  unfold mea
  rw [List.map_append, List.sum_append]
theorem mea_split {ps : List (List Nat)} {k : Nat} {p : List Nat} (h : ps[k]? = some p) : mea (ps.take k) + (p.length + 1) + mea (ps.drop (k + 1)) = mea ps := by
  obtain ⟨h1, h2⟩ := List.getElem?_eq_some_iff.mp h
  have e : ps = ps.take k ++ (p :: ps.drop (k + 1)) := by
    rw [← h2, ← List.drop_eq_getElem_cons h1, List.take_append_drop]
  have e2 : mea (p :: ps.drop (k + 1)) = p.length + 1 + mea (ps.drop (k + 1)) := rfl
  conv => rhs; rw [e]
  rw [mea_app, e2]
  omega
theorem mea_join (ps : List (List Nat)) : ((ps.map SX.S).map (·.length)).sum + (ps.map SX.S).length * (SX.S [10]).length = mea ps := by
  induction ps with
  | nil => rfl
  | cons p ps ih =>
    have e : mea (p :: ps) = p.length + 1 + mea ps := rfl
    have e1 : (SX.S [10]).length = 1 := rfl
    rw [e1] at ih ⊢
    rw [e, ← ih, List.map_cons, List.map_cons, List.sum_cons, List.length_cons, SX.S_len]
    omega
theorem sizeLe {n : Nat} (h : n ≤ 100000) : n ≤ sizeLine := Nat.le_trans h (by decide)
def spSpoilt (K : PySem.W.Frag) : Sp := fun vs H Q _ => ∃ (r : Addr) (cs : List Nat), vs = [.ref r, .str (SX.S cs)] ∧ RowAt K r H ∧ cs.length ≤ 4000 ∧ ∀ (cs' : List Nat) (H' : Hp), cs'.length ≤ 2 * cs.length + 2 → RowAt K r H' → Kp r H H' → Q (.str (SX.S cs')) H'
section
variable {P : Program} {w : World} {K : PySem.W.Frag} {mg : Str → Option Value} {base : Heap}
theorem ok_Lspoilt (T : Txt K mg) : FnOk P w K mg base CX0 2 T.f_Lspoilt T.fd_Lspoilt P_Lspoilt (spSpoilt K) := by
  refine T.F_Lspoilt.ok sc_Lspoilt (fun vs H Q E h => ?_) (fun cdv A outer s H vs Q E hr h => ?_)
  · obtain ⟨r, cs, rfl, _⟩ := h
    rfl
  · obtain ⟨r, cs, rfl, row0, hl, k⟩ := h
    refine ⟨_, ((pss_cons (ps_set (i := 2) sc_Lspoilt.nd rfl (Or.inl rfl) (pe_call (ok_Ltaken T) (hr.mono (by decide)) (by rfl) T.mg_Ltaken T.kp_Ltaken T.b_Ltaken .nil pass0 (pa_cons (pv 0) (pa_cons pe_int pa_nil))))
  (pss_cons (ps_set (i := 3) sc_Lspoilt.nd rfl (Or.inl rfl) (pe_call (ok_Ltaken T) (hr.mono (by decide)) (by rfl) T.mg_Ltaken T.kp_Ltaken T.b_Ltaken .nil pass0 (pa_cons (pv 0) (pa_cons (pe_op op_add (pe_callB call_len_str (by rfl) T.z_len (by decide +kernel) (pa_cons (pv 1) pa_nil)) pe_int) pa_nil))))
  (pss_cons (ps_set (i := 4) sc_Lspoilt.nd rfl (Or.inl rfl) pe_str)
  (pss_cons (ps_set (i := 5) sc_Lspoilt.nd rfl (Or.inl rfl) (pe_ix ix_list (pe_lst (pa_cons pe_str (pa_cons (pv 4) pa_nil))) (pe_op op_fdiv (pe_call (ok_Ltaken T) (hr.mono (by decide)) (by rfl) T.mg_Ltaken T.kp_Ltaken T.b_Ltaken .nil pass0 (pa_cons (pv 0) (pa_cons pe_int pa_nil))) pe_int) (fun _ _ => rfl)))
  (pss_cons (ps_set (i := 6) sc_Lspoilt.nd rfl (Or.inl rfl) (pe_ix ix_str (pv 5) (pe_call (ok_Ltaken T) (hr.mono (by decide)) (by rfl) T.mg_Ltaken T.kp_Ltaken T.b_Ltaken .nil pass0 (pa_cons (pv 0) (pa_cons (pe_callB call_len_str (by rfl) T.z_len (by decide +kernel) (pa_cons (pv 5) pa_nil)) pa_nil))) (fun _ _ => rfl)))
  (pss_cons (ps_if (pt_cmpR op_lt (pv 2) pe_int (nomark _)) (pss_one (ps_ret (pe_op op_add_str (pe_op op_add_str (pe_slice sl_str (pv 1) po_none (po_some (pv 3))) (pe_ix ix_list (pe_lst (pa_cons (pv 6) (pa_cons pe_str (pa_cons (pv 6) (pa_cons pe_str pa_nil))))) (pv 2) (fun _ _ => rfl))) (pe_slice sl_str (pv 1) (po_some (pe_op op_add (pv 3) (pe_callTy call_int1 (by rfl) T.z_int (by decide +kernel) (pa_cons (pe_cmpR op_in_seq (pv 2) (pe_tup (pa_cons pe_int (pa_cons pe_int pa_nil))) (by rfl)) pa_nil)))) po_none)))) pss_nil)
  (pss_cons (ps_set (i := 7) sc_Lspoilt.nd rfl (Or.inl rfl) (pe_split (pv 1) pe_str))
  (pss_cons (ps_set (i := 8) sc_Lspoilt.nd rfl (Or.inl rfl) (pe_call (ok_Ltaken T) (hr.mono (by decide)) (by rfl) T.mg_Ltaken T.kp_Ltaken T.b_Ltaken .nil pass0 (pa_cons (pv 0) (pa_cons (pe_callB call_len_seq (by rfl) T.z_len (by decide +kernel) (pa_cons (pv 7) pa_nil)) pa_nil))))
  (pss_cons (ps_set (i := 7) sc_Lspoilt.nd rfl (Or.inl rfl) (pe_op op_cat (pe_op op_cat (pe_slice sl_list (pv 7) po_none (po_some (pv 8))) (pe_ix ix_list (pe_lst (pa_cons (pe_lst pa_nil) (pa_cons (pe_lst (pa_cons (pe_ix ix_list (pv 7) (pv 8) (fun _ _ => rfl)) (pa_cons (pe_ix ix_list (pv 7) (pv 8) (fun _ _ => rfl)) pa_nil))) (pa_cons (pe_lst (pa_cons (pe_slice sl_str (pe_ix ix_list (pv 7) (pv 8) (fun _ _ => rfl)) po_none (po_some (pv 3))) pa_nil)) pa_nil)))) (pe_op op_sub (pv 2) pe_int) (fun _ _ => rfl))) (pe_slice sl_list (pv 7) (po_some (pe_op op_add (pv 8) pe_int)) po_none)))
  (pss_one (ps_ret (joinK (K := K) rfl pe_str (pv 7)))))))))))))), ?_⟩
    have hlen : (SX.S cs).length = cs.length := SX.S_len _
    have szl : (SX.S cs).length ≤ sizeLine := by rw [hlen]; exact Nat.le_trans hl (by decide)
    refine ⟨_, rfl, r, _, rfl, by decide, row0, fun way H1 w0 w1 row1 k1 => ?_⟩
    refine ⟨_, rfl, _, rfl, _, rfl, szl, _, _, rfl, rfl, r, _, rfl, by omega, row1, fun at_ H2 a0 a1 row2 k2 => ?_⟩
    rw [hlen] at a1
    have k02 := k1.trans k2
    refine ⟨_, rfl, by show 2 ≤ sizeLine; decide, fun p hp => ?_⟩
    refine ⟨_, rfl, r, _, rfl, by decide, row2.new hp, fun v3 H3 b0 b1 row3 k3 => ⟨_, _, rfl, rfl, ⟨by decide, by decide⟩, ?_⟩⟩
    have hp3 := k3 _ _ (row2.ne hp) upd_same
    have k03 := (k02.new hp).trans k3
    have hsg : ∃ z : Str, atI [V.str (Str.ofString "0123456789--\n x+."), V.str (Str.ofString " !#$&'()*+,-./0123456789:;<=>?@ABCDEFGHIJKLMNOPQRSTUVWXYZ[]^_abcdefghijklmnopqrstuvwxyz{|}~")] (v3 / 2) = some (.str z) ∧ 0 < z.length ∧ z.length ≤ 200 := by
      have hv : v3 = 0 ∨ v3 = 1 ∨ v3 = 2 := by omega
      rcases hv with rfl | rfl | rfl
      · exact ⟨_, at0, by decide +kernel, by decide +kernel⟩
      · exact ⟨_, at0, by decide +kernel, by decide +kernel⟩
      · exact ⟨_, at1, by decide +kernel, by decide +kernel⟩
    obtain ⟨z, hz, z0, z1⟩ := hsg
    refine ⟨p, _, _, _, rfl, rfl, SqL.of hp3, hz, ?_⟩
    refine ⟨_, rfl, _, rfl, _, rfl, _, rfl, sz1000 (by omega), r, _, rfl, by omega, row3, fun i H4 i0 i1 row4 k4 => ?_⟩
    have k04 := k03.trans k4
    obtain ⟨c, hc⟩ := str_at i0 i1
    refine ⟨_, _, _, rfl, rfl, sz1000 (by omega), hc, ?_⟩
    refine ⟨_, rfl, _, _, rfl, rfl, _, rfl, ?_⟩
    refine ite2 (fun hw => ?_) (fun hw => ?_)
    · have hw' : way < 4 := of_decide_eq_true hw
      refine ⟨_, rfl, _, rfl, _, rfl, _, rfl, szl, ?_⟩
      refine ⟨_, rfl, _, rfl, by show 4 ≤ sizeLine; decide, fun p5 hp5 => ⟨_, rfl, ?_⟩⟩
      have hel : ∃ e : Str, atI [V.str (⟨#[c]⟩ : Str), V.str (Str.ofString ""), V.str (⟨#[c]⟩ : Str), V.str (Str.ofString "\n")] way = some (.str e) ∧ e.length ≤ 1 := by
        have hv : way = 0 ∨ way = 1 ∨ way = 2 ∨ way = 3 := by omega
        rcases hv with rfl | rfl | rfl | rfl
        · exact ⟨_, at0, Nat.le_refl 1⟩
        · exact ⟨_, at1, by decide +kernel⟩
        · exact ⟨_, at2, Nat.le_refl 1⟩
        · exact ⟨_, atI_nat (j := 3) rfl, by decide +kernel⟩
      obtain ⟨e, he, e1⟩ := hel
      have c1 := cutS_length (SX.S cs) none (some at_)
      rw [hlen] at c1
      refine ⟨p5, _, _, _, rfl, rfl, SqL.of upd_same, he, _, _, rfl, rfl, Nat.le_trans (Nat.add_le_add (Nat.le_trans c1 hl) e1) (by decide), ?_⟩
      refine ⟨_, rfl, _, rfl, _, rfl, by show 2 ≤ sizeLine; decide, fun p6 hp6 => ?_⟩
      refine ⟨p6, _, rfl, .inr (SqT.of upd_same), rfl, rfl, .inr ⟨_, rfl, _, _, rfl, rfl, _, rfl, _, rfl, szl, ?_⟩⟩
      have c2 := cutS_length (SX.S cs) (some (at_ + if inV (V.int way) [V.int 1, V.int 2] = true then 1 else 0)) none
      rw [hlen] at c2
      have hsz : (cutS (SX.S cs) none (some at_) ++ e).length + (cutS (SX.S cs) (some (at_ + if inV (V.int way) [V.int 1, V.int 2] = true then 1 else 0)) none).length ≤ 2 * cs.length + 2 := by
        rw [str_cat]
        omega
      refine ⟨_, _, rfl, rfl, Nat.le_trans hsz (Nat.le_trans (show 2 * cs.length + 2 ≤ 8002 by omega) (by decide)), ?_⟩
      have fin := k (cutS (SX.S cs) none (some at_) ++ e ++ cutS (SX.S cs) (some (at_ + if inV (V.int way) [V.int 1, V.int 2] = true then 1 else 0)) none).cps.toList (upd (upd H4 p5 (.lst [.str (⟨#[c]⟩ : Str), .str (Str.ofString ""), .str (⟨#[c]⟩ : Str), .str (Str.ofString "\n")])) p6 (.tup [.int 1, .int 2]))
        (by rw [S_of_len, str_cat]; exact hsz) ((row4.new hp5).new hp6) ((k04.new hp5).new hp6)
      rw [← S_of] at fin
      exact fin
    · have hw' : ¬ way < 4 := fun z => hw (decide_eq_true z)
      refine ⟨_, rfl, ⟨_, rfl⟩, _, _, rfl, rfl, (by rw [str_nl]; rfl), (by rw [hlen]; exact Nat.le_trans (Nat.add_le_add_right hl 2) (by decide)), fun ls hls => ?_⟩
      rw [str_nl, SX.split_S (by decide) (by decide)]
      have hne := spl_ne [10] cs 0 []
      have hme := spl_mea 10 cs []
      revert hne hme
      generalize TL.spl [10] 0 [] cs = lns
      intro hne hme
      rw [List.length_nil] at hme
      have s5 : Same H4 (upd H4 ls (.lst ((lns.map SX.S).map V.str))) := Same.upd_new hls
      have hl5 : (upd H4 ls (.lst ((lns.map SX.S).map V.str))) ls = some (.lst ((lns.map SX.S).map V.str)) := upd_same
      have row5 := row4.same s5
      have k05 := k04.new (o := .lst ((lns.map SX.S).map V.str)) hls
      have lr := row4.ne hls
      revert hl5 row5 k05
      generalize (upd H4 ls (.lst ((lns.map SX.S).map V.str))) = H5
      intro hl5 row5 k05
      have ln0 : 0 < lns.length := List.length_pos_iff.mpr hne
      have lnn := mea_len lns
      refine ⟨_, rfl, _, rfl, ls, _, rfl, .inl (SqL.of hl5), ?_⟩
      rw [List.length_map, List.length_map]
      refine ⟨r, _, rfl, by omega, row5, fun kk H6 q0 q1 row6 k6 => ?_⟩
      obtain ⟨kn, rfl⟩ := Int.eq_ofNat_of_zero_le q0
      have hkn : kn < lns.length := by omega
      obtain ⟨lk, hlk⟩ : ∃ l, lns[kn]? = some l := ⟨_, List.getElem?_eq_getElem hkn⟩
      have hl6 := k6 _ _ lr hl5
      have k06 := k05.trans k6
      have hat : atI ((lns.map SX.S).map V.str) (kn : Int) = some (.str (SX.S lk)) := atI_nat (by rw [List.getElem?_map, List.getElem?_map, hlk]; rfl)
      have hms := mea_split hlk
      have lkl : (SX.S lk).length = lk.length := SX.S_len _
      have lk2 := mea_mem (List.mem_of_getElem? hlk)
      have lkz : (SX.S lk).length ≤ sizeLine := by rw [lkl]; exact sizeLe (by omega)
      -- lines[:k]
      refine ⟨_, rfl, _, rfl, _, rfl, ls, _, rfl, SqL.of hl6, fun p1 hp1 => ?_⟩
      have e1 : cutV ((lns.map SX.S).map V.str) none (some (kn : Int)) = ((lns.take kn).map SX.S).map V.str := by
        rw [cutV_tk _ _ (by rw [List.length_map, List.length_map]; omega), List.map_take, List.map_take]
      rw [e1]
      have row7 := row6.new (o := .lst (((lns.take kn).map SX.S).map V.str)) hp1
      have k07 := k06.new (o := .lst (((lns.take kn).map SX.S).map V.str)) hp1
      have hl7 := (Same.upd_new (o := .lst (((lns.take kn).map SX.S).map V.str)) hp1) _ _ hl6
      have hp7 : (upd H6 p1 (.lst (((lns.take kn).map SX.S).map V.str))) p1 = some (.lst (((lns.take kn).map SX.S).map V.str)) := upd_same
      revert row7 k07 hl7 hp7
      generalize (upd H6 p1 (.lst (((lns.take kn).map SX.S).map V.str))) = H7
      intro row7 k07 hl7 hp7
      -- the three
      refine ⟨by show 0 ≤ sizeLine; decide, fun m1 hm1 => ?_⟩
      have hl8 := (Same.upd_new (o := .lst []) hm1) _ _ hl7
      refine ⟨_, rfl, _, rfl, ls, _, _, _, rfl, rfl, SqL.of hl8, hat, _, rfl, _, rfl, ls, _, _, _, rfl, rfl, SqL.of hl8, hat, by show 2 ≤ sizeLine; decide, fun m2 hm2 => ?_⟩
      have s79 : Same H7 (upd (upd H7 m1 (.lst [])) m2 (.lst [.str (SX.S lk), .str (SX.S lk)])) := (Same.upd_new hm1).new hm2
      have g1 : (upd (upd H7 m1 (.lst [])) m2 (.lst [.str (SX.S lk), .str (SX.S lk)])) m1 = some (.lst ((([] : List (List Nat)).map SX.S).map V.str)) := (Same.upd_new hm2) _ _ upd_same
      have g2 : (upd (upd H7 m1 (.lst [])) m2 (.lst [.str (SX.S lk), .str (SX.S lk)])) m2 = some (.lst ((([lk, lk] : List (List Nat)).map SX.S).map V.str)) := upd_same
      revert s79 g1 g2
      generalize (upd (upd H7 m1 (.lst [])) m2 (.lst [.str (SX.S lk), .str (SX.S lk)])) = H9
      intro s79 g1 g2
      refine ⟨_, rfl, _, rfl, ls, _, _, _, rfl, rfl, SqL.of (s79 _ _ hl7), hat, _, rfl, _, rfl, _, rfl, lkz, by show 1 ≤ sizeLine; decide, fun m3 hm3 => ⟨by show 3 ≤ sizeLine; decide, fun l4 hl4 => ?_⟩⟩
      have ct := cutS_length (SX.S lk) none (some at_)
      rw [lkl] at ct
      have s7a : Same H7 (upd (upd H9 m3 (.lst [.str (cutS (SX.S lk) none (some at_))])) l4 (.lst [.ref m1, .ref m2, .ref m3])) := (s79.new hm3).new hl4
      have ga : ∃ (m : Addr) (X : List (List Nat)), atI ([.ref m1, .ref m2, .ref m3] : List V) (way - 4) = some (.ref m) ∧ (upd (upd H9 m3 (.lst [.str (cutS (SX.S lk) none (some at_))])) l4 (.lst [.ref m1, .ref m2, .ref m3])) m = some (.lst ((X.map SX.S).map V.str)) ∧ mea X ≤ 2 * (lk.length + 1) ∧ X.length ≤ 2 := by
        have s9a : Same H9 (upd (upd H9 m3 (.lst [.str (cutS (SX.S lk) none (some at_))])) l4 (.lst [.ref m1, .ref m2, .ref m3])) := (Same.upd_new hm3).new hl4
        have hv : way = 4 ∨ way = 5 ∨ way = 6 := by omega
        rcases hv with rfl | rfl | rfl
        · exact ⟨m1, [], at0, s9a _ _ g1, Nat.zero_le _, by decide⟩
        · exact ⟨m2, [lk, lk], at1, s9a _ _ g2, by show lk.length + 1 + (lk.length + 1 + 0) ≤ _; omega, Nat.le_refl 2⟩
        · refine ⟨m3, [(cutS (SX.S lk) none (some at_)).cps.toList], at2, ?_, ?_, Nat.le_succ 1⟩
          · have := (Same.upd_new (H := upd H9 m3 (.lst [.str (cutS (SX.S lk) none (some at_))])) (o := .lst [.ref m1, .ref m2, .ref m3]) hl4) m3 _ upd_same
            rw [this, List.map_cons, List.map_cons, List.map_nil, List.map_nil, ← S_of]
          · show (cutS (SX.S lk) none (some at_)).cps.toList.length + 1 + 0 ≤ _
            rw [S_of_len]
            omega
      obtain ⟨m, X, hm, gm, mX, lX⟩ := ga
      have hl4a : (upd (upd H9 m3 (.lst [.str (cutS (SX.S lk) none (some at_))])) l4 (.lst [.ref m1, .ref m2, .ref m3])) l4 = some (.lst [.ref m1, .ref m2, .ref m3]) := upd_same
      revert s7a gm hl4a
      generalize (upd (upd H9 m3 (.lst [.str (cutS (SX.S lk) none (some at_))])) l4 (.lst [.ref m1, .ref m2, .ref m3])) = Ha
      intro s7a gm hl4a
      have t1 : (lns.take kn).length ≤ lns.length := by rw [List.length_take]; omega
      refine ⟨_, rfl, _, _, rfl, rfl, l4, _, _, _, rfl, rfl, SqL.of hl4a, hm, p1, m, _, _, rfl, rfl, s7a _ _ hp7, gm, by rw [List.length_map, List.length_map, List.length_map, List.length_map]; exact sizeLe (by omega), fun c1 hc1 => ?_⟩
      have e2 : ((lns.take kn).map SX.S).map V.str ++ (X.map SX.S).map V.str = ((lns.take kn ++ X).map SX.S).map V.str := by rw [List.map_append, List.map_append]
      rw [e2]
      have sab : Same H7 (upd Ha c1 (.lst (((lns.take kn ++ X).map SX.S).map V.str))) := s7a.new hc1
      have gb : (upd Ha c1 (.lst (((lns.take kn ++ X).map SX.S).map V.str))) c1 = some (.lst (((lns.take kn ++ X).map SX.S).map V.str)) := upd_same
      revert sab gb
      generalize (upd Ha c1 (.lst (((lns.take kn ++ X).map SX.S).map V.str))) = Hb
      intro sab gb
      refine ⟨_, rfl, _, rfl, _, _, rfl, rfl, _, rfl, ls, _, rfl, SqL.of (sab _ _ hl7), fun p2 hp2 => ?_⟩
      have e3 : cutV ((lns.map SX.S).map V.str) (some ((kn : Int) + 1)) none = ((lns.drop (kn + 1)).map SX.S).map V.str := by
        have := cutV_dp ((lns.map SX.S).map V.str) (kn + 1) (by rw [List.length_map, List.length_map]; omega)
        rw [show (((kn + 1 : Nat) : Int)) = (kn : Int) + 1 by omega] at this
        rw [this, List.map_drop, List.map_drop]
      rw [e3]
      have sac : Same H7 (upd Hb p2 (.lst (((lns.drop (kn + 1)).map SX.S).map V.str))) := sab.new hp2
      have gc : (upd Hb p2 (.lst (((lns.drop (kn + 1)).map SX.S).map V.str))) p2 = some (.lst (((lns.drop (kn + 1)).map SX.S).map V.str)) := upd_same
      have gb' := (Same.upd_new (o := .lst (((lns.drop (kn + 1)).map SX.S).map V.str)) hp2) _ _ gb
      revert sac gc gb'
      generalize (upd Hb p2 (.lst (((lns.drop (kn + 1)).map SX.S).map V.str))) = Hc
      intro sac gc gb'
      have t2 : (lns.drop (kn + 1)).length ≤ lns.length := by rw [List.length_drop]; omega
      refine ⟨c1, p2, _, _, rfl, rfl, gb', gc, by rw [List.length_map, List.length_map, List.length_map, List.length_map, List.length_append]; exact sizeLe (by omega), fun c2 hc2 => ?_⟩
      have e4 : ((lns.take kn ++ X).map SX.S).map V.str ++ ((lns.drop (kn + 1)).map SX.S).map V.str = ((lns.take kn ++ X ++ lns.drop (kn + 1)).map SX.S).map V.str := by simp only [List.map_append]
      rw [e4]
      have sad : Same H7 (upd Hc c2 (.lst (((lns.take kn ++ X ++ lns.drop (kn + 1)).map SX.S).map V.str))) := sac.new hc2
      have gd : (upd Hc c2 (.lst (((lns.take kn ++ X ++ lns.drop (kn + 1)).map SX.S).map V.str))) c2 = some (.lst (((lns.take kn ++ X ++ lns.drop (kn + 1)).map SX.S).map V.str)) := upd_same
      revert sad gd
      generalize (upd Hc c2 (.lst (((lns.take kn ++ X ++ lns.drop (kn + 1)).map SX.S).map V.str))) = Hd
      intro sad gd
      have hmea : mea (lns.take kn ++ X ++ lns.drop (kn + 1)) ≤ 2 * cs.length + 2 := by
        rw [mea_app, mea_app]
        omega
      refine ⟨⟨_, rfl⟩, _, rfl, _, c2, (lns.take kn ++ X ++ lns.drop (kn + 1)).map SX.S, rfl, rfl, .inl (SqL.of gd), by rw [mea_join]; omega, ?_⟩
      rw [SX.join_S]
      have s6d := ((Kp.of (r := r) sad))
      exact k _ Hd (Nat.le_trans (joinL_mea _) hmea) (row7.same sad) (k07.trans s6d)
end
/-! ### the law -/
theorem lk_rowsX {K : PySem.W.Frag} {H : Hp} {q q' a b a' b' : Addr} {R0 R1 : List Lt} {n : Nat} (h : RowsAt H q a b R0 R1) (h' : RowsAt H q' a' b' R0 R1) (l0 : R0.length ≤ 100000) (l1 : R1.length ≤ 100000) : Lk K H (n + 3) (.ref q) (.ref q') := by
  have one : ∀ {x y : Addr} {Y : List Lt}, H x = some (.lst (Y.map oV)) → H y = some (.lst (Y.map oV)) → Y.length ≤ 100000 → Lk K H (n + 2) (.ref x) (.ref y) := fun {x y Y} hx hy hl => by
    refine .lst (SqL.of hx) (SqL.of hy) rfl (by rw [List.length_map]; exact hl) fun i u v hu hv => ?_
    rw [hu] at hv
    cases hv
    rw [List.getElem?_map] at hu
    obtain ⟨t, ht, rfl⟩ := Option.map_eq_some_iff.mp hu
    cases t with
    | none => exact .non
    | some z => exact .int _
  refine .tup (SqT.of h.hq) (SqT.of h'.hq) rfl (by show 2 ≤ 100000; decide) fun j u v hu hv => ?_
  match j, hu, hv with
  | 0, hu, hv =>
    cases hu
    cases hv
    exact one h.ha h'.ha l0
  | 1, hu, hv =>
    cases hu
    cases hv
    exact one h.hb h'.hb l1
def ansL : Ans → Prop
  | .good R0 R1 => R0.length ≤ 100000 ∧ R1.length ≤ 100000
  | _ => True
theorem lk_due {K : PySem.W.Frag} {H : Hp} {t t' : Addr} {A : Ans} (h : DueAt H t A) (h' : DueAt H t' A) (l : ansL A) : Lk K H 4 (.ref t) (.ref t') := by
  have two : ∀ {x : Str} {u u' : Addr} {i j : Int}, H t = some (.tup [.str x, .ref u]) → H t' = some (.tup [.str x, .ref u']) → H u = some (.tup [.int i, .int j]) → H u' = some (.tup [.int i, .int j]) → Lk K H 4 (.ref t) (.ref t') := fun {x u u' i j} e1 e2 e3 e4 => by
    refine .tup (SqT.of e1) (SqT.of e2) rfl (by show 2 ≤ 100000; decide) fun k y z hy hz => ?_
    match k, hy, hz with
    | 0, hy, hz =>
      cases hy
      cases hz
      exact .str _
    | 1, hy, hz =>
      cases hy
      cases hz
      refine .tup (SqT.of e3) (SqT.of e4) rfl (by show 2 ≤ 100000; decide) fun m y z hy hz => ?_
      match m, hy, hz with
      | 0, hy, hz =>
        cases hy
        cases hz
        exact .int _
      | 1, hy, hz =>
        cases hy
        cases hz
        exact .int _
  cases A with
  | text n k =>
    obtain ⟨u, e1, e2⟩ := h
    obtain ⟨u', e3, e4⟩ := h'
    exact two e1 e3 e2 e4
  | rows r k =>
    obtain ⟨u, e1, e2⟩ := h
    obtain ⟨u', e3, e4⟩ := h'
    exact two e1 e3 e2 e4
  | good R0 R1 =>
    obtain ⟨q, a, b, e1, e2⟩ := h
    obtain ⟨q', a', b', e3, e4⟩ := h'
    refine .tup (SqT.of e1) (SqT.of e3) rfl (by show 2 ≤ 100000; decide) fun k y z hy hz => ?_
    match k, hy, hz with
    | 0, hy, hz =>
      cases hy
      cases hz
      exact .str _
    | 1, hy, hz =>
      cases hy
      cases hz
      exact lk_rowsX (n := 0) e2 e4 l.1 l.2
theorem DueAt.same {H H' : Hp} {t : Addr} {A : Ans} (s : Same H H') (h : DueAt H t A) : DueAt H' t A := by
  cases A with
  | text n k =>
    obtain ⟨u, e1, e2⟩ := h
    exact ⟨u, s _ _ e1, s _ _ e2⟩
  | rows r k =>
    obtain ⟨u, e1, e2⟩ := h
    exact ⟨u, s _ _ e1, s _ _ e2⟩
  | good R0 R1 =>
    obtain ⟨q, a, b, e1, e2⟩ := h
    exact ⟨q, a, b, s _ _ e1, RowsAt.same s e2⟩
theorem ansR_len {R : Rds} {Y0 Y1 : List Lt} (h0 : Y0.length ≤ 100000) (h1 : Y1.length ≤ 100000) : ansL (ansR R Y0 Y1) := by
  rcases ansR_cases R Y0 Y1 with ⟨r, k, e⟩ | e
  · rw [e]
    exact True.intro
  · rw [e]
    exact ⟨h0, h1⟩
theorem ansT_len {R : Rds} {lns : List (List Nat)} (hm : mea lns ≤ 100000) : ansL (ansT R lns) := by
  match lns with
  | [] => exact True.intro
  | [a] =>
    cases e : oddI a with
    | some j => rw [ansT_1s e]; exact True.intro
    | none => rw [ansT_1n e]; exact True.intro
  | a :: b :: r =>
    cases e0 : oddI a with
    | some j => rw [ansT_at (i := 0) (l := a) rfl (fun i' l' h => absurd h (Nat.not_lt_zero _)) e0]; exact True.intro
    | none =>
      cases e1 : oddI b with
      | some j =>
        rw [ansT_at (i := 1) (l := b) rfl (fun i' l' h hl => by
          have : i' = 0 := by omega
          subst this
          cases hl
          exact e0) e1]
        exact True.intro
      | none =>
        match r with
        | c :: r => rw [ansT_many e0 e1]; exact True.intro
        | [] =>
          rw [ansT_two e0 e1]
          have la := mea_mem (l := [a, b]) (p := a) List.mem_cons_self
          have lb := mea_mem (l := [a, b]) (p := b) (List.mem_cons_of_mem _ List.mem_cons_self)
          exact ansR_len (by rw [List.length_map]; omega) (by rw [List.length_map]; omega)
abbrev dash (n : Int) : Str := Txt.mul (Str.ofString "-") n
/-- the odd texts -/
def oddZ : List Str := [Str.ofString "", Str.ofString "\n", Str.ofString "\n\n", Str.ofString "-", Str.ofString "-\n-", Str.ofString "x", Str.ofString "-\nx", Str.ofString "-\n-\nx", Str.ofString "--\n-", Str.ofString "-\n--", dash 81 ++ Str.ofString "\n" ++ dash 81, Str.ofString " \n "] ++ [Txt.join (Str.ofString "\n") [dash 80, dash 81]]
def oddY : List Str := [Str.ofString "", Str.ofString "\n", Str.ofString "\n\n", Str.ofString "-", Str.ofString "-\n-", Str.ofString "x", Str.ofString "-\nx", Str.ofString "-\n-\nx", Str.ofString "--\n-", Str.ofString "-\n--", dash 81 ++ Str.ofString "\n" ++ dash 81, Str.ofString " \n "]
theorem oddZ_len : oddZ.length = 13 := rfl
theorem oddZ_le : ∀ z ∈ oddZ, z.length ≤ 200 := by
  have h : oddZ.all (fun z => decide (z.length ≤ 200)) = true := by decide +kernel
  intro z hz
  exact of_decide_eq_true (List.all_eq_true.mp h z hz)
section
variable {P : Program} {w : World} {K : PySem.W.Frag} {mg : Str → Option Value} {base : Heap}
theorem ok_law (T : Txt K mg) : FnOk P w K mg base CX0 8 T.f_law T.fd_law P_law (spLaw K) := by
  refine T.F_law.ok sc_law (fun vs H Q E h => ?_) (fun cdv A outer s H vs Q E hr h => ?_)
  · obtain ⟨a, ns, rfl, _⟩ := h
    rfl
  · obtain ⟨a, ns, rfl, hS, k⟩ := h
    refine ⟨_, ((pss_cons (ps_set (i := 1) sc_law.nd rfl (Or.inl rfl) (pe_lst (pa_cons (pv 0) (pa_cons pe_int (pa_cons pe_int pa_nil)))))
  (pss_cons (ps_set (i := 2) sc_law.nd rfl (Or.inl rfl) (pe_lst (pa_cons pe_str (pa_cons pe_str (pa_cons pe_str (pa_cons pe_str (pa_cons pe_str (pa_cons pe_str (pa_cons pe_str (pa_cons pe_str (pa_cons pe_str (pa_cons pe_str (pa_cons (pe_op op_add_str (pe_op op_add_str (pe_op op_mulStr pe_str pe_int) pe_str) (pe_op op_mulStr pe_str pe_int)) (pa_cons pe_str pa_nil))))))))))))))
  (pss_cons (ps_expr (pe_bm PySem.F.plainAttrs_list PySem.F.slot_list_append PySem.F.type_list_append mt_append (pv 2) (pa_cons (joinK (K := K) rfl pe_str (pe_lst (pa_cons (pe_op op_mulStr pe_str pe_int) (pa_cons (pe_op op_mulStr pe_str pe_int) pa_nil)))) pa_nil)))
  (pss_cons (ps_for PassesOwn.never rfl (pi_range1 (by rfl) T.z_range (pa_cons pe_int pa_nil)) (pg_name (i := 3) sc_law.nd rfl (Or.inl rfl))
  (pss_cons (ps_set (i := 4) sc_law.nd rfl (Or.inl rfl) (pe_call (ok_Lroads T) (hr.mono (by decide)) (by rfl) T.mg_Lroads T.kp_Lroads T.b_Lroads .nil pass0 (pa_cons (pv 1) pa_nil)))
  (pss_cons (ps_set (i := 5) sc_law.nd rfl (Or.inl rfl) (pe_call (ok_Ltext T) (hr.mono (by decide)) (by rfl) T.mg_Ltext T.kp_Ltext T.b_Ltext .nil pass0 (pa_cons (pe_call (ok_Lrows T) (hr.mono (by decide)) (by rfl) T.mg_Lrows T.kp_Lrows T.b_Lrows .nil pass0 (pa_cons (pv 1) (pa_cons (pv 4) (pa_cons (pe_ix ix_list (pe_lst (pa_cons pe_int (pa_cons pe_int pa_nil))) (pe_call (ok_Ltaken T) (hr.mono (by decide)) (by rfl) T.mg_Ltaken T.kp_Ltaken T.b_Ltaken .nil pass0 (pa_cons (pv 1) (pa_cons pe_int pa_nil))) (fun _ _ => rfl)) (pa_cons pe_bl pa_nil))))) pa_nil)))
  (pss_cons (ps_for PassesOwn.never rfl (pi_range1 (by rfl) T.z_range (pa_cons (pe_call (ok_Ltaken T) (hr.mono (by decide)) (by rfl) T.mg_Ltaken T.kp_Ltaken T.b_Ltaken .nil pass0 (pa_cons (pv 1) (pa_cons pe_int pa_nil))) pa_nil)) (pg_name (i := 6) sc_law.nd rfl (Or.inl rfl))
  (pss_one (ps_set (i := 5) sc_law.nd rfl (Or.inl rfl) (pe_call (ok_Lspoilt T) (hr.mono (by decide)) (by rfl) T.mg_Lspoilt T.kp_Lspoilt T.b_Lspoilt .nil pass0 (pa_cons (pv 1) (pa_cons (pv 5) pa_nil))))))
  (pss_one (ps_for PassesOwn.never rfl (pi_list (pe_lst (pa_cons (pv 5) (pa_cons (pe_ix ix_list (pv 2) (pe_call (ok_Ltaken T) (hr.mono (by decide)) (by rfl) T.mg_Ltaken T.kp_Ltaken T.b_Ltaken .nil pass0 (pa_cons (pv 1) (pa_cons pe_int pa_nil))) (fun _ _ => rfl)) pa_nil)))) (pg_name (i := 7) sc_law.nd rfl (Or.inl rfl))
  (pss_one (ps_if (pt_not (pt_val (pe_call (ok_Lalike T 4) (hr.mono (by decide)) (by rfl) T.mg_Lalike T.kp_Lalike T.b_Lalike .nil pass0 (pa_cons (pe_call (ok_Lreading T) (hr.mono (by decide)) (by rfl) T.mg_Lreading T.kp_Lreading T.b_Lreading .nil pass0 (pa_cons (pv 4) (pa_cons (pv 7) pa_nil))) (pa_cons (pe_call (ok_Ldue T) (hr.mono (by decide)) (by rfl) T.mg_Ldue T.kp_Ldue T.b_Ldue .nil pass0 (pa_cons (pv 4) (pa_cons (pv 7) pa_nil))) pa_nil))))) (pss_one (ps_ret pe_bl)) pss_nil))))))))
  (pss_one (ps_ret pe_bl))))))), ?_⟩
    refine ⟨_, rfl, by show 3 ≤ sizeLine; decide, fun r hr0 => ?_⟩
    have row0 := RowAt.start hS hr0
    revert row0
    generalize (upd H r (.lst [.ref a, .int 0, .int 0])) = H0
    intro row0
    have mok : ∀ n : Int, n = 80 ∨ n = 81 → MulOk (Str.ofString "-") n := fun n hn => by
      rcases hn with rfl | rfl <;> exact ⟨by decide, fun _ _ => by decide +kernel, fun _ _ => by decide +kernel⟩
    have dl : ∀ n : Int, n = 80 ∨ n = 81 → (Txt.mul (Str.ofString "-") n).length ≤ 81 := fun n hn => by
      rcases hn with rfl | rfl <;> decide +kernel
    have nl1 : (Str.ofString "\n").length = 1 := by decide +kernel
    refine ⟨_, _, rfl, rfl, mok 81 (.inr rfl), _, _, rfl, rfl, sizeLe (by have := dl 81 (.inr rfl); omega), _, _, rfl, rfl, mok 81 (.inr rfl), _, _, rfl, rfl, sizeLe (by have := dl 81 (.inr rfl); rw [str_cat]; omega), by show 12 ≤ sizeLine; decide, fun l hl => ?_⟩
    have lr := row0.ne hl
    generalize hH1 : upd H0 l _ = H1
    have row1 : RowAt K r H1 := by rw [← hH1]; exact row0.new hl
    have hl1 : H1 l = some (.lst (oddY.map V.str)) := by rw [← hH1]; exact upd_same
    refine ⟨_, rfl, .inl ⟨rfl, _, SqL.of hl1⟩, ⟨_, rfl⟩, _, _, rfl, rfl, mok 80 (.inl rfl), _, _, rfl, rfl, mok 81 (.inr rfl), by show 2 ≤ sizeLine; decide, fun p0 hp0 => ?_⟩
    refine ⟨_, p0, [Txt.mul (Str.ofString "-") 80, Txt.mul (Str.ofString "-") 81], rfl, rfl, .inl (SqL.of upd_same), ?_, ?_⟩
    · have d0 := dl 80 (.inl rfl)
      have d1 := dl 81 (.inr rfl)
      rw [List.map_cons, List.map_cons, List.map_nil, List.sum_cons, List.sum_cons, List.sum_nil, nl1]
      show _ + 2 * 1 ≤ _
      omega
    generalize hH2 : upd H1 p0 _ = H2
    have s2 : Same H1 H2 := by rw [← hH2]; exact Same.upd_new hp0
    have hl2 := s2 _ _ hl1
    have row2 := row1.same s2
    refine ⟨l, _, _, rfl, rfl, hl2, by show 12 < sizeLine; decide, ?_⟩
    generalize hH3 : upd H2 l _ = H3
    have row3 : RowAt K r H3 := by rw [← hH3]; exact row2.put lr hl2
    have hl3 : H3 l = some (.lst (oddZ.map V.str)) := by rw [← hH3]; exact upd_same
    refine ⟨_, rfl, by decide, by decide, for_range (n := 5) (fun i σ H' => ∃ (v3 v4 v5 v6 v7 : Option V), σ = [some (.ref a), some (.ref r), some (.ref l), v3, v4, v5, v6, v7] ∧ RowAt K r H' ∧ H' l = some (.lst (oddZ.map V.str)))
      ⟨_, _, _, _, _, rfl, row3, hl3⟩ ?_ ?_⟩
    · rintro i σ H4 hi ⟨v3, v4, v5, v6, v7, rfl, row4, hl4⟩
      -- roads, rows, their text
      refine ⟨_, rfl, r, rfl, row4, fun p R H5 hp hR _ row5 k5 => ?_⟩
      have hl5 := k5 _ _ lr hl4
      refine ⟨_, rfl, _, rfl, by show 2 ≤ sizeLine; decide, fun p2 hp2 => ?_⟩
      refine ⟨_, rfl, r, _, rfl, by decide, row5.new hp2, fun j H6 j0 j1 row6 k6 => ?_⟩
      have hz : ∃ z ∈ [(12 : Int), 80], atI ([(12 : Int), 80].map V.int) j = some (.int z) := at_menu j0 j1
      obtain ⟨z, hm, hz⟩ := hz
      have hz80 : 0 ≤ z ∧ z ≤ 80 := by
        simp only [List.mem_cons, List.not_mem_nil, or_false] at hm
        omega
      refine ⟨p2, _, _, _, rfl, rfl, SqL.of (k6 _ _ (row5.ne hp2) upd_same), hz, ?_⟩
      have hp6 := k6.roads (row5.new hp2) (RoadsAt.same (Same.upd_new hp2) hp)
      have hl6 := k6 _ _ lr ((Same.upd_new hp2) _ _ hl5)
      refine ⟨r, p, R, z, false, rfl, row6, hp6, hR, hz80.1, hz80.2, fun q a' b' R0 R1 H7 hw hlen h80 f0 f1 _ nq na nb row7 k7 => ?_⟩
      have hp7 := k7.roads row6 hp6
      have hl7 := k7 _ _ lr hl6
      refine ⟨q, a', b', R, R0, R1, rfl, hR, ⟨SqT.of hw.hq, SqL.of hw.ha, SqL.of hw.hb, hlen, by omega, f0, f1⟩, fun H8 s8 => ?_⟩
      have hp8 := RoadsAt.same s8 hp7
      have hl8 := s8 _ _ hl7
      have row8 := row7.same s8
      -- changes
      refine ⟨_, rfl, r, _, rfl, by decide, row8, fun m H9 m0 m1 row9 k9 => ⟨_, rfl, by omega, by omega, ?_⟩⟩
      have hp9 := k9.roads row8 hp8
      have hl9 := k9 _ _ lr hl8
      have ltx : (R0.map cd ++ 10 :: R1.map cd).length ≤ 161 := by
        rw [List.length_append, List.length_cons, List.length_map, List.length_map]
        omega
      refine for_range (n := m.toNat) (fun n' σ H' => ∃ (v6 v7 : Option V) (cs : List Nat), σ = [some (.ref a), some (.ref r), some (.ref l), some (.int (0 + i)), some (.ref p), some (.str (SX.S cs)), v6, v7] ∧ cs.length + 2 ≤ 163 * 2 ^ n' ∧ RowAt K r H' ∧ RoadsAt H' p R ∧ H' l = some (.lst (oddZ.map V.str)))
        ⟨_, _, R0.map cd ++ 10 :: R1.map cd, rfl, by rw [Nat.pow_zero]; omega, row9, hp9, hl9⟩ ?_ ?_
      · rintro n σ Ha hn ⟨v6, v7, cs, rfl, hcs, rowa, hpa, hla⟩
        have hpow : 2 ^ n ≤ 2 ^ 2 := Nat.pow_le_pow_right (by decide) (by omega)
        refine ⟨_, rfl, _, rfl, r, cs, rfl, rowa, by omega, fun cs' Hb hlb rowb kb => ?_⟩
        exact ⟨_, _, cs', rfl, by rw [Nat.pow_succ]; omega, rowb, kb.roads rowa hpa, kb _ _ lr hla⟩
      · rintro σ Ha ⟨v6, v7, cs, rfl, hcs, rowa, hpa, hla⟩
        have hpow : 2 ^ m.toNat ≤ 2 ^ 3 := Nat.pow_le_pow_right (by decide) (by omega)
        refine ⟨_, rfl, _, rfl, _, rfl, r, _, rfl, by decide, rowa, fun v Hb b0 b1 rowb kb => ?_⟩
        have hpb := kb.roads rowa hpa
        have hlb := kb _ _ lr hla
        obtain ⟨vn, rfl⟩ := Int.eq_ofNat_of_zero_le b0
        obtain ⟨zz, hzz⟩ : ∃ z, oddZ[vn]? = some z := ⟨_, List.getElem?_eq_getElem (by rw [oddZ_len]; omega)⟩
        have hz2 := oddZ_le zz (List.mem_of_getElem? hzz)
        refine ⟨l, _, _, _, rfl, rfl, SqL.of hlb, atI_nat (by rw [List.getElem?_map, hzz]; rfl), by show 2 ≤ sizeLine; decide, fun g hg => ?_⟩
        have rowc := rowb.new (o := .lst [.str (SX.S cs), .str zz]) hg
        have hpc := RoadsAt.same (Same.upd_new (o := .lst [.str (SX.S cs), .str zz]) hg) hpb
        have hlc := (Same.upd_new (o := .lst [.str (SX.S cs), .str zz]) hg) _ _ hlb
        have hgc : (upd Hb g (.lst [.str (SX.S cs), .str zz])) g = some (.lst [.str (SX.S cs), .str zz]) := upd_same
        revert rowc hpc hlc hgc
        generalize (upd Hb g (.lst [.str (SX.S cs), .str zz])) = Hc
        intro rowc hpc hlc hgc
        refine ⟨g, rfl, ⟨_, SqL.of hgc⟩, for_list (K := K) (a := g) (xs := [.str (SX.S cs), .str zz]) (fun _ σ H' => ∃ (v6 v7 : Option V), σ = [some (.ref a), some (.ref r), some (.ref l), some (.int (0 + i)), some (.ref p), some (.str (SX.S cs)), v6, v7] ∧ RowAt K r H' ∧ RoadsAt H' p R ∧ H' l = some (.lst (oddZ.map V.str)) ∧ H' g = some (.lst [.str (SX.S cs), .str zz]))
          ⟨_, _, rfl, rowc, hpc, hlc, hgc⟩ (fun _ σ H' _ ⟨_, _, _, _, _, _, z⟩ => SqL.of z) ?_ ?_⟩
        · rintro n x σ Hd hx ⟨v6, v7, rfl, rowd, hpd, hld, hgd⟩
          obtain ⟨cz, rfl, hcz⟩ : ∃ cz : List Nat, x = .str (SX.S cz) ∧ cz.length ≤ 10000 := by
            match n, hx with
            | 0, hx =>
              cases hx
              exact ⟨cs, rfl, by omega⟩
            | 1, hx =>
              cases hx
              exact ⟨zz.cps.toList, by rw [← S_of], by rw [S_of_len]; omega⟩
          have hme := spl_mea 10 cz []
          rw [List.length_nil] at hme
          refine ⟨_, rfl, _, rfl, p, R, cz, rfl, hpd, hR, hcz, fun t He se de => ?_⟩
          refine ⟨_, rfl, _, rfl, p, R, cz, rfl, RoadsAt.same se hpd, hR, hcz, fun t2 Hf sf df => ?_⟩
          refine ⟨_, _, rfl, lk_due (de.same sf) df (ansT_len (by omega)), fun Hg sg => ⟨_, rfl, iteF ?_⟩⟩
          have sall := (se.trans sf).trans sg
          exact ⟨_, _, rfl, rowd.same sall, RoadsAt.same sall hpd, sall _ _ hld, sall _ _ hgd⟩
        · rintro σ Hd ⟨v6, v7, rfl, rowd, hpd, hld, hgd⟩
          exact ⟨_, _, _, _, _, rfl, rowd, hld⟩
    · rintro σ H4 _
      exact k _
end
end Tp
namespace Tp
open PySem L2
theorem all_mk {l : PySem.W.OpenLaw} {w : World} {K : PySem.W.Frag} {h : Heap} {mg : Str → Option Value} {fa : Addr} (X : K.In h) (G : h.Ns mainGlobals mg) (hfa : mg "law" = some (.ref fa))
    {f0 : Addr} {od0 an0 : Option Addr} {sl0 : Array (Option Value)} {oc0 kV0 dc0 pm0 cd0 ct0 : Value}
    {f1 : Addr} {od1 an1 : Option Addr} {sl1 : Array (Option Value)} {oc1 kV1 dc1 pm1 cd1 ct1 : Value}
    {f2 : Addr} {od2 an2 : Option Addr} {sl2 : Array (Option Value)} {oc2 kV2 dc2 pm2 cd2 ct2 : Value}
    {f3 : Addr} {od3 an3 : Option Addr} {sl3 : Array (Option Value)} {oc3 kV3 dc3 pm3 cd3 ct3 : Value}
    {f4 : Addr} {od4 an4 : Option Addr} {sl4 : Array (Option Value)} {oc4 kV4 dc4 pm4 cd4 ct4 : Value}
    {f5 : Addr} {od5 an5 : Option Addr} {sl5 : Array (Option Value)} {oc5 kV5 dc5 pm5 cd5 ct5 : Value}
    {f6 : Addr} {od6 an6 : Option Addr} {sl6 : Array (Option Value)} {oc6 kV6 dc6 pm6 cd6 ct6 : Value}
    {f7 : Addr} {od7 an7 : Option Addr} {sl7 : Array (Option Value)} {oc7 kV7 dc7 pm7 cd7 ct7 : Value}
    {f8 : Addr} {od8 an8 : Option Addr} {sl8 : Array (Option Value)} {oc8 kV8 dc8 pm8 cd8 ct8 : Value}
    {f9 : Addr} {od9 an9 : Option Addr} {sl9 : Array (Option Value)} {oc9 kV9 dc9 pm9 cd9 ct9 : Value}
    {f10 : Addr} {od10 an10 : Option Addr} {sl10 : Array (Option Value)} {oc10 kV10 dc10 pm10 cd10 ct10 : Value}
    {f11 : Addr} {od11 an11 : Option Addr} {sl11 : Array (Option Value)} {oc11 kV11 dc11 pm11 cd11 ct11 : Value}
    {f12 : Addr} {od12 an12 : Option Addr} {sl12 : Array (Option Value)} {oc12 kV12 dc12 pm12 cd12 ct12 : Value}
    {f13 : Addr} {od13 an13 : Option Addr} {sl13 : Array (Option Value)} {oc13 kV13 dc13 pm13 cd13 ct13 : Value}
    {t_MOST_LATE : Tok}
    {t_MOST_THINGS : Tok}
    {t_FIGURES : Tok}
    {t_GONE : Tok}
    {C_RoadError : Addr}
    {C_BadRoads : Addr}
    {C_BadReceiver : Addr}
    {C_BadRows : Addr}
    {C_BadMark : Addr}
    {C_BadText : Addr}
    {fi_BadRows : Addr} {odi_BadRows ani_BadRows : Option Addr} {sli_BadRows : Array (Option Value)} {oci_BadRows kVi_BadRows dci_BadRows pmi_BadRows cdi_BadRows cti_BadRows : Value} {nm_BadRows qn_BadRows : Str} {N_BadRows : Addr} {bs_BadRows bm_BadRows : List Value} {sn_BadRows : List Str} {sub_BadRows : List Value} {ab_BadRows : Bool} {col_BadRows : Option Bool} {dd_BadRows : Option Addr} {m0_BadRows m1_BadRows m2_BadRows m3_BadRows m5_BadRows : Option Value}
    {fi_BadText : Addr} {odi_BadText ani_BadText : Option Addr} {sli_BadText : Array (Option Value)} {oci_BadText kVi_BadText dci_BadText pmi_BadText cdi_BadText cti_BadText : Value} {nm_BadText qn_BadText : Str} {N_BadText : Addr} {bs_BadText bm_BadText : List Value} {sn_BadText : List Str} {sub_BadText : List Value} {ab_BadText : Bool} {col_BadText : Option Bool} {dd_BadText : Option Addr} {m0_BadText m1_BadText m2_BadText m3_BadText m5_BadText : Option Value}
    (a0 : PySem.W.nsIn K mainGlobals "need_roads" = some (some (.ref f0))) (l0 : K.lookup f0 = some ⟨oc0, od0, .func (PySem.W.fnOf "need_roads" "need_roads" (defArgs s_need_roads) (defBody s_need_roads) (defScope s_need_roads) .none kV0 dc0 pm0 an0 cd0 ct0), sl0⟩) (c0 : PySem.W.codeIn K cd0 "need_roads" = true) (k0 : PySem.W.keepIn K (.ref f0) = true)
    (a1 : PySem.W.nsIn K mainGlobals "need_rows" = some (some (.ref f1))) (l1 : K.lookup f1 = some ⟨oc1, od1, .func (PySem.W.fnOf "need_rows" "need_rows" (defArgs s_need_rows) (defBody s_need_rows) (defScope s_need_rows) .none kV1 dc1 pm1 an1 cd1 ct1), sl1⟩) (c1 : PySem.W.codeIn K cd1 "need_rows" = true) (k1 : PySem.W.keepIn K (.ref f1) = true)
    (a2 : PySem.W.nsIn K mainGlobals "row_of" = some (some (.ref f2))) (l2 : K.lookup f2 = some ⟨oc2, od2, .func (PySem.W.fnOf "row_of" "row_of" (defArgs s_row_of) (defBody s_row_of) (defScope s_row_of) .none kV2 dc2 pm2 an2 cd2 ct2), sl2⟩) (c2 : PySem.W.codeIn K cd2 "row_of" = true) (k2 : PySem.W.keepIn K (.ref f2) = true)
    (a3 : PySem.W.nsIn K mainGlobals "read" = some (some (.ref f3))) (l3 : K.lookup f3 = some ⟨oc3, od3, .func (PySem.W.fnOf "read" "read" (defArgs s_read) (defBody s_read) (defScope s_read) .none kV3 dc3 pm3 an3 cd3 ct3), sl3⟩) (c3 : PySem.W.codeIn K cd3 "read" = true) (k3 : PySem.W.keepIn K (.ref f3) = true)
    (a4 : PySem.W.nsIn K mainGlobals "_law_taken" = some (some (.ref f4))) (l4 : K.lookup f4 = some ⟨oc4, od4, .func (PySem.W.fnOf "_law_taken" "_law_taken" (defArgs s_Ltaken) (defBody s_Ltaken) (defScope s_Ltaken) .none kV4 dc4 pm4 an4 cd4 ct4), sl4⟩) (c4 : PySem.W.codeIn K cd4 "_law_taken" = true) (k4 : PySem.W.keepIn K (.ref f4) = true)
    (a5 : PySem.W.nsIn K mainGlobals "_law_alike" = some (some (.ref f5))) (l5 : K.lookup f5 = some ⟨oc5, od5, .func (PySem.W.fnOf "_law_alike" "_law_alike" (defArgs s_Lalike) (defBody s_Lalike) (defScope s_Lalike) .none kV5 dc5 pm5 an5 cd5 ct5), sl5⟩) (c5 : PySem.W.codeIn K cd5 "_law_alike" = true) (k5 : PySem.W.keepIn K (.ref f5) = true)
    (a6 : PySem.W.nsIn K mainGlobals "_law_roads" = some (some (.ref f6))) (l6 : K.lookup f6 = some ⟨oc6, od6, .func (PySem.W.fnOf "_law_roads" "_law_roads" (defArgs s_Lroads) (defBody s_Lroads) (defScope s_Lroads) .none kV6 dc6 pm6 an6 cd6 ct6), sl6⟩) (c6 : PySem.W.codeIn K cd6 "_law_roads" = true) (k6 : PySem.W.keepIn K (.ref f6) = true)
    (a7 : PySem.W.nsIn K mainGlobals "_law_late" = some (some (.ref f7))) (l7 : K.lookup f7 = some ⟨oc7, od7, .func (PySem.W.fnOf "_law_late" "_law_late" (defArgs s_Llate) (defBody s_Llate) (defScope s_Llate) .none kV7 dc7 pm7 an7 cd7 ct7), sl7⟩) (c7 : PySem.W.codeIn K cd7 "_law_late" = true) (k7 : PySem.W.keepIn K (.ref f7) = true)
    (a8 : PySem.W.nsIn K mainGlobals "_law_rows" = some (some (.ref f8))) (l8 : K.lookup f8 = some ⟨oc8, od8, .func (PySem.W.fnOf "_law_rows" "_law_rows" (defArgs s_Lrows) (defBody s_Lrows) (defScope s_Lrows) .none kV8 dc8 pm8 an8 cd8 ct8), sl8⟩) (c8 : PySem.W.codeIn K cd8 "_law_rows" = true) (k8 : PySem.W.keepIn K (.ref f8) = true)
    (a9 : PySem.W.nsIn K mainGlobals "_law_text" = some (some (.ref f9))) (l9 : K.lookup f9 = some ⟨oc9, od9, .func (PySem.W.fnOf "_law_text" "_law_text" (defArgs s_Ltext) (defBody s_Ltext) (defScope s_Ltext) .none kV9 dc9 pm9 an9 cd9 ct9), sl9⟩) (c9 : PySem.W.codeIn K cd9 "_law_text" = true) (k9 : PySem.W.keepIn K (.ref f9) = true)
    (a10 : PySem.W.nsIn K mainGlobals "_law_due" = some (some (.ref f10))) (l10 : K.lookup f10 = some ⟨oc10, od10, .func (PySem.W.fnOf "_law_due" "_law_due" (defArgs s_Ldue) (defBody s_Ldue) (defScope s_Ldue) .none kV10 dc10 pm10 an10 cd10 ct10), sl10⟩) (c10 : PySem.W.codeIn K cd10 "_law_due" = true) (k10 : PySem.W.keepIn K (.ref f10) = true)
    (a11 : PySem.W.nsIn K mainGlobals "_law_reading" = some (some (.ref f11))) (l11 : K.lookup f11 = some ⟨oc11, od11, .func (PySem.W.fnOf "_law_reading" "_law_reading" (defArgs s_Lreading) (defBody s_Lreading) (defScope s_Lreading) .none kV11 dc11 pm11 an11 cd11 ct11), sl11⟩) (c11 : PySem.W.codeIn K cd11 "_law_reading" = true) (k11 : PySem.W.keepIn K (.ref f11) = true)
    (a12 : PySem.W.nsIn K mainGlobals "_law_spoilt" = some (some (.ref f12))) (l12 : K.lookup f12 = some ⟨oc12, od12, .func (PySem.W.fnOf "_law_spoilt" "_law_spoilt" (defArgs s_Lspoilt) (defBody s_Lspoilt) (defScope s_Lspoilt) .none kV12 dc12 pm12 an12 cd12 ct12), sl12⟩) (c12 : PySem.W.codeIn K cd12 "_law_spoilt" = true) (k12 : PySem.W.keepIn K (.ref f12) = true)
    (a13 : PySem.W.nsIn K mainGlobals "law" = some (some (.ref f13))) (l13 : K.lookup f13 = some ⟨oc13, od13, .func (PySem.W.fnOf "law" "law" (defArgs s_law) (defBody s_law) (defScope s_law) .none kV13 dc13 pm13 an13 cd13 ct13), sl13⟩) (c13 : PySem.W.codeIn K cd13 "law" = true) (k13 : PySem.W.keepIn K (.ref f13) = true)
    (g_MOST_LATE : PySem.W.nsIn K mainGlobals "MOST_LATE" = some (some (.int 9 t_MOST_LATE)))
    (g_MOST_THINGS : PySem.W.nsIn K mainGlobals "MOST_THINGS" = some (some (.int 80 t_MOST_THINGS)))
    (g_FIGURES : PySem.W.nsIn K mainGlobals "FIGURES" = some (some (.str "0123456789" t_FIGURES)))
    (g_GONE : PySem.W.nsIn K mainGlobals "GONE" = some (some (.str "-" t_GONE)))
    (z_ValueError : PySem.W.nsIn K mainGlobals "ValueError" = some none)
    (z_bool : PySem.W.nsIn K mainGlobals "bool" = some none)
    (z_int : PySem.W.nsIn K mainGlobals "int" = some none)
    (z_isinstance : PySem.W.nsIn K mainGlobals "isinstance" = some none)
    (z_len : PySem.W.nsIn K mainGlobals "len" = some none)
    (z_list : PySem.W.nsIn K mainGlobals "list" = some none)
    (z_max : PySem.W.nsIn K mainGlobals "max" = some none)
    (z_min : PySem.W.nsIn K mainGlobals "min" = some none)
    (z_range : PySem.W.nsIn K mainGlobals "range" = some none)
    (z_str : PySem.W.nsIn K mainGlobals "str" = some none)
    (z_tuple : PySem.W.nsIn K mainGlobals "tuple" = some none)
    (aC_RoadError : PySem.W.nsIn K mainGlobals "RoadError" = some (some (.ref C_RoadError))) (kc_RoadError : PySem.W.keepIn K (.ref C_RoadError) = true) (ex_RoadError : PySem.W.subIn K (.ref C_RoadError) (.type "BaseException") = some true) (ty_RoadError : PySem.W.typeIn K (.ref C_RoadError) = some (.type "type")) (hd_RoadError : PySem.W.hasDictIn K C_RoadError = true)
    (aC_BadRoads : PySem.W.nsIn K mainGlobals "BadRoads" = some (some (.ref C_BadRoads))) (kc_BadRoads : PySem.W.keepIn K (.ref C_BadRoads) = true) (ex_BadRoads : PySem.W.subIn K (.ref C_BadRoads) (.type "BaseException") = some true) (ty_BadRoads : PySem.W.typeIn K (.ref C_BadRoads) = some (.type "type")) (hd_BadRoads : PySem.W.hasDictIn K C_BadRoads = true)
    (aC_BadReceiver : PySem.W.nsIn K mainGlobals "BadReceiver" = some (some (.ref C_BadReceiver))) (kc_BadReceiver : PySem.W.keepIn K (.ref C_BadReceiver) = true) (ex_BadReceiver : PySem.W.subIn K (.ref C_BadReceiver) (.type "BaseException") = some true) (ty_BadReceiver : PySem.W.typeIn K (.ref C_BadReceiver) = some (.type "type")) (hd_BadReceiver : PySem.W.hasDictIn K C_BadReceiver = true)
    (aC_BadRows : PySem.W.nsIn K mainGlobals "BadRows" = some (some (.ref C_BadRows))) (kc_BadRows : PySem.W.keepIn K (.ref C_BadRows) = true) (ex_BadRows : PySem.W.subIn K (.ref C_BadRows) (.type "BaseException") = some true) (ty_BadRows : PySem.W.typeIn K (.ref C_BadRows) = some (.type "type")) (hd_BadRows : PySem.W.hasDictIn K C_BadRows = true)
    (aC_BadMark : PySem.W.nsIn K mainGlobals "BadMark" = some (some (.ref C_BadMark))) (kc_BadMark : PySem.W.keepIn K (.ref C_BadMark) = true) (ex_BadMark : PySem.W.subIn K (.ref C_BadMark) (.type "BaseException") = some true) (ty_BadMark : PySem.W.typeIn K (.ref C_BadMark) = some (.type "type")) (hd_BadMark : PySem.W.hasDictIn K C_BadMark = true)
    (aC_BadText : PySem.W.nsIn K mainGlobals "BadText" = some (some (.ref C_BadText))) (kc_BadText : PySem.W.keepIn K (.ref C_BadText) = true) (ex_BadText : PySem.W.subIn K (.ref C_BadText) (.type "BaseException") = some true) (ty_BadText : PySem.W.typeIn K (.ref C_BadText) = some (.type "type")) (hd_BadText : PySem.W.hasDictIn K C_BadText = true)
    (xL_BadRows : K.lookup C_BadRows = some (excClassObj nm_BadRows qn_BadRows C_BadRows N_BadRows bs_BadRows bm_BadRows true sn_BadRows sub_BadRows ab_BadRows col_BadRows dd_BadRows m0_BadRows m1_BadRows m2_BadRows m3_BadRows m5_BadRows "ValueError.__new__")) (rf_BadRows : PySem.HandSPX.refsVE bm_BadRows = true) (st_BadRows : PySem.W.findIn K (.ref C_BadRows) "__setattr__" = some (some (.builtin "object.__setattr__"))) (ai_BadRows : PySem.W.findIn K (.ref C_BadRows) "__init__" = some (some (.ref fi_BadRows))) (ti_BadRows : PySem.W.typeIn K (.ref fi_BadRows) = some (.type "function"))
    (li_BadRows : K.lookup fi_BadRows = some ⟨oci_BadRows, odi_BadRows, .func (PySem.W.fnOf "__init__" "BadRows.__init__" (defArgs s_BadRows_init) (defBody s_BadRows_init) (defScope s_BadRows_init) .none kVi_BadRows dci_BadRows pmi_BadRows ani_BadRows cdi_BadRows cti_BadRows), sli_BadRows⟩) (ci_BadRows : PySem.W.codeIn K cdi_BadRows "BadRows.__init__" = true) (ki_BadRows : PySem.W.keepIn K (.ref fi_BadRows) = true)
    (nf_BadRows_road : PySem.W.findIn K (.ref C_BadRows) "road" = some none)
    (nf_BadRows_at : PySem.W.findIn K (.ref C_BadRows) "at" = some none)
    (nf_BadRows_row : PySem.W.findIn K (.ref C_BadRows) "row" = some none)
    (xL_BadText : K.lookup C_BadText = some (excClassObj nm_BadText qn_BadText C_BadText N_BadText bs_BadText bm_BadText true sn_BadText sub_BadText ab_BadText col_BadText dd_BadText m0_BadText m1_BadText m2_BadText m3_BadText m5_BadText "ValueError.__new__")) (rf_BadText : PySem.HandSPX.refsVE bm_BadText = true) (st_BadText : PySem.W.findIn K (.ref C_BadText) "__setattr__" = some (some (.builtin "object.__setattr__"))) (ai_BadText : PySem.W.findIn K (.ref C_BadText) "__init__" = some (some (.ref fi_BadText))) (ti_BadText : PySem.W.typeIn K (.ref fi_BadText) = some (.type "function"))
    (li_BadText : K.lookup fi_BadText = some ⟨oci_BadText, odi_BadText, .func (PySem.W.fnOf "__init__" "BadText.__init__" (defArgs s_BadText_init) (defBody s_BadText_init) (defScope s_BadText_init) .none kVi_BadText dci_BadText pmi_BadText ani_BadText cdi_BadText cti_BadText), sli_BadText⟩) (ci_BadText : PySem.W.codeIn K cdi_BadText "BadText.__init__" = true) (ki_BadText : PySem.W.keepIn K (.ref fi_BadText) = true)
    (nf_BadText_road : PySem.W.findIn K (.ref C_BadText) "road" = some none)
    (nf_BadText_at : PySem.W.findIn K (.ref C_BadText) "at" = some none)
    (nf_BadText_row : PySem.W.findIn K (.ref C_BadText) "row" = some none)
    (xg_BadText : PySem.W.findIn K (.ref C_BadText) "__getattribute__" = some (some (.builtin "BaseException.__getattribute__")))
    (xk_BadText : PySem.W.findIn K (.ref C_BadText) "__getattr__" = some none)
    (xa_BadText : PySem.W.findIn K (.ref C_BadText) "__class__" = some (some (.builtin "object.__class__")))
    (xn_BadText : PySem.W.specialIn K (.builtin "object.__class__") "__get__" = some (some (.builtin "getset_descriptor.__get__")))
    (xt_BadText : PySem.W.takesIn K (.builtin "object.__class__") = some true)
    (xm_BadText : PySem.W.mroIn K C_BadText (.type "object") = some true)
    (i_BadText_BadMark : PySem.W.kitOne K (.ref C_BadText) (.ref C_BadMark) = some false)
    (i_BadText_BadReceiver : PySem.W.kitOne K (.ref C_BadText) (.ref C_BadReceiver) = some false)
    (i_BadText_BadRoads : PySem.W.kitOne K (.ref C_BadText) (.ref C_BadRoads) = some false)
    (i_BadText_BadRows : PySem.W.kitOne K (.ref C_BadText) (.ref C_BadRows) = some false)
    (i_BadText_BadText : PySem.W.kitOne K (.ref C_BadText) (.ref C_BadText) = some true)
    (i_BadText_VE : PySem.W.kitOne K (.ref C_BadText) (.type "ValueError") = some true)
    (m_BadText : PySem.W.exmOne K (.ref C_BadText) (.ref C_RoadError) = some true)
    (xg_BadRows : PySem.W.findIn K (.ref C_BadRows) "__getattribute__" = some (some (.builtin "BaseException.__getattribute__")))
    (xk_BadRows : PySem.W.findIn K (.ref C_BadRows) "__getattr__" = some none)
    (xa_BadRows : PySem.W.findIn K (.ref C_BadRows) "__class__" = some (some (.builtin "object.__class__")))
    (xn_BadRows : PySem.W.specialIn K (.builtin "object.__class__") "__get__" = some (some (.builtin "getset_descriptor.__get__")))
    (xt_BadRows : PySem.W.takesIn K (.builtin "object.__class__") = some true)
    (xm_BadRows : PySem.W.mroIn K C_BadRows (.type "object") = some true)
    (i_BadRows_BadMark : PySem.W.kitOne K (.ref C_BadRows) (.ref C_BadMark) = some false)
    (i_BadRows_BadReceiver : PySem.W.kitOne K (.ref C_BadRows) (.ref C_BadReceiver) = some false)
    (i_BadRows_BadRoads : PySem.W.kitOne K (.ref C_BadRows) (.ref C_BadRoads) = some false)
    (i_BadRows_BadRows : PySem.W.kitOne K (.ref C_BadRows) (.ref C_BadRows) = some true)
    (i_BadRows_BadText : PySem.W.kitOne K (.ref C_BadRows) (.ref C_BadText) = some false)
    (i_BadRows_VE : PySem.W.kitOne K (.ref C_BadRows) (.type "ValueError") = some true)
    (m_BadRows : PySem.W.exmOne K (.ref C_BadRows) (.ref C_RoadError) = some true)
    (oi1_RoadError : PySem.W.specialIn K (.ref C_RoadError) "__getattribute__" = some (some (.builtin "type.__getattribute__")))
    (oi2_RoadError : PySem.W.readsIn K C_RoadError (.type "type") = true)
    (oi3_RoadError : PySem.W.findCls K (.ref C_RoadError) (.type "type") "__init__" = some (.val (.builtin "ValueError.__init__")))
    : ∃ fd : FuncData, (∀ (s : Shared) (v : Value), BindsTo s fd ⟨[v], []⟩ [("_law_script", v)]) ∧ ∀ base : Heap, K.In base → base.Ns mainGlobals mg → FnOk l.prog w K mg base CX0 8 fa fd ["_law_script"] (spLaw K) := by
  have e := hfa.symm.trans (PySem.W.mg_of X G a13)
  cases e
  have F0 := fun_mk (st := s_need_roads) l0 c0 k0
  have b0 := F0.binds (ps := P_need_roads) fun _ _ _ _ _ _ us hl => match us, hl with | [_], _ => rfl
  have F1 := fun_mk (st := s_need_rows) l1 c1 k1
  have b1 := F1.binds (ps := P_need_rows) fun _ _ _ _ _ _ us hl => match us, hl with | [_, _], _ => rfl
  have F2 := fun_mk (st := s_row_of) l2 c2 k2
  have b2 := F2.binds (ps := P_row_of) fun _ _ _ _ _ _ us hl => match us, hl with | [_, _], _ => rfl
  have F3 := fun_mk (st := s_read) l3 c3 k3
  have b3 := F3.binds (ps := P_read) fun _ _ _ _ _ _ us hl => match us, hl with | [_, _], _ => rfl
  have F4 := fun_mk (st := s_Ltaken) l4 c4 k4
  have b4 := F4.binds (ps := P_Ltaken) fun _ _ _ _ _ _ us hl => match us, hl with | [_, _], _ => rfl
  have F5 := fun_mk (st := s_Lalike) l5 c5 k5
  have b5 := F5.binds (ps := P_Lalike) fun _ _ _ _ _ _ us hl => match us, hl with | [_, _], _ => rfl
  have F6 := fun_mk (st := s_Lroads) l6 c6 k6
  have b6 := F6.binds (ps := P_Lroads) fun _ _ _ _ _ _ us hl => match us, hl with | [_], _ => rfl
  have F7 := fun_mk (st := s_Llate) l7 c7 k7
  have b7 := F7.binds (ps := P_Llate) fun _ _ _ _ _ _ us hl => match us, hl with | [_, _], _ => rfl
  have F8 := fun_mk (st := s_Lrows) l8 c8 k8
  have b8 := F8.binds (ps := P_Lrows) fun _ _ _ _ _ _ us hl => match us, hl with | [_, _, _, _], _ => rfl
  have F9 := fun_mk (st := s_Ltext) l9 c9 k9
  have b9 := F9.binds (ps := P_Ltext) fun _ _ _ _ _ _ us hl => match us, hl with | [_], _ => rfl
  have F10 := fun_mk (st := s_Ldue) l10 c10 k10
  have b10 := F10.binds (ps := P_Ldue) fun _ _ _ _ _ _ us hl => match us, hl with | [_, _], _ => rfl
  have F11 := fun_mk (st := s_Lreading) l11 c11 k11
  have b11 := F11.binds (ps := P_Lreading) fun _ _ _ _ _ _ us hl => match us, hl with | [_, _], _ => rfl
  have F12 := fun_mk (st := s_Lspoilt) l12 c12 k12
  have b12 := F12.binds (ps := P_Lspoilt) fun _ _ _ _ _ _ us hl => match us, hl with | [_, _], _ => rfl
  have F13 := fun_mk (st := s_law) l13 c13 k13
  have b13 := F13.binds (ps := P_law) fun _ _ _ _ _ _ us hl => match us, hl with | [_], _ => rfl
  have Fi_BadRows := fun_mk (st := s_BadRows_init) li_BadRows ci_BadRows ki_BadRows
  have bi_BadRows := Fi_BadRows.binds (ps := P_BadRows_init) fun _ _ _ _ _ _ us hl => match us, hl with | [_, _, _], _ => rfl
  have Fi_BadText := fun_mk (st := s_BadText_init) li_BadText ci_BadText ki_BadText
  have bi_BadText := Fi_BadText.binds (ps := P_BadText_init) fun _ _ _ _ _ _ us hl => match us, hl with | [_, _, _], _ => rfl
  let T : Txt K mg := {
    f_need_roads := _, fd_need_roads := _, F_need_roads := F0, mg_need_roads := PySem.W.mg_of X G a0, kp_need_roads := k0, b_need_roads := b0,
    f_need_rows := _, fd_need_rows := _, F_need_rows := F1, mg_need_rows := PySem.W.mg_of X G a1, kp_need_rows := k1, b_need_rows := b1,
    f_row_of := _, fd_row_of := _, F_row_of := F2, mg_row_of := PySem.W.mg_of X G a2, kp_row_of := k2, b_row_of := b2,
    f_read := _, fd_read := _, F_read := F3, mg_read := PySem.W.mg_of X G a3, kp_read := k3, b_read := b3,
    f_Ltaken := _, fd_Ltaken := _, F_Ltaken := F4, mg_Ltaken := PySem.W.mg_of X G a4, kp_Ltaken := k4, b_Ltaken := b4,
    f_Lalike := _, fd_Lalike := _, F_Lalike := F5, mg_Lalike := PySem.W.mg_of X G a5, kp_Lalike := k5, b_Lalike := b5,
    f_Lroads := _, fd_Lroads := _, F_Lroads := F6, mg_Lroads := PySem.W.mg_of X G a6, kp_Lroads := k6, b_Lroads := b6,
    f_Llate := _, fd_Llate := _, F_Llate := F7, mg_Llate := PySem.W.mg_of X G a7, kp_Llate := k7, b_Llate := b7,
    f_Lrows := _, fd_Lrows := _, F_Lrows := F8, mg_Lrows := PySem.W.mg_of X G a8, kp_Lrows := k8, b_Lrows := b8,
    f_Ltext := _, fd_Ltext := _, F_Ltext := F9, mg_Ltext := PySem.W.mg_of X G a9, kp_Ltext := k9, b_Ltext := b9,
    f_Ldue := _, fd_Ldue := _, F_Ldue := F10, mg_Ldue := PySem.W.mg_of X G a10, kp_Ldue := k10, b_Ldue := b10,
    f_Lreading := _, fd_Lreading := _, F_Lreading := F11, mg_Lreading := PySem.W.mg_of X G a11, kp_Lreading := k11, b_Lreading := b11,
    f_Lspoilt := _, fd_Lspoilt := _, F_Lspoilt := F12, mg_Lspoilt := PySem.W.mg_of X G a12, kp_Lspoilt := k12, b_Lspoilt := b12,
    f_law := _, fd_law := _, F_law := F13, mg_law := PySem.W.mg_of X G a13, kp_law := k13, b_law := b13,
    u_MOST_LATE := _, mg_MOST_LATE := PySem.W.mg_of X G g_MOST_LATE, rv_MOST_LATE := ⟨_, rfl⟩,
    u_MOST_THINGS := _, mg_MOST_THINGS := PySem.W.mg_of X G g_MOST_THINGS, rv_MOST_THINGS := ⟨_, rfl⟩,
    u_FIGURES := _, mg_FIGURES := PySem.W.mg_of X G g_FIGURES, rv_FIGURES := ⟨_, rfl⟩,
    u_GONE := _, mg_GONE := PySem.W.mg_of X G g_GONE, rv_GONE := ⟨_, rfl⟩,
    z_ValueError := PySem.W.mg_none_of X G z_ValueError,
    z_bool := PySem.W.mg_none_of X G z_bool,
    z_int := PySem.W.mg_none_of X G z_int,
    z_isinstance := PySem.W.mg_none_of X G z_isinstance,
    z_len := PySem.W.mg_none_of X G z_len,
    z_list := PySem.W.mg_none_of X G z_list,
    z_max := PySem.W.mg_none_of X G z_max,
    z_min := PySem.W.mg_none_of X G z_min,
    z_range := PySem.W.mg_none_of X G z_range,
    z_str := PySem.W.mg_none_of X G z_str,
    z_tuple := PySem.W.mg_none_of X G z_tuple,
    C_RoadError := C_RoadError, mg_RoadError := PySem.W.mg_of X G aC_RoadError, kp_RoadError := kc_RoadError, ex_RoadError := ex_RoadError, ty_RoadError := ty_RoadError, hd_RoadError := hd_RoadError,
    C_BadRoads := C_BadRoads, mg_BadRoads := PySem.W.mg_of X G aC_BadRoads, kp_BadRoads := kc_BadRoads, ex_BadRoads := ex_BadRoads, ty_BadRoads := ty_BadRoads, hd_BadRoads := hd_BadRoads,
    C_BadReceiver := C_BadReceiver, mg_BadReceiver := PySem.W.mg_of X G aC_BadReceiver, kp_BadReceiver := kc_BadReceiver, ex_BadReceiver := ex_BadReceiver, ty_BadReceiver := ty_BadReceiver, hd_BadReceiver := hd_BadReceiver,
    C_BadRows := C_BadRows, mg_BadRows := PySem.W.mg_of X G aC_BadRows, kp_BadRows := kc_BadRows, ex_BadRows := ex_BadRows, ty_BadRows := ty_BadRows, hd_BadRows := hd_BadRows,
    C_BadMark := C_BadMark, mg_BadMark := PySem.W.mg_of X G aC_BadMark, kp_BadMark := kc_BadMark, ex_BadMark := ex_BadMark, ty_BadMark := ty_BadMark, hd_BadMark := hd_BadMark,
    C_BadText := C_BadText, mg_BadText := PySem.W.mg_of X G aC_BadText, kp_BadText := kc_BadText, ex_BadText := ex_BadText, ty_BadText := ty_BadText, hd_BadText := hd_BadText,
    f_BadRows_init := fi_BadRows, fd_BadRows_init := _, F_BadRows_init := Fi_BadRows, b_BadRows_init := bi_BadRows, iC_BadRows := ai_BadRows, tI_BadRows := ti_BadRows, ox_BadRows := ⟨⟨nm_BadRows, qn_BadRows, N_BadRows, bs_BadRows, bm_BadRows, sn_BadRows, sub_BadRows, ab_BadRows, col_BadRows, dd_BadRows, m0_BadRows, m1_BadRows, m2_BadRows, m3_BadRows, m5_BadRows, xL_BadRows, rf_BadRows⟩, st_BadRows, ex_BadRows, ty_BadRows, kc_BadRows⟩,
    nf_BadRows_road := nf_BadRows_road,
    nf_BadRows_at := nf_BadRows_at,
    nf_BadRows_row := nf_BadRows_row,
    f_BadText_init := fi_BadText, fd_BadText_init := _, F_BadText_init := Fi_BadText, b_BadText_init := bi_BadText, iC_BadText := ai_BadText, tI_BadText := ti_BadText, ox_BadText := ⟨⟨nm_BadText, qn_BadText, N_BadText, bs_BadText, bm_BadText, sn_BadText, sub_BadText, ab_BadText, col_BadText, dd_BadText, m0_BadText, m1_BadText, m2_BadText, m3_BadText, m5_BadText, xL_BadText, rf_BadText⟩, st_BadText, ex_BadText, ty_BadText, kc_BadText⟩,
    nf_BadText_road := nf_BadText_road,
    nf_BadText_at := nf_BadText_at,
    nf_BadText_row := nf_BadText_row,
    xg_BadText := xg_BadText,
    xk_BadText := xk_BadText,
    xa_BadText := xa_BadText,
    xn_BadText := xn_BadText,
    xt_BadText := xt_BadText,
    xm_BadText := xm_BadText,
    i_BadText_BadMark := i_BadText_BadMark,
    i_BadText_BadReceiver := i_BadText_BadReceiver,
    i_BadText_BadRoads := i_BadText_BadRoads,
    i_BadText_BadRows := i_BadText_BadRows,
    i_BadText_BadText := i_BadText_BadText,
    i_BadText_VE := i_BadText_VE,
    m_BadText := m_BadText,
    xg_BadRows := xg_BadRows,
    xk_BadRows := xk_BadRows,
    xa_BadRows := xa_BadRows,
    xn_BadRows := xn_BadRows,
    xt_BadRows := xt_BadRows,
    xm_BadRows := xm_BadRows,
    i_BadRows_BadMark := i_BadRows_BadMark,
    i_BadRows_BadReceiver := i_BadRows_BadReceiver,
    i_BadRows_BadRoads := i_BadRows_BadRoads,
    i_BadRows_BadRows := i_BadRows_BadRows,
    i_BadRows_BadText := i_BadRows_BadText,
    i_BadRows_VE := i_BadRows_VE,
    m_BadRows := m_BadRows,
    oi1_RoadError := oi1_RoadError,
    oi2_RoadError := oi2_RoadError,
    oi3_RoadError := oi3_RoadError }
  exact ⟨PySem.W.fnOf "law" "law" (defArgs s_law) (defBody s_law) (defScope s_law) .none kV13 dc13 pm13 an13 cd13 ct13, fun s v => .of_eq rfl, fun base _ _ => ok_law T⟩
theorem walk {l : PySem.W.OpenLaw} {q : Program} {loose : List Str} {XP : (Str → Option Value) → Heap → Prop} {YP : World → Heap → Prop} {d : DefRec} {K : Params → PySem.W.Frag} (hn : l.most = some 63) (hdf : d.params.defaults = [])
    (hY : ∀ (w : World) (h : Heap), YP w h → (K w.params).In h)
    (F : ∀ (w : World) (mg : Str → Option Value) (fa : Addr) (h : Heap), (K w.params).In h → h.Ns mainGlobals mg → mg d.name = some (.ref fa) →
      ∃ fd : FuncData, (∀ (s : Shared) (u : Value), BindsTo s fd ⟨[u], []⟩ [("_law_script", u)]) ∧ ∀ base : Heap, (K w.params).In base → base.Ns mainGlobals mg → FnOk l.prog w (K w.params) mg base CX0 8 fa fd ["_law_script"] (spLaw (K w.params))) :
    PySem.W.WalkO q loose XP YP l.row.toRowW d [] (fun f vs => PySem.call f vs) :=
  L2.walk_of (n := 63) (k := 8) (x := "_law_script") (CX := fun _ => CX0) (sp := fun w => spLaw (K w.params)) hn (by decide) hdf ⟨rfl, by decide, by decide⟩ hY F (fun _ _ a ns _ hO hS => ⟨a, ns, rfl, Scr.of hO hS, fun _ => rfl⟩) fun _ _ _ _ _ z => z
end Tp
open PySem PySem.W PyProof.Rows
set_option maxRecDepth 100000 in
set_option maxHeartbeats 0 in
theorem PySem.Challenge.cw_twopaths_k12_texts_that_tell_no_rows_holds : PySem.Challenge.rw_twopaths_k12_texts_that_tell_no_rows.Holds := by
  w_on; o_law; k_head; (case hw => w_witness2)
  k_fill
  refine Tp.walk (l := PySem.Challenge.rw_twopaths_k12_texts_that_tell_no_rows) rfl rfl (fun w h Y => PySem.W.kIn_of Y) ?F
  case F =>
    intro w mg fa h KX G hmg
    refine' Tp.all_mk KX G hmg ?a0 ?l0 ?c0 ?k0 ?a1 ?l1 ?c1 ?k1 ?a2 ?l2 ?c2 ?k2 ?a3 ?l3 ?c3 ?k3 ?a4 ?l4 ?c4 ?k4 ?a5 ?l5 ?c5 ?k5 ?a6 ?l6 ?c6 ?k6 ?a7 ?l7 ?c7 ?k7 ?a8 ?l8 ?c8 ?k8 ?a9 ?l9 ?c9 ?k9 ?a10 ?l10 ?c10 ?k10 ?a11 ?l11 ?c11 ?k11 ?a12 ?l12 ?c12 ?k12 ?a13 ?l13 ?c13 ?k13 ?g_MOST_LATE ?g_MOST_THINGS ?g_FIGURES ?g_GONE ?z_ValueError ?z_bool ?z_int ?z_isinstance ?z_len ?z_list ?z_max ?z_min ?z_range ?z_str ?z_tuple ?aC_RoadError ?kc_RoadError ?ex_RoadError ?ty_RoadError ?hd_RoadError ?aC_BadRoads ?kc_BadRoads ?ex_BadRoads ?ty_BadRoads ?hd_BadRoads ?aC_BadReceiver ?kc_BadReceiver ?ex_BadReceiver ?ty_BadReceiver ?hd_BadReceiver ?aC_BadRows ?kc_BadRows ?ex_BadRows ?ty_BadRows ?hd_BadRows ?aC_BadMark ?kc_BadMark ?ex_BadMark ?ty_BadMark ?hd_BadMark ?aC_BadText ?kc_BadText ?ex_BadText ?ty_BadText ?hd_BadText ?xL_BadRows ?rf_BadRows ?st_BadRows ?ai_BadRows ?ti_BadRows ?li_BadRows ?ci_BadRows ?ki_BadRows ?nf_BadRows_road ?nf_BadRows_at ?nf_BadRows_row ?xL_BadText ?rf_BadText ?st_BadText ?ai_BadText ?ti_BadText ?li_BadText ?ci_BadText ?ki_BadText ?nf_BadText_road ?nf_BadText_at ?nf_BadText_row ?xg_BadText ?xk_BadText ?xa_BadText ?xn_BadText ?xt_BadText ?xm_BadText ?i_BadText_BadMark ?i_BadText_BadReceiver ?i_BadText_BadRoads ?i_BadText_BadRows ?i_BadText_BadText ?i_BadText_VE ?m_BadText ?xg_BadRows ?xk_BadRows ?xa_BadRows ?xn_BadRows ?xt_BadRows ?xm_BadRows ?i_BadRows_BadMark ?i_BadRows_BadReceiver ?i_BadRows_BadRoads ?i_BadRows_BadRows ?i_BadRows_BadText ?i_BadRows_VE ?m_BadRows ?oi1_RoadError ?oi2_RoadError ?oi3_RoadError
    (case a0 => k_is); (case l0 => k_is); (case c0 => k_is); (case k0 => k_is); (case a1 => k_is); (case l1 => k_is)
    (case c1 => k_is); (case k1 => k_is); (case a2 => k_is); (case l2 => k_is); (case c2 => k_is); (case k2 => k_is)
    (case a3 => k_is); (case l3 => k_is); (case c3 => k_is); (case k3 => k_is); (case a4 => k_is); (case l4 => k_is)
    (case c4 => k_is); (case k4 => k_is); (case a5 => k_is); (case l5 => k_is); (case c5 => k_is); (case k5 => k_is)
    (case a6 => k_is); (case l6 => k_is); (case c6 => k_is); (case k6 => k_is); (case a7 => k_is); (case l7 => k_is)
    (case c7 => k_is); (case k7 => k_is); (case a8 => k_is); (case l8 => k_is); (case c8 => k_is); (case k8 => k_is)
    (case a9 => k_is); (case l9 => k_is); (case c9 => k_is); (case k9 => k_is); (case a10 => k_is); (case l10 => k_is)
    (case c10 => k_is); (case k10 => k_is); (case a11 => k_is); (case l11 => k_is); (case c11 => k_is); (case k11 => k_is)
    (case a12 => k_is); (case l12 => k_is); (case c12 => k_is); (case k12 => k_is); (case a13 => k_is); (case l13 => k_is)
    (case c13 => k_is); (case k13 => k_is); (case g_MOST_LATE => k_is); (case g_MOST_THINGS => k_is); (case g_FIGURES => k_is); (case g_GONE => k_is)
    (case z_ValueError => k_is); (case z_bool => k_is); (case z_int => k_is); (case z_isinstance => k_is); (case z_len => k_is); (case z_list => k_is)
    (case z_max => k_is); (case z_min => k_is); (case z_range => k_is); (case z_str => k_is); (case z_tuple => k_is); (case aC_RoadError => k_is)
    (case kc_RoadError => k_is); (case ex_RoadError => k_is); (case ty_RoadError => k_is); (case hd_RoadError => k_is); (case aC_BadRoads => k_is); (case kc_BadRoads => k_is)
    (case ex_BadRoads => k_is); (case ty_BadRoads => k_is); (case hd_BadRoads => k_is); (case aC_BadReceiver => k_is); (case kc_BadReceiver => k_is); (case ex_BadReceiver => k_is)
    (case ty_BadReceiver => k_is); (case hd_BadReceiver => k_is); (case aC_BadRows => k_is); (case kc_BadRows => k_is); (case ex_BadRows => k_is); (case ty_BadRows => k_is)
    (case hd_BadRows => k_is); (case aC_BadMark => k_is); (case kc_BadMark => k_is); (case ex_BadMark => k_is); (case ty_BadMark => k_is); (case hd_BadMark => k_is)
    (case aC_BadText => k_is); (case kc_BadText => k_is); (case ex_BadText => k_is); (case ty_BadText => k_is); (case hd_BadText => k_is); (case xL_BadRows => k_is)
    (case rf_BadRows => rfl); (case st_BadRows => k_is); (case ai_BadRows => k_is); (case ti_BadRows => k_is); (case li_BadRows => k_is); (case ci_BadRows => k_is)
    (case ki_BadRows => k_is); (case nf_BadRows_road => k_is); (case nf_BadRows_at => k_is); (case nf_BadRows_row => k_is); (case xL_BadText => k_is); (case rf_BadText => rfl)
    (case st_BadText => k_is); (case ai_BadText => k_is); (case ti_BadText => k_is); (case li_BadText => k_is); (case ci_BadText => k_is); (case ki_BadText => k_is)
    (case nf_BadText_road => k_is); (case nf_BadText_at => k_is); (case nf_BadText_row => k_is); (case xg_BadText => first | k_is | k_exc | kernel_rfl); (case xk_BadText => first | k_is | k_exc | kernel_rfl); (case xa_BadText => first | k_is | k_exc | kernel_rfl)
    (case xn_BadText => first | k_is | k_exc | kernel_rfl); (case xt_BadText => first | k_is | k_exc | kernel_rfl); (case xm_BadText => first | k_is | k_exc | kernel_rfl); (case i_BadText_BadMark => first | k_is | k_exc | kernel_rfl); (case i_BadText_BadReceiver => first | k_is | k_exc | kernel_rfl); (case i_BadText_BadRoads => first | k_is | k_exc | kernel_rfl)
    (case i_BadText_BadRows => first | k_is | k_exc | kernel_rfl); (case i_BadText_BadText => first | k_is | k_exc | kernel_rfl); (case i_BadText_VE => first | k_is | k_exc | kernel_rfl); (case m_BadText => first | k_is | k_exc | kernel_rfl); (case xg_BadRows => first | k_is | k_exc | kernel_rfl); (case xk_BadRows => first | k_is | k_exc | kernel_rfl)
    (case xa_BadRows => first | k_is | k_exc | kernel_rfl); (case xn_BadRows => first | k_is | k_exc | kernel_rfl); (case xt_BadRows => first | k_is | k_exc | kernel_rfl); (case xm_BadRows => first | k_is | k_exc | kernel_rfl); (case i_BadRows_BadMark => first | k_is | k_exc | kernel_rfl); (case i_BadRows_BadReceiver => first | k_is | k_exc | kernel_rfl)
    (case i_BadRows_BadRoads => first | k_is | k_exc | kernel_rfl); (case i_BadRows_BadRows => first | k_is | k_exc | kernel_rfl); (case i_BadRows_BadText => first | k_is | k_exc | kernel_rfl); (case i_BadRows_VE => first | k_is | k_exc | kernel_rfl); (case m_BadRows => first | k_is | k_exc | kernel_rfl); (case oi1_RoadError => first | k_is | k_exc | kernel_rfl)
    (case oi2_RoadError => first | k_is | k_exc | kernel_rfl); (case oi3_RoadError => first | k_is | k_exc | kernel_rfl)
