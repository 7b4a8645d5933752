import PyProof.Rows.All
import Wide.All
import OpenK.AllK
import Wide.FinOn
import PyProof.EqAt
import PyProof.EqKinds
import PyProof.TupleCall
import HandS.ForMost
import HandS.IsInst
import HandS.Evl
import HandS.Codes
import PySem.Challenge.RW_twopaths_k11_written_and_read
set_option Elab.async false
set_option linter.all false
set_option maxRecDepth 100000
set_option maxHeartbeats 2000000
namespace Tp
open PySem L2
def top (i : Nat) : Stmt := PySem.Challenge.pw_twopaths_k11_written_and_read.main.body.getD i (.Pass ⟨0, 0, 0, 0⟩)
abbrev s_BadRoads_init : Stmt := inClass (top 2) 0
abbrev N_BadRoads_init : List Str := ["self", "number"]
abbrev P_BadRoads_init : List Str := ["self", "number"]
abbrev s_BadRows_init : Stmt := inClass (top 3) 0
abbrev N_BadRows_init : List Str := ["self", "road", "at"]
abbrev P_BadRows_init : List Str := ["self", "road", "at"]
abbrev s_BadText_init : Stmt := inClass (top 4) 0
abbrev N_BadText_init : List Str := ["self", "row", "at"]
abbrev P_BadText_init : List Str := ["self", "row", "at"]
abbrev s_need_roads : Stmt := top 8
abbrev N_need_roads : List Str := ["roads", "number", "least", "most"]
abbrev P_need_roads : List Str := ["roads"]
abbrev s_need_rows : Stmt := top 9
abbrev N_need_rows : List Str := ["roads", "rows", "road", "least", "most", "at", "late"]
abbrev P_need_rows : List Str := ["roads", "rows"]
abbrev s_sign_of : Stmt := top 13
abbrev N_sign_of : List Str := ["late"]
abbrev P_sign_of : List Str := ["late"]
abbrev s_written : Stmt := top 14
abbrev N_written : List Str := ["roads", "rows", "row", "late"]
abbrev P_written : List Str := ["roads", "rows"]
abbrev s_row_of : Stmt := top 15
abbrev N_row_of : List Str := ["text", "number", "found", "at"]
abbrev P_row_of : List Str := ["text", "number"]
abbrev s_read : Stmt := top 16
abbrev N_read : List Str := ["roads", "text", "lines", "found", "number"]
abbrev P_read : List Str := ["roads", "text"]
abbrev s_Ltaken : Stmt := top 18
abbrev N_Ltaken : List Str := ["_law_row", "_law_many", "_law_cell"]
abbrev P_Ltaken : List Str := ["_law_row", "_law_many"]
abbrev s_Lalike : Stmt := top 19
abbrev N_Lalike : List Str := ["_law_found", "_law_due", "_law_k"]
abbrev P_Lalike : List Str := ["_law_found", "_law_due"]
abbrev s_Lroads : Stmt := top 20
abbrev N_Lroads : List Str := ["_law_row", "_law_found", "_law_road", "_law_least"]
abbrev P_Lroads : List Str := ["_law_row"]
abbrev s_Llate : Stmt := top 21
abbrev N_Llate : List Str := ["_law_row", "_law_road", "_law_least", "_law_most"]
abbrev P_Llate : List Str := ["_law_row", "_law_road"]
abbrev s_Lrows : Stmt := top 22
abbrev N_Lrows : List Str := ["_law_row", "_law_roads_here", "_law_most", "_law_one", "_law_many", "_law_often", "_law_found", "_law_down", "_law_steady", "_law_loose", "_law_thing", "_law_lates", "_law_road", "_law_late_here"]
abbrev P_Lrows : List Str := ["_law_row", "_law_roads_here", "_law_most", "_law_one"]
abbrev s_Ltext : Stmt := top 23
abbrev N_Ltext : List Str := ["_law_rows_here", "_law_line", "_law_late_here"]
abbrev P_Ltext : List Str := ["_law_rows_here"]
abbrev s_law : Stmt := top 24
abbrev N_law : List Str := ["_law_script", "_law_row", "_law_some", "_law_k", "_law_roads_here", "_law_rows_here", "_law_text_here", "_law_found"]
abbrev P_law : List Str := ["_law_script"]
/-- where the top has put what the proofs name -/
structure Txt (K : PySem.W.Frag) (mg : Str → Option Value) where
  f_need_roads : Addr
  fd_need_roads : FuncData
  F_need_roads : Fun K "need_roads" "need_roads" s_need_roads f_need_roads fd_need_roads
  mg_need_roads : mg "need_roads" = some (.ref f_need_roads)
  kp_need_roads : PySem.W.keepIn K (.ref f_need_roads) = true
  b_need_roads : Binds K fd_need_roads P_need_roads []
  f_need_rows : Addr
  fd_need_rows : FuncData
  F_need_rows : Fun K "need_rows" "need_rows" s_need_rows f_need_rows fd_need_rows
  mg_need_rows : mg "need_rows" = some (.ref f_need_rows)
  kp_need_rows : PySem.W.keepIn K (.ref f_need_rows) = true
  b_need_rows : Binds K fd_need_rows P_need_rows []
  f_sign_of : Addr
  fd_sign_of : FuncData
  F_sign_of : Fun K "sign_of" "sign_of" s_sign_of f_sign_of fd_sign_of
  mg_sign_of : mg "sign_of" = some (.ref f_sign_of)
  kp_sign_of : PySem.W.keepIn K (.ref f_sign_of) = true
  b_sign_of : Binds K fd_sign_of P_sign_of []
  f_written : Addr
  fd_written : FuncData
  F_written : Fun K "written" "written" s_written f_written fd_written
  mg_written : mg "written" = some (.ref f_written)
  kp_written : PySem.W.keepIn K (.ref f_written) = true
  b_written : Binds K fd_written P_written []
  f_row_of : Addr
  fd_row_of : FuncData
  F_row_of : Fun K "row_of" "row_of" s_row_of f_row_of fd_row_of
  mg_row_of : mg "row_of" = some (.ref f_row_of)
  kp_row_of : PySem.W.keepIn K (.ref f_row_of) = true
  b_row_of : Binds K fd_row_of P_row_of []
  f_read : Addr
  fd_read : FuncData
  F_read : Fun K "read" "read" s_read f_read fd_read
  mg_read : mg "read" = some (.ref f_read)
  kp_read : PySem.W.keepIn K (.ref f_read) = true
  b_read : Binds K fd_read P_read []
  f_Ltaken : Addr
  fd_Ltaken : FuncData
  F_Ltaken : Fun K "_law_taken" "_law_taken" s_Ltaken f_Ltaken fd_Ltaken
  mg_Ltaken : mg "_law_taken" = some (.ref f_Ltaken)
  kp_Ltaken : PySem.W.keepIn K (.ref f_Ltaken) = true
  b_Ltaken : Binds K fd_Ltaken P_Ltaken []
  f_Lalike : Addr
  fd_Lalike : FuncData
  F_Lalike : Fun K "_law_alike" "_law_alike" s_Lalike f_Lalike fd_Lalike
  mg_Lalike : mg "_law_alike" = some (.ref f_Lalike)
  kp_Lalike : PySem.W.keepIn K (.ref f_Lalike) = true
  b_Lalike : Binds K fd_Lalike P_Lalike []
  f_Lroads : Addr
  fd_Lroads : FuncData
  F_Lroads : Fun K "_law_roads" "_law_roads" s_Lroads f_Lroads fd_Lroads
  mg_Lroads : mg "_law_roads" = some (.ref f_Lroads)
  kp_Lroads : PySem.W.keepIn K (.ref f_Lroads) = true
  b_Lroads : Binds K fd_Lroads P_Lroads []
  f_Llate : Addr
  fd_Llate : FuncData
  F_Llate : Fun K "_law_late" "_law_late" s_Llate f_Llate fd_Llate
  mg_Llate : mg "_law_late" = some (.ref f_Llate)
  kp_Llate : PySem.W.keepIn K (.ref f_Llate) = true
  b_Llate : Binds K fd_Llate P_Llate []
  f_Lrows : Addr
  fd_Lrows : FuncData
  F_Lrows : Fun K "_law_rows" "_law_rows" s_Lrows f_Lrows fd_Lrows
  mg_Lrows : mg "_law_rows" = some (.ref f_Lrows)
  kp_Lrows : PySem.W.keepIn K (.ref f_Lrows) = true
  b_Lrows : Binds K fd_Lrows P_Lrows []
  f_Ltext : Addr
  fd_Ltext : FuncData
  F_Ltext : Fun K "_law_text" "_law_text" s_Ltext f_Ltext fd_Ltext
  mg_Ltext : mg "_law_text" = some (.ref f_Ltext)
  kp_Ltext : PySem.W.keepIn K (.ref f_Ltext) = true
  b_Ltext : Binds K fd_Ltext P_Ltext []
  f_law : Addr
  fd_law : FuncData
  F_law : Fun K "law" "law" s_law f_law fd_law
  mg_law : mg "law" = some (.ref f_law)
  kp_law : PySem.W.keepIn K (.ref f_law) = true
  b_law : Binds K fd_law P_law []
  u_MOST_LATE : Value
  mg_MOST_LATE : mg "MOST_LATE" = some u_MOST_LATE
  rv_MOST_LATE : RelV (.int 9) u_MOST_LATE
  u_MOST_THINGS : Value
  mg_MOST_THINGS : mg "MOST_THINGS" = some u_MOST_THINGS
  rv_MOST_THINGS : RelV (.int 80) u_MOST_THINGS
  u_FIGURES : Value
  mg_FIGURES : mg "FIGURES" = some u_FIGURES
  rv_FIGURES : RelV (.str "0123456789") u_FIGURES
  u_GONE : Value
  mg_GONE : mg "GONE" = some u_GONE
  rv_GONE : RelV (.str "-") u_GONE
  z_ValueError : mg "ValueError" = none
  z_bool : mg "bool" = none
  z_int : mg "int" = none
  z_isinstance : mg "isinstance" = none
  z_len : mg "len" = none
  z_list : mg "list" = none
  z_max : mg "max" = none
  z_min : mg "min" = none
  z_range : mg "range" = none
  z_str : mg "str" = none
  z_tuple : mg "tuple" = none
section
variable {P : Program} {w : World} {K : PySem.W.Frag} {mg : Str → Option Value} {base : Heap}
theorem sc_need_roads : FnScope N_need_roads P_need_roads (defScope s_need_roads) := ⟨rfl, rfl, rfl, by decide +kernel, rfl, by decide +kernel, by decide +kernel⟩
theorem sc_need_rows : FnScope N_need_rows P_need_rows (defScope s_need_rows) := ⟨rfl, rfl, rfl, by decide +kernel, rfl, by decide +kernel, by decide +kernel⟩
theorem sc_sign_of : FnScope N_sign_of P_sign_of (defScope s_sign_of) := ⟨rfl, rfl, rfl, by decide +kernel, rfl, by decide +kernel, by decide +kernel⟩
theorem sc_written : FnScope N_written P_written (defScope s_written) := ⟨rfl, rfl, rfl, by decide +kernel, rfl, by decide +kernel, by decide +kernel⟩
theorem sc_row_of : FnScope N_row_of P_row_of (defScope s_row_of) := ⟨rfl, rfl, rfl, by decide +kernel, rfl, by decide +kernel, by decide +kernel⟩
theorem sc_read : FnScope N_read P_read (defScope s_read) := ⟨rfl, rfl, rfl, by decide +kernel, rfl, by decide +kernel, by decide +kernel⟩
theorem sc_Ltaken : FnScope N_Ltaken P_Ltaken (defScope s_Ltaken) := ⟨rfl, rfl, rfl, by decide +kernel, rfl, by decide +kernel, by decide +kernel⟩
theorem sc_Lalike : FnScope N_Lalike P_Lalike (defScope s_Lalike) := ⟨rfl, rfl, rfl, by decide +kernel, rfl, by decide +kernel, by decide +kernel⟩
theorem sc_Lroads : FnScope N_Lroads P_Lroads (defScope s_Lroads) := ⟨rfl, rfl, rfl, by decide +kernel, rfl, by decide +kernel, by decide +kernel⟩
theorem sc_Llate : FnScope N_Llate P_Llate (defScope s_Llate) := ⟨rfl, rfl, rfl, by decide +kernel, rfl, by decide +kernel, by decide +kernel⟩
theorem sc_Lrows : FnScope N_Lrows P_Lrows (defScope s_Lrows) := ⟨rfl, rfl, rfl, by decide +kernel, rfl, by decide +kernel, by decide +kernel⟩
theorem sc_Ltext : FnScope N_Ltext P_Ltext (defScope s_Ltext) := ⟨rfl, rfl, rfl, by decide +kernel, rfl, by decide +kernel, by decide +kernel⟩
theorem sc_law : FnScope N_law P_law (defScope s_law) := ⟨rfl, rfl, rfl, by decide +kernel, rfl, by decide +kernel, by decide +kernel⟩
end
/-! ### heaps: what is kept but for one place -/
/-- all but r stands -/
def Kp (r : Addr) (H H' : Hp) : Prop := ∀ b o, b ≠ r → H b = some o → H' b = some o
theorem Kp.refl (r : Addr) (H : Hp) : Kp r H H := fun _ _ _ h => h
theorem Kp.trans {r : Addr} {H H1 H2 : Hp} (a : Kp r H H1) (b : Kp r H1 H2) : Kp r H H2 := fun c o n h => b c o n (a c o n h)
theorem Kp.of {r : Addr} {H H' : Hp} (s : Same H H') : Kp r H H' := fun c o _ h => s c o h
theorem Kp.put {r : Addr} {H H' : Hp} {o : HO} (a : Kp r H H') : Kp r H (upd H' r o) := fun c u n h => by
  rw [upd_ne n]; exact a c u n h
theorem Kp.new {r : Addr} {H H' : Hp} {p : Addr} {o : HO} (a : Kp r H H') (hp : H' p = none) : Kp r H (upd H' p o) := fun c u n h => by
  have h1 := a c u n h
  rw [upd_ne (ne_of_none h1 hp)]; exact h1
theorem _root_.L2.Same.new {H H' : Hp} {p : Addr} {o : HO} (a : Same H H') (hp : H' p = none) : Same H (upd H' p o) := fun c u h => by
  have h1 := a c u h
  rw [upd_ne (ne_of_none h1 hp)]; exact h1
/-- a change at a place that was free at the start -/
theorem _root_.L2.Same.mut {H H' : Hp} {p : Addr} {o : HO} (a : Same H H') (hp : H p = none) : Same H (upd H' p o) := fun c u h => by
  rw [upd_ne (ne_of_none h hp)]; exact a c u h
theorem Kp.mut {r : Addr} {H H' : Hp} {p : Addr} {o : HO} (a : Kp r H H') (hp : H p = none) : Kp r H (upd H' p o) := fun c u n h => by
  rw [upd_ne (ne_of_none h hp)]; exact a c u n h
theorem _root_.L2.Same.upd_new {H : Hp} {p : Addr} {o : HO} (hp : H p = none) : Same H (upd H p o) := (Same.refl H).new hp
theorem Kp.free {r : Addr} {H H' : Hp} {x : Addr} (k : Kp r H H') (n : x ≠ r) (h : H' x = none) : H x = none := by
  cases e : H x with
  | none => rfl
  | some o =>
    rw [k x o n e] at h; cases h
theorem Kp.rd {r : Addr} {H H' : Hp} {a : Addr} {u : HO} (k : Kp r H H') (n : a ≠ r) (h : Rd H a u) : Rd H' a u := by
  rcases h with h | ⟨o, h⟩
  · exact .inl (k _ _ n h)
  · exact .inr ⟨o, k _ _ n h⟩
theorem Kp.sql {K : PySem.W.Frag} {r : Addr} {H H' : Hp} {a : Addr} {xs : List V} (k : Kp r H H') (n : a ≠ r) (h : SqL K H a xs) : SqL K H' a xs := by
  rcases h with h | h
  · exact .inl (k.rd n h)
  · exact .inr h
theorem Kp.sqt {K : PySem.W.Frag} {r : Addr} {H H' : Hp} {a : Addr} {xs ys : List V} (k : Kp r H H') (hr : H r = some (.lst ys)) (h : SqT K H a xs) : SqT K H' a xs := by
  rcases h with (h | ⟨o, h⟩) | h
  · exact .inl (.inl (k _ _ (fun z => by rw [z, hr] at h; cases h) h))
  · exact .inl (.inr ⟨o, k _ _ (fun z => by rw [z, hr] at h; cases h) h⟩)
  · exact .inr h
theorem _root_.L2.Same.sqt {K : PySem.W.Frag} {H H' : Hp} {a : Addr} {xs : List V} (e : Same H H') (h : SqT K H a xs) : SqT K H' a xs := by
  rcases h with (h | ⟨o, h⟩) | h
  · exact .inl (.inl (e _ _ h))
  · exact .inl (.inr ⟨o, e _ _ h⟩)
  · exact .inr h
theorem _root_.L2.Same.mx {H H1 H2 : Hp} (a : Same H H1) (b : Same H1 H2) : Same H H2 := a.trans b
theorem at0 {α : Type} {x : α} {l : List α} : atI (x :: l) 0 = some x := atI_nat (j := 0) rfl
theorem at1 {α : Type} {x y : α} {l : List α} : atI (x :: y :: l) 1 = some y := atI_nat (j := 1) rfl
theorem at2 {α : Type} {x y z : α} {l : List α} : atI (x :: y :: z :: l) 2 = some z := atI_nat (j := 2) rfl
theorem ixN_of {n : Nat} {i : Int} {j : Nat} (e : i = (j : Int)) (h : j < n) : ixN n i = some j := by
  subst e
  unfold ixN
  rw [if_pos (by omega), if_pos (by omega)]; simp
/-- ints by their place -/
theorem at_ints {ns : List Int} {i : Int} (h0 : 0 ≤ i) (h1 : i < ns.length) : ∃ z, atI (ns.map V.int) i = some (.int z) := by
  obtain ⟨j, rfl⟩ := Int.eq_ofNat_of_zero_le h0
  have hj : j < ns.length := by omega
  exact ⟨ns[j], atI_nat (by rw [List.getElem?_map, List.getElem?_eq_getElem hj]; rfl)⟩

/-! ### the row of a law: [script, place, mix]; the script is locked or stands in the written part -/
def Scr (K : PySem.W.Frag) (H : Hp) (a : Addr) (ns : List Int) : Prop := (∃ o, H a = some (.frz o (.lst (ns.map V.int)))) ∨ ∀ H', SqL K H' a (ns.map V.int)
theorem Scr.sql {K : PySem.W.Frag} {H : Hp} {a : Addr} {ns : List Int} (h : Scr K H a ns) : SqL K H a (ns.map V.int) := by
  rcases h with ⟨o, h⟩ | h
  · exact .inl (.inr ⟨o, h⟩)
  · exact h H
theorem Scr.move {K : PySem.W.Frag} {H H' : Hp} {a : Addr} {ns : List Int} (h : Scr K H a ns) (k : ∀ b o u, H b = some (.frz o u) → H' b = some (.frz o u)) : Scr K H' a ns := by
  rcases h with ⟨o, h⟩ | h
  · exact .inl ⟨o, k _ _ _ h⟩
  · exact .inr h
theorem Scr.of {K : PySem.W.Frag} {H : Hp} {a : Addr} {ns : List Int} (O : L2.Only H) (h : SqL K H a (ns.map V.int)) : Scr K H a ns := by
  rcases h with (h | ⟨o, h⟩) | h
  · rcases O a with z | ⟨o, xs, z⟩ <;> (rw [h] at z; cases z)
  · exact .inl ⟨o, h⟩
  · exact .inr fun _ => .inr h
structure RowAt (K : PySem.W.Frag) (r : Addr) (H : Hp) : Prop where
  ex : ∃ (a : Addr) (i m : Int) (ns : List Int), H r = some (.lst [.ref a, .int i, .int m]) ∧ Scr K H a ns ∧ 0 ≤ i ∧ 0 ≤ m ∧ m < 2147483647
theorem RowAt.lst {K : PySem.W.Frag} {r : Addr} {H : Hp} (h : RowAt K r H) : ∃ xs, H r = some (.lst xs) := by
  obtain ⟨a, i, m, ns, h, _⟩ := h.ex
  exact ⟨_, h⟩
theorem RowAt.move {K : PySem.W.Frag} {r : Addr} {H H' : Hp} (h : RowAt K r H) (e : ∀ o, H r = some o → H' r = some o) (k : ∀ b o u, H b = some (.frz o u) → H' b = some (.frz o u)) : RowAt K r H' := by
  obtain ⟨a, i, m, ns, h, q, z⟩ := h.ex
  exact ⟨a, i, m, ns, e _ h, q.move k, z⟩
theorem RowAt.same {K : PySem.W.Frag} {r : Addr} {H H' : Hp} (h : RowAt K r H) (s : Same H H') : RowAt K r H' := h.move (fun o e => s _ _ e) fun b o u e => s _ _ e
theorem RowAt.new {K : PySem.W.Frag} {r : Addr} {H : Hp} {p : Addr} {o : HO} (h : RowAt K r H) (hp : H p = none) : RowAt K r (upd H p o) := h.same (Same.upd_new hp)
/-- a change of a list beside the row -/
theorem RowAt.put {K : PySem.W.Frag} {r : Addr} {H : Hp} {p : Addr} {xs : List V} {o : HO} (h : RowAt K r H) (n : p ≠ r) (hp : H p = some (.lst xs)) : RowAt K r (upd H p o) :=
  h.move (fun u e => by rw [upd_ne n.symm]; exact e) fun b o u e => by
    rw [upd_ne (fun z => by rw [z, hp] at e; cases e)]
    exact e
/-- a new place is not the row's -/
theorem RowAt.ne {K : PySem.W.Frag} {r : Addr} {H : Hp} {p : Addr} (h : RowAt K r H) (hp : H p = none) : p ≠ r := by
  obtain ⟨xs, e⟩ := h.lst
  exact (ne_of_none e hp).symm
theorem RowAt.start {K : PySem.W.Frag} {H : Hp} {a r : Addr} {ns : List Int} (h : Scr K H a ns) (hr : H r = none) : RowAt K r (upd H r (.lst [.ref a, .int 0, .int 0])) :=
  ⟨a, 0, 0, ns, upd_same, h.move (fun b o u e => by rw [upd_ne (ne_of_none e hr)]; exact e), by decide, by decide, by decide⟩
/-- the law's own promise: True -/
def spLaw (K : PySem.W.Frag) : Sp := fun vs H Q _ => ∃ (a : Addr) (ns : List Int), vs = [.ref a] ∧ Scr K H a ns ∧ ∀ H', Q (.bl true) H'
/-! ### within a comprehension the written part is the def's own -/
section
variable {X : Cx} {K : PySem.W.Frag}
theorem ixK_list (h : X.K = K) : IxR X (rIxL K) := h ▸ ix_list
theorem ixK_tup (h : X.K = K) : IxR X (rIxT K) := h ▸ ix_tup
theorem ixK_seq (h : X.K = K) : IxR X (rIx K) := h ▸ ix_seq
theorem lenK (h : X.K = K) : CallR X (.builtin "len") (fun xs H Q => ∃ p ys, xs = [.ref p] ∧ (SqL K H p ys ∨ SqT K H p ys) ∧ Q (.int ys.length) H) := h ▸ call_len_seq
theorem eqDK (h : X.K = K) (hu : X.A.units + 64 < cLine) : OpR X (compareOp .Eq) (rEqD K) := h ▸ op_eqD hu
theorem neDK (h : X.K = K) (hu : X.A.units + 64 < cLine) : OpR X (compareOp .NotEq) (rNeD K) := h ▸ op_neD hu
theorem inK (h : X.K = K) : OpR X (compareOp .In) (rIn K false) := h ▸ op_in_seq
theorem notInK (h : X.K = K) : OpR X (compareOp .NotIn) (rIn K true) := h ▸ op_notIn_seq
theorem piK_list {tg l : Expr} {tl : TE} (h : X.K = K) (hl : PE X l tl) : PI X tg l (iList K tl) := h ▸ pi_list hl
theorem piK_tup {tg l : Expr} {tl : TE} (h : X.K = K) (hl : PE X l tl) : PI X tg l (iTup K tl) := h ▸ pi_tup hl
theorem isiK (h : X.K = K) : CallR X (.builtin "isinstance") (rIsi K) := h ▸ call_isi
theorem isiTK (h : X.K = K) : CallR X (.builtin "isinstance") (rIsiT K) := h ▸ call_isiT
theorem pgK_tup {pos : Pos} {es : List Expr} {k : Nat} {t : TGs} {n : Nat} (h : X.K = K) (hc : X.calm = true) (hp : PGs X es t)
    (hn : (assignEach es X.env).length = n := by rfl) (hst : (assignEach es X.env).findIdx? (·.1) = none := by rfl) : PG X (.Tuple es k pos) (gTup K n t) := h ▸ pg_tup hc hp hn hst
end
section
variable {X : Cx} {K : PySem.W.Frag} {o e : Expr} {to te : TE}
/-- sep.join(a list or tuple of texts) -/
def tJoin (K : PySem.W.Frag) (to te : TE) : TE := tM1 (fun x xs H Q => ∃ a p, ∃ ys : List Str, x = .str a ∧ xs = [.ref p] ∧ (SqL K H p (ys.map V.str) ∨ SqT K H p (ys.map V.str)) ∧
      (ys.map (·.length)).sum + ys.length * a.length ≤ 16777216 ∧ Q (.str (Txt.join a ys)) H) to te
theorem joinK {apos pos : Pos} (h : X.K = K) (ho : PE X o to) (he : PE X e te) (hs : starEach [e] X.env = [(false, eval e X.env)] := by rfl) (hbase : attributeBase o "join" X.env (eval o X.env) = eval o X.env := by rfl) (hline : (apos.endLine == pos.line) = true := by rfl) :
    PE X (.Call (.Attribute o "join" apos) [e] [] pos) (tJoin K to te) := h ▸ pe_join ho he hs hbase hline
end
/-! ### three comparisons in one -/
section
open PyProof.Rows
variable {X : Cx} {a b c d : Expr} {ta tb tc td : TE} {pos : Pos}
def tChain3 (r r' r'' : R2) (ta tb tc td : TE) : TE := fun σ H Q => ta σ H fun x H1 => tb σ H1 fun y H2 => r x y H2 fun z H3 => ∃ k, z = .bl k ∧
  (if k = true then tc σ H3 fun w' H4 => r' y w' H4 fun z2 H5 => ∃ k2, z2 = .bl k2 ∧ (if k2 = true then td σ H5 fun v' H6 => r'' w' v' H6 Q else Q (.bl false) H5) else Q (.bl false) H3)
theorem pt_chain3 {op op' op'' : CmpOp} {r r' r'' : R2} (ho : OpR X (compareOp op) r) (ho' : OpR X (compareOp op') r') (ho'' : OpR X (compareOp op'') r'') (ha : PE X a ta) (hb : PE X b tb) (hc : PE X c tc) (hd : PE X d td)
    (hm : lastMarks [op, op', op''] [b, c, d] = false := by with_unfolding_all rfl) : PT X (.Compare a [op, op', op''] [b, c, d] pos) (tTest (tChain3 r r' r'' ta tb tc td)) := by
  refine ⟨fun pins s σ H Q I h => ?_⟩
  refine isTrue_chain (thn (ha.run pins s σ H _ I h) fun v s1 ⟨x, H1, I1, r1, q1⟩ => test_link (thn (hb.run pins s1 σ H1 _ I1 q1) fun u s2 ⟨y, H2, I2, r2, q2⟩ =>
    thn (ho pins s2 σ H2 x y v u _ I2 r1 r2 q2) fun d0 s3 ⟨z, H3, I3, r3, k, e, q3⟩ => ?_)) hm
  subst e
  cases r3
  refine wpAny_truthy_bool ?_
  cases k with
  | false =>
    obtain ⟨k', e', q'⟩ := q3
    cases e'
    exact ite_ff ⟨H3, I3, q'⟩
  | true =>
    refine ite_tt (test_link (thn (hc.run pins s3 σ H3 _ I3 q3) fun w' s4 ⟨z', H4, I4, r4, q4⟩ => thn (ho' pins s4 σ H4 y z' u w' _ I4 r2 r4 q4) fun d' s5 ⟨z2, H5, I5, r5, k2, e2, q5⟩ => ?_))
    subst e2
    cases r5
    refine wpAny_truthy_bool ?_
    cases k2 with
    | false =>
      obtain ⟨k', e', q'⟩ := q5
      cases e'
      exact ite_ff ⟨H5, I5, q'⟩
    | true =>
      refine ite_tt (test_last (thn (hd.run pins s5 σ H5 _ I5 q5) fun w2 s6 ⟨z3, H6, I6, r6, q6⟩ => thn (ho'' pins s6 σ H6 z' z3 w' w2 _ I6 r4 r6 q6) fun d2 s7 ⟨z4, H7, I7, r7, k4, e4, q7⟩ => ?_))
      subst e4
      cases r7
      exact wpAny_truthy_bool ⟨H7, I7, q7⟩
end
theorem iteD {c A B : Prop} [Decidable c] (hc : c) (h : A) : if decide c = true then A else B := by
  rw [decide_eq_true hc]
  exact iteT h
theorem iteND {c A B : Prop} [Decidable c] (hc : ¬ c) (h : B) : if decide c = true then A else B := by
  rw [decide_eq_false hc]
  exact iteF h
theorem lc_yes {σ : L2.St} {H : Hp} {A B : Hp → Prop} (h : A H) : tYes σ H fun b H3 => if b = true then A H3 else B H3 := by
  show if true = true then A H else B H
  rw [if_pos rfl]
  exact h
theorem iteNN {c A B : Prop} [Decidable c] (hc : ¬ c) (h : A) : if (!decide c) = true then A else B := by
  rw [decide_eq_false hc]
  exact iteT h
/-! ### _law_taken: some number of 0 .. many - 1; the row turns -/
def spTaken (K : PySem.W.Frag) : Sp := fun vs H Q _ => ∃ (r : Addr) (n : Int), vs = [.ref r, .int n] ∧ 0 < n ∧ RowAt K r H ∧
  ∀ (v : Int) (H' : Hp), 0 ≤ v → v < n → RowAt K r H' → Kp r H H' → Q (.int v) H'
section
variable {P : Program} {w : World} {K : PySem.W.Frag} {mg : Str → Option Value} {base : Heap}
theorem ok_Ltaken (T : Txt K mg) : FnOk P w K mg base CX0 1 T.f_Ltaken T.fd_Ltaken P_Ltaken (spTaken K) := by
  refine T.F_Ltaken.ok sc_Ltaken (fun vs H Q E h => ?_) (fun cdv A outer s H vs Q E hr h => ?_)
  · obtain ⟨r, n, rfl, _⟩ := h
    rfl
  · obtain ⟨r, n, rfl, hn, ⟨a, i, m, ns, hrow, hScr, hi, hm0, hm⟩, k⟩ := h
    have hS := hScr.sql
    refine ⟨_, ((pss_cons (ps_asg (pe_op op_add (pe_ix ix_list (pv 0) pe_int (fun _ _ => rfl)) pe_int) (pg_sub (pv 0) pe_int set_list))
  (pss_cons (ps_if (pt_cmpR op_gt (pe_ix ix_list (pv 0) pe_int (fun _ _ => rfl)) (pe_callB call_len_seq (by rfl) T.z_len (by decide +kernel) (pa_cons (pe_ix ix_list (pv 0) pe_int (fun _ _ => rfl)) pa_nil)) (nomark _)) (pss_cons (ps_asg (pe_op op_mod (pe_op op_add (pe_op op_mul (pe_ix ix_list (pv 0) pe_int (fun _ _ => rfl)) pe_int) pe_int) pe_int) (pg_sub (pv 0) pe_int set_list))
  (pss_one (ps_ret (pe_op op_mod (pe_op op_fdiv (pe_ix ix_list (pv 0) pe_int (fun _ _ => rfl)) pe_int) (pv 1))))) pss_nil)
  (pss_cons (ps_set (i := 2) sc_Ltaken.nd rfl (Or.inl rfl) (pe_ix ix_list (pe_ix ix_list (pv 0) pe_int (fun _ _ => rfl)) (pe_op op_sub (pe_ix ix_list (pv 0) pe_int (fun _ _ => rfl)) pe_int) (fun _ _ => rfl)))
  (pss_cons (ps_asg (pe_op op_mod (pe_op op_add (pe_op op_add (pe_op op_mul (pe_ix ix_list (pv 0) pe_int (fun _ _ => rfl)) pe_int) (pv 2)) pe_int) pe_int) (pg_sub (pv 0) pe_int set_list))
  (pss_one (ps_ret (pe_op op_mod (pv 2) (pv 1))))))))), ?_⟩
    have key : ∀ (j m' : Int), 0 ≤ j → 0 ≤ m' → m' < 2147483647 → ∀ v, 0 ≤ v → v < n → ∀ H', H' r = some (.lst [.ref a, .int j, .int m']) → Kp r H H' → Q (.int v) H' :=
      fun j m' hj h0 h1 v v0 v1 H' e kp => k v H' v0 v1 ⟨a, j, m', ns, e, hScr.move fun b o u eb => kp _ _ (fun z => by rw [z, hrow] at eb; cases eb) eb, hj, h0, h1⟩ kp
    -- row[1] = row[1] + 1
    refine ⟨_, rfl, r, _, _, _, rfl, rfl, SqL.of hrow, at1, _, _, rfl, rfl, _, rfl, r, _, _, 1, rfl, rfl, hrow, rfl, ?_⟩
    generalize hH1 : upd H r _ = H1
    have k1 : Kp r H H1 := by rw [← hH1]; exact (Kp.refl r H).put
    have r1 : H1 r = some (.lst [.ref a, .int (i + 1), .int m]) := by rw [← hH1]; exact upd_same
    have s1 := (hScr.move (fun b o u eb => k1 _ _ (fun z => by rw [z, hrow] at eb; cases eb) eb)).sql
    -- if row[1] > len(row[0])
    refine ⟨_, rfl, r, _, _, _, rfl, rfl, SqL.of r1, at1, _, rfl, r, _, _, _, rfl, rfl, SqL.of r1, at0, a, _, rfl, .inl s1, _, _, rfl, rfl, _, rfl, ?_⟩
    rw [List.length_map]
    refine ite2 (fun hc => ?_) (fun hc => ?_)
    · refine ⟨_, rfl, r, _, _, _, rfl, rfl, SqL.of r1, at2, _, _, rfl, rfl, .inl ⟨by omega, by omega⟩, _, _, rfl, rfl, _, _, rfl, rfl, (by show (0 : Int) < 2147483647; decide), _, rfl, r, _, _, 2, rfl, rfl, r1, rfl, ?_⟩
      refine ⟨_, rfl, r, _, _, _, rfl, rfl, SqL.of upd_same, at2, _, _, rfl, rfl, ⟨by decide, by decide⟩, _, rfl, _, _, rfl, rfl, hn, ?_⟩
      refine key (i + 1) ((m * 48271 + 11) % 2147483647) (by omega) (Int.emod_nonneg _ (by decide)) (Int.emod_lt_of_pos _ (by decide)) _ (Int.emod_nonneg _ (by omega)) (Int.emod_lt_of_pos _ hn) _ upd_same k1.put
    · have hc' : ¬ (i + 1 > (ns.length : Int)) := fun z => hc (decide_eq_true z)
      obtain ⟨z, hz⟩ := at_ints (ns := ns) (i := i + 1 - 1) (by omega) (by omega)
      refine ⟨_, rfl, r, _, _, _, rfl, rfl, SqL.of r1, at0, _, rfl, r, _, _, _, rfl, rfl, SqL.of r1, at1, _, _, rfl, rfl, a, _, _, _, rfl, rfl, s1, hz, ?_⟩
      refine ⟨_, rfl, r, _, _, _, rfl, rfl, SqL.of r1, at2, _, _, rfl, rfl, .inl ⟨by omega, by omega⟩, _, rfl, _, _, rfl, rfl, _, _, rfl, rfl, _, _, rfl, rfl, (by show (0 : Int) < 2147483647; decide), _, rfl, r, _, _, 2, rfl, rfl, r1, rfl, ?_⟩
      refine ⟨_, rfl, _, rfl, _, _, rfl, rfl, hn, ?_⟩
      exact key (i + 1) ((m * 48271 + z + 11) % 2147483647) (by omega) (Int.emod_nonneg _ (by decide)) (Int.emod_lt_of_pos _ (by decide)) _ (Int.emod_nonneg _ (by omega)) (Int.emod_lt_of_pos _ hn) _ upd_same k1.put
end
/-! ### roads, rows -/
structure Rds where
  l0 : Int
  m0 : Int
  l1 : Int
  m1 : Int
def Rds.Ok (R : Rds) : Prop := (0 ≤ R.l0 ∧ R.l0 ≤ R.m0 ∧ R.m0 ≤ 9) ∧ (0 ≤ R.l1 ∧ R.l1 ≤ R.m1 ∧ R.m1 ≤ 9)
def RoadsAt (H : Hp) (p : Addr) (R : Rds) : Prop := ∃ t0 t1 : Addr, H p = some (.tup [.ref t0, .ref t1]) ∧ H t0 = some (.tup [.int R.l0, .int R.m0]) ∧ H t1 = some (.tup [.int R.l1, .int R.m1])
theorem RoadsAt.same {H H' : Hp} {p : Addr} {R : Rds} (s : Same H H') (h : RoadsAt H p R) : RoadsAt H' p R := by
  obtain ⟨t0, t1, h1, h2, h3⟩ := h
  exact ⟨t0, t1, s _ _ h1, s _ _ h2, s _ _ h3⟩
theorem tup_ne {H : Hp} {a b : Addr} {xs ys : List V} (ha : H a = some (.tup xs)) (hb : H b = some (.lst ys)) : a ≠ b := fun z => by
  rw [z, hb] at ha; cases ha
theorem Kp.tup {K : PySem.W.Frag} {r : Addr} {H H' : Hp} {a : Addr} {xs : List V} (k : Kp r H H') (w : RowAt K r H) (h : H a = some (.tup xs)) : H' a = some (.tup xs) := by
  obtain ⟨ys, hr⟩ := w.lst
  exact k _ _ (tup_ne h hr) h
theorem Kp.roads {K : PySem.W.Frag} {r : Addr} {H H' : Hp} {p : Addr} {R : Rds} (k : Kp r H H') (w : RowAt K r H) (h : RoadsAt H p R) : RoadsAt H' p R := by
  obtain ⟨t0, t1, h1, h2, h3⟩ := h
  exact ⟨t0, t1, k.tup w h1, k.tup w h2, k.tup w h3⟩
/-- a lateness or None -/
abbrev Lt := Option Int
def oV : Lt → V
  | none => .non
  | some i => .int i
structure RowsAt (H : Hp) (q a b : Addr) (R0 R1 : List Lt) : Prop where
  hq : H q = some (.tup [.ref a, .ref b])
  ha : H a = some (.lst (R0.map oV))
  hb : H b = some (.lst (R1.map oV))
  ne : a ≠ b
theorem RowsAt.same {H H' : Hp} {q a b : Addr} {R0 R1 : List Lt} (s : Same H H') (h : RowsAt H q a b R0 R1) : RowsAt H' q a b R0 R1 := ⟨s _ _ h.hq, s _ _ h.ha, s _ _ h.hb, h.ne⟩
theorem Kp.rows {K : PySem.W.Frag} {r : Addr} {H H' : Hp} {q a b : Addr} {R0 R1 : List Lt} (k : Kp r H H') (w : RowAt K r H) (na : a ≠ r) (nb : b ≠ r) (h : RowsAt H q a b R0 R1) : RowsAt H' q a b R0 R1 :=
  ⟨k.tup w h.hq, k _ _ na h.ha, k _ _ nb h.hb, h.ne⟩
/-- each lateness within a road's -/
def Fits (l m : Int) (R : List Lt) : Prop := ∀ x ∈ R, ∀ v, x = some v → l ≤ v ∧ v ≤ m
theorem Fits.nil {l m : Int} : Fits l m [] := fun _ h => absurd h (List.not_mem_nil)
theorem Fits.snoc {l m : Int} {R : List Lt} {x : Lt} (h : Fits l m R) (hx : ∀ v, x = some v → l ≤ v ∧ v ≤ m) : Fits l m (R ++ [x]) := fun y hy => by
  rcases List.mem_append.mp hy with hy | hy
  · exact h y hy
  · rw [List.mem_singleton.mp hy]; exact hx
/-- ints of a written list, the place within -/
theorem at_menu {ns : List Int} {i : Int} (h0 : 0 ≤ i) (h1 : i < ns.length) : ∃ z ∈ ns, atI (ns.map V.int) i = some (.int z) := by
  obtain ⟨j, rfl⟩ := Int.eq_ofNat_of_zero_le h0
  have hj : j < ns.length := by omega
  exact ⟨ns[j], List.getElem_mem hj, atI_nat (by rw [List.getElem?_map, List.getElem?_eq_getElem hj]; rfl)⟩
theorem sz1000 {n : Nat} (h : n ≤ 1000) : n ≤ sizeLine := Nat.le_of_lt (small1000 h)
theorem len2 {α : Type} : ∀ {l : List α}, l.length = 2 → ∃ a b, l = [a, b]
  | [a, b], _ => ⟨a, b, rfl⟩
/-- a lateness as data -/
def oD : Lt → PyData
  | none => .none
  | some i => .int i
theorem dp_o {K : PySem.W.Frag} {H : Hp} : ∀ x : Lt, Dp K H (oV x) (oD x)
  | none => .non
  | some i => .int i
theorem dp_all {K : PySem.W.Frag} {H : Hp} : ∀ xs : List Lt, DpAll K H (xs.map oV) (xs.map oD)
  | [] => .nil
  | x :: xs => .cons (dp_o x) (dp_all xs)
/-- the road at place j -/
def Rds.lo (R : Rds) (j : Nat) : Int := if j = 0 then R.l0 else R.l1
def Rds.hi (R : Rds) (j : Nat) : Int := if j = 0 then R.m0 else R.m1
theorem road_at {H : Hp} {t0 t1 : Addr} {R : Rds} (g2 : H t0 = some (.tup [.int R.l0, .int R.m0])) (g3 : H t1 = some (.tup [.int R.l1, .int R.m1])) {j : Nat} (hj : j < 2) :
    ∃ t : Addr, atI ([.ref t0, .ref t1] : List V) ((0 : Int) + (j : Int)) = some (.ref t) ∧ H t = some (.tup [.int (R.lo j), .int (R.hi j)]) := by
  have hj' : j = 0 ∨ j = 1 := by omega
  rcases hj' with rfl | rfl
  · exact ⟨t0, at0, g2⟩
  · exact ⟨t1, at1, g3⟩
theorem Rds.ok_at {R : Rds} (h : R.Ok) {j : Nat} : 0 ≤ R.lo j ∧ R.lo j ≤ R.hi j ∧ R.hi j ≤ 9 := by
  obtain ⟨h1, h2⟩ := h
  unfold Rds.lo Rds.hi
  by_cases c : j = 0
  · rw [if_pos c, if_pos c]; exact h1
  · rw [if_neg c, if_neg c]; exact h2
/-- the row at place j -/
theorem row_at {K : PySem.W.Frag} {H : Hp} {a b : Addr} {R0 R1 : List Lt} {R : Rds} (ha : SqL K H a (R0.map oV)) (hb : SqL K H b (R1.map oV)) (f0 : Fits R.l0 R.m0 R0) (f1 : Fits R.l1 R.m1 R1) (hl : R0.length = R1.length) {j : Nat} (hj : j < 2) :
    ∃ (c : Addr) (Y : List Lt), atI ([.ref a, .ref b] : List V) ((0 : Int) + (j : Int)) = some (.ref c) ∧ SqL K H c (Y.map oV) ∧ Fits (R.lo j) (R.hi j) Y ∧ Y.length = R0.length := by
  have hj' : j = 0 ∨ j = 1 := by omega
  rcases hj' with rfl | rfl
  · exact ⟨a, R0, at0, ha, f0, rfl⟩
  · exact ⟨b, R1, at1, hb, f1, hl.symm⟩
/-- an item of a row -/
theorem at_row {Y : List Lt} {i : Nat} (hi : i < Y.length) : ∃ x ∈ Y, atI (Y.map oV) ((0 : Int) + (i : Int)) = some (oV x) :=
  ⟨Y[i], List.getElem_mem hi, by rw [Int.zero_add]; exact atI_nat (by rw [List.getElem?_map, List.getElem?_eq_getElem hi]; rfl)⟩
/-! ### _law_late: a lateness of a road -/
def spLate (K : PySem.W.Frag) : Sp := fun vs H Q _ => ∃ (r t : Addr) (l m : Int), vs = [.ref r, .ref t] ∧ RowAt K r H ∧ H t = some (.tup [.int l, .int m]) ∧ l ≤ m ∧
  ∀ (v : Int) (H' : Hp), l ≤ v → v ≤ m → RowAt K r H' → Kp r H H' → Q (.int v) H'
section
variable {P : Program} {w : World} {K : PySem.W.Frag} {mg : Str → Option Value} {base : Heap}
theorem ok_Llate (T : Txt K mg) : FnOk P w K mg base CX0 2 T.f_Llate T.fd_Llate P_Llate (spLate K) := by
  refine T.F_Llate.ok sc_Llate (fun vs H Q E h => ?_) (fun cdv A outer s H vs Q E hr h => ?_)
  · obtain ⟨r, t, l, m, rfl, _⟩ := h
    rfl
  · obtain ⟨r, t, l, m, rfl, hrow, hT, hlm, k⟩ := h
    refine ⟨_, ((pss_cons (ps_asg (pv 1) (pg_tup rfl (pgs_cons (pg_name (i := 2) sc_Llate.nd rfl (Or.inl rfl)) (pgs_cons (pg_name (i := 3) sc_Llate.nd rfl (Or.inl rfl)) pgs_nil))))
  (pss_one (ps_ret (pe_ix ix_list (pe_lst (pa_cons (pv 2) (pa_cons (pv 3) (pa_cons (pe_op op_add (pv 2) (pe_call (ok_Ltaken T) (hr.mono (by decide)) (by rfl) T.mg_Ltaken T.kp_Ltaken T.b_Ltaken .nil pass0 (pa_cons (pv 0) (pa_cons (pe_op op_add (pe_op op_sub (pv 3) (pv 2)) pe_int) pa_nil)))) pa_nil)))) (pe_call (ok_Ltaken T) (hr.mono (by decide)) (by rfl) T.mg_Ltaken T.kp_Ltaken T.b_Ltaken .nil pass0 (pa_cons (pv 0) (pa_cons pe_int pa_nil))) (fun _ _ => rfl)))))), ?_⟩
    refine ⟨_, rfl, t, _, rfl, SqT.of hT, rfl, _, _, rfl, _, _, rfl, rfl, ?_⟩
    refine ⟨_, rfl, _, rfl, _, rfl, _, rfl, _, rfl, _, rfl, _, _, rfl, rfl, _, _, rfl, rfl, r, _, rfl, by omega, hrow, fun v H1 v0 v1 row1 k1 => ?_⟩
    refine ⟨_, _, rfl, rfl, by show 3 ≤ sizeLine; decide, fun p hp => ?_⟩
    refine ⟨_, rfl, r, _, rfl, by decide, row1.new hp, fun i H2 i0 i1 row2 k2 => ?_⟩
    have hpr : p ≠ r := row1.ne hp
    have hz : ∃ z ∈ [l, m, l + v], atI ([l, m, l + v].map V.int) i = some (.int z) := at_menu i0 i1
    obtain ⟨z, hmem, hz⟩ := hz
    have hzr : l ≤ z ∧ z ≤ m := by
      simp only [List.mem_cons, List.not_mem_nil, or_false] at hmem
      rcases hmem with h | h | h <;> omega
    refine ⟨p, _, i, _, rfl, rfl, SqL.of (k2 _ _ hpr upd_same), hz, ?_⟩
    exact k z H2 hzr.1 hzr.2 row2 ((k1.new hp).trans k2)
end
/-! ### _law_roads: two roads -/
def spRoads (K : PySem.W.Frag) : Sp := fun vs H Q _ => ∃ (r : Addr), vs = [.ref r] ∧ RowAt K r H ∧
  ∀ (p : Addr) (R : Rds) (H' : Hp), RoadsAt H' p R → R.Ok → H p = none → RowAt K r H' → Kp r H H' → Q (.ref p) H'
section
variable {P : Program} {w : World} {K : PySem.W.Frag} {mg : Str → Option Value} {base : Heap}
theorem ok_Lroads (T : Txt K mg) : FnOk P w K mg base CX0 2 T.f_Lroads T.fd_Lroads P_Lroads (spRoads K) := by
  refine T.F_Lroads.ok sc_Lroads (fun vs H Q E h => ?_) (fun cdv A outer s H vs Q E hr h => ?_)
  · obtain ⟨r, rfl, _⟩ := h
    rfl
  · obtain ⟨r, rfl, hrow, k⟩ := h
    refine ⟨_, ((pss_cons (ps_set (i := 1) sc_Lroads.nd rfl (Or.inl rfl) (pe_lst pa_nil))
  (pss_cons (ps_for PassesOwn.never rfl (pi_range1 (by rfl) T.z_range (pa_cons pe_int pa_nil)) (pg_name (i := 2) sc_Lroads.nd rfl (Or.inl rfl))
  (pss_cons (ps_set (i := 3) sc_Lroads.nd rfl (Or.inl rfl) (pe_call (ok_Ltaken T) (hr.mono (by decide)) (by rfl) T.mg_Ltaken T.kp_Ltaken T.b_Ltaken .nil pass0 (pa_cons (pv 0) (pa_cons (pe_ix ix_list (pe_lst (pa_cons pe_int (pa_cons pe_int pa_nil))) (pe_call (ok_Ltaken T) (hr.mono (by decide)) (by rfl) T.mg_Ltaken T.kp_Ltaken T.b_Ltaken .nil pass0 (pa_cons (pv 0) (pa_cons pe_int pa_nil))) (fun _ _ => rfl)) pa_nil))))
  (pss_one (ps_expr (pe_bm PySem.F.plainAttrs_list PySem.F.slot_list_append PySem.F.type_list_append mt_append (pv 1) (pa_cons (pe_tup (pa_cons (pv 3) (pa_cons (pe_callB (call_min2 rfl) (by rfl) T.z_min (by decide +kernel) (pa_cons pe_int (pa_cons (pe_op op_add (pv 3) (pe_ix ix_list (pe_lst (pa_cons pe_int (pa_cons (pe_call (ok_Ltaken T) (hr.mono (by decide)) (by rfl) T.mg_Ltaken T.kp_Ltaken T.b_Ltaken .nil pass0 (pa_cons (pv 0) (pa_cons pe_int pa_nil))) (pa_cons (pe_call (ok_Ltaken T) (hr.mono (by decide)) (by rfl) T.mg_Ltaken T.kp_Ltaken T.b_Ltaken .nil pass0 (pa_cons (pv 0) (pa_cons pe_int pa_nil))) pa_nil)))) (pe_call (ok_Ltaken T) (hr.mono (by decide)) (by rfl) T.mg_Ltaken T.kp_Ltaken T.b_Ltaken .nil pass0 (pa_cons (pv 0) (pa_cons pe_int pa_nil))) (fun _ _ => rfl))) pa_nil))) pa_nil))) pa_nil))))))
  (pss_one (ps_ret (pe_tup (pa_cons (pe_ix ix_list (pv 1) pe_int (fun _ _ => rfl)) (pa_cons (pe_ix ix_list (pv 1) pe_int (fun _ _ => rfl)) pa_nil)))))))), ?_⟩
    -- found = []
    refine ⟨by show 0 ≤ sizeLine; decide, fun f hf => ?_⟩
    have hfr : f ≠ r := hrow.ne hf
    have row0 := hrow.new (o := .lst []) hf
    have kp0 : Kp r H (upd H f (.lst [])) := (Kp.refl r H).new hf
    -- for road in range(2)
    refine ⟨_, rfl, by decide, by decide, for_range (n := 2) (fun i σ H' => ∃ (v2 v3 : Option V) (ts : List (Addr × Int × Int)), σ = [some (.ref r), some (.ref f), v2, v3] ∧ ts.length = i ∧
      H' f = some (.lst (ts.map fun t => V.ref t.1)) ∧ (∀ t ∈ ts, H' t.1 = some (.tup [.int t.2.1, .int t.2.2]) ∧ 0 ≤ t.2.1 ∧ t.2.1 ≤ t.2.2 ∧ t.2.2 ≤ 9) ∧ RowAt K r H' ∧ Kp r H H')
      ⟨none, none, [], rfl, rfl, upd_same, fun t ht => absurd ht List.not_mem_nil, row0, kp0⟩ ?_ ?_⟩
    · rintro i σ H1 hi ⟨v2, v3, ts, rfl, hl, hf1, hts, row1, k1⟩
      -- least = taken(row, [3, 10][taken(row, 2)])
      refine ⟨_, rfl, by show 2 ≤ sizeLine; decide, fun p hp => ?_⟩
      refine ⟨_, rfl, r, _, rfl, by decide, row1.new hp, fun j H2 j0 j1 row2 k2 => ?_⟩
      have hpr : p ≠ r := row1.ne hp
      have hz : ∃ z ∈ [(3 : Int), 10], atI ([(3 : Int), 10].map V.int) j = some (.int z) := at_menu j0 j1
      obtain ⟨z, hmem, hz⟩ := hz
      have hz3 : 3 ≤ z ∧ z ≤ 10 := by
        simp only [List.mem_cons, List.not_mem_nil, or_false] at hmem
        rcases hmem with h | h <;> omega
      refine ⟨p, _, j, _, rfl, rfl, SqL.of (k2 _ _ hpr upd_same), hz, ?_⟩
      refine ⟨r, _, rfl, by omega, row2, fun l H3 l0 l1 row3 k3 => ?_⟩
      have kk : Kp r H1 H3 := ((Kp.refl r H1).new hp).trans (k2.trans k3)
      -- found.append((least, min(9, least + [0, taken(row, 3), taken(row, 10)][taken(row, 3)])))
      have hf3 := kk _ _ hfr hf1
      refine ⟨_, rfl, .inl ⟨rfl, _, SqL.of hf3⟩, ?_⟩
      refine ⟨_, rfl, _, rfl, _, rfl, r, _, rfl, by decide, row3, fun x H4 x0 x1 row4 k4 => ?_⟩
      refine ⟨_, rfl, r, _, rfl, by decide, row4, fun y H5 y0 y1 row5 k5 => ?_⟩
      refine ⟨by show 3 ≤ sizeLine; decide, fun p2 hp2 => ?_⟩
      refine ⟨_, rfl, r, _, rfl, by decide, row5.new hp2, fun j2 H6 j20 j21 row6 k6 => ?_⟩
      have hp2r : p2 ≠ r := row5.ne hp2
      have hz2 : ∃ z ∈ [(0 : Int), x, y], atI ([(0 : Int), x, y].map V.int) j2 = some (.int z) := at_menu j20 j21
      obtain ⟨z2, hmem2, hz2⟩ := hz2
      have hz2r : 0 ≤ z2 := by
        simp only [List.mem_cons, List.not_mem_nil, or_false] at hmem2
        rcases hmem2 with h | h | h <;> omega
      refine ⟨p2, _, j2, _, rfl, rfl, SqL.of (k6 _ _ hp2r upd_same), hz2, ?_⟩
      refine ⟨_, _, rfl, rfl, _, _, rfl, ?_⟩
      refine ⟨by show 2 ≤ sizeLine; decide, fun t ht => ?_⟩
      have k36 : Kp r H3 H6 := k4.trans (k5.trans (((Kp.refl r H5).new hp2).trans k6))
      have htr : t ≠ r := row6.ne ht
      have hf6 := k36 _ _ hfr hf3
      have hft : f ≠ t := ne_of_none hf6 ht
      have row7 := row6.new (o := .tup [.int l, .int (if l + z2 < 9 then l + z2 else 9)]) ht
      refine ⟨f, _, _, rfl, rfl, by rw [upd_ne hft]; exact hf6, small1000 (by rw [List.length_map]; omega), ?_⟩
      have old : ∀ b o, b ≠ r → b ≠ f → H1 b = some o → (upd (upd H6 t (.tup [.int l, .int (if l + z2 < 9 then l + z2 else 9)])) f (.lst (ts.map (fun t => V.ref t.1) ++ [.ref t]))) b = some o := fun b o br bf hb => by
        rw [upd_ne bf]
        exact ((kk.trans k36).new ht) b o br hb
      refine ⟨_, _, ts ++ [(t, l, if l + z2 < 9 then l + z2 else 9)], rfl, by rw [List.length_append, hl]; rfl, by rw [upd_same, List.map_append]; rfl, fun u hu => ?_, ?_, ?_⟩
      · rcases List.mem_append.mp hu with hu | hu
        · obtain ⟨e1, e2⟩ := hts u hu
          exact ⟨old _ _ (tup_ne e1 row1.lst.choose_spec) (tup_ne e1 hf1) e1, e2⟩
        · rw [List.mem_singleton.mp hu]
          refine ⟨by rw [upd_ne hft.symm]; exact upd_same, l0, ?_, ?_⟩
          · show l ≤ if l + z2 < 9 then l + z2 else 9
            split <;> omega
          · show (if l + z2 < 9 then l + z2 else 9) ≤ 9
            split <;> omega
      · exact row7.put hfr (by rw [upd_ne hft]; exact hf6)
      · exact (k1.trans ((kk.trans k36).new ht)).mut hf
    · -- return (found[0], found[1])
      rintro σ H1 ⟨v2, v3, ts, rfl, hl, hf1, hts, row1, k1⟩
      obtain ⟨t0, t1, rfl⟩ := len2 hl
      obtain ⟨a1, a2, a3, a4⟩ := hts t0 (by simp)
      obtain ⟨b1, b2, b3, b4⟩ := hts t1 (by simp)
      refine ⟨_, rfl, f, _, _, _, rfl, rfl, SqL.of hf1, at0, _, rfl, f, _, _, _, rfl, rfl, SqL.of hf1, at1, by show 2 ≤ sizeLine; decide, fun p hp => ?_⟩
      have hpH : H p = none := by
        cases e : H p with
        | none => rfl
        | some o =>
          have n : p ≠ r := row1.ne hp
          rw [k1 p o n e] at hp; cases hp
      exact k p ⟨t0.2.1, t0.2.2, t1.2.1, t1.2.2⟩ _ ⟨t0.1, t1.1, upd_same, by rw [upd_ne (ne_of_none a1 hp)]; exact a1, by rw [upd_ne (ne_of_none b1 hp)]; exact b1⟩ ⟨⟨a2, a3, a4⟩, ⟨b2, b3, b4⟩⟩ hpH (row1.new hp) (k1.new hp)
end
/-! ### _law_rows: rows that the roads can do -/
def spRows (K : PySem.W.Frag) : Sp := fun vs H Q _ => ∃ (r p : Addr) (R : Rds) (most : Int) (one : Bool), vs = [.ref r, .ref p, .int most, .bl one] ∧ RowAt K r H ∧ RoadsAt H p R ∧ R.Ok ∧ 0 ≤ most ∧ most ≤ 80 ∧
  ∀ (q a b : Addr) (R0 R1 : List Lt) (H' : Hp), RowsAt H' q a b R0 R1 → R0.length = R1.length → (R0.length : Int) ≤ most → Fits R.l0 R.m0 R0 → Fits R.l1 R.m1 R1 →
    (one = true → ∀ k : Nat, R0[k]? = some none → R1[k]? = some none → False) → H q = none → H a = none → H b = none → RowAt K r H' → Kp r H H' → Q (.ref q) H'
/-- what stands through the loop: the found rows at q (a, b), the downs at d, the steady ones at s -/
structure RwI (K : PySem.W.Frag) (r : Addr) (H0 : Hp) (p : Addr) (R : Rds) (q a b d s : Addr) (s0 s1 : Int) (H : Hp) (R0 R1 : List Lt) (d0 d1 : Int) : Prop where
  row : RowAt K r H
  kp : Kp r H0 H
  rd : RoadsAt H p R
  hq : H q = some (.tup [.ref a, .ref b])
  ha : H a = some (.lst (R0.map oV))
  hb : H b = some (.lst (R1.map oV))
  hd : H d = some (.lst [.int d0, .int d1])
  hs : H s = some (.lst [.int s0, .int s1])
  nd0 : 0 ≤ d0
  nd1 : 0 ≤ d1
structure RwS (r : Addr) (H0 : Hp) (a b d s : Addr) : Prop where
  ar : a ≠ r
  br : b ≠ r
  dr : d ≠ r
  sr : s ≠ r
  ab : a ≠ b
  ad : a ≠ d
  as : a ≠ s
  bd : b ≠ d
  bs : b ≠ s
  ds : d ≠ s
  fa : H0 a = none
  fb : H0 b = none
  fd : H0 d = none
section
variable {K : PySem.W.Frag} {r : Addr} {H0 : Hp} {p : Addr} {R : Rds} {q a b d s : Addr} {s0 s1 : Int} {H H' : Hp} {R0 R1 : List Lt} {d0 d1 : Int}
theorem RwI.go (S : RwS r H0 a b d s) (I : RwI K r H0 p R q a b d s s0 s1 H R0 R1 d0 d1) (w : RowAt K r H') (k : Kp r H H') : RwI K r H0 p R q a b d s s0 s1 H' R0 R1 d0 d1 :=
  ⟨w, I.kp.trans k, k.roads I.row I.rd, k.tup I.row I.hq, k _ _ S.ar I.ha, k _ _ S.br I.hb, k _ _ S.dr I.hd, k _ _ S.sr I.hs, I.nd0, I.nd1⟩
theorem RwI.new {x : Addr} {o : HO} (S : RwS r H0 a b d s) (I : RwI K r H0 p R q a b d s s0 s1 H R0 R1 d0 d1) (hx : H x = none) : RwI K r H0 p R q a b d s s0 s1 (upd H x o) R0 R1 d0 d1 :=
  I.go S (I.row.new hx) ((Kp.refl r H).new hx)
/-- a list made in this turn is changed -/
theorem RwI.put {x : Addr} {xs : List V} {o : HO} (S : RwS r H0 a b d s) (I : RwI K r H0 p R q a b d s s0 s1 H R0 R1 d0 d1) (hx : H x = some (.lst xs)) (h0 : H0 x = none) (xr : x ≠ r) (xa : x ≠ a) (xb : x ≠ b) (xd : x ≠ d) (xs' : x ≠ s) :
    RwI K r H0 p R q a b d s s0 s1 (upd H x o) R0 R1 d0 d1 := by
  obtain ⟨t0, t1, h1, h2, h3⟩ := I.rd
  exact ⟨I.row.put xr hx, I.kp.mut h0, ⟨t0, t1, by rw [upd_ne (tup_ne h1 hx)]; exact h1, by rw [upd_ne (tup_ne h2 hx)]; exact h2, by rw [upd_ne (tup_ne h3 hx)]; exact h3⟩,
    by rw [upd_ne (tup_ne I.hq hx)]; exact I.hq, by rw [upd_ne xa.symm]; exact I.ha, by rw [upd_ne xb.symm]; exact I.hb, by rw [upd_ne xd.symm]; exact I.hd, by rw [upd_ne xs'.symm]; exact I.hs, I.nd0, I.nd1⟩
theorem RwI.setd {e0 e1 : Int} (S : RwS r H0 a b d s) (I : RwI K r H0 p R q a b d s s0 s1 H R0 R1 d0 d1) (h0 : 0 ≤ e0) (h1 : 0 ≤ e1) : RwI K r H0 p R q a b d s s0 s1 (upd H d (.lst [.int e0, .int e1])) R0 R1 e0 e1 := by
  obtain ⟨t0, t1, g1, g2, g3⟩ := I.rd
  exact ⟨I.row.put S.dr I.hd, I.kp.mut S.fd, ⟨t0, t1, by rw [upd_ne (tup_ne g1 I.hd)]; exact g1, by rw [upd_ne (tup_ne g2 I.hd)]; exact g2, by rw [upd_ne (tup_ne g3 I.hd)]; exact g3⟩,
    by rw [upd_ne (tup_ne I.hq I.hd)]; exact I.hq, by rw [upd_ne S.ad]; exact I.ha, by rw [upd_ne S.bd]; exact I.hb, upd_same, by rw [upd_ne S.ds.symm]; exact I.hs, h0, h1⟩
theorem RwI.seta {Y : List Lt} (S : RwS r H0 a b d s) (I : RwI K r H0 p R q a b d s s0 s1 H R0 R1 d0 d1) : RwI K r H0 p R q a b d s s0 s1 (upd H a (.lst (Y.map oV))) Y R1 d0 d1 := by
  obtain ⟨t0, t1, g1, g2, g3⟩ := I.rd
  exact ⟨I.row.put S.ar I.ha, I.kp.mut S.fa, ⟨t0, t1, by rw [upd_ne (tup_ne g1 I.ha)]; exact g1, by rw [upd_ne (tup_ne g2 I.ha)]; exact g2, by rw [upd_ne (tup_ne g3 I.ha)]; exact g3⟩,
    by rw [upd_ne (tup_ne I.hq I.ha)]; exact I.hq, upd_same, by rw [upd_ne S.ab.symm]; exact I.hb, by rw [upd_ne S.ad.symm]; exact I.hd, by rw [upd_ne S.as.symm]; exact I.hs, I.nd0, I.nd1⟩
theorem RwI.setb {Y : List Lt} (S : RwS r H0 a b d s) (I : RwI K r H0 p R q a b d s s0 s1 H R0 R1 d0 d1) : RwI K r H0 p R q a b d s s0 s1 (upd H b (.lst (Y.map oV))) R0 Y d0 d1 := by
  obtain ⟨t0, t1, g1, g2, g3⟩ := I.rd
  exact ⟨I.row.put S.br I.hb, I.kp.mut S.fb, ⟨t0, t1, by rw [upd_ne (tup_ne g1 I.hb)]; exact g1, by rw [upd_ne (tup_ne g2 I.hb)]; exact g2, by rw [upd_ne (tup_ne g3 I.hb)]; exact g3⟩,
    by rw [upd_ne (tup_ne I.hq I.hb)]; exact I.hq, by rw [upd_ne S.ab]; exact I.ha, upd_same, by rw [upd_ne S.bd.symm]; exact I.hd, by rw [upd_ne S.bs.symm]; exact I.hs, I.nd0, I.nd1⟩
/-- the road j's tuple, steady lateness and down -/
theorem RwI.road (I : RwI K r H0 p R q a b d s s0 s1 H R0 R1 d0 d1) {j : Nat} (hj : j < 2) : ∃ (t tj : Addr) (u : Addr) (l m dj sj : Int), H p = some (.tup [.ref t, .ref u]) ∧ atI ([.ref t, .ref u] : List V) (j : Int) = some (.ref tj) ∧ H tj = some (.tup [.int l, .int m]) ∧
    atI ([.int d0, .int d1] : List V) (j : Int) = some (.int dj) ∧ 0 ≤ dj ∧ atI ([.int s0, .int s1] : List V) (j : Int) = some (.int sj) ∧ ((j = 0 ∧ l = R.l0 ∧ m = R.m0 ∧ sj = s0 ∧ dj = d0) ∨ (j = 1 ∧ l = R.l1 ∧ m = R.m1 ∧ sj = s1 ∧ dj = d1)) := by
  obtain ⟨t0, t1, h1, h2, h3⟩ := I.rd
  have hj' : j = 0 ∨ j = 1 := by omega
  rcases hj' with rfl | rfl
  · exact ⟨t0, t0, t1, _, _, d0, s0, h1, at0, h2, at0, I.nd0, at0, .inl ⟨rfl, rfl, rfl, rfl, rfl⟩⟩
  · exact ⟨t0, t1, t1, _, _, d1, s1, h1, at1, h3, at1, I.nd1, at1, .inr ⟨rfl, rfl, rfl, rfl, rfl⟩⟩
end
/-- the steady ones and the roads -/
structure RwF (R : Rds) (s0 s1 : Int) : Prop where
  s0 : R.l0 ≤ s0 ∧ s0 ≤ R.m0
  s1 : R.l1 ≤ s1 ∧ s1 ≤ R.m1
  r0 : R.l0 ≤ R.m0
  r1 : R.l1 ≤ R.m1
section
variable {P : Program} {w : World} {K : PySem.W.Frag} {mg : Str → Option Value} {base : Heap}
theorem ok_Lrows (T : Txt K mg) : FnOk P w K mg base CX0 3 T.f_Lrows T.fd_Lrows P_Lrows (spRows K) := by
  refine T.F_Lrows.ok sc_Lrows (fun vs H Q E h => ?_) (fun cdv A outer s H vs Q E hr h => ?_)
  · obtain ⟨r, p, R, most, one, rfl, _⟩ := h
    rfl
  · obtain ⟨r, p, R, most, one, rfl, hrow, hrd, hR, hm0, hm1, k⟩ := h
    refine ⟨_, ((pss_cons (ps_set (i := 4) sc_Lrows.nd rfl (Or.inl rfl) (pe_call (ok_Ltaken T) (hr.mono (by decide)) (by rfl) T.mg_Ltaken T.kp_Ltaken T.b_Ltaken .nil pass0 (pa_cons (pv 0) (pa_cons (pe_op op_add (pv 2) pe_int) pa_nil))))
  (pss_cons (ps_set (i := 5) sc_Lrows.nd rfl (Or.inl rfl) (pe_ix ix_list (pe_lst (pa_cons pe_int (pa_cons pe_int (pa_cons pe_int pa_nil)))) (pe_call (ok_Ltaken T) (hr.mono (by decide)) (by rfl) T.mg_Ltaken T.kp_Ltaken T.b_Ltaken .nil pass0 (pa_cons (pv 0) (pa_cons pe_int pa_nil))) (fun _ _ => rfl)))
  (pss_cons (ps_set (i := 6) sc_Lrows.nd rfl (Or.inl rfl) (pe_tup (pa_cons (pe_lst pa_nil) (pa_cons (pe_lst pa_nil) pa_nil))))
  (pss_cons (ps_set (i := 7) sc_Lrows.nd rfl (Or.inl rfl) (pe_lst (pa_cons pe_int (pa_cons pe_int pa_nil))))
  (pss_cons (ps_set (i := 8) sc_Lrows.nd rfl (Or.inl rfl) (pe_lst (pa_cons (pe_call (ok_Llate T) (hr.mono (by decide)) (by rfl) T.mg_Llate T.kp_Llate T.b_Llate .nil pass0 (pa_cons (pv 0) (pa_cons (pe_ix ix_tup (pv 1) pe_int (fun _ _ => rfl)) pa_nil))) (pa_cons (pe_call (ok_Llate T) (hr.mono (by decide)) (by rfl) T.mg_Llate T.kp_Llate T.b_Llate .nil pass0 (pa_cons (pv 0) (pa_cons (pe_ix ix_tup (pv 1) pe_int (fun _ _ => rfl)) pa_nil))) pa_nil))))
  (pss_cons (ps_set (i := 9) sc_Lrows.nd rfl (Or.inl rfl) (pe_call (ok_Ltaken T) (hr.mono (by decide)) (by rfl) T.mg_Ltaken T.kp_Ltaken T.b_Ltaken .nil pass0 (pa_cons (pv 0) (pa_cons pe_int pa_nil))))
  (pss_cons (ps_for PassesOwn.never rfl (pi_range1 (by rfl) T.z_range (pa_cons (pv 4) pa_nil)) (pg_name (i := 10) sc_Lrows.nd rfl (Or.inl rfl))
  (pss_cons (ps_set (i := 11) sc_Lrows.nd rfl (Or.inl rfl) (pe_lst pa_nil))
  (pss_cons (ps_for PassesOwn.never rfl (pi_range1 (by rfl) T.z_range (pa_cons pe_int pa_nil)) (pg_name (i := 12) sc_Lrows.nd rfl (Or.inl rfl))
  (Evl.pss_cut (ps_if (PW.pt (pw_and (pt_cmpR op_eq (pe_ix ix_list (pv 7) (pv 12) (fun _ _ => rfl)) pe_int (nomark _)) (pw_and1 (pt_cmpR op_eq (pe_call (ok_Ltaken T) (hr.mono (by decide)) (by rfl) T.mg_Ltaken T.kp_Ltaken T.b_Ltaken .nil pass0 (pa_cons (pv 0) (pa_cons pe_int pa_nil))) pe_int (nomark _))))) (pss_one (ps_asg (pe_op op_add pe_int (pe_call (ok_Ltaken T) (hr.mono (by decide)) (by rfl) T.mg_Ltaken T.kp_Ltaken T.b_Ltaken .nil pass0 (pa_cons (pv 0) (pa_cons pe_int pa_nil)))) (pg_sub (pv 7) (pv 12) set_list))) pss_nil)
  (Evl.pss_cut (ps_set (i := 13) sc_Lrows.nd rfl (Or.inl rfl) (pe_ifExp (pt_cmpR op_eq (pv 9) pe_int (nomark _)) (pe_call (ok_Llate T) (hr.mono (by decide)) (by rfl) T.mg_Llate T.kp_Llate T.b_Llate .nil pass0 (pa_cons (pv 0) (pa_cons (pe_ix ix_tup (pv 1) (pv 12) (fun _ _ => rfl)) pa_nil))) (pe_ix ix_list (pv 8) (pv 12) (fun _ _ => rfl))))
  (Evl.pss_cut (ps_expr (pe_bm PySem.F.plainAttrs_list PySem.F.slot_list_append PySem.F.type_list_append mt_append (pv 11) (pa_cons (pe_ifExp (PW.pt (pw_or (pt_cmpR op_gt (pe_ix ix_list (pv 7) (pv 12) (fun _ _ => rfl)) pe_int (nomark _)) (pw_or1 (pt_cmpR op_eq (pe_call (ok_Ltaken T) (hr.mono (by decide)) (by rfl) T.mg_Ltaken T.kp_Ltaken T.b_Ltaken .nil pass0 (pa_cons (pv 0) (pa_cons (pv 5) pa_nil))) pe_int (nomark _))))) pe_non (pv 13)) pa_nil)))
  (pss_one (ps_asg (pe_callB (call_max2 rfl) (by rfl) T.z_max (by decide +kernel) (pa_cons pe_int (pa_cons (pe_op op_sub (pe_ix ix_list (pv 7) (pv 12) (fun _ _ => rfl)) pe_int) pa_nil))) (pg_sub (pv 7) (pv 12) set_list)))))))
  (Evl.pss_cut (ps_if (PW.pt (pw_and (pt_val (pv 3)) (pw_and1 (pt_cmpR (op_eqD hr.units) (pv 11) (pe_lst (pa_cons pe_non (pa_cons pe_non pa_nil))) (nomark _))))) (pss_cons (ps_set (i := 12) sc_Lrows.nd rfl (Or.inl rfl) (pe_call (ok_Ltaken T) (hr.mono (by decide)) (by rfl) T.mg_Ltaken T.kp_Ltaken T.b_Ltaken .nil pass0 (pa_cons (pv 0) (pa_cons pe_int pa_nil))))
  (pss_one (ps_asg (pe_call (ok_Llate T) (hr.mono (by decide)) (by rfl) T.mg_Llate T.kp_Llate T.b_Llate .nil pass0 (pa_cons (pv 0) (pa_cons (pe_ix ix_tup (pv 1) (pv 12) (fun _ _ => rfl)) pa_nil))) (pg_sub (pv 11) (pv 12) set_list)))) pss_nil)
  (pss_cons (ps_expr (pe_bm PySem.F.plainAttrs_list PySem.F.slot_list_append PySem.F.type_list_append mt_append (pe_ix ix_tup (pv 6) pe_int (fun _ _ => rfl)) (pa_cons (pe_ix ix_list (pv 11) pe_int (fun _ _ => rfl)) pa_nil)))
  (pss_one (ps_expr (pe_bm PySem.F.plainAttrs_list PySem.F.slot_list_append PySem.F.type_list_append mt_append (pe_ix ix_tup (pv 6) pe_int (fun _ _ => rfl)) (pa_cons (pe_ix ix_list (pv 11) pe_int (fun _ _ => rfl)) pa_nil)))))))))
  (pss_one (ps_ret (pv 6))))))))))), ?_⟩
    obtain ⟨⟨q1, q2, q3⟩, q4, q5, q6⟩ := id hR
    -- many
    refine ⟨_, rfl, _, rfl, _, _, rfl, rfl, r, _, rfl, by omega, hrow, fun many H1 many0 many1 row1 k1 => ?_⟩
    -- often
    refine ⟨by show 3 ≤ sizeLine; decide, fun p2 hp2 => ?_⟩
    refine ⟨_, rfl, r, _, rfl, by decide, row1.new hp2, fun i H2 i0 i1 row2 k2 => ?_⟩
    have hz : ∃ z ∈ [(2 : Int), 6, 100], atI ([(2 : Int), 6, 100].map V.int) i = some (.int z) := at_menu i0 i1
    obtain ⟨often, hmem, hz⟩ := hz
    have often0 : 0 < often := by
      simp only [List.mem_cons, List.not_mem_nil, or_false] at hmem
      rcases hmem with h | h | h <;> omega
    refine ⟨p2, _, i, _, rfl, rfl, SqL.of (k2 _ _ (row1.ne hp2) upd_same), hz, ?_⟩
    have k02 : Kp r H H2 := (k1.new hp2).trans k2
    -- found, down
    refine ⟨by show 0 ≤ sizeLine; decide, fun a ha => ?_⟩
    refine ⟨by show 0 ≤ sizeLine; decide, fun b hb => ?_⟩
    refine ⟨by show 2 ≤ sizeLine; decide, fun q hq => ?_⟩
    refine ⟨by show 2 ≤ sizeLine; decide, fun d hd => ?_⟩
    have ra := row2.new (o := .lst []) ha
    have rb := ra.new (o := .lst []) hb
    have rq := rb.new (o := .tup [.ref a, .ref b]) hq
    have rdd := rq.new (o := .lst [.int 0, .int 0]) hd
    have ar := row2.ne ha
    have br := ra.ne hb
    have qr := rb.ne hq
    have dr := rq.ne hd
    have k03 : Kp r H (upd (upd (upd (upd H2 a (.lst [])) b (.lst [])) q (.tup [.ref a, .ref b])) d (.lst [.int 0, .int 0])) := (((k02.new ha).new hb).new hq).new hd
    have ab : a ≠ b := ne_of_none (o := .lst []) upd_same hb
    have aq : a ≠ q := ne_of_none (H := upd (upd H2 a (.lst [])) b (.lst [])) (o := .lst []) (by rw [upd_ne ab]; exact upd_same) hq
    have bq : b ≠ q := ne_of_none (o := .lst []) upd_same hq
    have ga : (upd (upd (upd H2 a (.lst [])) b (.lst [])) q (.tup [.ref a, .ref b])) a = some (.lst []) := by rw [upd_ne aq, upd_ne ab]; exact upd_same
    have gb : (upd (upd (upd H2 a (.lst [])) b (.lst [])) q (.tup [.ref a, .ref b])) b = some (.lst []) := by rw [upd_ne bq]; exact upd_same
    have gq : (upd (upd (upd H2 a (.lst [])) b (.lst [])) q (.tup [.ref a, .ref b])) q = some (.tup [.ref a, .ref b]) := upd_same
    have ad := ne_of_none ga hd
    have bd := ne_of_none gb hd
    have qd := ne_of_none gq hd
    have ga3 := (Eq.trans (upd_ne (o := .lst [.int 0, .int 0]) ad) ga)
    have gb3 := (Eq.trans (upd_ne (o := .lst [.int 0, .int 0]) bd) gb)
    have gq3 := (Eq.trans (upd_ne (o := .lst [.int 0, .int 0]) qd) gq)
    have gd3 : (upd (upd (upd (upd H2 a (.lst [])) b (.lst [])) q (.tup [.ref a, .ref b])) d (.lst [.int 0, .int 0])) d = some (.lst [.int 0, .int 0]) := upd_same
    have fa : H a = none := k02.free ar ha
    have fb : H b = none := (k02.new ha).free br hb
    have fq : H q = none := ((k02.new ha).new hb).free qr hq
    have fd : H d = none := (((k02.new ha).new hb).new hq).free dr hd
    revert rdd k03 ga3 gb3 gq3 gd3
    generalize (upd (upd (upd (upd H2 a (.lst [])) b (.lst [])) q (.tup [.ref a, .ref b])) d (.lst [.int 0, .int 0])) = H3
    intro rdd k03 ga3 gb3 gq3 gd3
    have rd3 := k03.roads hrow hrd
    obtain ⟨t0, t1, g1, g2, g3⟩ := id rd3
    -- steady
    refine ⟨_, rfl, _, rfl, p, _, _, _, rfl, rfl, SqT.of g1, at0, r, t0, _, _, rfl, rdd, g2, q2, fun s0 H4 s00 s01 row4 k4 => ?_⟩
    have g1' := k4.tup rdd g1
    have g3' := k4.tup rdd g3
    refine ⟨_, rfl, _, rfl, p, _, _, _, rfl, rfl, SqT.of g1', at1, r, t1, _, _, rfl, row4, g3', q5, fun s1 H5 s10 s11 row5 k5 => ?_⟩
    refine ⟨by show 2 ≤ sizeLine; decide, fun st hst => ?_⟩
    have k35 := k4.trans k5
    have str := row5.ne hst
    have h6 : ∀ x o, x ≠ r → H3 x = some o → (upd H5 st (.lst [.int s0, .int s1])) x = some o := (k35.new hst)
    have nst : ∀ x o, x ≠ r → H3 x = some o → x ≠ st := fun x o n e => ne_of_none (k35 x o n e) hst
    -- loose
    refine ⟨_, rfl, r, _, rfl, by decide, row5.new hst, fun loose H7 lo0 lo1 row7 k7 => ?_⟩
    have k37 : Kp r H3 H7 := (k35.new hst).trans k7
    have S : RwS r H a b d st := ⟨ar, br, dr, str, ab, ad, nst _ _ ar ga3, bd, nst _ _ br gb3, nst _ _ dr gd3, fa, fb, fd⟩
    have FF : RwF R s0 s1 := ⟨⟨s00, s01⟩, ⟨s10, s11⟩, q2, q5⟩
    have I0 : RwI K r H p R q a b d st s0 s1 H7 [] [] 0 0 := ⟨row7, k03.trans k37, k37.roads rdd rd3, k37.tup rdd gq3, k37 _ _ ar ga3, k37 _ _ br gb3, k37 _ _ dr gd3, k7 _ _ str upd_same, Int.le_refl _, Int.le_refl _⟩
    -- the loop
    refine ⟨_, rfl, many, rfl, by omega, by omega, for_range (n := many.toNat) (fun i σ H' => ∃ (R0 R1 : List Lt) (d0 d1 : Int) (v10 v11 v12 v13 : Option V),
      σ = [some (.ref r), some (.ref p), some (.int most), some (.bl one), some (.int many), some (.int often), some (.ref q), some (.ref d), some (.ref st), some (.int loose), v10, v11, v12, v13] ∧
      R0.length = i ∧ R1.length = i ∧ Fits R.l0 R.m0 R0 ∧ Fits R.l1 R.m1 R1 ∧ (one = true → ∀ k : Nat, R0[k]? = some none → R1[k]? = some none → False) ∧ RwI K r H p R q a b d st s0 s1 H' R0 R1 d0 d1)
      ⟨[], [], 0, 0, none, none, none, none, rfl, rfl, rfl, Fits.nil, Fits.nil, fun _ k h => by simp at h, I0⟩ ?_ ?_⟩
    · rintro i σ H8 hi ⟨R0, R1, d0, d1, v10, v11, v12, v13, rfl, hl0, hl1, f0, f1, hone, I8⟩
      -- lates = []
      refine ⟨by show 0 ≤ sizeLine; decide, fun e he => ?_⟩
      have er := I8.row.ne he
      have fe : H e = none := I8.kp.free er he
      have ea := (ne_of_none I8.ha he).symm
      have eb := (ne_of_none I8.hb he).symm
      have ed := (ne_of_none I8.hd he).symm
      have es := (ne_of_none I8.hs he).symm
      have I9 := I8.new (o := .lst []) S he
      refine ⟨_, rfl, by decide, by decide, for_range (n := 2) (fun j σ H' => ∃ (xs : List Lt) (d0 d1 : Int) (v12 v13 : Option V),
        σ = [some (.ref r), some (.ref p), some (.int most), some (.bl one), some (.int many), some (.int often), some (.ref q), some (.ref d), some (.ref st), some (.int loose), some (.int (0 + i)), some (.ref e), v12, v13] ∧
        xs.length = j ∧ H' e = some (.lst (xs.map oV)) ∧ (∀ v, xs[0]? = some (some v) → R.l0 ≤ v ∧ v ≤ R.m0) ∧ (∀ v, xs[1]? = some (some v) → R.l1 ≤ v ∧ v ≤ R.m1) ∧ RwI K r H p R q a b d st s0 s1 H' R0 R1 d0 d1)
        ⟨[], d0, d1, v12, v13, rfl, rfl, upd_same, fun v h => by simp at h, fun v h => by simp at h, I9⟩ ?_ ?_⟩
      · rintro j σ H10 hj ⟨xs, d0, d1, v12, v13, rfl, hxl, hxe, hx0, hx1, I10⟩
        obtain ⟨t, tj, u, l, m, dj, sj, g1, gt, gtj, gd, dj0, gs, way⟩ := I10.road hj
        have e0 : (0 : Int) + (j : Int) = (j : Int) := Int.zero_add _
        have slm : l ≤ sj ∧ sj ≤ m ∧ l ≤ m := by
          rcases way with ⟨_, rfl, rfl, rfl, _⟩ | ⟨_, rfl, rfl, rfl, _⟩
          · exact ⟨FF.s0.1, FF.s0.2, FF.r0⟩
          · exact ⟨FF.s1.1, FF.s1.2, FF.r1⟩
        show Evl.tCut _ _ _ ([some (.ref r), some (.ref p), some (.int most), some (.bl one), some (.int many), some (.int often), some (.ref q), some (.ref d), some (.ref st), some (.int loose), some (.int (0 + i)), some (.ref e), some (.int (0 + (j : Int))), v13] : L2.St) _
        rw [e0]
        -- if down[road] == 0 and taken(row, 12) == 11: down[road] = 1 + taken(row, 12)
        refine ⟨fun σ' H' => ∃ (d0 d1 : Int), σ' = [some (.ref r), some (.ref p), some (.int most), some (.bl one), some (.int many), some (.int often), some (.ref q), some (.ref d), some (.ref st), some (.int loose), some (.int (0 + i)), some (.ref e), some (.int (j : Int)), v13] ∧
          H' e = some (.lst (xs.map oV)) ∧ RwI K r H p R q a b d st s0 s1 H' R0 R1 d0 d1, ?_, ?_⟩
        · refine ⟨_, rfl, _, rfl, d, _, _, _, rfl, rfl, SqL.of I10.hd, gd, rfl, _, rfl, ?_⟩
          refine ite2 (fun hc => ?_) (fun hc => iteF ⟨d0, d1, rfl, hxe, I10⟩)
          refine ⟨_, rfl, r, _, rfl, by decide, I10.row, fun x H11 x0 x1 row11 k11 => ?_⟩
          have I11 := I10.go S row11 k11
          refine ⟨rfl, _, rfl, ?_⟩
          refine ite2 (fun hc2 => ?_) (fun hc2 => ⟨d0, d1, rfl, k11 _ _ er hxe, I11⟩)
          refine ⟨_, rfl, r, _, rfl, by decide, I11.row, fun y H12 y0 y1 row12 k12 => ?_⟩
          have I12 := I11.go S row12 k12
          refine ⟨_, _, rfl, rfl, _, rfl, _, rfl, d, _, _, j, rfl, rfl, I12.hd, ixN_of rfl hj, ?_⟩
          have hj' : j = 0 ∨ j = 1 := by omega
          have he12 := k12 _ _ er (k11 _ _ er hxe)
          rcases hj' with rfl | rfl
          · exact ⟨1 + y, d1, rfl, by rw [upd_ne ed]; exact he12, I12.setd S (by omega) I12.nd1⟩
          · exact ⟨d0, 1 + y, rfl, by rw [upd_ne ed]; exact he12, I12.setd S I12.nd0 (by omega)⟩
        · rintro σ' H13 ⟨d0, d1, rfl, he13, I13⟩
          obtain ⟨t2, tj2, u2, l', m', dj2, sj', g12, gt2, gtj2, gd2, dj02, gs2, way'⟩ := I13.road hj
          have hlm' : l' = l ∧ m' = m ∧ sj' = sj := by
            rcases way with ⟨w1, w2, w3, w4, _⟩ | ⟨w1, w2, w3, w4, _⟩ <;> rcases way' with ⟨u1, u2, u3, u4, _⟩ | ⟨u1, u2, u3, u4, _⟩ <;> first | omega | exact ⟨by rw [u2, w2], by rw [u3, w3], by rw [u4, w4]⟩
          obtain ⟨rfl, rfl, rfl⟩ := hlm'
          -- late_here
          refine ⟨fun σ' H' => ∃ (x : Int), σ' = [some (.ref r), some (.ref p), some (.int most), some (.bl one), some (.int many), some (.int often), some (.ref q), some (.ref d), some (.ref st), some (.int loose), some (.int (0 + i)), some (.ref e), some (.int (j : Int)), some (.int x)] ∧
            H' e = some (.lst (xs.map oV)) ∧ l' ≤ x ∧ x ≤ m' ∧ RwI K r H p R q a b d st s0 s1 H' R0 R1 d0 d1, ?_, ?_⟩
          · refine ⟨_, rfl, rfl, _, rfl, ?_⟩
            refine ite2 (fun hc => ?_) (fun hc => ?_)
            · refine ⟨_, rfl, _, rfl, _, rfl, p, _, _, _, rfl, rfl, SqT.of g12, gt2, r, tj2, _, _, rfl, I13.row, gtj2, slm.2.2, fun x H14 x0 x1 row14 k14 => ?_⟩
              exact ⟨x, rfl, k14 _ _ er he13, x0, x1, I13.go S row14 k14⟩
            · refine ⟨_, rfl, _, rfl, st, _, _, _, rfl, rfl, SqL.of I13.hs, gs2, ?_⟩
              exact ⟨sj', rfl, he13, slm.1, slm.2.1, I13⟩
          · rintro σ' H14 ⟨x, rfl, he14, x0, x1, I14⟩
            -- lates.append(..)
            refine ⟨fun σ' H' => ∃ (y : Lt), σ' = [some (.ref r), some (.ref p), some (.int most), some (.bl one), some (.int many), some (.int often), some (.ref q), some (.ref d), some (.ref st), some (.int loose), some (.int (0 + i)), some (.ref e), some (.int (j : Int)), some (.int x)] ∧
              H' e = some (.lst ((xs ++ [y]).map oV)) ∧ (∀ v, y = some v → l' ≤ v ∧ v ≤ m') ∧ RwI K r H p R q a b d st s0 s1 H' R0 R1 d0 d1, ?_, ?_⟩
            · have put : ∀ (y : Lt) H', H' e = some (.lst (xs.map oV)) → (∀ v, y = some v → l' ≤ v ∧ v ≤ m') → RwI K r H p R q a b d st s0 s1 H' R0 R1 d0 d1 →
                  ∃ (y' : Lt), ([some (.ref r), some (.ref p), some (.int most), some (.bl one), some (.int many), some (.int often), some (.ref q), some (.ref d), some (.ref st), some (.int loose), some (.int (0 + i)), some (.ref e), some (.int (j : Int)), some (.int x)] : L2.St) = [some (.ref r), some (.ref p), some (.int most), some (.bl one), some (.int many), some (.int often), some (.ref q), some (.ref d), some (.ref st), some (.int loose), some (.int (0 + i)), some (.ref e), some (.int (j : Int)), some (.int x)] ∧
                  (upd H' e (.lst (xs.map oV ++ [oV y]))) e = some (.lst ((xs ++ [y']).map oV)) ∧ (∀ v, y' = some v → l' ≤ v ∧ v ≤ m') ∧ RwI K r H p R q a b d st s0 s1 (upd H' e (.lst (xs.map oV ++ [oV y]))) R0 R1 d0 d1 :=
                fun y H' g hy I => ⟨y, rfl, by rw [upd_same, List.map_append]; rfl, hy, I.put S g fe er ea eb ed es⟩
              have len : (xs.map oV).length < sizeLine := small1000 (by rw [List.length_map]; omega)
              refine ⟨_, rfl, .inl ⟨rfl, _, SqL.of he14⟩, ?_⟩
              refine ⟨_, rfl, _, rfl, d, _, _, _, rfl, rfl, SqL.of I14.hd, gd2, _, _, rfl, rfl, _, rfl, ?_⟩
              refine ite2 (fun hc => ?_) (fun hc => ?_)
              · refine iteT ⟨e, _, _, rfl, rfl, he14, len, put none _ he14 (fun v h => by cases h) I14⟩
              · refine ⟨_, rfl, _, rfl, r, _, rfl, often0, I14.row, fun z H15 z0 z1 row15 k15 => ?_⟩
                have I15 := I14.go S row15 k15
                have he15 := k15 _ _ er he14
                refine ⟨rfl, _, rfl, ?_⟩
                refine ite2 (fun hc2 => ?_) (fun hc2 => ?_)
                · exact ⟨e, _, _, rfl, rfl, he15, len, put none _ he15 (fun v h => by cases h) I15⟩
                · exact ⟨_, rfl, e, _, _, rfl, rfl, he15, len, put (some x) _ he15 (fun v h => by cases h; exact ⟨x0, x1⟩) I15⟩
            · rintro σ' H15 ⟨y, rfl, he15, hy, I15⟩
              -- down[road] = max(0, down[road] - 1)
              refine ⟨_, rfl, _, rfl, d, _, _, _, rfl, rfl, SqL.of I15.hd, gd2, _, _, rfl, rfl, _, _, rfl, _, rfl, _, rfl, d, _, _, j, rfl, rfl, I15.hd, ixN_of rfl hj, ?_⟩
              have g0 : 0 ≤ (if dj2 - 1 > 0 then dj2 - 1 else 0) := by split <;> omega
              have hxs : ∀ (kk : Nat) v, (xs ++ [y])[kk]? = some (some v) → (kk < j ∧ xs[kk]? = some (some v)) ∨ (kk = j ∧ y = some v) := fun kk v h => by
                by_cases hk : kk < xs.length
                · rw [List.getElem?_append_left hk] at h
                  exact .inl ⟨by omega, h⟩
                · rw [List.getElem?_append_right (by omega)] at h
                  have : kk - xs.length = 0 := by
                    cases hz : kk - xs.length with
                    | zero => rfl
                    | succ n => rw [hz] at h; simp at h
                  rw [this] at h
                  exact .inr ⟨by omega, by simpa using h⟩
              have h0 : ∀ v, (xs ++ [y])[0]? = some (some v) → R.l0 ≤ v ∧ v ≤ R.m0 := fun v h => by
                rcases hxs 0 v h with ⟨_, h⟩ | ⟨h1, h2⟩
                · exact hx0 v h
                · rcases way with ⟨w1, w2, w3, _⟩ | ⟨w1, _⟩
                  · rw [← w2, ← w3]; exact hy v h2
                  · omega
              have h1 : ∀ v, (xs ++ [y])[1]? = some (some v) → R.l1 ≤ v ∧ v ≤ R.m1 := fun v h => by
                rcases hxs 1 v h with ⟨_, h⟩ | ⟨h1, h2⟩
                · exact hx1 v h
                · rcases way with ⟨w1, _⟩ | ⟨w1, w2, w3, _⟩
                  · omega
                  · rw [← w2, ← w3]; exact hy v h2
              have hj' : j = 0 ∨ j = 1 := by omega
              rcases hj' with rfl | rfl
              · exact ⟨xs ++ [y], _, d1, _, _, rfl, by rw [List.length_append, hxl]; rfl, by rw [upd_ne ed]; exact he15, h0, h1, I15.setd S g0 I15.nd1⟩
              · exact ⟨xs ++ [y], d0, _, _, _, rfl, by rw [List.length_append, hxl]; rfl, by rw [upd_ne ed]; exact he15, h0, h1, I15.setd S I15.nd0 g0⟩
      · rintro σ H10 ⟨xs, d0, d1, v12, v13, rfl, hxl, hxe, hx0, hx1, I10⟩
        obtain ⟨x, y, rfl⟩ := len2 hxl
        have x0 : ∀ v, x = some v → R.l0 ≤ v ∧ v ≤ R.m0 := fun v h => hx0 v (by rw [h]; rfl)
        have y0 : ∀ v, y = some v → R.l1 ≤ v ∧ v ≤ R.m1 := fun v h => hx1 v (by rw [h]; rfl)
        -- if one and lates == [None, None]: ..
        refine ⟨fun σ' H' => ∃ (x y : Lt) (v12 : Option V), σ' = [some (.ref r), some (.ref p), some (.int most), some (.bl one), some (.int many), some (.int often), some (.ref q), some (.ref d), some (.ref st), some (.int loose), some (.int (0 + i)), some (.ref e), v12, v13] ∧
          H' e = some (.lst [oV x, oV y]) ∧ (∀ v, x = some v → R.l0 ≤ v ∧ v ≤ R.m0) ∧ (∀ v, y = some v → R.l1 ≤ v ∧ v ≤ R.m1) ∧ (one = true → x = none → y = none → False) ∧ RwI K r H p R q a b d st s0 s1 H' R0 R1 d0 d1, ?_, ?_⟩
        · refine ⟨_, rfl, _, rfl, ?_⟩
          refine ite2 (fun hc => ?_) (fun hc => ?_)
          · refine ⟨_, rfl, by show 2 ≤ sizeLine; decide, fun pn hpn => ?_⟩
            have I11 := I10.new (o := .lst [.non, .non]) S hpn
            have he11 : (upd H10 pn (.lst [.non, .non])) e = some (.lst [oV x, oV y]) := by rw [upd_ne (ne_of_none hxe hpn)]; exact hxe
            have hsh : SeqAt.shaped (.list [oD x, oD y]) = true := by cases x <;> cases y <;> rfl
            have hev : PyData.eqv (.list [oD x, oD y]) (.list [.none, .none]) = true → (x = none ∧ y = none) := by cases x <;> cases y <;> first | (intro _; exact ⟨rfl, rfl⟩) | (intro z; exact absurd (show false = true from z) Bool.false_ne_true)
            have hev2 : PyData.eqv (.list [oD x, oD y]) (.list [.none, .none]) = false → ¬ (x = none ∧ y = none) := fun z h => by
              rw [h.1, h.2] at z
              revert z
              decide
            refine ⟨.list [oD x, oD y], .list [.none, .none], .lst (SqL.of he11) (.cons (dp_o x) (.cons (dp_o y) .nil)), .lst (SqL.of upd_same) (.cons .non (.cons .non .nil)), hsh, rfl, _, rfl, ?_⟩
            cases hb : PyData.eqv (.list [oD x, oD y]) (.list [.none, .none]) with
            | false =>
              refine iteF ⟨x, y, v12, rfl, he11, x0, y0, fun _ a b => hev2 hb ⟨a, b⟩, I11⟩
            | true =>
              obtain ⟨rfl, rfl⟩ := hev hb
              refine iteT ?_
              refine ⟨_, rfl, r, _, rfl, by decide, I11.row, fun ji H12 ji0 ji1 row12 k12 => ?_⟩
              have I12 := I11.go S row12 k12
              obtain ⟨j, rfl⟩ := Int.eq_ofNat_of_zero_le ji0
              have hj : j < 2 := by omega
              obtain ⟨t, tj, u, l, m, dj, sj, g1, gt, gtj, gd, dj0, gs, way⟩ := I12.road hj
              have slm : l ≤ m := by
                rcases way with ⟨_, rfl, rfl, _⟩ | ⟨_, rfl, rfl, _⟩
                · exact FF.r0
                · exact FF.r1
              refine ⟨_, rfl, _, rfl, _, rfl, p, _, _, _, rfl, rfl, SqT.of g1, gt, r, tj, _, _, rfl, I12.row, gtj, slm, fun z H13 z0 z1 row13 k13 => ?_⟩
              have I13 := I12.go S row13 k13
              have he13 := k13 _ _ er (k12 _ _ er he11)
              refine ⟨_, rfl, _, rfl, e, _, _, j, rfl, rfl, he13, ixN_of rfl hj, ?_⟩
              have I14 := I13.put (o := .lst ([oV none, oV none].set j (.int z))) S he13 fe er ea eb ed es
              have hj' : j = 0 ∨ j = 1 := by omega
              rcases hj' with rfl | rfl
              · rcases way with ⟨_, rfl, rfl, _⟩ | ⟨w, _⟩
                · exact ⟨some z, none, _, rfl, upd_same, fun v h => (by cases h; exact ⟨z0, z1⟩), y0, fun _ h _ => (by cases h), I14⟩
                · omega
              · rcases way with ⟨w, _⟩ | ⟨_, rfl, rfl, _⟩
                · omega
                · exact ⟨none, some z, _, rfl, upd_same, x0, fun v h => (by cases h; exact ⟨z0, z1⟩), fun _ _ h => (by cases h), I14⟩
          · exact iteF ⟨x, y, v12, rfl, hxe, x0, y0, fun h => absurd h hc, I10⟩
        · rintro σ' H11 ⟨x, y, v12, rfl, he11, x0, y0, hxy, I11⟩
          refine ⟨_, rfl, q, _, _, _, rfl, rfl, SqT.of I11.hq, at0, .inl ⟨rfl, _, SqL.of I11.ha⟩, _, rfl, e, _, _, _, rfl, rfl, SqL.of he11, at0, a, _, _, rfl, rfl, I11.ha, small1000 (by rw [List.length_map]; omega), ?_⟩
          have ea0 : R0.map oV ++ [oV x] = (R0 ++ [x]).map oV := by rw [List.map_append]; rfl
          rw [ea0]
          have I12 := I11.seta (Y := R0 ++ [x]) S
          have he12 : (upd H11 a (.lst ((R0 ++ [x]).map oV))) e = some (.lst [oV x, oV y]) := by rw [upd_ne ea]; exact he11
          refine ⟨_, rfl, q, _, _, _, rfl, rfl, SqT.of I12.hq, at1, .inl ⟨rfl, _, SqL.of I12.hb⟩, _, rfl, e, _, _, _, rfl, rfl, SqL.of he12, at1, b, _, _, rfl, rfl, I12.hb, small1000 (by rw [List.length_map]; omega), ?_⟩
          have eb0 : R1.map oV ++ [oV y] = (R1 ++ [y]).map oV := by rw [List.map_append]; rfl
          rw [eb0]
          have I13 := I12.setb (Y := R1 ++ [y]) S
          refine ⟨R0 ++ [x], R1 ++ [y], d0, d1, _, _, _, _, rfl, by rw [List.length_append, hl0]; rfl, by rw [List.length_append, hl1]; rfl, f0.snoc x0, f1.snoc y0, fun h1 kk g0 g1 => ?_, I13⟩
          by_cases hk : kk < i
          · rw [List.getElem?_append_left (by omega)] at g0 g1
            exact hone h1 kk g0 g1
          · have hk2 : kk = i := by
              have := (List.getElem?_eq_some_iff.mp g0).1
              rw [List.length_append, hl0] at this
              have h2 : [x].length = 1 := rfl
              omega
            subst hk2
            rw [List.getElem?_append_right (by omega), hl0, Nat.sub_self] at g0
            rw [List.getElem?_append_right (by omega), hl1, Nat.sub_self] at g1
            exact hxy h1 (Option.some.inj g0) (Option.some.inj g1)
    · -- return found
      rintro σ H8 ⟨R0, R1, d0, d1, v10, v11, v12, v13, rfl, hl0, hl1, f0, f1, hone, I8⟩
      refine ⟨_, rfl, ?_⟩
      exact k q a b R0 R1 H8 ⟨I8.hq, I8.ha, I8.hb, S.ab⟩ (by rw [hl0, hl1]) (by rw [hl0]; omega) f0 f1 hone fq fa fb I8.row I8.kp
end
/-! ### _law_alike: two values of one shape -/
inductive Lk (K : PySem.W.Frag) (H : Hp) : Nat → V → V → Prop
  | non {n : Nat} : Lk K H (n + 1) .non .non
  | bl {n : Nat} (b : Bool) : Lk K H (n + 1) (.bl b) (.bl b)
  | int {n : Nat} (i : Int) : Lk K H (n + 1) (.int i) (.int i)
  | str {n : Nat} (x : Str) : Lk K H (n + 1) (.str x) (.str x)
  | lst {n : Nat} {a b : Addr} {xs ys : List V} : SqL K H a xs → SqL K H b ys → xs.length = ys.length → xs.length ≤ 100000 → (∀ (i : Nat) x y, xs[i]? = some x → ys[i]? = some y → Lk K H n x y) → Lk K H (n + 1) (.ref a) (.ref b)
  | tup {n : Nat} {a b : Addr} {xs ys : List V} : SqT K H a xs → SqT K H b ys → xs.length = ys.length → xs.length ≤ 100000 → (∀ (i : Nat) x y, xs[i]? = some x → ys[i]? = some y → Lk K H n x y) → Lk K H (n + 1) (.ref a) (.ref b)
theorem Lk.same {K : PySem.W.Frag} {H H' : Hp} (s : Same H H') : ∀ {n : Nat} {x y : V}, Lk K H n x y → Lk K H' n x y := by
  intro n x y h
  induction h with
  | non => exact .non
  | bl b => exact .bl b
  | int i => exact .int i
  | str z => exact .str z
  | lst h1 h2 h3 h4 h5 ih => exact .lst (s.seq h1) (s.seq h2) h3 h4 ih
  | tup h1 h2 h3 h4 h5 ih => exact .tup (s.sqt h1) (s.sqt h2) h3 h4 ih
theorem tyx_l {K : PySem.W.Frag} {H : Hp} {a : Addr} {xs : List V} (h : SqL K H a xs) : TyX K H (.ref a) (.type "list") := by
  rcases h with (h | ⟨o, h⟩) | ⟨o, its, n, h, c, _⟩
  · exact .base (.lst h)
  · exact .base (.frz h)
  · exact .kList h c
theorem tyx_t {K : PySem.W.Frag} {H : Hp} {a : Addr} {xs : List V} (h : SqT K H a xs) : TyX K H (.ref a) (.type "tuple") := by
  rcases h with (h | ⟨o, h⟩) | ⟨o, its, n, h, c, _⟩
  · exact .base (.tup h)
  · exact .fTuple h
  · exact .kTuple h c
def spAlike (K : PySem.W.Frag) (n : Nat) : Sp := fun vs H Q _ => ∃ x y : V, vs = [x, y] ∧ Lk K H n x y ∧ ∀ H', Same H H' → Q (.bl true) H'
section
variable {P : Program} {w : World} {K : PySem.W.Frag} {mg : Str → Option Value} {base : Heap}
theorem ok_alike0 (T : Txt K mg) : FnOk P w K mg base CX0 1 T.f_Lalike T.fd_Lalike P_Lalike (spAlike K 0) :=
  ⟨fun vs H Q E h => (by
    obtain ⟨x, y, _, h, _⟩ := h
    cases h), fun A outer s H args us vs Q E hr he hb hv h => (by
    obtain ⟨x, y, _, h, _⟩ := h
    cases h)⟩
theorem kit2 {K : PySem.W.Frag} {a : String} {r1 r2 : Bool} (h1 : kitB a "tuple" = some r1) (h2 : kitB a "list" = some r2) : PySem.W.kitAny K (.type a) [.type "tuple", .type "list"] = some (r1 || r2) :=
  kitAny_cons (kit_ty h1) (fun e => kitAny_cons (kit_ty h2) (fun e2 => by rw [e, e2]; exact kitAny_nil) (fun e2 => by rw [e2, Bool.or_true])) fun e => by rw [e, Bool.true_or]
theorem ok_alikeS (T : Txt K mg) {n : Nat} (IH : FnOk P w K mg base CX0 (n + 1) T.f_Lalike T.fd_Lalike P_Lalike (spAlike K n)) : FnOk P w K mg base CX0 (n + 2) T.f_Lalike T.fd_Lalike P_Lalike (spAlike K (n + 1)) := by
  refine T.F_Lalike.ok (k := n + 1) sc_Lalike (fun vs H Q E h => ?_) (fun cdv A outer s H vs Q E hr h => ?_)
  · obtain ⟨x, y, rfl, _⟩ := h
    rfl
  · obtain ⟨x, y, rfl, hk, k⟩ := h
    refine ⟨_, ((pss_cons (ps_if (PW.pt (pw_or (pt_val (pe_callB call_isi (by rfl) T.z_isinstance (by decide +kernel) (pa_cons (pv 1) (pa_cons (pe_bltn (v := .ty "tuple") rfl T.z_tuple (by decide +kernel) rfl) pa_nil)))) (pw_or1 (pt_val (pe_callB call_isi (by rfl) T.z_isinstance (by decide +kernel) (pa_cons (pv 1) (pa_cons (pe_bltn (v := .ty "list") rfl T.z_list (by decide +kernel) rfl) pa_nil))))))) (pss_cons (ps_if (PW.pt (pw_or (pt_cmpR op_ne (pe_callB call_isi (by rfl) T.z_isinstance (by decide +kernel) (pa_cons (pv 0) (pa_cons (pe_bltn (v := .ty "tuple") rfl T.z_tuple (by decide +kernel) rfl) pa_nil))) (pe_callB call_isi (by rfl) T.z_isinstance (by decide +kernel) (pa_cons (pv 1) (pa_cons (pe_bltn (v := .ty "tuple") rfl T.z_tuple (by decide +kernel) rfl) pa_nil))) (nomark _)) (pw_or1 (pt_not (pt_val (pe_callB call_isiT (by rfl) T.z_isinstance (by decide +kernel) (pa_cons (pv 0) (pa_cons (pe_tup (pa_cons (pe_bltn (v := .ty "tuple") rfl T.z_tuple (by decide +kernel) rfl) (pa_cons (pe_bltn (v := .ty "list") rfl T.z_list (by decide +kernel) rfl) pa_nil))) pa_nil)))))))) (pss_one (ps_ret pe_bl)) pss_nil)
  (pss_cons (ps_if (pt_cmpR op_ne (pe_callB call_len_seq (by rfl) T.z_len (by decide +kernel) (pa_cons (pv 0) pa_nil)) (pe_callB call_len_seq (by rfl) T.z_len (by decide +kernel) (pa_cons (pv 1) pa_nil)) (nomark _)) (pss_one (ps_ret pe_bl)) pss_nil)
  (pss_one (ps_ret (pe_cmpR (op_eqD hr.units) (pe_lc (own := [("_law_k", 2)]) (g := gName 2) rfl sc_Lalike.nd (pi_range1 (by rfl) T.z_range (pa_cons (pe_callB call_len_seq (by rfl) T.z_len (by decide +kernel) (pa_cons (pv 1) pa_nil)) pa_nil)) (blkOk_by (N := N_Lalike) (sc := (defScope s_Lalike)) (own := [("_law_k", 2)]) (by decide +kernel)) (fun _ _ _ _ _ => (pg_name (i := 2) sc_Lalike.nd rfl (Or.inl rfl))) (fun _ _ _ _ _ => pts_one (pt_not (pt_val (pe_call IH hr (by rfl) T.mg_Lalike T.kp_Lalike T.b_Lalike .nil pass0 (pa_cons (pe_ix (ixK_seq (K := K) rfl) (pv 0) (pv 2) (fun _ _ => rfl)) (pa_cons (pe_ix (ixK_seq (K := K) rfl) (pv 1) (pv 2) (fun _ _ => rfl)) pa_nil)))))) (fun _ _ _ _ _ => (pv 2))) (pe_lst pa_nil) (nomark _)))))) pss_nil)
  (pss_cons (ps_if (PW.pt (pw_or (pt_cmp (pc_isN (pv 1))) (pw_or1 (pt_cmp (pc_isN (pv 0)))))) (pss_one (ps_ret (pe_and (pe_cmp (pc_isN (pv 1)) rfl) (pe_one (pe_cmp (pc_isN (pv 0)) rfl))))) pss_nil)
  (pss_cons (ps_if (PW.pt (pw_or (pt_val (pe_callB call_isi (by rfl) T.z_isinstance (by decide +kernel) (pa_cons (pv 1) (pa_cons (pe_bltn (v := .ty "bool") rfl T.z_bool (by decide +kernel) rfl) pa_nil)))) (pw_or1 (pt_val (pe_callB call_isi (by rfl) T.z_isinstance (by decide +kernel) (pa_cons (pv 0) (pa_cons (pe_bltn (v := .ty "bool") rfl T.z_bool (by decide +kernel) rfl) pa_nil))))))) (pss_one (ps_ret (pe_and (pe_callB call_isi (by rfl) T.z_isinstance (by decide +kernel) (pa_cons (pv 1) (pa_cons (pe_bltn (v := .ty "bool") rfl T.z_bool (by decide +kernel) rfl) pa_nil))) (pe_and (pe_callB call_isi (by rfl) T.z_isinstance (by decide +kernel) (pa_cons (pv 0) (pa_cons (pe_bltn (v := .ty "bool") rfl T.z_bool (by decide +kernel) rfl) pa_nil))) (pe_one (pe_cmpR op_eq (pv 0) (pv 1) (nomark _))))))) pss_nil)
  (pss_cons (ps_if (pt_val (pe_callB call_isi (by rfl) T.z_isinstance (by decide +kernel) (pa_cons (pv 1) (pa_cons (pe_bltn (v := .ty "str") rfl T.z_str (by decide +kernel) rfl) pa_nil)))) (pss_one (ps_ret (pe_and (pe_callB call_isi (by rfl) T.z_isinstance (by decide +kernel) (pa_cons (pv 0) (pa_cons (pe_bltn (v := .ty "str") rfl T.z_str (by decide +kernel) rfl) pa_nil))) (pe_one (pe_cmpR op_eq (pv 0) (pv 1) (nomark _)))))) pss_nil)
  (pss_one (ps_ret (pe_and (pe_callB call_isi (by rfl) T.z_isinstance (by decide +kernel) (pa_cons (pv 0) (pa_cons (pe_bltn (v := .ty "int") rfl T.z_int (by decide +kernel) rfl) pa_nil))) (pe_one (pe_cmpR op_eq (pv 0) (pv 1) (nomark _))))))))))), ?_⟩
    cases hk with
    | non =>
      refine ⟨_, rfl, _, _, _, _, false, rfl, .ty _, .base .non, kit_ty (by decide +kernel), _, rfl, iteF ?_⟩
      refine ⟨_, rfl, _, _, _, _, false, rfl, .ty _, .base .non, kit_ty (by decide +kernel), _, rfl, iteF ?_⟩
      refine ⟨_, rfl, _, rfl, iteT (iteT ?_)⟩
      exact ⟨_, rfl, _, rfl, iteT ⟨_, rfl, k H (Same.refl H)⟩⟩
    | bl b =>
      refine ⟨_, rfl, _, _, _, _, false, rfl, .ty _, .base (.bl _), kit_ty (by decide +kernel), _, rfl, iteF ?_⟩
      refine ⟨_, rfl, _, _, _, _, false, rfl, .ty _, .base (.bl _), kit_ty (by decide +kernel), _, rfl, iteF ?_⟩
      refine ⟨_, rfl, _, rfl, iteF ⟨_, rfl, _, rfl, iteF ?_⟩⟩
      refine ⟨_, rfl, _, _, _, _, true, rfl, .ty _, .base (.bl _), kit_ty (by decide +kernel), _, rfl, iteT (iteT ?_)⟩
      refine ⟨_, rfl, _, _, _, _, true, rfl, .ty _, .base (.bl _), kit_ty (by decide +kernel), _, rfl, iteT ?_⟩
      refine ⟨_, rfl, _, _, _, _, true, rfl, .ty _, .base (.bl _), kit_ty (by decide +kernel), _, rfl, iteT ?_⟩
      refine ⟨_, rfl, _, rfl, rfl, ?_⟩
      rw [decide_eq_true rfl]
      exact k H (Same.refl H)
    | int i =>
      refine ⟨_, rfl, _, _, _, _, false, rfl, .ty _, .base (.int _), kit_ty (by decide +kernel), _, rfl, iteF ?_⟩
      refine ⟨_, rfl, _, _, _, _, false, rfl, .ty _, .base (.int _), kit_ty (by decide +kernel), _, rfl, iteF ?_⟩
      refine ⟨_, rfl, _, rfl, iteF ⟨_, rfl, _, rfl, iteF ?_⟩⟩
      refine ⟨_, rfl, _, _, _, _, false, rfl, .ty _, .base (.int _), kit_ty (by decide +kernel), _, rfl, iteF ?_⟩
      refine ⟨_, rfl, _, _, _, _, false, rfl, .ty _, .base (.int _), kit_ty (by decide +kernel), _, rfl, iteF ?_⟩
      refine ⟨_, rfl, _, _, _, _, false, rfl, .ty _, .base (.int _), kit_ty (by decide +kernel), _, rfl, iteF ?_⟩
      refine ⟨_, rfl, _, _, _, _, true, rfl, .ty _, .base (.int _), kit_ty (by decide +kernel), _, rfl, iteT ?_⟩
      refine ⟨_, rfl, _, rfl, rfl, ?_⟩
      rw [decide_eq_true rfl]
      exact k H (Same.refl H)
    | str i =>
      refine ⟨_, rfl, _, _, _, _, false, rfl, .ty _, .base (.str _), kit_ty (by decide +kernel), _, rfl, iteF ?_⟩
      refine ⟨_, rfl, _, _, _, _, false, rfl, .ty _, .base (.str _), kit_ty (by decide +kernel), _, rfl, iteF ?_⟩
      refine ⟨_, rfl, _, rfl, iteF ⟨_, rfl, _, rfl, iteF ?_⟩⟩
      refine ⟨_, rfl, _, _, _, _, false, rfl, .ty _, .base (.str _), kit_ty (by decide +kernel), _, rfl, iteF ?_⟩
      refine ⟨_, rfl, _, _, _, _, false, rfl, .ty _, .base (.str _), kit_ty (by decide +kernel), _, rfl, iteF ?_⟩
      refine ⟨_, rfl, _, _, _, _, true, rfl, .ty _, .base (.str _), kit_ty (by decide +kernel), _, rfl, iteT ?_⟩
      refine ⟨_, rfl, _, _, _, _, true, rfl, .ty _, .base (.str _), kit_ty (by decide +kernel), _, rfl, iteT ?_⟩
      refine ⟨_, rfl, _, rfl, rfl, ?_⟩
      rw [decide_eq_true rfl]
      exact k H (Same.refl H)
    | @lst _ a b xs ys h1 h2 h3 h4 h5 =>
      refine ⟨_, rfl, _, _, _, _, false, rfl, .ty _, tyx_l h2, kit_ty (by decide +kernel), _, rfl, iteF ?_⟩
      refine ⟨_, rfl, _, _, _, _, true, rfl, .ty _, tyx_l h2, kit_ty (by decide +kernel), _, rfl, iteT ?_⟩
      refine ⟨_, rfl, _, _, _, _, false, rfl, .ty _, tyx_l h1, kit_ty (by decide +kernel), ?_⟩
      refine ⟨_, rfl, _, _, _, _, false, rfl, .ty _, tyx_l h2, kit_ty (by decide +kernel), rfl, _, rfl, iteF ?_⟩
      refine ⟨_, rfl, by show 2 ≤ sizeLine; decide, fun tp htp => ?_⟩
      have s1 : Same H (upd H tp (.tup [.ty "tuple", .ty "list"])) := Same.upd_new htp
      refine ⟨_, tp, _, _, _, true, rfl, upd_same, .cons (.ty _) (.cons (.ty _) .nil), tyx_l (s1.seq h1), kit2 (r1 := false) (r2 := true) (by decide +kernel) (by decide +kernel), _, rfl, iteF ?_⟩
      have g1 := s1.seq h1
      have g2 := s1.seq h2
      refine ⟨_, rfl, a, _, rfl, .inl g1, _, rfl, b, _, rfl, .inl g2, rfl, _, rfl, iteNS (by rw [h3]) ?_⟩
      refine ⟨_, rfl, b, _, rfl, .inl g2, _, rfl, by omega, by omega, fun D hD => lc_range (lo := 0) (n := ((ys.length : Int)).toNat) (fun i H' => Same H H' ∧ H' D = some (.lst [])) ⟨s1.new hD, upd_same⟩ ?_ ?_⟩
      · rintro i H2 hi ⟨s2, hD2⟩
        have hi' : i < ys.length := by omega
        have e0 : (0 : Int) + (i : Int) = (i : Int) := Int.zero_add _
        have q1 : xs[i]? = some xs[i] := List.getElem?_eq_getElem (by omega)
        have q2 : ys[i]? = some ys[i] := List.getElem?_eq_getElem (by omega)
        refine ⟨rfl, ⟨_, rfl, _, rfl, .inl ⟨a, _, _, _, rfl, rfl, s2.seq h1, at_of e0 q1, _, rfl, _, rfl, .inl ⟨b, _, _, _, rfl, rfl, s2.seq h2, at_of e0 q2, _, _, rfl, (h5 i _ _ q1 q2).same s2, fun H3 s3 => ⟨_, rfl, iteF ⟨s2.trans s3, s3 _ _ hD2⟩⟩⟩⟩⟩⟩
      · rintro H2 ⟨s2, hD2⟩
        refine ⟨by show 0 ≤ sizeLine; decide, fun l hl => ?_⟩
        refine ⟨.list [], .list [], .lst (SqL.of (by rw [upd_ne (ne_of_none hD2 hl)]; exact hD2)) .nil, .lst (SqL.of upd_same) .nil, rfl, rfl, ?_⟩
        exact k _ (s2.new hl)
    | @tup _ a b xs ys h1 h2 h3 h4 h5 =>
      refine ⟨_, rfl, _, _, _, _, true, rfl, .ty _, tyx_t h2, kit_ty (by decide +kernel), _, rfl, iteT (iteT ?_)⟩
      refine ⟨_, rfl, _, _, _, _, true, rfl, .ty _, tyx_t h1, kit_ty (by decide +kernel), ?_⟩
      refine ⟨_, rfl, _, _, _, _, true, rfl, .ty _, tyx_t h2, kit_ty (by decide +kernel), rfl, _, rfl, iteF ?_⟩
      refine ⟨_, rfl, by show 2 ≤ sizeLine; decide, fun tp htp => ?_⟩
      have s1 : Same H (upd H tp (.tup [.ty "tuple", .ty "list"])) := Same.upd_new htp
      refine ⟨_, tp, _, _, _, true, rfl, upd_same, .cons (.ty _) (.cons (.ty _) .nil), tyx_t (s1.sqt h1), kit2 (r1 := true) (r2 := false) (by decide +kernel) (by decide +kernel), _, rfl, iteF ?_⟩
      have g1 := s1.sqt h1
      have g2 := s1.sqt h2
      refine ⟨_, rfl, a, _, rfl, .inr g1, _, rfl, b, _, rfl, .inr g2, rfl, _, rfl, iteNS (by rw [h3]) ?_⟩
      refine ⟨_, rfl, b, _, rfl, .inr g2, _, rfl, by omega, by omega, fun D hD => lc_range (lo := 0) (n := ((ys.length : Int)).toNat) (fun i H' => Same H H' ∧ H' D = some (.lst [])) ⟨s1.new hD, upd_same⟩ ?_ ?_⟩
      · rintro i H2 hi ⟨s2, hD2⟩
        have hi' : i < ys.length := by omega
        have e0 : (0 : Int) + (i : Int) = (i : Int) := Int.zero_add _
        have q1 : xs[i]? = some xs[i] := List.getElem?_eq_getElem (by omega)
        have q2 : ys[i]? = some ys[i] := List.getElem?_eq_getElem (by omega)
        refine ⟨rfl, ⟨_, rfl, _, rfl, .inr (.inl ⟨a, _, _, _, rfl, rfl, s2.sqt h1, at_of e0 q1, _, rfl, _, rfl, .inr (.inl ⟨b, _, _, _, rfl, rfl, s2.sqt h2, at_of e0 q2, _, _, rfl, (h5 i _ _ q1 q2).same s2, fun H3 s3 => ⟨_, rfl, iteF ⟨s2.trans s3, s3 _ _ hD2⟩⟩⟩)⟩)⟩⟩
      · rintro H2 ⟨s2, hD2⟩
        refine ⟨by show 0 ≤ sizeLine; decide, fun l hl => ?_⟩
        refine ⟨.list [], .list [], .lst (SqL.of (by rw [upd_ne (ne_of_none hD2 hl)]; exact hD2)) .nil, .lst (SqL.of upd_same) .nil, rfl, rfl, ?_⟩
        exact k _ (s2.new hl)
theorem ok_Lalike (T : Txt K mg) : ∀ n : Nat, FnOk P w K mg base CX0 (n + 1) T.f_Lalike T.fd_Lalike P_Lalike (spAlike K n)
  | 0 => ok_alike0 T
  | n + 1 => ok_alikeS T (ok_Lalike T n)
end
/-! ### need_roads, need_rows of good ones: nothing is refused -/
def spNeedRoads : Sp := fun vs H Q _ => ∃ (p : Addr) (R : Rds), vs = [.ref p] ∧ RoadsAt H p R ∧ R.Ok ∧ Q .non H
def spNeedRows (K : PySem.W.Frag) : Sp := fun vs H Q _ => ∃ (p q a b : Addr) (R : Rds) (R0 R1 : List Lt), vs = [.ref p, .ref q] ∧ RoadsAt H p R ∧ (SqL K H q [.ref a, .ref b] ∨ SqT K H q [.ref a, .ref b]) ∧
  SqL K H a (R0.map oV) ∧ SqL K H b (R1.map oV) ∧ R0.length = R1.length ∧ R0.length ≤ 80 ∧ Fits R.l0 R.m0 R0 ∧ Fits R.l1 R.m1 R1 ∧ Q .non H
section
variable {P : Program} {w : World} {K : PySem.W.Frag} {mg : Str → Option Value} {base : Heap}
theorem ok_need_roads (T : Txt K mg) : FnOk P w K mg base CX0 1 T.f_need_roads T.fd_need_roads P_need_roads spNeedRoads := by
  refine T.F_need_roads.ok sc_need_roads (fun vs H Q E h => ?_) (fun cdv A outer s H vs Q E hr h => ?_)
  · obtain ⟨p, R, rfl, _⟩ := h
    rfl
  · obtain ⟨p, R, rfl, ⟨t0, t1, g1, g2, g3⟩, ⟨⟨q1, q2, q3⟩, q4, q5, q6⟩, k⟩ := h
    refine ⟨_, ((pss_one (ps_for PassesOwn.never rfl (pi_range1 (by rfl) T.z_range (pa_cons pe_int pa_nil)) (pg_name (i := 1) sc_need_roads.nd rfl (Or.inl rfl))
  (pss_cons (ps_asg (pe_ix ix_tup (pv 0) (pv 1) (fun _ _ => rfl)) (pg_tup rfl (pgs_cons (pg_name (i := 2) sc_need_roads.nd rfl (Or.inl rfl)) (pgs_cons (pg_name (i := 3) sc_need_roads.nd rfl (Or.inl rfl)) pgs_nil))))
  (pss_one (ps_if (pt_not (pt_chain3 op_le op_le op_le pe_int (pv 2) (pv 3) (pe_glob rfl T.mg_MOST_LATE T.rv_MOST_LATE))) (pss_one ps_never) pss_nil)))))), ?_⟩
    refine ⟨_, rfl, by decide, by decide, for_range (n := 2) (fun i σ H' => H' = H ∧ ∃ v1 v2 v3 : Option V, σ = [some (.ref p), v1, v2, v3]) ⟨rfl, none, none, none, rfl⟩ ?_ ?_⟩
    · rintro i σ H1 hi ⟨rfl, v1, v2, v3, rfl⟩
      obtain ⟨t, ha, ht⟩ := road_at (R := R) g2 g3 hi
      obtain ⟨h0, h1, h2⟩ := Rds.ok_at (j := i) ⟨⟨q1, q2, q3⟩, q4, q5, q6⟩
      refine ⟨_, rfl, _, rfl, p, _, _, _, rfl, rfl, SqT.of g1, ha, t, _, rfl, SqT.of ht, rfl, _, _, rfl, _, _, rfl, rfl, ?_⟩
      exact ⟨_, rfl, _, _, rfl, rfl, _, rfl, iteD h0 ⟨_, rfl, _, _, rfl, rfl, _, rfl, iteD h1 ⟨_, _, rfl, rfl, _, rfl, iteNS h2 ⟨rfl, _, _, _, rfl⟩⟩⟩⟩
    · rintro σ H1 ⟨rfl, v1, v2, v3, rfl⟩
      exact k
theorem ok_need_rows (T : Txt K mg) : FnOk P w K mg base CX0 1 T.f_need_rows T.fd_need_rows P_need_rows (spNeedRows K) := by
  refine T.F_need_rows.ok sc_need_rows (fun vs H Q E h => ?_) (fun cdv A outer s H vs Q E hr h => ?_)
  · obtain ⟨p, q, a, b, R, R0, R1, rfl, _⟩ := h
    rfl
  · obtain ⟨p, q, a, b, R, R0, R1, rfl, ⟨t0, t1, g1, g2, g3⟩, hq, ha, hb, hl, h80, f0, f1, k⟩ := h
    refine ⟨_, ((pss_cons (ps_for PassesOwn.never rfl (pi_range1 (by rfl) T.z_range (pa_cons pe_int pa_nil)) (pg_name (i := 2) sc_need_rows.nd rfl (Or.inl rfl))
  (pss_cons (ps_asg (pe_ix ix_tup (pv 0) (pv 2) (fun _ _ => rfl)) (pg_tup rfl (pgs_cons (pg_name (i := 3) sc_need_rows.nd rfl (Or.inl rfl)) (pgs_cons (pg_name (i := 4) sc_need_rows.nd rfl (Or.inl rfl)) pgs_nil))))
  (pss_one (ps_for PassesOwn.never rfl (pi_range1 (by rfl) T.z_range (pa_cons (pe_callB call_len_seq (by rfl) T.z_len (by decide +kernel) (pa_cons (pe_ix ix_seq (pv 1) (pv 2) (fun _ _ => rfl)) pa_nil)) pa_nil)) (pg_name (i := 5) sc_need_rows.nd rfl (Or.inl rfl))
  (pss_cons (ps_set (i := 6) sc_need_rows.nd rfl (Or.inl rfl) (pe_ix ix_list (pe_ix ix_seq (pv 1) (pv 2) (fun _ _ => rfl)) (pv 5) (fun _ _ => rfl)))
  (pss_one (ps_if (PW.pt (pw_or (pt_cmpR op_ge (pv 5) (pe_glob rfl T.mg_MOST_THINGS T.rv_MOST_THINGS) (nomark _)) (pw_or1 (PW.pt (pw_and (pt_cmp (pc_notN (pv 6))) (pw_and1 (pt_not (pt_chain op_le op_le (pv 3) (pv 6) (pv 4))))))))) (pss_one ps_never) pss_nil)))))))
  (pss_one (ps_if (pt_cmpR op_ne (pe_callB call_len_seq (by rfl) T.z_len (by decide +kernel) (pa_cons (pe_ix ix_seq (pv 1) pe_int (fun _ _ => rfl)) pa_nil)) (pe_callB call_len_seq (by rfl) T.z_len (by decide +kernel) (pa_cons (pe_ix ix_seq (pv 1) pe_int (fun _ _ => rfl)) pa_nil)) (nomark _)) (pss_one ps_never) pss_nil)))), ?_⟩
    have ixq : ∀ {j : Int} {v : V} {Q : VK}, atI ([.ref a, .ref b] : List V) j = some v → Q v H → rIx K (.ref q) (.int j) H Q := fun hat q => by
      rcases hq with hq | hq
      · exact .inl ⟨_, _, _, _, rfl, rfl, hq, hat, q⟩
      · exact .inr (.inl ⟨_, _, _, _, rfl, rfl, hq, hat, q⟩)
    refine ⟨_, rfl, by decide, by decide, for_range (n := 2) (fun i σ H' => H' = H ∧ ∃ v2 v3 v4 v5 v6 : Option V, σ = [some (.ref p), some (.ref q), v2, v3, v4, v5, v6]) ⟨rfl, none, none, none, none, none, rfl⟩ ?_ ?_⟩
    · rintro i σ H1 hi ⟨rfl, v2, v3, v4, v5, v6, rfl⟩
      obtain ⟨t, hat, ht⟩ := road_at (R := R) g2 g3 hi
      obtain ⟨c, Y, hc, hY, fY, lY⟩ := row_at ha hb f0 f1 hl hi
      refine ⟨_, rfl, _, rfl, p, _, _, _, rfl, rfl, SqT.of g1, hat, t, _, rfl, SqT.of ht, rfl, _, _, rfl, _, _, rfl, rfl, ?_⟩
      refine ⟨_, rfl, _, rfl, ixq hc ⟨c, _, rfl, .inl hY, _, rfl, by omega, ?_, for_range (n := ((Y.map oV).length : Int).toNat) (fun i2 σ H' => H' = H1 ∧ ∃ v5 v6 : Option V, σ = [some (.ref p), some (.ref q), some (.int (0 + i)), some (.int (R.lo i)), some (.int (R.hi i)), v5, v6]) ⟨rfl, v5, v6, rfl⟩ ?_ ?_⟩⟩
      · rw [List.length_map]; omega
      · rintro j σ H2 hj ⟨rfl, v5, v6, rfl⟩
        have hj2 : j < Y.length := by rw [List.length_map] at hj; omega
        obtain ⟨x, hx, hax⟩ := at_row hj2
        refine ⟨_, rfl, _, rfl, ixq hc ⟨_, rfl, c, _, _, _, rfl, rfl, hY, hax, ?_⟩⟩
        refine ⟨_, rfl, _, _, rfl, rfl, _, rfl, iteND (by show ¬ ((80 : Int) ≤ 0 + j); omega) ?_⟩
        cases x with
        | none => exact ⟨_, rfl, _, rfl, iteF (iteF ⟨rfl, _, _, rfl⟩)⟩
        | some z =>
          obtain ⟨z0, z1⟩ := fY _ hx z rfl
          exact ⟨_, rfl, _, rfl, iteT ⟨_, rfl, _, rfl, _, _, rfl, rfl, _, rfl, iteD z0 ⟨_, rfl, _, _, rfl, rfl, _, rfl, iteNS z1 ⟨rfl, _, _, rfl⟩⟩⟩⟩
      · rintro σ H2 ⟨rfl, v5, v6, rfl⟩
        exact ⟨rfl, _, _, _, _, _, rfl⟩
    · rintro σ H1 ⟨rfl, v2, v3, v4, v5, v6, rfl⟩
      refine ⟨_, rfl, ixq at0 ⟨a, _, rfl, .inl ha, _, rfl, ixq at1 ⟨b, _, rfl, .inl hb, ?_⟩⟩⟩
      rw [List.length_map, List.length_map, hl]
      exact ⟨rfl, _, rfl, iteNS rfl k⟩
end
/-! ### rows as texts -/
open SX in
/-- a lateness' sign -/
def cd : Lt → Nat
  | none => 45
  | some i => 48 + i.toNat
abbrev sgT (x : Lt) : Str := SX.S [cd x]
abbrev rowT (R : List Lt) : Str := SX.S (R.map cd)
abbrev rowsT (R0 R1 : List Lt) : Str := SX.S (R0.map cd ++ 10 :: R1.map cd)
theorem str_dig {v : Int} (h0 : 0 ≤ v) (h9 : v ≤ 9) : Str.ofString (toString v) = SX.S [48 + v.toNat] := by
  obtain ⟨n, rfl⟩ := Int.eq_ofNat_of_zero_le h0
  have hn : n < 10 := by omega
  refine TL.ext_tl ((TL.tl_num n).trans ?_)
  rw [TL.numL_lt hn]
  rfl
theorem int_dig {v : Int} (h0 : 0 ≤ v) (h9 : v ≤ 9) : PySem.intText? (SX.S [48 + v.toNat]) = some v := by
  obtain ⟨n, rfl⟩ := Int.eq_ofNat_of_zero_le h0
  have hn : n < 10 := by omega
  have e := TL.int_num (n := n) (by rw [TL.numL_lt hn]; show 1 ≤ 4300; decide)
  rw [str_dig (v := (n : Int)) (by omega) (by omega)] at e
  exact e
theorem joinL_nil : ∀ l : List Nat, TL.joinL [] (l.map fun c => [c]) = l
  | [] => rfl
  | [c] => rfl
  | c :: d :: r => by
    show [c] ++ ([] ++ TL.joinL [] ((d :: r).map fun c => [c])) = c :: d :: r
    rw [joinL_nil (d :: r)]
    rfl
theorem join_row (R : List Lt) : Txt.join (SX.S []) (R.map sgT) = rowT R := by
  have e : R.map sgT = ((R.map cd).map fun c => [c]).map SX.S := by rw [List.map_map, List.map_map]; rfl
  rw [e, SX.join_S, joinL_nil]
theorem join_rows (R0 R1 : List Lt) : Txt.join (SX.S [10]) [rowT R0, rowT R1] = rowsT R0 R1 := SX.join_S [10] [R0.map cd, R1.map cd]
theorem split_rows {R0 R1 : List Lt} (h0 : 10 ∉ R0.map cd) (h1 : 10 ∉ R1.map cd) : Txt.split (rowsT R0 R1) (SX.S [10]) = [rowT R0, rowT R1] := by
  rw [← join_rows]
  refine TL.split_join (s := 10) (S := []) rfl (SX.all256 (b := [10]) (by decide)) (by simp) fun p hp => ?_
  simp only [List.mem_cons, List.not_mem_nil, or_false] at hp
  rcases hp with rfl | rfl
  · exact h0
  · exact h1
theorem cd_ne {l m : Int} {R : List Lt} (h : Fits l m R) (hl : 0 ≤ l) : 10 ∉ R.map cd := fun hm => by
  obtain ⟨x, hx, e⟩ := List.mem_map.mp hm
  cases x with
  | none => cases e
  | some v =>
    have := h _ hx v rfl
    have e' : 48 + v.toNat = 10 := e
    omega
theorem row_len (R : List Lt) : (rowT R).length = R.length := by rw [SX.S_len, List.length_map]
theorem sg_sum (R : List Lt) : ((R.map sgT).map (·.length)).sum = R.length := by
  induction R with
  | nil => rfl
  | cons x R ih =>
    rw [List.map_cons, List.map_cons, List.sum_cons, ih, SX.S_len, List.length_cons]
    show 1 + R.length = R.length + 1
    omega
theorem str_nl : Str.ofString "\n" = SX.S [10] := by decide +kernel
theorem str_no : Str.ofString "" = SX.S [] := by decide +kernel
theorem take_succ_of {α : Type} {l : List α} {i : Nat} {x : α} (h : l[i]? = some x) : l.take (i + 1) = l.take i ++ [x] := by
  rw [List.take_succ, h]; rfl
/-- the sizes of a row's signs joined -/
theorem sg_room {R : List Lt} (h : R.length ≤ 80) : ((R.map sgT).map (·.length)).sum + (R.map sgT).length * (SX.S []).length ≤ 16777216 := by
  rw [sg_sum, SX.S_len]
  show R.length + _ * 0 ≤ _
  omega
theorem rows_room {R0 R1 : List Lt} (h : R0.length ≤ 80) (h1 : R1.length ≤ 80) : (([rowT R0, rowT R1] : List Str).map (·.length)).sum + ([rowT R0, rowT R1] : List Str).length * (SX.S [10]).length ≤ 16777216 := by
  rw [List.map_cons, List.map_cons, List.map_nil, row_len, row_len, SX.S_len]
  show R0.length + (R1.length + 0) + 2 * 1 ≤ _
  omega
theorem str_gone : Str.ofString "-" = SX.S [45] := by decide +kernel
theorem str_figs : (Str.ofString "0123456789").cps.toList = [48, 49, 50, 51, 52, 53, 54, 55, 56, 57] := by decide +kernel
theorem small_dig {v : Int} (v0 : 0 ≤ v) (v1 : v ≤ 9) : v.natAbs.log2 < 1920 := by
  have : v.natAbs.log2 ≤ v.natAbs := Nat.log2_le_self _
  omega
theorem fig_mem {v : Int} (v0 : 0 ≤ v) (v1 : v ≤ 9) : 48 + v.toNat ∈ (Str.ofString "0123456789").cps.toList := by
  rw [str_figs]
  have h : v.toNat = 0 ∨ v.toNat = 1 ∨ v.toNat = 2 ∨ v.toNat = 3 ∨ v.toNat = 4 ∨ v.toNat = 5 ∨ v.toNat = 6 ∨ v.toNat = 7 ∨ v.toNat = 8 ∨ v.toNat = 9 := by omega
  rcases h with h | h | h | h | h | h | h | h | h | h <;> (rw [h]; decide)
theorem not_gone (v : Int) : ¬ (V.str (⟨#[48 + v.toNat]⟩ : Str) = V.str (Str.ofString "-")) := fun e => by
  rw [str_gone] at e
  have e2 := SX.S_inj (V.str.inj e)
  have e3 : 48 + v.toNat = 45 := (List.cons.inj e2).1
  omega
theorem is_gone : V.str (⟨#[45]⟩ : Str) = V.str (Str.ofString "-") := congrArg V.str str_gone.symm
theorem rowT_at {R : List Lt} {i : Nat} (hi : i < R.length) : ∃ x ∈ R, R[i]? = some x ∧ atI (rowT R).cps.toList ((0 : Int) + (i : Int)) = some (cd x) :=
  ⟨R[i], List.getElem_mem hi, List.getElem?_eq_getElem hi, by
    rw [Int.zero_add]
    refine atI_nat ?_
    show (R.map cd)[i]? = _
    rw [List.getElem?_map, List.getElem?_eq_getElem hi]
    rfl⟩
def spSign : Sp := fun vs H Q _ => ∃ x : Lt, vs = [oV x] ∧ (∀ v, x = some v → 0 ≤ v ∧ v ≤ 9) ∧ Q (.str (sgT x)) H
section
variable {P : Program} {w : World} {K : PySem.W.Frag} {mg : Str → Option Value} {base : Heap}
theorem ok_sign_of (T : Txt K mg) : FnOk P w K mg base CX0 1 T.f_sign_of T.fd_sign_of P_sign_of spSign := by
  refine T.F_sign_of.ok sc_sign_of (fun vs H Q E h => ?_) (fun cdv A outer s H vs Q E hr h => ?_)
  · obtain ⟨x, rfl, _⟩ := h
    rfl
  · obtain ⟨x, rfl, hx, k⟩ := h
    refine ⟨_, ((pss_one (ps_ret (pe_ifExp (pt_cmp (pc_isN (pv 0))) (pe_glob rfl T.mg_GONE T.rv_GONE) (pe_callTy call_str_int (by rfl) T.z_str (by decide +kernel) (pa_cons (pv 0) pa_nil)))))), ?_⟩
    cases x with
    | none => exact ⟨_, rfl, _, rfl, iteT k⟩
    | some v =>
      obtain ⟨v0, v1⟩ := hx v rfl
      refine ⟨_, rfl, _, rfl, iteF ⟨_, rfl, _, rfl, ?_, ?_⟩⟩
      · exact small_dig v0 v1
      · rw [str_dig v0 v1]
        exact k
end
/-! ### written -/
/-- rows of roads, to be read -/
structure Rws (K : PySem.W.Frag) (H : Hp) (q a b : Addr) (R : Rds) (R0 R1 : List Lt) : Prop where
  q : SqT K H q [.ref a, .ref b]
  a : SqL K H a (R0.map oV)
  b : SqL K H b (R1.map oV)
  len : R0.length = R1.length
  most : R0.length ≤ 80
  f0 : Fits R.l0 R.m0 R0
  f1 : Fits R.l1 R.m1 R1
def spWritten (K : PySem.W.Frag) : Sp := fun vs H Q _ => ∃ (p q a b : Addr) (R : Rds) (R0 R1 : List Lt), vs = [.ref p, .ref q] ∧ RoadsAt H p R ∧ R.Ok ∧ Rws K H q a b R R0 R1 ∧ ∀ H', Same H H' → Q (.str (rowsT R0 R1)) H'
section
variable {P : Program} {w : World} {K : PySem.W.Frag} {mg : Str → Option Value} {base : Heap}
theorem ok_written (T : Txt K mg) : FnOk P w K mg base CX0 2 T.f_written T.fd_written P_written (spWritten K) := by
  refine T.F_written.ok sc_written (fun vs H Q E h => ?_) (fun cdv A outer s H vs Q E hr h => ?_)
  · obtain ⟨p, q, a, b, R, R0, R1, rfl, _⟩ := h
    rfl
  · obtain ⟨p, q, a, b, R, R0, R1, rfl, hp, hR, W, k⟩ := h
    refine ⟨_, ((pss_cons (ps_expr (pe_call (ok_need_roads T) (hr.mono (by decide)) (by rfl) T.mg_need_roads T.kp_need_roads T.b_need_roads .nil pass0 (pa_cons (pv 0) pa_nil)))
  (pss_cons (ps_expr (pe_call (ok_need_rows T) (hr.mono (by decide)) (by rfl) T.mg_need_rows T.kp_need_rows T.b_need_rows .nil pass0 (pa_cons (pv 0) (pa_cons (pv 1) pa_nil))))
  (pss_one (ps_ret (joinK (K := K) rfl pe_str (pe_lc (own := [("row", 2)]) (g := gName 2) (tt := tYes) rfl sc_written.nd (pi_tup (pv 1)) (blkOk_by (N := N_written) (sc := (defScope s_written)) (own := [("row", 2)]) (by decide +kernel)) (fun _ _ _ _ _ => (pg_name (i := 2) sc_written.nd rfl (Or.inl rfl))) (fun _ _ _ _ _ => pts_nil) (fun _ _ _ _ _ => (joinK (K := K) rfl pe_str (pe_lc (own := [("late", 3)]) (g := gName 3) (tt := tYes) rfl sc_written.nd (piK_list (K := K) rfl (pv 2)) (show BlkOk N_written (relS _ (defScope s_written)) _ [("late", 3)] from blkOk_by (by decide +kernel)) (fun _ _ _ _ _ => (pg_name (i := 3) sc_written.nd rfl (Or.inl rfl))) (fun _ _ _ _ _ => pts_nil) (fun _ _ _ _ _ => (pe_call (ok_sign_of T) (hr.mono (by decide)) (by rfl) T.mg_sign_of T.kp_sign_of T.b_sign_of .nil pass0 (pa_cons (pv 3) pa_nil))))))))))))), ?_⟩
    refine ⟨_, rfl, p, R, rfl, hp, hR, ?_⟩
    refine ⟨_, rfl, _, rfl, p, q, a, b, R, R0, R1, rfl, hp, .inr W.q, W.a, W.b, W.len, W.most, W.f0, W.f1, ?_⟩
    rw [← join_rows] at k
    -- the lines
    refine ⟨⟨_, rfl⟩, _, rfl, q, rfl, ⟨_, W.q⟩, fun D hD => lc_tup (K := K) (a := q) (xs := [.ref a, .ref b]) (fun i H' => Same H H' ∧ H' D = some (.lst (([rowT R0, rowT R1].take i).map V.str))) ⟨Same.upd_new hD, upd_same⟩ (fun i H' _ z => z.1.sqt W.q) ?_ ?_⟩
    · rintro i x H1 hi ⟨s1, h1⟩
      obtain ⟨c, Y, rfl, hc, fY, hY, lY⟩ : ∃ (c : Addr) (Y : List Lt), x = .ref c ∧ SqL K H c (Y.map oV) ∧ Fits 0 9 Y ∧ [rowT R0, rowT R1][i]? = some (rowT Y) ∧ Y.length ≤ 80 := by
        obtain ⟨⟨u1, u2, u3⟩, u4, u5, u6⟩ := hR
        have hi2 : i < 2 := (List.getElem?_eq_some_iff.mp hi).1
        have hi' : i = 0 ∨ i = 1 := by omega
        rcases hi' with rfl | rfl
        · exact ⟨a, R0, (Option.some.inj hi).symm, W.a, fun y hy v e => by have := W.f0 y hy v e; omega, rfl, W.most⟩
        · exact ⟨b, R1, (Option.some.inj hi).symm, W.b, fun y hy v e => by have := W.f1 y hy v e; omega, rfl, by rw [← W.len]; exact W.most⟩
      refine ⟨rfl, lc_yes ⟨⟨_, rfl⟩, _, rfl, c, rfl, ⟨_, s1.seq hc⟩, fun D2 hD2 => lc_list (K := K) (a := c) (xs := Y.map oV) (fun j H' => Same H1 H' ∧ H' D2 = some (.lst ((Y.take j).map fun x => V.str (sgT x)))) ⟨Same.upd_new hD2, upd_same⟩ (fun j H' _ z => (s1.trans z.1).seq hc) ?_ ?_⟩⟩
      · rintro j y H2 hj ⟨s2, h2⟩
        rw [List.getElem?_map] at hj
        obtain ⟨z, hz, rfl⟩ := Option.map_eq_some_iff.mp hj
        have hmem : z ∈ Y := List.mem_of_getElem? hz
        have hjl : (Y.take j).length ≤ 80 := by rw [List.length_take]; omega
        refine ⟨rfl, lc_yes ⟨_, rfl, z, rfl, fun v e => fY z hmem v e, _, h2, small1000 (by rw [List.length_map]; omega), s2.mut hD2, ?_⟩⟩
        rw [take_succ_of hz, List.map_append]
        exact upd_same
      · rintro H2 ⟨s2, h2⟩
        rw [List.length_map, List.take_length] at h2
        refine ⟨_, D2, Y.map sgT, rfl, rfl, .inl (SqL.of (by rw [List.map_map]; exact h2)), ?_, ?_⟩
        · rw [str_no]; exact sg_room lY
        · rw [str_no, join_row]
          refine ⟨_, s2 _ _ h1, small1000 (by rw [List.length_map, List.length_take]; show min i 2 ≤ 1000; omega), (s1.trans s2).mut hD, ?_⟩
          rw [take_succ_of hY, List.map_append]
          exact upd_same
    · rintro H1 ⟨s1, h1⟩
      refine ⟨_, D, [rowT R0, rowT R1], rfl, rfl, .inl (SqL.of h1), ?_, ?_⟩
      · rw [str_nl]; exact rows_room W.most (by rw [← W.len]; exact W.most)
      · rw [str_nl]; exact k H1 s1
end
/-! ### _law_text -/
def spText (K : PySem.W.Frag) : Sp := fun vs H Q _ => ∃ (q a b : Addr) (R : Rds) (R0 R1 : List Lt), vs = [.ref q] ∧ R.Ok ∧ Rws K H q a b R R0 R1 ∧ ∀ H', Same H H' → Q (.str (rowsT R0 R1)) H'
section
variable {P : Program} {w : World} {K : PySem.W.Frag} {mg : Str → Option Value} {base : Heap}
theorem ok_Ltext (T : Txt K mg) : FnOk P w K mg base CX0 1 T.f_Ltext T.fd_Ltext P_Ltext (spText K) := by
  refine T.F_Ltext.ok sc_Ltext (fun vs H Q E h => ?_) (fun cdv A outer s H vs Q E hr h => ?_)
  · obtain ⟨q, a, b, R, R0, R1, rfl, _⟩ := h
    rfl
  · obtain ⟨q, a, b, R, R0, R1, rfl, hR, W, k⟩ := h
    refine ⟨_, ((pss_one (ps_ret (joinK (K := K) rfl pe_str (pe_lc (own := [("_law_line", 1)]) (g := gName 1) (tt := tYes) rfl sc_Ltext.nd (pi_tup (pv 0)) (blkOk_by (N := N_Ltext) (sc := (defScope s_Ltext)) (own := [("_law_line", 1)]) (by decide +kernel)) (fun _ _ _ _ _ => (pg_name (i := 1) sc_Ltext.nd rfl (Or.inl rfl))) (fun _ _ _ _ _ => pts_nil) (fun _ _ _ _ _ => (joinK (K := K) rfl pe_str (pe_lc (own := [("_law_late_here", 2)]) (g := gName 2) (tt := tYes) rfl sc_Ltext.nd (piK_list (K := K) rfl (pv 1)) (show BlkOk N_Ltext (relS _ (defScope s_Ltext)) _ [("_law_late_here", 2)] from blkOk_by (by decide +kernel)) (fun _ _ _ _ _ => (pg_name (i := 2) sc_Ltext.nd rfl (Or.inl rfl))) (fun _ _ _ _ _ => pts_nil) (fun _ _ _ _ _ => (pe_ifExp (pt_cmp (pc_isN (pv 2))) pe_str (pe_callTy call_str_int (by rfl) T.z_str (by decide +kernel) (pa_cons (pv 2) pa_nil)))))))))))), ?_⟩
    rw [← join_rows] at k
    -- the lines
    refine ⟨⟨_, rfl⟩, _, rfl, q, rfl, ⟨_, W.q⟩, fun D hD => lc_tup (K := K) (a := q) (xs := [.ref a, .ref b]) (fun i H' => Same H H' ∧ H' D = some (.lst (([rowT R0, rowT R1].take i).map V.str))) ⟨Same.upd_new hD, upd_same⟩ (fun i H' _ z => z.1.sqt W.q) ?_ ?_⟩
    · rintro i x H1 hi ⟨s1, h1⟩
      obtain ⟨c, Y, rfl, hc, fY, hY, lY⟩ : ∃ (c : Addr) (Y : List Lt), x = .ref c ∧ SqL K H c (Y.map oV) ∧ Fits 0 9 Y ∧ [rowT R0, rowT R1][i]? = some (rowT Y) ∧ Y.length ≤ 80 := by
        obtain ⟨⟨u1, u2, u3⟩, u4, u5, u6⟩ := hR
        have hi2 : i < 2 := (List.getElem?_eq_some_iff.mp hi).1
        have hi' : i = 0 ∨ i = 1 := by omega
        rcases hi' with rfl | rfl
        · exact ⟨a, R0, (Option.some.inj hi).symm, W.a, fun y hy v e => by have := W.f0 y hy v e; omega, rfl, W.most⟩
        · exact ⟨b, R1, (Option.some.inj hi).symm, W.b, fun y hy v e => by have := W.f1 y hy v e; omega, rfl, by rw [← W.len]; exact W.most⟩
      refine ⟨rfl, lc_yes ⟨⟨_, rfl⟩, _, rfl, c, rfl, ⟨_, s1.seq hc⟩, fun D2 hD2 => lc_list (K := K) (a := c) (xs := Y.map oV) (fun j H' => Same H1 H' ∧ H' D2 = some (.lst ((Y.take j).map fun x => V.str (sgT x)))) ⟨Same.upd_new hD2, upd_same⟩ (fun j H' _ z => (s1.trans z.1).seq hc) ?_ ?_⟩⟩
      · rintro j y H2 hj ⟨s2, h2⟩
        rw [List.getElem?_map] at hj
        obtain ⟨z, hz, rfl⟩ := Option.map_eq_some_iff.mp hj
        have hmem : z ∈ Y := List.mem_of_getElem? hz
        have hjl : (Y.take j).length ≤ 80 := by rw [List.length_take]; omega
        have fin : ∀ y : V, y = .str (sgT z) → ∃ acc, H2 D2 = some (.lst acc) ∧ acc.length < sizeLine ∧ Same H1 (upd H2 D2 (.lst (acc ++ [y]))) ∧ (upd H2 D2 (.lst (acc ++ [y]))) D2 = some (.lst ((Y.take (j + 1)).map fun x => V.str (sgT x))) := by
          rintro y rfl
          refine ⟨_, h2, small1000 (by rw [List.length_map]; omega), s2.mut hD2, ?_⟩
          rw [take_succ_of hz, List.map_append]
          exact upd_same
        refine ⟨rfl, lc_yes ?_⟩
        cases z with
        | none => exact ⟨_, rfl, _, rfl, iteT (fin _ (congrArg V.str str_gone))⟩
        | some v =>
          obtain ⟨v0, v1⟩ := fY _ hmem v rfl
          refine ⟨_, rfl, _, rfl, iteF ⟨_, rfl, _, rfl, small_dig v0 v1, fin _ (congrArg V.str (str_dig v0 v1))⟩⟩
      · rintro H2 ⟨s2, h2⟩
        rw [List.length_map, List.take_length] at h2
        refine ⟨_, D2, Y.map sgT, rfl, rfl, .inl (SqL.of (by rw [List.map_map]; exact h2)), ?_, ?_⟩
        · rw [str_no]; exact sg_room lY
        · rw [str_no, join_row]
          refine ⟨_, s2 _ _ h1, small1000 (by rw [List.length_map, List.length_take]; show min i 2 ≤ 1000; omega), (s1.trans s2).mut hD, ?_⟩
          rw [take_succ_of hY, List.map_append]
          exact upd_same
    · rintro H1 ⟨s1, h1⟩
      refine ⟨_, D, [rowT R0, rowT R1], rfl, rfl, .inl (SqL.of h1), ?_, ?_⟩
      · rw [str_nl]; exact rows_room W.most (by rw [← W.len]; exact W.most)
      · rw [str_nl]; exact k H1 s1
end
/-! ### row_of of a good line -/
def spRowOf : Sp := fun vs H Q _ => ∃ (R : List Lt) (n : Int), vs = [.str (rowT R), .int n] ∧ Fits 0 9 R ∧ R.length ≤ 80 ∧ ∀ p H', H p = none → Same H H' → H' p = some (.lst (R.map oV)) → Q (.ref p) H'
section
variable {P : Program} {w : World} {K : PySem.W.Frag} {mg : Str → Option Value} {base : Heap}
theorem ok_row_of (T : Txt K mg) : FnOk P w K mg base CX0 1 T.f_row_of T.fd_row_of P_row_of spRowOf := by
  refine T.F_row_of.ok sc_row_of (fun vs H Q E h => ?_) (fun cdv A outer s H vs Q E hr h => ?_)
  · obtain ⟨R, n, rfl, _⟩ := h
    rfl
  · obtain ⟨R, n, rfl, hf, hl, k⟩ := h
    refine ⟨_, ((pss_cons (ps_set (i := 2) sc_row_of.nd rfl (Or.inl rfl) (pe_lst pa_nil))
  (pss_cons (ps_for PassesOwn.never rfl (pi_range1 (by rfl) T.z_range (pa_cons (pe_callB call_len_str (by rfl) T.z_len (by decide +kernel) (pa_cons (pv 0) pa_nil)) pa_nil)) (pg_name (i := 3) sc_row_of.nd rfl (Or.inl rfl))
  (pss_cons (ps_if (PW.pt (pw_and (pt_cmpR op_ne (pe_ix ix_str (pv 0) (pv 3) (fun _ _ => rfl)) (pe_glob rfl T.mg_GONE T.rv_GONE) (nomark _)) (pw_and1 (pt_cmpR op_notIn_sign (pe_ix ix_str (pv 0) (pv 3) (fun _ _ => rfl)) (pe_glob rfl T.mg_FIGURES T.rv_FIGURES) (by rfl))))) (pss_one ps_never) pss_nil)
  (pss_one (ps_expr (pe_bm PySem.F.plainAttrs_list PySem.F.slot_list_append PySem.F.type_list_append mt_append (pv 2) (pa_cons (pe_ifExp (pt_cmpR op_eq (pe_ix ix_str (pv 0) (pv 3) (fun _ _ => rfl)) (pe_glob rfl T.mg_GONE T.rv_GONE) (nomark _)) pe_non (pe_callTy call_int_str (by rfl) T.z_int (by decide +kernel) (pa_cons (pe_ix ix_str (pv 0) (pv 3) (fun _ _ => rfl)) pa_nil))) pa_nil))))))
  (pss_one (ps_ret (pv 2)))))), ?_⟩
    have hlen : (rowT R).length = R.length := row_len R
    refine ⟨by show 0 ≤ sizeLine; decide, fun p hp => ?_⟩
    refine ⟨_, rfl, _, rfl, sz1000 (by omega), _, rfl, by omega, by omega, for_range (n := ((rowT R).length : Int).toNat) (fun i σ H' => ∃ v3 : Option V, σ = [some (.str (rowT R)), some (.int n), some (.ref p), v3] ∧ Same H H' ∧ H' p = some (.lst ((R.take i).map oV))) ⟨none, rfl, Same.upd_new hp, upd_same⟩ ?_ ?_⟩
    · rintro i σ H1 hi ⟨v3, rfl, s1, h1⟩
      have hi2 : i < R.length := by omega
      obtain ⟨x, hx, hxi, hat⟩ := rowT_at hi2
      have fin : ∀ y : V, y = oV x → (fun (_ : V) (H' : Hp) => ∃ v3 : Option V, ([some (.str (rowT R)), some (.int n), some (.ref p), some (.int (0 + i))] : L2.St) = [some (.str (rowT R)), some (.int n), some (.ref p), v3] ∧ Same H H' ∧ H' p = some (.lst ((R.take (i + 1)).map oV))) .non (upd H1 p (.lst ((R.take i).map oV ++ [y]))) := by
        rintro y rfl
        refine ⟨_, rfl, s1.mut hp, ?_⟩
        rw [take_succ_of hxi, List.map_append]
        exact upd_same
      have sz : ((R.take i).map oV).length < sizeLine := small1000 (by rw [List.length_map, List.length_take]; omega)
      refine ⟨_, rfl, _, rfl, _, _, _, rfl, rfl, sz1000 (by omega), hat, rfl, _, rfl, ?_⟩
      cases x with
      | none =>
        refine iteF (iteF ?_)
        refine ⟨_, rfl, .inl ⟨rfl, _, SqL.of h1⟩, _, rfl, _, rfl, _, _, _, rfl, rfl, sz1000 (by omega), hat, rfl, _, rfl, iteD is_gone ?_⟩
        exact ⟨p, _, _, rfl, rfl, h1, sz, fin _ rfl⟩
      | some v =>
        obtain ⟨v0, v1⟩ := hf _ hx v rfl
        refine iteNN (not_gone v) ⟨_, rfl, _, rfl, _, _, _, rfl, rfl, sz1000 (by omega), hat, _, _, rfl, rfl, _, rfl, iteNS (fig_mem v0 v1) ?_⟩
        refine ⟨_, rfl, .inl ⟨rfl, _, SqL.of h1⟩, _, rfl, _, rfl, _, _, _, rfl, rfl, sz1000 (by omega), hat, rfl, _, rfl, iteND (not_gone v) ?_⟩
        exact ⟨_, rfl, _, rfl, _, _, _, rfl, rfl, sz1000 (by omega), hat, _, _, rfl, int_dig v0 v1, by show 1 ≤ 640; decide, p, _, _, rfl, rfl, h1, sz, fin _ rfl⟩
    · rintro σ H1 ⟨v3, rfl, s1, h1⟩
      have e : R.take (((rowT R).length : Int).toNat) = R := by rw [hlen]; exact List.take_length
      rw [e] at h1
      exact ⟨_, rfl, k p H1 hp s1 h1⟩
end
/-! ### read of a good text -/
def spRead : Sp := fun vs H Q _ => ∃ (p : Addr) (R : Rds) (R0 R1 : List Lt), vs = [.ref p, .str (rowsT R0 R1)] ∧ RoadsAt H p R ∧ R.Ok ∧ R0.length = R1.length ∧ R0.length ≤ 80 ∧ Fits R.l0 R.m0 R0 ∧ Fits R.l1 R.m1 R1 ∧
  ∀ (q a b : Addr) (H' : Hp), H q = none → H a = none → H b = none → RowsAt H' q a b R0 R1 → Same H H' → Q (.ref q) H'
section
variable {P : Program} {w : World} {K : PySem.W.Frag} {mg : Str → Option Value} {base : Heap}
theorem ok_read (T : Txt K mg) : FnOk P w K mg base CX0 2 T.f_read T.fd_read P_read spRead := by
  refine T.F_read.ok sc_read (fun vs H Q E h => ?_) (fun cdv A outer s H vs Q E hr h => ?_)
  · obtain ⟨p, R, R0, R1, rfl, _⟩ := h
    rfl
  · obtain ⟨p, R, R0, R1, rfl, hp, hR, hl, h80, f0, f1, k⟩ := h
    refine ⟨_, ((pss_cons (ps_expr (pe_call (ok_need_roads T) (hr.mono (by decide)) (by rfl) T.mg_need_roads T.kp_need_roads T.b_need_roads .nil pass0 (pa_cons (pv 0) pa_nil)))
  (pss_cons (ps_set (i := 2) sc_read.nd rfl (Or.inr rfl) (pe_split (pv 1) pe_str))
  (pss_cons (ps_if (pt_cmpR op_lt (pe_callB call_len_seq (by rfl) T.z_len (by decide +kernel) (pa_cons (pv 2) pa_nil)) pe_int (nomark _)) (pss_cons (ps_expr (pe_call (ok_row_of T) (hr.mono (by decide)) (by rfl) T.mg_row_of T.kp_row_of T.b_row_of .nil pass0 (pa_cons (pe_ix ix_list (pv 2) pe_int (fun _ _ => rfl)) (pa_cons pe_int pa_nil))))
  (pss_one ps_never)) pss_nil)
  (pss_cons (ps_setLc (i := 3) (own := [("number", 4)]) (g := gName 4) (tt := tYes) rfl sc_read.nd rfl rfl (sw_true rfl rfl rfl (by decide +kernel)) (pi_range1 (by rfl) T.z_range (pa_cons pe_int pa_nil)) (blkOk_by (N := N_read) (sc := (defScope s_read)) (own := [("number", 4)]) (by decide +kernel)) (fun _ _ _ _ _ => (pg_name (i := 4) sc_read.nd rfl (Or.inl rfl))) (fun _ _ _ _ _ => pts_nil) (fun _ _ _ _ _ => (pe_call (ok_row_of T) (hr.mono (by decide)) (by rfl) T.mg_row_of T.kp_row_of T.b_row_of .nil pass0 (pa_cons (pe_ix (ixK_list (K := K) rfl) (pv 2) (pv 4) (fun _ _ => rfl)) (pa_cons (pv 4) pa_nil)))))
  (pss_cons (ps_if (pt_cmpR op_gt (pe_callB call_len_seq (by rfl) T.z_len (by decide +kernel) (pa_cons (pv 2) pa_nil)) pe_int (nomark _)) (pss_one ps_never) pss_nil)
  (pss_cons (ps_expr (pe_call (ok_need_rows T) (hr.mono (by decide)) (by rfl) T.mg_need_rows T.kp_need_rows T.b_need_rows .nil pass0 (pa_cons (pv 0) (pa_cons (pv 3) pa_nil))))
  (pss_one (ps_ret (pe_tup (pa_cons (pe_ix ix_list (pv 3) pe_int (fun _ _ => rfl)) (pa_cons (pe_ix ix_list (pv 3) pe_int (fun _ _ => rfl)) pa_nil)))))))))))), ?_⟩
    obtain ⟨⟨u1, u2, u3⟩, u4, u5, u6⟩ := id hR
    refine ⟨_, rfl, p, R, rfl, hp, hR, ?_⟩
    -- lines
    refine ⟨_, rfl, ⟨_, rfl⟩, _, _, rfl, rfl, (by rw [str_nl]; rfl), (by rw [SX.S_len, List.length_append, List.length_cons, List.length_map, List.length_map]; exact sz1000 (by omega)), fun ls hls => ?_⟩
    rw [str_nl, split_rows (cd_ne f0 u1) (cd_ne f1 u4)]
    have s1 : Same H (upd H ls (.lst ([rowT R0, rowT R1].map V.str))) := Same.upd_new hls
    have hl1 : (upd H ls (.lst ([rowT R0, rowT R1].map V.str))) ls = some (.lst [.str (rowT R0), .str (rowT R1)]) := upd_same
    revert s1 hl1
    generalize (upd H ls (.lst ([rowT R0, rowT R1].map V.str))) = H1
    intro s1 hl1
    refine ⟨_, rfl, ls, _, rfl, .inl (SqL.of hl1), _, _, rfl, rfl, _, rfl, iteF ?_⟩
    -- found
    refine ⟨_, rfl, by decide, by decide, fun D hD => lc_range (n := 2) (fun i H' => Same H1 H' ∧ ∃ ps : List (Addr × List Lt), ps.length = i ∧ H' D = some (.lst (ps.map fun x => V.ref x.1)) ∧ (∀ x ∈ ps, H' x.1 = some (.lst (x.2.map oV)) ∧ H1 x.1 = none ∧ x.1 ≠ D) ∧ ps.map (·.2) = [R0, R1].take i ∧ (ps.map (·.1)).Nodup) ⟨Same.upd_new hD, [], rfl, upd_same, fun x h => absurd h List.not_mem_nil, rfl, List.nodup_nil⟩ ?_ ?_⟩
    · rintro i H2 hi ⟨s2, ps, hpl, h2, hps, hpR, hnd⟩
      obtain ⟨Y, hat, fY, lY, eY⟩ : ∃ Y : List Lt, atI ([.str (rowT R0), .str (rowT R1)] : List V) ((0 : Int) + (i : Int)) = some (.str (rowT Y)) ∧ Fits 0 9 Y ∧ Y.length ≤ 80 ∧ [R0, R1][i]? = some Y := by
        have hi' : i = 0 ∨ i = 1 := by omega
        rcases hi' with rfl | rfl
        · exact ⟨R0, at0, fun y hy v e => by have := f0 y hy v e; omega, h80, rfl⟩
        · exact ⟨R1, at1, fun y hy v e => by have := f1 y hy v e; omega, by omega, rfl⟩
      refine ⟨rfl, lc_yes ⟨_, rfl, _, rfl, ls, _, _, _, rfl, rfl, SqL.of (s2 _ _ hl1), hat, _, rfl, Y, _, rfl, fY, lY, fun c H3 hc s3 h3 => ?_⟩⟩
      have hDc : D ≠ c := ne_of_none h2 hc
      have h2' := s3 _ _ h2
      refine ⟨_, h2', small1000 (by rw [List.length_map]; omega), (s2.trans s3).mut hD, ps ++ [(c, Y)], by rw [List.length_append, hpl]; rfl, by rw [upd_same, List.map_append]; rfl, fun x hx => ?_, ?_, ?_⟩
      · rcases List.mem_append.mp hx with hx | hx
        · obtain ⟨e1, e2⟩ := hps x hx
          exact ⟨by rw [upd_ne e2.2]; exact s3 _ _ e1, e2⟩
        · rw [List.mem_singleton.mp hx]
          exact ⟨by rw [upd_ne hDc.symm]; exact h3, s2.free hc, hDc.symm⟩
      · rw [List.map_append, hpR, take_succ_of eY]; rfl
      · rw [List.map_append, List.nodup_append]
        refine ⟨hnd, by simp, fun x hx y hy => ?_⟩
        obtain ⟨z, hz, rfl⟩ := List.mem_map.mp hx
        rw [List.map_cons, List.map_nil, List.mem_singleton] at hy
        rw [hy]
        exact ne_of_none (hps z hz).1 hc
    · rintro H2 ⟨s2, ps, hpl, h2, hps, hpR, hnd⟩
      obtain ⟨⟨a, Y0⟩, ⟨b, Y1⟩, rfl⟩ := len2 hpl
      obtain ⟨e1, n1, _⟩ := hps (a, Y0) (by simp)
      obtain ⟨e2, n2, _⟩ := hps (b, Y1) (by simp)
      have eY := List.cons.inj hpR
      have eY0 : Y0 = R0 := eY.1
      have eY1 : Y1 = R1 := (List.cons.inj eY.2).1
      subst eY0
      subst eY1
      have hab : a ≠ b := by
        rw [List.map_cons, List.map_cons, List.nodup_cons] at hnd
        exact fun z => hnd.1 (by rw [z]; exact List.mem_cons_self)
      have s02 := s1.trans s2
      refine ⟨_, rfl, ls, _, rfl, .inl (SqL.of (s2 _ _ hl1)), _, _, rfl, rfl, _, rfl, iteF ?_⟩
      refine ⟨_, rfl, _, rfl, p, D, a, b, R, Y0, Y1, rfl, RoadsAt.same s02 hp, .inl (SqL.of h2), SqL.of e1, SqL.of e2, hl, h80, f0, f1, ?_⟩
      refine ⟨_, rfl, D, _, _, _, rfl, rfl, SqL.of h2, at0, _, rfl, D, _, _, _, rfl, rfl, SqL.of h2, at1, by show 2 ≤ sizeLine; decide, fun q hq => ?_⟩
      exact k q a b _ (s02.free hq) (s1.free n1) (s1.free n2) ⟨upd_same, by rw [upd_ne (ne_of_none e1 hq)]; exact e1, by rw [upd_ne (ne_of_none e2 hq)]; exact e2, hab⟩ (s02.new hq)
end
/-! ### the law -/
theorem lk_o {K : PySem.W.Frag} {H : Hp} {n : Nat} : ∀ x : Lt, Lk K H (n + 1) (oV x) (oV x)
  | none => .non
  | some i => .int i
theorem lk_row {K : PySem.W.Frag} {H : Hp} {n : Nat} {a b : Addr} {R : List Lt} (ha : H a = some (.lst (R.map oV))) (hb : H b = some (.lst (R.map oV))) (hl : R.length ≤ 100000) : Lk K H (n + 2) (.ref a) (.ref b) :=
  .lst (SqL.of ha) (SqL.of hb) rfl (by rw [List.length_map]; exact hl) fun i x y hx hy => by
    rw [hx] at hy
    cases hy
    rw [List.getElem?_map] at hx
    obtain ⟨z, _, rfl⟩ := Option.map_eq_some_iff.mp hx
    exact lk_o z
theorem lk_rows {K : PySem.W.Frag} {H : Hp} {n : Nat} {q a b q' a' b' : Addr} {R0 R1 : List Lt} (h : RowsAt H q a b R0 R1) (h' : RowsAt H q' a' b' R0 R1) (h0 : R0.length ≤ 100000) (h1 : R1.length ≤ 100000) : Lk K H (n + 3) (.ref q) (.ref q') :=
  .tup (SqT.of h.hq) (SqT.of h'.hq) rfl (by show 2 ≤ 100000; decide) fun i x y hx hy => by
    match i with
    | 0 => cases hx; cases hy; exact lk_row h.ha h'.ha h0
    | 1 => cases hx; cases hy; exact lk_row h.hb h'.hb h1
    | i + 2 => cases hx
/-- a case: roads and rows -/
structure Case where
  t : Addr
  p : Addr
  q : Addr
  a : Addr
  b : Addr
  R : Rds
  R0 : List Lt
  R1 : List Lt
structure CaseOk (c : Case) : Prop where
  ok : c.R.Ok
  len : c.R0.length = c.R1.length
  most : c.R0.length ≤ 80
  f0 : Fits c.R.l0 c.R.m0 c.R0
  f1 : Fits c.R.l1 c.R.m1 c.R1
structure CaseAt (H : Hp) (c : Case) : Prop where
  t : H c.t = some (.tup [.ref c.p, .ref c.q])
  r : RoadsAt H c.p c.R
  w : RowsAt H c.q c.a c.b c.R0 c.R1
theorem CaseAt.same {H H' : Hp} {c : Case} (s : Same H H') (h : CaseAt H c) : CaseAt H' c := ⟨s _ _ h.t, h.r.same s, h.w.same s⟩
theorem CaseAt.kp {K : PySem.W.Frag} {r : Addr} {H H' : Hp} {c : Case} (k : Kp r H H') (w : RowAt K r H) (na : c.a ≠ r) (nb : c.b ≠ r) (h : CaseAt H c) : CaseAt H' c := ⟨k.tup w h.t, k.roads w h.r, k.rows w na nb h.w⟩
/-- a change of a list that is none of the case's -/
theorem CaseAt.put {H : Hp} {c : Case} {f : Addr} {xs : List V} {o : HO} (hf : H f = some (.lst xs)) (na : c.a ≠ f) (nb : c.b ≠ f) (h : CaseAt H c) : CaseAt (upd H f o) c := by
  obtain ⟨h1, ⟨t0, t1, g1, g2, g3⟩, w⟩ := h
  exact ⟨by rw [upd_ne (tup_ne h1 hf)]; exact h1, ⟨t0, t1, by rw [upd_ne (tup_ne g1 hf)]; exact g1, by rw [upd_ne (tup_ne g2 hf)]; exact g2, by rw [upd_ne (tup_ne g3 hf)]; exact g3⟩,
    ⟨by rw [upd_ne (tup_ne w.hq hf)]; exact w.hq, by rw [upd_ne na]; exact w.ha, by rw [upd_ne nb]; exact w.hb, w.ne⟩⟩
theorem len3 {α : Type} : ∀ {l : List α}, l.length = 3 → ∃ a b c, l = [a, b, c]
  | [a, b, c], _ => ⟨a, b, c, rfl⟩
section
variable {P : Program} {w : World} {K : PySem.W.Frag} {mg : Str → Option Value} {base : Heap}
theorem ok_law (T : Txt K mg) : FnOk P w K mg base CX0 5 T.f_law T.fd_law P_law (spLaw K) := by
  refine T.F_law.ok sc_law (fun vs H Q E h => ?_) (fun cdv A outer s H vs Q E hr h => ?_)
  · obtain ⟨a, ns, rfl, _⟩ := h
    rfl
  · obtain ⟨a, ns, rfl, hS, k⟩ := h
    refine ⟨_, ((pss_cons (ps_set (i := 1) sc_law.nd rfl (Or.inl rfl) (pe_lst (pa_cons (pv 0) (pa_cons pe_int (pa_cons pe_int pa_nil)))))
  (pss_cons (ps_set (i := 2) sc_law.nd rfl (Or.inl rfl) (pe_lst pa_nil))
  (pss_cons (ps_for PassesOwn.never rfl (pi_range1 (by rfl) T.z_range (pa_cons pe_int pa_nil)) (pg_name (i := 3) sc_law.nd rfl (Or.inl rfl))
  (pss_cons (ps_set (i := 4) sc_law.nd rfl (Or.inl rfl) (pe_call (ok_Lroads T) (hr.mono (by decide)) (by rfl) T.mg_Lroads T.kp_Lroads T.b_Lroads .nil pass0 (pa_cons (pv 1) pa_nil)))
  (pss_one (ps_expr (pe_bm PySem.F.plainAttrs_list PySem.F.slot_list_append PySem.F.type_list_append mt_append (pv 2) (pa_cons (pe_tup (pa_cons (pv 4) (pa_cons (pe_call (ok_Lrows T) (hr.mono (by decide)) (by rfl) T.mg_Lrows T.kp_Lrows T.b_Lrows .nil pass0 (pa_cons (pv 1) (pa_cons (pv 4) (pa_cons pe_int (pa_cons pe_bl pa_nil))))) pa_nil))) pa_nil))))))
  (pss_cons (ps_for PassesOwn.never rfl (pi_list (pe_op op_cat (pv 2) (pe_slice sl_list (pv 2) po_none (po_some pe_int)))) (pg_tup rfl (pgs_cons (pg_name (i := 4) sc_law.nd rfl (Or.inl rfl)) (pgs_cons (pg_name (i := 5) sc_law.nd rfl (Or.inl rfl)) pgs_nil)))
  (pss_cons (ps_set (i := 6) sc_law.nd rfl (Or.inl rfl) (pe_call (ok_Ltext T) (hr.mono (by decide)) (by rfl) T.mg_Ltext T.kp_Ltext T.b_Ltext .nil pass0 (pa_cons (pv 5) pa_nil)))
  (pss_cons (ps_set (i := 7) sc_law.nd rfl (Or.inl rfl) (pe_call (ok_read T) (hr.mono (by decide)) (by rfl) T.mg_read T.kp_read T.b_read .nil pass0 (pa_cons (pv 4) (pa_cons (pv 6) pa_nil))))
  (pss_cons (ps_if (PW.pt (pw_or (pt_not (pt_val (pe_call (ok_Lalike T 3) (hr.mono (by decide)) (by rfl) T.mg_Lalike T.kp_Lalike T.b_Lalike .nil pass0 (pa_cons (pe_call (ok_written T) (hr.mono (by decide)) (by rfl) T.mg_written T.kp_written T.b_written .nil pass0 (pa_cons (pv 4) (pa_cons (pv 5) pa_nil))) (pa_cons (pv 6) pa_nil))))) (pw_or1 (pt_not (pt_val (pe_call (ok_Lalike T 3) (hr.mono (by decide)) (by rfl) T.mg_Lalike T.kp_Lalike T.b_Lalike .nil pass0 (pa_cons (pv 7) (pa_cons (pv 5) pa_nil)))))))) (pss_one (ps_ret pe_bl)) pss_nil)
  (pss_cons (ps_expr (pe_bm PySem.F.plainAttrs_list PySem.F.slot_list_append PySem.F.type_list_append mt_append (pe_ix ix_tup (pv 7) pe_int (fun _ _ => rfl)) (pa_cons pe_non pa_nil)))
  (pss_one (ps_expr (pe_bm0 PySem.F.plainAttrs_list PySem.F.slot_list_clear PySem.F.type_list_clear mt_clear (pe_ix ix_tup (pv 7) pe_int (fun _ _ => rfl))))))))))
  (pss_one (ps_ret pe_bl))))))), ?_⟩
    refine ⟨_, rfl, by show 3 ≤ sizeLine; decide, fun r hr0 => ?_⟩
    have row0 := RowAt.start hS hr0
    refine ⟨by show 0 ≤ sizeLine; decide, fun f hf => ?_⟩
    have fr := row0.ne hf
    have row1 := row0.new (o := .lst []) hf
    revert row0 row1 hf
    generalize (upd H r (.lst [.ref a, .int 0, .int 0])) = H0
    intro row0 hf row1
    refine ⟨_, rfl, by decide, by decide, for_range (n := 3) (fun i σ H' => ∃ (v3 v4 : Option V) (cs : List Case), σ = [some (.ref a), some (.ref r), some (.ref f), v3, v4, none, none, none] ∧ cs.length = i ∧ H' f = some (.lst (cs.map fun c => V.ref c.t)) ∧
      (∀ c ∈ cs, CaseAt H' c ∧ CaseOk c ∧ c.a ≠ r ∧ c.b ≠ r ∧ c.a ≠ f ∧ c.b ≠ f) ∧ RowAt K r H') ⟨none, none, [], rfl, rfl, upd_same, fun c h => absurd h List.not_mem_nil, row1⟩ ?_ ?_⟩
    · rintro i σ H1 hi ⟨v3, v4, cs, rfl, hl, hf1, hcs, rw1⟩
      refine ⟨_, rfl, r, rfl, rw1, fun p R H2 hp hR np rw2 k2 => ?_⟩
      have hf2 := k2 _ _ fr hf1
      refine ⟨_, rfl, .inl ⟨rfl, _, SqL.of hf2⟩, ?_⟩
      refine ⟨_, rfl, _, rfl, _, rfl, r, p, R, _, _, rfl, rw2, hp, hR, by decide, by decide, fun q a' b' R0 R1 H3 hw hl' h80 f0 f1 _ nq na nb rw3 k3 => ?_⟩
      refine ⟨by show 2 ≤ sizeLine; decide, fun t ht => ?_⟩
      have hf3 := k3 _ _ fr hf2
      have kk := (k2.trans k3)
      have ar : a' ≠ r := fun z => by
        obtain ⟨xs, e⟩ := rw2.lst
        rw [z, e] at na; cases na
      have br : b' ≠ r := fun z => by
        obtain ⟨xs, e⟩ := rw2.lst
        rw [z, e] at nb; cases nb
      have af : a' ≠ f := fun z => by rw [z, hf2] at na; cases na
      have bf : b' ≠ f := fun z => by rw [z, hf2] at nb; cases nb
      have ft := ne_of_none hf3 ht
      have c1 : CaseAt (upd H3 t (.tup [.ref p, .ref q])) ⟨t, p, q, a', b', R, R0, R1⟩ := ⟨upd_same, (k3.roads rw2 hp).same (Same.upd_new ht), hw.same (Same.upd_new ht)⟩
      have hf4 : (upd H3 t (.tup [.ref p, .ref q])) f = some (.lst (cs.map fun c => V.ref c.t)) := by rw [upd_ne ft]; exact hf3
      refine ⟨f, _, _, rfl, rfl, hf4, small1000 (by rw [List.length_map]; omega), ?_⟩
      refine ⟨_, _, cs ++ [⟨t, p, q, a', b', R, R0, R1⟩], rfl, by rw [List.length_append, hl]; rfl, by rw [upd_same, List.map_append]; rfl, fun c hc => ?_, (rw3.new ht).put fr hf4⟩
      rcases List.mem_append.mp hc with hc | hc
      · obtain ⟨h1, h2, h3, h4, h5, h6⟩ := hcs c hc
        exact ⟨((h1.kp kk rw1 h3 h4).same (Same.upd_new ht)).put hf4 h5 h6, h2, h3, h4, h5, h6⟩
      · rw [List.mem_singleton.mp hc]
        exact ⟨c1.put hf4 af bf, ⟨hR, hl', by show R0.length ≤ 80; omega, f0, f1⟩, ar, br, af, bf⟩
    · rintro σ H1 ⟨v3, v4, cs, rfl, hl, hf1, hcs, rw1⟩
      obtain ⟨c0, c1, c2, rfl⟩ := len3 hl
      refine ⟨_, rfl, _, rfl, _, rfl, f, _, rfl, SqL.of hf1, fun g hg => ?_⟩
      have s1 : Same H1 (upd H1 g (.lst (cutV ([c0, c1, c2].map fun c => V.ref c.t) none (some 2)))) := Same.upd_new hg
      refine ⟨f, g, _, _, rfl, rfl, s1 _ _ hf1, upd_same, by show 3 + 2 ≤ sizeLine; decide, fun l hl0 => ?_⟩
      have s2 : Same H1 (upd (upd H1 g (.lst (cutV ([c0, c1, c2].map fun c => V.ref c.t) none (some 2)))) l (.lst (([c0, c1, c2].map fun c => V.ref c.t) ++ cutV ([c0, c1, c2].map fun c => V.ref c.t) none (some 2)))) := s1.new hl0
      have hll : (upd (upd H1 g (.lst (cutV ([c0, c1, c2].map fun c => V.ref c.t) none (some 2)))) l (.lst (([c0, c1, c2].map fun c => V.ref c.t) ++ cutV ([c0, c1, c2].map fun c => V.ref c.t) none (some 2)))) l = some (.lst ([c0, c1, c2, c0, c1].map fun c => V.ref c.t)) := upd_same
      revert s2 hll
      generalize (upd (upd H1 g (.lst (cutV ([c0, c1, c2].map fun c => V.ref c.t) none (some 2)))) l (.lst (([c0, c1, c2].map fun c => V.ref c.t) ++ cutV ([c0, c1, c2].map fun c => V.ref c.t) none (some 2)))) = H2
      intro s2 hll
      have cs2 : ∀ c ∈ [c0, c1, c2, c0, c1], CaseAt H2 c ∧ CaseOk c := fun c hc => by
        have : c ∈ [c0, c1, c2] := by
          simp only [List.mem_cons, List.not_mem_nil, or_false] at hc ⊢
          rcases hc with h | h | h | h | h <;> simp [h]
        exact ⟨(hcs c this).1.same s2, (hcs c this).2.1⟩
      refine ⟨l, rfl, ⟨_, SqL.of hll⟩, for_list (K := K) (a := l) (xs := [c0, c1, c2, c0, c1].map fun c => V.ref c.t) (fun i σ H' => ∃ (v3 v4 v5 v6 v7 : Option V), σ = [some (.ref a), some (.ref r), some (.ref f), v3, v4, v5, v6, v7] ∧ Same H2 H') ⟨_, _, _, _, _, rfl, Same.refl _⟩ (fun i σ H' _ ⟨_, _, _, _, _, _, s⟩ => s.seq (SqL.of hll)) ?_ ?_⟩
      · rintro i x σ H3 hi ⟨v3, v4, v5, v6, v7, rfl, s3⟩
        rw [List.getElem?_map] at hi
        obtain ⟨c, hc, rfl⟩ := Option.map_eq_some_iff.mp hi
        obtain ⟨C, O⟩ := cs2 c (List.mem_of_getElem? hc)
        have C3 := C.same s3
        refine ⟨c.t, _, rfl, SqT.of C3.t, rfl, _, _, rfl, _, _, rfl, rfl, ?_⟩
        have W : ∀ H', Same H3 H' → Rws K H' c.q c.a c.b c.R c.R0 c.R1 := fun H' s => ⟨SqT.of (s _ _ C3.w.hq), SqL.of (s _ _ C3.w.ha), SqL.of (s _ _ C3.w.hb), O.len, O.most, O.f0, O.f1⟩
        refine ⟨_, rfl, c.q, c.a, c.b, c.R, c.R0, c.R1, rfl, O.ok, W _ (Same.refl _), fun H4 s4 => ?_⟩
        have C4 := C3.same s4
        refine ⟨_, rfl, _, rfl, c.p, c.R, c.R0, c.R1, rfl, C4.r, O.ok, O.len, O.most, O.f0, O.f1, fun q' a' b' H5 nq na nb w5 s5 => ?_⟩
        have C5 := C4.same s5
        refine ⟨_, rfl, _, rfl, c.p, c.q, c.a, c.b, c.R, c.R0, c.R1, rfl, C5.r, O.ok, W _ (s4.trans s5), fun H6 s6 => ?_⟩
        refine ⟨_, rfl, _, _, rfl, .str _, fun H7 s7 => ⟨_, rfl, iteF ?_⟩⟩
        have C7 := (C5.same s6).same s7
        have w7 := (w5.same s6).same s7
        refine ⟨_, rfl, _, rfl, _, _, rfl, lk_rows w7 C7.w (Nat.le_trans O.most (by decide)) (by rw [← O.len]; exact Nat.le_trans O.most (by decide)), fun H8 s8 => ⟨_, rfl, iteF ?_⟩⟩
        have w8 := w7.same s8
        refine ⟨_, rfl, q', _, _, _, rfl, rfl, SqT.of w8.hq, at0, .inl ⟨rfl, _, SqL.of w8.ha⟩, a', _, _, rfl, rfl, w8.ha, small1000 (by rw [List.length_map]; have := O.most; omega), ?_⟩
        have hb9 : (upd H8 a' (.lst (c.R0.map oV ++ [.non]))) b' = some (.lst (c.R1.map oV)) := by rw [upd_ne w8.ne.symm]; exact w8.hb
        have hq9 : (upd H8 a' (.lst (c.R0.map oV ++ [.non]))) q' = some (.tup [.ref a', .ref b']) := by rw [upd_ne (tup_ne w8.hq w8.ha)]; exact w8.hq
        refine ⟨_, rfl, q', _, _, _, rfl, rfl, SqT.of hq9, at1, .inl ⟨rfl, _, SqL.of hb9⟩, b', _, rfl, rfl, hb9, ?_⟩
        have s38 : Same H3 H8 := ((s4.trans s5).trans s6).trans (s7.trans s8)
        exact ⟨_, _, _, _, _, rfl, s3.trans ((s38.mut (s4.free na)).mut (s4.free nb))⟩
      · rintro σ H3 ⟨v3, v4, v5, v6, v7, rfl, s3⟩
        exact k H3
end
end Tp
namespace Tp
open PySem L2
theorem all_mk {l : PySem.W.OpenLaw} {w : World} {K : PySem.W.Frag} {h : Heap} {mg : Str → Option Value} {fa : Addr} (X : K.In h) (G : h.Ns mainGlobals mg) (hfa : mg "law" = some (.ref fa))
    {f0 : Addr} {od0 an0 : Option Addr} {sl0 : Array (Option Value)} {oc0 kV0 dc0 pm0 cd0 ct0 : Value}
    {f1 : Addr} {od1 an1 : Option Addr} {sl1 : Array (Option Value)} {oc1 kV1 dc1 pm1 cd1 ct1 : Value}
    {f2 : Addr} {od2 an2 : Option Addr} {sl2 : Array (Option Value)} {oc2 kV2 dc2 pm2 cd2 ct2 : Value}
    {f3 : Addr} {od3 an3 : Option Addr} {sl3 : Array (Option Value)} {oc3 kV3 dc3 pm3 cd3 ct3 : Value}
    {f4 : Addr} {od4 an4 : Option Addr} {sl4 : Array (Option Value)} {oc4 kV4 dc4 pm4 cd4 ct4 : Value}
    {f5 : Addr} {od5 an5 : Option Addr} {sl5 : Array (Option Value)} {oc5 kV5 dc5 pm5 cd5 ct5 : Value}
    {f6 : Addr} {od6 an6 : Option Addr} {sl6 : Array (Option Value)} {oc6 kV6 dc6 pm6 cd6 ct6 : Value}
    {f7 : Addr} {od7 an7 : Option Addr} {sl7 : Array (Option Value)} {oc7 kV7 dc7 pm7 cd7 ct7 : Value}
    {f8 : Addr} {od8 an8 : Option Addr} {sl8 : Array (Option Value)} {oc8 kV8 dc8 pm8 cd8 ct8 : Value}
    {f9 : Addr} {od9 an9 : Option Addr} {sl9 : Array (Option Value)} {oc9 kV9 dc9 pm9 cd9 ct9 : Value}
    {f10 : Addr} {od10 an10 : Option Addr} {sl10 : Array (Option Value)} {oc10 kV10 dc10 pm10 cd10 ct10 : Value}
    {f11 : Addr} {od11 an11 : Option Addr} {sl11 : Array (Option Value)} {oc11 kV11 dc11 pm11 cd11 ct11 : Value}
    {f12 : Addr} {od12 an12 : Option Addr} {sl12 : Array (Option Value)} {oc12 kV12 dc12 pm12 cd12 ct12 : Value}
    {t_MOST_LATE : Tok}
    {t_MOST_THINGS : Tok}
    {t_FIGURES : Tok}
    {t_GONE : Tok}
    (a0 : PySem.W.nsIn K mainGlobals "need_roads" = some (some (.ref f0))) (l0 : K.lookup f0 = some ⟨oc0, od0, .func (PySem.W.fnOf "need_roads" "need_roads" (defArgs s_need_roads) (defBody s_need_roads) (defScope s_need_roads) .none kV0 dc0 pm0 an0 cd0 ct0), sl0⟩) (c0 : PySem.W.codeIn K cd0 "need_roads" = true) (k0 : PySem.W.keepIn K (.ref f0) = true)
    (a1 : PySem.W.nsIn K mainGlobals "need_rows" = some (some (.ref f1))) (l1 : K.lookup f1 = some ⟨oc1, od1, .func (PySem.W.fnOf "need_rows" "need_rows" (defArgs s_need_rows) (defBody s_need_rows) (defScope s_need_rows) .none kV1 dc1 pm1 an1 cd1 ct1), sl1⟩) (c1 : PySem.W.codeIn K cd1 "need_rows" = true) (k1 : PySem.W.keepIn K (.ref f1) = true)
    (a2 : PySem.W.nsIn K mainGlobals "sign_of" = some (some (.ref f2))) (l2 : K.lookup f2 = some ⟨oc2, od2, .func (PySem.W.fnOf "sign_of" "sign_of" (defArgs s_sign_of) (defBody s_sign_of) (defScope s_sign_of) .none kV2 dc2 pm2 an2 cd2 ct2), sl2⟩) (c2 : PySem.W.codeIn K cd2 "sign_of" = true) (k2 : PySem.W.keepIn K (.ref f2) = true)
    (a3 : PySem.W.nsIn K mainGlobals "written" = some (some (.ref f3))) (l3 : K.lookup f3 = some ⟨oc3, od3, .func (PySem.W.fnOf "written" "written" (defArgs s_written) (defBody s_written) (defScope s_written) .none kV3 dc3 pm3 an3 cd3 ct3), sl3⟩) (c3 : PySem.W.codeIn K cd3 "written" = true) (k3 : PySem.W.keepIn K (.ref f3) = true)
    (a4 : PySem.W.nsIn K mainGlobals "row_of" = some (some (.ref f4))) (l4 : K.lookup f4 = some ⟨oc4, od4, .func (PySem.W.fnOf "row_of" "row_of" (defArgs s_row_of) (defBody s_row_of) (defScope s_row_of) .none kV4 dc4 pm4 an4 cd4 ct4), sl4⟩) (c4 : PySem.W.codeIn K cd4 "row_of" = true) (k4 : PySem.W.keepIn K (.ref f4) = true)
    (a5 : PySem.W.nsIn K mainGlobals "read" = some (some (.ref f5))) (l5 : K.lookup f5 = some ⟨oc5, od5, .func (PySem.W.fnOf "read" "read" (defArgs s_read) (defBody s_read) (defScope s_read) .none kV5 dc5 pm5 an5 cd5 ct5), sl5⟩) (c5 : PySem.W.codeIn K cd5 "read" = true) (k5 : PySem.W.keepIn K (.ref f5) = true)
    (a6 : PySem.W.nsIn K mainGlobals "_law_taken" = some (some (.ref f6))) (l6 : K.lookup f6 = some ⟨oc6, od6, .func (PySem.W.fnOf "_law_taken" "_law_taken" (defArgs s_Ltaken) (defBody s_Ltaken) (defScope s_Ltaken) .none kV6 dc6 pm6 an6 cd6 ct6), sl6⟩) (c6 : PySem.W.codeIn K cd6 "_law_taken" = true) (k6 : PySem.W.keepIn K (.ref f6) = true)
    (a7 : PySem.W.nsIn K mainGlobals "_law_alike" = some (some (.ref f7))) (l7 : K.lookup f7 = some ⟨oc7, od7, .func (PySem.W.fnOf "_law_alike" "_law_alike" (defArgs s_Lalike) (defBody s_Lalike) (defScope s_Lalike) .none kV7 dc7 pm7 an7 cd7 ct7), sl7⟩) (c7 : PySem.W.codeIn K cd7 "_law_alike" = true) (k7 : PySem.W.keepIn K (.ref f7) = true)
    (a8 : PySem.W.nsIn K mainGlobals "_law_roads" = some (some (.ref f8))) (l8 : K.lookup f8 = some ⟨oc8, od8, .func (PySem.W.fnOf "_law_roads" "_law_roads" (defArgs s_Lroads) (defBody s_Lroads) (defScope s_Lroads) .none kV8 dc8 pm8 an8 cd8 ct8), sl8⟩) (c8 : PySem.W.codeIn K cd8 "_law_roads" = true) (k8 : PySem.W.keepIn K (.ref f8) = true)
    (a9 : PySem.W.nsIn K mainGlobals "_law_late" = some (some (.ref f9))) (l9 : K.lookup f9 = some ⟨oc9, od9, .func (PySem.W.fnOf "_law_late" "_law_late" (defArgs s_Llate) (defBody s_Llate) (defScope s_Llate) .none kV9 dc9 pm9 an9 cd9 ct9), sl9⟩) (c9 : PySem.W.codeIn K cd9 "_law_late" = true) (k9 : PySem.W.keepIn K (.ref f9) = true)
    (a10 : PySem.W.nsIn K mainGlobals "_law_rows" = some (some (.ref f10))) (l10 : K.lookup f10 = some ⟨oc10, od10, .func (PySem.W.fnOf "_law_rows" "_law_rows" (defArgs s_Lrows) (defBody s_Lrows) (defScope s_Lrows) .none kV10 dc10 pm10 an10 cd10 ct10), sl10⟩) (c10 : PySem.W.codeIn K cd10 "_law_rows" = true) (k10 : PySem.W.keepIn K (.ref f10) = true)
    (a11 : PySem.W.nsIn K mainGlobals "_law_text" = some (some (.ref f11))) (l11 : K.lookup f11 = some ⟨oc11, od11, .func (PySem.W.fnOf "_law_text" "_law_text" (defArgs s_Ltext) (defBody s_Ltext) (defScope s_Ltext) .none kV11 dc11 pm11 an11 cd11 ct11), sl11⟩) (c11 : PySem.W.codeIn K cd11 "_law_text" = true) (k11 : PySem.W.keepIn K (.ref f11) = true)
    (a12 : PySem.W.nsIn K mainGlobals "law" = some (some (.ref f12))) (l12 : K.lookup f12 = some ⟨oc12, od12, .func (PySem.W.fnOf "law" "law" (defArgs s_law) (defBody s_law) (defScope s_law) .none kV12 dc12 pm12 an12 cd12 ct12), sl12⟩) (c12 : PySem.W.codeIn K cd12 "law" = true) (k12 : PySem.W.keepIn K (.ref f12) = true)
    (g_MOST_LATE : PySem.W.nsIn K mainGlobals "MOST_LATE" = some (some (.int 9 t_MOST_LATE)))
    (g_MOST_THINGS : PySem.W.nsIn K mainGlobals "MOST_THINGS" = some (some (.int 80 t_MOST_THINGS)))
    (g_FIGURES : PySem.W.nsIn K mainGlobals "FIGURES" = some (some (.str "0123456789" t_FIGURES)))
    (g_GONE : PySem.W.nsIn K mainGlobals "GONE" = some (some (.str "-" t_GONE)))
    (z_ValueError : PySem.W.nsIn K mainGlobals "ValueError" = some none)
    (z_bool : PySem.W.nsIn K mainGlobals "bool" = some none)
    (z_int : PySem.W.nsIn K mainGlobals "int" = some none)
    (z_isinstance : PySem.W.nsIn K mainGlobals "isinstance" = some none)
    (z_len : PySem.W.nsIn K mainGlobals "len" = some none)
    (z_list : PySem.W.nsIn K mainGlobals "list" = some none)
    (z_max : PySem.W.nsIn K mainGlobals "max" = some none)
    (z_min : PySem.W.nsIn K mainGlobals "min" = some none)
    (z_range : PySem.W.nsIn K mainGlobals "range" = some none)
    (z_str : PySem.W.nsIn K mainGlobals "str" = some none)
    (z_tuple : PySem.W.nsIn K mainGlobals "tuple" = some none)
    : ∃ fd : FuncData, (∀ (s : Shared) (v : Value), BindsTo s fd ⟨[v], []⟩ [("_law_script", v)]) ∧ ∀ base : Heap, K.In base → base.Ns mainGlobals mg → FnOk l.prog w K mg base CX0 5 fa fd ["_law_script"] (spLaw K) := by
  have e := hfa.symm.trans (PySem.W.mg_of X G a12)
  cases e
  have F0 := fun_mk (st := s_need_roads) l0 c0 k0
  have b0 := F0.binds (ps := P_need_roads) fun _ _ _ _ _ _ us hl => match us, hl with | [_], _ => rfl
  have F1 := fun_mk (st := s_need_rows) l1 c1 k1
  have b1 := F1.binds (ps := P_need_rows) fun _ _ _ _ _ _ us hl => match us, hl with | [_, _], _ => rfl
  have F2 := fun_mk (st := s_sign_of) l2 c2 k2
  have b2 := F2.binds (ps := P_sign_of) fun _ _ _ _ _ _ us hl => match us, hl with | [_], _ => rfl
  have F3 := fun_mk (st := s_written) l3 c3 k3
  have b3 := F3.binds (ps := P_written) fun _ _ _ _ _ _ us hl => match us, hl with | [_, _], _ => rfl
  have F4 := fun_mk (st := s_row_of) l4 c4 k4
  have b4 := F4.binds (ps := P_row_of) fun _ _ _ _ _ _ us hl => match us, hl with | [_, _], _ => rfl
  have F5 := fun_mk (st := s_read) l5 c5 k5
  have b5 := F5.binds (ps := P_read) fun _ _ _ _ _ _ us hl => match us, hl with | [_, _], _ => rfl
  have F6 := fun_mk (st := s_Ltaken) l6 c6 k6
  have b6 := F6.binds (ps := P_Ltaken) fun _ _ _ _ _ _ us hl => match us, hl with | [_, _], _ => rfl
  have F7 := fun_mk (st := s_Lalike) l7 c7 k7
  have b7 := F7.binds (ps := P_Lalike) fun _ _ _ _ _ _ us hl => match us, hl with | [_, _], _ => rfl
  have F8 := fun_mk (st := s_Lroads) l8 c8 k8
  have b8 := F8.binds (ps := P_Lroads) fun _ _ _ _ _ _ us hl => match us, hl with | [_], _ => rfl
  have F9 := fun_mk (st := s_Llate) l9 c9 k9
  have b9 := F9.binds (ps := P_Llate) fun _ _ _ _ _ _ us hl => match us, hl with | [_, _], _ => rfl
  have F10 := fun_mk (st := s_Lrows) l10 c10 k10
  have b10 := F10.binds (ps := P_Lrows) fun _ _ _ _ _ _ us hl => match us, hl with | [_, _, _, _], _ => rfl
  have F11 := fun_mk (st := s_Ltext) l11 c11 k11
  have b11 := F11.binds (ps := P_Ltext) fun _ _ _ _ _ _ us hl => match us, hl with | [_], _ => rfl
  have F12 := fun_mk (st := s_law) l12 c12 k12
  have b12 := F12.binds (ps := P_law) fun _ _ _ _ _ _ us hl => match us, hl with | [_], _ => rfl
  let T : Txt K mg := {
    f_need_roads := _, fd_need_roads := _, F_need_roads := F0, mg_need_roads := PySem.W.mg_of X G a0, kp_need_roads := k0, b_need_roads := b0,
    f_need_rows := _, fd_need_rows := _, F_need_rows := F1, mg_need_rows := PySem.W.mg_of X G a1, kp_need_rows := k1, b_need_rows := b1,
    f_sign_of := _, fd_sign_of := _, F_sign_of := F2, mg_sign_of := PySem.W.mg_of X G a2, kp_sign_of := k2, b_sign_of := b2,
    f_written := _, fd_written := _, F_written := F3, mg_written := PySem.W.mg_of X G a3, kp_written := k3, b_written := b3,
    f_row_of := _, fd_row_of := _, F_row_of := F4, mg_row_of := PySem.W.mg_of X G a4, kp_row_of := k4, b_row_of := b4,
    f_read := _, fd_read := _, F_read := F5, mg_read := PySem.W.mg_of X G a5, kp_read := k5, b_read := b5,
    f_Ltaken := _, fd_Ltaken := _, F_Ltaken := F6, mg_Ltaken := PySem.W.mg_of X G a6, kp_Ltaken := k6, b_Ltaken := b6,
    f_Lalike := _, fd_Lalike := _, F_Lalike := F7, mg_Lalike := PySem.W.mg_of X G a7, kp_Lalike := k7, b_Lalike := b7,
    f_Lroads := _, fd_Lroads := _, F_Lroads := F8, mg_Lroads := PySem.W.mg_of X G a8, kp_Lroads := k8, b_Lroads := b8,
    f_Llate := _, fd_Llate := _, F_Llate := F9, mg_Llate := PySem.W.mg_of X G a9, kp_Llate := k9, b_Llate := b9,
    f_Lrows := _, fd_Lrows := _, F_Lrows := F10, mg_Lrows := PySem.W.mg_of X G a10, kp_Lrows := k10, b_Lrows := b10,
    f_Ltext := _, fd_Ltext := _, F_Ltext := F11, mg_Ltext := PySem.W.mg_of X G a11, kp_Ltext := k11, b_Ltext := b11,
    f_law := _, fd_law := _, F_law := F12, mg_law := PySem.W.mg_of X G a12, kp_law := k12, b_law := b12,
    u_MOST_LATE := _, mg_MOST_LATE := PySem.W.mg_of X G g_MOST_LATE, rv_MOST_LATE := ⟨_, rfl⟩,
    u_MOST_THINGS := _, mg_MOST_THINGS := PySem.W.mg_of X G g_MOST_THINGS, rv_MOST_THINGS := ⟨_, rfl⟩,
    u_FIGURES := _, mg_FIGURES := PySem.W.mg_of X G g_FIGURES, rv_FIGURES := ⟨_, rfl⟩,
    u_GONE := _, mg_GONE := PySem.W.mg_of X G g_GONE, rv_GONE := ⟨_, rfl⟩,
    z_ValueError := PySem.W.mg_none_of X G z_ValueError,
    z_bool := PySem.W.mg_none_of X G z_bool,
    z_int := PySem.W.mg_none_of X G z_int,
    z_isinstance := PySem.W.mg_none_of X G z_isinstance,
    z_len := PySem.W.mg_none_of X G z_len,
    z_list := PySem.W.mg_none_of X G z_list,
    z_max := PySem.W.mg_none_of X G z_max,
    z_min := PySem.W.mg_none_of X G z_min,
    z_range := PySem.W.mg_none_of X G z_range,
    z_str := PySem.W.mg_none_of X G z_str,
    z_tuple := PySem.W.mg_none_of X G z_tuple }
  exact ⟨PySem.W.fnOf "law" "law" (defArgs s_law) (defBody s_law) (defScope s_law) .none kV12 dc12 pm12 an12 cd12 ct12, fun s v => .of_eq rfl, fun base _ _ => ok_law T⟩
theorem walk {l : PySem.W.OpenLaw} {q : Program} {loose : List Str} {XP : (Str → Option Value) → Heap → Prop} {YP : World → Heap → Prop} {d : DefRec} {K : Params → PySem.W.Frag} (hn : l.most = some 63) (hdf : d.params.defaults = [])
    (hY : ∀ (w : World) (h : Heap), YP w h → (K w.params).In h)
    (F : ∀ (w : World) (mg : Str → Option Value) (fa : Addr) (h : Heap), (K w.params).In h → h.Ns mainGlobals mg → mg d.name = some (.ref fa) →
      ∃ fd : FuncData, (∀ (s : Shared) (u : Value), BindsTo s fd ⟨[u], []⟩ [("_law_script", u)]) ∧ ∀ base : Heap, (K w.params).In base → base.Ns mainGlobals mg → FnOk l.prog w (K w.params) mg base CX0 5 fa fd ["_law_script"] (spLaw (K w.params))) :
    PySem.W.WalkO q loose XP YP l.row.toRowW d [] (fun f vs => PySem.call f vs) :=
  L2.walk_of (n := 63) (k := 5) (x := "_law_script") (CX := fun _ => CX0) (sp := fun w => spLaw (K w.params)) hn (by decide) hdf ⟨rfl, by decide, by decide⟩ hY F (fun _ _ a ns _ hO hS => ⟨a, ns, rfl, Scr.of hO hS, fun _ => rfl⟩) fun _ _ _ _ _ z => z
end Tp
open PySem PySem.W PyProof.Rows
set_option maxRecDepth 100000 in
set_option maxHeartbeats 0 in
theorem PySem.Challenge.cw_twopaths_k11_written_and_read_holds : PySem.Challenge.rw_twopaths_k11_written_and_read.Holds := by
  w_on; o_law; k_head; (case hw => w_witness2)
  k_fill
  refine Tp.walk (l := PySem.Challenge.rw_twopaths_k11_written_and_read) rfl rfl (fun w h Y => PySem.W.kIn_of Y) ?F
  case F =>
    intro w mg fa h KX G hmg
    refine' Tp.all_mk KX G hmg ?a0 ?l0 ?c0 ?k0 ?a1 ?l1 ?c1 ?k1 ?a2 ?l2 ?c2 ?k2 ?a3 ?l3 ?c3 ?k3 ?a4 ?l4 ?c4 ?k4 ?a5 ?l5 ?c5 ?k5 ?a6 ?l6 ?c6 ?k6 ?a7 ?l7 ?c7 ?k7 ?a8 ?l8 ?c8 ?k8 ?a9 ?l9 ?c9 ?k9 ?a10 ?l10 ?c10 ?k10 ?a11 ?l11 ?c11 ?k11 ?a12 ?l12 ?c12 ?k12 ?g_MOST_LATE ?g_MOST_THINGS ?g_FIGURES ?g_GONE ?z_ValueError ?z_bool ?z_int ?z_isinstance ?z_len ?z_list ?z_max ?z_min ?z_range ?z_str ?z_tuple
    (case a0 => k_is); (case l0 => k_is); (case c0 => k_is); (case k0 => k_is); (case a1 => k_is); (case l1 => k_is)
    (case c1 => k_is); (case k1 => k_is); (case a2 => k_is); (case l2 => k_is); (case c2 => k_is); (case k2 => k_is)
    (case a3 => k_is); (case l3 => k_is); (case c3 => k_is); (case k3 => k_is); (case a4 => k_is); (case l4 => k_is)
    (case c4 => k_is); (case k4 => k_is); (case a5 => k_is); (case l5 => k_is); (case c5 => k_is); (case k5 => k_is)
    (case a6 => k_is); (case l6 => k_is); (case c6 => k_is); (case k6 => k_is); (case a7 => k_is); (case l7 => k_is)
    (case c7 => k_is); (case k7 => k_is); (case a8 => k_is); (case l8 => k_is); (case c8 => k_is); (case k8 => k_is)
    (case a9 => k_is); (case l9 => k_is); (case c9 => k_is); (case k9 => k_is); (case a10 => k_is); (case l10 => k_is)
    (case c10 => k_is); (case k10 => k_is); (case a11 => k_is); (case l11 => k_is); (case c11 => k_is); (case k11 => k_is)
    (case a12 => k_is); (case l12 => k_is); (case c12 => k_is); (case k12 => k_is); (case g_MOST_LATE => k_is); (case g_MOST_THINGS => k_is)
    (case g_FIGURES => k_is); (case g_GONE => k_is); (case z_ValueError => k_is); (case z_bool => k_is); (case z_int => k_is); (case z_isinstance => k_is)
    (case z_len => k_is); (case z_list => k_is); (case z_max => k_is); (case z_min => k_is); (case z_range => k_is); (case z_str => k_is)
    (case z_tuple => k_is)
