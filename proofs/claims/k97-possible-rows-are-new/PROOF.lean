import PyProof.Rows.All
import Wide.All
import OpenK.AllK
import Wide.FinOn
import HandS.ForMost
import HandS.Codes
import HandS.CallLocal
import HandS.DictComp
import HandS.Strs
import HandS.IsInst
import HandS.Defaults
import HandS.More
import HandS.Wide
import HandS.Gcd
import HandS.Flow
import HandS.SetBool
import HandS.Conv
import HandS.SetFor
import HandS.Walk
import HandS.DeepEq
import PySem.Challenge.RW_lineworks_k97_possible_rows_are_new_list
import KE.SortKeyHeap
import HandS.SortKw
import HandS.Exc
import KE.KeyNested
import KE.LtData
import KE.DataCmp
import HandS.TupLe
import HandS.TupAny
import HandS.Deep
set_option Elab.async false
set_option maxRecDepth 100000
set_option maxHeartbeats 4000000
set_option linter.all false
/-! The defs of the text, one promise each. -/
namespace Lw
open PySem PySem.Spec PyProof.Rows L2
open C8 (Cal Met pe_c pe_mt pe_mt0 pe_gc pss_cut tCut)
/-! ### the text by places -/
def top (i : Nat) : Stmt := PySem.Challenge.pw_lineworks_k97_possible_rows_are_new_list.main.body.getD i (.Pass ⟨0, 0, 0, 0⟩)
abbrev sD_value_key : Stmt := top 2
theorem sc_value_key : FnScope ["value"] ["value"] (defScope sD_value_key) :=
  ⟨rfl, rfl, rfl, by decide +kernel, rfl, by decide +kernel, by decide +kernel⟩
abbrev sD_row_key : Stmt := top 3
theorem sc_row_key : FnScope ["row", "value"] ["row"] (defScope sD_row_key) :=
  ⟨rfl, rfl, rfl, by decide +kernel, rfl, by decide +kernel, by decide +kernel⟩
abbrev sD_bounded : Stmt := top 4
theorem sc_bounded : FnScope ["number"] ["number"] (defScope sD_bounded) :=
  ⟨rfl, rfl, rfl, by decide +kernel, rfl, by decide +kernel, by decide +kernel⟩
abbrev sD_truth : Stmt := top 5
theorem sc_truth : FnScope ["value"] ["value"] (defScope sD_truth) :=
  ⟨rfl, rfl, rfl, by decide +kernel, rfl, by decide +kernel, by decide +kernel⟩
abbrev sD_is_true : Stmt := top 6
theorem sc_is_true : FnScope ["value"] ["value"] (defScope sD_is_true) :=
  ⟨rfl, rfl, rfl, by decide +kernel, rfl, by decide +kernel, by decide +kernel⟩
abbrev sD_from_truth : Stmt := top 7
theorem sc_from_truth : FnScope ["known"] ["known"] (defScope sD_from_truth) :=
  ⟨rfl, rfl, rfl, by decide +kernel, rfl, by decide +kernel, by decide +kernel⟩
abbrev sD_both_true : Stmt := top 8
theorem sc_both_true : FnScope ["first", "second"] ["first", "second"] (defScope sD_both_true) :=
  ⟨rfl, rfl, rfl, by decide +kernel, rfl, by decide +kernel, by decide +kernel⟩
abbrev sD_either_true : Stmt := top 9
theorem sc_either_true : FnScope ["first", "second"] ["first", "second"] (defScope sD_either_true) :=
  ⟨rfl, rfl, rfl, by decide +kernel, rfl, by decide +kernel, by decide +kernel⟩
abbrev sD_negate : Stmt := top 10
theorem sc_negate : FnScope ["value"] ["value"] (defScope sD_negate) :=
  ⟨rfl, rfl, rfl, by decide +kernel, rfl, by decide +kernel, by decide +kernel⟩
abbrev sD_is_false : Stmt := top 11
theorem sc_is_false : FnScope ["value", "known"] ["value"] (defScope sD_is_false) :=
  ⟨rfl, rfl, rfl, by decide +kernel, rfl, by decide +kernel, by decide +kernel⟩
abbrev sD_is_missing : Stmt := top 12
theorem sc_is_missing : FnScope ["value"] ["value"] (defScope sD_is_missing) :=
  ⟨rfl, rfl, rfl, by decide +kernel, rfl, by decide +kernel, by decide +kernel⟩
abbrev sD_length : Stmt := top 13
theorem sc_length : FnScope ["value"] ["value"] (defScope sD_length) :=
  ⟨rfl, rfl, rfl, by decide +kernel, rfl, by decide +kernel, by decide +kernel⟩
abbrev sD_add : Stmt := top 14
theorem sc_add : FnScope ["first", "second"] ["first", "second"] (defScope sD_add) :=
  ⟨rfl, rfl, rfl, by decide +kernel, rfl, by decide +kernel, by decide +kernel⟩
abbrev sD_subtract : Stmt := top 15
theorem sc_subtract : FnScope ["first", "second"] ["first", "second"] (defScope sD_subtract) :=
  ⟨rfl, rfl, rfl, by decide +kernel, rfl, by decide +kernel, by decide +kernel⟩
abbrev sD_multiply : Stmt := top 16
theorem sc_multiply : FnScope ["first", "second"] ["first", "second"] (defScope sD_multiply) :=
  ⟨rfl, rfl, rfl, by decide +kernel, rfl, by decide +kernel, by decide +kernel⟩
abbrev sD_divide : Stmt := top 17
theorem sc_divide : FnScope ["first", "second"] ["first", "second"] (defScope sD_divide) :=
  ⟨rfl, rfl, rfl, by decide +kernel, rfl, by decide +kernel, by decide +kernel⟩
abbrev sD_remainder : Stmt := top 18
theorem sc_remainder : FnScope ["first", "second"] ["first", "second"] (defScope sD_remainder) :=
  ⟨rfl, rfl, rfl, by decide +kernel, rfl, by decide +kernel, by decide +kernel⟩
abbrev sD_is_less : Stmt := top 19
theorem sc_is_less : FnScope ["first", "second"] ["first", "second"] (defScope sD_is_less) :=
  ⟨rfl, rfl, rfl, by decide +kernel, rfl, by decide +kernel, by decide +kernel⟩
abbrev sD_is_equal : Stmt := top 20
theorem sc_is_equal : FnScope ["first", "second"] ["first", "second"] (defScope sD_is_equal) :=
  ⟨rfl, rfl, rfl, by decide +kernel, rfl, by decide +kernel, by decide +kernel⟩
abbrev sD_conjunction : Stmt := top 21
theorem sc_conjunction : FnScope ["first", "second"] ["first", "second"] (defScope sD_conjunction) :=
  ⟨rfl, rfl, rfl, by decide +kernel, rfl, by decide +kernel, by decide +kernel⟩
abbrev sD_disjunction : Stmt := top 22
theorem sc_disjunction : FnScope ["first", "second"] ["first", "second"] (defScope sD_disjunction) :=
  ⟨rfl, rfl, rfl, by decide +kernel, rfl, by decide +kernel, by decide +kernel⟩
abbrev sD_starts : Stmt := top 23
theorem sc_starts : FnScope ["first", "second"] ["first", "second"] (defScope sD_starts) :=
  ⟨rfl, rfl, rfl, by decide +kernel, rfl, by decide +kernel, by decide +kernel⟩
abbrev sD_apply_two : Stmt := top 27
theorem sc_apply_two : FnScope ["form", "first", "second", "action"] ["form", "first", "second"] (defScope sD_apply_two) :=
  ⟨rfl, rfl, rfl, by decide +kernel, rfl, by decide +kernel, by decide +kernel⟩
abbrev sD_evaluate : Stmt := top 28
theorem sc_evaluate : FnScope ["expression", "row", "form", "first", "action"] ["expression", "row"] (defScope sD_evaluate) :=
  ⟨rfl, rfl, rfl, by decide +kernel, rfl, by decide +kernel, by decide +kernel⟩
abbrev sD_evaluate_all : Stmt := top 29
theorem sc_evaluate_all : FnScope ["expressions", "row", "expression"] ["expressions", "row"] (defScope sD_evaluate_all) :=
  ⟨rfl, rfl, rfl, by decide +kernel, rfl, by decide +kernel, by decide +kernel⟩
abbrev sD_in_order : Stmt := top 31
theorem sc_in_order : FnScope ["rows", "found", "row"] ["rows"] (defScope sD_in_order) :=
  ⟨rfl, rfl, rfl, by decide +kernel, rfl, by decide +kernel, by decide +kernel⟩
abbrev sD_matches : Stmt := top 32
theorem sc_matches : FnScope ["condition", "row", "others", "other"] ["condition", "row", "others"] (defScope sD_matches) :=
  ⟨rfl, rfl, rfl, by decide +kernel, rfl, by decide +kernel, by decide +kernel⟩
abbrev sD_joined_rows : Stmt := top 33
theorem sc_joined_rows : FnScope ["condition", "rows", "others", "joined", "row", "other"] ["condition", "rows", "others"] (defScope sD_joined_rows) :=
  ⟨rfl, rfl, rfl, by decide +kernel, rfl, by decide +kernel, by decide +kernel⟩
abbrev sD_operands : Stmt := top 35
theorem sc_operands : FnScope ["operation", "form"] ["operation"] (defScope sD_operands) :=
  ⟨rfl, rfl, rfl, by decide +kernel, rfl, by decide +kernel, by decide +kernel⟩
abbrev sD_limited : Stmt := top 36
theorem sc_limited : FnScope ["rows", "most"] ["rows", "most"] (defScope sD_limited) :=
  ⟨rfl, rfl, rfl, by decide +kernel, rfl, by decide +kernel, by decide +kernel⟩
abbrev sD_copied : Stmt := top 37
theorem sc_copied : FnScope ["rows"] ["rows"] (defScope sD_copied) :=
  ⟨rfl, rfl, rfl, by decide +kernel, rfl, by decide +kernel, by decide +kernel⟩
abbrev sD_known_rows : Stmt := top 38
theorem sc_known_rows : FnScope ["operation", "parts", "most", "form", "row"] ["operation", "parts", "most"] (defScope sD_known_rows) :=
  ⟨rfl, rfl, rfl, by decide +kernel, rfl, by decide +kernel, by decide +kernel⟩
abbrev sD_operation_possible : Stmt := top 39
theorem sc_operation_possible : FnScope ["operation", "done", "tables", "steps", "most", "form", "parts", "index", "part"] ["operation", "done", "tables", "steps", "most"] (defScope sD_operation_possible) :=
  ⟨rfl, rfl, rfl, by decide +kernel, rfl, by decide +kernel, by decide +kernel⟩
abbrev sD_possible_rows : Stmt := top 40
theorem sc_possible_rows : FnScope ["plan", "tables", "steps", "most", "done", "operation"] ["plan", "tables", "steps", "most"] (defScope sD_possible_rows) :=
  ⟨rfl, rfl, rfl, by decide +kernel, rfl, by decide +kernel, by decide +kernel⟩
abbrev sD_Ldraw : Stmt := top 42
theorem sc_Ldraw : FnScope ["script"] ["script"] (defScope sD_Ldraw) :=
  ⟨rfl, rfl, rfl, by decide +kernel, rfl, by decide +kernel, by decide +kernel⟩
abbrev sD_Lnext : Stmt := top 43
theorem sc_Lnext : FnScope ["draw", "many", "found", "cell"] ["draw", "many"] (defScope sD_Lnext) :=
  ⟨rfl, rfl, rfl, by decide +kernel, rfl, by decide +kernel, by decide +kernel⟩
abbrev sD_Lcell : Stmt := top 44
theorem sc_Lcell : FnScope ["draw", "form"] ["draw"] (defScope sD_Lcell) :=
  ⟨rfl, rfl, rfl, by decide +kernel, rfl, by decide +kernel, by decide +kernel⟩
abbrev sD_Lkey : Stmt := top 45
theorem sc_Lkey : FnScope ["value"] ["value"] (defScope sD_Lkey) :=
  ⟨rfl, rfl, rfl, by decide +kernel, rfl, by decide +kernel, by decide +kernel⟩
abbrev sD_Lrow_key : Stmt := top 46
theorem sc_Lrow_key : FnScope ["row", "value"] ["row"] (defScope sD_Lrow_key) :=
  ⟨rfl, rfl, rfl, by decide +kernel, rfl, by decide +kernel, by decide +kernel⟩
abbrev sD_Ldistinct : Stmt := top 47
theorem sc_Ldistinct : FnScope ["rows", "found", "row"] ["rows"] (defScope sD_Ldistinct) :=
  ⟨rfl, rfl, rfl, by decide +kernel, rfl, by decide +kernel, by decide +kernel⟩
abbrev sD_Lordered : Stmt := top 48
theorem sc_Lordered : FnScope ["rows"] ["rows"] (defScope sD_Lordered) :=
  ⟨rfl, rfl, rfl, by decide +kernel, rfl, by decide +kernel, by decide +kernel⟩
abbrev sD_Lexpression : Stmt := top 49
theorem sc_Lexpression : FnScope ["draw", "width", "depth", "form", "word", "first", "second", "words"] ["draw", "width", "depth"] (defScope sD_Lexpression) :=
  ⟨rfl, rfl, rfl, by decide +kernel, rfl, by decide +kernel, by decide +kernel⟩
abbrev sD_Lform : Stmt := top 50
theorem sc_Lform : FnScope ["draw", "width", "word"] ["draw", "width"] (defScope sD_Lform) :=
  ⟨rfl, rfl, rfl, by decide +kernel, rfl, by decide +kernel, by decide +kernel⟩
abbrev sD_Loperation : Stmt := top 51
theorem sc_Loperation : FnScope ["draw", "sizes", "widths", "steps", "form", "many", "index", "q", "r", "parts", "keys", "totals", "like", "word", "k"] ["draw", "sizes", "widths", "steps"] (defScope sD_Loperation) :=
  ⟨rfl, rfl, rfl, by decide +kernel, rfl, by decide +kernel, by decide +kernel⟩
abbrev sD_Lroom : Stmt := top 52
theorem sc_Lroom : FnScope ["operation", "rooms", "word", "many", "found", "form"] ["operation", "rooms"] (defScope sD_Lroom) :=
  ⟨rfl, rfl, rfl, by decide +kernel, rfl, by decide +kernel, by decide +kernel⟩
abbrev sD_Lplan : Stmt := top 53
theorem sc_Lplan : FnScope ["draw", "widths", "steps", "most", "plan", "sizes", "rooms", "many", "k", "operation", "size"] ["draw", "widths", "steps", "most"] (defScope sD_Lplan) :=
  ⟨rfl, rfl, rfl, by decide +kernel, rfl, by decide +kernel, by decide +kernel⟩
abbrev sD_Lrows : Stmt := top 54
theorem sc_Lrows : FnScope ["draw", "width", "most", "k", "j"] ["draw", "width", "most"] (defScope sD_Lrows) :=
  ⟨rfl, rfl, rfl, by decide +kernel, rfl, by decide +kernel, by decide +kernel⟩
abbrev sD_law : Stmt := top 55
theorem sc_law : FnScope ["script", "draw", "widths", "tables", "sizes", "size", "steps", "plan", "kept", "due", "k", "found", "rest", "width"] ["script"] (defScope sD_law) :=
  ⟨rfl, rfl, rfl, by decide +kernel, rfl, by decide +kernel, by decide +kernel⟩

/-! ### what is kept -/
/-- all that was tracked is as it was, but for what stands at M; tuples stay in any case -/
structure Kp (M : List Addr) (H H' : Hp) : Prop where
  k : ∀ b o, H b = some o → b ∉ M → H' b = some o
  t : ∀ b xs, H b = some (.tup xs) → H' b = some (.tup xs)
namespace Kp
variable {M N : List Addr} {H H1 H2 : Hp} {p : Addr} {o u : HO}
theorem refl : Kp M H H := ⟨fun _ _ h _ => h, fun _ _ h => h⟩
theorem trans (a : Kp M H H1) (b : Kp M H1 H2) : Kp M H H2 := ⟨fun c o h n => b.k c o (a.k c o h n) n, fun c xs h => b.t c xs (a.t c xs h)⟩
theorem wide (a : Kp M H H1) (h : ∀ b ∈ M, b ∈ N) : Kp N H H1 := ⟨fun c o e n => a.k c o e fun z => n (h c z), a.t⟩
theorem new (h : H p = none) : Kp M H (upd H p o) :=
  ⟨fun c q e _ => by rw [upd_ne (ne_of_none e h)]; exact e, fun c q e => by rw [upd_ne (ne_of_none e h)]; exact e⟩
theorem put (hp : p ∈ M) (h : H p = some u) (hu : ∀ xs, u ≠ .tup xs) : Kp M H (upd H p o) :=
  ⟨fun c q e n => by rw [upd_ne fun z => n (by rw [z]; exact hp)]; exact e,
   fun c q e => by rw [upd_ne fun z => by rw [z, h] at e; exact hu _ (Option.some.inj e)]; exact e⟩
theorem same (a : Same H H1) : Kp M H H1 := ⟨fun c o h _ => a c o h, fun c xs h => a c _ h⟩
theorem toSame (a : Kp [] H H1) : Same H H1 := fun c o h => a.k c o h (by simp)
theorem free (a : Kp M H H1) (h : H1 p = none) (hp : p ∉ M) : H p = none := by
  cases e : H p with
  | none => rfl
  | some q => rw [a.k p q e hp] at h; cases h
/-- what H does not know may change -/
theorem mt (a : Kp M H H1) (h : H p = none) : Kp M H (upd H1 p o) :=
  ⟨fun c q e n => by rw [upd_ne (ne_of_none e h)]; exact a.k c q e n, fun c q e => by rw [upd_ne (ne_of_none e h)]; exact a.t c q e⟩
theorem newer (a : Kp M H H1) (h : H1 p = none) : Kp M H (upd H1 p o) := a.trans (new h)
end Kp

/-! ### the defs of the text as they stand behind the top -/
section
variable {P : Program} {w : World} {K : PySem.W.Frag} {mg : Str → Option Value} {base : Heap}
/-- a def of the module -/
def GD (K : PySem.W.Frag) (mg : Str → Option Value) (x : Str) (st : Stmt) (ps : List Str) : Prop :=
  ∃ (f : Addr) (fd : FuncData), Fun K x x st f fd ∧ mg x = some (.ref f) ∧ Binds K fd ps []
/-- a method of the class at C -/
def GM (K : PySem.W.Frag) (C : Addr) (m qual : Str) (st : Stmt) (ps : List Str) : Prop :=
  ∃ (f : Addr) (fd : FuncData), Fun K m qual st f fd ∧ Meth K C m f ∧ Binds K fd ps []
theorem GD.cal {x : Str} {st : Stmt} {N ps : List Str} {k : Nat} {sp : Sp} (D : GD K mg x st ps) (S : FnScope N ps (defScope st)) (len : ∀ vs H Q E, sp vs H Q E → vs.length = ps.length)
    (hbody : ∀ (f : Addr) (cdv : Value) (A : Around) (outer : List Env) (s : Shared) (H : Hp) (vs : List V) (Q : VK) (E : XK),
      Room k (A.deeper (envOfC x (defScope st) s.heap.objs.size f cdv)) → sp vs H Q E →
      ∃ t, PSs (cxOf CX0 P w K mg base N x (defScope st) f cdv A outer s H E).nox (defBody st) t ∧ t { nx := fun _ H' => Q .non H', rt := Q } (start N vs) H) :
    Cal P w K mg base (k + 1) x sp [] := by
  obtain ⟨f, fd, F, hm, hb⟩ := D
  exact ⟨f, fd, ps, [], F.ok S len (hbody f), hm, F.kp, hb, .nil⟩
theorem GM.met {C : Addr} {m qual : Str} {st : Stmt} {N ps : List Str} {k : Nat} {sp : Sp} (c : Cls K C) (D : GM K C m qual st ps) (S : FnScope N ps (defScope st)) (len : ∀ vs H Q E, sp vs H Q E → vs.length = ps.length)
    (hbody : ∀ (f : Addr) (cdv : Value) (A : Around) (outer : List Env) (s : Shared) (H : Hp) (vs : List V) (Q : VK) (E : XK),
      Room k (A.deeper (envOfC qual (defScope st) s.heap.objs.size f cdv)) → sp vs H Q E →
      ∃ t, PSs (cxOf CX0 P w K mg base N qual (defScope st) f cdv A outer s H E).nox (defBody st) t ∧ t { nx := fun _ H' => Q .non H', rt := Q } (start N vs) H) :
    Met P w K mg base (k + 1) C m sp [] := by
  obtain ⟨f, fd, F, hm, hb⟩ := D
  exact ⟨f, fd, ps, [], c, hm, F.ok S len (hbody f), hb, .nil⟩
theorem Cal.up {x : Str} {sp : Sp} {i j : Nat} (c : Cal P w K mg base i x sp []) (h : i ≤ j) : Cal P w K mg base j x sp [] := by
  obtain ⟨f, fd, ps, ds, F, r⟩ := c.ex
  exact ⟨f, fd, ps, ds, F.mono h, r⟩
end
theorem iteF_of {b : Bool} {A B : Prop} (h : b = false) (q : B) : if b = true then A else B := by rw [h]; exact iteF q
theorem iteT_of {b : Bool} {A B : Prop} (h : b = true) (q : A) : if b = true then A else B := by rw [h]; exact iteT q
theorem dS {a b : Str} (h : a ≠ b) : decide (V.str a = V.str b) = false := decide_eq_false fun e => h (V.str.inj e)
theorem dSs (a : Str) : decide (V.str a = V.str a) = true := decide_eq_true rfl
theorem nI {i j : Int} (h : ¬ decide (V.int i = V.int j) = true) : i ≠ j := fun e => h (decide_eq_true (congrArg V.int e))
theorem takeS {α : Type} {l : List α} {i : Nat} {x : α} (h : l[i]? = some x) : l.take (i + 1) = l.take i ++ [x] := by rw [List.take_add_one, h]; rfl
theorem mapAt {α : Type} {f : α → V} {L : List α} {i : Nat} {x : V} (h : (L.map f)[i]? = some x) : ∃ y, L[i]? = some y ∧ x = f y := by
  rw [List.getElem?_map] at h
  cases e : L[i]? with
  | none => rw [e] at h; cases h
  | some y => rw [e] at h; exact ⟨y, rfl, (Option.some.inj h).symm⟩
theorem nd_len {α : Type} [DecidableEq α] : ∀ {l D : List α}, l.Nodup → (∀ x ∈ l, x ∈ D) → l.length ≤ D.length
  | [], D, _, _ => Nat.zero_le _
  | x :: l, D, n, h => by
    obtain ⟨n1, n2⟩ := List.nodup_cons.mp n
    have hx := h x List.mem_cons_self
    have := nd_len (l := l) (D := D.erase x) n2 fun y hy => (List.mem_erase_of_ne fun z => n1 (by rw [← z]; exact hy)).mpr (h y (List.mem_cons_of_mem _ hy))
    rw [List.length_erase_of_mem hx] at this
    have := List.length_pos_of_mem hx
    rw [List.length_cons]
    omega
theorem hu65 {k : Nat} {A : Around} (r : Room k A) : A.units + 65 < cLine := by have := r.un; omega
theorem small {n : Nat} (h : n ≤ 1000) : n ≤ sizeLine := Nat.le_of_lt (small1000 h)
/-! ### rules within a comprehension's block: the written part is the def's own -/
section
variable {X : Cx} {K : PySem.W.Frag} {e a b : Expr} {ta tb : TE} {pos : Pos}
theorem bx_fld {f : Str} (hK : X.K = K) (he : PE X e ta) (hb : attributeBase e f X.env (eval e X.env) = eval e X.env) : PE X (.Attribute e f pos) (tFld K ta f) := hK ▸ pe_fld he hb
theorem bx_list (hK : X.K = K) (ha : PE X a ta) (hb : PE X b tb) (hs : PlainIx b) : PE X (.Subscript a b pos) (tOp (rIxL K) ta tb) := hK ▸ pe_ix ix_list ha hb hs
theorem bx_tup (hK : X.K = K) (ha : PE X a ta) (hb : PE X b tb) (hs : PlainIx b) : PE X (.Subscript a b pos) (tOp (rIxT K) ta tb) := hK ▸ pe_ix ix_tup ha hb hs
theorem bx_seq (hK : X.K = K) (ha : PE X a ta) (hb : PE X b tb) (hs : PlainIx b) : PE X (.Subscript a b pos) (tOp (fun x y H Q => rIxL K x y H Q ∨ rIxT K x y H Q) ta tb) := hK ▸ pe_ix (IxR.or ix_list ix_tup) ha hb hs
theorem bx_in {pos' : Pos} (hK : X.K = K) (ha : PE X a ta) (hb : PE X b tb) (hm : behindInMarks .In b = false := by first | rfl | exact nobehind _ (by decide) (by decide)) : PE X (.Compare a [.In] [b] pos') (tOp (rIn K false) ta tb) := hK ▸ pe_cmpR op_in_seq ha hb hm
theorem bx_notin {pos' : Pos} (hK : X.K = K) (ha : PE X a ta) (hb : PE X b tb) (hm : behindInMarks .NotIn b = false := by first | rfl | exact nobehind _ (by decide) (by decide)) : PE X (.Compare a [.NotIn] [b] pos') (tOp (rIn K true) ta tb) := hK ▸ pe_cmpR op_notIn_seq ha hb hm
theorem bt_in {pos' : Pos} (hK : X.K = K) (ha : PE X a ta) (hb : PE X b tb) (hm : behindInMarks .In b = false := by first | rfl | exact nobehind _ (by decide) (by decide)) : PT X (.Compare a [.In] [b] pos') (tTest (tOp (rIn K false) ta tb)) := hK ▸ pt_cmpR op_in_seq ha hb hm
theorem bt_notin {pos' : Pos} (hK : X.K = K) (ha : PE X a ta) (hb : PE X b tb) (hm : behindInMarks .NotIn b = false := by first | rfl | exact nobehind _ (by decide) (by decide)) : PT X (.Compare a [.NotIn] [b] pos') (tTest (tOp (rIn K true) ta tb)) := hK ▸ pt_cmpR op_notIn_seq ha hb hm
def tTr (K : PySem.W.Frag) (ta : TE) : TT := fun σ H Q => ta σ H fun x H' => ∃ k, TruV K x H' k ∧ Q k H'
theorem bt_truth (hK : X.K = K) (ha : PE X a ta) (he : ∀ whole, isTrue a X.env whole = (do let v ← whole; standAt a.pos; holding [v] (truthy v))) : PT X a (tTr K ta) := hK ▸ pt_truth ha he
def rLn (K : PySem.W.Frag) : List V → Hp → VK → Prop := fun xs H Q => ∃ p ys, xs = [.ref p] ∧ (SqL K H p ys ∨ SqT K H p ys) ∧ Q (.int ys.length) H
theorem bx_len {x : Str} {p : Pos} {t : TA} (hK : X.K = K) (hg : Gl X x) (hm : X.mg x = none) (hv : bootBuiltins x = some (.builtin "len")) (ha : PA X [e] t) (hn : x ≠ "__name__" := by decide) (hdb : (x == ("__debug__" : Str)) = false := by decide)
    (he : starEach [e] X.env = (false, eval e X.env) :: starEach [] X.env := by rfl) (hpl : (backTo pos (starEach [] X.env)).any (·.1) = false := by rfl) :
    PE X (.Call (.Name x p) [e] [] pos) (tCB (rLn K) t) := hK ▸ pe_callB call_len_seq hg hm hv ha hn hdb he hpl
theorem bx_ptup {es : List Expr} {k n : Nat} {t : TGs} (hK : X.K = K) (hc : X.calm = true) (h : PGs X es t) (hn : (assignEach es X.env).length = n := by rfl) (hst : (assignEach es X.env).findIdx? (·.1) = none := by rfl) :
    PG X (.Tuple es k pos) (gTup K n t) := hK ▸ pg_tup hc h hn hst
end

/-! ### the draws: a list of the script's ints, a place, what is left of a great number, a seed -/
def drawV (sc : Addr) (p b z : Int) : List V := [.ref sc, .int p, .int b, .int z]
/-- a draw's list stands at d, its ints at sc -/
def Drw (d sc : Addr) (H : Hp) : Prop :=
  ∃ (ns : List Int) (p b z : Int), H d = some (.lst (drawV sc p b z)) ∧ H sc = some (.lst (ns.map V.int)) ∧ 0 ≤ p ∧ 0 ≤ b ∧ 0 ≤ z ∧ d ≠ sc
theorem Drw.kp {d sc : Addr} {H H' : Hp} {M : List Addr} (D : Drw d sc H) (k : Kp M H H') (h1 : d ∉ M) (h2 : sc ∉ M) : Drw d sc H' := by
  obtain ⟨ns, p, b, z, e1, e2, r⟩ := D
  exact ⟨ns, p, b, z, k.k _ _ e1 h1, k.k _ _ e2 h2, r⟩
/-- the next number below m; nothing but the draw's own list changes -/
def spNext : Sp := fun vs H Q _ => ∃ (d sc : Addr) (m : Int), vs = [.ref d, .int m] ∧ 0 < m ∧ m < 1073741824 ∧ Drw d sc H ∧
  ∀ (r : Int) (o : HO), 0 ≤ r → r < m → (∀ xs, o ≠ .tup xs) → Drw d sc (upd H d o) → Q (.int r) (upd H d o)
def spDraw (K : PySem.W.Frag) : Sp := fun vs H Q _ => ∃ (a : Addr) (ns : List Int), vs = [.ref a] ∧ SqL K H a (ns.map V.int) ∧
  ∀ (d sc : Addr) (H' : Hp), Same H H' → H d = none → H sc = none → Drw d sc H' → Q (.ref d) H'
structure TDraw (mg : Str → Option Value) : Prop where
  n_int : mg "int" = none
  n_len : mg "len" = none
  n_abs : mg "abs" = none
  n_list : mg "list" = none
section
variable {P : Program} {w : World} {K : PySem.W.Frag} {mg : Str → Option Value} {base : Heap}
theorem ok_draw (D : GD K mg "_law_draw" sD_Ldraw ["script"]) (T : TDraw mg) : Cal P w K mg base 1 "_law_draw" (spDraw K) [] := by
  refine D.cal sc_Ldraw (fun vs H Q E h => ?_) (fun f cdv A outer s H vs Q E hr h => ?_)
  · obtain ⟨a, ns, rfl, _⟩ := h
    rfl
  obtain ⟨a, ns, rfl, hS, q⟩ := h
  refine ⟨_, (pss_one (ps_ret (pe_lst (pa_cons (pe_callTy call_list_of (by rfl) T.n_list (by decide +kernel) (pa_cons (pv 0) pa_nil)) (pa_cons pe_int (pa_cons pe_int (pa_cons pe_int pa_nil))))))), ?_⟩
  refine ⟨_, rfl, a, _, rfl, .inl hS, fun l hl => ?_⟩
  refine ⟨(by show 4 ≤ sizeLine; decide), fun d hd => ?_⟩
  have nld : l ≠ d := fun e => by rw [← e, upd_same] at hd; cases hd
  have hd0 : H d = Option.none := by rw [upd_ne nld.symm] at hd; exact hd
  refine q d l _ (fun b o e => ?_) hd0 hl ⟨ns, 0, 0, 17, upd_same, ?_, by decide, by decide, by decide, nld.symm⟩
  · rw [upd_ne (ne_of_none e hd0), upd_ne (ne_of_none e hl)]; exact e
  · rw [upd_ne nld, upd_same]
theorem ok_next (D : GD K mg "_law_next" sD_Lnext ["draw", "many"]) (T : TDraw mg) : Cal P w K mg base 1 "_law_next" spNext [] := by
  refine D.cal sc_Lnext (fun vs H Q E h => ?_) (fun f cdv A outer s H vs Q E hr h => ?_)
  · obtain ⟨d, sc, m, rfl, _⟩ := h
    rfl
  obtain ⟨d, sc, m, rfl, m0, m1, ⟨ns, p, b, z, hd, hs, p0, b0, z0, ne⟩, q⟩ := h
  refine ⟨_, (pss_cons (ps_if (pt_cmpR op_gt (pe_ix ix_list (pv 0) pe_int (fun _ _ => rfl)) pe_int (nomark _)) (pss_cons (ps_set (i := 2) sc_Lnext.nd rfl (Or.inl rfl) (pe_op op_mod (pe_callTy call_int1 (by rfl) T.n_int (by decide +kernel) (pa_cons (pe_ix ix_list (pv 0) pe_int (fun _ _ => rfl)) pa_nil)) (pv 1)))
    (pss_cons (ps_asg (pe_op op_fdiv (pe_ix ix_list (pv 0) pe_int (fun _ _ => rfl)) (pv 1)) (pg_sub (pv 0) pe_int set_list))
    (pss_one (ps_ret (pv 2))))) pss_nil)
    (pss_cons (ps_if (pt_cmpR op_lt (pe_ix ix_list (pv 0) pe_int (fun _ _ => rfl)) (pe_callB call_len_seq (by rfl) T.n_len (by decide +kernel) (pa_cons (pe_ix ix_list (pv 0) pe_int (fun _ _ => rfl)) pa_nil)) (nomark _)) (pss_cons (ps_set (i := 3) sc_Lnext.nd rfl (Or.inl rfl) (pe_callB call_abs (by rfl) T.n_abs (by decide +kernel) (pa_cons (pe_ix ix_list (pe_ix ix_list (pv 0) pe_int (fun _ _ => rfl)) (pe_ix ix_list (pv 0) pe_int (fun _ _ => rfl)) (fun _ _ => rfl)) pa_nil)))
    (pss_cons (ps_asg (pe_op op_add (pe_ix ix_list (pv 0) pe_int (fun _ _ => rfl)) pe_int) (pg_sub (pv 0) pe_int set_list))
    (pss_cons (ps_if (pt_cmpR op_ge (pv 3) (pe_op op_pow pe_int pe_int) (nomark _)) (pss_cons (ps_asg (pe_op op_fdiv (pv 3) (pv 1)) (pg_sub (pv 0) pe_int set_list))
    (pss_one (ps_ret (pe_op op_mod (pe_callTy call_int1 (by rfl) T.n_int (by decide +kernel) (pa_cons (pv 3) pa_nil)) (pv 1))))) pss_nil)
    (pss_one (ps_asg (pe_op op_mod (pe_callTy call_int1 (by rfl) T.n_int (by decide +kernel) (pa_cons (pe_op op_add (pe_op op_add (pe_op op_mul (pe_ix ix_list (pv 0) pe_int (fun _ _ => rfl)) pe_int) (pv 3)) pe_int) pa_nil)) pe_int) (pg_sub (pv 0) pe_int set_list)))))) (pss_one (ps_asg (pe_op op_mod (pe_callTy call_int1 (by rfl) T.n_int (by decide +kernel) (pa_cons (pe_op op_add (pe_op op_mul (pe_ix ix_list (pv 0) pe_int (fun _ _ => rfl)) pe_int) pe_int) pa_nil)) pe_int) (pg_sub (pv 0) pe_int set_list))))
    (pss_one (ps_ret (pe_op op_mod (pe_op op_fdiv (pe_callTy call_int1 (by rfl) T.n_int (by decide +kernel) (pa_cons (pe_op op_mod (pe_op op_mul (pe_ix ix_list (pv 0) pe_int (fun _ _ => rfl)) pe_int) pe_int) pa_nil)) pe_int) (pv 1)))))), ?_⟩
  -- draw[2] > 0
  refine ⟨_, rfl, d, _, _, _, rfl, rfl, SqL.of hd, rfl, _, _, rfl, rfl, _, rfl, ?_⟩
  have put : ∀ (u : HO) (xs : List V), H d = some u → upd H d (.lst xs) d = some (.lst xs) := fun _ _ _ => upd_same
  refine ite2 (fun c => ?_) (fun c => ?_)
  · refine ⟨_, rfl, d, _, _, _, rfl, rfl, SqL.of hd, rfl, .inl ⟨_, rfl, _, rfl, _, _, rfl, rfl, m0, ?_⟩⟩
    refine ⟨_, rfl, d, _, _, _, rfl, rfl, SqL.of hd, rfl, _, rfl, _, _, rfl, rfl, ⟨m0, m1⟩, _, rfl, d, _, 2, 2, rfl, rfl, hd, rfl, _, rfl, ?_⟩
    refine q _ _ (Int.emod_nonneg _ (by omega)) (Int.emod_lt_of_pos _ m0) (fun _ e => by cases e) ⟨ns, p, b / m, z, upd_same, by rw [upd_ne ne.symm]; exact hs, p0, Int.ediv_nonneg b0 (by omega), z0, ne⟩
  · -- draw[1] < len(draw[0])
    refine ⟨_, rfl, d, _, _, _, rfl, rfl, SqL.of hd, rfl, _, rfl, d, _, _, _, rfl, rfl, SqL.of hd, rfl, sc, _, rfl, .inl (SqL.of hs), _, _, rfl, rfl, _, rfl, ?_⟩
    refine ite2 (fun c1 => ?_) (fun c1 => ?_)
    · have c1' : p < (((ns.map V.int).length : Nat) : Int) := of_decide_eq_true c1
      have hp : p.toNat < ns.length := by rw [List.length_map] at c1'; omega
      have hat : atI (ns.map V.int) p = some (.int ns[p.toNat]) := by
        exact at_of (j := p.toNat) (by omega) (by rw [List.getElem?_map, List.getElem?_eq_getElem hp]; rfl)
      have keep : ∀ x o, (upd (upd H d o) d x) = upd H d x := fun x o => upd_upd
      generalize hv : ns[p.toNat] = v at hat
      have hcell : (0 : Int) ≤ (if v < 0 then -v else v) := by split <;> omega
      refine ⟨_, rfl, d, _, _, _, rfl, rfl, SqL.of hd, rfl, _, rfl, d, _, _, _, rfl, rfl, SqL.of hd, rfl, sc, _, _, _, rfl, rfl, SqL.of hs, hat, _, rfl, ?_⟩
      generalize (if v < 0 then -v else v) = u at hcell
      refine ⟨_, rfl, d, _, _, _, rfl, rfl, SqL.of hd, rfl, _, _, rfl, rfl, _, rfl, d, _, 1, 1, rfl, rfl, hd, rfl, ?_⟩
      have hd1 : (upd H d (.lst (drawV sc (p + 1) b z))) d = some (.lst (drawV sc (p + 1) b z)) := upd_same
      have hs1 : ∀ o, (upd H d o) sc = some (.lst (ns.map V.int)) := fun o => by rw [upd_ne ne.symm]; exact hs
      refine ⟨_, rfl, _, _, rfl, rfl, ⟨by decide, by decide, by decide⟩, _, _, rfl, rfl, _, rfl, ?_⟩
      refine ite2 (fun c2 => ?_) (fun c2 => ?_)
      · refine ⟨_, rfl, _, rfl, _, _, rfl, rfl, ⟨m0, m1⟩, _, rfl, d, _, 2, 2, rfl, rfl, hd1, rfl, ?_⟩
        refine ⟨_, rfl, .inl ⟨_, rfl, _, rfl, _, _, rfl, rfl, m0, ?_⟩⟩
        rw [keep]
        exact q _ _ (Int.emod_nonneg _ (by omega)) (Int.emod_lt_of_pos _ m0) (fun _ e => by cases e) ⟨ns, p + 1, u / m, z, upd_same, hs1 _, by omega, Int.ediv_nonneg hcell (by omega), z0, ne⟩
      · refine ⟨_, rfl, d, _, _, _, rfl, rfl, SqL.of hd1, rfl, _, _, rfl, rfl, .inr ⟨by decide, by decide⟩, _, rfl, _, _, rfl, rfl, _, _, rfl, rfl, .inl ⟨_, rfl, _, _, rfl, rfl, (by show (0 : Int) < 2147483647; decide), ?_⟩⟩
        refine ⟨_, rfl, d, _, 3, 3, rfl, rfl, hd1, rfl, ?_⟩
        rw [keep]
        have hz0 : 0 ≤ (z * 48271 + u + 11) % 2147483647 := Int.emod_nonneg _ (by decide)
        refine ⟨_, rfl, d, _, _, _, rfl, rfl, SqL.of upd_same, rfl, _, _, rfl, rfl, .inr ⟨by decide, by decide⟩, _, _, rfl, rfl, (by show (0 : Int) < 2147483629; decide), .inl ⟨_, rfl, _, _, rfl, rfl, ⟨by decide, by decide⟩, _, rfl, _, _, rfl, rfl, m0, ?_⟩⟩
        exact q _ _ (Int.emod_nonneg _ (by omega)) (Int.emod_lt_of_pos _ m0) (fun _ e => by cases e) ⟨ns, p + 1, b, _, upd_same, hs1 _, by omega, b0, hz0, ne⟩
    · refine ⟨_, rfl, d, _, _, _, rfl, rfl, SqL.of hd, rfl, _, _, rfl, rfl, .inr ⟨by decide, by decide⟩, _, _, rfl, rfl, .inl ⟨_, rfl, _, _, rfl, rfl, (by show (0 : Int) < 2147483647; decide), ?_⟩⟩
      refine ⟨_, rfl, d, _, 3, 3, rfl, rfl, hd, rfl, ?_⟩
      have hz0 : 0 ≤ (z * 48271 + 12345) % 2147483647 := Int.emod_nonneg _ (by decide)
      refine ⟨_, rfl, d, _, _, _, rfl, rfl, SqL.of upd_same, rfl, _, _, rfl, rfl, .inr ⟨by decide, by decide⟩, _, _, rfl, rfl, (by show (0 : Int) < 2147483629; decide), .inl ⟨_, rfl, _, _, rfl, rfl, ⟨by decide, by decide⟩, _, rfl, _, _, rfl, rfl, m0, ?_⟩⟩
      exact q _ _ (Int.emod_nonneg _ (by omega)) (Int.emod_lt_of_pos _ m0) (fun _ e => by cases e) ⟨ns, p, b, _, upd_same, by rw [upd_ne ne.symm]; exact hs, p0, b0, hz0, ne⟩
end

/-! ### the draws' list by its shape -/
theorem Drw.put {d sc p : Addr} {H : Hp} {o : HO} (D : Drw d sc H) (h1 : d ≠ p) (h2 : sc ≠ p) : Drw d sc (upd H p o) := by
  obtain ⟨ns, a, b, z, e1, e2, r⟩ := D
  exact ⟨ns, a, b, z, by rw [upd_ne h1]; exact e1, by rw [upd_ne h2]; exact e2, r⟩
theorem Drw.step {d sc : Addr} {H : Hp} {o : HO} (D : Drw d sc H) : Kp [d] H (upd H d o) := by
  obtain ⟨ns, a, b, z, e1, e2, r⟩ := D
  exact .put (by simp) e1 (fun xs e => by cases e)
theorem Drw.ne_new {d sc p : Addr} {H : Hp} (D : Drw d sc H) (h : H p = none) : d ≠ p ∧ sc ≠ p := by
  obtain ⟨ns, a, b, z, e1, e2, r⟩ := D
  exact ⟨ne_of_none e1 h, ne_of_none e2 h⟩
theorem Drw.dsc {d sc : Addr} {H : Hp} (D : Drw d sc H) : d ≠ sc := by
  obtain ⟨ns, a, b, z, e1, e2, p, q, r, ne⟩ := D
  exact ne
theorem Drw.dl {d sc : Addr} {H : Hp} (D : Drw d sc H) : ∃ xs, H d = some (.lst xs) := let ⟨_, _, _, _, e, _⟩ := D; ⟨_, e⟩
theorem Drw.noI {d sc b : Addr} {H : Hp} {L : List Int} (D : Drw d sc H) (e : H b = some (.lst (L.map V.int))) : b ≠ d := fun z => by
  obtain ⟨_, _, _, _, e2, _⟩ := D
  rw [z, e2] at e
  have h := HO.lst.inj (Option.some.inj e)
  cases L with
  | nil => cases h
  | cons x l => cases (List.cons.inj h).1
theorem Drw.noR {d sc b : Addr} {H : Hp} {L : List Addr} (D : Drw d sc H) (e : H b = some (.lst (L.map V.ref))) : b ≠ d := fun z => by
  obtain ⟨_, _, _, _, e2, _⟩ := D
  rw [z, e2] at e
  have h := HO.lst.inj (Option.some.inj e)
  cases L with
  | nil => cases h
  | cons x l =>
    cases l with
    | nil => cases (List.cons.inj h).2
    | cons y l => cases (List.cons.inj (List.cons.inj h).2).1

/-! ### data that are compared: _law_same of equal data -/
mutual
inductive Has (H : Hp) : V → PyData → Prop
  | non : Has H .non .none
  | bl (b : Bool) : Has H (.bl b) (.bool b)
  | int (i : Int) : Has H (.int i) (.int i)
  | str (x : Str) : Has H (.str x) (.str x)
  | lst {a : Addr} {xs : List V} {ds : List PyData} : H a = some (.lst xs) → HasAll H xs ds → Has H (.ref a) (.list ds)
  | tup {a : Addr} {xs : List V} {ds : List PyData} : H a = some (.tup xs) → HasAll H xs ds → Has H (.ref a) (.tuple ds)
inductive HasAll (H : Hp) : List V → List PyData → Prop
  | nil : HasAll H [] []
  | cons {v : V} {vs : List V} {d : PyData} {ds : List PyData} : Has H v d → HasAll H vs ds → HasAll H (v :: vs) (d :: ds)
end
mutual
theorem Has.kp {H H' : Hp} (k : Kp [] H H') : ∀ (d : PyData) (v : V), Has H v d → Has H' v d
  | .none, _, h => by cases h; exact .non
  | .bool b, _, h => by cases h; exact .bl b
  | .int i, _, h => by cases h; exact .int i
  | .str x, _, h => by cases h; exact .str x
  | .list ds, _, h => by cases h with | lst e r => exact .lst (k.k _ _ e (by simp)) (HasAll.kp k ds _ r)
  | .tuple ds, _, h => by cases h with | tup e r => exact .tup (k.t _ _ e) (HasAll.kp k ds _ r)
  | .dict _, _, h => by cases h
theorem HasAll.kp {H H' : Hp} (k : Kp [] H H') : ∀ (ds : List PyData) (vs : List V), HasAll H vs ds → HasAll H' vs ds
  | [], _, h => by cases h; exact .nil
  | d :: ds, _, h => by cases h with | cons h1 h2 => exact .cons (Has.kp k d _ h1) (HasAll.kp k ds _ h2)
end
theorem HasAll.len {H : Hp} : ∀ {ds : List PyData} {vs : List V}, HasAll H vs ds → vs.length = ds.length
  | [], _, h => by cases h; rfl
  | d :: ds, _, h => by
    cases h with
    | cons h1 h2 =>
      rw [List.length_cons, List.length_cons, HasAll.len h2]
theorem HasAll.at {H : Hp} : ∀ {ds : List PyData} {vs : List V} {i : Nat}, HasAll H vs ds → i < ds.length → ∃ v d, vs[i]? = some v ∧ ds[i]? = some d ∧ Has H v d
  | [], _, _, _, h => absurd h (Nat.not_lt_zero _)
  | d :: ds, _, 0, h, _ => by
    cases h with
    | cons h1 h2 => exact ⟨_, d, rfl, rfl, h1⟩
  | d :: ds, _, i + 1, h, l => by
    cases h with
    | cons h1 h2 =>
      obtain ⟨v, d', e1, e2, e3⟩ := HasAll.at (i := i) h2 (by simpa using l)
      exact ⟨v, d', e1, e2, e3⟩
-- how deep, how long
mutual
def fitsD : Nat → PyData → Prop
  | _, .none => True
  | _, .bool _ => True
  | _, .int _ => True
  | _, .str _ => True
  | 0, .list _ => False
  | 0, .tuple _ => False
  | n + 1, .list ds => ds.length ≤ 1000 ∧ fitsAll n ds
  | n + 1, .tuple ds => ds.length ≤ 1000 ∧ fitsAll n ds
  | _, .dict _ => False
def fitsAll : Nat → List PyData → Prop
  | _, [] => True
  | n, d :: ds => fitsD n d ∧ fitsAll n ds
end
theorem fitsAll_at : ∀ {n : Nat} {ds : List PyData} {i : Nat} {d : PyData}, fitsAll n ds → ds[i]? = some d → fitsD n d
  | _, [], _, _, _, h => by simp at h
  | n, x :: ds, 0, d, h, e => by
    cases e
    simp only [fitsAll] at h
    exact h.1
  | n, x :: ds, i + 1, d, h, e => by
    simp only [fitsAll] at h
    exact fitsAll_at h.2 (by simpa using e)

/-! ### sorted(xs, key=f), f a def of the text -/
mutual
/-- what is read off the tracked heap is read off the heap -/
theorem Has.reads {P : Program} {w : World} {H : Hp} {h : Heap} (ok : HOk P w H h) : ∀ (d : PyData) (v : V) (u : Value), Has H v d → RelV v u → ∃ as, Reads h u d as
  | .none, _, u, x, r => by cases x; exact ⟨[], by rw [show u = Value.none from r]; exact .none⟩
  | .bool b, _, u, x, r => by cases x; exact ⟨[], by rw [show u = Value.bool b from r]; exact .bool b⟩
  | .int i, _, u, x, r => by
    cases x
    obtain ⟨t, rfl⟩ := r
    exact ⟨[], .int i t⟩
  | .str z, _, u, x, r => by
    cases x
    obtain ⟨t, rfl⟩ := r
    exact ⟨[], .str z t⟩
  | .list ds, _, u, x, r => by
    cases x with
    | lst e hs =>
      obtain ⟨_, its, n, rv, ho⟩ := ok _ _ e
      obtain ⟨as, q⟩ := HasAll.reads ok ds _ its hs rv
      rw [show u = Value.ref _ from r]
      exact ⟨_, .list ho rfl rfl (by simpa using q)⟩
  | .tuple ds, _, u, x, r => by
    cases x with
    | tup e hs =>
      obtain ⟨_, its, rv, ob, ho, hc, n, hd⟩ := ok _ _ e
      obtain ⟨as, q⟩ := HasAll.reads ok ds _ its hs rv
      rw [show u = Value.ref _ from r]
      exact ⟨_, .tuple ho hc hd (by simpa using q)⟩
  | .dict _, _, _, x, _ => by cases x
theorem HasAll.reads {P : Program} {w : World} {H : Hp} {h : Heap} (ok : HOk P w H h) : ∀ (ds : List PyData) (vs : List V) (us : List Value), HasAll H vs ds → Vals vs us → ∃ as, ReadsAll h us ds as
  | [], _, us, x, r => by
    cases x
    cases r
    exact ⟨[], .nil⟩
  | d :: ds, _, us, x, r => by
    cases x with
    | cons x1 x2 =>
      cases r with
      | cons r1 r2 =>
        obtain ⟨as, q1⟩ := Has.reads ok d _ _ x1 r1
        obtain ⟨bs, q2⟩ := HasAll.reads ok ds _ _ x2 r2
        exact ⟨as ++ bs, .cons q1 q2⟩
end
section
variable {X : Cx} {pins : List (Addr × Obj)} {σ : List (Option V)} {H : Hp} {s : Shared}
/-- objects that no one tracks change, all else stays -/
theorem Inv.others {h' : Heap} {t' : Nat} (ch : List Addr) (I : Inv X pins σ H s) (hf : ∀ b ∈ ch, FpOk X pins H b) (k : ∀ b u, b ∉ ch → s.heap.get? b = some u → h'.get? b = some u) : Inv X pins σ H { s with heap := h', toks := t' } :=
  I.call (ch := ch) (g' := s.gens) (d' := s.drawn)
    ⟨fun b o e _ _ hc => k b o hc e, fun b o e _ _ hc => ⟨o.slots, k b o hc e⟩, fun _ _ _ n _ => n, fun b o e hc => ⟨o, k b o hc e⟩, fun _ _ e => e, fun _ _ _ e => e, fun _ ps e => ⟨#[], by rw [e]; simp⟩⟩
    (fun a o e => (I.hok a o e).stay (fun b u hb q => k b u (fun z => by
      have n := (hf b z).1
      rcases hb with y | y
      · rw [y, e] at n; cases n
      · rw [y] at n; cases n) q) (fun _ q => q) fun _ _ q => q)
    I.bare fun b hb => let ⟨_, f2, _, f4, f5, f6⟩ := hf b hb; ⟨f4, f2, f5, f6⟩
/-- an object that no one tracked is tracked -/
theorem Inv.adopt {a : Addr} {o : HO} (I : Inv X pins σ H s) (hf : FpOk X pins H a) (new : ObjOk X.prog X.w (upd H a o) s.heap a o) : Inv X pins σ (upd H a o) s := by
  have hn := hf.1
  exact I.call' (ch := [a]) rfl
    ⟨fun b o e _ _ _ => e, fun b o e _ _ _ => ⟨o.slots, e⟩, fun b _ _ n hc => by rw [upd_ne fun z => hc (by rw [z]; simp)]; exact n, fun b o e _ => ⟨o, e⟩, fun b xs e => by rw [upd_ne (ne_of_none e hn)]; exact e, fun b xs u e => by rw [upd_ne (ne_of_none e hn)]; exact e,
      fun b ps e => ⟨#[], by rw [upd_ne (ne_of_none e hn), e]; simp⟩⟩
    (fun b u e => by
      by_cases hb : b = a
      · subst hb
        rw [upd_same] at e
        cases e
        exact new
      · rw [upd_ne hb] at e
        exact (I.hok b u e).stay (fun _ _ _ q => q) (fun c q => by rw [upd_ne (ne_of_none q hn)]; exact q) fun c xs q => by rw [upd_ne (ne_of_none q hn)]; exact q)
    I.bare fun b hb => by
      rw [List.mem_singleton.mp hb]
      exact ⟨hf.2.2.2.1, hf.2.1, hf.2.2.2.2.1, hf.2.2.2.2.2⟩
/-- a def called from within a built-in -/
theorem run_in {k : Nat} {f : Addr} {fd : FuncData} {ps : List Str} {sp : Sp} {A : Around} {Q : VK} {x : V} {u : Value} (F : FnOk X.prog X.w X.K X.mg X.base CX0 k f fd ps sp) (hr : Room k A) (he : Env0 X.prog X.w X.K X.mg X.base A X.stack s H) (hb : Binds X.K fd ps []) (I : Inv X pins σ H s) (r : RelV x u) (h : sp [x] H Q C8.E0) :
    wpAny (model X.prog X.w) A (call (.ref f) [u]) (EP X pins σ Q) (fun _ _ => False) s := by
  have l : ([u] ++ []).length = ps.length := F.len _ _ _ _ h
  refine wpAny_call (codeAny_mono (F.run A X.stack s H ⟨[u], []⟩ [u] [x] Q C8.E0 hr he (hb s [u] I.kIn l) (.cons r .nil) h) fun q s' z => ?_)
  cases q with
  | error e => exact z
  | ok fl =>
    cases fl with
    | ret v => exact I.after z
    | next => exact z
    | brk => exact z
    | cont => exact z
/-- sorted(xs, key=f): the items with their keys -/
def rSF (sp : Sp) : V → Hp → VK → Prop := fun x H Q => ∃ (a : Addr) (bs : List (V × PyData)), x = .ref a ∧ H a = some (.lst (bs.map Prod.fst)) ∧ PySem.W.AllAlike (bs.map Prod.snd) ∧ PySem.W.Sortable (bs.map Prod.snd) ∧ (∀ b ∈ bs, b.2.depth ≤ 10) ∧
  (∀ b ∈ bs, ∀ G : Hp, Kp [] H G → sp [b.1] G (fun v G' => Kp [] G G' ∧ Has G' v b.2) C8.E0) ∧
  ∀ (G : Hp) (p : Addr), Kp [] H G → H p = none → G p = none → Q (.ref p) (upd G p (.lst ((bs.mergeSort (PySem.W.dataLe false Prod.snd)).map Prod.fst)))
theorem each_of_vals {xs : List V} {us : List Value} (r : Vals xs us) : ∀ {bs : List (V × PyData)}, bs.map Prod.fst = xs → PySem.W.EachIs (fun u (b : V × PyData) => RelV b.1 u) us bs := by
  induction r with
  | nil =>
    intro bs e
    rw [List.map_eq_nil_iff.mp e]
    exact .nil
  | cons r1 _ ih =>
    intro bs e
    cases bs with
    | nil => cases e
    | cons b bs =>
      rw [List.map_cons] at e
      injection e with e1 e2
      exact .cons (by rw [e1]; exact r1) (ih e2)
theorem vals_of_each : ∀ {us : List Value} {bs : List (V × PyData)}, PySem.W.EachIs (fun u (b : V × PyData) => RelV b.1 u) us bs → Vals (bs.map Prod.fst) us
  | _, _, .nil => .nil
  | _, _, .cons a t => .cons a (vals_of_each t)
theorem each_keys {H : Hp} {h : Heap} {P : Program} {w : World} (ok : HOk P w H h) : ∀ {ds : List PyData} {vs : List V} {us : List Value}, HasAll H vs ds → Vals vs us → PySem.W.EachIs (fun u d => ∃ as, Reads h u d as) us ds
  | [], _, _, x, r => by
    cases x
    cases r
    exact .nil
  | d :: ds, _, _, x, r => by
    cases x with
    | cons x1 x2 =>
      cases r with
      | cons r1 r2 => exact .cons (Has.reads ok d _ _ x1 r1) (each_keys ok x2 r2)
theorem HasAll.snoc {H : Hp} {v : V} {d : PyData} : ∀ {ds : List PyData} {vs : List V}, HasAll H vs ds → Has H v d → HasAll H (vs ++ [v]) (ds ++ [d])
  | [], _, x, y => by
    cases x
    exact .cons y .nil
  | e :: ds, _, x, y => by
    cases x with
    | cons x1 x2 => exact .cons x1 (HasAll.snoc x2 y)
theorem rest_run {k : Nat} {f a1 kS : Addr} {fd : FuncData} {ps : List Str} {sp : Sp} {bs : List (V × PyData)} {its : List Value} {e1 : Nat} {Q : VK} {E' : Value → Shared → Prop} (F : FnOk X.prog X.w X.K X.mg X.base CX0 k f fd ps sp) (hr : Room (k + 2) X.A) (hb : Binds X.K fd ps []) (I : Inv X pins σ H s)
    (fk : FpOk X pins H kS) (fa : FpOk X pins H a1) (ne : kS ≠ a1) (nk : s.heap.get? kS = some (PyProof.Rows.seqObj "list" #[] 0)) (na : s.heap.get? a1 = some (PyProof.Rows.seqObj "list" #[] e1)) (rv : Vals (bs.map Prod.fst) its) (hL : its.length ≤ sizeLine)
    (hal : PySem.W.AllAlike (bs.map Prod.snd)) (hso : PySem.W.Sortable (bs.map Prod.snd)) (hdp : ∀ b ∈ bs, b.2.depth ≤ 10) (turn : ∀ b ∈ bs, ∀ G : Hp, Kp [] H G → sp [b.1] G (fun v G' => Kp [] G G' ∧ Has G' v b.2) C8.E0)
    (q : ∀ G : Hp, Kp [] H G → G a1 = none → Q (.ref a1) (upd G a1 (.lst ((bs.mergeSort (PySem.W.dataLe false Prod.snd)).map Prod.fst)))) :
    wpAny (model X.prog X.w) X.A.in1.in1 (PyProof.Rows.ksk_rest a1 (.ref f) false its.toArray e1 (.ref kS)) (fun fl s' => fl = .done (.ret .none) ∧ EP X pins σ Q (.ref a1) s') E' s := by
  have hl0 : bs.length = its.length := by rw [← rv.length, List.length_map]
  have pinT : ∀ {G : Hp} {s2 : Shared} {o o2 : Obj}, Inv X pins σ G s2 → s2.heap.get? kS = some o → s2.heap.get? a1 = some o2 → G kS = none → G a1 = none → (∀ v, o.data ≠ .cell v) → (∀ v, o2.data ≠ .cell v) → Inv X ((kS, o) :: (a1, o2) :: pins) σ G s2 := fun {G s2 o o2} J g1 g2 g3 g4 g5 g6 =>
    J.pins_of fun p hp => by
      rcases List.mem_cons.mp hp with rfl | hp
      · exact ⟨g1, g3, fk.2.1, fk.2.2.1, g5⟩
      rcases List.mem_cons.mp hp with rfl | hp
      · exact ⟨g2, g4, fa.2.1, fa.2.2.1, g6⟩
      · exact J.pin p (List.mem_append_right _ hp)
  have pinK : ∀ {G : Hp} {s2 : Shared} {o o2 : Obj}, Inv X ((kS, o) :: (a1, o2) :: pins) σ G s2 → Inv X pins σ G s2 ∧ s2.heap.get? kS = some o ∧ s2.heap.get? a1 = some o2 ∧ G kS = none ∧ G a1 = none := fun {G s2 o o2} J =>
    have p1 := J.pin (kS, o) (List.mem_append_right _ List.mem_cons_self)
    have p2 := J.pin (a1, o2) (List.mem_append_right _ (List.mem_cons_of_mem _ List.mem_cons_self))
    ⟨J.pins_of fun p hp => J.pin p (List.mem_append_right _ (List.mem_cons_of_mem _ (List.mem_cons_of_mem _ hp))), p1.1, p2.1, p1.2.1, p2.2.1⟩
  unfold PyProof.Rows.ksk_rest
  refine wpAny_bind (wpAny_rule ?_)
  rw [← Array.forIn_toList]
  refine wpAny_bind (PyProof.Rows.ksk_fold (fun i s' => ∃ (G : Hp) (kts : List V) (kA : Array Value) (e : Nat), Inv X ((kS, PyProof.Rows.seqObj "list" kA e) :: (a1, PyProof.Rows.seqObj "list" #[] e1) :: pins) σ G s' ∧ Kp [] H G ∧ Vals kts kA.toList ∧ HasAll G kts ((bs.map Prod.snd).take i)) its 0 s
    ⟨H, [], #[], 0, pinT I nk na fk.1 fa.1 nofun nofun, .refl, .nil, .nil⟩ ?turn ?fin)
  case turn =>
    rintro j x s' hx ⟨G, kts, kA, e, J, kG, rk, hk⟩
    rw [Nat.zero_add] at hk ⊢
    have hj : j < bs.length := by rw [hl0]; exact (List.getElem?_eq_some_iff.mp hx).1
    have hbj : bs[j]? = some bs[j] := List.getElem?_eq_getElem hj
    generalize bs[j] = b at hbj
    have hbm := List.mem_of_getElem? hbj
    have rx : RelV b.1 x := by
      obtain ⟨u, hu, r⟩ := rv.get (i := j) (x := b.1) (by rw [List.getElem?_map, hbj]; rfl)
      rw [hx] at hu
      cases hu
      exact r
    have tk1 : (bs.map Prod.snd).take (j + 1) = (bs.map Prod.snd).take j ++ [b.2] := takeS (by rw [List.getElem?_map, hbj]; rfl)
    refine wpAny_bind (wpAny_attempt (wpAny_mono (run_in F hr.in1.in1 J.env0.in1.in1 hb J rx (turn b hbm G kG)) (fun u s2 hu => ?_) fun _ _ z => z.elim))
    obtain ⟨v, G2, J2, r2, kG2, hv⟩ := hu
    obtain ⟨J3, g1, g2, g3, g4⟩ := pinK J2
    have lk : kA.size ≤ its.length := by
      have h1 := rk.length
      have h2 := hk.len
      rw [List.length_take, List.length_map] at h2
      have h3 : kA.toList.length = kA.size := Array.length_toList ..
      omega
    obtain ⟨c2, hc2⟩ : ∃ c2, (s2.heap.update kS (Obj.mapSeq (·.push u))).get? kS = some (PyProof.Rows.seqObj "list" (kA.push u) c2) := ⟨_, PyProof.Rows.get?_update_seq g1 (·.push u)⟩
    have sb := Heap.SameBut.update s2.heap kS (Obj.mapSeq (·.push u))
    refine wpAny_bind (PyProof.Rows.listUpdate_at g1 rfl (wpAny_pure ⟨rfl, G2, kts ++ [v], kA.push u, c2, ?_, kG.trans kG2, ?_, ?_⟩) (by omega) (by rw [Array.size_push]; omega))
    · exact pinT (Inv.others (I := J3) (t' := s2.toks) [kS] (fun b hb => by rw [List.mem_singleton.mp hb]; exact ⟨g3, fk.2⟩) fun b o hb e => (sb.2 b fun z => hb (by rw [z]; simp)).trans e) hc2 ((sb.2 a1 ne.symm).trans g2) g3 g4 nofun nofun
    · rw [Array.toList_push]
      exact rk.append (.cons r2 .nil)
    · rw [tk1]
      exact (HasAll.kp kG2 _ _ hk).snoc hv
  case fin =>
    rintro s' ⟨G, kts, kA, e, J, kG, rk, hk⟩
    rw [Nat.zero_add, List.take_of_length_le (by rw [List.length_map]; omega)] at hk
    obtain ⟨J3, g1, g2, g3, g4⟩ := pinK J
    have ek := each_keys J.hok hk rk
    have lk : kA.size = its.length := by
      have h1 := rk.length
      have h2 := hk.len
      rw [List.length_map] at h2
      have h3 : kA.toList.length = kA.size := Array.length_toList ..
      omega
    obtain ⟨h1, k1, k2⟩ := L2.restrict s'.heap fun b => decide (b ≠ kS)
    have kk : ∀ b o, b ≠ kS → s'.heap.get? b = some o → h1.get? b = some o := fun b o hb e => by rw [k1 b (decide_eq_true hb)]; exact e
    have kb : ∀ b o, h1.get? b = some o → s'.heap.get? b = some o := fun b o e => by
      by_cases z : b = kS
      · rw [k2 b (decide_eq_false (by simpa using z))] at e
        cases e
      · rw [← k1 b (decide_eq_true z)]
        exact e
    refine wpAny_bind (PyProof.Rows.listItems_at g1 rfl ?_)
    refine PySem.W.keyH_end (κ := PySem.W.dataKind s'.heap (bs.map Prod.snd)) (h₁ := h1) (fun b o _ e => kb b o e) (k2 kS (by simp)) g1 g2 ne (PySem.W.SortsAt.data ek hal hso fun d hd => ?_) lk hL fun h2 tk c hkb hD => ⟨rfl, .ref a1, upd G a1 (.lst ((bs.mergeSort (PySem.W.dataLe false Prod.snd)).map Prod.fst)), ?_, rfl, q G kG g4⟩
    · obtain ⟨b, hbm, rfl⟩ := List.mem_map.mp hd
      have := hdp b hbm
      have := hr.in1.in1.un
      omega
    · have out := PySem.W.keyedOut_each (rev := false) (bs := bs) (vs := its) (R := fun u (b : V × PyData) => RelV b.1 u) Prod.snd ⟨s'.heap, kA.toList, hal, rfl, ek⟩ (each_of_vals rv rfl)
      have J4 := Inv.others (I := J3) (h' := h2) (t' := tk) [kS, a1] (fun b hb => by
        rcases List.mem_cons.mp hb with rfl | hb
        · exact ⟨g3, fk.2⟩
        · rw [List.mem_singleton.mp hb]; exact ⟨g4, fa.2⟩) fun b o hb e => hkb b o (fun z => hb (by rw [z]; simp)) (kk b o (fun z => hb (by rw [z]; simp)) e)
      have ln := vals_of_each out
      refine Inv.adopt J4 ⟨g4, fa.2⟩ ⟨?_, _, c, ln, hD⟩
      rw [List.length_map, List.length_mergeSort, hl0]
      exact hL
theorem cr_sortedF {k : Nat} {f : Addr} {fd : FuncData} {ps : List Str} {sp : Sp} (F : FnOk X.prog X.w X.K X.mg X.base CX0 k f fd ps sp) (hr : Room (k + 2) X.A) (hb : Binds X.K fd ps []) :
    CallRK X (.builtin "sorted") [Str.ofString "key"] (fun vs zs H Q => ∃ x, vs = [x] ∧ zs = [.ref f] ∧ rSF sp x H Q) := by
  intro pins s σ H vs zs us ws Q I r rz h
  obtain ⟨x, rfl, rfl, a, bs, rfl, ha, hal, hso, hdp, turn, q⟩ := h
  obtain rfl := Vals.ref1 r
  obtain rfl := Vals.ref1 rz
  obtain ⟨hz, its, n, rv, hob⟩ := I.hok a _ ha
  have hl0 : bs.length = its.length := by rw [← rv.length, List.length_map]
  have hL : its.length ≤ sizeLine := by rw [← rv.length]; exact hz
  show wpAny _ _ (call (.builtin "sorted") [.ref a] [(Str.ofString "key", .ref f)]) _ _ s
  refine PySem.W.sorted_of_sort (vs := its) ⟨_, hob, rfl, _, rfl⟩ hL (PyProof.Rows.ksk_s1 _ _) (fun _ => PyProof.Rows.ksk_l1 _ _) fun E' => ?_
  rw [PyProof.Rows.ksk_t1]
  have c0 := PySem.W.copyHeap_at s.heap its
  obtain ⟨e1, c1⟩ : ∃ e1, ((PySem.W.copyHeap s.heap its).update (s.heap.objs.size + 1) (Obj.mapSeq fun _ => (#[] : Array Value))).get? (s.heap.objs.size + 1) = some (PyProof.Rows.seqObj "list" #[] e1) := ⟨_, PyProof.Rows.get?_update_seq c0 fun _ => #[]⟩
  have sz : (((PySem.W.copyHeap s.heap its).update (s.heap.objs.size + 1) (Obj.mapSeq fun _ => (#[] : Array Value))).push (PyProof.Rows.seqObj "tuple" its.toArray 0)).objs.size = (PySem.W.copyHeap s.heap its).objs.size + 1 := by
    rw [PyProof.Rows.size_push', Heap.size_update]
  have gt : s.heap.objs.size + 1 < (PySem.W.copyHeap s.heap its).objs.size := Heap.lt_size c0
  unfold PyProof.Rows.ksk_tree
  refine wpAny_bind (PyProof.Rows.listItems_at c0 rfl (wpAny_bind (PyProof.Rows.listUpdate_at c0 rfl (wpAny_bind (PyProof.Rows.seqEpoch_at c1 rfl (wpAny_bind (wpAny_newTuple (wpAny_bind (wpAny_newList (wpAny_holding ?_) (Nat.zero_le _))) hL)))) (by rw [List.size_toArray]; exact hL) (Nat.zero_le _))))
  have I5 : Inv X pins σ H { s with heap := PySem.W.sortingHeap (PySem.W.copyHeap s.heap its) (s.heap.objs.size + 1) its } := I.kept (t' := s.toks) fun b o e => PySem.W.sorting_copy_old e
  have fk : FpOk X pins H ((PySem.W.copyHeap s.heap its).objs.size + 1) := I.fpOk (Nat.le_of_lt (Nat.lt_of_lt_of_le (Nat.lt_succ_self _) (Nat.le_of_lt (Nat.lt_succ_of_lt gt)))) (I.hok.fresh (Nat.le_of_lt (Nat.lt_of_lt_of_le (Nat.lt_succ_self _) (Nat.le_of_lt (Nat.lt_succ_of_lt gt)))))
  have fa : FpOk X pins H (s.heap.objs.size + 1) := I.fpOk (Nat.le_succ _) (I.hok.fresh (Nat.le_succ _))
  rw [sz]
  refine rest_run (s := { s with heap := PySem.W.sortingHeap (PySem.W.copyHeap s.heap its) (s.heap.objs.size + 1) its }) F hr hb I5 fk fa (Nat.ne_of_gt (Nat.lt_succ_of_lt gt)) ?_ ?_ rv hL hal hso hdp turn fun G kG g => q G _ kG fa.1 g
  · show (PySem.W.sortingHeap (PySem.W.copyHeap s.heap its) (s.heap.objs.size + 1) its).get? _ = _
    rw [← sz]
    exact Heap.get?_push_size _ rfl
  · show (PySem.W.sortingHeap (PySem.W.copyHeap s.heap its) (s.heap.objs.size + 1) its).get? _ = _
    exact Heap.get?_push_of_some _ (Heap.get?_push_of_some _ c1)
/-- sorted(e, key=y) -/
theorem pe_sortedF {k j : Nat} {y : Str} {sp : Sp} {p p2 kp pos : Pos} {e : Expr} {ta : TA} (c : Cal X.prog X.w X.K X.mg X.base k y sp []) (hr : Room j X.A) (hk : k + 2 ≤ j) (hg : Gl X "sorted") (hm : X.mg "sorted" = none) (hv : bootBuiltins "sorted" = some (.builtin "sorted")) (hgy : Gl X y) (ha : PA X [e] ta)
    (hdy : (y == ("__debug__" : Str)) = false := by decide)
    (h1 : backTo pos (starEach [e] X.env) = (false, eval e X.env) :: backTo pos (starEach [] X.env) := by rfl) (h2 : (backTo pos (starEach [e] X.env)).any (·.1) = false := by rfl)
    (h3 : (backToKw pos (keywordEach [⟨some "key", .Name y p2, kp⟩] X.env)).all (·.1.isSome) = true := by rfl) (h4 : (backToKw pos (keywordEach [⟨some "key", .Name y p2, kp⟩] X.env)).any (·.1.isNone) = false := by rfl) (h5 : (backToKw pos (keywordEach [⟨some "key", .Name y p2, kp⟩] X.env)).filterMap (·.1) = [Str.ofString "key"] := by rfl) :
    PE X (.Call (.Name "sorted" p) [e] [⟨some "key", .Name y p2, kp⟩] pos) (fun σ H Q => ta σ H fun vs H1 => ∃ x, vs = [x] ∧ rSF sp x H1 Q) := by
  obtain ⟨f, fd, ps, ds, F, hmy, kp', b, d⟩ := c.ex
  cases d
  refine ⟨fun pins s σ H Q I h => wpAny_Call_Name_kw (ld_blt I hg hm hv ?_ (by decide) (by decide))⟩
  have keys : PK X [⟨some "key", .Name y p2, kp⟩] (tCons (tC (.ref f)) tNil) := pk_cons (pe_glob (v := .ref f) hgy hmy rfl hdy) pk_nil
  refine PyProof.Rows.callWith_kw (thn (ha.run pos pins s σ H _ I h) fun us s1 ⟨vs, H1, I1, r1, x, ev, q1⟩ => thn (keys.run pos pins s1 σ H1 (fun zs H2 => zs = [.ref f] ∧ H2 = H1) I1 ⟨rfl, rfl⟩) fun ws s2 ⟨zs, H2, I2, r2, ez, eh⟩ => ?_) h1 h2 h3 h4
  rw [h5]
  exact cr_sortedF F (hr.mono hk) b pins s2 σ H2 vs zs us ws Q I2 r1 r2 ⟨x, ev, ez, by rw [eh]; exact q1⟩
end

/-! ### dicts whose keys are tuples of any depth, None among them -/
abbrev NK := PySem.NestedKey
mutual
/-- v is such a key -/
inductive NAt (H : Hp) : NK → V → Prop
  | none : NAt H .none .non
  | num (i : Int) : NAt H (.num i) (.int i)
  | text (x : Str) : NAt H (.text x) (.str x)
  | tup {b : Addr} {xs : List V} {ks : List NK} : H b = some (.tup xs) → NAll H ks xs → NAt H (.tup ks) (.ref b)
inductive NAll (H : Hp) : List NK → List V → Prop
  | nil : NAll H [] []
  | cons {k : NK} {ks : List NK} {v : V} {vs : List V} : NAt H k v → NAll H ks vs → NAll H (k :: ks) (v :: vs)
end
mutual
theorem NAt.keeps {H H' : Hp} (f : ∀ b xs, H b = some (.tup xs) → H' b = some (.tup xs)) : ∀ (k : NK) (v : V), NAt H k v → NAt H' k v
  | .none, _, h => by cases h; exact .none
  | .num i, _, h => by cases h; exact .num i
  | .text x, _, h => by cases h; exact .text x
  | .tup ks, _, h => by cases h with | tup e r => exact .tup (f _ _ e) (NAll.keeps f ks _ r)
theorem NAll.keeps {H H' : Hp} (f : ∀ b xs, H b = some (.tup xs) → H' b = some (.tup xs)) : ∀ (ks : List NK) (vs : List V), NAll H ks vs → NAll H' ks vs
  | [], _, h => by cases h; exact .nil
  | k :: ks, _, h => by cases h with | cons h1 h2 => exact .cons (NAt.keeps f k _ h1) (NAll.keeps f ks _ h2)
end
theorem NAt.kp {M : List Addr} {H H' : Hp} (k : Kp M H H') {n : NK} {v : V} (h : NAt H n v) : NAt H' n v := NAt.keeps k.t n v h
mutual
theorem NAt.is {P : Program} {w : World} {H : Hp} {h : Heap} (ok : HOk P w H h) : ∀ (k : NK) (v : V) (u : Value), NAt H k v → RelV v u → PySem.NestedIs h k u
  | .none, _, u, x, r => by cases x; rw [show u = Value.none from r]; exact .none
  | .num i, _, u, x, r => by
    cases x
    obtain ⟨t, rfl⟩ := r
    exact .int i t
  | .text z, _, u, x, r => by
    cases x
    obtain ⟨t, rfl⟩ := r
    exact .text z t
  | .tup ks, _, u, x, r => by
    cases x with
    | tup e hs =>
      obtain ⟨_, its, rv, ob, ho, hc, n, hd⟩ := ok _ _ e
      rw [show u = Value.ref _ from r]
      exact .tup ho hc hd (by simpa using NAll.is ok ks _ its hs rv)
theorem NAll.is {P : Program} {w : World} {H : Hp} {h : Heap} (ok : HOk P w H h) : ∀ (ks : List NK) (vs : List V) (us : List Value), NAll H ks vs → Vals vs us → PySem.NestedAll h ks us
  | [], _, us, x, r => by
    cases x
    cases r
    exact .nil
  | k :: ks, _, us, x, r => by
    cases x with
    | cons x1 x2 =>
      cases r with
      | cons r1 r2 => exact .cons (NAt.is ok k _ _ x1 r1) (NAll.is ok ks _ _ x2 r2)
end
/-- an entry: key, where it stands, value -/
abbrev NE := NK × Addr × V
def PN : List NE → List (NK × Addr × Value) → Prop := Paired fun p q => p.1 = q.1 ∧ p.2.1 = q.2.1 ∧ RelV p.2.2 q.2.2
def atN (xs : List NE) (k : NK) : Option V := (xs.find? fun x => decide (x.1 = k)).map fun x => x.2.2
def putN (xs : List NE) (k : NK) (b : Addr) (v : V) : List NE := if (atN xs k).isSome = true then xs.map (fun x => if x.1 = k then (x.1, x.2.1, v) else x) else xs ++ [(k, b, v)]
def dnF (P : Program) (w : World) (a : Addr) (xs : List NE) (h : Heap) : Prop :=
  xs.length ≤ sizeLine ∧ (a == sysModules) = false ∧ ∃ ys, PN xs ys ∧ ∃ o es ep, h.get? a = some o ∧ o.ExactDict ∧ o.data = .dict es ep ∧ es.toList = ys.map (entryOfKey (PySem.nestedKind P w)) ∧ (ys.map (·.1)).Nodup
/-- a dict of such keys -/
def DN (P : Program) (w : World) (a : Addr) (xs : List NE) : HO := .ext (dnF P w a xs)
theorem dn_obj {P : Program} {w : World} {H : Hp} {h : Heap} {a : Addr} {xs : List NE} (f : dnF P w a xs h) : ObjOk P w H h a (DN P w a xs) := by
  obtain ⟨f1, f2, ys, f3, o, es, ep, f4, f5, f6, f7, f8⟩ := f
  exact ⟨⟨f1, f2, ys, f3, o, es, ep, f4, f5, f6, f7, f8⟩, ⟨o, f4⟩, fun h1 h2 ⟨g1, g2, zs, g3, o', es', ep', g4, g5⟩ st => ⟨g1, g2, zs, g3, o', es', ep', st _ g4, g5⟩⟩
theorem PN.val {xs : List NE} {ys : List (NK × Addr × Value)} (r : PN xs ys) (k : NK) : RelO (atN xs k) ((atKey ys k).map (·.2)) := by
  unfold PN at r
  induction r with
  | nil => exact True.intro
  | @cons p q ps qs h t ih =>
    obtain ⟨h1, _, h2⟩ := h
    by_cases e : p.1 = k
    · have e' : q.1 = k := h1.symm.trans e
      have b : atKey (q :: qs) k = some q.2 := by simp [atKey, List.find?_cons, e']
      have b' : atN (p :: ps) k = some p.2.2 := by simp [atN, List.find?_cons, e]
      rw [b', b]; exact h2
    · have e' : ¬ q.1 = k := fun z => e (h1.trans z)
      have b : atKey (q :: qs) k = atKey qs k := by simp [atKey, List.find?_cons, e']
      have b' : atN (p :: ps) k = atN ps k := by simp [atN, List.find?_cons, e]
      rw [b', b]; exact ih
theorem PN.repl {xs : List NE} {ys : List (NK × Addr × Value)} (r : PN xs ys) (k : NK) {y : V} {u : Value} (ry : RelV y u) : PN (xs.map fun x => if x.1 = k then (x.1, x.2.1, y) else x) (ys.map (putAt k u)) := by
  unfold PN at r ⊢
  induction r with
  | nil => exact .nil
  | @cons p q ps qs h t ih =>
    rw [List.map_cons, List.map_cons]
    refine .cons ?_ ih
    obtain ⟨h1, h2, h3⟩ := h
    unfold putAt
    by_cases e : p.1 = k
    · rw [if_pos e, if_pos (h1.symm.trans e)]; exact ⟨h1, h2, ry⟩
    · rw [if_neg e, if_neg (fun z => e (h1.trans z))]; exact ⟨h1, h2, h3⟩
theorem PN.put {xs : List NE} {ys : List (NK × Addr × Value)} (r : PN xs ys) (k : NK) (b : Addr) {y : V} {u : Value} (ry : RelV y u) : PN (putN xs k b y) (storedH ys k b u) := by
  have e : (atN xs k).isSome = (atKey ys k).isSome := by rw [(r.val k).isSome_eq, Option.isSome_map]
  unfold putN storedH
  rw [e]
  by_cases q : (atKey ys k).isSome = true
  · rw [if_pos q, if_pos q]; exact r.repl k ry
  · rw [if_neg q, if_neg q]; exact Paired.snoc r ⟨rfl, rfl, ry⟩
theorem PN.addrs {xs : List NE} {ys : List (NK × Addr × Value)} (r : PN xs ys) : (ys.map fun x => x.2.1) = xs.map fun x => x.2.1 := by
  unfold PN at r
  induction r with
  | nil => rfl
  | cons h t ih => rw [List.map_cons, List.map_cons, ih, h.2.1]
theorem putN_len (xs : List NE) (k : NK) (b : Addr) (v : V) : (putN xs k b v).length ≤ xs.length + 1 := by
  unfold putN
  split
  · rw [List.length_map]; omega
  · rw [List.length_append]; exact Nat.le_refl _
/-- all keys stand where they are said to -/
def KsAt (H : Hp) (xs : List NE) : Prop := ∀ x ∈ xs, NAt H x.1 (.ref x.2.1) ∧ x.1.depth ≤ 8
theorem KsAt.kp {M : List Addr} {H H' : Hp} {xs : List NE} (h : KsAt H xs) (k : Kp M H H') : KsAt H' xs := fun x hx => ⟨(h x hx).1.kp k, (h x hx).2⟩
theorem KsAt.nil {H : Hp} : KsAt H [] := fun x h => by cases h
theorem KsAt.put {H : Hp} {xs : List NE} {k : NK} {b : Addr} {v : V} (h : KsAt H xs) (hk : NAt H k (.ref b)) (hd : k.depth ≤ 8) : KsAt H (putN xs k b v) := fun x hx => by
  unfold putN at hx
  split at hx
  · obtain ⟨y, hy, rfl⟩ := List.mem_map.mp hx
    split
    · exact h y hy
    · exact h y hy
  · rcases List.mem_append.mp hx with m | m
    · exact h x m
    · rw [List.mem_singleton.mp m]; exact ⟨hk, hd⟩
theorem dn_of {P : Program} {w : World} {H : Hp} {h : Heap} {a : Addr} {xs : List NE} (ok : HOk P w H h) (e : H a = some (DN P w a xs)) (ks : KsAt H xs) : xs.length ≤ sizeLine ∧ (a == sysModules) = false ∧ ∃ ys, PN xs ys ∧ h.DictOfH (PySem.nestedKind P w) a ys := by
  obtain ⟨⟨f1, f2, ys, f3, o, es, ep, f4, f5, f6, f7, f8⟩, _⟩ := ok a _ e
  refine ⟨f1, f2, ys, f3, o, es, ep, f4, f5, f6, f7, fun x hx => ?_, f8⟩
  have all : ∀ {l : List NE} {m : List (NK × Addr × Value)}, PN l m → (∀ x ∈ l, NAt H x.1 (.ref x.2.1) ∧ x.1.depth ≤ 8) → ∀ x ∈ m, (PySem.nestedKind P w).is h x.1 x.2.1 := by
    intro l m q
    induction q with
    | nil => intro _ x hx; exact nomatch hx
    | @cons p q ps qs hq t ih =>
      intro hl x hx
      rcases List.mem_cons.mp hx with e | hx
      · subst e
        obtain ⟨n1, n2⟩ := hl p List.mem_cons_self
        rw [hq.1, hq.2.1] at n1
        rw [hq.1] at n2
        exact ⟨NAt.is ok _ _ _ n1 rfl, n2⟩
      · exact ih (fun y hy => hl y (List.mem_cons_of_mem _ hy)) x hx
  exact all f3 ks x hx
section
variable {X : Cx} {P : Program} {w : World} {pos : Pos}
def tDNewN (P : Program) (w : World) : TE := fun _ H Q => ∀ p, H p = none → Q (.ref p) (upd H p (DN P w p []))
theorem pe_dnewN (hP : X.prog = P) (hw : X.w = w) : PE X (.Dict [] [] pos) (tDNewN P w) := by
  subst hP hw
  exact ⟨fun pins s σ H Q I h => wpAny_Dict_empty ⟨.ref s.heap.objs.size, _, I.laid (a := s.heap.objs.size) (o := DN X.prog X.w s.heap.objs.size []) (t' := s.toks) (fun _ _ q => Heap.get?_push_of_some _ q) (Nat.le_refl _)
    (dn_obj ⟨Nat.zero_le _, beq_eq_false_iff_ne.mpr (Ne.symm (Nat.ne_of_lt I.big)), [], .nil, _, #[], 0, Heap.get?_push_size _ rfl, ⟨rfl, rfl, rfl⟩, rfl, rfl, List.nodup_nil⟩), rfl, h _ (I.hok.fresh (Nat.le_refl _))⟩⟩
/-- d[y] = v -/
def sDPutN (P : Program) (w : World) (td ty tv : TE) : TS := fun D σ H => tv σ H fun v H1 => td σ H1 fun x H2 => ty σ H2 fun y H3 => ∃ (a b : Addr) (xs : List NE) (k : NK), x = .ref a ∧ y = .ref b ∧ H3 a = some (DN P w a xs) ∧ KsAt H3 xs ∧ NAt H3 k (.ref b) ∧ k.depth ≤ 8 ∧ xs.length < sizeLine ∧ D.nx σ (upd H3 a (DN P w a (putN xs k b v)))
theorem ps_dputN {o i value : Expr} {pos' : Pos} {td ty tv : TE} (hP : X.prog = P) (hw : X.w = w) (hu : X.A.units + 9 < cLine) (ho : PE X o td) (hi : PE X i ty) (hv : PE X value tv) (hs : swapsWith value (some (.Subscript o i pos')) pos.line X.env = pure false) :
    PS X (.Assign [.Subscript o i pos'] value pos) (sDPutN P w td ty tv) := by
  subst hP hw
  refine ⟨fun pins s σ H D I h => ?_⟩
  refine wpAny_Assign_Subscript (thn (hv.run pins s σ H _ I h) fun r s1 ⟨v, H1, I1, rv, q1⟩ => thn (ho.run pins s1 σ H1 _ I1 q1) fun u s2 ⟨x, H2, I2, rx, q2⟩ => thn (hi.run pins s2 σ H2 _ I2 q2) fun iv s3 ⟨y, H3, I3, ry, a, b, xs, k, ex, ey, hd, ks, hk, dp, hl, q3⟩ => ?_) hs
  subst ex ey
  obtain rfl : u = Value.ref a := rx
  obtain rfl : iv = Value.ref b := ry
  obtain ⟨z, hsys, ys, rel, dd⟩ := dn_of I3.hok hd ks
  have hz : ys.length ≤ sizeLine := by rw [← Paired.length rel]; exact z
  refine wpAny_setItem_heap (knd := PySem.nestedKind X.prog X.w) (k := k) (hsz := hz) (by show X.A.units + 1 + 8 < cLine; omega) ⟨NAt.is I3.hok _ _ _ hk rfl, dp⟩ dd fun h' dd' hs' => ⟨σ, _, ?_, q3⟩
  obtain ⟨q, es, ep, hq, h2, h3, h4, _, h5⟩ := dd'
  have hle := putN_len xs k b v
  refine I3.write (x := a) (e := a) (by rw [hd]; exact True.intro) (.inl rfl) (fun b' q' hb z' => (hs'.2 b' hb).trans z') ⟨q, hq⟩ (dn_obj ⟨by omega, hsys, _, rel.put k b rv, q, es, ep, hq, h2, h3, h4, h5⟩)
/-- list(d): its keys -/
theorem call_list_dN (hP : X.prog = P) (hw : X.w = w) (hc : X.calm = true) : CallR X (.type "list") (fun us H Q => ∃ (d : Addr) (xs : List NE), us = [V.ref d] ∧ H d = some (DN P w d xs) ∧ ∀ p, H p = none → Q (.ref p) (upd H p (.lst (xs.map fun x => V.ref x.2.1)))) := by
  subst hP hw
  intro pins s σ H us vs Q I r h
  obtain ⟨d, xs, rfl, hd, q⟩ := h
  obtain ⟨u, rfl, rx⟩ := r.one
  cases rx
  obtain ⟨⟨z, hs, ks, pr, o, es, ep, ho, hx, hdt, he, hn⟩, _⟩ := I.hok d _ hd
  have l1 : es.size = ks.length := size_of_entries he
  have l2 : xs.length = ks.length := Paired.length pr
  refine PySem.W.kdl_call (kdl_raw hs hx hdt) (I.ok.hd hc) ho (by omega) fun h' tk acc' c' kp e it => ?_
  have ea : acc'.toList = ks.map fun x => Value.ref x.2.1 := by
    have hl : acc'.toList.length = ks.length := by rw [Array.length_toList, it.1]; exact l1
    apply List.ext_getElem?
    intro j
    rw [List.getElem?_map]
    cases hj : acc'.toList[j]? with
    | none =>
      have h1 := List.getElem?_eq_none_iff.mp hj
      rw [List.getElem?_eq_none (by omega)]
      all_goals rfl
    | some v =>
      obtain ⟨en, hen, hv⟩ := it.2 j v (by rw [← Array.getElem?_toList]; exact hj)
      have qe := entry_at he j
      rw [hen] at qe
      cases hb : ks[j]? with
      | none =>
        rw [hb] at qe
        exact nomatch (show some en = none from qe)
      | some b =>
        rw [hb] at qe
        have e2 : en = entryOfKey (PySem.nestedKind X.prog X.w) b := Option.some.inj qe
        rw [hv, e2]
        all_goals rfl
  have ex := PN.addrs pr
  have eb : acc'.toList = (xs.map fun x => x.2.1).map Value.ref := by rw [ea, ← ex, List.map_map]; all_goals rfl
  have rv : Vals ((xs.map fun x => x.2.1).map V.ref) acc'.toList := by rw [eb]; exact vals_refs _
  have em : (xs.map fun x => V.ref x.2.1) = (xs.map fun x => x.2.1).map V.ref := by rw [List.map_map]; rfl
  have hz : ((xs.map fun x => x.2.1).map V.ref).length ≤ sizeLine := by rw [List.length_map, List.length_map]; omega
  refine ⟨.ref s.heap.objs.size, _, I.laid (t' := tk) (o := .lst ((xs.map fun x => x.2.1).map V.ref)) kp (Nat.le_refl _) ?_, rfl, by rw [← em]; exact q _ (I.hok.fresh (Nat.le_refl _))⟩
  exact ⟨hz, acc'.toList, c', rv, by rw [Array.toArray_toList]; exact e⟩
end

/-! ### expressions of plans, as they are drawn -/
inductive Cell where
  | non | int (i : Int) | str (s : Str)
  deriving DecidableEq
def Cell.v : Cell → V
  | .non => .non
  | .int i => .int i
  | .str s => .str s
/-- a drawn value -/
def Cell.sm : Cell → Prop
  | .non => True
  | .int i => 0 ≤ i ∧ i ≤ 3
  | .str s => s = ⟨#[97]⟩ ∨ s = ⟨#[98]⟩
inductive Un where
  | negate | not | missing | length
  deriving DecidableEq
def Un.str : Un → Str
  | .negate => "negate"
  | .not => "not"
  | .missing => "missing"
  | .length => "length"
inductive Bn where
  | add | subtract | multiply | divide | remainder | less | equal | and | or | starts
  deriving DecidableEq
def Bn.str : Bn → Str
  | .add => "add"
  | .subtract => "subtract"
  | .multiply => "multiply"
  | .divide => "divide"
  | .remainder => "remainder"
  | .less => "less"
  | .equal => "equal"
  | .and => "and"
  | .or => "or"
  | .starts => "starts"
inductive Ex where
  | con (c : Cell) | col (i : Nat) | un (o : Un) (a : Ex) | bin (o : Bn) (a b : Ex) | ch (c a b : Ex)
def Ex.In (w : Nat) : Ex → Prop
  | .con _ => True
  | .col i => i < w
  | .un _ a => a.In w
  | .bin _ a b => a.In w ∧ b.In w
  | .ch c a b => c.In w ∧ a.In w ∧ b.In w
def Ex.sm : Ex → Prop
  | .con c => c.sm
  | .col _ => True
  | .un _ a => a.sm
  | .bin _ a b => a.sm ∧ b.sm
  | .ch c a b => c.sm ∧ a.sm ∧ b.sm
def Ex.depth : Ex → Nat
  | .con _ => 0
  | .col _ => 0
  | .un _ a => a.depth + 1
  | .bin _ a b => Nat.max a.depth b.depth + 1
  | .ch c a b => Nat.max c.depth (Nat.max a.depth b.depth) + 1
def ExAt (H : Hp) : Ex → Addr → Prop
  | .con c, r => H r = some (.tup [.str "constant", c.v])
  | .col i, r => H r = some (.tup [.str "column", .int (i : Int)])
  | .un o a, r => ∃ x, H r = some (.tup [.str o.str, .ref x]) ∧ ExAt H a x
  | .bin o a b, r => ∃ x y, H r = some (.tup [.str o.str, .ref x, .ref y]) ∧ ExAt H a x ∧ ExAt H b y
  | .ch c a b, r => ∃ z x y, H r = some (.tup [.str "choose", .ref z, .ref x, .ref y]) ∧ ExAt H c z ∧ ExAt H a x ∧ ExAt H b y
theorem ExAt.kp {M : List Addr} {H H' : Hp} (k : Kp M H H') : ∀ (t : Ex) (r : Addr), ExAt H t r → ExAt H' t r
  | .con _, _, h => k.t _ _ h
  | .col _, _, h => k.t _ _ h
  | .un _ a, _, ⟨x, h, i⟩ => ⟨x, k.t _ _ h, ExAt.kp k a x i⟩
  | .bin _ a b, _, ⟨x, y, h, i, j⟩ => ⟨x, y, k.t _ _ h, ExAt.kp k a x i, ExAt.kp k b y j⟩
  | .ch c a b, _, ⟨z, x, y, h, g, i, j⟩ => ⟨z, x, y, k.t _ _ h, ExAt.kp k c z g, ExAt.kp k a x i, ExAt.kp k b y j⟩
/-- totals -/
inductive Tw where
  | distinct | sum | least | greatest
  deriving DecidableEq
def Tw.str : Tw → Str
  | .distinct => "distinct"
  | .sum => "sum"
  | .least => "least"
  | .greatest => "greatest"
inductive Tot where
  | count | of (w : Tw) (e : Ex)
def Tot.In (w : Nat) : Tot → Prop
  | .count => True
  | .of _ e => e.In w
def Tot.sm : Tot → Prop
  | .count => True
  | .of _ e => e.sm ∧ e.depth ≤ 1
def TotAt (H : Hp) : Tot → Addr → Prop
  | .count, r => H r = some (.tup [.str "count"])
  | .of w e, r => ∃ x, H r = some (.tup [.str w.str, .ref x]) ∧ ExAt H e x
theorem TotAt.kp {M : List Addr} {H H' : Hp} (k : Kp M H H') : ∀ (t : Tot) (r : Addr), TotAt H t r → TotAt H' t r
  | .count, _, h => k.t _ _ h
  | .of _ e, _, ⟨x, h, i⟩ => ⟨x, k.t _ _ h, ExAt.kp k e x i⟩
def spCell : Sp := fun vs H Q _ => ∃ (d sc : Addr), vs = [.ref d] ∧ Drw d sc H ∧ ∀ (c : Cell) (o : HO), c.sm → (∀ xs, o ≠ .tup xs) → Drw d sc (upd H d o) → Q c.v (upd H d o)
def spExpr (n : Nat) : Sp := fun vs H Q _ => ∃ (d sc : Addr) (wd dep : Nat), vs = [.ref d, .int (wd : Int), .int (dep : Int)] ∧ dep + 3 ≤ n ∧ wd < 1000 ∧ Drw d sc H ∧
  ∀ (t : Ex) (r : Addr) (H' : Hp), t.In wd → t.depth ≤ dep → t.sm → ExAt H' t r → Kp [d] H H' → Drw d sc H' → Q (.ref r) H'
def spForm : Sp := fun vs H Q _ => ∃ (d sc : Addr) (wd : Nat), vs = [.ref d, .int (wd : Int)] ∧ wd < 1000 ∧ Drw d sc H ∧
  ∀ (t : Tot) (r : Addr) (H' : Hp), t.In wd → t.sm → TotAt H' t r → Kp [d] H H' → Drw d sc H' → Q (.ref r) H'
section
variable {P : Program} {w : World} {K : PySem.W.Frag} {mg : Str → Option Value} {base : Heap}
theorem ok_cell (D : GD K mg "_law_cell" sD_Lcell ["draw"]) (c_Lnext : Cal P w K mg base 1 "_law_next" spNext []) : Cal P w K mg base 2 "_law_cell" spCell [] := by
  refine D.cal sc_Lcell (fun vs H Q E h => ?_) (fun f cdv A outer s0 H vs Q E hr h => ?_)
  · obtain ⟨d, sc, rfl, _⟩ := h
    rfl
  obtain ⟨d, sc, rfl, dr, q⟩ := h
  refine ⟨_, (pss_cons (ps_set (i := 1) sc_Lcell.nd rfl (Or.inl rfl) (pe_c c_Lnext hr (by omega) rfl (pa_cons (pv 0) (pa_cons pe_int pa_nil))))
    (pss_cons (ps_if (pt_cmpR op_eq (pv 1) pe_int (nomark _)) (pss_one (ps_ret pe_non)) pss_nil)
    (pss_one (ps_ret (pe_ifExp (pt_cmpR op_gt (pv 1) pe_int (nomark _)) (pe_ix ix_str pe_str (pe_op op_sub (pv 1) pe_int) (fun _ _ => rfl)) (pe_op op_sub (pv 1) pe_int)))))), ?_⟩
  refine ⟨_, rfl, d, sc, 7, rfl, by decide, by decide, dr, fun f o f0 f7 no dr1 => ⟨_, rfl, rfl, _, rfl, ite2 (fun c => ?_) (fun c => ?_)⟩⟩
  · exact q .non o trivial no dr1
  · have c := nI c
    refine ⟨_, rfl, _, _, rfl, rfl, _, rfl, ite2 (fun c2 => ?_) (fun c2 => ?_)⟩
    · have c2 : 4 < f := of_decide_eq_true c2
      have : f = 5 ∨ f = 6 := by omega
      rcases this with rfl | rfl
      · exact ⟨_, rfl, _, _, rfl, rfl, _, _, 97, rfl, rfl, by decide, rfl, q (.str ⟨#[97]⟩) o (.inl rfl) no dr1⟩
      · exact ⟨_, rfl, _, _, rfl, rfl, _, _, 98, rfl, rfl, by decide, rfl, q (.str ⟨#[98]⟩) o (.inr rfl) no dr1⟩
    · have c2 : ¬ 4 < f := fun z => c2 (decide_eq_true z)
      exact ⟨_, rfl, _, _, rfl, rfl, q (.int (f - 1)) o ⟨by omega, by omega⟩ no dr1⟩
theorem expr_step {n : Nat} (D : GD K mg "_law_expression" sD_Lexpression ["draw", "width", "depth"]) (c_Lnext : Cal P w K mg base 1 "_law_next" spNext []) (c_Lcell : Cal P w K mg base 2 "_law_cell" spCell []) (c_Lexpression : Cal P w K mg base n "_law_expression" (spExpr n) []) :
    Cal P w K mg base (n + 1) "_law_expression" (spExpr (n + 1)) [] := by
  refine D.cal sc_Lexpression (fun vs H Q E h => ?_) (fun f cdv A outer s0 H vs Q E hr h => ?_)
  · obtain ⟨d, sc, wd, dep, rfl, _⟩ := h
    rfl
  obtain ⟨d, sc, wd, dep, rfl, hn, hw, dr, q⟩ := h
  have hn1 : 2 ≤ n := by omega
  refine ⟨_, (pss_cons (ps_set (i := 3) sc_Lexpression.nd rfl (Or.inl rfl) (pe_c c_Lnext hr (by omega) rfl (pa_cons (pv 0) (pa_cons pe_int pa_nil))))
    (pss_cons (ps_if (PW.pt (pw_or (pt_cmpR op_eq (pv 2) pe_int (nomark _)) (pw_or1 (pt_cmpR op_lt (pv 3) pe_int (nomark _))))) (pss_cons (ps_if (PW.pt (pw_or (pt_cmpR op_eq (pv 1) pe_int (nomark _)) (pw_or1 (pt_cmpR op_eq (pe_c c_Lnext hr (by omega) rfl (pa_cons (pv 0) (pa_cons pe_int pa_nil))) pe_int (nomark _))))) (pss_one (ps_ret (pe_tup (pa_cons pe_str (pa_cons (pe_c c_Lcell hr (by omega) rfl (pa_cons (pv 0) pa_nil)) pa_nil))))) pss_nil)
    (pss_one (ps_ret (pe_tup (pa_cons pe_str (pa_cons (pe_c c_Lnext hr (by omega) rfl (pa_cons (pv 0) (pa_cons (pv 1) pa_nil))) pa_nil)))))) pss_nil)
    (pss_cons (ps_if (pt_cmpR op_lt (pv 3) pe_int (nomark _)) (pss_cons (ps_set (i := 4) sc_Lexpression.nd rfl (Or.inl rfl) (pe_ix ix_list (pe_lst (pa_cons pe_str (pa_cons pe_str (pa_cons pe_str (pa_cons pe_str pa_nil))))) (pe_c c_Lnext hr (by omega) rfl (pa_cons (pv 0) (pa_cons pe_int pa_nil))) (fun _ _ => rfl)))
    (pss_one (ps_ret (pe_tup (pa_cons (pv 4) (pa_cons (pe_c c_Lexpression hr (by omega) rfl (pa_cons (pv 0) (pa_cons (pv 1) (pa_cons (pe_op op_sub (pv 2) pe_int) pa_nil)))) pa_nil)))))) pss_nil)
    (pss_cons (ps_set (i := 5) sc_Lexpression.nd rfl (Or.inl rfl) (pe_c c_Lexpression hr (by omega) rfl (pa_cons (pv 0) (pa_cons (pv 1) (pa_cons (pe_op op_sub (pv 2) pe_int) pa_nil)))))
    (pss_cons (ps_set (i := 6) sc_Lexpression.nd rfl (Or.inl rfl) (pe_c c_Lexpression hr (by omega) rfl (pa_cons (pv 0) (pa_cons (pv 1) (pa_cons (pe_op op_sub (pv 2) pe_int) pa_nil)))))
    (pss_cons (ps_if (pt_cmpR op_eq (pv 3) pe_int (nomark _)) (pss_one (ps_ret (pe_tup (pa_cons pe_str (pa_cons (pe_c c_Lexpression hr (by omega) rfl (pa_cons (pv 0) (pa_cons (pv 1) (pa_cons (pe_op op_sub (pv 2) pe_int) pa_nil)))) (pa_cons (pv 5) (pa_cons (pv 6) pa_nil))))))) pss_nil)
    (pss_cons (ps_set (i := 7) sc_Lexpression.nd rfl (Or.inl rfl) (pe_lst (pa_cons pe_str (pa_cons pe_str (pa_cons pe_str (pa_cons pe_str (pa_cons pe_str (pa_cons pe_str (pa_cons pe_str (pa_cons pe_str (pa_cons pe_str (pa_cons pe_str pa_nil))))))))))))
    (pss_one (ps_ret (pe_tup (pa_cons (pe_ix ix_list (pv 7) (pe_c c_Lnext hr (by omega) rfl (pa_cons (pv 0) (pa_cons pe_int pa_nil))) (fun _ _ => rfl)) (pa_cons (pv 5) (pa_cons (pv 6) pa_nil))))))))))))), ?_⟩
  have e2 : (2 : Nat) ≤ sizeLine := by decide
  have e3 : (3 : Nat) ≤ sizeLine := by decide
  have e4 : (4 : Nat) ≤ sizeLine := by decide
  refine ⟨_, rfl, d, sc, 12, rfl, by decide, by decide, dr, fun fm o f0 f9 no dr1 => ?_⟩
  have k1 : Kp [d] H (upd H d o) := dr.step
  obtain ⟨H1, hH1⟩ : ∃ H1, upd H d o = H1 := ⟨_, rfl⟩
  rw [hH1] at dr1 k1 ⊢
  refine ⟨_, rfl, rfl, _, rfl, ?_⟩
  refine ite2 (fun c => iteT ?g1) (fun c => ?g0)
  case' g0 =>
    refine ⟨_, rfl, _, _, rfl, rfl, _, rfl, ?_⟩
    refine ite2 (fun c2 => ?g2) (fun c2 => ?g3)
  case g1 | g2 =>
    refine ⟨_, rfl, rfl, _, rfl, ?_⟩
    refine ite2 (fun c => iteT ?_) (fun c => ?_)
    · refine ⟨_, rfl, d, sc, rfl, dr1, fun c o2 hc no2 dr3 => ⟨e2, fun p hp => ?_⟩⟩
      obtain ⟨x1, x2⟩ := dr3.ne_new hp
      exact q (.con c) p _ True.intro (Nat.zero_le _) hc upd_same ((k1.trans dr1.step).newer hp) (dr3.put x1 x2)
    · have hw0 := nI c
      refine ⟨_, rfl, d, sc, 3, rfl, by decide, by decide, dr1, fun a o1 a0 a1 no1 dr2 => ⟨rfl, _, rfl, ?_⟩⟩
      have k2 : Kp [d] H (upd H1 d o1) := k1.trans dr1.step
      refine ite2 (fun c3 => ?_) (fun c3 => ?_)
      · refine ⟨_, rfl, d, sc, rfl, dr2, fun c o2 hc no2 dr3 => ⟨e2, fun p hp => ?_⟩⟩
        obtain ⟨x1, x2⟩ := dr3.ne_new hp
        exact q (.con c) p _ True.intro (Nat.zero_le _) hc upd_same ((k2.trans dr2.step).newer hp) (dr3.put x1 x2)
      · refine ⟨_, rfl, _, rfl, d, sc, (wd : Int), rfl, by omega, by omega, dr2, fun b o2 b0 b1 no2 dr3 => ⟨e2, fun p hp => ?_⟩⟩
        obtain ⟨bn, rfl⟩ : ∃ bn : Nat, b = bn := ⟨b.toNat, by omega⟩
        obtain ⟨x1, x2⟩ := dr3.ne_new hp
        exact q (.col bn) p _ (by show bn < wd; omega) (Nat.zero_le _) True.intro upd_same ((k2.trans dr2.step).newer hp) (dr3.put x1 x2)
  case g3 =>
    have hd : dep ≠ 0 := fun e => nI c (by rw [e]; rfl)
    have edp : (dep : Int) - 1 = ((dep - 1 : Nat) : Int) := by omega
    have eargs : ([V.ref d, V.int (wd : Int), V.int ((dep : Int) - 1)] : List V) = [V.ref d, V.int (wd : Int), V.int ((dep - 1 : Nat) : Int)] := by rw [edp]
    refine ⟨_, rfl, _, _, rfl, rfl, _, rfl, ?_⟩
    refine ite2 (fun c3 => ?_) (fun c3 => ?_)
    · refine ⟨e4, fun l hl => ?_⟩
      obtain ⟨x1, x2⟩ := dr1.ne_new hl
      have drL := dr1.put (o := .lst [.str "negate", .str "not", .str "missing", .str "length"]) x1 x2
      have kL : Kp [d] H (upd H1 l (.lst [.str "negate", .str "not", .str "missing", .str "length"])) := k1.newer hl
      refine ⟨_, rfl, d, sc, 4, rfl, by decide, by decide, drL, fun b o2 b0 b4 no2 dr2 => ?_⟩
      have hl2 : (upd (upd H1 l (.lst [.str "negate", .str "not", .str "missing", .str "length"])) d o2) l = some (.lst [.str "negate", .str "not", .str "missing", .str "length"]) := by rw [upd_ne x1.symm, upd_same]
      obtain ⟨un, hun⟩ : ∃ un : Un, atI ([.str "negate", .str "not", .str "missing", .str "length"] : List V) b = some (.str un.str) := by
        have : b = 0 ∨ b = 1 ∨ b = 2 ∨ b = 3 := by omega
        rcases this with rfl | rfl | rfl | rfl
        · exact ⟨.negate, rfl⟩
        · exact ⟨.not, rfl⟩
        · exact ⟨.missing, rfl⟩
        · exact ⟨.length, rfl⟩
      refine ⟨l, _, _, _, rfl, rfl, SqL.of hl2, hun, ?_⟩
      refine ⟨_, rfl, _, rfl, _, rfl, _, rfl, _, _, rfl, rfl, d, sc, wd, dep - 1, eargs, by omega, hw, dr2, fun t r H2 ti td ts ta k2 dr3 => ⟨e2, fun p hp => ?_⟩⟩
      obtain ⟨y1, y2⟩ := dr3.ne_new hp
      exact q (.un un t) p _ ti (by show t.depth + 1 ≤ dep; omega) ts ⟨r, upd_same, ExAt.kp (Kp.new (M := []) hp) t r ta⟩ (((kL.trans drL.step).trans k2).newer hp) (dr3.put y1 y2)
    · refine ⟨_, rfl, _, rfl, _, rfl, _, _, rfl, rfl, d, sc, wd, dep - 1, eargs, by omega, hw, dr1, fun t1 r1 H2 ti1 td1 ts1 ta1 k2 dr2 => ?_⟩
      refine ⟨_, rfl, _, rfl, _, rfl, _, _, rfl, rfl, d, sc, wd, dep - 1, eargs, by omega, hw, dr2, fun t2 r2 H3 ti2 td2 ts2 ta2 k3 dr3 => ?_⟩
      have k13 := (k1.trans k2).trans k3
      refine ⟨_, rfl, rfl, _, rfl, ?_⟩
      refine ite2 (fun c4 => ?_) (fun c4 => ?_)
      · refine ⟨_, rfl, _, rfl, _, rfl, _, _, rfl, rfl, d, sc, wd, dep - 1, eargs, by omega, hw, dr3, fun t3 r3 H4 ti3 td3 ts3 ta3 k4 dr4 => ⟨_, rfl, _, rfl, e4, fun p hp => ?_⟩⟩
        obtain ⟨y1, y2⟩ := dr4.ne_new hp
        have kp := Kp.new (M := []) (o := .tup [.str "choose", .ref r3, .ref r1, .ref r2]) hp
        refine q (.ch t3 t1 t2) p _ ⟨ti3, ti1, ti2⟩ ?_ ⟨ts3, ts1, ts2⟩ ⟨r3, r1, r2, upd_same, ExAt.kp kp t3 r3 ta3, ExAt.kp kp t1 r1 (ExAt.kp (k3.trans k4) t1 r1 ta1), ExAt.kp kp t2 r2 (ExAt.kp k4 t2 r2 ta2)⟩ ((k13.trans k4).newer hp) (dr4.put y1 y2)
        show Nat.max t3.depth (Nat.max t1.depth t2.depth) + 1 ≤ dep
        have : Nat.max t3.depth (Nat.max t1.depth t2.depth) ≤ dep - 1 := Nat.max_le.mpr ⟨td3, Nat.max_le.mpr ⟨td1, td2⟩⟩
        omega
      · refine ⟨(by show 10 ≤ sizeLine; decide), fun l hl => ?_⟩
        obtain ⟨x1, x2⟩ := dr3.ne_new hl
        obtain ⟨W, hW⟩ : ∃ W : List V, ([.str "add", .str "subtract", .str "multiply", .str "divide", .str "remainder", .str "less", .str "equal", .str "and", .str "or", .str "starts"] : List V) = W := ⟨_, rfl⟩
        have drL := dr3.put (o := .lst W) x1 x2
        have kL : Kp [d] H3 (upd H3 l (.lst W)) := .new hl
        refine ⟨_, rfl, _, rfl, d, sc, 10, rfl, by decide, by decide, by rw [hW]; exact drL, fun b o2 b0 b4 no2 dr4 => ?_⟩
        rw [hW] at dr4 ⊢
        have hl4 : (upd (upd H3 l (.lst W)) d o2) l = some (.lst W) := by rw [upd_ne x1.symm, upd_same]
        obtain ⟨bn, hbn⟩ : ∃ bn : Bn, atI W b = some (.str bn.str) := by
          subst hW
          have : b = 0 ∨ b = 1 ∨ b = 2 ∨ b = 3 ∨ b = 4 ∨ b = 5 ∨ b = 6 ∨ b = 7 ∨ b = 8 ∨ b = 9 := by omega
          rcases this with rfl | rfl | rfl | rfl | rfl | rfl | rfl | rfl | rfl | rfl
          · exact ⟨.add, rfl⟩
          · exact ⟨.subtract, rfl⟩
          · exact ⟨.multiply, rfl⟩
          · exact ⟨.divide, rfl⟩
          · exact ⟨.remainder, rfl⟩
          · exact ⟨.less, rfl⟩
          · exact ⟨.equal, rfl⟩
          · exact ⟨.and, rfl⟩
          · exact ⟨.or, rfl⟩
          · exact ⟨.starts, rfl⟩
        refine ⟨l, _, _, _, rfl, rfl, SqL.of hl4, hbn, _, rfl, _, rfl, e3, fun p hp => ?_⟩
        obtain ⟨y1, y2⟩ := dr4.ne_new hp
        have kz : Kp [d] H3 (upd (upd H3 l (.lst W)) d o2) := kL.trans drL.step
        have kp := Kp.new (M := []) (o := .tup [.str bn.str, .ref r1, .ref r2]) hp
        refine q (.bin bn t1 t2) p _ ⟨ti1, ti2⟩ ?_ ⟨ts1, ts2⟩ ⟨r1, r2, upd_same, ExAt.kp kp t1 r1 (ExAt.kp (k3.trans kz) t1 r1 ta1), ExAt.kp kp t2 r2 (ExAt.kp kz t2 r2 ta2)⟩ ((k13.trans kz).newer hp) (dr4.put y1 y2)
        show Nat.max t1.depth t2.depth + 1 ≤ dep
        have : Nat.max t1.depth t2.depth ≤ dep - 1 := Nat.max_le.mpr ⟨td1, td2⟩
        omega
theorem ok_expr (D : GD K mg "_law_expression" sD_Lexpression ["draw", "width", "depth"]) (c_Lnext : Cal P w K mg base 1 "_law_next" spNext []) (c_Lcell : Cal P w K mg base 2 "_law_cell" spCell []) : ∀ n, Cal P w K mg base n "_law_expression" (spExpr n) []
  | 0 => by
    have no : ∀ vs H Q E, ¬ spExpr 0 vs H Q E := fun vs H Q E h => by
      obtain ⟨d, sc, wd, dep, _, h, _⟩ := h
      omega
    obtain ⟨f, fd, F, hm, hb⟩ := D
    exact ⟨f, fd, _, [], ⟨fun vs H Q E h => absurd h (no vs H Q E), fun A outer s H args us vs Q E _ _ _ _ h => absurd h (no vs H Q E)⟩, hm, F.kp, hb, .nil⟩
  | n + 1 => expr_step D c_Lnext c_Lcell (ok_expr D c_Lnext c_Lcell n)
theorem ok_form (D : GD K mg "_law_form" sD_Lform ["draw", "width"]) (c_Lnext : Cal P w K mg base 1 "_law_next" spNext []) (c_Lexpression : Cal P w K mg base 5 "_law_expression" (spExpr 5) []) : Cal P w K mg base 6 "_law_form" spForm [] := by
  refine D.cal sc_Lform (fun vs H Q E h => ?_) (fun f cdv A outer s0 H vs Q E hr h => ?_)
  · obtain ⟨d, sc, wd, rfl, _⟩ := h
    rfl
  obtain ⟨d, sc, wd, rfl, hw, dr, q⟩ := h
  refine ⟨_, (pss_cons (ps_set (i := 2) sc_Lform.nd rfl (Or.inl rfl) (pe_ix ix_list (pe_lst (pa_cons pe_str (pa_cons pe_str (pa_cons pe_str (pa_cons pe_str (pa_cons pe_str (pa_cons pe_str pa_nil))))))) (pe_c c_Lnext hr (by omega) rfl (pa_cons (pv 0) (pa_cons pe_int pa_nil))) (fun _ _ => rfl)))
    (pss_one (ps_ret (pe_ifExp (pt_cmpR op_eq (pv 2) pe_str (nomark _)) (pe_tup (pa_cons pe_str pa_nil)) (pe_tup (pa_cons (pv 2) (pa_cons (pe_c c_Lexpression hr (by omega) rfl (pa_cons (pv 0) (pa_cons (pv 1) (pa_cons pe_int pa_nil)))) pa_nil))))))), ?_⟩
  refine ⟨(by show 6 ≤ sizeLine; decide), fun l hl => ?_⟩
  obtain ⟨x1, x2⟩ := dr.ne_new hl
  obtain ⟨W, hW⟩ : ∃ W : List V, ([.str "count", .str "distinct", .str "sum", .str "sum", .str "least", .str "greatest"] : List V) = W := ⟨_, rfl⟩
  have drL := dr.put (o := .lst W) x1 x2
  have kL : Kp [d] H (upd H l (.lst W)) := .new hl
  refine ⟨_, rfl, d, sc, 6, rfl, by decide, by decide, by rw [hW]; exact drL, fun b o2 b0 b4 no2 dr4 => ?_⟩
  rw [hW] at dr4 ⊢
  have hl4 : (upd (upd H l (.lst W)) d o2) l = some (.lst W) := by rw [upd_ne x1.symm, upd_same]
  have kz : Kp [d] H (upd (upd H l (.lst W)) d o2) := kL.trans drL.step
  have hw' : atI W b = some (.str "count") ∨ ∃ t : Tw, atI W b = some (.str t.str) := by
    subst hW
    have : b = 0 ∨ b = 1 ∨ b = 2 ∨ b = 3 ∨ b = 4 ∨ b = 5 := by omega
    rcases this with rfl | rfl | rfl | rfl | rfl | rfl
    · exact .inl rfl
    · exact .inr ⟨.distinct, rfl⟩
    · exact .inr ⟨.sum, rfl⟩
    · exact .inr ⟨.sum, rfl⟩
    · exact .inr ⟨.least, rfl⟩
    · exact .inr ⟨.greatest, rfl⟩
  rcases hw' with e | ⟨t, e⟩
  · refine ⟨l, _, _, _, rfl, rfl, SqL.of hl4, e, ?_⟩
    refine ⟨_, rfl, rfl, _, rfl, iteT_of (dSs _) ⟨(by show 1 ≤ sizeLine; decide), fun p hp => ?_⟩⟩
    obtain ⟨y1, y2⟩ := dr4.ne_new hp
    exact q .count p _ trivial trivial upd_same (kz.newer hp) (dr4.put y1 y2)
  · refine ⟨l, _, _, _, rfl, rfl, SqL.of hl4, e, ?_⟩
    have ne : decide (V.str t.str = V.str "count") = false := by cases t <;> exact dS (by decide +kernel)
    refine ⟨_, rfl, rfl, _, rfl, iteF_of ne ⟨_, rfl, _, rfl, _, rfl, d, sc, wd, 1, rfl, by decide, hw, dr4, fun x r H2 xi xd xs xa k2 dr5 => ⟨(by show 2 ≤ sizeLine; decide), fun p hp => ?_⟩⟩⟩
    obtain ⟨y1, y2⟩ := dr5.ne_new hp
    exact q (.of t x) p _ xi ⟨xs, xd⟩ ⟨r, upd_same, ExAt.kp (Kp.new (M := []) hp) x r xa⟩ ((kz.trans k2).newer hp) (dr5.put y1 y2)
end

/-! ### lists of what stands at addresses -/
def Prs {α : Type} (R : α → Addr → Prop) : List Addr → List α → Prop
  | [], [] => True
  | a :: as, x :: xs => R x a ∧ Prs R as xs
  | [], _ :: _ => False
  | _ :: _, [] => False
theorem Prs.len {α : Type} {R : α → Addr → Prop} : ∀ {as : List Addr} {xs : List α}, Prs R as xs → as.length = xs.length
  | [], [], _ => rfl
  | a :: as, x :: xs, h => by rw [List.length_cons, List.length_cons, Prs.len h.2]
  | [], _ :: _, h => h.elim
  | _ :: _, [], h => h.elim
theorem Prs.imp {α : Type} {R S : α → Addr → Prop} (f : ∀ x a, R x a → S x a) : ∀ {as : List Addr} {xs : List α}, Prs R as xs → Prs S as xs
  | [], [], _ => trivial
  | a :: as, x :: xs, h => ⟨f _ _ h.1, Prs.imp f h.2⟩
  | [], _ :: _, h => h.elim
  | _ :: _, [], h => h.elim
theorem Prs.snoc {α : Type} {R : α → Addr → Prop} {b : Addr} {y : α} (k : R y b) : ∀ {as : List Addr} {xs : List α}, Prs R as xs → Prs R (as ++ [b]) (xs ++ [y])
  | [], [], _ => ⟨k, trivial⟩
  | a :: as, x :: xs, h => ⟨h.1, Prs.snoc k h.2⟩
  | [], _ :: _, h => h.elim
  | _ :: _, [], h => h.elim
theorem Prs.at {α : Type} {R : α → Addr → Prop} : ∀ {as : List Addr} {xs : List α} {i : Nat} {x : α}, Prs R as xs → xs[i]? = some x → ∃ a, as[i]? = some a ∧ R x a
  | [], [], _, _, _, e => by simp at e
  | a :: as, x :: xs, 0, _, h, e => by cases e; exact ⟨a, rfl, h.1⟩
  | a :: as, x :: xs, i + 1, _, h, e => Prs.at (as := as) (xs := xs) (i := i) h.2 (by simpa using e)
  | [], _ :: _, _, _, h, _ => h.elim
  | _ :: _, [], _, _, h, _ => h.elim
theorem Prs.of {α : Type} {R : α → Addr → Prop} {as : List Addr} {xs : List α} {i : Nat} {a : Addr} (h : Prs R as xs) (e : as[i]? = some a) : ∃ x, xs[i]? = some x ∧ R x a := by
  have hi := (List.getElem?_eq_some_iff.mp e).1
  rw [h.len] at hi
  obtain ⟨b, e2, r⟩ := h.at (List.getElem?_eq_getElem hi)
  rw [e] at e2
  cases e2
  exact ⟨_, List.getElem?_eq_getElem hi, r⟩
/-- a list at l, what it holds as R says; N tells of l -/
def LstOf {α : Type} (R : α → Addr → Prop) (N : Addr → Prop) (H : Hp) (L : List α) (l : Addr) : Prop := ∃ as : List Addr, H l = some (.lst (as.map V.ref)) ∧ N l ∧ Prs R as L
theorem LstOf.kp {α : Type} {R S : α → Addr → Prop} {N : Addr → Prop} {M : List Addr} {H H' : Hp} {L : List α} {l : Addr} (h : LstOf R N H L l) (k : Kp M H H') (f : ∀ x a, R x a → S x a) (hN : ∀ l, N l → l ∉ M) : LstOf S N H' L l := by
  obtain ⟨as, h1, h2, h3⟩ := h
  exact ⟨as, k.k _ _ h1 (hN _ h2), h2, h3.imp f⟩
theorem LstOf.mono {α : Type} {R : α → Addr → Prop} {N N' : Addr → Prop} {H : Hp} {L : List α} {l : Addr} (h : LstOf R N H L l) (f : ∀ l, N l → N' l) : LstOf R N' H L l := by
  obtain ⟨as, h1, h2, h3⟩ := h
  exact ⟨as, h1, f _ h2, h3⟩
/-! ### operations of plans -/
inductive Opn where
  | tab (i : Nat) | stp (i : Nat) | fil (e : Ex) (q : Nat) | map (es : List Ex) (q : Nat) | grp (ks : List Ex) (ts : List Tot) (q : Nat) | join (e : Ex) (q r : Nat) | anti (e : Ex) (q r : Nat) | uni (q r : Nat) | minus (q r : Nat)
def OpAt (N : Addr → Prop) (H : Hp) : Opn → Addr → Prop
  | .tab i, a => H a = some (.tup [.str "table", .int (i : Int)])
  | .stp i, a => H a = some (.tup [.str "step", .int (i : Int)])
  | .fil e q, a => ∃ x, H a = some (.tup [.str "filter", .ref x, .int (q : Int)]) ∧ ExAt H e x
  | .map es q, a => ∃ l, H a = some (.tup [.str "map", .ref l, .int (q : Int)]) ∧ LstOf (ExAt H) N H es l
  | .grp ks ts q, a => ∃ l m, H a = some (.tup [.str "group", .ref l, .ref m, .int (q : Int)]) ∧ LstOf (ExAt H) N H ks l ∧ LstOf (TotAt H) N H ts m
  | .join e q r, a => ∃ x, H a = some (.tup [.str "join", .ref x, .int (q : Int), .int (r : Int)]) ∧ ExAt H e x
  | .anti e q r, a => ∃ x, H a = some (.tup [.str "anti", .ref x, .int (q : Int), .int (r : Int)]) ∧ ExAt H e x
  | .uni q r, a => H a = some (.tup [.str "union", .int (q : Int), .int (r : Int)])
  | .minus q r, a => H a = some (.tup [.str "minus", .int (q : Int), .int (r : Int)])
theorem OpAt.kp {N : Addr → Prop} {M : List Addr} {H H' : Hp} (k : Kp M H H') (hN : ∀ l, N l → l ∉ M) : ∀ {o : Opn} {a : Addr}, OpAt N H o a → OpAt N H' o a
  | .tab _, _, h => k.t _ _ h
  | .stp _, _, h => k.t _ _ h
  | .fil e _, _, ⟨x, h, g⟩ => ⟨x, k.t _ _ h, ExAt.kp k e x g⟩
  | .map es _, _, ⟨l, h, g⟩ => ⟨l, k.t _ _ h, g.kp k (fun e a => ExAt.kp k e a) hN⟩
  | .grp ks ts _, _, ⟨l, m, h, g, j⟩ => ⟨l, m, k.t _ _ h, g.kp k (fun e a => ExAt.kp k e a) hN, j.kp k (fun e a => TotAt.kp k e a) hN⟩
  | .join e _ _, _, ⟨x, h, g⟩ => ⟨x, k.t _ _ h, ExAt.kp k e x g⟩
  | .anti e _ _, _, ⟨x, h, g⟩ => ⟨x, k.t _ _ h, ExAt.kp k e x g⟩
  | .uni _ _, _, h => k.t _ _ h
  | .minus _ _, _, h => k.t _ _ h
theorem OpAt.mono {N N' : Addr → Prop} {H : Hp} (f : ∀ l, N l → N' l) : ∀ {o : Opn} {a : Addr}, OpAt N H o a → OpAt N' H o a
  | .tab _, _, h => h
  | .stp _, _, h => h
  | .fil _ _, _, h => h
  | .map _ _, _, ⟨l, h, g⟩ => ⟨l, h, g.mono f⟩
  | .grp _ _ _, _, ⟨l, m, h, g, j⟩ => ⟨l, m, h, g.mono f, j.mono f⟩
  | .join _ _ _, _, h => h
  | .anti _ _ _, _, h => h
  | .uni _ _, _, h => h
  | .minus _ _, _, h => h
def nV (n : Nat) : V := .int (n : Int)
theorem nV_at {L : List Nat} {i : Nat} {n : Nat} (h : L[i]? = some n) : atI (L.map nV) (i : Int) = some (.int (n : Int)) := at_of rfl (by rw [List.getElem?_map, h]; rfl)
theorem Drw.noN {d sc b : Addr} {H : Hp} {L : List Nat} (D : Drw d sc H) (e : H b = some (.lst (L.map nV))) : b ≠ d := D.noI (L := L.map Int.ofNat) (by rw [List.map_map]; exact e)
/-- an expression over so many columns -/
def Ex.ok (w dep : Nat) (e : Ex) : Prop := e.In w ∧ e.depth ≤ dep ∧ e.sm
def Tot.ok (w : Nat) (t : Tot) : Prop := t.In w ∧ t.sm
/-- o fits behind operations of these sizes, and has itself size s -/
def OpOk (wd sp sz : List Nat) : Opn → Nat → Prop
  | .tab i, s => wd[i]? = some s
  | .stp i, s => sp[i]? = some s
  | .fil e q, s => sz[q]? = some s ∧ e.ok s 2
  | .map es q, s => ∃ n, sz[q]? = some n ∧ (∀ e ∈ es, e.ok n 1) ∧ s = es.length ∧ 1 ≤ s ∧ s ≤ 2
  | .grp ks ts q, s => ∃ n, sz[q]? = some n ∧ (∀ e ∈ ks, e.ok n 1) ∧ (∀ t ∈ ts, t.ok n) ∧ s = ks.length + ts.length ∧ 1 ≤ s ∧ ks.length ≤ 2 ∧ ts.length ≤ 2 ∧ s ≤ 3
  | .join e q r, s => ∃ n m, sz[q]? = some n ∧ sz[r]? = some m ∧ e.ok (n + m) 2 ∧ s = n + m ∧ s ≤ 4
  | .anti e q r, s => ∃ m, sz[q]? = some s ∧ sz[r]? = some m ∧ e.ok (s + m) 2
  | .uni q r, s => sz[q]? = some s ∧ sz[r]? = some s
  | .minus q r, s => sz[q]? = some s ∧ sz[r]? = some s
def spOperation : Sp := fun vs H Q _ => ∃ (d sc sa wa pa : Addr) (sz wd sp : List Nat), vs = [.ref d, .ref sa, .ref wa, .ref pa] ∧ Drw d sc H ∧ H sa = some (.lst (sz.map nV)) ∧ H wa = some (.lst (wd.map nV)) ∧ H pa = some (.lst (sp.map nV)) ∧
  wd ≠ [] ∧ sz.length ≤ 100 ∧ wd.length ≤ 100 ∧ sp.length ≤ 100 ∧ (∀ s ∈ sz, s ≤ 4) ∧
  ∀ (o : Opn) (s : Nat) (u r : Addr) (H' : Hp), OpOk wd sp sz o s → OpAt (fun l => H l = none) H' o u → H' r = some (.tup [.ref u, .int (s : Int)]) → Kp [d] H H' → Drw d sc H' → Q (.ref r) H'
structure TPgen (mg : Str → Option Value) : Prop where
  n_len : mg "len" = none
  n_range : mg "range" = none
  n_min : mg "min" = none
  n_int : mg "int" = none
section
variable {P : Program} {w : World} {K : PySem.W.Frag} {mg : Str → Option Value} {base : Heap}
theorem ok_operation (D : GD K mg "_law_operation" sD_Loperation ["draw", "sizes", "widths", "steps"]) (T : TPgen mg) (c_Lnext : Cal P w K mg base 1 "_law_next" spNext []) (c_Lexpression : Cal P w K mg base 5 "_law_expression" (spExpr 5) []) (c_Lform : Cal P w K mg base 6 "_law_form" spForm []) :
    Cal P w K mg base 7 "_law_operation" spOperation [] := by
  refine D.cal sc_Loperation (fun vs H Q E h => ?_) (fun f cdv A outer s0 H vs Q E hr h => ?_)
  · obtain ⟨d, sc, sa, wa, pa, sz, wd, sp, rfl, _⟩ := h
    rfl
  obtain ⟨d, sc, sa, wa, pa, sz, wd, sp, rfl, dr, hs, hw, hp, newd, ls, lw, lp, bs, q⟩ := h
  have nsd := dr.noN hs
  have nwd := dr.noN hw
  have npd := dr.noN hp
  have e2 : (2 : Nat) ≤ sizeLine := by decide
  have e3 : (3 : Nat) ≤ sizeLine := by decide
  have e4 : (4 : Nat) ≤ sizeLine := by decide
  refine ⟨_, (pss_cons (ps_set (i := 4) sc_Loperation.nd rfl (Or.inl rfl) (pe_c c_Lnext hr (by omega) rfl (pa_cons (pv 0) (pa_cons pe_int pa_nil))))
    (pss_cons (ps_set (i := 5) sc_Loperation.nd rfl (Or.inl rfl) (pe_callB call_len_seq (by rfl) T.n_len (by decide +kernel) (pa_cons (pv 1) pa_nil)))
    (pss_cons (ps_if (PW.pt (pw_or (pt_cmpR op_eq (pv 5) pe_int (nomark _)) (pw_or1 (pt_cmpR op_lt (pv 4) pe_int (nomark _))))) (pss_cons (ps_if (PW.pt (pw_and (pt_truth (pv 3) (by intro _; rfl)) (pw_and1 (pt_truth (pe_c c_Lnext hr (by omega) rfl (pa_cons (pv 0) (pa_cons pe_int pa_nil))) (by intro _; rfl))))) (pss_cons (ps_set (i := 6) sc_Loperation.nd rfl (Or.inl rfl) (pe_c c_Lnext hr (by omega) rfl (pa_cons (pv 0) (pa_cons (pe_callB call_len_seq (by rfl) T.n_len (by decide +kernel) (pa_cons (pv 3) pa_nil)) pa_nil))))
    (pss_one (ps_ret (pe_tup (pa_cons (pe_tup (pa_cons pe_str (pa_cons (pv 6) pa_nil))) (pa_cons (pe_ix ix_list (pv 3) (pv 6) (fun _ _ => rfl)) pa_nil)))))) pss_nil)
    (pss_cons (ps_set (i := 6) sc_Loperation.nd rfl (Or.inl rfl) (pe_c c_Lnext hr (by omega) rfl (pa_cons (pv 0) (pa_cons (pe_callB call_len_seq (by rfl) T.n_len (by decide +kernel) (pa_cons (pv 2) pa_nil)) pa_nil))))
    (pss_one (ps_ret (pe_tup (pa_cons (pe_tup (pa_cons pe_str (pa_cons (pv 6) pa_nil))) (pa_cons (pe_ix ix_list (pv 2) (pv 6) (fun _ _ => rfl)) pa_nil))))))) pss_nil)
    (pss_cons (ps_set (i := 7) sc_Loperation.nd rfl (Or.inr rfl) (pe_op op_sub (pe_op op_sub (pv 5) pe_int) (pe_c c_Lnext hr (by omega) rfl (pa_cons (pv 0) (pa_cons (pe_callB (call_min2 rfl) (by rfl) T.n_min (by decide +kernel) (pa_cons (pv 5) (pa_cons pe_int pa_nil))) pa_nil)))))
    (pss_cons (ps_set (i := 8) sc_Loperation.nd rfl (Or.inl rfl) (pe_op op_sub (pe_op op_sub (pv 5) pe_int) (pe_c c_Lnext hr (by omega) rfl (pa_cons (pv 0) (pa_cons (pe_callB (call_min2 rfl) (by rfl) T.n_min (by decide +kernel) (pa_cons (pv 5) (pa_cons pe_int pa_nil))) pa_nil)))))
    (pss_cons (ps_if (pt_cmpR op_lt (pv 4) pe_int (nomark _)) (pss_one (ps_ret (pe_tup (pa_cons (pe_tup (pa_cons pe_str (pa_cons (pe_c c_Lexpression hr (by omega) rfl (pa_cons (pv 0) (pa_cons (pe_ix ix_list (pv 1) (pv 7) (fun _ _ => rfl)) (pa_cons pe_int pa_nil)))) (pa_cons (pv 7) pa_nil)))) (pa_cons (pe_ix ix_list (pv 1) (pv 7) (fun _ _ => rfl)) pa_nil))))) pss_nil)
    (pss_cons (ps_if (pt_cmpR op_eq (pv 4) pe_int (nomark _)) (pss_cons (ps_setLc (i := 9) (own := [("k", 14)]) (g := gName 14) (tt := tYes) rfl sc_Loperation.nd rfl rfl (sw_true rfl rfl rfl (by decide +kernel)) (pi_range1 (by rfl) T.n_range (pa_cons (pe_op op_add pe_int (pe_c c_Lnext hr (by omega) rfl (pa_cons (pv 0) (pa_cons pe_int pa_nil)))) pa_nil)) (blkOk_by (own := [("k", 14)]) (N := ["draw", "sizes", "widths", "steps", "form", "many", "index", "q", "r", "parts", "keys", "totals", "like", "word", "k"]) (sc := defScope sD_Loperation) (by decide +kernel)) (fun _ _ _ _ _ => (pg_name (i := 14) sc_Loperation.nd rfl (Or.inl rfl))) (fun _ _ _ _ _ => pts_nil) (fun _ _ _ _ _ => (pe_c c_Lexpression hr (by omega) rfl (pa_cons (pv 0) (pa_cons (bx_list (K := K) rfl (pv 1) (pv 7) (fun _ _ => rfl)) (pa_cons pe_int pa_nil))))))
    (pss_one (ps_ret (pe_tup (pa_cons (pe_tup (pa_cons pe_str (pa_cons (pv 9) (pa_cons (pv 7) pa_nil)))) (pa_cons (pe_callB call_len_seq (by rfl) T.n_len (by decide +kernel) (pa_cons (pv 9) pa_nil)) pa_nil)))))) pss_nil)
    (pss_cons (ps_if (pt_cmpR op_eq (pv 4) pe_int (nomark _)) (pss_cons (ps_setLc (i := 10) (own := [("k", 14)]) (g := gName 14) (tt := tYes) rfl sc_Loperation.nd rfl rfl (sw_true rfl rfl rfl (by decide +kernel)) (pi_range1 (by rfl) T.n_range (pa_cons (pe_c c_Lnext hr (by omega) rfl (pa_cons (pv 0) (pa_cons pe_int pa_nil))) pa_nil)) (blkOk_by (own := [("k", 14)]) (N := ["draw", "sizes", "widths", "steps", "form", "many", "index", "q", "r", "parts", "keys", "totals", "like", "word", "k"]) (sc := defScope sD_Loperation) (by decide +kernel)) (fun _ _ _ _ _ => (pg_name (i := 14) sc_Loperation.nd rfl (Or.inl rfl))) (fun _ _ _ _ _ => pts_nil) (fun _ _ _ _ _ => (pe_c c_Lexpression hr (by omega) rfl (pa_cons (pv 0) (pa_cons (bx_list (K := K) rfl (pv 1) (pv 7) (fun _ _ => rfl)) (pa_cons pe_int pa_nil))))))
    (pss_cons (ps_setLc (i := 11) (own := [("k", 14)]) (g := gName 14) (tt := tYes) rfl sc_Loperation.nd rfl rfl (sw_true rfl rfl rfl (by decide +kernel)) (pi_range1 (by rfl) T.n_range (pa_cons (pe_op op_add (pe_c c_Lnext hr (by omega) rfl (pa_cons (pv 0) (pa_cons pe_int pa_nil))) (pe_callTy call_int1 (by rfl) T.n_int (by decide +kernel) (pa_cons (pe_notT (pv 10)) pa_nil))) pa_nil)) (blkOk_by (own := [("k", 14)]) (N := ["draw", "sizes", "widths", "steps", "form", "many", "index", "q", "r", "parts", "keys", "totals", "like", "word", "k"]) (sc := defScope sD_Loperation) (by decide +kernel)) (fun _ _ _ _ _ => (pg_name (i := 14) sc_Loperation.nd rfl (Or.inl rfl))) (fun _ _ _ _ _ => pts_nil) (fun _ _ _ _ _ => (pe_c c_Lform hr (by omega) rfl (pa_cons (pv 0) (pa_cons (bx_list (K := K) rfl (pv 1) (pv 7) (fun _ _ => rfl)) pa_nil)))))
    (pss_one (ps_ret (pe_tup (pa_cons (pe_tup (pa_cons pe_str (pa_cons (pv 10) (pa_cons (pv 11) (pa_cons (pv 7) pa_nil))))) (pa_cons (pe_op op_add (pe_callB call_len_seq (by rfl) T.n_len (by decide +kernel) (pa_cons (pv 10) pa_nil)) (pe_callB call_len_seq (by rfl) T.n_len (by decide +kernel) (pa_cons (pv 11) pa_nil))) pa_nil))))))) pss_nil)
    (pss_cons (ps_if (PW.pt (pw_and (pt_cmpR op_lt (pv 4) pe_int (nomark _)) (pw_and1 (pt_cmpR op_lt (pe_op op_add (pe_ix ix_list (pv 1) (pv 7) (fun _ _ => rfl)) (pe_ix ix_list (pv 1) (pv 8) (fun _ _ => rfl))) pe_int (nomark _))))) (pss_one (ps_ret (pe_tup (pa_cons (pe_tup (pa_cons pe_str (pa_cons (pe_c c_Lexpression hr (by omega) rfl (pa_cons (pv 0) (pa_cons (pe_op op_add (pe_ix ix_list (pv 1) (pv 7) (fun _ _ => rfl)) (pe_ix ix_list (pv 1) (pv 8) (fun _ _ => rfl))) (pa_cons pe_int pa_nil)))) (pa_cons (pv 7) (pa_cons (pv 8) pa_nil))))) (pa_cons (pe_op op_add (pe_ix ix_list (pv 1) (pv 7) (fun _ _ => rfl)) (pe_ix ix_list (pv 1) (pv 8) (fun _ _ => rfl))) pa_nil))))) pss_nil)
    (pss_cons (ps_if (pt_cmpR op_eq (pv 4) pe_int (nomark _)) (pss_one (ps_ret (pe_tup (pa_cons (pe_tup (pa_cons pe_str (pa_cons (pe_c c_Lexpression hr (by omega) rfl (pa_cons (pv 0) (pa_cons (pe_op op_add (pe_ix ix_list (pv 1) (pv 7) (fun _ _ => rfl)) (pe_ix ix_list (pv 1) (pv 8) (fun _ _ => rfl))) (pa_cons pe_int pa_nil)))) (pa_cons (pv 7) (pa_cons (pv 8) pa_nil))))) (pa_cons (pe_ix ix_list (pv 1) (pv 7) (fun _ _ => rfl)) pa_nil))))) pss_nil)
    (pss_cons (ps_setLc (i := 12) (own := [("k", 14)]) (g := gName 14) rfl sc_Loperation.nd rfl rfl (sw_true rfl rfl rfl (by decide +kernel)) (pi_range1 (by rfl) T.n_range (pa_cons (pv 5) pa_nil)) (blkOk_by (own := [("k", 14)]) (N := ["draw", "sizes", "widths", "steps", "form", "many", "index", "q", "r", "parts", "keys", "totals", "like", "word", "k"]) (sc := defScope sD_Loperation) (by decide +kernel)) (fun _ _ _ _ _ => (pg_name (i := 14) sc_Loperation.nd rfl (Or.inl rfl))) (fun _ _ _ _ _ => (pts_one (pt_cmpR op_eq (bx_list (K := K) rfl (pv 1) (pv 14) (fun _ _ => rfl)) (bx_list (K := K) rfl (pv 1) (pv 7) (fun _ _ => rfl)) (nomark _)))) (fun _ _ _ _ _ => (pv 14)))
    (pss_cons (ps_set (i := 13) sc_Loperation.nd rfl (Or.inl rfl) (pe_ix ix_list (pe_lst (pa_cons pe_str (pa_cons pe_str pa_nil))) (pe_c c_Lnext hr (by omega) rfl (pa_cons (pv 0) (pa_cons pe_int pa_nil))) (fun _ _ => rfl)))
    (pss_one (ps_ret (pe_tup (pa_cons (pe_tup (pa_cons (pv 13) (pa_cons (pv 7) (pa_cons (pe_ix ix_list (pv 12) (pe_c c_Lnext hr (by omega) rfl (pa_cons (pv 0) (pa_cons (pe_callB call_len_seq (by rfl) T.n_len (by decide +kernel) (pa_cons (pv 12) pa_nil)) pa_nil))) (fun _ _ => rfl)) pa_nil)))) (pa_cons (pe_ix ix_list (pv 1) (pv 7) (fun _ _ => rfl)) pa_nil))))))))))))))))), ?_⟩
  refine ⟨_, rfl, d, sc, 11, rfl, by decide, by decide, dr, fun fm o f0 f9 no dr1 => ?_⟩
  have k1 : Kp [d] H (upd H d o) := dr.step
  obtain ⟨H1, hH1⟩ : ∃ H1, upd H d o = H1 := ⟨_, rfl⟩
  rw [hH1] at dr1 k1 ⊢
  have kS : ∀ {G : Hp}, Kp [d] H G → G sa = some (.lst (sz.map nV)) := fun k => k.k _ _ hs (by simpa using nsd)
  have kW : ∀ {G : Hp}, Kp [d] H G → G wa = some (.lst (wd.map nV)) := fun k => k.k _ _ hw (by simpa using nwd)
  have kP : ∀ {G : Hp}, Kp [d] H G → G pa = some (.lst (sp.map nV)) := fun k => k.k _ _ hp (by simpa using npd)
  have freeH : ∀ {G : Hp} {p : Addr}, Kp [d] H G → Drw d sc G → G p = none → H p = none := fun {G p} k D e => k.free e (by
    have := (D.ne_new e).1
    simpa using this.symm)
  refine ⟨_, rfl, sa, _, rfl, .inl (SqL.of (kS k1)), ?_⟩
  rw [List.length_map]
  refine ⟨_, rfl, rfl, _, rfl, ?_⟩
  refine ite2 (fun c => iteT ?g1) (fun c => ?g0)
  case' g0 =>
    have m0 : sz.length ≠ 0 := fun z => nI c (by rw [z]; rfl)
    refine ⟨_, rfl, _, _, rfl, rfl, _, rfl, ?_⟩
    refine ite2 (fun c2 => ?g2) (fun c2 => ?g3)
  case g1 | g2 =>
    -- a table or a step
    have tabl : ∀ (G : Hp) (b : Nat) (s : Nat), Kp [d] H G → Drw d sc G → wd[b]? = some s → ∀ u r : Addr, G u = none → (upd G u (.tup [.str "table", .int (b : Int)])) r = none → Q (.ref r) (upd (upd G u (.tup [.str "table", .int (b : Int)])) r (.tup [.ref u, .int (s : Int)])) := fun G b s kG drG hb u r hu hr => by
      obtain ⟨x1, x2⟩ := drG.ne_new hu
      have drU := drG.put (o := .tup [.str "table", .int (b : Int)]) x1 x2
      obtain ⟨y1, y2⟩ := drU.ne_new hr
      refine q (.tab b) s u r _ hb ?_ upd_same ((kG.newer hu).newer hr) (drU.put y1 y2)
      exact (Kp.new (M := []) hr).t _ _ upd_same
    have steq : ∀ (G : Hp) (b : Nat) (s : Nat), Kp [d] H G → Drw d sc G → sp[b]? = some s → ∀ u r : Addr, G u = none → (upd G u (.tup [.str "step", .int (b : Int)])) r = none → Q (.ref r) (upd (upd G u (.tup [.str "step", .int (b : Int)])) r (.tup [.ref u, .int (s : Int)])) := fun G b s kG drG hb u r hu hr => by
      obtain ⟨x1, x2⟩ := drG.ne_new hu
      have drU := drG.put (o := .tup [.str "step", .int (b : Int)]) x1 x2
      obtain ⟨y1, y2⟩ := drU.ne_new hr
      refine q (.stp b) s u r _ hb ?_ upd_same ((kG.newer hu).newer hr) (drU.put y1 y2)
      exact (Kp.new (M := []) hr).t _ _ upd_same
    have lw0 : 0 < wd.length := List.length_pos_iff.mpr newd
    have ew : (((wd.map nV).length : Nat) : Int) = (wd.length : Int) := by rw [List.length_map]
    have ep : (((sp.map nV).length : Nat) : Int) = (sp.length : Int) := by rw [List.length_map]
    refine ⟨_, rfl, _, .inl ⟨_, SqL.of (kP k1), rfl⟩, ?_⟩
    refine ite2 (fun c3 => ?_) (fun c3 => ?_)
    · have lp0 : 0 < sp.length := by
        cases sp with
        | nil => cases c3
        | cons x l => simp
      refine ⟨_, rfl, d, sc, 2, rfl, by decide, by decide, dr1, fun z o1 z0 z2 no1 dr2 => ⟨_, rfl, ?_⟩⟩
      have k2 := k1.trans (dr1.step (o := o1))
      refine ite2 (fun c4 => ?_) (fun c4 => ?_)
      · refine ⟨_, rfl, _, rfl, pa, _, rfl, .inl (SqL.of (kP k2)), d, sc, (sp.length : Int), by rw [ep]; rfl, by omega, by omega, dr2, fun b o2 b0 b1 no2 dr3 => ?_⟩
        obtain ⟨bn, rfl⟩ : ∃ bn : Nat, b = bn := ⟨b.toNat, by omega⟩
        have k3 := k2.trans (dr2.step (o := o2))
        have hb : sp[bn]? = some (sp[bn]'(by omega)) := List.getElem?_eq_getElem (by omega)
        refine ⟨_, rfl, e2, fun u hu => ⟨_, rfl, _, rfl, pa, _, _, _, rfl, rfl, SqL.of (kP (k3.newer hu)), nV_at hb, e2, fun r hr => ?_⟩⟩
        exact steq _ bn _ k3 dr3 hb u r hu hr
      · refine ⟨_, rfl, _, rfl, wa, _, rfl, .inl (SqL.of (kW k2)), d, sc, (wd.length : Int), by rw [ew]; rfl, by omega, by omega, dr2, fun b o2 b0 b1 no2 dr3 => ?_⟩
        obtain ⟨bn, rfl⟩ : ∃ bn : Nat, b = bn := ⟨b.toNat, by omega⟩
        have k3 := k2.trans (dr2.step (o := o2))
        have hb : wd[bn]? = some (wd[bn]'(by omega)) := List.getElem?_eq_getElem (by omega)
        refine ⟨_, rfl, e2, fun u hu => ⟨_, rfl, _, rfl, wa, _, _, _, rfl, rfl, SqL.of (kW (k3.newer hu)), nV_at hb, e2, fun r hr => ?_⟩⟩
        exact tabl _ bn _ k3 dr3 hb u r hu hr
    · refine ⟨_, rfl, _, rfl, wa, _, rfl, .inl (SqL.of (kW k1)), d, sc, (wd.length : Int), by rw [ew]; rfl, by omega, by omega, dr1, fun b o2 b0 b1 no2 dr3 => ?_⟩
      obtain ⟨bn, rfl⟩ : ∃ bn : Nat, b = bn := ⟨b.toNat, by omega⟩
      have k3 := k1.trans (dr1.step (o := o2))
      have hb : wd[bn]? = some (wd[bn]'(by omega)) := List.getElem?_eq_getElem (by omega)
      refine ⟨_, rfl, e2, fun u hu => ⟨_, rfl, _, rfl, wa, _, _, _, rfl, rfl, SqL.of (kW (k3.newer hu)), nV_at hb, e2, fun r hr => ?_⟩⟩
      exact tabl _ bn _ k3 dr3 hb u r hu hr
  case g3 =>
    obtain ⟨mm, hmm⟩ : ∃ mm : Int, (if (3 : Int) < (sz.length : Int) then (3 : Int) else (sz.length : Int)) = mm := ⟨_, rfl⟩
    have bm : 1 ≤ mm ∧ mm ≤ (sz.length : Int) := by rw [← hmm]; split <;> omega
    refine ⟨_, rfl, _, _, rfl, rfl, _, rfl, _, rfl, _, _, rfl, d, sc, mm, by rw [← hmm]; rfl, by omega, by omega, dr1, fun a o1 a0 a1 no1 dr2 => ⟨_, _, rfl, rfl, ?_⟩⟩
    obtain ⟨qn, hqn⟩ : ∃ qn : Nat, (sz.length : Int) - 1 - a = (qn : Int) := ⟨((sz.length : Int) - 1 - a).toNat, by omega⟩
    show gName 7 (.int ((sz.length : Int) - 1 - a)) _ _ _
    rw [hqn]
    have k2 := k1.trans (dr1.step (o := o1))
    refine ⟨_, rfl, _, _, rfl, rfl, _, rfl, _, rfl, _, _, rfl, d, sc, mm, by rw [← hmm]; rfl, by omega, by omega, dr2, fun b o2 b0 b1 no2 dr3 => ⟨_, _, rfl, rfl, ?_⟩⟩
    obtain ⟨rn, hrn⟩ : ∃ rn : Nat, (sz.length : Int) - 1 - b = (rn : Int) := ⟨((sz.length : Int) - 1 - b).toNat, by omega⟩
    show gName 8 (.int ((sz.length : Int) - 1 - b)) _ _ _
    rw [hrn]
    have k3 := k2.trans (dr2.step (o := o2))
    obtain ⟨H3, hH3⟩ : ∃ H3, upd (upd H1 d o1) d o2 = H3 := ⟨_, rfl⟩
    rw [hH3] at dr3 k3 ⊢
    have lq : qn < sz.length := by omega
    have lr : rn < sz.length := by omega
    obtain ⟨sq, hq⟩ : ∃ sq, sz[qn]? = some sq := ⟨_, List.getElem?_eq_getElem lq⟩
    obtain ⟨sr, hrr⟩ : ∃ sr, sz[rn]? = some sr := ⟨_, List.getElem?_eq_getElem lr⟩
    have bq : sq ≤ 4 := bs _ (List.mem_of_getElem? hq)
    have br : sr ≤ 4 := bs _ (List.mem_of_getElem? hrr)
    refine ⟨_, rfl, _, _, rfl, rfl, _, rfl, ite2 (fun c3 => ?_) (fun c3 => ?_)⟩
    · -- filter
      refine ⟨_, rfl, _, rfl, _, rfl, sa, _, _, _, rfl, rfl, SqL.of (kS k3), nV_at hq, d, sc, sq, 2, rfl, by decide, by omega, dr3, fun t x H4 ti td ts ta k4 dr4 => ⟨_, rfl, e3, fun u hu => ?_⟩⟩
      have k34 := k3.trans k4
      refine ⟨_, rfl, _, rfl, sa, _, _, _, rfl, rfl, SqL.of (kS (k34.newer hu)), nV_at hq, e2, fun r hr => ?_⟩
      obtain ⟨x1, x2⟩ := dr4.ne_new hu
      have drU := dr4.put (o := .tup [.str "filter", .ref x, .int (qn : Int)]) x1 x2
      obtain ⟨y1, y2⟩ := drU.ne_new hr
      exact q (.fil t qn) sq u r _ ⟨hq, ti, td, ts⟩ ⟨x, (Kp.new (M := []) hr).t _ _ upd_same, ExAt.kp ((Kp.new (M := []) hu).trans (Kp.new hr)) t x ta⟩ upd_same ((k34.newer hu).newer hr) (drU.put y1 y2)
    refine ⟨_, rfl, rfl, _, rfl, ite2 (fun c4 => ?_) (fun c4 => ?_)⟩
    · -- map
      refine ⟨_, rfl, d, sc, 2, rfl, by decide, by decide, dr3, fun z o3 z0 z2 no3 dr4 => ⟨_, _, rfl, rfl, 1 + z, rfl, by omega, by omega, ?_⟩⟩
      obtain ⟨zn, rfl⟩ : ∃ zn : Nat, z = zn := ⟨z.toNat, by omega⟩
      rw [show (1 + (zn : Int)).toNat = 1 + zn by omega]
      have k4 := k3.trans (dr3.step (o := o3))
      obtain ⟨H4, hH4⟩ : ∃ H4, upd H3 d o3 = H4 := ⟨_, rfl⟩
      rw [hH4] at dr4 k4 ⊢
      refine fun L hL => lc_range (lo := 0) (n := 1 + zn) (fun j G => Drw d sc G ∧ Kp [d] H4 G ∧ ∃ (es : List Ex) (as : List Addr), es.length = j ∧ (∀ e ∈ es, e.ok sq 1) ∧ G L = some (.lst (as.map V.ref)) ∧ Prs (ExAt G) as es)
        ⟨dr4.put (dr4.ne_new hL).1 (dr4.ne_new hL).2, .new hL, [], [], rfl, fun e h => (by cases h), upd_same, trivial⟩ (fun j G hj p => ?_) (fun G p => ?_)
      · obtain ⟨drG, kG, es, as, el, eo, hLG, pr⟩ := p
        refine ⟨rfl, _, rfl, _, rfl, _, rfl, sa, _, _, _, rfl, rfl, SqL.of (kS (k4.trans kG)), nV_at hq, d, sc, sq, 1, rfl, by decide, by omega, drG, fun t x H5 ti td ts ta k5 dr5 => ?_⟩
        have nLd : L ≠ d := fun z => by obtain ⟨xs, e⟩ := dr4.dl; rw [← z, hL] at e; cases e
        have hL5 := k5.k _ _ hLG (by simpa using nLd)
        have kput : Kp [L] H5 (upd H5 L (.lst (as.map V.ref ++ [V.ref x]))) := .put (by simp) hL5 fun xs z => by cases z
        refine ⟨_, hL5, small1000 (by rw [List.length_map, pr.len]; omega), dr5.put nLd.symm (dr4.ne_new hL).2, (kG.trans k5).mt hL, es ++ [t], as ++ [x], by rw [List.length_append, el]; rfl, fun e he => ?_, by rw [upd_same, List.map_append]; rfl, (pr.imp fun e a h => ExAt.kp kput e a (ExAt.kp k5 e a h)).snoc (ExAt.kp kput t x ta)⟩
        rcases List.mem_append.mp he with h | h
        · exact eo e h
        · rw [List.mem_singleton.mp h]; exact ⟨ti, td, ts⟩
      · obtain ⟨drG, kG, es, as, el, eo, hLG, pr⟩ := p
        have k5 := k4.trans kG
        refine ⟨_, rfl, _, rfl, e3, fun u hu => ?_⟩
        have kU := Kp.new (M := []) (o := .tup [.str "map", .ref L, .int (qn : Int)]) hu
        refine ⟨_, rfl, L, _, rfl, .inl (SqL.of (kU.k _ _ hLG (by simp))), e2, fun r hr => ?_⟩
        have kR := Kp.new (M := []) (o := .tup [.ref u, .int (((as.map V.ref).length : Nat) : Int)]) hr
        obtain ⟨x1, x2⟩ := drG.ne_new hu
        have drU := drG.put (o := .tup [.str "map", .ref L, .int (qn : Int)]) x1 x2
        obtain ⟨y1, y2⟩ := drU.ne_new hr
        exact q (.map es qn) es.length u r _ ⟨sq, hq, eo, rfl, by omega, by omega⟩ ⟨L, kR.t _ _ upd_same, as, (kU.trans kR).k _ _ hLG (by simp), freeH k4 dr4 hL, pr.imp fun e a h => ExAt.kp (kU.trans kR) e a h⟩ (by rw [upd_same, List.length_map, pr.len]) ((k5.newer hu).newer hr) (drU.put y1 y2)
    refine ⟨_, rfl, rfl, _, rfl, ite2 (fun c5 => ?_) (fun c5 => ?_)⟩
    · -- group
      refine ⟨_, rfl, d, sc, 3, rfl, by decide, by decide, dr3, fun z o3 z0 z3 no3 dr4 => ⟨_, rfl, by omega, by omega, ?_⟩⟩
      obtain ⟨zn, rfl⟩ : ∃ zn : Nat, z = zn := ⟨z.toNat, by omega⟩
      rw [Int.toNat_natCast]
      have k4 := k3.trans (dr3.step (o := o3))
      obtain ⟨H4, hH4⟩ : ∃ H4, upd H3 d o3 = H4 := ⟨_, rfl⟩
      rw [hH4] at dr4 k4 ⊢
      refine fun L hL => lc_range (lo := 0) (n := zn) (fun j G => Drw d sc G ∧ Kp [d] H4 G ∧ ∃ (es : List Ex) (as : List Addr), es.length = j ∧ (∀ e ∈ es, e.ok sq 1) ∧ G L = some (.lst (as.map V.ref)) ∧ Prs (ExAt G) as es)
        ⟨dr4.put (dr4.ne_new hL).1 (dr4.ne_new hL).2, .new hL, [], [], rfl, fun e h => (by cases h), upd_same, trivial⟩ (fun j G hj p => ?_) (fun G p => ?_)
      · obtain ⟨drG, kG, es, as, el, eo, hLG, pr⟩ := p
        refine ⟨rfl, _, rfl, _, rfl, _, rfl, sa, _, _, _, rfl, rfl, SqL.of (kS (k4.trans kG)), nV_at hq, d, sc, sq, 1, rfl, by decide, by omega, drG, fun t x H5 ti td ts ta k5 dr5 => ?_⟩
        have nLd : L ≠ d := fun z => by obtain ⟨xs, e⟩ := dr4.dl; rw [← z, hL] at e; cases e
        have hL5 := k5.k _ _ hLG (by simpa using nLd)
        have kput : Kp [L] H5 (upd H5 L (.lst (as.map V.ref ++ [V.ref x]))) := .put (by simp) hL5 fun xs z => by cases z
        refine ⟨_, hL5, small1000 (by rw [List.length_map, pr.len]; omega), dr5.put nLd.symm (dr4.ne_new hL).2, (kG.trans k5).mt hL, es ++ [t], as ++ [x], by rw [List.length_append, el]; rfl, fun e he => ?_, by rw [upd_same, List.map_append]; rfl, (pr.imp fun e a h => ExAt.kp kput e a (ExAt.kp k5 e a h)).snoc (ExAt.kp kput t x ta)⟩
        rcases List.mem_append.mp he with h | h
        · exact eo e h
        · rw [List.mem_singleton.mp h]; exact ⟨ti, td, ts⟩
      obtain ⟨dr5, kG, ks, as, kl, ko, hL5, pr⟩ := p
      have k5 := k4.trans kG
      have nLd := dr5.noR hL5
      refine ⟨_, rfl, d, sc, 2, rfl, by decide, by decide, dr5, fun y o4 y0 y2 no4 dr6 => ?_⟩
      have k56 : Kp [d] G (upd G d o4) := dr5.step
      have k6 := k5.trans k56
      obtain ⟨H6, hH6⟩ : ∃ H6, upd G d o4 = H6 := ⟨_, rfl⟩
      rw [hH6] at dr6 k56 k6 ⊢
      have hL6 := k56.k _ _ hL5 (by simpa using nLd)
      refine ⟨_, rfl, _, .inl ⟨_, SqL.of hL6, rfl⟩, .inr ⟨_, rfl, _, _, rfl, rfl, ?_⟩⟩
      obtain ⟨tn, htn⟩ : ∃ tn : Nat, y + (if (!!(as.map V.ref).isEmpty) = true then (1 : Int) else 0) = (tn : Int) := ⟨(y + (if (!!(as.map V.ref).isEmpty) = true then (1 : Int) else 0)).toNat, by split <;> omega⟩
      have tnb : tn ≤ 2 ∧ 1 ≤ ks.length + tn ∧ ks.length + tn ≤ 3 := by
        have pl := pr.len
        cases as with
        | nil =>
          have : (if (!!(([] : List Addr).map V.ref).isEmpty) = true then (1 : Int) else 0) = 1 := rfl
          rw [this] at htn
          rw [List.length_nil] at pl
          omega
        | cons a l =>
          have : (if (!!((a :: l).map V.ref).isEmpty) = true then (1 : Int) else 0) = 0 := rfl
          rw [this] at htn
          rw [List.length_cons] at pl
          omega
      refine ⟨(tn : Int), congrArg (fun z => [V.int z]) htn, by omega, by omega, ?_⟩
      rw [Int.toNat_natCast]
      refine fun M hM => lc_range (lo := 0) (n := tn) (fun j G => Drw d sc G ∧ Kp [d] H6 G ∧ ∃ (es : List Tot) (as : List Addr), es.length = j ∧ (∀ e ∈ es, e.ok sq) ∧ G M = some (.lst (as.map V.ref)) ∧ Prs (TotAt G) as es)
        ⟨dr6.put (dr6.ne_new hM).1 (dr6.ne_new hM).2, .new hM, [], [], rfl, fun e h => (by cases h), upd_same, trivial⟩ (fun j G hj p => ?_) (fun G p => ?_)
      · obtain ⟨drG, kG, es, as, el, eo, hLG, pr⟩ := p
        refine ⟨rfl, _, rfl, _, rfl, _, rfl, sa, _, _, _, rfl, rfl, SqL.of (kS (k6.trans kG)), nV_at hq, d, sc, sq, rfl, by omega, drG, fun t x H5 ti ts ta k5 dr5 => ?_⟩
        have nLd : M ≠ d := fun z => by obtain ⟨xs, e⟩ := dr6.dl; rw [← z, hM] at e; cases e
        have hL5 := k5.k _ _ hLG (by simpa using nLd)
        have kput : Kp [M] H5 (upd H5 M (.lst (as.map V.ref ++ [V.ref x]))) := .put (by simp) hL5 fun xs z => by cases z
        refine ⟨_, hL5, small1000 (by rw [List.length_map, pr.len]; omega), dr5.put nLd.symm (dr6.ne_new hM).2, (kG.trans k5).mt hM, es ++ [t], as ++ [x], by rw [List.length_append, el]; rfl, fun e he => ?_, by rw [upd_same, List.map_append]; rfl, (pr.imp fun e a h => TotAt.kp kput e a (TotAt.kp k5 e a h)).snoc (TotAt.kp kput t x ta)⟩
        rcases List.mem_append.mp he with h | h
        · exact eo e h
        · rw [List.mem_singleton.mp h]; exact ⟨ti, ts⟩
      obtain ⟨dr7, k67, ts, bs', tl, to, hM7, pr2⟩ := p
      have hL7 := k67.k _ _ hL6 (by simpa using nLd)
      have k7 := k6.trans k67
      refine ⟨_, rfl, _, rfl, _, rfl, e4, fun u hu => ?_⟩
      have kU := Kp.new (M := []) (o := .tup [.str "group", .ref L, .ref M, .int (qn : Int)]) hu
      refine ⟨_, rfl, L, _, rfl, .inl (SqL.of (kU.k _ _ hL7 (by simp))), _, rfl, M, _, rfl, .inl (SqL.of (kU.k _ _ hM7 (by simp))), _, _, rfl, rfl, e2, fun r hr => ?_⟩
      have kR := Kp.new (M := []) (o := .tup [.ref u, .int ((((as.map V.ref).length : Nat) : Int) + (((bs'.map V.ref).length : Nat) : Int))]) hr
      obtain ⟨x1, x2⟩ := dr7.ne_new hu
      have drU := dr7.put (o := .tup [.str "group", .ref L, .ref M, .int (qn : Int)]) x1 x2
      obtain ⟨y1, y2⟩ := drU.ne_new hr
      refine q (.grp ks ts qn) (ks.length + ts.length) u r _ ⟨sq, hq, ko, to, rfl, by omega, by omega, by omega, by omega⟩ ⟨L, M, kR.t _ _ upd_same, ⟨as, (kU.trans kR).k _ _ hL7 (by simp), freeH k4 dr4 hL, ?_⟩, bs', (kU.trans kR).k _ _ hM7 (by simp), freeH k6 dr6 hM, pr2.imp fun e a h => TotAt.kp (kU.trans kR) e a h⟩
        (by rw [upd_same, List.length_map, List.length_map, pr.len, pr2.len]; exact congrArg (fun z => some (HO.tup [.ref u, .int z])) (Int.natCast_add _ _).symm) ((k7.newer hu).newer hr) (drU.put y1 y2)
      exact pr.imp fun e a h => ExAt.kp (kU.trans kR) e a (ExAt.kp k67 e a (ExAt.kp k56 e a h))
    have ejs : ((sq : Int) + (sr : Int)) = ((sq + sr : Nat) : Int) := (Int.natCast_add _ _).symm
    refine ⟨_, rfl, _, _, rfl, rfl, _, rfl, ite2 (fun c6 => ?j2) (fun c6 => ?j0)⟩
    case' j2 =>
      refine ⟨_, rfl, _, rfl, sa, _, _, _, rfl, rfl, SqL.of (kS k3), nV_at hq, _, rfl, _, rfl, sa, _, _, _, rfl, rfl, SqL.of (kS k3), nV_at hrr, _, _, rfl, rfl, _, _, rfl, rfl, _, rfl, ite2 (fun c7 => ?j3) (fun c7 => ?j1)⟩
    case j3 =>
      have c7 : (sq : Int) + (sr : Int) < 5 := of_decide_eq_true c7
      refine ⟨_, rfl, _, rfl, _, rfl, sa, _, _, _, rfl, rfl, SqL.of (kS k3), nV_at hq, _, rfl, _, rfl, sa, _, _, _, rfl, rfl, SqL.of (kS k3), nV_at hrr, _, _, rfl, rfl, d, sc, sq + sr, 2, by rw [← ejs]; rfl, by decide, by omega, dr3, fun t x H4 ti td ts ta k4 dr4 => ⟨_, rfl, _, rfl, e4, fun u hu => ?_⟩⟩
      have k34 := k3.trans k4
      refine ⟨_, rfl, _, rfl, sa, _, _, _, rfl, rfl, SqL.of (kS (k34.newer hu)), nV_at hq, _, rfl, _, rfl, sa, _, _, _, rfl, rfl, SqL.of (kS (k34.newer hu)), nV_at hrr, _, _, rfl, rfl, e2, fun r hr => ?_⟩
      obtain ⟨x1, x2⟩ := dr4.ne_new hu
      have drU := dr4.put (o := .tup [.str "join", .ref x, .int (qn : Int), .int (rn : Int)]) x1 x2
      obtain ⟨y1, y2⟩ := drU.ne_new hr
      exact q (.join t qn rn) (sq + sr) u r _ ⟨sq, sr, hq, hrr, ⟨ti, td, ts⟩, rfl, by omega⟩ ⟨x, (Kp.new (M := []) hr).t _ _ upd_same, ExAt.kp ((Kp.new (M := []) hu).trans (Kp.new hr)) t x ta⟩ (by rw [upd_same, ← ejs]) ((k34.newer hu).newer hr) (drU.put y1 y2)
    case j0 | j1 =>
      refine ⟨_, rfl, rfl, _, rfl, ite2 (fun c8 => ?_) (fun c8 => ?_)⟩
      · refine ⟨_, rfl, _, rfl, _, rfl, sa, _, _, _, rfl, rfl, SqL.of (kS k3), nV_at hq, _, rfl, _, rfl, sa, _, _, _, rfl, rfl, SqL.of (kS k3), nV_at hrr, _, _, rfl, rfl, d, sc, sq + sr, 2, by rw [← ejs]; rfl, by decide, by omega, dr3, fun t x H4 ti td ts ta k4 dr4 => ⟨_, rfl, _, rfl, e4, fun u hu => ?_⟩⟩
        have k34 := k3.trans k4
        refine ⟨_, rfl, _, rfl, sa, _, _, _, rfl, rfl, SqL.of (kS (k34.newer hu)), nV_at hq, e2, fun r hr => ?_⟩
        obtain ⟨x1, x2⟩ := dr4.ne_new hu
        have drU := dr4.put (o := .tup [.str "anti", .ref x, .int (qn : Int), .int (rn : Int)]) x1 x2
        obtain ⟨y1, y2⟩ := drU.ne_new hr
        exact q (.anti t qn rn) sq u r _ ⟨sr, hq, hrr, ti, td, ts⟩ ⟨x, (Kp.new (M := []) hr).t _ _ upd_same, ExAt.kp ((Kp.new (M := []) hu).trans (Kp.new hr)) t x ta⟩ upd_same ((k34.newer hu).newer hr) (drU.put y1 y2)
      refine ⟨_, rfl, _, rfl, by omega, by omega, ?_⟩
      rw [Int.toNat_natCast]
      refine fun L hL => lc_range (lo := 0) (n := sz.length) (fun j G => Drw d sc G ∧ Kp [d] H3 G ∧ ∃ lk : List Nat, G L = some (.lst (lk.map nV)) ∧ lk.length ≤ j ∧ (∀ k ∈ lk, sz[k]? = some sq) ∧ (qn < j → lk ≠ []))
        ⟨dr3.put (dr3.ne_new hL).1 (dr3.ne_new hL).2, .new hL, [], upd_same, Nat.zero_le _, fun e h => (by cases h), fun h => absurd h (Nat.not_lt_zero _)⟩ (fun j G hj p => ?_) (fun G p => ?_)
      · obtain ⟨drG, kG, lk, hLG, ll, lo, ln⟩ := p
        have hsj : sz[j]? = some (sz[j]'hj) := List.getElem?_eq_getElem hj
        have nLd := drG.noN hLG
        refine ⟨rfl, _, rfl, _, rfl, sa, _, _, _, rfl, rfl, SqL.of (kS (k3.trans kG)), at_of (j := j) (by omega) (by rw [List.getElem?_map, hsj]; rfl), _, rfl, _, rfl, sa, _, _, _, rfl, rfl, SqL.of (kS (k3.trans kG)), nV_at hq, rfl, _, rfl, ite2 (fun c9 => ?_) (fun c9 => ?_)⟩
        · have es : sz[j] = sq := by
            have := V.int.inj (of_decide_eq_true c9)
            omega
          refine ⟨_, rfl, _, hLG, small1000 (by rw [List.length_map]; omega), drG.put nLd.symm (dr3.ne_new hL).2, kG.mt hL, lk ++ [j], by rw [upd_same, List.map_append, Int.zero_add]; rfl, by rw [List.length_append]; exact Nat.succ_le_succ ll, fun k hk => ?_, fun _ z => by simp at z⟩
          rcases List.mem_append.mp hk with h | h
          · exact lo k h
          · rw [List.mem_singleton.mp h, hsj, es]
        · refine ⟨drG, kG, lk, hLG, by omega, lo, fun h => ?_⟩
          by_cases e : qn = j
          · exfalso
            subst e
            rw [hsj] at hq
            have := Option.some.inj hq
            exact c9 (decide_eq_true (by rw [this]; rfl))
          · exact ln (by omega)
      obtain ⟨dr4, k4, lk, hL4, ll, lo, ln⟩ := p
      have lk0 : 0 < lk.length := List.length_pos_iff.mpr (ln lq)
      have k34 := k3.trans k4
      have nLd := dr4.noN hL4
      refine ⟨e2, fun l hl => ?_⟩
      obtain ⟨x1, x2⟩ := dr4.ne_new hl
      have drL := dr4.put (o := .lst [.str "union", .str "minus"]) x1 x2
      have kl : Kp [d] G (upd G l (.lst [.str "union", .str "minus"])) := .new hl
      refine ⟨_, rfl, d, sc, 2, rfl, by decide, by decide, drL, fun z o3 z0 z2 no3 dr5 => ?_⟩
      have k5 : Kp [d] G (upd (upd G l (.lst [.str "union", .str "minus"])) d o3) := kl.trans drL.step
      have hl5 : (upd (upd G l (.lst [.str "union", .str "minus"])) d o3) l = some (.lst [.str "union", .str "minus"]) := by rw [upd_ne x1.symm, upd_same]
      obtain ⟨H5, hH5⟩ : ∃ H5, upd (upd G l (.lst [.str "union", .str "minus"])) d o3 = H5 := ⟨_, rfl⟩
      rw [hH5] at dr5 k5 hl5 ⊢
      have hL5 := k5.k _ _ hL4 (by simpa using nLd)
      have ell : (((lk.map nV).length : Nat) : Int) = (lk.length : Int) := by rw [List.length_map]
      obtain ⟨bb, hbb⟩ : ∃ bb : Bool, atI ([.str "union", .str "minus"] : List V) z = some (.str (if bb then "union" else "minus")) := by
        have : z = 0 ∨ z = 1 := by omega
        rcases this with rfl | rfl
        · exact ⟨true, rfl⟩
        · exact ⟨false, rfl⟩
      refine ⟨l, _, _, _, rfl, rfl, SqL.of hl5, hbb, ?_⟩
      refine ⟨_, rfl, _, rfl, _, rfl, _, rfl, _, rfl, L, _, rfl, .inl (SqL.of hL5), d, sc, (lk.length : Int), by rw [ell]; rfl, by omega, by omega, dr5, fun y o4 y0 y1 no4 dr6 => ?_⟩
      obtain ⟨yn, rfl⟩ : ∃ yn : Nat, y = yn := ⟨y.toNat, by omega⟩
      have k56 : Kp [d] H5 (upd H5 d o4) := dr5.step
      have k6 := (k34.trans k5).trans k56
      have hy : lk[yn]? = some (lk[yn]'(by omega)) := List.getElem?_eq_getElem (by omega)
      have hyr := lo _ (List.mem_of_getElem? hy)
      refine ⟨L, _, _, _, rfl, rfl, SqL.of (k56.k _ _ hL5 (by simpa using nLd)), nV_at hy, e3, fun u hu => ?_⟩
      refine ⟨_, rfl, _, rfl, sa, _, _, _, rfl, rfl, SqL.of (kS (k6.newer hu)), nV_at hq, e2, fun r hr => ?_⟩
      obtain ⟨x1, x2⟩ := dr6.ne_new hu
      have drU := dr6.put (o := .tup [.str (if bb then "union" else "minus"), .int (qn : Int), .int ((lk[yn]'(by omega) : Nat) : Int)]) x1 x2
      obtain ⟨y1, y2⟩ := drU.ne_new hr
      have hu' := (Kp.new (M := []) (o := .tup [.ref u, .int (sq : Int)]) hr).t _ _ (upd_same (H := upd H5 d o4) (a := u) (o := .tup [.str (if bb then "union" else "minus"), .int (qn : Int), .int ((lk[yn]'(by omega) : Nat) : Int)]))
      cases bb with
      | true => exact q (.uni qn _) sq u r _ ⟨hq, hyr⟩ hu' upd_same ((k6.newer hu).newer hr) (drU.put y1 y2)
      | false => exact q (.minus qn _) sq u r _ ⟨hq, hyr⟩ hu' upd_same ((k6.newer hu).newer hr) (drU.put y1 y2)
end

/-! ### how many rows an operation may have -/
def totF (m : Nat) (f : Nat) (t : Tot) : Nat := f * (match t with | .of .sum _ => 2 ^ (min m 20) | _ => 1 + m)
def roomO (rs : List Nat) : Opn → Nat
  | .tab _ => 6
  | .stp _ => 130
  | .uni q r => rs.getD q 0 + rs.getD r 0
  | .minus q _ => rs.getD q 0
  | .join _ q r => rs.getD q 0 * rs.getD r 0
  | .fil _ q => rs.getD q 0
  | .map _ q => rs.getD q 0
  | .anti _ q _ => rs.getD q 0
  | .grp _ ts q => ts.foldl (totF (rs.getD q 0)) (if ts = [] then 1 + 2 * rs.getD q 0 else 2)
/-- all operands are among the first n -/
def Opn.idx (n : Nat) : Opn → Prop
  | .tab _ => True
  | .stp _ => True
  | .uni q r => q < n ∧ r < n
  | .minus q r => q < n ∧ r < n
  | .join _ q r => q < n ∧ r < n
  | .fil _ q => q < n
  | .map _ q => q < n
  | .anti _ q r => q < n ∧ r < n
  | .grp _ _ q => q < n
theorem OpOk.idx {wd sp sz : List Nat} {s : Nat} : ∀ {o : Opn}, OpOk wd sp sz o s → o.idx sz.length
  | .tab _, _ => trivial
  | .stp _, _ => trivial
  | .uni _ _, h => ⟨(List.getElem?_eq_some_iff.mp h.1).1, (List.getElem?_eq_some_iff.mp h.2).1⟩
  | .minus _ _, h => ⟨(List.getElem?_eq_some_iff.mp h.1).1, (List.getElem?_eq_some_iff.mp h.2).1⟩
  | .join _ _ _, ⟨_, _, h1, h2, _⟩ => ⟨(List.getElem?_eq_some_iff.mp h1).1, (List.getElem?_eq_some_iff.mp h2).1⟩
  | .fil _ _, h => (List.getElem?_eq_some_iff.mp h.1).1
  | .map _ _, ⟨_, h, _⟩ => (List.getElem?_eq_some_iff.mp h).1
  | .anti _ _ _, ⟨_, h1, h2, _⟩ => ⟨(List.getElem?_eq_some_iff.mp h1).1, (List.getElem?_eq_some_iff.mp h2).1⟩
  | .grp _ _ _, ⟨_, h, _⟩ => (List.getElem?_eq_some_iff.mp h).1
def spRoom : Sp := fun vs H Q _ => ∃ (oa ra : Addr) (o : Opn) (rs : List Nat) (N : Addr → Prop), vs = [.ref oa, .ref ra] ∧ OpAt N H o oa ∧ H ra = some (.lst (rs.map nV)) ∧ o.idx rs.length ∧ (∀ r ∈ rs, r ≤ 300) ∧
  ∀ (v : Int) (G : Hp), v = (roomO rs o : Nat) → Kp [] H G → Q (.int v) G
theorem getD_at {L : List Nat} {i : Nat} (h : i < L.length) : L[i]? = some (L.getD i 0) := by
  rw [List.getElem?_eq_getElem h]
  simp [h]
section
variable {P : Program} {w : World} {K : PySem.W.Frag} {mg : Str → Option Value} {base : Heap}
theorem ok_room (D : GD K mg "_law_room" sD_Lroom ["operation", "rooms"]) (T : TPgen mg) : Cal P w K mg base 1 "_law_room" spRoom [] := by
  refine D.cal sc_Lroom (fun vs H Q E h => ?_) (fun f cdv A outer s0 H vs Q E hr h => ?_)
  · obtain ⟨oa, ra, o, rs, N, rfl, _⟩ := h
    rfl
  obtain ⟨oa, ra, o, rs, N, rfl, ho, hra, hi, hb, q⟩ := h
  refine ⟨_, (pss_cons (ps_set (i := 2) sc_Lroom.nd rfl (Or.inl rfl) (pe_ix ix_tup (pv 0) pe_int (fun _ _ => rfl)))
    (pss_cons (ps_if (pt_cmpR op_in_seq (pv 2) (pe_tup (pa_cons pe_str (pa_cons pe_str pa_nil))) (by rfl)) (pss_one (ps_ret (pe_ifExp (pt_cmpR op_eq (pv 2) pe_str (nomark _)) pe_int pe_int))) pss_nil)
    (pss_cons (ps_if (pt_cmpR op_eq (pv 2) pe_str (nomark _)) (pss_one (ps_ret (pe_op op_add (pe_ix ix_list (pv 1) (pe_ix ix_tup (pv 0) pe_int (fun _ _ => rfl)) (fun _ _ => rfl)) (pe_ix ix_list (pv 1) (pe_ix ix_tup (pv 0) pe_int (fun _ _ => rfl)) (fun _ _ => rfl))))) pss_nil)
    (pss_cons (ps_if (pt_cmpR op_eq (pv 2) pe_str (nomark _)) (pss_one (ps_ret (pe_ix ix_list (pv 1) (pe_ix ix_tup (pv 0) pe_int (fun _ _ => rfl)) (fun _ _ => rfl)))) pss_nil)
    (pss_cons (ps_if (pt_cmpR op_eq (pv 2) pe_str (nomark _)) (pss_one (ps_ret (pe_op op_mul (pe_ix ix_list (pv 1) (pe_ix ix_tup (pv 0) pe_int (fun _ _ => rfl)) (fun _ _ => rfl)) (pe_ix ix_list (pv 1) (pe_ix ix_tup (pv 0) pe_int (fun _ _ => rfl)) (fun _ _ => rfl))))) pss_nil)
    (pss_cons (ps_if (pt_cmpR op_ne (pv 2) pe_str (nomark _)) (pss_one (ps_ret (pe_ix ix_list (pv 1) (pe_ix ix_tup (pv 0) pe_int (fun _ _ => rfl)) (fun _ _ => rfl)))) pss_nil)
    (pss_cons (ps_set (i := 3) sc_Lroom.nd rfl (Or.inl rfl) (pe_ix ix_list (pv 1) (pe_ix ix_tup (pv 0) pe_int (fun _ _ => rfl)) (fun _ _ => rfl)))
    (pss_cut (ps_set (i := 4) sc_Lroom.nd rfl (Or.inl rfl) (pe_ifExp (pt_not (pt_truth (pe_ix ix_tup (pv 0) pe_int (fun _ _ => rfl)) (by intro _; rfl))) (pe_op op_add pe_int (pe_op op_mul pe_int (pv 3))) pe_int))
    (pss_cons (ps_for PassesOwn.never rfl (pi_list (pe_ix ix_tup (pv 0) pe_int (fun _ _ => rfl))) (pg_name (i := 5) sc_Lroom.nd rfl (Or.inl rfl)) (pss_one (ps_set (i := 4) sc_Lroom.nd rfl (Or.inl rfl) (pe_op op_mul (pv 4) (pe_ifExp (pt_cmpR op_eq (pe_ix ix_tup (pv 5) pe_int (fun _ _ => rfl)) pe_str (nomark _)) (pe_op op_shl pe_int (pe_callB (call_min2 rfl) (by rfl) T.n_min (by decide +kernel) (pa_cons (pv 3) (pa_cons pe_int pa_nil)))) (pe_op op_add pe_int (pv 3)))))))
    (pss_one (ps_ret (pv 4)))))))))))), ?_⟩
  have e2 : (2 : Nat) ≤ sizeLine := by decide
  have bd : ∀ i, rs.getD i 0 ≤ 300 := fun i => by
    by_cases h : i < rs.length
    · exact hb _ (List.mem_of_getElem? (getD_at h))
    · have : rs[i]? = none := List.getElem?_eq_none (by omega)
      rw [List.getD_eq_getElem?_getD, this]
      exact Nat.zero_le _
  cases o with
  | tab i =>
    have ho : H oa = some (.tup [.str "table", .int (i : Int)]) := ho
    refine ⟨_, rfl, oa, _, _, _, rfl, rfl, SqT.of ho, rfl, _, rfl, e2, fun tp htp => ⟨tp, _, rfl, .inr (SqT.of upd_same), rfl, rfl, _, rfl, iteT_of (by decide +kernel) ?_⟩⟩
    exact ⟨_, rfl, rfl, _, rfl, iteT_of (dSs _) (q 6 _ rfl (.new htp))⟩
  | stp i =>
    have ho : H oa = some (.tup [.str "step", .int (i : Int)]) := ho
    refine ⟨_, rfl, oa, _, _, _, rfl, rfl, SqT.of ho, rfl, _, rfl, e2, fun tp htp => ⟨tp, _, rfl, .inr (SqT.of upd_same), rfl, rfl, _, rfl, iteT_of (by decide +kernel) ?_⟩⟩
    exact ⟨_, rfl, rfl, _, rfl, iteF_of (dS (by decide +kernel)) (q 130 _ rfl (.new htp))⟩
  | uni a b =>
    have ho : H oa = some (.tup [.str "union", .int (a : Int), .int (b : Int)]) := ho
    refine ⟨_, rfl, oa, _, _, _, rfl, rfl, SqT.of ho, rfl, _, rfl, e2, fun tp htp => ⟨tp, _, rfl, .inr (SqT.of upd_same), rfl, rfl, _, rfl, iteF_of (by decide +kernel) ?_⟩⟩
    have k := Kp.new (M := []) (o := .tup [.str "table", .str "step"]) htp
    refine ⟨_, rfl, rfl, _, rfl, iteT_of (dSs _) ?_⟩
    refine ⟨_, rfl, _, rfl, oa, _, _, _, rfl, rfl, SqT.of (k.t _ _ ho), rfl, ra, _, _, _, rfl, rfl, SqL.of (k.k _ _ hra (by simp)), nV_at (getD_at hi.1), _, rfl, _, rfl, oa, _, _, _, rfl, rfl, SqT.of (k.t _ _ ho), rfl, ra, _, _, _, rfl, rfl, SqL.of (k.k _ _ hra (by simp)), nV_at (getD_at hi.2), _, _, rfl, rfl, q _ _ ?_ k⟩
    exact (Int.natCast_add _ _).symm
  | minus a b =>
    have ho : H oa = some (.tup [.str "minus", .int (a : Int), .int (b : Int)]) := ho
    refine ⟨_, rfl, oa, _, _, _, rfl, rfl, SqT.of ho, rfl, _, rfl, e2, fun tp htp => ⟨tp, _, rfl, .inr (SqT.of upd_same), rfl, rfl, _, rfl, iteF_of (by decide +kernel) ?_⟩⟩
    have k := Kp.new (M := []) (o := .tup [.str "table", .str "step"]) htp
    refine ⟨_, rfl, rfl, _, rfl, iteF_of (dS (by decide +kernel)) ?_⟩
    refine ⟨_, rfl, rfl, _, rfl, iteT_of (dSs _) ?_⟩
    exact ⟨_, rfl, _, rfl, oa, _, _, _, rfl, rfl, SqT.of (k.t _ _ ho), rfl, ra, _, _, _, rfl, rfl, SqL.of (k.k _ _ hra (by simp)), nV_at (getD_at hi.1), q _ _ rfl k⟩
  | join e a b =>
    obtain ⟨x, ho, _⟩ := ho
    refine ⟨_, rfl, oa, _, _, _, rfl, rfl, SqT.of ho, rfl, _, rfl, e2, fun tp htp => ⟨tp, _, rfl, .inr (SqT.of upd_same), rfl, rfl, _, rfl, iteF_of (by decide +kernel) ?_⟩⟩
    have k := Kp.new (M := []) (o := .tup [.str "table", .str "step"]) htp
    refine ⟨_, rfl, rfl, _, rfl, iteF_of (dS (by decide +kernel)) ?_⟩
    refine ⟨_, rfl, rfl, _, rfl, iteF_of (dS (by decide +kernel)) ?_⟩
    refine ⟨_, rfl, rfl, _, rfl, iteT_of (dSs _) ?_⟩
    have h1 := bd a
    refine ⟨_, rfl, _, rfl, oa, _, _, _, rfl, rfl, SqT.of (k.t _ _ ho), rfl, ra, _, _, _, rfl, rfl, SqL.of (k.k _ _ hra (by simp)), nV_at (getD_at hi.1), _, rfl, _, rfl, oa, _, _, _, rfl, rfl, SqT.of (k.t _ _ ho), rfl, ra, _, _, _, rfl, rfl, SqL.of (k.k _ _ hra (by simp)), nV_at (getD_at hi.2), _, _, rfl, rfl, .inl ⟨by omega, by omega⟩, q _ _ ?_ k⟩
    exact (Int.natCast_mul _ _).symm
  | fil e a =>
    obtain ⟨x, ho, _⟩ := ho
    refine ⟨_, rfl, oa, _, _, _, rfl, rfl, SqT.of ho, rfl, _, rfl, e2, fun tp htp => ⟨tp, _, rfl, .inr (SqT.of upd_same), rfl, rfl, _, rfl, iteF_of (by decide +kernel) ?_⟩⟩
    have k := Kp.new (M := []) (o := .tup [.str "table", .str "step"]) htp
    refine ⟨_, rfl, rfl, _, rfl, iteF_of (dS (by decide +kernel)) ?_⟩
    refine ⟨_, rfl, rfl, _, rfl, iteF_of (dS (by decide +kernel)) ?_⟩
    refine ⟨_, rfl, rfl, _, rfl, iteF_of (dS (by decide +kernel)) ?_⟩
    refine ⟨_, rfl, rfl, _, rfl, iteT_of (by decide +kernel) ?_⟩
    exact ⟨_, rfl, _, rfl, oa, _, _, _, rfl, rfl, SqT.of (k.t _ _ ho), rfl, ra, _, _, _, rfl, rfl, SqL.of (k.k _ _ hra (by simp)), nV_at (getD_at hi), q _ _ rfl k⟩
  | map es a =>
    obtain ⟨x, ho, _⟩ := ho
    refine ⟨_, rfl, oa, _, _, _, rfl, rfl, SqT.of ho, rfl, _, rfl, e2, fun tp htp => ⟨tp, _, rfl, .inr (SqT.of upd_same), rfl, rfl, _, rfl, iteF_of (by decide +kernel) ?_⟩⟩
    have k := Kp.new (M := []) (o := .tup [.str "table", .str "step"]) htp
    refine ⟨_, rfl, rfl, _, rfl, iteF_of (dS (by decide +kernel)) ?_⟩
    refine ⟨_, rfl, rfl, _, rfl, iteF_of (dS (by decide +kernel)) ?_⟩
    refine ⟨_, rfl, rfl, _, rfl, iteF_of (dS (by decide +kernel)) ?_⟩
    refine ⟨_, rfl, rfl, _, rfl, iteT_of (by decide +kernel) ?_⟩
    exact ⟨_, rfl, _, rfl, oa, _, _, _, rfl, rfl, SqT.of (k.t _ _ ho), rfl, ra, _, _, _, rfl, rfl, SqL.of (k.k _ _ hra (by simp)), nV_at (getD_at hi), q _ _ rfl k⟩
  | anti e a b =>
    obtain ⟨x, ho, _⟩ := ho
    refine ⟨_, rfl, oa, _, _, _, rfl, rfl, SqT.of ho, rfl, _, rfl, e2, fun tp htp => ⟨tp, _, rfl, .inr (SqT.of upd_same), rfl, rfl, _, rfl, iteF_of (by decide +kernel) ?_⟩⟩
    have k := Kp.new (M := []) (o := .tup [.str "table", .str "step"]) htp
    refine ⟨_, rfl, rfl, _, rfl, iteF_of (dS (by decide +kernel)) ?_⟩
    refine ⟨_, rfl, rfl, _, rfl, iteF_of (dS (by decide +kernel)) ?_⟩
    refine ⟨_, rfl, rfl, _, rfl, iteF_of (dS (by decide +kernel)) ?_⟩
    refine ⟨_, rfl, rfl, _, rfl, iteT_of (by decide +kernel) ?_⟩
    exact ⟨_, rfl, _, rfl, oa, _, _, _, rfl, rfl, SqT.of (k.t _ _ ho), rfl, ra, _, _, _, rfl, rfl, SqL.of (k.k _ _ hra (by simp)), nV_at (getD_at hi.1), q _ _ rfl k⟩
  | grp ks ts a =>
    obtain ⟨l, m, ho, _, as, hm, _, pr⟩ := ho
    refine ⟨_, rfl, oa, _, _, _, rfl, rfl, SqT.of ho, rfl, _, rfl, e2, fun tp htp => ⟨tp, _, rfl, .inr (SqT.of upd_same), rfl, rfl, _, rfl, iteF_of (by decide +kernel) ?_⟩⟩
    have k := Kp.new (M := []) (o := .tup [.str "table", .str "step"]) htp
    refine ⟨_, rfl, rfl, _, rfl, iteF_of (dS (by decide +kernel)) ?_⟩
    refine ⟨_, rfl, rfl, _, rfl, iteF_of (dS (by decide +kernel)) ?_⟩
    refine ⟨_, rfl, rfl, _, rfl, iteF_of (dS (by decide +kernel)) ?_⟩
    refine ⟨_, rfl, rfl, _, rfl, iteF_of (by decide +kernel) ?_⟩
    obtain ⟨G, hG⟩ : ∃ G, upd H tp (.tup [.str "table", .str "step"]) = G := ⟨_, rfl⟩
    rw [hG] at k ⊢
    have hoG := k.t _ _ ho
    have hmG := k.k _ _ hm (by simp)
    obtain ⟨mm, hmm⟩ : ∃ mm, rs.getD a 0 = mm := ⟨_, rfl⟩
    have bm : mm ≤ 300 := hmm ▸ bd a
    have ha : rs[a]? = some mm := hmm ▸ getD_at hi
    refine ⟨_, rfl, _, rfl, oa, _, _, _, rfl, rfl, SqT.of hoG, rfl, ra, _, _, _, rfl, rfl, SqL.of (k.k _ _ hra (by simp)), nV_at ha, ?_⟩
    refine ⟨fun σ' H' => σ' = [some (.ref oa), some (.ref ra), some (.str "group"), some (.int (mm : Int)), some (.int ((if ts = [] then 1 + 2 * mm else 2 : Nat) : Int)), none] ∧ H' = G, ?_, ?_⟩
    · refine ⟨_, rfl, oa, _, _, _, rfl, rfl, SqT.of hoG, rfl, _, .inl ⟨_, SqL.of hmG, rfl⟩, ?_⟩
      cases ts with
      | nil =>
        have pl := pr.len
        cases as with
        | cons a l => cases pl
        | nil =>
          refine iteT ⟨_, rfl, _, _, rfl, rfl, .inl ⟨by decide, by decide⟩, _, _, rfl, rfl, ?_, rfl⟩
          show _ = [_, _, _, _, some (V.int (((1 + 2 * mm : Nat)) : Int)), _]
          rw [Int.natCast_add, Int.natCast_mul]
          rfl
      | cons t ts =>
        have pl := pr.len
        cases as with
        | nil => cases pl
        | cons a l => exact iteF ⟨rfl, rfl⟩
    rintro σ' H' ⟨rfl, rfl⟩
    obtain ⟨f0, hf0⟩ : ∃ f0 : Nat, (if ts = [] then 1 + 2 * mm else 2) = f0 := ⟨_, rfl⟩
    rw [hf0]
    have er : roomO rs (.grp ks ts a) = ts.foldl (totF mm) f0 := by
      show ts.foldl (totF (rs.getD a 0)) (if ts = [] then 1 + 2 * rs.getD a 0 else 2) = _
      rw [hmm, hf0]
    rw [er] at q
    refine ⟨_, rfl, oa, _, _, _, rfl, rfl, SqT.of hoG, rfl, m, rfl, ⟨_, SqL.of hmG⟩, for_list (K := K) (a := m) (xs := as.map V.ref) (fun i σ G' => ∃ v5 : Option V, σ = [some (.ref oa), some (.ref ra), some (.str "group"), some (.int (mm : Int)), some (.int (((ts.take i).foldl (totF mm) f0 : Nat) : Int)), v5] ∧ G' = H')
      ⟨none, rfl, rfl⟩ (fun i σ G' _ p => by obtain ⟨_, _, rfl⟩ := p; exact SqL.of hmG) (fun i x σ G' hx p => ?_) (fun σ G' p => ?_)⟩
    · obtain ⟨v5, rfl, rfl⟩ := p
      obtain ⟨b, hb', rfl⟩ := mapAt hx
      obtain ⟨t, ht, rt⟩ := pr.of hb'
      rw [takeS ht, List.foldl_append]
      obtain ⟨F, hF⟩ : ∃ F, (ts.take i).foldl (totF mm) f0 = F := ⟨_, rfl⟩
      rw [hF]
      have kt : ∀ {t : Tot}, TotAt H t b → TotAt G' t b := fun h => TotAt.kp k _ _ h
      have rt := kt rt
      refine ⟨_, rfl, _, rfl, ?_⟩
      cases t with
      | count =>
        have rt : G' b = some (.tup [.str "count"]) := rt
        refine ⟨b, _, _, _, rfl, rfl, SqT.of rt, rfl, rfl, _, rfl, iteF_of (dS (by decide +kernel)) ⟨_, rfl, _, _, rfl, rfl, _, _, rfl, rfl, .inr ⟨by omega, by omega⟩, some (.ref b), ?_, rfl⟩⟩
        show _ = [_, _, _, _, some (V.int ((F * (1 + mm) : Nat) : Int)), _]
        rw [Int.natCast_mul, Int.natCast_add]
        rfl
      | of tw e =>
        obtain ⟨x, rt, _⟩ := rt
        refine ⟨b, _, _, _, rfl, rfl, SqT.of rt, rfl, rfl, _, rfl, ?_⟩
        by_cases hs : tw = .sum
        · subst hs
          obtain ⟨z, hz⟩ : ∃ z : Nat, (if (20 : Int) < (mm : Int) then (20 : Int) else (mm : Int)) = (z : Int) ∧ z = min mm 20 := by
            refine ⟨min mm 20, ?_, rfl⟩
            split <;> omega
          refine iteT_of (dSs _) ⟨_, rfl, _, _, rfl, ?_⟩
          have zb : z ≤ 20 := by omega
          have p20 : 2 ^ z ≤ 2 ^ 20 := Nat.pow_le_pow_right (by decide) zb
          have c20 : (2 : Nat) ^ 20 = 1048576 := by decide
          have pz : ((1 : Int) * 2 ^ ((z : Int)).toNat) = ((2 ^ z : Nat) : Int) := by rw [Int.toNat_natCast, Int.one_mul]; exact (Int.natCast_pow 2 z).symm
          refine ⟨1, (z : Int), rfl, by rw [← hz.1], ⟨by omega, by omega, by decide⟩, _, _, rfl, rfl, .inr ?_, some (.ref b), ?_, rfl⟩
          · show -(2 ^ 64) < (1 : Int) * 2 ^ ((z : Int)).toNat ∧ (1 : Int) * 2 ^ ((z : Int)).toNat < 2 ^ 64
            rw [pz]
            rw [c20] at p20
            generalize 2 ^ z = Z at p20
            exact ⟨by omega, by omega⟩
          · show [_, _, _, _, some (V.int ((F : Int) * ((1 : Int) * 2 ^ ((z : Int)).toNat))), _] = [_, _, _, _, some (V.int ((F * 2 ^ (min mm 20) : Nat) : Int)), _]
            rw [pz, ← hz.2, Int.natCast_mul]
        · have ne : decide (V.str tw.str = V.str "sum") = false := by
            cases tw with
            | sum => exact absurd rfl hs
            | distinct => exact dS (by decide +kernel)
            | least => exact dS (by decide +kernel)
            | greatest => exact dS (by decide +kernel)
          refine iteF_of ne ⟨_, rfl, _, _, rfl, rfl, _, _, rfl, rfl, .inr ⟨by omega, by omega⟩, some (.ref b), ?_, rfl⟩
          have et : totF mm F (.of tw e) = F * (1 + mm) := by
            cases tw with
            | sum => exact absurd rfl hs
            | distinct => rfl
            | least => rfl
            | greatest => rfl
          show _ = [_, _, _, _, some (V.int ((totF mm F (.of tw e) : Nat) : Int)), _]
          rw [et, Int.natCast_mul, Int.natCast_add]
          rfl
    · obtain ⟨v5, rfl, rfl⟩ := p
      refine ⟨_, rfl, q _ _ ?_ k⟩
      rw [List.length_map, pr.len, List.take_length]
end

/-! ### plans as they are drawn -/
structure PlanOk (wd sp : List Nat) (L : List Opn) (sz rs : List Nat) : Prop where
  lz : sz.length = L.length
  lr : rs.length = L.length
  ops : ∀ (i : Nat) (o : Opn), L[i]? = some o → ∃ s r, sz[i]? = some s ∧ rs[i]? = some r ∧ OpOk wd sp (sz.take i) o s ∧ r = roomO (rs.take i) o
  s4 : ∀ s ∈ sz, s ≤ 4
  r3 : ∀ r ∈ rs, r ≤ 300
theorem OpOk.le4 {wd sp sz : List Nat} {s : Nat} (hw : ∀ s ∈ wd, s ≤ 4) (hp : ∀ s ∈ sp, s ≤ 4) (hz : ∀ s ∈ sz, s ≤ 4) : ∀ {o : Opn}, OpOk wd sp sz o s → s ≤ 4
  | .tab _, h => hw _ (List.mem_of_getElem? h)
  | .stp _, h => hp _ (List.mem_of_getElem? h)
  | .uni _ _, h => hz _ (List.mem_of_getElem? h.1)
  | .minus _ _, h => hz _ (List.mem_of_getElem? h.1)
  | .join _ _ _, ⟨_, _, _, _, _, _, h⟩ => h
  | .fil _ _, h => hz _ (List.mem_of_getElem? h.1)
  | .map _ _, ⟨_, _, _, _, _, h⟩ => by omega
  | .anti _ _ _, ⟨_, h, _⟩ => hz _ (List.mem_of_getElem? h)
  | .grp _ _ _, ⟨_, _, _, _, _, _, _, _, h⟩ => by omega
theorem PlanOk.nil (wd sp : List Nat) : PlanOk wd sp [] [] [] := ⟨rfl, rfl, fun i o h => by simp at h, fun s h => (by cases h), fun s h => (by cases h)⟩
theorem PlanOk.snoc {wd sp : List Nat} {L : List Opn} {sz rs : List Nat} {o : Opn} {s : Nat} (p : PlanOk wd sp L sz rs) (h : OpOk wd sp sz o s) (h4 : s ≤ 4) (hr : roomO rs o ≤ 300) : PlanOk wd sp (L ++ [o]) (sz ++ [s]) (rs ++ [roomO rs o]) := by
  have e1 := p.lz
  have e2 := p.lr
  refine ⟨by rw [List.length_append, List.length_append, e1]; rfl, by rw [List.length_append, List.length_append, e2]; rfl, fun i o' hi => ?_, fun x hx => ?_, fun x hx => ?_⟩
  · by_cases hl : i < L.length
    · rw [List.getElem?_append_left hl] at hi
      obtain ⟨s', r', a1, a2, a3, a4⟩ := p.ops i o' hi
      exact ⟨s', r', by rw [List.getElem?_append_left (by omega)]; exact a1, by rw [List.getElem?_append_left (by omega)]; exact a2, by rw [List.take_append_of_le_length (by omega)]; exact a3, by rw [List.take_append_of_le_length (by omega)]; exact a4⟩
    · have hl' := (List.getElem?_eq_some_iff.mp hi).1
      rw [List.length_append, List.length_singleton] at hl'
      have ei : i = L.length := by omega
      subst ei
      rw [List.getElem?_append_right (Nat.le_refl _), Nat.sub_self] at hi
      cases hi
      refine ⟨s, roomO rs o, by rw [List.getElem?_append_right (by omega), e1, Nat.sub_self]; rfl, by rw [List.getElem?_append_right (by omega), e2, Nat.sub_self]; rfl, ?_, ?_⟩
      · rw [← e1, List.take_left]; exact h
      · rw [← e2, List.take_left]
  · rcases List.mem_append.mp hx with h | h
    · exact p.s4 x h
    · rw [List.mem_singleton.mp h]; exact h4
  · rcases List.mem_append.mp hx with h | h
    · exact p.r3 x h
    · rw [List.mem_singleton.mp h]; exact hr
def PlanAt (N : Addr → Prop) (H : Hp) (L : List Opn) (p : Addr) : Prop := LstOf (fun o a => OpAt N H o a) N H L p
theorem PlanAt.kp {N : Addr → Prop} {M : List Addr} {H H' : Hp} {L : List Opn} {p : Addr} (h : PlanAt N H L p) (k : Kp M H H') (hN : ∀ l, N l → l ∉ M) : PlanAt N H' L p := LstOf.kp h k (fun _ _ => OpAt.kp k hN) hN
theorem PlanAt.mono {N N' : Addr → Prop} {H : Hp} {L : List Opn} {p : Addr} (h : PlanAt N H L p) (f : ∀ l, N l → N' l) : PlanAt N' H L p := by
  obtain ⟨as, h1, h2, h3⟩ := h
  exact ⟨as, h1, f _ h2, h3.imp fun o a => OpAt.mono f⟩
def spPlan : Sp := fun vs H Q _ => ∃ (d sc wa pa : Addr) (wd sp : List Nat) (most : Int), vs = [.ref d, .ref wa, .ref pa, .int most] ∧ Drw d sc H ∧ H wa = some (.lst (wd.map nV)) ∧ H pa = some (.lst (sp.map nV)) ∧
  wd ≠ [] ∧ wd.length ≤ 100 ∧ sp.length ≤ 100 ∧ (∀ s ∈ wd, s ≤ 4) ∧ (∀ s ∈ sp, s ≤ 4) ∧ 1 ≤ most ∧ most ≤ 20 ∧
  ∀ (L : List Opn) (sz rs : List Nat) (s : Nat) (p r : Addr) (H' : Hp), PlanOk wd sp L sz rs → 1 ≤ L.length → (L.length : Int) ≤ most → sz[L.length - 1]? = some s → (∀ r, rs[L.length - 1]? = some r → r ≤ 130) → PlanAt (fun l => H l = none) H' L p → H' r = some (.tup [.ref p, .int (s : Int)]) → Kp [d] H H' → Drw d sc H' → Q (.ref r) H'
section
variable {P : Program} {w : World} {K : PySem.W.Frag} {mg : Str → Option Value} {base : Heap}
theorem ok_plan (D : GD K mg "_law_plan" sD_Lplan ["draw", "widths", "steps", "most"]) (T : TPgen mg) (c_Lnext : Cal P w K mg base 1 "_law_next" spNext []) (c_Loperation : Cal P w K mg base 7 "_law_operation" spOperation []) (c_Lroom : Cal P w K mg base 1 "_law_room" spRoom []) :
    Cal P w K mg base 8 "_law_plan" spPlan [] := by
  refine D.cal sc_Lplan (fun vs H Q E h => ?_) (fun f cdv A outer s0 H vs Q E hr h => ?_)
  · obtain ⟨d, sc, wa, pa, wd, sp, most, rfl, _⟩ := h
    rfl
  obtain ⟨d, sc, wa, pa, wd, sp, most, rfl, dr, hw, hp, newd, lw, lp, bw, bp, m1, m20, q⟩ := h
  have nwd := dr.noN hw
  have npd := dr.noN hp
  have e0 : (0 : Nat) ≤ sizeLine := by decide
  have e2 : (2 : Nat) ≤ sizeLine := by decide
  obtain ⟨s1, hs1⟩ : ∃ s1, wd[0]? = some s1 := ⟨_, List.getElem?_eq_getElem (List.length_pos_iff.mpr newd)⟩
  refine ⟨_, (pss_cons (ps_set (i := 4) sc_Lplan.nd rfl (Or.inl rfl) (pe_lst pa_nil))
    (pss_cons (ps_set (i := 5) sc_Lplan.nd rfl (Or.inl rfl) (pe_lst pa_nil))
    (pss_cons (ps_set (i := 6) sc_Lplan.nd rfl (Or.inl rfl) (pe_lst pa_nil))
    (pss_cons (ps_set (i := 7) sc_Lplan.nd rfl (Or.inl rfl) (pe_op op_add pe_int (pe_c c_Lnext hr (by omega) rfl (pa_cons (pv 0) (pa_cons (pv 3) pa_nil)))))
    (pss_cons (ps_for PassesOwn.never rfl (pi_range1 (by rfl) T.n_range (pa_cons (pv 7) pa_nil)) (pg_name (i := 8) sc_Lplan.nd rfl (Or.inl rfl)) (pss_cons (ps_asg (pe_c c_Loperation hr (by omega) rfl (pa_cons (pv 0) (pa_cons (pv 5) (pa_cons (pv 1) (pa_cons (pv 2) pa_nil))))) (pg_tup rfl (pgs_cons (pg_name (i := 9) sc_Lplan.nd rfl (Or.inl rfl)) (pgs_cons (pg_name (i := 10) sc_Lplan.nd rfl (Or.inl rfl)) pgs_nil))))
    (pss_cut (ps_if (pt_cmpR op_gt (pe_c c_Lroom hr (by omega) rfl (pa_cons (pv 9) (pa_cons (pv 6) pa_nil))) (pe_ifExp (pt_cmpR op_lt (pv 8) (pe_op op_sub (pv 7) pe_int) (nomark _)) pe_int pe_int) (nomark _)) (pss_one (ps_par (i := 9) (j := 10) (by rfl) sc_Lplan.nd rfl rfl (by decide) rfl rfl (pa_cons (pe_tup (pa_cons pe_str (pa_cons pe_int pa_nil))) (pa_cons (pe_ix ix_list (pv 1) pe_int (fun _ _ => rfl)) pa_nil)) (by rfl))) pss_nil)
    (pss_cons (ps_expr (pe_bm PySem.F.plainAttrs_list PySem.F.slot_list_append PySem.F.type_list_append mt_append (pv 4) (pa_cons (pv 9) pa_nil)))
    (pss_cons (ps_expr (pe_bm PySem.F.plainAttrs_list PySem.F.slot_list_append PySem.F.type_list_append mt_append (pv 5) (pa_cons (pv 10) pa_nil)))
    (pss_one (ps_expr (pe_bm PySem.F.plainAttrs_list PySem.F.slot_list_append PySem.F.type_list_append mt_append (pv 6) (pa_cons (pe_c c_Lroom hr (by omega) rfl (pa_cons (pv 9) (pa_cons (pv 6) pa_nil))) pa_nil)))))))))
    (pss_one (ps_ret (pe_tup (pa_cons (pv 4) (pa_cons (pe_ix ix_list (pv 5) (pe_un un_neg pe_int) (fun _ _ => rfl)) pa_nil)))))))))), ?_⟩
  refine ⟨e0, fun p hpp => ⟨e0, fun sa hsa => ⟨e0, fun ra hra => ?_⟩⟩⟩
  have k1 : Kp [] H (upd H p (.lst [])) := .new hpp
  have k2 := k1.newer (o := .lst []) hsa
  have k3 := k2.newer (o := .lst []) hra
  have nsp : sa ≠ p := fun z => by rw [z, upd_same] at hsa; cases hsa
  have nrs : ra ≠ sa := fun z => by rw [z, upd_same] at hra; cases hra
  have nrp : ra ≠ p := fun z => by rw [upd_ne (z ▸ nrs), z, upd_same] at hra; cases hra
  have hsaH : H sa = none := k1.free hsa (by simp)
  have hraH : H ra = none := k2.free hra (by simp)
  have h3p : (upd (upd (upd H p (.lst [])) sa (.lst [])) ra (.lst [])) p = some (.lst []) := by rw [upd_ne nrp.symm, upd_ne nsp.symm, upd_same]
  have h3s : (upd (upd (upd H p (.lst [])) sa (.lst [])) ra (.lst [])) sa = some (.lst []) := by rw [upd_ne nrs.symm, upd_same]
  have h3r : (upd (upd (upd H p (.lst [])) sa (.lst [])) ra (.lst [])) ra = some (.lst []) := upd_same
  obtain ⟨H3, hH3⟩ : ∃ H3, upd (upd (upd H p (.lst [])) sa (.lst [])) ra (.lst []) = H3 := ⟨_, rfl⟩
  rw [hH3] at k3 h3p h3s h3r ⊢
  have dr3 : Drw d sc H3 := dr.kp k3 (by simp) (by simp)
  have ned : ∀ {x : Addr}, H x = none → x ≠ d ∧ x ≠ sc := fun {x} e => ⟨fun z => (dr.ne_new e).1 z.symm, fun z => (dr.ne_new e).2 z.symm⟩
  refine ⟨_, rfl, _, rfl, d, sc, most, rfl, by omega, by omega, dr3, fun z o z0 zm no dr4 => ⟨_, _, rfl, rfl, ?_⟩⟩
  obtain ⟨mn, hmn⟩ : ∃ mn : Nat, 1 + z = (mn : Int) := ⟨(1 + z).toNat, by omega⟩
  show gName 7 (.int (1 + z)) _ _ _
  rw [hmn]
  have k34 : Kp [d] H3 (upd H3 d o) := dr3.step
  have h4p := k34.k _ _ h3p (by simpa using (ned hpp).1)
  have h4s := k34.k _ _ h3s (by simpa using (ned hsaH).1)
  have h4r := k34.k _ _ h3r (by simpa using (ned hraH).1)
  refine ⟨_, rfl, _, rfl, by omega, by omega, ?_⟩
  rw [Int.toNat_natCast]
  refine for_range (lo := 0) (n := mn) (fun i σ G => ∃ (v8 v9 v10 : Option V) (L : List Opn) (sz rs : List Nat), σ = [some (.ref d), some (.ref wa), some (.ref pa), some (.int most), some (.ref p), some (.ref sa), some (.ref ra), some (.int (mn : Int)), v8, v9, v10] ∧ Kp [d] H G ∧ Drw d sc G ∧ PlanOk wd sp L sz rs ∧ L.length = i ∧
      (i = mn → ∀ r, rs[i - 1]? = some r → r ≤ 130) ∧ (∃ as : List Addr, G p = some (.lst (as.map V.ref)) ∧ Prs (fun o a => OpAt (fun l => H l = none ∧ l ≠ sa ∧ l ≠ ra ∧ l ≠ p) G o a) as L) ∧ G sa = some (.lst (sz.map nV)) ∧ G ra = some (.lst (rs.map nV)))
    ⟨none, none, none, [], [], [], rfl, (k3.wide fun b m => absurd m List.not_mem_nil).trans k34, dr4, .nil wd sp, rfl, fun z => by omega, ⟨[], h4p, trivial⟩, h4s, h4r⟩ (fun i σ G hi pp => ?_) (fun σ G pp => ?_)
  · obtain ⟨v8, v9, v10, L, sz, rs, rfl, kG, drG, ok, ll, _, pl, hsG, hrG⟩ := pp
    have hz := ok.lz
    have hrl := ok.lr
    have kW : ∀ {G' : Hp}, Kp [d] H G' → G' wa = some (.lst (wd.map nV)) := fun k => k.k _ _ hw (by simpa using nwd)
    have kP : ∀ {G' : Hp}, Kp [d] H G' → G' pa = some (.lst (sp.map nV)) := fun k => k.k _ _ hp (by simpa using npd)
    obtain ⟨as, hpG, pr⟩ := pl
    refine ⟨_, rfl, _, rfl, _, rfl, _, rfl, d, sc, sa, wa, pa, sz, wd, sp, rfl, drG, hsG, kW kG, kP kG, newd, by omega, lw, lp, ok.s4, fun o s u r G1 hok hat hr1 k1' dr1 => ?_⟩
    have kG1 := kG.trans k1'
    have newN : ∀ l, G l = none → H l = none ∧ l ≠ sa ∧ l ≠ ra ∧ l ≠ p := fun l e => by
      have h1 : l ≠ d := fun z => by obtain ⟨xs, e'⟩ := drG.dl; rw [z, e'] at e; cases e
      exact ⟨kG.free e (by simpa using h1), (fun z => by rw [z, hsG] at e; cases e), (fun z => by rw [z, hrG] at e; cases e), fun z => by rw [z, hpG] at e; cases e⟩
    refine ⟨r, _, rfl, SqT.of hr1, rfl, _, _, rfl, _, _, rfl, rfl, ?_⟩
    have hsG1 := k1'.k _ _ hsG (by simpa using (ned hsaH).1)
    have hrG1 := k1'.k _ _ hrG (by simpa using (ned hraH).1)
    have hpG1 := k1'.k _ _ hpG (by simpa using (ned hpp).1)
    -- the operation, or the table in its place
    refine ⟨fun σ' G2 => ∃ (o : Opn) (s : Nat) (u : Addr), σ' = [some (.ref d), some (.ref wa), some (.ref pa), some (.int most), some (.ref p), some (.ref sa), some (.ref ra), some (.int (mn : Int)), some (.int (0 + (i : Int))), some (.ref u), some (.int (s : Int))] ∧ OpOk wd sp sz o s ∧ roomO rs o ≤ 300 ∧ (i + 1 = mn → roomO rs o ≤ 130) ∧ OpAt (fun l => H l = none ∧ l ≠ sa ∧ l ≠ ra ∧ l ≠ p) G2 o u ∧ Kp [] G1 G2, ?_, ?_⟩
    · refine ⟨_, rfl, _, rfl, u, ra, o, rs, _, rfl, hat, hrG1, ?_, ok.r3, fun v G2 hv k2' => ?_⟩
      · have := hok.idx
        rw [hz, ← hrl] at this
        exact this
      subst hv
      have big : ∀ lim : Int, (∀ u2 : Addr, G2 u2 = none → True) := fun _ _ _ => trivial
      have atU : OpAt (fun l => H l = none ∧ l ≠ sa ∧ l ≠ ra ∧ l ≠ p) G2 o u := (hat.mono newN).kp k2' (fun l _ => List.not_mem_nil)
      refine ⟨_, rfl, _, rfl, _, _, rfl, rfl, _, _, rfl, rfl, _, rfl, ite2 (fun c => ⟨_, _, rfl, rfl, _, rfl, ite2 (fun c2 => ?a1) (fun c2 => ?b1)⟩) (fun c => ⟨_, _, rfl, rfl, _, rfl, ite2 (fun c2 => ?a2) (fun c2 => ?b2)⟩)⟩
      case a1 | a2 =>
        refine ⟨e2, fun u2 hu2 => ?_⟩
        have kU := Kp.new (M := []) (o := .tup [.str "table", .int 0]) hu2
        refine ⟨_, rfl, wa, _, _, _, rfl, rfl, SqL.of (kU.k _ _ (kW (kG1.trans (k2'.wide fun b m => absurd m List.not_mem_nil))) (by simp)), nV_at (i := 0) hs1, _, _, rfl, ?_⟩
        exact ⟨.tab 0, s1, u2, rfl, hs1, by show 6 ≤ 300; decide, fun _ => by show 6 ≤ 130; decide, upd_same, k2'.trans kU⟩
      case b1 =>
        have c : (0 + (i : Int)) < (mn : Int) - 1 := of_decide_eq_true c
        have c2 : ¬ (300 : Int) < (roomO rs o : Int) := fun z => c2 (decide_eq_true z)
        exact ⟨o, s, u, rfl, hok, by omega, fun z => by omega, atU, k2'⟩
      case b2 =>
        have c2 : ¬ (130 : Int) < (roomO rs o : Int) := fun z => c2 (decide_eq_true z)
        exact ⟨o, s, u, rfl, hok, by omega, fun z => by omega, atU, k2'⟩
    rintro σ' G2 ⟨o, s, u, rfl, hok, r300, r130, hat, k12⟩
    have kG2 : Kp [d] G G2 := k1'.trans (k12.wide fun b m => absurd m List.not_mem_nil)
    have hsG2 := k12.k _ _ hsG1 (by simp)
    have hrG2 := k12.k _ _ hrG1 (by simp)
    have hpG2 := k12.k _ _ hpG1 (by simp)
    have drG2 := dr1.kp k12 (by simp) (by simp)
    have s4 := hok.le4 bw bp ok.s4
    have asl := pr.len
    -- appended
    have kp1 : Kp [p] G2 (upd G2 p (.lst (as.map V.ref ++ [V.ref u]))) := .put (by simp) hpG2 fun xs z => by cases z
    have kp2 : Kp [sa] (upd G2 p (.lst (as.map V.ref ++ [V.ref u]))) (upd (upd G2 p (.lst (as.map V.ref ++ [V.ref u]))) sa (.lst (sz.map nV ++ [.int (s : Int)]))) := .put (by simp) (kp1.k _ _ hsG2 (by simpa using nsp)) fun xs z => by cases z
    have hsP := kp1.k _ _ hsG2 (by simpa using nsp)
    have hrP := kp2.k _ _ (kp1.k _ _ hrG2 (by simpa using nrp)) (by simpa using nrs)
    refine ⟨_, rfl, .inl ⟨rfl, _, SqL.of hpG2⟩, _, rfl, p, _, _, rfl, rfl, hpG2, small1000 (by rw [List.length_map]; omega), ?_⟩
    refine ⟨_, rfl, .inl ⟨rfl, _, SqL.of hsP⟩, _, rfl, sa, _, _, rfl, rfl, hsP, small1000 (by rw [List.length_map]; omega), ?_⟩
    refine ⟨_, rfl, .inl ⟨rfl, _, SqL.of hrP⟩, _, rfl, _, rfl, u, ra, o, rs, _, rfl, (hat.kp kp1 fun l n => by simpa using n.2.2.2).kp kp2 (fun l n => by simpa using n.2.1), hrP, ?_, ok.r3, fun v G3 hv k3' => ?_⟩
    · have := hok.idx
      rw [hz, ← hrl] at this
      exact this
    subst hv
    have hr3 := k3'.k _ _ hrP (by simp)
    refine ⟨ra, _, _, rfl, rfl, hr3, small1000 (by rw [List.length_map]; omega), ?_⟩
    have kp4 : Kp [ra] G3 (upd G3 ra (.lst (rs.map nV ++ [.int (roomO rs o : Nat)]))) := .put (by simp) hr3 fun xs z => by cases z
    have hs3 := kp4.k _ _ (k3'.k _ _ (upd_same (H := upd G2 p (.lst (as.map V.ref ++ [V.ref u]))) (a := sa) (o := .lst (sz.map nV ++ [.int (s : Int)]))) (by simp)) (by simpa using nrs.symm)
    have hp3 := kp4.k _ _ (k3'.k _ _ (kp2.k _ _ (upd_same (H := G2) (a := p) (o := .lst (as.map V.ref ++ [V.ref u]))) (by simpa using nsp.symm)) (by simp)) (by simpa using nrp.symm)
    have kend : Kp [d] H (upd G3 ra (.lst (rs.map nV ++ [.int (roomO rs o : Nat)]))) := by
      have a1 : Kp [d] H (upd G2 p (.lst (as.map V.ref ++ [V.ref u]))) := (kG.trans kG2).mt hpp
      have a2 := a1.mt (o := .lst (sz.map nV ++ [.int (s : Int)])) hsaH
      exact (a2.trans (k3'.wide fun b m => absurd m List.not_mem_nil)).mt hraH
    have drE : Drw d sc (upd G3 ra (.lst (rs.map nV ++ [.int (roomO rs o : Nat)]))) := (((drG2.put (ned hpp).1.symm (ned hpp).2.symm).put (ned hsaH).1.symm (ned hsaH).2.symm).kp k3' (by simp) (by simp)).put (ned hraH).1.symm (ned hraH).2.symm
    have kall : Kp [p, sa, ra] G2 (upd G3 ra (.lst (rs.map nV ++ [.int (roomO rs o : Nat)]))) := (((kp1.wide fun b m => by rw [List.mem_singleton.mp m]; simp).trans (kp2.wide fun b m => by rw [List.mem_singleton.mp m]; simp)).trans (k3'.wide fun b m => absurd m List.not_mem_nil)).trans (kp4.wide fun b m => by rw [List.mem_singleton.mp m]; simp)
    refine ⟨_, _, _, L ++ [o], sz ++ [s], rs ++ [roomO rs o], rfl, kend, drE, ok.snoc hok s4 r300, by rw [List.length_append, ll]; rfl, fun z r hr => ?_, ⟨as ++ [u], by rw [hp3, List.map_append]; rfl, ?_⟩, by rw [hs3, List.map_append]; rfl, by rw [upd_same, List.map_append]; rfl⟩
    · rw [Nat.add_sub_cancel, List.getElem?_append_right (by omega), show i - rs.length = 0 by omega] at hr
      cases hr
      exact r130 z
    · have out : ∀ l, (H l = none ∧ l ≠ sa ∧ l ≠ ra ∧ l ≠ p) → l ∉ [p, sa, ra] := fun l n => by simp [n.2.1, n.2.2.1, n.2.2.2]
      exact (pr.imp fun o a h => (h.kp kG2 fun l n => by simpa using (ned n.1).1).kp kall out).snoc (hat.kp kall out)
  · obtain ⟨v8, v9, v10, L, sz, rs, rfl, kG, drG, ok, ll, hb, ⟨as, hpG, pr⟩, hsG, hrG⟩ := pp
    have hz := ok.lz
    have lst : ∃ s, sz[L.length - 1]? = some s ∧ sz = sz.take (L.length - 1) ++ [s] := by
      have hl : L.length - 1 < sz.length := by omega
      refine ⟨sz[L.length - 1], List.getElem?_eq_getElem hl, ?_⟩
      have := takeS (List.getElem?_eq_getElem hl)
      rw [show L.length - 1 + 1 = sz.length by omega, List.take_length] at this
      exact this
    obtain ⟨s, hs, es⟩ := lst
    refine ⟨_, rfl, _, rfl, _, rfl, sa, _, _, _, rfl, rfl, SqL.of hsG, (show atI (sz.map nV) (-1) = some (.int (s : Int)) by rw [es, List.map_append]; exact atI_last _ _), e2, fun r hr => ?_⟩
    have kR := Kp.new (M := []) (o := .tup [.ref p, .int (s : Int)]) hr
    exact q L sz rs s p r _ ok (by omega) (by omega) hs (fun r' h' => hb rfl r' (by rw [← ll]; exact h')) ⟨as, kR.k _ _ hpG (by simp), hpp, pr.imp fun o a h => (h.mono fun l n => n.1).kp kR fun l _ => List.not_mem_nil⟩ upd_same (kG.newer hr) (drG.put (drG.ne_new hr).1 (drG.ne_new hr).2)
end

/-! ### expressions and operations as data -/
def Cell.data : Cell → PyData
  | .non => .none
  | .int i => .int i
  | .str s => .str s
theorem Cell.has (H : Hp) : ∀ c : Cell, Has H c.v c.data
  | .non => .non
  | .int i => .int i
  | .str s => .str s
def Ex.data : Ex → PyData
  | .con c => .tuple [.str "constant", c.data]
  | .col i => .tuple [.str "column", .int (i : Int)]
  | .un o a => .tuple [.str o.str, a.data]
  | .bin o a b => .tuple [.str o.str, a.data, b.data]
  | .ch c a b => .tuple [.str "choose", c.data, a.data, b.data]
theorem ExAt.has {H : Hp} : ∀ (e : Ex) (r : Addr), ExAt H e r → Has H (.ref r) e.data
  | .con c, _, h => .tup h (.cons (.str _) (.cons (c.has H) .nil))
  | .col _, _, h => .tup h (.cons (.str _) (.cons (.int _) .nil))
  | .un _ a, _, ⟨x, h, i⟩ => .tup h (.cons (.str _) (.cons (ExAt.has a x i) .nil))
  | .bin _ a b, _, ⟨x, y, h, i, j⟩ => .tup h (.cons (.str _) (.cons (ExAt.has a x i) (.cons (ExAt.has b y j) .nil)))
  | .ch c a b, _, ⟨z, x, y, h, g, i, j⟩ => .tup h (.cons (.str _) (.cons (ExAt.has c z g) (.cons (ExAt.has a x i) (.cons (ExAt.has b y j) .nil))))
mutual
theorem Has.dp {K : PySem.W.Frag} {H : Hp} : ∀ (d : PyData) (v : V), Has H v d → Dp K H v d
  | .none, _, h => by cases h; exact .non
  | .bool b, _, h => by cases h; exact .bl b
  | .int i, _, h => by cases h; exact .int i
  | .str x, _, h => by cases h; exact .str x
  | .list ds, _, h => by cases h with | lst e r => exact .lst (SqL.of e) (HasAll.dp ds _ r)
  | .tuple ds, _, h => by cases h with | tup e r => exact .tup (SqT.of e) (HasAll.dp ds _ r)
  | .dict _, _, h => by cases h
theorem HasAll.dp {K : PySem.W.Frag} {H : Hp} : ∀ (ds : List PyData) (vs : List V), HasAll H vs ds → DpAll K H vs ds
  | [], _, h => by cases h; exact .nil
  | d :: ds, _, h => by cases h with | cons h1 h2 => exact .cons (Has.dp d _ h1) (HasAll.dp ds _ h2)
end
theorem Prs.hasAll {α : Type} {H : Hp} {R : α → Addr → Prop} {f : α → PyData} (h : ∀ x a, R x a → Has H (.ref a) (f x)) : ∀ {as : List Addr} {xs : List α}, Prs R as xs → HasAll H (as.map V.ref) (xs.map f)
  | [], [], _ => .nil
  | a :: as, x :: xs, p => .cons (h _ _ p.1) (Prs.hasAll h p.2)
  | [], _ :: _, p => p.elim
  | _ :: _, [], p => p.elim
theorem LstOf.has {α : Type} {H : Hp} {R : α → Addr → Prop} {N : Addr → Prop} {f : α → PyData} {L : List α} {l : Addr} (p : LstOf R N H L l) (h : ∀ x a, R x a → Has H (.ref a) (f x)) : Has H (.ref l) (.list (L.map f)) := by
  obtain ⟨as, h1, _, h3⟩ := p
  exact .lst h1 (h3.hasAll h)
def Tot.data : Tot → PyData
  | .count => .tuple [.str "count"]
  | .of w e => .tuple [.str w.str, e.data]
theorem TotAt.has {H : Hp} : ∀ (t : Tot) (r : Addr), TotAt H t r → Has H (.ref r) t.data
  | .count, _, h => .tup h (.cons (.str _) .nil)
  | .of _ e, _, ⟨x, h, i⟩ => .tup h (.cons (.str _) (.cons (ExAt.has e x i) .nil))
def Opn.data : Opn → PyData
  | .tab i => .tuple [.str "table", .int (i : Int)]
  | .stp i => .tuple [.str "step", .int (i : Int)]
  | .fil e q => .tuple [.str "filter", e.data, .int (q : Int)]
  | .map es q => .tuple [.str "map", .list (es.map Ex.data), .int (q : Int)]
  | .grp ks ts q => .tuple [.str "group", .list (ks.map Ex.data), .list (ts.map Tot.data), .int (q : Int)]
  | .join e q r => .tuple [.str "join", e.data, .int (q : Int), .int (r : Int)]
  | .anti e q r => .tuple [.str "anti", e.data, .int (q : Int), .int (r : Int)]
  | .uni q r => .tuple [.str "union", .int (q : Int), .int (r : Int)]
  | .minus q r => .tuple [.str "minus", .int (q : Int), .int (r : Int)]
theorem OpAt.has {N : Addr → Prop} {H : Hp} : ∀ (o : Opn) (r : Addr), OpAt N H o r → Has H (.ref r) o.data
  | .tab _, _, h => .tup h (.cons (.str _) (.cons (.int _) .nil))
  | .stp _, _, h => .tup h (.cons (.str _) (.cons (.int _) .nil))
  | .fil e _, _, ⟨x, h, g⟩ => .tup h (.cons (.str _) (.cons (ExAt.has e x g) (.cons (.int _) .nil)))
  | .map es _, _, ⟨l, h, g⟩ => .tup h (.cons (.str _) (.cons (g.has fun e a => ExAt.has e a) (.cons (.int _) .nil)))
  | .grp ks ts _, _, ⟨l, m, h, g, j⟩ => .tup h (.cons (.str _) (.cons (g.has fun e a => ExAt.has e a) (.cons (j.has fun e a => TotAt.has e a) (.cons (.int _) .nil))))
  | .join e _ _, _, ⟨x, h, g⟩ => .tup h (.cons (.str _) (.cons (ExAt.has e x g) (.cons (.int _) (.cons (.int _) .nil))))
  | .anti e _ _, _, ⟨x, h, g⟩ => .tup h (.cons (.str _) (.cons (ExAt.has e x g) (.cons (.int _) (.cons (.int _) .nil))))
  | .uni _ _, _, h => .tup h (.cons (.str _) (.cons (.int _) (.cons (.int _) .nil)))
  | .minus _ _, _, h => .tup h (.cons (.str _) (.cons (.int _) (.cons (.int _) .nil)))
-- their form
theorem Un.lay (o : Un) : PyData.canLay0 (.str o.str) = true := by cases o <;> (unfold PyData.canLay0; decide +kernel)
theorem Bn.lay (o : Bn) : PyData.canLay0 (.str o.str) = true := by cases o <;> (unfold PyData.canLay0; decide +kernel)
theorem Tw.lay (o : Tw) : PyData.canLay0 (.str o.str) = true := by cases o <;> (unfold PyData.canLay0; decide +kernel)
theorem Cell.lay : ∀ c : Cell, c.sm → PyData.canLay0 c.data = true
  | .non, _ => by unfold Cell.data PyData.canLay0; rfl
  | .int _, _ => by unfold Cell.data PyData.canLay0; rfl
  | .str s, h => by
    unfold Cell.data PyData.canLay0
    rcases h with rfl | rfl <;> decide +kernel
theorem strC_lay : PyData.canLay0 (.str "constant") = true ∧ PyData.canLay0 (.str "column") = true ∧ PyData.canLay0 (.str "choose") = true ∧ PyData.canLay0 (.str "count") = true := by
  unfold PyData.canLay0
  decide +kernel
theorem Ex.lay : ∀ e : Ex, e.sm → PyData.canLay0 e.data = true
  | .con c, h => by
    simp only [Ex.data, PyData.canLay0, PyData.canLayAll0, Cell.lay c h, Bool.and_true]
    exact (by unfold PyData.canLay0; decide +kernel : PyData.canLay0 (.str "constant") = true) ▸ by first | rfl | (have := strC_lay.1; simpa [PyData.canLay0] using this)
  | .col i, _ => by
    have := strC_lay.2.1
    simp only [PyData.canLay0] at this
    simp only [Ex.data, PyData.canLay0, PyData.canLayAll0, Bool.and_true, this]
  | .un o a, h => by
    have := o.lay
    simp only [PyData.canLay0] at this
    simp only [Ex.data, PyData.canLay0, PyData.canLayAll0, Bool.and_true, this, Ex.lay a h]
  | .bin o a b, h => by
    have := o.lay
    simp only [PyData.canLay0] at this
    simp only [Ex.data, PyData.canLay0, PyData.canLayAll0, Bool.and_true, this, Ex.lay a h.1, Ex.lay b h.2]
  | .ch c a b, h => by
    have := strC_lay.2.2.1
    simp only [PyData.canLay0] at this
    simp only [Ex.data, PyData.canLay0, PyData.canLayAll0, Bool.and_true, this, Ex.lay c h.1, Ex.lay a h.2.1, Ex.lay b h.2.2]
theorem Ex.dp : ∀ e : Ex, PyData.depth e.data ≤ e.depth + 1
  | .con c => by cases c <;> simp [Ex.data, Cell.data, PyData.depth, PyData.depthAll, Ex.depth]
  | .col i => by simp [Ex.data, PyData.depth, PyData.depthAll, Ex.depth]
  | .un o a => by
    have := a.dp
    simp only [Ex.data, PyData.depth, PyData.depthAll, Ex.depth]
    omega
  | .bin o a b => by
    have := a.dp
    have := b.dp
    have m1 : a.depth ≤ Nat.max a.depth b.depth := Nat.le_max_left _ _
    have m2 : b.depth ≤ Nat.max a.depth b.depth := Nat.le_max_right _ _
    simp only [Ex.data, PyData.depth, PyData.depthAll, Ex.depth]
    omega
  | .ch c a b => by
    have := c.dp
    have := a.dp
    have := b.dp
    have m0 : c.depth ≤ Nat.max c.depth (Nat.max a.depth b.depth) := Nat.le_max_left _ _
    have m3 : Nat.max a.depth b.depth ≤ Nat.max c.depth (Nat.max a.depth b.depth) := Nat.le_max_right _ _
    have m1 : a.depth ≤ Nat.max a.depth b.depth := Nat.le_max_left _ _
    have m2 : b.depth ≤ Nat.max a.depth b.depth := Nat.le_max_right _ _
    simp only [Ex.data, PyData.depth, PyData.depthAll, Ex.depth]
    omega
theorem list_shaped {α : Type} (f : α → PyData) (n : Nat) (hn : n ≤ 63) {L : List α} (h1 : ∀ x ∈ L, PyData.canLay0 (f x) = true) (h2 : ∀ x ∈ L, PyData.depth (f x) ≤ n) : SeqAt.shaped (.list (L.map f)) = true := by
  have a1 : ∀ L : List α, (∀ x ∈ L, PyData.canLay0 (f x) = true) → PyData.canLayAll0 (L.map f) = true := by
    intro L
    induction L with
    | nil => intro _; simp [PyData.canLayAll0]
    | cons x L ih =>
      intro h
      rw [List.map_cons, PyData.canLayAll0, ih fun y hy => h y (List.mem_cons_of_mem _ hy), h x List.mem_cons_self]
      rfl
  have a2 : ∀ L : List α, (∀ x ∈ L, PyData.depth (f x) ≤ n) → PyData.depthAll (L.map f) ≤ n := by
    intro L
    induction L with
    | nil => intro _; simp [PyData.depthAll]
    | cons x L ih =>
      intro h
      rw [List.map_cons, PyData.depthAll]
      have := ih fun y hy => h y (List.mem_cons_of_mem _ hy)
      have := h x List.mem_cons_self
      omega
  have h3 : PyData.depth (.list (L.map f)) ≤ 64 := by
    have := a2 L h2
    simp only [PyData.depth]
    omega
  show (PyData.canLay0 (.list (L.map f)) && decide (PyData.depth (.list (L.map f)) ≤ 64)) = true
  rw [Bool.and_eq_true]
  exact ⟨by simp only [PyData.canLay0]; exact a1 L h1, decide_eq_true h3⟩
theorem Tot.lay : ∀ t : Tot, t.sm → PyData.canLay0 t.data = true ∧ PyData.depth t.data ≤ 3
  | .count, _ => by
    have := strC_lay.2.2.2
    simp only [PyData.canLay0] at this
    exact ⟨by simp only [Tot.data, PyData.canLay0, PyData.canLayAll0, Bool.and_true, this], by simp [Tot.data, PyData.depth, PyData.depthAll]⟩
  | .of w e, h => by
    have := w.lay
    simp only [PyData.canLay0] at this
    refine ⟨by simp only [Tot.data, PyData.canLay0, PyData.canLayAll0, Bool.and_true, this, Ex.lay e h.1], ?_⟩
    have := e.dp
    have := h.2
    simp only [Tot.data, PyData.depth, PyData.depthAll]
    omega
theorem exs_shaped {L : List Ex} {w : Nat} (h : ∀ e ∈ L, e.ok w 1) : SeqAt.shaped (.list (L.map Ex.data)) = true := list_shaped Ex.data 2 (by decide) (fun e he => Ex.lay e (h e he).2.2) fun e he => by
  have := e.dp
  have := (h e he).2.1
  omega
theorem tots_shaped {L : List Tot} {w : Nat} (h : ∀ e ∈ L, e.ok w) : SeqAt.shaped (.list (L.map Tot.data)) = true := list_shaped Tot.data 3 (by decide) (fun e he => (Tot.lay e (h e he).2).1) fun e he => (Tot.lay e (h e he).2).2
theorem eqv_nil {L : List PyData} : PyData.eqv (.list L) (.list []) = L.isEmpty := by
  cases L <;> simp [PyData.eqv, PyData.eqvAll]

/-! ### values of plans -/
def GRT : Int := 1000000000000000
def bnd (i : Int) : Cell := if -GRT ≤ i ∧ i ≤ GRT then .int i else .non
/-- within the bounds of the document -/
def Cell.bd : Cell → Prop
  | .non => True
  | .int i => -GRT ≤ i ∧ i ≤ GRT
  | .str s => s.length ≤ 10 ∧ PyData.canLay0 (.str s) = true
theorem Cell.sm.bd : ∀ {c : Cell}, c.sm → c.bd
  | .non, _ => trivial
  | .int i, h => by
    have h : 0 ≤ i ∧ i ≤ 3 := h
    show -GRT ≤ i ∧ i ≤ GRT
    unfold GRT
    omega
  | .str s, h => by
    rcases h with rfl | rfl <;> exact ⟨by decide +kernel, by unfold PyData.canLay0; decide +kernel⟩
theorem bnd_bd (i : Int) : (bnd i).bd := by
  unfold bnd
  split
  · assumption
  · trivial
def Cell.tru : Cell → Option Bool
  | .int i => some (!decide (i = 0))
  | _ => none
def ofT : Option Bool → Cell
  | none => .non
  | some true => .int 1
  | some false => .int 0
def ofB (b : Bool) : Cell := if b then .int 1 else .int 0
theorem ofT_bd (o : Option Bool) : (ofT o).bd := by
  cases o with
  | none => trivial
  | some b => cases b <;> (show -GRT ≤ _ ∧ _ ≤ GRT; unfold GRT; omega)
theorem ofB_bd (b : Bool) : (ofB b).bd := by cases b <;> (show -GRT ≤ _ ∧ _ ≤ GRT; unfold GRT; omega)
def bothT (a b : Option Bool) : Option Bool := if a = some false ∨ b = some false then some false else if a = none ∨ b = none then none else some true
def eitherT (a b : Option Bool) : Option Bool := if a = some true ∨ b = some true then some true else if a = none ∨ b = none then none else some false
/-- the key of a value, as data -/
def Cell.keyD : Cell → PyData
  | .non => .tuple [.int 0, .int 0, .str ""]
  | .str s => .tuple [.int 2, .int 0, .str s]
  | .int i => .tuple [.int 1, .int i, .str ""]
def cLt (a b : Cell) : Bool := PySem.W.dataLt a.keyD b.keyD
def Un.op : Un → Cell → Cell
  | .negate, .int i => bnd (-i)
  | .negate, _ => .non
  | .not, c => match c.tru with
    | none => .non
    | some b => ofT (some !b)
  | .missing, c => ofB (decide (c = .non))
  | .length, .str s => .int (s.length : Int)
  | .length, _ => .non
def ints2 (f : Int → Int → Cell) : Cell → Cell → Cell
  | .int i, .int j => f i j
  | _, _ => .non
def strs2 (f : Str → Str → Cell) : Cell → Cell → Cell
  | .str i, .str j => f i j
  | _, _ => .non
def Bn.op : Bn → Cell → Cell → Cell
  | .add => ints2 fun i j => bnd (i + j)
  | .subtract => ints2 fun i j => bnd (i - j)
  | .multiply => ints2 fun i j => bnd (i * j)
  | .divide => ints2 fun i j => if 1 ≤ j then bnd (i / j) else .non
  | .remainder => ints2 fun i j => if 1 ≤ j then bnd (i % j) else .non
  | .less => fun a b => if a = .non ∨ b = .non then .non else ofB (cLt a b)
  | .equal => fun a b => if a = .non ∨ b = .non then .non else ofB (decide (a = b))
  | .and => fun a b => ofT (bothT a.tru b.tru)
  | .or => fun a b => ofT (eitherT a.tru b.tru)
  | .starts => strs2 fun a b => ofB (Txt.startswith a b)
/-- the operation is on numbers -/
def Bn.num : Bn → Bool
  | .add | .subtract | .multiply | .divide | .remainder => true
  | _ => false
theorem Un.op_bd (o : Un) {c : Cell} (h : c.bd) : (o.op c).bd := by
  cases o with
  | negate => cases c with
    | int i => exact bnd_bd _
    | non => trivial
    | str s => trivial
  | not =>
    show (match c.tru with | none => Cell.non | some b => ofT (some !b)).bd
    cases c.tru with
    | none => trivial
    | some b => exact ofT_bd _
  | missing => exact ofB_bd _
  | length => cases c with
    | int i => trivial
    | non => trivial
    | str s =>
      have h : s.length ≤ 10 := h.1
      show -GRT ≤ (s.length : Int) ∧ (s.length : Int) ≤ GRT
      unfold GRT
      omega
theorem ints2_bd {f : Int → Int → Cell} (h : ∀ i j, (f i j).bd) : ∀ a b : Cell, (ints2 f a b).bd
  | .int i, .int j => h i j
  | .non, _ => by cases ‹Cell› <;> trivial
  | .str _, _ => by cases ‹Cell› <;> trivial
  | .int _, .non => trivial
  | .int _, .str _ => trivial
theorem strs2_bd {f : Str → Str → Cell} (h : ∀ i j, (f i j).bd) : ∀ a b : Cell, (strs2 f a b).bd
  | .str i, .str j => h i j
  | .non, _ => by cases ‹Cell› <;> trivial
  | .int _, _ => by cases ‹Cell› <;> trivial
  | .str _, .non => trivial
  | .str _, .int _ => trivial
theorem Bn.op_bd (o : Bn) (a b : Cell) : (o.op a b).bd := by
  cases o with
  | add => exact ints2_bd (fun _ _ => bnd_bd _) a b
  | subtract => exact ints2_bd (fun _ _ => bnd_bd _) a b
  | multiply => exact ints2_bd (fun _ _ => bnd_bd _) a b
  | divide => exact ints2_bd (fun _ _ => by split; exact bnd_bd _; trivial) a b
  | remainder => exact ints2_bd (fun _ _ => by split; exact bnd_bd _; trivial) a b
  | less => show (if a = .non ∨ b = .non then Cell.non else ofB (cLt a b)).bd; split; trivial; exact ofB_bd _
  | equal => show (if a = .non ∨ b = .non then Cell.non else ofB (decide (a = b))).bd; split; trivial; exact ofB_bd _
  | and => exact ofT_bd _
  | or => exact ofT_bd _
  | starts => exact strs2_bd (fun _ _ => ofB_bd _) a b
theorem tru_true {c : Cell} : c.tru = some true ↔ ∃ i, c = .int i ∧ i ≠ 0 := by
  cases c with
  | non => exact ⟨fun h => (by cases h), fun ⟨i, h, _⟩ => (by cases h)⟩
  | str s => exact ⟨fun h => (by cases h), fun ⟨i, h, _⟩ => (by cases h)⟩
  | int i =>
    show some (!decide (i = 0)) = some true ↔ _
    constructor
    · intro h
      refine ⟨i, rfl, fun e => ?_⟩
      rw [decide_eq_true e] at h
      cases h
    · rintro ⟨j, h, n⟩
      cases h
      rw [decide_eq_false n]
      rfl
/-- the value is true -/
def Cell.yes (c : Cell) : Bool := decide (c.tru = some true)
def Ex.ev : Ex → List Cell → Cell
  | .con c, _ => c
  | .col i, r => r.getD i .non
  | .un o a, r => o.op (a.ev r)
  | .bin o a b, r => o.op (a.ev r) (b.ev r)
  | .ch c a b, r => if (c.ev r).yes = true then a.ev r else b.ev r
/-- all constants are within the bounds -/
def Ex.cb : Ex → Prop
  | .con c => c.bd
  | .col _ => True
  | .un _ a => a.cb
  | .bin _ a b => a.cb ∧ b.cb
  | .ch c a b => c.cb ∧ a.cb ∧ b.cb
theorem Ex.sm.cb : ∀ {e : Ex}, e.sm → e.cb
  | .con _, h => Cell.sm.bd h
  | .col _, _ => trivial
  | .un _ a, h => Ex.sm.cb (e := a) h
  | .bin _ a b, h => ⟨Ex.sm.cb (e := a) h.1, Ex.sm.cb (e := b) h.2⟩
  | .ch c a b, h => ⟨Ex.sm.cb (e := c) h.1, Ex.sm.cb (e := a) h.2.1, Ex.sm.cb (e := b) h.2.2⟩
/-- a row within the bounds -/
def rbd (r : List Cell) : Prop := ∀ c ∈ r, c.bd
theorem rbd_at {r : List Cell} (h : rbd r) (i : Nat) : (r.getD i .non).bd := by
  by_cases hi : i < r.length
  · rw [List.getD_eq_getElem?_getD, List.getElem?_eq_getElem hi]
    exact h _ (List.getElem_mem hi)
  · rw [List.getD_eq_getElem?_getD, List.getElem?_eq_none (by omega)]
    trivial
theorem Ex.ev_bd {r : List Cell} (h : rbd r) : ∀ e : Ex, e.cb → (e.ev r).bd
  | .con _, k => k
  | .col i, _ => rbd_at h i
  | .un o a, k => o.op_bd (Ex.ev_bd h a k)
  | .bin o a b, _ => o.op_bd _ _
  | .ch c a b, k => by
    show (if (c.ev r).yes = true then a.ev r else b.ev r).bd
    split
    · exact Ex.ev_bd h a k.2.1
    · exact Ex.ev_bd h b k.2.2
-- keys
open PySem.W in
theorem keyD_alike (a b : Cell) : alike a.keyD b.keyD = true := by cases a <;> cases b <;> simp [Cell.keyD, alike, alikeAll]
theorem keyD_eqv (a b : Cell) : PyData.eqv a.keyD b.keyD = decide (a = b) := by
  cases a with
  | non => cases b <;> simp [Cell.keyD, PyData.eqv, PyData.eqvAll]
  | int i => cases b with
    | int j => by_cases h : i = j <;> simp [Cell.keyD, PyData.eqv, PyData.eqvAll, h]
    | non => simp [Cell.keyD, PyData.eqv, PyData.eqvAll]
    | str s => simp [Cell.keyD, PyData.eqv, PyData.eqvAll]
  | str s => cases b with
    | str j => by_cases h : s = j <;> simp [Cell.keyD, PyData.eqv, PyData.eqvAll, h]
    | non => simp [Cell.keyD, PyData.eqv, PyData.eqvAll]
    | int i => simp [Cell.keyD, PyData.eqv, PyData.eqvAll]
theorem keyD_depth (a : Cell) : a.keyD.depth = 1 := by cases a <;> simp [Cell.keyD, PyData.depth, PyData.depthAll]
theorem keyD_ne (a : Cell) : a.keyD ≠ .none := by cases a <;> exact fun h => by cases h

/-! ### the values' functions -/
/-- None or a bool is a bool -/
theorem op_is_nb {X : Cx} : OpR X (compareOp .Is) (fun x y H Q => ∃ b, y = .bl b ∧ (x = .non ∨ ∃ a, x = .bl a) ∧ Q (.bl (decide (x = .bl b))) H) := by
  intro pins s σ H x y v u Q I rx ry h
  obtain ⟨b, rfl, hx, q⟩ := h
  cases (show u = Value.bool b from ry)
  rcases hx with rfl | ⟨a, rfl⟩
  · cases (show v = Value.none from rx)
    exact wpAny_is_other rfl (fun z => by cases z) ⟨.bl false, H, I, rfl, by simpa using q⟩
  · cases (show v = Value.bool a from rx)
    by_cases e : a = b
    · subst e
      exact wpAny_is_self rfl ⟨.bl true, H, I, rfl, by simpa using q⟩
    · exact wpAny_is_other rfl (fun z => e (Value.bool.inj z)) ⟨.bl false, H, I, rfl, by simpa [e] using q⟩
/-- x < y of alike data -/
theorem op_ltDt {X : Cx} (hu : X.A.units + 65 < cLine) : OpR X (compareOp .Lt) (fun x y H Q => ∃ d e, Has H x d ∧ Has H y e ∧ PySem.W.alike d e = true ∧ d ≠ .none ∧ d.depth ≤ 10 ∧ Q (.bl (PySem.W.dataLt d e)) H) := by
  intro pins s σ H x y v u Q I rx ry h
  obtain ⟨d, e, hx, hy, al, ne, dp, q⟩ := h
  obtain ⟨as, ra⟩ := Has.reads I.hok d x v hx rx
  obtain ⟨bs, rb⟩ := Has.reads I.hok e y u hy ry
  exact PySem.W.lt_data ra rb al ne (by omega) ⟨.bl _, H, I, rfl, q⟩
def kTV : Option Bool → V
  | none => .non
  | some b => .bl b
/-- of one value, of two values -/
def spC1 (ok : Cell → Prop) (F : Cell → V) : Sp := fun vs H Q _ => ∃ c : Cell, vs = [c.v] ∧ ok c ∧ ∀ G, Kp [] H G → Q (F c) G
def spC2 (ok : Cell → Cell → Prop) (F : Cell → Cell → V) : Sp := fun vs H Q _ => ∃ c d : Cell, vs = [c.v, d.v] ∧ ok c d ∧ ∀ G, Kp [] H G → Q (F c d) G
def spBounded : Sp := fun vs H Q _ => ∃ i : Int, vs = [.int i] ∧ Q (bnd i).v H
def spVK : Sp := fun vs H Q _ => ∃ c : Cell, vs = [c.v] ∧ ∀ (r : Addr) (G : Hp), Kp [] H G → H r = none → Has G (.ref r) c.keyD → Q (.ref r) G
def spFT : Sp := fun vs H Q _ => ∃ o : Option Bool, vs = [kTV o] ∧ Q (ofT o).v H
def spT2 (F : Option Bool → Option Bool → Option Bool) : Sp := fun vs H Q _ => ∃ a b : Option Bool, vs = [kTV a, kTV b] ∧ Q (kTV (F a b)) H
def okI (c d : Cell) : Prop := ∃ i j, c = .int i ∧ d = .int j ∧ c.bd ∧ d.bd
def okB (c d : Cell) : Prop := c.bd ∧ d.bd
def spUn (u : Un) : Sp := spC1 Cell.bd fun c => (u.op c).v
def spBn (b : Bn) : Sp := spC2 (if b.num = true then okI else okB) fun c d => (b.op c d).v
structure TVal0 (mg : Str → Option Value) : Prop where
  g_GREATEST : ∃ u, mg "GREATEST" = some u ∧ RelV (.int GRT) u
  n_isinstance : mg "isinstance" = none
  n_int : mg "int" = none
  n_str : mg "str" = none
  n_len : mg "len" = none
  n_tuple : mg "tuple" = none
theorem kitT {a b : String} {r : Bool} (h : kitB a b = some r) {K : PySem.W.Frag} : PySem.W.kitOne K (.type a) (.type b) = some r := kit_ty h
section
variable {P : Program} {w : World} {K : PySem.W.Frag} {mg : Str → Option Value} {base : Heap}
theorem ok_value_key (D : GD K mg "value_key" sD_value_key ["value"]) (T : TVal0 mg) : Cal P w K mg base 1 "value_key" spVK [] := by
  refine D.cal sc_value_key (fun vs H Q E h => ?_) (fun f cdv A outer s0 H vs Q E hr h => ?_)
  · obtain ⟨c, rfl, _⟩ := h
    rfl
  obtain ⟨c, rfl, q⟩ := h
  have e3 : (3 : Nat) ≤ sizeLine := by decide
  refine ⟨_, (pss_cons (ps_if (pt_cmp (pc_isN (pv 0))) (pss_one (ps_ret (pe_tup (pa_cons pe_int (pa_cons pe_int (pa_cons pe_str pa_nil)))))) pss_nil)
    (pss_cons (ps_if (pt_val (pe_callB call_isi (by rfl) T.n_isinstance (by decide +kernel) (pa_cons (pv 0) (pa_cons (pe_bltn (v := .ty "str") (by rfl) T.n_str (by decide +kernel) rfl) pa_nil)))) (pss_one (ps_ret (pe_tup (pa_cons pe_int (pa_cons pe_int (pa_cons (pv 0) pa_nil)))))) pss_nil)
    (pss_one (ps_ret (pe_tup (pa_cons pe_int (pa_cons (pv 0) (pa_cons pe_str pa_nil)))))))), ?_⟩
  cases c with
  | non => exact ⟨_, rfl, _, rfl, iteT ⟨e3, fun r hr => q r _ (.new hr) hr (.tup upd_same (.cons (.int _) (.cons (.int _) (.cons (.str _) .nil))))⟩⟩
  | str s =>
    refine ⟨_, rfl, _, rfl, iteF ?_⟩
    refine ⟨_, rfl, _, _, _, _, _, rfl, .ty _, .base (.str s), kitT (r := true) (by decide +kernel), _, rfl, iteT ?_⟩
    exact ⟨_, rfl, e3, fun r hr => q r _ (.new hr) hr (.tup upd_same (.cons (.int _) (.cons (.int _) (.cons (.str _) .nil))))⟩
  | int i =>
    refine ⟨_, rfl, _, rfl, iteF ?_⟩
    refine ⟨_, rfl, _, _, _, _, _, rfl, .ty _, .base (.int i), kitT (r := false) (by decide +kernel), _, rfl, iteF ?_⟩
    exact ⟨_, rfl, e3, fun r hr => q r _ (.new hr) hr (.tup upd_same (.cons (.int _) (.cons (.int _) (.cons (.str _) .nil))))⟩
theorem ok_bounded (D : GD K mg "bounded" sD_bounded ["number"]) (T : TVal0 mg) : Cal P w K mg base 1 "bounded" spBounded [] := by
  refine D.cal sc_bounded (fun vs H Q E h => ?_) (fun f cdv A outer s0 H vs Q E hr h => ?_)
  · obtain ⟨i, rfl, _⟩ := h
    rfl
  obtain ⟨i, rfl, q⟩ := h
  refine ⟨_, (pss_cons (ps_if (pt_chain op_le op_le (pe_un un_neg (pe_gc rfl T.g_GREATEST)) (pv 0) (pe_gc rfl T.g_GREATEST)) (pss_one (ps_ret (pv 0))) pss_nil)
    (pss_one (ps_ret pe_non))), ?_⟩
  refine ⟨_, rfl, _, rfl, _, _, rfl, rfl, _, rfl, ?_⟩
  unfold bnd at q
  refine ite2 (fun c => ?_) (fun c => ?_)
  · have c : -GRT ≤ i := of_decide_eq_true c
    refine ⟨_, _, rfl, rfl, _, rfl, ite2 (fun c2 => ?_) (fun c2 => ?_)⟩
    · have c2 : i ≤ GRT := of_decide_eq_true c2
      rw [if_pos ⟨c, c2⟩] at q
      exact ⟨_, rfl, q⟩
    · rw [if_neg fun z => c2 (decide_eq_true z.2)] at q
      exact q
  · rw [if_neg fun z => c (decide_eq_true z.1)] at q
    exact ⟨_, rfl, iteF q⟩
theorem ok_vtruth (D : GD K mg "truth" sD_truth ["value"]) (T : TVal0 mg) : Cal P w K mg base 1 "truth" (spC1 (fun _ => True) fun c => kTV c.tru) [] := by
  refine D.cal sc_truth (fun vs H Q E h => ?_) (fun f cdv A outer s0 H vs Q E hr h => ?_)
  · obtain ⟨c, rfl, _⟩ := h
    rfl
  obtain ⟨c, rfl, _, q⟩ := h
  refine ⟨_, (pss_cons (ps_if (pt_val (pe_callB call_isi (by rfl) T.n_isinstance (by decide +kernel) (pa_cons (pv 0) (pa_cons (pe_bltn (v := .ty "int") (by rfl) T.n_int (by decide +kernel) rfl) pa_nil)))) (pss_one (ps_ret (pe_cmpR op_ne (pv 0) pe_int (nomark _)))) pss_nil)
    (pss_one (ps_ret pe_non))), ?_⟩
  cases c with
  | non => exact ⟨_, rfl, _, _, _, _, _, rfl, .ty _, .base .non, kitT (r := false) (by decide +kernel), _, rfl, iteF (q _ .refl)⟩
  | str s => exact ⟨_, rfl, _, _, _, _, _, rfl, .ty _, .base (.str s), kitT (r := false) (by decide +kernel), _, rfl, iteF (q _ .refl)⟩
  | int i =>
    refine ⟨_, rfl, _, _, _, _, _, rfl, .ty _, .base (.int i), kitT (r := true) (by decide +kernel), _, rfl, iteT ⟨_, rfl, rfl, ?_⟩⟩
    have := q _ .refl
    show Q (.bl (!decide (V.int i = V.int 0))) H
    rw [show decide (V.int i = V.int 0) = decide (i = 0) from decide_eq_decide.mpr ⟨V.int.inj, fun z => by rw [z]⟩]
    exact this
theorem ok_is_true (D : GD K mg "is_true" sD_is_true ["value"]) (T : TVal0 mg) : Cal P w K mg base 1 "is_true" (spC1 (fun _ => True) fun c => .bl c.yes) [] := by
  refine D.cal sc_is_true (fun vs H Q E h => ?_) (fun f cdv A outer s0 H vs Q E hr h => ?_)
  · obtain ⟨c, rfl, _⟩ := h
    rfl
  obtain ⟨c, rfl, _, q⟩ := h
  refine ⟨_, (pss_one (ps_ret (pe_and (pe_callB call_isi (by rfl) T.n_isinstance (by decide +kernel) (pa_cons (pv 0) (pa_cons (pe_bltn (v := .ty "int") (by rfl) T.n_int (by decide +kernel) rfl) pa_nil))) (pe_one (pe_cmpR op_ne (pv 0) pe_int (nomark _)))))), ?_⟩
  cases c with
  | non => exact ⟨_, rfl, _, _, _, _, _, rfl, .ty _, .base .non, kitT (r := false) (by decide +kernel), _, rfl, iteF (q _ .refl)⟩
  | str s => exact ⟨_, rfl, _, _, _, _, _, rfl, .ty _, .base (.str s), kitT (r := false) (by decide +kernel), _, rfl, iteF (q _ .refl)⟩
  | int i =>
    refine ⟨_, rfl, _, _, _, _, _, rfl, .ty _, .base (.int i), kitT (r := true) (by decide +kernel), _, rfl, iteT ⟨_, rfl, rfl, ?_⟩⟩
    have := q _ .refl
    show Q (.bl (!decide (V.int i = V.int 0))) H
    have e : (Cell.int i).yes = !decide (V.int i = V.int 0) := by
      show decide (some (!decide (i = 0)) = some true) = _
      by_cases z : i = 0
      · subst z; simp
      · have z' : ¬ V.int i = V.int 0 := fun h => z (V.int.inj h)
        simp [z, z']
    rw [← e]
    exact this
theorem ok_from_truth (D : GD K mg "from_truth" sD_from_truth ["known"]) : Cal P w K mg base 1 "from_truth" spFT [] := by
  refine D.cal sc_from_truth (fun vs H Q E h => ?_) (fun f cdv A outer s0 H vs Q E hr h => ?_)
  · obtain ⟨c, rfl, _⟩ := h
    rfl
  obtain ⟨o, rfl, q⟩ := h
  refine ⟨_, (pss_cons (ps_if (pt_cmp (pc_isN (pv 0))) (pss_one (ps_ret pe_non)) pss_nil)
    (pss_one (ps_ret (pe_ifExp (pt_val (pv 0)) pe_int pe_int)))), ?_⟩
  match o, q with
  | none, q => exact ⟨_, rfl, _, rfl, iteT q⟩
  | some true, q => exact ⟨_, rfl, _, rfl, iteF ⟨_, rfl, _, rfl, iteT q⟩⟩
  | some false, q => exact ⟨_, rfl, _, rfl, iteF ⟨_, rfl, _, rfl, iteF q⟩⟩
theorem kTV_nb (o : Option Bool) : kTV o = .non ∨ ∃ a, kTV o = .bl a := by cases o with
  | none => exact .inl rfl
  | some b => exact .inr ⟨b, rfl⟩
theorem ok_both_true (D : GD K mg "both_true" sD_both_true ["first", "second"]) : Cal P w K mg base 1 "both_true" (spT2 bothT) [] := by
  refine D.cal sc_both_true (fun vs H Q E h => ?_) (fun f cdv A outer s0 H vs Q E hr h => ?_)
  · obtain ⟨a, b, rfl, _⟩ := h
    rfl
  obtain ⟨a, b, rfl, q⟩ := h
  refine ⟨_, (pss_cons (ps_if (PW.pt (pw_or (pt_cmpR op_is_nb (pv 0) pe_bl (nomark _)) (pw_or1 (pt_cmpR op_is_nb (pv 1) pe_bl (nomark _))))) (pss_one (ps_ret pe_bl)) pss_nil)
    (pss_cons (ps_if (PW.pt (pw_or (pt_cmp (pc_isN (pv 0))) (pw_or1 (pt_cmp (pc_isN (pv 1)))))) (pss_one (ps_ret pe_non)) pss_nil)
    (pss_one (ps_ret pe_bl)))), ?_⟩
  match a, b, q with
  | some false, b, q =>
    have : bothT (some false) b = some false := by simp [bothT]
    rw [this] at q
    exact ⟨_, rfl, _, rfl, kTV_nb _, _, rfl, iteT (iteT q)⟩
  | none, some false, q => exact ⟨_, rfl, _, rfl, kTV_nb _, _, rfl, iteF ⟨_, rfl, _, rfl, kTV_nb _, _, rfl, iteT q⟩⟩
  | none, none, q => exact ⟨_, rfl, _, rfl, kTV_nb _, _, rfl, iteF ⟨_, rfl, _, rfl, kTV_nb _, _, rfl, iteF ⟨_, rfl, _, rfl, iteT (iteT q)⟩⟩⟩
  | none, some true, q => exact ⟨_, rfl, _, rfl, kTV_nb _, _, rfl, iteF ⟨_, rfl, _, rfl, kTV_nb _, _, rfl, iteF ⟨_, rfl, _, rfl, iteT (iteT q)⟩⟩⟩
  | some true, some false, q => exact ⟨_, rfl, _, rfl, kTV_nb _, _, rfl, iteF ⟨_, rfl, _, rfl, kTV_nb _, _, rfl, iteT q⟩⟩
  | some true, none, q => exact ⟨_, rfl, _, rfl, kTV_nb _, _, rfl, iteF ⟨_, rfl, _, rfl, kTV_nb _, _, rfl, iteF ⟨_, rfl, _, rfl, iteF ⟨_, rfl, _, rfl, iteT q⟩⟩⟩⟩
  | some true, some true, q => exact ⟨_, rfl, _, rfl, kTV_nb _, _, rfl, iteF ⟨_, rfl, _, rfl, kTV_nb _, _, rfl, iteF ⟨_, rfl, _, rfl, iteF ⟨_, rfl, _, rfl, iteF q⟩⟩⟩⟩
theorem ok_either_true (D : GD K mg "either_true" sD_either_true ["first", "second"]) : Cal P w K mg base 1 "either_true" (spT2 eitherT) [] := by
  refine D.cal sc_either_true (fun vs H Q E h => ?_) (fun f cdv A outer s0 H vs Q E hr h => ?_)
  · obtain ⟨a, b, rfl, _⟩ := h
    rfl
  obtain ⟨a, b, rfl, q⟩ := h
  refine ⟨_, (pss_cons (ps_if (PW.pt (pw_or (pt_cmpR op_is_nb (pv 0) pe_bl (nomark _)) (pw_or1 (pt_cmpR op_is_nb (pv 1) pe_bl (nomark _))))) (pss_one (ps_ret pe_bl)) pss_nil)
    (pss_cons (ps_if (PW.pt (pw_or (pt_cmp (pc_isN (pv 0))) (pw_or1 (pt_cmp (pc_isN (pv 1)))))) (pss_one (ps_ret pe_non)) pss_nil)
    (pss_one (ps_ret pe_bl)))), ?_⟩
  match a, b, q with
  | some true, b, q =>
    have : eitherT (some true) b = some true := by simp [eitherT]
    rw [this] at q
    exact ⟨_, rfl, _, rfl, kTV_nb _, _, rfl, iteT (iteT q)⟩
  | none, some true, q => exact ⟨_, rfl, _, rfl, kTV_nb _, _, rfl, iteF ⟨_, rfl, _, rfl, kTV_nb _, _, rfl, iteT q⟩⟩
  | none, none, q => exact ⟨_, rfl, _, rfl, kTV_nb _, _, rfl, iteF ⟨_, rfl, _, rfl, kTV_nb _, _, rfl, iteF ⟨_, rfl, _, rfl, iteT (iteT q)⟩⟩⟩
  | none, some false, q => exact ⟨_, rfl, _, rfl, kTV_nb _, _, rfl, iteF ⟨_, rfl, _, rfl, kTV_nb _, _, rfl, iteF ⟨_, rfl, _, rfl, iteT (iteT q)⟩⟩⟩
  | some false, some true, q => exact ⟨_, rfl, _, rfl, kTV_nb _, _, rfl, iteF ⟨_, rfl, _, rfl, kTV_nb _, _, rfl, iteT q⟩⟩
  | some false, none, q => exact ⟨_, rfl, _, rfl, kTV_nb _, _, rfl, iteF ⟨_, rfl, _, rfl, kTV_nb _, _, rfl, iteF ⟨_, rfl, _, rfl, iteF ⟨_, rfl, _, rfl, iteT q⟩⟩⟩⟩
  | some false, some false, q => exact ⟨_, rfl, _, rfl, kTV_nb _, _, rfl, iteF ⟨_, rfl, _, rfl, kTV_nb _, _, rfl, iteF ⟨_, rfl, _, rfl, iteF ⟨_, rfl, _, rfl, iteF q⟩⟩⟩⟩
end

/-! ### the operations on values -/
theorem Cell.bd.lay : ∀ {c : Cell}, c.bd → PyData.canLay0 c.data = true
  | .non, _ => by unfold Cell.data PyData.canLay0; rfl
  | .int _, _ => by unfold Cell.data PyData.canLay0; rfl
  | .str _, h => h.2
theorem Cell.shaped {c : Cell} (h : PySem.PyData.canLay0 c.data = true) : SeqAt.shaped c.keyD = true := by
  have h0 : PyData.canLay0 (.str "") = true := by unfold PyData.canLay0; decide +kernel
  show (PyData.canLay0 c.keyD && decide (c.keyD.depth ≤ 64)) = true
  rw [Bool.and_eq_true]
  refine ⟨?_, decide_eq_true (by rw [keyD_depth]; decide)⟩
  cases c with
  | non => simp only [Cell.keyD, PyData.canLay0, PyData.canLayAll0, Bool.and_true] at h0 ⊢; exact h0
  | int i => simp only [Cell.keyD, PyData.canLay0, PyData.canLayAll0, Bool.and_true] at h0 ⊢; exact h0
  | str s =>
    simp only [Cell.keyD, PyData.canLay0, PyData.canLayAll0, Bool.and_true] at h ⊢
    simpa [Cell.data, PyData.canLay0] using h
section
variable {P : Program} {w : World} {K : PySem.W.Frag} {mg : Str → Option Value} {base : Heap}
theorem ok_add (D : GD K mg "add" sD_add ["first", "second"]) (T : TVal0 mg) (c_bounded : Cal P w K mg base 1 "bounded" spBounded []) : Cal P w K mg base 2 "add" (spBn .add) [] := by
  refine D.cal sc_add (fun vs H Q E h => ?_) (fun f cdv A outer s0 H vs Q E hr h => ?_)
  · obtain ⟨c, d, rfl, _⟩ := h
    rfl
  obtain ⟨c, d, rfl, ⟨i, j, rfl, rfl, bi, bj⟩, q⟩ := h
  refine ⟨_, (pss_one (ps_ret (pe_c c_bounded hr (by omega) rfl (pa_cons (pe_op op_add (pv 0) (pv 1)) pa_nil)))), ?_⟩
  exact ⟨_, rfl, _, rfl, _, _, rfl, rfl, _, rfl, q _ .refl⟩
theorem ok_subtract (D : GD K mg "subtract" sD_subtract ["first", "second"]) (T : TVal0 mg) (c_bounded : Cal P w K mg base 1 "bounded" spBounded []) : Cal P w K mg base 2 "subtract" (spBn .subtract) [] := by
  refine D.cal sc_subtract (fun vs H Q E h => ?_) (fun f cdv A outer s0 H vs Q E hr h => ?_)
  · obtain ⟨c, d, rfl, _⟩ := h
    rfl
  obtain ⟨c, d, rfl, ⟨i, j, rfl, rfl, bi, bj⟩, q⟩ := h
  refine ⟨_, (pss_one (ps_ret (pe_c c_bounded hr (by omega) rfl (pa_cons (pe_op op_sub (pv 0) (pv 1)) pa_nil)))), ?_⟩
  exact ⟨_, rfl, _, rfl, _, _, rfl, rfl, _, rfl, q _ .refl⟩
theorem ok_multiply (D : GD K mg "multiply" sD_multiply ["first", "second"]) (T : TVal0 mg) (c_bounded : Cal P w K mg base 1 "bounded" spBounded []) : Cal P w K mg base 2 "multiply" (spBn .multiply) [] := by
  refine D.cal sc_multiply (fun vs H Q E h => ?_) (fun f cdv A outer s0 H vs Q E hr h => ?_)
  · obtain ⟨c, d, rfl, _⟩ := h
    rfl
  obtain ⟨c, d, rfl, ⟨i, j, rfl, rfl, bi, bj⟩, q⟩ := h
  refine ⟨_, (pss_one (ps_ret (pe_c c_bounded hr (by omega) rfl (pa_cons (pe_op op_mul (pv 0) (pv 1)) pa_nil)))), ?_⟩
  have bi : -GRT ≤ i ∧ i ≤ GRT := bi
  unfold GRT at bi
  exact ⟨_, rfl, _, rfl, _, _, rfl, rfl, .inl ⟨by omega, by omega⟩, _, rfl, q _ .refl⟩
theorem nat_lt_two (i : Int) (h : -GRT ≤ i ∧ i ≤ GRT) : i.natAbs < 2 ^ 64 := by
  unfold GRT at h
  omega
theorem ok_divide (D : GD K mg "divide" sD_divide ["first", "second"]) (T : TVal0 mg) (c_bounded : Cal P w K mg base 1 "bounded" spBounded []) : Cal P w K mg base 2 "divide" (spBn .divide) [] := by
  refine D.cal sc_divide (fun vs H Q E h => ?_) (fun f cdv A outer s0 H vs Q E hr h => ?_)
  · obtain ⟨c, d, rfl, _⟩ := h
    rfl
  obtain ⟨c, d, rfl, ⟨i, j, rfl, rfl, bi, bj⟩, q⟩ := h
  refine ⟨_, (pss_one (ps_ret (pe_ifExp (pt_cmpR op_ge (pv 1) pe_int (nomark _)) (pe_c c_bounded hr (by omega) rfl (pa_cons (pe_op op_fdivW (pv 0) (pv 1)) pa_nil)) pe_non))), ?_⟩
  have q : ∀ G, Kp [] H G → Q (if 1 ≤ j then bnd (i / j) else .non).v G := q
  refine ⟨_, rfl, _, _, rfl, rfl, _, rfl, ite2 (fun c => ?_) (fun c => ?_)⟩
  · have c : 1 ≤ j := of_decide_eq_true c
    rw [if_pos c] at q
    exact ⟨_, rfl, _, rfl, _, _, rfl, rfl, wide_div (b := 64) (by omega) (nat_lt_two j bj) (by decide) (by decide), _, rfl, q _ .refl⟩
  · rw [if_neg fun z => c (decide_eq_true z)] at q
    exact q _ .refl
theorem ok_remainder (D : GD K mg "remainder" sD_remainder ["first", "second"]) (T : TVal0 mg) (c_bounded : Cal P w K mg base 1 "bounded" spBounded []) : Cal P w K mg base 2 "remainder" (spBn .remainder) [] := by
  refine D.cal sc_remainder (fun vs H Q E h => ?_) (fun f cdv A outer s0 H vs Q E hr h => ?_)
  · obtain ⟨c, d, rfl, _⟩ := h
    rfl
  obtain ⟨c, d, rfl, ⟨i, j, rfl, rfl, bi, bj⟩, q⟩ := h
  refine ⟨_, (pss_one (ps_ret (pe_ifExp (pt_cmpR op_ge (pv 1) pe_int (nomark _)) (pe_c c_bounded hr (by omega) rfl (pa_cons (pe_op op_mod (pv 0) (pv 1)) pa_nil)) pe_non))), ?_⟩
  have q : ∀ G, Kp [] H G → Q (if 1 ≤ j then bnd (i % j) else .non).v G := q
  refine ⟨_, rfl, _, _, rfl, rfl, _, rfl, ite2 (fun c => ?_) (fun c => ?_)⟩
  · have c : 1 ≤ j := of_decide_eq_true c
    rw [if_pos c] at q
    exact ⟨_, rfl, _, rfl, _, _, rfl, rfl, by show (0 : Int) < j; omega, _, rfl, q _ .refl⟩
  · rw [if_neg fun z => c (decide_eq_true z)] at q
    exact q _ .refl
theorem ok_negate (D : GD K mg "negate" sD_negate ["value"]) (T : TVal0 mg) (c_bounded : Cal P w K mg base 1 "bounded" spBounded []) : Cal P w K mg base 2 "negate" (spUn .negate) [] := by
  refine D.cal sc_negate (fun vs H Q E h => ?_) (fun f cdv A outer s0 H vs Q E hr h => ?_)
  · obtain ⟨c, rfl, _⟩ := h
    rfl
  obtain ⟨c, rfl, bc, q⟩ := h
  refine ⟨_, (pss_one (ps_ret (pe_ifExp (pt_val (pe_callB call_isi (by rfl) T.n_isinstance (by decide +kernel) (pa_cons (pv 0) (pa_cons (pe_bltn (v := .ty "int") (by rfl) T.n_int (by decide +kernel) rfl) pa_nil)))) (pe_c c_bounded hr (by omega) rfl (pa_cons (pe_un un_neg (pv 0)) pa_nil)) pe_non))), ?_⟩
  cases c with
  | non => exact ⟨_, rfl, _, _, _, _, _, rfl, .ty _, .base .non, kitT (r := false) (by decide +kernel), _, rfl, iteF (q _ .refl)⟩
  | str s => exact ⟨_, rfl, _, _, _, _, _, rfl, .ty _, .base (.str s), kitT (r := false) (by decide +kernel), _, rfl, iteF (q _ .refl)⟩
  | int i => exact ⟨_, rfl, _, _, _, _, _, rfl, .ty _, .base (.int i), kitT (r := true) (by decide +kernel), _, rfl, iteT ⟨_, rfl, _, rfl, _, rfl, q _ .refl⟩⟩
theorem ok_is_false (D : GD K mg "is_false" sD_is_false ["value"]) (c_truth : Cal P w K mg base 1 "truth" (spC1 (fun _ => True) fun c => kTV c.tru) []) (c_from_truth : Cal P w K mg base 1 "from_truth" spFT []) : Cal P w K mg base 2 "is_false" (spUn .not) [] := by
  refine D.cal sc_is_false (fun vs H Q E h => ?_) (fun f cdv A outer s0 H vs Q E hr h => ?_)
  · obtain ⟨c, rfl, _⟩ := h
    rfl
  obtain ⟨c, rfl, bc, q⟩ := h
  refine ⟨_, (pss_cons (ps_set (i := 1) sc_is_false.nd rfl (Or.inl rfl) (pe_c c_truth hr (by omega) rfl (pa_cons (pv 0) pa_nil)))
    (pss_one (ps_ret (pe_ifExp (pt_cmp (pc_isN (pv 1))) pe_non (pe_c c_from_truth hr (by omega) rfl (pa_cons (pe_not (pv 1)) pa_nil)))))), ?_⟩
  have q : ∀ G, Kp [] H G → Q (match c.tru with | none => Cell.non | some b => ofT (some !b)).v G := q
  refine ⟨_, rfl, c, rfl, trivial, fun G k => ?_⟩
  show gName 1 (kTV c.tru) _ _ _
  cases e : c.tru with
  | none =>
    rw [e] at q
    exact ⟨_, rfl, _, rfl, iteT (q _ k)⟩
  | some b =>
    rw [e] at q
    exact ⟨_, rfl, _, rfl, iteF ⟨_, rfl, _, rfl, some (!b), rfl, q _ k⟩⟩
theorem ok_is_missing (D : GD K mg "is_missing" sD_is_missing ["value"]) : Cal P w K mg base 2 "is_missing" (spUn .missing) [] := by
  refine (D.cal sc_is_missing (k := 1) (fun vs H Q E h => ?_) (fun f cdv A outer s0 H vs Q E hr h => ?_))
  · obtain ⟨c, rfl, _⟩ := h
    rfl
  obtain ⟨c, rfl, bc, q⟩ := h
  refine ⟨_, (pss_one (ps_ret (pe_ifExp (pt_cmp (pc_isN (pv 0))) pe_int pe_int))), ?_⟩
  cases c with
  | non => exact ⟨_, rfl, _, rfl, iteT (q _ .refl)⟩
  | str s => exact ⟨_, rfl, _, rfl, iteF (q _ .refl)⟩
  | int i => exact ⟨_, rfl, _, rfl, iteF (q _ .refl)⟩
theorem ok_vlength (D : GD K mg "length" sD_length ["value"]) (T : TVal0 mg) : Cal P w K mg base 2 "length" (spUn .length) [] := by
  refine (D.cal sc_length (k := 1) (fun vs H Q E h => ?_) (fun f cdv A outer s0 H vs Q E hr h => ?_))
  · obtain ⟨c, rfl, _⟩ := h
    rfl
  obtain ⟨c, rfl, bc, q⟩ := h
  refine ⟨_, (pss_one (ps_ret (pe_ifExp (pt_val (pe_callB call_isi (by rfl) T.n_isinstance (by decide +kernel) (pa_cons (pv 0) (pa_cons (pe_bltn (v := .ty "str") (by rfl) T.n_str (by decide +kernel) rfl) pa_nil)))) (pe_callB call_len (by rfl) T.n_len (by decide +kernel) (pa_cons (pv 0) pa_nil)) pe_non))), ?_⟩
  cases c with
  | non => exact ⟨_, rfl, _, _, _, _, _, rfl, .ty _, .base .non, kitT (r := false) (by decide +kernel), _, rfl, iteF (q _ .refl)⟩
  | int i => exact ⟨_, rfl, _, _, _, _, _, rfl, .ty _, .base (.int i), kitT (r := false) (by decide +kernel), _, rfl, iteF (q _ .refl)⟩
  | str s =>
    have bc : s.length ≤ 1000 := Nat.le_trans bc.1 (by decide)
    exact ⟨_, rfl, _, _, _, _, _, rfl, .ty _, .base (.str s), kitT (r := true) (by decide +kernel), _, rfl, iteT ⟨_, rfl, _, _, rfl, ⟨small bc, rfl⟩, q _ .refl⟩⟩
theorem okB_of {b : Bn} {c d : Cell} (h : (if b.num = true then okI else okB) c d) (n : b.num = false) : c.bd ∧ d.bd := by
  rw [n] at h
  exact h
theorem ok_is_less (D : GD K mg "is_less" sD_is_less ["first", "second"]) (c_value_key : Cal P w K mg base 1 "value_key" spVK []) : Cal P w K mg base 2 "is_less" (spBn .less) [] := by
  refine D.cal sc_is_less (fun vs H Q E h => ?_) (fun f cdv A outer s0 H vs Q E hr h => ?_)
  · obtain ⟨c, d, rfl, _⟩ := h
    rfl
  obtain ⟨c, d, rfl, _, q⟩ := h
  refine ⟨_, (pss_cons (ps_if (PW.pt (pw_or (pt_cmp (pc_isN (pv 0))) (pw_or1 (pt_cmp (pc_isN (pv 1)))))) (pss_one (ps_ret pe_non)) pss_nil)
    (pss_one (ps_ret (pe_ifExp (pt_cmpR (op_ltDt (hu65 hr)) (pe_c c_value_key hr (by omega) rfl (pa_cons (pv 0) pa_nil)) (pe_c c_value_key hr (by omega) rfl (pa_cons (pv 1) pa_nil)) (nomark _)) pe_int pe_int)))), ?_⟩
  have q : ∀ G, Kp [] H G → Q (if c = .non ∨ d = .non then Cell.non else ofB (cLt c d)).v G := q
  have nn : ∀ {x : Cell}, x ≠ .non → decide (x.v = V.non) = false := fun {x} n => decide_eq_false fun z => by
    cases x with
    | non => exact n rfl
    | int i => cases z
    | str s => cases z
  by_cases hc : c = .non
  · subst hc
    exact ⟨_, rfl, _, rfl, iteT (iteT (q _ .refl))⟩
  refine ⟨_, rfl, _, rfl, ?_⟩
  rw [nn hc]
  by_cases hd : d = .non
  · subst hd
    rw [if_pos (.inr rfl)] at q
    exact iteF ⟨_, rfl, _, rfl, iteT (q _ .refl)⟩
  refine iteF ⟨_, rfl, _, rfl, ?_⟩
  rw [nn hd]
  rw [if_neg fun z => z.elim hc hd] at q
  refine iteF ⟨_, rfl, c, rfl, fun r1 G1 k1 _ h1 => ⟨_, rfl, d, rfl, fun r2 G2 k2 _ h2 => ?_⟩⟩
  refine ⟨_, _, Has.kp k2 _ _ h1, h2, keyD_alike _ _, keyD_ne _, by rw [keyD_depth]; decide, _, rfl, ?_⟩
  have qq := q _ (k1.trans k2)
  cases e : cLt c d with
  | true => rw [e] at qq; exact iteT_of e qq
  | false => rw [e] at qq; exact iteF_of e qq
theorem ok_is_equal (D : GD K mg "is_equal" sD_is_equal ["first", "second"]) (c_value_key : Cal P w K mg base 1 "value_key" spVK []) : Cal P w K mg base 2 "is_equal" (spBn .equal) [] := by
  refine D.cal sc_is_equal (fun vs H Q E h => ?_) (fun f cdv A outer s0 H vs Q E hr h => ?_)
  · obtain ⟨c, d, rfl, _⟩ := h
    rfl
  obtain ⟨c, d, rfl, bb, q⟩ := h
  obtain ⟨b1, b2⟩ := okB_of (b := .equal) bb rfl
  have l1 := Cell.bd.lay b1
  have l2 := Cell.bd.lay b2
  refine ⟨_, (pss_cons (ps_if (PW.pt (pw_or (pt_cmp (pc_isN (pv 0))) (pw_or1 (pt_cmp (pc_isN (pv 1)))))) (pss_one (ps_ret pe_non)) pss_nil)
    (pss_one (ps_ret (pe_ifExp (pt_cmpR (op_eqD hr.units) (pe_c c_value_key hr (by omega) rfl (pa_cons (pv 0) pa_nil)) (pe_c c_value_key hr (by omega) rfl (pa_cons (pv 1) pa_nil)) (nomark _)) pe_int pe_int)))), ?_⟩
  have q : ∀ G, Kp [] H G → Q (if c = .non ∨ d = .non then Cell.non else ofB (decide (c = d))).v G := q
  have nn : ∀ {x : Cell}, x ≠ .non → decide (x.v = V.non) = false := fun {x} n => decide_eq_false fun z => by
    cases x with
    | non => exact n rfl
    | int i => cases z
    | str s => cases z
  by_cases hc : c = .non
  · subst hc
    exact ⟨_, rfl, _, rfl, iteT (iteT (q _ .refl))⟩
  refine ⟨_, rfl, _, rfl, ?_⟩
  rw [nn hc]
  by_cases hd : d = .non
  · subst hd
    rw [if_pos (.inr rfl)] at q
    exact iteF ⟨_, rfl, _, rfl, iteT (q _ .refl)⟩
  refine iteF ⟨_, rfl, _, rfl, ?_⟩
  rw [nn hd]
  rw [if_neg fun z => z.elim hc hd] at q
  refine iteF ⟨_, rfl, c, rfl, fun r1 G1 k1 _ h1 => ⟨_, rfl, d, rfl, fun r2 G2 k2 _ h2 => ?_⟩⟩
  refine ⟨_, _, Has.dp _ _ (Has.kp k2 _ _ h1), Has.dp _ _ h2, Cell.shaped l1, Cell.shaped l2, _, rfl, ?_⟩
  rw [keyD_eqv]
  have qq := q _ (k1.trans k2)
  cases e : decide (c = d) with
  | true => rw [e] at qq; exact iteT qq
  | false => rw [e] at qq; exact iteF qq
end

/-! ### evaluation -/
structure TVals (P : Program) (K : PySem.W.Frag) (w : World) (mg : Str → Option Value) (base : Heap) (a1 aN a2 : Addr) (es1 esN es2 : Array DictEntry) (n1 nN n2 : Nat) (f1 : Un → Addr) (f2 : Bn → Addr) : Prop extends TVal0 mg where
  g_ONE : ∃ u, mg "ONE" = some u ∧ RelV (.ref a1) u
  g_NUMBERS : ∃ u, mg "NUMBERS" = some u ∧ RelV (.ref aN) u
  g_TWO : ∃ u, mg "TWO" = some u ∧ RelV (.ref a2) u
  d_ONE : KDict K w a1 es1 n1
  d_NUMBERS : KDict K w aN esN nN
  d_TWO : KDict K w a2 es2 n2
  in1 : ∀ u : Un, PySem.W.nsIn K a1 u.str = some (some (.ref (f1 u)))
  no1 : ∀ b : Bn, PySem.W.nsIn K a1 b.str = some none
  inN : ∀ b : Bn, b.num = true → PySem.W.nsIn K aN b.str = some (some (.ref (f2 b)))
  noN : ∀ b : Bn, b.num = false → PySem.W.nsIn K aN b.str = some none
  in2 : ∀ b : Bn, b.num = false → PySem.W.nsIn K a2 b.str = some (some (.ref (f2 b)))
  held1 : ∀ u : Un, Held P w K mg base 2 (f1 u) (spUn u)
  held2 : ∀ b : Bn, Held P w K mg base 2 (f2 b) (spBn b)
theorem heldUp {P : Program} {w : World} {K : PySem.W.Frag} {mg : Str → Option Value} {base : Heap} {i j : Nat} {f : Addr} {sp : Sp} (h : Held P w K mg base i f sp) (hij : i ≤ j) : Held P w K mg base j f sp := by
  obtain ⟨fd, ps, F, r⟩ := h.ex
  exact ⟨fd, ps, F.mono hij, r⟩
theorem kdct_of {K : PySem.W.Frag} {w : World} {a : Addr} {es : Array DictEntry} {n : Nat} {z : Str} {f : Addr} (D : KDict K w a es n) (h : PySem.W.nsIn K a z = some (some (.ref f))) : KDct K w a z (.ref f) := ⟨es, n, _, D.at_, D.lit, h, rfl⟩
def spApply : Sp := fun vs H Q _ => ∃ (b : Bn) (c d : Cell), vs = [.str b.str, c.v, d.v] ∧ c.bd ∧ d.bd ∧ ∀ G, Kp [] H G → Q (b.op c d).v G
def spEval (n : Nat) : Sp := fun vs H Q _ => ∃ (r ra : Addr) (e : Ex) (cs : List Cell), vs = [.ref r, .ref ra] ∧ ExAt H e r ∧ H ra = some (.tup (cs.map Cell.v)) ∧ e.In cs.length ∧ e.cb ∧ rbd cs ∧ e.depth + 4 ≤ n ∧ ∀ G, Kp [] H G → Q (e.ev cs).v G
theorem cell_at {cs : List Cell} {i : Nat} (h : i < cs.length) : atI (cs.map Cell.v) (i : Int) = some (cs.getD i .non).v := at_of rfl (by
  rw [List.getElem?_map, List.getElem?_eq_getElem h]
  simp [h])
theorem ints_no {b : Bn} (n : b.num = true) {c d : Cell} (h : ¬ ∃ i j, c = .int i ∧ d = .int j) : b.op c d = .non := by
  have key : ∀ f, ints2 f c d = .non := fun f => by
    cases c with
    | non => cases d <;> rfl
    | str s => cases d <;> rfl
    | int i => cases d with
      | non => rfl
      | str s => rfl
      | int j => exact absurd ⟨i, j, rfl, rfl⟩ h
  cases b with
  | add => exact key _
  | subtract => exact key _
  | multiply => exact key _
  | divide => exact key _
  | remainder => exact key _
  | less => cases n
  | equal => cases n
  | and => cases n
  | or => cases n
  | starts => cases n
section
variable {P : Program} {w : World} {K : PySem.W.Frag} {mg : Str → Option Value} {base : Heap} {a1 aN a2 : Addr} {es1 esN es2 : Array DictEntry} {n1 nN n2 : Nat} {f1 : Un → Addr} {f2 : Bn → Addr}
theorem ok_vconj (D : GD K mg "conjunction" sD_conjunction ["first", "second"]) (c_truth : Cal P w K mg base 1 "truth" (spC1 (fun _ => True) fun c => kTV c.tru) []) (c_from_truth : Cal P w K mg base 1 "from_truth" spFT []) (c_both_true : Cal P w K mg base 1 "both_true" (spT2 bothT) []) :
    Cal P w K mg base 2 "conjunction" (spBn .and) [] := by
  refine D.cal sc_conjunction (fun vs H Q E h => ?_) (fun f cdv A outer s0 H vs Q E hr h => ?_)
  · obtain ⟨c, d, rfl, _⟩ := h
    rfl
  obtain ⟨c, d, rfl, _, q⟩ := h
  refine ⟨_, (pss_one (ps_ret (pe_c c_from_truth hr (by omega) rfl (pa_cons (pe_c c_both_true hr (by omega) rfl (pa_cons (pe_c c_truth hr (by omega) rfl (pa_cons (pv 0) pa_nil)) (pa_cons (pe_c c_truth hr (by omega) rfl (pa_cons (pv 1) pa_nil)) pa_nil))) pa_nil)))), ?_⟩
  exact ⟨_, rfl, c, rfl, trivial, fun G1 k1 => ⟨_, rfl, d, rfl, trivial, fun G2 k2 => ⟨c.tru, d.tru, rfl, bothT c.tru d.tru, rfl, q _ (k1.trans k2)⟩⟩⟩
theorem ok_vdisj (D : GD K mg "disjunction" sD_disjunction ["first", "second"]) (c_truth : Cal P w K mg base 1 "truth" (spC1 (fun _ => True) fun c => kTV c.tru) []) (c_from_truth : Cal P w K mg base 1 "from_truth" spFT []) (c_either_true : Cal P w K mg base 1 "either_true" (spT2 eitherT) []) :
    Cal P w K mg base 2 "disjunction" (spBn .or) [] := by
  refine D.cal sc_disjunction (fun vs H Q E h => ?_) (fun f cdv A outer s0 H vs Q E hr h => ?_)
  · obtain ⟨c, d, rfl, _⟩ := h
    rfl
  obtain ⟨c, d, rfl, _, q⟩ := h
  refine ⟨_, (pss_one (ps_ret (pe_c c_from_truth hr (by omega) rfl (pa_cons (pe_c c_either_true hr (by omega) rfl (pa_cons (pe_c c_truth hr (by omega) rfl (pa_cons (pv 0) pa_nil)) (pa_cons (pe_c c_truth hr (by omega) rfl (pa_cons (pv 1) pa_nil)) pa_nil))) pa_nil)))), ?_⟩
  exact ⟨_, rfl, c, rfl, trivial, fun G1 k1 => ⟨_, rfl, d, rfl, trivial, fun G2 k2 => ⟨c.tru, d.tru, rfl, eitherT c.tru d.tru, rfl, q _ (k1.trans k2)⟩⟩⟩
theorem ok_starts (D : GD K mg "starts" sD_starts ["first", "second"]) (T : TVal0 mg) : Cal P w K mg base 2 "starts" (spBn .starts) [] := by
  refine (D.cal sc_starts (k := 1) (fun vs H Q E h => ?_) (fun f cdv A outer s0 H vs Q E hr h => ?_))
  · obtain ⟨c, d, rfl, _⟩ := h
    rfl
  obtain ⟨c, d, rfl, _, q⟩ := h
  refine ⟨_, (pss_cons (ps_if (PW.pt (pw_and (pt_val (pe_callB call_isi (by rfl) T.n_isinstance (by decide +kernel) (pa_cons (pv 0) (pa_cons (pe_bltn (v := .ty "str") (by rfl) T.n_str (by decide +kernel) rfl) pa_nil)))) (pw_and1 (pt_val (pe_callB call_isi (by rfl) T.n_isinstance (by decide +kernel) (pa_cons (pv 1) (pa_cons (pe_bltn (v := .ty "str") (by rfl) T.n_str (by decide +kernel) rfl) pa_nil))))))) (pss_one (ps_ret (pe_ifExp (pt_val (pe_m1 PySem.F.slot_str_startswith PySem.F.type_str_startswith mt_startswith (pv 0) (pv 1))) pe_int pe_int))) pss_nil)
    (pss_one (ps_ret pe_non))), ?_⟩
  have q : ∀ G, Kp [] H G → Q (strs2 (fun a b => ofB (Txt.startswith a b)) c d).v G := q
  cases c with
  | non => exact ⟨_, rfl, _, _, _, _, _, rfl, .ty _, .base .non, kitT (r := false) (by decide +kernel), _, rfl, iteF (iteF (q _ .refl))⟩
  | int i => exact ⟨_, rfl, _, _, _, _, _, rfl, .ty _, .base (.int i), kitT (r := false) (by decide +kernel), _, rfl, iteF (iteF (q _ .refl))⟩
  | str s =>
    refine ⟨_, rfl, _, _, _, _, _, rfl, .ty _, .base (.str s), kitT (r := true) (by decide +kernel), _, rfl, iteT ?_⟩
    cases d with
    | non => exact ⟨_, rfl, _, _, _, _, _, rfl, .ty _, .base .non, kitT (r := false) (by decide +kernel), _, rfl, iteF (q _ .refl)⟩
    | int i => exact ⟨_, rfl, _, _, _, _, _, rfl, .ty _, .base (.int i), kitT (r := false) (by decide +kernel), _, rfl, iteF (q _ .refl)⟩
    | str z =>
      refine ⟨_, rfl, _, _, _, _, _, rfl, .ty _, .base (.str z), kitT (r := true) (by decide +kernel), _, rfl, iteT ?_⟩
      refine ⟨_, rfl, ⟨_, rfl⟩, _, rfl, _, _, rfl, rfl, _, rfl, ?_⟩
      have q : ∀ G, Kp [] H G → Q (ofB (Txt.startswith s z)).v G := q
      cases e : Txt.startswith s z with
      | true => rw [e] at q; exact iteT (q _ .refl)
      | false => rw [e] at q; exact iteF (q _ .refl)
theorem ok_apply_two (D : GD K mg "apply_two" sD_apply_two ["form", "first", "second"]) (T : TVals P K w mg base a1 aN a2 es1 esN es2 n1 nN n2 f1 f2) : Cal P w K mg base 3 "apply_two" spApply [] := by
  refine D.cal sc_apply_two (fun vs H Q E h => ?_) (fun f cdv A outer s0 H vs Q E hr h => ?_)
  · obtain ⟨b, c, d, rfl, _⟩ := h
    rfl
  obtain ⟨b, c, d, rfl, bc, bd, q⟩ := h
  have A_action : ∀ f sp, (fun g => if g = f2 b then some (spBn b) else none) f = some sp → Held P w K mg base 2 f sp := fun f sp h => by
    dsimp only at h
    split at h
    · rename_i e
      cases h
      rw [e]
      exact T.held2 b
    · cases h
  refine ⟨_, (pss_cons (ps_if (pt_cmpR (op_in_kd T.d_NUMBERS) (pv 0) (pe_gc rfl T.g_NUMBERS) (by rfl)) (pss_cons (ps_if (PW.pt (pw_and (pt_val (pe_callB call_isi (by rfl) T.n_isinstance (by decide +kernel) (pa_cons (pv 1) (pa_cons (pe_bltn (v := .ty "int") (by rfl) T.n_int (by decide +kernel) rfl) pa_nil)))) (pw_and1 (pt_val (pe_callB call_isi (by rfl) T.n_isinstance (by decide +kernel) (pa_cons (pv 2) (pa_cons (pe_bltn (v := .ty "int") (by rfl) T.n_int (by decide +kernel) rfl) pa_nil))))))) (pss_cons (ps_set (i := 3) sc_apply_two.nd rfl (Or.inl rfl) (pe_ix ix_kdict (pe_gc rfl T.g_NUMBERS) (pv 0) (fun _ _ => rfl)))
    (pss_one (ps_ret (pe_callA (i := 3) A_action hr rfl (Or.inl rfl) (pa_cons (pv 1) (pa_cons (pv 2) pa_nil)))))) pss_nil)
    (pss_one (ps_ret pe_non))) pss_nil)
    (pss_cons (ps_set (i := 3) sc_apply_two.nd rfl (Or.inl rfl) (pe_ix ix_kdict (pe_gc rfl T.g_TWO) (pv 0) (fun _ _ => rfl)))
    (pss_one (ps_ret (pe_callA (i := 3) A_action hr rfl (Or.inl rfl) (pa_cons (pv 1) (pa_cons (pv 2) pa_nil))))))), ?_⟩
  cases hn : b.num with
  | true =>
    refine ⟨_, rfl, _, _, rfl, rfl, T.inN b hn, _, rfl, iteT ?_⟩
    by_cases hi : ∃ i j, c = .int i ∧ d = .int j
    · obtain ⟨i, j, rfl, rfl⟩ := hi
      refine ⟨_, rfl, _, _, _, _, _, rfl, .ty _, .base (.int i), kitT (r := true) (by decide +kernel), _, rfl, iteT ?_⟩
      refine ⟨_, rfl, _, _, _, _, _, rfl, .ty _, .base (.int j), kitT (r := true) (by decide +kernel), _, rfl, iteT ?_⟩
      refine ⟨_, rfl, aN, _, _, rfl, rfl, kdct_of T.d_NUMBERS (T.inN b hn), ?_⟩
      refine ⟨f2 b, spBn b, rfl, if_pos rfl, _, rfl, _, rfl, .int i, .int j, rfl, ?_, q⟩
      rw [hn]
      exact ⟨i, j, rfl, rfl, bc, bd⟩
    · rw [ints_no hn hi] at q
      cases c with
      | non => exact ⟨_, rfl, _, _, _, _, _, rfl, .ty _, .base .non, kitT (r := false) (by decide +kernel), _, rfl, iteF (iteF (q _ .refl))⟩
      | str s => exact ⟨_, rfl, _, _, _, _, _, rfl, .ty _, .base (.str s), kitT (r := false) (by decide +kernel), _, rfl, iteF (iteF (q _ .refl))⟩
      | int i =>
        refine ⟨_, rfl, _, _, _, _, _, rfl, .ty _, .base (.int i), kitT (r := true) (by decide +kernel), _, rfl, iteT ?_⟩
        cases d with
        | non => exact ⟨_, rfl, _, _, _, _, _, rfl, .ty _, .base .non, kitT (r := false) (by decide +kernel), _, rfl, iteF (q _ .refl)⟩
        | str s => exact ⟨_, rfl, _, _, _, _, _, rfl, .ty _, .base (.str s), kitT (r := false) (by decide +kernel), _, rfl, iteF (q _ .refl)⟩
        | int j => exact absurd ⟨i, j, rfl, rfl⟩ hi
  | false =>
    refine ⟨_, rfl, _, _, rfl, rfl, T.noN b hn, _, rfl, iteF ?_⟩
    refine ⟨_, rfl, a2, _, _, rfl, rfl, kdct_of T.d_TWO (T.in2 b hn), ?_⟩
    refine ⟨f2 b, spBn b, rfl, if_pos rfl, _, rfl, _, rfl, c, d, rfl, ?_, q⟩
    rw [hn]
    exact ⟨bc, bd⟩
theorem eval_step {n : Nat} (D : GD K mg "evaluate" sD_evaluate ["expression", "row"]) (T : TVals P K w mg base a1 aN a2 es1 esN es2 n1 nN n2 f1 f2) (c_is_true : Cal P w K mg base 1 "is_true" (spC1 (fun _ => True) fun c => .bl c.yes) []) (c_apply_two : Cal P w K mg base 3 "apply_two" spApply [])
    (c_evaluate : Cal P w K mg base n "evaluate" (spEval n) []) : Cal P w K mg base (n + 1) "evaluate" (spEval (n + 1)) [] := by
  refine D.cal sc_evaluate (fun vs H Q E h => ?_) (fun f cdv A outer s0 H vs Q E hr h => ?_)
  · obtain ⟨r, ra, e, cs, rfl, _⟩ := h
    rfl
  obtain ⟨r, ra, e, cs, rfl, he, hra, hin, hcb, hrb, hd, q⟩ := h
  have hn1 : 3 ≤ n := by omega
  obtain ⟨un, hun⟩ : ∃ un : Un, ∀ u a, e = .un u a → un = u := by
    cases e with
    | un o a => exact ⟨o, fun u b h => by cases h; rfl⟩
    | con c => exact ⟨.not, fun u b h => by cases h⟩
    | col i => exact ⟨.not, fun u b h => by cases h⟩
    | bin o a b => exact ⟨.not, fun u b h => by cases h⟩
    | ch c a b => exact ⟨.not, fun u b h => by cases h⟩
  have A_action : ∀ f sp, (fun g => if g = f1 un then some (spUn un) else none) f = some sp → Held P w K mg base n f sp := fun f sp h => by
    dsimp only at h
    split at h
    · rename_i e
      cases h
      rw [e]
      exact heldUp (T.held1 un) (by omega)
    · cases h
  refine ⟨_, (pss_cons (ps_set (i := 2) sc_evaluate.nd rfl (Or.inl rfl) (pe_ix ix_tup (pv 0) pe_int (fun _ _ => rfl)))
    (pss_cons (ps_if (pt_cmpR op_eq (pv 2) pe_str (nomark _)) (pss_one (ps_ret (pe_ix ix_tup (pv 1) (pe_ix ix_tup (pv 0) pe_int (fun _ _ => rfl)) (fun _ _ => rfl)))) pss_nil)
    (pss_cons (ps_if (pt_cmpR op_eq (pv 2) pe_str (nomark _)) (pss_one (ps_ret (pe_ix ix_tup (pv 0) pe_int (fun _ _ => rfl)))) pss_nil)
    (pss_cons (ps_if (pt_cmpR op_eq (pv 2) pe_str (nomark _)) (pss_cons (ps_if (pt_val (pe_c c_is_true hr (by omega) rfl (pa_cons (pe_c c_evaluate hr (by omega) rfl (pa_cons (pe_ix ix_tup (pv 0) pe_int (fun _ _ => rfl)) (pa_cons (pv 1) pa_nil))) pa_nil))) (pss_one (ps_ret (pe_c c_evaluate hr (by omega) rfl (pa_cons (pe_ix ix_tup (pv 0) pe_int (fun _ _ => rfl)) (pa_cons (pv 1) pa_nil))))) pss_nil)
    (pss_one (ps_ret (pe_c c_evaluate hr (by omega) rfl (pa_cons (pe_ix ix_tup (pv 0) pe_int (fun _ _ => rfl)) (pa_cons (pv 1) pa_nil)))))) pss_nil)
    (pss_cons (ps_set (i := 3) sc_evaluate.nd rfl (Or.inl rfl) (pe_c c_evaluate hr (by omega) rfl (pa_cons (pe_ix ix_tup (pv 0) pe_int (fun _ _ => rfl)) (pa_cons (pv 1) pa_nil))))
    (pss_cons (ps_if (pt_cmpR (op_in_kd T.d_ONE) (pv 2) (pe_gc rfl T.g_ONE) (by rfl)) (pss_cons (ps_set (i := 4) sc_evaluate.nd rfl (Or.inl rfl) (pe_ix ix_kdict (pe_gc rfl T.g_ONE) (pv 2) (fun _ _ => rfl)))
    (pss_one (ps_ret (pe_callA (i := 4) A_action hr rfl (Or.inl rfl) (pa_cons (pv 3) pa_nil))))) pss_nil)
    (pss_one (ps_ret (pe_c c_apply_two hr (by omega) rfl (pa_cons (pv 2) (pa_cons (pv 3) (pa_cons (pe_c c_evaluate hr (by omega) rfl (pa_cons (pe_ix ix_tup (pv 0) pe_int (fun _ _ => rfl)) (pa_cons (pv 1) pa_nil))) pa_nil)))))))))))), ?_⟩
  cases e with
  | col i =>
    have he : H r = some (.tup [.str "column", .int (i : Int)]) := he
    refine ⟨_, rfl, r, _, _, _, rfl, rfl, SqT.of he, rfl, ?_⟩
    refine ⟨_, rfl, rfl, _, rfl, iteT_of (dSs _) ?_⟩
    exact ⟨_, rfl, _, rfl, r, _, _, _, rfl, rfl, SqT.of he, rfl, ra, _, _, _, rfl, rfl, SqT.of hra, cell_at hin, q _ .refl⟩
  | con c =>
    have he : H r = some (.tup [.str "constant", c.v]) := he
    refine ⟨_, rfl, r, _, _, _, rfl, rfl, SqT.of he, rfl, ?_⟩
    refine ⟨_, rfl, rfl, _, rfl, iteF_of (dS (by decide +kernel)) ?_⟩
    refine ⟨_, rfl, rfl, _, rfl, iteT_of (dSs _) ?_⟩
    exact ⟨_, rfl, r, _, _, _, rfl, rfl, SqT.of he, rfl, q _ .refl⟩
  | ch c a b =>
    obtain ⟨z, x, y, he, ec, ea, eb⟩ := he
    obtain ⟨ic, ia, ib⟩ := hin
    obtain ⟨bc, ba, bb⟩ := hcb
    have m0 : c.depth ≤ Nat.max c.depth (Nat.max a.depth b.depth) := Nat.le_max_left _ _
    have m3 : Nat.max a.depth b.depth ≤ Nat.max c.depth (Nat.max a.depth b.depth) := Nat.le_max_right _ _
    have m1 : a.depth ≤ Nat.max a.depth b.depth := Nat.le_max_left _ _
    have m2 : b.depth ≤ Nat.max a.depth b.depth := Nat.le_max_right _ _
    have hd : Nat.max c.depth (Nat.max a.depth b.depth) + 1 + 4 ≤ n + 1 := hd
    refine ⟨_, rfl, r, _, _, _, rfl, rfl, SqT.of he, rfl, ?_⟩
    refine ⟨_, rfl, rfl, _, rfl, iteF_of (dS (by decide +kernel)) ?_⟩
    refine ⟨_, rfl, rfl, _, rfl, iteF_of (dS (by decide +kernel)) ?_⟩
    refine ⟨_, rfl, rfl, _, rfl, iteT_of (dSs _) ?_⟩
    refine ⟨_, rfl, r, _, _, _, rfl, rfl, SqT.of he, rfl, _, rfl, z, ra, c, cs, rfl, ec, hra, ic, bc, hrb, by omega, fun G1 k1 => ?_⟩
    refine ⟨c.ev cs, rfl, trivial, fun G2 k2 => ⟨_, rfl, ?_⟩⟩
    have k12 := k1.trans k2
    have q : ∀ G, Kp [] H G → Q (if (c.ev cs).yes = true then a.ev cs else b.ev cs).v G := q
    cases cy : (c.ev cs).yes with
    | true =>
      rw [cy] at q
      exact iteT ⟨_, rfl, r, _, _, _, rfl, rfl, SqT.of (k12.t _ _ he), rfl, _, rfl, x, ra, a, cs, rfl, ExAt.kp k12 _ _ ea, k12.t _ _ hra, ia, ba, hrb, by omega, fun G3 k3 => q _ (k12.trans k3)⟩
    | false =>
      rw [cy] at q
      exact iteF ⟨_, rfl, r, _, _, _, rfl, rfl, SqT.of (k12.t _ _ he), rfl, _, rfl, y, ra, b, cs, rfl, ExAt.kp k12 _ _ eb, k12.t _ _ hra, ib, bb, hrb, by omega, fun G3 k3 => q _ (k12.trans k3)⟩
  | un o a =>
    obtain rfl := hun o a rfl
    obtain ⟨x, he, ea⟩ := he
    have hd : a.depth + 1 + 4 ≤ n + 1 := hd
    have d3 : decide (V.str un.str = V.str "column") = false ∧ decide (V.str un.str = V.str "constant") = false ∧ decide (V.str un.str = V.str "choose") = false := by
      cases un <;> exact ⟨dS (by decide +kernel), dS (by decide +kernel), dS (by decide +kernel)⟩
    refine ⟨_, rfl, r, _, _, _, rfl, rfl, SqT.of he, rfl, ?_⟩
    refine ⟨_, rfl, rfl, _, rfl, iteF_of d3.1 ?_⟩
    refine ⟨_, rfl, rfl, _, rfl, iteF_of d3.2.1 ?_⟩
    refine ⟨_, rfl, rfl, _, rfl, iteF_of d3.2.2 ?_⟩
    refine ⟨_, rfl, r, _, _, _, rfl, rfl, SqT.of he, rfl, _, rfl, x, ra, a, cs, rfl, ea, hra, hin, hcb, hrb, by omega, fun G1 k1 => ?_⟩
    refine ⟨_, rfl, _, _, rfl, rfl, T.in1 un, _, rfl, iteT ?_⟩
    refine ⟨_, rfl, a1, _, _, rfl, rfl, kdct_of T.d_ONE (T.in1 un), ?_⟩
    exact ⟨f1 un, spUn un, rfl, if_pos rfl, _, rfl, a.ev cs, rfl, Ex.ev_bd hrb a hcb, fun G2 k2 => q _ (k1.trans k2)⟩
  | bin o a b =>
    obtain ⟨x, y, he, ea, eb⟩ := he
    have m1 : a.depth ≤ Nat.max a.depth b.depth := Nat.le_max_left _ _
    have m2 : b.depth ≤ Nat.max a.depth b.depth := Nat.le_max_right _ _
    have hd : Nat.max a.depth b.depth + 1 + 4 ≤ n + 1 := hd
    have d3 : decide (V.str o.str = V.str "column") = false ∧ decide (V.str o.str = V.str "constant") = false ∧ decide (V.str o.str = V.str "choose") = false := by
      cases o <;> exact ⟨dS (by decide +kernel), dS (by decide +kernel), dS (by decide +kernel)⟩
    refine ⟨_, rfl, r, _, _, _, rfl, rfl, SqT.of he, rfl, ?_⟩
    refine ⟨_, rfl, rfl, _, rfl, iteF_of d3.1 ?_⟩
    refine ⟨_, rfl, rfl, _, rfl, iteF_of d3.2.1 ?_⟩
    refine ⟨_, rfl, rfl, _, rfl, iteF_of d3.2.2 ?_⟩
    refine ⟨_, rfl, r, _, _, _, rfl, rfl, SqT.of he, rfl, _, rfl, x, ra, a, cs, rfl, ea, hra, hin.1, hcb.1, hrb, by omega, fun G1 k1 => ?_⟩
    refine ⟨_, rfl, _, _, rfl, rfl, T.no1 o, _, rfl, iteF ?_⟩
    refine ⟨_, rfl, _, rfl, _, rfl, r, _, _, _, rfl, rfl, SqT.of (k1.t _ _ he), rfl, _, rfl, y, ra, b, cs, rfl, ExAt.kp k1 _ _ eb, k1.t _ _ hra, hin.2, hcb.2, hrb, by omega, fun G2 k2 => ?_⟩
    exact ⟨o, a.ev cs, b.ev cs, rfl, Ex.ev_bd hrb a hcb.1, Ex.ev_bd hrb b hcb.2, fun G3 k3 => q _ ((k1.trans k2).trans k3)⟩
theorem ok_eval (D : GD K mg "evaluate" sD_evaluate ["expression", "row"]) (T : TVals P K w mg base a1 aN a2 es1 esN es2 n1 nN n2 f1 f2) (c_is_true : Cal P w K mg base 1 "is_true" (spC1 (fun _ => True) fun c => .bl c.yes) []) (c_apply_two : Cal P w K mg base 3 "apply_two" spApply []) : ∀ n, Cal P w K mg base n "evaluate" (spEval n) []
  | 0 => by
    have no : ∀ vs H Q E, ¬ spEval 0 vs H Q E := fun vs H Q E h => by
      obtain ⟨r, ra, e, cs, _, _, _, _, _, _, h, _⟩ := h
      omega
    obtain ⟨f, fd, F, hm, hb⟩ := D
    exact ⟨f, fd, _, [], ⟨fun vs H Q E h => absurd h (no vs H Q E), fun A outer s H args us vs Q E _ _ _ _ h => absurd h (no vs H Q E)⟩, hm, F.kp, hb, .nil⟩
  | n + 1 => eval_step D T c_is_true c_apply_two (ok_eval D T c_is_true c_apply_two n)
end
theorem _root_.C8.Cal.held {P : Program} {w : World} {K : PySem.W.Frag} {mg : Str → Option Value} {base : Heap} {k : Nat} {x : Str} {sp : Sp} {f : Addr} (c : Cal P w K mg base k x sp []) (h : mg x = some (.ref f)) : Held P w K mg base k f sp := by
  obtain ⟨f', fd, ps, ds, F, m, kp, b, rv⟩ := c.ex
  rw [h] at m
  cases m
  cases rv
  exact ⟨fd, ps, F, kp, b⟩

/-! ### rows -/
theorem bx_catR {X : Cx} {K : PySem.W.Frag} (hK : X.K = K) : OpR X (binaryOp .Add) (rCatA K) := hK ▸ op_catA
theorem hu9 {k : Nat} {A : Around} (r : Room k A) : A.units + 9 < cLine := by have := r.un; omega
abbrev Row := List Cell
def RowAt (H : Hp) (r : Row) (a : Addr) : Prop := H a = some (.tup (r.map Cell.v))
theorem RowAt.kp {M : List Addr} {H H' : Hp} {r : Row} {a : Addr} (k : Kp M H H') (h : RowAt H r a) : RowAt H' r a := k.t _ _ h
def RowsAt (N : Addr → Prop) (H : Hp) (L : List Row) (l : Addr) : Prop := LstOf (RowAt H) N H L l
theorem RowsAt.kp {N : Addr → Prop} {M : List Addr} {H H' : Hp} {L : List Row} {l : Addr} (h : RowsAt N H L l) (k : Kp M H H') (hN : ∀ l, N l → l ∉ M) : RowsAt N H' L l := LstOf.kp h k (fun _ _ z => z.kp k) hN
/-- rows of one width, within the bounds -/
structure RowsOk (w : Nat) (L : List Row) : Prop where
  len : ∀ r ∈ L, r.length = w
  bd : ∀ r ∈ L, rbd r
  w1 : 1 ≤ w
  w9 : w ≤ 100
def rowD (r : Row) : PyData := .tuple (r.map Cell.keyD)
def leR (x y : Row) : Bool := PySem.W.dataLe false rowD x y
def dedR (L : List Row) : List Row := L.foldl (fun acc x => if x ∈ acc then acc else acc ++ [x]) []
def ordR (L : List Row) : List Row := (dedR L).mergeSort leR
theorem dedR_snoc (L : List Row) (x : Row) : dedR (L ++ [x]) = if x ∈ dedR L then dedR L else dedR L ++ [x] := by
  unfold dedR
  rw [List.foldl_append]
  rfl
theorem dedR_mem : ∀ (L : List Row) (x : Row), x ∈ dedR L ↔ x ∈ L := fun L x => by
  have : ∀ (L acc : List Row), (x ∈ L.foldl (fun acc x => if x ∈ acc then acc else acc ++ [x]) acc ↔ x ∈ acc ∨ x ∈ L) := by
    intro L
    induction L with
    | nil => intro acc; simp
    | cons y L ih =>
      intro acc
      rw [List.foldl_cons, ih, List.mem_cons]
      by_cases m : y ∈ acc
      · rw [if_pos m]
        constructor
        · rintro (h | h)
          · exact .inl h
          · exact .inr (.inr h)
        · rintro (h | rfl | h)
          · exact .inl h
          · exact .inl m
          · exact .inr h
      · rw [if_neg m, List.mem_append, List.mem_singleton]
        constructor
        · rintro ((h | h) | h)
          · exact .inl h
          · exact .inr (.inl h)
          · exact .inr (.inr h)
        · rintro (h | h | h)
          · exact .inl (.inl h)
          · exact .inl (.inr h)
          · exact .inr h
  rw [dedR, this]
  simp
theorem dedR_len (L : List Row) : (dedR L).length ≤ L.length := by
  have : ∀ (L acc : List Row), (L.foldl (fun acc x => if x ∈ acc then acc else acc ++ [x]) acc).length ≤ acc.length + L.length := by
    intro L
    induction L with
    | nil => intro acc; simp
    | cons y L ih =>
      intro acc
      rw [List.foldl_cons, List.length_cons]
      refine Nat.le_trans (ih _) ?_
      split
      · omega
      · rw [List.length_append, List.length_singleton]; omega
  have := this L []
  simpa [dedR] using this
theorem ordR_mem (L : List Row) (x : Row) : x ∈ ordR L ↔ x ∈ L := by
  unfold ordR
  rw [(List.mergeSort_perm _ _).mem_iff, dedR_mem]
theorem ordR_len (L : List Row) : (ordR L).length ≤ L.length := by
  unfold ordR
  rw [(List.mergeSort_perm _ _).length_eq]
  exact dedR_len L
theorem RowsOk.ord {w : Nat} {L : List Row} (h : RowsOk w L) : RowsOk w (ordR L) := ⟨fun r hr => h.len r ((ordR_mem _ _).mp hr), fun r hr => h.bd r ((ordR_mem _ _).mp hr), h.w1, h.w9⟩
theorem RowsOk.sub {w : Nat} {L M : List Row} (h : RowsOk w L) (s : ∀ r ∈ M, r ∈ L) : RowsOk w M := ⟨fun r hr => h.len r (s r hr), fun r hr => h.bd r (s r hr), h.w1, h.w9⟩
-- rows as keys
def Cell.nk : Cell → NK
  | .non => .none
  | .int i => .num i
  | .str s => .text s
theorem nk_inj : ∀ {a b : Cell}, a.nk = b.nk → a = b
  | .non, .non, _ => rfl
  | .int _, .int _, h => by cases h; rfl
  | .str _, .str _, h => by cases h; rfl
  | .non, .int _, h => by cases h
  | .non, .str _, h => by cases h
  | .int _, .non, h => by cases h
  | .int _, .str _, h => by cases h
  | .str _, .non, h => by cases h
  | .str _, .int _, h => by cases h
def rowK (r : Row) : NK := .tup (r.map Cell.nk)
theorem rowK_inj {a b : Row} (h : rowK a = rowK b) : a = b := by
  have h : a.map Cell.nk = b.map Cell.nk := by
    unfold rowK at h
    injection h
  exact (List.map_inj_right fun x y => nk_inj).mp h
theorem cell_nat (H : Hp) : ∀ c : Cell, NAt H c.nk c.v
  | .non => .none
  | .int i => .num i
  | .str s => .text s
theorem RowAt.nat {H : Hp} {r : Row} {a : Addr} (h : RowAt H r a) : NAt H (rowK r) (.ref a) := by
  refine .tup h ?_
  have : ∀ r : Row, NAll H (r.map Cell.nk) (r.map Cell.v) := fun r => by
    induction r with
    | nil => exact .nil
    | cons c r ih => exact .cons (cell_nat H c) ih
  exact this r
theorem rowK_depth (r : Row) : (rowK r).depth ≤ 8 := by
  have h1 : ∀ c : Cell, c.nk.depth = 0 := fun c => by cases c <;> simp [Cell.nk, PySem.NestedKey.depth]
  have h2 : ∀ r : Row, PySem.NestedKey.depthAll (r.map Cell.nk) = 0 := fun r => by
    induction r with
    | nil => simp [PySem.NestedKey.depthAll]
    | cons c r ih => simp [PySem.NestedKey.depthAll, ih, h1]
  unfold rowK
  rw [PySem.NestedKey.depth, h2]
  decide
/-- entries that all hold True -/
def toNE (e : Row × Addr) : NE := (rowK e.1, e.2, .bl true)
theorem putN_rows (x : Row) (b : Addr) (es : List (Row × Addr)) : putN (es.map toNE) (rowK x) b (.bl true) = (if x ∈ es.map Prod.fst then es else es ++ [(x, b)]).map toNE := by
  have h1 : (atN (es.map toNE) (rowK x)).isSome = decide (x ∈ es.map Prod.fst) := by
    unfold atN
    rw [Option.isSome_map]
    induction es with
    | nil => rfl
    | cons e es ih =>
      rw [List.map_cons, List.find?_cons]
      by_cases h : e.1 = x
      · have : decide ((toNE e).1 = rowK x) = true := decide_eq_true (by show rowK e.1 = _; rw [h])
        rw [this]
        simp [h]
      · have : decide ((toNE e).1 = rowK x) = false := decide_eq_false fun z => h (rowK_inj z)
        rw [this]
        have h' : ¬ x = e.1 := fun z => h z.symm
        simp only [List.map_cons, List.mem_cons, h', false_or]
        exact ih
  have h2 : (es.map toNE).map (fun y => if y.1 = rowK x then (y.1, y.2.1, V.bl true) else y) = es.map toNE := by
    rw [List.map_map]
    refine List.map_congr_left fun e _ => ?_
    show (if (toNE e).1 = rowK x then ((toNE e).1, (toNE e).2.1, V.bl true) else toNE e) = toNE e
    split <;> rfl
  unfold putN
  rw [h1]
  by_cases m : x ∈ es.map Prod.fst
  · rw [if_pos (decide_eq_true m), if_pos m, h2]
  · rw [if_neg (by simpa using m), if_neg m, List.map_append]
    rfl
open PySem.W in
theorem rows_alike : ∀ (a b : Row), alike (rowD a) (rowD b) = true := by
  intro a b
  unfold rowD
  simp only [alike]
  induction a generalizing b with
  | nil => simp [alikeAll]
  | cons x a ih =>
    cases b with
    | nil => simp [alikeAll]
    | cons y b =>
      rw [List.map_cons, List.map_cons, alikeAll, keyD_alike, ih]
      rfl
theorem rowD_depth (a : Row) : (rowD a).depth ≤ 2 := by
  have : ∀ r : Row, PyData.depthAll (r.map Cell.keyD) ≤ 1 := fun r => by
    induction r with
    | nil => simp [PyData.depthAll]
    | cons c r ih =>
      rw [List.map_cons, PyData.depthAll]
      have := keyD_depth c
      omega
  have := this a
  unfold rowD
  simp only [PyData.depth]
  omega
def spRowKey : Sp := fun vs H Q _ => ∃ (a : Addr) (r : Row), vs = [.ref a] ∧ RowAt H r a ∧ r.length ≤ 1000 ∧ ∀ (p : Addr) (G : Hp), Kp [] H G → H p = none → Has G (.ref p) (rowD r) → Q (.ref p) G
def spEvalAll : Sp := fun vs H Q _ => ∃ (la ra : Addr) (N : Addr → Prop) (es : List Ex) (r : Row), vs = [.ref la, .ref ra] ∧ LstOf (ExAt H) N H es la ∧ RowAt H r ra ∧ (∀ e ∈ es, e.In r.length ∧ e.cb ∧ e.depth ≤ 40) ∧ es.length ≤ 100 ∧ rbd r ∧
  ∀ (p : Addr) (G : Hp), Kp [] H G → H p = none → RowAt G (es.map fun e => e.ev r) p → Q (.ref p) G
def spInOrder : Sp := fun vs H Q _ => ∃ (la : Addr) (N : Addr → Prop) (L : List Row) (w : Nat), vs = [.ref la] ∧ RowsAt N H L la ∧ RowsOk w L ∧ L.length ≤ 1000000 ∧
  ∀ (p : Addr) (G : Hp), Kp [] H G → H p = none → RowsAt (fun l => l = p) G (ordR L) p → Q (.ref p) G
structure TRows (mg : Str → Option Value) : Prop where
  n_list : mg "list" = none
  n_tuple : mg "tuple" = none
  n_sorted : mg "sorted" = none
section
variable {P : Program} {w : World} {K : PySem.W.Frag} {mg : Str → Option Value} {base : Heap}
theorem ok_row_key (D : GD K mg "row_key" sD_row_key ["row"]) (T : TRows mg) (c_value_key : Cal P w K mg base 1 "value_key" spVK []) : Cal P w K mg base 2 "row_key" spRowKey [] := by
  refine D.cal sc_row_key (fun vs H Q E h => ?_) (fun f cdv A outer s0 H vs Q E hr h => ?_)
  · obtain ⟨a, r, rfl, _⟩ := h
    rfl
  obtain ⟨a, r, rfl, ha, hl, q⟩ := h
  refine ⟨_, (pss_one (ps_ret (pe_callTy call_tuple_of (by rfl) T.n_tuple (by decide +kernel) (pa_cons (pe_lc (own := [("value", 1)]) (g := gName 1) (tt := tYes) rfl sc_row_key.nd (pi_tup (pv 0)) (blkOk_by (own := [("value", 1)]) (N := ["row", "value"]) (sc := defScope sD_row_key) (by decide +kernel)) (fun _ _ _ _ _ => (pg_name (i := 1) sc_row_key.nd rfl (Or.inl rfl))) (fun _ _ _ _ _ => pts_nil) (fun _ _ _ _ _ => (pe_c c_value_key hr (by omega) rfl (pa_cons (pv 1) pa_nil)))) pa_nil)))), ?_⟩
  refine ⟨_, rfl, a, rfl, ⟨_, SqT.of ha⟩, fun D' hD => lc_tup (K := K) (a := a) (xs := r.map Cell.v) (fun j G => Kp [] H G ∧ ∃ vs : List V, G D' = some (.lst vs) ∧ HasAll G vs ((r.take j).map Cell.keyD))
    ⟨.new hD, [], upd_same, .nil⟩ (fun j G _ p => SqT.of (p.1.t _ _ ha)) (fun j y G hj p => ?_) (fun G p => ?_)⟩
  · obtain ⟨kG, vs, hG, has⟩ := p
    obtain ⟨c, hc, rfl⟩ := mapAt hj
    have hjl : j < r.length := (List.getElem?_eq_some_iff.mp hc).1
    have vl := has.len
    rw [List.length_map, List.length_take] at vl
    refine ⟨rfl, _, rfl, c, rfl, fun p G2 k2 hp h2 => ?_⟩
    have kP : Kp [D'] G2 (upd G2 D' (.lst (vs ++ [V.ref p]))) := .put (by simp) (k2.k _ _ hG (by simp)) fun xs z => by cases z
    have tupK : ∀ (d : PyData) (v : V), (∃ c : Cell, d = c.keyD) → Has G2 v d → Has (upd G2 D' (.lst (vs ++ [V.ref p]))) v d := fun d v ⟨c, hc⟩ h => by
      subst hc
      cases c with
      | non => cases h with | tup e r => exact .tup (kP.t _ _ e) (by cases r with | cons a1 r => cases a1; cases r with | cons a2 r => cases a2; cases r with | cons a3 r => cases a3; cases r; exact .cons (.int _) (.cons (.int _) (.cons (.str _) .nil)))
      | int i => cases h with | tup e r => exact .tup (kP.t _ _ e) (by cases r with | cons a1 r => cases a1; cases r with | cons a2 r => cases a2; cases r with | cons a3 r => cases a3; cases r; exact .cons (.int _) (.cons (.int _) (.cons (.str _) .nil)))
      | str s => cases h with | tup e r => exact .tup (kP.t _ _ e) (by cases r with | cons a1 r => cases a1; cases r with | cons a2 r => cases a2; cases r with | cons a3 r => cases a3; cases r; exact .cons (.int _) (.cons (.int _) (.cons (.str _) .nil)))
    have allK : ∀ (l : List Cell) (us : List V), HasAll G2 us (l.map Cell.keyD) → HasAll (upd G2 D' (.lst (vs ++ [V.ref p]))) us (l.map Cell.keyD) := fun l => by
      induction l with
      | nil => intro us h; cases h; exact .nil
      | cons c l ih =>
        intro us h
        rw [List.map_cons] at h ⊢
        cases h with
        | cons h1 h2 => exact .cons (tupK _ _ ⟨c, rfl⟩ h1) (ih _ h2)
    refine ⟨_, k2.k _ _ hG (by simp), small1000 (by omega), (kG.trans k2).mt hD, _, upd_same, ?_⟩
    rw [takeS hc, List.map_append]
    exact HasAll.snoc (allK _ _ (HasAll.kp k2 _ _ has)) (tupK _ _ ⟨c, rfl⟩ h2)
  · obtain ⟨kG, vs, hG, has⟩ := p
    rw [List.length_map, List.take_length] at has
    refine ⟨D', _, rfl, .inl ⟨SqL.of hG, fun p hp => ?_⟩⟩
    exact q p _ (kG.newer hp) (kG.free hp (by simp)) (.tup upd_same (HasAll.kp (.new hp) _ _ has))
end

/-! ### rows in order, joined rows -/
theorem Prs.of_map {α β : Type} {R : α → Addr → Prop} {f : β → α} {g : β → Addr} : ∀ {M : List β}, (∀ e ∈ M, R (f e) (g e)) → Prs R (M.map g) (M.map f)
  | [], _ => trivial
  | e :: M, h => ⟨h e List.mem_cons_self, Prs.of_map fun x hx => h x (List.mem_cons_of_mem _ hx)⟩
def joinL (e : Ex) (L M : List Row) : List Row := L.flatMap fun x => (M.filter fun y => (e.ev (x ++ y)).yes).map (x ++ ·)
def spMatches : Sp := fun vs H Q _ => ∃ (ce ra oa : Addr) (N : Addr → Prop) (e : Ex) (r : Row) (M : List Row) (w : Nat), vs = [.ref ce, .ref ra, .ref oa] ∧ ExAt H e ce ∧ RowAt H r ra ∧ RowsAt N H M oa ∧ RowsOk w M ∧ rbd r ∧ 1 ≤ r.length ∧ r.length ≤ 100 ∧ e.In (r.length + w) ∧ e.cb ∧ e.depth ≤ 40 ∧ M.length ≤ 1000000 ∧
  ∀ (p : Addr) (G : Hp), Kp [] H G → H p = none → RowsAt (fun l => l = p) G (M.filter fun y => (e.ev (r ++ y)).yes) p → Q (.ref p) G
def spJoined : Sp := fun vs H Q _ => ∃ (ce la oa : Addr) (N N' : Addr → Prop) (e : Ex) (L M : List Row) (v w : Nat), vs = [.ref ce, .ref la, .ref oa] ∧ ExAt H e ce ∧ RowsAt N H L la ∧ RowsAt N' H M oa ∧ RowsOk v L ∧ RowsOk w M ∧ v + w ≤ 100 ∧ e.In (v + w) ∧ e.cb ∧ e.depth ≤ 40 ∧ L.length * M.length ≤ 1000000 ∧ L.length ≤ 1000000 ∧ M.length ≤ 1000000 ∧
  ∀ (p : Addr) (G : Hp), Kp [] H G → H p = none → RowsAt (fun l => l = p) G (ordR (joinL e L M)) p → Q (.ref p) G
theorem row_snoc {N : Addr → Prop} {H G : Hp} {L : List Row} {l b : Addr} {as : List Addr} {r : Row} (pr : Prs (RowAt H) as L) (hr : RowAt H r b) (k : ∀ x a, RowAt H x a → RowAt G x a) : Prs (RowAt G) (as ++ [b]) (L ++ [r]) := Prs.snoc (k _ _ hr) (Prs.imp k pr)
theorem joinL_ok {e : Ex} {L M : List Row} {v w : Nat} (hL : RowsOk v L) (hM : RowsOk w M) (h : v + w ≤ 100) : RowsOk (v + w) (joinL e L M) := by
  have mem : ∀ r ∈ joinL e L M, ∃ x ∈ L, ∃ y ∈ M, r = x ++ y := fun r hr => by
    obtain ⟨x, hx, hr⟩ := List.mem_flatMap.mp hr
    obtain ⟨y, hy, rfl⟩ := List.mem_map.mp hr
    exact ⟨x, hx, y, (List.mem_filter.mp hy).1, rfl⟩
  refine ⟨fun r hr => ?_, fun r hr => ?_, by have := hL.w1; omega, h⟩
  · obtain ⟨x, hx, y, hy, rfl⟩ := mem r hr
    rw [List.length_append, hL.len x hx, hM.len y hy]
  · obtain ⟨x, hx, y, hy, rfl⟩ := mem r hr
    intro c hc
    rcases List.mem_append.mp hc with h | h
    · exact hL.bd x hx c h
    · exact hM.bd y hy c h
theorem joinL_len (e : Ex) (L M : List Row) : (joinL e L M).length ≤ L.length * M.length := by
  unfold joinL
  induction L with
  | nil => simp
  | cons x L ih =>
    rw [List.flatMap_cons, List.length_append, List.length_map, List.length_cons, Nat.succ_mul]
    have := List.length_filter_le (fun y => (e.ev (x ++ y)).yes) M
    omega
section
variable {P : Program} {w : World} {K : PySem.W.Frag} {mg : Str → Option Value} {base : Heap}
theorem ok_evaluate_all (D : GD K mg "evaluate_all" sD_evaluate_all ["expressions", "row"]) (T : TRows mg) (c_evaluate : Cal P w K mg base 44 "evaluate" (spEval 44) []) : Cal P w K mg base 45 "evaluate_all" spEvalAll [] := by
  refine D.cal sc_evaluate_all (fun vs H Q E h => ?_) (fun f cdv A outer s0 H vs Q E hr h => ?_)
  · obtain ⟨la, ra, N, es, r, rfl, _⟩ := h
    rfl
  obtain ⟨la, ra, N, es, r, rfl, ⟨as, hla, _, pr⟩, hra, hes, lE, hrb, q⟩ := h
  refine ⟨_, (pss_one (ps_ret (pe_callTy call_tuple_of (by rfl) T.n_tuple (by decide +kernel) (pa_cons (pe_lc (own := [("expression", 2)]) (g := gName 2) (tt := tYes) rfl sc_evaluate_all.nd (pi_list (pv 0)) (blkOk_by (own := [("expression", 2)]) (N := ["expressions", "row", "expression"]) (sc := defScope sD_evaluate_all) (by decide +kernel)) (fun _ _ _ _ _ => (pg_name (i := 2) sc_evaluate_all.nd rfl (Or.inl rfl))) (fun _ _ _ _ _ => pts_nil) (fun _ _ _ _ _ => (pe_c c_evaluate hr (by omega) rfl (pa_cons (pv 2) (pa_cons (pv 1) pa_nil))))) pa_nil)))), ?_⟩
  have al := pr.len
  refine ⟨_, rfl, la, rfl, ⟨_, SqL.of hla⟩, fun D' hD => lc_list (K := K) (a := la) (xs := as.map V.ref) (fun j G => Kp [] H G ∧ G D' = some (.lst ((es.take j).map fun e => (e.ev r).v)))
    ⟨.new hD, upd_same⟩ (fun j G _ p => SqL.of (p.1.k _ _ hla (by simp))) (fun j y G hj p => ?_) (fun G p => ?_)⟩
  · obtain ⟨kG, hG⟩ := p
    obtain ⟨a, ha, rfl⟩ := mapAt hj
    obtain ⟨e, he, at'⟩ := pr.of ha
    have hjl : j < es.length := (List.getElem?_eq_some_iff.mp he).1
    obtain ⟨i1, i2, i3⟩ := hes e (List.mem_of_getElem? he)
    refine ⟨rfl, _, rfl, _, rfl, a, ra, e, r, rfl, ExAt.kp kG _ _ at', kG.t _ _ hra, i1, i2, hrb, by omega, fun G2 k2 => ⟨_, k2.k _ _ hG (by simp), small1000 (by rw [List.length_map, List.length_take]; omega), (kG.trans k2).mt hD, ?_⟩⟩
    rw [upd_same, takeS he, List.map_append]
    rfl
  · obtain ⟨kG, hG⟩ := p
    rw [List.length_map, al, List.take_length] at hG
    refine ⟨D', _, rfl, .inl ⟨SqL.of hG, fun p hp => ?_⟩⟩
    refine q p _ (kG.newer hp) (kG.free hp (by simp)) ?_
    show upd G p _ p = _
    rw [upd_same, List.map_map]
    rfl
theorem ok_in_order (D : GD K mg "in_order" sD_in_order ["rows"]) (T : TRows mg) (c_row_key : Cal P w K mg base 2 "row_key" spRowKey []) : Cal P w K mg base 5 "in_order" spInOrder [] := by
  refine D.cal sc_in_order (fun vs H Q E h => ?_) (fun f cdv A outer s0 H vs Q E hr h => ?_)
  · obtain ⟨la, N, L, wd, rfl, _⟩ := h
    rfl
  obtain ⟨la, N, L, wd, rfl, ⟨as, hla, _, pr⟩, ok, lL, q⟩ := h
  refine ⟨_, (pss_cons (ps_set (i := 1) sc_in_order.nd rfl (Or.inl rfl) (pe_dnewN (P := P) (w := w) rfl rfl))
    (pss_cons (ps_for PassesOwn.never rfl (pi_list (pv 0)) (pg_name (i := 2) sc_in_order.nd rfl (Or.inl rfl)) (pss_one (ps_dputN (P := P) (w := w) rfl rfl (hu9 hr) (pv 1) (pv 2) pe_bl rfl)))
    (pss_one (ps_ret (pe_sortedF c_row_key hr (by omega) (by rfl) T.n_sorted (by decide +kernel) (by rfl) (pa_cons (pe_callTy (call_list_dN (P := P) (w := w) rfl rfl rfl) (by rfl) T.n_list (by decide +kernel) (pa_cons (pv 1) pa_nil)) pa_nil)))))), ?_⟩
  have al := pr.len
  have sz := sizeLine_eq
  refine fun fa hfa => ?_
  have k1 : Kp [] H (upd H fa (DN P w fa [])) := .new hfa
  refine ⟨_, rfl, la, rfl, ⟨_, SqL.of (k1.k _ _ hla (by simp))⟩, for_list (K := K) (a := la) (xs := as.map V.ref) (fun i σ G => ∃ (v2 : Option V) (es : List (Row × Addr)), σ = [some (.ref la), some (.ref fa), v2] ∧ Kp [] H G ∧ G fa = some (DN P w fa (es.map toNE)) ∧ (∀ e ∈ es, RowAt H e.1 e.2) ∧ es.map Prod.fst = dedR (L.take i))
    ⟨none, [], rfl, k1, upd_same, fun e h => (by cases h), rfl⟩ (fun i σ G _ p => by obtain ⟨_, _, _, k, _⟩ := p; exact SqL.of (k.k _ _ hla (by simp))) (fun i x σ G hx p => ?_) (fun σ G p => ?_)⟩
  · obtain ⟨v2, es, rfl, kG, hG, hes, ees⟩ := p
    obtain ⟨b, hb, rfl⟩ := mapAt hx
    obtain ⟨r, hr', rt⟩ := pr.of hb
    have hil : i < L.length := (List.getElem?_eq_some_iff.mp hr').1
    have lE : es.length ≤ i := by
      have h1 := dedR_len (L.take i)
      rw [← ees, List.length_map, List.length_take] at h1
      omega
    refine ⟨_, rfl, _, rfl, fa, b, es.map toNE, rowK r, rfl, rfl, hG, ?_, (rt.kp kG).nat, rowK_depth r, by rw [List.length_map]; omega, some (.ref b), if r ∈ es.map Prod.fst then es else es ++ [(r, b)], rfl, kG.mt hfa, by rw [upd_same, putN_rows], fun e he => ?_, ?_⟩
    · intro x hx
      obtain ⟨e, he, rfl⟩ := List.mem_map.mp hx
      exact ⟨((hes e he).kp kG).nat, rowK_depth _⟩
    · split at he
      · exact hes e he
      · rcases List.mem_append.mp he with m | m
        · exact hes e m
        · rw [List.mem_singleton.mp m]; exact rt
    · rw [takeS hr', dedR_snoc, ← ees]
      split
      · rfl
      · rw [List.map_append]; rfl
  · obtain ⟨v2, es, rfl, kG, hG, hes, ees⟩ := p
    rw [List.length_map, al, List.take_length] at ees
    have hed : ∀ e ∈ es, e.1 ∈ L := fun e he => (dedR_mem L _).mp (by rw [← ees]; exact List.mem_map.mpr ⟨e, he, rfl⟩)
    refine ⟨_, rfl, fa, _, rfl, hG, fun l hl => ?_⟩
    have kl := Kp.new (M := []) (o := .lst ((es.map toNE).map fun x => V.ref x.2.1)) hl
    have e1 : (es.map toNE).map (fun x => V.ref x.2.1) = (es.map fun e => (V.ref e.2, rowD e.1)).map Prod.fst := by rw [List.map_map, List.map_map]; rfl
    have kGl := kG.trans kl
    refine ⟨_, rfl, l, es.map fun e => (V.ref e.2, rowD e.1), rfl, by rw [upd_same, e1], ?_, ?_, ?_, ?_, fun G2 p k2 hp1 hp2 => ?_⟩
    · intro d hd d' hd'
      rw [List.map_map] at hd hd'
      obtain ⟨e, _, rfl⟩ := List.mem_map.mp hd
      obtain ⟨e', _, rfl⟩ := List.mem_map.mp hd'
      exact rows_alike _ _
    · refine .inl fun d hd => ?_
      rw [List.map_map] at hd
      obtain ⟨e, he, rfl⟩ := List.mem_map.mp hd
      have hw := ok.len e.1 (hed e he)
      have := ok.w1
      cases e1' : e.1 with
      | nil => rw [e1'] at hw; simp at hw; omega
      | cons c r => exact ⟨c.keyD, r.map Cell.keyD, by show rowD e.1 = _; rw [e1']; rfl⟩
    · intro b hb
      obtain ⟨e, _, rfl⟩ := List.mem_map.mp hb
      have := rowD_depth e.1
      show (rowD e.1).depth ≤ 10
      omega
    · intro b hb G' k'
      obtain ⟨e, he, rfl⟩ := List.mem_map.mp hb
      have hw := ok.len e.1 (hed e he)
      have := ok.w9
      exact ⟨e.2, e.1, rfl, ((hes e he).kp kGl).kp k', by omega, fun p G'' k'' _ has => ⟨k'', has⟩⟩
    · have em : ((es.map fun e => (V.ref e.2, rowD e.1)).mergeSort (PySem.W.dataLe false Prod.snd)).map Prod.fst = ((es.mergeSort fun a b => leR a.1 b.1).map Prod.snd).map V.ref := by
        rw [← List.map_mergeSort (r := fun a b : Row × Addr => leR a.1 b.1) (f := fun e : Row × Addr => (V.ref e.2, rowD e.1)) fun a _ b _ => rfl, List.map_map, List.map_map]
        rfl
      have er : ordR L = (es.mergeSort fun a b => leR a.1 b.1).map Prod.fst := by
        rw [List.map_mergeSort (s := leR) fun a _ b _ => rfl, ees]
        rfl
      rw [em]
      have kp := Kp.new (M := []) (o := .lst (((es.mergeSort fun a b => leR a.1 b.1).map Prod.snd).map V.ref)) hp2
      have kall := (kGl.trans k2).trans kp
      refine q p _ kall ((kGl.trans k2).free hp2 (by simp)) ⟨_, upd_same, rfl, ?_⟩
      rw [er]
      exact Prs.of_map fun e he => (hes e ((List.mergeSort_perm _ _).mem_iff.mp he)).kp kall
theorem ok_matches (D : GD K mg "matches" sD_matches ["condition", "row", "others"]) (c_is_true : Cal P w K mg base 1 "is_true" (spC1 (fun _ => True) fun c => .bl c.yes) []) (c_evaluate : Cal P w K mg base 44 "evaluate" (spEval 44) []) : Cal P w K mg base 45 "matches" spMatches [] := by
  refine D.cal sc_matches (fun vs H Q E h => ?_) (fun f cdv A outer s0 H vs Q E hr h => ?_)
  · obtain ⟨ce, ra, oa, N, e, r, M, wd, rfl, _⟩ := h
    rfl
  obtain ⟨ce, ra, oa, N, e, r, M, wd, rfl, hce, hra, ⟨as, hoa, _, pr⟩, ok, hrb, r1, r9, ein, ecb, ed, lM, q⟩ := h
  refine ⟨_, (pss_one (ps_ret (pe_lc (own := [("other", 3)]) (g := gName 3) rfl sc_matches.nd (pi_list (pv 2)) (blkOk_by (own := [("other", 3)]) (N := ["condition", "row", "others", "other"]) (sc := defScope sD_matches) (by decide +kernel)) (fun _ _ _ _ _ => (pg_name (i := 3) sc_matches.nd rfl (Or.inl rfl))) (fun _ _ _ _ _ => (pts_one (pt_val (pe_c c_is_true hr (by omega) rfl (pa_cons (pe_c c_evaluate hr (by omega) rfl (pa_cons (pv 0) (pa_cons (pe_op (bx_catR (K := K) rfl) (pv 1) (pv 3)) pa_nil))) pa_nil))))) (fun _ _ _ _ _ => (pv 3))))), ?_⟩
  have al := pr.len
  have sz := sizeLine_eq
  refine ⟨_, rfl, oa, rfl, ⟨_, SqL.of hoa⟩, fun D' hD => lc_list (K := K) (a := oa) (xs := as.map V.ref) (fun j G => Kp [] H G ∧ ∃ bs : List Addr, G D' = some (.lst (bs.map V.ref)) ∧ bs.length ≤ j ∧ Prs (RowAt H) bs ((M.take j).filter fun y => (e.ev (r ++ y)).yes))
    ⟨.new hD, [], upd_same, Nat.le_refl _, trivial⟩ (fun j G _ p => SqL.of (p.1.k _ _ hoa (by simp))) (fun j y G hj p => ?_) (fun G p => ?_)⟩
  · obtain ⟨kG, bs, hG, bl, pb⟩ := p
    obtain ⟨b, hb, rfl⟩ := mapAt hj
    obtain ⟨y, hy, rt⟩ := pr.of hb
    have hjl : j < M.length := (List.getElem?_eq_some_iff.mp hy).1
    have ym := List.mem_of_getElem? hy
    have hw := ok.len y ym
    have w1 := ok.w1
    have w9 := ok.w9
    have rne : r.map Cell.v ≠ [] := fun z => by
      rw [List.map_eq_nil_iff.mp z, List.length_nil] at r1
      omega
    have yne : y.map Cell.v ≠ [] := fun z => by
      rw [List.map_eq_nil_iff.mp z, List.length_nil] at hw
      omega
    rw [takeS hy, List.filter_append]
    refine ⟨rfl, _, rfl, _, rfl, _, rfl, ra, b, _, _, rfl, rfl, SqT.of (kG.t _ _ hra), SqT.of (kG.t _ _ rt), by rw [List.length_map, List.length_map]; omega, fun z => absurd z rne, fun _ z => absurd z yne, fun _ _ t ht => ?_⟩
    have kt := Kp.new (M := []) (o := .tup (r.map Cell.v ++ y.map Cell.v)) ht
    have kGt := kG.trans kt
    refine ⟨ce, t, e, r ++ y, rfl, ExAt.kp kGt _ _ hce, by rw [upd_same, List.map_append], by rw [List.length_append, hw]; exact ein, ecb, fun c hc => ?_, by omega, fun G2 k2 => ?_⟩
    · rcases List.mem_append.mp hc with h | h
      · exact hrb c h
      · exact ok.bd y ym c h
    have hG2 := (kt.trans k2).k _ _ hG (by simp)
    refine ⟨_, rfl, trivial, fun G3 k3 => ⟨_, rfl, ?_⟩⟩
    have hG3 := k3.k _ _ hG2 (by simp)
    have k13 := (kGt.trans k2).trans k3
    cases cy : (e.ev (r ++ y)).yes with
    | true =>
      refine iteT ⟨_, rfl, _, hG3, by rw [List.length_map]; omega, k13.mt hD, bs ++ [b], by rw [upd_same, List.map_append]; rfl, by rw [List.length_append]; exact Nat.succ_le_succ bl, ?_⟩
      rw [show ([y].filter fun y => (e.ev (r ++ y)).yes) = [y] by rw [List.filter_cons, if_pos cy]; rfl]
      exact Prs.snoc rt pb
    | false =>
      refine iteF ⟨k13, bs, hG3, by omega, ?_⟩
      rw [show ([y].filter fun y => (e.ev (r ++ y)).yes) = [] by rw [List.filter_cons, if_neg (by rw [cy]; exact Bool.false_ne_true)]; rfl, List.append_nil]
      exact pb
  · obtain ⟨kG, bs, hG, bl, pb⟩ := p
    rw [List.length_map, al, List.take_length] at pb
    exact q D' G kG hD ⟨bs, hG, rfl, pb.imp fun x a h => h.kp kG⟩
theorem ok_joined (D : GD K mg "joined_rows" sD_joined_rows ["condition", "rows", "others"]) (c_matches : Cal P w K mg base 45 "matches" spMatches []) (c_in_order : Cal P w K mg base 5 "in_order" spInOrder []) : Cal P w K mg base 46 "joined_rows" spJoined [] := by
  refine D.cal sc_joined_rows (fun vs H Q E h => ?_) (fun f cdv A outer s0 H vs Q E hr h => ?_)
  · obtain ⟨ce, la, oa, N, N', e, L, M, v, wd, rfl, _⟩ := h
    rfl
  obtain ⟨ce, la, oa, N, N', e, L, M, v, wd, rfl, hce, ⟨as, hla, _, pr⟩, ⟨bs, hoa, _, pm⟩, okL, okM, vw, ein, ecb, ed, lLM, lL, lM, q⟩ := h
  refine ⟨_, (pss_cons (ps_set (i := 3) sc_joined_rows.nd rfl (Or.inl rfl) (pe_lst pa_nil))
    (pss_cons (ps_for PassesOwn.never rfl (pi_list (pv 1)) (pg_name (i := 4) sc_joined_rows.nd rfl (Or.inr rfl)) (pss_one (ps_expr (pe_bm PySem.F.plainAttrs_list PySem.F.slot_list_extend PySem.F.type_list_extend mt_extend (pv 3) (pa_cons (pe_lc (own := [("other", 5)]) (g := gName 5) (tt := tYes) rfl sc_joined_rows.nd (pi_list (pe_c c_matches hr (by omega) rfl (pa_cons (pv 0) (pa_cons (pv 4) (pa_cons (pv 2) pa_nil))))) (blkOk_by (own := [("other", 5)]) (N := ["condition", "rows", "others", "joined", "row", "other"]) (sc := defScope sD_joined_rows) (by decide +kernel)) (fun _ _ _ _ _ => (pg_name (i := 5) sc_joined_rows.nd rfl (Or.inl rfl))) (fun _ _ _ _ _ => pts_nil) (fun _ _ _ _ _ => (pe_op (bx_catR (K := K) rfl) (pv 4) (pv 5)))) pa_nil)))))
    (pss_one (ps_ret (pe_c c_in_order hr (by omega) rfl (pa_cons (pv 3) pa_nil)))))), ?_⟩
  have al := pr.len
  have sz := sizeLine_eq
  refine ⟨(by show 0 ≤ sizeLine; decide), fun ja hja => ?_⟩
  have k1 : Kp [] H (upd H ja (.lst [])) := .new hja
  refine ⟨_, rfl, la, rfl, ⟨_, SqL.of (k1.k _ _ hla (by simp))⟩, for_list (K := K) (a := la) (xs := as.map V.ref) (fun i σ G => ∃ (v4 v5 : Option V) (cs : List Addr), σ = [some (.ref ce), some (.ref la), some (.ref oa), some (.ref ja), v4, v5] ∧ Kp [] H G ∧ G ja = some (.lst (cs.map V.ref)) ∧ Prs (RowAt G) cs (joinL e (L.take i) M))
    ⟨none, none, [], rfl, k1, upd_same, trivial⟩ (fun i σ G _ p => by obtain ⟨_, _, _, _, k, _⟩ := p; exact SqL.of (k.k _ _ hla (by simp))) (fun i x σ G hx p => ?_) (fun σ G p => ?_)⟩
  · obtain ⟨v4, v5, cs, rfl, kG, hG, pc⟩ := p
    obtain ⟨b, hb, rfl⟩ := mapAt hx
    obtain ⟨r, hr', rt⟩ := pr.of hb
    have hil : i < L.length := (List.getElem?_eq_some_iff.mp hr').1
    have rm := List.mem_of_getElem? hr'
    have rl := okL.len r rm
    have v1 := okL.w1
    have rtG := rt.kp kG
    refine ⟨_, rfl, .inl ⟨rfl, _, SqL.of hG⟩, _, rfl, _, rfl, _, rfl, ce, b, oa, N', e, r, M, wd, rfl, ExAt.kp kG _ _ hce, rtG, ⟨bs, kG.k _ _ hoa (by simp), ‹_›, pm.imp fun _ _ z => z.kp kG⟩, okM, okL.bd r rm, by omega, by omega, by rw [rl]; exact ein, ecb, ed, lM, fun p G2 k2 hp ⟨ds, hp2, _, pd⟩ => ?_⟩
    have pG : p ≠ ja := fun z => by rw [z, hG] at hp; cases hp
    have dl := pd.len
    refine ⟨p, rfl, ⟨_, SqL.of hp2⟩, fun D' hD => lc_list (K := K) (a := p) (xs := ds.map V.ref) (fun j G' => Kp [] G2 G' ∧ ∃ es : List Addr, G' D' = some (.lst (es.map V.ref)) ∧ es.length = j ∧ Prs (RowAt G') es (((M.filter fun y => (e.ev (r ++ y)).yes).take j).map (r ++ ·)))
      ⟨.new hD, [], upd_same, rfl, trivial⟩ (fun j G' _ p' => SqL.of (p'.1.k _ _ hp2 (by simp))) (fun j y G' hj p' => ?_) (fun G' p' => ?_)⟩
    · obtain ⟨kG', es, hG', el, pe⟩ := p'
      obtain ⟨c, hc, rfl⟩ := mapAt hj
      obtain ⟨y, hy, yt⟩ := pd.of hc
      have ym := (List.mem_filter.mp (List.mem_of_getElem? hy)).1
      have yl := okM.len y ym
      have w1 := okM.w1
      have jl : j < M.length := Nat.lt_of_lt_of_le (List.getElem?_eq_some_iff.mp hy).1 (List.length_filter_le _ _)
      have rne : r.map Cell.v ≠ [] := fun z => by
        rw [List.map_eq_nil_iff.mp z, List.length_nil] at rl
        omega
      have yne : y.map Cell.v ≠ [] := fun z => by
        rw [List.map_eq_nil_iff.mp z, List.length_nil] at yl
        omega
      refine ⟨rfl, _, rfl, _, rfl, b, c, _, _, rfl, rfl, SqT.of ((k2.trans kG').t _ _ rtG), SqT.of (kG'.t _ _ yt), by rw [List.length_map, List.length_map]; omega, fun z => absurd z rne, fun _ z => absurd z yne, fun _ _ t ht => ?_⟩
      have kt := Kp.new (M := []) (o := .tup (r.map Cell.v ++ y.map Cell.v)) ht
      have hDt := kt.k _ _ hG' (by simp)
      have kput : Kp [D'] (upd G' t (.tup (r.map Cell.v ++ y.map Cell.v))) (upd (upd G' t (.tup (r.map Cell.v ++ y.map Cell.v))) D' (.lst (es.map V.ref ++ [V.ref t]))) := .put (by simp) hDt fun xs z => by cases z
      refine ⟨_, hDt, by rw [List.length_map]; omega, (kG'.newer ht).mt hD, es ++ [t], by rw [upd_same, List.map_append]; rfl, by rw [List.length_append, el]; rfl, ?_⟩
      rw [takeS hy, List.map_append]
      refine Prs.snoc (R := RowAt _) ?_ (pe.imp fun _ _ z => (z.kp kt).kp kput)
      exact RowAt.kp kput (by show upd G' t _ t = _; rw [upd_same, List.map_append])
    · obtain ⟨kG', es, hG', el, pe⟩ := p'
      rw [List.length_map, dl, List.take_length] at pe
      have hja' := (k2.trans kG').k _ _ hG (by simp)
      have nDj : D' ≠ ja := fun z => by rw [z, k2.k _ _ hG (by simp)] at hD; cases hD
      have lc := pc.len
      have lj := joinL_len e (L.take i) M
      have lt : (L.take i).length = i := by rw [List.length_take]; omega
      have bnd : cs.length + es.length ≤ 1000000 := by
        have e1 : es.length ≤ M.length := by
          rw [pe.len, List.length_map]
          exact List.length_filter_le _ _
        rw [lt] at lj
        have : (i + 1) * M.length ≤ L.length * M.length := Nat.mul_le_mul_right _ hil
        rw [Nat.succ_mul] at this
        omega
      have kput : Kp [ja] G' (upd G' ja (.lst (cs.map V.ref ++ es.map V.ref))) := .put (by simp) hja' fun xs z => by cases z
      refine ⟨ja, D', _, _, rfl, rfl, hja', hG', by rw [List.length_map, List.length_map]; omega, some (.ref b), v5, cs ++ es, rfl, ((kG.trans k2).trans kG').mt hja, by rw [upd_same, List.map_append], ?_⟩
      have ej : joinL e (L.take (i + 1)) M = joinL e (L.take i) M ++ (M.filter fun y => (e.ev (r ++ y)).yes).map (r ++ ·) := by
        unfold joinL
        rw [takeS hr', List.flatMap_append]
        simp
      rw [ej]
      have app : ∀ {as bs : List Addr} {X Y : List Row}, Prs (RowAt (upd G' ja (.lst (cs.map V.ref ++ es.map V.ref)))) as X → Prs (RowAt (upd G' ja (.lst (cs.map V.ref ++ es.map V.ref)))) bs Y → Prs (RowAt (upd G' ja (.lst (cs.map V.ref ++ es.map V.ref)))) (as ++ bs) (X ++ Y) := by
        intro as
        induction as with
        | nil => intro bs X Y h k; cases X with
          | nil => exact k
          | cons x X => exact h.elim
        | cons a as ih => intro bs X Y h k; cases X with
          | nil => exact h.elim
          | cons x X => exact ⟨h.1, ih h.2 k⟩
      exact app (pc.imp fun _ _ z => ((z.kp k2).kp kG').kp kput) (pe.imp fun _ _ z => z.kp kput)
  · obtain ⟨v4, v5, cs, rfl, kG, hG, pc⟩ := p
    rw [List.length_map, al, List.take_length] at pc
    have lj := joinL_len e L M
    exact ⟨_, rfl, ja, fun _ => True, joinL e L M, v + wd, rfl, ⟨cs, hG, trivial, pc⟩, joinL_ok okL okM vw, by omega, fun p G2 k2 hp r2 => q p G2 (kG.trans k2) (kG.free hp (by simp)) r2⟩
end

/-! ### defs with keywords of their own -/
/-- a def with a keyword of its own -/
structure GK (K : PySem.W.Frag) (mg : Str → Option Value) (x : Str) (st : Stmt) (kws : List (Str × V)) (f : Addr) (fd : FuncData) : Prop where
  fn : FunD K x x (defArgs st) (defBody st) (defScope st) [] kws f fd
  m : mg x = some (.ref f)
/-- what a call with keywords wants -/
structure KCal (P : Program) (w : World) (K : PySem.W.Frag) (mg : Str → Option Value) (base : Heap) (k : Nat) (x : Str) (sp : Sp) (ps : List Str) (n : Nat) (ks : List Str) (f : Addr) (fd : FuncData) : Prop where
  F : FnOk P w K mg base CX0 k f fd ps sp
  m : mg x = some (.ref f)
  kp : PySem.W.keepIn K (.ref f) = true
  kb : KBn K fd ps n ks (fun us ws => us ++ ws) (fun vs zs => vs ++ zs)
section
variable {P : Program} {w : World} {K : PySem.W.Frag} {mg : Str → Option Value} {base : Heap}
theorem GK.ok {x : Str} {st : Stmt} {k : Nat} {sp : Sp} {N ps : List Str} {kws : List (Str × V)} {f : Addr} {fd : FuncData} (D : GK K mg x st kws f fd) (S : FnScope N ps (defScope st)) (len : ∀ vs H Q E, sp vs H Q E → vs.length = ps.length)
    (body : ∀ (cdv : Value) (A : Around) (outer : List Env) (s : Shared) (H : Hp) (vs : List V) (Q : VK) (E : XK), Room k (A.deeper (envOfC x (defScope st) s.heap.objs.size f cdv)) → sp vs H Q E →
      ∃ t, PSs (cxOf CX0 P w K mg base N x (defScope st) f cdv A outer s H E).nox (defBody st) t ∧ t { nx := fun _ H' => Q .non H', rt := Q } (start N vs) H) : FnOk P w K mg base CX0 (k + 1) f fd ps sp :=
  D.fn.ok S len fun cdv A outer s H vs Q E hr h => let ⟨t, h1, h2⟩ := body cdv A outer s H vs Q E hr h
    ⟨t, h1.nox, h2⟩
theorem GK.kcal {x : Str} {st : Stmt} {k : Nat} {sp : Sp} {ps : List Str} {n : Nat} {ks : List Str} {kws : List (Str × V)} {f : Addr} {fd : FuncData} (D : GK K mg x st kws f fd) (F : FnOk P w K mg base CX0 k f fd ps sp) (hk : kws ≠ [])
    (h : ∀ (D : Addr) (doc pm : Value) (an : Option Addr) (cdv ct : Value) (us ws : List Value), us.length = n → ws.length = ks.length → bindArgs (PySem.W.fnOf x x (defArgs st) (defBody st) (defScope st) .none (.ref D) doc pm an cdv ct) ⟨us, ks.zip ws⟩ = pure (ps.zip (us ++ ws))) :
    KCal P w K mg base k x sp ps n ks f fd := by
  refine ⟨F, D.m, D.fn.kp, ⟨fun s us ws _ l1 l2 => ?_, fun r1 r2 => r1.append r2⟩⟩
  obtain ⟨oc, od, dV, kV, doc, pm, an, cdv, ct, osl, rfl, lk, hcd, hD, hK⟩ := D.fn.ex
  rcases hD with ⟨_, rfl⟩ | ⟨e, _⟩
  · rcases hK with e | ⟨Da, rfl, _⟩
    · exact absurd e hk
    · exact .of_eq (h Da doc pm an cdv ct us ws l1 l2)
  · exact absurd rfl e
theorem GK.cal {x : Str} {st : Stmt} {k : Nat} {sp : Sp} {ps : List Str} {n : Nat} {kws : List (Str × V)} {f : Addr} {fd : FuncData} (D : GK K mg x st kws f fd) (F : FnOk P w K mg base CX0 k f fd ps sp) (hk : kws ≠ []) (hn : n + kws.length = ps.length)
    (h : ∀ (D : Addr) (doc pm : Value) (an : Option Addr) (cdv ct : Value) (us ks : List Value), us.length = n → ks.length = kws.length →
      KwChain D ((kws.map (·.1)).zip ks) (bindArgs (PySem.W.fnOf x x (defArgs st) (defBody st) (defScope st) .none (.ref D) doc pm an cdv ct) ⟨us, []⟩) (ps.zip (us ++ ks))) : Cal P w K mg base k x sp (kws.map (·.2)) := by
  obtain ⟨ds, rv, hb⟩ := D.fn.binds0 n hk hn h
  exact ⟨f, fd, ps, ds, F, D.m, D.fn.kp, hb, rv⟩
end

/-! ### possible rows -/
def lim (most : Int) (L : List Row) : Option (List Row) := if (L.length : Int) ≤ most then some L else none
/-- a value that is a list of rows, new since H, or None -/
def ResAt (H G : Hp) (v : V) : Option (List Row) → Prop
  | none => v = .non
  | some L => ∃ a, v = .ref a ∧ H a = none ∧ RowsAt (fun l => l = a) G L a
/-- a value that is a list of rows or None -/
def OldAt (N : Addr → Prop) (H : Hp) (v : V) : Option (List Row) → Prop
  | none => v = .non
  | some L => ∃ a, v = .ref a ∧ RowsAt N H L a
theorem OldAt.kp {N : Addr → Prop} {M : List Addr} {H H' : Hp} {v : V} (k : Kp M H H') (hN : ∀ l, N l → l ∉ M) : ∀ {o : Option (List Row)}, OldAt N H v o → OldAt N H' v o
  | none, h => h
  | some _, ⟨a, e, h⟩ => ⟨a, e, h.kp k hN⟩
theorem ResAt.back {H0 H G : Hp} {v : V} (k : Kp [] H0 H) : ∀ {o : Option (List Row)}, ResAt H G v o → ResAt H0 G v o
  | none, h => h
  | some _, ⟨a, e, n, h⟩ => ⟨a, e, k.free n (by simp), h⟩
def Opn.ops : Opn → List Nat
  | .tab _ => []
  | .stp _ => []
  | .fil _ q => [q]
  | .map _ q => [q]
  | .grp _ _ q => [q]
  | .join _ q r => [q, r]
  | .anti _ q r => [q, r]
  | .uni q r => [q, r]
  | .minus q r => [q, r]
def filO (e : Ex) (L : List Row) : List Row := L.filter fun r => (e.ev r).yes
def mapO (es : List Ex) (L : List Row) : List Row := ordR (L.map fun r => es.map fun e => e.ev r)
/-- the rows of an operation whose operands are known -/
def knownO (most : Int) : Opn → List (List Row) → Option (List Row)
  | .fil e _, L :: _ => some (filO e L)
  | .map es _, L :: _ => some (mapO es L)
  | .grp ks _ _, L :: _ => some (mapO ks L)
  | .join e _ _, L :: M :: _ => lim most (ordR (joinL e L M))
  | .uni _ _, L :: M :: _ => lim most (ordR (L ++ M))
  | _, _ => none
def KnownOk (L1 : List (List Row)) : Opn → Prop
  | .fil e _ => ∃ s L, L1 = [L] ∧ RowsOk s L ∧ e.ok s 2
  | .map es _ => ∃ s L, L1 = [L] ∧ RowsOk s L ∧ (∀ e ∈ es, e.ok s 1) ∧ 1 ≤ es.length ∧ es.length ≤ 2
  | .grp ks ts _ => ∃ s L, L1 = [L] ∧ RowsOk s L ∧ (∀ e ∈ ks, e.ok s 1) ∧ 1 ≤ ks.length ∧ ks.length ≤ 2 ∧ ts = []
  | .join e _ _ => ∃ s t L M, L1 = [L, M] ∧ RowsOk s L ∧ RowsOk t M ∧ e.ok (s + t) 2 ∧ s + t ≤ 4
  | .uni _ _ => ∃ s L M, L1 = [L, M] ∧ RowsOk s L ∧ RowsOk s M
  | _ => False
def spLimited : Sp := fun vs H Q _ => ∃ (la : Addr) (N : Addr → Prop) (L : List Row) (most : Int), vs = [.ref la, .int most] ∧ RowsAt N H L la ∧ Q (if (L.length : Int) ≤ most then .ref la else .non) H
def spCopied : Sp := fun vs H Q _ => ∃ (v : V) (N : Addr → Prop) (o : Option (List Row)), vs = [v] ∧ OldAt N H v o ∧ ∀ (u : V) (G : Hp), Kp [] H G → ResAt H G u o → Q u G
def spOperands : Sp := fun vs H Q _ => ∃ (oa : Addr) (N : Addr → Prop) (o : Opn), vs = [.ref oa] ∧ OpAt N H o oa ∧ (∀ i, o ≠ .tab i ∧ o ≠ .stp i) ∧ ∀ (r : Addr) (G : Hp), Kp [] H G → H r = none → G r = some (.lst (o.ops.map nV)) → Q (.ref r) G
def spKnown : Sp := fun vs H Q _ => ∃ (oa pa : Addr) (N N' : Addr → Prop) (o : Opn) (as : List Addr) (L1 : List (List Row)) (most : Int), vs = [.ref oa, .ref pa, .int most] ∧ OpAt N H o oa ∧ H pa = some (.lst (as.map V.ref)) ∧ Prs (fun L a => RowsAt N' H L a) as L1 ∧ KnownOk L1 o ∧ (∀ L ∈ L1, L.length ≤ 1000) ∧
  ∀ (u : V) (G : Hp), Kp [] H G → ResAt H G u (knownO most o L1) → Q u G
structure TPoss (mg : Str → Option Value) : Prop where
  n_len : mg "len" = none
  n_list : mg "list" = none
  n_any : mg "any" = none
theorem evs_ok {s d : Nat} {es : List Ex} {L : List Row} (hL : RowsOk s L) (he : ∀ e ∈ es, e.ok s d) (h1 : 1 ≤ es.length) (h9 : es.length ≤ 100) : RowsOk es.length (L.map fun r => es.map fun e => e.ev r) := by
  refine ⟨fun r hr => ?_, fun r hr => ?_, h1, h9⟩
  · obtain ⟨x, _, rfl⟩ := List.mem_map.mp hr
    exact List.length_map _
  · obtain ⟨x, hx, rfl⟩ := List.mem_map.mp hr
    intro c hc
    obtain ⟨e, hme, rfl⟩ := List.mem_map.mp hc
    exact Ex.ev_bd (hL.bd x hx) e (Ex.sm.cb (he e hme).2.2)
section
variable {P : Program} {w : World} {K : PySem.W.Frag} {mg : Str → Option Value} {base : Heap}
theorem ok_limited (D : GD K mg "limited" sD_limited ["rows", "most"]) (T : TPoss mg) : Cal P w K mg base 1 "limited" spLimited [] := by
  refine D.cal sc_limited (fun vs H Q E h => ?_) (fun f cdv A outer s0 H vs Q E hr h => ?_)
  · obtain ⟨la, N, L, most, rfl, _⟩ := h
    rfl
  obtain ⟨la, N, L, most, rfl, ⟨as, hla, _, pr⟩, q⟩ := h
  refine ⟨_, (pss_one (ps_ret (pe_ifExp (pt_cmpR op_le (pe_callB call_len_seq (by rfl) T.n_len (by decide +kernel) (pa_cons (pv 0) pa_nil)) (pv 1) (nomark _)) (pv 0) pe_non))), ?_⟩
  refine ⟨_, rfl, la, _, rfl, .inl (SqL.of hla), _, rfl, _, _, rfl, rfl, _, rfl, ?_⟩
  rw [List.length_map, pr.len]
  by_cases h : (L.length : Int) ≤ most
  · rw [if_pos h] at q
    exact iteT_of (decide_eq_true h) ⟨_, rfl, q⟩
  · rw [if_neg h] at q
    exact iteF_of (decide_eq_false h) q
theorem ok_copied (D : GD K mg "copied" sD_copied ["rows"]) (T : TPoss mg) : Cal P w K mg base 1 "copied" spCopied [] := by
  refine D.cal sc_copied (fun vs H Q E h => ?_) (fun f cdv A outer s0 H vs Q E hr h => ?_)
  · obtain ⟨v, N, o, rfl, _⟩ := h
    rfl
  obtain ⟨v, N, o, rfl, hv, q⟩ := h
  refine ⟨_, (pss_one (ps_ret (pe_ifExp (pt_cmp (pc_isN (pv 0))) pe_non (pe_callTy call_list_of (by rfl) T.n_list (by decide +kernel) (pa_cons (pv 0) pa_nil))))), ?_⟩
  cases o with
  | none =>
    obtain rfl : v = .non := hv
    exact ⟨_, rfl, _, rfl, iteT (q _ _ .refl rfl)⟩
  | some L =>
    obtain ⟨a, rfl, as, ha, _, pr⟩ := hv
    refine ⟨_, rfl, _, rfl, iteF ⟨_, rfl, a, _, rfl, .inl (SqL.of ha), fun p hp => ?_⟩⟩
    exact q _ _ (.new hp) ⟨p, rfl, hp, as, upd_same, rfl, pr.imp fun _ _ z => z.kp (Kp.new (M := []) hp)⟩
theorem ok_operands (D : GD K mg "operands" sD_operands ["operation"]) : Cal P w K mg base 1 "operands" spOperands [] := by
  refine D.cal sc_operands (fun vs H Q E h => ?_) (fun f cdv A outer s0 H vs Q E hr h => ?_)
  · obtain ⟨oa, N, o, rfl, _⟩ := h
    rfl
  obtain ⟨oa, N, o, rfl, ho, hno, q⟩ := h
  refine ⟨_, (pss_cons (ps_set (i := 1) sc_operands.nd rfl (Or.inl rfl) (pe_ix ix_tup (pv 0) pe_int (fun _ _ => rfl)))
    (pss_cons (ps_if (pt_cmpR op_in_seq (pv 1) (pe_tup (pa_cons pe_str (pa_cons pe_str pa_nil))) (by rfl)) (pss_one (ps_ret (pe_lst pa_nil))) pss_nil)
    (pss_cons (ps_if (pt_cmpR op_in_seq (pv 1) (pe_tup (pa_cons pe_str (pa_cons pe_str pa_nil))) (by rfl)) (pss_one (ps_ret (pe_lst (pa_cons (pe_ix ix_tup (pv 0) pe_int (fun _ _ => rfl)) pa_nil)))) pss_nil)
    (pss_cons (ps_if (pt_cmpR op_in_seq (pv 1) (pe_tup (pa_cons pe_str (pa_cons pe_str pa_nil))) (by rfl)) (pss_one (ps_ret (pe_lst (pa_cons (pe_ix ix_tup (pv 0) pe_int (fun _ _ => rfl)) (pa_cons (pe_ix ix_tup (pv 0) pe_int (fun _ _ => rfl)) pa_nil))))) pss_nil)
    (pss_cons (ps_if (pt_cmpR op_in_seq (pv 1) (pe_tup (pa_cons pe_str (pa_cons pe_str pa_nil))) (by rfl)) (pss_one (ps_ret (pe_lst (pa_cons (pe_ix ix_tup (pv 0) pe_int (fun _ _ => rfl)) (pa_cons (pe_ix ix_tup (pv 0) pe_int (fun _ _ => rfl)) pa_nil))))) pss_nil)
    (pss_one (ps_ret (pe_lst (pa_cons (pe_ix ix_tup (pv 0) pe_int (fun _ _ => rfl)) pa_nil))))))))), ?_⟩
  have e2 : (2 : Nat) ≤ sizeLine := by decide
  have e1 : (1 : Nat) ≤ sizeLine := by decide
  cases o with
  | tab i => exact absurd rfl (hno i).1
  | stp i => exact absurd rfl (hno i).2
  | fil e a =>
    obtain ⟨x, ho, _⟩ := ho
    refine ⟨_, rfl, oa, _, _, _, rfl, rfl, SqT.of ho, rfl, _, rfl, e2, fun t1 h1 => ⟨t1, _, rfl, .inr (SqT.of upd_same), rfl, rfl, _, rfl, iteF_of (by decide +kernel) ?_⟩⟩
    have k1 := Kp.new (M := []) (o := .tup [.str "table", .str "step"]) h1
    refine ⟨_, rfl, e2, fun t2 h2 => ⟨t2, _, rfl, .inr (SqT.of upd_same), rfl, rfl, _, rfl, iteT_of (by decide +kernel) ?_⟩⟩
    have k2 := k1.newer (o := .tup [.str "filter", .str "map"]) h2
    exact ⟨_, rfl, oa, _, _, _, rfl, rfl, SqT.of (k2.t _ _ ho), rfl, e1, fun r hr => q r _ (k2.newer hr) (k2.free hr (by simp)) upd_same⟩
  | map es a =>
    obtain ⟨x, ho, _⟩ := ho
    refine ⟨_, rfl, oa, _, _, _, rfl, rfl, SqT.of ho, rfl, _, rfl, e2, fun t1 h1 => ⟨t1, _, rfl, .inr (SqT.of upd_same), rfl, rfl, _, rfl, iteF_of (by decide +kernel) ?_⟩⟩
    have k1 := Kp.new (M := []) (o := .tup [.str "table", .str "step"]) h1
    refine ⟨_, rfl, e2, fun t2 h2 => ⟨t2, _, rfl, .inr (SqT.of upd_same), rfl, rfl, _, rfl, iteT_of (by decide +kernel) ?_⟩⟩
    have k2 := k1.newer (o := .tup [.str "filter", .str "map"]) h2
    exact ⟨_, rfl, oa, _, _, _, rfl, rfl, SqT.of (k2.t _ _ ho), rfl, e1, fun r hr => q r _ (k2.newer hr) (k2.free hr (by simp)) upd_same⟩
  | join e a b =>
    obtain ⟨x, ho, _⟩ := ho
    refine ⟨_, rfl, oa, _, _, _, rfl, rfl, SqT.of ho, rfl, _, rfl, e2, fun t1 h1 => ⟨t1, _, rfl, .inr (SqT.of upd_same), rfl, rfl, _, rfl, iteF_of (by decide +kernel) ?_⟩⟩
    have k1 := Kp.new (M := []) (o := .tup [.str "table", .str "step"]) h1
    refine ⟨_, rfl, e2, fun t2 h2 => ⟨t2, _, rfl, .inr (SqT.of upd_same), rfl, rfl, _, rfl, iteF_of (by decide +kernel) ?_⟩⟩
    have k2 := k1.newer (o := .tup [.str "filter", .str "map"]) h2
    refine ⟨_, rfl, e2, fun t3 h3 => ⟨t3, _, rfl, .inr (SqT.of upd_same), rfl, rfl, _, rfl, iteT_of (by decide +kernel) ?_⟩⟩
    have k3 := k2.newer (o := .tup [.str "join", .str "anti"]) h3
    exact ⟨_, rfl, oa, _, _, _, rfl, rfl, SqT.of (k3.t _ _ ho), rfl, _, rfl, oa, _, _, _, rfl, rfl, SqT.of (k3.t _ _ ho), rfl, e2, fun r hr => q r _ (k3.newer hr) (k3.free hr (by simp)) upd_same⟩
  | anti e a b =>
    obtain ⟨x, ho, _⟩ := ho
    refine ⟨_, rfl, oa, _, _, _, rfl, rfl, SqT.of ho, rfl, _, rfl, e2, fun t1 h1 => ⟨t1, _, rfl, .inr (SqT.of upd_same), rfl, rfl, _, rfl, iteF_of (by decide +kernel) ?_⟩⟩
    have k1 := Kp.new (M := []) (o := .tup [.str "table", .str "step"]) h1
    refine ⟨_, rfl, e2, fun t2 h2 => ⟨t2, _, rfl, .inr (SqT.of upd_same), rfl, rfl, _, rfl, iteF_of (by decide +kernel) ?_⟩⟩
    have k2 := k1.newer (o := .tup [.str "filter", .str "map"]) h2
    refine ⟨_, rfl, e2, fun t3 h3 => ⟨t3, _, rfl, .inr (SqT.of upd_same), rfl, rfl, _, rfl, iteT_of (by decide +kernel) ?_⟩⟩
    have k3 := k2.newer (o := .tup [.str "join", .str "anti"]) h3
    exact ⟨_, rfl, oa, _, _, _, rfl, rfl, SqT.of (k3.t _ _ ho), rfl, _, rfl, oa, _, _, _, rfl, rfl, SqT.of (k3.t _ _ ho), rfl, e2, fun r hr => q r _ (k3.newer hr) (k3.free hr (by simp)) upd_same⟩
  | uni a b =>
    have ho : H oa = some (.tup [.str "union", .int (a : Int), .int (b : Int)]) := ho
    refine ⟨_, rfl, oa, _, _, _, rfl, rfl, SqT.of ho, rfl, _, rfl, e2, fun t1 h1 => ⟨t1, _, rfl, .inr (SqT.of upd_same), rfl, rfl, _, rfl, iteF_of (by decide +kernel) ?_⟩⟩
    have k1 := Kp.new (M := []) (o := .tup [.str "table", .str "step"]) h1
    refine ⟨_, rfl, e2, fun t2 h2 => ⟨t2, _, rfl, .inr (SqT.of upd_same), rfl, rfl, _, rfl, iteF_of (by decide +kernel) ?_⟩⟩
    have k2 := k1.newer (o := .tup [.str "filter", .str "map"]) h2
    refine ⟨_, rfl, e2, fun t3 h3 => ⟨t3, _, rfl, .inr (SqT.of upd_same), rfl, rfl, _, rfl, iteF_of (by decide +kernel) ?_⟩⟩
    have k3 := k2.newer (o := .tup [.str "join", .str "anti"]) h3
    refine ⟨_, rfl, e2, fun t4 h4 => ⟨t4, _, rfl, .inr (SqT.of upd_same), rfl, rfl, _, rfl, iteT_of (by decide +kernel) ?_⟩⟩
    have k4 := k3.newer (o := .tup [.str "union", .str "minus"]) h4
    exact ⟨_, rfl, oa, _, _, _, rfl, rfl, SqT.of (k4.t _ _ ho), rfl, _, rfl, oa, _, _, _, rfl, rfl, SqT.of (k4.t _ _ ho), rfl, e2, fun r hr => q r _ (k4.newer hr) (k4.free hr (by simp)) upd_same⟩
  | minus a b =>
    have ho : H oa = some (.tup [.str "minus", .int (a : Int), .int (b : Int)]) := ho
    refine ⟨_, rfl, oa, _, _, _, rfl, rfl, SqT.of ho, rfl, _, rfl, e2, fun t1 h1 => ⟨t1, _, rfl, .inr (SqT.of upd_same), rfl, rfl, _, rfl, iteF_of (by decide +kernel) ?_⟩⟩
    have k1 := Kp.new (M := []) (o := .tup [.str "table", .str "step"]) h1
    refine ⟨_, rfl, e2, fun t2 h2 => ⟨t2, _, rfl, .inr (SqT.of upd_same), rfl, rfl, _, rfl, iteF_of (by decide +kernel) ?_⟩⟩
    have k2 := k1.newer (o := .tup [.str "filter", .str "map"]) h2
    refine ⟨_, rfl, e2, fun t3 h3 => ⟨t3, _, rfl, .inr (SqT.of upd_same), rfl, rfl, _, rfl, iteF_of (by decide +kernel) ?_⟩⟩
    have k3 := k2.newer (o := .tup [.str "join", .str "anti"]) h3
    refine ⟨_, rfl, e2, fun t4 h4 => ⟨t4, _, rfl, .inr (SqT.of upd_same), rfl, rfl, _, rfl, iteT_of (by decide +kernel) ?_⟩⟩
    have k4 := k3.newer (o := .tup [.str "union", .str "minus"]) h4
    exact ⟨_, rfl, oa, _, _, _, rfl, rfl, SqT.of (k4.t _ _ ho), rfl, _, rfl, oa, _, _, _, rfl, rfl, SqT.of (k4.t _ _ ho), rfl, e2, fun r hr => q r _ (k4.newer hr) (k4.free hr (by simp)) upd_same⟩
  | grp ks ts a =>
    obtain ⟨l, m, ho, _⟩ := ho
    refine ⟨_, rfl, oa, _, _, _, rfl, rfl, SqT.of ho, rfl, _, rfl, e2, fun t1 h1 => ⟨t1, _, rfl, .inr (SqT.of upd_same), rfl, rfl, _, rfl, iteF_of (by decide +kernel) ?_⟩⟩
    have k1 := Kp.new (M := []) (o := .tup [.str "table", .str "step"]) h1
    refine ⟨_, rfl, e2, fun t2 h2 => ⟨t2, _, rfl, .inr (SqT.of upd_same), rfl, rfl, _, rfl, iteF_of (by decide +kernel) ?_⟩⟩
    have k2 := k1.newer (o := .tup [.str "filter", .str "map"]) h2
    refine ⟨_, rfl, e2, fun t3 h3 => ⟨t3, _, rfl, .inr (SqT.of upd_same), rfl, rfl, _, rfl, iteF_of (by decide +kernel) ?_⟩⟩
    have k3 := k2.newer (o := .tup [.str "join", .str "anti"]) h3
    refine ⟨_, rfl, e2, fun t4 h4 => ⟨t4, _, rfl, .inr (SqT.of upd_same), rfl, rfl, _, rfl, iteF_of (by decide +kernel) ?_⟩⟩
    have k4 := k3.newer (o := .tup [.str "union", .str "minus"]) h4
    exact ⟨_, rfl, oa, _, _, _, rfl, rfl, SqT.of (k4.t _ _ ho), rfl, e1, fun r hr => q r _ (k4.newer hr) (k4.free hr (by simp)) upd_same⟩
end

/-! ### possible rows of operations, of plans -/
section
variable {P : Program} {w : World} {K : PySem.W.Frag} {mg : Str → Option Value} {base : Heap}
theorem Prs.app {α : Type} {R : α → Addr → Prop} : ∀ {as bs : List Addr} {X Y : List α}, Prs R as X → Prs R bs Y → Prs R (as ++ bs) (X ++ Y)
  | [], _, [], _, _, k => k
  | a :: as, _, x :: X, _, h, k => ⟨h.1, Prs.app h.2 k⟩
  | [], _, _ :: _, _, h, _ => h.elim
  | _ :: _, _, [], _, h, _ => h.elim
theorem RowsOk.app {s : Nat} {L M : List Row} (h : RowsOk s L) (k : RowsOk s M) : RowsOk s (L ++ M) := ⟨fun r hr => (List.mem_append.mp hr).elim (h.len r) (k.len r), fun r hr => (List.mem_append.mp hr).elim (h.bd r) (k.bd r), h.w1, h.w9⟩
theorem ok_known (D : GD K mg "known_rows" sD_known_rows ["operation", "parts", "most"]) (c_is_true : Cal P w K mg base 1 "is_true" (spC1 (fun _ => True) fun c => .bl c.yes) []) (c_evaluate : Cal P w K mg base 44 "evaluate" (spEval 44) []) (c_evaluate_all : Cal P w K mg base 45 "evaluate_all" spEvalAll [])
    (c_in_order : Cal P w K mg base 5 "in_order" spInOrder []) (c_limited : Cal P w K mg base 1 "limited" spLimited []) (c_joined_rows : Cal P w K mg base 46 "joined_rows" spJoined []) (c_copied : Cal P w K mg base 1 "copied" spCopied []) : Cal P w K mg base 47 "known_rows" spKnown [] := by
  refine D.cal sc_known_rows (fun vs H Q E h => ?_) (fun f cdv A outer s0 H vs Q E hr h => ?_)
  · obtain ⟨oa, pa, N, N', o, as, L1, most, rfl, _⟩ := h
    rfl
  obtain ⟨oa, pa, N, N', o, as, L1, most, rfl, ho, hpa, pr, kok, l1k, q⟩ := h
  refine ⟨_, (pss_cons (ps_set (i := 3) sc_known_rows.nd rfl (Or.inl rfl) (pe_ix ix_tup (pv 0) pe_int (fun _ _ => rfl)))
    (pss_cons (ps_if (pt_cmpR op_eq (pv 3) pe_str (nomark _)) (pss_one (ps_ret (pe_lc (own := [("row", 4)]) (g := gName 4) rfl sc_known_rows.nd (pi_list (pe_ix ix_list (pv 1) pe_int (fun _ _ => rfl))) (blkOk_by (own := [("row", 4)]) (N := ["operation", "parts", "most", "form", "row"]) (sc := defScope sD_known_rows) (by decide +kernel)) (fun _ _ _ _ _ => (pg_name (i := 4) sc_known_rows.nd rfl (Or.inl rfl))) (fun _ _ _ _ _ => (pts_one (pt_val (pe_c c_is_true hr (by omega) rfl (pa_cons (pe_c c_evaluate hr (by omega) rfl (pa_cons (bx_tup (K := K) rfl (pv 0) pe_int (fun _ _ => rfl)) (pa_cons (pv 4) pa_nil))) pa_nil))))) (fun _ _ _ _ _ => (pv 4))))) pss_nil)
    (pss_cons (ps_if (pt_cmpR op_in_seq (pv 3) (pe_tup (pa_cons pe_str (pa_cons pe_str pa_nil))) (by rfl)) (pss_one (ps_ret (pe_c c_in_order hr (by omega) rfl (pa_cons (pe_lc (own := [("row", 4)]) (g := gName 4) (tt := tYes) rfl sc_known_rows.nd (pi_list (pe_ix ix_list (pv 1) pe_int (fun _ _ => rfl))) (blkOk_by (own := [("row", 4)]) (N := ["operation", "parts", "most", "form", "row"]) (sc := defScope sD_known_rows) (by decide +kernel)) (fun _ _ _ _ _ => (pg_name (i := 4) sc_known_rows.nd rfl (Or.inl rfl))) (fun _ _ _ _ _ => pts_nil) (fun _ _ _ _ _ => (pe_c c_evaluate_all hr (by omega) rfl (pa_cons (bx_tup (K := K) rfl (pv 0) pe_int (fun _ _ => rfl)) (pa_cons (pv 4) pa_nil))))) pa_nil)))) pss_nil)
    (pss_cons (ps_if (pt_cmpR op_eq (pv 3) pe_str (nomark _)) (pss_one (ps_ret (pe_c c_limited hr (by omega) rfl (pa_cons (pe_c c_joined_rows hr (by omega) rfl (pa_cons (pe_ix ix_tup (pv 0) pe_int (fun _ _ => rfl)) (pa_cons (pe_ix ix_list (pv 1) pe_int (fun _ _ => rfl)) (pa_cons (pe_ix ix_list (pv 1) pe_int (fun _ _ => rfl)) pa_nil)))) (pa_cons (pv 2) pa_nil))))) pss_nil)
    (pss_cons (ps_if (pt_cmpR op_eq (pv 3) pe_str (nomark _)) (pss_one (ps_ret (pe_c c_limited hr (by omega) rfl (pa_cons (pe_c c_in_order hr (by omega) rfl (pa_cons (pe_op op_cat (pe_ix ix_list (pv 1) pe_int (fun _ _ => rfl)) (pe_ix ix_list (pv 1) pe_int (fun _ _ => rfl))) pa_nil)) (pa_cons (pv 2) pa_nil))))) pss_nil)
    (pss_one (ps_ret (pe_c c_copied hr (by omega) rfl (pa_cons (pe_ix ix_list (pv 1) pe_int (fun _ _ => rfl)) pa_nil))))))))), ?_⟩
  have e2 : (2 : Nat) ≤ sizeLine := by decide
  have sz := sizeLine_eq
  cases o with
  | tab i => exact kok.elim
  | stp i => exact kok.elim
  | minus a b => exact kok.elim
  | anti e a b => exact kok.elim
  | fil e a =>
    obtain ⟨x, ho, hx⟩ := ho
    obtain ⟨s, L, rfl, okL, ein, ed, esm⟩ := kok
    cases as with
    | nil => exact pr.elim
    | cons c as =>
    cases as with
    | cons c2 as => exact pr.2.elim
    | nil =>
    obtain ⟨cs, hc, _, pc⟩ := pr.1
    have lL := l1k L List.mem_cons_self
    have cl := pc.len
    have w9 := okL.w9
    refine ⟨_, rfl, oa, _, _, _, rfl, rfl, SqT.of ho, rfl, ?_⟩
    refine ⟨_, rfl, rfl, _, rfl, iteT_of (dSs _) ?_⟩
    refine ⟨_, rfl, pa, _, _, _, rfl, rfl, SqL.of hpa, rfl, c, rfl, ⟨_, SqL.of hc⟩, fun D' hD => lc_list (K := K) (a := c) (xs := cs.map V.ref) (fun j G => Kp [] H G ∧ ∃ bs : List Addr, G D' = some (.lst (bs.map V.ref)) ∧ bs.length ≤ j ∧ Prs (RowAt H) bs (filO e (L.take j)))
      ⟨.new hD, [], upd_same, Nat.le_refl _, trivial⟩ (fun j G _ p => SqL.of (p.1.k _ _ hc (by simp))) (fun j y G hj p => ?_) (fun G p => ?_)⟩
    · obtain ⟨kG, bs, hG, bl, pb⟩ := p
      obtain ⟨b, hb, rfl⟩ := mapAt hj
      obtain ⟨r, hr', rt⟩ := pc.of hb
      have hjl : j < L.length := (List.getElem?_eq_some_iff.mp hr').1
      have rm := List.mem_of_getElem? hr'
      have ef : filO e (L.take (j + 1)) = filO e (L.take j) ++ (if (e.ev r).yes = true then [r] else []) := by
        unfold filO
        rw [takeS hr', List.filter_append, List.filter_cons]
        rfl
      rw [ef]
      refine ⟨rfl, _, rfl, oa, _, _, _, rfl, rfl, SqT.of (kG.t _ _ ho), rfl, _, rfl, x, b, e, r, rfl, ExAt.kp kG _ _ hx, rt.kp kG, by rw [okL.len r rm]; exact ein, Ex.sm.cb esm, okL.bd r rm, by omega, fun G2 k2 => ?_⟩
      refine ⟨_, rfl, trivial, fun G3 k3 => ⟨_, rfl, ?_⟩⟩
      have k23 := k2.trans k3
      have hG3 := k23.k _ _ hG (by simp)
      cases cy : (e.ev r).yes with
      | true =>
        refine iteT ⟨_, rfl, _, hG3, by rw [List.length_map]; omega, (kG.trans k23).mt hD, bs ++ [b], by rw [upd_same, List.map_append]; rfl, by rw [List.length_append]; exact Nat.succ_le_succ bl, ?_⟩
        rw [if_pos rfl]
        exact Prs.snoc rt pb
      | false =>
        refine iteF ⟨kG.trans k23, bs, hG3, by omega, ?_⟩
        rw [if_neg Bool.false_ne_true, List.append_nil]
        exact pb
    · obtain ⟨kG, bs, hG, bl, pb⟩ := p
      rw [List.length_map, cl, List.take_length] at pb
      exact q _ G kG ⟨D', rfl, hD, bs, hG, rfl, pb.imp fun _ _ z => z.kp kG⟩
  | map es a =>
    obtain ⟨x, ho, hx⟩ := ho
    obtain ⟨s, L, rfl, okL, eok, e1, e3⟩ := kok
    cases as with
    | nil => exact pr.elim
    | cons c as =>
    cases as with
    | cons c2 as => exact pr.2.elim
    | nil =>
    obtain ⟨cs, hc, _, pc⟩ := pr.1
    have lL := l1k L List.mem_cons_self
    have cl := pc.len
    have w9 := okL.w9
    refine ⟨_, rfl, oa, _, _, _, rfl, rfl, SqT.of ho, rfl, ?_⟩
    refine ⟨_, rfl, rfl, _, rfl, iteF_of (dS (by decide +kernel)) ?_⟩
    refine ⟨_, rfl, e2, fun t1 h1 => ⟨t1, _, rfl, .inr (SqT.of upd_same), rfl, rfl, _, rfl, iteT_of (by decide +kernel) ?_⟩⟩
    have k1 := Kp.new (M := []) (o := .tup [.str "map", .str "group"]) h1
    refine ⟨_, rfl, pa, _, _, _, rfl, rfl, SqL.of (k1.k _ _ hpa (by simp)), rfl, c, rfl, ⟨_, SqL.of (k1.k _ _ hc (by simp))⟩, fun D' hD => lc_list (K := K) (a := c) (xs := cs.map V.ref) (fun j G => Kp [] H G ∧ ∃ bs : List Addr, G D' = some (.lst (bs.map V.ref)) ∧ bs.length = j ∧ Prs (RowAt G) bs ((L.take j).map fun r => (es).map fun e => e.ev r))
      ⟨k1.newer hD, [], upd_same, rfl, trivial⟩ (fun j G _ p => SqL.of (p.1.k _ _ hc (by simp))) (fun j y G hj p => ?_) (fun G p => ?_)⟩
    · obtain ⟨kG, bs, hG, bl, pb⟩ := p
      obtain ⟨b, hb, rfl⟩ := mapAt hj
      obtain ⟨r, hr', rt⟩ := pc.of hb
      have hjl : j < L.length := (List.getElem?_eq_some_iff.mp hr').1
      have rm := List.mem_of_getElem? hr'
      refine ⟨rfl, _, rfl, oa, _, _, _, rfl, rfl, SqT.of (kG.t _ _ ho), rfl, _, rfl, x, b, N, es, r, rfl, hx.kp kG (fun e a z => ExAt.kp kG e a z) (fun _ _ => List.not_mem_nil), rt.kp kG, fun e he => ?_, by omega, okL.bd r rm, fun p G2 k2 hp2 rt2 => ?_⟩
      · obtain ⟨i1, i2, i3⟩ := eok e he
        exact ⟨by rw [okL.len r rm]; exact i1, Ex.sm.cb i3, by omega⟩
      · have hG2 := k2.k _ _ hG (by simp)
        have kput : Kp [D'] G2 (upd G2 D' (.lst (bs.map V.ref ++ [V.ref p]))) := .put (by simp) hG2 fun xs z => by cases z
        refine ⟨_, hG2, by rw [List.length_map]; omega, (kG.trans k2).mt (k1.free hD (by simp)), bs ++ [p], by rw [upd_same, List.map_append]; rfl, by rw [List.length_append, bl]; rfl, ?_⟩
        rw [takeS hr', List.map_append]
        exact Prs.snoc (R := RowAt _) (rt2.kp kput) (pb.imp fun _ _ z => (z.kp k2).kp kput)
    · obtain ⟨kG, bs, hG, bl, pb⟩ := p
      rw [List.length_map, cl, List.take_length] at pb
      refine ⟨D', fun _ => True, _, _, rfl, ⟨bs, hG, trivial, pb⟩, evs_ok okL eok (by omega) (by omega), by rw [List.length_map]; omega, fun p G2 k2 hp2 rt2 => ?_⟩
      exact q _ G2 (kG.trans k2) ⟨p, rfl, kG.free hp2 (by simp), rt2⟩
  | grp ks ts a =>
    obtain ⟨x, m, ho, hx, _⟩ := ho
    obtain ⟨s, L, rfl, okL, eok, e1, e3, ets⟩ := kok
    cases as with
    | nil => exact pr.elim
    | cons c as =>
    cases as with
    | cons c2 as => exact pr.2.elim
    | nil =>
    obtain ⟨cs, hc, _, pc⟩ := pr.1
    have lL := l1k L List.mem_cons_self
    have cl := pc.len
    have w9 := okL.w9
    refine ⟨_, rfl, oa, _, _, _, rfl, rfl, SqT.of ho, rfl, ?_⟩
    refine ⟨_, rfl, rfl, _, rfl, iteF_of (dS (by decide +kernel)) ?_⟩
    refine ⟨_, rfl, e2, fun t1 h1 => ⟨t1, _, rfl, .inr (SqT.of upd_same), rfl, rfl, _, rfl, iteT_of (by decide +kernel) ?_⟩⟩
    have k1 := Kp.new (M := []) (o := .tup [.str "map", .str "group"]) h1
    refine ⟨_, rfl, pa, _, _, _, rfl, rfl, SqL.of (k1.k _ _ hpa (by simp)), rfl, c, rfl, ⟨_, SqL.of (k1.k _ _ hc (by simp))⟩, fun D' hD => lc_list (K := K) (a := c) (xs := cs.map V.ref) (fun j G => Kp [] H G ∧ ∃ bs : List Addr, G D' = some (.lst (bs.map V.ref)) ∧ bs.length = j ∧ Prs (RowAt G) bs ((L.take j).map fun r => (ks).map fun e => e.ev r))
      ⟨k1.newer hD, [], upd_same, rfl, trivial⟩ (fun j G _ p => SqL.of (p.1.k _ _ hc (by simp))) (fun j y G hj p => ?_) (fun G p => ?_)⟩
    · obtain ⟨kG, bs, hG, bl, pb⟩ := p
      obtain ⟨b, hb, rfl⟩ := mapAt hj
      obtain ⟨r, hr', rt⟩ := pc.of hb
      have hjl : j < L.length := (List.getElem?_eq_some_iff.mp hr').1
      have rm := List.mem_of_getElem? hr'
      refine ⟨rfl, _, rfl, oa, _, _, _, rfl, rfl, SqT.of (kG.t _ _ ho), rfl, _, rfl, x, b, N, ks, r, rfl, hx.kp kG (fun e a z => ExAt.kp kG e a z) (fun _ _ => List.not_mem_nil), rt.kp kG, fun e he => ?_, by omega, okL.bd r rm, fun p G2 k2 hp2 rt2 => ?_⟩
      · obtain ⟨i1, i2, i3⟩ := eok e he
        exact ⟨by rw [okL.len r rm]; exact i1, Ex.sm.cb i3, by omega⟩
      · have hG2 := k2.k _ _ hG (by simp)
        have kput : Kp [D'] G2 (upd G2 D' (.lst (bs.map V.ref ++ [V.ref p]))) := .put (by simp) hG2 fun xs z => by cases z
        refine ⟨_, hG2, by rw [List.length_map]; omega, (kG.trans k2).mt (k1.free hD (by simp)), bs ++ [p], by rw [upd_same, List.map_append]; rfl, by rw [List.length_append, bl]; rfl, ?_⟩
        rw [takeS hr', List.map_append]
        exact Prs.snoc (R := RowAt _) (rt2.kp kput) (pb.imp fun _ _ z => (z.kp k2).kp kput)
    · obtain ⟨kG, bs, hG, bl, pb⟩ := p
      rw [List.length_map, cl, List.take_length] at pb
      refine ⟨D', fun _ => True, _, _, rfl, ⟨bs, hG, trivial, pb⟩, evs_ok okL eok (by omega) (by omega), by rw [List.length_map]; omega, fun p G2 k2 hp2 rt2 => ?_⟩
      exact q _ G2 (kG.trans k2) ⟨p, rfl, kG.free hp2 (by simp), rt2⟩
  | join e a b =>
    obtain ⟨x, ho, hx⟩ := ho
    obtain ⟨s, t, L, M, rfl, okL, okM, ⟨ein, ed, esm⟩, st⟩ := kok
    cases as with
    | nil => exact pr.elim
    | cons c as =>
    cases as with
    | nil => exact pr.2.elim
    | cons c2 as =>
    cases as with
    | cons c3 as => exact pr.2.2.elim
    | nil =>
    obtain ⟨cs, hc, hcN, pc⟩ := pr.1
    obtain ⟨ds, hd, hdN, pd⟩ := pr.2.1
    have lL := l1k L List.mem_cons_self
    have lM := l1k M (List.mem_cons_of_mem _ List.mem_cons_self)
    refine ⟨_, rfl, oa, _, _, _, rfl, rfl, SqT.of ho, rfl, ?_⟩
    refine ⟨_, rfl, rfl, _, rfl, iteF_of (dS (by decide +kernel)) ?_⟩
    refine ⟨_, rfl, e2, fun t1 h1 => ⟨t1, _, rfl, .inr (SqT.of upd_same), rfl, rfl, _, rfl, iteF_of (by decide +kernel) ?_⟩⟩
    have k1 := Kp.new (M := []) (o := .tup [.str "map", .str "group"]) h1
    have hpa1 := k1.k _ _ hpa (by simp)
    refine ⟨_, rfl, rfl, _, rfl, iteT_of (dSs _) ?_⟩

    have fin : ∀ (R : List Row) (p : Addr) (G2 : Hp), Kp [] H G2 → H p = none → RowsAt (fun l => l = p) G2 R p → knownO most (.join e a b) [L, M] = lim most R → Q (if (R.length : Int) ≤ most then .ref p else .non) G2 := fun R p G2 k2 hp rt e => by
      have := q (if (R.length : Int) ≤ most then .ref p else .non) G2 k2 (by
        rw [e]
        unfold lim
        by_cases h : (R.length : Int) ≤ most
        · rw [if_pos h, if_pos h]
          exact ⟨p, rfl, hp, rt⟩
        · rw [if_neg h, if_neg h]
          rfl)
      exact this
    have lm := joinL_len e L M
    have lLM : L.length * M.length ≤ 1000 * 1000 := Nat.mul_le_mul lL lM
    exact ⟨_, rfl, oa, _, _, _, rfl, rfl, SqT.of (k1.t _ _ ho), rfl, _, rfl, pa, _, _, _, rfl, rfl, SqL.of hpa1, rfl, _, rfl, pa, _, _, _, rfl, rfl, SqL.of hpa1, rfl, x, c, c2, N', N', e, L, M, s, t, rfl, ExAt.kp k1 _ _ hx,
      ⟨cs, k1.k _ _ hc (by simp), hcN, pc.imp fun _ _ z => z.kp k1⟩, ⟨ds, k1.k _ _ hd (by simp), hdN, pd.imp fun _ _ z => z.kp k1⟩, okL, okM, by omega, ein, Ex.sm.cb esm, by omega, by omega, by omega, by omega, fun p G2 k2 hp rt => ⟨_, rfl, p, _, ordR (joinL e L M), most, rfl, rt, fin _ p G2 (k1.trans k2) (k1.free hp (by simp)) rt rfl⟩⟩
  | uni a b =>
    have ho : H oa = some (.tup [.str "union", .int (a : Int), .int (b : Int)]) := ho
    obtain ⟨s, L, M, rfl, okL, okM⟩ := kok
    cases as with
    | nil => exact pr.elim
    | cons c as =>
    cases as with
    | nil => exact pr.2.elim
    | cons c2 as =>
    cases as with
    | cons c3 as => exact pr.2.2.elim
    | nil =>
    obtain ⟨cs, hc, hcN, pc⟩ := pr.1
    obtain ⟨ds, hd, hdN, pd⟩ := pr.2.1
    have lL := l1k L List.mem_cons_self
    have lM := l1k M (List.mem_cons_of_mem _ List.mem_cons_self)
    refine ⟨_, rfl, oa, _, _, _, rfl, rfl, SqT.of ho, rfl, ?_⟩
    refine ⟨_, rfl, rfl, _, rfl, iteF_of (dS (by decide +kernel)) ?_⟩
    refine ⟨_, rfl, e2, fun t1 h1 => ⟨t1, _, rfl, .inr (SqT.of upd_same), rfl, rfl, _, rfl, iteF_of (by decide +kernel) ?_⟩⟩
    have k1 := Kp.new (M := []) (o := .tup [.str "map", .str "group"]) h1
    have hpa1 := k1.k _ _ hpa (by simp)
    refine ⟨_, rfl, rfl, _, rfl, iteF_of (dS (by decide +kernel)) ?_⟩
    refine ⟨_, rfl, rfl, _, rfl, iteT_of (dSs _) ?_⟩

    have fin : ∀ (R : List Row) (p : Addr) (G2 : Hp), Kp [] H G2 → H p = none → RowsAt (fun l => l = p) G2 R p → knownO most (.uni a b) [L, M] = lim most R → Q (if (R.length : Int) ≤ most then .ref p else .non) G2 := fun R p G2 k2 hp rt e => by
      have := q (if (R.length : Int) ≤ most then .ref p else .non) G2 k2 (by
        rw [e]
        unfold lim
        by_cases h : (R.length : Int) ≤ most
        · rw [if_pos h, if_pos h]
          exact ⟨p, rfl, hp, rt⟩
        · rw [if_neg h, if_neg h]
          rfl)
      exact this
    have cl := pc.len
    have dl := pd.len
    refine ⟨_, rfl, pa, _, _, _, rfl, rfl, SqL.of hpa1, rfl, _, rfl, pa, _, _, _, rfl, rfl, SqL.of hpa1, rfl, c, c2, _, _, rfl, rfl, k1.k _ _ hc (by simp), k1.k _ _ hd (by simp), by rw [List.length_map, List.length_map]; omega, fun u hu => ?_⟩
    have k2 := k1.newer (o := .lst (cs.map V.ref ++ ds.map V.ref)) hu
    refine ⟨u, fun _ => True, L ++ M, s, rfl, ⟨cs ++ ds, by rw [upd_same, List.map_append], trivial, Prs.app (pc.imp fun _ _ z => z.kp k2) (pd.imp fun _ _ z => z.kp k2)⟩, okL.app okM, by rw [List.length_append]; omega, fun p G2 k3 hp rt => ?_⟩
    exact ⟨_, rfl, p, _, ordR (L ++ M), most, rfl, rt, fin _ p G2 (k2.trans k3) (k2.free hp (by simp)) rt rfl⟩
end

/-! ### possible rows of a whole plan -/
def VPrs {α : Type} (R : α → V → Prop) : List V → List α → Prop
  | [], [] => True
  | a :: as, x :: xs => R x a ∧ VPrs R as xs
  | [], _ :: _ => False
  | _ :: _, [] => False
theorem VPrs.len {α : Type} {R : α → V → Prop} : ∀ {as : List V} {xs : List α}, VPrs R as xs → as.length = xs.length
  | [], [], _ => rfl
  | a :: as, x :: xs, h => by rw [List.length_cons, List.length_cons, VPrs.len h.2]
  | [], _ :: _, h => h.elim
  | _ :: _, [], h => h.elim
theorem VPrs.imp {α : Type} {R S : α → V → Prop} (f : ∀ x a, R x a → S x a) : ∀ {as : List V} {xs : List α}, VPrs R as xs → VPrs S as xs
  | [], [], _ => trivial
  | a :: as, x :: xs, h => ⟨f _ _ h.1, VPrs.imp f h.2⟩
  | [], _ :: _, h => h.elim
  | _ :: _, [], h => h.elim
theorem VPrs.snoc {α : Type} {R : α → V → Prop} {b : V} {y : α} (k : R y b) : ∀ {as : List V} {xs : List α}, VPrs R as xs → VPrs R (as ++ [b]) (xs ++ [y])
  | [], [], _ => ⟨k, trivial⟩
  | a :: as, x :: xs, h => ⟨h.1, VPrs.snoc k h.2⟩
  | [], _ :: _, h => h.elim
  | _ :: _, [], h => h.elim
theorem VPrs.at {α : Type} {R : α → V → Prop} : ∀ {as : List V} {xs : List α} {i : Nat} {x : α}, VPrs R as xs → xs[i]? = some x → ∃ a, as[i]? = some a ∧ R x a
  | [], [], _, _, _, e => by simp at e
  | a :: as, x :: xs, 0, _, h, e => by cases e; exact ⟨a, rfl, h.1⟩
  | a :: as, x :: xs, i + 1, _, h, e => VPrs.at (as := as) (xs := xs) (i := i) h.2 (by simpa using e)
  | [], _ :: _, _, _, h, _ => h.elim
  | _ :: _, [], _, _, h, _ => h.elim
theorem VPrs.of {α : Type} {R : α → V → Prop} {as : List V} {xs : List α} {i : Nat} {a : V} (h : VPrs R as xs) (e : as[i]? = some a) : ∃ x, xs[i]? = some x ∧ R x a := by
  have hi := (List.getElem?_eq_some_iff.mp e).1
  rw [h.len] at hi
  obtain ⟨b, e2, r⟩ := h.at (List.getElem?_eq_getElem hi)
  rw [e] at e2
  cases e2
  exact ⟨_, List.getElem?_eq_getElem hi, r⟩
theorem getD_some {α : Type} {L : List α} {i : Nat} {x d : α} (h : L[i]? = some x) : L.getD i d = x := by rw [List.getD_eq_getElem?_getD, h]; rfl
def allS {α : Type} : List (Option α) → Option (List α)
  | [] => some []
  | none :: _ => none
  | some x :: r => (allS r).map (x :: ·)
theorem allS_none {N : Addr → Prop} {H : Hp} : ∀ {xs : List V} {os : List (Option (List Row))}, VPrs (fun o v => OldAt N H v o) xs os → (xs.any fun v => decide (v = .non)) = (allS os).isNone
  | [], [], _ => rfl
  | x :: xs, none :: os, h => by
    obtain rfl : x = .non := h.1
    rfl
  | x :: xs, some L :: os, h => by
    obtain ⟨a, rfl, _⟩ := h.1
    rw [List.any_cons, decide_eq_false (fun z => by cases z), Bool.false_or, allS_none h.2]
    show _ = ((allS os).map (L :: ·)).isNone
    cases allS os <;> rfl
  | [], _ :: _, h => h.elim
  | _ :: _, [], h => h.elim
theorem allS_some {N : Addr → Prop} {H : Hp} : ∀ {xs : List V} {os : List (Option (List Row))} {Ls : List (List Row)}, VPrs (fun o v => OldAt N H v o) xs os → allS os = some Ls → ∃ as : List Addr, xs = as.map V.ref ∧ Prs (fun L a => RowsAt N H L a) as Ls ∧ os = Ls.map some
  | [], [], _, _, e => by cases e; exact ⟨[], rfl, trivial, rfl⟩
  | x :: xs, none :: os, _, _, e => by cases e
  | x :: xs, some L :: os, Ls, h, e => by
    obtain ⟨a, rfl, ra⟩ := h.1
    have e : (allS os).map (L :: ·) = some Ls := e
    cases h2 : allS os with
    | none => rw [h2] at e; cases e
    | some Ms =>
      rw [h2] at e
      cases e
      obtain ⟨as, e1, e2, e3⟩ := allS_some h.2 h2
      exact ⟨a :: as, by rw [e1]; rfl, ⟨ra, e2⟩, by rw [e3]; rfl⟩
  | [], _ :: _, _, h, _ => h.elim
  | _ :: _, [], _, h, _ => h.elim
def possO (most : Int) (tabs : List (List Row)) (stps : List (Option (List Row))) (dn : List (Option (List Row))) : Opn → Option (List Row)
  | .tab i => some (ordR (tabs.getD i []))
  | .stp i => stps.getD i none
  | .minus q _ => dn.getD q none
  | .anti _ q _ => dn.getD q none
  | .grp ks ts q => if ts = [] then (allS [dn.getD q none]).bind (knownO most (.grp ks ts q)) else none
  | .fil e q => (allS [dn.getD q none]).bind (knownO most (.fil e q))
  | .map es q => (allS [dn.getD q none]).bind (knownO most (.map es q))
  | .join e q r => (allS [dn.getD q none, dn.getD r none]).bind (knownO most (.join e q r))
  | .uni q r => (allS [dn.getD q none, dn.getD r none]).bind (knownO most (.uni q r))
/-- operands that are known are of the widths told -/
def WsOk (sz : List Nat) (dn : List (Option (List Row))) : Prop := ∀ (i : Nat) (L : List Row) (s : Nat), dn[i]? = some (some L) → sz[i]? = some s → RowsOk s L ∧ L.length ≤ 1000
def Opn.ma : Opn → Bool
  | .minus _ _ => true
  | .anti _ _ _ => true
  | _ => false
def Opn.isGrp : Opn → Bool
  | .grp _ _ _ => true
  | _ => false
theorem Opn.idx_ops {n : Nat} : ∀ {o : Opn}, o.idx n → ∀ q ∈ o.ops, q < n
  | .tab _, _, q, h => by cases h
  | .stp _, _, q, h => by cases h
  | .fil _ _, i, q, h => by rw [List.mem_singleton.mp h]; exact i
  | .map _ _, i, q, h => by rw [List.mem_singleton.mp h]; exact i
  | .grp _ _ _, i, q, h => by rw [List.mem_singleton.mp h]; exact i
  | .join _ _ _, i, q, h => by
    rcases List.mem_cons.mp h with rfl | h
    · exact i.1
    · rw [List.mem_singleton.mp h]; exact i.2
  | .anti _ _ _, i, q, h => by
    rcases List.mem_cons.mp h with rfl | h
    · exact i.1
    · rw [List.mem_singleton.mp h]; exact i.2
  | .uni _ _, i, q, h => by
    rcases List.mem_cons.mp h with rfl | h
    · exact i.1
    · rw [List.mem_singleton.mp h]; exact i.2
  | .minus _ _, i, q, h => by
    rcases List.mem_cons.mp h with rfl | h
    · exact i.1
    · rw [List.mem_singleton.mp h]; exact i.2
theorem vprs_sel {R : Option (List Row) → V → Prop} {dv : List V} {dn : List (Option (List Row))} (p : VPrs R dv dn) : ∀ {l : List Nat}, (∀ q ∈ l, q < dn.length) → VPrs R (l.map fun q => dv.getD q .non) (l.map fun q => dn.getD q none)
  | [], _ => trivial
  | q :: l, h => by
    have hq := h q List.mem_cons_self
    obtain ⟨v, hv, r⟩ := p.at (List.getElem?_eq_getElem hq)
    refine ⟨?_, vprs_sel p fun x hx => h x (List.mem_cons_of_mem _ hx)⟩
    show R (dn.getD q none) (dv.getD q .non)
    rw [getD_some hv, getD_some (List.getElem?_eq_getElem hq)]
    exact r
theorem possO_known {most : Int} {tabs : List (List Row)} {stps dn : List (Option (List Row))} : ∀ {o : Opn}, (∀ i, o ≠ .tab i ∧ o ≠ .stp i) → o.ma = false → (∀ ks ts a, o = .grp ks ts a → ts = []) → possO most tabs stps dn o = (allS (o.ops.map fun q => dn.getD q none)).bind (knownO most o)
  | .tab i, h, _, _ => absurd rfl (h i).1
  | .stp i, h, _, _ => absurd rfl (h i).2
  | .fil _ _, _, _, _ => rfl
  | .map _ _, _, _, _ => rfl
  | .grp ks ts a, _, _, h => by
    obtain rfl := h ks ts a rfl
    rfl
  | .join _ _ _, _, _, _ => rfl
  | .anti _ _ _, _, h, _ => by cases h
  | .uni _ _, _, _, _ => rfl
  | .minus _ _, _, h, _ => by cases h
theorem known_ok {wd sp sz : List Nat} {s : Nat} {dn : List (Option (List Row))} (lz : sz.length = dn.length) (wz : WsOk sz dn) : ∀ {o : Opn} {Ls : List (List Row)}, OpOk wd sp sz o s → (∀ i, o ≠ .tab i ∧ o ≠ .stp i) → o.ma = false → (∀ ks ts a, o = .grp ks ts a → ts = []) →
    (o.ops.map fun q => dn.getD q none) = Ls.map some → KnownOk Ls o ∧ ∀ L ∈ Ls, L.length ≤ 1000 := by
  have one : ∀ {q n : Nat} {Ls : List (List Row)}, sz[q]? = some n → [dn.getD q none] = Ls.map some → ∃ L, Ls = [L] ∧ RowsOk n L ∧ L.length ≤ 1000 := fun {q n Ls} hq e => by
    have hl : q < dn.length := by rw [← lz]; exact (List.getElem?_eq_some_iff.mp hq).1
    have hd := List.getElem?_eq_getElem hl
    rw [getD_some hd] at e
    match Ls, e with
    | [L], e =>
      have e1 : dn[q] = some L := (List.cons.inj e).1
      rw [e1] at hd
      obtain ⟨a, b⟩ := wz q L n hd hq
      exact ⟨L, rfl, a, b⟩
    | [], e => exact absurd (congrArg List.length e) (by simp)
    | _ :: _ :: _, e => exact absurd (congrArg List.length e) (by simp)
  have two : ∀ {q r n m : Nat} {Ls : List (List Row)}, sz[q]? = some n → sz[r]? = some m → [dn.getD q none, dn.getD r none] = Ls.map some → ∃ L M, Ls = [L, M] ∧ (RowsOk n L ∧ L.length ≤ 1000) ∧ RowsOk m M ∧ M.length ≤ 1000 := fun {q r n m Ls} hq hr e => by
    have hl : q < dn.length := by rw [← lz]; exact (List.getElem?_eq_some_iff.mp hq).1
    have hl' : r < dn.length := by rw [← lz]; exact (List.getElem?_eq_some_iff.mp hr).1
    have hd := List.getElem?_eq_getElem hl
    have hd' := List.getElem?_eq_getElem hl'
    rw [getD_some hd, getD_some hd'] at e
    match Ls, e with
    | [L, M], e =>
      have e1 : dn[q] = some L := (List.cons.inj e).1
      have e2 : dn[r] = some M := (List.cons.inj (List.cons.inj e).2).1
      rw [e1] at hd
      rw [e2] at hd'
      exact ⟨L, M, rfl, wz q L n hd hq, wz r M m hd' hr⟩
    | [], e => exact absurd (congrArg List.length e) (by simp)
    | [_], e => exact absurd (congrArg List.length e) (by simp)
    | _ :: _ :: _ :: _, e => exact absurd (congrArg List.length e) (by simp)
  intro o Ls hok hno hma hg e
  cases o with
  | tab i => exact absurd rfl (hno i).1
  | stp i => exact absurd rfl (hno i).2
  | anti e a b => cases hma
  | minus a b => cases hma
  | fil x a =>
    obtain ⟨h1, h2⟩ := hok
    obtain ⟨L, rfl, a1, a2⟩ := one h1 e
    exact ⟨⟨s, L, rfl, a1, h2⟩, fun M hM => by rw [List.mem_singleton.mp hM]; exact a2⟩
  | map es a =>
    obtain ⟨n, h1, h2, h3, h4, h5⟩ := hok
    obtain ⟨L, rfl, a1, a2⟩ := one h1 e
    exact ⟨⟨n, L, rfl, a1, h2, by omega, by omega⟩, fun M hM => by rw [List.mem_singleton.mp hM]; exact a2⟩
  | grp ks ts a =>
    obtain rfl := hg ks ts a rfl
    obtain ⟨n, h1, h2, h3, h4, h5, h6, h7, h8⟩ := hok
    obtain ⟨L, rfl, a1, a2⟩ := one h1 e
    exact ⟨⟨n, L, rfl, a1, h2, by rw [List.length_nil] at h4; omega, h6, rfl⟩, fun M hM => by rw [List.mem_singleton.mp hM]; exact a2⟩
  | join x a b =>
    obtain ⟨n, m, h1, h2, h3, h4, h5⟩ := hok
    obtain ⟨L, M, rfl, ⟨a1, a2⟩, a3, a4⟩ := two h1 h2 e
    exact ⟨⟨n, m, L, M, rfl, a1, a3, h3, by omega⟩, fun X hX => by
      rcases List.mem_cons.mp hX with rfl | hX
      · exact a2
      · rw [List.mem_singleton.mp hX]; exact a4⟩
  | uni a b =>
    obtain ⟨L, M, rfl, ⟨a1, a2⟩, a3, a4⟩ := two hok.1 hok.2 e
    exact ⟨⟨s, L, M, rfl, a1, a3⟩, fun X hX => by
      rcases List.mem_cons.mp hX with rfl | hX
      · exact a2
      · rw [List.mem_singleton.mp hX]; exact a4⟩
def spOpPoss : Sp := fun vs H Q _ => ∃ (oa da ta sa : Addr) (N Nd Nt Ns : Addr → Prop) (o : Opn) (dv sv : List V) (tas : List Addr) (dn stps : List (Option (List Row))) (tabs : List (List Row)) (wd sp sz : List Nat) (s : Nat) (most : Int), vs = [.ref oa, .ref da, .ref ta, .ref sa, .int most] ∧ OpAt N H o oa ∧
  H da = some (.lst dv) ∧ VPrs (fun o v => OldAt Nd H v o) dv dn ∧ H ta = some (.lst (tas.map V.ref)) ∧ Prs (fun L a => RowsAt Nt H L a) tas tabs ∧ H sa = some (.lst sv) ∧ VPrs (fun o v => OldAt Ns H v o) sv stps ∧ OpOk wd sp sz o s ∧ sz.length = dn.length ∧ sp.length = stps.length ∧ wd.length = tabs.length ∧
  WsOk sz dn ∧ WsOk wd (tabs.map some) ∧
  ∀ (u : V) (G : Hp), Kp [] H G → ResAt H G u (possO most tabs stps dn o) → Q u G
section
variable {P : Program} {w : World} {K : PySem.W.Frag} {mg : Str → Option Value} {base : Heap}
theorem ok_op_possible (D : GD K mg "operation_possible" sD_operation_possible ["operation", "done", "tables", "steps", "most"]) (T : TPoss mg) (c_in_order : Cal P w K mg base 5 "in_order" spInOrder []) (c_copied : Cal P w K mg base 1 "copied" spCopied []) (c_operands : Cal P w K mg base 1 "operands" spOperands []) (c_known_rows : Cal P w K mg base 47 "known_rows" spKnown []) :
    Cal P w K mg base 48 "operation_possible" spOpPoss [] := by
  refine D.cal sc_operation_possible (fun vs H Q E h => ?_) (fun f cdv A outer s0 H vs Q E hr h => ?_)
  · obtain ⟨oa, da, ta, sa, N, Nd, Nt, Ns, o, dv, sv, tas, dn, stps, tabs, wd, sp, sz, s, most, rfl, _⟩ := h
    rfl
  obtain ⟨oa, da, ta, sa, N, Nd, Nt, Ns, o, dv, sv, tas, dn, stps, tabs, wd, sp, sz, s, most, rfl, ho, hda, pd, hta, pt, hsa, ps, hok, lz, lsp, lwd, wz, wt, q⟩ := h
  refine ⟨_, (pss_cons (ps_set (i := 5) sc_operation_possible.nd rfl (Or.inl rfl) (pe_ix ix_tup (pv 0) pe_int (fun _ _ => rfl)))
    (pss_cons (ps_if (pt_cmpR op_eq (pv 5) pe_str (nomark _)) (pss_one (ps_ret (pe_c c_in_order hr (by omega) rfl (pa_cons (pe_ix ix_list (pv 2) (pe_ix ix_tup (pv 0) pe_int (fun _ _ => rfl)) (fun _ _ => rfl)) pa_nil)))) pss_nil)
    (pss_cons (ps_if (pt_cmpR op_eq (pv 5) pe_str (nomark _)) (pss_one (ps_ret (pe_c c_copied hr (by omega) rfl (pa_cons (pe_ix ix_list (pv 3) (pe_ix ix_tup (pv 0) pe_int (fun _ _ => rfl)) (fun _ _ => rfl)) pa_nil)))) pss_nil)
    (pss_cons (ps_if (PW.pt (pw_and (pt_cmpR op_eq (pv 5) pe_str (nomark _)) (pw_and1 (pt_truth (pe_ix ix_tup (pv 0) pe_int (fun _ _ => rfl)) (by intro _; rfl))))) (pss_one (ps_ret pe_non)) pss_nil)
    (pss_cons (ps_setLc (i := 6) (own := [("index", 7)]) (g := gName 7) (tt := tYes) rfl sc_operation_possible.nd rfl rfl (sw_true rfl rfl rfl (by decide +kernel)) (pi_list (pe_c c_operands hr (by omega) rfl (pa_cons (pv 0) pa_nil))) (blkOk_by (own := [("index", 7)]) (N := ["operation", "done", "tables", "steps", "most", "form", "parts", "index", "part"]) (sc := defScope sD_operation_possible) (by decide +kernel)) (fun _ _ _ _ _ => (pg_name (i := 7) sc_operation_possible.nd rfl (Or.inl rfl))) (fun _ _ _ _ _ => pts_nil) (fun _ _ _ _ _ => (bx_list (K := K) rfl (pv 1) (pv 7) (fun _ _ => rfl))))
    (pss_cons (ps_if (pt_cmpR op_in_seq (pv 5) (pe_tup (pa_cons pe_str (pa_cons pe_str pa_nil))) (by rfl)) (pss_one (ps_ret (pe_c c_copied hr (by omega) rfl (pa_cons (pe_ix ix_list (pv 6) pe_int (fun _ _ => rfl)) pa_nil)))) pss_nil)
    (pss_cons (ps_if (pt_val (pe_callB (cr_any rfl) (by rfl) T.n_any (by decide +kernel) (pa_cons (pe_lc (own := [("part", 8)]) (g := gName 8) (tt := tYes) rfl sc_operation_possible.nd (pi_list (pv 6)) (blkOk_by (own := [("part", 8)]) (N := ["operation", "done", "tables", "steps", "most", "form", "parts", "index", "part"]) (sc := defScope sD_operation_possible) (by decide +kernel)) (fun _ _ _ _ _ => (pg_name (i := 8) sc_operation_possible.nd rfl (Or.inl rfl))) (fun _ _ _ _ _ => pts_nil) (fun _ _ _ _ _ => (pe_cmp (pc_isN (pv 8)) rfl))) pa_nil))) (pss_one (ps_ret pe_non)) pss_nil)
    (pss_one (ps_ret (pe_c c_known_rows hr (by omega) rfl (pa_cons (pv 0) (pa_cons (pv 6) (pa_cons (pv 4) pa_nil))))))))))))), ?_⟩
  have e2 : (2 : Nat) ≤ sizeLine := by decide
  have szl := sizeLine_eq
  have dl := pd.len
  have hidx := hok.idx
  rw [lz] at hidx
  by_cases htab : ∃ i, o = .tab i
  · obtain ⟨i, rfl⟩ := htab
    have ho : H oa = some (.tup [.str "table", .int (i : Int)]) := ho
    have hi : i < tabs.length := by rw [← lwd]; exact (List.getElem?_eq_some_iff.mp hok).1
    have hL : tabs[i]? = some tabs[i] := List.getElem?_eq_getElem hi
    obtain ⟨a, ha, rt⟩ := pt.at hL
    obtain ⟨okL, lL⟩ := wt i tabs[i] s (by rw [List.getElem?_map, hL]; rfl) hok
    refine ⟨_, rfl, oa, _, _, _, rfl, rfl, SqT.of ho, rfl, ?_⟩
    refine ⟨_, rfl, rfl, _, rfl, iteT_of (dSs _) ?_⟩
    refine ⟨_, rfl, _, rfl, oa, _, _, _, rfl, rfl, SqT.of ho, rfl, ta, _, _, _, rfl, rfl, SqL.of hta, at_of rfl (by rw [List.getElem?_map, ha]; rfl), a, Nt, tabs[i], s, rfl, rt, okL, by omega, fun p G k hp r2 => ?_⟩
    refine q _ G k ⟨p, rfl, hp, ?_⟩
    rw [getD_some hL]
    exact r2
  by_cases hstp : ∃ i, o = .stp i
  · obtain ⟨i, rfl⟩ := hstp
    have ho : H oa = some (.tup [.str "step", .int (i : Int)]) := ho
    have hi : i < stps.length := by rw [← lsp]; exact (List.getElem?_eq_some_iff.mp hok).1
    have hL : stps[i]? = some stps[i] := List.getElem?_eq_getElem hi
    obtain ⟨v, hv, rt⟩ := ps.at hL
    refine ⟨_, rfl, oa, _, _, _, rfl, rfl, SqT.of ho, rfl, ?_⟩
    refine ⟨_, rfl, rfl, _, rfl, iteF_of (dS (by decide +kernel)) ?_⟩
    refine ⟨_, rfl, rfl, _, rfl, iteT_of (dSs _) ?_⟩
    refine ⟨_, rfl, _, rfl, oa, _, _, _, rfl, rfl, SqT.of ho, rfl, sa, _, _, _, rfl, rfl, SqL.of hsa, at_of rfl hv, v, Ns, stps[i], rfl, rt, fun u G k r2 => ?_⟩
    refine q u G k ?_
    show ResAt H G u (stps.getD i none)
    rw [getD_some hL]
    exact r2
  have hno : ∀ i, o ≠ .tab i ∧ o ≠ .stp i := fun i => ⟨fun z => htab ⟨i, z⟩, fun z => hstp ⟨i, z⟩⟩
  -- the word
  obtain ⟨wo, xs, hw, nt, ns, hma, hgr⟩ : ∃ (wo : Str) (xs : List V), H oa = some (.tup (.str wo :: xs)) ∧ wo ≠ "table" ∧ wo ≠ "step" ∧ inV (.str wo) [.str "minus", .str "anti"] = o.ma ∧ decide (V.str wo = V.str "group") = o.isGrp := by
    cases o with
    | tab i => exact absurd rfl (hno i).1
    | stp i => exact absurd rfl (hno i).2
    | fil e a => obtain ⟨x, ho, _⟩ := ho; exact ⟨_, _, ho, by decide +kernel, by decide +kernel, (by show inV _ _ = false; decide +kernel), dS (by decide +kernel)⟩
    | map e a => obtain ⟨x, ho, _⟩ := ho; exact ⟨_, _, ho, by decide +kernel, by decide +kernel, (by show inV _ _ = false; decide +kernel), dS (by decide +kernel)⟩
    | grp e t a => obtain ⟨x, m, ho, _⟩ := ho; exact ⟨_, _, ho, by decide +kernel, by decide +kernel, (by show inV _ _ = false; decide +kernel), dSs _⟩
    | join e a b => obtain ⟨x, ho, _⟩ := ho; exact ⟨_, _, ho, by decide +kernel, by decide +kernel, (by show inV _ _ = false; decide +kernel), dS (by decide +kernel)⟩
    | anti e a b => obtain ⟨x, ho, _⟩ := ho; exact ⟨_, _, ho, by decide +kernel, by decide +kernel, (by show inV _ _ = true; decide +kernel), dS (by decide +kernel)⟩
    | uni a b => exact ⟨_, _, ho, by decide +kernel, by decide +kernel, (by show inV _ _ = false; decide +kernel), dS (by decide +kernel)⟩
    | minus a b => exact ⟨_, _, ho, by decide +kernel, by decide +kernel, (by show inV _ _ = true; decide +kernel), dS (by decide +kernel)⟩
  refine ⟨_, rfl, oa, _, _, _, rfl, rfl, SqT.of hw, at_of (j := 0) rfl rfl, ?_⟩
  refine ⟨_, rfl, rfl, _, rfl, iteF_of (dS nt) ?_⟩
  refine ⟨_, rfl, rfl, _, rfl, iteF_of (dS ns) ?_⟩
  -- a group with totals
  by_cases hgt : ∃ ks ts a, o = .grp ks ts a ∧ ts ≠ []
  · obtain ⟨ks, ts, a, rfl, hts⟩ := hgt
    obtain ⟨l, m, ho, _, bs, hm, _, pr⟩ := ho
    rw [hw] at ho
    cases ho
    refine ⟨_, rfl, rfl, _, rfl, iteT_of (dSs _) ?_⟩
    refine ⟨_, rfl, oa, _, _, _, rfl, rfl, SqT.of hw, rfl, _, .inl ⟨_, SqL.of hm, rfl⟩, ?_⟩
    have ne : (!(bs.map V.ref).isEmpty) = true := by
      have bl := pr.len
      cases bs with
      | nil => cases ts with
        | nil => exact absurd rfl hts
        | cons t ts => cases bl
      | cons b bs => rfl
    refine iteT_of ne (q _ H .refl ?_)
    show ResAt H H .non (if ts = [] then _ else none)
    rw [if_neg hts]
    rfl
  have hg0 : ∀ ks ts a, o = .grp ks ts a → ts = [] := fun ks ts a e => by
    cases ts with
    | nil => rfl
    | cons t ts => exact absurd ⟨ks, _, a, e, fun z => by cases z⟩ hgt
  have opsl := Opn.idx_ops hidx
  have sel := vprs_sel pd opsl
  obtain ⟨XS, hXS⟩ : ∃ XS, (o.ops.map fun q => dv.getD q .non) = XS := ⟨_, rfl⟩
  have XSl : XS.length ≤ 2 := by rw [← hXS, List.length_map]; cases o <;> simp [Opn.ops]
  rw [hXS] at sel
  refine ⟨_, rfl, rfl, _, rfl, ?_⟩
  refine ite2 (fun c => ?g1) (fun c => ?g2)
  case' g1 =>
    have hgt' : o.isGrp = true := by rw [← hgr]; exact c
    obtain ⟨l, m, xs2, hw2, hm2⟩ : ∃ (l m : Addr) (xs2 : List V), H oa = some (.tup (.str wo :: .ref l :: .ref m :: xs2)) ∧ H m = some (.lst []) := by
      cases o with
      | grp ks ts a =>
        obtain rfl := hg0 ks ts a rfl
        obtain ⟨l, m, ho, _, bs, hm, _, pr⟩ := ho
        have hw' := hw
        rw [ho] at hw'
        cases hw'
        cases bs with
        | nil => exact ⟨l, m, _, ho, hm⟩
        | cons b bs => exact pr.elim
      | _ => cases hgt'
    refine ⟨_, rfl, oa, _, _, _, rfl, rfl, SqT.of hw2, at_of (j := 2) rfl rfl, _, .inl ⟨_, SqL.of hm2, rfl⟩, iteF ?g3⟩
  case g2 | g1 =>
    refine ⟨_, rfl, oa, N, o, rfl, ho, hno, fun r G1 k1 hr0 hr1 => ?_⟩
    refine ⟨r, rfl, ⟨_, SqL.of hr1⟩, fun D' hD => lc_list (K := K) (a := r) (xs := o.ops.map nV) (fun j G => Kp [] G1 G ∧ G D' = some (.lst (XS.take j)))
      ⟨.new hD, upd_same⟩ (fun j G _ p => SqL.of (p.1.k _ _ hr1 (by simp))) (fun j y G hj p => ?_) (fun G p => ?_)⟩
    · obtain ⟨kG, hG⟩ := p
      obtain ⟨qn, hq, rfl⟩ := mapAt hj
      have hql := opsl qn (List.mem_of_getElem? hq)
      obtain ⟨v, hv, _⟩ := pd.at (List.getElem?_eq_getElem hql)
      have hx : XS[j]? = some v := by rw [← hXS, List.getElem?_map, hq]; show some (dv.getD qn .non) = _; rw [getD_some hv]
      refine ⟨rfl, _, rfl, _, rfl, da, _, _, _, rfl, rfl, SqL.of ((k1.trans kG).k _ _ hda (by simp)), at_of rfl hv, _, hG, small1000 (by rw [List.length_take]; omega), kG.mt hD, ?_⟩
      rw [upd_same, takeS hx]
    obtain ⟨kG, hG⟩ := p
    have eXl : (o.ops.map nV).length = XS.length := by rw [← hXS, List.length_map, List.length_map]
    rw [eXl, List.take_length] at hG
    have k2 := k1.trans kG
    have sel2 := sel.imp fun o v h => OldAt.kp k2 (fun _ _ => List.not_mem_nil) h
    refine ⟨_, rfl, e2, fun t1 h1 => ⟨t1, _, rfl, .inr (SqT.of upd_same), rfl, rfl, _, rfl, ?_⟩⟩
    have kt := Kp.new (M := []) (o := .tup [.str "minus", .str "anti"]) h1
    have k3 := k2.trans kt
    have hG3 := kt.k _ _ hG (by simp)
    have sel3 := sel2.imp fun o v h => OldAt.kp kt (fun _ _ => List.not_mem_nil) h
    obtain ⟨G3, hG3e⟩ : ∃ G3, upd G t1 (.tup [.str "minus", .str "anti"]) = G3 := ⟨_, rfl⟩
    rw [hG3e] at kt k3 hG3 sel3 ⊢
    cases hm' : o.ma with
    | true =>
      refine iteT_of (hma.trans hm') ?_
      obtain ⟨qn, hq0, e0⟩ : ∃ qn, o.ops[0]? = some qn ∧ possO most tabs stps dn o = dn.getD qn none := by
        cases o with
        | minus a b => exact ⟨a, rfl, rfl⟩
        | anti e a b => exact ⟨a, rfl, rfl⟩
        | _ => cases hm'
      obtain ⟨v, hv, rv⟩ := sel3.at (i := 0) (x := dn.getD qn none) (by rw [List.getElem?_map, hq0]; rfl)
      refine ⟨_, rfl, D', _, _, _, rfl, rfl, SqL.of hG3, at_of (j := 0) rfl hv, v, Nd, _, rfl, rv, fun u G4 k4 r4 => q u G4 (k3.trans k4) ?_⟩
      rw [e0]
      exact r4.back k3
    | false =>
      refine iteF_of (hma.trans hm') ?_
      have ep := possO_known (most := most) (tabs := tabs) (stps := stps) (dn := dn) hno hm' hg0
      refine ⟨_, rfl, D', rfl, ⟨_, SqL.of hG3⟩, fun D2 hD2 => lc_list (K := K) (a := D') (xs := XS) (fun j G4 => Kp [] G3 G4 ∧ G4 D2 = some (.lst ((XS.take j).map fun v => V.bl (decide (v = .non)))))
        ⟨.new hD2, upd_same⟩ (fun j G4 _ p => SqL.of (p.1.k _ _ hG3 (by simp))) (fun j y G4 hj p => ?_) (fun G4 p => ?_)⟩
      · obtain ⟨k4, h4⟩ := p
        refine ⟨rfl, _, rfl, _, h4, small1000 (by rw [List.length_map, List.length_take]; omega), k4.mt hD2, ?_⟩
        rw [upd_same, takeS hj, List.map_append]
        rfl
      obtain ⟨k4, h4⟩ := p
      rw [List.take_length] at h4
      have h4' : G4 D2 = some (.lst ((XS.map fun v => decide (v = .non)).map V.bl)) := by rw [h4, List.map_map]; rfl
      have k34 := k3.trans k4
      refine ⟨D2, _, rfl, SqL.of h4', _, rfl, ?_⟩
      have ea : (XS.map fun v => decide (v = V.non)).any id = (allS (o.ops.map fun q => dn.getD q none)).isNone := by
        rw [List.any_map]
        exact allS_none sel3
      rw [ea]
      cases hs : allS (o.ops.map fun q => dn.getD q none) with
      | none =>
        refine iteT (q _ G4 k34 ?_)
        rw [ep, hs]
        rfl
      | some Ls =>
        refine iteF ?_
        obtain ⟨as, e1, prs, e3⟩ := allS_some sel3 hs
        obtain ⟨kok, lens⟩ := known_ok lz wz hok hno hm' hg0 e3
        rw [hs] at ep
        refine ⟨_, rfl, _, rfl, _, rfl, oa, D', N, Nd, o, as, Ls, most, rfl, ho.kp k34 (fun _ _ => List.not_mem_nil), by rw [← e1]; exact k4.k _ _ hG3 (by simp), prs.imp fun L a z => z.kp k4 (fun _ _ => List.not_mem_nil), kok, lens, fun u G5 k5 r5 => q u G5 (k34.trans k5) ?_⟩
        rw [ep]
        exact r5.back k34
end

/-! ### possible rows of a plan -/
theorem possO_ok {wd sp sz : List Nat} {s : Nat} {tabs : List (List Row)} {stps dn : List (Option (List Row))} {most : Int} (m0 : 0 ≤ most) (m5 : most ≤ 1000) (lz : sz.length = dn.length) (wz : WsOk sz dn) (wt : WsOk wd (tabs.map some)) (ws : WsOk sp stps) (lw : wd.length = tabs.length) (lsp : sp.length = stps.length) :
    ∀ {o : Opn} {L : List Row}, OpOk wd sp sz o s → possO most tabs stps dn o = some L → RowsOk s L ∧ L.length ≤ 1000 := by
  have back : ∀ {q n : Nat} {L : List Row}, sz[q]? = some n → dn.getD q none = some L → RowsOk n L ∧ L.length ≤ 1000 := fun {q n L} hq e => by
    have hl : q < dn.length := by rw [← lz]; exact (List.getElem?_eq_some_iff.mp hq).1
    have hd := List.getElem?_eq_getElem hl
    rw [getD_some hd] at e
    exact wz q L n (by rw [hd, e]) hq
  intro o L hok e
  cases o with
  | tab i =>
    have hi : i < tabs.length := by rw [← lw]; exact (List.getElem?_eq_some_iff.mp hok).1
    have hL := List.getElem?_eq_getElem hi
    have e : some (ordR (tabs.getD i [])) = some L := e
    rw [getD_some hL] at e
    cases e
    obtain ⟨a, b⟩ := wt i tabs[i] s (by rw [List.getElem?_map, hL]; rfl) hok
    exact ⟨a.ord, Nat.le_trans (ordR_len _) b⟩
  | stp i =>
    have hi : i < stps.length := by rw [← lsp]; exact (List.getElem?_eq_some_iff.mp hok).1
    have hL := List.getElem?_eq_getElem hi
    have e : stps.getD i none = some L := e
    rw [getD_some hL] at e
    exact ws i L s (by rw [hL, e]) hok
  | minus a b => exact back hok.1 e
  | anti x a b =>
    obtain ⟨n, h1, _⟩ := hok
    exact back h1 e
  | fil x a =>
    obtain ⟨h1, _⟩ := hok
    have e : (allS [dn.getD a none]).bind (knownO most (.fil x a)) = some L := e
    cases h : dn.getD a none with
    | none => rw [h] at e; cases e
    | some M =>
      rw [h] at e
      cases e
      obtain ⟨k1, k2⟩ := back h1 h
      exact ⟨k1.sub fun r hr => (List.mem_filter.mp hr).1, Nat.le_trans (List.length_filter_le _ _) k2⟩
  | map es a =>
    obtain ⟨n, h1, h2, h3, h4, h5⟩ := hok
    have e : (allS [dn.getD a none]).bind (knownO most (.map es a)) = some L := e
    cases h : dn.getD a none with
    | none => rw [h] at e; cases e
    | some M =>
      rw [h] at e
      cases e
      obtain ⟨k1, k2⟩ := back h1 h
      have q := (evs_ok k1 h2 (by omega) (by omega)).ord
      rw [show es.length = s by omega] at q
      exact ⟨q, Nat.le_trans (ordR_len _) (by rw [List.length_map]; exact k2)⟩
  | grp ks ts a =>
    obtain ⟨n, h1, h2, h3, h4, h5, h6, h7, h8⟩ := hok
    have e : (if ts = [] then (allS [dn.getD a none]).bind (knownO most (.grp ks ts a)) else none) = some L := e
    by_cases hts : ts = []
    · rw [if_pos hts] at e
      cases h : dn.getD a none with
      | none => rw [h] at e; cases e
      | some M =>
        rw [h] at e
        cases e
        obtain ⟨k1, k2⟩ := back h1 h
        subst hts
        rw [List.length_nil] at h4
        have q := (evs_ok k1 h2 (by omega) (by omega)).ord
        rw [show ks.length = s by simp at *; omega] at q
        exact ⟨q, Nat.le_trans (ordR_len _) (by rw [List.length_map]; exact k2)⟩
    · rw [if_neg hts] at e
      cases e
  | join x a b =>
    obtain ⟨n, m, h1, h2, h3, h4, h5⟩ := hok
    have e : (allS [dn.getD a none, dn.getD b none]).bind (knownO most (.join x a b)) = some L := e
    cases h : dn.getD a none with
    | none => rw [h] at e; cases e
    | some M =>
      cases h' : dn.getD b none with
      | none => rw [h, h'] at e; cases e
      | some M' =>
        rw [h, h'] at e
        have e : lim most (ordR (joinL x M M')) = some L := e
        unfold lim at e
        split at e
        · next hl =>
          cases e
          obtain ⟨k1, k2⟩ := back h1 h
          obtain ⟨k3, k4⟩ := back h2 h'
          have q := (joinL_ok (e := x) k1 k3 (by omega)).ord
          rw [show n + m = s by omega] at q
          exact ⟨q, by omega⟩
        · cases e
  | uni a b =>
    have e : (allS [dn.getD a none, dn.getD b none]).bind (knownO most (.uni a b)) = some L := e
    cases h : dn.getD a none with
    | none => rw [h] at e; cases e
    | some M =>
      cases h' : dn.getD b none with
      | none => rw [h, h'] at e; cases e
      | some M' =>
        rw [h, h'] at e
        have e : lim most (ordR (M ++ M')) = some L := e
        unfold lim at e
        split at e
        · next hl =>
          cases e
          obtain ⟨k1, k2⟩ := back hok.1 h
          obtain ⟨k3, k4⟩ := back hok.2 h'
          have q : RowsOk s (M ++ M') := ⟨fun r hr => (List.mem_append.mp hr).elim (k1.len r) (k3.len r), fun r hr => (List.mem_append.mp hr).elim (k1.bd r) (k3.bd r), k1.w1, k1.w9⟩
          exact ⟨q.ord, by omega⟩
        · cases e
def possP (most : Int) (tabs : List (List Row)) (stps : List (Option (List Row))) (L : List Opn) : List (Option (List Row)) := L.foldl (fun dn o => dn ++ [possO most tabs stps dn o]) []
theorem possP_snoc (most : Int) (tabs : List (List Row)) (stps : List (Option (List Row))) (L : List Opn) (o : Opn) : possP most tabs stps (L ++ [o]) = possP most tabs stps L ++ [possO most tabs stps (possP most tabs stps L) o] := by
  unfold possP
  rw [List.foldl_append]
  rfl
theorem foldl_len {α β : Type} (f : List β → α → β) : ∀ (L : List α) (acc : List β), (L.foldl (fun dn o => dn ++ [f dn o]) acc).length = acc.length + L.length
  | [], _ => rfl
  | x :: L, acc => by rw [List.foldl_cons, foldl_len f L, List.length_append, List.length_singleton, List.length_cons]; omega
theorem possP_len (most : Int) (tabs : List (List Row)) (stps : List (Option (List Row))) (L : List Opn) : (possP most tabs stps L).length = L.length := by
  unfold possP
  rw [foldl_len]
  simp
/-- no two are the same list -/
def Apart (us : List V) : Prop := us.Pairwise fun u v => ∀ a : Addr, u = .ref a → v ≠ .ref a
theorem WsOk.snoc {sz : List Nat} {dn : List (Option (List Row))} {o : Option (List Row)} {s : Nat} (lz : sz.length = dn.length) (h : WsOk sz dn) (k : ∀ L, o = some L → RowsOk s L ∧ L.length ≤ 1000) : WsOk (sz ++ [s]) (dn ++ [o]) := by
  intro i L t h1 h2
  by_cases hi : i < dn.length
  · rw [List.getElem?_append_left hi] at h1
    rw [List.getElem?_append_left (by omega)] at h2
    exact h i L t h1 h2
  · have hl := (List.getElem?_eq_some_iff.mp h1).1
    rw [List.length_append, List.length_singleton] at hl
    have ei : i = dn.length := by omega
    subst ei
    rw [List.getElem?_append_right (Nat.le_refl _), Nat.sub_self] at h1
    rw [← lz, List.getElem?_append_right (Nat.le_refl _), Nat.sub_self] at h2
    cases h2
    exact k L (by simpa using h1)
def spPossible : Sp := fun vs H Q _ => ∃ (pa ta sa : Addr) (N Nt Ns : Addr → Prop) (L : List Opn) (sv : List V) (tas : List Addr) (stps : List (Option (List Row))) (tabs : List (List Row)) (wd sp sz rs : List Nat) (most : Int), vs = [.ref pa, .ref ta, .ref sa, .int most] ∧ PlanAt N H L pa ∧
  H ta = some (.lst (tas.map V.ref)) ∧ Prs (fun L a => RowsAt Nt H L a) tas tabs ∧ H sa = some (.lst sv) ∧ VPrs (fun o v => OldAt Ns H v o) sv stps ∧ PlanOk wd sp L sz rs ∧ sp.length = stps.length ∧ wd.length = tabs.length ∧
  WsOk wd (tabs.map some) ∧ WsOk sp stps ∧ 0 ≤ most ∧ most ≤ 1000 ∧ L.length ≤ 100 ∧
  ∀ (r : Addr) (us : List V) (G : Hp), Kp [] H G → H r = none → G r = some (.lst us) → VPrs (fun o v => OldAt (fun l => H l = none ∧ l ≠ r) G v o) us (possP most tabs stps L) → Apart us → WsOk sz (possP most tabs stps L) → Q (.ref r) G
section
variable {P : Program} {w : World} {K : PySem.W.Frag} {mg : Str → Option Value} {base : Heap}
theorem fn_possible {f : Addr} {fd : FuncData} (D : GK K mg "possible_rows" sD_possible_rows [("most", .int 500)] f fd) (c_operation_possible : Cal P w K mg base 48 "operation_possible" spOpPoss []) :
    FnOk P w K mg base CX0 49 f fd ["plan", "tables", "steps", "most"] spPossible := by
  refine D.ok sc_possible_rows (fun vs H Q E h => ?_) (fun cdv A outer s0 H vs Q E hr h => ?_)
  · obtain ⟨pa, ta, sa, N, Nt, Ns, L, sv, tas, stps, tabs, wd, sp, sz, rs, most, rfl, _⟩ := h
    rfl
  obtain ⟨pa, ta, sa, N, Nt, Ns, L, sv, tas, stps, tabs, wd, sp, sz, rs, most, rfl, ⟨os, hpa, _, pr⟩, hta, pt, hsa, ps, ok, lsp, lwd, wt, ws, m0, m5, lL, q⟩ := h
  refine ⟨_, (pss_cons (ps_set (i := 4) sc_possible_rows.nd rfl (Or.inl rfl) (pe_lst pa_nil))
    (pss_cons (ps_for PassesOwn.never rfl (pi_list (pv 0)) (pg_name (i := 5) sc_possible_rows.nd rfl (Or.inl rfl)) (pss_one (ps_expr (pe_bm PySem.F.plainAttrs_list PySem.F.slot_list_append PySem.F.type_list_append mt_append (pv 4) (pa_cons (pe_c c_operation_possible hr (by omega) rfl (pa_cons (pv 5) (pa_cons (pv 4) (pa_cons (pv 1) (pa_cons (pv 2) (pa_cons (pv 3) pa_nil)))))) pa_nil)))))
    (pss_one (ps_ret (pv 4))))), ?_⟩
  have e0 : (0 : Nat) ≤ sizeLine := by decide
  have ol := pr.len
  have hlz := ok.lz
  refine ⟨e0, fun D' hD => ?_⟩
  have k1 : Kp [] H (upd H D' (.lst [])) := .new hD
  refine ⟨_, rfl, pa, rfl, ⟨_, SqL.of (k1.k _ _ hpa (by simp))⟩, for_list (K := K) (a := pa) (xs := os.map V.ref) (fun i σ G => ∃ (v5 : Option V) (us : List V), σ = [some (.ref pa), some (.ref ta), some (.ref sa), some (.int most), some (.ref D'), v5] ∧ Kp [] H G ∧ G D' = some (.lst us) ∧
      VPrs (fun o v => OldAt (fun l => H l = none ∧ l ≠ D') G v o) us (possP most tabs stps (L.take i)) ∧ Apart us ∧ WsOk (sz.take i) (possP most tabs stps (L.take i)))
    ⟨none, [], rfl, k1, upd_same, trivial, .nil, fun i L s h => by simp [possP] at h⟩ (fun i σ G _ p => by obtain ⟨_, _, _, k, _⟩ := p; exact SqL.of (k.k _ _ hpa (by simp))) (fun i x σ G hx p => ?_) (fun σ G p => ?_)⟩
  · obtain ⟨v5, us, rfl, kG, hG, vp, ap, wz⟩ := p
    obtain ⟨oa, hoa, rfl⟩ := mapAt hx
    obtain ⟨o, ho, at'⟩ := pr.of hoa
    have hil : i < L.length := (List.getElem?_eq_some_iff.mp ho).1
    obtain ⟨s, r', hs, _, hok, _⟩ := ok.ops i o ho
    have pl := possP_len most tabs stps (L.take i)
    rw [List.length_take] at pl
    have lz : (sz.take i).length = (possP most tabs stps (L.take i)).length := by rw [pl, List.length_take]; omega
    have ul := vp.len
    have nN : ∀ l, N l → l ∉ ([] : List Addr) := fun l _ => List.not_mem_nil
    refine ⟨_, rfl, .inl ⟨rfl, _, SqL.of hG⟩, _, rfl, _, rfl, _, rfl, _, rfl, _, rfl, oa, D', ta, sa, N, _, Nt, Ns, o, us, sv, tas, _, stps, tabs, wd, sp, sz.take i, s, most, rfl, at'.kp kG nN, hG, vp, kG.k _ _ hta (by simp), pt.imp fun L a z => z.kp kG fun l _ => List.not_mem_nil, kG.k _ _ hsa (by simp),
      ps.imp fun o v z => z.kp kG fun l _ => List.not_mem_nil, hok, lz, lsp, lwd, wz, wt, fun u G1 k1' r1 => ?_⟩
    have hD1 := k1'.k _ _ hG (by simp)
    have kd : Kp [D'] G1 (upd G1 D' (.lst (us ++ [u]))) := .put (by simp) hD1 fun xs z => by cases z
    have out : ∀ l, (H l = none ∧ l ≠ D') → l ∉ [D'] := fun l n => by simpa using n.2
    have old := vp.imp fun o v z => (z.kp k1' fun l _ => List.not_mem_nil).kp kd out
    refine ⟨D', _, _, rfl, rfl, hD1, small1000 (by omega), some (.ref oa), us ++ [u], rfl, (kG.trans k1').mt hD, upd_same, ?_, ?_, ?_⟩
    · rw [takeS ho, possP_snoc]
      refine old.snoc ?_
      cases hp : possO most tabs stps (possP most tabs stps (L.take i)) o with
      | none => rw [hp] at r1; exact r1
      | some M =>
        rw [hp] at r1
        obtain ⟨a, e, n, ra⟩ := r1
        have n1 : a ≠ D' := fun z => by rw [z, hG] at n; cases n
        have n2 : H a = none := kG.free n (by simp)
        obtain ⟨as, ha, _, prs⟩ := ra.kp kd (fun l hl => by rw [hl]; simpa using n1)
        exact ⟨a, e, as, ha, ⟨n2, n1⟩, prs⟩
    · refine List.pairwise_append.mpr ⟨ap, List.pairwise_singleton _ _, fun x hx y hy a ea eb => ?_⟩
      rw [List.mem_singleton.mp hy] at eb
      obtain ⟨j, hj⟩ := List.getElem?_of_mem hx
      obtain ⟨o', _, ho'⟩ := vp.of hj
      have r1a : G a = none := by
        cases hp : possO most tabs stps (possP most tabs stps (L.take i)) o with
        | none => rw [hp] at r1; rw [show u = .non from r1] at eb; cases eb
        | some M =>
          rw [hp] at r1
          obtain ⟨b, e, n, _⟩ := r1
          rw [e] at eb
          cases eb
          exact n
      cases o' with
      | none => rw [show x = .non from ho'] at ea; cases ea
      | some M =>
        obtain ⟨b, e, as, hb, _⟩ := ho'
        rw [e] at ea
        cases ea
        rw [hb] at r1a
        cases r1a
    · rw [takeS ho, takeS hs, possP_snoc]
      exact wz.snoc lz fun M e => possO_ok m0 m5 lz wz wt ws lwd lsp hok e
  · obtain ⟨v5, us, rfl, kG, hG, vp, ap, wz⟩ := p
    rw [List.length_map, ol, List.take_length] at vp wz
    rw [show L.length = sz.length from hlz.symm, List.take_length] at wz
    exact ⟨_, rfl, q D' us G kG hD hG vp ap wz⟩
theorem kb_possible {f : Addr} {fd : FuncData} {sp : Sp} {k : Nat} (D : GK K mg "possible_rows" sD_possible_rows [("most", .int 500)] f fd) (F : FnOk P w K mg base CX0 k f fd ["plan", "tables", "steps", "most"] sp) : Cal P w K mg base k "possible_rows" sp [.int 500] :=
  D.cal (n := 3) F (by simp) rfl fun Da doc pm an cdv ct us ks l1 l2 => match us, ks, l1, l2 with | [_, _, _], [_], _, _ => ⟨_, _, _, _, _, _, rfl, rfl, rfl⟩
end

/-! ### repr of tracked data without dicts -/
structure FitsW (d : PyData) : Prop where
  s : d.showable = true
  l : d.leavesShort 17 = true
  b : d.bulk ≤ 850000
  d : d.depth ≤ 50
theorem FitsW.len {d : PyData} (h : FitsW d) : d.shown.length ≤ sizeLine := by
  have h1 := PyData.shown_le_bulk 17 (by decide) d h.l
  have h2 := h.b
  rw [sizeLine_eq]
  omega
mutual
theorem Has.noDict {H : Hp} : ∀ (d : PyData) (v : V), Has H v d → d.hasDict = false
  | .none, _, _ => by unfold PyData.hasDict; rfl
  | .bool _, _, _ => by unfold PyData.hasDict; rfl
  | .int _, _, _ => by unfold PyData.hasDict; rfl
  | .str _, _, _ => by unfold PyData.hasDict; rfl
  | .list ds, _, h => by
    unfold PyData.hasDict
    cases h with | lst e r => exact HasAll.noDict ds _ r
  | .tuple ds, _, h => by
    unfold PyData.hasDict
    cases h with | tup e r => exact HasAll.noDict ds _ r
  | .dict _, _, h => by cases h
theorem HasAll.noDict {H : Hp} : ∀ (ds : List PyData) (vs : List V), HasAll H vs ds → PyData.hasDictAll ds = false
  | [], _, _ => by unfold PyData.hasDictAll; rfl
  | d :: ds, _, h => by
    unfold PyData.hasDictAll
    cases h with
    | cons h1 h2 => rw [Has.noDict d _ h1, HasAll.noDict ds _ h2]; rfl
end
def rReprH : List V → Hp → VK → Prop := fun xs H Q => ∃ (a : Addr) (d : PyData), xs = [.ref a] ∧ Has H (.ref a) d ∧ FitsW d ∧ Q (.str d.shown) H
theorem cr_reprH {X : Cx} (hg : X.A.guards = some []) (hu : X.A.units + 1 < cLine - 100) : CallR X (.builtin "repr") rReprH := by
  intro pins s σ H xs us Q I r h
  obtain ⟨a, d, rfl, sh, ft, q⟩ := h
  obtain ⟨u, rfl, rx⟩ := vals1 r
  obtain rfl : u = Value.ref a := rx
  obtain ⟨as, h1⟩ := Has.reads I.hok d _ _ sh (rfl : RelV (.ref a) (.ref a))
  exact PySem.repr_of_reads' h1 ft.s (fun hd => by rw [sh.noDict] at hd; cases hd) hg (by have := ft.d; omega) (fun b o e => e) (fun h' u tk hk => ⟨.str d.shown, H, I.kept hk, ⟨u, rfl⟩, q⟩) ft.len
def rowV (r : Row) : PyData := .tuple (r.map Cell.data)
def rowsV (L : List Row) : PyData := .list (L.map rowV)
def optV : Option (List Row) → PyData
  | none => .none
  | some L => rowsV L
theorem cells_has (H : Hp) : ∀ r : Row, HasAll H (r.map Cell.v) (r.map Cell.data)
  | [] => .nil
  | c :: r => .cons (Cell.has H c) (cells_has H r)
theorem RowAt.has {H : Hp} {r : Row} {a : Addr} (h : RowAt H r a) : Has H (.ref a) (rowV r) := .tup h (cells_has H r)
theorem RowsAt.has {N : Addr → Prop} {H : Hp} {L : List Row} {l : Addr} (h : RowsAt N H L l) : Has H (.ref l) (rowsV L) := LstOf.has h fun _ _ => RowAt.has
/-- what fits, added up -/
structure Few (n m : Nat) (d : PyData) : Prop where
  s : d.showable = true
  l : d.leavesShort 17 = true
  b : d.bulk ≤ n
  d : d.depth ≤ m
theorem few_all {n m : Nat} : ∀ {ds : List PyData}, (∀ d ∈ ds, Few n m d) → PyData.showableAll ds = true ∧ PyData.leavesShortAll 17 ds = true ∧ PyData.bulkAll ds ≤ (n + 1) * ds.length ∧ PyData.depthAll ds ≤ m
  | [], _ => ⟨by unfold PyData.showableAll; rfl, by unfold PyData.leavesShortAll; rfl, by unfold PyData.bulkAll; omega, by unfold PyData.depthAll; omega⟩
  | d :: ds, h => by
    obtain ⟨h1, h2, h3, h4⟩ := few_all fun x hx => h x (List.mem_cons_of_mem _ hx)
    obtain ⟨a, b, c, e⟩ := h d List.mem_cons_self
    unfold PyData.showableAll PyData.leavesShortAll PyData.bulkAll PyData.depthAll
    refine ⟨by rw [a, h1]; rfl, by rw [b, h2]; rfl, ?_, by omega⟩
    rw [List.length_cons, Nat.mul_succ]
    omega
theorem few_list {n m : Nat} {ds : List PyData} (h : ∀ d ∈ ds, Few n m d) : Few ((n + 1) * ds.length) (m + 1) (.list ds) := by
  obtain ⟨h1, h2, h3, h4⟩ := few_all h
  exact ⟨by unfold PyData.showable; exact h1, by unfold PyData.leavesShort; exact h2, by unfold PyData.bulk; exact h3, by unfold PyData.depth; omega⟩
theorem few_tuple {n m : Nat} {ds : List PyData} (h : ∀ d ∈ ds, Few n m d) : Few ((n + 1) * ds.length) (m + 1) (.tuple ds) := by
  obtain ⟨h1, h2, h3, h4⟩ := few_all h
  exact ⟨by unfold PyData.showable; exact h1, by unfold PyData.leavesShort; exact h2, by unfold PyData.bulk; exact h3, by unfold PyData.depth; omega⟩
theorem Few.up {n m n' m' : Nat} {d : PyData} (h : Few n m d) (h1 : n ≤ n') (h2 : m ≤ m') : Few n' m' d := ⟨h.s, h.l, Nat.le_trans h.b h1, Nat.le_trans h.d h2⟩
theorem Cell.few : ∀ {c : Cell}, c.bd → Few 10 0 c.data
  | .non, _ => ⟨by unfold Cell.data PyData.showable; rfl, by unfold Cell.data PyData.leavesShort; rfl, by unfold Cell.data PyData.bulk; omega, by unfold Cell.data PyData.depth; omega⟩
  | .int i, h => by
    have h : -GRT ≤ i ∧ i ≤ GRT := h
    unfold GRT at h
    have hn : i.natAbs < 10 ^ 16 := by omega
    refine ⟨?_, ?_, by unfold Cell.data PyData.bulk; omega, by unfold Cell.data PyData.depth; omega⟩
    · unfold Cell.data PyData.showable
      refine decide_eq_true (Nat.lt_of_le_of_lt (show _ ≤ 60 from ?_) (by decide))
      by_cases z : i.natAbs = 0
      · rw [z]; decide
      · exact Nat.le_of_lt_succ ((Nat.log2_lt z).mpr (Nat.lt_of_lt_of_le hn (by decide)))
    · unfold Cell.data PyData.leavesShort
      refine decide_eq_true ?_
      have := int_text_length_le10 (a := i) (k := 16) (by decide) hn
      show (Str.ofString (toString i)).length ≤ 17
      rw [PySem.ofString_length]
      exact this
  | .str s, h => by
    obtain ⟨h1, h2⟩ : s.length ≤ 10 ∧ PyData.canLay0 (.str s) = true := h
    refine ⟨by unfold Cell.data PyData.showable; rfl, ?_, by unfold Cell.data PyData.bulk; exact h1, by unfold Cell.data PyData.depth; omega⟩
    unfold Cell.data PyData.leavesShort
    unfold PyData.canLay0 PyData.strOk at h2
    refine List.all_eq_true.mpr fun c hc => decide_eq_true ?_
    have := Array.all_eq_true'.mp h2 c (by simpa using hc)
    have : c < 0x110000 := of_decide_eq_true this
    omega
theorem row_few {r : Row} {w : Nat} (h : rbd r) (hw : r.length = w) : Few (11 * w) 1 (rowV r) := by
  have := few_tuple (n := 10) (m := 0) (ds := r.map Cell.data) fun d hd => by
    obtain ⟨c, hc, rfl⟩ := List.mem_map.mp hd
    exact Cell.few (h c hc)
  rw [List.length_map, hw] at this
  exact this
theorem rows_few {L : List Row} {w : Nat} (h : RowsOk w L) (w4 : w ≤ 4) (l : L.length ≤ 1000) : Few 45000 2 (rowsV L) := by
  have := few_list (n := 44) (m := 1) (ds := L.map rowV) fun d hd => by
    obtain ⟨r, hr, rfl⟩ := List.mem_map.mp hd
    exact (row_few (h.bd r hr) (h.len r hr)).up (by omega) (by omega)
  rw [List.length_map] at this
  exact this.up (by omega) (by omega)
theorem opt_few {o : Option (List Row)} {w : Nat} (h : ∀ L, o = some L → RowsOk w L ∧ L.length ≤ 1000) (w4 : w ≤ 4) : Few 45000 2 (optV o) := by
  cases o with
  | none => exact ⟨by unfold optV PyData.showable; rfl, by unfold optV PyData.leavesShort; rfl, by unfold optV PyData.bulk; omega, by unfold optV PyData.depth; omega⟩
  | some L => exact rows_few (h L rfl).1 w4 (h L rfl).2
theorem Few.w {n m : Nat} {d : PyData} (h : Few n m d) (h1 : n ≤ 850000) (h2 : m ≤ 50) : FitsW d := ⟨h.s, h.l, Nat.le_trans h.b h1, Nat.le_trans h.d h2⟩
theorem OldAt.has {N : Addr → Prop} {H : Hp} {v : V} : ∀ {o : Option (List Row)}, OldAt N H v o → Has H v (optV o)
  | none, h => by rw [show v = .non from h]; exact .non
  | some L, ⟨a, e, h⟩ => by rw [e]; exact h.has
theorem VPrs.has {H : Hp} {N : Addr → Prop} : ∀ {vs : List V} {os : List (Option (List Row))}, VPrs (fun o v => OldAt N H v o) vs os → HasAll H vs (os.map optV)
  | [], [], _ => .nil
  | v :: vs, o :: os, h => .cons (OldAt.has h.1) (VPrs.has h.2)
  | [], _ :: _, h => h.elim
  | _ :: _, [], h => h.elim

/-! ### within a comprehension's block: sets of tuples of ints, tuples joined; two clauses -/
def rSetT (K : PySem.W.Frag) (w : World) : List V → Hp → VK → Prop := fun xs H Q => ∃ (l : Addr) (ns : List Int), xs = [.ref l] ∧ SqT K H l (ns.map V.int) ∧ ns.length ≤ 900 ∧ ∀ (p : Addr) (c : Nat), H p = none → c ≤ ns.length → Q (.ref p) (upd H p (SetO w p (fun j => decide (j ∈ ns)) c))
theorem cr_setT {X : Cx} (hc : X.calm = true) : CallR X (.type "set") (rSetT X.K X.w) := by
  intro pins s σ H xs us Q I r h
  obtain ⟨l, ns, rfl, hl, few, q⟩ := h
  rw [Vals.ref1 r]
  obtain ⟨its, rv, pl, _⟩ := I.tuple hl
  exact call_set_tupI ns (I.ok.hd hc) (show s.heap.IsTuple l its.toArray from pl) (ints_of_vals rv) (by unfold scanBound; omega) fun h' tk c R le kp =>
    ⟨.ref s.heap.objs.size, upd H s.heap.objs.size (SetO X.w s.heap.objs.size (fun j => decide (j ∈ ns)) c), I.laid kp (Nat.le_refl _) (setO_new R), rfl, q _ c (I.hok.fresh (Nat.le_refl _)) le⟩
def rTupOf (K : PySem.W.Frag) : List V → Hp → VK → Prop := fun xs H Q => ∃ p ys, xs = [.ref p] ∧ ((SqL K H p ys ∧ ∀ l, H l = none → Q (.ref l) (upd H l (.tup ys))) ∨ (SqT K H p ys ∧ Q (.ref p) H))
def rLstOf (K : PySem.W.Frag) : List V → Hp → VK → Prop := fun xs H Q => ∃ p ys, xs = [.ref p] ∧ (SqL K H p ys ∨ SqT K H p ys) ∧ ∀ l, H l = none → Q (.ref l) (upd H l (.lst ys))
section
variable {X : Cx} {K : PySem.W.Frag} {w : World}
theorem bx_setT (hK : X.K = K) (hw : X.w = w) (hc : X.calm = true) : CallR X (.type "set") (rSetT K w) := hK ▸ hw ▸ cr_setT hc
theorem bx_sortedSet (hw : X.w = w) (hc : X.calm = true) : CallR X (.builtin "sorted") (rSortedSet w) := hw ▸ cr_sortedSet hc
theorem bx_tuple_of (hK : X.K = K) : CallR X (.type "tuple") (rTupOf K) := hK ▸ call_tuple_of
theorem bx_list_of (hK : X.K = K) : CallR X (.type "list") (rLstOf K) := hK ▸ call_list_of
theorem bx_isi (hK : X.K = K) : CallR X (.builtin "isinstance") (rIsi K) := hK ▸ call_isi
theorem bx_catA (hK : X.K = K) : OpR X (binaryOp .Add) (rCatA K) := hK ▸ op_catA
end

/-- a walk over a list, whatever a turn does -/
theorem lco_list {K : PySem.W.Frag} {a : Addr} {xs : List V} {H0 : Hp} {Qd : Hp → Prop} {St : V → Hp → (Hp → Prop) → Prop} (Pv : Nat → Hp → Prop) (h0 : Pv 0 H0) (hl : ∀ i H, i ≤ xs.length → Pv i H → SqL K H a xs)
    (hs : ∀ i x H, xs[i]? = some x → Pv i H → St x H (Pv (i + 1))) (hd : ∀ H, Pv xs.length H → Qd H) :
    ∃ W : Nat → Nat → Hp → Prop, (∃ m, W 0 m H0) ∧ ∀ i m H, W i m H → ((Itl K a).stop i H ∧ Qd H) ∨ ((Itl K a).go i H ∧ ∃ Nx : Hp → Prop, (∀ H', Nx H' → ∃ m', m' < m ∧ W (i + 1) m' H') ∧ ∀ x H', (Itl K a).yld i H x H' → St x H' Nx) := by
  refine ⟨fun i m H => i + m = xs.length ∧ Pv i H, ⟨xs.length, by omega, h0⟩, ?_⟩
  rintro i m H ⟨im, p⟩
  have q := hl i H (by omega) p
  cases m with
  | zero =>
    have e : i = xs.length := by omega
    subst e
    exact .inl ⟨⟨xs, q, Nat.le_refl _⟩, hd H p⟩
  | succ m =>
    have lt : i < xs.length := by omega
    refine .inr ⟨⟨xs, xs[i], q, by simp [lt]⟩, Pv (i + 1), fun H' p' => ⟨m, Nat.lt_succ_self m, by omega, p'⟩, fun x H' y => ?_⟩
    obtain ⟨e, y⟩ := y
    subst e
    exact hs i x _ (y xs q) p


/-! ### rows of the law -/
theorem Prs.unzip {α : Type} {R : α → Addr → Prop} : ∀ {as : List Addr} {xs : List α}, Prs R as xs → ∃ es : List (α × Addr), xs = es.map Prod.fst ∧ as = es.map Prod.snd ∧ ∀ e ∈ es, R e.1 e.2
  | [], [], _ => ⟨[], rfl, rfl, fun e h => by cases h⟩
  | a :: as, x :: xs, h => by
    obtain ⟨es, h1, h2, h3⟩ := Prs.unzip h.2
    refine ⟨(x, a) :: es, by rw [h1]; rfl, by rw [h2]; rfl, fun e he => ?_⟩
    rcases List.mem_cons.mp he with rfl | he
    · exact h.1
    · exact h3 e he
  | [], _ :: _, h => h.elim
  | _ :: _, [], h => h.elim
theorem Cell.layb : ∀ {c : Cell}, c.bd → PyData.canLay0 c.data = true
  | .non, _ => by unfold Cell.data PyData.canLay0; rfl
  | .int i, _ => by unfold Cell.data PyData.canLay0; rfl
  | .str s, h => h.2
theorem rowV_lay {r : Row} (h : rbd r) : PyData.canLay0 (rowV r) = true ∧ PyData.depth (rowV r) ≤ 1 := by
  have : ∀ r : Row, rbd r → PyData.canLayAll0 (r.map Cell.data) = true ∧ PyData.depthAll (r.map Cell.data) ≤ 0 := fun r => by
    induction r with
    | nil => exact fun _ => ⟨by simp [PyData.canLayAll0], by simp [PyData.depthAll]⟩
    | cons c r ih =>
      intro h
      obtain ⟨h1, h2⟩ := ih fun x hx => h x (List.mem_cons_of_mem _ hx)
      have h3 := Cell.layb (h c List.mem_cons_self)
      have h4 := (Cell.few (h c List.mem_cons_self)).d
      rw [List.map_cons, PyData.canLayAll0, PyData.depthAll]
      exact ⟨by rw [h1, h3]; rfl, by omega⟩
  obtain ⟨h1, h2⟩ := this r h
  unfold rowV
  exact ⟨by rw [PyData.canLay0]; exact h1, by rw [PyData.depth]; omega⟩
theorem rows_shaped {L : List Row} (h : ∀ r ∈ L, rbd r) : SeqAt.shaped (.list (L.map rowV)) = true := list_shaped rowV 1 (by decide) (fun r hr => (rowV_lay (h r hr)).1) fun r hr => (rowV_lay (h r hr)).2
theorem row_shaped {r : Row} (h : rbd r) : SeqAt.shaped (rowV r) = true := by
  obtain ⟨h1, h2⟩ := rowV_lay h
  exact Bool.and_eq_true_iff.mpr ⟨h1, decide_eq_true (by omega)⟩
/-- some rows out of rows -/
def spSome : Sp := fun vs H Q _ => ∃ (la : Addr) (N : Addr → Prop) (L : List Row) (w : Nat), vs = [.ref la] ∧ RowsAt N H L la ∧ RowsOk w L ∧ L.length ≤ 1000 ∧
  ∀ (p : Addr) (G : Hp) (M : List Row), Kp [] H G → H p = none → RowsAt (fun l => l = p) G M p → RowsOk w M → M.length ≤ L.length → Q (.ref p) G
def spLRows : Sp := fun vs H Q _ => ∃ (d sc : Addr) (w : Nat) (most : Int), vs = [.ref d, .int (w : Int), .int most] ∧ Drw d sc H ∧ 1 ≤ w ∧ w ≤ 100 ∧ 0 ≤ most ∧ most ≤ 900 ∧
  ∀ (p : Addr) (G : Hp) (M : List Row), Kp [d] H G → Drw d sc G → H p = none → RowsAt (fun l => l = p) G M p → RowsOk w M → (M.length : Int) ≤ most → Q (.ref p) G
structure TL97 (mg : Str → Option Value) : Prop where
  n_range : mg "range" = none
  n_tuple : mg "tuple" = none
  n_sorted : mg "sorted" = none
section
variable {P : Program} {w : World} {K : PySem.W.Frag} {mg : Str → Option Value} {base : Heap}
theorem ok_Lkey (D : GD K mg "_law_key" sD_Lkey ["value"]) (T : TVal0 mg) : Cal P w K mg base 1 "_law_key" spVK [] := by
  refine D.cal sc_Lkey (fun vs H Q E h => ?_) (fun f cdv A outer s0 H vs Q E hr h => ?_)
  · obtain ⟨c, rfl, _⟩ := h
    rfl
  obtain ⟨c, rfl, q⟩ := h
  have e3 : (3 : Nat) ≤ sizeLine := by decide
  refine ⟨_, (pss_cons (ps_if (pt_cmp (pc_isN (pv 0))) (pss_one (ps_ret (pe_tup (pa_cons pe_int (pa_cons pe_int (pa_cons pe_str pa_nil)))))) pss_nil)
    (pss_cons (ps_if (pt_val (pe_callB call_isi (by rfl) T.n_isinstance (by decide +kernel) (pa_cons (pv 0) (pa_cons (pe_bltn (v := .ty "str") (by rfl) T.n_str (by decide +kernel) rfl) pa_nil)))) (pss_one (ps_ret (pe_tup (pa_cons pe_int (pa_cons pe_int (pa_cons (pv 0) pa_nil)))))) pss_nil)
    (pss_one (ps_ret (pe_tup (pa_cons pe_int (pa_cons (pv 0) (pa_cons pe_str pa_nil)))))))), ?_⟩
  cases c with
  | non => exact ⟨_, rfl, _, rfl, iteT ⟨e3, fun r hr => q r _ (.new hr) hr (.tup upd_same (.cons (.int _) (.cons (.int _) (.cons (.str _) .nil))))⟩⟩
  | str s =>
    refine ⟨_, rfl, _, rfl, iteF ?_⟩
    refine ⟨_, rfl, _, _, _, _, _, rfl, .ty _, .base (.str s), kitT (r := true) (by decide +kernel), _, rfl, iteT ?_⟩
    exact ⟨_, rfl, e3, fun r hr => q r _ (.new hr) hr (.tup upd_same (.cons (.int _) (.cons (.int _) (.cons (.str _) .nil))))⟩
  | int i =>
    refine ⟨_, rfl, _, rfl, iteF ?_⟩
    refine ⟨_, rfl, _, _, _, _, _, rfl, .ty _, .base (.int i), kitT (r := false) (by decide +kernel), _, rfl, iteF ?_⟩
    exact ⟨_, rfl, e3, fun r hr => q r _ (.new hr) hr (.tup upd_same (.cons (.int _) (.cons (.int _) (.cons (.str _) .nil))))⟩
theorem ok_Lrow_key (D : GD K mg "_law_row_key" sD_Lrow_key ["row"]) (T : TL97 mg) (c_Lkey : Cal P w K mg base 1 "_law_key" spVK []) : Cal P w K mg base 2 "_law_row_key" spRowKey [] := by
  refine D.cal sc_Lrow_key (fun vs H Q E h => ?_) (fun f cdv A outer s0 H vs Q E hr h => ?_)
  · obtain ⟨a, r, rfl, _⟩ := h
    rfl
  obtain ⟨a, r, rfl, ha, hl, q⟩ := h
  refine ⟨_, (pss_one (ps_ret (pe_callTy call_tuple_of (by rfl) T.n_tuple (by decide +kernel) (pa_cons (pe_lc (own := [("value", 1)]) (g := gName 1) (tt := tYes) rfl sc_Lrow_key.nd (pi_tup (pv 0)) (blkOk_by (own := [("value", 1)]) (N := ["row", "value"]) (sc := defScope sD_Lrow_key) (by decide +kernel)) (fun _ _ _ _ _ => (pg_name (i := 1) sc_Lrow_key.nd rfl (Or.inl rfl))) (fun _ _ _ _ _ => pts_nil) (fun _ _ _ _ _ => (pe_c c_Lkey hr (by omega) rfl (pa_cons (pv 1) pa_nil)))) pa_nil)))), ?_⟩
  refine ⟨_, rfl, a, rfl, ⟨_, SqT.of ha⟩, fun D' hD => lc_tup (K := K) (a := a) (xs := r.map Cell.v) (fun j G => Kp [] H G ∧ ∃ vs : List V, G D' = some (.lst vs) ∧ HasAll G vs ((r.take j).map Cell.keyD))
    ⟨.new hD, [], upd_same, .nil⟩ (fun j G _ p => SqT.of (p.1.t _ _ ha)) (fun j y G hj p => ?_) (fun G p => ?_)⟩
  · obtain ⟨kG, vs, hG, has⟩ := p
    obtain ⟨c, hc, rfl⟩ := mapAt hj
    have hjl : j < r.length := (List.getElem?_eq_some_iff.mp hc).1
    have vl := has.len
    rw [List.length_map, List.length_take] at vl
    refine ⟨rfl, _, rfl, c, rfl, fun p G2 k2 hp h2 => ?_⟩
    have kP : Kp [D'] G2 (upd G2 D' (.lst (vs ++ [V.ref p]))) := .put (by simp) (k2.k _ _ hG (by simp)) fun xs z => by cases z
    have tupK : ∀ (d : PyData) (v : V), (∃ c : Cell, d = c.keyD) → Has G2 v d → Has (upd G2 D' (.lst (vs ++ [V.ref p]))) v d := fun d v ⟨c, hc⟩ h => by
      subst hc
      cases c with
      | non => cases h with | tup e r => exact .tup (kP.t _ _ e) (by cases r with | cons a1 r => cases a1; cases r with | cons a2 r => cases a2; cases r with | cons a3 r => cases a3; cases r; exact .cons (.int _) (.cons (.int _) (.cons (.str _) .nil)))
      | int i => cases h with | tup e r => exact .tup (kP.t _ _ e) (by cases r with | cons a1 r => cases a1; cases r with | cons a2 r => cases a2; cases r with | cons a3 r => cases a3; cases r; exact .cons (.int _) (.cons (.int _) (.cons (.str _) .nil)))
      | str s => cases h with | tup e r => exact .tup (kP.t _ _ e) (by cases r with | cons a1 r => cases a1; cases r with | cons a2 r => cases a2; cases r with | cons a3 r => cases a3; cases r; exact .cons (.int _) (.cons (.int _) (.cons (.str _) .nil)))
    have allK : ∀ (l : List Cell) (us : List V), HasAll G2 us (l.map Cell.keyD) → HasAll (upd G2 D' (.lst (vs ++ [V.ref p]))) us (l.map Cell.keyD) := fun l => by
      induction l with
      | nil => intro us h; cases h; exact .nil
      | cons c l ih =>
        intro us h
        rw [List.map_cons] at h ⊢
        cases h with
        | cons h1 h2 => exact .cons (tupK _ _ ⟨c, rfl⟩ h1) (ih _ h2)
    refine ⟨_, k2.k _ _ hG (by simp), small1000 (by omega), (kG.trans k2).mt hD, _, upd_same, ?_⟩
    rw [takeS hc, List.map_append]
    exact HasAll.snoc (allK _ _ (HasAll.kp k2 _ _ has)) (tupK _ _ ⟨c, rfl⟩ h2)
  · obtain ⟨kG, vs, hG, has⟩ := p
    rw [List.length_map, List.take_length] at has
    refine ⟨D', _, rfl, .inl ⟨SqL.of hG, fun p hp => ?_⟩⟩
    exact q p _ (kG.newer hp) (kG.free hp (by simp)) (.tup upd_same (HasAll.kp (.new hp) _ _ has))
theorem ok_Ldistinct (D : GD K mg "_law_distinct" sD_Ldistinct ["rows"]) : Cal P w K mg base 1 "_law_distinct" spSome [] := by
  refine D.cal sc_Ldistinct (fun vs H Q E h => ?_) (fun f cdv A outer s0 H vs Q E hr h => ?_)
  · obtain ⟨la, N, L, wd, rfl, _⟩ := h
    rfl
  obtain ⟨la, N, L, wd, rfl, ⟨as, hla, _, pr⟩, ok, lL, q⟩ := h
  have e0 : (0 : Nat) ≤ sizeLine := by decide
  have al := pr.len
  refine ⟨_, (pss_cons (ps_set (i := 1) sc_Ldistinct.nd rfl (Or.inl rfl) (pe_lst pa_nil))
    (pss_cons (ps_for PassesOwn.never rfl (pi_list (pv 0)) (pg_name (i := 2) sc_Ldistinct.nd rfl (Or.inl rfl)) (pss_one (ps_if (pt_cmpR (op_notInD (hu65 hr)) (pv 2) (pv 1) (by rfl)) (pss_one (ps_expr (pe_bm PySem.F.plainAttrs_list PySem.F.slot_list_append PySem.F.type_list_append mt_append (pv 1) (pa_cons (pv 2) pa_nil)))) pss_nil)))
    (pss_one (ps_ret (pv 1))))), ?_⟩
  refine ⟨e0, fun fa hfa => ?_⟩
  have k1 : Kp [] H (upd H fa (.lst [])) := .new hfa
  refine ⟨_, rfl, la, rfl, ⟨_, SqL.of (k1.k _ _ hla (by simp))⟩, for_list (K := K) (a := la) (xs := as.map V.ref) (fun i σ G => ∃ (v2 : Option V) (bs : List Addr) (M : List Row), σ = [some (.ref la), some (.ref fa), v2] ∧ Kp [] H G ∧ G fa = some (.lst (bs.map V.ref)) ∧ Prs (RowAt H) bs M ∧ (∀ r ∈ M, r ∈ L) ∧ M.length ≤ i)
    ⟨none, [], [], rfl, k1, upd_same, trivial, fun r h => (by cases h), Nat.le_refl _⟩ (fun i σ G _ p => by obtain ⟨_, _, _, _, k, _⟩ := p; exact SqL.of (k.k _ _ hla (by simp))) (fun i x σ G hx p => ?_) (fun σ G p => ?_)⟩
  · obtain ⟨v2, bs, M, rfl, kG, hG, prM, sub, lM⟩ := p
    obtain ⟨b, hb, rfl⟩ := mapAt hx
    obtain ⟨r, hr', rt⟩ := pr.of hb
    have hil : i < L.length := (List.getElem?_eq_some_iff.mp hr').1
    have hrL := List.mem_of_getElem? hr'
    have bl := prM.len
    have prG : Prs (RowAt G) bs M := prM.imp fun r a z => z.kp kG
    have hasM : HasAll G (bs.map V.ref) (M.map rowV) := prG.hasAll (f := rowV) fun x a h => RowAt.has h
    refine ⟨_, rfl, _, rfl, rowV r, M.map rowV, Has.dp _ _ (rt.kp kG).has, Has.dp _ _ (.lst hG hasM), row_shaped (ok.bd r hrL), rows_shaped fun r hr => ok.bd r (sub r hr), _, rfl, ite2 (fun c => ?_) (fun c => ?_)⟩
    · refine ⟨_, rfl, .inl ⟨rfl, _, SqL.of hG⟩, _, rfl, fa, _, _, rfl, rfl, hG, small1000 (by rw [List.length_map]; omega), some (.ref b), bs ++ [b], M ++ [r], rfl, kG.mt hfa, by rw [upd_same, List.map_append]; rfl, prM.snoc rt, fun x hx => ?_, by rw [List.length_append, List.length_singleton]; omega⟩
      rcases List.mem_append.mp hx with m | m
      · exact sub x m
      · rw [List.mem_singleton.mp m]; exact hrL
    · exact ⟨some (.ref b), bs, M, rfl, kG, hG, prM, sub, by omega⟩
  · obtain ⟨v2, bs, M, rfl, kG, hG, prM, sub, lM⟩ := p
    rw [List.length_map, al] at lM
    exact ⟨_, rfl, q fa G M kG hfa ⟨bs, hG, rfl, prM.imp fun r a z => z.kp kG⟩ (ok.sub sub) lM⟩
theorem ok_Lordered (D : GD K mg "_law_ordered" sD_Lordered ["rows"]) (T : TL97 mg) (c_Ldistinct : Cal P w K mg base 1 "_law_distinct" spSome []) (c_Lrow_key : Cal P w K mg base 2 "_law_row_key" spRowKey []) : Cal P w K mg base 5 "_law_ordered" spSome [] := by
  refine D.cal sc_Lordered (fun vs H Q E h => ?_) (fun f cdv A outer s0 H vs Q E hr h => ?_)
  · obtain ⟨la, N, L, wd, rfl, _⟩ := h
    rfl
  obtain ⟨la, N, L, wd, rfl, hla, ok, lL, q⟩ := h
  refine ⟨_, (pss_one (ps_ret (pe_sortedF c_Lrow_key hr (by omega) (by rfl) T.n_sorted (by decide +kernel) (by rfl) (pa_cons (pe_c c_Ldistinct hr (by omega) rfl (pa_cons (pv 0) pa_nil)) pa_nil)))), ?_⟩
  refine ⟨_, rfl, la, N, L, wd, rfl, hla, ok, lL, fun l G M kG hl hM okM lM => ?_⟩
  obtain ⟨as, hlG, _, pr⟩ := hM
  obtain ⟨es, rfl, rfl, hes⟩ := pr.unzip
  have hed : ∀ e ∈ es, e.1 ∈ es.map Prod.fst := fun e he => List.mem_map.mpr ⟨e, he, rfl⟩
  have e1 : (es.map Prod.snd).map V.ref = (es.map fun e => (V.ref e.2, rowD e.1)).map Prod.fst := by rw [List.map_map, List.map_map]; rfl
  refine ⟨_, rfl, l, es.map fun e => (V.ref e.2, rowD e.1), rfl, by rw [hlG, e1], ?_, ?_, ?_, ?_, fun G2 p k2 hp1 hp2 => ?_⟩
  · intro d hd d' hd'
    rw [List.map_map] at hd hd'
    obtain ⟨e, _, rfl⟩ := List.mem_map.mp hd
    obtain ⟨e', _, rfl⟩ := List.mem_map.mp hd'
    exact rows_alike _ _
  · refine .inl fun d hd => ?_
    rw [List.map_map] at hd
    obtain ⟨e, he, rfl⟩ := List.mem_map.mp hd
    have hw := okM.len e.1 (hed e he)
    have := okM.w1
    cases e1' : e.1 with
    | nil => rw [e1'] at hw; simp at hw; omega
    | cons c r => exact ⟨c.keyD, r.map Cell.keyD, by show rowD e.1 = _; rw [e1']; rfl⟩
  · intro b hb
    obtain ⟨e, _, rfl⟩ := List.mem_map.mp hb
    have := rowD_depth e.1
    show (rowD e.1).depth ≤ 10
    omega
  · intro b hb G' k'
    obtain ⟨e, he, rfl⟩ := List.mem_map.mp hb
    have hw := okM.len e.1 (hed e he)
    have := okM.w9
    exact ⟨e.2, e.1, rfl, (hes e he).kp k', by omega, fun p G'' k'' _ has => ⟨k'', has⟩⟩
  · have em : ((es.map fun e => (V.ref e.2, rowD e.1)).mergeSort (PySem.W.dataLe false Prod.snd)).map Prod.fst = ((es.mergeSort fun a b => leR a.1 b.1).map Prod.snd).map V.ref := by
      rw [← List.map_mergeSort (r := fun a b : Row × Addr => leR a.1 b.1) (f := fun e : Row × Addr => (V.ref e.2, rowD e.1)) fun a _ b _ => rfl, List.map_map, List.map_map]
      rfl
    rw [em]
    have kp := Kp.new (M := []) (o := .lst (((es.mergeSort fun a b => leR a.1 b.1).map Prod.snd).map V.ref)) hp2
    have kall := k2.trans kp
    refine q p _ ((es.mergeSort fun a b => leR a.1 b.1).map Prod.fst) (kG.trans kall) ((kG.trans k2).free hp2 (by simp)) ⟨_, upd_same, rfl, ?_⟩ (okM.sub fun r hr => ?_) ?_
    · exact Prs.of_map fun e he => (hes e ((List.mergeSort_perm _ _).mem_iff.mp he)).kp kall
    · obtain ⟨e, he, rfl⟩ := List.mem_map.mp hr
      exact hed e ((List.mergeSort_perm _ _).mem_iff.mp he)
    · rw [List.length_map, (List.mergeSort_perm _ _).length_eq, ← List.length_map (f := Prod.fst)]
      exact lM
theorem ok_Lrows (D : GD K mg "_law_rows" sD_Lrows ["draw", "width", "most"]) (T : TL97 mg) (c_Lnext : Cal P w K mg base 1 "_law_next" spNext []) (c_Lcell : Cal P w K mg base 2 "_law_cell" spCell []) : Cal P w K mg base 3 "_law_rows" spLRows [] := by
  refine D.cal sc_Lrows (fun vs H Q E h => ?_) (fun f cdv A outer s0 H vs Q E hr h => ?_)
  · obtain ⟨d, sc, wd, most, rfl, _⟩ := h
    rfl
  obtain ⟨d, sc, wd, most, rfl, dr, w1, w9, m0, m9, q⟩ := h
  refine ⟨_, (pss_one (ps_ret (pe_lc (own := [("k", 3)]) (g := gName 3) (tt := tYes) rfl sc_Lrows.nd (pi_range1 (by rfl) T.n_range (pa_cons (pe_c c_Lnext hr (by omega) rfl (pa_cons (pv 0) (pa_cons (pe_op op_add (pv 2) pe_int) pa_nil))) pa_nil)) (blkOk_by (own := [("k", 3)]) (N := ["draw", "width", "most", "k", "j"]) (sc := defScope sD_Lrows) (by decide +kernel)) (fun _ _ _ _ _ => (pg_name (i := 3) sc_Lrows.nd rfl (Or.inl rfl))) (fun _ _ _ _ _ => pts_nil) (fun _ _ _ _ _ => (pe_callTy (bx_tuple_of (K := K) rfl) (by rfl) T.n_tuple (by decide +kernel) (pa_cons (pe_lc (own := [("j", 4)]) (g := gName 4) (tt := tYes) rfl sc_Lrows.nd (pi_range1 (by rfl) T.n_range (pa_cons (pv 1) pa_nil)) (blkOk_by (own := [("j", 4)]) (N := ["draw", "width", "most", "k", "j"]) (sc := relS _ (defScope sD_Lrows)) (by decide +kernel)) (fun _ _ _ _ _ => (pg_name (i := 4) sc_Lrows.nd rfl (Or.inl rfl))) (fun _ _ _ _ _ => pts_nil) (fun _ _ _ _ _ => (pe_c c_Lcell hr (by omega) rfl (pa_cons (pv 0) pa_nil)))) pa_nil)))))), ?_⟩
  refine ⟨_, rfl, _, rfl, _, _, rfl, rfl, d, sc, most + 1, rfl, by omega, by omega, dr, fun z o1 z0 zm no dr1 => ⟨_, rfl, by omega, by omega, ?_⟩⟩
  obtain ⟨zn, rfl⟩ : ∃ zn : Nat, z = zn := ⟨z.toNat, by omega⟩
  rw [Int.toNat_natCast]
  have k1 : Kp [d] H (upd H d o1) := dr.step
  obtain ⟨H1, hH1⟩ : ∃ H1, upd H d o1 = H1 := ⟨_, rfl⟩
  rw [hH1] at dr1 k1 ⊢
  refine fun L hL => ?_
  have nLd : L ≠ d := fun z => by obtain ⟨xs, e⟩ := dr1.dl; rw [← z, hL] at e; cases e
  refine lc_range (lo := 0) (n := zn) (fun j G => Drw d sc G ∧ Kp [d] H1 G ∧ ∃ (bs : List Addr) (M : List Row), M.length = j ∧ (∀ r ∈ M, r.length = wd ∧ rbd r) ∧ G L = some (.lst (bs.map V.ref)) ∧ Prs (RowAt G) bs M)
    ⟨dr1.put (dr1.ne_new hL).1 (dr1.ne_new hL).2, .new hL, [], [], rfl, fun e h => (by cases h), upd_same, trivial⟩ (fun j G hj p => ?_) (fun G p => ?_)
  · obtain ⟨drG, kG, bs, M, lM, okM, hLG, pr⟩ := p
    have bl := pr.len
    refine ⟨rfl, _, rfl, _, rfl, by omega, by omega, ?_⟩
    rw [Int.toNat_natCast]
    refine fun L2 hL2 => ?_
    have nL2d : L2 ≠ d := fun z => by obtain ⟨xs, e⟩ := drG.dl; rw [← z, hL2] at e; cases e
    have nL2L : L2 ≠ L := fun z => by rw [z, hLG] at hL2; cases hL2
    refine lc_range (lo := 0) (n := wd) (fun i G2 => Drw d sc G2 ∧ Kp [d] G G2 ∧ ∃ cs : Row, cs.length = i ∧ rbd cs ∧ G2 L2 = some (.lst (cs.map Cell.v)))
      ⟨drG.put (drG.ne_new hL2).1 (drG.ne_new hL2).2, .new hL2, [], rfl, fun e h => (by cases h), upd_same⟩ (fun i G2 hi p => ?_) (fun G2 p => ?_)
    · obtain ⟨dr2, k2, cs, lc, bc, hc⟩ := p
      refine ⟨rfl, _, rfl, d, sc, rfl, dr2, fun c o sm no dr3 => ?_⟩
      have k3 : Kp [d] G2 (upd G2 d o) := dr2.step
      have hc3 := k3.k _ _ hc (by simpa using nL2d)
      refine ⟨_, hc3, small1000 (by rw [List.length_map]; omega), dr3.put nL2d.symm (drG.ne_new hL2).2, (k2.trans k3).mt hL2, cs ++ [c], by rw [List.length_append, lc]; rfl, fun x hx => ?_, by rw [upd_same, List.map_append]; rfl⟩
      rcases List.mem_append.mp hx with m | m
      · exact bc x m
      · rw [List.mem_singleton.mp m]; exact sm.bd
    · obtain ⟨dr2, k2, cs, lc, bc, hc⟩ := p
      refine ⟨L2, _, rfl, .inl ⟨SqL.of hc, fun t ht => ?_⟩⟩
      have k3 := k2.newer (o := .tup (cs.map Cell.v)) ht
      have hL3 := k3.k _ _ hLG (by simpa using nLd)
      have dr3 := dr2.put (o := .tup (cs.map Cell.v)) (dr2.ne_new ht).1 (dr2.ne_new ht).2
      have hrow : RowAt (upd G2 t (.tup (cs.map Cell.v))) cs t := upd_same
      have kput : Kp [L] (upd G2 t (.tup (cs.map Cell.v))) (upd (upd G2 t (.tup (cs.map Cell.v))) L (.lst (bs.map V.ref ++ [V.ref t]))) := .put (by simp) hL3 fun xs z => by cases z
      refine ⟨_, hL3, small1000 (by rw [List.length_map]; omega), dr3.put nLd.symm (dr1.ne_new hL).2, (kG.trans k3).mt hL, bs ++ [t], M ++ [cs], by rw [List.length_append, lM]; rfl, fun x hx => ?_, by rw [upd_same, List.map_append]; rfl, (pr.imp fun r a h => (h.kp k3).kp kput).snoc (hrow.kp kput)⟩
      rcases List.mem_append.mp hx with m | m
      · exact okM x m
      · rw [List.mem_singleton.mp m]; exact ⟨lc, bc⟩
  · obtain ⟨drG, kG, bs, M, lM, okM, hLG, pr⟩ := p
    exact q L G M (k1.trans kG) drG (k1.free hL (by simpa using nLd)) ⟨bs, hLG, rfl, pr⟩ ⟨fun r hr => (okM r hr).1, fun r hr => (okM r hr).2, w1, w9⟩ (by omega)
end

/-! ### the end: the law's def is run where no repr is under way -/
/-- the law's body, run on the script, answers True -/
def LawAt (P : Program) (w : World) (K : PySem.W.Frag) (mg : Str → Option Value) (base : Heap) (most : Nat) (N : List Str) (st : Stmt) (f : Addr) : Prop :=
  ∀ (cdv : Value) (s : Shared) (H : Hp) (a : Addr) (ns : List Int), ns.length ≤ most → SqL K H a (ns.map V.int) →
    ∃ t, PSs (cxOf CX0 P w K mg base N "law" (defScope st) f cdv callerA [] s H E0).nox (defBody st) t ∧ t { nx := fun _ _ => False, rt := fun v _ => v = V.bl true } (start N [V.ref a]) H
section
variable {P : Program} {w : World} {K : PySem.W.Frag} {mg : Str → Option Value} {base : Heap}
theorem LawAt.run {most : Nat} {N : List Str} {st : Stmt} {f a : Addr} {fd : FuncData} {s : Shared} {H : Hp} {ns : List Int} (L : LawAt P w K mg base most N st f) (D : Fun K "law" "law" st f fd) (S : FnScope N ["script"] (defScope st))
    (e0 : Env0 P w K mg base callerA [] s H) (hb : ∀ (s : Shared) (u : Value), BindsTo s fd ⟨[u], []⟩ [("script", u)]) (hl : ns.length ≤ most) (hS : SqL K H a (ns.map V.int)) :
    codeAny (model P w) callerA (.call (.ref f) ⟨[.ref a], []⟩) (CR CX0 [] P w H s (fun v _ => v = V.bl true) E0) s := by
  obtain ⟨oc, od, kV, doc, pm, an, cdv, ct, osl, rfl, at_f, rec_f⟩ := D.ex
  have inK : K.In s.heap := e0.mod.kin.keeps fun b o z => (e0.bs b o z).1
  have noL : s.heap.NoLimit := e0.mod.nolimit.keeps fun b o z => (e0.bs b o z).1
  have kinds : ∀ y ∈ ([("script", Value.ref a)] : List (Str × Value)), (defScope st).names.lookup y.1 = some .local ∨ ((defScope st).names.lookup y.1 = some .cell ∧ ((cellsFrom (s.heap.objs.size + 1) (defScope st).names []).lookup y.1).isSome = true) := by
    rintro ⟨x, v⟩ hy
    rcases S.par x (by rw [(Prod.mk.inj (List.mem_singleton.mp hy)).1]; exact List.mem_cons_self) with c | c
    · exact Or.inl c
    · exact Or.inr ⟨c, PySem.W.cellsFrom_some _ _ _ (Or.inl c)⟩
  refine codeAny_call_function (show (callerA).depth < recursionLimit by decide) (inK _ _ at_f) rfl S.co S.gen rfl (PySem.W.codeRec_of inK rec_f) (hb s (.ref a) _ _ _ _ ?_)
  refine wpAny_newFunctionEnv_cells S.kind kinds fun env hE s1 x => ?_
  subst hE
  refine ⟨noL.keeps x.toInCall.keep, codeAny_func ?_⟩
  obtain ⟨t, ht, q⟩ := L cdv s H a ns hl hS
  have J : Inv (cxOf CX0 P w K mg base N "law" (defScope st) f cdv callerA [] s H E0) [] (start N [V.ref a]) H s1 := inv_start S rfl e0 rfl (show Vals [V.ref a] [Value.ref a] from .cons rfl .nil) x
  refine wpAny_mono (ht.nox.run [] s1 _ H _ J q) (fun fl s2 z => ?_) fun e s2 z => z
  cases fl with
  | ret u =>
    obtain ⟨v, τ, H2, J2, rv, q2⟩ := z
    exact ⟨v, H2, J2.os, J2.bare, J2.base, J2.hok, rv, q2⟩
  | next => obtain ⟨_, _, _, no⟩ := z; exact no.elim
  | brk => obtain ⟨_, _, _, no⟩ := z; exact no.elim
  | cont => obtain ⟨_, _, _, no⟩ := z; exact no.elim
/-- the script, where it is no object of the module -/
def scr (K : PySem.W.Frag) (a : Addr) (vs : List Value) (ns : List Int) : Hp := fun b => if b = a ∧ (K.lookup a).isNone = true then some (.frz { cls := .type "list", data := .seq vs.toArray } (.lst (ns.map V.int))) else none
theorem scr_some {a b : Addr} {vs : List Value} {ns : List Int} {o : HO} (h : scr K a vs ns b = some o) : b = a ∧ K.lookup a = none ∧ o = .frz { cls := .type "list", data := .seq vs.toArray } (.lst (ns.map V.int)) := by
  unfold scr at h
  split at h
  · rename_i c
    exact ⟨c.1, Option.isNone_iff_eq_none.mp c.2, (Option.some.inj h).symm⟩
  · cases h
end
theorem walk_at {l : PySem.W.OpenLaw} {n : Nat} {q : Program} {loose : List Str} {XP : (Str → Option Value) → Heap → Prop} {YP : World → Heap → Prop} {d : DefRec} {K : Params → PySem.W.Frag} {N : List Str} {st : Stmt}
    (hn : l.most = some n) (hn2 : n ≤ sizeLine) (hdf : d.params.defaults = []) (S : FnScope N ["script"] (defScope st)) (hY : ∀ (w : World) (h : Heap), YP w h → (K w.params).In h)
    (F : ∀ (w : World) (mg : Str → Option Value) (fa : Addr) (h : Heap), (K w.params).In h → h.Ns mainGlobals mg → mg d.name = some (.ref fa) →
      ∃ fd : FuncData, Fun (K w.params) "law" "law" st fa fd ∧ (∀ (s : Shared) (u : Value), BindsTo s fd ⟨[u], []⟩ [("script", u)]) ∧ ∀ base : Heap, (K w.params).In base → base.Ns mainGlobals mg → LawAt l.prog w (K w.params) mg base n N st fa) :
    PySem.W.WalkO q loose XP YP l.row.toRowW d [] (fun f vs => PySem.call f vs) := by
  refine Att.attach_call hn hdf fun w s₀ s mg mb fa o pm cd doc a vs ns G Y ho hod hcd hmg ha hi hlen hgens => ?_
  have inK := hY w _ Y
  obtain ⟨fd, D, hb, hL⟩ := F w mg fa _ inK G.T.g hmg
  have rv := vals_ints hi
  have ok : HOk l.prog w (scr (K w.params) a vs ns) s.heap := fun b u z => by
    obtain ⟨rfl, _, rfl⟩ := scr_some z
    exact ⟨ha, by rw [List.length_map]; exact Nat.le_trans hlen hn2, vs, _, rv, ha⟩
  have hide : ∀ {b : Addr} {u : Obj}, s.heap.get? b = some u → (∀ z, scr (K w.params) a vs ns b = some z → False) → (hidT s.heap (scr (K w.params) a vs ns)).get? b = some u := fun {b u} e no => hidT_get e (by
    cases z : scr (K w.params) a vs ns b with
    | none => rfl
    | some v => exact (no v z).elim)
  have names : ∀ {b : Addr} {m : Str → Option Value}, s.heap.Ns b m → (hidT s.heap (scr (K w.params) a vs ns)).Ns b m := by
    rintro b m ⟨u, es, ep, e, dt, r⟩
    refine ⟨u, es, ep, hide e fun v z => ?_, dt, r⟩
    obtain ⟨rfl, _, _⟩ := scr_some z
    rw [ha] at e
    cases e
    have no : Data.seq vs.toArray _ = Data.dict es ep := dt
    cases no
  have inB : (K w.params).In (hidT s.heap (scr (K w.params) a vs ns)) := fun b u e => hide (inK b u e) fun v z => by
    obtain ⟨rfl, no, _⟩ := scr_some z
    rw [no] at e
    cases e
  have md : Mod (K w.params) mg (hidT s.heap (scr (K w.params) a vs ns)) := ⟨inB, names G.T.g, ⟨mb, names G.T.b, G.T.builtins⟩, by obtain ⟨mc, m1, m2⟩ := G.T.nolimit; exact ⟨mc, names m1, m2⟩⟩
  have sq : SqL (K w.params) (scr (K w.params) a vs ns) a (ns.map V.int) := by
    cases hk : (K w.params).lookup a with
    | some u =>
      have e := inK a u hk
      rw [ha] at e
      cases e
      exact Or.inr ⟨_, vs.toArray, _, hk, rfl, rfl, rfl, by rw [List.size_toArray, hi.length]; omega, by simpa using rv⟩
    | none => exact Or.inl (Or.inr ⟨_, if_pos ⟨rfl, by rw [hk]; rfl⟩⟩)
  have e0 : Env0 l.prog w (K w.params) mg (hidT s.heap (scr (K w.params) a vs ns)) callerA [] s (scr (K w.params) a vs ns) :=
    ⟨rfl, md, fun b u z => of_hidT z, Nat.le_of_eq (hidT_size _ _), trivial, fun b z => absurd (show b ∈ ([] : List Addr) from z) List.not_mem_nil, ok, AllBare.of_eq hgens⟩
  refine codeAny_mono ((hL _ inB (names G.T.g)).run D S e0 hb hlen sq) fun r s2 z => ?_
  cases r with
  | error e => exact False.elim z
  | ok fl =>
    cases fl with
    | next => exact False.elim z
    | brk => exact False.elim z
    | cont => exact False.elim z
    | ret u =>
      obtain ⟨v, H2, os2, bare2, un, ok2, ru, isT⟩ := z
      have isT : v = V.bl true := isT
      subst isT
      obtain rfl : u = Value.bool true := ru
      refine ⟨rfl, OldK.of_keep fun b u e => ?_, os2, bare2⟩
      cases hz : scr (K w.params) a vs ns b with
      | none => exact un.keep b u e hz (fun m => absurd (show b ∈ ([] : List Addr) from m) List.not_mem_nil) List.not_mem_nil
      | some v =>
        obtain ⟨rfl, _, rfl⟩ := scr_some hz
        obtain ⟨e2, _⟩ := ok2 _ _ (un.frzs _ _ _ hz)
        rw [ha] at e
        cases e
        exact e2

/-! ### the law -/
structure TAll97 (mg : Str → Option Value) : Prop where
  n_repr : mg "repr" = none
  n_len : mg "len" = none
  n_range : mg "range" = none
theorem HasAll.of_idx {H : Hp} : ∀ {vs : List V} {ds : List PyData}, vs.length = ds.length → (∀ (i : Nat) (v : V) (d : PyData), vs[i]? = some v → ds[i]? = some d → Has H v d) → HasAll H vs ds
  | [], [], _, _ => .nil
  | v :: vs, d :: ds, h, f => .cons (f 0 v d rfl rfl) (HasAll.of_idx (Nat.succ.inj h) fun i x e p q => f (i + 1) x e p q)
  | [], _ :: _, h, _ => by cases h
  | _ :: _, [], h, _ => by cases h
theorem nats2 {x y : Int} (x0 : 0 ≤ x) (x2 : x < 2) (y0 : 0 ≤ y) (y2 : y < 2) : ∃ wd : List Nat, wd.map nV = [.int (1 + x), .int (1 + y)] ∧ (∀ s ∈ wd, 1 ≤ s ∧ s ≤ 4) ∧ wd.length = 2 := by
  refine ⟨[(1 + x).toNat, (1 + y).toNat], ?_, fun s hs => ?_, rfl⟩
  · have h1 : (((1 + x).toNat : Nat) : Int) = 1 + x := by omega
    have h2 : (((1 + y).toNat : Nat) : Int) = 1 + y := by omega
    show [V.int _, V.int _] = _
    rw [h1, h2]
  · rcases List.mem_cons.mp hs with rfl | hs
    · omega
    · rw [List.mem_singleton.mp hs]; omega
theorem vprs_some {N : Addr → Prop} {H : Hp} : ∀ {as : List Addr} {Ls : List (List Row)}, Prs (fun L a => RowsAt N H L a) as Ls → VPrs (fun o v => OldAt N H v o) (as.map V.ref) (Ls.map some)
  | [], [], _ => trivial
  | a :: as, L :: Ls, h => ⟨⟨a, rfl, h.1⟩, vprs_some h.2⟩
  | [], _ :: _, h => h.elim
  | _ :: _, [], h => h.elim
theorem vprs_set {α : Type} {R : α → V → Prop} {v : V} {x : α} (k : R x v) : ∀ {vs : List V} {xs : List α} {i : Nat}, VPrs R vs xs → VPrs R (vs.set i v) (xs.set i x)
  | [], [], _, _ => trivial
  | _ :: _, _ :: _, 0, h => ⟨k, h.2⟩
  | _ :: _, _ :: _, i + 1, h => ⟨h.1, vprs_set (i := i) k h.2⟩
  | [], _ :: _, _, h => h.elim
  | _ :: _, [], _, h => h.elim
theorem ws_few {sz : List Nat} {dn : List (Option (List Row))} (h : WsOk sz dn) (l : sz.length = dn.length) (h4 : ∀ s ∈ sz, s ≤ 4) : ∀ d ∈ dn.map optV, Few 45000 2 d := by
  intro d hd
  obtain ⟨o, ho, rfl⟩ := List.mem_map.mp hd
  obtain ⟨i, hi⟩ := List.getElem?_of_mem ho
  have hl := (List.getElem?_eq_some_iff.mp hi).1
  have hs := List.getElem?_eq_getElem (show i < sz.length by omega)
  exact opt_few (w := sz[i]) (fun L e => h i L _ (by rw [hi, e]) hs) (h4 _ (List.mem_of_getElem? hs))
theorem tabs_opt (tabs : List (List Row)) : tabs.map rowsV = (tabs.map some).map optV := by rw [List.map_map]; rfl
theorem cut_lo (xs : List V) {k : Nat} (h : k ≤ xs.length) : cutV xs none (some (k : Int)) = xs.take k := by
  unfold cutV
  rw [HT.sIx_none, HT.sIx_nat, Nat.min_eq_left h, Nat.sub_zero]
  rfl
theorem cut_hi (xs : List V) {k : Nat} (h : k ≤ xs.length) : cutV xs (some (k : Int)) none = xs.drop k := by
  unfold cutV
  rw [HT.sIx_none, HT.sIx_nat, Nat.min_eq_left h, List.take_of_length_le (by rw [List.length_drop]; omega)]
theorem cut_last (xs : List V) (x : V) : cutV (xs ++ [x]) none (some (-1)) = xs := by
  unfold cutV
  rw [HT.sIx_none]
  have e : HT.sIx (xs ++ [x]).length (xs ++ [x]).length (some (-1)) = xs.length := by
    rw [List.length_append, List.length_singleton]
    simp [HT.sIx]
    try omega
  rw [e, List.drop_zero, Nat.sub_zero, List.take_left]
section
variable {P : Program} {w : World} {K : PySem.W.Frag} {mg : Str → Option Value} {base : Heap}
theorem ok_law {f : Addr} (T : TAll97 mg) (c_Ldraw : Cal P w K mg base 1 "_law_draw" (spDraw K) []) (c_Lnext : Cal P w K mg base 1 "_law_next" spNext []) (c_Lordered : Cal P w K mg base 5 "_law_ordered" spSome []) (c_Lrows : Cal P w K mg base 3 "_law_rows" spLRows [])
    (c_Lplan : Cal P w K mg base 8 "_law_plan" spPlan []) (c_possible_rows : Cal P w K mg base 49 "possible_rows" spPossible [.int 500]) :
    LawAt P w K mg base 63 ["script", "draw", "widths", "tables", "sizes", "size", "steps", "plan", "kept", "due", "k", "found", "rest", "width"] sD_law f := by
  intro cdv s0 H a ns hlen hS
  have hr : Room 59 (callerA.deeper (envOfC "law" (defScope sD_law) s0.heap.objs.size f cdv)) := (⟨rfl, by decide, by decide⟩ : Room 60 callerA).deeper _
  have hg : ∀ e : Env, (callerA.deeper e).guards = some [] := fun _ => rfl
  have hun : ∀ e : Env, (callerA.deeper e).units + 1 < cLine - 100 := fun _ => by show (callerA.units + 3) + 1 < cLine - 100; decide
  have e2 : (2 : Nat) ≤ sizeLine := by decide
  have e1 : (1 : Nat) ≤ sizeLine := by decide
  refine ⟨_, (pss_cons (ps_set (i := 1) sc_law.nd rfl (Or.inr rfl) (pe_c c_Ldraw hr (by omega) rfl (pa_cons (pv 0) pa_nil)))
    (pss_cons (ps_set (i := 2) sc_law.nd rfl (Or.inl rfl) (pe_lst (pa_cons (pe_op op_add pe_int (pe_c c_Lnext hr (by omega) rfl (pa_cons (pv 1) (pa_cons pe_int pa_nil)))) (pa_cons (pe_op op_add pe_int (pe_c c_Lnext hr (by omega) rfl (pa_cons (pv 1) (pa_cons pe_int pa_nil)))) pa_nil))))
    (pss_cons (ps_setLc (i := 3) (own := [("width", 13)]) (g := gName 13) (tt := tYes) rfl sc_law.nd rfl rfl (sw_true rfl rfl rfl (by decide +kernel)) (pi_list (pv 2)) (blkOk_by (own := [("width", 13)]) (N := ["script", "draw", "widths", "tables", "sizes", "size", "steps", "plan", "kept", "due", "k", "found", "rest", "width"]) (sc := defScope sD_law) (by decide +kernel)) (fun _ _ _ _ _ => (pg_name (i := 13) sc_law.nd rfl (Or.inl rfl))) (fun _ _ _ _ _ => pts_nil) (fun _ _ _ _ _ => (pe_c c_Lordered hr (by omega) rfl (pa_cons (pe_c c_Lrows hr (by omega) rfl (pa_cons (pv 1) (pa_cons (pv 13) (pa_cons pe_int pa_nil)))) pa_nil))))
    (pss_cons (ps_set (i := 4) sc_law.nd rfl (Or.inl rfl) (pe_lst (pa_cons (pe_op op_add pe_int (pe_c c_Lnext hr (by omega) rfl (pa_cons (pv 1) (pa_cons pe_int pa_nil)))) (pa_cons (pe_op op_add pe_int (pe_c c_Lnext hr (by omega) rfl (pa_cons (pv 1) (pa_cons pe_int pa_nil)))) pa_nil))))
    (pss_cons (ps_setLc (i := 6) (own := [("size", 5)]) (g := gName 5) (tt := tYes) rfl sc_law.nd rfl rfl (sw_true rfl rfl rfl (by decide +kernel)) (pi_list (pv 4)) (blkOk_by (own := [("size", 5)]) (N := ["script", "draw", "widths", "tables", "sizes", "size", "steps", "plan", "kept", "due", "k", "found", "rest", "width"]) (sc := defScope sD_law) (by decide +kernel)) (fun _ _ _ _ _ => (pg_name (i := 5) sc_law.nd rfl (Or.inl rfl))) (fun _ _ _ _ _ => pts_nil) (fun _ _ _ _ _ => (pe_c c_Lordered hr (by omega) rfl (pa_cons (pe_c c_Lrows hr (by omega) rfl (pa_cons (pv 1) (pa_cons (pv 5) (pa_cons pe_int pa_nil)))) pa_nil))))
    (pss_cut (ps_if (pt_cmpR op_eq (pe_c c_Lnext hr (by omega) rfl (pa_cons (pv 1) (pa_cons pe_int pa_nil))) pe_int (nomark _)) (pss_one (ps_asg pe_non (pg_sub (pv 6) pe_int set_list))) pss_nil)
    (pss_cons (ps_asg (pe_c c_Lplan hr (by omega) rfl (pa_cons (pv 1) (pa_cons (pv 2) (pa_cons (pv 4) (pa_cons pe_int pa_nil))))) (pg_tup rfl (pgs_cons (pg_name (i := 7) sc_law.nd rfl (Or.inl rfl)) (pgs_cons (pg_name (i := 5) sc_law.nd rfl (Or.inl rfl)) pgs_nil))))
    (pss_cons (ps_set (i := 8) sc_law.nd rfl (Or.inl rfl) (pe_callB (cr_reprH (hg _) (hun _)) (by rfl) T.n_repr (by decide +kernel) (pa_cons (pe_lst (pa_cons (pv 3) (pa_cons (pv 6) pa_nil))) pa_nil)))
    (pss_cons (ps_set (i := 9) sc_law.nd rfl (Or.inl rfl) (pe_callB (cr_reprH (hg _) (hun _)) (by rfl) T.n_repr (by decide +kernel) (pa_cons (pe_c c_possible_rows hr (by omega) rfl (pa_cons (pv 7) (pa_cons (pv 3) (pa_cons (pv 6) pa_nil)))) pa_nil)))
    (pss_cons (ps_for PassesOwn.never rfl (pi_range1 (by rfl) T.n_range (pa_cons (pe_callB call_len_seq (by rfl) T.n_len (by decide +kernel) (pa_cons (pv 7) pa_nil)) pa_nil)) (pg_name (i := 10) sc_law.nd rfl (Or.inl rfl)) (pss_cons (ps_set (i := 11) sc_law.nd rfl (Or.inl rfl) (pe_c c_possible_rows hr (by omega) rfl (pa_cons (pv 7) (pa_cons (pv 3) (pa_cons (pv 6) pa_nil)))))
    (pss_cons (ps_if (pt_cmpR op_ne (pe_callB (cr_reprH (hg _) (hun _)) (by rfl) T.n_repr (by decide +kernel) (pa_cons (pv 11) pa_nil)) (pv 9) (nomark _)) (pss_one (ps_ret pe_bl)) pss_nil)
    (pss_one (ps_if (pt_cmp (pc_notN (pe_ix ix_list (pv 11) (pv 10) (fun _ _ => rfl)))) (pss_cons (ps_expr (pe_bm PySem.F.plainAttrs_list PySem.F.slot_list_append PySem.F.type_list_append mt_append (pe_ix ix_list (pv 11) (pv 10) (fun _ _ => rfl)) (pa_cons (pe_tup (pa_cons pe_str pa_nil)) pa_nil)))
    (pss_cons (ps_set (i := 12) sc_law.nd rfl (Or.inl rfl) (pe_op op_cat (pe_op op_cat (pe_slice sl_list (pv 11) po_none (po_some (pv 10))) (pe_lst (pa_cons (pe_slice sl_list (pe_ix ix_list (pv 11) (pv 10) (fun _ _ => rfl)) po_none (po_some (pe_un un_neg pe_int))) pa_nil))) (pe_slice sl_list (pv 11) (po_some (pe_op op_add (pv 10) pe_int)) po_none)))
    (pss_one (ps_if (PW.pt (pw_or (pt_cmpR op_ne (pe_callB (cr_reprH (hg _) (hun _)) (by rfl) T.n_repr (by decide +kernel) (pa_cons (pv 12) pa_nil)) (pv 9) (nomark _)) (pw_or1 (pt_cmpR op_ne (pe_callB (cr_reprH (hg _) (hun _)) (by rfl) T.n_repr (by decide +kernel) (pa_cons (pe_lst (pa_cons (pv 3) (pa_cons (pv 6) pa_nil))) pa_nil)) (pv 8) (nomark _))))) (pss_one (ps_ret pe_bl)) pss_nil)))) pss_nil)))))
    (pss_one (ps_ret pe_bl)))))))))))), ?_⟩
  refine ⟨_, rfl, a, ns, rfl, hS, fun d sc H1 same _ _ dr1 => ?_⟩
  refine ⟨_, rfl, d, sc, 2, rfl, by decide, by decide, dr1, fun x o1 x0 x2 no1 dr2 => ⟨_, _, rfl, rfl, _, rfl, d, sc, 2, rfl, by decide, by decide, dr2, fun y o2 y0 y2 no2 dr3 => ⟨_, _, rfl, rfl, e2, fun wl hwl => ?_⟩⟩⟩
  obtain ⟨wd, hwd, bw, lw⟩ := nats2 x0 x2 y0 y2
  obtain ⟨H3, hH3⟩ : ∃ H3, upd (upd H1 d o1) d o2 = H3 := ⟨_, rfl⟩
  have hw4 : (upd H3 wl (.lst (wd.map nV))) wl = some (.lst (wd.map nV)) := upd_same
  rw [hH3] at dr3 hwl
  have dr4 := dr3.put (o := .lst (wd.map nV)) (dr3.ne_new hwl).1 (dr3.ne_new hwl).2
  have eH : upd (upd (upd H1 d o1) d o2) wl (.lst [(fun i j => V.int (i + j)) 1 x, (fun i j => V.int (i + j)) 1 y]) = upd H3 wl (.lst (wd.map nV)) := by rw [hH3, hwd]
  rw [eH]
  obtain ⟨H4, hH4⟩ : ∃ H4, upd H3 wl (.lst (wd.map nV)) = H4 := ⟨_, rfl⟩
  rw [hH4] at hw4 dr4 ⊢
  have nwd := dr4.noN hw4
  refine ⟨_, rfl, wl, rfl, ⟨_, SqL.of hw4⟩, fun tl htl => ?_⟩
  have ntd : tl ≠ d := fun z => by obtain ⟨xs, e⟩ := dr4.dl; rw [z, e] at htl; cases htl
  refine lc_list (K := K) (a := wl) (xs := wd.map nV) (fun j G => Drw d sc G ∧ Kp [d] H4 G ∧ ∃ (as : List Addr) (Ls : List (List Row)), G tl = some (.lst (as.map V.ref)) ∧ Prs (fun L a => RowsAt (fun l => H4 l = none ∧ l ≠ tl) G L a) as Ls ∧ Ls.length = j ∧ WsOk (wd.take j) (Ls.map some))
    ⟨dr4.put (dr4.ne_new htl).1 (dr4.ne_new htl).2, .new htl, [], [], upd_same, trivial, rfl, fun i L s h => by simp at h⟩ (fun j G _ p => SqL.of (p.2.1.k _ _ hw4 (by simpa using nwd))) (fun j y' G hj p => ?_) (fun G p => ?_)
  · obtain ⟨drG, kG, as, Ls, hG, pr, lL, wz⟩ := p
    obtain ⟨s, hs, rfl⟩ := mapAt hj
    have hjl := (List.getElem?_eq_some_iff.mp hs).1
    obtain ⟨s1, s4⟩ := bw s (List.mem_of_getElem? hs)
    have al := pr.len
    refine ⟨rfl, _, rfl, _, rfl, d, sc, s, 4, rfl, drG, s1, by omega, by decide, by decide, fun p1 G1 M k1' dr1' hp1 hM okM lM => ⟨p1, _, M, s, rfl, hM, okM, by omega, fun p2 G2 M2 k2' hp2 hM2 ok2 l2 => ?_⟩⟩
    have k2w : Kp [d] G1 G2 := k2'.wide fun b m => absurd m List.not_mem_nil
    have k12 := k1'.trans k2w
    have hG1 := k1'.k _ _ hG (by simpa using ntd)
    have hG2 := k2'.k _ _ hG1 (by simp)
    have n1 : p2 ≠ tl := fun z => by rw [z, hG1] at hp2; cases hp2
    have n2 : p2 ≠ d := fun z => by obtain ⟨xs, e⟩ := dr1'.dl; rw [z, e] at hp2; cases hp2
    have hp2H : H4 p2 = none := (kG.trans k1').free hp2 (by simpa using n2)
    have dr2' := dr1'.kp k2' (by simp) (by simp)
    have kput : Kp [tl] G2 (upd G2 tl (.lst (as.map V.ref ++ [V.ref p2]))) := .put (by simp) hG2 fun xs z => by cases z
    have out : ∀ l, (H4 l = none ∧ l ≠ tl) → l ∉ [tl] := fun l n => by simpa using n.2
    have outd : ∀ l, (H4 l = none ∧ l ≠ tl) → l ∉ [d] := fun l n => by
      have : l ≠ d := fun z => by obtain ⟨xs, e⟩ := dr4.dl; rw [z, e] at n; cases n.1
      simpa using this
    refine ⟨_, hG2, small1000 (by rw [List.length_map]; omega), dr2'.put ntd.symm (dr4.ne_new htl).2, (kG.trans k12).mt htl, as ++ [p2], Ls ++ [M2], by rw [upd_same, List.map_append]; rfl, ?_, by rw [List.length_append, lL]; rfl, ?_⟩
    · refine (pr.imp fun L a h => (h.kp k12 outd).kp kput out).snoc ?_
      obtain ⟨bs, h1, _, h3⟩ := hM2.kp kput (fun l e => by rw [e]; simpa using n1)
      exact ⟨bs, h1, ⟨hp2H, n1⟩, h3⟩
    · rw [takeS hs, List.map_append]
      exact wz.snoc (by rw [List.length_take, List.length_map, lL]; omega) fun L e => by cases e; exact ⟨ok2, by omega⟩
  obtain ⟨dr5, k5, tas, tabs, htl5, tpr, tll, twz⟩ := p
  rw [List.length_map] at tll twz
  rw [List.take_length] at twz
  obtain ⟨H5, hH5⟩ : ∃ H5, G = H5 := ⟨_, rfl⟩
  rw [hH5] at dr5 k5 htl5 tpr ⊢
  clear hH5
  have tpr : Prs (fun L a => RowsAt (fun l => H4 l = none ∧ l ≠ tl) H5 L a) tas tabs := tpr
  refine ⟨_, rfl, d, sc, 2, rfl, by decide, by decide, dr5, fun x' o3 x'0 x'2 no3 dr6 => ⟨_, _, rfl, rfl, _, rfl, d, sc, 2, rfl, by decide, by decide, dr6, fun y' o4 y'0 y'2 no4 dr7 => ⟨_, _, rfl, rfl, e2, fun zl hzl => ?_⟩⟩⟩
  obtain ⟨sp, hsp, bs, ls⟩ := nats2 x'0 x'2 y'0 y'2
  have k7 : Kp [d] H5 (upd (upd H5 d o3) d o4) := dr5.step.trans dr6.step
  obtain ⟨H7, hH7⟩ : ∃ H7, upd (upd H5 d o3) d o4 = H7 := ⟨_, rfl⟩
  rw [hH7] at dr7 hzl k7
  have eH : upd (upd (upd H5 d o3) d o4) zl (.lst [(fun i j => V.int (i + j)) 1 x', (fun i j => V.int (i + j)) 1 y']) = upd H7 zl (.lst (sp.map nV)) := by rw [hH7, hsp]
  rw [eH]
  have hz8 : (upd H7 zl (.lst (sp.map nV))) zl = some (.lst (sp.map nV)) := upd_same
  have dr8 := dr7.put (o := .lst (sp.map nV)) (dr7.ne_new hzl).1 (dr7.ne_new hzl).2
  have k8 : Kp [d] H5 (upd H7 zl (.lst (sp.map nV))) := k7.trans (.new hzl)
  obtain ⟨H8, hH8⟩ : ∃ H8, upd H7 zl (.lst (sp.map nV)) = H8 := ⟨_, rfl⟩
  rw [hH8] at hz8 dr8 k8 ⊢
  have nzd := dr8.noN hz8
  have outd : ∀ l, (H4 l = none ∧ l ≠ tl) → l ∉ [d] := fun l n => by
    have : l ≠ d := fun z => by obtain ⟨xs, e⟩ := dr4.dl; rw [z, e] at n; cases n.1
    simpa using this
  refine ⟨_, rfl, zl, rfl, ⟨_, SqL.of hz8⟩, fun sl hsl => ?_⟩
  have nsd : sl ≠ d := fun z => by obtain ⟨xs, e⟩ := dr8.dl; rw [z, e] at hsl; cases hsl
  refine lc_list (K := K) (a := zl) (xs := sp.map nV) (fun j G => Drw d sc G ∧ Kp [d] H8 G ∧ ∃ (as : List Addr) (Ls : List (List Row)), G sl = some (.lst (as.map V.ref)) ∧ Prs (fun L a => RowsAt (fun l => H8 l = none ∧ l ≠ sl) G L a) as Ls ∧ Ls.length = j ∧ WsOk (sp.take j) (Ls.map some))
    ⟨dr8.put (dr8.ne_new hsl).1 (dr8.ne_new hsl).2, .new hsl, [], [], upd_same, trivial, rfl, fun i L s h => by simp at h⟩ (fun j G _ p => SqL.of (p.2.1.k _ _ hz8 (by simpa using nzd))) (fun j y' G hj p => ?_) (fun G p => ?_)
  · obtain ⟨drG, kG, as, Ls, hG, pr, lL, wz⟩ := p
    obtain ⟨s, hs, rfl⟩ := mapAt hj
    have hjl := (List.getElem?_eq_some_iff.mp hs).1
    obtain ⟨s1, s4⟩ := bs s (List.mem_of_getElem? hs)
    have al := pr.len
    refine ⟨rfl, _, rfl, _, rfl, d, sc, s, 3, rfl, drG, s1, by omega, by decide, by decide, fun p1 G1 M k1' dr1' hp1 hM okM lM => ⟨p1, _, M, s, rfl, hM, okM, by omega, fun p2 G2 M2 k2' hp2 hM2 ok2 l2 => ?_⟩⟩
    have k2w : Kp [d] G1 G2 := k2'.wide fun b m => absurd m List.not_mem_nil
    have k12 := k1'.trans k2w
    have hG1 := k1'.k _ _ hG (by simpa using nsd)
    have hG2 := k2'.k _ _ hG1 (by simp)
    have n1 : p2 ≠ sl := fun z => by rw [z, hG1] at hp2; cases hp2
    have n2 : p2 ≠ d := fun z => by obtain ⟨xs, e⟩ := dr1'.dl; rw [z, e] at hp2; cases hp2
    have hp2H : H8 p2 = none := (kG.trans k1').free hp2 (by simpa using n2)
    have dr2' := dr1'.kp k2' (by simp) (by simp)
    have kput : Kp [sl] G2 (upd G2 sl (.lst (as.map V.ref ++ [V.ref p2]))) := .put (by simp) hG2 fun xs z => by cases z
    have out : ∀ l, (H8 l = none ∧ l ≠ sl) → l ∉ [sl] := fun l n => by simpa using n.2
    have outd : ∀ l, (H8 l = none ∧ l ≠ sl) → l ∉ [d] := fun l n => by
      have : l ≠ d := fun z => by obtain ⟨xs, e⟩ := dr8.dl; rw [z, e] at n; cases n.1
      simpa using this
    refine ⟨_, hG2, small1000 (by rw [List.length_map]; omega), dr2'.put nsd.symm (dr8.ne_new hsl).2, (kG.trans k12).mt hsl, as ++ [p2], Ls ++ [M2], by rw [upd_same, List.map_append]; rfl, ?_, by rw [List.length_append, lL]; rfl, ?_⟩
    · refine (pr.imp fun L a h => (h.kp k12 outd).kp kput out).snoc ?_
      obtain ⟨bs, h1, _, h3⟩ := hM2.kp kput (fun l e => by rw [e]; simpa using n1)
      exact ⟨bs, h1, ⟨hp2H, n1⟩, h3⟩
    · rw [takeS hs, List.map_append]
      exact wz.snoc (by rw [List.length_take, List.length_map, lL]; omega) fun L e => by cases e; exact ⟨ok2, by omega⟩
  obtain ⟨dr9, k9, sas, stab, hsl5, spr, sll, swz⟩ := p
  rw [List.length_map] at sll swz
  rw [List.take_length] at swz
  obtain ⟨H9, hH9⟩ : ∃ H9, G = H9 := ⟨_, rfl⟩
  rw [hH9] at dr9 k9 hsl5 spr ⊢
  clear hH9
  have spr : Prs (fun L a => RowsAt (fun l => H8 l = none ∧ l ≠ sl) H9 L a) sas stab := spr
  have k49 : Kp [d] H5 H9 := k8.trans k9
  have hw9 : H9 wl = some (.lst (wd.map nV)) := (k5.trans k49).k _ _ hw4 (by simpa using nwd)
  have ht9 : H9 tl = some (.lst (tas.map V.ref)) := k49.k _ _ htl5 (by simpa using ntd)
  have hz9 : H9 zl = some (.lst (sp.map nV)) := k9.k _ _ hz8 (by simpa using nzd)
  have tpr8 : Prs (fun L a => RowsAt (fun l => l ≠ d ∧ H8 l ≠ none) H8 L a) tas tabs := tpr.imp fun L a h => by
    obtain ⟨bs, h1, h2, h3⟩ := h.kp k8 outd
    exact ⟨bs, h1, ⟨fun z => outd a h2 (by rw [z]; simp), by rw [h1]; exact fun z => by cases z⟩, h3⟩
  have outd' : ∀ l, (l ≠ d ∧ H8 l ≠ none) → l ∉ [d] := fun l n => by simpa using n.1
  have tpr9 : Prs (fun L a => RowsAt (fun l => l ≠ d ∧ H8 l ≠ none) H9 L a) tas tabs := tpr8.imp fun L a h => h.kp k9 outd'
  refine ⟨fun σ' G => ∃ (sv : List V) (stps : List (Option (List Row))), σ' = [some (.ref a), some (.ref d), some (.ref wl), some (.ref tl), some (.ref zl), none, some (.ref sl), none, none, none, none, none, none, none] ∧ Drw d sc G ∧ G wl = some (.lst (wd.map nV)) ∧ G tl = some (.lst (tas.map V.ref)) ∧ G zl = some (.lst (sp.map nV)) ∧
    Prs (fun L a => RowsAt (fun l => l ≠ d ∧ H8 l ≠ none) G L a) tas tabs ∧ G sl = some (.lst sv) ∧ VPrs (fun o v => OldAt (fun l => H8 l = none ∧ l ≠ sl) G v o) sv stps ∧ stps.length = sp.length ∧ WsOk sp stps, ?_, ?_⟩
  · have vpr9 : VPrs (fun o v => OldAt (fun l => H8 l = none ∧ l ≠ sl) H9 v o) (sas.map V.ref) (stab.map some) := vprs_some spr
    refine ⟨_, rfl, d, sc, 4, rfl, by decide, by decide, dr9, fun r o5 r0 r4 no5 dr10 => ?_⟩
    have k10 : Kp [d] H9 (upd H9 d o5) := dr9.step
    obtain ⟨H10, hH10⟩ : ∃ H10, upd H9 d o5 = H10 := ⟨_, rfl⟩
    rw [hH10] at k10 dr10 ⊢
    have out8 : ∀ l, (H8 l = none ∧ l ≠ sl) → l ∉ [d] := fun l n => by
      have : l ≠ d := fun z => by obtain ⟨xs, e⟩ := dr8.dl; rw [z, e] at n; cases n.1
      simpa using this
    have hs10 := k10.k _ _ hsl5 (by simpa using nsd)
    have ht10 := k10.k _ _ ht9 (by simpa using ntd)
    have hw10 := k10.k _ _ hw9 (by simpa using nwd)
    have hz10 := k10.k _ _ hz9 (by simpa using nzd)
    have tpr10 : Prs (fun L a => RowsAt (fun l => l ≠ d ∧ H8 l ≠ none) H10 L a) tas tabs := tpr9.imp fun L a h => h.kp k10 outd'
    have vpr10 : VPrs (fun o v => OldAt (fun l => H8 l = none ∧ l ≠ sl) H10 v o) (sas.map V.ref) (stab.map some) := vpr9.imp fun o v h => h.kp k10 out8
    refine ⟨rfl, _, rfl, ite2 (fun c => ?_) (fun c => ?_)⟩
    · have sal := spr.len
      refine ⟨_, rfl, sl, _, 1, 1, rfl, rfl, hs10, (by rw [List.length_map, sal, sll, ls]; rfl), ?_⟩
      have kS : Kp [sl] H10 (upd H10 sl (.lst ((sas.map V.ref).set 1 .non))) := .put (by simp) hs10 fun xs z => by cases z
      have nst : sl ≠ tl := fun z => by
        have := k8.k _ _ htl5 (by simpa using ntd)
        rw [← z, hsl] at this
        cases this
      have nsw : sl ≠ wl := fun z => by
        have := (k5.trans k8).k _ _ hw4 (by simpa using nwd)
        rw [← z, hsl] at this
        cases this
      have nsz : sl ≠ zl := fun z => by
        rw [← z, hsl] at hz8
        cases hz8
      have outS : ∀ l, (H8 l = none ∧ l ≠ sl) → l ∉ [sl] := fun l n => by simpa using n.2
      have vS : VPrs (fun o v => OldAt (fun l => H8 l = none ∧ l ≠ sl) (upd H10 sl (.lst ((sas.map V.ref).set 1 .non))) v o) ((sas.map V.ref).set 1 .non) ((stab.map some).set 1 none) := by
        refine vprs_set (R := fun o v => OldAt (fun l => H8 l = none ∧ l ≠ sl) (upd H10 sl (.lst ((sas.map V.ref).set 1 .non))) v o) ?_ (vpr10.imp fun o v h => OldAt.kp kS outS h)
        exact (rfl : V.non = V.non)
      refine ⟨_, (stab.map some).set 1 none, rfl, dr10.put nsd.symm (dr8.ne_new hsl).2, kS.k _ _ hw10 (by simpa using nsw.symm), kS.k _ _ ht10 (by simpa using nst.symm), kS.k _ _ hz10 (by simpa using nsz.symm), ?_, upd_same, vS, by rw [List.length_set, List.length_map, sll], fun i L s h1 h2 => ?_⟩
      · exact tpr10.imp fun L a h => h.kp kS fun l n => by
          have : l ≠ sl := fun z => n.2 (by rw [z]; exact hsl)
          simpa using this
      · by_cases hi : i = 1
        · subst hi
          rw [List.getElem?_set_self (by rw [List.length_map, sll, ls]; decide)] at h1
          cases h1
        · rw [List.getElem?_set_ne (fun z => hi z.symm)] at h1
          exact swz i L s h1 h2
    · exact ⟨_, _, rfl, dr10, hw10, ht10, hz10, tpr10, hs10, vpr10, by rw [List.length_map, sll], swz⟩
  rintro σ' G ⟨sv, stps, rfl, drG, hwG, htG, hzG, tprG, hsG, vpr, lst, wst⟩
  have newd : wd ≠ [] := fun z => by rw [z] at lw; cases lw
  have b4 : ∀ {l : List Nat}, (∀ s ∈ l, 1 ≤ s ∧ s ≤ 4) → ∀ s ∈ l, s ≤ 4 := fun h s hs => (h s hs).2
  refine ⟨_, rfl, _, rfl, _, rfl, d, sc, wl, zl, wd, sp, 7, rfl, drG, hwG, hzG, newd, by omega, by omega, b4 bw, b4 bs, by decide, by decide, fun L sz rs s p r HP pok l1 l7 hs r130 pat hr1 kp dr1 => ?_⟩
  refine ⟨r, _, rfl, SqT.of hr1, rfl, _, _, rfl, _, _, rfl, rfl, ?_⟩
  have l7 : L.length ≤ 7 := by omega
  have outN : ∀ l, (l ≠ d ∧ H8 l ≠ none) → l ∉ [d] := fun l n => by simpa using n.1
  have out8 : ∀ l, (H8 l = none ∧ l ≠ sl) → l ∉ [d] := fun l n => by
    have : l ≠ d := fun z => by obtain ⟨xs, e⟩ := dr8.dl; rw [z, e] at n; cases n.1
    simpa using this
  have htP := kp.k _ _ htG (by simpa using ntd)
  have hsP := kp.k _ _ hsG (by simpa using nsd)
  have tprP := tprG.imp fun L a h => RowsAt.kp h kp outN
  have vprP := vpr.imp fun o v h => OldAt.kp kp out8 h
  clear htG hsG tprG vpr hwG hzG drG kp
  -- what is handed in, as data
  obtain ⟨TD, hTD⟩ : ∃ TD : PyData, TD = .list [.list (tabs.map rowsV), .list (stps.map optV)] := ⟨_, rfl⟩
  have few : FitsW TD := by
    rw [hTD, tabs_opt]
    have a1 := few_list (ws_few twz (by rw [List.length_map, tll]) (b4 bw))
    have a2 := few_list (ws_few wst lst.symm (b4 bs))
    rw [List.length_map, List.length_map, tll, lw] at a1
    rw [List.length_map, lst, ls] at a2
    refine (few_list (n := 90002) (m := 3) fun d hd => ?_).w (by show 90003 * 2 ≤ _; decide) (by decide)
    rcases List.mem_cons.mp hd with rfl | hd
    · exact a1
    · rw [List.mem_singleton.mp hd]; exact a2
  have handed : ∀ {G : Hp} {q : Addr}, Kp [] HP G → G q = some (.lst [.ref tl, .ref sl]) → Has G (.ref q) TD := fun {G q} k h => by
    rw [hTD]
    refine .lst h (.cons (.lst (k.k _ _ htP (by simp)) ?_) (.cons (.lst (k.k _ _ hsP (by simp)) ?_) .nil))
    · exact Prs.hasAll (R := fun L a => RowsAt (fun l => l ≠ d ∧ H8 l ≠ none) G L a) (f := rowsV) (fun x a h => RowsAt.has h) (tprP.imp fun L a h => RowsAt.kp h k fun l _ => List.not_mem_nil)
    · exact VPrs.has (vprP.imp fun o v h => OldAt.kp k (fun l _ => List.not_mem_nil) h)
  obtain ⟨PP, hPP⟩ : ∃ PP, possP 500 tabs stps L = PP := ⟨_, rfl⟩
  have lPP : PP.length = L.length := by rw [← hPP, possP_len]
  refine ⟨_, rfl, _, rfl, e2, fun q0 hq0 => ?_⟩
  have k0 : Kp [] HP (upd HP q0 (.lst [.ref tl, .ref sl])) := .new hq0
  refine ⟨q0, TD, rfl, handed k0 upd_same, few, ?_⟩
  have fewP : WsOk sz PP → FitsW (.list (PP.map optV)) := fun h => by
    have a1 := few_list (ws_few h (by rw [lPP]; exact pok.lz) pok.s4)
    rw [List.length_map, lPP] at a1
    exact a1.w (by omega) (by decide)
  have hasP : ∀ {G : Hp} {q : Addr} {us : List V} {N : Addr → Prop}, G q = some (.lst us) → VPrs (fun o v => OldAt N G v o) us PP → Has G (.ref q) (.list (PP.map optV)) := fun h v => .lst h v.has
  refine ⟨_, rfl, _, rfl, _, rfl, p, tl, sl, _, _, _, L, sv, tas, stps, tabs, wd, sp, sz, rs, 500, rfl, PlanAt.kp pat k0 (fun l _ => List.not_mem_nil), (k0).k _ _ htP (by simp), tprP.imp (fun L a h => RowsAt.kp h k0 fun l _ => List.not_mem_nil), (k0).k _ _ hsP (by simp), vprP.imp (fun o v h => OldAt.kp k0 (fun l _ => List.not_mem_nil) h), pok, lst.symm, tll.symm, twz, wst, by decide, by decide, by omega, fun r1 us1 G1 k1 hr1 hr1' vp1 _ wz1 => ?_⟩
  rw [hPP] at vp1 wz1
  refine ⟨r1, _, rfl, hasP hr1' vp1, fewP wz1, ?_⟩
  obtain ⟨os, hpP, _, opr⟩ := id pat
  have ol := opr.len
  have kP1 := k0.trans k1
  refine ⟨_, rfl, p, _, rfl, .inl (SqL.of (kP1.k _ _ hpP (by simp))), _, rfl, by rw [List.length_map]; omega, by rw [List.length_map]; omega, ?_⟩
  rw [List.length_map, ol, Int.toNat_natCast]
  refine for_range (lo := 0) (n := L.length) (fun i σ G => ∃ v10 v11 v12 : Option V, σ = [some (.ref a), some (.ref d), some (.ref wl), some (.ref tl), some (.ref zl), some (.int (s : Int)), some (.ref sl), some (.ref p), some (.str TD.shown), some (.str (PyData.list (PP.map optV)).shown), v10, v11, v12, none] ∧ Kp [] HP G)
    ⟨none, none, none, rfl, kP1⟩ (fun i σ G hi pp => ?_) (fun σ G pp => ?_)
  · obtain ⟨v10, v11, v12, rfl, kG⟩ := pp
    refine ⟨_, rfl, _, rfl, _, rfl, p, tl, sl, _, _, _, L, sv, tas, stps, tabs, wd, sp, sz, rs, 500, rfl, PlanAt.kp pat kG (fun l _ => List.not_mem_nil), (kG).k _ _ htP (by simp), tprP.imp (fun L a h => RowsAt.kp h kG fun l _ => List.not_mem_nil), (kG).k _ _ hsP (by simp), vprP.imp (fun o v h => OldAt.kp kG (fun l _ => List.not_mem_nil) h), pok, lst.symm, tll.symm, twz, wst, by decide, by decide, by omega, fun r us G1 k1 hr1 hr1' vp ap wz => ?_⟩
    rw [hPP] at vp wz
    have ul := vp.len
    have kG1 := kG.trans k1
    refine ⟨_, rfl, r, _, rfl, hasP hr1' vp, fewP wz, ?_⟩
    refine ⟨_, rfl, rfl, _, rfl, iteF_of (by simp) ?_⟩
    have hiu : i < us.length := by omega
    have hu := List.getElem?_eq_getElem hiu
    have hP := List.getElem?_eq_getElem (show i < PP.length by omega)
    obtain ⟨v, hv, ov⟩ := vp.at hP
    refine ⟨_, rfl, _, rfl, r, _, _, _, rfl, rfl, SqL.of hr1', at_of (by omega) hv, ?_⟩
    have wzi : ∀ M, PP[i] = some M → M.length ≤ 1000 := fun M e => by
      have hl := pok.lz
      have hs' := List.getElem?_eq_getElem (show i < sz.length by omega)
      exact (wz i M _ (by rw [hP, e]) hs').2
    obtain ⟨oi, hoi⟩ : ∃ oi, PP[i] = oi := ⟨_, rfl⟩
    rw [hoi] at hP ov wzi
    cases oi with
    | none =>
      obtain rfl : v = .non := ov
      exact ⟨_, rfl, iteF ⟨_, _, _, rfl, kG1⟩⟩
    | some M =>
      obtain ⟨b, rfl, as, hb, ⟨nb, nbr⟩, prM⟩ := ov
      have lM := wzi M rfl
      have lasM := prM.len
      refine ⟨_, rfl, iteT ?_⟩
      have ht : ∀ t : Addr, G1 t = none → t ≠ b := fun t h z => by rw [z, hb] at h; cases h
      refine ⟨_, rfl, _, rfl, r, _, _, _, rfl, rfl, SqL.of hr1', at_of (by omega) hv, .inl ⟨rfl, _, SqL.of hb⟩, e1, fun t ht1 => ⟨b, _, _, rfl, rfl, (Kp.new (M := []) ht1).k _ _ hb (by simp), small1000 (by rw [List.length_map]; omega), ?_⟩⟩
      have kt : Kp [] G1 (upd G1 t (.tup [.str "more"])) := .new ht1
      have hbt := kt.k _ _ hb (by simp)
      have kb : Kp [b] (upd G1 t (.tup [.str "more"])) (upd (upd G1 t (.tup [.str "more"])) b (.lst (as.map V.ref ++ [V.ref t]))) := .put (by simp) hbt fun xs z => by cases z
      have k1b : Kp [b] G1 (upd (upd G1 t (.tup [.str "more"])) b (.lst (as.map V.ref ++ [V.ref t]))) := (kt.wide fun b m => absurd m List.not_mem_nil).trans kb
      have hb2 : (upd (upd G1 t (.tup [.str "more"])) b (.lst (as.map V.ref ++ [V.ref t]))) b = some (.lst (as.map V.ref ++ [V.ref t])) := upd_same
      have kGb : Kp [] G (upd (upd G1 t (.tup [.str "more"])) b (.lst (as.map V.ref ++ [V.ref t]))) := (k1.newer ht1).mt nb
      obtain ⟨G2, hG2⟩ : ∃ G2, upd (upd G1 t (.tup [.str "more"])) b (.lst (as.map V.ref ++ [V.ref t])) = G2 := ⟨_, rfl⟩
      rw [hG2] at k1b hb2 kGb ⊢
      have hr2 := k1b.k _ _ hr1' (by simpa using fun z : r = b => nbr z.symm)
      have cu1 : cutV us none (some (0 + (i : Int))) = us.take i := by rw [Int.zero_add]; exact cut_lo us (by omega)
      have cu2 : cutV us (some (0 + (i : Int) + 1)) none = us.drop (i + 1) := by
        rw [Int.zero_add]
        exact cut_hi us (k := i + 1) (by omega)
      refine ⟨_, rfl, _, rfl, _, rfl, r, _, rfl, SqL.of hr2, fun p1 hp1 => ?_⟩
      rw [cu1]
      have q1 : Kp [] G2 (upd G2 p1 (.lst (us.take i))) := .new hp1
      have h1 : (upd G2 p1 (.lst (us.take i))) p1 = some (.lst (us.take i)) := upd_same
      obtain ⟨J1, hJ1⟩ : ∃ J1, upd G2 p1 (.lst (us.take i)) = J1 := ⟨_, rfl⟩
      rw [hJ1] at q1 h1 ⊢
      refine ⟨_, rfl, _, rfl, r, _, _, _, rfl, rfl, SqL.of (q1.k _ _ hr2 (by simp)), at_of (by omega) hv, _, rfl, _, rfl, b, _, rfl, SqL.of (q1.k _ _ hb2 (by simp)), fun p2 hp2 => ?_⟩
      show tNil _ (upd J1 p2 (.lst (cutV (as.map V.ref ++ [V.ref t]) none (some (-1))))) _
      rw [cut_last]
      have q2 : Kp [] J1 (upd J1 p2 (.lst (as.map V.ref))) := .new hp2
      have h2 : (upd J1 p2 (.lst (as.map V.ref))) p2 = some (.lst (as.map V.ref)) := upd_same
      obtain ⟨J2, hJ2⟩ : ∃ J2, upd J1 p2 (.lst (as.map V.ref)) = J2 := ⟨_, rfl⟩
      rw [hJ2] at q2 h2 ⊢
      have sle := sizeLine_eq
      refine ⟨e1, fun p3 hp3 => ?_⟩
      have q3 : Kp [] J2 (upd J2 p3 (.lst [.ref p2])) := .new hp3
      have h3 : (upd J2 p3 (.lst [.ref p2])) p3 = some (.lst [.ref p2]) := upd_same
      obtain ⟨J3, hJ3⟩ : ∃ J3, upd J2 p3 (.lst [.ref p2]) = J3 := ⟨_, rfl⟩
      rw [hJ3] at q3 h3 ⊢
      refine ⟨p1, p3, _, _, rfl, rfl, (q2.trans q3).k _ _ h1 (by simp), h3, by rw [List.length_take]; show min i us.length + 1 ≤ sizeLine; omega, fun p4 hp4 => ?_⟩
      have q4 : Kp [] J3 (upd J3 p4 (.lst (us.take i ++ [.ref p2]))) := .new hp4
      have h4 : (upd J3 p4 (.lst (us.take i ++ [.ref p2]))) p4 = some (.lst (us.take i ++ [.ref p2])) := upd_same
      obtain ⟨J4, hJ4⟩ : ∃ J4, upd J3 p4 (.lst (us.take i ++ [.ref p2])) = J4 := ⟨_, rfl⟩
      rw [hJ4] at q4 h4 ⊢
      have q14 : Kp [] J1 J4 := (q2.trans q3).trans q4
      have hr4 := (q1.trans q14).k _ _ hr2 (by simp)
      refine ⟨_, rfl, _, rfl, _, _, rfl, rfl, _, rfl, r, _, rfl, SqL.of hr4, fun p5 hp5 => ?_⟩
      rw [cu2]
      have q5 : Kp [] J4 (upd J4 p5 (.lst (us.drop (i + 1)))) := .new hp5
      have h5 : (upd J4 p5 (.lst (us.drop (i + 1)))) p5 = some (.lst (us.drop (i + 1))) := upd_same
      obtain ⟨J5, hJ5⟩ : ∃ J5, upd J4 p5 (.lst (us.drop (i + 1))) = J5 := ⟨_, rfl⟩
      rw [hJ5] at q5 h5 ⊢
      refine ⟨p4, p5, _, _, rfl, rfl, q5.k _ _ h4 (by simp), h5, by rw [List.length_append, List.length_take, List.length_drop, List.length_singleton]; omega, fun p6 hp6 => ?_⟩
      have eS : us.take i ++ [V.ref p2] ++ us.drop (i + 1) = us.set i (.ref p2) := by rw [List.set_eq_take_append_cons_drop, if_pos hiu, List.append_assoc]; rfl
      rw [eS]
      have q6 : Kp [] J5 (upd J5 p6 (.lst (us.set i (.ref p2)))) := .new hp6
      have h6 : (upd J5 p6 (.lst (us.set i (.ref p2)))) p6 = some (.lst (us.set i (.ref p2))) := upd_same
      obtain ⟨J6, hJ6⟩ : ∃ J6, upd J5 p6 (.lst (us.set i (.ref p2))) = J6 := ⟨_, rfl⟩
      rw [hJ6] at q6 h6 ⊢
      have q26 : Kp [] J2 J6 := ((q3.trans q4).trans q5).trans q6
      have q06 : Kp [] G2 J6 := (q1.trans q2).trans q26
      have k1J : Kp [b] G1 J6 := k1b.trans (q06.wide fun x m => absurd m List.not_mem_nil)
      have hasR : Has J6 (.ref p6) (.list (PP.map optV)) := by
        refine .lst h6 (HasAll.of_idx (by rw [List.length_set, List.length_map, ul]) fun j x dd hx hd => ?_)
        rw [List.getElem?_map] at hd
        by_cases hj : j = i
        · subst hj
          rw [List.getElem?_set_self hiu] at hx
          cases hx
          rw [hP] at hd
          cases hd
          refine .lst (q26.k _ _ h2 (by simp)) (Prs.hasAll (R := RowAt J6) (f := rowV) (fun x a h => RowAt.has h) (prM.imp fun x a h => RowAt.kp k1J h))
        · rw [List.getElem?_set_ne fun z => hj z.symm] at hx
          obtain ⟨o, ho, oh⟩ := vp.of hx
          rw [ho] at hd
          cases hd
          cases o with
          | none => rw [show x = .non from oh]; exact .non
          | some M' =>
            obtain ⟨b', rfl, as', hb', _, prM'⟩ := oh
            have nb' : b' ≠ b := by
              intro z
              subst z
              rcases Nat.lt_or_gt_of_ne hj with hlt | hlt
              · obtain ⟨l1, e1'⟩ := List.getElem?_eq_some_iff.mp hx
                obtain ⟨l2, e2'⟩ := List.getElem?_eq_some_iff.mp hv
                exact List.pairwise_iff_getElem.mp ap j i l1 l2 hlt b' e1' e2'
              · obtain ⟨l1, e1'⟩ := List.getElem?_eq_some_iff.mp hx
                obtain ⟨l2, e2'⟩ := List.getElem?_eq_some_iff.mp hv
                exact List.pairwise_iff_getElem.mp ap i j l2 l1 hlt b' e2' e1'
            exact .lst (k1J.k _ _ hb' (by simpa using nb')) (Prs.hasAll (R := RowAt J6) (f := rowV) (fun x a h => RowAt.has h) (prM'.imp fun x a h => RowAt.kp k1J h))
      have kHJ : Kp [] HP J6 := (kG.trans kGb).trans q06
      refine ⟨_, rfl, p6, _, rfl, hasR, fewP wz, _, rfl, rfl, _, rfl, iteF_of (by simp) ?_⟩
      refine ⟨_, rfl, _, rfl, e2, fun p7 hp7 => ?_⟩
      have kJ7 := kHJ.newer (o := .lst [.ref tl, .ref sl]) hp7
      refine ⟨p7, TD, rfl, handed kJ7 upd_same, few, _, rfl, rfl, _, rfl, iteF_of (by simp) ?_⟩
      exact ⟨_, _, _, rfl, kJ7⟩
  · obtain ⟨v10, v11, v12, rfl, kG⟩ := pp
    exact rfl
end

/-! ### what the top has written -/
theorem all_mk {P : Program} {w : World} {K : PySem.W.Frag} {h : Heap} {mg : Str → Option Value} {fa f_Ldraw f_Lnext f_Lcell f_Lkey f_Lrow_key f_Ldistinct f_Lordered f_Lexpression f_Lform f_Loperation f_Lroom f_Lplan f_Lrows f_value_key f_bounded f_truth f_is_true f_from_truth f_both_true f_either_true f_negate f_is_false f_is_missing f_length f_add f_subtract f_multiply f_divide f_remainder f_is_less f_is_equal f_conjunction f_disjunction f_starts f_apply_two f_evaluate f_evaluate_all f_row_key f_in_order f_matches f_joined_rows f_limited f_copied f_operands f_known_rows f_operation_possible f_law f_possible_rows D_possible_rows aD_ONE aD_NUMBERS aD_TWO : Addr}
    {od_Ldraw an_Ldraw : Option Addr} {sl_Ldraw : Array (Option Value)} {oc_Ldraw dc_Ldraw pm_Ldraw cd_Ldraw ct_Ldraw : Value}
    {kV_Ldraw : Value}
    {od_Lnext an_Lnext : Option Addr} {sl_Lnext : Array (Option Value)} {oc_Lnext dc_Lnext pm_Lnext cd_Lnext ct_Lnext : Value}
    {kV_Lnext : Value}
    {od_Lcell an_Lcell : Option Addr} {sl_Lcell : Array (Option Value)} {oc_Lcell dc_Lcell pm_Lcell cd_Lcell ct_Lcell : Value}
    {kV_Lcell : Value}
    {od_Lkey an_Lkey : Option Addr} {sl_Lkey : Array (Option Value)} {oc_Lkey dc_Lkey pm_Lkey cd_Lkey ct_Lkey : Value}
    {kV_Lkey : Value}
    {od_Lrow_key an_Lrow_key : Option Addr} {sl_Lrow_key : Array (Option Value)} {oc_Lrow_key dc_Lrow_key pm_Lrow_key cd_Lrow_key ct_Lrow_key : Value}
    {kV_Lrow_key : Value}
    {od_Ldistinct an_Ldistinct : Option Addr} {sl_Ldistinct : Array (Option Value)} {oc_Ldistinct dc_Ldistinct pm_Ldistinct cd_Ldistinct ct_Ldistinct : Value}
    {kV_Ldistinct : Value}
    {od_Lordered an_Lordered : Option Addr} {sl_Lordered : Array (Option Value)} {oc_Lordered dc_Lordered pm_Lordered cd_Lordered ct_Lordered : Value}
    {kV_Lordered : Value}
    {od_Lexpression an_Lexpression : Option Addr} {sl_Lexpression : Array (Option Value)} {oc_Lexpression dc_Lexpression pm_Lexpression cd_Lexpression ct_Lexpression : Value}
    {kV_Lexpression : Value}
    {od_Lform an_Lform : Option Addr} {sl_Lform : Array (Option Value)} {oc_Lform dc_Lform pm_Lform cd_Lform ct_Lform : Value}
    {kV_Lform : Value}
    {od_Loperation an_Loperation : Option Addr} {sl_Loperation : Array (Option Value)} {oc_Loperation dc_Loperation pm_Loperation cd_Loperation ct_Loperation : Value}
    {kV_Loperation : Value}
    {od_Lroom an_Lroom : Option Addr} {sl_Lroom : Array (Option Value)} {oc_Lroom dc_Lroom pm_Lroom cd_Lroom ct_Lroom : Value}
    {kV_Lroom : Value}
    {od_Lplan an_Lplan : Option Addr} {sl_Lplan : Array (Option Value)} {oc_Lplan dc_Lplan pm_Lplan cd_Lplan ct_Lplan : Value}
    {kV_Lplan : Value}
    {od_Lrows an_Lrows : Option Addr} {sl_Lrows : Array (Option Value)} {oc_Lrows dc_Lrows pm_Lrows cd_Lrows ct_Lrows : Value}
    {kV_Lrows : Value}
    {od_value_key an_value_key : Option Addr} {sl_value_key : Array (Option Value)} {oc_value_key dc_value_key pm_value_key cd_value_key ct_value_key : Value}
    {kV_value_key : Value}
    {od_bounded an_bounded : Option Addr} {sl_bounded : Array (Option Value)} {oc_bounded dc_bounded pm_bounded cd_bounded ct_bounded : Value}
    {kV_bounded : Value}
    {od_truth an_truth : Option Addr} {sl_truth : Array (Option Value)} {oc_truth dc_truth pm_truth cd_truth ct_truth : Value}
    {kV_truth : Value}
    {od_is_true an_is_true : Option Addr} {sl_is_true : Array (Option Value)} {oc_is_true dc_is_true pm_is_true cd_is_true ct_is_true : Value}
    {kV_is_true : Value}
    {od_from_truth an_from_truth : Option Addr} {sl_from_truth : Array (Option Value)} {oc_from_truth dc_from_truth pm_from_truth cd_from_truth ct_from_truth : Value}
    {kV_from_truth : Value}
    {od_both_true an_both_true : Option Addr} {sl_both_true : Array (Option Value)} {oc_both_true dc_both_true pm_both_true cd_both_true ct_both_true : Value}
    {kV_both_true : Value}
    {od_either_true an_either_true : Option Addr} {sl_either_true : Array (Option Value)} {oc_either_true dc_either_true pm_either_true cd_either_true ct_either_true : Value}
    {kV_either_true : Value}
    {od_negate an_negate : Option Addr} {sl_negate : Array (Option Value)} {oc_negate dc_negate pm_negate cd_negate ct_negate : Value}
    {kV_negate : Value}
    {od_is_false an_is_false : Option Addr} {sl_is_false : Array (Option Value)} {oc_is_false dc_is_false pm_is_false cd_is_false ct_is_false : Value}
    {kV_is_false : Value}
    {od_is_missing an_is_missing : Option Addr} {sl_is_missing : Array (Option Value)} {oc_is_missing dc_is_missing pm_is_missing cd_is_missing ct_is_missing : Value}
    {kV_is_missing : Value}
    {od_length an_length : Option Addr} {sl_length : Array (Option Value)} {oc_length dc_length pm_length cd_length ct_length : Value}
    {kV_length : Value}
    {od_add an_add : Option Addr} {sl_add : Array (Option Value)} {oc_add dc_add pm_add cd_add ct_add : Value}
    {kV_add : Value}
    {od_subtract an_subtract : Option Addr} {sl_subtract : Array (Option Value)} {oc_subtract dc_subtract pm_subtract cd_subtract ct_subtract : Value}
    {kV_subtract : Value}
    {od_multiply an_multiply : Option Addr} {sl_multiply : Array (Option Value)} {oc_multiply dc_multiply pm_multiply cd_multiply ct_multiply : Value}
    {kV_multiply : Value}
    {od_divide an_divide : Option Addr} {sl_divide : Array (Option Value)} {oc_divide dc_divide pm_divide cd_divide ct_divide : Value}
    {kV_divide : Value}
    {od_remainder an_remainder : Option Addr} {sl_remainder : Array (Option Value)} {oc_remainder dc_remainder pm_remainder cd_remainder ct_remainder : Value}
    {kV_remainder : Value}
    {od_is_less an_is_less : Option Addr} {sl_is_less : Array (Option Value)} {oc_is_less dc_is_less pm_is_less cd_is_less ct_is_less : Value}
    {kV_is_less : Value}
    {od_is_equal an_is_equal : Option Addr} {sl_is_equal : Array (Option Value)} {oc_is_equal dc_is_equal pm_is_equal cd_is_equal ct_is_equal : Value}
    {kV_is_equal : Value}
    {od_conjunction an_conjunction : Option Addr} {sl_conjunction : Array (Option Value)} {oc_conjunction dc_conjunction pm_conjunction cd_conjunction ct_conjunction : Value}
    {kV_conjunction : Value}
    {od_disjunction an_disjunction : Option Addr} {sl_disjunction : Array (Option Value)} {oc_disjunction dc_disjunction pm_disjunction cd_disjunction ct_disjunction : Value}
    {kV_disjunction : Value}
    {od_starts an_starts : Option Addr} {sl_starts : Array (Option Value)} {oc_starts dc_starts pm_starts cd_starts ct_starts : Value}
    {kV_starts : Value}
    {od_apply_two an_apply_two : Option Addr} {sl_apply_two : Array (Option Value)} {oc_apply_two dc_apply_two pm_apply_two cd_apply_two ct_apply_two : Value}
    {kV_apply_two : Value}
    {od_evaluate an_evaluate : Option Addr} {sl_evaluate : Array (Option Value)} {oc_evaluate dc_evaluate pm_evaluate cd_evaluate ct_evaluate : Value}
    {kV_evaluate : Value}
    {od_evaluate_all an_evaluate_all : Option Addr} {sl_evaluate_all : Array (Option Value)} {oc_evaluate_all dc_evaluate_all pm_evaluate_all cd_evaluate_all ct_evaluate_all : Value}
    {kV_evaluate_all : Value}
    {od_row_key an_row_key : Option Addr} {sl_row_key : Array (Option Value)} {oc_row_key dc_row_key pm_row_key cd_row_key ct_row_key : Value}
    {kV_row_key : Value}
    {od_in_order an_in_order : Option Addr} {sl_in_order : Array (Option Value)} {oc_in_order dc_in_order pm_in_order cd_in_order ct_in_order : Value}
    {kV_in_order : Value}
    {od_matches an_matches : Option Addr} {sl_matches : Array (Option Value)} {oc_matches dc_matches pm_matches cd_matches ct_matches : Value}
    {kV_matches : Value}
    {od_joined_rows an_joined_rows : Option Addr} {sl_joined_rows : Array (Option Value)} {oc_joined_rows dc_joined_rows pm_joined_rows cd_joined_rows ct_joined_rows : Value}
    {kV_joined_rows : Value}
    {od_limited an_limited : Option Addr} {sl_limited : Array (Option Value)} {oc_limited dc_limited pm_limited cd_limited ct_limited : Value}
    {kV_limited : Value}
    {od_copied an_copied : Option Addr} {sl_copied : Array (Option Value)} {oc_copied dc_copied pm_copied cd_copied ct_copied : Value}
    {kV_copied : Value}
    {od_operands an_operands : Option Addr} {sl_operands : Array (Option Value)} {oc_operands dc_operands pm_operands cd_operands ct_operands : Value}
    {kV_operands : Value}
    {od_known_rows an_known_rows : Option Addr} {sl_known_rows : Array (Option Value)} {oc_known_rows dc_known_rows pm_known_rows cd_known_rows ct_known_rows : Value}
    {kV_known_rows : Value}
    {od_operation_possible an_operation_possible : Option Addr} {sl_operation_possible : Array (Option Value)} {oc_operation_possible dc_operation_possible pm_operation_possible cd_operation_possible ct_operation_possible : Value}
    {kV_operation_possible : Value}
    {od_law an_law : Option Addr} {sl_law : Array (Option Value)} {oc_law dc_law pm_law cd_law ct_law : Value}
    {kV_law : Value}
    {od_possible_rows an_possible_rows : Option Addr} {sl_possible_rows : Array (Option Value)} {oc_possible_rows dc_possible_rows pm_possible_rows cd_possible_rows ct_possible_rows : Value}
    {u_possible_rows_most : Value}
    {es_ONE : Array DictEntry} {nD_ONE : Nat}
    {es_NUMBERS : Array DictEntry} {nD_NUMBERS : Nat}
    {es_TWO : Array DictEntry} {nD_TWO : Nat}
    {w_GREATEST : Value}
    (X : K.In h) (G : h.Ns mainGlobals mg) (hfa : mg "law" = some (.ref fa))
    (a_Ldraw : PySem.W.nsIn K mainGlobals "_law_draw" = some (some (.ref f_Ldraw)))
    (l_Ldraw : K.lookup f_Ldraw = some ⟨oc_Ldraw, od_Ldraw, .func (PySem.W.fnOf "_law_draw" "_law_draw" (defArgs sD_Ldraw) (defBody sD_Ldraw) (defScope sD_Ldraw) .none kV_Ldraw dc_Ldraw pm_Ldraw an_Ldraw cd_Ldraw ct_Ldraw), sl_Ldraw⟩)
    (c_Ldraw : PySem.W.codeIn K cd_Ldraw "_law_draw" = true)
    (k_Ldraw : PySem.W.keepIn K (.ref f_Ldraw) = true)
    (a_Lnext : PySem.W.nsIn K mainGlobals "_law_next" = some (some (.ref f_Lnext)))
    (l_Lnext : K.lookup f_Lnext = some ⟨oc_Lnext, od_Lnext, .func (PySem.W.fnOf "_law_next" "_law_next" (defArgs sD_Lnext) (defBody sD_Lnext) (defScope sD_Lnext) .none kV_Lnext dc_Lnext pm_Lnext an_Lnext cd_Lnext ct_Lnext), sl_Lnext⟩)
    (c_Lnext : PySem.W.codeIn K cd_Lnext "_law_next" = true)
    (k_Lnext : PySem.W.keepIn K (.ref f_Lnext) = true)
    (a_Lcell : PySem.W.nsIn K mainGlobals "_law_cell" = some (some (.ref f_Lcell)))
    (l_Lcell : K.lookup f_Lcell = some ⟨oc_Lcell, od_Lcell, .func (PySem.W.fnOf "_law_cell" "_law_cell" (defArgs sD_Lcell) (defBody sD_Lcell) (defScope sD_Lcell) .none kV_Lcell dc_Lcell pm_Lcell an_Lcell cd_Lcell ct_Lcell), sl_Lcell⟩)
    (c_Lcell : PySem.W.codeIn K cd_Lcell "_law_cell" = true)
    (k_Lcell : PySem.W.keepIn K (.ref f_Lcell) = true)
    (a_Lkey : PySem.W.nsIn K mainGlobals "_law_key" = some (some (.ref f_Lkey)))
    (l_Lkey : K.lookup f_Lkey = some ⟨oc_Lkey, od_Lkey, .func (PySem.W.fnOf "_law_key" "_law_key" (defArgs sD_Lkey) (defBody sD_Lkey) (defScope sD_Lkey) .none kV_Lkey dc_Lkey pm_Lkey an_Lkey cd_Lkey ct_Lkey), sl_Lkey⟩)
    (c_Lkey : PySem.W.codeIn K cd_Lkey "_law_key" = true)
    (k_Lkey : PySem.W.keepIn K (.ref f_Lkey) = true)
    (a_Lrow_key : PySem.W.nsIn K mainGlobals "_law_row_key" = some (some (.ref f_Lrow_key)))
    (l_Lrow_key : K.lookup f_Lrow_key = some ⟨oc_Lrow_key, od_Lrow_key, .func (PySem.W.fnOf "_law_row_key" "_law_row_key" (defArgs sD_Lrow_key) (defBody sD_Lrow_key) (defScope sD_Lrow_key) .none kV_Lrow_key dc_Lrow_key pm_Lrow_key an_Lrow_key cd_Lrow_key ct_Lrow_key), sl_Lrow_key⟩)
    (c_Lrow_key : PySem.W.codeIn K cd_Lrow_key "_law_row_key" = true)
    (k_Lrow_key : PySem.W.keepIn K (.ref f_Lrow_key) = true)
    (a_Ldistinct : PySem.W.nsIn K mainGlobals "_law_distinct" = some (some (.ref f_Ldistinct)))
    (l_Ldistinct : K.lookup f_Ldistinct = some ⟨oc_Ldistinct, od_Ldistinct, .func (PySem.W.fnOf "_law_distinct" "_law_distinct" (defArgs sD_Ldistinct) (defBody sD_Ldistinct) (defScope sD_Ldistinct) .none kV_Ldistinct dc_Ldistinct pm_Ldistinct an_Ldistinct cd_Ldistinct ct_Ldistinct), sl_Ldistinct⟩)
    (c_Ldistinct : PySem.W.codeIn K cd_Ldistinct "_law_distinct" = true)
    (k_Ldistinct : PySem.W.keepIn K (.ref f_Ldistinct) = true)
    (a_Lordered : PySem.W.nsIn K mainGlobals "_law_ordered" = some (some (.ref f_Lordered)))
    (l_Lordered : K.lookup f_Lordered = some ⟨oc_Lordered, od_Lordered, .func (PySem.W.fnOf "_law_ordered" "_law_ordered" (defArgs sD_Lordered) (defBody sD_Lordered) (defScope sD_Lordered) .none kV_Lordered dc_Lordered pm_Lordered an_Lordered cd_Lordered ct_Lordered), sl_Lordered⟩)
    (c_Lordered : PySem.W.codeIn K cd_Lordered "_law_ordered" = true)
    (k_Lordered : PySem.W.keepIn K (.ref f_Lordered) = true)
    (a_Lexpression : PySem.W.nsIn K mainGlobals "_law_expression" = some (some (.ref f_Lexpression)))
    (l_Lexpression : K.lookup f_Lexpression = some ⟨oc_Lexpression, od_Lexpression, .func (PySem.W.fnOf "_law_expression" "_law_expression" (defArgs sD_Lexpression) (defBody sD_Lexpression) (defScope sD_Lexpression) .none kV_Lexpression dc_Lexpression pm_Lexpression an_Lexpression cd_Lexpression ct_Lexpression), sl_Lexpression⟩)
    (c_Lexpression : PySem.W.codeIn K cd_Lexpression "_law_expression" = true)
    (k_Lexpression : PySem.W.keepIn K (.ref f_Lexpression) = true)
    (a_Lform : PySem.W.nsIn K mainGlobals "_law_form" = some (some (.ref f_Lform)))
    (l_Lform : K.lookup f_Lform = some ⟨oc_Lform, od_Lform, .func (PySem.W.fnOf "_law_form" "_law_form" (defArgs sD_Lform) (defBody sD_Lform) (defScope sD_Lform) .none kV_Lform dc_Lform pm_Lform an_Lform cd_Lform ct_Lform), sl_Lform⟩)
    (c_Lform : PySem.W.codeIn K cd_Lform "_law_form" = true)
    (k_Lform : PySem.W.keepIn K (.ref f_Lform) = true)
    (a_Loperation : PySem.W.nsIn K mainGlobals "_law_operation" = some (some (.ref f_Loperation)))
    (l_Loperation : K.lookup f_Loperation = some ⟨oc_Loperation, od_Loperation, .func (PySem.W.fnOf "_law_operation" "_law_operation" (defArgs sD_Loperation) (defBody sD_Loperation) (defScope sD_Loperation) .none kV_Loperation dc_Loperation pm_Loperation an_Loperation cd_Loperation ct_Loperation), sl_Loperation⟩)
    (c_Loperation : PySem.W.codeIn K cd_Loperation "_law_operation" = true)
    (k_Loperation : PySem.W.keepIn K (.ref f_Loperation) = true)
    (a_Lroom : PySem.W.nsIn K mainGlobals "_law_room" = some (some (.ref f_Lroom)))
    (l_Lroom : K.lookup f_Lroom = some ⟨oc_Lroom, od_Lroom, .func (PySem.W.fnOf "_law_room" "_law_room" (defArgs sD_Lroom) (defBody sD_Lroom) (defScope sD_Lroom) .none kV_Lroom dc_Lroom pm_Lroom an_Lroom cd_Lroom ct_Lroom), sl_Lroom⟩)
    (c_Lroom : PySem.W.codeIn K cd_Lroom "_law_room" = true)
    (k_Lroom : PySem.W.keepIn K (.ref f_Lroom) = true)
    (a_Lplan : PySem.W.nsIn K mainGlobals "_law_plan" = some (some (.ref f_Lplan)))
    (l_Lplan : K.lookup f_Lplan = some ⟨oc_Lplan, od_Lplan, .func (PySem.W.fnOf "_law_plan" "_law_plan" (defArgs sD_Lplan) (defBody sD_Lplan) (defScope sD_Lplan) .none kV_Lplan dc_Lplan pm_Lplan an_Lplan cd_Lplan ct_Lplan), sl_Lplan⟩)
    (c_Lplan : PySem.W.codeIn K cd_Lplan "_law_plan" = true)
    (k_Lplan : PySem.W.keepIn K (.ref f_Lplan) = true)
    (a_Lrows : PySem.W.nsIn K mainGlobals "_law_rows" = some (some (.ref f_Lrows)))
    (l_Lrows : K.lookup f_Lrows = some ⟨oc_Lrows, od_Lrows, .func (PySem.W.fnOf "_law_rows" "_law_rows" (defArgs sD_Lrows) (defBody sD_Lrows) (defScope sD_Lrows) .none kV_Lrows dc_Lrows pm_Lrows an_Lrows cd_Lrows ct_Lrows), sl_Lrows⟩)
    (c_Lrows : PySem.W.codeIn K cd_Lrows "_law_rows" = true)
    (k_Lrows : PySem.W.keepIn K (.ref f_Lrows) = true)
    (a_value_key : PySem.W.nsIn K mainGlobals "value_key" = some (some (.ref f_value_key)))
    (l_value_key : K.lookup f_value_key = some ⟨oc_value_key, od_value_key, .func (PySem.W.fnOf "value_key" "value_key" (defArgs sD_value_key) (defBody sD_value_key) (defScope sD_value_key) .none kV_value_key dc_value_key pm_value_key an_value_key cd_value_key ct_value_key), sl_value_key⟩)
    (c_value_key : PySem.W.codeIn K cd_value_key "value_key" = true)
    (k_value_key : PySem.W.keepIn K (.ref f_value_key) = true)
    (a_bounded : PySem.W.nsIn K mainGlobals "bounded" = some (some (.ref f_bounded)))
    (l_bounded : K.lookup f_bounded = some ⟨oc_bounded, od_bounded, .func (PySem.W.fnOf "bounded" "bounded" (defArgs sD_bounded) (defBody sD_bounded) (defScope sD_bounded) .none kV_bounded dc_bounded pm_bounded an_bounded cd_bounded ct_bounded), sl_bounded⟩)
    (c_bounded : PySem.W.codeIn K cd_bounded "bounded" = true)
    (k_bounded : PySem.W.keepIn K (.ref f_bounded) = true)
    (a_truth : PySem.W.nsIn K mainGlobals "truth" = some (some (.ref f_truth)))
    (l_truth : K.lookup f_truth = some ⟨oc_truth, od_truth, .func (PySem.W.fnOf "truth" "truth" (defArgs sD_truth) (defBody sD_truth) (defScope sD_truth) .none kV_truth dc_truth pm_truth an_truth cd_truth ct_truth), sl_truth⟩)
    (c_truth : PySem.W.codeIn K cd_truth "truth" = true)
    (k_truth : PySem.W.keepIn K (.ref f_truth) = true)
    (a_is_true : PySem.W.nsIn K mainGlobals "is_true" = some (some (.ref f_is_true)))
    (l_is_true : K.lookup f_is_true = some ⟨oc_is_true, od_is_true, .func (PySem.W.fnOf "is_true" "is_true" (defArgs sD_is_true) (defBody sD_is_true) (defScope sD_is_true) .none kV_is_true dc_is_true pm_is_true an_is_true cd_is_true ct_is_true), sl_is_true⟩)
    (c_is_true : PySem.W.codeIn K cd_is_true "is_true" = true)
    (k_is_true : PySem.W.keepIn K (.ref f_is_true) = true)
    (a_from_truth : PySem.W.nsIn K mainGlobals "from_truth" = some (some (.ref f_from_truth)))
    (l_from_truth : K.lookup f_from_truth = some ⟨oc_from_truth, od_from_truth, .func (PySem.W.fnOf "from_truth" "from_truth" (defArgs sD_from_truth) (defBody sD_from_truth) (defScope sD_from_truth) .none kV_from_truth dc_from_truth pm_from_truth an_from_truth cd_from_truth ct_from_truth), sl_from_truth⟩)
    (c_from_truth : PySem.W.codeIn K cd_from_truth "from_truth" = true)
    (k_from_truth : PySem.W.keepIn K (.ref f_from_truth) = true)
    (a_both_true : PySem.W.nsIn K mainGlobals "both_true" = some (some (.ref f_both_true)))
    (l_both_true : K.lookup f_both_true = some ⟨oc_both_true, od_both_true, .func (PySem.W.fnOf "both_true" "both_true" (defArgs sD_both_true) (defBody sD_both_true) (defScope sD_both_true) .none kV_both_true dc_both_true pm_both_true an_both_true cd_both_true ct_both_true), sl_both_true⟩)
    (c_both_true : PySem.W.codeIn K cd_both_true "both_true" = true)
    (k_both_true : PySem.W.keepIn K (.ref f_both_true) = true)
    (a_either_true : PySem.W.nsIn K mainGlobals "either_true" = some (some (.ref f_either_true)))
    (l_either_true : K.lookup f_either_true = some ⟨oc_either_true, od_either_true, .func (PySem.W.fnOf "either_true" "either_true" (defArgs sD_either_true) (defBody sD_either_true) (defScope sD_either_true) .none kV_either_true dc_either_true pm_either_true an_either_true cd_either_true ct_either_true), sl_either_true⟩)
    (c_either_true : PySem.W.codeIn K cd_either_true "either_true" = true)
    (k_either_true : PySem.W.keepIn K (.ref f_either_true) = true)
    (a_negate : PySem.W.nsIn K mainGlobals "negate" = some (some (.ref f_negate)))
    (l_negate : K.lookup f_negate = some ⟨oc_negate, od_negate, .func (PySem.W.fnOf "negate" "negate" (defArgs sD_negate) (defBody sD_negate) (defScope sD_negate) .none kV_negate dc_negate pm_negate an_negate cd_negate ct_negate), sl_negate⟩)
    (c_negate : PySem.W.codeIn K cd_negate "negate" = true)
    (k_negate : PySem.W.keepIn K (.ref f_negate) = true)
    (a_is_false : PySem.W.nsIn K mainGlobals "is_false" = some (some (.ref f_is_false)))
    (l_is_false : K.lookup f_is_false = some ⟨oc_is_false, od_is_false, .func (PySem.W.fnOf "is_false" "is_false" (defArgs sD_is_false) (defBody sD_is_false) (defScope sD_is_false) .none kV_is_false dc_is_false pm_is_false an_is_false cd_is_false ct_is_false), sl_is_false⟩)
    (c_is_false : PySem.W.codeIn K cd_is_false "is_false" = true)
    (k_is_false : PySem.W.keepIn K (.ref f_is_false) = true)
    (a_is_missing : PySem.W.nsIn K mainGlobals "is_missing" = some (some (.ref f_is_missing)))
    (l_is_missing : K.lookup f_is_missing = some ⟨oc_is_missing, od_is_missing, .func (PySem.W.fnOf "is_missing" "is_missing" (defArgs sD_is_missing) (defBody sD_is_missing) (defScope sD_is_missing) .none kV_is_missing dc_is_missing pm_is_missing an_is_missing cd_is_missing ct_is_missing), sl_is_missing⟩)
    (c_is_missing : PySem.W.codeIn K cd_is_missing "is_missing" = true)
    (k_is_missing : PySem.W.keepIn K (.ref f_is_missing) = true)
    (a_length : PySem.W.nsIn K mainGlobals "length" = some (some (.ref f_length)))
    (l_length : K.lookup f_length = some ⟨oc_length, od_length, .func (PySem.W.fnOf "length" "length" (defArgs sD_length) (defBody sD_length) (defScope sD_length) .none kV_length dc_length pm_length an_length cd_length ct_length), sl_length⟩)
    (c_length : PySem.W.codeIn K cd_length "length" = true)
    (k_length : PySem.W.keepIn K (.ref f_length) = true)
    (a_add : PySem.W.nsIn K mainGlobals "add" = some (some (.ref f_add)))
    (l_add : K.lookup f_add = some ⟨oc_add, od_add, .func (PySem.W.fnOf "add" "add" (defArgs sD_add) (defBody sD_add) (defScope sD_add) .none kV_add dc_add pm_add an_add cd_add ct_add), sl_add⟩)
    (c_add : PySem.W.codeIn K cd_add "add" = true)
    (k_add : PySem.W.keepIn K (.ref f_add) = true)
    (a_subtract : PySem.W.nsIn K mainGlobals "subtract" = some (some (.ref f_subtract)))
    (l_subtract : K.lookup f_subtract = some ⟨oc_subtract, od_subtract, .func (PySem.W.fnOf "subtract" "subtract" (defArgs sD_subtract) (defBody sD_subtract) (defScope sD_subtract) .none kV_subtract dc_subtract pm_subtract an_subtract cd_subtract ct_subtract), sl_subtract⟩)
    (c_subtract : PySem.W.codeIn K cd_subtract "subtract" = true)
    (k_subtract : PySem.W.keepIn K (.ref f_subtract) = true)
    (a_multiply : PySem.W.nsIn K mainGlobals "multiply" = some (some (.ref f_multiply)))
    (l_multiply : K.lookup f_multiply = some ⟨oc_multiply, od_multiply, .func (PySem.W.fnOf "multiply" "multiply" (defArgs sD_multiply) (defBody sD_multiply) (defScope sD_multiply) .none kV_multiply dc_multiply pm_multiply an_multiply cd_multiply ct_multiply), sl_multiply⟩)
    (c_multiply : PySem.W.codeIn K cd_multiply "multiply" = true)
    (k_multiply : PySem.W.keepIn K (.ref f_multiply) = true)
    (a_divide : PySem.W.nsIn K mainGlobals "divide" = some (some (.ref f_divide)))
    (l_divide : K.lookup f_divide = some ⟨oc_divide, od_divide, .func (PySem.W.fnOf "divide" "divide" (defArgs sD_divide) (defBody sD_divide) (defScope sD_divide) .none kV_divide dc_divide pm_divide an_divide cd_divide ct_divide), sl_divide⟩)
    (c_divide : PySem.W.codeIn K cd_divide "divide" = true)
    (k_divide : PySem.W.keepIn K (.ref f_divide) = true)
    (a_remainder : PySem.W.nsIn K mainGlobals "remainder" = some (some (.ref f_remainder)))
    (l_remainder : K.lookup f_remainder = some ⟨oc_remainder, od_remainder, .func (PySem.W.fnOf "remainder" "remainder" (defArgs sD_remainder) (defBody sD_remainder) (defScope sD_remainder) .none kV_remainder dc_remainder pm_remainder an_remainder cd_remainder ct_remainder), sl_remainder⟩)
    (c_remainder : PySem.W.codeIn K cd_remainder "remainder" = true)
    (k_remainder : PySem.W.keepIn K (.ref f_remainder) = true)
    (a_is_less : PySem.W.nsIn K mainGlobals "is_less" = some (some (.ref f_is_less)))
    (l_is_less : K.lookup f_is_less = some ⟨oc_is_less, od_is_less, .func (PySem.W.fnOf "is_less" "is_less" (defArgs sD_is_less) (defBody sD_is_less) (defScope sD_is_less) .none kV_is_less dc_is_less pm_is_less an_is_less cd_is_less ct_is_less), sl_is_less⟩)
    (c_is_less : PySem.W.codeIn K cd_is_less "is_less" = true)
    (k_is_less : PySem.W.keepIn K (.ref f_is_less) = true)
    (a_is_equal : PySem.W.nsIn K mainGlobals "is_equal" = some (some (.ref f_is_equal)))
    (l_is_equal : K.lookup f_is_equal = some ⟨oc_is_equal, od_is_equal, .func (PySem.W.fnOf "is_equal" "is_equal" (defArgs sD_is_equal) (defBody sD_is_equal) (defScope sD_is_equal) .none kV_is_equal dc_is_equal pm_is_equal an_is_equal cd_is_equal ct_is_equal), sl_is_equal⟩)
    (c_is_equal : PySem.W.codeIn K cd_is_equal "is_equal" = true)
    (k_is_equal : PySem.W.keepIn K (.ref f_is_equal) = true)
    (a_conjunction : PySem.W.nsIn K mainGlobals "conjunction" = some (some (.ref f_conjunction)))
    (l_conjunction : K.lookup f_conjunction = some ⟨oc_conjunction, od_conjunction, .func (PySem.W.fnOf "conjunction" "conjunction" (defArgs sD_conjunction) (defBody sD_conjunction) (defScope sD_conjunction) .none kV_conjunction dc_conjunction pm_conjunction an_conjunction cd_conjunction ct_conjunction), sl_conjunction⟩)
    (c_conjunction : PySem.W.codeIn K cd_conjunction "conjunction" = true)
    (k_conjunction : PySem.W.keepIn K (.ref f_conjunction) = true)
    (a_disjunction : PySem.W.nsIn K mainGlobals "disjunction" = some (some (.ref f_disjunction)))
    (l_disjunction : K.lookup f_disjunction = some ⟨oc_disjunction, od_disjunction, .func (PySem.W.fnOf "disjunction" "disjunction" (defArgs sD_disjunction) (defBody sD_disjunction) (defScope sD_disjunction) .none kV_disjunction dc_disjunction pm_disjunction an_disjunction cd_disjunction ct_disjunction), sl_disjunction⟩)
    (c_disjunction : PySem.W.codeIn K cd_disjunction "disjunction" = true)
    (k_disjunction : PySem.W.keepIn K (.ref f_disjunction) = true)
    (a_starts : PySem.W.nsIn K mainGlobals "starts" = some (some (.ref f_starts)))
    (l_starts : K.lookup f_starts = some ⟨oc_starts, od_starts, .func (PySem.W.fnOf "starts" "starts" (defArgs sD_starts) (defBody sD_starts) (defScope sD_starts) .none kV_starts dc_starts pm_starts an_starts cd_starts ct_starts), sl_starts⟩)
    (c_starts : PySem.W.codeIn K cd_starts "starts" = true)
    (k_starts : PySem.W.keepIn K (.ref f_starts) = true)
    (a_apply_two : PySem.W.nsIn K mainGlobals "apply_two" = some (some (.ref f_apply_two)))
    (l_apply_two : K.lookup f_apply_two = some ⟨oc_apply_two, od_apply_two, .func (PySem.W.fnOf "apply_two" "apply_two" (defArgs sD_apply_two) (defBody sD_apply_two) (defScope sD_apply_two) .none kV_apply_two dc_apply_two pm_apply_two an_apply_two cd_apply_two ct_apply_two), sl_apply_two⟩)
    (c_apply_two : PySem.W.codeIn K cd_apply_two "apply_two" = true)
    (k_apply_two : PySem.W.keepIn K (.ref f_apply_two) = true)
    (a_evaluate : PySem.W.nsIn K mainGlobals "evaluate" = some (some (.ref f_evaluate)))
    (l_evaluate : K.lookup f_evaluate = some ⟨oc_evaluate, od_evaluate, .func (PySem.W.fnOf "evaluate" "evaluate" (defArgs sD_evaluate) (defBody sD_evaluate) (defScope sD_evaluate) .none kV_evaluate dc_evaluate pm_evaluate an_evaluate cd_evaluate ct_evaluate), sl_evaluate⟩)
    (c_evaluate : PySem.W.codeIn K cd_evaluate "evaluate" = true)
    (k_evaluate : PySem.W.keepIn K (.ref f_evaluate) = true)
    (a_evaluate_all : PySem.W.nsIn K mainGlobals "evaluate_all" = some (some (.ref f_evaluate_all)))
    (l_evaluate_all : K.lookup f_evaluate_all = some ⟨oc_evaluate_all, od_evaluate_all, .func (PySem.W.fnOf "evaluate_all" "evaluate_all" (defArgs sD_evaluate_all) (defBody sD_evaluate_all) (defScope sD_evaluate_all) .none kV_evaluate_all dc_evaluate_all pm_evaluate_all an_evaluate_all cd_evaluate_all ct_evaluate_all), sl_evaluate_all⟩)
    (c_evaluate_all : PySem.W.codeIn K cd_evaluate_all "evaluate_all" = true)
    (k_evaluate_all : PySem.W.keepIn K (.ref f_evaluate_all) = true)
    (a_row_key : PySem.W.nsIn K mainGlobals "row_key" = some (some (.ref f_row_key)))
    (l_row_key : K.lookup f_row_key = some ⟨oc_row_key, od_row_key, .func (PySem.W.fnOf "row_key" "row_key" (defArgs sD_row_key) (defBody sD_row_key) (defScope sD_row_key) .none kV_row_key dc_row_key pm_row_key an_row_key cd_row_key ct_row_key), sl_row_key⟩)
    (c_row_key : PySem.W.codeIn K cd_row_key "row_key" = true)
    (k_row_key : PySem.W.keepIn K (.ref f_row_key) = true)
    (a_in_order : PySem.W.nsIn K mainGlobals "in_order" = some (some (.ref f_in_order)))
    (l_in_order : K.lookup f_in_order = some ⟨oc_in_order, od_in_order, .func (PySem.W.fnOf "in_order" "in_order" (defArgs sD_in_order) (defBody sD_in_order) (defScope sD_in_order) .none kV_in_order dc_in_order pm_in_order an_in_order cd_in_order ct_in_order), sl_in_order⟩)
    (c_in_order : PySem.W.codeIn K cd_in_order "in_order" = true)
    (k_in_order : PySem.W.keepIn K (.ref f_in_order) = true)
    (a_matches : PySem.W.nsIn K mainGlobals "matches" = some (some (.ref f_matches)))
    (l_matches : K.lookup f_matches = some ⟨oc_matches, od_matches, .func (PySem.W.fnOf "matches" "matches" (defArgs sD_matches) (defBody sD_matches) (defScope sD_matches) .none kV_matches dc_matches pm_matches an_matches cd_matches ct_matches), sl_matches⟩)
    (c_matches : PySem.W.codeIn K cd_matches "matches" = true)
    (k_matches : PySem.W.keepIn K (.ref f_matches) = true)
    (a_joined_rows : PySem.W.nsIn K mainGlobals "joined_rows" = some (some (.ref f_joined_rows)))
    (l_joined_rows : K.lookup f_joined_rows = some ⟨oc_joined_rows, od_joined_rows, .func (PySem.W.fnOf "joined_rows" "joined_rows" (defArgs sD_joined_rows) (defBody sD_joined_rows) (defScope sD_joined_rows) .none kV_joined_rows dc_joined_rows pm_joined_rows an_joined_rows cd_joined_rows ct_joined_rows), sl_joined_rows⟩)
    (c_joined_rows : PySem.W.codeIn K cd_joined_rows "joined_rows" = true)
    (k_joined_rows : PySem.W.keepIn K (.ref f_joined_rows) = true)
    (a_limited : PySem.W.nsIn K mainGlobals "limited" = some (some (.ref f_limited)))
    (l_limited : K.lookup f_limited = some ⟨oc_limited, od_limited, .func (PySem.W.fnOf "limited" "limited" (defArgs sD_limited) (defBody sD_limited) (defScope sD_limited) .none kV_limited dc_limited pm_limited an_limited cd_limited ct_limited), sl_limited⟩)
    (c_limited : PySem.W.codeIn K cd_limited "limited" = true)
    (k_limited : PySem.W.keepIn K (.ref f_limited) = true)
    (a_copied : PySem.W.nsIn K mainGlobals "copied" = some (some (.ref f_copied)))
    (l_copied : K.lookup f_copied = some ⟨oc_copied, od_copied, .func (PySem.W.fnOf "copied" "copied" (defArgs sD_copied) (defBody sD_copied) (defScope sD_copied) .none kV_copied dc_copied pm_copied an_copied cd_copied ct_copied), sl_copied⟩)
    (c_copied : PySem.W.codeIn K cd_copied "copied" = true)
    (k_copied : PySem.W.keepIn K (.ref f_copied) = true)
    (a_operands : PySem.W.nsIn K mainGlobals "operands" = some (some (.ref f_operands)))
    (l_operands : K.lookup f_operands = some ⟨oc_operands, od_operands, .func (PySem.W.fnOf "operands" "operands" (defArgs sD_operands) (defBody sD_operands) (defScope sD_operands) .none kV_operands dc_operands pm_operands an_operands cd_operands ct_operands), sl_operands⟩)
    (c_operands : PySem.W.codeIn K cd_operands "operands" = true)
    (k_operands : PySem.W.keepIn K (.ref f_operands) = true)
    (a_known_rows : PySem.W.nsIn K mainGlobals "known_rows" = some (some (.ref f_known_rows)))
    (l_known_rows : K.lookup f_known_rows = some ⟨oc_known_rows, od_known_rows, .func (PySem.W.fnOf "known_rows" "known_rows" (defArgs sD_known_rows) (defBody sD_known_rows) (defScope sD_known_rows) .none kV_known_rows dc_known_rows pm_known_rows an_known_rows cd_known_rows ct_known_rows), sl_known_rows⟩)
    (c_known_rows : PySem.W.codeIn K cd_known_rows "known_rows" = true)
    (k_known_rows : PySem.W.keepIn K (.ref f_known_rows) = true)
    (a_operation_possible : PySem.W.nsIn K mainGlobals "operation_possible" = some (some (.ref f_operation_possible)))
    (l_operation_possible : K.lookup f_operation_possible = some ⟨oc_operation_possible, od_operation_possible, .func (PySem.W.fnOf "operation_possible" "operation_possible" (defArgs sD_operation_possible) (defBody sD_operation_possible) (defScope sD_operation_possible) .none kV_operation_possible dc_operation_possible pm_operation_possible an_operation_possible cd_operation_possible ct_operation_possible), sl_operation_possible⟩)
    (c_operation_possible : PySem.W.codeIn K cd_operation_possible "operation_possible" = true)
    (k_operation_possible : PySem.W.keepIn K (.ref f_operation_possible) = true)
    (a_law : PySem.W.nsIn K mainGlobals "law" = some (some (.ref f_law)))
    (l_law : K.lookup f_law = some ⟨oc_law, od_law, .func (PySem.W.fnOf "law" "law" (defArgs sD_law) (defBody sD_law) (defScope sD_law) .none kV_law dc_law pm_law an_law cd_law ct_law), sl_law⟩)
    (c_law : PySem.W.codeIn K cd_law "law" = true)
    (k_law : PySem.W.keepIn K (.ref f_law) = true)
    (a_possible_rows : PySem.W.nsIn K mainGlobals "possible_rows" = some (some (.ref f_possible_rows)))
    (l_possible_rows : K.lookup f_possible_rows = some ⟨oc_possible_rows, od_possible_rows, .func (PySem.W.fnOf "possible_rows" "possible_rows" (defArgs sD_possible_rows) (defBody sD_possible_rows) (defScope sD_possible_rows) .none (.ref D_possible_rows) dc_possible_rows pm_possible_rows an_possible_rows cd_possible_rows ct_possible_rows), sl_possible_rows⟩)
    (c_possible_rows : PySem.W.codeIn K cd_possible_rows "possible_rows" = true)
    (k_possible_rows : PySem.W.keepIn K (.ref f_possible_rows) = true)
    (d_possible_rows_most : PySem.W.nsIn K D_possible_rows "most" = some (some u_possible_rows_most))
    (r_possible_rows_most : RelV (.int 500) u_possible_rows_most)
    (g_ONE : PySem.W.nsIn K mainGlobals "ONE" = some (some (.ref aD_ONE)))
    (lD_ONE : K.lookup aD_ONE = some ⟨.type "dict", none, .dict es_ONE nD_ONE, #[]⟩)
    (kL_ONE : PySem.W.KeysLit w.params es_ONE.toList)
    (low_ONE : (aD_ONE == sysModules) = false)
    (v_ONE_negate : PySem.W.nsIn K aD_ONE "negate" = some (some (.ref f_negate)))
    (v_ONE_is_false : PySem.W.nsIn K aD_ONE "not" = some (some (.ref f_is_false)))
    (v_ONE_is_missing : PySem.W.nsIn K aD_ONE "missing" = some (some (.ref f_is_missing)))
    (v_ONE_length : PySem.W.nsIn K aD_ONE "length" = some (some (.ref f_length)))
    (o_ONE_add : PySem.W.nsIn K aD_ONE "add" = some none)
    (o_ONE_subtract : PySem.W.nsIn K aD_ONE "subtract" = some none)
    (o_ONE_multiply : PySem.W.nsIn K aD_ONE "multiply" = some none)
    (o_ONE_divide : PySem.W.nsIn K aD_ONE "divide" = some none)
    (o_ONE_remainder : PySem.W.nsIn K aD_ONE "remainder" = some none)
    (o_ONE_less : PySem.W.nsIn K aD_ONE "less" = some none)
    (o_ONE_equal : PySem.W.nsIn K aD_ONE "equal" = some none)
    (o_ONE_and : PySem.W.nsIn K aD_ONE "and" = some none)
    (o_ONE_or : PySem.W.nsIn K aD_ONE "or" = some none)
    (o_ONE_starts : PySem.W.nsIn K aD_ONE "starts" = some none)
    (g_NUMBERS : PySem.W.nsIn K mainGlobals "NUMBERS" = some (some (.ref aD_NUMBERS)))
    (lD_NUMBERS : K.lookup aD_NUMBERS = some ⟨.type "dict", none, .dict es_NUMBERS nD_NUMBERS, #[]⟩)
    (kL_NUMBERS : PySem.W.KeysLit w.params es_NUMBERS.toList)
    (low_NUMBERS : (aD_NUMBERS == sysModules) = false)
    (v_NUMBERS_add : PySem.W.nsIn K aD_NUMBERS "add" = some (some (.ref f_add)))
    (v_NUMBERS_subtract : PySem.W.nsIn K aD_NUMBERS "subtract" = some (some (.ref f_subtract)))
    (v_NUMBERS_multiply : PySem.W.nsIn K aD_NUMBERS "multiply" = some (some (.ref f_multiply)))
    (v_NUMBERS_divide : PySem.W.nsIn K aD_NUMBERS "divide" = some (some (.ref f_divide)))
    (v_NUMBERS_remainder : PySem.W.nsIn K aD_NUMBERS "remainder" = some (some (.ref f_remainder)))
    (o_NUMBERS_less : PySem.W.nsIn K aD_NUMBERS "less" = some none)
    (o_NUMBERS_equal : PySem.W.nsIn K aD_NUMBERS "equal" = some none)
    (o_NUMBERS_and : PySem.W.nsIn K aD_NUMBERS "and" = some none)
    (o_NUMBERS_or : PySem.W.nsIn K aD_NUMBERS "or" = some none)
    (o_NUMBERS_starts : PySem.W.nsIn K aD_NUMBERS "starts" = some none)
    (g_TWO : PySem.W.nsIn K mainGlobals "TWO" = some (some (.ref aD_TWO)))
    (lD_TWO : K.lookup aD_TWO = some ⟨.type "dict", none, .dict es_TWO nD_TWO, #[]⟩)
    (kL_TWO : PySem.W.KeysLit w.params es_TWO.toList)
    (low_TWO : (aD_TWO == sysModules) = false)
    (v_TWO_is_less : PySem.W.nsIn K aD_TWO "less" = some (some (.ref f_is_less)))
    (v_TWO_is_equal : PySem.W.nsIn K aD_TWO "equal" = some (some (.ref f_is_equal)))
    (v_TWO_conjunction : PySem.W.nsIn K aD_TWO "and" = some (some (.ref f_conjunction)))
    (v_TWO_disjunction : PySem.W.nsIn K aD_TWO "or" = some (some (.ref f_disjunction)))
    (v_TWO_starts : PySem.W.nsIn K aD_TWO "starts" = some (some (.ref f_starts)))
    (z_GREATEST : PySem.W.nsIn K mainGlobals "GREATEST" = some (some w_GREATEST))
    (y_GREATEST : RelV (.int 1000000000000000) w_GREATEST)
    (n_isinstance : PySem.W.nsIn K mainGlobals "isinstance" = some none)
    (n_list : PySem.W.nsIn K mainGlobals "list" = some none)
    (n_tuple : PySem.W.nsIn K mainGlobals "tuple" = some none)
    (n_str : PySem.W.nsIn K mainGlobals "str" = some none)
    (n_int : PySem.W.nsIn K mainGlobals "int" = some none)
    (n_len : PySem.W.nsIn K mainGlobals "len" = some none)
    (n_any : PySem.W.nsIn K mainGlobals "any" = some none)
    (n_range : PySem.W.nsIn K mainGlobals "range" = some none)
    (n_abs : PySem.W.nsIn K mainGlobals "abs" = some none)
    (n_min : PySem.W.nsIn K mainGlobals "min" = some none)
    (n_sorted : PySem.W.nsIn K mainGlobals "sorted" = some none)
    (n_repr : PySem.W.nsIn K mainGlobals "repr" = some none)
    : ∃ fd : FuncData, Fun K "law" "law" sD_law fa fd ∧ (∀ (s : Shared) (u : Value), BindsTo s fd ⟨[u], []⟩ [("script", u)]) ∧ ∀ base : Heap, K.In base → base.Ns mainGlobals mg → LawAt P w K mg base 63 ["script", "draw", "widths", "tables", "sizes", "size", "steps", "plan", "kept", "due", "k", "found", "rest", "width"] sD_law fa := by
  have e := hfa.symm.trans (PySem.W.mg_of X G a_law)
  cases e
  have g_Ldraw : GD K mg "_law_draw" sD_Ldraw ["script"] := ⟨_, _, fun_mk (st := sD_Ldraw) l_Ldraw c_Ldraw k_Ldraw, PySem.W.mg_of X G a_Ldraw, (fun_mk (st := sD_Ldraw) l_Ldraw c_Ldraw k_Ldraw).binds (fun _ _ _ _ _ _ us hl => match us, hl with | [_], _ => rfl)⟩
  have g_Lnext : GD K mg "_law_next" sD_Lnext ["draw", "many"] := ⟨_, _, fun_mk (st := sD_Lnext) l_Lnext c_Lnext k_Lnext, PySem.W.mg_of X G a_Lnext, (fun_mk (st := sD_Lnext) l_Lnext c_Lnext k_Lnext).binds (fun _ _ _ _ _ _ us hl => match us, hl with | [_, _], _ => rfl)⟩
  have g_Lcell : GD K mg "_law_cell" sD_Lcell ["draw"] := ⟨_, _, fun_mk (st := sD_Lcell) l_Lcell c_Lcell k_Lcell, PySem.W.mg_of X G a_Lcell, (fun_mk (st := sD_Lcell) l_Lcell c_Lcell k_Lcell).binds (fun _ _ _ _ _ _ us hl => match us, hl with | [_], _ => rfl)⟩
  have g_Lkey : GD K mg "_law_key" sD_Lkey ["value"] := ⟨_, _, fun_mk (st := sD_Lkey) l_Lkey c_Lkey k_Lkey, PySem.W.mg_of X G a_Lkey, (fun_mk (st := sD_Lkey) l_Lkey c_Lkey k_Lkey).binds (fun _ _ _ _ _ _ us hl => match us, hl with | [_], _ => rfl)⟩
  have g_Lrow_key : GD K mg "_law_row_key" sD_Lrow_key ["row"] := ⟨_, _, fun_mk (st := sD_Lrow_key) l_Lrow_key c_Lrow_key k_Lrow_key, PySem.W.mg_of X G a_Lrow_key, (fun_mk (st := sD_Lrow_key) l_Lrow_key c_Lrow_key k_Lrow_key).binds (fun _ _ _ _ _ _ us hl => match us, hl with | [_], _ => rfl)⟩
  have g_Ldistinct : GD K mg "_law_distinct" sD_Ldistinct ["rows"] := ⟨_, _, fun_mk (st := sD_Ldistinct) l_Ldistinct c_Ldistinct k_Ldistinct, PySem.W.mg_of X G a_Ldistinct, (fun_mk (st := sD_Ldistinct) l_Ldistinct c_Ldistinct k_Ldistinct).binds (fun _ _ _ _ _ _ us hl => match us, hl with | [_], _ => rfl)⟩
  have g_Lordered : GD K mg "_law_ordered" sD_Lordered ["rows"] := ⟨_, _, fun_mk (st := sD_Lordered) l_Lordered c_Lordered k_Lordered, PySem.W.mg_of X G a_Lordered, (fun_mk (st := sD_Lordered) l_Lordered c_Lordered k_Lordered).binds (fun _ _ _ _ _ _ us hl => match us, hl with | [_], _ => rfl)⟩
  have g_Lexpression : GD K mg "_law_expression" sD_Lexpression ["draw", "width", "depth"] := ⟨_, _, fun_mk (st := sD_Lexpression) l_Lexpression c_Lexpression k_Lexpression, PySem.W.mg_of X G a_Lexpression, (fun_mk (st := sD_Lexpression) l_Lexpression c_Lexpression k_Lexpression).binds (fun _ _ _ _ _ _ us hl => match us, hl with | [_, _, _], _ => rfl)⟩
  have g_Lform : GD K mg "_law_form" sD_Lform ["draw", "width"] := ⟨_, _, fun_mk (st := sD_Lform) l_Lform c_Lform k_Lform, PySem.W.mg_of X G a_Lform, (fun_mk (st := sD_Lform) l_Lform c_Lform k_Lform).binds (fun _ _ _ _ _ _ us hl => match us, hl with | [_, _], _ => rfl)⟩
  have g_Loperation : GD K mg "_law_operation" sD_Loperation ["draw", "sizes", "widths", "steps"] := ⟨_, _, fun_mk (st := sD_Loperation) l_Loperation c_Loperation k_Loperation, PySem.W.mg_of X G a_Loperation, (fun_mk (st := sD_Loperation) l_Loperation c_Loperation k_Loperation).binds (fun _ _ _ _ _ _ us hl => match us, hl with | [_, _, _, _], _ => rfl)⟩
  have g_Lroom : GD K mg "_law_room" sD_Lroom ["operation", "rooms"] := ⟨_, _, fun_mk (st := sD_Lroom) l_Lroom c_Lroom k_Lroom, PySem.W.mg_of X G a_Lroom, (fun_mk (st := sD_Lroom) l_Lroom c_Lroom k_Lroom).binds (fun _ _ _ _ _ _ us hl => match us, hl with | [_, _], _ => rfl)⟩
  have g_Lplan : GD K mg "_law_plan" sD_Lplan ["draw", "widths", "steps", "most"] := ⟨_, _, fun_mk (st := sD_Lplan) l_Lplan c_Lplan k_Lplan, PySem.W.mg_of X G a_Lplan, (fun_mk (st := sD_Lplan) l_Lplan c_Lplan k_Lplan).binds (fun _ _ _ _ _ _ us hl => match us, hl with | [_, _, _, _], _ => rfl)⟩
  have g_Lrows : GD K mg "_law_rows" sD_Lrows ["draw", "width", "most"] := ⟨_, _, fun_mk (st := sD_Lrows) l_Lrows c_Lrows k_Lrows, PySem.W.mg_of X G a_Lrows, (fun_mk (st := sD_Lrows) l_Lrows c_Lrows k_Lrows).binds (fun _ _ _ _ _ _ us hl => match us, hl with | [_, _, _], _ => rfl)⟩
  have g_value_key : GD K mg "value_key" sD_value_key ["value"] := ⟨_, _, fun_mk (st := sD_value_key) l_value_key c_value_key k_value_key, PySem.W.mg_of X G a_value_key, (fun_mk (st := sD_value_key) l_value_key c_value_key k_value_key).binds (fun _ _ _ _ _ _ us hl => match us, hl with | [_], _ => rfl)⟩
  have g_bounded : GD K mg "bounded" sD_bounded ["number"] := ⟨_, _, fun_mk (st := sD_bounded) l_bounded c_bounded k_bounded, PySem.W.mg_of X G a_bounded, (fun_mk (st := sD_bounded) l_bounded c_bounded k_bounded).binds (fun _ _ _ _ _ _ us hl => match us, hl with | [_], _ => rfl)⟩
  have g_truth : GD K mg "truth" sD_truth ["value"] := ⟨_, _, fun_mk (st := sD_truth) l_truth c_truth k_truth, PySem.W.mg_of X G a_truth, (fun_mk (st := sD_truth) l_truth c_truth k_truth).binds (fun _ _ _ _ _ _ us hl => match us, hl with | [_], _ => rfl)⟩
  have g_is_true : GD K mg "is_true" sD_is_true ["value"] := ⟨_, _, fun_mk (st := sD_is_true) l_is_true c_is_true k_is_true, PySem.W.mg_of X G a_is_true, (fun_mk (st := sD_is_true) l_is_true c_is_true k_is_true).binds (fun _ _ _ _ _ _ us hl => match us, hl with | [_], _ => rfl)⟩
  have g_from_truth : GD K mg "from_truth" sD_from_truth ["known"] := ⟨_, _, fun_mk (st := sD_from_truth) l_from_truth c_from_truth k_from_truth, PySem.W.mg_of X G a_from_truth, (fun_mk (st := sD_from_truth) l_from_truth c_from_truth k_from_truth).binds (fun _ _ _ _ _ _ us hl => match us, hl with | [_], _ => rfl)⟩
  have g_both_true : GD K mg "both_true" sD_both_true ["first", "second"] := ⟨_, _, fun_mk (st := sD_both_true) l_both_true c_both_true k_both_true, PySem.W.mg_of X G a_both_true, (fun_mk (st := sD_both_true) l_both_true c_both_true k_both_true).binds (fun _ _ _ _ _ _ us hl => match us, hl with | [_, _], _ => rfl)⟩
  have g_either_true : GD K mg "either_true" sD_either_true ["first", "second"] := ⟨_, _, fun_mk (st := sD_either_true) l_either_true c_either_true k_either_true, PySem.W.mg_of X G a_either_true, (fun_mk (st := sD_either_true) l_either_true c_either_true k_either_true).binds (fun _ _ _ _ _ _ us hl => match us, hl with | [_, _], _ => rfl)⟩
  have g_negate : GD K mg "negate" sD_negate ["value"] := ⟨_, _, fun_mk (st := sD_negate) l_negate c_negate k_negate, PySem.W.mg_of X G a_negate, (fun_mk (st := sD_negate) l_negate c_negate k_negate).binds (fun _ _ _ _ _ _ us hl => match us, hl with | [_], _ => rfl)⟩
  have g_is_false : GD K mg "is_false" sD_is_false ["value"] := ⟨_, _, fun_mk (st := sD_is_false) l_is_false c_is_false k_is_false, PySem.W.mg_of X G a_is_false, (fun_mk (st := sD_is_false) l_is_false c_is_false k_is_false).binds (fun _ _ _ _ _ _ us hl => match us, hl with | [_], _ => rfl)⟩
  have g_is_missing : GD K mg "is_missing" sD_is_missing ["value"] := ⟨_, _, fun_mk (st := sD_is_missing) l_is_missing c_is_missing k_is_missing, PySem.W.mg_of X G a_is_missing, (fun_mk (st := sD_is_missing) l_is_missing c_is_missing k_is_missing).binds (fun _ _ _ _ _ _ us hl => match us, hl with | [_], _ => rfl)⟩
  have g_length : GD K mg "length" sD_length ["value"] := ⟨_, _, fun_mk (st := sD_length) l_length c_length k_length, PySem.W.mg_of X G a_length, (fun_mk (st := sD_length) l_length c_length k_length).binds (fun _ _ _ _ _ _ us hl => match us, hl with | [_], _ => rfl)⟩
  have g_add : GD K mg "add" sD_add ["first", "second"] := ⟨_, _, fun_mk (st := sD_add) l_add c_add k_add, PySem.W.mg_of X G a_add, (fun_mk (st := sD_add) l_add c_add k_add).binds (fun _ _ _ _ _ _ us hl => match us, hl with | [_, _], _ => rfl)⟩
  have g_subtract : GD K mg "subtract" sD_subtract ["first", "second"] := ⟨_, _, fun_mk (st := sD_subtract) l_subtract c_subtract k_subtract, PySem.W.mg_of X G a_subtract, (fun_mk (st := sD_subtract) l_subtract c_subtract k_subtract).binds (fun _ _ _ _ _ _ us hl => match us, hl with | [_, _], _ => rfl)⟩
  have g_multiply : GD K mg "multiply" sD_multiply ["first", "second"] := ⟨_, _, fun_mk (st := sD_multiply) l_multiply c_multiply k_multiply, PySem.W.mg_of X G a_multiply, (fun_mk (st := sD_multiply) l_multiply c_multiply k_multiply).binds (fun _ _ _ _ _ _ us hl => match us, hl with | [_, _], _ => rfl)⟩
  have g_divide : GD K mg "divide" sD_divide ["first", "second"] := ⟨_, _, fun_mk (st := sD_divide) l_divide c_divide k_divide, PySem.W.mg_of X G a_divide, (fun_mk (st := sD_divide) l_divide c_divide k_divide).binds (fun _ _ _ _ _ _ us hl => match us, hl with | [_, _], _ => rfl)⟩
  have g_remainder : GD K mg "remainder" sD_remainder ["first", "second"] := ⟨_, _, fun_mk (st := sD_remainder) l_remainder c_remainder k_remainder, PySem.W.mg_of X G a_remainder, (fun_mk (st := sD_remainder) l_remainder c_remainder k_remainder).binds (fun _ _ _ _ _ _ us hl => match us, hl with | [_, _], _ => rfl)⟩
  have g_is_less : GD K mg "is_less" sD_is_less ["first", "second"] := ⟨_, _, fun_mk (st := sD_is_less) l_is_less c_is_less k_is_less, PySem.W.mg_of X G a_is_less, (fun_mk (st := sD_is_less) l_is_less c_is_less k_is_less).binds (fun _ _ _ _ _ _ us hl => match us, hl with | [_, _], _ => rfl)⟩
  have g_is_equal : GD K mg "is_equal" sD_is_equal ["first", "second"] := ⟨_, _, fun_mk (st := sD_is_equal) l_is_equal c_is_equal k_is_equal, PySem.W.mg_of X G a_is_equal, (fun_mk (st := sD_is_equal) l_is_equal c_is_equal k_is_equal).binds (fun _ _ _ _ _ _ us hl => match us, hl with | [_, _], _ => rfl)⟩
  have g_conjunction : GD K mg "conjunction" sD_conjunction ["first", "second"] := ⟨_, _, fun_mk (st := sD_conjunction) l_conjunction c_conjunction k_conjunction, PySem.W.mg_of X G a_conjunction, (fun_mk (st := sD_conjunction) l_conjunction c_conjunction k_conjunction).binds (fun _ _ _ _ _ _ us hl => match us, hl with | [_, _], _ => rfl)⟩
  have g_disjunction : GD K mg "disjunction" sD_disjunction ["first", "second"] := ⟨_, _, fun_mk (st := sD_disjunction) l_disjunction c_disjunction k_disjunction, PySem.W.mg_of X G a_disjunction, (fun_mk (st := sD_disjunction) l_disjunction c_disjunction k_disjunction).binds (fun _ _ _ _ _ _ us hl => match us, hl with | [_, _], _ => rfl)⟩
  have g_starts : GD K mg "starts" sD_starts ["first", "second"] := ⟨_, _, fun_mk (st := sD_starts) l_starts c_starts k_starts, PySem.W.mg_of X G a_starts, (fun_mk (st := sD_starts) l_starts c_starts k_starts).binds (fun _ _ _ _ _ _ us hl => match us, hl with | [_, _], _ => rfl)⟩
  have g_apply_two : GD K mg "apply_two" sD_apply_two ["form", "first", "second"] := ⟨_, _, fun_mk (st := sD_apply_two) l_apply_two c_apply_two k_apply_two, PySem.W.mg_of X G a_apply_two, (fun_mk (st := sD_apply_two) l_apply_two c_apply_two k_apply_two).binds (fun _ _ _ _ _ _ us hl => match us, hl with | [_, _, _], _ => rfl)⟩
  have g_evaluate : GD K mg "evaluate" sD_evaluate ["expression", "row"] := ⟨_, _, fun_mk (st := sD_evaluate) l_evaluate c_evaluate k_evaluate, PySem.W.mg_of X G a_evaluate, (fun_mk (st := sD_evaluate) l_evaluate c_evaluate k_evaluate).binds (fun _ _ _ _ _ _ us hl => match us, hl with | [_, _], _ => rfl)⟩
  have g_evaluate_all : GD K mg "evaluate_all" sD_evaluate_all ["expressions", "row"] := ⟨_, _, fun_mk (st := sD_evaluate_all) l_evaluate_all c_evaluate_all k_evaluate_all, PySem.W.mg_of X G a_evaluate_all, (fun_mk (st := sD_evaluate_all) l_evaluate_all c_evaluate_all k_evaluate_all).binds (fun _ _ _ _ _ _ us hl => match us, hl with | [_, _], _ => rfl)⟩
  have g_row_key : GD K mg "row_key" sD_row_key ["row"] := ⟨_, _, fun_mk (st := sD_row_key) l_row_key c_row_key k_row_key, PySem.W.mg_of X G a_row_key, (fun_mk (st := sD_row_key) l_row_key c_row_key k_row_key).binds (fun _ _ _ _ _ _ us hl => match us, hl with | [_], _ => rfl)⟩
  have g_in_order : GD K mg "in_order" sD_in_order ["rows"] := ⟨_, _, fun_mk (st := sD_in_order) l_in_order c_in_order k_in_order, PySem.W.mg_of X G a_in_order, (fun_mk (st := sD_in_order) l_in_order c_in_order k_in_order).binds (fun _ _ _ _ _ _ us hl => match us, hl with | [_], _ => rfl)⟩
  have g_matches : GD K mg "matches" sD_matches ["condition", "row", "others"] := ⟨_, _, fun_mk (st := sD_matches) l_matches c_matches k_matches, PySem.W.mg_of X G a_matches, (fun_mk (st := sD_matches) l_matches c_matches k_matches).binds (fun _ _ _ _ _ _ us hl => match us, hl with | [_, _, _], _ => rfl)⟩
  have g_joined_rows : GD K mg "joined_rows" sD_joined_rows ["condition", "rows", "others"] := ⟨_, _, fun_mk (st := sD_joined_rows) l_joined_rows c_joined_rows k_joined_rows, PySem.W.mg_of X G a_joined_rows, (fun_mk (st := sD_joined_rows) l_joined_rows c_joined_rows k_joined_rows).binds (fun _ _ _ _ _ _ us hl => match us, hl with | [_, _, _], _ => rfl)⟩
  have g_limited : GD K mg "limited" sD_limited ["rows", "most"] := ⟨_, _, fun_mk (st := sD_limited) l_limited c_limited k_limited, PySem.W.mg_of X G a_limited, (fun_mk (st := sD_limited) l_limited c_limited k_limited).binds (fun _ _ _ _ _ _ us hl => match us, hl with | [_, _], _ => rfl)⟩
  have g_copied : GD K mg "copied" sD_copied ["rows"] := ⟨_, _, fun_mk (st := sD_copied) l_copied c_copied k_copied, PySem.W.mg_of X G a_copied, (fun_mk (st := sD_copied) l_copied c_copied k_copied).binds (fun _ _ _ _ _ _ us hl => match us, hl with | [_], _ => rfl)⟩
  have g_operands : GD K mg "operands" sD_operands ["operation"] := ⟨_, _, fun_mk (st := sD_operands) l_operands c_operands k_operands, PySem.W.mg_of X G a_operands, (fun_mk (st := sD_operands) l_operands c_operands k_operands).binds (fun _ _ _ _ _ _ us hl => match us, hl with | [_], _ => rfl)⟩
  have g_known_rows : GD K mg "known_rows" sD_known_rows ["operation", "parts", "most"] := ⟨_, _, fun_mk (st := sD_known_rows) l_known_rows c_known_rows k_known_rows, PySem.W.mg_of X G a_known_rows, (fun_mk (st := sD_known_rows) l_known_rows c_known_rows k_known_rows).binds (fun _ _ _ _ _ _ us hl => match us, hl with | [_, _, _], _ => rfl)⟩
  have g_operation_possible : GD K mg "operation_possible" sD_operation_possible ["operation", "done", "tables", "steps", "most"] := ⟨_, _, fun_mk (st := sD_operation_possible) l_operation_possible c_operation_possible k_operation_possible, PySem.W.mg_of X G a_operation_possible, (fun_mk (st := sD_operation_possible) l_operation_possible c_operation_possible k_operation_possible).binds (fun _ _ _ _ _ _ us hl => match us, hl with | [_, _, _, _, _], _ => rfl)⟩
  have g_possible_rows : GK K mg "possible_rows" sD_possible_rows [("most", .int 500)] f_possible_rows _ := ⟨⟨⟨_, _, _, _, _, _, _, _, _, _, rfl, l_possible_rows, c_possible_rows, .inl ⟨rfl, rfl⟩, .inr ⟨_, rfl, by simp only [List.mem_cons, List.not_mem_nil, or_false, forall_eq]; exact ⟨_, d_possible_rows_most, r_possible_rows_most⟩⟩⟩, k_possible_rows⟩, PySem.W.mg_of X G a_possible_rows⟩
  have n_isinstance := PySem.W.mg_none_of X G n_isinstance
  have n_list := PySem.W.mg_none_of X G n_list
  have n_tuple := PySem.W.mg_none_of X G n_tuple
  have n_str := PySem.W.mg_none_of X G n_str
  have n_int := PySem.W.mg_none_of X G n_int
  have n_len := PySem.W.mg_none_of X G n_len
  have n_any := PySem.W.mg_none_of X G n_any
  have n_range := PySem.W.mg_none_of X G n_range
  have n_abs := PySem.W.mg_none_of X G n_abs
  have n_min := PySem.W.mg_none_of X G n_min
  have n_sorted := PySem.W.mg_none_of X G n_sorted
  have n_repr := PySem.W.mg_none_of X G n_repr
  have z_GREATEST := PySem.W.mg_of X G z_GREATEST
  refine ⟨_, fun_mk (st := sD_law) l_law c_law k_law, fun s v => .of_eq rfl, fun base _ _ => ?_⟩
  have TD : TDraw mg := ⟨n_int, n_len, n_abs, n_list⟩
  have o_draw := ok_draw (P := P) (w := w) (base := base) g_Ldraw TD
  have o_next := ok_next (P := P) (w := w) (base := base) g_Lnext TD

  have TG : TPgen mg := ⟨n_len, n_range, n_min, n_int⟩
  have o_cell := ok_cell g_Lcell o_next
  have o_expr := ok_expr g_Lexpression o_next o_cell 5
  have o_form := ok_form g_Lform o_next o_expr
  have o_oper := ok_operation g_Loperation TG o_next o_expr o_form
  have o_room := ok_room (P := P) (w := w) (base := base) g_Lroom TG
  have o_plan := ok_plan g_Lplan TG o_next o_oper o_room

  have TV : TVal0 mg := ⟨⟨_, z_GREATEST, y_GREATEST⟩, n_isinstance, n_int, n_str, n_len, n_tuple⟩
  have o_vkey := ok_value_key (P := P) (w := w) (base := base) g_value_key TV
  have o_bounded := ok_bounded (P := P) (w := w) (base := base) g_bounded TV
  have o_truth := ok_vtruth (P := P) (w := w) (base := base) g_truth TV
  have o_istrue := ok_is_true (P := P) (w := w) (base := base) g_is_true TV
  have o_from := ok_from_truth (P := P) (w := w) (mg := mg) (base := base) g_from_truth
  have o_bothT := ok_both_true (P := P) (w := w) (mg := mg) (base := base) g_both_true
  have o_eithT := ok_either_true (P := P) (w := w) (mg := mg) (base := base) g_either_true
  have TVS : TVals P K w mg base aD_ONE aD_NUMBERS aD_TWO es_ONE es_NUMBERS es_TWO nD_ONE nD_NUMBERS nD_TWO (fun u => match u with | .negate => f_negate | .not => f_is_false | .missing => f_is_missing | .length => f_length) (fun b => match b with | .add => f_add | .subtract => f_subtract | .multiply => f_multiply | .divide => f_divide | .remainder => f_remainder | .less => f_is_less | .equal => f_is_equal | .and => f_conjunction | .or => f_disjunction | .starts => f_starts) :=
    { TV with
      g_ONE := ⟨_, PySem.W.mg_of X G g_ONE, rfl⟩
      g_NUMBERS := ⟨_, PySem.W.mg_of X G g_NUMBERS, rfl⟩
      g_TWO := ⟨_, PySem.W.mg_of X G g_TWO, rfl⟩
      d_ONE := ⟨lD_ONE, kL_ONE, low_ONE⟩
      d_NUMBERS := ⟨lD_NUMBERS, kL_NUMBERS, low_NUMBERS⟩
      d_TWO := ⟨lD_TWO, kL_TWO, low_TWO⟩
      in1 := fun u => match u with | .negate => v_ONE_negate | .not => v_ONE_is_false | .missing => v_ONE_is_missing | .length => v_ONE_length
      no1 := fun b => match b with | .add => o_ONE_add | .subtract => o_ONE_subtract | .multiply => o_ONE_multiply | .divide => o_ONE_divide | .remainder => o_ONE_remainder | .less => o_ONE_less | .equal => o_ONE_equal | .and => o_ONE_and | .or => o_ONE_or | .starts => o_ONE_starts
      inN := fun b => match b with | .add => fun _ => v_NUMBERS_add | .subtract => fun _ => v_NUMBERS_subtract | .multiply => fun _ => v_NUMBERS_multiply | .divide => fun _ => v_NUMBERS_divide | .remainder => fun _ => v_NUMBERS_remainder | .less => fun q => by cases q | .equal => fun q => by cases q | .and => fun q => by cases q | .or => fun q => by cases q | .starts => fun q => by cases q
      noN := fun b => match b with | .add => fun q => by cases q | .subtract => fun q => by cases q | .multiply => fun q => by cases q | .divide => fun q => by cases q | .remainder => fun q => by cases q | .less => fun _ => o_NUMBERS_less | .equal => fun _ => o_NUMBERS_equal | .and => fun _ => o_NUMBERS_and | .or => fun _ => o_NUMBERS_or | .starts => fun _ => o_NUMBERS_starts
      in2 := fun b => match b with | .add => fun q => by cases q | .subtract => fun q => by cases q | .multiply => fun q => by cases q | .divide => fun q => by cases q | .remainder => fun q => by cases q | .less => fun _ => v_TWO_is_less | .equal => fun _ => v_TWO_is_equal | .and => fun _ => v_TWO_conjunction | .or => fun _ => v_TWO_disjunction | .starts => fun _ => v_TWO_starts
      held1 := fun u => match u with | .negate => ((ok_negate (P := P) (w := w) (mg := mg) (base := base) g_negate TV o_bounded).held (PySem.W.mg_of X G a_negate)) | .not => ((ok_is_false (P := P) (w := w) (mg := mg) (base := base) g_is_false o_truth o_from).held (PySem.W.mg_of X G a_is_false)) | .missing => ((ok_is_missing (P := P) (w := w) (mg := mg) (base := base) g_is_missing ).held (PySem.W.mg_of X G a_is_missing)) | .length => ((ok_vlength (P := P) (w := w) (mg := mg) (base := base) g_length TV).held (PySem.W.mg_of X G a_length))
      held2 := fun b => match b with | .add => ((ok_add (P := P) (w := w) (mg := mg) (base := base) g_add TV o_bounded).held (PySem.W.mg_of X G a_add)) | .subtract => ((ok_subtract (P := P) (w := w) (mg := mg) (base := base) g_subtract TV o_bounded).held (PySem.W.mg_of X G a_subtract)) | .multiply => ((ok_multiply (P := P) (w := w) (mg := mg) (base := base) g_multiply TV o_bounded).held (PySem.W.mg_of X G a_multiply)) | .divide => ((ok_divide (P := P) (w := w) (mg := mg) (base := base) g_divide TV o_bounded).held (PySem.W.mg_of X G a_divide)) | .remainder => ((ok_remainder (P := P) (w := w) (mg := mg) (base := base) g_remainder TV o_bounded).held (PySem.W.mg_of X G a_remainder)) | .less => ((ok_is_less (P := P) (w := w) (mg := mg) (base := base) g_is_less o_vkey).held (PySem.W.mg_of X G a_is_less)) | .equal => ((ok_is_equal (P := P) (w := w) (mg := mg) (base := base) g_is_equal o_vkey).held (PySem.W.mg_of X G a_is_equal)) | .and => ((ok_vconj (P := P) (w := w) (mg := mg) (base := base) g_conjunction o_truth o_from o_bothT).held (PySem.W.mg_of X G a_conjunction)) | .or => ((ok_vdisj (P := P) (w := w) (mg := mg) (base := base) g_disjunction o_truth o_from o_eithT).held (PySem.W.mg_of X G a_disjunction)) | .starts => ((ok_starts (P := P) (w := w) (mg := mg) (base := base) g_starts TV).held (PySem.W.mg_of X G a_starts)) }
  have o_two := ok_apply_two g_apply_two TVS
  have o_eval := ok_eval g_evaluate TVS o_istrue o_two 44
  have TR : TRows mg := ⟨n_list, n_tuple, n_sorted⟩
  have o_evalall := ok_evaluate_all g_evaluate_all TR o_eval
  have o_rowkey := ok_row_key g_row_key TR o_vkey
  have o_inorder := ok_in_order g_in_order TR o_rowkey

  have o_matches := ok_matches g_matches o_istrue o_eval
  have o_joined := ok_joined g_joined_rows o_matches o_inorder
  have TP : TPoss mg := ⟨n_len, n_list, n_any⟩
  have o_limited := ok_limited (P := P) (w := w) (base := base) g_limited TP
  have o_copied := ok_copied (P := P) (w := w) (base := base) g_copied TP
  have o_operands := ok_operands (P := P) (w := w) (mg := mg) (base := base) g_operands
  have o_known := ok_known g_known_rows o_istrue o_eval o_evalall o_inorder o_limited o_joined o_copied
  have o_opposs := ok_op_possible g_operation_possible TP o_inorder o_copied o_operands o_known
  have TL : TL97 mg := ⟨n_range, n_tuple, n_sorted⟩
  have o_Lrowkey := ok_Lrow_key (P := P) (w := w) (base := base) g_Lrow_key TL (ok_Lkey g_Lkey TV)
  exact ok_law ⟨n_repr, n_len, n_range⟩ o_draw o_next (ok_Lordered g_Lordered TL (ok_Ldistinct g_Ldistinct) o_Lrowkey) (ok_Lrows g_Lrows TL o_next o_cell) o_plan (kb_possible g_possible_rows (fn_possible g_possible_rows o_opposs))

end Lw

open PySem PySem.W PyProof.Rows in
set_option maxRecDepth 100000 in
set_option maxHeartbeats 0 in
theorem PySem.Challenge.cw_lineworks_k97_possible_rows_are_new_list_holds : PySem.Challenge.rw_lineworks_k97_possible_rows_are_new_list.Holds := by
  w_on; o_law; k_head; (case hw => w_witness2)
  k_fill
  refine Lw.walk_at (l := PySem.Challenge.rw_lineworks_k97_possible_rows_are_new_list) (n := 63) rfl (by decide) rfl Lw.sc_law (fun w h Y => PySem.W.kIn_of Y) ?F
  case F =>
    intro w mg fa h KX G hmg
    refine' Lw.all_mk KX G hmg ?a_Ldraw ?l_Ldraw ?c_Ldraw ?k_Ldraw ?a_Lnext ?l_Lnext ?c_Lnext ?k_Lnext ?a_Lcell ?l_Lcell ?c_Lcell ?k_Lcell ?a_Lkey ?l_Lkey ?c_Lkey ?k_Lkey ?a_Lrow_key ?l_Lrow_key ?c_Lrow_key ?k_Lrow_key ?a_Ldistinct ?l_Ldistinct ?c_Ldistinct ?k_Ldistinct ?a_Lordered ?l_Lordered ?c_Lordered ?k_Lordered ?a_Lexpression ?l_Lexpression ?c_Lexpression ?k_Lexpression ?a_Lform ?l_Lform ?c_Lform ?k_Lform ?a_Loperation ?l_Loperation ?c_Loperation ?k_Loperation ?a_Lroom ?l_Lroom ?c_Lroom ?k_Lroom ?a_Lplan ?l_Lplan ?c_Lplan ?k_Lplan ?a_Lrows ?l_Lrows ?c_Lrows ?k_Lrows ?a_value_key ?l_value_key ?c_value_key ?k_value_key ?a_bounded ?l_bounded ?c_bounded ?k_bounded ?a_truth ?l_truth ?c_truth ?k_truth ?a_is_true ?l_is_true ?c_is_true ?k_is_true ?a_from_truth ?l_from_truth ?c_from_truth ?k_from_truth ?a_both_true ?l_both_true ?c_both_true ?k_both_true ?a_either_true ?l_either_true ?c_either_true ?k_either_true ?a_negate ?l_negate ?c_negate ?k_negate ?a_is_false ?l_is_false ?c_is_false ?k_is_false ?a_is_missing ?l_is_missing ?c_is_missing ?k_is_missing ?a_length ?l_length ?c_length ?k_length ?a_add ?l_add ?c_add ?k_add ?a_subtract ?l_subtract ?c_subtract ?k_subtract ?a_multiply ?l_multiply ?c_multiply ?k_multiply ?a_divide ?l_divide ?c_divide ?k_divide ?a_remainder ?l_remainder ?c_remainder ?k_remainder ?a_is_less ?l_is_less ?c_is_less ?k_is_less ?a_is_equal ?l_is_equal ?c_is_equal ?k_is_equal ?a_conjunction ?l_conjunction ?c_conjunction ?k_conjunction ?a_disjunction ?l_disjunction ?c_disjunction ?k_disjunction ?a_starts ?l_starts ?c_starts ?k_starts ?a_apply_two ?l_apply_two ?c_apply_two ?k_apply_two ?a_evaluate ?l_evaluate ?c_evaluate ?k_evaluate ?a_evaluate_all ?l_evaluate_all ?c_evaluate_all ?k_evaluate_all ?a_row_key ?l_row_key ?c_row_key ?k_row_key ?a_in_order ?l_in_order ?c_in_order ?k_in_order ?a_matches ?l_matches ?c_matches ?k_matches ?a_joined_rows ?l_joined_rows ?c_joined_rows ?k_joined_rows ?a_limited ?l_limited ?c_limited ?k_limited ?a_copied ?l_copied ?c_copied ?k_copied ?a_operands ?l_operands ?c_operands ?k_operands ?a_known_rows ?l_known_rows ?c_known_rows ?k_known_rows ?a_operation_possible ?l_operation_possible ?c_operation_possible ?k_operation_possible ?a_law ?l_law ?c_law ?k_law ?a_possible_rows ?l_possible_rows ?c_possible_rows ?k_possible_rows ?d_possible_rows_most ?r_possible_rows_most ?g_ONE ?lD_ONE ?kL_ONE ?low_ONE ?v_ONE_negate ?v_ONE_is_false ?v_ONE_is_missing ?v_ONE_length ?o_ONE_add ?o_ONE_subtract ?o_ONE_multiply ?o_ONE_divide ?o_ONE_remainder ?o_ONE_less ?o_ONE_equal ?o_ONE_and ?o_ONE_or ?o_ONE_starts ?g_NUMBERS ?lD_NUMBERS ?kL_NUMBERS ?low_NUMBERS ?v_NUMBERS_add ?v_NUMBERS_subtract ?v_NUMBERS_multiply ?v_NUMBERS_divide ?v_NUMBERS_remainder ?o_NUMBERS_less ?o_NUMBERS_equal ?o_NUMBERS_and ?o_NUMBERS_or ?o_NUMBERS_starts ?g_TWO ?lD_TWO ?kL_TWO ?low_TWO ?v_TWO_is_less ?v_TWO_is_equal ?v_TWO_conjunction ?v_TWO_disjunction ?v_TWO_starts ?z_GREATEST ?y_GREATEST ?n_isinstance ?n_list ?n_tuple ?n_str ?n_int ?n_len ?n_any ?n_range ?n_abs ?n_min ?n_sorted ?n_repr
    (case a_Ldraw => k_is)
    (case l_Ldraw => k_is)
    (case c_Ldraw => k_is)
    (case k_Ldraw => k_is)
    (case a_Lnext => k_is)
    (case l_Lnext => k_is)
    (case c_Lnext => k_is)
    (case k_Lnext => k_is)
    (case a_Lcell => k_is)
    (case l_Lcell => k_is)
    (case c_Lcell => k_is)
    (case k_Lcell => k_is)
    (case a_Lkey => k_is)
    (case l_Lkey => k_is)
    (case c_Lkey => k_is)
    (case k_Lkey => k_is)
    (case a_Lrow_key => k_is)
    (case l_Lrow_key => k_is)
    (case c_Lrow_key => k_is)
    (case k_Lrow_key => k_is)
    (case a_Ldistinct => k_is)
    (case l_Ldistinct => k_is)
    (case c_Ldistinct => k_is)
    (case k_Ldistinct => k_is)
    (case a_Lordered => k_is)
    (case l_Lordered => k_is)
    (case c_Lordered => k_is)
    (case k_Lordered => k_is)
    (case a_Lexpression => k_is)
    (case l_Lexpression => k_is)
    (case c_Lexpression => k_is)
    (case k_Lexpression => k_is)
    (case a_Lform => k_is)
    (case l_Lform => k_is)
    (case c_Lform => k_is)
    (case k_Lform => k_is)
    (case a_Loperation => k_is)
    (case l_Loperation => k_is)
    (case c_Loperation => k_is)
    (case k_Loperation => k_is)
    (case a_Lroom => k_is)
    (case l_Lroom => k_is)
    (case c_Lroom => k_is)
    (case k_Lroom => k_is)
    (case a_Lplan => k_is)
    (case l_Lplan => k_is)
    (case c_Lplan => k_is)
    (case k_Lplan => k_is)
    (case a_Lrows => k_is)
    (case l_Lrows => k_is)
    (case c_Lrows => k_is)
    (case k_Lrows => k_is)
    (case a_value_key => k_is)
    (case l_value_key => k_is)
    (case c_value_key => k_is)
    (case k_value_key => k_is)
    (case a_bounded => k_is)
    (case l_bounded => k_is)
    (case c_bounded => k_is)
    (case k_bounded => k_is)
    (case a_truth => k_is)
    (case l_truth => k_is)
    (case c_truth => k_is)
    (case k_truth => k_is)
    (case a_is_true => k_is)
    (case l_is_true => k_is)
    (case c_is_true => k_is)
    (case k_is_true => k_is)
    (case a_from_truth => k_is)
    (case l_from_truth => k_is)
    (case c_from_truth => k_is)
    (case k_from_truth => k_is)
    (case a_both_true => k_is)
    (case l_both_true => k_is)
    (case c_both_true => k_is)
    (case k_both_true => k_is)
    (case a_either_true => k_is)
    (case l_either_true => k_is)
    (case c_either_true => k_is)
    (case k_either_true => k_is)
    (case a_negate => k_is)
    (case l_negate => k_is)
    (case c_negate => k_is)
    (case k_negate => k_is)
    (case a_is_false => k_is)
    (case l_is_false => k_is)
    (case c_is_false => k_is)
    (case k_is_false => k_is)
    (case a_is_missing => k_is)
    (case l_is_missing => k_is)
    (case c_is_missing => k_is)
    (case k_is_missing => k_is)
    (case a_length => k_is)
    (case l_length => k_is)
    (case c_length => k_is)
    (case k_length => k_is)
    (case a_add => k_is)
    (case l_add => k_is)
    (case c_add => k_is)
    (case k_add => k_is)
    (case a_subtract => k_is)
    (case l_subtract => k_is)
    (case c_subtract => k_is)
    (case k_subtract => k_is)
    (case a_multiply => k_is)
    (case l_multiply => k_is)
    (case c_multiply => k_is)
    (case k_multiply => k_is)
    (case a_divide => k_is)
    (case l_divide => k_is)
    (case c_divide => k_is)
    (case k_divide => k_is)
    (case a_remainder => k_is)
    (case l_remainder => k_is)
    (case c_remainder => k_is)
    (case k_remainder => k_is)
    (case a_is_less => k_is)
    (case l_is_less => k_is)
    (case c_is_less => k_is)
    (case k_is_less => k_is)
    (case a_is_equal => k_is)
    (case l_is_equal => k_is)
    (case c_is_equal => k_is)
    (case k_is_equal => k_is)
    (case a_conjunction => k_is)
    (case l_conjunction => k_is)
    (case c_conjunction => k_is)
    (case k_conjunction => k_is)
    (case a_disjunction => k_is)
    (case l_disjunction => k_is)
    (case c_disjunction => k_is)
    (case k_disjunction => k_is)
    (case a_starts => k_is)
    (case l_starts => k_is)
    (case c_starts => k_is)
    (case k_starts => k_is)
    (case a_apply_two => k_is)
    (case l_apply_two => k_is)
    (case c_apply_two => k_is)
    (case k_apply_two => k_is)
    (case a_evaluate => k_is)
    (case l_evaluate => k_is)
    (case c_evaluate => k_is)
    (case k_evaluate => k_is)
    (case a_evaluate_all => k_is)
    (case l_evaluate_all => k_is)
    (case c_evaluate_all => k_is)
    (case k_evaluate_all => k_is)
    (case a_row_key => k_is)
    (case l_row_key => k_is)
    (case c_row_key => k_is)
    (case k_row_key => k_is)
    (case a_in_order => k_is)
    (case l_in_order => k_is)
    (case c_in_order => k_is)
    (case k_in_order => k_is)
    (case a_matches => k_is)
    (case l_matches => k_is)
    (case c_matches => k_is)
    (case k_matches => k_is)
    (case a_joined_rows => k_is)
    (case l_joined_rows => k_is)
    (case c_joined_rows => k_is)
    (case k_joined_rows => k_is)
    (case a_limited => k_is)
    (case l_limited => k_is)
    (case c_limited => k_is)
    (case k_limited => k_is)
    (case a_copied => k_is)
    (case l_copied => k_is)
    (case c_copied => k_is)
    (case k_copied => k_is)
    (case a_operands => k_is)
    (case l_operands => k_is)
    (case c_operands => k_is)
    (case k_operands => k_is)
    (case a_known_rows => k_is)
    (case l_known_rows => k_is)
    (case c_known_rows => k_is)
    (case k_known_rows => k_is)
    (case a_operation_possible => k_is)
    (case l_operation_possible => k_is)
    (case c_operation_possible => k_is)
    (case k_operation_possible => k_is)
    (case a_law => k_is)
    (case l_law => k_is)
    (case c_law => k_is)
    (case k_law => k_is)
    (case a_possible_rows => k_is)
    (case l_possible_rows => k_is)
    (case c_possible_rows => k_is)
    (case k_possible_rows => k_is)
    (case d_possible_rows_most => k_is)
    (case r_possible_rows_most => exact ⟨_, rfl⟩)
    (case g_ONE => k_is)
    (case lD_ONE => k_is)
    (case kL_ONE => exact ⟨⟨_, _, rfl, rfl⟩, ⟨_, _, rfl, rfl⟩, ⟨_, _, rfl, rfl⟩, ⟨_, _, rfl, rfl⟩, trivial⟩)
    (case low_ONE => decide)
    (case v_ONE_negate => k_is)
    (case v_ONE_is_false => k_is)
    (case v_ONE_is_missing => k_is)
    (case v_ONE_length => k_is)
    (case o_ONE_add => k_is)
    (case o_ONE_subtract => k_is)
    (case o_ONE_multiply => k_is)
    (case o_ONE_divide => k_is)
    (case o_ONE_remainder => k_is)
    (case o_ONE_less => k_is)
    (case o_ONE_equal => k_is)
    (case o_ONE_and => k_is)
    (case o_ONE_or => k_is)
    (case o_ONE_starts => k_is)
    (case g_NUMBERS => k_is)
    (case lD_NUMBERS => k_is)
    (case kL_NUMBERS => exact ⟨⟨_, _, rfl, rfl⟩, ⟨_, _, rfl, rfl⟩, ⟨_, _, rfl, rfl⟩, ⟨_, _, rfl, rfl⟩, ⟨_, _, rfl, rfl⟩, trivial⟩)
    (case low_NUMBERS => decide)
    (case v_NUMBERS_add => k_is)
    (case v_NUMBERS_subtract => k_is)
    (case v_NUMBERS_multiply => k_is)
    (case v_NUMBERS_divide => k_is)
    (case v_NUMBERS_remainder => k_is)
    (case o_NUMBERS_less => k_is)
    (case o_NUMBERS_equal => k_is)
    (case o_NUMBERS_and => k_is)
    (case o_NUMBERS_or => k_is)
    (case o_NUMBERS_starts => k_is)
    (case g_TWO => k_is)
    (case lD_TWO => k_is)
    (case kL_TWO => exact ⟨⟨_, _, rfl, rfl⟩, ⟨_, _, rfl, rfl⟩, ⟨_, _, rfl, rfl⟩, ⟨_, _, rfl, rfl⟩, ⟨_, _, rfl, rfl⟩, trivial⟩)
    (case low_TWO => decide)
    (case v_TWO_is_less => k_is)
    (case v_TWO_is_equal => k_is)
    (case v_TWO_conjunction => k_is)
    (case v_TWO_disjunction => k_is)
    (case v_TWO_starts => k_is)
    (case z_GREATEST => k_is)
    (case y_GREATEST => exact ⟨_, rfl⟩)
    (case n_isinstance => k_is)
    (case n_list => k_is)
    (case n_tuple => k_is)
    (case n_str => k_is)
    (case n_int => k_is)
    (case n_len => k_is)
    (case n_any => k_is)
    (case n_range => k_is)
    (case n_abs => k_is)
    (case n_min => k_is)
    (case n_sorted => k_is)
    (case n_repr => k_is)
#print axioms PySem.Challenge.cw_lineworks_k97_possible_rows_are_new_list_holds

namespace Lw
end Lw
